-- Printed by this claim's repository's tools (px.py, pgo.py, pack.py), one text behind the other. Lean checks it.
import Derived.Test.YtlgolgfcolnddaaFKindsPFnSomeOthers
namespace Go.Proofs.Ytlgolgfcolnddaa.F
open Go.RowKit Go.Proofs.YtlgolgfcolnddaaW.PrintWords Go.Proofs.YtlgolgfcolnddaaW.PrintLast Go.Proofs.YtlgolgfcolnddaaW.PrintMore
attribute [local go_sem] qQe qQd qQi qQh qZk qZl qQc qQb
set_option linter.unusedVariables false
set_option linter.unusedSimpArgs false
/-- A state of type 95 at block g of W; what its slices lead to came in by w0. -/
def IsS95 (w0 W : World) (g : Nat) (f0 : List Int) (f1 : Int) : Prop := ∃ A0 c0, W.heap[g]? = some (.cells #[.slice A0 f0.length c0, .int .i64 f1] 95 (0, 0)) ∧ w0.heap.size ≤ g ∧ Kd.C (Kd.int .u8) w0 A0 f0.length f0
theorem IsS95.grown {w0 W : World} {g : Nat} {f0 : List Int} {f1 : Int} {W1 : World} {row : Option Nat} (h : IsS95 w0 W g f0 f1) (hw : W.grownBy W1 row) (hne : some g ≠ row) : IsS95 w0 W1 g f0 f1 := by
 obtain ⟨A0, c0, hb, hg, hr0⟩ := h
 exact ⟨A0, c0, qZg hb hw hne, hg, hr0⟩
theorem IsS95.kept {w0 W : World} {g : Nat} {f0 : List Int} {f1 : Int} {W1 : World} {S : Nat → Prop} (h : IsS95 w0 W g f0 f1) (hk : Kept W W1 S) (hne : ¬ S g) : IsS95 w0 W1 g f0 f1 := by
 obtain ⟨A0, c0, hb, hg, hr0⟩ := h
 exact ⟨A0, c0, qVf hb hk hne, hg, hr0⟩
theorem IsS95.below {w0 W : World} {g : Nat} {f0 : List Int} {f1 : Int} {W1 : World} (h : IsS95 w0 W g f0 f1) (hw : Below W.heap.size W W1) : IsS95 w0 W1 g f0 f1 := h.grown (grown_of_below hw none) (by simp)
theorem IsS95.alloc {w0 W : World} {g : Nat} {f0 : List Int} {f1 : Int} (h : IsS95 w0 W g f0 f1) (o : Obj) : IsS95 w0 (W.alloc o) g f0 f1 := h.below (qZn (Below.refl _ _) o)
theorem IsS95.drewN {w0 W : World} {g : Nat} {f0 : List Int} {f1 : Int} (h : IsS95 w0 W g f0 f1) (m : Nat) : IsS95 w0 (W.drewN m) g f0 f1 := h
theorem IsS95.drew {w0 W : World} {g : Nat} {f0 : List Int} {f1 : Int} (h : IsS95 w0 W g f0 f1) : IsS95 w0 W.drew g f0 f1 := h
theorem IsS95.at_ {w0 W : World} {g : Nat} {f0 : List Int} {f1 : Int} {w' : World} {m : Nat} (hq : W.drewN m = w') (h : IsS95 w0 W g f0 f1) : IsS95 w0 w' g f0 f1 := by subst hq; exact IsS95.drewN h m
theorem IsS95.apart {w0 W : World} {g : Nat} {f0 : List Int} {f1 : Int} {α : Type} {d : Kd α} {e : Nat} {base : Nat} {ok : Nat → Prop} {v : Value} {xs : List α} (h : IsS95 w0 W g f0 f1) (ho : d.R e W base ok v xs) (ht : ∀ q, q ∈ e :: d.E → q ≠ 95) : d.R e W base (fun k => ok k ∧ k ≠ g) v xs := by
 obtain ⟨A0, c0, hb, hg, hr0⟩ := h
 exact Kd.R_types ho hb ht
theorem IsS95.own_ne {w0 W : World} {g : Nat} {f0 : List Int} {f1 : Int} {α : Type} {d : Kd α} {e : Nat} {base : Nat} {ok : Nat → Prop} {v : Value} {xs : List α} (h : IsS95 w0 W g f0 f1) (ho : d.R e W base ok v xs) (ht : e ≠ 95) : some g ≠ v.ownBlock := by
 obtain ⟨A0, c0, hb, hg, hr0⟩ := h
 exact Kd.R_ne ho hb ht
theorem IsS95.lt {w0 W : World} {g : Nat} {f0 : List Int} {f1 : Int} (h : IsS95 w0 W g f0 f1) : g < W.heap.size := by
 obtain ⟨A0, c0, hb, hg, hr0⟩ := h
 exact qZh hb
theorem IsS95.ge {w0 W : World} {g : Nat} {f0 : List Int} {f1 : Int} (h : IsS95 w0 W g f0 f1) : w0.heap.size ≤ g := by
 obtain ⟨A0, c0, hb, hg, hr0⟩ := h
 exact hg
theorem IsS95.ne_blk {w0 W : World} {g : Nat} {f0 : List Int} {f1 : Int} {a : Nat} {cs : Array Value} {t : TypeId} {fr : Nat × Nat} (h : IsS95 w0 W g f0 f1) (hb2 : W.heap[a]? = some (.cells cs t fr)) (ht : t ≠ 95) : g ≠ a := by
 obtain ⟨A0, c0, hb, hg, hr0⟩ := h
 rintro rfl
 rw [hb] at hb2
 injection hb2 with hb2
 injection hb2 with _ ht2
 exact ht ht2.symm
theorem IsS95.far {w0 W : World} {g : Nat} {f0 : List Int} {f1 : Int} {p : Addr} (h : IsS95 w0 W g f0 f1) (hne : g ≠ p.block) (u : Value) : IsS95 w0 (W.setCell p u) g f0 f1 := by
 obtain ⟨A0, c0, hb, hg, hr0⟩ := h
 exact ⟨A0, c0, blk_far hb hne u, hg, hr0⟩
theorem qWf {W : World} {g : Nat} {A0 : Option Addr} {c0 : Nat} {f0 : List Int} {f1 : Int} (h : W.heap[g]? = some (.cells #[.slice A0 f0.length c0, .int .i64 f1] 95 (0, 0))) : W.cell? ⟨g, 0, none⟩ = some (.slice A0 f0.length c0) := (qZb h 0).trans rfl
theorem qWh {W : World} {g : Nat} {A0 : Option Addr} {c0 : Nat} {f0 : List Int} {f1 : Int} (h : W.heap[g]? = some (.cells #[.slice A0 f0.length c0, .int .i64 f1] 95 (0, 0))) : W.cell? ⟨g, 1, none⟩ = some (.int .i64 f1) := (qZb h 1).trans rfl
theorem IsS95.set_1 {w0 W : World} {g : Nat} {f0 : List Int} {f1 : Int} (h : IsS95 w0 W g f0 f1) (x : Int) : IsS95 w0 (W.setCell ⟨g, 1, none⟩ (.int .i64 x)) g f0 x := by
 obtain ⟨A0, c0, hb, hg, hr0⟩ := h
 exact ⟨A0, c0, by simpa using blk_set hb 1 (.int .i64 x), hg, hr0⟩
theorem IsS95.new (w0 W : World) (A0 : Option Addr) (c0 : Nat) (f0 : List Int) (f1 : Int) (hB : Below w0.heap.size w0 W) (hr0 : Kd.C (Kd.int .u8) w0 A0 f0.length f0) : IsS95 w0 (W.alloc (.cells #[.slice A0 f0.length c0, .int .i64 f1] 95)) W.heap.size f0 f1 := ⟨A0, c0, by simpa using heap_alloc_new W _, hB.size, hr0⟩
/-! ### spec_l30Open: function 44 -/
def spec_l30Open.f (l0 : List Int) : Option (List Int × Int) := if (l0.length : Int) > 2000 then (if 2000 ≤ (l0.length : Int) then (some (l0.take 2000, 0)) else (none)) else (some (l0, 0))
set_option maxHeartbeats 8000000 in
set_option maxRecDepth 100000 in
theorem spec_l30Open.calls (A0 : Option Addr) (c0 : Nat) (l0 : List Int) (r1 : List Int) (r2 : Int) (w0 w : World) (hB : Below w0.heap.size w0 w) (hr0 : Kd.C (Kd.int .u8) w0 A0 l0.length l0) (hc0 : l0.length ≤ c0) (h : spec_l30Open.f l0 = some (r1, r2)) :
  Calls Try.prog 44 #[.slice A0 l0.length c0] w fun e w' => ∃ g_ : Nat, e = .returned (.pointer (some ⟨g_, 0, none⟩)) ∧ IsS95 w0 w' g_ r1 r2 ∧ Below w0.heap.size w0 w' ∧ Below w.heap.size w w' := by
 have ao := Try.underlying95
 have HR0 := ak hr0
 have HC0 := ak hc0
 clear hr0 hc0
 have HBW := ak (Below.refl w.heap.size w)
 have HW0 := ak hB.size
 have HB := ak hB
 clear hB
 have H : (if (l0.length : Int) > 2000 then (if 2000 ≤ (l0.length : Int) then (some (l0.take 2000, 0)) else (none)) else (some (l0, 0))) = some (r1, r2) := h
 clear h
 by_cases c2 : (l0.length : Int) > 2000
 rotate_left
 ·rw [if_neg c2] at H
  have c2b0 : decide (2000 < (l0.length : Int)) = false := decide_eq_false c2
  have c2b1 : decide (2000 < l0.length) = false := decide_eq_false (by omega)
  clear c2
  simp only [Option.some.injEq, Prod.mk.injEq] at H
  obtain ⟨rfl, rfl⟩ := H
  go_enter Try.func44, Try.ntmps44
  go_wp2_with (((with_reducible refine gate_dst (N := 10) rfl ?_); refine qZj ?hg (N := 10) ?hd (cs := #[.slice A0 l0.length c0, .int .i64 0]) (t := 95) ?hr ?_; (case hd => rfl); (case hg => rfl); (case hr => (go_simp; done)); intro aa hg w6 hbox hb; replace HB := ak (qZd (bl HB) hb); have ae := ak (hbox); have aj := ak ((by rw [hg]; exact (qZc (by repeat ((with_reducible exact HBW.out)))) : w.heap.size ≤ aa)); have ac := ak ((Nat.le_trans HW0.out (by rw [hg]; exact (qZc (by repeat ((with_reducible exact HBW.out)))) : w.heap.size ≤ aa) : w0.heap.size ≤ aa)); replace HBW := ak (qZd HBW.out hb); clear hb hbox hg))
  go_ret
  exact ⟨_, rfl, (show IsS95 w0 _ aa l0 0 from ⟨_, _, bk ae, ac.out, HR0.out⟩), bl1 HB ac, by repeat ((with_reducible exact HBW.out))⟩
 rw [if_pos c2] at H
 have c2b0 : decide (2000 < (l0.length : Int)) = true := decide_eq_true c2
 have c2b1 : decide (2000 < l0.length) = true := decide_eq_true (by omega)
 clear c2
 by_cases c3 : 2000 ≤ (l0.length : Int)
 rotate_left
 ·rw [if_neg c3] at H
  exact absurd H (by simp)
 rw [if_pos c3] at H
 have c3b0 := eq_true c3
 have c3b1 : decide (2000 ≤ (l0.length : Int)) = true := decide_eq_true c3
 clear c3
 simp only [Option.some.injEq, Prod.mk.injEq] at H
 obtain ⟨rfl, rfl⟩ := H
 obtain ⟨i04, af, _, ag, _⟩ := info_parts info5
 obtain ⟨al, hA4, hC4⟩ := print_take_of (P := Try.prog) (Value.int .u8) 0 22 5 .i64 Try.underlying22 af ag A0 c0 l0 2000 (by omega) (oT (by (with_reducible assumption))) HC0.out
 have ah := ak (Kd.C_of_reads (h1 := fun _ => rfl) (hA4 _ (Kd.reads_of_C HR0.out)))
 have am := ak hC4
 clear hA4 hC4 af ag
 go_enter Try.func44, Try.ntmps44
 go_wp2_with (((with_reducible refine gate_dst (N := 10) rfl ?_); refine qZj ?hg (N := 10) ?hd (cs := #[.slice A0 (l0.take 2000).length c0, .int .i64 0]) (t := 95) ?hr ?_; (case hd => rfl); (case hg => rfl); (case hr => (go_simp; done)); intro ab hg w5 hbox hb; replace HB := ak (qZd (bl HB) hb); have ai := ak (hbox); have an := ak ((by rw [hg]; exact (qZc (by repeat ((with_reducible exact HBW.out)))) : w.heap.size ≤ ab)); have ad := ak ((Nat.le_trans HW0.out (by rw [hg]; exact (qZc (by repeat ((with_reducible exact HBW.out)))) : w.heap.size ≤ ab) : w0.heap.size ≤ ab)); replace HBW := ak (qZd HBW.out hb); clear hb hbox hg))
 go_ret
 exact ⟨_, rfl, (show IsS95 w0 _ ab (l0.take 2000) 0 from ⟨_, _, bk ai, ad.out, ah.out⟩), bl1 HB ad, by repeat ((with_reducible exact HBW.out))⟩
/-! ### spec_l30Rd_pick: function 87 -/
def spec_l30Rd_pick.j0 : Nat → Int → Bool → List Int → Int → Option (Int × Int)
 | 0, _, _, _, _ => none
 | k + 1, x1, x24, ac, ad => if x24 = true then (some (0, ad)) else (if (wrap64 (ad - 1)) < (ac.length : Int) then (if 0 ≤ (wrap64 (ad - 1)) then (if x1 = 0 then (none) else (some (Int.tmod (wrap64 (rd ac (wrap64 (ad - 1)))) x1, ad))) else (none)) else (if (ac.length : Int) = 0 then (none) else (if 0 ≤ (Int.tmod (wrap64 (ad - 1)) (ac.length : Int)) then (if (Int.tmod (wrap64 (ad - 1)) (ac.length : Int)) < (ac.length : Int) then (if 0 ≤ (Int.tmod (wrap64 ((wrap64 ((wrap64 (ad - 1)) * 7)) + 3)) (ac.length : Int)) then (if (Int.tmod (wrap64 ((wrap64 ((wrap64 (ad - 1)) * 7)) + 3)) (ac.length : Int)) < (ac.length : Int) then (if x1 = 0 then (none) else (some (Int.tmod (Go.bits .xor .i64 (wrap64 ((wrap64 ((wrap64 ((wrap64 ((wrap64 (rd ac (Int.tmod (wrap64 (ad - 1)) (ac.length : Int)))) * 131)) + (wrap64 ((wrap64 (rd ac (Int.tmod (wrap64 ((wrap64 ((wrap64 (ad - 1)) * 7)) + 3)) (ac.length : Int)))) * 1117)))) + (wrap64 ((wrap64 (ad - 1)) * 29)))) + (wrap64 ((wrap64 (Int.tdiv (wrap64 (ad - 1)) (ac.length : Int))) * 53)))) (wrap64 (Int.tdiv (wrap64 ((wrap64 ((wrap64 ((wrap64 ((wrap64 (rd ac (Int.tmod (wrap64 (ad - 1)) (ac.length : Int)))) * 131)) + (wrap64 ((wrap64 (rd ac (Int.tmod (wrap64 ((wrap64 ((wrap64 (ad - 1)) * 7)) + 3)) (ac.length : Int)))) * 1117)))) + (wrap64 ((wrap64 (ad - 1)) * 29)))) + (wrap64 ((wrap64 (Int.tdiv (wrap64 (ad - 1)) (ac.length : Int))) * 53)))) 64))) x1, ad))) else (none)) else (none)) else (none)) else (none))))
def spec_l30Rd_pick.f (k : Nat) (aa : List Int) (ab : Int) (a1 : Int) : Option (Int × Int) := if a1 < 1 then (spec_l30Rd_pick.j0 k a1 true aa (wrap64 (ab + 1))) else (spec_l30Rd_pick.j0 k a1 ((aa.length : Int) == 0) aa (wrap64 (ab + 1)))
theorem spec_l30Rd_pick.mono_l : ∀ k, (∀ y0 y1 y2 y3, LeO (spec_l30Rd_pick.j0 k y0 y1 y2 y3) (spec_l30Rd_pick.j0 (k + 1) y0 y1 y2 y3))
 | 0 => fun _ _ _ _ r h => by simp [spec_l30Rd_pick.j0] at h
 | k + 1 => by
  have ih0 := spec_l30Rd_pick.mono_l k
  ·intro y0 y1 y2 y3
   unfold spec_l30Rd_pick.j0
   repeat' (with_reducible exact LeO.refl _)
theorem spec_l30Rd_pick.mono : ∀ a0 a1 a2 k, LeO (spec_l30Rd_pick.f k a0 a1 a2) (spec_l30Rd_pick.f (k + 1) a0 a1 a2) := by
 intro a0 a1 a2 k
 have ih0 := spec_l30Rd_pick.mono_l k
 unfold spec_l30Rd_pick.f
 repeat' first | (with_reducible exact ih0 _ _ _ _) | (with_reducible refine LeO.ite ?_ ?_)
set_option maxHeartbeats 8000000 in
set_option maxRecDepth 100000 in
theorem spec_l30Rd_pick.calls (k : Nat) (g : Nat) (aa : List Int) (ab : Int) (a1 : Int) (r1 : Int) (r2 : Int) (w0 w : World) (hI : IsS95 w0 w g aa ab) (hB : Below w0.heap.size w0 w) (h : spec_l30Rd_pick.f k aa ab a1 = some (r1, r2)) :
  Calls Try.prog 87 #[.pointer (some ⟨g, 0, none⟩), .int .i64 a1] w fun e w' => e = .returned (.int .i64 r1) ∧ IsS95 w0 w' g aa r2 ∧ Below w0.heap.size w0 w' ∧ KeepBut w w' g none := by
 have HI0 := ak hI
 have HK := ak (KeepBut.refl w g none)
 have HL := ak hB.size
 clear hI
 have HW0 := ak hB.size
 have HB := ak hB
 clear hB
 have H : (if a1 < 1 then (spec_l30Rd_pick.j0 k a1 true aa (wrap64 (ab + 1))) else (spec_l30Rd_pick.j0 k a1 ((aa.length : Int) == 0) aa (wrap64 (ab + 1)))) = some (r1, r2) := h
 clear h
 have HC3 := ak H
 clear H
 obtain ⟨aW, aX, ao, aY, aZ⟩ := HI0.out
 have ar := qWf ao
 have au := qWh ao
 have av := qQm ao 1
 clear ao aY
 go_enter Try.func87, Try.ntmps87
 go_upto_region 2 with (fail)
 repeat (go_quiet (fail); go_upto_region 2 with (fail))
 go_cut [24] (fun v24 wc => ∃ (kq : Nat) (ag : Bool), v24 = .bool ag ∧ Aside0 (spec_l30Rd_pick.j0 kq a1 ag aa (wrap64 (ab + 1)) = some (r1, r2)) ∧ Aside0 (kq ≤ k) ∧ Aside0 (IsS95 w0 wc g aa (wrap64 (ab + 1))) ∧ Aside0 (KeepBut w wc g none) ∧ Aside0 (Below w0.heap.size w0 wc))
 case first =>
  have H := HC3.out
  clear HC3
  by_cases c5 : a1 < 1
  ·rw [if_pos c5] at H
   have c5b0 : decide (a1 < 1) = true := decide_eq_true c5
   clear c5
   (skip)
   have H' := ak H
   clear H
   go_wp2
   repeat (go_quiet (fail); try go_wp2)
   go_meet
   case rel => exact ⟨_, (true), (by rfl), H', ⟨by omega⟩, ⟨by repeat ((with_reducible first | exact HI0.out | apply IsS95.set_1))⟩, ⟨by repeat ((with_reducible first | exact HK.out | apply KeepBut.set_))⟩, ⟨by repeat ((with_reducible first | exact HB.out | refine below_set ?_ (IsS95.ge HI0.out)))⟩⟩
  rw [if_neg c5] at H
  have c5b0 : decide (a1 < 1) = false := decide_eq_false c5
  clear c5
  (skip)
  have H' := ak H
  clear H
  obtain ⟨ba, bb, ap, bd, be⟩ := HI0.out
  have aw := qWf ap
  have ax := qWh ap
  have ay := qQm ap 1
  clear ap bd
  go_wp2
  repeat (go_quiet (fail); try go_wp2)
  go_meet
  case rel => exact ⟨_, (((aa.length : Int) == 0)), (by rfl), H', ⟨by omega⟩, ⟨by repeat ((with_reducible first | exact HI0.out | apply IsS95.set_1))⟩, ⟨by repeat ((with_reducible first | exact HK.out | apply KeepBut.set_))⟩, ⟨by repeat ((with_reducible first | exact HB.out | refine below_set ?_ (IsS95.ge HI0.out)))⟩⟩
 clear HC3
 try clear p2
 try clear c5
 try clear c5b0
 try clear p6
 try clear ar
 try clear au
 try clear aw
 try clear ax
 try clear av
 try clear ay
 obtain ⟨kq, ag, rfl, HA, HJ2, HI0, HK, HB⟩ := hcut
 cases kq with
 | zero => exact absurd HA.out (by simp [spec_l30Rd_pick.j0])
 | succ kj2 =>
  have H := HA.out
  clear HA
  simp only [spec_l30Rd_pick.j0] at H
  by_cases c7 : ag = true
  ·subst c7
   rw [if_pos rfl] at H
   simp only [Option.some.injEq, Prod.mk.injEq] at H
   obtain ⟨rfl, rfl⟩ := H
   go_wp2
   repeat (go_quiet (fail); try go_wp2)
   go_ret
   exact ⟨by rfl, by repeat ((with_reducible exact HI0.out)), by repeat ((with_reducible exact HB.out)), by repeat ((with_reducible exact HK.out))⟩
  replace c7 := Bool.eq_false_iff.mpr c7
  subst c7
  rw [if_neg (show ¬ (false = true) by decide)] at H
  by_cases c8 : (wrap64 ((wrap64 (ab + 1)) - 1)) < (aa.length : Int)
  ·rw [if_pos c8] at H
   have c8b0 : decide ((wrap64 ((wrap64 (ab + 1)) - 1)) < (aa.length : Int)) = true := decide_eq_true c8
   clear c8
   obtain ⟨ji9, az⟩ : ∃ j_ : Int, (wrap64 ((wrap64 (ab + 1)) - 1)) = j_ := ⟨_, rfl⟩
   replace H : (if 0 ≤ (ji9) then (if a1 = 0 then (none) else (some (Int.tmod (wrap64 (rd aa (ji9))) a1, (wrap64 (ab + 1))))) else (none)) = some (r1, r2) := by (rw [az] at H; exact H)
   (try rw [az] at c8b0)
   have hji9w : (IntKind.i64.wrap ((wrap64 (ab + 1)) - 1)) = ji9 := (qVp _).trans az
   by_cases c10 : 0 ≤ (ji9)
   rotate_left
   ·rw [if_neg c10] at H
    exact absurd H (by simp)
   rw [if_pos c10] at H
   have c10b0 : decide (0 ≤ (ji9)) = true := decide_eq_true c10
   clear c10
   by_cases c11 : a1 = 0
   ·rw [if_pos c11] at H
    exact absurd H (by simp)
   rw [if_neg c11] at H
   have c11b0 : (a1 == 0) = false := beq_eq_false_iff_ne.mpr c11
   have c11b1 : (a1 != 0) = true := bne_iff_ne.mpr c11
   simp only [Option.some.injEq, Prod.mk.injEq] at H
   obtain ⟨rfl, rfl⟩ := H
   obtain ⟨aM, aN, ah, aG, aq⟩ := HI0.out
   have aO := qWf ah
   have aP := qWh ah
   have aQ := qQm ah 1
   clear ah aG
   have aA : 0 ≤ ((ji9) : Int) := oT (by (with_reducible assumption))
   have aB : (ji9) < (aa.length : Int) := oT (by (with_reducible assumption))
   obtain ⟨bi, bf, ai⟩ := Kd.at_int aq (ji9) aA aB
   cases bf
   replace ai := qXb HB.out ai
   replace aA := eq_true aA
   replace aB := eq_true aB
   go_wp2
   repeat (go_quiet (fail); try go_wp2)
   go_ret
   exact ⟨by rfl, by repeat ((with_reducible exact HI0.out)), by repeat ((with_reducible exact HB.out)), by repeat ((with_reducible exact HK.out))⟩
  rw [if_neg c8] at H
  have c8b0 : decide ((wrap64 ((wrap64 (ab + 1)) - 1)) < (aa.length : Int)) = false := decide_eq_false c8
  clear c8
  by_cases c13 : (aa.length : Int) = 0
  ·rw [if_pos c13] at H
   exact absurd H (by simp)
  rw [if_neg c13] at H
  have c13b0 : ((aa.length : Int) == 0) = false := beq_eq_false_iff_ne.mpr c13
  have c13b1 : ((aa.length : Int) != 0) = true := bne_iff_ne.mpr c13
  have c13b2 : ¬ (aa = []) := fun h_ => c13 (by rw [h_]; rfl)
  obtain ⟨ae, aH⟩ : ∃ j_ : Int, (Int.tmod (wrap64 ((wrap64 (ab + 1)) - 1)) (aa.length : Int)) = j_ := ⟨_, rfl⟩
  replace H : (if 0 ≤ (ae) then (if (ae) < (aa.length : Int) then (if 0 ≤ (Int.tmod (wrap64 ((wrap64 ((wrap64 ((wrap64 (ab + 1)) - 1)) * 7)) + 3)) (aa.length : Int)) then (if (Int.tmod (wrap64 ((wrap64 ((wrap64 ((wrap64 (ab + 1)) - 1)) * 7)) + 3)) (aa.length : Int)) < (aa.length : Int) then (if a1 = 0 then (none) else (some (Int.tmod (Go.bits .xor .i64 (wrap64 ((wrap64 ((wrap64 ((wrap64 ((wrap64 (rd aa (ae))) * 131)) + (wrap64 ((wrap64 (rd aa (Int.tmod (wrap64 ((wrap64 ((wrap64 ((wrap64 (ab + 1)) - 1)) * 7)) + 3)) (aa.length : Int)))) * 1117)))) + (wrap64 ((wrap64 ((wrap64 (ab + 1)) - 1)) * 29)))) + (wrap64 ((wrap64 (Int.tdiv (wrap64 ((wrap64 (ab + 1)) - 1)) (aa.length : Int))) * 53)))) (wrap64 (Int.tdiv (wrap64 ((wrap64 ((wrap64 ((wrap64 ((wrap64 (rd aa (ae))) * 131)) + (wrap64 ((wrap64 (rd aa (Int.tmod (wrap64 ((wrap64 ((wrap64 ((wrap64 (ab + 1)) - 1)) * 7)) + 3)) (aa.length : Int)))) * 1117)))) + (wrap64 ((wrap64 ((wrap64 (ab + 1)) - 1)) * 29)))) + (wrap64 ((wrap64 (Int.tdiv (wrap64 ((wrap64 (ab + 1)) - 1)) (aa.length : Int))) * 53)))) 64))) a1, (wrap64 (ab + 1))))) else (none)) else (none)) else (none)) else (none)) = some (r1, r2) := by (rw [aH] at H; exact H)
  by_cases c15 : 0 ≤ (ae)
  rotate_left
  ·rw [if_neg c15] at H
   exact absurd H (by simp)
  rw [if_pos c15] at H
  have c15b0 : decide (0 ≤ (ae)) = true := decide_eq_true c15
  clear c15
  by_cases c16 : (ae) < (aa.length : Int)
  rotate_left
  ·rw [if_neg c16] at H
   exact absurd H (by simp)
  rw [if_pos c16] at H
  have c16b0 : decide ((ae) < (aa.length : Int)) = true := decide_eq_true c16
  clear c16
  obtain ⟨af, aI⟩ : ∃ j_ : Int, (Int.tmod (wrap64 ((wrap64 ((wrap64 ((wrap64 (ab + 1)) - 1)) * 7)) + 3)) (aa.length : Int)) = j_ := ⟨_, rfl⟩
  replace H : (if 0 ≤ (af) then (if (af) < (aa.length : Int) then (if a1 = 0 then (none) else (some (Int.tmod (Go.bits .xor .i64 (wrap64 ((wrap64 ((wrap64 ((wrap64 ((wrap64 (rd aa (ae))) * 131)) + (wrap64 ((wrap64 (rd aa (af))) * 1117)))) + (wrap64 ((wrap64 ((wrap64 (ab + 1)) - 1)) * 29)))) + (wrap64 ((wrap64 (Int.tdiv (wrap64 ((wrap64 (ab + 1)) - 1)) (aa.length : Int))) * 53)))) (wrap64 (Int.tdiv (wrap64 ((wrap64 ((wrap64 ((wrap64 ((wrap64 (rd aa (ae))) * 131)) + (wrap64 ((wrap64 (rd aa (af))) * 1117)))) + (wrap64 ((wrap64 ((wrap64 (ab + 1)) - 1)) * 29)))) + (wrap64 ((wrap64 (Int.tdiv (wrap64 ((wrap64 (ab + 1)) - 1)) (aa.length : Int))) * 53)))) 64))) a1, (wrap64 (ab + 1))))) else (none)) else (none)) = some (r1, r2) := by (rw [aI] at H; exact H)
  by_cases c18 : 0 ≤ (af)
  rotate_left
  ·rw [if_neg c18] at H
   exact absurd H (by simp)
  rw [if_pos c18] at H
  have c18b0 : decide (0 ≤ (af)) = true := decide_eq_true c18
  clear c18
  by_cases c19 : (af) < (aa.length : Int)
  rotate_left
  ·rw [if_neg c19] at H
   exact absurd H (by simp)
  rw [if_pos c19] at H
  have c19b0 : decide ((af) < (aa.length : Int)) = true := decide_eq_true c19
  clear c19
  by_cases c20 : a1 = 0
  ·rw [if_pos c20] at H
   exact absurd H (by simp)
  rw [if_neg c20] at H
  have c20b0 : (a1 == 0) = false := beq_eq_false_iff_ne.mpr c20
  have c20b1 : (a1 != 0) = true := bne_iff_ne.mpr c20
  simp only [Option.some.injEq, Prod.mk.injEq] at H
  obtain ⟨rfl, rfl⟩ := H
  obtain ⟨aR, aS, aj, aJ, al⟩ := HI0.out
  have aT := qWf aj
  have aU := qWh aj
  have aV := qQm aj 1
  clear aj aJ
  have aC : 0 ≤ ((ae) : Int) := oT (by (with_reducible assumption))
  have aD : (ae) < (aa.length : Int) := oT (by (with_reducible assumption))
  obtain ⟨aK, bg, am⟩ := Kd.at_int al (ae) aC aD
  cases bg
  replace am := qXb HB.out am
  replace aC := eq_true aC
  replace aD := eq_true aD
  have aE : 0 ≤ ((af) : Int) := oT (by (with_reducible assumption))
  have aF : (af) < (aa.length : Int) := oT (by (with_reducible assumption))
  obtain ⟨aL, bh, an⟩ := Kd.at_int al (af) aE aF
  obtain rfl : aK = aL := (by injection bh)
  replace an := qXb HB.out an
  replace aE := eq_true aE
  replace aF := eq_true aF
  go_wp2
  repeat (go_quiet (fail); try go_wp2)
  go_ret
  exact ⟨by rfl, by repeat ((with_reducible first | exact HI0.out | apply IsS95.drewN)), by repeat ((with_reducible first | exact HB.out | apply qQo)), by repeat ((with_reducible first | exact HK.out | apply keep_drewN))⟩
/-! ### spec_l30Rd_one: function 47 -/
def spec_l30Rd_one.f (k : Nat) (ac : List Int) (af : Int) (l1 : List Int) : Option (Int × Int) := (spec_l30Rd_pick.f k ac af (l1.length : Int)).bind fun aa => (if 0 ≤ aa.1 then (if aa.1 < (l1.length : Int) then (some (rd l1 aa.1, aa.2)) else (none)) else (none))
theorem spec_l30Rd_one.mono : ∀ a0 a1 a2 k, LeO (spec_l30Rd_one.f k a0 a1 a2) (spec_l30Rd_one.f (k + 1) a0 a1 a2) := by
 intro a0 a1 a2 k
 unfold spec_l30Rd_one.f
 repeat' first | (with_reducible exact spec_l30Rd_pick.mono _ _ _ _) | (with_reducible exact LeO.refl _) | (with_reducible refine LeO.bind ?_ (fun _ => ?_))
set_option maxHeartbeats 8000000 in
set_option maxRecDepth 100000 in
theorem spec_l30Rd_one.calls (k : Nat) (g : Nat) (ac : List Int) (af : Int) (A1 : Option Addr) (c1 : Nat) (l1 : List Int) (r1 : Int) (r2 : Int) (w0 w : World) (hI : IsS95 w0 w g ac af) (hB : Below w0.heap.size w0 w) (hr1 : Kd.C (Kd.int .i64) w A1 l1.length l1) (hc1 : l1.length ≤ c1) (hf1 : ∀ ad, A1 = some ad → 0 < l1.length → ad.block ≠ g) (h : spec_l30Rd_one.f k ac af l1 = some (r1, r2)) :
  Calls Try.prog 47 #[.pointer (some ⟨g, 0, none⟩), .slice A1 l1.length c1] w fun e w' => e = .returned (.int .i64 r1) ∧ IsS95 w0 w' g ac r2 ∧ Below w0.heap.size w0 w' ∧ KeepBut w w' g none := by
 have HR1 := ak hr1
 have HC1 := ak hc1
 clear hr1 hc1
 have HI0 := ak hI
 have HK := ak (KeepBut.refl w g none)
 have HL := ak hB.size
 clear hI
 have HW0 := ak hB.size
 have HB := ak hB
 clear hB
 have H : ((spec_l30Rd_pick.f k ac af (l1.length : Int)).bind fun aa => (if 0 ≤ aa.1 then (if aa.1 < (l1.length : Int) then (some (rd l1 aa.1, aa.2)) else (none)) else (none))) = some (r1, r2) := h
 clear h
 replace H := Option.bind_eq_some_iff.mp H
 obtain ⟨⟨ab, ai⟩, A30, H⟩ := H
 have A3 := ak A30
 clear A30
 by_cases c4 : 0 ≤ ab
 rotate_left
 ·rw [if_neg c4] at H
  exact absurd H (by simp)
 rw [if_pos c4] at H
 have c4b0 : decide (0 ≤ ab) = true := decide_eq_true c4
 clear c4
 by_cases c5 : ab < (l1.length : Int)
 rotate_left
 ·rw [if_neg c5] at H
  exact absurd H (by simp)
 rw [if_pos c5] at H
 have c5b0 : decide (ab < (l1.length : Int)) = true := decide_eq_true c5
 clear c5
 simp only [Option.some.injEq, Prod.mk.injEq] at H
 obtain ⟨rfl, rfl⟩ := H
 go_enter Try.func47, Try.ntmps47
 go_wp2_with (((with_reducible refine gate_callee (f := 87) rfl ?_); refine qQj (some 9) rfl rfl Try.func87 (by kernel_rfl) rfl #[.pointer (some ⟨g, 0, none⟩), .int .i64 (l1.length : Int)] rfl (by (try simp only [List.map_toArray, List.map_cons, List.map_nil]); rfl) ?_; (with_reducible refine (spec_l30Rd_pick.calls k g ac af (l1.length : Int) ab ai w0 _ ?side1 ?side2 A3.out).mono ?_); (case side1 => repeat ((with_reducible exact HI0.out))); (case side2 => repeat ((with_reducible exact HB.out))); rintro e w6 ⟨rfl, hi, hb, hk⟩; refine ⟨_, rfl, ?_⟩; replace HK := ak (KeepBut.trans (by repeat ((with_reducible exact HK.out))) hk (.inl rfl)); replace HB := ak (hb); replace HI0 := ak (hi); (try clear hb); (try clear hb2); (try clear hk); (try clear hi); have ag : 0 ≤ (ab : Int) := oT (by (with_reducible assumption)); have ah : ab < (l1.length : Int) := oT (by (with_reducible assumption)); obtain ⟨al, aj, ae⟩ := Kd.at_int HR1.out ab ag ah; cases aj; replace ae := qXn HK.out ae (by (rw [qJn]; exact hf1 _ rfl (by omega))); replace ag := eq_true ag; replace ah := eq_true ah))
 go_ret
 exact ⟨by rfl, by repeat ((with_reducible exact HI0.out)), by repeat ((with_reducible exact HB.out)), by repeat ((with_reducible exact HK.out))⟩
/-! ### spec_l30Net: function 86 -/
def spec_l30Net.l0 : Nat → Int → List Int → Int → Int → List (S58) → Option (Int × (List (S58)) × Int)
 | 0, _, _, _, _, _ => none
 | k + 1, x4, aM, bH, aA, aH => if x4 > 0 then ((spec_l30Rd_pick.f k aM bH aA).bind fun aZ => ((spec_l30Rd_pick.f k aM aZ.2 aA).bind fun ba => ((spec_l30Rd_pick.f k aM ba.2 100).bind fun bI => ((spec_l30Rd_one.f k aM bI.2 (([0, 1, 2, 5, 9, bI.1] : List Int))).bind fun aN => ((spec_l30Rd_one.f k aM aN.2 (([0, 0, 3, 8] : List Int))).bind fun aD => ((spec_l30Rd_pick.f k aM aD.2 10).bind fun az => (if aZ.1 = ba.1 then (if aA = 0 then (none) else (if aH.length < 3518437208883 then (spec_l30Net.l0 k (wrap64 (x4 - 1)) aM az.2 aA (aH ++ [(⟨aZ.1, Int.tmod (wrap64 (ba.1 + 1)) aA, aN.1, aD.1, az.1⟩ : S58)])) else (none))) else (if aH.length < 3518437208883 then (spec_l30Net.l0 k (wrap64 (x4 - 1)) aM az.2 aA (aH ++ [(⟨aZ.1, ba.1, aN.1, aD.1, az.1⟩ : S58)])) else (none))))))))) else (some (aA, aH, bH))
def spec_l30Net.f (k : Nat) (aw : List Int) (aT : Int) : Option (Int × (List (S58)) × Int) := (spec_l30Rd_pick.f k aw aT 5).bind fun aU => ((spec_l30Rd_pick.f k aw aU.2 14).bind fun aV => (spec_l30Net.l0 k aV.1 aw aV.2 (wrap64 (2 + aU.1)) ([] : List (S58))))
theorem spec_l30Net.mono_l : ∀ k, (∀ y0 y1 y2 y3 y4, LeO (spec_l30Net.l0 k y0 y1 y2 y3 y4) (spec_l30Net.l0 (k + 1) y0 y1 y2 y3 y4))
 | 0 => fun _ _ _ _ _ r h => by simp [spec_l30Net.l0] at h
 | k + 1 => by
  have ih0 := spec_l30Net.mono_l k
  ·intro y0 y1 y2 y3 y4
   unfold spec_l30Net.l0
   repeat' first | (with_reducible exact ih0 _ _ _ _ _) | (with_reducible exact spec_l30Rd_one.mono _ _ _ _) | (with_reducible exact spec_l30Rd_pick.mono _ _ _ _) | (with_reducible exact LeO.refl _) | (with_reducible refine LeO.ite ?_ ?_) | (with_reducible refine LeO.bind ?_ (fun _ => ?_))
theorem spec_l30Net.mono : ∀ a0 a1 k, LeO (spec_l30Net.f k a0 a1) (spec_l30Net.f (k + 1) a0 a1) := by
 intro a0 a1 k
 have ih0 := spec_l30Net.mono_l k
 unfold spec_l30Net.f
 repeat' first | (with_reducible exact ih0 _ _ _ _ _) | (with_reducible exact spec_l30Rd_pick.mono _ _ _ _) | (with_reducible refine LeO.bind ?_ (fun _ => ?_))
def spec_l30Net.T5 : Bool × List (List Nat × List Nat) := (true, [([], []), ([], []), ([1], [1]), ([0, 2], [0, 2]), ([], []), ([], []), ([5], [5]), ([4, 6, 3], [4, 6]), ([], []), ([], []), ([9, 7], [9]), ([10], [10]), ([8, 11, 10], [8, 11]), ([], []), ([], []), ([13, 14, 12], [13, 14]), ([], []), ([16, 15], [16]), ([3, 7, 12, 15, 17], [3, 7, 12, 15, 17]), ([], []), ([19, 18, 17, 0, 1, 2, 3, 4, 5, 6, 7, 8, 9, 10, 11, 12, 13, 14, 15, 16, 17, 18, 19], [18, 19])])
def spec_l30Net.B5 : List Nat := [0, 0, 2, 7, 0, 0, 32, 127, 0, 0, 767, 1791, 4095, 0, 0, 32767, 0, 131071, 262143, 0, 1048575]
theorem spec_l30Net.tab5 : rtab .any (qKd Try.f86 5) = spec_l30Net.T5 := by kernel_rfl
theorem spec_l30Net.bits5 : qJf spec_l30Net.T5.2 spec_l30Net.B5 = true := by kernel_rfl
theorem spec_l30Net.fix_world {P : Program} {ops : Array Oper} {Q : Exit → Act → World → Prop} {l : List Oper} {a : Act} {W : World} {g : Nat} {o : Obj} (hb : W.heap[g]? = some o) (h : ∀ W', W = W' → W'.heap[g]? = some o → wpList P ops Q l a W') : wpList P ops Q l a W := h W rfl hb
/-- What the region of spec.l30Net that draws an arc makes, in whatever order. -/
def spec_l30Net.Lr (ag ai ay am au av : Int) (v27 v30 : Value) (gb : Nat) (s : Nat) (b c : Bool) : List (Tmp × Value) :=
 ([(19, .int .i64 ag), (23, .int .i64 ai), (26, .int .i64 ay), (27, v27), (28, .int .i64 am), (31, .int .i64 au), (33, .int .i64 av), (34, .agg #[.int .i64 ag, .int .i64 ai, .int .i64 am, .int .i64 au, .int .i64 av])] : List (Tmp × Value)).take s ++ ((if b then [(30, v30)] else []) ++ (if c then [(5, .pointer (some ⟨gb, 0, none⟩))] else []))
set_option maxHeartbeats 4000000 in
set_option maxRecDepth 100000 in
theorem spec_l30Net.reg5 {Q : Exit → Act → World → Prop} {S : World → Prop} {FS : Option Nat → World → Prop} (k1 : Nat) {w0 w w1 : World} {g : Nat} {s0 : List Int} {p0 W ag bd ai be ay aW am aY au bf av aG : Int}
  (a0 : Act) (hsz : a0.tmps.size = 54)
  (h16 : a0.eval (.tmp 16) = .pointer (some ⟨g, 0, none⟩)) (h18 : a0.eval (.tmp 18) = .int .i64 W) (h20 : a0.eval (.tmp 20) = .pointer (some ⟨g, 0, none⟩)) (h22 : a0.eval (.tmp 22) = .int .i64 W) (h24 : a0.eval (.tmp 24) = .pointer (some ⟨g, 0, none⟩)) (h25 : a0.eval (.tmp 25) = .pointer (some ⟨g, 0, none⟩)) (h29 : a0.eval (.tmp 29) = .pointer (some ⟨g, 0, none⟩)) (h32 : a0.eval (.tmp 32) = .pointer (some ⟨g, 0, none⟩))
  (hS : ∀ o w', FS o w' → S w') (hF : ∀ o w1 w2 p, IsS95 w0 w1 g s0 p → KeepBut w1 w2 g none → FS o w1 → FS o w2) (hE : ∀ w1, FS none w1 → FS (some w1.heap.size) w1)
  (hI : IsS95 w0 w1 g s0 p0) (hK : KeepBut w w1 g none) (hB : Below w0.heap.size w0 w1) (hFS : FS none w1)
  (A12 : spec_l30Rd_pick.f k1 s0 p0 W = some (ag, bd)) (A13 : spec_l30Rd_pick.f k1 s0 bd W = some (ai, be)) (A14 : spec_l30Rd_pick.f k1 s0 be 100 = some (ay, aW))
  (A15 : spec_l30Rd_one.f k1 s0 aW [0, 1, 2, 5, 9, ay] = some (am, aY)) (A16 : spec_l30Rd_one.f k1 s0 aY [0, 0, 3, 8] = some (au, bf)) (A17 : spec_l30Rd_pick.f k1 s0 bf 10 = some (av, aG))
  (hJ : ∀ (v27 v30 : Value) (gb : Nat) (w' : World), FS (some gb) w' → w'.heap[gb]? = some (.cells #[.int .i64 0, .int .i64 0, .int .i64 0, .int .i64 0, .int .i64 0] 58 (0, 0)) → w.heap.size ≤ gb → gb ≠ g → IsS95 w0 w' g s0 aG → KeepBut w w' g none → Below w0.heap.size w0 w' →
   wpAnyLast Try.prog .any (qKd Try.f86 5) Q S [] 1 (ms 21 1048575) (putAll a0 [(19, .int .i64 ag), (23, .int .i64 ai), (26, .int .i64 ay), (27, v27), (28, .int .i64 am), (31, .int .i64 au), (33, .int .i64 av), (34, .agg #[.int .i64 ag, .int .i64 ai, .int .i64 am, .int .i64 au, .int .i64 av]), (30, v30), (5, .pointer (some ⟨gb, 0, none⟩))]) w') :
  wpAnyLast Try.prog .any (qKd Try.f86 5) Q S [] 11 (ms 21 74615) a0 w1 := by
 have mv : ∀ {s : Nat} {b c : Bool} {v27 v30 : Value} {gb : Nat} {wa wb : World} {p : Int}, IsS95 w0 wa g s0 p → KeepBut wa wb g none →
   (FS (if c then some gb else none) wa ∧ (s = 4 → Kd.R (Kd.int .i64) 3 wa w.heap.size (fun _ => True) v27 [0, 1, 2, 5, 9, ay]) ∧ (b = true → Kd.R (Kd.int .i64) 3 wa w.heap.size (fun _ => True) v30 [0, 0, 3, 8]) ∧ (c = true → wa.heap[gb]? = some (.cells #[.int .i64 0, .int .i64 0, .int .i64 0, .int .i64 0, .int .i64 0] 58 (0, 0)) ∧ w.heap.size ≤ gb ∧ gb ≠ g)) →
   (FS (if c then some gb else none) wb ∧ (s = 4 → Kd.R (Kd.int .i64) 3 wb w.heap.size (fun _ => True) v27 [0, 1, 2, 5, 9, ay]) ∧ (b = true → Kd.R (Kd.int .i64) 3 wb w.heap.size (fun _ => True) v30 [0, 0, 3, 8]) ∧ (c = true → wb.heap[gb]? = some (.cells #[.int .i64 0, .int .i64 0, .int .i64 0, .int .i64 0, .int .i64 0] 58 (0, 0)) ∧ w.heap.size ≤ gb ∧ gb ≠ g)) := by
  intro s b c v27 v30 gb wa wb p hi hk ⟨h1, h2, h3, h4⟩
  exact ⟨hF _ _ _ _ hi hk h1, fun e => Kd.R_mono (Kd.R_keep (IsS95.apart hi (h2 e) (by decide)) hk (fun _ h => h.2)) (fun _ h => h.1), fun e => Kd.R_mono (Kd.R_keep (IsS95.apart hi (h3 e) (by decide)) hk (fun _ h => h.2)) (fun _ h => h.1), fun e => ⟨KeepBut.blk hk (h4 e).1 (h4 e).2.2 (by simp), (h4 e).2⟩⟩
 refine chain_ spec_l30Net.tab5 21 1 74615 14 19 5 [3, 7, 10, 11, 12, 15, 17, 18] (by kernel_rfl)
  (fun s b c a w' => ∃ (v27 v30 : Value) (gb : Nat), a = putAll a0 (spec_l30Net.Lr ag ai ay am au av v27 v30 gb s b c) ∧ IsS95 w0 w' g s0 (([p0, bd, be, aW, aW, aY, bf, aG, aG] : List Int).getD s 0) ∧ KeepBut w w' g none ∧ Below w0.heap.size w0 w' ∧
   FS (if c then some gb else none) w' ∧ (s = 4 → Kd.R (Kd.int .i64) 3 w' w.heap.size (fun _ => True) v27 [0, 1, 2, 5, 9, ay]) ∧ (b = true → Kd.R (Kd.int .i64) 3 w' w.heap.size (fun _ => True) v30 [0, 0, 3, 8]) ∧ (c = true → w'.heap[gb]? = some (.cells #[.int .i64 0, .int .i64 0, .int .i64 0, .int .i64 0, .int .i64 0] 58 (0, 0)) ∧ w.heap.size ≤ gb ∧ gb ≠ g))
  (fun s b c a w' h => by obtain ⟨_, _, gb, _, _, _, _, h, _⟩ := h; exact hS _ _ h) ?_ ?_ ?_ ?_ ⟨.bool true, .bool true, 0, rfl, hI, hK, hB, hFS, (fun h => absurd h (by decide)), (fun h => absurd h (by decide)), (fun h => absurd h (by decide))⟩
 ·rintro s b c a wa hs hb ⟨v27, v30, gb, ha, hi, hk, hbl, ht⟩
  rcases s with _ | _ | _ | _ | _ | _ | _ | _ | s
  ·skip
   have e16 : a.eval (.tmp 16) = .pointer (some ⟨g, 0, none⟩) := by rw [ha]; exact (qXe _ _ _ (by cases b <;> cases c <;> rfl)).trans h16
   have e18 : a.eval (.tmp 18) = .int .i64 W := by rw [ha]; exact (qXe _ _ _ (by cases b <;> cases c <;> rfl)).trans h18
   refine wpOp_step (i := 3) rfl (fun K hKc => ?_)
   refine qXg Try.func87 (by kernel_rfl) rfl #[.pointer (some ⟨g, 0, none⟩), .int .i64 W] rfl rfl rfl (by simp only [List.map_toArray, List.map_cons, List.map_nil, e16, e18] <;> rfl) ?_
   refine (spec_l30Rd_pick.calls k1 g s0 p0 W ag bd w0 _ hi hbl A12).mono ?_
   rintro e wb ⟨rfl, hi2, hb2, hk2⟩
   obtain ⟨m1, m2, m3, m4⟩ := mv hi hk2 ht
   refine ⟨_, rfl, hKc _ _ ⟨v27, v30, gb, ?_, hi2, hk.trans hk2 (.inl rfl), hb2, m1, fun h => absurd h (by decide), m3, m4⟩⟩
   rw [ha]; refine (qVg _ _ _ _ _ (by cases b <;> cases c <;> rfl)).trans (congrArg _ ?_); cases b <;> cases c <;> rfl
  ·skip
   have e20 : a.eval (.tmp 20) = .pointer (some ⟨g, 0, none⟩) := by rw [ha]; exact (qXe _ _ _ (by cases b <;> cases c <;> rfl)).trans h20
   have e22 : a.eval (.tmp 22) = .int .i64 W := by rw [ha]; exact (qXe _ _ _ (by cases b <;> cases c <;> rfl)).trans h22
   refine wpOp_step (i := 7) rfl (fun K hKc => ?_)
   refine qXg Try.func87 (by kernel_rfl) rfl #[.pointer (some ⟨g, 0, none⟩), .int .i64 W] rfl rfl rfl (by simp only [List.map_toArray, List.map_cons, List.map_nil, e20, e22] <;> rfl) ?_
   refine (spec_l30Rd_pick.calls k1 g s0 bd W ai be w0 _ hi hbl A13).mono ?_
   rintro e wb ⟨rfl, hi2, hb2, hk2⟩
   obtain ⟨m1, m2, m3, m4⟩ := mv hi hk2 ht
   refine ⟨_, rfl, hKc _ _ ⟨v27, v30, gb, ?_, hi2, hk.trans hk2 (.inl rfl), hb2, m1, fun h => absurd h (by decide), m3, m4⟩⟩
   rw [ha]; refine (qVg _ _ _ _ _ (by cases b <;> cases c <;> rfl)).trans (congrArg _ ?_); cases b <;> cases c <;> rfl
  ·skip
   have e25 : a.eval (.tmp 25) = .pointer (some ⟨g, 0, none⟩) := by rw [ha]; exact (qXe _ _ _ (by cases b <;> cases c <;> rfl)).trans h25
   refine wpOp_step (i := 10) rfl (fun K hKc => ?_)
   refine qXg Try.func87 (by kernel_rfl) rfl #[.pointer (some ⟨g, 0, none⟩), .int .i64 100] rfl rfl rfl (by simp only [List.map_toArray, List.map_cons, List.map_nil, e25] <;> rfl) ?_
   refine (spec_l30Rd_pick.calls k1 g s0 be 100 ay aW w0 _ hi hbl A14).mono ?_
   rintro e wb ⟨rfl, hi2, hb2, hk2⟩
   obtain ⟨m1, m2, m3, m4⟩ := mv hi hk2 ht
   refine ⟨_, rfl, hKc _ _ ⟨v27, v30, gb, ?_, hi2, hk.trans hk2 (.inl rfl), hb2, m1, fun h => absurd h (by decide), m3, m4⟩⟩
   rw [ha]; refine (qVg _ _ _ _ _ (by cases b <;> cases c <;> rfl)).trans (congrArg _ ?_); cases b <;> cases c <;> rfl
  ·skip
   have e26 : a.eval (.tmp 26) = .int .i64 ay := by rw [ha]; exact qXk a0 [(19, .int .i64 ag), (23, .int .i64 ai)] _ 26 _ (by cases b <;> cases c <;> rfl) (by rw [hsz]; decide)
   refine wpOp_step (i := 11) (o := { dst := some 27, op := Go.Op.buildSlice 33 6 #[(0, Go.Operand.const (Go.Value.int Go.IntKind.i64 0)), (1, Go.Operand.const (Go.Value.int Go.IntKind.i64 1)), (2, Go.Operand.const (Go.Value.int Go.IntKind.i64 2)), (3, Go.Operand.const (Go.Value.int Go.IntKind.i64 5)), (4, Go.Operand.const (Go.Value.int Go.IntKind.i64 9)), (5, Go.Operand.tmp 26)], type := 33, pos := "l30_draw.go:60", after := #[{ on := 10, ground := Go.Ground.data }], guard := none }) rfl (fun K hKc => ?_)
   refine Kd.R_lit_step (Kd.int .i64) _ 3 rfl (N := 27) rfl (xs := ([0, 1, 2, 5, 9, ay] : List Int)) (inner := [.int .i64 0, .int .i64 1, .int .i64 2, .int .i64 5, .int .i64 9, .int .i64 ay]) (ok := fun _ => True) (okp := fun _ => True) ?hr ?hp (fun _ hk => hk) trivial (Below.refl _ _) (Nat.le_refl _) (by simp) ?_
   case hr => simp only [Act.eval, Array.getD_eq_getD_getElem?] at e26; clear ha; (go_simp; done)
   case hp => exact (Reps.one (show Kd.M (Kd.int .i64) _ _ _ 0 [.int .i64 0] from rfl) (Reps.one (show Kd.M (Kd.int .i64) _ _ _ 1 [.int .i64 1] from rfl) (Reps.one (show Kd.M (Kd.int .i64) _ _ _ 2 [.int .i64 2] from rfl) (Reps.one (show Kd.M (Kd.int .i64) _ _ _ 5 [.int .i64 5] from rfl) (Reps.one (show Kd.M (Kd.int .i64) _ _ _ 9 [.int .i64 9] from rfl) (Reps.one (show Kd.M (Kd.int .i64) _ _ _ ay [.int .i64 ay] from rfl) (Reps.none _ _)))))))
   intro v wb ho hb2 _ _
   have hk2 := KeepBut.of_below hb2 g none
   obtain ⟨m1, m2, m3, m4⟩ := mv hi hk2 ht
   refine hKc _ _ ⟨v, v30, gb, ?_, IsS95.below hi hb2, hk.trans hk2 (.inl rfl), qZd hbl hb2, m1, fun _ => Kd.R_lower ho (qQa hk), m3, m4⟩
   rw [ha]; refine (qVg _ _ _ _ _ (by cases b <;> cases c <;> rfl)).trans (congrArg _ ?_); cases b <;> cases c <;> rfl
  ·skip
   have h27 := ht.2.1 rfl
   obtain ⟨Ao, co, rfl⟩ := Kd.R_slice h27
   have e27 : a.eval (.tmp 27) = .slice Ao ([0, 1, 2, 5, 9, ay] : List Int).length co := by rw [ha]; exact qXk a0 [(19, .int .i64 ag), (23, .int .i64 ai), (26, .int .i64 ay)] _ 27 _ (by cases b <;> cases c <;> rfl) (by rw [hsz]; decide)
   have e24 : a.eval (.tmp 24) = .pointer (some ⟨g, 0, none⟩) := by rw [ha]; exact (qXe _ _ _ (by cases b <;> cases c <;> rfl)).trans h24
   refine wpOp_step (i := 12) rfl (fun K hKc => ?_)
   refine qXg Try.func47 (by kernel_rfl) rfl #[.pointer (some ⟨g, 0, none⟩), .slice Ao ([0, 1, 2, 5, 9, ay] : List Int).length co] rfl rfl rfl (by simp only [List.map_toArray, List.map_cons, List.map_nil, e24, e27] <;> rfl) ?_
   refine (spec_l30Rd_one.calls k1 g s0 aW _ _ [0, 1, 2, 5, 9, ay] am aY w0 _ hi hbl (Kd.R_reads' h27).2.2 (Kd.R_reads' h27).2.1 (qXl (IsS95.own_ne hi h27 (by decide))) A15).mono ?_
   rintro e wb ⟨rfl, hi2, hb2, hk2⟩
   obtain ⟨m1, m2, m3, m4⟩ := mv hi hk2 ht
   refine ⟨_, rfl, hKc _ _ ⟨.slice Ao ([0, 1, 2, 5, 9, ay] : List Int).length co, v30, gb, ?_, hi2, hk.trans hk2 (.inl rfl), hb2, m1, fun h => absurd h (by decide), m3, m4⟩⟩
   rw [ha]; refine (qVg _ _ _ _ _ (by cases b <;> cases c <;> rfl)).trans (congrArg _ ?_); cases b <;> cases c <;> rfl
  ·skip
   obtain rfl : b = true := hb rfl
   have h30 := ht.2.2.1 rfl
   obtain ⟨Ao, co, rfl⟩ := Kd.R_slice h30
   have e30 : a.eval (.tmp 30) = .slice Ao ([0, 0, 3, 8] : List Int).length co := by rw [ha]; exact qXk a0 [(19, .int .i64 ag), (23, .int .i64 ai), (26, .int .i64 ay), (27, v27), (28, .int .i64 am)] _ 30 _ (by cases c <;> rfl) (by rw [hsz]; decide)
   have e29 : a.eval (.tmp 29) = .pointer (some ⟨g, 0, none⟩) := by rw [ha]; exact (qXe _ _ _ (by cases c <;> rfl)).trans h29
   refine wpOp_step (i := 15) rfl (fun K hKc => ?_)
   refine qXg Try.func47 (by kernel_rfl) rfl #[.pointer (some ⟨g, 0, none⟩), .slice Ao ([0, 0, 3, 8] : List Int).length co] rfl rfl rfl (by simp only [List.map_toArray, List.map_cons, List.map_nil, e29, e30] <;> rfl) ?_
   refine (spec_l30Rd_one.calls k1 g s0 aY _ _ [0, 0, 3, 8] au bf w0 _ hi hbl (Kd.R_reads' h30).2.2 (Kd.R_reads' h30).2.1 (qXl (IsS95.own_ne hi h30 (by decide))) A16).mono ?_
   rintro e wb ⟨rfl, hi2, hb2, hk2⟩
   obtain ⟨m1, m2, m3, m4⟩ := mv hi hk2 ht
   refine ⟨_, rfl, hKc _ _ ⟨v27, .slice Ao ([0, 0, 3, 8] : List Int).length co, gb, ?_, hi2, hk.trans hk2 (.inl rfl), hb2, m1, fun h => absurd h (by decide), m3, m4⟩⟩
   rw [ha]; refine (qVg _ _ _ _ _ (by cases c <;> rfl)).trans (congrArg _ ?_); cases c <;> rfl
  ·skip
   have e32 : a.eval (.tmp 32) = .pointer (some ⟨g, 0, none⟩) := by rw [ha]; exact (qXe _ _ _ (by cases b <;> cases c <;> rfl)).trans h32
   refine wpOp_step (i := 17) rfl (fun K hKc => ?_)
   refine qXg Try.func87 (by kernel_rfl) rfl #[.pointer (some ⟨g, 0, none⟩), .int .i64 10] rfl rfl rfl (by simp only [List.map_toArray, List.map_cons, List.map_nil, e32] <;> rfl) ?_
   refine (spec_l30Rd_pick.calls k1 g s0 bf 10 av aG w0 _ hi hbl A17).mono ?_
   rintro e wb ⟨rfl, hi2, hb2, hk2⟩
   obtain ⟨m1, m2, m3, m4⟩ := mv hi hk2 ht
   refine ⟨_, rfl, hKc _ _ ⟨v27, v30, gb, ?_, hi2, hk.trans hk2 (.inl rfl), hb2, m1, fun h => absurd h (by decide), m3, m4⟩⟩
   rw [ha]; refine (qVg _ _ _ _ _ (by cases b <;> cases c <;> rfl)).trans (congrArg _ ?_); cases b <;> cases c <;> rfl
  ·skip
   have e19 : a.eval (.tmp 19) = .int .i64 ag := by rw [ha]; exact qXk a0 [] _ 19 _ (by cases b <;> cases c <;> rfl) (by rw [hsz]; decide)
   have e23 : a.eval (.tmp 23) = .int .i64 ai := by rw [ha]; exact qXk a0 [(19, .int .i64 ag)] _ 23 _ (by cases b <;> cases c <;> rfl) (by rw [hsz]; decide)
   have e28 : a.eval (.tmp 28) = .int .i64 am := by rw [ha]; exact qXk a0 [(19, .int .i64 ag), (23, .int .i64 ai), (26, .int .i64 ay), (27, v27)] _ 28 _ (by cases b <;> cases c <;> rfl) (by rw [hsz]; decide)
   have e31 : a.eval (.tmp 31) = .int .i64 au := by rw [ha]; exact qXk a0 [(19, .int .i64 ag), (23, .int .i64 ai), (26, .int .i64 ay), (27, v27), (28, .int .i64 am)] _ 31 _ (by cases b <;> cases c <;> rfl) (by rw [hsz]; decide)
   have e33 : a.eval (.tmp 33) = .int .i64 av := by rw [ha]; exact qXk a0 [(19, .int .i64 ag), (23, .int .i64 ai), (26, .int .i64 ay), (27, v27), (28, .int .i64 am), (31, .int .i64 au)] _ 33 _ (by cases b <;> cases c <;> rfl) (by rw [hsz]; decide)
   refine wpOp_step (i := 18) (o := { dst := some 34, op := Go.Op.build 58 #[(0, Go.Operand.tmp 19), (1, Go.Operand.tmp 23), (2, Go.Operand.tmp 28), (3, Go.Operand.tmp 31), (4, Go.Operand.tmp 33)], type := 58, pos := "l30_draw.go:60", after := #[{ on := 3, ground := Go.Ground.data }, { on := 7, ground := Go.Ground.data }, { on := 12, ground := Go.Ground.data }, { on := 15, ground := Go.Ground.data }, { on := 17, ground := Go.Ground.data }], guard := none }) rfl (fun K hKc => ?_)
   refine qYl (w1 := wa) (v := .agg #[.int .i64 ag, .int .i64 ai, .int .i64 am, .int .i64 au, .int .i64 av]) rfl rfl ?_ ?_
   ·simp only [Act.eval, Array.getD_eq_getD_getElem?] at e19 e23 e28 e31 e33; clear ha; (go_simp; done)
   ·refine hKc _ _ ⟨v27, v30, gb, ?_, hi, hk, hbl, ht.1, fun h => absurd h (by decide), ht.2.2⟩
    rw [ha]; refine (qVg _ _ _ _ _ (by cases b <;> cases c <;> rfl)).trans (congrArg _ ?_); cases b <;> cases c <;> rfl
  ·exact absurd hs (by simp)
 ·rintro s c a wa ⟨v27, v30, gb, ha, hi, hk, hbl, ht⟩
  refine wpOp_step (i := 14) (o := { dst := some 30, op := Go.Op.buildSlice 33 4 #[(0, Go.Operand.const (Go.Value.int Go.IntKind.i64 0)), (1, Go.Operand.const (Go.Value.int Go.IntKind.i64 0)), (2, Go.Operand.const (Go.Value.int Go.IntKind.i64 3)), (3, Go.Operand.const (Go.Value.int Go.IntKind.i64 8))], type := 33, pos := "l30_draw.go:60", after := #[], guard := none }) rfl (fun K hKc => ?_)
  refine Kd.R_lit_step (Kd.int .i64) _ 3 rfl (N := 30) rfl (xs := ([0, 0, 3, 8] : List Int)) (inner := [.int .i64 0, .int .i64 0, .int .i64 3, .int .i64 8]) (ok := fun _ => True) (okp := fun _ => True) ?hr ?hp (fun _ hk => hk) trivial (Below.refl _ _) (Nat.le_refl _) (by simp) ?_
  case hr => clear ha; (go_simp; done)
  case hp => exact (Reps.one (show Kd.M (Kd.int .i64) _ _ _ 0 [.int .i64 0] from rfl) (Reps.one (show Kd.M (Kd.int .i64) _ _ _ 0 [.int .i64 0] from rfl) (Reps.one (show Kd.M (Kd.int .i64) _ _ _ 3 [.int .i64 3] from rfl) (Reps.one (show Kd.M (Kd.int .i64) _ _ _ 8 [.int .i64 8] from rfl) (Reps.none _ _)))))
  intro v wb ho hb2 _ _
  have hk2 := KeepBut.of_below hb2 g none
  obtain ⟨m1, m2, m3, m4⟩ := mv hi hk2 ht
  refine hKc _ _ ⟨v27, v, gb, ?_, IsS95.below hi hb2, hk.trans hk2 (.inl rfl), qZd hbl hb2, m1, m2, fun _ => Kd.R_lower ho (qQa hk), m4⟩
  rw [ha]; exact qVg _ _ _ _ _ (by cases c <;> rfl)
 ·rintro s b a wa ⟨v27, v30, gb, ha, hi, hk, hbl, ht⟩
  refine wpOp_step (i := 19) (o := { dst := some 5, op := Go.Op.alloc 58, type := 0, pos := "l30_draw.go:60", after := #[], guard := none }) rfl (fun K hKc => ?_)
  refine box_step rfl (N := 5) rfl (cs := #[.int .i64 0, .int .i64 0, .int .i64 0, .int .i64 0, .int .i64 0]) (t := 58) ?hr ?_
  case hr => clear ha; (go_simp; done)
  intro gb2 hg wb hbox hb2
  have hk2 := KeepBut.of_below hb2 g none
  obtain ⟨m1, m2, m3, m4⟩ := mv hi hk2 ht
  refine hKc _ _ ⟨v27, v30, gb2, ?_, IsS95.below hi hb2, hk.trans hk2 (.inl rfl), qZd hbl hb2, ?_, m2, m3, fun _ => ⟨hbox, ?_, ?_⟩⟩
  ·have key : ∀ (A X : List (Tmp × Value)) (v : Value), (putAll a0 (A ++ (X ++ []))).put (some 5) v = putAll a0 (A ++ (X ++ [(5, v)])) := by
    intro A X v
    have h := qVg a0 (A ++ X) [] 5 v rfl
    rw [List.append_nil, List.append_assoc] at h
    rw [List.append_nil]
    exact h
   rw [ha]; exact key _ (if b then [(30, v30)] else []) _
  ·have h1 := hE wa ht.1
   rw [← hg] at h1
   exact hF _ _ _ _ hi hk2 h1
  ·rw [hg]; exact qQa hk
  ·rw [hg]; exact Nat.ne_of_gt (IsS95.lt hi)
 ·rintro a wa ⟨v27, v30, gb, ha, hi, hk, hbl, h1, _, _, h4⟩
  have h4 := h4 rfl
  rw [ha]
  exact hJ v27 v30 gb wa h1 h4.1 h4.2.1 h4.2.2 hi hk hbl
set_option maxHeartbeats 8000000 in
set_option maxRecDepth 100000 in
theorem spec_l30Net.calls (k : Nat) (g : Nat) (aw : List Int) (aT : Int) (r1 : Int) (r2 : List (S58)) (r3 : Int) (w0 w : World) (hI : IsS95 w0 w g aw aT) (hB : Below w0.heap.size w0 w) (h : spec_l30Net.f k aw aT = some (r1, r2, r3)) :
  Calls Try.prog 86 #[.pointer (some ⟨g, 0, none⟩)] w fun e w' => ∃ v1_ : Value, e = .returned (.agg #[.int .i64 r1, v1_]) ∧ Kd.R k58 58 w' w.heap.size (fun _ => True) v1_ r2 ∧ IsS95 w0 w' g aw r3 ∧ Below w0.heap.size w0 w' ∧ KeepBut w w' g none := by
 have eN := Try.underlying25
 have eO := Try.underlying58
 have HI0 := ak hI
 have HK := ak (KeepBut.refl w g none)
 have HL := ak hB.size
 clear hI
 have HW0 := ak hB.size
 have HB := ak hB
 clear hB
 have H : ((spec_l30Rd_pick.f k aw aT 5).bind fun aU => ((spec_l30Rd_pick.f k aw aU.2 14).bind fun aV => (spec_l30Net.l0 k aV.1 aw aV.2 (wrap64 (2 + aU.1)) ([] : List (S58))))) = some (r1, r2, r3) := h
 clear h
 replace H := Option.bind_eq_some_iff.mp H
 obtain ⟨⟨ao, bD⟩, A20, H⟩ := H
 have A2 := ak A20
 clear A20
 replace H := Option.bind_eq_some_iff.mp H
 obtain ⟨⟨bR, bS⟩, A30, H⟩ := H
 have A3 := ak A30
 clear A30
 have H' := ak H
 clear H
 go_enter Try.func86, Try.ntmps86
 go_wp2_with (first | ((with_reducible refine gate_dst (N := 2) rfl ?_); refine qZj ?hg (N := 2) ?hd (cs := #[.int .i64 0, .slice none 0 0]) (t := 25) ?hr ?_; (case hd => rfl); (case hg => rfl); (case hr => (go_simp; done)); intro ap hg w4 hbox hb; replace HB := ak (qZd (by repeat ((with_reducible exact HB.out))) hb); have al := ak (hbox); have bU := ak ((by rw [hg]; exact (qQa (w := w) (g := g) (row := none) (by repeat ((with_reducible exact HK.out)))) : w.heap.size ≤ ap)); have bV := ak ((Nat.le_trans HW0.out (by rw [hg]; exact (qQa (w := w) (g := g) (row := none) (by repeat ((with_reducible exact HK.out)))) : w.heap.size ≤ ap) : w0.heap.size ≤ ap)); replace HK := ak (KeepBut.trans (by repeat ((with_reducible exact HK.out))) (KeepBut.of_below hb g none) (.inl rfl)); have bb := ak ((by rw [hg]; exact Nat.ne_of_lt (IsS95.lt (show IsS95 w0 _ g aw aT from by repeat ((with_reducible exact HI0.out)))) : g ≠ ap)); have aI := ak ((by rw [hg]; exact Nat.ne_of_gt (IsS95.lt (show IsS95 w0 _ g aw aT from by repeat ((with_reducible exact HI0.out)))) : ap ≠ g)); replace HI0 := ak (IsS95.below (by repeat ((with_reducible exact HI0.out))) hb); clear hb hbox hg) | ((with_reducible refine gate_callee (f := 87) rfl ?_); refine qQj (some 7) rfl rfl Try.func87 (by kernel_rfl) rfl #[.pointer (some ⟨g, 0, none⟩), .int .i64 5] rfl (by (try simp only [List.map_toArray, List.map_cons, List.map_nil]); rfl) ?_; (with_reducible refine (spec_l30Rd_pick.calls k g aw aT 5 ao bD w0 _ ?side1 ?side2 A2.out).mono ?_); (case side1 => repeat ((with_reducible exact HI0.out))); (case side2 => repeat ((with_reducible exact HB.out))); rintro e w5 ⟨rfl, hi, hb, hk⟩; refine ⟨_, rfl, ?_⟩; replace al := ak (KeepBut.blk hk (g' := ap) (o := .cells #[.int .i64 0, .slice none 0 0] 25 (0, 0)) (bk al) aI.out (by simp)); replace HK := ak (KeepBut.trans (by repeat ((with_reducible exact HK.out))) hk (.inl rfl)); replace HB := ak (hb); replace HI0 := ak (hi); (try clear hb); (try clear hb2); (try clear hk); (try clear hi)) | ((with_reducible refine gate_dst (N := 3) rfl ?_); refine qZj ?hg (N := 3) ?hd (cs := #[.int .i64 0, .slice none 0 0]) (t := 25) ?hr ?_; (case hd => rfl); (case hg => rfl); (case hr => (go_simp; done)); intro aj hg w6 hbox hb; replace HB := ak (qZd (by repeat ((with_reducible exact HB.out))) hb); have af := ak (hbox); have bg := ak ((by rw [hg]; exact (qQa (w := w) (g := g) (row := none) (by repeat ((with_reducible exact HK.out)))) : w.heap.size ≤ aj)); have bh := ak ((Nat.le_trans HW0.out (by rw [hg]; exact (qQa (w := w) (g := g) (row := none) (by repeat ((with_reducible exact HK.out)))) : w.heap.size ≤ aj) : w0.heap.size ≤ aj)); replace HK := ak (KeepBut.trans (by repeat ((with_reducible exact HK.out))) (KeepBut.of_below hb g none) (.inl rfl)); have ax := ak ((by rw [hg]; exact Nat.ne_of_lt (qZh (bk al)) : ap ≠ aj)); have aE := ak ((by rw [hg]; exact Nat.ne_of_gt (qZh (bk al)) : aj ≠ ap)); replace al := ak (qZe (bk al) hb); have aB := ak ((by rw [hg]; exact Nat.ne_of_lt (IsS95.lt (show IsS95 w0 _ g aw bD from by repeat ((with_reducible exact HI0.out)))) : g ≠ aj)); have aC := ak ((by rw [hg]; exact Nat.ne_of_gt (IsS95.lt (show IsS95 w0 _ g aw bD from by repeat ((with_reducible exact HI0.out)))) : aj ≠ g)); replace HI0 := ak (IsS95.below (by repeat ((with_reducible exact HI0.out))) hb); clear hb hbox hg; have eP := aE.out; have eQ := ax.out; have eR := aC.out; have eS := aB.out; have bN := bc w6 af 0 (.int .i64 0) rfl; have bO := bc w6 af 1 (.slice none 0 0) rfl; have bP := fz af 0; have bQ := fz af 1) | ((with_reducible refine gate_callee (f := 87) rfl ?_); refine qQj (some 11) rfl rfl Try.func87 (by kernel_rfl) rfl #[.pointer (some ⟨g, 0, none⟩), .int .i64 14] rfl (by (try simp only [List.map_toArray, List.map_cons, List.map_nil]); rfl) ?_; (with_reducible refine (spec_l30Rd_pick.calls k g aw bD 14 bR bS w0 _ ?side1 ?side2 A3.out).mono ?_); (case side1 => repeat ((with_reducible first | exact HI0.out | refine IsS95.far ?_ aB.out _))); (case side2 => repeat ((with_reducible first | exact HB.out | refine below_set ?_ bh.out))); rintro e w10 ⟨rfl, hi, hb, hk⟩; refine ⟨_, rfl, ?_⟩; replace al := ak (KeepBut.blk hk (g' := ap) (o := .cells #[.int .i64 0, .slice none 0 0] 25 (0, 0)) (by refine blk_far ?_ ax.out _; refine blk_far ?_ ax.out _; exact al.out) aI.out (by simp)); replace af := ak (KeepBut.blk hk (g' := aj) (o := .cells #[.int .i64 (wrap64 (2 + ao)), .slice none 0 0] 25 (0, 0)) (by refine qZi (cs := #[.int .i64 (wrap64 (2 + ao)), .slice none 0 0]) ?_ 1 _ rfl; refine qZi (cs := #[.int .i64 0, .slice none 0 0]) ?_ 0 _ rfl; exact af.out) aC.out (by simp)); replace HK := ak (KeepBut.trans (by repeat ((with_reducible first | exact HK.out | refine keep_far ?_ bg.out _))) hk (.inl rfl)); replace HB := ak (hb); replace HI0 := ak (hi); (try clear hb); (try clear hb2); (try clear hk); (try clear hi)))
 go_loopg [4] k (fun kq v4 w' => ∃ (aJ : Int) (aQ : Int) (ad : List (S58)) (u114001 : Value), v4 = .int .i64 aJ ∧ Aside0 (spec_l30Net.l0 kq aJ aw aQ (wrap64 (2 + ao)) ad = some (r1, r2, r3)) ∧ Aside0 (kq ≤ k) ∧ Aside0 (Kd.R k58 58 w' w.heap.size (fun _ => True) u114001 ad) ∧ Aside0 (w'.heap[ap]? = some (.cells #[.int .i64 0, (.slice none 0 0)] 25 (0, 0))) ∧ Aside0 (w'.heap[aj]? = some (.cells #[.int .i64 (wrap64 (2 + ao)), u114001] 25 (0, 0))) ∧ Aside0 (IsS95 w0 w' g aw aQ) ∧ Aside0 (KeepBut w w' g none) ∧ Aside0 (Below w0.heap.size w0 w'))
 case atStart => exact ⟨(bR), (bS), (([] : List (S58))), (.slice none 0 0), (by rfl), H', ⟨Nat.le_refl _⟩, ⟨by exact Kd.R_nil _ _ _ _ _⟩, ⟨bk al⟩, ⟨bk af⟩, ⟨by repeat ((with_reducible exact HI0.out))⟩, ⟨by repeat ((with_reducible exact HK.out))⟩, ⟨by repeat ((with_reducible exact HB.out))⟩⟩
 clear H'
 try clear p2
 try clear p6
 try clear c7
 try clear c8
 try clear bN
 try clear bO
 try clear bP
 try clear bQ
 obtain ⟨aJ, aQ, ad, u114001, rfl, HA, HK1, ac, al, af, HI0, HK, HB⟩ := hrel
 cases gk with
 | zero => exact absurd HA.out (by simp [spec_l30Net.l0])
 | succ k1 =>
  have H := HA.out
  clear HA
  simp only [spec_l30Net.l0] at H
  by_cases c11 : aJ > 0
  rotate_left
  ·rw [if_neg c11] at H
   have c11b0 : decide (0 < aJ) = false := decide_eq_false c11
   clear c11
   simp only [Option.some.injEq, Prod.mk.injEq] at H
   obtain ⟨rfl, rfl, rfl⟩ := H
   have ed := aE.out
   have ee := ax.out
   have ef := aC.out
   have eg := aB.out
   have cm := bc wr af 0 (.int .i64 (wrap64 (2 + ao))) rfl
   have cn := bc wr af 1 (u114001) rfl
   have cp := fz af 0
   have cq := fz af 1
   have eh := aI.out
   have ei := bb.out
   have cr := bc wr al 0 (.int .i64 0) rfl
   have ct := bc wr al 1 (.slice none 0 0) rfl
   have cu := fz al 0
   have cv := fz al 1
   obtain ⟨bW, bX, dW⟩ := Kd.R_slice ac.out
   subst dW
   go_wp2
   refine bodyPost_ret (results_cell_row rfl _ _ ap 25 #[.int .i64 (wrap64 (2 + ao)), .slice bW ad.length bX] (0, 0) _ rfl (by refine qZi (cs := #[.int .i64 (wrap64 (2 + ao)), .slice none 0 0]) ?_ 1 _ rfl; refine qZi (cs := #[.int .i64 0, .slice none 0 0]) ?_ 0 _ rfl; exact al.out) Try.underlying25 rfl (by kernel_rfl)) rfl ?_
   exact ⟨_, by rfl, by exact Kd.R_mono (Kd.R_far (p := ⟨ap, 1, none⟩) (Kd.R_far (p := ⟨ap, 0, none⟩) (Kd.R_types ac.out al.out (by decide)) (fun _ hk => hk.2) (.int .i64 (wrap64 (2 + ao)))) (fun _ hk => hk.2) (.slice bW ad.length bX)) (fun _ hk => trivial), by repeat ((with_reducible first | exact HI0.out | refine IsS95.far ?_ bb.out _)), by repeat ((with_reducible first | exact HB.out | refine below_set ?_ bV.out)), by repeat ((with_reducible first | exact HK.out | refine keep_far ?_ bU.out _))⟩
  rw [if_pos c11] at H
  have c11b0 : decide (0 < aJ) = true := decide_eq_true c11
  clear c11
  replace H := Option.bind_eq_some_iff.mp H
  obtain ⟨⟨ag, bd⟩, bY, H⟩ := H
  have A12 := ak bY
  clear bY
  replace H := Option.bind_eq_some_iff.mp H
  obtain ⟨⟨ai, be⟩, bZ, H⟩ := H
  have A13 := ak bZ
  clear bZ
  replace H := Option.bind_eq_some_iff.mp H
  obtain ⟨⟨ay, aW⟩, ca, H⟩ := H
  have A14 := ak ca
  clear ca
  obtain ⟨dX, bi⟩ : ∃ y_ : List Int, y_ = (([0, 1, 2, 5, 9, ay] : List Int)) := ⟨_, rfl⟩
  replace H : ((spec_l30Rd_one.f k1 aw aW dX).bind fun aN => ((spec_l30Rd_one.f k1 aw aN.2 (([0, 0, 3, 8] : List Int))).bind fun aD => ((spec_l30Rd_pick.f k1 aw aD.2 10).bind fun az => (if ag = ai then (if (wrap64 (2 + ao)) = 0 then (none) else (if ad.length < 3518437208883 then (spec_l30Net.l0 k1 (wrap64 (aJ - 1)) aw az.2 (wrap64 (2 + ao)) (ad ++ [(⟨ag, Int.tmod (wrap64 (ai + 1)) (wrap64 (2 + ao)), aN.1, aD.1, az.1⟩ : S58)])) else (none))) else (if ad.length < 3518437208883 then (spec_l30Net.l0 k1 (wrap64 (aJ - 1)) aw az.2 (wrap64 (2 + ao)) (ad ++ [(⟨ag, ai, aN.1, aD.1, az.1⟩ : S58)])) else (none)))))) = some (r1, r2, r3) := by (rw [bi]; with_reducible exact H)
  have bJ := ak bi
  clear bi
  replace H := Option.bind_eq_some_iff.mp H
  obtain ⟨⟨am, aY⟩, cb, H⟩ := H
  have A15 := ak cb
  clear cb
  obtain ⟨dY, bj⟩ : ∃ y_ : List Int, y_ = (([0, 0, 3, 8] : List Int)) := ⟨_, rfl⟩
  replace H : ((spec_l30Rd_one.f k1 aw aY dY).bind fun aD => ((spec_l30Rd_pick.f k1 aw aD.2 10).bind fun az => (if ag = ai then (if (wrap64 (2 + ao)) = 0 then (none) else (if ad.length < 3518437208883 then (spec_l30Net.l0 k1 (wrap64 (aJ - 1)) aw az.2 (wrap64 (2 + ao)) (ad ++ [(⟨ag, Int.tmod (wrap64 (ai + 1)) (wrap64 (2 + ao)), am, aD.1, az.1⟩ : S58)])) else (none))) else (if ad.length < 3518437208883 then (spec_l30Net.l0 k1 (wrap64 (aJ - 1)) aw az.2 (wrap64 (2 + ao)) (ad ++ [(⟨ag, ai, am, aD.1, az.1⟩ : S58)])) else (none))))) = some (r1, r2, r3) := by (rw [bj]; with_reducible exact H)
  have bK := ak bj
  clear bj
  replace H := Option.bind_eq_some_iff.mp H
  obtain ⟨⟨au, bf⟩, cc, H⟩ := H
  have A16 := ak cc
  clear cc
  replace H := Option.bind_eq_some_iff.mp H
  obtain ⟨⟨av, aG⟩, cd, H⟩ := H
  have A17 := ak cd
  clear cd
  by_cases c18 : ag = ai
  rotate_left
  ·rw [if_neg c18] at H
   have c18b0 : (ag == ai) = false := beq_eq_false_iff_ne.mpr c18
   have c18b1 : (ag != ai) = true := bne_iff_ne.mpr c18
   by_cases c51 : ad.length < 3518437208883
   rotate_left
   ·rw [if_neg c51] at H
    exact absurd H (by simp)
   rw [if_pos c51] at H
   have ce := ak c51
   clear c51
   obtain ⟨bE, bm⟩ : ∃ y_ : List (S58), y_ = (ad ++ [(⟨ag, ai, am, au, av⟩ : S58)]) := ⟨_, rfl⟩
   replace H : (spec_l30Net.l0 k1 (wrap64 (aJ - 1)) aw aG (wrap64 (2 + ao)) bE) = some (r1, r2, r3) := by (rw [bm]; with_reducible exact H)
   have cf := ak bm
   clear bm
   have H' := ak H
   clear H
   try go_wp2
   replace ac := ak (Kd.R_drew ac.out)
   replace al := ak (qZp al.out)
   replace af := ak (qZp af.out)
   replace HI0 := ak (IsS95.drew HI0.out)
   replace HK := ak (qWk HK.out)
   replace HB := ak (qZo HB.out)
   refine qJd (n := 21) (S := fun w' => w'.cell? ⟨aj, 0, none⟩ = some (.int .i64 (wrap64 (2 + ao))) ∧ w'.cell? ⟨aj, 1, none⟩ = some (u114001)) (ds := []) (ms 21 0) (by kernel_rfl) rfl (by kernel_rfl) ⟨(qZb af.out 0).trans rfl, (qZb af.out 1).trans rfl⟩ (fun hHeld => ?_); refine qQk spec_l30Net.tab5 spec_l30Net.bits5 (fun HT_ HW_ => ?_)
   generalize wr.drew = w52 at ac al af HI0 HK HB hHeld ⊢
   refine pu 0 16 ?_ (ms 21 1) rfl rfl HT_ (by kernel_rfl) (fun _ _ _ h => h) (by rfl) ?_ ?_ ?_ ?_
   rotate_left
   ·intro w'
    go_simp
    with_reducible rfl
   rotate_left
   ·simp only [SX]
    rfl
   refine pu 1 17 ?_ (ms 21 3) rfl rfl HT_ (by kernel_rfl) (fun _ _ _ h => h) (by rfl) ?_ ?_ ?_ ?_
   rotate_left
   ·intro w'
    go_simp
    with_reducible rfl
   rotate_left
   ·simp only [SX]
    rfl
   refine pu 4 20 ?_ (ms 21 19) rfl rfl HT_ (by kernel_rfl) (fun _ _ _ h => h) (by rfl) ?_ ?_ ?_ ?_
   rotate_left
   ·intro w'
    go_simp
    with_reducible rfl
   rotate_left
   ·simp only [SX]
    rfl
   refine pu 5 21 ?_ (ms 21 51) rfl rfl HT_ (by kernel_rfl) (fun _ _ _ h => h) (by rfl) ?_ ?_ ?_ ?_
   rotate_left
   ·intro w'
    go_simp
    with_reducible rfl
   rotate_left
   ·simp only [SX]
    rfl
   refine pu 8 24 ?_ (ms 21 307) rfl rfl HT_ (by kernel_rfl) (fun _ _ _ h => h) (by rfl) ?_ ?_ ?_ ?_
   rotate_left
   ·intro w'
    go_simp
    with_reducible rfl
   rotate_left
   ·simp only [SX]
    rfl
   refine pu 9 25 ?_ (ms 21 819) rfl rfl HT_ (by kernel_rfl) (fun _ _ _ h => h) (by rfl) ?_ ?_ ?_ ?_
   rotate_left
   ·intro w'
    go_simp
    with_reducible rfl
   rotate_left
   ·simp only [SX]
    rfl
   refine pu 13 29 ?_ (ms 21 9011) rfl rfl HT_ (by kernel_rfl) (fun _ _ _ h => h) (by rfl) ?_ ?_ ?_ ?_
   rotate_left
   ·intro w'
    go_simp
    with_reducible rfl
   rotate_left
   ·simp only [SX]
    rfl
   refine pu 16 32 ?_ (ms 21 74547) rfl rfl HT_ (by kernel_rfl) (fun _ _ _ h => h) (by rfl) ?_ ?_ ?_ ?_
   rotate_left
   ·intro w'
    go_simp
    with_reducible rfl
   rotate_left
   ·simp only [SX]
    rfl
   refine tk 2 18 ?_ (ms 21 74551) rfl rfl HT_ HW_ (by kernel_rfl) (fun _ _ _ h => h) (by rfl) ?_ hHeld ?_ ?_ ?_
   rotate_left
   ·rintro w' ⟨s0, s1⟩
    go_simp
    with_reducible rfl
   rotate_left
   ·simp only [SX]
    rfl
   refine tk 6 22 ?_ (ms 21 74615) rfl rfl HT_ HW_ (by kernel_rfl) (fun _ _ _ h => h) (by rfl) ?_ hHeld ?_ ?_ ?_
   rotate_left
   ·rintro w' ⟨s0, s1⟩
    go_simp
    with_reducible rfl
   rotate_left
   ·simp only [SX]
    rfl
   refine join_ (σ := Value × Value × Nat) 1 (ms 21 1048575) (fun s_ => [(19, .int .i64 ag), (23, .int .i64 ai), (26, .int .i64 ay), (27, s_.1), (28, .int .i64 am), (31, .int .i64 au), (33, .int .i64 av), (34, .agg #[.int .i64 ag, .int .i64 ai, .int .i64 am, .int .i64 au, .int .i64 av]), (30, s_.2.1), (5, .pointer (some ⟨s_.2.2, 0, none⟩))]) (fun s_ w' => (w'.cell? ⟨aj, 0, none⟩ = some (.int .i64 (wrap64 (2 + ao))) ∧ w'.cell? ⟨aj, 1, none⟩ = some (u114001)) ∧ (Kd.R k58 58 w' w.heap.size (fun k_ => k_ ≠ s_.2.2) u114001 ad) ∧ (w'.heap[ap]? = some (.cells #[.int .i64 0, .slice none 0 0] 25 (0, 0))) ∧ (w'.heap[aj]? = some (.cells #[.int .i64 (wrap64 (2 + ao)), u114001] 25 (0, 0))) ∧ (w'.heap[s_.2.2]? = some (.cells #[.int .i64 0, .int .i64 0, .int .i64 0, .int .i64 0, .int .i64 0] 58 (0, 0))) ∧ (w.heap.size ≤ s_.2.2) ∧ (w0.heap.size ≤ s_.2.2) ∧ (g ≠ s_.2.2) ∧ (s_.2.2 ≠ g) ∧ (ap ≠ s_.2.2) ∧ (s_.2.2 ≠ ap) ∧ (aj ≠ s_.2.2) ∧ (s_.2.2 ≠ aj) ∧ (IsS95 w0 w' g aw aG) ∧ (KeepBut w w' g none) ∧ (Below w0.heap.size w0 w')) ?_ ?_
   rotate_left
   ·intro hJ
    have a15 := A15.out
    have a16 := A16.out
    rw [bJ.out] at a15
    rw [bK.out] at a16
    refine spec_l30Net.reg5 (FS := (fun o w' => (w'.cell? ⟨aj, 0, none⟩ = some (.int .i64 (wrap64 (2 + ao))) ∧ w'.cell? ⟨aj, 1, none⟩ = some (u114001)) ∧ (Kd.R k58 58 w' w.heap.size (fun k_ => some k_ ≠ o) u114001 ad) ∧ (w'.heap[ap]? = some (.cells #[.int .i64 0, .slice none 0 0] 25 (0, 0))) ∧ (w'.heap[aj]? = some (.cells #[.int .i64 (wrap64 (2 + ao)), u114001] 25 (0, 0))) ∧ (some ap ≠ o ∧ some aj ≠ o))) _ _ rfl rfl rfl rfl rfl rfl rfl rfl rfl (fun o w' h => h.1) ?_ ?_ HI0.out HK.out HB.out ⟨hHeld, Kd.R_mono ac.out (fun _ _ => by simp), al.out, af.out, by simp⟩ A12.out A13.out A14.out a15 a16 A17.out ?_
    ·rintro o wa wb p hi hk ⟨_, h1, h2, h3, h4⟩
     have b2 := KeepBut.blk hk h2 aI.out (by simp)
     have b3 := KeepBut.blk hk h3 aC.out (by simp)
     exact ⟨⟨(qZb b3 0).trans rfl, (qZb b3 1).trans rfl⟩, Kd.R_mono (Kd.R_keep (IsS95.apart hi h1 (by decide)) hk (fun _ h => h.2)) (fun _ h => h.1), b2, b3, h4⟩
    ·rintro wa ⟨h0, h1, h2, h3, _⟩
     exact ⟨h0, Kd.R_mono (Kd.R_elderB h1 wa.heap.size (Nat.le_refl _)) (fun k hk => by have := hk.2; simpa using this), h2, h3, by simpa using Nat.ne_of_lt (qZh h2), by simpa using Nat.ne_of_lt (qZh h3)⟩
    rintro v27 v30 gb w' ⟨h0, h1, h2, h3, h4, h5⟩ hbox hgw hgg hi hk hb
    have e4 : ap ≠ gb := by simpa using h4
    have e5 : aj ≠ gb := by simpa using h5
    exact hJ (v27, v30, gb) w' ⟨h0, Kd.R_mono h1 (fun k hk => by simpa using hk), h2, h3, hbox, hgw, Nat.le_trans HW0.out hgw, hgg.symm, hgg, e4, e4.symm, e5, e5.symm, hi, hk, hb⟩
   rintro ⟨dZ, ea, ab⟩ w66 ⟨hS_, h2_, h3_, h4_, h5_, h6_, h7_, h8_, h9_, bn, bo, bp, bq, br, bs, bu⟩
   replace ac : Aside0 (Kd.R k58 58 w66 w.heap.size (fun k_ => k_ ≠ ab) u114001 ad) := ⟨h2_⟩
   replace al : Aside0 (w66.heap[ap]? = some (.cells #[.int .i64 0, .slice none 0 0] 25 (0, 0))) := ⟨h3_⟩
   replace af : Aside0 (w66.heap[aj]? = some (.cells #[.int .i64 (wrap64 (2 + ao)), u114001] 25 (0, 0))) := ⟨h4_⟩
   have ah : Aside0 (w66.heap[ab]? = some (.cells #[.int .i64 0, .int .i64 0, .int .i64 0, .int .i64 0, .int .i64 0] 58 (0, 0))) := ⟨h5_⟩
   have aX : Aside0 (w.heap.size ≤ ab) := ⟨h6_⟩
   have bv : Aside0 (w0.heap.size ≤ ab) := ⟨h7_⟩
   have aK : Aside0 (g ≠ ab) := ⟨h8_⟩
   have aR : Aside0 (ab ≠ g) := ⟨h9_⟩
   have ae : Aside0 (ap ≠ ab) := ⟨bn⟩
   have aq : Aside0 (ab ≠ ap) := ⟨bo⟩
   have aa : Aside0 (aj ≠ ab) := ⟨bp⟩
   have ar : Aside0 (ab ≠ aj) := ⟨bq⟩
   replace HI0 : Aside0 (IsS95 w0 w66 g aw aG) := ⟨br⟩
   replace HK : Aside0 (KeepBut w w66 g none) := ⟨bs⟩
   replace HB : Aside0 (Below w0.heap.size w0 w66) := ⟨bu⟩
   clear h2_ h3_ h4_ h5_ h6_ h7_ h8_ h9_ bn bo bp bq br bs bu
   have hHeld : w66.cell? ⟨aj, 0, none⟩ = some (.int .i64 (wrap64 (2 + ao))) ∧ w66.cell? ⟨aj, 1, none⟩ = some (u114001) := hS_
   refine qJc (a' := ?_) ?_ ?_
   rotate_left
   ·simp only [putAll, Act.put, List.setIfInBounds_toArray, List.set_cons_zero, List.set_cons_succ]
    rfl
   refine one_ (i := 20) (N := none) (ms 21 2097151) rfl rfl (qJb HT_.out (by kernel_rfl)) (by decide) (fun K hK => ?_)
   have eT : w66.cell? ⟨ab, 0, none⟩ = some (.int .i64 0) := (qZb ah.out 0).trans rfl
   have ej := qQm ah.out 0
   have cw := ae.out
   have cx := aa.out
   have cy := aq.out
   have cz := ar.out
   have eU : w66.cell? ⟨ab, 1, none⟩ = some (.int .i64 0) := (qZb ah.out 1).trans rfl
   have ek := qQm ah.out 1
   have cA := ae.out
   have cB := aa.out
   have cC := aq.out
   have cD := ar.out
   have eV : w66.cell? ⟨ab, 2, none⟩ = some (.int .i64 0) := (qZb ah.out 2).trans rfl
   have el := qQm ah.out 2
   have cE := ae.out
   have cF := aa.out
   have cG := aq.out
   have cH := ar.out
   have eW : w66.cell? ⟨ab, 3, none⟩ = some (.int .i64 0) := (qZb ah.out 3).trans rfl
   have em := qQm ah.out 3
   have cI := ae.out
   have cJ := aa.out
   have cK := aq.out
   have cL := ar.out
   have eX : w66.cell? ⟨ab, 4, none⟩ = some (.int .i64 0) := (qZb ah.out 4).trans rfl
   have en := qQm ah.out 4
   have cM := ae.out
   have cN := aa.out
   have cO := aq.out
   have cP := ar.out
   refine skip_ (w1 := ?_) (by rfl) rfl ?_ ?_
   rotate_left
   ·go_simp
    rfl
   refine hK.out _ _ ⟨((qJe (p := ⟨ab, _, none⟩) aa.out _).trans (((qJe (p := ⟨ab, _, none⟩) aa.out _).trans (((qJe (p := ⟨ab, _, none⟩) aa.out _).trans (((qJe (p := ⟨ab, _, none⟩) aa.out _).trans (((qJe (p := ⟨ab, _, none⟩) aa.out _).trans (hHeld.1)))))))))), ((qJe (p := ⟨ab, _, none⟩) aa.out _).trans (((qJe (p := ⟨ab, _, none⟩) aa.out _).trans (((qJe (p := ⟨ab, _, none⟩) aa.out _).trans (((qJe (p := ⟨ab, _, none⟩) aa.out _).trans (((qJe (p := ⟨ab, _, none⟩) aa.out _).trans (hHeld.2))))))))))⟩ (fun hHeld => ?_)
   clear hK K
   refine qXc (qQp HT_.out (by kernel_rfl)) ?_
   have eo := aq.out
   have ep := ae.out
   have eq := ar.out
   have er := aa.out
   have es := aR.out
   have et := aK.out
   have cQ := bc w66 ah 0 (.int .i64 0) rfl
   have cR := bc w66 ah 1 (.int .i64 0) rfl
   have cS := bc w66 ah 2 (.int .i64 0) rfl
   have cT := bc w66 ah 3 (.int .i64 0) rfl
   have cU := bc w66 ah 4 (.int .i64 0) rfl
   have cV := fz ah 0
   have cW := fz ah 1
   have cX := fz ah 2
   have cY := fz ah 3
   have cZ := fz ah 4
   have eu := aE.out
   have ev := ax.out
   have ew := aC.out
   have ex := aB.out
   have da := bc w66 af 0 (.int .i64 (wrap64 (2 + ao))) rfl
   have db := bc w66 af 1 (u114001) rfl
   have dc := fz af 0
   have dd := fz af 1
   try go_wp2_with (first | ((with_reducible refine gate_dst (N := 49) rfl ?_); (fail_if_success clear hW_); refine spec_l30Net.fix_world (g := ab) (o := .cells #[.int .i64 ag, .int .i64 ai, .int .i64 am, .int .i64 au, .int .i64 av] 58 (0, 0)) (by refine qZi (cs := #[.int .i64 ag, .int .i64 ai, .int .i64 am, .int .i64 au, .int .i64 0]) ?_ 4 _ rfl; refine qZi (cs := #[.int .i64 ag, .int .i64 ai, .int .i64 am, .int .i64 0, .int .i64 0]) ?_ 3 _ rfl; refine qZi (cs := #[.int .i64 ag, .int .i64 ai, .int .i64 0, .int .i64 0, .int .i64 0]) ?_ 2 _ rfl; refine qZi (cs := #[.int .i64 ag, .int .i64 0, .int .i64 0, .int .i64 0, .int .i64 0]) ?_ 1 _ rfl; refine qZi (cs := #[.int .i64 0, .int .i64 0, .int .i64 0, .int .i64 0, .int .i64 0]) ?_ 0 _ rfl; exact ah.out) ?_; intro W_ hW_ hBW_; have bw : W_.cell? ⟨ab, 0, none⟩ = some (.int .i64 ag) := (qZb hBW_ 0).trans rfl; have bx : W_.cell? ⟨ab, 1, none⟩ = some (.int .i64 ai) := (qZb hBW_ 1).trans rfl; have bz : W_.cell? ⟨ab, 2, none⟩ = some (.int .i64 am) := (qZb hBW_ 2).trans rfl; have bA : W_.cell? ⟨ab, 3, none⟩ = some (.int .i64 au) := (qZb hBW_ 3).trans rfl; have bB : W_.cell? ⟨ab, 4, none⟩ = some (.int .i64 av) := (qZb hBW_ 4).trans rfl) | ((with_reducible refine gate_dst (N := 50) rfl ?_); clear hBW_ bw bx bz bA bB; subst hW_) | ((with_reducible refine gate_builtin (b := .append) (xs := #[.tmp 48, .tmp 50]) rfl ?_); at_builtin; refine Kd.R_append k58 w.heap.size rfl (.tmp 48) (.tmp 50) 23 58 (.agg #[(.int .i64 0), (.int .i64 0), (.int .i64 0), (.int .i64 0), (.int .i64 0)]) 40 rfl Try.underlying23 info58 rfl (by decide) (by omega) u114001 ad (⟨ag, ai, am, au, av⟩ : S58) [.int .i64 ag, .int .i64 ai, .int .i64 am, .int .i64 au, .int .i64 av] (fun k_ => k_ ≠ ab) (fun _ => False) rfl (by (go_simp; done)) ?aP (fun _ hk => hk.elim) ?aF ?aO (Below.refl _ _) ?aS ?aL ?_; (case aP => exact k58_mkM _ _ _ (⟨ag, ai, am, au, av⟩ : S58)); (case aF => exact (fun k_ hk => Kd.freshB (g := ab) (o := .cells #[.int .i64 ag, .int .i64 ai, .int .i64 am, .int .i64 au, .int .i64 av] 58 (0, 0)) (by refine qZi (cs := #[.int .i64 ag, .int .i64 ai, .int .i64 am, .int .i64 au, .int .i64 0]) ?_ 4 _ rfl; refine qZi (cs := #[.int .i64 ag, .int .i64 ai, .int .i64 am, .int .i64 0, .int .i64 0]) ?_ 3 _ rfl; refine qZi (cs := #[.int .i64 ag, .int .i64 ai, .int .i64 0, .int .i64 0, .int .i64 0]) ?_ 2 _ rfl; refine qZi (cs := #[.int .i64 ag, .int .i64 0, .int .i64 0, .int .i64 0, .int .i64 0]) ?_ 1 _ rfl; refine qZi (cs := #[.int .i64 0, .int .i64 0, .int .i64 0, .int .i64 0, .int .i64 0]) ?_ 0 _ rfl; exact ah.out) k_ hk)); (case aO => exact (by exact Kd.R_mono (Kd.R_far (p := ⟨ab, 4, none⟩) (Kd.R_far (p := ⟨ab, 3, none⟩) (Kd.R_far (p := ⟨ab, 2, none⟩) (Kd.R_far (p := ⟨ab, 1, none⟩) (Kd.R_far (p := ⟨ab, 0, none⟩) (Kd.R_mono ac.out (fun k_ hk => (⟨hk, hk⟩ : _ ∧ k_ ≠ ab))) (fun _ hk => hk.2) (.int .i64 ag)) (fun _ hk => hk.2) (.int .i64 ai)) (fun _ hk => hk.2) (.int .i64 am)) (fun _ hk => hk.2) (.int .i64 au)) (fun _ hk => hk.2) (.int .i64 av)) (fun _ hk => hk.1))); (case aS => exact (qQa (w := w) (g := g) (row := none) (by repeat ((with_reducible first | exact HK.out | refine keep_far ?_ aX.out _))))); (case aL => have := ce.out; omega); intro eY w79 ho hb hg hat; rw [← cf.out] at ho; have n0_ := ak (qZg (g := ap) (o := .cells #[.int .i64 0, .slice none 0 0] 25 (0, 0)) (by refine blk_far ?_ ae.out _; refine blk_far ?_ ae.out _; refine blk_far ?_ ae.out _; refine blk_far ?_ ae.out _; refine blk_far ?_ ae.out _; exact al.out) hg (Kd.R_ne ac.out al.out (by decide))); have n1_ := ak (qZg (g := aj) (o := .cells #[.int .i64 (wrap64 (2 + ao)), u114001] 25 (0, 0)) (by refine blk_far ?_ aa.out _; refine blk_far ?_ aa.out _; refine blk_far ?_ aa.out _; refine blk_far ?_ aa.out _; refine blk_far ?_ aa.out _; exact af.out) hg (Kd.R_ne ac.out af.out (by decide))); have n2_ := ak (IsS95.grown (w0 := w0) (f0 := aw) (f1 := aG) (by repeat ((with_reducible first | exact HI0.out | refine IsS95.far ?_ aK.out _))) hg (IsS95.own_ne HI0.out ac.out (by decide))); have n5_ := ak (qZg (g := ab) (o := .cells #[.int .i64 ag, .int .i64 ai, .int .i64 am, .int .i64 au, .int .i64 av] 58 (0, 0)) (by refine qZi (cs := #[.int .i64 ag, .int .i64 ai, .int .i64 am, .int .i64 au, .int .i64 0]) ?_ 4 _ rfl; refine qZi (cs := #[.int .i64 ag, .int .i64 ai, .int .i64 am, .int .i64 0, .int .i64 0]) ?_ 3 _ rfl; refine qZi (cs := #[.int .i64 ag, .int .i64 ai, .int .i64 0, .int .i64 0, .int .i64 0]) ?_ 2 _ rfl; refine qZi (cs := #[.int .i64 ag, .int .i64 0, .int .i64 0, .int .i64 0, .int .i64 0]) ?_ 1 _ rfl; refine qZi (cs := #[.int .i64 0, .int .i64 0, .int .i64 0, .int .i64 0, .int .i64 0]) ?_ 0 _ rfl; exact ah.out) hg (Kd.R_away ac.out (fun _ hk => hk))); have n6_ := ak (below_weaken (by repeat ((with_reducible first | exact HB.out | refine below_set ?_ bv.out))) HL.out hb); have n7_ := ak (KeepBut.trans (by repeat ((with_reducible first | exact HK.out | refine keep_far ?_ aX.out _))) (KeepBut.of_grown hg g) (Kd.R_base2 ac.out)); have n8_ := ak (ho); clear al; clear af; clear HI0; clear ah; clear HB; clear HK; clear ac; have al := n0_; have af := n1_; have HI0 := n2_; have ah := n5_; have HB := n6_; have HK := n7_; have bL := n8_; clear n0_ n1_ n2_ n5_ n6_ n7_ n8_; clear ho hb hg hat; obtain ⟨cg, ch, eb⟩ := Kd.R_slice bL.out; subst eb; have de := bc w79 af 0 (.int .i64 (wrap64 (2 + ao))) rfl; have df := bc w79 af 1 (u114001) rfl; have dg := fz af 0; have dh := fz af 1))
   go_roundg k1
   case measure => have := HK1.out; omega
   case rel => exact ⟨(wrap64 (aJ - 1)), (aG), (bE), (.slice cg bE.length ch), (by rfl), H', ⟨by have := HK1.out; omega⟩, ⟨by exact Kd.R_mono (Kd.R_far (p := ⟨aj, 1, none⟩) (Kd.R_types bL.out af.out (by decide)) (fun _ hk => hk.2) (.slice cg bE.length ch)) (fun _ hk => trivial)⟩, ⟨by refine blk_far ?_ ax.out _; exact al.out⟩, ⟨by refine qZi (cs := #[.int .i64 (wrap64 (2 + ao)), u114001]) ?_ 1 _ rfl; exact af.out⟩, ⟨by repeat ((with_reducible first | exact HI0.out | refine IsS95.far ?_ aB.out _))⟩, ⟨by repeat ((with_reducible first | exact HK.out | refine keep_far ?_ bg.out _))⟩, ⟨by repeat ((with_reducible first | exact HB.out | refine below_set ?_ bh.out))⟩⟩
  rw [if_pos c18] at H
  have c18b0 : (ag == ai) = true := beq_iff_eq.mpr c18
  have c18b1 : (ag != ai) = false := bne_eq_false_iff_eq.mpr c18
  clear c18
  by_cases c19 : (wrap64 (2 + ao)) = 0
  ·rw [if_pos c19] at H
   exact absurd H (by simp)
  rw [if_neg c19] at H
  have c19b0 : ((wrap64 (2 + ao)) == 0) = false := beq_eq_false_iff_ne.mpr c19
  have c19b1 : ((wrap64 (2 + ao)) != 0) = true := bne_iff_ne.mpr c19
  by_cases c20 : ad.length < 3518437208883
  rotate_left
  ·rw [if_neg c20] at H
   exact absurd H (by simp)
  rw [if_pos c20] at H
  have ci := ak c20
  clear c20
  obtain ⟨bG, bC⟩ : ∃ y_ : List (S58), y_ = (ad ++ [(⟨ag, Int.tmod (wrap64 (ai + 1)) (wrap64 (2 + ao)), am, au, av⟩ : S58)]) := ⟨_, rfl⟩
  replace H : (spec_l30Net.l0 k1 (wrap64 (aJ - 1)) aw aG (wrap64 (2 + ao)) bG) = some (r1, r2, r3) := by (rw [bC]; with_reducible exact H)
  have cj := ak bC
  clear bC
  have H' := ak H
  clear H
  try go_wp2
  replace ac := ak (Kd.R_drew ac.out)
  replace al := ak (qZp al.out)
  replace af := ak (qZp af.out)
  replace HI0 := ak (IsS95.drew HI0.out)
  replace HK := ak (qWk HK.out)
  replace HB := ak (qZo HB.out)
  refine qJd (n := 21) (S := fun w' => w'.cell? ⟨aj, 0, none⟩ = some (.int .i64 (wrap64 (2 + ao))) ∧ w'.cell? ⟨aj, 1, none⟩ = some (u114001)) (ds := []) (ms 21 0) (by kernel_rfl) rfl (by kernel_rfl) ⟨(qZb af.out 0).trans rfl, (qZb af.out 1).trans rfl⟩ (fun hHeld => ?_); refine qQk spec_l30Net.tab5 spec_l30Net.bits5 (fun HT_ HW_ => ?_)
  generalize wr.drew = w21 at ac al af HI0 HK HB hHeld ⊢
  refine pu 0 16 ?_ (ms 21 1) rfl rfl HT_ (by kernel_rfl) (fun _ _ _ h => h) (by rfl) ?_ ?_ ?_ ?_
  rotate_left
  ·intro w'
   go_simp
   with_reducible rfl
  rotate_left
  ·simp only [SX]
   rfl
  refine pu 1 17 ?_ (ms 21 3) rfl rfl HT_ (by kernel_rfl) (fun _ _ _ h => h) (by rfl) ?_ ?_ ?_ ?_
  rotate_left
  ·intro w'
   go_simp
   with_reducible rfl
  rotate_left
  ·simp only [SX]
   rfl
  refine pu 4 20 ?_ (ms 21 19) rfl rfl HT_ (by kernel_rfl) (fun _ _ _ h => h) (by rfl) ?_ ?_ ?_ ?_
  rotate_left
  ·intro w'
   go_simp
   with_reducible rfl
  rotate_left
  ·simp only [SX]
   rfl
  refine pu 5 21 ?_ (ms 21 51) rfl rfl HT_ (by kernel_rfl) (fun _ _ _ h => h) (by rfl) ?_ ?_ ?_ ?_
  rotate_left
  ·intro w'
   go_simp
   with_reducible rfl
  rotate_left
  ·simp only [SX]
   rfl
  refine pu 8 24 ?_ (ms 21 307) rfl rfl HT_ (by kernel_rfl) (fun _ _ _ h => h) (by rfl) ?_ ?_ ?_ ?_
  rotate_left
  ·intro w'
   go_simp
   with_reducible rfl
  rotate_left
  ·simp only [SX]
   rfl
  refine pu 9 25 ?_ (ms 21 819) rfl rfl HT_ (by kernel_rfl) (fun _ _ _ h => h) (by rfl) ?_ ?_ ?_ ?_
  rotate_left
  ·intro w'
   go_simp
   with_reducible rfl
  rotate_left
  ·simp only [SX]
   rfl
  refine pu 13 29 ?_ (ms 21 9011) rfl rfl HT_ (by kernel_rfl) (fun _ _ _ h => h) (by rfl) ?_ ?_ ?_ ?_
  rotate_left
  ·intro w'
   go_simp
   with_reducible rfl
  rotate_left
  ·simp only [SX]
   rfl
  refine pu 16 32 ?_ (ms 21 74547) rfl rfl HT_ (by kernel_rfl) (fun _ _ _ h => h) (by rfl) ?_ ?_ ?_ ?_
  rotate_left
  ·intro w'
   go_simp
   with_reducible rfl
  rotate_left
  ·simp only [SX]
   rfl
  refine tk 2 18 ?_ (ms 21 74551) rfl rfl HT_ HW_ (by kernel_rfl) (fun _ _ _ h => h) (by rfl) ?_ hHeld ?_ ?_ ?_
  rotate_left
  ·rintro w' ⟨s0, s1⟩
   go_simp
   with_reducible rfl
  rotate_left
  ·simp only [SX]
   rfl
  refine tk 6 22 ?_ (ms 21 74615) rfl rfl HT_ HW_ (by kernel_rfl) (fun _ _ _ h => h) (by rfl) ?_ hHeld ?_ ?_ ?_
  rotate_left
  ·rintro w' ⟨s0, s1⟩
   go_simp
   with_reducible rfl
  rotate_left
  ·simp only [SX]
   rfl
  refine join_ (σ := Value × Value × Nat) 1 (ms 21 1048575) (fun s_ => [(19, .int .i64 ag), (23, .int .i64 ai), (26, .int .i64 ay), (27, s_.1), (28, .int .i64 am), (31, .int .i64 au), (33, .int .i64 av), (34, .agg #[.int .i64 ag, .int .i64 ai, .int .i64 am, .int .i64 au, .int .i64 av]), (30, s_.2.1), (5, .pointer (some ⟨s_.2.2, 0, none⟩))]) (fun s_ w' => (w'.cell? ⟨aj, 0, none⟩ = some (.int .i64 (wrap64 (2 + ao))) ∧ w'.cell? ⟨aj, 1, none⟩ = some (u114001)) ∧ (Kd.R k58 58 w' w.heap.size (fun k_ => k_ ≠ s_.2.2) u114001 ad) ∧ (w'.heap[ap]? = some (.cells #[.int .i64 0, .slice none 0 0] 25 (0, 0))) ∧ (w'.heap[aj]? = some (.cells #[.int .i64 (wrap64 (2 + ao)), u114001] 25 (0, 0))) ∧ (w'.heap[s_.2.2]? = some (.cells #[.int .i64 0, .int .i64 0, .int .i64 0, .int .i64 0, .int .i64 0] 58 (0, 0))) ∧ (w.heap.size ≤ s_.2.2) ∧ (w0.heap.size ≤ s_.2.2) ∧ (g ≠ s_.2.2) ∧ (s_.2.2 ≠ g) ∧ (ap ≠ s_.2.2) ∧ (s_.2.2 ≠ ap) ∧ (aj ≠ s_.2.2) ∧ (s_.2.2 ≠ aj) ∧ (IsS95 w0 w' g aw aG) ∧ (KeepBut w w' g none) ∧ (Below w0.heap.size w0 w')) ?_ ?_
  rotate_left
  ·intro hJ
   have a15 := A15.out
   have a16 := A16.out
   rw [bJ.out] at a15
   rw [bK.out] at a16
   refine spec_l30Net.reg5 (FS := (fun o w' => (w'.cell? ⟨aj, 0, none⟩ = some (.int .i64 (wrap64 (2 + ao))) ∧ w'.cell? ⟨aj, 1, none⟩ = some (u114001)) ∧ (Kd.R k58 58 w' w.heap.size (fun k_ => some k_ ≠ o) u114001 ad) ∧ (w'.heap[ap]? = some (.cells #[.int .i64 0, .slice none 0 0] 25 (0, 0))) ∧ (w'.heap[aj]? = some (.cells #[.int .i64 (wrap64 (2 + ao)), u114001] 25 (0, 0))) ∧ (some ap ≠ o ∧ some aj ≠ o))) _ _ rfl rfl rfl rfl rfl rfl rfl rfl rfl (fun o w' h => h.1) ?_ ?_ HI0.out HK.out HB.out ⟨hHeld, Kd.R_mono ac.out (fun _ _ => by simp), al.out, af.out, by simp⟩ A12.out A13.out A14.out a15 a16 A17.out ?_
   ·rintro o wa wb p hi hk ⟨_, h1, h2, h3, h4⟩
    have b2 := KeepBut.blk hk h2 aI.out (by simp)
    have b3 := KeepBut.blk hk h3 aC.out (by simp)
    exact ⟨⟨(qZb b3 0).trans rfl, (qZb b3 1).trans rfl⟩, Kd.R_mono (Kd.R_keep (IsS95.apart hi h1 (by decide)) hk (fun _ h => h.2)) (fun _ h => h.1), b2, b3, h4⟩
   ·rintro wa ⟨h0, h1, h2, h3, _⟩
    exact ⟨h0, Kd.R_mono (Kd.R_elderB h1 wa.heap.size (Nat.le_refl _)) (fun k hk => by have := hk.2; simpa using this), h2, h3, by simpa using Nat.ne_of_lt (qZh h2), by simpa using Nat.ne_of_lt (qZh h3)⟩
   rintro v27 v30 gb w' ⟨h0, h1, h2, h3, h4, h5⟩ hbox hgw hgg hi hk hb
   have e4 : ap ≠ gb := by simpa using h4
   have e5 : aj ≠ gb := by simpa using h5
   exact hJ (v27, v30, gb) w' ⟨h0, Kd.R_mono h1 (fun k hk => by simpa using hk), h2, h3, hbox, hgw, Nat.le_trans HW0.out hgw, hgg.symm, hgg, e4, e4.symm, e5, e5.symm, hi, hk, hb⟩
  rintro ⟨dZ, ea, ab⟩ w35 ⟨hS_, h2_, h3_, h4_, h5_, h6_, h7_, h8_, h9_, bn, bo, bp, bq, br, bs, bu⟩
  replace ac : Aside0 (Kd.R k58 58 w35 w.heap.size (fun k_ => k_ ≠ ab) u114001 ad) := ⟨h2_⟩
  replace al : Aside0 (w35.heap[ap]? = some (.cells #[.int .i64 0, .slice none 0 0] 25 (0, 0))) := ⟨h3_⟩
  replace af : Aside0 (w35.heap[aj]? = some (.cells #[.int .i64 (wrap64 (2 + ao)), u114001] 25 (0, 0))) := ⟨h4_⟩
  have ah : Aside0 (w35.heap[ab]? = some (.cells #[.int .i64 0, .int .i64 0, .int .i64 0, .int .i64 0, .int .i64 0] 58 (0, 0))) := ⟨h5_⟩
  have aX : Aside0 (w.heap.size ≤ ab) := ⟨h6_⟩
  have bv : Aside0 (w0.heap.size ≤ ab) := ⟨h7_⟩
  have aK : Aside0 (g ≠ ab) := ⟨h8_⟩
  have aR : Aside0 (ab ≠ g) := ⟨h9_⟩
  have ae : Aside0 (ap ≠ ab) := ⟨bn⟩
  have aq : Aside0 (ab ≠ ap) := ⟨bo⟩
  have aa : Aside0 (aj ≠ ab) := ⟨bp⟩
  have ar : Aside0 (ab ≠ aj) := ⟨bq⟩
  replace HI0 : Aside0 (IsS95 w0 w35 g aw aG) := ⟨br⟩
  replace HK : Aside0 (KeepBut w w35 g none) := ⟨bs⟩
  replace HB : Aside0 (Below w0.heap.size w0 w35) := ⟨bu⟩
  clear h2_ h3_ h4_ h5_ h6_ h7_ h8_ h9_ bn bo bp bq br bs bu
  have hHeld : w35.cell? ⟨aj, 0, none⟩ = some (.int .i64 (wrap64 (2 + ao))) ∧ w35.cell? ⟨aj, 1, none⟩ = some (u114001) := hS_
  refine qJc (a' := ?_) ?_ ?_
  rotate_left
  ·simp only [putAll, Act.put, List.setIfInBounds_toArray, List.set_cons_zero, List.set_cons_succ]
   rfl
  refine one_ (i := 20) (N := none) (ms 21 2097151) rfl rfl (qJb HT_.out (by kernel_rfl)) (by decide) (fun K hK => ?_)
  have eZ : w35.cell? ⟨ab, 0, none⟩ = some (.int .i64 0) := (qZb ah.out 0).trans rfl
  have ey := qQm ah.out 0
  have di := ae.out
  have dj := aa.out
  have dk := aq.out
  have dl := ar.out
  have fa : w35.cell? ⟨ab, 1, none⟩ = some (.int .i64 0) := (qZb ah.out 1).trans rfl
  have ez := qQm ah.out 1
  have dm := ae.out
  have dn := aa.out
  have dp := aq.out
  have dq := ar.out
  have fb : w35.cell? ⟨ab, 2, none⟩ = some (.int .i64 0) := (qZb ah.out 2).trans rfl
  have eA := qQm ah.out 2
  have dr := ae.out
  have dt := aa.out
  have du := aq.out
  have dv := ar.out
  have fc : w35.cell? ⟨ab, 3, none⟩ = some (.int .i64 0) := (qZb ah.out 3).trans rfl
  have eB := qQm ah.out 3
  have dw := ae.out
  have dx := aa.out
  have dy := aq.out
  have dz := ar.out
  have fd : w35.cell? ⟨ab, 4, none⟩ = some (.int .i64 0) := (qZb ah.out 4).trans rfl
  have eC := qQm ah.out 4
  have dA := ae.out
  have dB := aa.out
  have dC := aq.out
  have dD := ar.out
  refine skip_ (w1 := ?_) (by rfl) rfl ?_ ?_
  rotate_left
  ·go_simp
   rfl
  refine hK.out _ _ ⟨((qJe (p := ⟨ab, _, none⟩) aa.out _).trans (((qJe (p := ⟨ab, _, none⟩) aa.out _).trans (((qJe (p := ⟨ab, _, none⟩) aa.out _).trans (((qJe (p := ⟨ab, _, none⟩) aa.out _).trans (((qJe (p := ⟨ab, _, none⟩) aa.out _).trans (hHeld.1)))))))))), ((qJe (p := ⟨ab, _, none⟩) aa.out _).trans (((qJe (p := ⟨ab, _, none⟩) aa.out _).trans (((qJe (p := ⟨ab, _, none⟩) aa.out _).trans (((qJe (p := ⟨ab, _, none⟩) aa.out _).trans (((qJe (p := ⟨ab, _, none⟩) aa.out _).trans (hHeld.2))))))))))⟩ (fun hHeld => ?_)
  clear hK K
  refine qXc (qQp HT_.out (by kernel_rfl)) ?_
  have eD := aq.out
  have eE := ae.out
  have eF := ar.out
  have eG := aa.out
  have eH := aR.out
  have eI := aK.out
  have dE := bc w35 ah 0 (.int .i64 0) rfl
  have dF := bc w35 ah 1 (.int .i64 0) rfl
  have dG := bc w35 ah 2 (.int .i64 0) rfl
  have dH := bc w35 ah 3 (.int .i64 0) rfl
  have dI := bc w35 ah 4 (.int .i64 0) rfl
  have dJ := fz ah 0
  have dK := fz ah 1
  have dL := fz ah 2
  have dM := fz ah 3
  have dN := fz ah 4
  have eJ := aE.out
  have eK := ax.out
  have eL := aC.out
  have eM := aB.out
  have dO := bc w35 af 0 (.int .i64 (wrap64 (2 + ao))) rfl
  have dP := bc w35 af 1 (u114001) rfl
  have dQ := fz af 0
  have dR := fz af 1
  try go_wp2_with (first | ((with_reducible refine gate_dst (N := 49) rfl ?_); (fail_if_success clear hW_); refine spec_l30Net.fix_world (g := ab) (o := .cells #[.int .i64 ag, .int .i64 (Int.tmod (wrap64 (ai + 1)) (wrap64 (2 + ao))), .int .i64 am, .int .i64 au, .int .i64 av] 58 (0, 0)) (by refine qZi (cs := #[.int .i64 ag, .int .i64 ai, .int .i64 am, .int .i64 au, .int .i64 av]) ?_ 1 _ rfl; refine qZi (cs := #[.int .i64 ag, .int .i64 ai, .int .i64 am, .int .i64 au, .int .i64 0]) ?_ 4 _ rfl; refine qZi (cs := #[.int .i64 ag, .int .i64 ai, .int .i64 am, .int .i64 0, .int .i64 0]) ?_ 3 _ rfl; refine qZi (cs := #[.int .i64 ag, .int .i64 ai, .int .i64 0, .int .i64 0, .int .i64 0]) ?_ 2 _ rfl; refine qZi (cs := #[.int .i64 ag, .int .i64 0, .int .i64 0, .int .i64 0, .int .i64 0]) ?_ 1 _ rfl; refine qZi (cs := #[.int .i64 0, .int .i64 0, .int .i64 0, .int .i64 0, .int .i64 0]) ?_ 0 _ rfl; exact ah.out) ?_; intro W_ hW_ hBW_; have bw : W_.cell? ⟨ab, 0, none⟩ = some (.int .i64 ag) := (qZb hBW_ 0).trans rfl; have bx : W_.cell? ⟨ab, 1, none⟩ = some (.int .i64 (Int.tmod (wrap64 (ai + 1)) (wrap64 (2 + ao)))) := (qZb hBW_ 1).trans rfl; have bz : W_.cell? ⟨ab, 2, none⟩ = some (.int .i64 am) := (qZb hBW_ 2).trans rfl; have bA : W_.cell? ⟨ab, 3, none⟩ = some (.int .i64 au) := (qZb hBW_ 3).trans rfl; have bB : W_.cell? ⟨ab, 4, none⟩ = some (.int .i64 av) := (qZb hBW_ 4).trans rfl) | ((with_reducible refine gate_dst (N := 50) rfl ?_); clear hBW_ bw bx bz bA bB; subst hW_) | ((with_reducible refine gate_builtin (b := .append) (xs := #[.tmp 48, .tmp 50]) rfl ?_); at_builtin; refine Kd.R_append k58 w.heap.size rfl (.tmp 48) (.tmp 50) 23 58 (.agg #[(.int .i64 0), (.int .i64 0), (.int .i64 0), (.int .i64 0), (.int .i64 0)]) 40 rfl Try.underlying23 info58 rfl (by decide) (by omega) u114001 ad (⟨ag, Int.tmod (wrap64 (ai + 1)) (wrap64 (2 + ao)), am, au, av⟩ : S58) [.int .i64 ag, .int .i64 (Int.tmod (wrap64 (ai + 1)) (wrap64 (2 + ao))), .int .i64 am, .int .i64 au, .int .i64 av] (fun k_ => k_ ≠ ab) (fun _ => False) rfl (by (go_simp; done)) ?aP (fun _ hk => hk.elim) ?aF ?aO (Below.refl _ _) ?aS ?aL ?_; (case aP => exact k58_mkM _ _ _ (⟨ag, Int.tmod (wrap64 (ai + 1)) (wrap64 (2 + ao)), am, au, av⟩ : S58)); (case aF => exact (fun k_ hk => Kd.freshB (g := ab) (o := .cells #[.int .i64 ag, .int .i64 (Int.tmod (wrap64 (ai + 1)) (wrap64 (2 + ao))), .int .i64 am, .int .i64 au, .int .i64 av] 58 (0, 0)) (by refine qZi (cs := #[.int .i64 ag, .int .i64 ai, .int .i64 am, .int .i64 au, .int .i64 av]) ?_ 1 _ rfl; refine qZi (cs := #[.int .i64 ag, .int .i64 ai, .int .i64 am, .int .i64 au, .int .i64 0]) ?_ 4 _ rfl; refine qZi (cs := #[.int .i64 ag, .int .i64 ai, .int .i64 am, .int .i64 0, .int .i64 0]) ?_ 3 _ rfl; refine qZi (cs := #[.int .i64 ag, .int .i64 ai, .int .i64 0, .int .i64 0, .int .i64 0]) ?_ 2 _ rfl; refine qZi (cs := #[.int .i64 ag, .int .i64 0, .int .i64 0, .int .i64 0, .int .i64 0]) ?_ 1 _ rfl; refine qZi (cs := #[.int .i64 0, .int .i64 0, .int .i64 0, .int .i64 0, .int .i64 0]) ?_ 0 _ rfl; exact ah.out) k_ hk)); (case aO => exact (by exact Kd.R_mono (Kd.R_far (p := ⟨ab, 1, none⟩) (Kd.R_far (p := ⟨ab, 4, none⟩) (Kd.R_far (p := ⟨ab, 3, none⟩) (Kd.R_far (p := ⟨ab, 2, none⟩) (Kd.R_far (p := ⟨ab, 1, none⟩) (Kd.R_far (p := ⟨ab, 0, none⟩) (Kd.R_mono ac.out (fun k_ hk => (⟨hk, hk⟩ : _ ∧ k_ ≠ ab))) (fun _ hk => hk.2) (.int .i64 ag)) (fun _ hk => hk.2) (.int .i64 ai)) (fun _ hk => hk.2) (.int .i64 am)) (fun _ hk => hk.2) (.int .i64 au)) (fun _ hk => hk.2) (.int .i64 av)) (fun _ hk => hk.2) (.int .i64 (Int.tmod (wrap64 (ai + 1)) (wrap64 (2 + ao))))) (fun _ hk => hk.1))); (case aS => exact (qQa (w := w) (g := g) (row := none) (by repeat ((with_reducible first | exact HK.out | refine keep_far ?_ aX.out _))))); (case aL => have := ci.out; omega); intro fe w48 ho hb hg hat; rw [← cj.out] at ho; have n0_ := ak (qZg (g := ap) (o := .cells #[.int .i64 0, .slice none 0 0] 25 (0, 0)) (by refine blk_far ?_ ae.out _; refine blk_far ?_ ae.out _; refine blk_far ?_ ae.out _; refine blk_far ?_ ae.out _; refine blk_far ?_ ae.out _; refine blk_far ?_ ae.out _; exact al.out) hg (Kd.R_ne ac.out al.out (by decide))); have n1_ := ak (qZg (g := aj) (o := .cells #[.int .i64 (wrap64 (2 + ao)), u114001] 25 (0, 0)) (by refine blk_far ?_ aa.out _; refine blk_far ?_ aa.out _; refine blk_far ?_ aa.out _; refine blk_far ?_ aa.out _; refine blk_far ?_ aa.out _; refine blk_far ?_ aa.out _; exact af.out) hg (Kd.R_ne ac.out af.out (by decide))); have n2_ := ak (IsS95.grown (w0 := w0) (f0 := aw) (f1 := aG) (by repeat ((with_reducible first | exact HI0.out | refine IsS95.far ?_ aK.out _))) hg (IsS95.own_ne HI0.out ac.out (by decide))); have n5_ := ak (qZg (g := ab) (o := .cells #[.int .i64 ag, .int .i64 (Int.tmod (wrap64 (ai + 1)) (wrap64 (2 + ao))), .int .i64 am, .int .i64 au, .int .i64 av] 58 (0, 0)) (by refine qZi (cs := #[.int .i64 ag, .int .i64 ai, .int .i64 am, .int .i64 au, .int .i64 av]) ?_ 1 _ rfl; refine qZi (cs := #[.int .i64 ag, .int .i64 ai, .int .i64 am, .int .i64 au, .int .i64 0]) ?_ 4 _ rfl; refine qZi (cs := #[.int .i64 ag, .int .i64 ai, .int .i64 am, .int .i64 0, .int .i64 0]) ?_ 3 _ rfl; refine qZi (cs := #[.int .i64 ag, .int .i64 ai, .int .i64 0, .int .i64 0, .int .i64 0]) ?_ 2 _ rfl; refine qZi (cs := #[.int .i64 ag, .int .i64 0, .int .i64 0, .int .i64 0, .int .i64 0]) ?_ 1 _ rfl; refine qZi (cs := #[.int .i64 0, .int .i64 0, .int .i64 0, .int .i64 0, .int .i64 0]) ?_ 0 _ rfl; exact ah.out) hg (Kd.R_away ac.out (fun _ hk => hk))); have n6_ := ak (below_weaken (by repeat ((with_reducible first | exact HB.out | refine below_set ?_ bv.out))) HL.out hb); have n7_ := ak (KeepBut.trans (by repeat ((with_reducible first | exact HK.out | refine keep_far ?_ aX.out _))) (KeepBut.of_grown hg g) (Kd.R_base2 ac.out)); have n8_ := ak (ho); clear al; clear af; clear HI0; clear ah; clear HB; clear HK; clear ac; have al := n0_; have af := n1_; have HI0 := n2_; have ah := n5_; have HB := n6_; have HK := n7_; have bM := n8_; clear n0_ n1_ n2_ n5_ n6_ n7_ n8_; clear ho hb hg hat; obtain ⟨ck, cl, ec⟩ := Kd.R_slice bM.out; subst ec; have dS := bc w48 af 0 (.int .i64 (wrap64 (2 + ao))) rfl; have dT := bc w48 af 1 (u114001) rfl; have dU := fz af 0; have dV := fz af 1))
  go_roundg k1
  case measure => have := HK1.out; omega
  case rel => exact ⟨(wrap64 (aJ - 1)), (aG), (bG), (.slice ck bG.length cl), (by rfl), H', ⟨by have := HK1.out; omega⟩, ⟨by exact Kd.R_mono (Kd.R_far (p := ⟨aj, 1, none⟩) (Kd.R_types bM.out af.out (by decide)) (fun _ hk => hk.2) (.slice ck bG.length cl)) (fun _ hk => trivial)⟩, ⟨by refine blk_far ?_ ax.out _; exact al.out⟩, ⟨by refine qZi (cs := #[.int .i64 (wrap64 (2 + ao)), u114001]) ?_ 1 _ rfl; exact af.out⟩, ⟨by repeat ((with_reducible first | exact HI0.out | refine IsS95.far ?_ aB.out _))⟩, ⟨by repeat ((with_reducible first | exact HK.out | refine keep_far ?_ bg.out _))⟩, ⟨by repeat ((with_reducible first | exact HB.out | refine below_set ?_ bh.out))⟩⟩
/-! ### spec_l30AnyNet: function 45 -/
def spec_l30AnyNet.f (k : Nat) (aj : List Int) (ay : Int) : Option (Int × (List (S58)) × Int) := (spec_l30Net.f k aj ay).bind fun ah => (if (ah.2.1.length : Int) > 0 then ((spec_l30Rd_pick.f k aj ah.2.2 (ah.2.1.length : Int)).bind fun an => ((spec_l30Rd_pick.f k aj an.2 16).bind fun aw => (if aw.1 = 0 then (if 0 ≤ an.1 then (if an.1 < (ah.2.1.length : Int) then ((spec_l30Rd_one.f k aj aw.2 (([(-1), 8, (qZa ah.2.1 an.1).f0] : List Int))).bind fun aK => (some (ah.1, (ah.2.1.set (an.1 : Int).toNat (⟨(qZa ah.2.1 an.1).f0, aK.1, (qZa ah.2.1 an.1).f2, (qZa ah.2.1 an.1).f3, (qZa ah.2.1 an.1).f4⟩ : S58)), aK.2))) else (none)) else (none)) else (if aw.1 = 1 then ((spec_l30Rd_one.f k aj aw.2 (([(-1), 100] : List Int))).bind fun aL => (if 0 ≤ an.1 then (if an.1 < (ah.2.1.length : Int) then (some (ah.1, (ah.2.1.set (an.1 : Int).toNat (⟨(qZa ah.2.1 an.1).f0, (qZa ah.2.1 an.1).f1, aL.1, (qZa ah.2.1 an.1).f3, (qZa ah.2.1 an.1).f4⟩ : S58)), aL.2)) else (none)) else (none))) else (if aw.1 = 2 then ((spec_l30Rd_one.f k aj aw.2 (([0, 1, 9, 8] : List Int))).bind fun aM => (some (aM.1, ah.2.1, aM.2))) else (some (ah.1, ah.2.1, aw.2))))))) else (some (ah.1, ah.2.1, ah.2.2)))
theorem spec_l30AnyNet.mono : ∀ a0 a1 k, LeO (spec_l30AnyNet.f k a0 a1) (spec_l30AnyNet.f (k + 1) a0 a1) := by
 intro a0 a1 k
 unfold spec_l30AnyNet.f
 repeat' first | (with_reducible exact spec_l30Net.mono _ _ _) | (with_reducible exact spec_l30Rd_one.mono _ _ _ _) | (with_reducible exact spec_l30Rd_pick.mono _ _ _ _) | (with_reducible exact LeO.refl _) | (with_reducible refine LeO.ite ?_ ?_) | (with_reducible refine LeO.bind ?_ (fun _ => ?_))
def spec_l30AnyNet.T6 : Bool × List (List Nat × List Nat) := (true, [([], []), ([0], [0]), ([], []), ([], []), ([], []), ([4], [4]), ([], []), ([5, 6], [5, 6]), ([7], [7]), ([8], [8]), ([9], [9]), ([3, 10], [3, 10]), ([1, 2, 0, 1, 2, 3, 4, 5, 6, 7, 8, 9, 10, 11], [1, 2]), ([12, 0, 1, 2, 3, 4, 5, 6, 7, 8, 9, 10, 11], [12]), ([13, 11, 11, 0, 1, 2, 3, 4, 5, 6, 7, 8, 9, 10, 11], [11, 13])])
def spec_l30AnyNet.B6 : List Nat := [0, 1, 0, 0, 0, 16, 0, 112, 240, 496, 1008, 2040, 4095, 8191, 16383]
theorem spec_l30AnyNet.tab6 : rtab .any (qKd Try.f45 6) = spec_l30AnyNet.T6 := by kernel_rfl
theorem spec_l30AnyNet.bits6 : qJf spec_l30AnyNet.T6.2 spec_l30AnyNet.B6 = true := by kernel_rfl
def spec_l30AnyNet.T8 : Bool × List (List Nat × List Nat) := (true, [([], []), ([0], [0]), ([], []), ([], []), ([], []), ([3, 4], [3, 4]), ([1, 2, 0, 1, 2, 3, 4, 5], [1, 2]), ([6, 0, 1, 2, 3, 4, 5], [6]), ([7, 5, 5, 0, 1, 2, 3, 4, 5], [5, 7])])
def spec_l30AnyNet.B8 : List Nat := [0, 1, 0, 0, 0, 24, 63, 127, 255]
theorem spec_l30AnyNet.tab8 : rtab .any (qKd Try.f45 8) = spec_l30AnyNet.T8 := by kernel_rfl
theorem spec_l30AnyNet.bits8 : qJf spec_l30AnyNet.T8.2 spec_l30AnyNet.B8 = true := by kernel_rfl
set_option maxHeartbeats 8000000 in
set_option maxRecDepth 100000 in
theorem spec_l30AnyNet.calls (k : Nat) (g : Nat) (aj : List Int) (ay : Int) (r1 : Int) (r2 : List (S58)) (r3 : Int) (w0 w : World) (hI : IsS95 w0 w g aj ay) (hB : Below w0.heap.size w0 w) (h : spec_l30AnyNet.f k aj ay = some (r1, r2, r3)) :
  Calls Try.prog 45 #[.pointer (some ⟨g, 0, none⟩)] w fun e w' => ∃ v1_ : Value, e = .returned (.agg #[.int .i64 r1, v1_]) ∧ Kd.R k58 58 w' w.heap.size (fun _ => True) v1_ r2 ∧ IsS95 w0 w' g aj r3 ∧ Below w0.heap.size w0 w' ∧ KeepBut w w' g none := by
 have eR := Try.underlying25
 have HI0 := ak hI
 have HK := ak (KeepBut.refl w g none)
 have HL := ak hB.size
 clear hI
 have HW0 := ak hB.size
 have HB := ak hB
 clear hB
 have H : ((spec_l30Net.f k aj ay).bind fun ah => (if (ah.2.1.length : Int) > 0 then ((spec_l30Rd_pick.f k aj ah.2.2 (ah.2.1.length : Int)).bind fun an => ((spec_l30Rd_pick.f k aj an.2 16).bind fun aw => (if aw.1 = 0 then (if 0 ≤ an.1 then (if an.1 < (ah.2.1.length : Int) then ((spec_l30Rd_one.f k aj aw.2 (([(-1), 8, (qZa ah.2.1 an.1).f0] : List Int))).bind fun aK => (some (ah.1, (ah.2.1.set (an.1 : Int).toNat (⟨(qZa ah.2.1 an.1).f0, aK.1, (qZa ah.2.1 an.1).f2, (qZa ah.2.1 an.1).f3, (qZa ah.2.1 an.1).f4⟩ : S58)), aK.2))) else (none)) else (none)) else (if aw.1 = 1 then ((spec_l30Rd_one.f k aj aw.2 (([(-1), 100] : List Int))).bind fun aL => (if 0 ≤ an.1 then (if an.1 < (ah.2.1.length : Int) then (some (ah.1, (ah.2.1.set (an.1 : Int).toNat (⟨(qZa ah.2.1 an.1).f0, (qZa ah.2.1 an.1).f1, aL.1, (qZa ah.2.1 an.1).f3, (qZa ah.2.1 an.1).f4⟩ : S58)), aL.2)) else (none)) else (none))) else (if aw.1 = 2 then ((spec_l30Rd_one.f k aj aw.2 (([0, 1, 9, 8] : List Int))).bind fun aM => (some (aM.1, ah.2.1, aM.2))) else (some (ah.1, ah.2.1, aw.2))))))) else (some (ah.1, ah.2.1, ah.2.2)))) = some (r1, r2, r3) := h
 clear h
 replace H := Option.bind_eq_some_iff.mp H
 obtain ⟨⟨ao, ae, ax⟩, A20, H⟩ := H
 have A2 := ak A20
 clear A20
 by_cases c3 : (ae.length : Int) > 0
 rotate_left
 ·rw [if_neg c3] at H
  have c3b0 : decide (0 < (ae.length : Int)) = false := decide_eq_false c3
  have c3b1 : decide (0 < ae.length) = false := decide_eq_false (by omega)
  clear c3
  simp only [Option.some.injEq, Prod.mk.injEq] at H
  obtain ⟨rfl, rfl, rfl⟩ := H
  go_enter Try.func45, Try.ntmps45
  go_wp2_with (first | ((with_reducible refine gate_dst (N := 2) rfl ?_); refine qZj ?hg (N := 2) ?hd (cs := #[.int .i64 0, .slice none 0 0]) (t := 25) ?hr ?_; (case hd => rfl); (case hg => rfl); (case hr => (go_simp; done)); intro af hg w84 hbox hb; replace HB := ak (qZd (by repeat ((with_reducible exact HB.out))) hb); have aa := ak (hbox); have aE := ak ((by rw [hg]; exact (qQa (w := w) (g := g) (row := none) (by repeat ((with_reducible exact HK.out)))) : w.heap.size ≤ af)); have aF := ak ((Nat.le_trans HW0.out (by rw [hg]; exact (qQa (w := w) (g := g) (row := none) (by repeat ((with_reducible exact HK.out)))) : w.heap.size ≤ af) : w0.heap.size ≤ af)); replace HK := ak (KeepBut.trans (by repeat ((with_reducible exact HK.out))) (KeepBut.of_below hb g none) (.inl rfl)); have aq := ak ((by rw [hg]; exact Nat.ne_of_lt (IsS95.lt (show IsS95 w0 _ g aj ay from by repeat ((with_reducible exact HI0.out)))) : g ≠ af)); have al := ak ((by rw [hg]; exact Nat.ne_of_gt (IsS95.lt (show IsS95 w0 _ g aj ay from by repeat ((with_reducible exact HI0.out)))) : af ≠ g)); replace HI0 := ak (IsS95.below (by repeat ((with_reducible exact HI0.out))) hb); clear hb hbox hg) | ((with_reducible refine gate_callee (f := 86) rfl ?_); refine qQj (some 6) rfl rfl Try.func86 (by kernel_rfl) rfl #[.pointer (some ⟨g, 0, none⟩)] rfl (by (try simp only [List.map_toArray, List.map_cons, List.map_nil]); rfl) ?_; (with_reducible refine (spec_l30Net.calls k g aj ay ao ae ax w0 _ ?side1 ?side2 A2.out).mono ?_); (case side1 => repeat ((with_reducible exact HI0.out))); (case side2 => repeat ((with_reducible exact HB.out))); rintro e w85 ⟨bq, rfl, ho0, hi, hb, hk⟩; refine ⟨_, rfl, ?_⟩; replace aa := ak (KeepBut.blk hk (g' := af) (o := .cells #[.int .i64 0, .slice none 0 0] 25 (0, 0)) (bk aa) al.out (by simp)); have ad := ak (Kd.R_lower ho0 (qQa (w := w) (g := g) (row := none) (by repeat ((with_reducible exact HK.out))))); replace HK := ak (KeepBut.trans (by repeat ((with_reducible exact HK.out))) hk (.inl rfl)); replace HB := ak (hb); replace HI0 := ak (hi); (try clear hb); (try clear hb2); (try clear hk); (try clear hi); (try clear ho0)) | ((with_reducible refine gate_dst (N := 3) rfl ?_); refine qZj ?hg (N := 3) ?hd (cs := #[.int .i64 0, .slice none 0 0]) (t := 25) ?hr ?_; (case hd => rfl); (case hg => rfl); (case hr => (go_simp; done)); intro ag hg w86 hbox hb; replace ad := ak (Kd.R_below (rk ad) hb); replace HB := ak (qZd (by repeat ((with_reducible exact HB.out))) hb); have ab := ak (hbox); have aC := ak ((by rw [hg]; exact (qQa (w := w) (g := g) (row := none) (by repeat ((with_reducible exact HK.out)))) : w.heap.size ≤ ag)); have aD := ak ((Nat.le_trans HW0.out (by rw [hg]; exact (qQa (w := w) (g := g) (row := none) (by repeat ((with_reducible exact HK.out)))) : w.heap.size ≤ ag) : w0.heap.size ≤ ag)); replace HK := ak (KeepBut.trans (by repeat ((with_reducible exact HK.out))) (KeepBut.of_below hb g none) (.inl rfl)); have ai := ak ((by rw [hg]; exact Nat.ne_of_lt (qZh (bk aa)) : af ≠ ag)); have ar := ak ((by rw [hg]; exact Nat.ne_of_gt (qZh (bk aa)) : ag ≠ af)); replace aa := ak (qZe (bk aa) hb); have ap := ak ((by rw [hg]; exact Nat.ne_of_lt (IsS95.lt (show IsS95 w0 _ g aj ax from by repeat ((with_reducible exact HI0.out)))) : g ≠ ag)); have am := ak ((by rw [hg]; exact Nat.ne_of_gt (IsS95.lt (show IsS95 w0 _ g aj ax from by repeat ((with_reducible exact HI0.out)))) : ag ≠ g)); replace HI0 := ak (IsS95.below (by repeat ((with_reducible exact HI0.out))) hb); clear hb hbox hg; have en := ar.out; have eo := ai.out; have ep := am.out; have eq := ap.out; have ct := bc w86 ab 0 (.int .i64 0) rfl; have cu := bc w86 ab 1 (.slice none 0 0) rfl; have cv := fz ab 0; have cw := fz ab 1; obtain ⟨bw, bx, dz⟩ := Kd.R_slice ad.out; subst dz; have er := al.out; have es := aq.out; have cx := bc w86 aa 0 (.int .i64 0) rfl; have cy := bc w86 aa 1 (.slice none 0 0) rfl; have cz := fz aa 0; have cA := fz aa 1))
  refine bodyPost_ret (results_cell_row rfl _ _ af 25 #[.int .i64 ao, .slice bw ae.length bx] (0, 0) _ rfl (by refine qZi (cs := #[.int .i64 ao, .slice none 0 0]) ?_ 1 _ rfl; refine qZi (cs := #[.int .i64 0, .slice none 0 0]) ?_ 0 _ rfl; refine blk_far ?_ ai.out _; refine blk_far ?_ ai.out _; exact aa.out) Try.underlying25 rfl (by kernel_rfl)) rfl ?_
  exact ⟨_, by rfl, by exact Kd.R_mono (Kd.R_far (p := ⟨af, 1, none⟩) (Kd.R_far (p := ⟨af, 0, none⟩) (Kd.R_far (p := ⟨ag, 1, none⟩) (Kd.R_far (p := ⟨ag, 0, none⟩) (Kd.R_types (Kd.R_types ad.out ab.out (by decide)) aa.out (by decide)) (fun _ hk => hk.1.2) (.int .i64 ao)) (fun _ hk => hk.1.2) (.slice bw ae.length bx)) (fun _ hk => hk.2) (.int .i64 ao)) (fun _ hk => hk.2) (.slice bw ae.length bx)) (fun _ hk => trivial), by repeat ((with_reducible first | exact HI0.out | refine IsS95.far ?_ aq.out _ | refine IsS95.far ?_ ap.out _)), by repeat ((with_reducible first | exact HB.out | refine below_set ?_ aF.out | refine below_set ?_ aD.out)), by repeat ((with_reducible first | exact HK.out | refine keep_far ?_ aE.out _ | refine keep_far ?_ aC.out _))⟩
 rw [if_pos c3] at H
 have c3b0 : decide (0 < (ae.length : Int)) = true := decide_eq_true c3
 have c3b1 : decide (0 < ae.length) = true := decide_eq_true (by omega)
 clear c3
 replace H := Option.bind_eq_some_iff.mp H
 obtain ⟨⟨ac, aN⟩, A40, H⟩ := H
 have A4 := ak A40
 clear A40
 replace H := Option.bind_eq_some_iff.mp H
 obtain ⟨⟨az, aB⟩, A50, H⟩ := H
 have A5 := ak A50
 clear A50
 by_cases c6 : az = 0
 ·rw [if_pos c6] at H
  have c6b0 : (az == 0) = true := beq_iff_eq.mpr c6
  have c6b1 : (az != 0) = false := bne_eq_false_iff_eq.mpr c6
  clear c6
  by_cases c7 : 0 ≤ ac
  rotate_left
  ·rw [if_neg c7] at H
   exact absurd H (by simp)
  rw [if_pos c7] at H
  have c7b0 : decide (0 ≤ ac) = true := decide_eq_true c7
  clear c7
  by_cases c8 : ac < (ae.length : Int)
  rotate_left
  ·rw [if_neg c8] at H
   exact absurd H (by simp)
  rw [if_pos c8] at H
  have c8b0 : decide (ac < (ae.length : Int)) = true := decide_eq_true c8
  clear c8
  obtain ⟨bf, bg⟩ : ∃ y_ : List Int, y_ = (([(-1), 8, (qZa ae ac).f0] : List Int)) := ⟨_, rfl⟩
  replace H : ((spec_l30Rd_one.f k aj aB bf).bind fun aK => (some (ao, (ae.set (ac : Int).toNat (⟨(qZa ae ac).f0, aK.1, (qZa ae ac).f2, (qZa ae ac).f3, (qZa ae ac).f4⟩ : S58)), aK.2))) = some (r1, r2, r3) := by (rw [bg]; with_reducible exact H)
  have bQ := ak bg
  clear bg
  replace H := Option.bind_eq_some_iff.mp H
  obtain ⟨⟨aG, bz⟩, A90, H⟩ := H
  have A9 := ak A90
  clear A90
  obtain ⟨bR, bh⟩ : ∃ y_ : List (S58), y_ = (ae.set (ac : Int).toNat (⟨(qZa ae ac).f0, aG, (qZa ae ac).f2, (qZa ae ac).f3, (qZa ae ac).f4⟩ : S58)) := ⟨_, rfl⟩
  replace H : (some (ao, bR, bz)) = some (r1, r2, r3) := by (rw [bh]; with_reducible exact H)
  have bS := ak bh
  clear bh
  simp only [Option.some.injEq, Prod.mk.injEq] at H
  obtain ⟨rfl, rfl, rfl⟩ := H
  go_enter Try.func45, Try.ntmps45
  try go_wp2_with (first | ((with_reducible refine gate_dst (N := 2) rfl ?_); refine qZj ?hg (N := 2) ?hd (cs := #[.int .i64 0, .slice none 0 0]) (t := 25) ?hr ?_; (case hd => rfl); (case hg => rfl); (case hr => (go_simp; done)); intro af hg w11 hbox hb; replace HB := ak (qZd (by repeat ((with_reducible exact HB.out))) hb); have aa := ak (hbox); have aE := ak ((by rw [hg]; exact (qQa (w := w) (g := g) (row := none) (by repeat ((with_reducible exact HK.out)))) : w.heap.size ≤ af)); have aF := ak ((Nat.le_trans HW0.out (by rw [hg]; exact (qQa (w := w) (g := g) (row := none) (by repeat ((with_reducible exact HK.out)))) : w.heap.size ≤ af) : w0.heap.size ≤ af)); replace HK := ak (KeepBut.trans (by repeat ((with_reducible exact HK.out))) (KeepBut.of_below hb g none) (.inl rfl)); have aq := ak ((by rw [hg]; exact Nat.ne_of_lt (IsS95.lt (show IsS95 w0 _ g aj ay from by repeat ((with_reducible exact HI0.out)))) : g ≠ af)); have al := ak ((by rw [hg]; exact Nat.ne_of_gt (IsS95.lt (show IsS95 w0 _ g aj ay from by repeat ((with_reducible exact HI0.out)))) : af ≠ g)); replace HI0 := ak (IsS95.below (by repeat ((with_reducible exact HI0.out))) hb); clear hb hbox hg) | ((with_reducible refine gate_callee (f := 86) rfl ?_); refine qQj (some 6) rfl rfl Try.func86 (by kernel_rfl) rfl #[.pointer (some ⟨g, 0, none⟩)] rfl (by (try simp only [List.map_toArray, List.map_cons, List.map_nil]); rfl) ?_; (with_reducible refine (spec_l30Net.calls k g aj ay ao ae ax w0 _ ?side1 ?side2 A2.out).mono ?_); (case side1 => repeat ((with_reducible exact HI0.out))); (case side2 => repeat ((with_reducible exact HB.out))); rintro e w12 ⟨bq, rfl, ho0, hi, hb, hk⟩; refine ⟨_, rfl, ?_⟩; replace aa := ak (KeepBut.blk hk (g' := af) (o := .cells #[.int .i64 0, .slice none 0 0] 25 (0, 0)) (bk aa) al.out (by simp)); have ad := ak (Kd.R_lower ho0 (qQa (w := w) (g := g) (row := none) (by repeat ((with_reducible exact HK.out))))); replace HK := ak (KeepBut.trans (by repeat ((with_reducible exact HK.out))) hk (.inl rfl)); replace HB := ak (hb); replace HI0 := ak (hi); (try clear hb); (try clear hb2); (try clear hk); (try clear hi); (try clear ho0)) | ((with_reducible refine gate_dst (N := 3) rfl ?_); refine qZj ?hg (N := 3) ?hd (cs := #[.int .i64 0, .slice none 0 0]) (t := 25) ?hr ?_; (case hd => rfl); (case hg => rfl); (case hr => (go_simp; done)); intro ag hg w13 hbox hb; replace ad := ak (Kd.R_below (rk ad) hb); replace HB := ak (qZd (by repeat ((with_reducible exact HB.out))) hb); have ab := ak (hbox); have aC := ak ((by rw [hg]; exact (qQa (w := w) (g := g) (row := none) (by repeat ((with_reducible exact HK.out)))) : w.heap.size ≤ ag)); have aD := ak ((Nat.le_trans HW0.out (by rw [hg]; exact (qQa (w := w) (g := g) (row := none) (by repeat ((with_reducible exact HK.out)))) : w.heap.size ≤ ag) : w0.heap.size ≤ ag)); replace HK := ak (KeepBut.trans (by repeat ((with_reducible exact HK.out))) (KeepBut.of_below hb g none) (.inl rfl)); have ai := ak ((by rw [hg]; exact Nat.ne_of_lt (qZh (bk aa)) : af ≠ ag)); have ar := ak ((by rw [hg]; exact Nat.ne_of_gt (qZh (bk aa)) : ag ≠ af)); replace aa := ak (qZe (bk aa) hb); have ap := ak ((by rw [hg]; exact Nat.ne_of_lt (IsS95.lt (show IsS95 w0 _ g aj ax from by repeat ((with_reducible exact HI0.out)))) : g ≠ ag)); have am := ak ((by rw [hg]; exact Nat.ne_of_gt (IsS95.lt (show IsS95 w0 _ g aj ax from by repeat ((with_reducible exact HI0.out)))) : ag ≠ g)); replace HI0 := ak (IsS95.below (by repeat ((with_reducible exact HI0.out))) hb); clear hb hbox hg; have et := ar.out; have eu := ai.out; have ev := am.out; have ew := ap.out; have cB := bc w13 ab 0 (.int .i64 0) rfl; have cC := bc w13 ab 1 (.slice none 0 0) rfl; have cD := fz ab 0; have cE := fz ab 1; obtain ⟨bA, aO, dA⟩ := Kd.R_slice ad.out; subst dA) | ((with_reducible refine gate_callee (f := 87) rfl ?_); refine qQj (some 15) rfl rfl Try.func87 (by kernel_rfl) rfl #[.pointer (some ⟨g, 0, none⟩), .int .i64 (ae.length : Int)] rfl (by (try simp only [List.map_toArray, List.map_cons, List.map_nil]); rfl) ?_; (with_reducible refine (spec_l30Rd_pick.calls k g aj ax (ae.length : Int) ac aN w0 _ ?side1 ?side2 A4.out).mono ?_); (case side1 => repeat ((with_reducible first | exact HI0.out | refine IsS95.far ?_ ap.out _))); (case side2 => repeat ((with_reducible first | exact HB.out | refine below_set ?_ aD.out))); rintro e w18 ⟨rfl, hi, hb, hk⟩; refine ⟨_, rfl, ?_⟩; replace aa := ak (KeepBut.blk hk (g' := af) (o := .cells #[.int .i64 0, .slice none 0 0] 25 (0, 0)) (by refine blk_far ?_ ai.out _; refine blk_far ?_ ai.out _; exact aa.out) al.out (by simp)); replace ad := ak (Kd.R_mono (Kd.R_keep (IsS95.apart (show IsS95 w0 _ g aj ax from by repeat ((with_reducible first | exact HI0.out | refine IsS95.far ?_ ap.out _))) (by exact (Kd.R_mono (Kd.R_far (p := ⟨ag, 1, none⟩) (Kd.R_far (p := ⟨ag, 0, none⟩) (Kd.R_types ad.out ab.out (by decide)) (fun _ hk => hk.2) (.int .i64 ao)) (fun _ hk => hk.2) (.slice bA ae.length aO)) (fun _ h_ => h_.1))) (by decide)) hk (fun _ h => h.2)) (fun _ h => h.1)); replace ab := ak (KeepBut.blk hk (g' := ag) (o := .cells #[.int .i64 ao, .slice bA ae.length aO] 25 (0, 0)) (by refine qZi (cs := #[.int .i64 ao, .slice none 0 0]) ?_ 1 _ rfl; refine qZi (cs := #[.int .i64 0, .slice none 0 0]) ?_ 0 _ rfl; exact ab.out) am.out (by simp)); replace HK := ak (KeepBut.trans (by repeat ((with_reducible first | exact HK.out | refine keep_far ?_ aC.out _))) hk (.inl rfl)); replace HB := ak (hb); replace HI0 := ak (hi); (try clear hb); (try clear hb2); (try clear hk); (try clear hi)) | ((with_reducible refine gate_callee (f := 87) rfl ?_); refine qQj (some 17) rfl rfl Try.func87 (by kernel_rfl) rfl #[.pointer (some ⟨g, 0, none⟩), .int .i64 16] rfl (by (try simp only [List.map_toArray, List.map_cons, List.map_nil]); rfl) ?_; (with_reducible refine (spec_l30Rd_pick.calls k g aj aN 16 az aB w0 _ ?side1 ?side2 A5.out).mono ?_); (case side1 => repeat ((with_reducible exact HI0.out))); (case side2 => repeat ((with_reducible exact HB.out))); rintro e w19 ⟨rfl, hi, hb, hk⟩; refine ⟨_, rfl, ?_⟩; replace aa := ak (KeepBut.blk hk (g' := af) (o := .cells #[.int .i64 0, .slice none 0 0] 25 (0, 0)) (bk aa) al.out (by simp)); replace ad := ak (Kd.R_mono (Kd.R_keep (IsS95.apart (show IsS95 w0 _ g aj aN from by repeat ((with_reducible exact HI0.out))) (rk ad) (by decide)) hk (fun _ h => h.2)) (fun _ h => h.1)); replace ab := ak (KeepBut.blk hk (g' := ag) (o := .cells #[.int .i64 ao, .slice bA ae.length aO] 25 (0, 0)) (bk ab) am.out (by simp)); replace HK := ak (KeepBut.trans (by repeat ((with_reducible exact HK.out))) hk (.inl rfl)); replace HB := ak (hb); replace HI0 := ak (hi); (try clear hb); (try clear hb2); (try clear hk); (try clear hi)))
  replace ad := ak (Kd.R_drew ad.out)
  replace aa := ak (qZp aa.out)
  replace ab := ak (qZp ab.out)
  replace HI0 := ak (IsS95.drew HI0.out)
  replace HK := ak (qWk HK.out)
  replace HB := ak (qZo HB.out)
  have bB : 0 ≤ (ac : Int) := oT (by (with_reducible assumption))
  have bC : ac < (ae.length : Int) := oT (by (with_reducible assumption))
  obtain ⟨aA, dB, aV, aW, aX, aY, aZ⟩ := qJk (Kd.R_reads' ad.out).2.2 ac bB bC
  cases dB
  replace bB := eq_true bB
  replace bC := eq_true bC
  refine qJd (n := 15) (S := fun w' => w'.cell? ⟨ag, 0, none⟩ = some (.int .i64 ao) ∧ w'.cell? ⟨ag, 1, none⟩ = some (.slice (some aA) ae.length aO) ∧ w'.cell? (aA.add ((ac).toNat * 5)) = some (.int .i64 ((qZa ae ac).f0)) ∧ w'.cell? ⟨(aA.add ((ac).toNat * 5)).block, (aA.add ((ac).toNat * 5)).off + 1, none⟩ = some (.int .i64 ((qZa ae ac).f1)) ∧ w'.cell? ⟨(aA.add ((ac).toNat * 5)).block, (aA.add ((ac).toNat * 5)).off + 2, none⟩ = some (.int .i64 ((qZa ae ac).f2)) ∧ w'.cell? ⟨(aA.add ((ac).toNat * 5)).block, (aA.add ((ac).toNat * 5)).off + 3, none⟩ = some (.int .i64 ((qZa ae ac).f3)) ∧ w'.cell? ⟨(aA.add ((ac).toNat * 5)).block, (aA.add ((ac).toNat * 5)).off + 4, none⟩ = some (.int .i64 ((qZa ae ac).f4))) (ds := [14]) (ms 15 0) (by kernel_rfl) rfl (by kernel_rfl) ⟨(qZb ab.out 0).trans rfl, (qZb ab.out 1).trans rfl, aV, aW, aX, aY, aZ⟩ (fun hHeld => ?_); refine qQk spec_l30AnyNet.tab6 spec_l30AnyNet.bits6 (fun HT_ HW_ => ?_)
  generalize w19.drew = w20 at ad aa ab HI0 HK HB aV aW aX aY aZ hHeld ⊢
  refine pu 0 20 ?_ (ms 15 1) rfl rfl HT_ (by kernel_rfl) (fun _ _ _ h => h) (by rfl) ?_ ?_ ?_ ?_
  rotate_left
  ·intro w'
   go_simp
   with_reducible rfl
  rotate_left
  ·simp only [SX]
   rfl
  refine pu 2 22 ?_ (ms 15 5) rfl rfl HT_ (by kernel_rfl) (fun _ _ _ h => h) (by rfl) ?_ ?_ ?_ ?_
  rotate_left
  ·intro w'
   go_simp
   with_reducible rfl
  rotate_left
  ·simp only [SX]
   rfl
  refine pu 3 23 ?_ (ms 15 13) rfl rfl HT_ (by kernel_rfl) (fun _ _ _ h => h) (by rfl) ?_ ?_ ?_ ?_
  rotate_left
  ·intro w'
   go_simp
   with_reducible rfl
  rotate_left
  ·simp only [SX]
   rfl
  refine pu 4 24 ?_ (ms 15 29) rfl rfl HT_ (by kernel_rfl) (fun _ _ _ h => h) (by rfl) ?_ ?_ ?_ ?_
  rotate_left
  ·intro w'
   go_simp
   with_reducible rfl
  rotate_left
  ·simp only [SX]
   rfl
  refine pu 6 26 ?_ (ms 15 93) rfl rfl HT_ (by kernel_rfl) (fun _ _ _ h => h) (by rfl) ?_ ?_ ?_ ?_
  rotate_left
  ·intro w'
   go_simp
   with_reducible rfl
  rotate_left
  ·simp only [SX]
   rfl
  refine tk 1 21 ?_ (ms 15 95) rfl rfl HT_ HW_ (by kernel_rfl) (fun _ _ _ h => h) (by rfl) ?_ hHeld ?_ ?_ ?_
  rotate_left
  ·rintro w' ⟨s0, s1, s2, s3, s4, s5, s6⟩
   go_simp
   with_reducible rfl
  rotate_left
  ·simp only [SX]
   rfl
  refine tk 5 25 ?_ (ms 15 127) rfl rfl HT_ HW_ (by kernel_rfl) (fun _ _ _ h => h) (by rfl) ?_ hHeld ?_ ?_ ?_
  rotate_left
  ·rintro w' ⟨s0, s1, s2, s3, s4, s5, s6⟩
   go_simp
   with_reducible rfl
  rotate_left
  ·simp only [SX]
   rfl
  refine pu 7 27 ?_ (ms 15 255) rfl rfl HT_ (by kernel_rfl) (fun _ _ _ h => h) (by rfl) ?_ ?_ ?_ ?_
  rotate_left
  ·intro w'
   go_simp
   with_reducible rfl
  rotate_left
  ·simp only [SX]
   rfl
  refine pu 8 28 ?_ (ms 15 511) rfl rfl HT_ (by kernel_rfl) (fun _ _ _ h => h) (by rfl) ?_ ?_ ?_ ?_
  rotate_left
  ·intro w'
   go_simp
   with_reducible rfl
  rotate_left
  ·simp only [SX]
   rfl
  refine tk 9 29 ?_ (ms 15 1023) rfl rfl HT_ HW_ (by kernel_rfl) (fun _ _ _ h => h) (by rfl) ?_ hHeld ?_ ?_ ?_
  rotate_left
  ·rintro w' ⟨s0, s1, s2, s3, s4, s5, s6⟩
   go_simp
   with_reducible rfl
  rotate_left
  ·simp only [SX]
   rfl
  refine one_ (i := 10) (N := some 30) (ms 15 2047) rfl rfl (qJb HT_.out (by kernel_rfl)) (by decide) (fun K hK => ?_)
  refine Kd.R_lit_step (Kd.int .i64) _ 3 ?hg (N := 30) ?hd (xs := ([(-1), 8, (qZa ae ac).f0] : List Int)) (inner := [.int .i64 (-1), .int .i64 8, .int .i64 ((qZa ae ac).f0)]) (ok := fun _ => True) (okp := fun _ => True) ?hr ?hp (fun _ hk => hk) trivial (Below.refl _ _) (Nat.le_refl _) (by simp) ?_; (case hd => rfl); (case hg => rfl); (case hr => (go_simp; done)); (case hp => exact (Reps.one (show Kd.M (Kd.int .i64) _ _ _ (-1) [.int .i64 (-1)] from rfl) (Reps.one (show Kd.M (Kd.int .i64) _ _ _ 8 [.int .i64 8] from rfl) (Reps.one (show Kd.M (Kd.int .i64) _ _ _ ((qZa ae ac).f0) [.int .i64 ((qZa ae ac).f0)] from rfl) (Reps.none _ _)))))
  intro eS w21 bD hb hg_ hnew_
  have bE := (hb.cell (World.block_lt_of_cell? _ _ (hHeld.2.2.1))).trans (hHeld.2.2.1)
  have bG := (hb.cell (World.block_lt_of_cell? _ _ (hHeld.2.2.2.1))).trans (hHeld.2.2.2.1)
  have bH := (hb.cell (World.block_lt_of_cell? _ _ (hHeld.2.2.2.2.1))).trans (hHeld.2.2.2.2.1)
  have bI := (hb.cell (World.block_lt_of_cell? _ _ (hHeld.2.2.2.2.2.1))).trans (hHeld.2.2.2.2.2.1)
  have bJ := (hb.cell (World.block_lt_of_cell? _ _ (hHeld.2.2.2.2.2.2))).trans (hHeld.2.2.2.2.2.2)
  clear hg_ hnew_
  (rw [← bQ.out] at bD)
  replace ad := ak (Kd.R_below (rk ad) hb)
  have aH := ak (Kd.R_lower bD (qQa (w := w) (g := g) (row := none) (by repeat ((with_reducible exact HK.out)))))
  replace aa := ak (qZe (bk aa) hb)
  replace ab := ak (qZe (bk ab) hb)
  replace HK := ak (KeepBut.trans (by repeat ((with_reducible exact HK.out))) (KeepBut.of_below hb g none) (.inl rfl))
  replace HB := ak (qZd (by repeat ((with_reducible exact HB.out))) hb)
  replace HI0 := ak (IsS95.below (by repeat ((with_reducible exact HI0.out))) hb)
  clear hb bD
  obtain ⟨bU, bV, dC⟩ := Kd.R_slice aH.out
  (subst dC)
  refine hK.out _ _ ⟨(qZb ab.out 0).trans rfl, (qZb ab.out 1).trans rfl, bE, bG, bH, bI, bJ⟩ (fun hHeld => ?_)
  clear hK K
  refine qJc (a' := ?_) ?_ ?_
  rotate_left
  ·show Act.put _ (some 30) _ = _
   simp only [SX]
   rfl
  refine one_ (i := 11) (N := some 31) (ms 15 4095) rfl rfl (qJb HT_.out (by kernel_rfl)) (by decide) (fun K hK => ?_)
  refine qXg Try.func47 (by kernel_rfl) rfl #[.pointer (some ⟨g, 0, none⟩), .slice bU bf.length bV] (by rfl) rfl rfl (by (try simp only [List.map_toArray, List.map_cons, List.map_nil]); rfl) ?_
  with_reducible refine (spec_l30Rd_one.calls k g aj aB _ _ bf aG bz w0 _ ?side1 ?side2 ?side3 ?side4 ?side5 A9.out).mono ?_
  (case side1 => repeat ((with_reducible exact HI0.out)))
  (case side2 => repeat ((with_reducible exact HB.out)))
  (case side3 => repeat (exact (Kd.R_reads' aH.out).2.2))
  (case side4 => exact (Kd.R_reads' aH.out).2.1)
  (case side5 => exact qXl (IsS95.own_ne HI0.out aH.out (by decide)))
  rintro e w24 ⟨rfl, hi, hb, hk⟩
  have bE := qXn hk (hHeld.2.2.1) (by (rw [qJn]; exact Kd.own_blk (IsS95.own_ne HI0.out ad.out (by decide))))
  have bG := qXn hk (hHeld.2.2.2.1) (by (rw [qJn]; exact Kd.own_blk (IsS95.own_ne HI0.out ad.out (by decide))))
  have bH := qXn hk (hHeld.2.2.2.2.1) (by (rw [qJn]; exact Kd.own_blk (IsS95.own_ne HI0.out ad.out (by decide))))
  have bI := qXn hk (hHeld.2.2.2.2.2.1) (by (rw [qJn]; exact Kd.own_blk (IsS95.own_ne HI0.out ad.out (by decide))))
  have bJ := qXn hk (hHeld.2.2.2.2.2.2) (by (rw [qJn]; exact Kd.own_blk (IsS95.own_ne HI0.out ad.out (by decide))))
  refine ⟨_, rfl, ?_⟩
  replace aa := ak (KeepBut.blk hk (g' := af) (o := .cells #[.int .i64 0, .slice none 0 0] 25 (0, 0)) (bk aa) al.out (by simp))
  replace ad := ak (Kd.R_mono (Kd.R_keep (IsS95.apart (show IsS95 w0 _ g aj aB from by repeat ((with_reducible exact HI0.out))) (rk ad) (by decide)) hk (fun _ h => h.2)) (fun _ h => h.1))
  replace ab := ak (KeepBut.blk hk (g' := ag) (o := .cells #[.int .i64 ao, .slice (some aA) ae.length aO] 25 (0, 0)) (bk ab) am.out (by simp))
  replace aH := ak (Kd.R_mono (Kd.R_keep (IsS95.apart (show IsS95 w0 _ g aj aB from by repeat ((with_reducible exact HI0.out))) (rk aH) (by decide)) hk (fun _ h => h.2)) (fun _ h => h.1))
  replace HK := ak (KeepBut.trans (by repeat ((with_reducible exact HK.out))) hk (.inl rfl))
  replace HB := ak (hb)
  replace HI0 := ak (hi)
  (try clear hb)
  (try clear hb2)
  (try clear hk)
  (try clear hi)
  have p10 : 0 ≤ (ac : Int) := oT (by (with_reducible assumption))
  have q10 : (ac : Int) < ((ae.length : Int) : Int) := oT (by (with_reducible assumption))
  obtain ⟨au, eT, dD, bW, dE, eU, bX⟩ := Kd.R_form ad.out (by omega)
  (cases dD)
  have bY := ak bW
  have dF := ak bX
  clear bW dE bX
  (simp only [qXh] at aV)
  (simp only [qXh] at aW)
  (simp only [qXh] at aX)
  (simp only [qXh] at aY)
  (simp only [qXh] at aZ)
  obtain ⟨eV, bZ, ca, aQ, aR⟩ := Kd.R_elem ad.out z58 (ac : Int) p10 q10
  obtain rfl := qWl ca
  have dG : World.cell? _ ⟨au, (ac : Int).toNat * 5, none⟩ = some (.int .i64 ((qZa ae ac).f0)) := aQ 0 _ rfl
  have dH : World.cell? _ ⟨au, (ac : Int).toNat * 5 + 1, none⟩ = some (.int .i64 ((qZa ae ac).f1)) := aQ 1 _ rfl
  have dI : World.cell? _ ⟨au, (ac : Int).toNat * 5 + 2, none⟩ = some (.int .i64 ((qZa ae ac).f2)) := aQ 2 _ rfl
  have dJ : World.cell? _ ⟨au, (ac : Int).toNat * 5 + 3, none⟩ = some (.int .i64 ((qZa ae ac).f3)) := aQ 3 _ rfl
  have dK : World.cell? _ ⟨au, (ac : Int).toNat * 5 + 4, none⟩ = some (.int .i64 ((qZa ae ac).f4)) := aQ 4 _ rfl
  have dL : World.frozen? _ ⟨au, (ac : Int).toNat * 5, none⟩ = false := aR 0
  have dM : World.frozen? _ ⟨au, (ac : Int).toNat * 5 + 1, none⟩ = false := aR 1
  have dN : World.frozen? _ ⟨au, (ac : Int).toNat * 5 + 2, none⟩ = false := aR 2
  have dO : World.frozen? _ ⟨au, (ac : Int).toNat * 5 + 3, none⟩ = false := aR 3
  have dP : World.frozen? _ ⟨au, (ac : Int).toNat * 5 + 4, none⟩ = false := aR 4
  clear bZ aQ aR ca
  replace p10 := eq_true p10
  replace q10 := eq_true q10
  have HN0_go10 := ak (show g ≠ au from by have h_ := IsS95.own_ne HI0.out ad.out (by decide); intro e_; exact h_ (by rw [e_]; rfl))
  obtain ⟨eW, br, cb, bs, cc⟩ := Kd.R_elem ad.out z58 (ac : Int) (oT (by (with_reducible assumption))) (by have h_ : (ac : Int) < ((ae.length : Int) : Int) := oT (by (with_reducible assumption)); exact h_)
  obtain rfl := qWl cb
  have bK := (Kd.R_seg ad.out (ac : Int) (oT (by (with_reducible assumption))) (by have h_ : (ac : Int) < ((ae.length : Int) : Int) := oT (by (with_reducible assumption)); exact h_) (seg := [.int .i64 aG]) (j := 1) br bs (show 2 ≤ 5 from by decide) (x' := (⟨(qZa ae ac).f0, aG, (qZa ae ac).f2, (qZa ae ac).f3, (qZa ae ac).f4⟩ : S58)) (k58_mkM _ _ _ (⟨(qZa ae ac).f0, aG, (qZa ae ac).f2, (qZa ae ac).f3, (qZa ae ac).f4⟩ : S58) ) (fun _ hk => hk)).1
  rw [← bS.out] at bK
  have dQ := ak bK
  clear br bs cc cb bK
  refine hK.out _ _ ⟨(qZb ab.out 0).trans rfl, (qZb ab.out 1).trans rfl, bE, bG, bH, bI, bJ⟩ (fun hHeld => ?_)
  clear hK K
  refine qJc (a' := ?_) ?_ ?_
  rotate_left
  ·show Act.put _ (some 31) _ = _
   simp only [SX]
   rfl
  refine pu 12 32 ?_ (ms 15 8191) rfl rfl HT_ (by kernel_rfl) (fun _ _ _ h => h) (by rfl) ?_ ?_ ?_ ?_
  rotate_left
  ·intro w'
   go_simp
   with_reducible rfl
  rotate_left
  ·simp only [SX]
   rfl
  refine pu 13 33 ?_ (ms 15 16383) rfl rfl HT_ (by kernel_rfl) (fun _ _ _ h => h) (by rfl) ?_ ?_ ?_ ?_
  rotate_left
  ·intro w'
   go_simp
   with_reducible rfl
  rotate_left
  ·simp only [SX]
   rfl
  refine last_ (i := 14) (N := none) (ms 15 32767) rfl rfl (qJb HT_.out (by kernel_rfl)) (by decide) (fun K hK => ?_)
  refine skip_ (w1 := ?_) (by rfl) rfl ?_ ?_
  rotate_left
  ·go_simp
   rfl
  refine hK.out _ _ ?_
  clear hK K
  refine qXc (qQp HT_.out (by kernel_rfl)) ?_
  have n0_ : Aside0 (Kd.R k58 58 (w24.setCell ⟨au, (ac : Int).toNat * 5 + 1, none⟩ (.int .i64 aG)) w.heap.size (fun _ => True) (.slice (some ⟨au, 0, none⟩) ae.length aO) bR) := ⟨by exact dQ.out⟩
  have n1_ : Aside0 (Kd.R (Kd.int .i64) 3 (w24.setCell ⟨au, (ac : Int).toNat * 5 + 1, none⟩ (.int .i64 aG)) w.heap.size (fun _ => True) (.slice bU bf.length bV) bf) := ⟨by exact Kd.R_mono (Kd.R_far (p := ⟨au, (ac : Int).toNat * 5 + 1, none⟩) (Kd.R_types aH.out dF.out (by decide)) (fun _ hk => hk.2) (.int .i64 aG)) (fun _ hk => trivial)⟩
  have n2_ : Aside0 ((w24.setCell ⟨au, (ac : Int).toNat * 5 + 1, none⟩ (.int .i64 aG)).heap[af]? = some (.cells #[.int .i64 0, .slice none 0 0] 25 (0, 0))) := ⟨by refine blk_far ?_ (by have h_ := Kd.R_ne ad.out aa.out (by decide); intro e_; exact h_ (by rw [e_]; rfl)) _; exact aa.out⟩
  have n3_ : Aside0 ((w24.setCell ⟨au, (ac : Int).toNat * 5 + 1, none⟩ (.int .i64 aG)).heap[ag]? = some (.cells #[.int .i64 ao, .slice (some ⟨au, 0, none⟩) ae.length aO] 25 (0, 0))) := ⟨by refine blk_far ?_ (by have h_ := Kd.R_ne ad.out ab.out (by decide); intro e_; exact h_ (by rw [e_]; rfl)) _; exact ab.out⟩
  have n4_ : Aside0 (IsS95 w0 (w24.setCell ⟨au, (ac : Int).toNat * 5 + 1, none⟩ (.int .i64 aG)) g aj bz) := ⟨by repeat ((with_reducible first | exact HI0.out | refine IsS95.far ?_ HN0_go10.out _))⟩
  have n5_ : Aside0 (KeepBut w (w24.setCell ⟨au, (ac : Int).toNat * 5 + 1, none⟩ (.int .i64 aG)) g none) := ⟨by repeat ((with_reducible first | exact HK.out | refine keep_far ?_ bY.out _))⟩
  have n6_ : Aside0 (Below w0.heap.size w0 (w24.setCell ⟨au, (ac : Int).toNat * 5 + 1, none⟩ (.int .i64 aG))) := ⟨by repeat ((with_reducible first | exact HB.out | refine below_set ?_ (Nat.le_trans HL.out bY.out)))⟩
  (try clear ad)
  (try clear aH)
  (try clear aa)
  (try clear ab)
  (try clear HI0)
  (try clear HK)
  (try clear HB)
  generalize (w24.setCell ⟨au, (ac : Int).toNat * 5 + 1, none⟩ (.int .i64 aG)) = w26 at n0_ n1_ n2_ n3_ n4_ n5_ n6_ ⊢
  have ad := n0_
  have aH := n1_
  have aa := n2_
  have ab := n3_
  have HI0 := n4_
  have HK := n5_
  have HB := n6_
  clear n0_ n1_ n2_ n3_ n4_ n5_ n6_
  have cF := bc w26 ab 0 (.int .i64 ao) rfl
  have cG := bc w26 ab 1 (.slice (some ⟨au, 0, none⟩) ae.length aO) rfl
  have cH := fz ab 0
  have cI := fz ab 1
  have ex := al.out
  have ey := aq.out
  have cJ := bc w26 aa 0 (.int .i64 0) rfl
  have cK := bc w26 aa 1 (.slice none 0 0) rfl
  have cL := fz aa 0
  have cM := fz aa 1
  try go_wp2
  refine bodyPost_ret (results_cell_row rfl _ _ af 25 #[.int .i64 ao, .slice (some ⟨au, 0, none⟩) ae.length aO] (0, 0) _ rfl (by refine qZi (cs := #[.int .i64 ao, .slice none 0 0]) ?_ 1 _ rfl; refine qZi (cs := #[.int .i64 0, .slice none 0 0]) ?_ 0 _ rfl; exact aa.out) Try.underlying25 rfl (by kernel_rfl)) rfl ?_
  exact ⟨_, by rfl, by exact Kd.R_mono (Kd.R_far (p := ⟨af, 1, none⟩) (Kd.R_far (p := ⟨af, 0, none⟩) (Kd.R_types ad.out aa.out (by decide)) (fun _ hk => hk.2) (.int .i64 ao)) (fun _ hk => hk.2) (.slice (some ⟨au, 0, none⟩) ae.length aO)) (fun _ hk => trivial), by repeat ((with_reducible first | exact HI0.out | refine IsS95.far ?_ aq.out _)), by repeat ((with_reducible first | exact HB.out | refine below_set ?_ aF.out)), by repeat ((with_reducible first | exact HK.out | refine keep_far ?_ aE.out _))⟩
 rw [if_neg c6] at H
 have c6b0 : (az == 0) = false := beq_eq_false_iff_ne.mpr c6
 have c6b1 : (az != 0) = true := bne_iff_ne.mpr c6
 by_cases c30 : az = 1
 ·rw [if_pos c30] at H
  have c30b0 : (az == 1) = true := beq_iff_eq.mpr c30
  have c30b1 : (az != 1) = false := bne_eq_false_iff_eq.mpr c30
  clear c30
  obtain ⟨bi, bj⟩ : ∃ y_ : List Int, y_ = (([(-1), 100] : List Int)) := ⟨_, rfl⟩
  replace H : ((spec_l30Rd_one.f k aj aB bi).bind fun aL => (if 0 ≤ ac then (if ac < (ae.length : Int) then (some (ao, (ae.set (ac : Int).toNat (⟨(qZa ae ac).f0, (qZa ae ac).f1, aL.1, (qZa ae ac).f3, (qZa ae ac).f4⟩ : S58)), aL.2)) else (none)) else (none))) = some (r1, r2, r3) := by (rw [bj]; with_reducible exact H)
  have cd := ak bj
  clear bj
  replace H := Option.bind_eq_some_iff.mp H
  obtain ⟨⟨aI, bL⟩, ce, H⟩ := H
  have A31 := ak ce
  clear ce
  by_cases c32 : 0 ≤ ac
  rotate_left
  ·rw [if_neg c32] at H
   exact absurd H (by simp)
  rw [if_pos c32] at H
  have c32b0 : decide (0 ≤ ac) = true := decide_eq_true c32
  clear c32
  by_cases c33 : ac < (ae.length : Int)
  rotate_left
  ·rw [if_neg c33] at H
   exact absurd H (by simp)
  rw [if_pos c33] at H
  have c33b0 : decide (ac < (ae.length : Int)) = true := decide_eq_true c33
  clear c33
  obtain ⟨cf, bm⟩ : ∃ y_ : List (S58), y_ = (ae.set (ac : Int).toNat (⟨(qZa ae ac).f0, (qZa ae ac).f1, aI, (qZa ae ac).f3, (qZa ae ac).f4⟩ : S58)) := ⟨_, rfl⟩
  replace H : (some (ao, cf, bL)) = some (r1, r2, r3) := by (rw [bm]; with_reducible exact H)
  have cg := ak bm
  clear bm
  simp only [Option.some.injEq, Prod.mk.injEq] at H
  obtain ⟨rfl, rfl, rfl⟩ := H
  go_enter Try.func45, Try.ntmps45
  try go_wp2_with (first | ((with_reducible refine gate_dst (N := 2) rfl ?_); refine qZj ?hg (N := 2) ?hd (cs := #[.int .i64 0, .slice none 0 0]) (t := 25) ?hr ?_; (case hd => rfl); (case hg => rfl); (case hr => (go_simp; done)); intro af hg w35 hbox hb; replace HB := ak (qZd (by repeat ((with_reducible exact HB.out))) hb); have aa := ak (hbox); have aE := ak ((by rw [hg]; exact (qQa (w := w) (g := g) (row := none) (by repeat ((with_reducible exact HK.out)))) : w.heap.size ≤ af)); have aF := ak ((Nat.le_trans HW0.out (by rw [hg]; exact (qQa (w := w) (g := g) (row := none) (by repeat ((with_reducible exact HK.out)))) : w.heap.size ≤ af) : w0.heap.size ≤ af)); replace HK := ak (KeepBut.trans (by repeat ((with_reducible exact HK.out))) (KeepBut.of_below hb g none) (.inl rfl)); have aq := ak ((by rw [hg]; exact Nat.ne_of_lt (IsS95.lt (show IsS95 w0 _ g aj ay from by repeat ((with_reducible exact HI0.out)))) : g ≠ af)); have al := ak ((by rw [hg]; exact Nat.ne_of_gt (IsS95.lt (show IsS95 w0 _ g aj ay from by repeat ((with_reducible exact HI0.out)))) : af ≠ g)); replace HI0 := ak (IsS95.below (by repeat ((with_reducible exact HI0.out))) hb); clear hb hbox hg) | ((with_reducible refine gate_callee (f := 86) rfl ?_); refine qQj (some 6) rfl rfl Try.func86 (by kernel_rfl) rfl #[.pointer (some ⟨g, 0, none⟩)] rfl (by (try simp only [List.map_toArray, List.map_cons, List.map_nil]); rfl) ?_; (with_reducible refine (spec_l30Net.calls k g aj ay ao ae ax w0 _ ?side1 ?side2 A2.out).mono ?_); (case side1 => repeat ((with_reducible exact HI0.out))); (case side2 => repeat ((with_reducible exact HB.out))); rintro e w36 ⟨bq, rfl, ho0, hi, hb, hk⟩; refine ⟨_, rfl, ?_⟩; replace aa := ak (KeepBut.blk hk (g' := af) (o := .cells #[.int .i64 0, .slice none 0 0] 25 (0, 0)) (bk aa) al.out (by simp)); have ad := ak (Kd.R_lower ho0 (qQa (w := w) (g := g) (row := none) (by repeat ((with_reducible exact HK.out))))); replace HK := ak (KeepBut.trans (by repeat ((with_reducible exact HK.out))) hk (.inl rfl)); replace HB := ak (hb); replace HI0 := ak (hi); (try clear hb); (try clear hb2); (try clear hk); (try clear hi); (try clear ho0)) | ((with_reducible refine gate_dst (N := 3) rfl ?_); refine qZj ?hg (N := 3) ?hd (cs := #[.int .i64 0, .slice none 0 0]) (t := 25) ?hr ?_; (case hd => rfl); (case hg => rfl); (case hr => (go_simp; done)); intro ag hg w37 hbox hb; replace ad := ak (Kd.R_below (rk ad) hb); replace HB := ak (qZd (by repeat ((with_reducible exact HB.out))) hb); have ab := ak (hbox); have aC := ak ((by rw [hg]; exact (qQa (w := w) (g := g) (row := none) (by repeat ((with_reducible exact HK.out)))) : w.heap.size ≤ ag)); have aD := ak ((Nat.le_trans HW0.out (by rw [hg]; exact (qQa (w := w) (g := g) (row := none) (by repeat ((with_reducible exact HK.out)))) : w.heap.size ≤ ag) : w0.heap.size ≤ ag)); replace HK := ak (KeepBut.trans (by repeat ((with_reducible exact HK.out))) (KeepBut.of_below hb g none) (.inl rfl)); have ai := ak ((by rw [hg]; exact Nat.ne_of_lt (qZh (bk aa)) : af ≠ ag)); have ar := ak ((by rw [hg]; exact Nat.ne_of_gt (qZh (bk aa)) : ag ≠ af)); replace aa := ak (qZe (bk aa) hb); have ap := ak ((by rw [hg]; exact Nat.ne_of_lt (IsS95.lt (show IsS95 w0 _ g aj ax from by repeat ((with_reducible exact HI0.out)))) : g ≠ ag)); have am := ak ((by rw [hg]; exact Nat.ne_of_gt (IsS95.lt (show IsS95 w0 _ g aj ax from by repeat ((with_reducible exact HI0.out)))) : ag ≠ g)); replace HI0 := ak (IsS95.below (by repeat ((with_reducible exact HI0.out))) hb); clear hb hbox hg; have ez := ar.out; have eA := ai.out; have eB := am.out; have eC := ap.out; have cN := bc w37 ab 0 (.int .i64 0) rfl; have cO := bc w37 ab 1 (.slice none 0 0) rfl; have cP := fz ab 0; have cQ := fz ab 1; obtain ⟨bn, aP, dR⟩ := Kd.R_slice ad.out; subst dR) | ((with_reducible refine gate_callee (f := 87) rfl ?_); refine qQj (some 15) rfl rfl Try.func87 (by kernel_rfl) rfl #[.pointer (some ⟨g, 0, none⟩), .int .i64 (ae.length : Int)] rfl (by (try simp only [List.map_toArray, List.map_cons, List.map_nil]); rfl) ?_; (with_reducible refine (spec_l30Rd_pick.calls k g aj ax (ae.length : Int) ac aN w0 _ ?side1 ?side2 A4.out).mono ?_); (case side1 => repeat ((with_reducible first | exact HI0.out | refine IsS95.far ?_ ap.out _))); (case side2 => repeat ((with_reducible first | exact HB.out | refine below_set ?_ aD.out))); rintro e w42 ⟨rfl, hi, hb, hk⟩; refine ⟨_, rfl, ?_⟩; replace aa := ak (KeepBut.blk hk (g' := af) (o := .cells #[.int .i64 0, .slice none 0 0] 25 (0, 0)) (by refine blk_far ?_ ai.out _; refine blk_far ?_ ai.out _; exact aa.out) al.out (by simp)); replace ad := ak (Kd.R_mono (Kd.R_keep (IsS95.apart (show IsS95 w0 _ g aj ax from by repeat ((with_reducible first | exact HI0.out | refine IsS95.far ?_ ap.out _))) (by exact (Kd.R_mono (Kd.R_far (p := ⟨ag, 1, none⟩) (Kd.R_far (p := ⟨ag, 0, none⟩) (Kd.R_types ad.out ab.out (by decide)) (fun _ hk => hk.2) (.int .i64 ao)) (fun _ hk => hk.2) (.slice bn ae.length aP)) (fun _ h_ => h_.1))) (by decide)) hk (fun _ h => h.2)) (fun _ h => h.1)); replace ab := ak (KeepBut.blk hk (g' := ag) (o := .cells #[.int .i64 ao, .slice bn ae.length aP] 25 (0, 0)) (by refine qZi (cs := #[.int .i64 ao, .slice none 0 0]) ?_ 1 _ rfl; refine qZi (cs := #[.int .i64 0, .slice none 0 0]) ?_ 0 _ rfl; exact ab.out) am.out (by simp)); replace HK := ak (KeepBut.trans (by repeat ((with_reducible first | exact HK.out | refine keep_far ?_ aC.out _))) hk (.inl rfl)); replace HB := ak (hb); replace HI0 := ak (hi); (try clear hb); (try clear hb2); (try clear hk); (try clear hi)) | ((with_reducible refine gate_callee (f := 87) rfl ?_); refine qQj (some 17) rfl rfl Try.func87 (by kernel_rfl) rfl #[.pointer (some ⟨g, 0, none⟩), .int .i64 16] rfl (by (try simp only [List.map_toArray, List.map_cons, List.map_nil]); rfl) ?_; (with_reducible refine (spec_l30Rd_pick.calls k g aj aN 16 az aB w0 _ ?side1 ?side2 A5.out).mono ?_); (case side1 => repeat ((with_reducible exact HI0.out))); (case side2 => repeat ((with_reducible exact HB.out))); rintro e w43 ⟨rfl, hi, hb, hk⟩; refine ⟨_, rfl, ?_⟩; replace aa := ak (KeepBut.blk hk (g' := af) (o := .cells #[.int .i64 0, .slice none 0 0] 25 (0, 0)) (bk aa) al.out (by simp)); replace ad := ak (Kd.R_mono (Kd.R_keep (IsS95.apart (show IsS95 w0 _ g aj aN from by repeat ((with_reducible exact HI0.out))) (rk ad) (by decide)) hk (fun _ h => h.2)) (fun _ h => h.1)); replace ab := ak (KeepBut.blk hk (g' := ag) (o := .cells #[.int .i64 ao, .slice bn ae.length aP] 25 (0, 0)) (bk ab) am.out (by simp)); replace HK := ak (KeepBut.trans (by repeat ((with_reducible exact HK.out))) hk (.inl rfl)); replace HB := ak (hb); replace HI0 := ak (hi); (try clear hb); (try clear hb2); (try clear hk); (try clear hi)))
  replace ad := ak (Kd.R_drew ad.out)
  replace aa := ak (qZp aa.out)
  replace ab := ak (qZp ab.out)
  replace HI0 := ak (IsS95.drew HI0.out)
  replace HK := ak (qWk HK.out)
  replace HB := ak (qZo HB.out)
  refine qJd (n := 9) (S := fun w' => w'.cell? ⟨ag, 0, none⟩ = some (.int .i64 ao) ∧ w'.cell? ⟨ag, 1, none⟩ = some (.slice bn ae.length aP)) (ds := [8]) (ms 9 0) (by kernel_rfl) rfl (by kernel_rfl) ⟨(qZb ab.out 0).trans rfl, (qZb ab.out 1).trans rfl⟩ (fun hHeld => ?_); refine qQk spec_l30AnyNet.tab8 spec_l30AnyNet.bits8 (fun HT_ HW_ => ?_)
  generalize w43.drew = w44 at ad aa ab HI0 HK HB hHeld ⊢
  refine pu 0 36 ?_ (ms 9 1) rfl rfl HT_ (by kernel_rfl) (fun _ _ _ h => h) (by rfl) ?_ ?_ ?_ ?_
  rotate_left
  ·intro w'
   go_simp
   with_reducible rfl
  rotate_left
  ·simp only [SX]
   rfl
  refine pu 2 38 ?_ (ms 9 5) rfl rfl HT_ (by kernel_rfl) (fun _ _ _ h => h) (by rfl) ?_ ?_ ?_ ?_
  rotate_left
  ·intro w'
   go_simp
   with_reducible rfl
  rotate_left
  ·simp only [SX]
   rfl
  refine pu 3 39 ?_ (ms 9 13) rfl rfl HT_ (by kernel_rfl) (fun _ _ _ h => h) (by rfl) ?_ ?_ ?_ ?_
  rotate_left
  ·intro w'
   go_simp
   with_reducible rfl
  rotate_left
  ·simp only [SX]
   rfl
  refine tk 1 37 ?_ (ms 9 15) rfl rfl HT_ HW_ (by kernel_rfl) (fun _ _ _ h => h) (by rfl) ?_ hHeld ?_ ?_ ?_
  rotate_left
  ·rintro w' ⟨s0, s1⟩
   go_simp
   with_reducible rfl
  rotate_left
  ·simp only [SX]
   rfl
  refine one_ (i := 4) (N := some 40) (ms 9 31) rfl rfl (qJb HT_.out (by kernel_rfl)) (by decide) (fun K hK => ?_)
  refine Kd.R_lit_step (Kd.int .i64) _ 3 ?hg (N := 40) ?hd (xs := ([(-1), 100] : List Int)) (inner := [.int .i64 (-1), .int .i64 100]) (ok := fun _ => True) (okp := fun _ => True) ?hr ?hp (fun _ hk => hk) trivial (Below.refl _ _) (Nat.le_refl _) (by simp) ?_; (case hd => rfl); (case hg => rfl); (case hr => (go_simp; done)); (case hp => exact (Reps.one (show Kd.M (Kd.int .i64) _ _ _ (-1) [.int .i64 (-1)] from rfl) (Reps.one (show Kd.M (Kd.int .i64) _ _ _ 100 [.int .i64 100] from rfl) (Reps.none _ _))))
  intro eX w45 bM hb hg_ hnew_
  clear hg_ hnew_
  (rw [← cd.out] at bM)
  replace ad := ak (Kd.R_below (rk ad) hb)
  have aJ := ak (Kd.R_lower bM (qQa (w := w) (g := g) (row := none) (by repeat ((with_reducible exact HK.out)))))
  replace aa := ak (qZe (bk aa) hb)
  replace ab := ak (qZe (bk ab) hb)
  replace HK := ak (KeepBut.trans (by repeat ((with_reducible exact HK.out))) (KeepBut.of_below hb g none) (.inl rfl))
  replace HB := ak (qZd (by repeat ((with_reducible exact HB.out))) hb)
  replace HI0 := ak (IsS95.below (by repeat ((with_reducible exact HI0.out))) hb)
  clear hb bM
  obtain ⟨ch, ci, dS⟩ := Kd.R_slice aJ.out
  (subst dS)
  refine hK.out _ _ ⟨(qZb ab.out 0).trans rfl, (qZb ab.out 1).trans rfl⟩ (fun hHeld => ?_)
  clear hK K
  refine qJc (a' := ?_) ?_ ?_
  rotate_left
  ·show Act.put _ (some 40) _ = _
   simp only [SX]
   rfl
  refine one_ (i := 5) (N := some 41) (ms 9 63) rfl rfl (qJb HT_.out (by kernel_rfl)) (by decide) (fun K hK => ?_)
  refine qXg Try.func47 (by kernel_rfl) rfl #[.pointer (some ⟨g, 0, none⟩), .slice ch bi.length ci] (by rfl) rfl rfl (by (try simp only [List.map_toArray, List.map_cons, List.map_nil]); rfl) ?_
  with_reducible refine (spec_l30Rd_one.calls k g aj aB _ _ bi aI bL w0 _ ?side1 ?side2 ?side3 ?side4 ?side5 A31.out).mono ?_
  (case side1 => repeat ((with_reducible exact HI0.out)))
  (case side2 => repeat ((with_reducible exact HB.out)))
  (case side3 => repeat (exact (Kd.R_reads' aJ.out).2.2))
  (case side4 => exact (Kd.R_reads' aJ.out).2.1)
  (case side5 => exact qXl (IsS95.own_ne HI0.out aJ.out (by decide)))
  rintro e w48 ⟨rfl, hi, hb, hk⟩
  refine ⟨_, rfl, ?_⟩
  replace aa := ak (KeepBut.blk hk (g' := af) (o := .cells #[.int .i64 0, .slice none 0 0] 25 (0, 0)) (bk aa) al.out (by simp))
  replace ad := ak (Kd.R_mono (Kd.R_keep (IsS95.apart (show IsS95 w0 _ g aj aB from by repeat ((with_reducible exact HI0.out))) (rk ad) (by decide)) hk (fun _ h => h.2)) (fun _ h => h.1))
  replace ab := ak (KeepBut.blk hk (g' := ag) (o := .cells #[.int .i64 ao, .slice bn ae.length aP] 25 (0, 0)) (bk ab) am.out (by simp))
  replace aJ := ak (Kd.R_mono (Kd.R_keep (IsS95.apart (show IsS95 w0 _ g aj aB from by repeat ((with_reducible exact HI0.out))) (rk aJ) (by decide)) hk (fun _ h => h.2)) (fun _ h => h.1))
  replace HK := ak (KeepBut.trans (by repeat ((with_reducible exact HK.out))) hk (.inl rfl))
  replace HB := ak (hb)
  replace HI0 := ak (hi)
  (try clear hb)
  (try clear hb2)
  (try clear hk)
  (try clear hi)
  have p34 : 0 ≤ (ac : Int) := oT (by (with_reducible assumption))
  have q34 : (ac : Int) < ((ae.length : Int) : Int) := oT (by (with_reducible assumption))
  obtain ⟨av, eY, dT, cj, dU, eZ, ck⟩ := Kd.R_form ad.out (by omega)
  (cases dT)
  have cl := ak cj
  have dV := ak ck
  clear cj dU ck
  obtain ⟨fa, cm, cn, aS, aT⟩ := Kd.R_elem ad.out z58 (ac : Int) p34 q34
  obtain rfl := qWl cn
  have dW : World.cell? _ ⟨av, (ac : Int).toNat * 5, none⟩ = some (.int .i64 ((qZa ae ac).f0)) := aS 0 _ rfl
  have dX : World.cell? _ ⟨av, (ac : Int).toNat * 5 + 1, none⟩ = some (.int .i64 ((qZa ae ac).f1)) := aS 1 _ rfl
  have dY : World.cell? _ ⟨av, (ac : Int).toNat * 5 + 2, none⟩ = some (.int .i64 ((qZa ae ac).f2)) := aS 2 _ rfl
  have dZ : World.cell? _ ⟨av, (ac : Int).toNat * 5 + 3, none⟩ = some (.int .i64 ((qZa ae ac).f3)) := aS 3 _ rfl
  have ea : World.cell? _ ⟨av, (ac : Int).toNat * 5 + 4, none⟩ = some (.int .i64 ((qZa ae ac).f4)) := aS 4 _ rfl
  have eb : World.frozen? _ ⟨av, (ac : Int).toNat * 5, none⟩ = false := aT 0
  have ec : World.frozen? _ ⟨av, (ac : Int).toNat * 5 + 1, none⟩ = false := aT 1
  have ed : World.frozen? _ ⟨av, (ac : Int).toNat * 5 + 2, none⟩ = false := aT 2
  have ee : World.frozen? _ ⟨av, (ac : Int).toNat * 5 + 3, none⟩ = false := aT 3
  have ef : World.frozen? _ ⟨av, (ac : Int).toNat * 5 + 4, none⟩ = false := aT 4
  clear cm aS aT cn
  replace p34 := eq_true p34
  replace q34 := eq_true q34
  have HN0_go34 := ak (show g ≠ av from by have h_ := IsS95.own_ne HI0.out ad.out (by decide); intro e_; exact h_ (by rw [e_]; rfl))
  obtain ⟨fb, bu, co, bv, cp⟩ := Kd.R_elem ad.out z58 (ac : Int) (oT (by (with_reducible assumption))) (by have h_ : (ac : Int) < ((ae.length : Int) : Int) := oT (by (with_reducible assumption)); exact h_)
  obtain rfl := qWl co
  have bN := (Kd.R_seg ad.out (ac : Int) (oT (by (with_reducible assumption))) (by have h_ : (ac : Int) < ((ae.length : Int) : Int) := oT (by (with_reducible assumption)); exact h_) (seg := [.int .i64 aI]) (j := 2) bu bv (show 3 ≤ 5 from by decide) (x' := (⟨(qZa ae ac).f0, (qZa ae ac).f1, aI, (qZa ae ac).f3, (qZa ae ac).f4⟩ : S58)) (k58_mkM _ _ _ (⟨(qZa ae ac).f0, (qZa ae ac).f1, aI, (qZa ae ac).f3, (qZa ae ac).f4⟩ : S58) ) (fun _ hk => hk)).1
  rw [← cg.out] at bN
  have eg := ak bN
  clear bu bv cp co bN
  refine hK.out _ _ ⟨(qZb ab.out 0).trans rfl, (qZb ab.out 1).trans rfl⟩ (fun hHeld => ?_)
  clear hK K
  refine qJc (a' := ?_) ?_ ?_
  rotate_left
  ·show Act.put _ (some 41) _ = _
   simp only [SX]
   rfl
  refine pu 6 42 ?_ (ms 9 127) rfl rfl HT_ (by kernel_rfl) (fun _ _ _ h => h) (by rfl) ?_ ?_ ?_ ?_
  rotate_left
  ·intro w'
   go_simp
   with_reducible rfl
  rotate_left
  ·simp only [SX]
   rfl
  refine pu 7 43 ?_ (ms 9 255) rfl rfl HT_ (by kernel_rfl) (fun _ _ _ h => h) (by rfl) ?_ ?_ ?_ ?_
  rotate_left
  ·intro w'
   go_simp
   with_reducible rfl
  rotate_left
  ·simp only [SX]
   rfl
  refine last_ (i := 8) (N := none) (ms 9 511) rfl rfl (qJb HT_.out (by kernel_rfl)) (by decide) (fun K hK => ?_)
  refine skip_ (w1 := ?_) (by rfl) rfl ?_ ?_
  rotate_left
  ·go_simp
   rfl
  refine hK.out _ _ ?_
  clear hK K
  refine qXc (qQp HT_.out (by kernel_rfl)) ?_
  have n0_ : Aside0 (Kd.R k58 58 (w48.setCell ⟨av, (ac : Int).toNat * 5 + 2, none⟩ (.int .i64 aI)) w.heap.size (fun _ => True) (.slice (some ⟨av, 0, none⟩) ae.length aP) cf) := ⟨by exact eg.out⟩
  have n1_ : Aside0 (Kd.R (Kd.int .i64) 3 (w48.setCell ⟨av, (ac : Int).toNat * 5 + 2, none⟩ (.int .i64 aI)) w.heap.size (fun _ => True) (.slice ch bi.length ci) bi) := ⟨by exact Kd.R_mono (Kd.R_far (p := ⟨av, (ac : Int).toNat * 5 + 2, none⟩) (Kd.R_types aJ.out dV.out (by decide)) (fun _ hk => hk.2) (.int .i64 aI)) (fun _ hk => trivial)⟩
  have n2_ : Aside0 ((w48.setCell ⟨av, (ac : Int).toNat * 5 + 2, none⟩ (.int .i64 aI)).heap[af]? = some (.cells #[.int .i64 0, .slice none 0 0] 25 (0, 0))) := ⟨by refine blk_far ?_ (by have h_ := Kd.R_ne ad.out aa.out (by decide); intro e_; exact h_ (by rw [e_]; rfl)) _; exact aa.out⟩
  have n3_ : Aside0 ((w48.setCell ⟨av, (ac : Int).toNat * 5 + 2, none⟩ (.int .i64 aI)).heap[ag]? = some (.cells #[.int .i64 ao, .slice (some ⟨av, 0, none⟩) ae.length aP] 25 (0, 0))) := ⟨by refine blk_far ?_ (by have h_ := Kd.R_ne ad.out ab.out (by decide); intro e_; exact h_ (by rw [e_]; rfl)) _; exact ab.out⟩
  have n4_ : Aside0 (IsS95 w0 (w48.setCell ⟨av, (ac : Int).toNat * 5 + 2, none⟩ (.int .i64 aI)) g aj bL) := ⟨by repeat ((with_reducible first | exact HI0.out | refine IsS95.far ?_ HN0_go34.out _))⟩
  have n5_ : Aside0 (KeepBut w (w48.setCell ⟨av, (ac : Int).toNat * 5 + 2, none⟩ (.int .i64 aI)) g none) := ⟨by repeat ((with_reducible first | exact HK.out | refine keep_far ?_ cl.out _))⟩
  have n6_ : Aside0 (Below w0.heap.size w0 (w48.setCell ⟨av, (ac : Int).toNat * 5 + 2, none⟩ (.int .i64 aI))) := ⟨by repeat ((with_reducible first | exact HB.out | refine below_set ?_ (Nat.le_trans HL.out cl.out)))⟩
  (try clear ad)
  (try clear aJ)
  (try clear aa)
  (try clear ab)
  (try clear HI0)
  (try clear HK)
  (try clear HB)
  generalize (w48.setCell ⟨av, (ac : Int).toNat * 5 + 2, none⟩ (.int .i64 aI)) = w50 at n0_ n1_ n2_ n3_ n4_ n5_ n6_ ⊢
  have ad := n0_
  have aJ := n1_
  have aa := n2_
  have ab := n3_
  have HI0 := n4_
  have HK := n5_
  have HB := n6_
  clear n0_ n1_ n2_ n3_ n4_ n5_ n6_
  have cR := bc w50 ab 0 (.int .i64 ao) rfl
  have cS := bc w50 ab 1 (.slice (some ⟨av, 0, none⟩) ae.length aP) rfl
  have cT := fz ab 0
  have cU := fz ab 1
  have eD := al.out
  have eE := aq.out
  have cV := bc w50 aa 0 (.int .i64 0) rfl
  have cW := bc w50 aa 1 (.slice none 0 0) rfl
  have cX := fz aa 0
  have cY := fz aa 1
  try go_wp2
  refine bodyPost_ret (results_cell_row rfl _ _ af 25 #[.int .i64 ao, .slice (some ⟨av, 0, none⟩) ae.length aP] (0, 0) _ rfl (by refine qZi (cs := #[.int .i64 ao, .slice none 0 0]) ?_ 1 _ rfl; refine qZi (cs := #[.int .i64 0, .slice none 0 0]) ?_ 0 _ rfl; exact aa.out) Try.underlying25 rfl (by kernel_rfl)) rfl ?_
  exact ⟨_, by rfl, by exact Kd.R_mono (Kd.R_far (p := ⟨af, 1, none⟩) (Kd.R_far (p := ⟨af, 0, none⟩) (Kd.R_types ad.out aa.out (by decide)) (fun _ hk => hk.2) (.int .i64 ao)) (fun _ hk => hk.2) (.slice (some ⟨av, 0, none⟩) ae.length aP)) (fun _ hk => trivial), by repeat ((with_reducible first | exact HI0.out | refine IsS95.far ?_ aq.out _)), by repeat ((with_reducible first | exact HB.out | refine below_set ?_ aF.out)), by repeat ((with_reducible first | exact HK.out | refine keep_far ?_ aE.out _))⟩
 rw [if_neg c30] at H
 have c30b0 : (az == 1) = false := beq_eq_false_iff_ne.mpr c30
 have c30b1 : (az != 1) = true := bne_iff_ne.mpr c30
 by_cases c54 : az = 2
 rotate_left
 ·rw [if_neg c54] at H
  have c54b0 : (az == 2) = false := beq_eq_false_iff_ne.mpr c54
  have c54b1 : (az != 2) = true := bne_iff_ne.mpr c54
  simp only [Option.some.injEq, Prod.mk.injEq] at H
  obtain ⟨rfl, rfl, rfl⟩ := H
  go_enter Try.func45, Try.ntmps45
  go_wp2_with (first | ((with_reducible refine gate_dst (N := 2) rfl ?_); refine qZj ?hg (N := 2) ?hd (cs := #[.int .i64 0, .slice none 0 0]) (t := 25) ?hr ?_; (case hd => rfl); (case hg => rfl); (case hr => (go_simp; done)); intro af hg w72 hbox hb; replace HB := ak (qZd (by repeat ((with_reducible exact HB.out))) hb); have aa := ak (hbox); have aE := ak ((by rw [hg]; exact (qQa (w := w) (g := g) (row := none) (by repeat ((with_reducible exact HK.out)))) : w.heap.size ≤ af)); have aF := ak ((Nat.le_trans HW0.out (by rw [hg]; exact (qQa (w := w) (g := g) (row := none) (by repeat ((with_reducible exact HK.out)))) : w.heap.size ≤ af) : w0.heap.size ≤ af)); replace HK := ak (KeepBut.trans (by repeat ((with_reducible exact HK.out))) (KeepBut.of_below hb g none) (.inl rfl)); have aq := ak ((by rw [hg]; exact Nat.ne_of_lt (IsS95.lt (show IsS95 w0 _ g aj ay from by repeat ((with_reducible exact HI0.out)))) : g ≠ af)); have al := ak ((by rw [hg]; exact Nat.ne_of_gt (IsS95.lt (show IsS95 w0 _ g aj ay from by repeat ((with_reducible exact HI0.out)))) : af ≠ g)); replace HI0 := ak (IsS95.below (by repeat ((with_reducible exact HI0.out))) hb); clear hb hbox hg) | ((with_reducible refine gate_callee (f := 86) rfl ?_); refine qQj (some 6) rfl rfl Try.func86 (by kernel_rfl) rfl #[.pointer (some ⟨g, 0, none⟩)] rfl (by (try simp only [List.map_toArray, List.map_cons, List.map_nil]); rfl) ?_; (with_reducible refine (spec_l30Net.calls k g aj ay ao ae ax w0 _ ?side1 ?side2 A2.out).mono ?_); (case side1 => repeat ((with_reducible exact HI0.out))); (case side2 => repeat ((with_reducible exact HB.out))); rintro e w73 ⟨bq, rfl, ho0, hi, hb, hk⟩; refine ⟨_, rfl, ?_⟩; replace aa := ak (KeepBut.blk hk (g' := af) (o := .cells #[.int .i64 0, .slice none 0 0] 25 (0, 0)) (bk aa) al.out (by simp)); have ad := ak (Kd.R_lower ho0 (qQa (w := w) (g := g) (row := none) (by repeat ((with_reducible exact HK.out))))); replace HK := ak (KeepBut.trans (by repeat ((with_reducible exact HK.out))) hk (.inl rfl)); replace HB := ak (hb); replace HI0 := ak (hi); (try clear hb); (try clear hb2); (try clear hk); (try clear hi); (try clear ho0)) | ((with_reducible refine gate_dst (N := 3) rfl ?_); refine qZj ?hg (N := 3) ?hd (cs := #[.int .i64 0, .slice none 0 0]) (t := 25) ?hr ?_; (case hd => rfl); (case hg => rfl); (case hr => (go_simp; done)); intro ag hg w74 hbox hb; replace ad := ak (Kd.R_below (rk ad) hb); replace HB := ak (qZd (by repeat ((with_reducible exact HB.out))) hb); have ab := ak (hbox); have aC := ak ((by rw [hg]; exact (qQa (w := w) (g := g) (row := none) (by repeat ((with_reducible exact HK.out)))) : w.heap.size ≤ ag)); have aD := ak ((Nat.le_trans HW0.out (by rw [hg]; exact (qQa (w := w) (g := g) (row := none) (by repeat ((with_reducible exact HK.out)))) : w.heap.size ≤ ag) : w0.heap.size ≤ ag)); replace HK := ak (KeepBut.trans (by repeat ((with_reducible exact HK.out))) (KeepBut.of_below hb g none) (.inl rfl)); have ai := ak ((by rw [hg]; exact Nat.ne_of_lt (qZh (bk aa)) : af ≠ ag)); have ar := ak ((by rw [hg]; exact Nat.ne_of_gt (qZh (bk aa)) : ag ≠ af)); replace aa := ak (qZe (bk aa) hb); have ap := ak ((by rw [hg]; exact Nat.ne_of_lt (IsS95.lt (show IsS95 w0 _ g aj ax from by repeat ((with_reducible exact HI0.out)))) : g ≠ ag)); have am := ak ((by rw [hg]; exact Nat.ne_of_gt (IsS95.lt (show IsS95 w0 _ g aj ax from by repeat ((with_reducible exact HI0.out)))) : ag ≠ g)); replace HI0 := ak (IsS95.below (by repeat ((with_reducible exact HI0.out))) hb); clear hb hbox hg; have eF := ar.out; have eG := ai.out; have eH := am.out; have eI := ap.out; have cZ := bc w74 ab 0 (.int .i64 0) rfl; have da := bc w74 ab 1 (.slice none 0 0) rfl; have db := fz ab 0; have dc := fz ab 1; obtain ⟨bd, be, eh⟩ := Kd.R_slice ad.out; subst eh) | ((with_reducible refine gate_callee (f := 87) rfl ?_); refine qQj (some 15) rfl rfl Try.func87 (by kernel_rfl) rfl #[.pointer (some ⟨g, 0, none⟩), .int .i64 (ae.length : Int)] rfl (by (try simp only [List.map_toArray, List.map_cons, List.map_nil]); rfl) ?_; (with_reducible refine (spec_l30Rd_pick.calls k g aj ax (ae.length : Int) ac aN w0 _ ?side1 ?side2 A4.out).mono ?_); (case side1 => repeat ((with_reducible first | exact HI0.out | refine IsS95.far ?_ ap.out _))); (case side2 => repeat ((with_reducible first | exact HB.out | refine below_set ?_ aD.out))); rintro e w79 ⟨rfl, hi, hb, hk⟩; refine ⟨_, rfl, ?_⟩; replace aa := ak (KeepBut.blk hk (g' := af) (o := .cells #[.int .i64 0, .slice none 0 0] 25 (0, 0)) (by refine blk_far ?_ ai.out _; refine blk_far ?_ ai.out _; exact aa.out) al.out (by simp)); replace ad := ak (Kd.R_mono (Kd.R_keep (IsS95.apart (show IsS95 w0 _ g aj ax from by repeat ((with_reducible first | exact HI0.out | refine IsS95.far ?_ ap.out _))) (by exact (Kd.R_mono (Kd.R_far (p := ⟨ag, 1, none⟩) (Kd.R_far (p := ⟨ag, 0, none⟩) (Kd.R_types ad.out ab.out (by decide)) (fun _ hk => hk.2) (.int .i64 ao)) (fun _ hk => hk.2) (.slice bd ae.length be)) (fun _ h_ => h_.1))) (by decide)) hk (fun _ h => h.2)) (fun _ h => h.1)); replace ab := ak (KeepBut.blk hk (g' := ag) (o := .cells #[.int .i64 ao, .slice bd ae.length be] 25 (0, 0)) (by refine qZi (cs := #[.int .i64 ao, .slice none 0 0]) ?_ 1 _ rfl; refine qZi (cs := #[.int .i64 0, .slice none 0 0]) ?_ 0 _ rfl; exact ab.out) am.out (by simp)); replace HK := ak (KeepBut.trans (by repeat ((with_reducible first | exact HK.out | refine keep_far ?_ aC.out _))) hk (.inl rfl)); replace HB := ak (hb); replace HI0 := ak (hi); (try clear hb); (try clear hb2); (try clear hk); (try clear hi)) | ((with_reducible refine gate_callee (f := 87) rfl ?_); refine qQj (some 17) rfl rfl Try.func87 (by kernel_rfl) rfl #[.pointer (some ⟨g, 0, none⟩), .int .i64 16] rfl (by (try simp only [List.map_toArray, List.map_cons, List.map_nil]); rfl) ?_; (with_reducible refine (spec_l30Rd_pick.calls k g aj aN 16 az aB w0 _ ?side1 ?side2 A5.out).mono ?_); (case side1 => repeat ((with_reducible exact HI0.out))); (case side2 => repeat ((with_reducible exact HB.out))); rintro e w80 ⟨rfl, hi, hb, hk⟩; refine ⟨_, rfl, ?_⟩; replace aa := ak (KeepBut.blk hk (g' := af) (o := .cells #[.int .i64 0, .slice none 0 0] 25 (0, 0)) (bk aa) al.out (by simp)); replace ad := ak (Kd.R_mono (Kd.R_keep (IsS95.apart (show IsS95 w0 _ g aj aN from by repeat ((with_reducible exact HI0.out))) (rk ad) (by decide)) hk (fun _ h => h.2)) (fun _ h => h.1)); replace ab := ak (KeepBut.blk hk (g' := ag) (o := .cells #[.int .i64 ao, .slice bd ae.length be] 25 (0, 0)) (bk ab) am.out (by simp)); replace HK := ak (KeepBut.trans (by repeat ((with_reducible exact HK.out))) hk (.inl rfl)); replace HB := ak (hb); replace HI0 := ak (hi); (try clear hb); (try clear hb2); (try clear hk); (try clear hi); have dd := bc w80 ab 0 (.int .i64 ao) rfl; have de := bc w80 ab 1 (.slice bd ae.length be) rfl; have df := fz ab 0; have dg := fz ab 1; have eJ := al.out; have eK := aq.out; have dh := bc w80 aa 0 (.int .i64 0) rfl; have di := bc w80 aa 1 (.slice none 0 0) rfl; have dj := fz aa 0; have dk := fz aa 1))
  refine bodyPost_ret (results_cell_row rfl _ _ af 25 #[.int .i64 ao, .slice bd ae.length be] (0, 0) _ rfl (by refine qZi (cs := #[.int .i64 ao, .slice none 0 0]) ?_ 1 _ rfl; refine qZi (cs := #[.int .i64 0, .slice none 0 0]) ?_ 0 _ rfl; exact aa.out) Try.underlying25 rfl (by kernel_rfl)) rfl ?_
  exact ⟨_, by rfl, by exact Kd.R_mono (Kd.R_far (p := ⟨af, 1, none⟩) (Kd.R_far (p := ⟨af, 0, none⟩) (Kd.R_types ad.out aa.out (by decide)) (fun _ hk => hk.2) (.int .i64 ao)) (fun _ hk => hk.2) (.slice bd ae.length be)) (fun _ hk => trivial), by repeat ((with_reducible first | exact HI0.out | refine IsS95.far ?_ aq.out _)), by repeat ((with_reducible first | exact HB.out | refine below_set ?_ aF.out)), by repeat ((with_reducible first | exact HK.out | refine keep_far ?_ aE.out _))⟩
 rw [if_pos c54] at H
 have c54b0 : (az == 2) = true := beq_iff_eq.mpr c54
 have c54b1 : (az != 2) = false := bne_eq_false_iff_eq.mpr c54
 clear c54
 obtain ⟨bO, bo⟩ : ∃ y_ : List Int, y_ = (([0, 1, 9, 8] : List Int)) := ⟨_, rfl⟩
 replace H : ((spec_l30Rd_one.f k aj aB bO).bind fun aM => (some (aM.1, ae, aM.2))) = some (r1, r2, r3) := by (rw [bo]; with_reducible exact H)
 have cq := ak bo
 clear bo
 replace H := Option.bind_eq_some_iff.mp H
 obtain ⟨⟨bp, ei⟩, cr, H⟩ := H
 have A55 := ak cr
 clear cr
 simp only [Option.some.injEq, Prod.mk.injEq] at H
 obtain ⟨rfl, rfl, rfl⟩ := H
 go_enter Try.func45, Try.ntmps45
 go_wp2_with (first | ((with_reducible refine gate_dst (N := 2) rfl ?_); refine qZj ?hg (N := 2) ?hd (cs := #[.int .i64 0, .slice none 0 0]) (t := 25) ?hr ?_; (case hd => rfl); (case hg => rfl); (case hr => (go_simp; done)); intro af hg w56 hbox hb; replace HB := ak (qZd (by repeat ((with_reducible exact HB.out))) hb); have aa := ak (hbox); have aE := ak ((by rw [hg]; exact (qQa (w := w) (g := g) (row := none) (by repeat ((with_reducible exact HK.out)))) : w.heap.size ≤ af)); have aF := ak ((Nat.le_trans HW0.out (by rw [hg]; exact (qQa (w := w) (g := g) (row := none) (by repeat ((with_reducible exact HK.out)))) : w.heap.size ≤ af) : w0.heap.size ≤ af)); replace HK := ak (KeepBut.trans (by repeat ((with_reducible exact HK.out))) (KeepBut.of_below hb g none) (.inl rfl)); have aq := ak ((by rw [hg]; exact Nat.ne_of_lt (IsS95.lt (show IsS95 w0 _ g aj ay from by repeat ((with_reducible exact HI0.out)))) : g ≠ af)); have al := ak ((by rw [hg]; exact Nat.ne_of_gt (IsS95.lt (show IsS95 w0 _ g aj ay from by repeat ((with_reducible exact HI0.out)))) : af ≠ g)); replace HI0 := ak (IsS95.below (by repeat ((with_reducible exact HI0.out))) hb); clear hb hbox hg) | ((with_reducible refine gate_callee (f := 86) rfl ?_); refine qQj (some 6) rfl rfl Try.func86 (by kernel_rfl) rfl #[.pointer (some ⟨g, 0, none⟩)] rfl (by (try simp only [List.map_toArray, List.map_cons, List.map_nil]); rfl) ?_; (with_reducible refine (spec_l30Net.calls k g aj ay ao ae ax w0 _ ?side1 ?side2 A2.out).mono ?_); (case side1 => repeat ((with_reducible exact HI0.out))); (case side2 => repeat ((with_reducible exact HB.out))); rintro e w57 ⟨bq, rfl, ho0, hi, hb, hk⟩; refine ⟨_, rfl, ?_⟩; replace aa := ak (KeepBut.blk hk (g' := af) (o := .cells #[.int .i64 0, .slice none 0 0] 25 (0, 0)) (bk aa) al.out (by simp)); have ad := ak (Kd.R_lower ho0 (qQa (w := w) (g := g) (row := none) (by repeat ((with_reducible exact HK.out))))); replace HK := ak (KeepBut.trans (by repeat ((with_reducible exact HK.out))) hk (.inl rfl)); replace HB := ak (hb); replace HI0 := ak (hi); (try clear hb); (try clear hb2); (try clear hk); (try clear hi); (try clear ho0)) | ((with_reducible refine gate_dst (N := 3) rfl ?_); refine qZj ?hg (N := 3) ?hd (cs := #[.int .i64 0, .slice none 0 0]) (t := 25) ?hr ?_; (case hd => rfl); (case hg => rfl); (case hr => (go_simp; done)); intro ag hg w58 hbox hb; replace ad := ak (Kd.R_below (rk ad) hb); replace HB := ak (qZd (by repeat ((with_reducible exact HB.out))) hb); have ab := ak (hbox); have aC := ak ((by rw [hg]; exact (qQa (w := w) (g := g) (row := none) (by repeat ((with_reducible exact HK.out)))) : w.heap.size ≤ ag)); have aD := ak ((Nat.le_trans HW0.out (by rw [hg]; exact (qQa (w := w) (g := g) (row := none) (by repeat ((with_reducible exact HK.out)))) : w.heap.size ≤ ag) : w0.heap.size ≤ ag)); replace HK := ak (KeepBut.trans (by repeat ((with_reducible exact HK.out))) (KeepBut.of_below hb g none) (.inl rfl)); have ai := ak ((by rw [hg]; exact Nat.ne_of_lt (qZh (bk aa)) : af ≠ ag)); have ar := ak ((by rw [hg]; exact Nat.ne_of_gt (qZh (bk aa)) : ag ≠ af)); replace aa := ak (qZe (bk aa) hb); have ap := ak ((by rw [hg]; exact Nat.ne_of_lt (IsS95.lt (show IsS95 w0 _ g aj ax from by repeat ((with_reducible exact HI0.out)))) : g ≠ ag)); have am := ak ((by rw [hg]; exact Nat.ne_of_gt (IsS95.lt (show IsS95 w0 _ g aj ax from by repeat ((with_reducible exact HI0.out)))) : ag ≠ g)); replace HI0 := ak (IsS95.below (by repeat ((with_reducible exact HI0.out))) hb); clear hb hbox hg; have eL := ar.out; have eM := ai.out; have eN := am.out; have eO := ap.out; have dl := bc w58 ab 0 (.int .i64 0) rfl; have dm := bc w58 ab 1 (.slice none 0 0) rfl; have dn := fz ab 0; have dp := fz ab 1; obtain ⟨ba, bb, ej⟩ := Kd.R_slice ad.out; subst ej) | ((with_reducible refine gate_callee (f := 87) rfl ?_); refine qQj (some 15) rfl rfl Try.func87 (by kernel_rfl) rfl #[.pointer (some ⟨g, 0, none⟩), .int .i64 (ae.length : Int)] rfl (by (try simp only [List.map_toArray, List.map_cons, List.map_nil]); rfl) ?_; (with_reducible refine (spec_l30Rd_pick.calls k g aj ax (ae.length : Int) ac aN w0 _ ?side1 ?side2 A4.out).mono ?_); (case side1 => repeat ((with_reducible first | exact HI0.out | refine IsS95.far ?_ ap.out _))); (case side2 => repeat ((with_reducible first | exact HB.out | refine below_set ?_ aD.out))); rintro e w63 ⟨rfl, hi, hb, hk⟩; refine ⟨_, rfl, ?_⟩; replace aa := ak (KeepBut.blk hk (g' := af) (o := .cells #[.int .i64 0, .slice none 0 0] 25 (0, 0)) (by refine blk_far ?_ ai.out _; refine blk_far ?_ ai.out _; exact aa.out) al.out (by simp)); replace ad := ak (Kd.R_mono (Kd.R_keep (IsS95.apart (show IsS95 w0 _ g aj ax from by repeat ((with_reducible first | exact HI0.out | refine IsS95.far ?_ ap.out _))) (by exact (Kd.R_mono (Kd.R_far (p := ⟨ag, 1, none⟩) (Kd.R_far (p := ⟨ag, 0, none⟩) (Kd.R_types ad.out ab.out (by decide)) (fun _ hk => hk.2) (.int .i64 ao)) (fun _ hk => hk.2) (.slice ba ae.length bb)) (fun _ h_ => h_.1))) (by decide)) hk (fun _ h => h.2)) (fun _ h => h.1)); replace ab := ak (KeepBut.blk hk (g' := ag) (o := .cells #[.int .i64 ao, .slice ba ae.length bb] 25 (0, 0)) (by refine qZi (cs := #[.int .i64 ao, .slice none 0 0]) ?_ 1 _ rfl; refine qZi (cs := #[.int .i64 0, .slice none 0 0]) ?_ 0 _ rfl; exact ab.out) am.out (by simp)); replace HK := ak (KeepBut.trans (by repeat ((with_reducible first | exact HK.out | refine keep_far ?_ aC.out _))) hk (.inl rfl)); replace HB := ak (hb); replace HI0 := ak (hi); (try clear hb); (try clear hb2); (try clear hk); (try clear hi)) | ((with_reducible refine gate_callee (f := 87) rfl ?_); refine qQj (some 17) rfl rfl Try.func87 (by kernel_rfl) rfl #[.pointer (some ⟨g, 0, none⟩), .int .i64 16] rfl (by (try simp only [List.map_toArray, List.map_cons, List.map_nil]); rfl) ?_; (with_reducible refine (spec_l30Rd_pick.calls k g aj aN 16 az aB w0 _ ?side1 ?side2 A5.out).mono ?_); (case side1 => repeat ((with_reducible exact HI0.out))); (case side2 => repeat ((with_reducible exact HB.out))); rintro e w64 ⟨rfl, hi, hb, hk⟩; refine ⟨_, rfl, ?_⟩; replace aa := ak (KeepBut.blk hk (g' := af) (o := .cells #[.int .i64 0, .slice none 0 0] 25 (0, 0)) (bk aa) al.out (by simp)); replace ad := ak (Kd.R_mono (Kd.R_keep (IsS95.apart (show IsS95 w0 _ g aj aN from by repeat ((with_reducible exact HI0.out))) (rk ad) (by decide)) hk (fun _ h => h.2)) (fun _ h => h.1)); replace ab := ak (KeepBut.blk hk (g' := ag) (o := .cells #[.int .i64 ao, .slice ba ae.length bb] 25 (0, 0)) (bk ab) am.out (by simp)); replace HK := ak (KeepBut.trans (by repeat ((with_reducible exact HK.out))) hk (.inl rfl)); replace HB := ak (hb); replace HI0 := ak (hi); (try clear hb); (try clear hb2); (try clear hk); (try clear hi)) | ((with_reducible refine gate_dst (N := 47) rfl ?_); refine Kd.R_lit (Kd.int .i64) _ 3 ?hg (N := 47) ?hd (xs := ([0, 1, 9, 8] : List Int)) (inner := [.int .i64 0, .int .i64 1, .int .i64 9, .int .i64 8]) (ok := fun _ => True) (okp := fun _ => True) ?hr ?hp (fun _ hk => hk) trivial (Below.refl _ _) (Nat.le_refl _) (by simp) ?_; (case hd => rfl); (case hg => rfl); (case hr => (go_simp; done)); (case hp => exact (Reps.one (show Kd.M (Kd.int .i64) _ _ _ 0 [.int .i64 0] from rfl) (Reps.one (show Kd.M (Kd.int .i64) _ _ _ 1 [.int .i64 1] from rfl) (Reps.one (show Kd.M (Kd.int .i64) _ _ _ 9 [.int .i64 9] from rfl) (Reps.one (show Kd.M (Kd.int .i64) _ _ _ 8 [.int .i64 8] from rfl) (Reps.none _ _)))))); intro fc w65 bP hb hg_ hnew_; clear hg_ hnew_; (rw [← cq.out] at bP); replace ad := ak (Kd.R_below (rk ad) hb); have aU := ak (Kd.R_lower bP (qQa (w := w) (g := g) (row := none) (by repeat ((with_reducible exact HK.out))))); replace aa := ak (qZe (bk aa) hb); replace ab := ak (qZe (bk ab) hb); replace HK := ak (KeepBut.trans (by repeat ((with_reducible exact HK.out))) (KeepBut.of_below hb g none) (.inl rfl)); replace HB := ak (qZd (by repeat ((with_reducible exact HB.out))) hb); replace HI0 := ak (IsS95.below (by repeat ((with_reducible exact HI0.out))) hb); clear hb bP; obtain ⟨ek, el, em⟩ := Kd.R_slice aU.out; subst em) | ((with_reducible refine gate_callee (f := 47) rfl ?_); refine qQj (some 48) rfl rfl Try.func47 (by kernel_rfl) rfl #[.pointer (some ⟨g, 0, none⟩), .slice ek bO.length el] rfl (by (try simp only [List.map_toArray, List.map_cons, List.map_nil]); rfl) ?_; (with_reducible refine (spec_l30Rd_one.calls k g aj aB _ _ bO bp ei w0 _ ?side1 ?side2 ?side3 ?side4 ?side5 A55.out).mono ?_); (case side1 => repeat ((with_reducible exact HI0.out))); (case side2 => repeat ((with_reducible exact HB.out))); (case side3 => repeat (exact (Kd.R_reads' aU.out).2.2)); (case side4 => exact (Kd.R_reads' aU.out).2.1); (case side5 => exact qXl (IsS95.own_ne HI0.out aU.out (by decide))); rintro e w68 ⟨rfl, hi, hb, hk⟩; refine ⟨_, rfl, ?_⟩; replace aa := ak (KeepBut.blk hk (g' := af) (o := .cells #[.int .i64 0, .slice none 0 0] 25 (0, 0)) (bk aa) al.out (by simp)); replace ad := ak (Kd.R_mono (Kd.R_keep (IsS95.apart (show IsS95 w0 _ g aj aB from by repeat ((with_reducible exact HI0.out))) (rk ad) (by decide)) hk (fun _ h => h.2)) (fun _ h => h.1)); replace ab := ak (KeepBut.blk hk (g' := ag) (o := .cells #[.int .i64 ao, .slice ba ae.length bb] 25 (0, 0)) (bk ab) am.out (by simp)); replace aU := ak (Kd.R_mono (Kd.R_keep (IsS95.apart (show IsS95 w0 _ g aj aB from by repeat ((with_reducible exact HI0.out))) (rk aU) (by decide)) hk (fun _ h => h.2)) (fun _ h => h.1)); replace HK := ak (KeepBut.trans (by repeat ((with_reducible exact HK.out))) hk (.inl rfl)); replace HB := ak (hb); replace HI0 := ak (hi); (try clear hb); (try clear hb2); (try clear hk); (try clear hi); have dq := bc w68 ab 0 (.int .i64 ao) rfl; have dr := bc w68 ab 1 (.slice ba ae.length bb) rfl; have dt := fz ab 0; have du := fz ab 1; have eP := al.out; have eQ := aq.out; have dv := bc w68 aa 0 (.int .i64 0) rfl; have dw := bc w68 aa 1 (.slice none 0 0) rfl; have dx := fz aa 0; have dy := fz aa 1))
 refine bodyPost_ret (results_cell_row rfl _ _ af 25 #[.int .i64 bp, .slice ba ae.length bb] (0, 0) _ rfl (by refine qZi (cs := #[.int .i64 bp, .slice none 0 0]) ?_ 1 _ rfl; refine qZi (cs := #[.int .i64 0, .slice none 0 0]) ?_ 0 _ rfl; refine blk_far ?_ ai.out _; exact aa.out) Try.underlying25 rfl (by kernel_rfl)) rfl ?_
 exact ⟨_, by rfl, by exact Kd.R_mono (Kd.R_far (p := ⟨af, 1, none⟩) (Kd.R_far (p := ⟨af, 0, none⟩) (Kd.R_far (p := ⟨ag, 0, none⟩) (Kd.R_types (Kd.R_types ad.out ab.out (by decide)) aa.out (by decide)) (fun _ hk => hk.1.2) (.int .i64 bp)) (fun _ hk => hk.2) (.int .i64 bp)) (fun _ hk => hk.2) (.slice ba ae.length bb)) (fun _ hk => trivial), by repeat ((with_reducible first | exact HI0.out | refine IsS95.far ?_ aq.out _ | refine IsS95.far ?_ ap.out _)), by repeat ((with_reducible first | exact HB.out | refine below_set ?_ aF.out | refine below_set ?_ aD.out)), by repeat ((with_reducible first | exact HK.out | refine keep_far ?_ aE.out _ | refine keep_far ?_ aC.out _))⟩
/-! ### spec_l30Node: function 46 -/
def spec_l30Node.f (k : Nat) (ad : List Int) (ah : Int) (ac : Int) (af : List (S58)) : Option (Int × Int) := (spec_l30Rd_pick.f k ad ah 16).bind fun ai => (if ai.1 = 0 then ((spec_l30Rd_one.f k ad ai.2 (([(-1), ac] : List Int))).bind fun ag => (some (ag.1, ag.2))) else ((spec_l30Rd_pick.f k ad ai.2 ac).bind fun ao => (some (ao.1, ao.2))))
theorem spec_l30Node.mono : ∀ a0 a1 a2 a3 k, LeO (spec_l30Node.f k a0 a1 a2 a3) (spec_l30Node.f (k + 1) a0 a1 a2 a3) := by
 intro a0 a1 a2 a3 k
 unfold spec_l30Node.f
 repeat' first | (with_reducible exact spec_l30Rd_one.mono _ _ _ _) | (with_reducible exact spec_l30Rd_pick.mono _ _ _ _) | (with_reducible exact LeO.refl _) | (with_reducible refine LeO.ite ?_ ?_) | (with_reducible refine LeO.bind ?_ (fun _ => ?_))
set_option maxHeartbeats 8000000 in
set_option maxRecDepth 100000 in
theorem spec_l30Node.calls (k : Nat) (g : Nat) (ad : List Int) (ah : Int) (ac : Int) (aj : Option Addr) (al : Nat) (af : List (S58)) (r1 : Int) (r2 : Int) (w0 w : World) (hI : IsS95 w0 w g ad ah) (hB : Below w0.heap.size w0 w) (au : ∀ W_, KeepBut w W_ g none → Kd.C k58 W_ aj af.length af) (av : af.length ≤ al) (h : spec_l30Node.f k ad ah ac af = some (r1, r2)) :
  Calls Try.prog 46 #[.pointer (some ⟨g, 0, none⟩), .agg #[.int .i64 ac, .slice aj af.length al]] w fun e w' => e = .returned (.int .i64 r1) ∧ IsS95 w0 w' g ad r2 ∧ Below w0.heap.size w0 w' ∧ KeepBut w w' g none := by
 have aV := Try.underlying25
 have aR := ak au
 have aS := ak av
 clear au av
 have HI0 := ak hI
 have HK := ak (KeepBut.refl w g none)
 have HL := ak hB.size
 clear hI
 have HW0 := ak hB.size
 have HB := ak hB
 clear hB
 have H : ((spec_l30Rd_pick.f k ad ah 16).bind fun ai => (if ai.1 = 0 then ((spec_l30Rd_one.f k ad ai.2 (([(-1), ac] : List Int))).bind fun ag => (some (ag.1, ag.2))) else ((spec_l30Rd_pick.f k ad ai.2 ac).bind fun ao => (some (ao.1, ao.2))))) = some (r1, r2) := h
 clear h
 replace H := Option.bind_eq_some_iff.mp H
 obtain ⟨⟨ap, aq⟩, A30, H⟩ := H
 have A3 := ak A30
 clear A30
 by_cases c4 : ap = 0
 rotate_left
 ·rw [if_neg c4] at H
  have c4b0 : (ap == 0) = false := beq_eq_false_iff_ne.mpr c4
  have c4b1 : (ap != 0) = true := bne_iff_ne.mpr c4
  replace H := Option.bind_eq_some_iff.mp H
  obtain ⟨⟨aG, aH⟩, ay, H⟩ := H
  have A14 := ak ay
  clear ay
  simp only [Option.some.injEq, Prod.mk.injEq] at H
  obtain ⟨rfl, rfl⟩ := H
  go_enter Try.func46, Try.ntmps46
  go_wp2_with (first | ((with_reducible refine gate_dst (N := 3) rfl ?_); refine qZj ?hg (N := 3) ?hd (cs := #[.int .i64 ac, .slice aj af.length al]) (t := 25) ?hr ?_; (case hd => rfl); (case hg => rfl); (case hr => (go_simp; done)); intro ab hg w15 hbox hb; replace HB := ak (qZd (by repeat ((with_reducible exact HB.out))) hb); have aa := ak (hbox); have az := ak ((by rw [hg]; exact (qQa (w := w) (g := g) (row := none) (by repeat ((with_reducible exact HK.out)))) : w.heap.size ≤ ab)); have aA := ak ((Nat.le_trans HW0.out (by rw [hg]; exact (qQa (w := w) (g := g) (row := none) (by repeat ((with_reducible exact HK.out)))) : w.heap.size ≤ ab) : w0.heap.size ≤ ab)); replace HK := ak (KeepBut.trans (by repeat ((with_reducible exact HK.out))) (KeepBut.of_below hb g none) (.inl rfl)); have an := ak ((by rw [hg]; exact Nat.ne_of_lt (IsS95.lt (show IsS95 w0 _ g ad ah from by repeat ((with_reducible exact HI0.out)))) : g ≠ ab)); have ae := ak ((by rw [hg]; exact Nat.ne_of_gt (IsS95.lt (show IsS95 w0 _ g ad ah from by repeat ((with_reducible exact HI0.out)))) : ab ≠ g)); replace HI0 := ak (IsS95.below (by repeat ((with_reducible exact HI0.out))) hb); clear hb hbox hg) | ((with_reducible refine gate_callee (f := 87) rfl ?_); refine qQj (some 6) rfl rfl Try.func87 (by kernel_rfl) rfl #[.pointer (some ⟨g, 0, none⟩), .int .i64 16] rfl (by (try simp only [List.map_toArray, List.map_cons, List.map_nil]); rfl) ?_; (with_reducible refine (spec_l30Rd_pick.calls k g ad ah 16 ap aq w0 _ ?side1 ?side2 A3.out).mono ?_); (case side1 => repeat ((with_reducible exact HI0.out))); (case side2 => repeat ((with_reducible exact HB.out))); rintro e w16 ⟨rfl, hi, hb, hk⟩; refine ⟨_, rfl, ?_⟩; replace aa := ak (KeepBut.blk hk (g' := ab) (o := .cells #[.int .i64 ac, .slice aj af.length al] 25 (0, 0)) (bk aa) ae.out (by simp)); replace HK := ak (KeepBut.trans (by repeat ((with_reducible exact HK.out))) hk (.inl rfl)); replace HB := ak (hb); replace HI0 := ak (hi); (try clear hb); (try clear hb2); (try clear hk); (try clear hi); have aT := ae.out; have aU := an.out; have aC := bc w16 aa 0 (.int .i64 ac) rfl; have aD := bc w16 aa 1 (.slice aj af.length al) rfl; have aE := fz aa 0; have aF := fz aa 1) | ((with_reducible refine gate_callee (f := 87) rfl ?_); refine qQj (some 16) rfl rfl Try.func87 (by kernel_rfl) rfl #[.pointer (some ⟨g, 0, none⟩), .int .i64 ac] rfl (by (try simp only [List.map_toArray, List.map_cons, List.map_nil]); rfl) ?_; (with_reducible refine (spec_l30Rd_pick.calls k g ad aq ac aG aH w0 _ ?side1 ?side2 A14.out).mono ?_); (case side1 => repeat ((with_reducible exact HI0.out))); (case side2 => repeat ((with_reducible exact HB.out))); rintro e w19 ⟨rfl, hi, hb, hk⟩; refine ⟨_, rfl, ?_⟩; replace aa := ak (KeepBut.blk hk (g' := ab) (o := .cells #[.int .i64 ac, .slice aj af.length al] 25 (0, 0)) (bk aa) ae.out (by simp)); replace HK := ak (KeepBut.trans (by repeat ((with_reducible exact HK.out))) hk (.inl rfl)); replace HB := ak (hb); replace HI0 := ak (hi); (try clear hb); (try clear hb2); (try clear hk); (try clear hi)))
  go_ret
  exact ⟨by rfl, by repeat ((with_reducible exact HI0.out)), by repeat ((with_reducible exact HB.out)), by repeat ((with_reducible exact HK.out))⟩
 rw [if_pos c4] at H
 have c4b0 : (ap == 0) = true := beq_iff_eq.mpr c4
 have c4b1 : (ap != 0) = false := bne_eq_false_iff_eq.mpr c4
 clear c4
 obtain ⟨aw, ar⟩ : ∃ y_ : List Int, y_ = (([(-1), ac] : List Int)) := ⟨_, rfl⟩
 replace H : ((spec_l30Rd_one.f k ad aq aw).bind fun ag => (some (ag.1, ag.2))) = some (r1, r2) := by (rw [ar]; with_reducible exact H)
 have aB := ak ar
 clear ar
 replace H := Option.bind_eq_some_iff.mp H
 obtain ⟨⟨aI, aJ⟩, A50, H⟩ := H
 have A5 := ak A50
 clear A50
 simp only [Option.some.injEq, Prod.mk.injEq] at H
 obtain ⟨rfl, rfl⟩ := H
 go_enter Try.func46, Try.ntmps46
 go_wp2_with (first | ((with_reducible refine gate_dst (N := 3) rfl ?_); refine qZj ?hg (N := 3) ?hd (cs := #[.int .i64 ac, .slice aj af.length al]) (t := 25) ?hr ?_; (case hd => rfl); (case hg => rfl); (case hr => (go_simp; done)); intro ab hg w6 hbox hb; replace HB := ak (qZd (by repeat ((with_reducible exact HB.out))) hb); have aa := ak (hbox); have az := ak ((by rw [hg]; exact (qQa (w := w) (g := g) (row := none) (by repeat ((with_reducible exact HK.out)))) : w.heap.size ≤ ab)); have aA := ak ((Nat.le_trans HW0.out (by rw [hg]; exact (qQa (w := w) (g := g) (row := none) (by repeat ((with_reducible exact HK.out)))) : w.heap.size ≤ ab) : w0.heap.size ≤ ab)); replace HK := ak (KeepBut.trans (by repeat ((with_reducible exact HK.out))) (KeepBut.of_below hb g none) (.inl rfl)); have an := ak ((by rw [hg]; exact Nat.ne_of_lt (IsS95.lt (show IsS95 w0 _ g ad ah from by repeat ((with_reducible exact HI0.out)))) : g ≠ ab)); have ae := ak ((by rw [hg]; exact Nat.ne_of_gt (IsS95.lt (show IsS95 w0 _ g ad ah from by repeat ((with_reducible exact HI0.out)))) : ab ≠ g)); replace HI0 := ak (IsS95.below (by repeat ((with_reducible exact HI0.out))) hb); clear hb hbox hg) | ((with_reducible refine gate_callee (f := 87) rfl ?_); refine qQj (some 6) rfl rfl Try.func87 (by kernel_rfl) rfl #[.pointer (some ⟨g, 0, none⟩), .int .i64 16] rfl (by (try simp only [List.map_toArray, List.map_cons, List.map_nil]); rfl) ?_; (with_reducible refine (spec_l30Rd_pick.calls k g ad ah 16 ap aq w0 _ ?side1 ?side2 A3.out).mono ?_); (case side1 => repeat ((with_reducible exact HI0.out))); (case side2 => repeat ((with_reducible exact HB.out))); rintro e w7 ⟨rfl, hi, hb, hk⟩; refine ⟨_, rfl, ?_⟩; replace aa := ak (KeepBut.blk hk (g' := ab) (o := .cells #[.int .i64 ac, .slice aj af.length al] 25 (0, 0)) (bk aa) ae.out (by simp)); replace HK := ak (KeepBut.trans (by repeat ((with_reducible exact HK.out))) hk (.inl rfl)); replace HB := ak (hb); replace HI0 := ak (hi); (try clear hb); (try clear hb2); (try clear hk); (try clear hi); have aW := ae.out; have aX := an.out; have aK := bc w7 aa 0 (.int .i64 ac) rfl; have aL := bc w7 aa 1 (.slice aj af.length al) rfl; have aM := fz aa 0; have aN := fz aa 1) | ((with_reducible refine gate_dst (N := 11) rfl ?_); refine Kd.R_lit (Kd.int .i64) _ 3 ?hg (N := 11) ?hd (xs := ([(-1), ac] : List Int)) (inner := [.int .i64 (-1), .int .i64 ac]) (ok := fun _ => True) (okp := fun _ => True) ?hr ?hp (fun _ hk => hk) trivial (Below.refl _ _) (Nat.le_refl _) (by simp) ?_; (case hd => rfl); (case hg => rfl); (case hr => (go_simp; done)); (case hp => exact (Reps.one (show Kd.M (Kd.int .i64) _ _ _ (-1) [.int .i64 (-1)] from rfl) (Reps.one (show Kd.M (Kd.int .i64) _ _ _ ac [.int .i64 ac] from rfl) (Reps.none _ _)))); intro aY w10 ax hb hg_ hnew_; clear hg_ hnew_; (rw [← aB.out] at ax); have am := ak (Kd.R_lower ax (qQa (w := w) (g := g) (row := none) (by repeat ((with_reducible exact HK.out))))); replace aa := ak (qZe (bk aa) hb); replace HK := ak (KeepBut.trans (by repeat ((with_reducible exact HK.out))) (KeepBut.of_below hb g none) (.inl rfl)); replace HB := ak (qZd (by repeat ((with_reducible exact HB.out))) hb); replace HI0 := ak (IsS95.below (by repeat ((with_reducible exact HI0.out))) hb); clear hb ax; obtain ⟨aO, aP, aQ⟩ := Kd.R_slice am.out; subst aQ) | ((with_reducible refine gate_callee (f := 47) rfl ?_); refine qQj (some 12) rfl rfl Try.func47 (by kernel_rfl) rfl #[.pointer (some ⟨g, 0, none⟩), .slice aO aw.length aP] rfl (by (try simp only [List.map_toArray, List.map_cons, List.map_nil]); rfl) ?_; (with_reducible refine (spec_l30Rd_one.calls k g ad aq _ _ aw aI aJ w0 _ ?side1 ?side2 ?side3 ?side4 ?side5 A5.out).mono ?_); (case side1 => repeat ((with_reducible exact HI0.out))); (case side2 => repeat ((with_reducible exact HB.out))); (case side3 => repeat (exact (Kd.R_reads' am.out).2.2)); (case side4 => exact (Kd.R_reads' am.out).2.1); (case side5 => exact qXl (IsS95.own_ne HI0.out am.out (by decide))); rintro e w13 ⟨rfl, hi, hb, hk⟩; refine ⟨_, rfl, ?_⟩; replace aa := ak (KeepBut.blk hk (g' := ab) (o := .cells #[.int .i64 ac, .slice aj af.length al] 25 (0, 0)) (bk aa) ae.out (by simp)); replace am := ak (Kd.R_mono (Kd.R_keep (IsS95.apart (show IsS95 w0 _ g ad aq from by repeat ((with_reducible exact HI0.out))) (rk am) (by decide)) hk (fun _ h => h.2)) (fun _ h => h.1)); replace HK := ak (KeepBut.trans (by repeat ((with_reducible exact HK.out))) hk (.inl rfl)); replace HB := ak (hb); replace HI0 := ak (hi); (try clear hb); (try clear hb2); (try clear hk); (try clear hi)))
 go_ret
 exact ⟨by rfl, by repeat ((with_reducible exact HI0.out)), by repeat ((with_reducible exact HB.out)), by repeat ((with_reducible exact HK.out))⟩
/-! ### spec_DrawSomeOthers: function 11 -/
def spec_DrawSomeOthers.f (k : Nat) (l0 : List Int) : Option (Int × (List (S58)) × Int × Int × Int × Int) := (spec_l30Open.f l0).bind fun au => ((spec_l30AnyNet.f k au.1 au.2).bind fun ap => ((spec_l30Node.f k au.1 ap.2.2 ap.1 ap.2.1).bind fun aD => ((spec_l30Node.f k au.1 aD.2 ap.1 ap.2.1).bind fun aE => ((spec_l30Rd_one.f k au.1 aE.2 (([0, 50, 200, 201] : List Int))).bind fun aA => ((spec_l30Rd_one.f k au.1 aA.2 (([0, 50, 100, (-1)] : List Int))).bind fun aB => (some (ap.1, ap.2.1, aD.1, aE.1, aA.1, aB.1)))))))
theorem spec_DrawSomeOthers.mono : ∀ a0 k, LeO (spec_DrawSomeOthers.f k a0) (spec_DrawSomeOthers.f (k + 1) a0) := by
 intro a0 k
 unfold spec_DrawSomeOthers.f
 repeat' first | (with_reducible exact spec_l30AnyNet.mono _ _ _) | (with_reducible exact spec_l30Node.mono _ _ _ _ _) | (with_reducible exact spec_l30Rd_one.mono _ _ _ _) | (with_reducible exact LeO.refl _) | (with_reducible refine LeO.bind ?_ (fun _ => ?_))
def spec_DrawSomeOthers.T5 : Bool × List (List Nat × List Nat) := (true, [([], []), ([], []), ([], []), ([], []), ([], []), ([3, 4], [3, 4]), ([], []), ([], []), ([6, 7, 5], [6, 7]), ([0, 8, 0], [0]), ([1, 9, 0, 1, 9], [1]), ([2, 10, 0, 1, 2, 9, 10], [2]), ([5, 11, 0, 1, 2, 3, 4, 5, 9, 10, 11], [5]), ([8, 12, 0, 1, 2, 3, 4, 5, 6, 7, 8, 9, 10, 11, 12], [8])])
def spec_DrawSomeOthers.B5 : List Nat := [0, 0, 0, 0, 0, 24, 0, 0, 248, 505, 1019, 2047, 4095, 8191]
theorem spec_DrawSomeOthers.tab5 : rtab .any (qKd Try.f11 5) = spec_DrawSomeOthers.T5 := by kernel_rfl
theorem spec_DrawSomeOthers.bits5 : qJf spec_DrawSomeOthers.T5.2 spec_DrawSomeOthers.B5 = true := by kernel_rfl
set_option maxHeartbeats 8000000 in
set_option maxRecDepth 100000 in
theorem spec_DrawSomeOthers.calls (k : Nat) (A0 : Option Addr) (c0 : Nat) (l0 : List Int) (r1 : Int) (r2 : List (S58)) (r3 : Int) (r4 : Int) (r5 : Int) (r6 : Int) (w : World) (hr0 : Kd.C (Kd.int .u8) w A0 l0.length l0) (hc0 : l0.length ≤ c0) (h : spec_DrawSomeOthers.f k l0 = some (r1, r2, r3, r4, r5, r6)) :
  Calls Try.prog 11 #[.slice A0 l0.length c0] w fun e w' => ∃ v1_ : Value, e = .returned (.tuple #[.agg #[.int .i64 r1, v1_], .int .i64 r3, .int .i64 r4, .int .i64 r5, .int .i64 r6]) ∧ Kd.R k58 58 w' w.heap.size (fun _ => True) v1_ r2 ∧ Below w.heap.size w w' := by
 have bP := Try.underlying25
 have HR0 := ak hr0
 have HC0 := ak hc0
 clear hr0 hc0
 have HB := ak (Below.refl w.heap.size w)
 have H : ((spec_l30Open.f l0).bind fun au => ((spec_l30AnyNet.f k au.1 au.2).bind fun ap => ((spec_l30Node.f k au.1 ap.2.2 ap.1 ap.2.1).bind fun aD => ((spec_l30Node.f k au.1 aD.2 ap.1 ap.2.1).bind fun aE => ((spec_l30Rd_one.f k au.1 aE.2 (([0, 50, 200, 201] : List Int))).bind fun aA => ((spec_l30Rd_one.f k au.1 aA.2 (([0, 50, 100, (-1)] : List Int))).bind fun aB => (some (ap.1, ap.2.1, aD.1, aE.1, aA.1, aB.1)))))))) = some (r1, r2, r3, r4, r5, r6) := h
 clear h
 replace H := Option.bind_eq_some_iff.mp H
 obtain ⟨⟨am, bd⟩, A20, H⟩ := H
 have A2 := ak A20
 clear A20
 replace H := Option.bind_eq_some_iff.mp H
 obtain ⟨⟨ai, aj, aL⟩, A30, H⟩ := H
 have A3 := ak A30
 clear A30
 replace H := Option.bind_eq_some_iff.mp H
 obtain ⟨⟨aM, aT⟩, A40, H⟩ := H
 have A4 := ak A40
 clear A40
 replace H := Option.bind_eq_some_iff.mp H
 obtain ⟨⟨aN, aF⟩, A50, H⟩ := H
 have A5 := ak A50
 clear A50
 obtain ⟨aO, aR⟩ : ∃ y_ : List Int, y_ = (([0, 50, 200, 201] : List Int)) := ⟨_, rfl⟩
 replace H : ((spec_l30Rd_one.f k am aF aO).bind fun aA => ((spec_l30Rd_one.f k am aA.2 (([0, 50, 100, (-1)] : List Int))).bind fun aB => (some (ai, aj, aM, aN, aA.1, aB.1)))) = some (r1, r2, r3, r4, r5, r6) := by (rw [aR]; with_reducible exact H)
 have be := ak aR
 clear aR
 replace H := Option.bind_eq_some_iff.mp H
 obtain ⟨⟨aH, aG⟩, A60, H⟩ := H
 have A6 := ak A60
 clear A60
 obtain ⟨aI, aS⟩ : ∃ y_ : List Int, y_ = (([0, 50, 100, (-1)] : List Int)) := ⟨_, rfl⟩
 replace H : ((spec_l30Rd_one.f k am aG aI).bind fun aB => (some (ai, aj, aM, aN, aH, aB.1))) = some (r1, r2, r3, r4, r5, r6) := by (rw [aS]; with_reducible exact H)
 have bf := ak aS
 clear aS
 replace H := Option.bind_eq_some_iff.mp H
 obtain ⟨⟨aP, bg⟩, A70, H⟩ := H
 have A7 := ak A70
 clear A70
 simp only [Option.some.injEq, Prod.mk.injEq] at H
 obtain ⟨rfl, rfl, rfl, rfl, rfl, rfl⟩ := H
 go_enter Try.func11, Try.ntmps11
 try go_wp2_with (first | ((with_reducible refine gate_dst (N := 2) rfl ?_); refine qZj ?hg (N := 2) ?hd (cs := #[.int .i64 0, .slice none 0 0]) (t := 25) ?hr ?_; (case hd => rfl); (case hg => rfl); (case hr => (go_simp; done)); intro ae hg w8 hbox hb; have aa := ak (hbox); have bH := ak ((by rw [hg]; exact (qZc (bl HB)) : w.heap.size ≤ ae)); have aJ := ak ((by rw [hg]; exact (qZc (bl HB)) : w.heap.size ≤ ae)); replace HB := ak (qZd (bl HB) hb); clear hb hbox hg) | ((with_reducible refine gate_callee (f := 44) rfl ?_); refine qQj (some 12) rfl rfl Try.func44 (by kernel_rfl) rfl #[.slice A0 l0.length c0] rfl (by (try simp only [List.map_toArray, List.map_cons, List.map_nil]); rfl) ?_; (with_reducible refine (spec_l30Open.calls _ _ l0 am bd w _ ?side1 ?side2 ?side3 A2.out).mono ?_); (case side1 => repeat ((with_reducible exact HB.out))); (case side2 => exact HR0.out); (case side3 => exact HC0.out); rintro e w9 ⟨ag, rfl, hi, hb, hb2⟩; refine ⟨_, rfl, ?_⟩; replace HB := ak (hb); have ab := ak (hi); have aQ := ak (IsS95.ne_blk hi (qZe (bk aa) hb2) (by decide)); have av := ak (Ne.symm (IsS95.ne_blk hi (qZe (bk aa) hb2) (by decide))); replace aa := ak (qZe (bk aa) hb2); (try clear hb); (try clear hb2); (try clear hk); (try clear hi)) | ((with_reducible refine gate_callee (f := 45) rfl ?_); refine qQj (some 14) rfl rfl Try.func45 (by kernel_rfl) rfl #[.pointer (some ⟨ag, 0, none⟩)] rfl (by (try simp only [List.map_toArray, List.map_cons, List.map_nil]); rfl) ?_; (with_reducible refine (spec_l30AnyNet.calls k ag am bd ai aj aL w _ ?side1 ?side2 A3.out).mono ?_); (case side1 => repeat ((with_reducible exact ab.out))); (case side2 => repeat ((with_reducible exact HB.out))); rintro e w10 ⟨bQ, rfl, ho0, hi, hb, hk⟩; refine ⟨_, rfl, ?_⟩; replace aa := ak (KeepBut.blk hk (g' := ae) (o := .cells #[.int .i64 0, .slice none 0 0] 25 (0, 0)) (bk aa) av.out (by simp)); have ad := ak (Kd.R_lower ho0 (qZc (by repeat ((with_reducible exact HB.out))))); replace HB := ak (hb); replace ab := ak (hi); (try clear hb); (try clear hb2); (try clear hk); (try clear hi); (try clear ho0)) | ((with_reducible refine gate_dst (N := 8) rfl ?_); refine qZj ?hg (N := 8) ?hd (cs := #[.int .i64 0, .slice none 0 0]) (t := 25) ?hr ?_; (case hd => rfl); (case hg => rfl); (case hr => (go_simp; done)); intro ah hg w11 hbox hb; replace ad := ak (Kd.R_below (rk ad) hb); have ac := ak (hbox); have bI := ak ((by rw [hg]; exact (qZc (by repeat ((with_reducible exact HB.out)))) : w.heap.size ≤ ah)); have aK := ak ((by rw [hg]; exact (qZc (by repeat ((with_reducible exact HB.out)))) : w.heap.size ≤ ah)); replace HB := ak (qZd (by repeat ((with_reducible exact HB.out))) hb); have aw := ak ((by rw [hg]; exact Nat.ne_of_lt (qZh (bk aa)) : ae ≠ ah)); have ax := ak ((by rw [hg]; exact Nat.ne_of_gt (qZh (bk aa)) : ah ≠ ae)); replace aa := ak (qZe (bk aa) hb); have az := ak ((by rw [hg]; exact Nat.ne_of_lt (IsS95.lt (show IsS95 w _ ag am aL from by repeat ((with_reducible exact ab.out)))) : ag ≠ ah)); have ay := ak ((by rw [hg]; exact Nat.ne_of_gt (IsS95.lt (show IsS95 w _ ag am aL from by repeat ((with_reducible exact ab.out)))) : ah ≠ ag)); replace ab := ak (IsS95.below (by repeat ((with_reducible exact ab.out))) hb); clear hb hbox hg; have bJ := ax.out; have bK := aw.out; have bL := ay.out; have bM := az.out; have bp := bc w11 ac 0 (.int .i64 0) rfl; have bq := bc w11 ac 1 (.slice none 0 0) rfl; have br := fz ac 0; have bs := fz ac 1; obtain ⟨aq, ar, bD⟩ := Kd.R_slice ad.out; subst bD) | ((with_reducible refine gate_callee (f := 46) rfl ?_); refine qQj (some 17) rfl rfl Try.func46 (by kernel_rfl) rfl #[.pointer (some ⟨ag, 0, none⟩), .agg #[.int .i64 ai, .slice aq aj.length ar]] rfl (by (try simp only [List.map_toArray, List.map_cons, List.map_nil]); rfl) ?_; (with_reducible refine (spec_l30Node.calls k ag am aL ai _ _ aj aM aT w _ ?side1 ?side2 ?side3 ?side4 A4.out).mono ?_); (case side1 => repeat ((with_reducible first | exact ab.out | refine IsS95.far ?_ az.out _))); (case side2 => repeat ((with_reducible first | exact HB.out | refine below_set ?_ aK.out))); (case side3 => exact Kd.C_foot_own (IsS95.apart (show IsS95 w _ ag am aL from by repeat ((with_reducible first | exact ab.out | refine IsS95.far ?_ az.out _))) (by exact (Kd.R_mono (Kd.R_far (p := ⟨ah, 1, none⟩) (Kd.R_far (p := ⟨ah, 0, none⟩) (Kd.R_types ad.out ac.out (by decide)) (fun _ hk => hk.2) (.int .i64 ai)) (fun _ hk => hk.2) (.slice aq aj.length ar)) (fun _ h_ => h_.1))) (by decide)) (fun _ h_ => h_.2)); (case side4 => exact (Kd.R_reads' ad.out).2.1); rintro e w16 ⟨rfl, hi, hb, hk⟩; refine ⟨_, rfl, ?_⟩; replace aa := ak (KeepBut.blk hk (g' := ae) (o := .cells #[.int .i64 0, .slice none 0 0] 25 (0, 0)) (by refine blk_far ?_ aw.out _; refine blk_far ?_ aw.out _; exact aa.out) av.out (by simp)); replace ad := ak (Kd.R_mono (Kd.R_keep (IsS95.apart (show IsS95 w _ ag am aL from by repeat ((with_reducible first | exact ab.out | refine IsS95.far ?_ az.out _))) (by exact (Kd.R_mono (Kd.R_far (p := ⟨ah, 1, none⟩) (Kd.R_far (p := ⟨ah, 0, none⟩) (Kd.R_types ad.out ac.out (by decide)) (fun _ hk => hk.2) (.int .i64 ai)) (fun _ hk => hk.2) (.slice aq aj.length ar)) (fun _ h_ => h_.1))) (by decide)) hk (fun _ h => h.2)) (fun _ h => h.1)); replace ac := ak (KeepBut.blk hk (g' := ah) (o := .cells #[.int .i64 ai, .slice aq aj.length ar] 25 (0, 0)) (by refine qZi (cs := #[.int .i64 ai, .slice none 0 0]) ?_ 1 _ rfl; refine qZi (cs := #[.int .i64 0, .slice none 0 0]) ?_ 0 _ rfl; exact ac.out) ay.out (by simp)); replace HB := ak (hb); replace ab := ak (hi); (try clear hb); (try clear hb2); (try clear hk); (try clear hi); have bu := bc w16 ac 0 (.int .i64 ai) rfl; have bv := bc w16 ac 1 (.slice aq aj.length ar) rfl; have bw := fz ac 0; have bx := fz ac 1) | ((with_reducible refine gate_callee (f := 46) rfl ?_); refine qQj (some 20) rfl rfl Try.func46 (by kernel_rfl) rfl #[.pointer (some ⟨ag, 0, none⟩), .agg #[.int .i64 ai, .slice aq aj.length ar]] rfl (by (try simp only [List.map_toArray, List.map_cons, List.map_nil]); rfl) ?_; (with_reducible refine (spec_l30Node.calls k ag am aT ai _ _ aj aN aF w _ ?side1 ?side2 ?side3 ?side4 A5.out).mono ?_); (case side1 => repeat ((with_reducible exact ab.out))); (case side2 => repeat ((with_reducible exact HB.out))); (case side3 => exact Kd.C_foot_own (IsS95.apart (show IsS95 w _ ag am aT from by repeat ((with_reducible exact ab.out))) (rk ad) (by decide)) (fun _ h_ => h_.2)); (case side4 => exact (Kd.R_reads' ad.out).2.1); rintro e w18 ⟨rfl, hi, hb, hk⟩; refine ⟨_, rfl, ?_⟩; replace aa := ak (KeepBut.blk hk (g' := ae) (o := .cells #[.int .i64 0, .slice none 0 0] 25 (0, 0)) (bk aa) av.out (by simp)); replace ad := ak (Kd.R_mono (Kd.R_keep (IsS95.apart (show IsS95 w _ ag am aT from by repeat ((with_reducible exact ab.out))) (rk ad) (by decide)) hk (fun _ h => h.2)) (fun _ h => h.1)); replace ac := ak (KeepBut.blk hk (g' := ah) (o := .cells #[.int .i64 ai, .slice aq aj.length ar] 25 (0, 0)) (bk ac) ay.out (by simp)); replace HB := ak (hb); replace ab := ak (hi); (try clear hb); (try clear hb2); (try clear hk); (try clear hi)))
 replace ad := ak (Kd.R_drew ad.out)
 replace aa := ak (qZp aa.out)
 replace ac := ak (qZp ac.out)
 replace ab := ak (IsS95.drew ab.out)
 replace HB := ak (qZo HB.out)
 refine qJd (n := 14) (S := fun w' => True) (ds := []) (ms 14 0) (by kernel_rfl) rfl (by kernel_rfl) trivial (fun hHeld => ?_); refine qQk spec_DrawSomeOthers.tab5 spec_DrawSomeOthers.bits5 (fun HT_ HW_ => ?_)
 generalize w18.drew = w19 at ad aa ac ab HB hHeld ⊢
 refine pu 1 22 ?_ (ms 14 2) rfl rfl HT_ (by kernel_rfl) (fun _ _ _ h => h) (by rfl) ?_ ?_ ?_ ?_
 rotate_left
 ·intro w'
  go_simp
  with_reducible rfl
 rotate_left
 ·simp only [SX]
  rfl
 refine pu 2 23 ?_ (ms 14 6) rfl rfl HT_ (by kernel_rfl) (fun _ _ _ h => h) (by rfl) ?_ ?_ ?_ ?_
 rotate_left
 ·intro w'
  go_simp
  with_reducible rfl
 rotate_left
 ·simp only [SX]
  rfl
 refine pu 3 24 ?_ (ms 14 14) rfl rfl HT_ (by kernel_rfl) (fun _ _ _ h => h) (by rfl) ?_ ?_ ?_ ?_
 rotate_left
 ·intro w'
  go_simp
  with_reducible rfl
 rotate_left
 ·simp only [SX]
  rfl
 refine pu 6 27 ?_ (ms 14 78) rfl rfl HT_ (by kernel_rfl) (fun _ _ _ h => h) (by rfl) ?_ ?_ ?_ ?_
 rotate_left
 ·intro w'
  go_simp
  with_reducible rfl
 rotate_left
 ·simp only [SX]
  rfl
 refine inv_at [0, 4, 5, 7, 8, 9, 10, 11, 12, 13] (fun a0_ b a w' => ∃ (an : Value) (al : Value), a = qJo a0_ b [(0, 21, .agg #[.int .i64 ai, .slice aq aj.length ar]), (4, 25, an), (5, 26, .int .i64 aH), (7, 28, al), (8, 29, .int .i64 aP), (10, 3, .int .i64 aM), (11, 4, .int .i64 aN), (12, 5, .int .i64 aH), (13, 6, .int .i64 aP)] ∧ (Kd.R k58 58 w' w.heap.size (fun _ => True) (.slice aq aj.length ar) aj) ∧ (b 9 = false → w'.heap[ae]? = some (.cells #[.int .i64 0, .slice none 0 0] 25 (0, 0))) ∧ (w'.heap[ah]? = some (.cells #[.int .i64 ai, .slice aq aj.length ar] 25 (0, 0))) ∧ (b 5 = false → IsS95 w w' ag am aF) ∧ (Below w.heap.size w w') ∧ (b 4 = true → Kd.R (Kd.int .i64) 3 w' w.heap.size (fun _ => True) an aO) ∧ (b 5 = true → b 8 = false → IsS95 w w' ag am aG) ∧ (b 7 = true → Kd.R (Kd.int .i64) 3 w' w.heap.size (fun _ => True) al aI) ∧ (b 8 = true → IsS95 w w' ag am bg) ∧ (b 9 = true → w'.heap[ae]? = some (.cells #[.int .i64 ai, .slice aq aj.length ar] 25 (0, 0)))) HT_.out HW_.out (by kernel_rfl) (by kernel_rfl) ?_ ?_ ?_
 ·exact ⟨.bool false, .bool false, by simp only [qJo, Bool.false_eq_true, if_false], ad.out, fun _ => aa.out, ac.out, fun _ => ab.out, HB.out, fun h_ => absurd h_ (by decide), fun h_ => absurd h_ (by decide), fun h_ => absurd h_ (by decide), fun h_ => absurd h_ (by decide), fun h_ => absurd h_ (by decide)⟩
 ·skip
  clear aa ac HB ab ad
  refine qJm ?_ ?_
  ·rintro b a w' ⟨an, al, ha, Q_HO187, Q_BK180, Q_BK189, Q_HI183, Q_HB, Q_HO196, Q_HI183_e5, Q_HO201, Q_HI183_e8, Q_BK180_e9⟩ hb_ hon hoff
   refine ⟨_, rfl, fun K hK => ?_⟩
   have e8 : a.tmps[8]? = some (.pointer (some ⟨ah, 0, none⟩)) := by rw [ha]; exact (qJp rfl).trans rfl
   replace ha := ak ha
   have ad := ak Q_HO187
   have aa := ak (Q_BK180 (hoff 9 (by kernel_rfl)))
   have ac := ak Q_BK189
   have HB := ak Q_HB
   have bR : w'.cell? ⟨ah, 0, none⟩ = some (.int .i64 ai) := (qZb ac.out 0).trans rfl
   have bS : w'.cell? ⟨ah, 1, none⟩ = some (.slice aq aj.length ar) := (qZb ac.out 1).trans rfl
   refine qYl (w1 := w') (v := .agg #[.int .i64 ai, .slice aq aj.length ar]) (by rfl) rfl ?_ ?_
   ·go_simp
    (try simp only [qVp])
    try rfl
   refine hK.out _ _ ⟨an, al, (by rw [ha.out]; exact qXa 0 hb_ rfl rfl rfl), Q_HO187, Q_BK180, Q_BK189, Q_HI183, Q_HB, Q_HO196, Q_HI183_e5, Q_HO201, Q_HI183_e8, fun h0_ => absurd ((hoff 9 (by kernel_rfl)).symm.trans h0_) (by decide)⟩
  refine qJm ?_ ?_
  ·rintro b a w' ⟨an, al, ha, Q_HO187, Q_BK180, Q_BK189, Q_HI183, Q_HB, Q_HO196, Q_HI183_e5, Q_HO201, Q_HI183_e8, Q_BK180_e9⟩ hb_ hon hoff
   refine ⟨_, rfl, fun K hK => ?_⟩
   replace ha := ak ha
   have ad := ak Q_HO187
   have aa := ak (Q_BK180 (hoff 9 (by kernel_rfl)))
   have ac := ak Q_BK189
   have ab := ak (Q_HI183 (hoff 5 (by kernel_rfl)))
   have HB := ak Q_HB
   refine Kd.R_lit_step (Kd.int .i64) _ 3 ?hg (N := 25) ?hd (xs := ([0, 50, 200, 201] : List Int)) (inner := [.int .i64 0, .int .i64 50, .int .i64 200, .int .i64 201]) (ok := fun _ => True) (okp := fun _ => True) ?hr ?hp (fun _ hk => hk) trivial (Below.refl _ _) (Nat.le_refl _) (by simp) ?_; (case hd => rfl); (case hg => rfl); (case hr => (go_simp; done)); (case hp => exact (Reps.one (show Kd.M (Kd.int .i64) _ _ _ 0 [.int .i64 0] from rfl) (Reps.one (show Kd.M (Kd.int .i64) _ _ _ 50 [.int .i64 50] from rfl) (Reps.one (show Kd.M (Kd.int .i64) _ _ _ 200 [.int .i64 200] from rfl) (Reps.one (show Kd.M (Kd.int .i64) _ _ _ 201 [.int .i64 201] from rfl) (Reps.none _ _))))))
   intro an w20 aC hb hg_ hnew_
   clear hg_ hnew_
   (rw [← be.out] at aC)
   have n0_ := ak (Kd.R_below (rk ad) hb)
   have n1_ := ak (Kd.R_lower aC (qZc (by repeat ((with_reducible exact HB.out)))))
   have n2_ := ak (qZe (bk aa) hb)
   have n3_ := ak (IsS95.below (by repeat ((with_reducible exact ab.out))) hb)
   have n4_ := ak (qZe (bk ac) hb)
   have n5_ := ak (qZd (by repeat ((with_reducible exact HB.out))) hb)
   have z_HO201 := fun (h0_ : b 7 = true) => (show Kd.R (Kd.int .i64) 3 w20 w.heap.size (fun _ => True) al aI from by exact Kd.R_mono (Kd.R_elder' (by exact (Q_HO201 h0_)) (Kd.R_base aC) hb) (fun _ h_ => by trivial))
   clear ad
   clear aa
   clear ab
   clear ac
   clear HB
   have ad := n0_
   have af := n1_
   have aa := n2_
   have ab := n3_
   have ac := n4_
   have HB := n5_
   clear n0_ n1_ n2_ n3_ n4_ n5_
   clear hb aC
   refine hK.out _ _ ⟨an, al, (by rw [ha.out]; exact qXa 1 hb_ rfl rfl rfl), (rk ad), fun _ => (bk aa), (bk ac), fun _ => (by repeat ((with_reducible exact ab.out))), (by repeat ((with_reducible exact HB.out))), fun _ => (rk af), fun h0_ _ => absurd ((hoff 5 (by kernel_rfl)).symm.trans h0_) (by decide), z_HO201, fun h0_ => absurd ((hoff 8 (by kernel_rfl)).symm.trans h0_) (by decide), fun h0_ => absurd ((hoff 9 (by kernel_rfl)).symm.trans h0_) (by decide)⟩
  refine qJm ?_ ?_
  ·rintro b a w' ⟨an, al, ha, Q_HO187, Q_BK180, Q_BK189, Q_HI183, Q_HB, Q_HO196, Q_HI183_e5, Q_HO201, Q_HI183_e8, Q_BK180_e9⟩ hb_ hon hoff
   refine ⟨_, rfl, fun K hK => ?_⟩
   have e24 : a.tmps[24]? = some (.pointer (some ⟨ag, 0, none⟩)) := by rw [ha]; exact (qJp rfl).trans rfl
   have e25 : a.tmps[25]? = some (an) := by rw [ha]; exact qVl (e := (4, 25, an)) 1 rfl rfl (hon 4 (by kernel_rfl)) rfl
   replace ha := ak ha
   have ad := ak Q_HO187
   have aa := ak (Q_BK180 (hoff 9 (by kernel_rfl)))
   have ac := ak Q_BK189
   have ab := ak (Q_HI183 hb_)
   have HB := ak Q_HB
   have af := ak (Q_HO196 (hon 4 (by kernel_rfl)))
   obtain ⟨bh, bi, bE⟩ := Kd.R_slice af.out
   (subst bE)
   refine qXg Try.func47 (by kernel_rfl) rfl #[.pointer (some ⟨ag, 0, none⟩), .slice bh aO.length bi] (by rfl) rfl rfl (by (simp only [List.map_toArray, List.map_cons, List.map_nil, Act.eval, Array.getD_eq_getD_getElem?, Option.getD_some, e24, e25]; done)) ?_
   with_reducible refine (spec_l30Rd_one.calls k ag am aF _ _ aO aH aG w _ ?side1 ?side2 ?side3 ?side4 ?side5 A6.out).mono ?_
   (case side1 => repeat ((with_reducible exact ab.out)))
   (case side2 => repeat ((with_reducible exact HB.out)))
   (case side3 => repeat (exact (Kd.R_reads' af.out).2.2))
   (case side4 => exact (Kd.R_reads' af.out).2.1)
   (case side5 => exact qXl (IsS95.own_ne ab.out af.out (by decide)))
   rintro e w24 ⟨rfl, hi, hb, hk⟩
   refine ⟨_, rfl, ?_⟩
   have n0_ := ak (KeepBut.blk hk (g' := ae) (o := .cells #[.int .i64 0, .slice none 0 0] 25 (0, 0)) (bk aa) av.out (by simp))
   have n1_ := ak (Kd.R_mono (Kd.R_keep (IsS95.apart (show IsS95 w _ ag am aF from by repeat ((with_reducible exact ab.out))) (rk ad) (by decide)) hk (fun _ h => h.2)) (fun _ h => h.1))
   have n2_ := ak (KeepBut.blk hk (g' := ah) (o := .cells #[.int .i64 ai, .slice aq aj.length ar] 25 (0, 0)) (bk ac) ay.out (by simp))
   have n3_ := ak (Kd.R_mono (Kd.R_keep (IsS95.apart (show IsS95 w _ ag am aF from by repeat ((with_reducible exact ab.out))) (rk af) (by decide)) hk (fun _ h => h.2)) (fun _ h => h.1))
   have n4_ := ak (hb)
   have n5_ := ak (hi)
   have z_HO201 := fun (h0_ : b 7 = true) => (show Kd.R (Kd.int .i64) 3 w24 w.heap.size (fun _ => True) al aI from by exact (Kd.R_mono (Kd.R_keep (IsS95.apart (show IsS95 w _ ag am aF from by repeat ((with_reducible exact ab.out))) (by exact (Q_HO201 h0_)) (by decide)) hk (fun _ h => h.2)) (fun _ h => h.1)))
   clear aa
   clear ad
   clear ac
   clear af
   clear HB
   clear ab
   have aa := n0_
   have ad := n1_
   have ac := n2_
   have af := n3_
   have HB := n4_
   have ab := n5_
   clear n0_ n1_ n2_ n3_ n4_ n5_
   (try clear hb)
   (try clear hb2)
   (try clear hk)
   (try clear hi)
   refine hK.out _ _ ⟨.slice bh aO.length bi, al, (by rw [ha.out]; exact qXa 2 hb_ rfl rfl rfl), (rk ad), fun _ => (bk aa), (bk ac), fun h0_ => absurd ((qKm b 5).symm.trans h0_) (by decide), (by repeat ((with_reducible exact HB.out))), fun _ => (rk af), fun _ _ => (by repeat ((with_reducible exact ab.out))), z_HO201, fun h0_ => absurd ((hoff 8 (by kernel_rfl)).symm.trans h0_) (by decide), fun h0_ => absurd ((hoff 9 (by kernel_rfl)).symm.trans h0_) (by decide)⟩
  refine qJm ?_ ?_
  ·rintro b a w' ⟨an, al, ha, Q_HO187, Q_BK180, Q_BK189, Q_HI183, Q_HB, Q_HO196, Q_HI183_e5, Q_HO201, Q_HI183_e8, Q_BK180_e9⟩ hb_ hon hoff
   refine ⟨_, rfl, fun K hK => ?_⟩
   replace ha := ak ha
   have ad := ak Q_HO187
   have aa := ak (Q_BK180 (hoff 9 (by kernel_rfl)))
   have ac := ak Q_BK189
   have HB := ak Q_HB
   refine Kd.R_lit_step (Kd.int .i64) _ 3 ?hg (N := 28) ?hd (xs := ([0, 50, 100, (-1)] : List Int)) (inner := [.int .i64 0, .int .i64 50, .int .i64 100, .int .i64 (-1)]) (ok := fun _ => True) (okp := fun _ => True) ?hr ?hp (fun _ hk => hk) trivial (Below.refl _ _) (Nat.le_refl _) (by simp) ?_; (case hd => rfl); (case hg => rfl); (case hr => (go_simp; done)); (case hp => exact (Reps.one (show Kd.M (Kd.int .i64) _ _ _ 0 [.int .i64 0] from rfl) (Reps.one (show Kd.M (Kd.int .i64) _ _ _ 50 [.int .i64 50] from rfl) (Reps.one (show Kd.M (Kd.int .i64) _ _ _ 100 [.int .i64 100] from rfl) (Reps.one (show Kd.M (Kd.int .i64) _ _ _ (-1) [.int .i64 (-1)] from rfl) (Reps.none _ _))))))
   intro al w20 aC hb hg_ hnew_
   clear hg_ hnew_
   (rw [← bf.out] at aC)
   have n0_ := ak (Kd.R_below (rk ad) hb)
   have n1_ := ak (Kd.R_lower aC (qZc (bl2 HB aJ aK)))
   have n2_ := ak (qZe (bk aa) hb)
   have n4_ := ak (qZe (bk ac) hb)
   have n5_ := ak (qZd (bl2 HB aJ aK) hb)
   have z_HI183 := fun (h0_ : b 5 = false) => (show IsS95 w w20 ag am aF from by exact (IsS95.below (by repeat ((with_reducible exact (Q_HI183 h0_)))) hb))
   have z_HO196 := fun (h0_ : b 4 = true) => (show Kd.R (Kd.int .i64) 3 w20 w.heap.size (fun _ => True) an aO from by exact Kd.R_mono (Kd.R_elder' (by exact (Q_HO196 h0_)) (Kd.R_base aC) hb) (fun _ h_ => by trivial))
   have z_HI183_e5 := fun (h0_ : b 5 = true) (h1_ : b 8 = false) => (show IsS95 w w20 ag am aG from by exact (IsS95.below (by repeat ((with_reducible exact (Q_HI183_e5 h0_ h1_)))) hb))
   clear ad
   clear aa
   clear ac
   clear HB
   have ad := n0_
   have ao := n1_
   have aa := n2_
   have ac := n4_
   have HB := n5_
   clear n0_ n1_ n2_ n4_ n5_
   clear hb aC
   refine hK.out _ _ ⟨an, al, (by rw [ha.out]; exact qXa 3 hb_ rfl rfl rfl), (rk ad), fun _ => (bk aa), (bk ac), z_HI183, (bl2 HB aJ aK), z_HO196, z_HI183_e5, fun _ => (rk ao), fun h0_ => absurd ((hoff 8 (by kernel_rfl)).symm.trans h0_) (by decide), fun h0_ => absurd ((hoff 9 (by kernel_rfl)).symm.trans h0_) (by decide)⟩
  refine qJm ?_ ?_
  ·rintro b a w' ⟨an, al, ha, Q_HO187, Q_BK180, Q_BK189, Q_HI183, Q_HB, Q_HO196, Q_HI183_e5, Q_HO201, Q_HI183_e8, Q_BK180_e9⟩ hb_ hon hoff
   refine ⟨_, rfl, fun K hK => ?_⟩
   have e27 : a.tmps[27]? = some (.pointer (some ⟨ag, 0, none⟩)) := by rw [ha]; exact (qJp rfl).trans rfl
   have e28 : a.tmps[28]? = some (al) := by rw [ha]; exact qVl (e := (7, 28, al)) 3 rfl rfl (hon 7 (by kernel_rfl)) rfl
   replace ha := ak ha
   have ad := ak Q_HO187
   have aa := ak (Q_BK180 (hoff 9 (by kernel_rfl)))
   have ac := ak Q_BK189
   have HB := ak Q_HB
   have af := ak (Q_HO196 (hon 4 (by kernel_rfl)))
   have ab := ak (Q_HI183_e5 (hon 5 (by kernel_rfl)) hb_)
   have ao := ak (Q_HO201 (hon 7 (by kernel_rfl)))
   obtain ⟨bj, bm, bG⟩ := Kd.R_slice ao.out
   (subst bG)
   refine qXg Try.func47 (by kernel_rfl) rfl #[.pointer (some ⟨ag, 0, none⟩), .slice bj aI.length bm] (by rfl) rfl rfl (by (simp only [List.map_toArray, List.map_cons, List.map_nil, Act.eval, Array.getD_eq_getD_getElem?, Option.getD_some, e27, e28]; done)) ?_
   with_reducible refine (spec_l30Rd_one.calls k ag am aG _ _ aI aP bg w _ ?side1 ?side2 ?side3 ?side4 ?side5 A7.out).mono ?_
   (case side1 => repeat ((with_reducible exact ab.out)))
   (case side2 => repeat ((with_reducible exact HB.out)))
   (case side3 => repeat (exact (Kd.R_reads' ao.out).2.2))
   (case side4 => exact (Kd.R_reads' ao.out).2.1)
   (case side5 => exact qXl (IsS95.own_ne ab.out ao.out (by decide)))
   rintro e w28 ⟨rfl, hi, hb, hk⟩
   refine ⟨_, rfl, ?_⟩
   replace aa := ak (KeepBut.blk hk (g' := ae) (o := .cells #[.int .i64 0, .slice none 0 0] 25 (0, 0)) (bk aa) av.out (by simp))
   replace ad := ak (Kd.R_mono (Kd.R_keep (IsS95.apart (show IsS95 w _ ag am aG from by repeat ((with_reducible exact ab.out))) (rk ad) (by decide)) hk (fun _ h => h.2)) (fun _ h => h.1))
   replace ac := ak (KeepBut.blk hk (g' := ah) (o := .cells #[.int .i64 ai, .slice aq aj.length ar] 25 (0, 0)) (bk ac) ay.out (by simp))
   replace af := ak (Kd.R_mono (Kd.R_keep (IsS95.apart (show IsS95 w _ ag am aG from by repeat ((with_reducible exact ab.out))) (rk af) (by decide)) hk (fun _ h => h.2)) (fun _ h => h.1))
   replace ao := ak (Kd.R_mono (Kd.R_keep (IsS95.apart (show IsS95 w _ ag am aG from by repeat ((with_reducible exact ab.out))) (rk ao) (by decide)) hk (fun _ h => h.2)) (fun _ h => h.1))
   replace HB := ak (hb)
   replace ab := ak (hi)
   (try clear hb)
   (try clear hb2)
   (try clear hk)
   (try clear hi)
   refine hK.out _ _ ⟨an, .slice bj aI.length bm, (by rw [ha.out]; exact qXa 4 hb_ rfl rfl rfl), (rk ad), fun _ => (bk aa), (bk ac), fun h0_ => absurd ((hon 5 (by kernel_rfl)).symm.trans h0_) (by decide), (by repeat ((with_reducible exact HB.out))), fun _ => (rk af), fun _ h1_ => absurd ((qKm b 8).symm.trans h1_) (by decide), fun _ => (rk ao), fun _ => (by repeat ((with_reducible exact ab.out))), fun h0_ => absurd ((hoff 9 (by kernel_rfl)).symm.trans h0_) (by decide)⟩
  refine qJm ?_ ?_
  ·rintro b a w' ⟨an, al, ha, Q_HO187, Q_BK180, Q_BK189, Q_HI183, Q_HB, Q_HO196, Q_HI183_e5, Q_HO201, Q_HI183_e8, Q_BK180_e9⟩ hb_ hon hoff
   refine ⟨_, rfl, fun K hK => ?_⟩
   have e2 : a.tmps[2]? = some (.pointer (some ⟨ae, 0, none⟩)) := by rw [ha]; exact (qJp rfl).trans rfl
   have e21 : a.tmps[21]? = some (.agg #[.int .i64 ai, .slice aq aj.length ar]) := by rw [ha]; exact qVl (e := (0, 21, .agg #[.int .i64 ai, .slice aq aj.length ar])) 0 rfl rfl (hon 0 (by kernel_rfl)) rfl
   replace ha := ak ha
   have ad := ak Q_HO187
   have aa := ak (Q_BK180 hb_)
   have ac := ak Q_BK189
   have HB := ak Q_HB
   have af := ak (Q_HO196 (hon 4 (by kernel_rfl)))
   have ao := ak (Q_HO201 (hon 7 (by kernel_rfl)))
   have ab := ak (Q_HI183_e8 (hon 8 (by kernel_rfl)))
   have bU : w'.cell? ⟨ae, 0, none⟩ = some (.int .i64 0) := (qZb aa.out 0).trans rfl
   have bN := qQm aa.out 0
   have bz := ax.out
   have bA := aw.out
   have bV : w'.cell? ⟨ae, 1, none⟩ = some (.slice none 0 0) := (qZb aa.out 1).trans rfl
   have bO := qQm aa.out 1
   have bB := ax.out
   have bC := aw.out
   refine skip_ (w1 := ?_) (by rfl) rfl ?_ ?_
   rotate_left
   ·go_simp
    rfl
   refine hK.out _ _ ⟨an, al, (by rw [ha.out]; exact putSel_none (v := undef) rfl), (by exact Kd.R_mono (Kd.R_far (p := ⟨ae, 1, none⟩) (Kd.R_far (p := ⟨ae, 0, none⟩) (Kd.R_types ad.out aa.out (by decide)) (fun _ hk => hk.2) (.int .i64 ai)) (fun _ hk => hk.2) (.slice aq aj.length ar)) (fun _ hk => trivial)), fun h0_ => absurd ((qKm b 9).symm.trans h0_) (by decide), (by refine blk_far ?_ ax.out _; refine blk_far ?_ ax.out _; exact ac.out), fun h0_ => absurd ((hon 5 (by kernel_rfl)).symm.trans h0_) (by decide), (by repeat ((with_reducible first | exact HB.out | refine below_set ?_ aJ.out))), fun _ => (by exact Kd.R_mono (Kd.R_far (p := ⟨ae, 1, none⟩) (Kd.R_far (p := ⟨ae, 0, none⟩) (Kd.R_types af.out aa.out (by decide)) (fun _ hk => hk.2) (.int .i64 ai)) (fun _ hk => hk.2) (.slice aq aj.length ar)) (fun _ hk => hk.1)), fun _ h1_ => absurd ((hon 8 (by kernel_rfl)).symm.trans h1_) (by decide), fun _ => (by exact Kd.R_mono (Kd.R_far (p := ⟨ae, 1, none⟩) (Kd.R_far (p := ⟨ae, 0, none⟩) (Kd.R_types ao.out aa.out (by decide)) (fun _ hk => hk.2) (.int .i64 ai)) (fun _ hk => hk.2) (.slice aq aj.length ar)) (fun _ hk => hk.1)), fun _ => (by repeat ((with_reducible first | exact ab.out | refine IsS95.far ?_ aQ.out _))), fun _ => (by refine qZi (cs := #[.int .i64 ai, .slice none 0 0]) ?_ 1 _ rfl; refine qZi (cs := #[.int .i64 0, .slice none 0 0]) ?_ 0 _ rfl; exact aa.out)⟩
  refine qJm ?_ ?_
  ·rintro b a w' ⟨an, al, ha, Q_HO187, Q_BK180, Q_BK189, Q_HI183, Q_HB, Q_HO196, Q_HI183_e5, Q_HO201, Q_HI183_e8, Q_BK180_e9⟩ hb_ hon hoff
   refine ⟨_, rfl, fun K hK => ?_⟩
   have e22 : a.tmps[22]? = some (.int .i64 aM) := by rw [ha]; exact (qJp rfl).trans rfl
   replace ha := ak ha
   have ad := ak Q_HO187
   have ac := ak Q_BK189
   have HB := ak Q_HB
   have af := ak (Q_HO196 (hon 4 (by kernel_rfl)))
   have ao := ak (Q_HO201 (hon 7 (by kernel_rfl)))
   have ab := ak (Q_HI183_e8 (hon 8 (by kernel_rfl)))
   have aa := ak (Q_BK180_e9 (hon 9 (by kernel_rfl)))
   refine qYl (w1 := w') (v := .int .i64 aM) (by rfl) rfl ?_ ?_
   ·go_simp
    (try simp only [qVp])
    try rfl
   refine hK.out _ _ ⟨an, al, (by rw [ha.out]; exact qXa 5 hb_ rfl rfl rfl), Q_HO187, fun h0_ => absurd ((hon 9 (by kernel_rfl)).symm.trans h0_) (by decide), Q_BK189, fun h0_ => absurd ((hon 5 (by kernel_rfl)).symm.trans h0_) (by decide), Q_HB, Q_HO196, fun _ h1_ => absurd ((hon 8 (by kernel_rfl)).symm.trans h1_) (by decide), Q_HO201, Q_HI183_e8, Q_BK180_e9⟩
  refine qJm ?_ ?_
  ·rintro b a w' ⟨an, al, ha, Q_HO187, Q_BK180, Q_BK189, Q_HI183, Q_HB, Q_HO196, Q_HI183_e5, Q_HO201, Q_HI183_e8, Q_BK180_e9⟩ hb_ hon hoff
   refine ⟨_, rfl, fun K hK => ?_⟩
   have e23 : a.tmps[23]? = some (.int .i64 aN) := by rw [ha]; exact (qJp rfl).trans rfl
   replace ha := ak ha
   have ad := ak Q_HO187
   have ac := ak Q_BK189
   have HB := ak Q_HB
   have af := ak (Q_HO196 (hon 4 (by kernel_rfl)))
   have ao := ak (Q_HO201 (hon 7 (by kernel_rfl)))
   have ab := ak (Q_HI183_e8 (hon 8 (by kernel_rfl)))
   have aa := ak (Q_BK180_e9 (hon 9 (by kernel_rfl)))
   refine qYl (w1 := w') (v := .int .i64 aN) (by rfl) rfl ?_ ?_
   ·go_simp
    (try simp only [qVp])
    try rfl
   refine hK.out _ _ ⟨an, al, (by rw [ha.out]; exact qXa 6 hb_ rfl rfl rfl), Q_HO187, fun h0_ => absurd ((hon 9 (by kernel_rfl)).symm.trans h0_) (by decide), Q_BK189, fun h0_ => absurd ((hon 5 (by kernel_rfl)).symm.trans h0_) (by decide), Q_HB, Q_HO196, fun _ h1_ => absurd ((hon 8 (by kernel_rfl)).symm.trans h1_) (by decide), Q_HO201, Q_HI183_e8, Q_BK180_e9⟩
  refine qJm ?_ ?_
  ·rintro b a w' ⟨an, al, ha, Q_HO187, Q_BK180, Q_BK189, Q_HI183, Q_HB, Q_HO196, Q_HI183_e5, Q_HO201, Q_HI183_e8, Q_BK180_e9⟩ hb_ hon hoff
   refine ⟨_, rfl, fun K hK => ?_⟩
   have e26 : a.tmps[26]? = some (.int .i64 aH) := by rw [ha]; exact qVl (e := (5, 26, .int .i64 aH)) 2 rfl rfl (hon 5 (by kernel_rfl)) rfl
   replace ha := ak ha
   have ad := ak Q_HO187
   have ac := ak Q_BK189
   have HB := ak Q_HB
   have af := ak (Q_HO196 (hon 4 (by kernel_rfl)))
   have ao := ak (Q_HO201 (hon 7 (by kernel_rfl)))
   have ab := ak (Q_HI183_e8 (hon 8 (by kernel_rfl)))
   have aa := ak (Q_BK180_e9 (hon 9 (by kernel_rfl)))
   refine qYl (w1 := w') (v := .int .i64 aH) (by rfl) rfl ?_ ?_
   ·go_simp
    (try simp only [qVp])
    try rfl
   refine hK.out _ _ ⟨an, al, (by rw [ha.out]; exact qXa 7 hb_ rfl rfl rfl), Q_HO187, fun h0_ => absurd ((hon 9 (by kernel_rfl)).symm.trans h0_) (by decide), Q_BK189, fun h0_ => absurd ((hon 5 (by kernel_rfl)).symm.trans h0_) (by decide), Q_HB, Q_HO196, fun _ h1_ => absurd ((hon 8 (by kernel_rfl)).symm.trans h1_) (by decide), Q_HO201, Q_HI183_e8, Q_BK180_e9⟩
  refine qJm ?_ ?_
  ·rintro b a w' ⟨an, al, ha, Q_HO187, Q_BK180, Q_BK189, Q_HI183, Q_HB, Q_HO196, Q_HI183_e5, Q_HO201, Q_HI183_e8, Q_BK180_e9⟩ hb_ hon hoff
   refine ⟨_, rfl, fun K hK => ?_⟩
   have e29 : a.tmps[29]? = some (.int .i64 aP) := by rw [ha]; exact qVl (e := (8, 29, .int .i64 aP)) 4 rfl rfl (hon 8 (by kernel_rfl)) rfl
   replace ha := ak ha
   have ad := ak Q_HO187
   have ac := ak Q_BK189
   have HB := ak Q_HB
   have af := ak (Q_HO196 (hon 4 (by kernel_rfl)))
   have ao := ak (Q_HO201 (hon 7 (by kernel_rfl)))
   have ab := ak (Q_HI183_e8 (hon 8 (by kernel_rfl)))
   have aa := ak (Q_BK180_e9 (hon 9 (by kernel_rfl)))
   refine qYl (w1 := w') (v := .int .i64 aP) (by rfl) rfl ?_ ?_
   ·go_simp
    (try simp only [qVp])
    try rfl
   refine hK.out _ _ ⟨an, al, (by rw [ha.out]; exact qXa 8 hb_ rfl rfl rfl), Q_HO187, fun h0_ => absurd ((hon 9 (by kernel_rfl)).symm.trans h0_) (by decide), Q_BK189, fun h0_ => absurd ((hon 5 (by kernel_rfl)).symm.trans h0_) (by decide), Q_HB, Q_HO196, fun _ h1_ => absurd ((hon 8 (by kernel_rfl)).symm.trans h1_) (by decide), Q_HO201, Q_HI183_e8, Q_BK180_e9⟩
  exact steps_nil
 rintro b a w30 hall ⟨an, al, ha, Q_HO187, Q_BK180, Q_BK189, Q_HI183, Q_HB, Q_HO196, Q_HI183_e5, Q_HO201, Q_HI183_e8, Q_BK180_e9⟩
 clear aa ac HB ab ad
 have bn := hall 0 (by kernel_rfl)
 have aY := hall 4 (by kernel_rfl)
 have bo := hall 5 (by kernel_rfl)
 have aZ := hall 7 (by kernel_rfl)
 have ba := hall 8 (by kernel_rfl)
 have bb := hall 9 (by kernel_rfl)
 have aU := hall 10 (by kernel_rfl)
 have aV := hall 11 (by kernel_rfl)
 have aW := hall 12 (by kernel_rfl)
 have aX := hall 13 (by kernel_rfl)
 subst ha
 simp only [qJo, bn, aY, bo, aZ, ba, bb, aU, aV, aW, aX, if_true, Act.put, List.setIfInBounds_toArray, List.set_cons_zero, List.set_cons_succ]
 have ad := ak Q_HO187
 clear Q_HO187
 clear Q_BK180
 have ac := ak Q_BK189
 clear Q_BK189
 clear Q_HI183
 have HB := ak Q_HB
 clear Q_HB
 have af := ak (Q_HO196 aY)
 clear Q_HO196
 clear Q_HI183_e5
 have ao := ak (Q_HO201 aZ)
 clear Q_HO201
 have ab := ak (Q_HI183_e8 ba)
 clear Q_HI183_e8
 have aa := ak (Q_BK180_e9 bb)
 clear Q_BK180_e9
 clear hall bn aY bo aZ ba bb aU aV aW aX
 try go_wp2
 refine bodyPost_ret (results_list (rs := [.cell 2 25, .tmp 3, .tmp 4, .tmp 5, .tmp 6]) rfl (by simp) (.cell ae 25 #[.int .i64 ai, .slice aq aj.length ar] (0, 0) _ rfl (bk aa) Try.underlying25 rfl (by kernel_rfl) (.tmp (.tmp (.tmp (.tmp .nil)))))) rfl ?_
 exact ⟨_, by rfl, rk ad, by repeat ((with_reducible exact HB.out))⟩
end Go.Proofs.Ytlgolgfcolnddaa.F
