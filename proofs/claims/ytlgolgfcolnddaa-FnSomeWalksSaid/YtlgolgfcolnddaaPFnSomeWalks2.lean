-- Printed by this claim's repository's tools (px.py, pgo.py, pack.py), one text behind the other. Lean checks it.
import Derived.Test.YtlgolgfcolnddaaFKindsPFnSomeWalks
namespace Go.Proofs.Ytlgolgfcolnddaa.F
open Go.RowKit Go.Proofs.YtlgolgfcolnddaaW.PrintWords Go.Proofs.YtlgolgfcolnddaaW.PrintLast Go.Proofs.YtlgolgfcolnddaaW.PrintMore
attribute [local go_sem] qQb qQc qQk qQj qZn qZo qQd qQe
set_option linter.unusedVariables false
set_option linter.unusedSimpArgs false
/-- A state of type 95 at block g of W; what its slices lead to came in by w0. -/
def IsS95 (w0 W : World) (g : Nat) (f0 : List Int) (f1 : Int) : Prop := ∃ A0 c0, W.heap[g]? = some (.cells #[.slice A0 f0.length c0, .int .i64 f1] 95 (0, 0)) ∧ w0.heap.size ≤ g ∧ Kd.C (Kd.int .u8) w0 A0 f0.length f0
theorem IsS95.grown {w0 W : World} {g : Nat} {f0 : List Int} {f1 : Int} {W1 : World} {row : Option Nat} (h : IsS95 w0 W g f0 f1) (hw : W.grownBy W1 row) (hne : some g ≠ row) : IsS95 w0 W1 g f0 f1 := by
 obtain ⟨A0, c0, hb, hg, hr0⟩ := h
 exact ⟨A0, c0, qZj hb hw hne, hg, hr0⟩
theorem IsS95.kept {w0 W : World} {g : Nat} {f0 : List Int} {f1 : Int} {W1 : World} {S : Nat → Prop} (h : IsS95 w0 W g f0 f1) (hk : Kept W W1 S) (hne : ¬ S g) : IsS95 w0 W1 g f0 f1 := by
 obtain ⟨A0, c0, hb, hg, hr0⟩ := h
 exact ⟨A0, c0, qVe hb hk hne, hg, hr0⟩
theorem IsS95.below {w0 W : World} {g : Nat} {f0 : List Int} {f1 : Int} {W1 : World} (h : IsS95 w0 W g f0 f1) (hw : Below W.heap.size W W1) : IsS95 w0 W1 g f0 f1 := h.grown (grown_of_below hw none) (by simp)
theorem IsS95.alloc {w0 W : World} {g : Nat} {f0 : List Int} {f1 : Int} (h : IsS95 w0 W g f0 f1) (o : Obj) : IsS95 w0 (W.alloc o) g f0 f1 := h.below (qZl (Below.refl _ _) o)
theorem IsS95.drewN {w0 W : World} {g : Nat} {f0 : List Int} {f1 : Int} (h : IsS95 w0 W g f0 f1) (m : Nat) : IsS95 w0 (W.drewN m) g f0 f1 := h
theorem IsS95.drew {w0 W : World} {g : Nat} {f0 : List Int} {f1 : Int} (h : IsS95 w0 W g f0 f1) : IsS95 w0 W.drew g f0 f1 := h
theorem IsS95.at_ {w0 W : World} {g : Nat} {f0 : List Int} {f1 : Int} {w' : World} {m : Nat} (hq : W.drewN m = w') (h : IsS95 w0 W g f0 f1) : IsS95 w0 w' g f0 f1 := by subst hq; exact IsS95.drewN h m
theorem IsS95.apart {w0 W : World} {g : Nat} {f0 : List Int} {f1 : Int} {α : Type} {d : Kd α} {e : Nat} {base : Nat} {ok : Nat → Prop} {v : Value} {xs : List α} (h : IsS95 w0 W g f0 f1) (ho : d.R e W base ok v xs) (ht : ∀ q, q ∈ e :: d.E → q ≠ 95) : d.R e W base (fun k => ok k ∧ k ≠ g) v xs := by
 obtain ⟨A0, c0, hb, hg, hr0⟩ := h
 exact Kd.R_types ho hb ht
theorem IsS95.own_ne {w0 W : World} {g : Nat} {f0 : List Int} {f1 : Int} {α : Type} {d : Kd α} {e : Nat} {base : Nat} {ok : Nat → Prop} {v : Value} {xs : List α} (h : IsS95 w0 W g f0 f1) (ho : d.R e W base ok v xs) (ht : e ≠ 95) : some g ≠ v.ownBlock := by
 obtain ⟨A0, c0, hb, hg, hr0⟩ := h
 exact Kd.R_ne ho hb ht
theorem IsS95.lt {w0 W : World} {g : Nat} {f0 : List Int} {f1 : Int} (h : IsS95 w0 W g f0 f1) : g < W.heap.size := by
 obtain ⟨A0, c0, hb, hg, hr0⟩ := h
 exact qZk hb
theorem IsS95.ge {w0 W : World} {g : Nat} {f0 : List Int} {f1 : Int} (h : IsS95 w0 W g f0 f1) : w0.heap.size ≤ g := by
 obtain ⟨A0, c0, hb, hg, hr0⟩ := h
 exact hg
theorem IsS95.ne_blk {w0 W : World} {g : Nat} {f0 : List Int} {f1 : Int} {a : Nat} {cs : Array Value} {t : TypeId} {fr : Nat × Nat} (h : IsS95 w0 W g f0 f1) (hb2 : W.heap[a]? = some (.cells cs t fr)) (ht : t ≠ 95) : g ≠ a := by
 obtain ⟨A0, c0, hb, hg, hr0⟩ := h
 rintro rfl
 rw [hb] at hb2
 injection hb2 with hb2
 injection hb2 with _ ht2
 exact ht ht2.symm
theorem IsS95.far {w0 W : World} {g : Nat} {f0 : List Int} {f1 : Int} {p : Addr} (h : IsS95 w0 W g f0 f1) (hne : g ≠ p.block) (u : Value) : IsS95 w0 (W.setCell p u) g f0 f1 := by
 obtain ⟨A0, c0, hb, hg, hr0⟩ := h
 exact ⟨A0, c0, blk_far hb hne u, hg, hr0⟩
theorem qKj {W : World} {g : Nat} {A0 : Option Addr} {c0 : Nat} {f0 : List Int} {f1 : Int} (h : W.heap[g]? = some (.cells #[.slice A0 f0.length c0, .int .i64 f1] 95 (0, 0))) : W.cell? ⟨g, 0, none⟩ = some (.slice A0 f0.length c0) := (qZb h 0).trans rfl
theorem qKp {W : World} {g : Nat} {A0 : Option Addr} {c0 : Nat} {f0 : List Int} {f1 : Int} (h : W.heap[g]? = some (.cells #[.slice A0 f0.length c0, .int .i64 f1] 95 (0, 0))) : W.cell? ⟨g, 1, none⟩ = some (.int .i64 f1) := (qZb h 1).trans rfl
theorem IsS95.set_1 {w0 W : World} {g : Nat} {f0 : List Int} {f1 : Int} (h : IsS95 w0 W g f0 f1) (x : Int) : IsS95 w0 (W.setCell ⟨g, 1, none⟩ (.int .i64 x)) g f0 x := by
 obtain ⟨A0, c0, hb, hg, hr0⟩ := h
 exact ⟨A0, c0, by simpa using blk_set hb 1 (.int .i64 x), hg, hr0⟩
theorem IsS95.new (w0 W : World) (A0 : Option Addr) (c0 : Nat) (f0 : List Int) (f1 : Int) (hB : Below w0.heap.size w0 W) (hr0 : Kd.C (Kd.int .u8) w0 A0 f0.length f0) : IsS95 w0 (W.alloc (.cells #[.slice A0 f0.length c0, .int .i64 f1] 95)) W.heap.size f0 f1 := ⟨A0, c0, by simpa using heap_alloc_new W _, hB.size, hr0⟩
/-! ### spec_l30Open: function 44 -/
def spec_l30Open.f (l0 : List Int) : Option (List Int × Int) := if (l0.length : Int) > 2000 then (if 2000 ≤ (l0.length : Int) then (some (l0.take 2000, 0)) else (none)) else (some (l0, 0))
set_option maxHeartbeats 8000000 in
set_option maxRecDepth 100000 in
theorem spec_l30Open.calls (A0 : Option Addr) (c0 : Nat) (l0 : List Int) (r1 : List Int) (r2 : Int) (w0 w : World) (hB : Below w0.heap.size w0 w) (hr0 : Kd.C (Kd.int .u8) w0 A0 l0.length l0) (hc0 : l0.length ≤ c0) (h : spec_l30Open.f l0 = some (r1, r2)) :
  Calls Try.prog 44 #[.slice A0 l0.length c0] w fun e w' => ∃ g_ : Nat, e = .returned (.pointer (some ⟨g_, 0, none⟩)) ∧ IsS95 w0 w' g_ r1 r2 ∧ Below w0.heap.size w0 w' ∧ Below w.heap.size w w' := by
 have ao := Try.underlying95
 have HR0 := ak hr0
 have HC0 := ak hc0
 clear hr0 hc0
 have HBW := ak (Below.refl w.heap.size w)
 have HW0 := ak hB.size
 have HB := ak hB
 clear hB
 have H : (if (l0.length : Int) > 2000 then (if 2000 ≤ (l0.length : Int) then (some (l0.take 2000, 0)) else (none)) else (some (l0, 0))) = some (r1, r2) := h
 clear h
 by_cases c2 : (l0.length : Int) > 2000
 rotate_left
 ·rw [if_neg c2] at H
  have c2b0 : decide (2000 < (l0.length : Int)) = false := decide_eq_false c2
  have c2b1 : decide (2000 < l0.length) = false := decide_eq_false (by omega)
  clear c2
  simp only [Option.some.injEq, Prod.mk.injEq] at H
  obtain ⟨rfl, rfl⟩ := H
  go_enter Try.func44, Try.ntmps44
  go_wp2_with (((with_reducible refine gate_dst (N := 10) rfl ?_); refine qZh ?hg (N := 10) ?hd (cs := #[.slice A0 l0.length c0, .int .i64 0]) (t := 95) ?hr ?_; (case hd => rfl); (case hg => rfl); (case hr => (go_simp; done)); intro aa hg w6 hbox hb; replace HB := ak (qZd (bl HB) hb); have ae := ak (hbox); have aj := ak ((by rw [hg]; exact (qZc (by repeat ((with_reducible exact HBW.out)))) : w.heap.size ≤ aa)); have ac := ak ((Nat.le_trans HW0.out (by rw [hg]; exact (qZc (by repeat ((with_reducible exact HBW.out)))) : w.heap.size ≤ aa) : w0.heap.size ≤ aa)); replace HBW := ak (qZd HBW.out hb); clear hb hbox hg))
  go_ret
  exact ⟨_, rfl, (show IsS95 w0 _ aa l0 0 from ⟨_, _, bk ae, ac.out, HR0.out⟩), bl1 HB ac, by repeat ((with_reducible exact HBW.out))⟩
 rw [if_pos c2] at H
 have c2b0 : decide (2000 < (l0.length : Int)) = true := decide_eq_true c2
 have c2b1 : decide (2000 < l0.length) = true := decide_eq_true (by omega)
 clear c2
 by_cases c3 : 2000 ≤ (l0.length : Int)
 rotate_left
 ·rw [if_neg c3] at H
  exact absurd H (by simp)
 rw [if_pos c3] at H
 have c3b0 := eq_true c3
 have c3b1 : decide (2000 ≤ (l0.length : Int)) = true := decide_eq_true c3
 clear c3
 simp only [Option.some.injEq, Prod.mk.injEq] at H
 obtain ⟨rfl, rfl⟩ := H
 obtain ⟨i04, af, _, ag, _⟩ := info_parts info5
 obtain ⟨al, hA4, hC4⟩ := print_take_of (P := Try.prog) (Value.int .u8) 0 22 5 .i64 Try.underlying22 af ag A0 c0 l0 2000 (by omega) (oT (by (with_reducible assumption))) HC0.out
 have ah := ak (Kd.C_of_reads (h1 := fun _ => rfl) (hA4 _ (Kd.reads_of_C HR0.out)))
 have am := ak hC4
 clear hA4 hC4 af ag
 go_enter Try.func44, Try.ntmps44
 go_wp2_with (((with_reducible refine gate_dst (N := 10) rfl ?_); refine qZh ?hg (N := 10) ?hd (cs := #[.slice A0 (l0.take 2000).length c0, .int .i64 0]) (t := 95) ?hr ?_; (case hd => rfl); (case hg => rfl); (case hr => (go_simp; done)); intro ab hg w5 hbox hb; replace HB := ak (qZd (bl HB) hb); have ai := ak (hbox); have an := ak ((by rw [hg]; exact (qZc (by repeat ((with_reducible exact HBW.out)))) : w.heap.size ≤ ab)); have ad := ak ((Nat.le_trans HW0.out (by rw [hg]; exact (qZc (by repeat ((with_reducible exact HBW.out)))) : w.heap.size ≤ ab) : w0.heap.size ≤ ab)); replace HBW := ak (qZd HBW.out hb); clear hb hbox hg))
 go_ret
 exact ⟨_, rfl, (show IsS95 w0 _ ab (l0.take 2000) 0 from ⟨_, _, bk ai, ad.out, ah.out⟩), bl1 HB ad, by repeat ((with_reducible exact HBW.out))⟩
/-! ### spec_l30Rd_pick: function 87 -/
def spec_l30Rd_pick.j0 : Nat → Int → Bool → List Int → Int → Option (Int × Int)
 | 0, _, _, _, _ => none
 | k + 1, x1, x24, ac, ad => if x24 = true then (some (0, ad)) else (if (wrap64 (ad - 1)) < (ac.length : Int) then (if 0 ≤ (wrap64 (ad - 1)) then (if x1 = 0 then (none) else (some (Int.tmod (wrap64 (rd ac (wrap64 (ad - 1)))) x1, ad))) else (none)) else (if (ac.length : Int) = 0 then (none) else (if 0 ≤ (Int.tmod (wrap64 (ad - 1)) (ac.length : Int)) then (if (Int.tmod (wrap64 (ad - 1)) (ac.length : Int)) < (ac.length : Int) then (if 0 ≤ (Int.tmod (wrap64 ((wrap64 ((wrap64 (ad - 1)) * 7)) + 3)) (ac.length : Int)) then (if (Int.tmod (wrap64 ((wrap64 ((wrap64 (ad - 1)) * 7)) + 3)) (ac.length : Int)) < (ac.length : Int) then (if x1 = 0 then (none) else (some (Int.tmod (Go.bits .xor .i64 (wrap64 ((wrap64 ((wrap64 ((wrap64 ((wrap64 (rd ac (Int.tmod (wrap64 (ad - 1)) (ac.length : Int)))) * 131)) + (wrap64 ((wrap64 (rd ac (Int.tmod (wrap64 ((wrap64 ((wrap64 (ad - 1)) * 7)) + 3)) (ac.length : Int)))) * 1117)))) + (wrap64 ((wrap64 (ad - 1)) * 29)))) + (wrap64 ((wrap64 (Int.tdiv (wrap64 (ad - 1)) (ac.length : Int))) * 53)))) (wrap64 (Int.tdiv (wrap64 ((wrap64 ((wrap64 ((wrap64 ((wrap64 (rd ac (Int.tmod (wrap64 (ad - 1)) (ac.length : Int)))) * 131)) + (wrap64 ((wrap64 (rd ac (Int.tmod (wrap64 ((wrap64 ((wrap64 (ad - 1)) * 7)) + 3)) (ac.length : Int)))) * 1117)))) + (wrap64 ((wrap64 (ad - 1)) * 29)))) + (wrap64 ((wrap64 (Int.tdiv (wrap64 (ad - 1)) (ac.length : Int))) * 53)))) 64))) x1, ad))) else (none)) else (none)) else (none)) else (none))))
def spec_l30Rd_pick.f (k : Nat) (aa : List Int) (ab : Int) (a1 : Int) : Option (Int × Int) := if a1 < 1 then (spec_l30Rd_pick.j0 k a1 true aa (wrap64 (ab + 1))) else (spec_l30Rd_pick.j0 k a1 ((aa.length : Int) == 0) aa (wrap64 (ab + 1)))
theorem spec_l30Rd_pick.mono_l : ∀ k, (∀ y0 y1 y2 y3, LeO (spec_l30Rd_pick.j0 k y0 y1 y2 y3) (spec_l30Rd_pick.j0 (k + 1) y0 y1 y2 y3))
 | 0 => fun _ _ _ _ r h => by simp [spec_l30Rd_pick.j0] at h
 | k + 1 => by
  have ih0 := spec_l30Rd_pick.mono_l k
  ·intro y0 y1 y2 y3
   unfold spec_l30Rd_pick.j0
   repeat' (with_reducible exact LeO.refl _)
theorem spec_l30Rd_pick.mono : ∀ a0 a1 a2 k, LeO (spec_l30Rd_pick.f k a0 a1 a2) (spec_l30Rd_pick.f (k + 1) a0 a1 a2) := by
 intro a0 a1 a2 k
 have ih0 := spec_l30Rd_pick.mono_l k
 unfold spec_l30Rd_pick.f
 repeat' first | (with_reducible exact ih0 _ _ _ _) | (with_reducible refine LeO.ite ?_ ?_)
set_option maxHeartbeats 8000000 in
set_option maxRecDepth 100000 in
theorem spec_l30Rd_pick.calls (k : Nat) (g : Nat) (aa : List Int) (ab : Int) (a1 : Int) (r1 : Int) (r2 : Int) (w0 w : World) (hI : IsS95 w0 w g aa ab) (hB : Below w0.heap.size w0 w) (h : spec_l30Rd_pick.f k aa ab a1 = some (r1, r2)) :
  Calls Try.prog 87 #[.pointer (some ⟨g, 0, none⟩), .int .i64 a1] w fun e w' => e = .returned (.int .i64 r1) ∧ IsS95 w0 w' g aa r2 ∧ Below w0.heap.size w0 w' ∧ KeepBut w w' g none := by
 have HI0 := ak hI
 have HK := ak (KeepBut.refl w g none)
 have HL := ak hB.size
 clear hI
 have HW0 := ak hB.size
 have HB := ak hB
 clear hB
 have H : (if a1 < 1 then (spec_l30Rd_pick.j0 k a1 true aa (wrap64 (ab + 1))) else (spec_l30Rd_pick.j0 k a1 ((aa.length : Int) == 0) aa (wrap64 (ab + 1)))) = some (r1, r2) := h
 clear h
 have HC3 := ak H
 clear H
 obtain ⟨aX, aY, ao, aZ, ba⟩ := HI0.out
 have ar := qKj ao
 have au := qKp ao
 have av := qQn ao 1
 clear ao aZ
 go_enter Try.func87, Try.ntmps87
 go_upto_region 2 with (fail)
 repeat (go_quiet (fail); go_upto_region 2 with (fail))
 go_cut [24] (fun v24 wc => ∃ (kq : Nat) (ag : Bool), v24 = .bool ag ∧ Aside0 (spec_l30Rd_pick.j0 kq a1 ag aa (wrap64 (ab + 1)) = some (r1, r2)) ∧ Aside0 (kq ≤ k) ∧ Aside0 (IsS95 w0 wc g aa (wrap64 (ab + 1))) ∧ Aside0 (KeepBut w wc g none) ∧ Aside0 (Below w0.heap.size w0 wc))
 case first =>
  have H := HC3.out
  clear HC3
  by_cases c5 : a1 < 1
  ·rw [if_pos c5] at H
   have c5b0 : decide (a1 < 1) = true := decide_eq_true c5
   clear c5
   (skip)
   have H' := ak H
   clear H
   go_wp2
   repeat (go_quiet (fail); try go_wp2)
   go_meet
   case rel => exact ⟨_, (true), (by rfl), H', ⟨by omega⟩, ⟨by repeat ((with_reducible first | exact HI0.out | apply IsS95.set_1))⟩, ⟨by repeat ((with_reducible first | exact HK.out | apply KeepBut.set_))⟩, ⟨by repeat ((with_reducible first | exact HB.out | refine below_set ?_ (IsS95.ge HI0.out)))⟩⟩
  rw [if_neg c5] at H
  have c5b0 : decide (a1 < 1) = false := decide_eq_false c5
  clear c5
  (skip)
  have H' := ak H
  clear H
  obtain ⟨bb, bd, ap, be, bf⟩ := HI0.out
  have aw := qKj ap
  have ax := qKp ap
  have ay := qQn ap 1
  clear ap be
  go_wp2
  repeat (go_quiet (fail); try go_wp2)
  go_meet
  case rel => exact ⟨_, (((aa.length : Int) == 0)), (by rfl), H', ⟨by omega⟩, ⟨by repeat ((with_reducible first | exact HI0.out | apply IsS95.set_1))⟩, ⟨by repeat ((with_reducible first | exact HK.out | apply KeepBut.set_))⟩, ⟨by repeat ((with_reducible first | exact HB.out | refine below_set ?_ (IsS95.ge HI0.out)))⟩⟩
 clear HC3
 try clear p2
 try clear c5
 try clear c5b0
 try clear p6
 try clear ar
 try clear au
 try clear aw
 try clear ax
 try clear av
 try clear ay
 obtain ⟨kq, ag, rfl, HA, HJ2, HI0, HK, HB⟩ := hcut
 cases kq with
 | zero => exact absurd HA.out (by simp [spec_l30Rd_pick.j0])
 | succ kj2 =>
  have H := HA.out
  clear HA
  simp only [spec_l30Rd_pick.j0] at H
  by_cases c7 : ag = true
  ·subst c7
   rw [if_pos rfl] at H
   simp only [Option.some.injEq, Prod.mk.injEq] at H
   obtain ⟨rfl, rfl⟩ := H
   go_wp2
   repeat (go_quiet (fail); try go_wp2)
   go_ret
   exact ⟨by rfl, by repeat ((with_reducible exact HI0.out)), by repeat ((with_reducible exact HB.out)), by repeat ((with_reducible exact HK.out))⟩
  replace c7 := Bool.eq_false_iff.mpr c7
  subst c7
  rw [if_neg (show ¬ (false = true) by decide)] at H
  by_cases c8 : (wrap64 ((wrap64 (ab + 1)) - 1)) < (aa.length : Int)
  ·rw [if_pos c8] at H
   have c8b0 : decide ((wrap64 ((wrap64 (ab + 1)) - 1)) < (aa.length : Int)) = true := decide_eq_true c8
   clear c8
   obtain ⟨ji9, az⟩ : ∃ j_ : Int, (wrap64 ((wrap64 (ab + 1)) - 1)) = j_ := ⟨_, rfl⟩
   replace H : (if 0 ≤ (ji9) then (if a1 = 0 then (none) else (some (Int.tmod (wrap64 (rd aa (ji9))) a1, (wrap64 (ab + 1))))) else (none)) = some (r1, r2) := by (rw [az] at H; exact H)
   (try rw [az] at c8b0)
   have hji9w : (IntKind.i64.wrap ((wrap64 (ab + 1)) - 1)) = ji9 := (i64_w _).trans az
   by_cases c10 : 0 ≤ (ji9)
   rotate_left
   ·rw [if_neg c10] at H
    exact absurd H (by simp)
   rw [if_pos c10] at H
   have c10b0 : decide (0 ≤ (ji9)) = true := decide_eq_true c10
   clear c10
   by_cases c11 : a1 = 0
   ·rw [if_pos c11] at H
    exact absurd H (by simp)
   rw [if_neg c11] at H
   have c11b0 : (a1 == 0) = false := beq_eq_false_iff_ne.mpr c11
   have c11b1 : (a1 != 0) = true := bne_iff_ne.mpr c11
   simp only [Option.some.injEq, Prod.mk.injEq] at H
   obtain ⟨rfl, rfl⟩ := H
   obtain ⟨aN, aO, ah, aG, aq⟩ := HI0.out
   have aP := qKj ah
   have aQ := qKp ah
   have aR := qQn ah 1
   clear ah aG
   have aA : 0 ≤ ((ji9) : Int) := oT (by (with_reducible assumption))
   have aB : (ji9) < (aa.length : Int) := oT (by (with_reducible assumption))
   obtain ⟨bj, bg, ai⟩ := Kd.at_int aq (ji9) aA aB
   cases bg
   replace ai := qJo HB.out ai
   replace aA := eq_true aA
   replace aB := eq_true aB
   go_wp2
   repeat (go_quiet (fail); try go_wp2)
   go_ret
   exact ⟨by rfl, by repeat ((with_reducible exact HI0.out)), by repeat ((with_reducible exact HB.out)), by repeat ((with_reducible exact HK.out))⟩
  rw [if_neg c8] at H
  have c8b0 : decide ((wrap64 ((wrap64 (ab + 1)) - 1)) < (aa.length : Int)) = false := decide_eq_false c8
  clear c8
  by_cases c13 : (aa.length : Int) = 0
  ·rw [if_pos c13] at H
   exact absurd H (by simp)
  rw [if_neg c13] at H
  have c13b0 : ((aa.length : Int) == 0) = false := beq_eq_false_iff_ne.mpr c13
  have c13b1 : ((aa.length : Int) != 0) = true := bne_iff_ne.mpr c13
  have c13b2 : ¬ (aa = []) := fun h_ => c13 (by rw [h_]; rfl)
  obtain ⟨ae, aH⟩ : ∃ j_ : Int, (Int.tmod (wrap64 ((wrap64 (ab + 1)) - 1)) (aa.length : Int)) = j_ := ⟨_, rfl⟩
  replace H : (if 0 ≤ (ae) then (if (ae) < (aa.length : Int) then (if 0 ≤ (Int.tmod (wrap64 ((wrap64 ((wrap64 ((wrap64 (ab + 1)) - 1)) * 7)) + 3)) (aa.length : Int)) then (if (Int.tmod (wrap64 ((wrap64 ((wrap64 ((wrap64 (ab + 1)) - 1)) * 7)) + 3)) (aa.length : Int)) < (aa.length : Int) then (if a1 = 0 then (none) else (some (Int.tmod (Go.bits .xor .i64 (wrap64 ((wrap64 ((wrap64 ((wrap64 ((wrap64 (rd aa (ae))) * 131)) + (wrap64 ((wrap64 (rd aa (Int.tmod (wrap64 ((wrap64 ((wrap64 ((wrap64 (ab + 1)) - 1)) * 7)) + 3)) (aa.length : Int)))) * 1117)))) + (wrap64 ((wrap64 ((wrap64 (ab + 1)) - 1)) * 29)))) + (wrap64 ((wrap64 (Int.tdiv (wrap64 ((wrap64 (ab + 1)) - 1)) (aa.length : Int))) * 53)))) (wrap64 (Int.tdiv (wrap64 ((wrap64 ((wrap64 ((wrap64 ((wrap64 (rd aa (ae))) * 131)) + (wrap64 ((wrap64 (rd aa (Int.tmod (wrap64 ((wrap64 ((wrap64 ((wrap64 (ab + 1)) - 1)) * 7)) + 3)) (aa.length : Int)))) * 1117)))) + (wrap64 ((wrap64 ((wrap64 (ab + 1)) - 1)) * 29)))) + (wrap64 ((wrap64 (Int.tdiv (wrap64 ((wrap64 (ab + 1)) - 1)) (aa.length : Int))) * 53)))) 64))) a1, (wrap64 (ab + 1))))) else (none)) else (none)) else (none)) else (none)) = some (r1, r2) := by (rw [aH] at H; exact H)
  by_cases c15 : 0 ≤ (ae)
  rotate_left
  ·rw [if_neg c15] at H
   exact absurd H (by simp)
  rw [if_pos c15] at H
  have c15b0 : decide (0 ≤ (ae)) = true := decide_eq_true c15
  clear c15
  by_cases c16 : (ae) < (aa.length : Int)
  rotate_left
  ·rw [if_neg c16] at H
   exact absurd H (by simp)
  rw [if_pos c16] at H
  have c16b0 : decide ((ae) < (aa.length : Int)) = true := decide_eq_true c16
  clear c16
  obtain ⟨af, aI⟩ : ∃ j_ : Int, (Int.tmod (wrap64 ((wrap64 ((wrap64 ((wrap64 (ab + 1)) - 1)) * 7)) + 3)) (aa.length : Int)) = j_ := ⟨_, rfl⟩
  replace H : (if 0 ≤ (af) then (if (af) < (aa.length : Int) then (if a1 = 0 then (none) else (some (Int.tmod (Go.bits .xor .i64 (wrap64 ((wrap64 ((wrap64 ((wrap64 ((wrap64 (rd aa (ae))) * 131)) + (wrap64 ((wrap64 (rd aa (af))) * 1117)))) + (wrap64 ((wrap64 ((wrap64 (ab + 1)) - 1)) * 29)))) + (wrap64 ((wrap64 (Int.tdiv (wrap64 ((wrap64 (ab + 1)) - 1)) (aa.length : Int))) * 53)))) (wrap64 (Int.tdiv (wrap64 ((wrap64 ((wrap64 ((wrap64 ((wrap64 (rd aa (ae))) * 131)) + (wrap64 ((wrap64 (rd aa (af))) * 1117)))) + (wrap64 ((wrap64 ((wrap64 (ab + 1)) - 1)) * 29)))) + (wrap64 ((wrap64 (Int.tdiv (wrap64 ((wrap64 (ab + 1)) - 1)) (aa.length : Int))) * 53)))) 64))) a1, (wrap64 (ab + 1))))) else (none)) else (none)) = some (r1, r2) := by (rw [aI] at H; exact H)
  by_cases c18 : 0 ≤ (af)
  rotate_left
  ·rw [if_neg c18] at H
   exact absurd H (by simp)
  rw [if_pos c18] at H
  have c18b0 : decide (0 ≤ (af)) = true := decide_eq_true c18
  clear c18
  by_cases c19 : (af) < (aa.length : Int)
  rotate_left
  ·rw [if_neg c19] at H
   exact absurd H (by simp)
  rw [if_pos c19] at H
  have c19b0 : decide ((af) < (aa.length : Int)) = true := decide_eq_true c19
  clear c19
  by_cases c20 : a1 = 0
  ·rw [if_pos c20] at H
   exact absurd H (by simp)
  rw [if_neg c20] at H
  have c20b0 : (a1 == 0) = false := beq_eq_false_iff_ne.mpr c20
  have c20b1 : (a1 != 0) = true := bne_iff_ne.mpr c20
  simp only [Option.some.injEq, Prod.mk.injEq] at H
  obtain ⟨rfl, rfl⟩ := H
  obtain ⟨aS, aT, aj, aJ, al⟩ := HI0.out
  have aU := qKj aj
  have aV := qKp aj
  have aW := qQn aj 1
  clear aj aJ
  have aC : 0 ≤ ((ae) : Int) := oT (by (with_reducible assumption))
  have aD : (ae) < (aa.length : Int) := oT (by (with_reducible assumption))
  obtain ⟨aK, bh, am⟩ := Kd.at_int al (ae) aC aD
  cases bh
  replace am := qJo HB.out am
  replace aC := eq_true aC
  replace aD := eq_true aD
  have aE : 0 ≤ ((af) : Int) := oT (by (with_reducible assumption))
  have aF : (af) < (aa.length : Int) := oT (by (with_reducible assumption))
  obtain ⟨aL, bi, an⟩ := Kd.at_int al (af) aE aF
  obtain rfl : aK = aL := (by injection bi)
  replace an := qJo HB.out an
  replace aE := eq_true aE
  replace aF := eq_true aF
  go_wp2
  repeat (go_quiet (fail); try go_wp2)
  go_ret
  exact ⟨by rfl, by repeat ((with_reducible first | exact HI0.out | apply IsS95.drewN)), by repeat ((with_reducible first | exact HB.out | apply qJb)), by repeat ((with_reducible first | exact HK.out | apply keep_drewN))⟩
/-! ### spec_l30Rd_one: function 47 -/
def spec_l30Rd_one.f (k : Nat) (ac : List Int) (af : Int) (l1 : List Int) : Option (Int × Int) := (spec_l30Rd_pick.f k ac af (l1.length : Int)).bind fun aa => (if 0 ≤ aa.1 then (if aa.1 < (l1.length : Int) then (some (rd l1 aa.1, aa.2)) else (none)) else (none))
theorem spec_l30Rd_one.mono : ∀ a0 a1 a2 k, LeO (spec_l30Rd_one.f k a0 a1 a2) (spec_l30Rd_one.f (k + 1) a0 a1 a2) := by
 intro a0 a1 a2 k
 unfold spec_l30Rd_one.f
 repeat' first | (with_reducible exact spec_l30Rd_pick.mono _ _ _ _) | (with_reducible exact LeO.refl _) | (with_reducible refine LeO.bind ?_ (fun _ => ?_))
set_option maxHeartbeats 8000000 in
set_option maxRecDepth 100000 in
theorem spec_l30Rd_one.calls (k : Nat) (g : Nat) (ac : List Int) (af : Int) (A1 : Option Addr) (c1 : Nat) (l1 : List Int) (r1 : Int) (r2 : Int) (w0 w : World) (hI : IsS95 w0 w g ac af) (hB : Below w0.heap.size w0 w) (hr1 : Kd.C (Kd.int .i64) w A1 l1.length l1) (hc1 : l1.length ≤ c1) (hf1 : ∀ ad, A1 = some ad → 0 < l1.length → ad.block ≠ g) (h : spec_l30Rd_one.f k ac af l1 = some (r1, r2)) :
  Calls Try.prog 47 #[.pointer (some ⟨g, 0, none⟩), .slice A1 l1.length c1] w fun e w' => e = .returned (.int .i64 r1) ∧ IsS95 w0 w' g ac r2 ∧ Below w0.heap.size w0 w' ∧ KeepBut w w' g none := by
 have HR1 := ak hr1
 have HC1 := ak hc1
 clear hr1 hc1
 have HI0 := ak hI
 have HK := ak (KeepBut.refl w g none)
 have HL := ak hB.size
 clear hI
 have HW0 := ak hB.size
 have HB := ak hB
 clear hB
 have H : ((spec_l30Rd_pick.f k ac af (l1.length : Int)).bind fun aa => (if 0 ≤ aa.1 then (if aa.1 < (l1.length : Int) then (some (rd l1 aa.1, aa.2)) else (none)) else (none))) = some (r1, r2) := h
 clear h
 replace H := Option.bind_eq_some_iff.mp H
 obtain ⟨⟨ab, ai⟩, A30, H⟩ := H
 have A3 := ak A30
 clear A30
 by_cases c4 : 0 ≤ ab
 rotate_left
 ·rw [if_neg c4] at H
  exact absurd H (by simp)
 rw [if_pos c4] at H
 have c4b0 : decide (0 ≤ ab) = true := decide_eq_true c4
 clear c4
 by_cases c5 : ab < (l1.length : Int)
 rotate_left
 ·rw [if_neg c5] at H
  exact absurd H (by simp)
 rw [if_pos c5] at H
 have c5b0 : decide (ab < (l1.length : Int)) = true := decide_eq_true c5
 clear c5
 simp only [Option.some.injEq, Prod.mk.injEq] at H
 obtain ⟨rfl, rfl⟩ := H
 go_enter Try.func47, Try.ntmps47
 go_wp2_with (((with_reducible refine gate_callee (f := 87) rfl ?_); refine qQi (some 9) rfl rfl Try.func87 (by kernel_rfl) rfl #[.pointer (some ⟨g, 0, none⟩), .int .i64 (l1.length : Int)] rfl (by (try simp only [List.map_toArray, List.map_cons, List.map_nil]); rfl) ?_; (with_reducible refine (spec_l30Rd_pick.calls k g ac af (l1.length : Int) ab ai w0 _ ?side1 ?side2 A3.out).mono ?_); (case side1 => repeat ((with_reducible exact HI0.out))); (case side2 => repeat ((with_reducible exact HB.out))); rintro e w6 ⟨rfl, hi, hb, hk⟩; refine ⟨_, rfl, ?_⟩; replace HK := ak (KeepBut.trans (by repeat ((with_reducible exact HK.out))) hk (.inl rfl)); replace HB := ak (hb); replace HI0 := ak (hi); (try clear hb); (try clear hb2); (try clear hk); (try clear hi); have ag : 0 ≤ (ab : Int) := oT (by (with_reducible assumption)); have ah : ab < (l1.length : Int) := oT (by (with_reducible assumption)); obtain ⟨al, aj, ae⟩ := Kd.at_int HR1.out ab ag ah; cases aj; replace ae := qXg HK.out ae (by (rw [qJm]; exact hf1 _ rfl (by omega))); replace ag := eq_true ag; replace ah := eq_true ah))
 go_ret
 exact ⟨by rfl, by repeat ((with_reducible exact HI0.out)), by repeat ((with_reducible exact HB.out)), by repeat ((with_reducible exact HK.out))⟩
/-! ### spec_l30Net: function 86 -/
def spec_l30Net.l0 : Nat → Int → List Int → Int → Int → List (S58) → Option (Int × (List (S58)) × Int)
 | 0, _, _, _, _, _ => none
 | k + 1, x4, aR, bM, aA, aJ => if x4 > 0 then ((spec_l30Rd_pick.f k aR bM aA).bind fun bg => ((spec_l30Rd_pick.f k aR bg.2 aA).bind fun bh => ((spec_l30Rd_pick.f k aR bh.2 100).bind fun bN => ((spec_l30Rd_one.f k aR bN.2 (([0, 1, 2, 5, 9, bN.1] : List Int))).bind fun aV => ((spec_l30Rd_one.f k aR aV.2 (([0, 0, 3, 8] : List Int))).bind fun aD => ((spec_l30Rd_pick.f k aR aD.2 10).bind fun az => (if bg.1 = bh.1 then (if aA = 0 then (none) else (if aJ.length < 3518437208883 then (spec_l30Net.l0 k (wrap64 (x4 - 1)) aR az.2 aA (aJ ++ [(⟨bg.1, Int.tmod (wrap64 (bh.1 + 1)) aA, aV.1, aD.1, az.1⟩ : S58)])) else (none))) else (if aJ.length < 3518437208883 then (spec_l30Net.l0 k (wrap64 (x4 - 1)) aR az.2 aA (aJ ++ [(⟨bg.1, bh.1, aV.1, aD.1, az.1⟩ : S58)])) else (none))))))))) else (some (aA, aJ, bM))
def spec_l30Net.f (k : Nat) (au : List Int) (ba : Int) : Option (Int × (List (S58)) × Int) := (spec_l30Rd_pick.f k au ba 5).bind fun bb => ((spec_l30Rd_pick.f k au bb.2 14).bind fun bd => (spec_l30Net.l0 k bd.1 au bd.2 (wrap64 (2 + bb.1)) ([] : List (S58))))
theorem spec_l30Net.mono_l : ∀ k, (∀ y0 y1 y2 y3 y4, LeO (spec_l30Net.l0 k y0 y1 y2 y3 y4) (spec_l30Net.l0 (k + 1) y0 y1 y2 y3 y4))
 | 0 => fun _ _ _ _ _ r h => by simp [spec_l30Net.l0] at h
 | k + 1 => by
  have ih0 := spec_l30Net.mono_l k
  ·intro y0 y1 y2 y3 y4
   unfold spec_l30Net.l0
   repeat' first | (with_reducible exact ih0 _ _ _ _ _) | (with_reducible exact spec_l30Rd_one.mono _ _ _ _) | (with_reducible exact spec_l30Rd_pick.mono _ _ _ _) | (with_reducible exact LeO.refl _) | (with_reducible refine LeO.ite ?_ ?_) | (with_reducible refine LeO.bind ?_ (fun _ => ?_))
theorem spec_l30Net.mono : ∀ a0 a1 k, LeO (spec_l30Net.f k a0 a1) (spec_l30Net.f (k + 1) a0 a1) := by
 intro a0 a1 k
 have ih0 := spec_l30Net.mono_l k
 unfold spec_l30Net.f
 repeat' first | (with_reducible exact ih0 _ _ _ _ _) | (with_reducible exact spec_l30Rd_pick.mono _ _ _ _) | (with_reducible refine LeO.bind ?_ (fun _ => ?_))
def spec_l30Net.T5 : Bool × List (List Nat × List Nat) := (true, [([], []), ([], []), ([1], [1]), ([0, 2], [0, 2]), ([], []), ([], []), ([5], [5]), ([4, 6, 3], [4, 6]), ([], []), ([], []), ([9, 7], [9]), ([10], [10]), ([8, 11, 10], [8, 11]), ([], []), ([], []), ([13, 14, 12], [13, 14]), ([], []), ([16, 15], [16]), ([3, 7, 12, 15, 17], [3, 7, 12, 15, 17]), ([], []), ([19, 18, 17, 0, 1, 2, 3, 4, 5, 6, 7, 8, 9, 10, 11, 12, 13, 14, 15, 16, 17, 18, 19], [18, 19])])
def spec_l30Net.B5 : List Nat := [0, 0, 2, 7, 0, 0, 32, 127, 0, 0, 767, 1791, 4095, 0, 0, 32767, 0, 131071, 262143, 0, 1048575]
theorem spec_l30Net.tab5 : rtab .any (qWg Try.f86 5) = spec_l30Net.T5 := by kernel_rfl
theorem spec_l30Net.bits5 : qJn spec_l30Net.T5.2 spec_l30Net.B5 = true := by kernel_rfl
theorem spec_l30Net.fix_world {P : Program} {ops : Array Oper} {Q : Exit → Act → World → Prop} {l : List Oper} {a : Act} {W : World} {g : Nat} {o : Obj} (hb : W.heap[g]? = some o) (h : ∀ W', W = W' → W'.heap[g]? = some o → wpList P ops Q l a W') : wpList P ops Q l a W := h W rfl hb
/-- What the region of spec.l30Net that draws an arc makes, in whatever order. -/
def spec_l30Net.Lr (aE aH ay aI aT aU : Int) (v27 v30 : Value) (gb : Nat) (s : Nat) (b c : Bool) : List (Tmp × Value) :=
 ([(19, .int .i64 aE), (23, .int .i64 aH), (26, .int .i64 ay), (27, v27), (28, .int .i64 aI), (31, .int .i64 aT), (33, .int .i64 aU), (34, .agg #[.int .i64 aE, .int .i64 aH, .int .i64 aI, .int .i64 aT, .int .i64 aU])] : List (Tmp × Value)).take s ++ ((if b then [(30, v30)] else []) ++ (if c then [(5, .pointer (some ⟨gb, 0, none⟩))] else []))
set_option maxHeartbeats 4000000 in
set_option maxRecDepth 100000 in
theorem spec_l30Net.reg5 {Q : Exit → Act → World → Prop} {S : World → Prop} {FS : Option Nat → World → Prop} (k1 : Nat) {w0 w w1 : World} {g : Nat} {s0 : List Int} {p0 W aE bm aH bn ay bj aI be aT aX aU bo : Int}
  (a0 : Act) (hsz : a0.tmps.size = 54)
  (h16 : a0.eval (.tmp 16) = .pointer (some ⟨g, 0, none⟩)) (h18 : a0.eval (.tmp 18) = .int .i64 W) (h20 : a0.eval (.tmp 20) = .pointer (some ⟨g, 0, none⟩)) (h22 : a0.eval (.tmp 22) = .int .i64 W) (h24 : a0.eval (.tmp 24) = .pointer (some ⟨g, 0, none⟩)) (h25 : a0.eval (.tmp 25) = .pointer (some ⟨g, 0, none⟩)) (h29 : a0.eval (.tmp 29) = .pointer (some ⟨g, 0, none⟩)) (h32 : a0.eval (.tmp 32) = .pointer (some ⟨g, 0, none⟩))
  (hS : ∀ o w', FS o w' → S w') (hF : ∀ o w1 w2 p, IsS95 w0 w1 g s0 p → KeepBut w1 w2 g none → FS o w1 → FS o w2) (hE : ∀ w1, FS none w1 → FS (some w1.heap.size) w1)
  (hI : IsS95 w0 w1 g s0 p0) (hK : KeepBut w w1 g none) (hB : Below w0.heap.size w0 w1) (hFS : FS none w1)
  (A12 : spec_l30Rd_pick.f k1 s0 p0 W = some (aE, bm)) (A13 : spec_l30Rd_pick.f k1 s0 bm W = some (aH, bn)) (A14 : spec_l30Rd_pick.f k1 s0 bn 100 = some (ay, bj))
  (A15 : spec_l30Rd_one.f k1 s0 bj [0, 1, 2, 5, 9, ay] = some (aI, be)) (A16 : spec_l30Rd_one.f k1 s0 be [0, 0, 3, 8] = some (aT, aX)) (A17 : spec_l30Rd_pick.f k1 s0 aX 10 = some (aU, bo))
  (hJ : ∀ (v27 v30 : Value) (gb : Nat) (w' : World), FS (some gb) w' → w'.heap[gb]? = some (.cells #[.int .i64 0, .int .i64 0, .int .i64 0, .int .i64 0, .int .i64 0] 58 (0, 0)) → w.heap.size ≤ gb → gb ≠ g → IsS95 w0 w' g s0 bo → KeepBut w w' g none → Below w0.heap.size w0 w' →
   wpAnyLast Try.prog .any (qWg Try.f86 5) Q S [] 1 (ms 21 1048575) (putAll a0 [(19, .int .i64 aE), (23, .int .i64 aH), (26, .int .i64 ay), (27, v27), (28, .int .i64 aI), (31, .int .i64 aT), (33, .int .i64 aU), (34, .agg #[.int .i64 aE, .int .i64 aH, .int .i64 aI, .int .i64 aT, .int .i64 aU]), (30, v30), (5, .pointer (some ⟨gb, 0, none⟩))]) w') :
  wpAnyLast Try.prog .any (qWg Try.f86 5) Q S [] 11 (ms 21 74615) a0 w1 := by
 have mv : ∀ {s : Nat} {b c : Bool} {v27 v30 : Value} {gb : Nat} {wa wb : World} {p : Int}, IsS95 w0 wa g s0 p → KeepBut wa wb g none →
   (FS (if c then some gb else none) wa ∧ (s = 4 → Kd.R (Kd.int .i64) 3 wa w.heap.size (fun _ => True) v27 [0, 1, 2, 5, 9, ay]) ∧ (b = true → Kd.R (Kd.int .i64) 3 wa w.heap.size (fun _ => True) v30 [0, 0, 3, 8]) ∧ (c = true → wa.heap[gb]? = some (.cells #[.int .i64 0, .int .i64 0, .int .i64 0, .int .i64 0, .int .i64 0] 58 (0, 0)) ∧ w.heap.size ≤ gb ∧ gb ≠ g)) →
   (FS (if c then some gb else none) wb ∧ (s = 4 → Kd.R (Kd.int .i64) 3 wb w.heap.size (fun _ => True) v27 [0, 1, 2, 5, 9, ay]) ∧ (b = true → Kd.R (Kd.int .i64) 3 wb w.heap.size (fun _ => True) v30 [0, 0, 3, 8]) ∧ (c = true → wb.heap[gb]? = some (.cells #[.int .i64 0, .int .i64 0, .int .i64 0, .int .i64 0, .int .i64 0] 58 (0, 0)) ∧ w.heap.size ≤ gb ∧ gb ≠ g)) := by
  intro s b c v27 v30 gb wa wb p hi hk ⟨h1, h2, h3, h4⟩
  exact ⟨hF _ _ _ _ hi hk h1, fun e => Kd.R_mono (Kd.R_keep (IsS95.apart hi (h2 e) (by decide)) hk (fun _ h => h.2)) (fun _ h => h.1), fun e => Kd.R_mono (Kd.R_keep (IsS95.apart hi (h3 e) (by decide)) hk (fun _ h => h.2)) (fun _ h => h.1), fun e => ⟨KeepBut.blk hk (h4 e).1 (h4 e).2.2 (by simp), (h4 e).2⟩⟩
 refine chain_ spec_l30Net.tab5 21 1 74615 14 19 5 [3, 7, 10, 11, 12, 15, 17, 18] (by kernel_rfl)
  (fun s b c a w' => ∃ (v27 v30 : Value) (gb : Nat), a = putAll a0 (spec_l30Net.Lr aE aH ay aI aT aU v27 v30 gb s b c) ∧ IsS95 w0 w' g s0 (([p0, bm, bn, bj, bj, be, aX, bo, bo] : List Int).getD s 0) ∧ KeepBut w w' g none ∧ Below w0.heap.size w0 w' ∧
   FS (if c then some gb else none) w' ∧ (s = 4 → Kd.R (Kd.int .i64) 3 w' w.heap.size (fun _ => True) v27 [0, 1, 2, 5, 9, ay]) ∧ (b = true → Kd.R (Kd.int .i64) 3 w' w.heap.size (fun _ => True) v30 [0, 0, 3, 8]) ∧ (c = true → w'.heap[gb]? = some (.cells #[.int .i64 0, .int .i64 0, .int .i64 0, .int .i64 0, .int .i64 0] 58 (0, 0)) ∧ w.heap.size ≤ gb ∧ gb ≠ g))
  (fun s b c a w' h => by obtain ⟨_, _, gb, _, _, _, _, h, _⟩ := h; exact hS _ _ h) ?_ ?_ ?_ ?_ ⟨.bool true, .bool true, 0, rfl, hI, hK, hB, hFS, (fun h => absurd h (by decide)), (fun h => absurd h (by decide)), (fun h => absurd h (by decide))⟩
 ·rintro s b c a wa hs hb ⟨v27, v30, gb, ha, hi, hk, hbl, ht⟩
  rcases s with _ | _ | _ | _ | _ | _ | _ | _ | s
  ·skip
   have e16 : a.eval (.tmp 16) = .pointer (some ⟨g, 0, none⟩) := by rw [ha]; exact (qXa _ _ _ (by cases b <;> cases c <;> rfl)).trans h16
   have e18 : a.eval (.tmp 18) = .int .i64 W := by rw [ha]; exact (qXa _ _ _ (by cases b <;> cases c <;> rfl)).trans h18
   refine wpOp_step (i := 3) rfl (fun K hKc => ?_)
   refine qXc Try.func87 (by kernel_rfl) rfl #[.pointer (some ⟨g, 0, none⟩), .int .i64 W] rfl rfl rfl (by simp only [List.map_toArray, List.map_cons, List.map_nil, e16, e18] <;> rfl) ?_
   refine (spec_l30Rd_pick.calls k1 g s0 p0 W aE bm w0 _ hi hbl A12).mono ?_
   rintro e wb ⟨rfl, hi2, hb2, hk2⟩
   obtain ⟨m1, m2, m3, m4⟩ := mv hi hk2 ht
   refine ⟨_, rfl, hKc _ _ ⟨v27, v30, gb, ?_, hi2, hk.trans hk2 (.inl rfl), hb2, m1, fun h => absurd h (by decide), m3, m4⟩⟩
   rw [ha]; refine (qVf _ _ _ _ _ (by cases b <;> cases c <;> rfl)).trans (congrArg _ ?_); cases b <;> cases c <;> rfl
  ·skip
   have e20 : a.eval (.tmp 20) = .pointer (some ⟨g, 0, none⟩) := by rw [ha]; exact (qXa _ _ _ (by cases b <;> cases c <;> rfl)).trans h20
   have e22 : a.eval (.tmp 22) = .int .i64 W := by rw [ha]; exact (qXa _ _ _ (by cases b <;> cases c <;> rfl)).trans h22
   refine wpOp_step (i := 7) rfl (fun K hKc => ?_)
   refine qXc Try.func87 (by kernel_rfl) rfl #[.pointer (some ⟨g, 0, none⟩), .int .i64 W] rfl rfl rfl (by simp only [List.map_toArray, List.map_cons, List.map_nil, e20, e22] <;> rfl) ?_
   refine (spec_l30Rd_pick.calls k1 g s0 bm W aH bn w0 _ hi hbl A13).mono ?_
   rintro e wb ⟨rfl, hi2, hb2, hk2⟩
   obtain ⟨m1, m2, m3, m4⟩ := mv hi hk2 ht
   refine ⟨_, rfl, hKc _ _ ⟨v27, v30, gb, ?_, hi2, hk.trans hk2 (.inl rfl), hb2, m1, fun h => absurd h (by decide), m3, m4⟩⟩
   rw [ha]; refine (qVf _ _ _ _ _ (by cases b <;> cases c <;> rfl)).trans (congrArg _ ?_); cases b <;> cases c <;> rfl
  ·skip
   have e25 : a.eval (.tmp 25) = .pointer (some ⟨g, 0, none⟩) := by rw [ha]; exact (qXa _ _ _ (by cases b <;> cases c <;> rfl)).trans h25
   refine wpOp_step (i := 10) rfl (fun K hKc => ?_)
   refine qXc Try.func87 (by kernel_rfl) rfl #[.pointer (some ⟨g, 0, none⟩), .int .i64 100] rfl rfl rfl (by simp only [List.map_toArray, List.map_cons, List.map_nil, e25] <;> rfl) ?_
   refine (spec_l30Rd_pick.calls k1 g s0 bn 100 ay bj w0 _ hi hbl A14).mono ?_
   rintro e wb ⟨rfl, hi2, hb2, hk2⟩
   obtain ⟨m1, m2, m3, m4⟩ := mv hi hk2 ht
   refine ⟨_, rfl, hKc _ _ ⟨v27, v30, gb, ?_, hi2, hk.trans hk2 (.inl rfl), hb2, m1, fun h => absurd h (by decide), m3, m4⟩⟩
   rw [ha]; refine (qVf _ _ _ _ _ (by cases b <;> cases c <;> rfl)).trans (congrArg _ ?_); cases b <;> cases c <;> rfl
  ·skip
   have e26 : a.eval (.tmp 26) = .int .i64 ay := by rw [ha]; exact qXj a0 [(19, .int .i64 aE), (23, .int .i64 aH)] _ 26 _ (by cases b <;> cases c <;> rfl) (by rw [hsz]; decide)
   refine wpOp_step (i := 11) (o := { dst := some 27, op := Go.Op.buildSlice 33 6 #[(0, Go.Operand.const (Go.Value.int Go.IntKind.i64 0)), (1, Go.Operand.const (Go.Value.int Go.IntKind.i64 1)), (2, Go.Operand.const (Go.Value.int Go.IntKind.i64 2)), (3, Go.Operand.const (Go.Value.int Go.IntKind.i64 5)), (4, Go.Operand.const (Go.Value.int Go.IntKind.i64 9)), (5, Go.Operand.tmp 26)], type := 33, pos := "l30_draw.go:60", after := #[{ on := 10, ground := Go.Ground.data }], guard := none }) rfl (fun K hKc => ?_)
   refine Kd.R_lit_step (Kd.int .i64) _ 3 rfl (N := 27) rfl (xs := ([0, 1, 2, 5, 9, ay] : List Int)) (inner := [.int .i64 0, .int .i64 1, .int .i64 2, .int .i64 5, .int .i64 9, .int .i64 ay]) (ok := fun _ => True) (okp := fun _ => True) ?hr ?hp (fun _ hk => hk) trivial (Below.refl _ _) (Nat.le_refl _) (by simp) ?_
   case hr => simp only [Act.eval, Array.getD_eq_getD_getElem?] at e26; clear ha; (go_simp; done)
   case hp => exact (Reps.one (show Kd.M (Kd.int .i64) _ _ _ 0 [.int .i64 0] from rfl) (Reps.one (show Kd.M (Kd.int .i64) _ _ _ 1 [.int .i64 1] from rfl) (Reps.one (show Kd.M (Kd.int .i64) _ _ _ 2 [.int .i64 2] from rfl) (Reps.one (show Kd.M (Kd.int .i64) _ _ _ 5 [.int .i64 5] from rfl) (Reps.one (show Kd.M (Kd.int .i64) _ _ _ 9 [.int .i64 9] from rfl) (Reps.one (show Kd.M (Kd.int .i64) _ _ _ ay [.int .i64 ay] from rfl) (Reps.none _ _)))))))
   intro v wb ho hb2 _ _
   have hk2 := KeepBut.of_below hb2 g none
   obtain ⟨m1, m2, m3, m4⟩ := mv hi hk2 ht
   refine hKc _ _ ⟨v, v30, gb, ?_, IsS95.below hi hb2, hk.trans hk2 (.inl rfl), qZd hbl hb2, m1, fun _ => Kd.R_lower ho (qQf hk), m3, m4⟩
   rw [ha]; refine (qVf _ _ _ _ _ (by cases b <;> cases c <;> rfl)).trans (congrArg _ ?_); cases b <;> cases c <;> rfl
  ·skip
   have h27 := ht.2.1 rfl
   obtain ⟨Ao, co, rfl⟩ := Kd.R_slice h27
   have e27 : a.eval (.tmp 27) = .slice Ao ([0, 1, 2, 5, 9, ay] : List Int).length co := by rw [ha]; exact qXj a0 [(19, .int .i64 aE), (23, .int .i64 aH), (26, .int .i64 ay)] _ 27 _ (by cases b <;> cases c <;> rfl) (by rw [hsz]; decide)
   have e24 : a.eval (.tmp 24) = .pointer (some ⟨g, 0, none⟩) := by rw [ha]; exact (qXa _ _ _ (by cases b <;> cases c <;> rfl)).trans h24
   refine wpOp_step (i := 12) rfl (fun K hKc => ?_)
   refine qXc Try.func47 (by kernel_rfl) rfl #[.pointer (some ⟨g, 0, none⟩), .slice Ao ([0, 1, 2, 5, 9, ay] : List Int).length co] rfl rfl rfl (by simp only [List.map_toArray, List.map_cons, List.map_nil, e24, e27] <;> rfl) ?_
   refine (spec_l30Rd_one.calls k1 g s0 bj _ _ [0, 1, 2, 5, 9, ay] aI be w0 _ hi hbl (Kd.R_reads' h27).2.2 (Kd.R_reads' h27).2.1 (qVa (IsS95.own_ne hi h27 (by decide))) A15).mono ?_
   rintro e wb ⟨rfl, hi2, hb2, hk2⟩
   obtain ⟨m1, m2, m3, m4⟩ := mv hi hk2 ht
   refine ⟨_, rfl, hKc _ _ ⟨.slice Ao ([0, 1, 2, 5, 9, ay] : List Int).length co, v30, gb, ?_, hi2, hk.trans hk2 (.inl rfl), hb2, m1, fun h => absurd h (by decide), m3, m4⟩⟩
   rw [ha]; refine (qVf _ _ _ _ _ (by cases b <;> cases c <;> rfl)).trans (congrArg _ ?_); cases b <;> cases c <;> rfl
  ·skip
   obtain rfl : b = true := hb rfl
   have h30 := ht.2.2.1 rfl
   obtain ⟨Ao, co, rfl⟩ := Kd.R_slice h30
   have e30 : a.eval (.tmp 30) = .slice Ao ([0, 0, 3, 8] : List Int).length co := by rw [ha]; exact qXj a0 [(19, .int .i64 aE), (23, .int .i64 aH), (26, .int .i64 ay), (27, v27), (28, .int .i64 aI)] _ 30 _ (by cases c <;> rfl) (by rw [hsz]; decide)
   have e29 : a.eval (.tmp 29) = .pointer (some ⟨g, 0, none⟩) := by rw [ha]; exact (qXa _ _ _ (by cases c <;> rfl)).trans h29
   refine wpOp_step (i := 15) rfl (fun K hKc => ?_)
   refine qXc Try.func47 (by kernel_rfl) rfl #[.pointer (some ⟨g, 0, none⟩), .slice Ao ([0, 0, 3, 8] : List Int).length co] rfl rfl rfl (by simp only [List.map_toArray, List.map_cons, List.map_nil, e29, e30] <;> rfl) ?_
   refine (spec_l30Rd_one.calls k1 g s0 be _ _ [0, 0, 3, 8] aT aX w0 _ hi hbl (Kd.R_reads' h30).2.2 (Kd.R_reads' h30).2.1 (qVa (IsS95.own_ne hi h30 (by decide))) A16).mono ?_
   rintro e wb ⟨rfl, hi2, hb2, hk2⟩
   obtain ⟨m1, m2, m3, m4⟩ := mv hi hk2 ht
   refine ⟨_, rfl, hKc _ _ ⟨v27, .slice Ao ([0, 0, 3, 8] : List Int).length co, gb, ?_, hi2, hk.trans hk2 (.inl rfl), hb2, m1, fun h => absurd h (by decide), m3, m4⟩⟩
   rw [ha]; refine (qVf _ _ _ _ _ (by cases c <;> rfl)).trans (congrArg _ ?_); cases c <;> rfl
  ·skip
   have e32 : a.eval (.tmp 32) = .pointer (some ⟨g, 0, none⟩) := by rw [ha]; exact (qXa _ _ _ (by cases b <;> cases c <;> rfl)).trans h32
   refine wpOp_step (i := 17) rfl (fun K hKc => ?_)
   refine qXc Try.func87 (by kernel_rfl) rfl #[.pointer (some ⟨g, 0, none⟩), .int .i64 10] rfl rfl rfl (by simp only [List.map_toArray, List.map_cons, List.map_nil, e32] <;> rfl) ?_
   refine (spec_l30Rd_pick.calls k1 g s0 aX 10 aU bo w0 _ hi hbl A17).mono ?_
   rintro e wb ⟨rfl, hi2, hb2, hk2⟩
   obtain ⟨m1, m2, m3, m4⟩ := mv hi hk2 ht
   refine ⟨_, rfl, hKc _ _ ⟨v27, v30, gb, ?_, hi2, hk.trans hk2 (.inl rfl), hb2, m1, fun h => absurd h (by decide), m3, m4⟩⟩
   rw [ha]; refine (qVf _ _ _ _ _ (by cases b <;> cases c <;> rfl)).trans (congrArg _ ?_); cases b <;> cases c <;> rfl
  ·skip
   have e19 : a.eval (.tmp 19) = .int .i64 aE := by rw [ha]; exact qXj a0 [] _ 19 _ (by cases b <;> cases c <;> rfl) (by rw [hsz]; decide)
   have e23 : a.eval (.tmp 23) = .int .i64 aH := by rw [ha]; exact qXj a0 [(19, .int .i64 aE)] _ 23 _ (by cases b <;> cases c <;> rfl) (by rw [hsz]; decide)
   have e28 : a.eval (.tmp 28) = .int .i64 aI := by rw [ha]; exact qXj a0 [(19, .int .i64 aE), (23, .int .i64 aH), (26, .int .i64 ay), (27, v27)] _ 28 _ (by cases b <;> cases c <;> rfl) (by rw [hsz]; decide)
   have e31 : a.eval (.tmp 31) = .int .i64 aT := by rw [ha]; exact qXj a0 [(19, .int .i64 aE), (23, .int .i64 aH), (26, .int .i64 ay), (27, v27), (28, .int .i64 aI)] _ 31 _ (by cases b <;> cases c <;> rfl) (by rw [hsz]; decide)
   have e33 : a.eval (.tmp 33) = .int .i64 aU := by rw [ha]; exact qXj a0 [(19, .int .i64 aE), (23, .int .i64 aH), (26, .int .i64 ay), (27, v27), (28, .int .i64 aI), (31, .int .i64 aT)] _ 33 _ (by cases b <;> cases c <;> rfl) (by rw [hsz]; decide)
   refine wpOp_step (i := 18) (o := { dst := some 34, op := Go.Op.build 58 #[(0, Go.Operand.tmp 19), (1, Go.Operand.tmp 23), (2, Go.Operand.tmp 28), (3, Go.Operand.tmp 31), (4, Go.Operand.tmp 33)], type := 58, pos := "l30_draw.go:60", after := #[{ on := 3, ground := Go.Ground.data }, { on := 7, ground := Go.Ground.data }, { on := 12, ground := Go.Ground.data }, { on := 15, ground := Go.Ground.data }, { on := 17, ground := Go.Ground.data }], guard := none }) rfl (fun K hKc => ?_)
   refine value_ (w1 := wa) (v := .agg #[.int .i64 aE, .int .i64 aH, .int .i64 aI, .int .i64 aT, .int .i64 aU]) rfl rfl ?_ ?_
   ·simp only [Act.eval, Array.getD_eq_getD_getElem?] at e19 e23 e28 e31 e33; clear ha; (go_simp; done)
   ·refine hKc _ _ ⟨v27, v30, gb, ?_, hi, hk, hbl, ht.1, fun h => absurd h (by decide), ht.2.2⟩
    rw [ha]; refine (qVf _ _ _ _ _ (by cases b <;> cases c <;> rfl)).trans (congrArg _ ?_); cases b <;> cases c <;> rfl
  ·exact absurd hs (by simp)
 ·rintro s c a wa ⟨v27, v30, gb, ha, hi, hk, hbl, ht⟩
  refine wpOp_step (i := 14) (o := { dst := some 30, op := Go.Op.buildSlice 33 4 #[(0, Go.Operand.const (Go.Value.int Go.IntKind.i64 0)), (1, Go.Operand.const (Go.Value.int Go.IntKind.i64 0)), (2, Go.Operand.const (Go.Value.int Go.IntKind.i64 3)), (3, Go.Operand.const (Go.Value.int Go.IntKind.i64 8))], type := 33, pos := "l30_draw.go:60", after := #[], guard := none }) rfl (fun K hKc => ?_)
  refine Kd.R_lit_step (Kd.int .i64) _ 3 rfl (N := 30) rfl (xs := ([0, 0, 3, 8] : List Int)) (inner := [.int .i64 0, .int .i64 0, .int .i64 3, .int .i64 8]) (ok := fun _ => True) (okp := fun _ => True) ?hr ?hp (fun _ hk => hk) trivial (Below.refl _ _) (Nat.le_refl _) (by simp) ?_
  case hr => clear ha; (go_simp; done)
  case hp => exact (Reps.one (show Kd.M (Kd.int .i64) _ _ _ 0 [.int .i64 0] from rfl) (Reps.one (show Kd.M (Kd.int .i64) _ _ _ 0 [.int .i64 0] from rfl) (Reps.one (show Kd.M (Kd.int .i64) _ _ _ 3 [.int .i64 3] from rfl) (Reps.one (show Kd.M (Kd.int .i64) _ _ _ 8 [.int .i64 8] from rfl) (Reps.none _ _)))))
  intro v wb ho hb2 _ _
  have hk2 := KeepBut.of_below hb2 g none
  obtain ⟨m1, m2, m3, m4⟩ := mv hi hk2 ht
  refine hKc _ _ ⟨v27, v, gb, ?_, IsS95.below hi hb2, hk.trans hk2 (.inl rfl), qZd hbl hb2, m1, m2, fun _ => Kd.R_lower ho (qQf hk), m4⟩
  rw [ha]; exact qVf _ _ _ _ _ (by cases c <;> rfl)
 ·rintro s b a wa ⟨v27, v30, gb, ha, hi, hk, hbl, ht⟩
  refine wpOp_step (i := 19) (o := { dst := some 5, op := Go.Op.alloc 58, type := 0, pos := "l30_draw.go:60", after := #[], guard := none }) rfl (fun K hKc => ?_)
  refine box_step rfl (N := 5) rfl (cs := #[.int .i64 0, .int .i64 0, .int .i64 0, .int .i64 0, .int .i64 0]) (t := 58) ?hr ?_
  case hr => clear ha; (go_simp; done)
  intro gb2 hg wb hbox hb2
  have hk2 := KeepBut.of_below hb2 g none
  obtain ⟨m1, m2, m3, m4⟩ := mv hi hk2 ht
  refine hKc _ _ ⟨v27, v30, gb2, ?_, IsS95.below hi hb2, hk.trans hk2 (.inl rfl), qZd hbl hb2, ?_, m2, m3, fun _ => ⟨hbox, ?_, ?_⟩⟩
  ·have key : ∀ (A X : List (Tmp × Value)) (v : Value), (putAll a0 (A ++ (X ++ []))).put (some 5) v = putAll a0 (A ++ (X ++ [(5, v)])) := by
    intro A X v
    have h := qVf a0 (A ++ X) [] 5 v rfl
    rw [List.append_nil, List.append_assoc] at h
    rw [List.append_nil]
    exact h
   rw [ha]; exact key _ (if b then [(30, v30)] else []) _
  ·have h1 := hE wa ht.1
   rw [← hg] at h1
   exact hF _ _ _ _ hi hk2 h1
  ·rw [hg]; exact qQf hk
  ·rw [hg]; exact Nat.ne_of_gt (IsS95.lt hi)
 ·rintro a wa ⟨v27, v30, gb, ha, hi, hk, hbl, h1, _, _, h4⟩
  have h4 := h4 rfl
  rw [ha]
  exact hJ v27 v30 gb wa h1 h4.1 h4.2.1 h4.2.2 hi hk hbl
set_option maxHeartbeats 8000000 in
set_option maxRecDepth 100000 in
theorem spec_l30Net.calls (k : Nat) (g : Nat) (au : List Int) (ba : Int) (r1 : Int) (r2 : List (S58)) (r3 : Int) (w0 w : World) (hI : IsS95 w0 w g au ba) (hB : Below w0.heap.size w0 w) (h : spec_l30Net.f k au ba = some (r1, r2, r3)) :
  Calls Try.prog 86 #[.pointer (some ⟨g, 0, none⟩)] w fun e w' => ∃ v1_ : Value, e = .returned (.agg #[.int .i64 r1, v1_]) ∧ Kd.R k58 58 w' w.heap.size (fun _ => True) v1_ r2 ∧ IsS95 w0 w' g au r3 ∧ Below w0.heap.size w0 w' ∧ KeepBut w w' g none := by
 have eR := Try.underlying25
 have eS := Try.underlying58
 have HI0 := ak hI
 have HK := ak (KeepBut.refl w g none)
 have HL := ak hB.size
 clear hI
 have HW0 := ak hB.size
 have HB := ak hB
 clear hB
 have H : ((spec_l30Rd_pick.f k au ba 5).bind fun bb => ((spec_l30Rd_pick.f k au bb.2 14).bind fun bd => (spec_l30Net.l0 k bd.1 au bd.2 (wrap64 (2 + bb.1)) ([] : List (S58))))) = some (r1, r2, r3) := h
 clear h
 replace H := Option.bind_eq_some_iff.mp H
 obtain ⟨⟨am, bJ⟩, A20, H⟩ := H
 have A2 := ak A20
 clear A20
 replace H := Option.bind_eq_some_iff.mp H
 obtain ⟨⟨aI, be⟩, A30, H⟩ := H
 have A3 := ak A30
 clear A30
 have H' := ak H
 clear H
 go_enter Try.func86, Try.ntmps86
 go_wp2_with (first | ((with_reducible refine gate_dst (N := 2) rfl ?_); refine qZh ?hg (N := 2) ?hd (cs := #[.int .i64 0, .slice none 0 0]) (t := 25) ?hr ?_; (case hd => rfl); (case hg => rfl); (case hr => (go_simp; done)); intro ao hg w4 hbox hb; replace HB := ak (qZd (by repeat ((with_reducible exact HB.out))) hb); have al := ak (hbox); have bW := ak ((by rw [hg]; exact (qQf (w := w) (g := g) (row := none) (by repeat ((with_reducible exact HK.out)))) : w.heap.size ≤ ao)); have bX := ak ((Nat.le_trans HW0.out (by rw [hg]; exact (qQf (w := w) (g := g) (row := none) (by repeat ((with_reducible exact HK.out)))) : w.heap.size ≤ ao) : w0.heap.size ≤ ao)); replace HK := ak (KeepBut.trans (by repeat ((with_reducible exact HK.out))) (KeepBut.of_below hb g none) (.inl rfl)); have bi := ak ((by rw [hg]; exact Nat.ne_of_lt (IsS95.lt (show IsS95 w0 _ g au ba from by repeat ((with_reducible exact HI0.out)))) : g ≠ ao)); have aK := ak ((by rw [hg]; exact Nat.ne_of_gt (IsS95.lt (show IsS95 w0 _ g au ba from by repeat ((with_reducible exact HI0.out)))) : ao ≠ g)); replace HI0 := ak (IsS95.below (by repeat ((with_reducible exact HI0.out))) hb); clear hb hbox hg) | ((with_reducible refine gate_callee (f := 87) rfl ?_); refine qQi (some 7) rfl rfl Try.func87 (by kernel_rfl) rfl #[.pointer (some ⟨g, 0, none⟩), .int .i64 5] rfl (by (try simp only [List.map_toArray, List.map_cons, List.map_nil]); rfl) ?_; (with_reducible refine (spec_l30Rd_pick.calls k g au ba 5 am bJ w0 _ ?side1 ?side2 A2.out).mono ?_); (case side1 => repeat ((with_reducible exact HI0.out))); (case side2 => repeat ((with_reducible exact HB.out))); rintro e w5 ⟨rfl, hi, hb, hk⟩; refine ⟨_, rfl, ?_⟩; replace al := ak (KeepBut.blk hk (g' := ao) (o := .cells #[.int .i64 0, .slice none 0 0] 25 (0, 0)) (bk al) aK.out (by simp)); replace HK := ak (KeepBut.trans (by repeat ((with_reducible exact HK.out))) hk (.inl rfl)); replace HB := ak (hb); replace HI0 := ak (hi); (try clear hb); (try clear hb2); (try clear hk); (try clear hi)) | ((with_reducible refine gate_dst (N := 3) rfl ?_); refine qZh ?hg (N := 3) ?hd (cs := #[.int .i64 0, .slice none 0 0]) (t := 25) ?hr ?_; (case hd => rfl); (case hg => rfl); (case hr => (go_simp; done)); intro ah hg w6 hbox hb; replace HB := ak (qZd (by repeat ((with_reducible exact HB.out))) hb); have af := ak (hbox); have bp := ak ((by rw [hg]; exact (qQf (w := w) (g := g) (row := none) (by repeat ((with_reducible exact HK.out)))) : w.heap.size ≤ ah)); have bq := ak ((Nat.le_trans HW0.out (by rw [hg]; exact (qQf (w := w) (g := g) (row := none) (by repeat ((with_reducible exact HK.out)))) : w.heap.size ≤ ah) : w0.heap.size ≤ ah)); replace HK := ak (KeepBut.trans (by repeat ((with_reducible exact HK.out))) (KeepBut.of_below hb g none) (.inl rfl)); have aw := ak ((by rw [hg]; exact Nat.ne_of_lt (qZk (bk al)) : ao ≠ ah)); have aG := ak ((by rw [hg]; exact Nat.ne_of_gt (qZk (bk al)) : ah ≠ ao)); replace al := ak (qZe (bk al) hb); have aB := ak ((by rw [hg]; exact Nat.ne_of_lt (IsS95.lt (show IsS95 w0 _ g au bJ from by repeat ((with_reducible exact HI0.out)))) : g ≠ ah)); have aC := ak ((by rw [hg]; exact Nat.ne_of_gt (IsS95.lt (show IsS95 w0 _ g au bJ from by repeat ((with_reducible exact HI0.out)))) : ah ≠ g)); replace HI0 := ak (IsS95.below (by repeat ((with_reducible exact HI0.out))) hb); clear hb hbox hg; have eT := aG.out; have eU := aw.out; have eV := aC.out; have eW := aB.out; have bS := bc w6 af 0 (.int .i64 0) rfl; have bT := bc w6 af 1 (.slice none 0 0) rfl; have bU := fz af 0; have bV := fz af 1) | ((with_reducible refine gate_callee (f := 87) rfl ?_); refine qQi (some 11) rfl rfl Try.func87 (by kernel_rfl) rfl #[.pointer (some ⟨g, 0, none⟩), .int .i64 14] rfl (by (try simp only [List.map_toArray, List.map_cons, List.map_nil]); rfl) ?_; (with_reducible refine (spec_l30Rd_pick.calls k g au bJ 14 aI be w0 _ ?side1 ?side2 A3.out).mono ?_); (case side1 => repeat ((with_reducible first | exact HI0.out | refine IsS95.far ?_ aB.out _))); (case side2 => repeat ((with_reducible first | exact HB.out | refine below_set ?_ bq.out))); rintro e w10 ⟨rfl, hi, hb, hk⟩; refine ⟨_, rfl, ?_⟩; replace al := ak (KeepBut.blk hk (g' := ao) (o := .cells #[.int .i64 0, .slice none 0 0] 25 (0, 0)) (by refine blk_far ?_ aw.out _; refine blk_far ?_ aw.out _; exact al.out) aK.out (by simp)); replace af := ak (KeepBut.blk hk (g' := ah) (o := .cells #[.int .i64 (wrap64 (2 + am)), .slice none 0 0] 25 (0, 0)) (by refine qZg (cs := #[.int .i64 (wrap64 (2 + am)), .slice none 0 0]) ?_ 1 _ rfl; refine qZg (cs := #[.int .i64 0, .slice none 0 0]) ?_ 0 _ rfl; exact af.out) aC.out (by simp)); replace HK := ak (KeepBut.trans (by repeat ((with_reducible first | exact HK.out | refine keep_far ?_ bp.out _))) hk (.inl rfl)); replace HB := ak (hb); replace HI0 := ak (hi); (try clear hb); (try clear hb2); (try clear hk); (try clear hi)))
 go_loopg [4] k (fun kq v4 w' => ∃ (aN : Int) (aY : Int) (ad : List (S58)) (u125001 : Value), v4 = .int .i64 aN ∧ Aside0 (spec_l30Net.l0 kq aN au aY (wrap64 (2 + am)) ad = some (r1, r2, r3)) ∧ Aside0 (kq ≤ k) ∧ Aside0 (Kd.R k58 58 w' w.heap.size (fun _ => True) u125001 ad) ∧ Aside0 (w'.heap[ao]? = some (.cells #[.int .i64 0, (.slice none 0 0)] 25 (0, 0))) ∧ Aside0 (w'.heap[ah]? = some (.cells #[.int .i64 (wrap64 (2 + am)), u125001] 25 (0, 0))) ∧ Aside0 (IsS95 w0 w' g au aY) ∧ Aside0 (KeepBut w w' g none) ∧ Aside0 (Below w0.heap.size w0 w'))
 case atStart => exact ⟨(aI), (be), (([] : List (S58))), (.slice none 0 0), (by rfl), H', ⟨Nat.le_refl _⟩, ⟨by exact Kd.R_nil _ _ _ _ _⟩, ⟨bk al⟩, ⟨bk af⟩, ⟨by repeat ((with_reducible exact HI0.out))⟩, ⟨by repeat ((with_reducible exact HK.out))⟩, ⟨by repeat ((with_reducible exact HB.out))⟩⟩
 clear H'
 try clear p2
 try clear p6
 try clear c7
 try clear c8
 try clear bS
 try clear bT
 try clear bU
 try clear bV
 obtain ⟨aN, aY, ad, u125001, rfl, HA, HK1, ac, al, af, HI0, HK, HB⟩ := hrel
 cases gk with
 | zero => exact absurd HA.out (by simp [spec_l30Net.l0])
 | succ k1 =>
  have H := HA.out
  clear HA
  simp only [spec_l30Net.l0] at H
  by_cases c11 : aN > 0
  rotate_left
  ·rw [if_neg c11] at H
   have c11b0 : decide (0 < aN) = false := decide_eq_false c11
   clear c11
   simp only [Option.some.injEq, Prod.mk.injEq] at H
   obtain ⟨rfl, rfl, rfl⟩ := H
   have eh := aG.out
   have ei := aw.out
   have ej := aC.out
   have ek := aB.out
   have cp := bc wr af 0 (.int .i64 (wrap64 (2 + am))) rfl
   have cq := bc wr af 1 (u125001) rfl
   have cr := fz af 0
   have ct := fz af 1
   have el := aK.out
   have em := bi.out
   have cu := bc wr al 0 (.int .i64 0) rfl
   have cv := bc wr al 1 (.slice none 0 0) rfl
   have cw := fz al 0
   have cx := fz al 1
   obtain ⟨bY, bZ, dZ⟩ := Kd.R_slice ac.out
   subst dZ
   go_wp2
   refine bodyPost_ret (results_cell_row rfl _ _ ao 25 #[.int .i64 (wrap64 (2 + am)), .slice bY ad.length bZ] (0, 0) _ rfl (by refine qZg (cs := #[.int .i64 (wrap64 (2 + am)), .slice none 0 0]) ?_ 1 _ rfl; refine qZg (cs := #[.int .i64 0, .slice none 0 0]) ?_ 0 _ rfl; exact al.out) Try.underlying25 rfl (by kernel_rfl)) rfl ?_
   exact ⟨_, by rfl, by exact Kd.R_mono (Kd.R_far (p := ⟨ao, 1, none⟩) (Kd.R_far (p := ⟨ao, 0, none⟩) (Kd.R_types ac.out al.out (by decide)) (fun _ hk => hk.2) (.int .i64 (wrap64 (2 + am)))) (fun _ hk => hk.2) (.slice bY ad.length bZ)) (fun _ hk => trivial), by repeat ((with_reducible first | exact HI0.out | refine IsS95.far ?_ bi.out _)), by repeat ((with_reducible first | exact HB.out | refine below_set ?_ bX.out)), by repeat ((with_reducible first | exact HK.out | refine keep_far ?_ bW.out _))⟩
  rw [if_pos c11] at H
  have c11b0 : decide (0 < aN) = true := decide_eq_true c11
  clear c11
  replace H := Option.bind_eq_some_iff.mp H
  obtain ⟨⟨ai, eX⟩, ca, H⟩ := H
  have A12 := ak ca
  clear ca
  replace H := Option.bind_eq_some_iff.mp H
  obtain ⟨⟨aj, aT⟩, cb, H⟩ := H
  have A13 := ak cb
  clear cb
  replace H := Option.bind_eq_some_iff.mp H
  obtain ⟨⟨aX, aU⟩, cc, H⟩ := H
  have A14 := ak cc
  clear cc
  obtain ⟨ea, br⟩ : ∃ y_ : List Int, y_ = (([0, 1, 2, 5, 9, aX] : List Int)) := ⟨_, rfl⟩
  replace H : ((spec_l30Rd_one.f k1 au aU ea).bind fun aV => ((spec_l30Rd_one.f k1 au aV.2 (([0, 0, 3, 8] : List Int))).bind fun aD => ((spec_l30Rd_pick.f k1 au aD.2 10).bind fun az => (if ai = aj then (if (wrap64 (2 + am)) = 0 then (none) else (if ad.length < 3518437208883 then (spec_l30Net.l0 k1 (wrap64 (aN - 1)) au az.2 (wrap64 (2 + am)) (ad ++ [(⟨ai, Int.tmod (wrap64 (aj + 1)) (wrap64 (2 + am)), aV.1, aD.1, az.1⟩ : S58)])) else (none))) else (if ad.length < 3518437208883 then (spec_l30Net.l0 k1 (wrap64 (aN - 1)) au az.2 (wrap64 (2 + am)) (ad ++ [(⟨ai, aj, aV.1, aD.1, az.1⟩ : S58)])) else (none)))))) = some (r1, r2, r3) := by (rw [br]; with_reducible exact H)
  have bO := ak br
  clear br
  replace H := Option.bind_eq_some_iff.mp H
  obtain ⟨⟨ar, eb⟩, cd, H⟩ := H
  have A15 := ak cd
  clear cd
  obtain ⟨ec, bs⟩ : ∃ y_ : List Int, y_ = (([0, 0, 3, 8] : List Int)) := ⟨_, rfl⟩
  replace H : ((spec_l30Rd_one.f k1 au eb ec).bind fun aD => ((spec_l30Rd_pick.f k1 au aD.2 10).bind fun az => (if ai = aj then (if (wrap64 (2 + am)) = 0 then (none) else (if ad.length < 3518437208883 then (spec_l30Net.l0 k1 (wrap64 (aN - 1)) au az.2 (wrap64 (2 + am)) (ad ++ [(⟨ai, Int.tmod (wrap64 (aj + 1)) (wrap64 (2 + am)), ar, aD.1, az.1⟩ : S58)])) else (none))) else (if ad.length < 3518437208883 then (spec_l30Net.l0 k1 (wrap64 (aN - 1)) au az.2 (wrap64 (2 + am)) (ad ++ [(⟨ai, aj, ar, aD.1, az.1⟩ : S58)])) else (none))))) = some (r1, r2, r3) := by (rw [bs]; with_reducible exact H)
  have bP := ak bs
  clear bs
  replace H := Option.bind_eq_some_iff.mp H
  obtain ⟨⟨av, eY⟩, ce, H⟩ := H
  have A16 := ak ce
  clear ce
  replace H := Option.bind_eq_some_iff.mp H
  obtain ⟨⟨ax, aW⟩, cf, H⟩ := H
  have A17 := ak cf
  clear cf
  by_cases c18 : ai = aj
  rotate_left
  ·rw [if_neg c18] at H
   have c18b0 : (ai == aj) = false := beq_eq_false_iff_ne.mpr c18
   have c18b1 : (ai != aj) = true := bne_iff_ne.mpr c18
   by_cases c51 : ad.length < 3518437208883
   rotate_left
   ·rw [if_neg c51] at H
    exact absurd H (by simp)
   rw [if_pos c51] at H
   have cg := ak c51
   clear c51
   obtain ⟨bK, bt⟩ : ∃ y_ : List (S58), y_ = (ad ++ [(⟨ai, aj, ar, av, ax⟩ : S58)]) := ⟨_, rfl⟩
   replace H : (spec_l30Net.l0 k1 (wrap64 (aN - 1)) au aW (wrap64 (2 + am)) bK) = some (r1, r2, r3) := by (rw [bt]; with_reducible exact H)
   have ch := ak bt
   clear bt
   have H' := ak H
   clear H
   try go_wp2
   replace ac := ak (Kd.R_drew ac.out)
   replace al := ak (qZp al.out)
   replace af := ak (qZp af.out)
   replace HI0 := ak (IsS95.drew HI0.out)
   replace HK := ak (qKo HK.out)
   replace HB := ak (qQg HB.out)
   refine qJj (n := 21) (S := fun w' => w'.cell? ⟨ah, 0, none⟩ = some (.int .i64 (wrap64 (2 + am))) ∧ w'.cell? ⟨ah, 1, none⟩ = some (u125001)) (ds := []) (ms 21 0) (by kernel_rfl) rfl (by kernel_rfl) ⟨(qZb af.out 0).trans rfl, (qZb af.out 1).trans rfl⟩ (fun hHeld => ?_); refine qQo spec_l30Net.tab5 spec_l30Net.bits5 (fun HT_ HW_ => ?_)
   generalize wr.drew = w52 at ac al af HI0 HK HB hHeld ⊢
   refine pu 0 16 ?_ (ms 21 1) rfl rfl HT_ (by kernel_rfl) (fun _ _ _ h => h) (by rfl) ?_ ?_ ?_ ?_
   rotate_left
   ·intro w'
    go_simp
    with_reducible rfl
   rotate_left
   ·simp only [SX]
    rfl
   refine pu 1 17 ?_ (ms 21 3) rfl rfl HT_ (by kernel_rfl) (fun _ _ _ h => h) (by rfl) ?_ ?_ ?_ ?_
   rotate_left
   ·intro w'
    go_simp
    with_reducible rfl
   rotate_left
   ·simp only [SX]
    rfl
   refine pu 4 20 ?_ (ms 21 19) rfl rfl HT_ (by kernel_rfl) (fun _ _ _ h => h) (by rfl) ?_ ?_ ?_ ?_
   rotate_left
   ·intro w'
    go_simp
    with_reducible rfl
   rotate_left
   ·simp only [SX]
    rfl
   refine pu 5 21 ?_ (ms 21 51) rfl rfl HT_ (by kernel_rfl) (fun _ _ _ h => h) (by rfl) ?_ ?_ ?_ ?_
   rotate_left
   ·intro w'
    go_simp
    with_reducible rfl
   rotate_left
   ·simp only [SX]
    rfl
   refine pu 8 24 ?_ (ms 21 307) rfl rfl HT_ (by kernel_rfl) (fun _ _ _ h => h) (by rfl) ?_ ?_ ?_ ?_
   rotate_left
   ·intro w'
    go_simp
    with_reducible rfl
   rotate_left
   ·simp only [SX]
    rfl
   refine pu 9 25 ?_ (ms 21 819) rfl rfl HT_ (by kernel_rfl) (fun _ _ _ h => h) (by rfl) ?_ ?_ ?_ ?_
   rotate_left
   ·intro w'
    go_simp
    with_reducible rfl
   rotate_left
   ·simp only [SX]
    rfl
   refine pu 13 29 ?_ (ms 21 9011) rfl rfl HT_ (by kernel_rfl) (fun _ _ _ h => h) (by rfl) ?_ ?_ ?_ ?_
   rotate_left
   ·intro w'
    go_simp
    with_reducible rfl
   rotate_left
   ·simp only [SX]
    rfl
   refine pu 16 32 ?_ (ms 21 74547) rfl rfl HT_ (by kernel_rfl) (fun _ _ _ h => h) (by rfl) ?_ ?_ ?_ ?_
   rotate_left
   ·intro w'
    go_simp
    with_reducible rfl
   rotate_left
   ·simp only [SX]
    rfl
   refine tk 2 18 ?_ (ms 21 74551) rfl rfl HT_ HW_ (by kernel_rfl) (fun _ _ _ h => h) (by rfl) ?_ hHeld ?_ ?_ ?_
   rotate_left
   ·rintro w' ⟨s0, s1⟩
    go_simp
    with_reducible rfl
   rotate_left
   ·simp only [SX]
    rfl
   refine tk 6 22 ?_ (ms 21 74615) rfl rfl HT_ HW_ (by kernel_rfl) (fun _ _ _ h => h) (by rfl) ?_ hHeld ?_ ?_ ?_
   rotate_left
   ·rintro w' ⟨s0, s1⟩
    go_simp
    with_reducible rfl
   rotate_left
   ·simp only [SX]
    rfl
   refine join_ (σ := Value × Value × Nat) 1 (ms 21 1048575) (fun s_ => [(19, .int .i64 ai), (23, .int .i64 aj), (26, .int .i64 aX), (27, s_.1), (28, .int .i64 ar), (31, .int .i64 av), (33, .int .i64 ax), (34, .agg #[.int .i64 ai, .int .i64 aj, .int .i64 ar, .int .i64 av, .int .i64 ax]), (30, s_.2.1), (5, .pointer (some ⟨s_.2.2, 0, none⟩))]) (fun s_ w' => (w'.cell? ⟨ah, 0, none⟩ = some (.int .i64 (wrap64 (2 + am))) ∧ w'.cell? ⟨ah, 1, none⟩ = some (u125001)) ∧ (Kd.R k58 58 w' w.heap.size (fun k_ => k_ ≠ s_.2.2) u125001 ad) ∧ (w'.heap[ao]? = some (.cells #[.int .i64 0, .slice none 0 0] 25 (0, 0))) ∧ (w'.heap[ah]? = some (.cells #[.int .i64 (wrap64 (2 + am)), u125001] 25 (0, 0))) ∧ (w'.heap[s_.2.2]? = some (.cells #[.int .i64 0, .int .i64 0, .int .i64 0, .int .i64 0, .int .i64 0] 58 (0, 0))) ∧ (w.heap.size ≤ s_.2.2) ∧ (w0.heap.size ≤ s_.2.2) ∧ (g ≠ s_.2.2) ∧ (s_.2.2 ≠ g) ∧ (ao ≠ s_.2.2) ∧ (s_.2.2 ≠ ao) ∧ (ah ≠ s_.2.2) ∧ (s_.2.2 ≠ ah) ∧ (IsS95 w0 w' g au aW) ∧ (KeepBut w w' g none) ∧ (Below w0.heap.size w0 w')) ?_ ?_
   rotate_left
   ·intro hJ
    have a15 := A15.out
    have a16 := A16.out
    rw [bO.out] at a15
    rw [bP.out] at a16
    refine spec_l30Net.reg5 (FS := (fun o w' => (w'.cell? ⟨ah, 0, none⟩ = some (.int .i64 (wrap64 (2 + am))) ∧ w'.cell? ⟨ah, 1, none⟩ = some (u125001)) ∧ (Kd.R k58 58 w' w.heap.size (fun k_ => some k_ ≠ o) u125001 ad) ∧ (w'.heap[ao]? = some (.cells #[.int .i64 0, .slice none 0 0] 25 (0, 0))) ∧ (w'.heap[ah]? = some (.cells #[.int .i64 (wrap64 (2 + am)), u125001] 25 (0, 0))) ∧ (some ao ≠ o ∧ some ah ≠ o))) _ _ rfl rfl rfl rfl rfl rfl rfl rfl rfl (fun o w' h => h.1) ?_ ?_ HI0.out HK.out HB.out ⟨hHeld, Kd.R_mono ac.out (fun _ _ => by simp), al.out, af.out, by simp⟩ A12.out A13.out A14.out a15 a16 A17.out ?_
    ·rintro o wa wb p hi hk ⟨_, h1, h2, h3, h4⟩
     have b2 := KeepBut.blk hk h2 aK.out (by simp)
     have b3 := KeepBut.blk hk h3 aC.out (by simp)
     exact ⟨⟨(qZb b3 0).trans rfl, (qZb b3 1).trans rfl⟩, Kd.R_mono (Kd.R_keep (IsS95.apart hi h1 (by decide)) hk (fun _ h => h.2)) (fun _ h => h.1), b2, b3, h4⟩
    ·rintro wa ⟨h0, h1, h2, h3, _⟩
     exact ⟨h0, Kd.R_mono (Kd.R_elderB h1 wa.heap.size (Nat.le_refl _)) (fun k hk => by have := hk.2; simpa using this), h2, h3, by simpa using Nat.ne_of_lt (qZk h2), by simpa using Nat.ne_of_lt (qZk h3)⟩
    rintro v27 v30 gb w' ⟨h0, h1, h2, h3, h4, h5⟩ hbox hgw hgg hi hk hb
    have e4 : ao ≠ gb := by simpa using h4
    have e5 : ah ≠ gb := by simpa using h5
    exact hJ (v27, v30, gb) w' ⟨h0, Kd.R_mono h1 (fun k hk => by simpa using hk), h2, h3, hbox, hgw, Nat.le_trans HW0.out hgw, hgg.symm, hgg, e4, e4.symm, e5, e5.symm, hi, hk, hb⟩
   rintro ⟨ed, ee, ab⟩ w66 ⟨hS_, h2_, h3_, h4_, h5_, h6_, h7_, h8_, h9_, bu, bv, bw, bx, bz, bA, bB⟩
   replace ac : Aside0 (Kd.R k58 58 w66 w.heap.size (fun k_ => k_ ≠ ab) u125001 ad) := ⟨h2_⟩
   replace al : Aside0 (w66.heap[ao]? = some (.cells #[.int .i64 0, .slice none 0 0] 25 (0, 0))) := ⟨h3_⟩
   replace af : Aside0 (w66.heap[ah]? = some (.cells #[.int .i64 (wrap64 (2 + am)), u125001] 25 (0, 0))) := ⟨h4_⟩
   have ag : Aside0 (w66.heap[ab]? = some (.cells #[.int .i64 0, .int .i64 0, .int .i64 0, .int .i64 0, .int .i64 0] 58 (0, 0))) := ⟨h5_⟩
   have bf : Aside0 (w.heap.size ≤ ab) := ⟨h6_⟩
   have bC : Aside0 (w0.heap.size ≤ ab) := ⟨h7_⟩
   have aQ : Aside0 (g ≠ ab) := ⟨h8_⟩
   have aZ : Aside0 (ab ≠ g) := ⟨h9_⟩
   have ae : Aside0 (ao ≠ ab) := ⟨bu⟩
   have ap : Aside0 (ab ≠ ao) := ⟨bv⟩
   have aa : Aside0 (ah ≠ ab) := ⟨bw⟩
   have aq : Aside0 (ab ≠ ah) := ⟨bx⟩
   replace HI0 : Aside0 (IsS95 w0 w66 g au aW) := ⟨bz⟩
   replace HK : Aside0 (KeepBut w w66 g none) := ⟨bA⟩
   replace HB : Aside0 (Below w0.heap.size w0 w66) := ⟨bB⟩
   clear h2_ h3_ h4_ h5_ h6_ h7_ h8_ h9_ bu bv bw bx bz bA bB
   have hHeld : w66.cell? ⟨ah, 0, none⟩ = some (.int .i64 (wrap64 (2 + am))) ∧ w66.cell? ⟨ah, 1, none⟩ = some (u125001) := hS_
   refine qJd (a' := ?_) ?_ ?_
   rotate_left
   ·simp only [putAll, Act.put, List.setIfInBounds_toArray, List.set_cons_zero, List.set_cons_succ]
    rfl
   refine one_ (i := 20) (N := none) (ms 21 2097151) rfl rfl (qJa HT_.out (by kernel_rfl)) (by decide) (fun K hK => ?_)
   have eZ : w66.cell? ⟨ab, 0, none⟩ = some (.int .i64 0) := (qZb ag.out 0).trans rfl
   have en := qQn ag.out 0
   have cy := ae.out
   have cz := aa.out
   have cA := ap.out
   have cB := aq.out
   have fa : w66.cell? ⟨ab, 1, none⟩ = some (.int .i64 0) := (qZb ag.out 1).trans rfl
   have eo := qQn ag.out 1
   have cC := ae.out
   have cD := aa.out
   have cE := ap.out
   have cF := aq.out
   have fb : w66.cell? ⟨ab, 2, none⟩ = some (.int .i64 0) := (qZb ag.out 2).trans rfl
   have ep := qQn ag.out 2
   have cG := ae.out
   have cH := aa.out
   have cI := ap.out
   have cJ := aq.out
   have fc : w66.cell? ⟨ab, 3, none⟩ = some (.int .i64 0) := (qZb ag.out 3).trans rfl
   have eq := qQn ag.out 3
   have cK := ae.out
   have cL := aa.out
   have cN := ap.out
   have cO := aq.out
   have fd : w66.cell? ⟨ab, 4, none⟩ = some (.int .i64 0) := (qZb ag.out 4).trans rfl
   have er := qQn ag.out 4
   have cP := ae.out
   have cQ := aa.out
   have cR := ap.out
   have cS := aq.out
   refine skip_ (w1 := ?_) (by rfl) rfl ?_ ?_
   rotate_left
   ·go_simp
    rfl
   refine hK.out _ _ ⟨((qQa (p := ⟨ab, _, none⟩) aa.out _).trans (((qQa (p := ⟨ab, _, none⟩) aa.out _).trans (((qQa (p := ⟨ab, _, none⟩) aa.out _).trans (((qQa (p := ⟨ab, _, none⟩) aa.out _).trans (((qQa (p := ⟨ab, _, none⟩) aa.out _).trans (hHeld.1)))))))))), ((qQa (p := ⟨ab, _, none⟩) aa.out _).trans (((qQa (p := ⟨ab, _, none⟩) aa.out _).trans (((qQa (p := ⟨ab, _, none⟩) aa.out _).trans (((qQa (p := ⟨ab, _, none⟩) aa.out _).trans (((qQa (p := ⟨ab, _, none⟩) aa.out _).trans (hHeld.2))))))))))⟩ (fun hHeld => ?_)
   clear hK K
   refine qXe (qJg HT_.out (by kernel_rfl)) ?_
   have es := ap.out
   have et := ae.out
   have eu := aq.out
   have ev := aa.out
   have ew := aZ.out
   have ex := aQ.out
   have cT := bc w66 ag 0 (.int .i64 0) rfl
   have cU := bc w66 ag 1 (.int .i64 0) rfl
   have cV := bc w66 ag 2 (.int .i64 0) rfl
   have cW := bc w66 ag 3 (.int .i64 0) rfl
   have cX := bc w66 ag 4 (.int .i64 0) rfl
   have cY := fz ag 0
   have cZ := fz ag 1
   have da := fz ag 2
   have db := fz ag 3
   have dc := fz ag 4
   have ey := aG.out
   have ez := aw.out
   have eA := aC.out
   have eB := aB.out
   have dd := bc w66 af 0 (.int .i64 (wrap64 (2 + am))) rfl
   have de := bc w66 af 1 (u125001) rfl
   have df := fz af 0
   have dg := fz af 1
   try go_wp2_with (first | ((with_reducible refine gate_dst (N := 49) rfl ?_); (fail_if_success clear hW_); refine spec_l30Net.fix_world (g := ab) (o := .cells #[.int .i64 ai, .int .i64 aj, .int .i64 ar, .int .i64 av, .int .i64 ax] 58 (0, 0)) (by refine qZg (cs := #[.int .i64 ai, .int .i64 aj, .int .i64 ar, .int .i64 av, .int .i64 0]) ?_ 4 _ rfl; refine qZg (cs := #[.int .i64 ai, .int .i64 aj, .int .i64 ar, .int .i64 0, .int .i64 0]) ?_ 3 _ rfl; refine qZg (cs := #[.int .i64 ai, .int .i64 aj, .int .i64 0, .int .i64 0, .int .i64 0]) ?_ 2 _ rfl; refine qZg (cs := #[.int .i64 ai, .int .i64 0, .int .i64 0, .int .i64 0, .int .i64 0]) ?_ 1 _ rfl; refine qZg (cs := #[.int .i64 0, .int .i64 0, .int .i64 0, .int .i64 0, .int .i64 0]) ?_ 0 _ rfl; exact ag.out) ?_; intro W_ hW_ hBW_; have bD : W_.cell? ⟨ab, 0, none⟩ = some (.int .i64 ai) := (qZb hBW_ 0).trans rfl; have bE : W_.cell? ⟨ab, 1, none⟩ = some (.int .i64 aj) := (qZb hBW_ 1).trans rfl; have bF : W_.cell? ⟨ab, 2, none⟩ = some (.int .i64 ar) := (qZb hBW_ 2).trans rfl; have bG : W_.cell? ⟨ab, 3, none⟩ = some (.int .i64 av) := (qZb hBW_ 3).trans rfl; have bH : W_.cell? ⟨ab, 4, none⟩ = some (.int .i64 ax) := (qZb hBW_ 4).trans rfl) | ((with_reducible refine gate_dst (N := 50) rfl ?_); clear hBW_ bD bE bF bG bH; subst hW_) | ((with_reducible refine gate_builtin (b := .append) (xs := #[.tmp 48, .tmp 50]) rfl ?_); at_builtin; refine Kd.R_append k58 w.heap.size rfl (.tmp 48) (.tmp 50) 23 58 (.agg #[(.int .i64 0), (.int .i64 0), (.int .i64 0), (.int .i64 0), (.int .i64 0)]) 40 rfl Try.underlying23 info58 rfl (by decide) (by omega) u125001 ad (⟨ai, aj, ar, av, ax⟩ : S58) [.int .i64 ai, .int .i64 aj, .int .i64 ar, .int .i64 av, .int .i64 ax] (fun k_ => k_ ≠ ab) (fun _ => False) rfl (by (go_simp; done)) ?aP (fun _ hk => hk.elim) ?aF ?aO (Below.refl _ _) ?aS ?aL ?_; (case aP => exact k58_mkM _ _ _ (⟨ai, aj, ar, av, ax⟩ : S58)); (case aF => exact (fun k_ hk => Kd.freshB (g := ab) (o := .cells #[.int .i64 ai, .int .i64 aj, .int .i64 ar, .int .i64 av, .int .i64 ax] 58 (0, 0)) (by refine qZg (cs := #[.int .i64 ai, .int .i64 aj, .int .i64 ar, .int .i64 av, .int .i64 0]) ?_ 4 _ rfl; refine qZg (cs := #[.int .i64 ai, .int .i64 aj, .int .i64 ar, .int .i64 0, .int .i64 0]) ?_ 3 _ rfl; refine qZg (cs := #[.int .i64 ai, .int .i64 aj, .int .i64 0, .int .i64 0, .int .i64 0]) ?_ 2 _ rfl; refine qZg (cs := #[.int .i64 ai, .int .i64 0, .int .i64 0, .int .i64 0, .int .i64 0]) ?_ 1 _ rfl; refine qZg (cs := #[.int .i64 0, .int .i64 0, .int .i64 0, .int .i64 0, .int .i64 0]) ?_ 0 _ rfl; exact ag.out) k_ hk)); (case aO => exact (by exact Kd.R_mono (Kd.R_far (p := ⟨ab, 4, none⟩) (Kd.R_far (p := ⟨ab, 3, none⟩) (Kd.R_far (p := ⟨ab, 2, none⟩) (Kd.R_far (p := ⟨ab, 1, none⟩) (Kd.R_far (p := ⟨ab, 0, none⟩) (Kd.R_mono ac.out (fun k_ hk => (⟨hk, hk⟩ : _ ∧ k_ ≠ ab))) (fun _ hk => hk.2) (.int .i64 ai)) (fun _ hk => hk.2) (.int .i64 aj)) (fun _ hk => hk.2) (.int .i64 ar)) (fun _ hk => hk.2) (.int .i64 av)) (fun _ hk => hk.2) (.int .i64 ax)) (fun _ hk => hk.1))); (case aS => exact (qQf (w := w) (g := g) (row := none) (by repeat ((with_reducible first | exact HK.out | refine keep_far ?_ bf.out _))))); (case aL => have := cg.out; omega); intro fe w79 ho hb hg hat; rw [← ch.out] at ho; have n0_ := ak (qZj (g := ao) (o := .cells #[.int .i64 0, .slice none 0 0] 25 (0, 0)) (by refine blk_far ?_ ae.out _; refine blk_far ?_ ae.out _; refine blk_far ?_ ae.out _; refine blk_far ?_ ae.out _; refine blk_far ?_ ae.out _; exact al.out) hg (Kd.R_ne ac.out al.out (by decide))); have n1_ := ak (qZj (g := ah) (o := .cells #[.int .i64 (wrap64 (2 + am)), u125001] 25 (0, 0)) (by refine blk_far ?_ aa.out _; refine blk_far ?_ aa.out _; refine blk_far ?_ aa.out _; refine blk_far ?_ aa.out _; refine blk_far ?_ aa.out _; exact af.out) hg (Kd.R_ne ac.out af.out (by decide))); have n2_ := ak (IsS95.grown (w0 := w0) (f0 := au) (f1 := aW) (by repeat ((with_reducible first | exact HI0.out | refine IsS95.far ?_ aQ.out _))) hg (IsS95.own_ne HI0.out ac.out (by decide))); have n5_ := ak (qZj (g := ab) (o := .cells #[.int .i64 ai, .int .i64 aj, .int .i64 ar, .int .i64 av, .int .i64 ax] 58 (0, 0)) (by refine qZg (cs := #[.int .i64 ai, .int .i64 aj, .int .i64 ar, .int .i64 av, .int .i64 0]) ?_ 4 _ rfl; refine qZg (cs := #[.int .i64 ai, .int .i64 aj, .int .i64 ar, .int .i64 0, .int .i64 0]) ?_ 3 _ rfl; refine qZg (cs := #[.int .i64 ai, .int .i64 aj, .int .i64 0, .int .i64 0, .int .i64 0]) ?_ 2 _ rfl; refine qZg (cs := #[.int .i64 ai, .int .i64 0, .int .i64 0, .int .i64 0, .int .i64 0]) ?_ 1 _ rfl; refine qZg (cs := #[.int .i64 0, .int .i64 0, .int .i64 0, .int .i64 0, .int .i64 0]) ?_ 0 _ rfl; exact ag.out) hg (Kd.R_away ac.out (fun _ hk => hk))); have n6_ := ak (below_weaken (by repeat ((with_reducible first | exact HB.out | refine below_set ?_ bC.out))) HL.out hb); have n7_ := ak (KeepBut.trans (by repeat ((with_reducible first | exact HK.out | refine keep_far ?_ bf.out _))) (KeepBut.of_grown hg g) (Kd.R_base2 ac.out)); have n8_ := ak (ho); clear al; clear af; clear HI0; clear ag; clear HB; clear HK; clear ac; have al := n0_; have af := n1_; have HI0 := n2_; have ag := n5_; have HB := n6_; have HK := n7_; have bQ := n8_; clear n0_ n1_ n2_ n5_ n6_ n7_ n8_; clear ho hb hg hat; obtain ⟨ci, cj, ef⟩ := Kd.R_slice bQ.out; subst ef; have dh := bc w79 af 0 (.int .i64 (wrap64 (2 + am))) rfl; have di := bc w79 af 1 (u125001) rfl; have dj := fz af 0; have dk := fz af 1))
   go_roundg k1
   case measure => have := HK1.out; omega
   case rel => exact ⟨(wrap64 (aN - 1)), (aW), (bK), (.slice ci bK.length cj), (by rfl), H', ⟨by have := HK1.out; omega⟩, ⟨by exact Kd.R_mono (Kd.R_far (p := ⟨ah, 1, none⟩) (Kd.R_types bQ.out af.out (by decide)) (fun _ hk => hk.2) (.slice ci bK.length cj)) (fun _ hk => trivial)⟩, ⟨by refine blk_far ?_ aw.out _; exact al.out⟩, ⟨by refine qZg (cs := #[.int .i64 (wrap64 (2 + am)), u125001]) ?_ 1 _ rfl; exact af.out⟩, ⟨by repeat ((with_reducible first | exact HI0.out | refine IsS95.far ?_ aB.out _))⟩, ⟨by repeat ((with_reducible first | exact HK.out | refine keep_far ?_ bp.out _))⟩, ⟨by repeat ((with_reducible first | exact HB.out | refine below_set ?_ bq.out))⟩⟩
  rw [if_pos c18] at H
  have c18b0 : (ai == aj) = true := beq_iff_eq.mpr c18
  have c18b1 : (ai != aj) = false := bne_eq_false_iff_eq.mpr c18
  clear c18
  by_cases c19 : (wrap64 (2 + am)) = 0
  ·rw [if_pos c19] at H
   exact absurd H (by simp)
  rw [if_neg c19] at H
  have c19b0 : ((wrap64 (2 + am)) == 0) = false := beq_eq_false_iff_ne.mpr c19
  have c19b1 : ((wrap64 (2 + am)) != 0) = true := bne_iff_ne.mpr c19
  by_cases c20 : ad.length < 3518437208883
  rotate_left
  ·rw [if_neg c20] at H
   exact absurd H (by simp)
  rw [if_pos c20] at H
  have ck := ak c20
  clear c20
  obtain ⟨bL, bI⟩ : ∃ y_ : List (S58), y_ = (ad ++ [(⟨ai, Int.tmod (wrap64 (aj + 1)) (wrap64 (2 + am)), ar, av, ax⟩ : S58)]) := ⟨_, rfl⟩
  replace H : (spec_l30Net.l0 k1 (wrap64 (aN - 1)) au aW (wrap64 (2 + am)) bL) = some (r1, r2, r3) := by (rw [bI]; with_reducible exact H)
  have cl := ak bI
  clear bI
  have H' := ak H
  clear H
  try go_wp2
  replace ac := ak (Kd.R_drew ac.out)
  replace al := ak (qZp al.out)
  replace af := ak (qZp af.out)
  replace HI0 := ak (IsS95.drew HI0.out)
  replace HK := ak (qKo HK.out)
  replace HB := ak (qQg HB.out)
  refine qJj (n := 21) (S := fun w' => w'.cell? ⟨ah, 0, none⟩ = some (.int .i64 (wrap64 (2 + am))) ∧ w'.cell? ⟨ah, 1, none⟩ = some (u125001)) (ds := []) (ms 21 0) (by kernel_rfl) rfl (by kernel_rfl) ⟨(qZb af.out 0).trans rfl, (qZb af.out 1).trans rfl⟩ (fun hHeld => ?_); refine qQo spec_l30Net.tab5 spec_l30Net.bits5 (fun HT_ HW_ => ?_)
  generalize wr.drew = w21 at ac al af HI0 HK HB hHeld ⊢
  refine pu 0 16 ?_ (ms 21 1) rfl rfl HT_ (by kernel_rfl) (fun _ _ _ h => h) (by rfl) ?_ ?_ ?_ ?_
  rotate_left
  ·intro w'
   go_simp
   with_reducible rfl
  rotate_left
  ·simp only [SX]
   rfl
  refine pu 1 17 ?_ (ms 21 3) rfl rfl HT_ (by kernel_rfl) (fun _ _ _ h => h) (by rfl) ?_ ?_ ?_ ?_
  rotate_left
  ·intro w'
   go_simp
   with_reducible rfl
  rotate_left
  ·simp only [SX]
   rfl
  refine pu 4 20 ?_ (ms 21 19) rfl rfl HT_ (by kernel_rfl) (fun _ _ _ h => h) (by rfl) ?_ ?_ ?_ ?_
  rotate_left
  ·intro w'
   go_simp
   with_reducible rfl
  rotate_left
  ·simp only [SX]
   rfl
  refine pu 5 21 ?_ (ms 21 51) rfl rfl HT_ (by kernel_rfl) (fun _ _ _ h => h) (by rfl) ?_ ?_ ?_ ?_
  rotate_left
  ·intro w'
   go_simp
   with_reducible rfl
  rotate_left
  ·simp only [SX]
   rfl
  refine pu 8 24 ?_ (ms 21 307) rfl rfl HT_ (by kernel_rfl) (fun _ _ _ h => h) (by rfl) ?_ ?_ ?_ ?_
  rotate_left
  ·intro w'
   go_simp
   with_reducible rfl
  rotate_left
  ·simp only [SX]
   rfl
  refine pu 9 25 ?_ (ms 21 819) rfl rfl HT_ (by kernel_rfl) (fun _ _ _ h => h) (by rfl) ?_ ?_ ?_ ?_
  rotate_left
  ·intro w'
   go_simp
   with_reducible rfl
  rotate_left
  ·simp only [SX]
   rfl
  refine pu 13 29 ?_ (ms 21 9011) rfl rfl HT_ (by kernel_rfl) (fun _ _ _ h => h) (by rfl) ?_ ?_ ?_ ?_
  rotate_left
  ·intro w'
   go_simp
   with_reducible rfl
  rotate_left
  ·simp only [SX]
   rfl
  refine pu 16 32 ?_ (ms 21 74547) rfl rfl HT_ (by kernel_rfl) (fun _ _ _ h => h) (by rfl) ?_ ?_ ?_ ?_
  rotate_left
  ·intro w'
   go_simp
   with_reducible rfl
  rotate_left
  ·simp only [SX]
   rfl
  refine tk 2 18 ?_ (ms 21 74551) rfl rfl HT_ HW_ (by kernel_rfl) (fun _ _ _ h => h) (by rfl) ?_ hHeld ?_ ?_ ?_
  rotate_left
  ·rintro w' ⟨s0, s1⟩
   go_simp
   with_reducible rfl
  rotate_left
  ·simp only [SX]
   rfl
  refine tk 6 22 ?_ (ms 21 74615) rfl rfl HT_ HW_ (by kernel_rfl) (fun _ _ _ h => h) (by rfl) ?_ hHeld ?_ ?_ ?_
  rotate_left
  ·rintro w' ⟨s0, s1⟩
   go_simp
   with_reducible rfl
  rotate_left
  ·simp only [SX]
   rfl
  refine join_ (σ := Value × Value × Nat) 1 (ms 21 1048575) (fun s_ => [(19, .int .i64 ai), (23, .int .i64 aj), (26, .int .i64 aX), (27, s_.1), (28, .int .i64 ar), (31, .int .i64 av), (33, .int .i64 ax), (34, .agg #[.int .i64 ai, .int .i64 aj, .int .i64 ar, .int .i64 av, .int .i64 ax]), (30, s_.2.1), (5, .pointer (some ⟨s_.2.2, 0, none⟩))]) (fun s_ w' => (w'.cell? ⟨ah, 0, none⟩ = some (.int .i64 (wrap64 (2 + am))) ∧ w'.cell? ⟨ah, 1, none⟩ = some (u125001)) ∧ (Kd.R k58 58 w' w.heap.size (fun k_ => k_ ≠ s_.2.2) u125001 ad) ∧ (w'.heap[ao]? = some (.cells #[.int .i64 0, .slice none 0 0] 25 (0, 0))) ∧ (w'.heap[ah]? = some (.cells #[.int .i64 (wrap64 (2 + am)), u125001] 25 (0, 0))) ∧ (w'.heap[s_.2.2]? = some (.cells #[.int .i64 0, .int .i64 0, .int .i64 0, .int .i64 0, .int .i64 0] 58 (0, 0))) ∧ (w.heap.size ≤ s_.2.2) ∧ (w0.heap.size ≤ s_.2.2) ∧ (g ≠ s_.2.2) ∧ (s_.2.2 ≠ g) ∧ (ao ≠ s_.2.2) ∧ (s_.2.2 ≠ ao) ∧ (ah ≠ s_.2.2) ∧ (s_.2.2 ≠ ah) ∧ (IsS95 w0 w' g au aW) ∧ (KeepBut w w' g none) ∧ (Below w0.heap.size w0 w')) ?_ ?_
  rotate_left
  ·intro hJ
   have a15 := A15.out
   have a16 := A16.out
   rw [bO.out] at a15
   rw [bP.out] at a16
   refine spec_l30Net.reg5 (FS := (fun o w' => (w'.cell? ⟨ah, 0, none⟩ = some (.int .i64 (wrap64 (2 + am))) ∧ w'.cell? ⟨ah, 1, none⟩ = some (u125001)) ∧ (Kd.R k58 58 w' w.heap.size (fun k_ => some k_ ≠ o) u125001 ad) ∧ (w'.heap[ao]? = some (.cells #[.int .i64 0, .slice none 0 0] 25 (0, 0))) ∧ (w'.heap[ah]? = some (.cells #[.int .i64 (wrap64 (2 + am)), u125001] 25 (0, 0))) ∧ (some ao ≠ o ∧ some ah ≠ o))) _ _ rfl rfl rfl rfl rfl rfl rfl rfl rfl (fun o w' h => h.1) ?_ ?_ HI0.out HK.out HB.out ⟨hHeld, Kd.R_mono ac.out (fun _ _ => by simp), al.out, af.out, by simp⟩ A12.out A13.out A14.out a15 a16 A17.out ?_
   ·rintro o wa wb p hi hk ⟨_, h1, h2, h3, h4⟩
    have b2 := KeepBut.blk hk h2 aK.out (by simp)
    have b3 := KeepBut.blk hk h3 aC.out (by simp)
    exact ⟨⟨(qZb b3 0).trans rfl, (qZb b3 1).trans rfl⟩, Kd.R_mono (Kd.R_keep (IsS95.apart hi h1 (by decide)) hk (fun _ h => h.2)) (fun _ h => h.1), b2, b3, h4⟩
   ·rintro wa ⟨h0, h1, h2, h3, _⟩
    exact ⟨h0, Kd.R_mono (Kd.R_elderB h1 wa.heap.size (Nat.le_refl _)) (fun k hk => by have := hk.2; simpa using this), h2, h3, by simpa using Nat.ne_of_lt (qZk h2), by simpa using Nat.ne_of_lt (qZk h3)⟩
   rintro v27 v30 gb w' ⟨h0, h1, h2, h3, h4, h5⟩ hbox hgw hgg hi hk hb
   have e4 : ao ≠ gb := by simpa using h4
   have e5 : ah ≠ gb := by simpa using h5
   exact hJ (v27, v30, gb) w' ⟨h0, Kd.R_mono h1 (fun k hk => by simpa using hk), h2, h3, hbox, hgw, Nat.le_trans HW0.out hgw, hgg.symm, hgg, e4, e4.symm, e5, e5.symm, hi, hk, hb⟩
  rintro ⟨ed, ee, ab⟩ w35 ⟨hS_, h2_, h3_, h4_, h5_, h6_, h7_, h8_, h9_, bu, bv, bw, bx, bz, bA, bB⟩
  replace ac : Aside0 (Kd.R k58 58 w35 w.heap.size (fun k_ => k_ ≠ ab) u125001 ad) := ⟨h2_⟩
  replace al : Aside0 (w35.heap[ao]? = some (.cells #[.int .i64 0, .slice none 0 0] 25 (0, 0))) := ⟨h3_⟩
  replace af : Aside0 (w35.heap[ah]? = some (.cells #[.int .i64 (wrap64 (2 + am)), u125001] 25 (0, 0))) := ⟨h4_⟩
  have ag : Aside0 (w35.heap[ab]? = some (.cells #[.int .i64 0, .int .i64 0, .int .i64 0, .int .i64 0, .int .i64 0] 58 (0, 0))) := ⟨h5_⟩
  have bf : Aside0 (w.heap.size ≤ ab) := ⟨h6_⟩
  have bC : Aside0 (w0.heap.size ≤ ab) := ⟨h7_⟩
  have aQ : Aside0 (g ≠ ab) := ⟨h8_⟩
  have aZ : Aside0 (ab ≠ g) := ⟨h9_⟩
  have ae : Aside0 (ao ≠ ab) := ⟨bu⟩
  have ap : Aside0 (ab ≠ ao) := ⟨bv⟩
  have aa : Aside0 (ah ≠ ab) := ⟨bw⟩
  have aq : Aside0 (ab ≠ ah) := ⟨bx⟩
  replace HI0 : Aside0 (IsS95 w0 w35 g au aW) := ⟨bz⟩
  replace HK : Aside0 (KeepBut w w35 g none) := ⟨bA⟩
  replace HB : Aside0 (Below w0.heap.size w0 w35) := ⟨bB⟩
  clear h2_ h3_ h4_ h5_ h6_ h7_ h8_ h9_ bu bv bw bx bz bA bB
  have hHeld : w35.cell? ⟨ah, 0, none⟩ = some (.int .i64 (wrap64 (2 + am))) ∧ w35.cell? ⟨ah, 1, none⟩ = some (u125001) := hS_
  refine qJd (a' := ?_) ?_ ?_
  rotate_left
  ·simp only [putAll, Act.put, List.setIfInBounds_toArray, List.set_cons_zero, List.set_cons_succ]
   rfl
  refine one_ (i := 20) (N := none) (ms 21 2097151) rfl rfl (qJa HT_.out (by kernel_rfl)) (by decide) (fun K hK => ?_)
  have ff : w35.cell? ⟨ab, 0, none⟩ = some (.int .i64 0) := (qZb ag.out 0).trans rfl
  have eC := qQn ag.out 0
  have dl := ae.out
  have dm := aa.out
  have dn := ap.out
  have dp := aq.out
  have fg : w35.cell? ⟨ab, 1, none⟩ = some (.int .i64 0) := (qZb ag.out 1).trans rfl
  have eD := qQn ag.out 1
  have dq := ae.out
  have dr := aa.out
  have dt := ap.out
  have du := aq.out
  have fh : w35.cell? ⟨ab, 2, none⟩ = some (.int .i64 0) := (qZb ag.out 2).trans rfl
  have eE := qQn ag.out 2
  have dv := ae.out
  have dw := aa.out
  have dx := ap.out
  have dy := aq.out
  have fi : w35.cell? ⟨ab, 3, none⟩ = some (.int .i64 0) := (qZb ag.out 3).trans rfl
  have eF := qQn ag.out 3
  have dz := ae.out
  have dA := aa.out
  have dB := ap.out
  have dC := aq.out
  have fj : w35.cell? ⟨ab, 4, none⟩ = some (.int .i64 0) := (qZb ag.out 4).trans rfl
  have eG := qQn ag.out 4
  have dD := ae.out
  have dE := aa.out
  have dF := ap.out
  have dG := aq.out
  refine skip_ (w1 := ?_) (by rfl) rfl ?_ ?_
  rotate_left
  ·go_simp
   rfl
  refine hK.out _ _ ⟨((qQa (p := ⟨ab, _, none⟩) aa.out _).trans (((qQa (p := ⟨ab, _, none⟩) aa.out _).trans (((qQa (p := ⟨ab, _, none⟩) aa.out _).trans (((qQa (p := ⟨ab, _, none⟩) aa.out _).trans (((qQa (p := ⟨ab, _, none⟩) aa.out _).trans (hHeld.1)))))))))), ((qQa (p := ⟨ab, _, none⟩) aa.out _).trans (((qQa (p := ⟨ab, _, none⟩) aa.out _).trans (((qQa (p := ⟨ab, _, none⟩) aa.out _).trans (((qQa (p := ⟨ab, _, none⟩) aa.out _).trans (((qQa (p := ⟨ab, _, none⟩) aa.out _).trans (hHeld.2))))))))))⟩ (fun hHeld => ?_)
  clear hK K
  refine qXe (qJg HT_.out (by kernel_rfl)) ?_
  have eH := ap.out
  have eI := ae.out
  have eJ := aq.out
  have eK := aa.out
  have eL := aZ.out
  have eM := aQ.out
  have dH := bc w35 ag 0 (.int .i64 0) rfl
  have dI := bc w35 ag 1 (.int .i64 0) rfl
  have dJ := bc w35 ag 2 (.int .i64 0) rfl
  have dK := bc w35 ag 3 (.int .i64 0) rfl
  have dL := bc w35 ag 4 (.int .i64 0) rfl
  have dM := fz ag 0
  have dN := fz ag 1
  have dO := fz ag 2
  have dP := fz ag 3
  have dQ := fz ag 4
  have eN := aG.out
  have eO := aw.out
  have eP := aC.out
  have eQ := aB.out
  have dR := bc w35 af 0 (.int .i64 (wrap64 (2 + am))) rfl
  have dS := bc w35 af 1 (u125001) rfl
  have dT := fz af 0
  have dU := fz af 1
  try go_wp2_with (first | ((with_reducible refine gate_dst (N := 49) rfl ?_); (fail_if_success clear hW_); refine spec_l30Net.fix_world (g := ab) (o := .cells #[.int .i64 ai, .int .i64 (Int.tmod (wrap64 (aj + 1)) (wrap64 (2 + am))), .int .i64 ar, .int .i64 av, .int .i64 ax] 58 (0, 0)) (by refine qZg (cs := #[.int .i64 ai, .int .i64 aj, .int .i64 ar, .int .i64 av, .int .i64 ax]) ?_ 1 _ rfl; refine qZg (cs := #[.int .i64 ai, .int .i64 aj, .int .i64 ar, .int .i64 av, .int .i64 0]) ?_ 4 _ rfl; refine qZg (cs := #[.int .i64 ai, .int .i64 aj, .int .i64 ar, .int .i64 0, .int .i64 0]) ?_ 3 _ rfl; refine qZg (cs := #[.int .i64 ai, .int .i64 aj, .int .i64 0, .int .i64 0, .int .i64 0]) ?_ 2 _ rfl; refine qZg (cs := #[.int .i64 ai, .int .i64 0, .int .i64 0, .int .i64 0, .int .i64 0]) ?_ 1 _ rfl; refine qZg (cs := #[.int .i64 0, .int .i64 0, .int .i64 0, .int .i64 0, .int .i64 0]) ?_ 0 _ rfl; exact ag.out) ?_; intro W_ hW_ hBW_; have bD : W_.cell? ⟨ab, 0, none⟩ = some (.int .i64 ai) := (qZb hBW_ 0).trans rfl; have bE : W_.cell? ⟨ab, 1, none⟩ = some (.int .i64 (Int.tmod (wrap64 (aj + 1)) (wrap64 (2 + am)))) := (qZb hBW_ 1).trans rfl; have bF : W_.cell? ⟨ab, 2, none⟩ = some (.int .i64 ar) := (qZb hBW_ 2).trans rfl; have bG : W_.cell? ⟨ab, 3, none⟩ = some (.int .i64 av) := (qZb hBW_ 3).trans rfl; have bH : W_.cell? ⟨ab, 4, none⟩ = some (.int .i64 ax) := (qZb hBW_ 4).trans rfl) | ((with_reducible refine gate_dst (N := 50) rfl ?_); clear hBW_ bD bE bF bG bH; subst hW_) | ((with_reducible refine gate_builtin (b := .append) (xs := #[.tmp 48, .tmp 50]) rfl ?_); at_builtin; refine Kd.R_append k58 w.heap.size rfl (.tmp 48) (.tmp 50) 23 58 (.agg #[(.int .i64 0), (.int .i64 0), (.int .i64 0), (.int .i64 0), (.int .i64 0)]) 40 rfl Try.underlying23 info58 rfl (by decide) (by omega) u125001 ad (⟨ai, Int.tmod (wrap64 (aj + 1)) (wrap64 (2 + am)), ar, av, ax⟩ : S58) [.int .i64 ai, .int .i64 (Int.tmod (wrap64 (aj + 1)) (wrap64 (2 + am))), .int .i64 ar, .int .i64 av, .int .i64 ax] (fun k_ => k_ ≠ ab) (fun _ => False) rfl (by (go_simp; done)) ?aP (fun _ hk => hk.elim) ?aF ?aO (Below.refl _ _) ?aS ?aL ?_; (case aP => exact k58_mkM _ _ _ (⟨ai, Int.tmod (wrap64 (aj + 1)) (wrap64 (2 + am)), ar, av, ax⟩ : S58)); (case aF => exact (fun k_ hk => Kd.freshB (g := ab) (o := .cells #[.int .i64 ai, .int .i64 (Int.tmod (wrap64 (aj + 1)) (wrap64 (2 + am))), .int .i64 ar, .int .i64 av, .int .i64 ax] 58 (0, 0)) (by refine qZg (cs := #[.int .i64 ai, .int .i64 aj, .int .i64 ar, .int .i64 av, .int .i64 ax]) ?_ 1 _ rfl; refine qZg (cs := #[.int .i64 ai, .int .i64 aj, .int .i64 ar, .int .i64 av, .int .i64 0]) ?_ 4 _ rfl; refine qZg (cs := #[.int .i64 ai, .int .i64 aj, .int .i64 ar, .int .i64 0, .int .i64 0]) ?_ 3 _ rfl; refine qZg (cs := #[.int .i64 ai, .int .i64 aj, .int .i64 0, .int .i64 0, .int .i64 0]) ?_ 2 _ rfl; refine qZg (cs := #[.int .i64 ai, .int .i64 0, .int .i64 0, .int .i64 0, .int .i64 0]) ?_ 1 _ rfl; refine qZg (cs := #[.int .i64 0, .int .i64 0, .int .i64 0, .int .i64 0, .int .i64 0]) ?_ 0 _ rfl; exact ag.out) k_ hk)); (case aO => exact (by exact Kd.R_mono (Kd.R_far (p := ⟨ab, 1, none⟩) (Kd.R_far (p := ⟨ab, 4, none⟩) (Kd.R_far (p := ⟨ab, 3, none⟩) (Kd.R_far (p := ⟨ab, 2, none⟩) (Kd.R_far (p := ⟨ab, 1, none⟩) (Kd.R_far (p := ⟨ab, 0, none⟩) (Kd.R_mono ac.out (fun k_ hk => (⟨hk, hk⟩ : _ ∧ k_ ≠ ab))) (fun _ hk => hk.2) (.int .i64 ai)) (fun _ hk => hk.2) (.int .i64 aj)) (fun _ hk => hk.2) (.int .i64 ar)) (fun _ hk => hk.2) (.int .i64 av)) (fun _ hk => hk.2) (.int .i64 ax)) (fun _ hk => hk.2) (.int .i64 (Int.tmod (wrap64 (aj + 1)) (wrap64 (2 + am))))) (fun _ hk => hk.1))); (case aS => exact (qQf (w := w) (g := g) (row := none) (by repeat ((with_reducible first | exact HK.out | refine keep_far ?_ bf.out _))))); (case aL => have := ck.out; omega); intro fk w48 ho hb hg hat; rw [← cl.out] at ho; have n0_ := ak (qZj (g := ao) (o := .cells #[.int .i64 0, .slice none 0 0] 25 (0, 0)) (by refine blk_far ?_ ae.out _; refine blk_far ?_ ae.out _; refine blk_far ?_ ae.out _; refine blk_far ?_ ae.out _; refine blk_far ?_ ae.out _; refine blk_far ?_ ae.out _; exact al.out) hg (Kd.R_ne ac.out al.out (by decide))); have n1_ := ak (qZj (g := ah) (o := .cells #[.int .i64 (wrap64 (2 + am)), u125001] 25 (0, 0)) (by refine blk_far ?_ aa.out _; refine blk_far ?_ aa.out _; refine blk_far ?_ aa.out _; refine blk_far ?_ aa.out _; refine blk_far ?_ aa.out _; refine blk_far ?_ aa.out _; exact af.out) hg (Kd.R_ne ac.out af.out (by decide))); have n2_ := ak (IsS95.grown (w0 := w0) (f0 := au) (f1 := aW) (by repeat ((with_reducible first | exact HI0.out | refine IsS95.far ?_ aQ.out _))) hg (IsS95.own_ne HI0.out ac.out (by decide))); have n5_ := ak (qZj (g := ab) (o := .cells #[.int .i64 ai, .int .i64 (Int.tmod (wrap64 (aj + 1)) (wrap64 (2 + am))), .int .i64 ar, .int .i64 av, .int .i64 ax] 58 (0, 0)) (by refine qZg (cs := #[.int .i64 ai, .int .i64 aj, .int .i64 ar, .int .i64 av, .int .i64 ax]) ?_ 1 _ rfl; refine qZg (cs := #[.int .i64 ai, .int .i64 aj, .int .i64 ar, .int .i64 av, .int .i64 0]) ?_ 4 _ rfl; refine qZg (cs := #[.int .i64 ai, .int .i64 aj, .int .i64 ar, .int .i64 0, .int .i64 0]) ?_ 3 _ rfl; refine qZg (cs := #[.int .i64 ai, .int .i64 aj, .int .i64 0, .int .i64 0, .int .i64 0]) ?_ 2 _ rfl; refine qZg (cs := #[.int .i64 ai, .int .i64 0, .int .i64 0, .int .i64 0, .int .i64 0]) ?_ 1 _ rfl; refine qZg (cs := #[.int .i64 0, .int .i64 0, .int .i64 0, .int .i64 0, .int .i64 0]) ?_ 0 _ rfl; exact ag.out) hg (Kd.R_away ac.out (fun _ hk => hk))); have n6_ := ak (below_weaken (by repeat ((with_reducible first | exact HB.out | refine below_set ?_ bC.out))) HL.out hb); have n7_ := ak (KeepBut.trans (by repeat ((with_reducible first | exact HK.out | refine keep_far ?_ bf.out _))) (KeepBut.of_grown hg g) (Kd.R_base2 ac.out)); have n8_ := ak (ho); clear al; clear af; clear HI0; clear ag; clear HB; clear HK; clear ac; have al := n0_; have af := n1_; have HI0 := n2_; have ag := n5_; have HB := n6_; have HK := n7_; have bR := n8_; clear n0_ n1_ n2_ n5_ n6_ n7_ n8_; clear ho hb hg hat; obtain ⟨cm, cn, eg⟩ := Kd.R_slice bR.out; subst eg; have dV := bc w48 af 0 (.int .i64 (wrap64 (2 + am))) rfl; have dW := bc w48 af 1 (u125001) rfl; have dX := fz af 0; have dY := fz af 1))
  go_roundg k1
  case measure => have := HK1.out; omega
  case rel => exact ⟨(wrap64 (aN - 1)), (aW), (bL), (.slice cm bL.length cn), (by rfl), H', ⟨by have := HK1.out; omega⟩, ⟨by exact Kd.R_mono (Kd.R_far (p := ⟨ah, 1, none⟩) (Kd.R_types bR.out af.out (by decide)) (fun _ hk => hk.2) (.slice cm bL.length cn)) (fun _ hk => trivial)⟩, ⟨by refine blk_far ?_ aw.out _; exact al.out⟩, ⟨by refine qZg (cs := #[.int .i64 (wrap64 (2 + am)), u125001]) ?_ 1 _ rfl; exact af.out⟩, ⟨by repeat ((with_reducible first | exact HI0.out | refine IsS95.far ?_ aB.out _))⟩, ⟨by repeat ((with_reducible first | exact HK.out | refine keep_far ?_ bp.out _))⟩, ⟨by repeat ((with_reducible first | exact HB.out | refine below_set ?_ bq.out))⟩⟩
/-! ### spec_l30AnyNet: function 45 -/
def spec_l30AnyNet.f (k : Nat) (aj : List Int) (ay : Int) : Option (Int × (List (S58)) × Int) := (spec_l30Net.f k aj ay).bind fun ah => (if (ah.2.1.length : Int) > 0 then ((spec_l30Rd_pick.f k aj ah.2.2 (ah.2.1.length : Int)).bind fun an => ((spec_l30Rd_pick.f k aj an.2 16).bind fun aw => (if aw.1 = 0 then (if 0 ≤ an.1 then (if an.1 < (ah.2.1.length : Int) then ((spec_l30Rd_one.f k aj aw.2 (([(-1), 8, (qZa ah.2.1 an.1).f0] : List Int))).bind fun aK => (some (ah.1, (ah.2.1.set (an.1 : Int).toNat (⟨(qZa ah.2.1 an.1).f0, aK.1, (qZa ah.2.1 an.1).f2, (qZa ah.2.1 an.1).f3, (qZa ah.2.1 an.1).f4⟩ : S58)), aK.2))) else (none)) else (none)) else (if aw.1 = 1 then ((spec_l30Rd_one.f k aj aw.2 (([(-1), 100] : List Int))).bind fun aL => (if 0 ≤ an.1 then (if an.1 < (ah.2.1.length : Int) then (some (ah.1, (ah.2.1.set (an.1 : Int).toNat (⟨(qZa ah.2.1 an.1).f0, (qZa ah.2.1 an.1).f1, aL.1, (qZa ah.2.1 an.1).f3, (qZa ah.2.1 an.1).f4⟩ : S58)), aL.2)) else (none)) else (none))) else (if aw.1 = 2 then ((spec_l30Rd_one.f k aj aw.2 (([0, 1, 9, 8] : List Int))).bind fun aN => (some (aN.1, ah.2.1, aN.2))) else (some (ah.1, ah.2.1, aw.2))))))) else (some (ah.1, ah.2.1, ah.2.2)))
theorem spec_l30AnyNet.mono : ∀ a0 a1 k, LeO (spec_l30AnyNet.f k a0 a1) (spec_l30AnyNet.f (k + 1) a0 a1) := by
 intro a0 a1 k
 unfold spec_l30AnyNet.f
 repeat' first | (with_reducible exact spec_l30Net.mono _ _ _) | (with_reducible exact spec_l30Rd_one.mono _ _ _ _) | (with_reducible exact spec_l30Rd_pick.mono _ _ _ _) | (with_reducible exact LeO.refl _) | (with_reducible refine LeO.ite ?_ ?_) | (with_reducible refine LeO.bind ?_ (fun _ => ?_))
def spec_l30AnyNet.T6 : Bool × List (List Nat × List Nat) := (true, [([], []), ([0], [0]), ([], []), ([], []), ([], []), ([4], [4]), ([], []), ([5, 6], [5, 6]), ([7], [7]), ([8], [8]), ([9], [9]), ([3, 10], [3, 10]), ([1, 2, 0, 1, 2, 3, 4, 5, 6, 7, 8, 9, 10, 11], [1, 2]), ([12, 0, 1, 2, 3, 4, 5, 6, 7, 8, 9, 10, 11], [12]), ([13, 11, 11, 0, 1, 2, 3, 4, 5, 6, 7, 8, 9, 10, 11], [11, 13])])
def spec_l30AnyNet.B6 : List Nat := [0, 1, 0, 0, 0, 16, 0, 112, 240, 496, 1008, 2040, 4095, 8191, 16383]
theorem spec_l30AnyNet.tab6 : rtab .any (qWg Try.f45 6) = spec_l30AnyNet.T6 := by kernel_rfl
theorem spec_l30AnyNet.bits6 : qJn spec_l30AnyNet.T6.2 spec_l30AnyNet.B6 = true := by kernel_rfl
def spec_l30AnyNet.T8 : Bool × List (List Nat × List Nat) := (true, [([], []), ([0], [0]), ([], []), ([], []), ([], []), ([3, 4], [3, 4]), ([1, 2, 0, 1, 2, 3, 4, 5], [1, 2]), ([6, 0, 1, 2, 3, 4, 5], [6]), ([7, 5, 5, 0, 1, 2, 3, 4, 5], [5, 7])])
def spec_l30AnyNet.B8 : List Nat := [0, 1, 0, 0, 0, 24, 63, 127, 255]
theorem spec_l30AnyNet.tab8 : rtab .any (qWg Try.f45 8) = spec_l30AnyNet.T8 := by kernel_rfl
theorem spec_l30AnyNet.bits8 : qJn spec_l30AnyNet.T8.2 spec_l30AnyNet.B8 = true := by kernel_rfl
set_option maxHeartbeats 8000000 in
set_option maxRecDepth 100000 in
theorem spec_l30AnyNet.calls (k : Nat) (g : Nat) (aj : List Int) (ay : Int) (r1 : Int) (r2 : List (S58)) (r3 : Int) (w0 w : World) (hI : IsS95 w0 w g aj ay) (hB : Below w0.heap.size w0 w) (h : spec_l30AnyNet.f k aj ay = some (r1, r2, r3)) :
  Calls Try.prog 45 #[.pointer (some ⟨g, 0, none⟩)] w fun e w' => ∃ v1_ : Value, e = .returned (.agg #[.int .i64 r1, v1_]) ∧ Kd.R k58 58 w' w.heap.size (fun _ => True) v1_ r2 ∧ IsS95 w0 w' g aj r3 ∧ Below w0.heap.size w0 w' ∧ KeepBut w w' g none := by
 have eQ := Try.underlying25
 have HI0 := ak hI
 have HK := ak (KeepBut.refl w g none)
 have HL := ak hB.size
 clear hI
 have HW0 := ak hB.size
 have HB := ak hB
 clear hB
 have H : ((spec_l30Net.f k aj ay).bind fun ah => (if (ah.2.1.length : Int) > 0 then ((spec_l30Rd_pick.f k aj ah.2.2 (ah.2.1.length : Int)).bind fun an => ((spec_l30Rd_pick.f k aj an.2 16).bind fun aw => (if aw.1 = 0 then (if 0 ≤ an.1 then (if an.1 < (ah.2.1.length : Int) then ((spec_l30Rd_one.f k aj aw.2 (([(-1), 8, (qZa ah.2.1 an.1).f0] : List Int))).bind fun aK => (some (ah.1, (ah.2.1.set (an.1 : Int).toNat (⟨(qZa ah.2.1 an.1).f0, aK.1, (qZa ah.2.1 an.1).f2, (qZa ah.2.1 an.1).f3, (qZa ah.2.1 an.1).f4⟩ : S58)), aK.2))) else (none)) else (none)) else (if aw.1 = 1 then ((spec_l30Rd_one.f k aj aw.2 (([(-1), 100] : List Int))).bind fun aL => (if 0 ≤ an.1 then (if an.1 < (ah.2.1.length : Int) then (some (ah.1, (ah.2.1.set (an.1 : Int).toNat (⟨(qZa ah.2.1 an.1).f0, (qZa ah.2.1 an.1).f1, aL.1, (qZa ah.2.1 an.1).f3, (qZa ah.2.1 an.1).f4⟩ : S58)), aL.2)) else (none)) else (none))) else (if aw.1 = 2 then ((spec_l30Rd_one.f k aj aw.2 (([0, 1, 9, 8] : List Int))).bind fun aN => (some (aN.1, ah.2.1, aN.2))) else (some (ah.1, ah.2.1, aw.2))))))) else (some (ah.1, ah.2.1, ah.2.2)))) = some (r1, r2, r3) := h
 clear h
 replace H := Option.bind_eq_some_iff.mp H
 obtain ⟨⟨ao, ae, ax⟩, A20, H⟩ := H
 have A2 := ak A20
 clear A20
 by_cases c3 : (ae.length : Int) > 0
 rotate_left
 ·rw [if_neg c3] at H
  have c3b0 : decide (0 < (ae.length : Int)) = false := decide_eq_false c3
  have c3b1 : decide (0 < ae.length) = false := decide_eq_false (by omega)
  clear c3
  simp only [Option.some.injEq, Prod.mk.injEq] at H
  obtain ⟨rfl, rfl, rfl⟩ := H
  go_enter Try.func45, Try.ntmps45
  go_wp2_with (first | ((with_reducible refine gate_dst (N := 2) rfl ?_); refine qZh ?hg (N := 2) ?hd (cs := #[.int .i64 0, .slice none 0 0]) (t := 25) ?hr ?_; (case hd => rfl); (case hg => rfl); (case hr => (go_simp; done)); intro af hg w84 hbox hb; replace HB := ak (qZd (by repeat ((with_reducible exact HB.out))) hb); have aa := ak (hbox); have aE := ak ((by rw [hg]; exact (qQf (w := w) (g := g) (row := none) (by repeat ((with_reducible exact HK.out)))) : w.heap.size ≤ af)); have aF := ak ((Nat.le_trans HW0.out (by rw [hg]; exact (qQf (w := w) (g := g) (row := none) (by repeat ((with_reducible exact HK.out)))) : w.heap.size ≤ af) : w0.heap.size ≤ af)); replace HK := ak (KeepBut.trans (by repeat ((with_reducible exact HK.out))) (KeepBut.of_below hb g none) (.inl rfl)); have aq := ak ((by rw [hg]; exact Nat.ne_of_lt (IsS95.lt (show IsS95 w0 _ g aj ay from by repeat ((with_reducible exact HI0.out)))) : g ≠ af)); have al := ak ((by rw [hg]; exact Nat.ne_of_gt (IsS95.lt (show IsS95 w0 _ g aj ay from by repeat ((with_reducible exact HI0.out)))) : af ≠ g)); replace HI0 := ak (IsS95.below (by repeat ((with_reducible exact HI0.out))) hb); clear hb hbox hg) | ((with_reducible refine gate_callee (f := 86) rfl ?_); refine qQi (some 6) rfl rfl Try.func86 (by kernel_rfl) rfl #[.pointer (some ⟨g, 0, none⟩)] rfl (by (try simp only [List.map_toArray, List.map_cons, List.map_nil]); rfl) ?_; (with_reducible refine (spec_l30Net.calls k g aj ay ao ae ax w0 _ ?side1 ?side2 A2.out).mono ?_); (case side1 => repeat ((with_reducible exact HI0.out))); (case side2 => repeat ((with_reducible exact HB.out))); rintro e w85 ⟨br, rfl, ho0, hi, hb, hk⟩; refine ⟨_, rfl, ?_⟩; replace aa := ak (KeepBut.blk hk (g' := af) (o := .cells #[.int .i64 0, .slice none 0 0] 25 (0, 0)) (bk aa) al.out (by simp)); have ad := ak (Kd.R_lower ho0 (qQf (w := w) (g := g) (row := none) (by repeat ((with_reducible exact HK.out))))); replace HK := ak (KeepBut.trans (by repeat ((with_reducible exact HK.out))) hk (.inl rfl)); replace HB := ak (hb); replace HI0 := ak (hi); (try clear hb); (try clear hb2); (try clear hk); (try clear hi); (try clear ho0)) | ((with_reducible refine gate_dst (N := 3) rfl ?_); refine qZh ?hg (N := 3) ?hd (cs := #[.int .i64 0, .slice none 0 0]) (t := 25) ?hr ?_; (case hd => rfl); (case hg => rfl); (case hr => (go_simp; done)); intro ag hg w86 hbox hb; replace ad := ak (Kd.R_below (rk ad) hb); replace HB := ak (qZd (by repeat ((with_reducible exact HB.out))) hb); have ab := ak (hbox); have aC := ak ((by rw [hg]; exact (qQf (w := w) (g := g) (row := none) (by repeat ((with_reducible exact HK.out)))) : w.heap.size ≤ ag)); have aD := ak ((Nat.le_trans HW0.out (by rw [hg]; exact (qQf (w := w) (g := g) (row := none) (by repeat ((with_reducible exact HK.out)))) : w.heap.size ≤ ag) : w0.heap.size ≤ ag)); replace HK := ak (KeepBut.trans (by repeat ((with_reducible exact HK.out))) (KeepBut.of_below hb g none) (.inl rfl)); have ai := ak ((by rw [hg]; exact Nat.ne_of_lt (qZk (bk aa)) : af ≠ ag)); have ar := ak ((by rw [hg]; exact Nat.ne_of_gt (qZk (bk aa)) : ag ≠ af)); replace aa := ak (qZe (bk aa) hb); have ap := ak ((by rw [hg]; exact Nat.ne_of_lt (IsS95.lt (show IsS95 w0 _ g aj ax from by repeat ((with_reducible exact HI0.out)))) : g ≠ ag)); have am := ak ((by rw [hg]; exact Nat.ne_of_gt (IsS95.lt (show IsS95 w0 _ g aj ax from by repeat ((with_reducible exact HI0.out)))) : ag ≠ g)); replace HI0 := ak (IsS95.below (by repeat ((with_reducible exact HI0.out))) hb); clear hb hbox hg; have em := ar.out; have en := ai.out; have eo := am.out; have ep := ap.out; have cq := bc w86 ab 0 (.int .i64 0) rfl; have cr := bc w86 ab 1 (.slice none 0 0) rfl; have ct := fz ab 0; have cu := fz ab 1; obtain ⟨bw, bx, dy⟩ := Kd.R_slice ad.out; subst dy; have eq := al.out; have er := aq.out; have cv := bc w86 aa 0 (.int .i64 0) rfl; have cw := bc w86 aa 1 (.slice none 0 0) rfl; have cx := fz aa 0; have cy := fz aa 1))
  refine bodyPost_ret (results_cell_row rfl _ _ af 25 #[.int .i64 ao, .slice bw ae.length bx] (0, 0) _ rfl (by refine qZg (cs := #[.int .i64 ao, .slice none 0 0]) ?_ 1 _ rfl; refine qZg (cs := #[.int .i64 0, .slice none 0 0]) ?_ 0 _ rfl; refine blk_far ?_ ai.out _; refine blk_far ?_ ai.out _; exact aa.out) Try.underlying25 rfl (by kernel_rfl)) rfl ?_
  exact ⟨_, by rfl, by exact Kd.R_mono (Kd.R_far (p := ⟨af, 1, none⟩) (Kd.R_far (p := ⟨af, 0, none⟩) (Kd.R_far (p := ⟨ag, 1, none⟩) (Kd.R_far (p := ⟨ag, 0, none⟩) (Kd.R_types (Kd.R_types ad.out ab.out (by decide)) aa.out (by decide)) (fun _ hk => hk.1.2) (.int .i64 ao)) (fun _ hk => hk.1.2) (.slice bw ae.length bx)) (fun _ hk => hk.2) (.int .i64 ao)) (fun _ hk => hk.2) (.slice bw ae.length bx)) (fun _ hk => trivial), by repeat ((with_reducible first | exact HI0.out | refine IsS95.far ?_ aq.out _ | refine IsS95.far ?_ ap.out _)), by repeat ((with_reducible first | exact HB.out | refine below_set ?_ aF.out | refine below_set ?_ aD.out)), by repeat ((with_reducible first | exact HK.out | refine keep_far ?_ aE.out _ | refine keep_far ?_ aC.out _))⟩
 rw [if_pos c3] at H
 have c3b0 : decide (0 < (ae.length : Int)) = true := decide_eq_true c3
 have c3b1 : decide (0 < ae.length) = true := decide_eq_true (by omega)
 clear c3
 replace H := Option.bind_eq_some_iff.mp H
 obtain ⟨⟨ac, aO⟩, A40, H⟩ := H
 have A4 := ak A40
 clear A40
 replace H := Option.bind_eq_some_iff.mp H
 obtain ⟨⟨az, aB⟩, A50, H⟩ := H
 have A5 := ak A50
 clear A50
 by_cases c6 : az = 0
 ·rw [if_pos c6] at H
  have c6b0 : (az == 0) = true := beq_iff_eq.mpr c6
  have c6b1 : (az != 0) = false := bne_eq_false_iff_eq.mpr c6
  clear c6
  by_cases c7 : 0 ≤ ac
  rotate_left
  ·rw [if_neg c7] at H
   exact absurd H (by simp)
  rw [if_pos c7] at H
  have c7b0 : decide (0 ≤ ac) = true := decide_eq_true c7
  clear c7
  by_cases c8 : ac < (ae.length : Int)
  rotate_left
  ·rw [if_neg c8] at H
   exact absurd H (by simp)
  rw [if_pos c8] at H
  have c8b0 : decide (ac < (ae.length : Int)) = true := decide_eq_true c8
  clear c8
  obtain ⟨bg, bh⟩ : ∃ y_ : List Int, y_ = (([(-1), 8, (qZa ae ac).f0] : List Int)) := ⟨_, rfl⟩
  replace H : ((spec_l30Rd_one.f k aj aB bg).bind fun aK => (some (ao, (ae.set (ac : Int).toNat (⟨(qZa ae ac).f0, aK.1, (qZa ae ac).f2, (qZa ae ac).f3, (qZa ae ac).f4⟩ : S58)), aK.2))) = some (r1, r2, r3) := by (rw [bh]; with_reducible exact H)
  have bP := ak bh
  clear bh
  replace H := Option.bind_eq_some_iff.mp H
  obtain ⟨⟨aG, bz⟩, A90, H⟩ := H
  have A9 := ak A90
  clear A90
  obtain ⟨bQ, bi⟩ : ∃ y_ : List (S58), y_ = (ae.set (ac : Int).toNat (⟨(qZa ae ac).f0, aG, (qZa ae ac).f2, (qZa ae ac).f3, (qZa ae ac).f4⟩ : S58)) := ⟨_, rfl⟩
  replace H : (some (ao, bQ, bz)) = some (r1, r2, r3) := by (rw [bi]; with_reducible exact H)
  have bR := ak bi
  clear bi
  simp only [Option.some.injEq, Prod.mk.injEq] at H
  obtain ⟨rfl, rfl, rfl⟩ := H
  go_enter Try.func45, Try.ntmps45
  try go_wp2_with (first | ((with_reducible refine gate_dst (N := 2) rfl ?_); refine qZh ?hg (N := 2) ?hd (cs := #[.int .i64 0, .slice none 0 0]) (t := 25) ?hr ?_; (case hd => rfl); (case hg => rfl); (case hr => (go_simp; done)); intro af hg w11 hbox hb; replace HB := ak (qZd (by repeat ((with_reducible exact HB.out))) hb); have aa := ak (hbox); have aE := ak ((by rw [hg]; exact (qQf (w := w) (g := g) (row := none) (by repeat ((with_reducible exact HK.out)))) : w.heap.size ≤ af)); have aF := ak ((Nat.le_trans HW0.out (by rw [hg]; exact (qQf (w := w) (g := g) (row := none) (by repeat ((with_reducible exact HK.out)))) : w.heap.size ≤ af) : w0.heap.size ≤ af)); replace HK := ak (KeepBut.trans (by repeat ((with_reducible exact HK.out))) (KeepBut.of_below hb g none) (.inl rfl)); have aq := ak ((by rw [hg]; exact Nat.ne_of_lt (IsS95.lt (show IsS95 w0 _ g aj ay from by repeat ((with_reducible exact HI0.out)))) : g ≠ af)); have al := ak ((by rw [hg]; exact Nat.ne_of_gt (IsS95.lt (show IsS95 w0 _ g aj ay from by repeat ((with_reducible exact HI0.out)))) : af ≠ g)); replace HI0 := ak (IsS95.below (by repeat ((with_reducible exact HI0.out))) hb); clear hb hbox hg) | ((with_reducible refine gate_callee (f := 86) rfl ?_); refine qQi (some 6) rfl rfl Try.func86 (by kernel_rfl) rfl #[.pointer (some ⟨g, 0, none⟩)] rfl (by (try simp only [List.map_toArray, List.map_cons, List.map_nil]); rfl) ?_; (with_reducible refine (spec_l30Net.calls k g aj ay ao ae ax w0 _ ?side1 ?side2 A2.out).mono ?_); (case side1 => repeat ((with_reducible exact HI0.out))); (case side2 => repeat ((with_reducible exact HB.out))); rintro e w12 ⟨br, rfl, ho0, hi, hb, hk⟩; refine ⟨_, rfl, ?_⟩; replace aa := ak (KeepBut.blk hk (g' := af) (o := .cells #[.int .i64 0, .slice none 0 0] 25 (0, 0)) (bk aa) al.out (by simp)); have ad := ak (Kd.R_lower ho0 (qQf (w := w) (g := g) (row := none) (by repeat ((with_reducible exact HK.out))))); replace HK := ak (KeepBut.trans (by repeat ((with_reducible exact HK.out))) hk (.inl rfl)); replace HB := ak (hb); replace HI0 := ak (hi); (try clear hb); (try clear hb2); (try clear hk); (try clear hi); (try clear ho0)) | ((with_reducible refine gate_dst (N := 3) rfl ?_); refine qZh ?hg (N := 3) ?hd (cs := #[.int .i64 0, .slice none 0 0]) (t := 25) ?hr ?_; (case hd => rfl); (case hg => rfl); (case hr => (go_simp; done)); intro ag hg w13 hbox hb; replace ad := ak (Kd.R_below (rk ad) hb); replace HB := ak (qZd (by repeat ((with_reducible exact HB.out))) hb); have ab := ak (hbox); have aC := ak ((by rw [hg]; exact (qQf (w := w) (g := g) (row := none) (by repeat ((with_reducible exact HK.out)))) : w.heap.size ≤ ag)); have aD := ak ((Nat.le_trans HW0.out (by rw [hg]; exact (qQf (w := w) (g := g) (row := none) (by repeat ((with_reducible exact HK.out)))) : w.heap.size ≤ ag) : w0.heap.size ≤ ag)); replace HK := ak (KeepBut.trans (by repeat ((with_reducible exact HK.out))) (KeepBut.of_below hb g none) (.inl rfl)); have ai := ak ((by rw [hg]; exact Nat.ne_of_lt (qZk (bk aa)) : af ≠ ag)); have ar := ak ((by rw [hg]; exact Nat.ne_of_gt (qZk (bk aa)) : ag ≠ af)); replace aa := ak (qZe (bk aa) hb); have ap := ak ((by rw [hg]; exact Nat.ne_of_lt (IsS95.lt (show IsS95 w0 _ g aj ax from by repeat ((with_reducible exact HI0.out)))) : g ≠ ag)); have am := ak ((by rw [hg]; exact Nat.ne_of_gt (IsS95.lt (show IsS95 w0 _ g aj ax from by repeat ((with_reducible exact HI0.out)))) : ag ≠ g)); replace HI0 := ak (IsS95.below (by repeat ((with_reducible exact HI0.out))) hb); clear hb hbox hg; have es := ar.out; have et := ai.out; have eu := am.out; have ev := ap.out; have cz := bc w13 ab 0 (.int .i64 0) rfl; have cA := bc w13 ab 1 (.slice none 0 0) rfl; have cB := fz ab 0; have cC := fz ab 1; obtain ⟨bA, aP, dz⟩ := Kd.R_slice ad.out; subst dz) | ((with_reducible refine gate_callee (f := 87) rfl ?_); refine qQi (some 15) rfl rfl Try.func87 (by kernel_rfl) rfl #[.pointer (some ⟨g, 0, none⟩), .int .i64 (ae.length : Int)] rfl (by (try simp only [List.map_toArray, List.map_cons, List.map_nil]); rfl) ?_; (with_reducible refine (spec_l30Rd_pick.calls k g aj ax (ae.length : Int) ac aO w0 _ ?side1 ?side2 A4.out).mono ?_); (case side1 => repeat ((with_reducible first | exact HI0.out | refine IsS95.far ?_ ap.out _))); (case side2 => repeat ((with_reducible first | exact HB.out | refine below_set ?_ aD.out))); rintro e w18 ⟨rfl, hi, hb, hk⟩; refine ⟨_, rfl, ?_⟩; replace aa := ak (KeepBut.blk hk (g' := af) (o := .cells #[.int .i64 0, .slice none 0 0] 25 (0, 0)) (by refine blk_far ?_ ai.out _; refine blk_far ?_ ai.out _; exact aa.out) al.out (by simp)); replace ad := ak (Kd.R_mono (Kd.R_keep (IsS95.apart (show IsS95 w0 _ g aj ax from by repeat ((with_reducible first | exact HI0.out | refine IsS95.far ?_ ap.out _))) (by exact (Kd.R_mono (Kd.R_far (p := ⟨ag, 1, none⟩) (Kd.R_far (p := ⟨ag, 0, none⟩) (Kd.R_types ad.out ab.out (by decide)) (fun _ hk => hk.2) (.int .i64 ao)) (fun _ hk => hk.2) (.slice bA ae.length aP)) (fun _ h_ => h_.1))) (by decide)) hk (fun _ h => h.2)) (fun _ h => h.1)); replace ab := ak (KeepBut.blk hk (g' := ag) (o := .cells #[.int .i64 ao, .slice bA ae.length aP] 25 (0, 0)) (by refine qZg (cs := #[.int .i64 ao, .slice none 0 0]) ?_ 1 _ rfl; refine qZg (cs := #[.int .i64 0, .slice none 0 0]) ?_ 0 _ rfl; exact ab.out) am.out (by simp)); replace HK := ak (KeepBut.trans (by repeat ((with_reducible first | exact HK.out | refine keep_far ?_ aC.out _))) hk (.inl rfl)); replace HB := ak (hb); replace HI0 := ak (hi); (try clear hb); (try clear hb2); (try clear hk); (try clear hi)) | ((with_reducible refine gate_callee (f := 87) rfl ?_); refine qQi (some 17) rfl rfl Try.func87 (by kernel_rfl) rfl #[.pointer (some ⟨g, 0, none⟩), .int .i64 16] rfl (by (try simp only [List.map_toArray, List.map_cons, List.map_nil]); rfl) ?_; (with_reducible refine (spec_l30Rd_pick.calls k g aj aO 16 az aB w0 _ ?side1 ?side2 A5.out).mono ?_); (case side1 => repeat ((with_reducible exact HI0.out))); (case side2 => repeat ((with_reducible exact HB.out))); rintro e w19 ⟨rfl, hi, hb, hk⟩; refine ⟨_, rfl, ?_⟩; replace aa := ak (KeepBut.blk hk (g' := af) (o := .cells #[.int .i64 0, .slice none 0 0] 25 (0, 0)) (bk aa) al.out (by simp)); replace ad := ak (Kd.R_mono (Kd.R_keep (IsS95.apart (show IsS95 w0 _ g aj aO from by repeat ((with_reducible exact HI0.out))) (rk ad) (by decide)) hk (fun _ h => h.2)) (fun _ h => h.1)); replace ab := ak (KeepBut.blk hk (g' := ag) (o := .cells #[.int .i64 ao, .slice bA ae.length aP] 25 (0, 0)) (bk ab) am.out (by simp)); replace HK := ak (KeepBut.trans (by repeat ((with_reducible exact HK.out))) hk (.inl rfl)); replace HB := ak (hb); replace HI0 := ak (hi); (try clear hb); (try clear hb2); (try clear hk); (try clear hi)))
  replace ad := ak (Kd.R_drew ad.out)
  replace aa := ak (qZp aa.out)
  replace ab := ak (qZp ab.out)
  replace HI0 := ak (IsS95.drew HI0.out)
  replace HK := ak (qKo HK.out)
  replace HB := ak (qQg HB.out)
  have bB : 0 ≤ (ac : Int) := oT (by (with_reducible assumption))
  have bC : ac < (ae.length : Int) := oT (by (with_reducible assumption))
  obtain ⟨aA, dA, aW, aX, aY, aZ, ba⟩ := qJi (Kd.R_reads' ad.out).2.2 ac bB bC
  cases dA
  replace bB := eq_true bB
  replace bC := eq_true bC
  refine qJj (n := 15) (S := fun w' => w'.cell? ⟨ag, 0, none⟩ = some (.int .i64 ao) ∧ w'.cell? ⟨ag, 1, none⟩ = some (.slice (some aA) ae.length aP) ∧ w'.cell? (aA.add ((ac).toNat * 5)) = some (.int .i64 ((qZa ae ac).f0)) ∧ w'.cell? ⟨(aA.add ((ac).toNat * 5)).block, (aA.add ((ac).toNat * 5)).off + 1, none⟩ = some (.int .i64 ((qZa ae ac).f1)) ∧ w'.cell? ⟨(aA.add ((ac).toNat * 5)).block, (aA.add ((ac).toNat * 5)).off + 2, none⟩ = some (.int .i64 ((qZa ae ac).f2)) ∧ w'.cell? ⟨(aA.add ((ac).toNat * 5)).block, (aA.add ((ac).toNat * 5)).off + 3, none⟩ = some (.int .i64 ((qZa ae ac).f3)) ∧ w'.cell? ⟨(aA.add ((ac).toNat * 5)).block, (aA.add ((ac).toNat * 5)).off + 4, none⟩ = some (.int .i64 ((qZa ae ac).f4))) (ds := [14]) (ms 15 0) (by kernel_rfl) rfl (by kernel_rfl) ⟨(qZb ab.out 0).trans rfl, (qZb ab.out 1).trans rfl, aW, aX, aY, aZ, ba⟩ (fun hHeld => ?_); refine qQo spec_l30AnyNet.tab6 spec_l30AnyNet.bits6 (fun HT_ HW_ => ?_)
  generalize w19.drew = w20 at ad aa ab HI0 HK HB aW aX aY aZ ba hHeld ⊢
  refine pu 0 20 ?_ (ms 15 1) rfl rfl HT_ (by kernel_rfl) (fun _ _ _ h => h) (by rfl) ?_ ?_ ?_ ?_
  rotate_left
  ·intro w'
   go_simp
   with_reducible rfl
  rotate_left
  ·simp only [SX]
   rfl
  refine pu 2 22 ?_ (ms 15 5) rfl rfl HT_ (by kernel_rfl) (fun _ _ _ h => h) (by rfl) ?_ ?_ ?_ ?_
  rotate_left
  ·intro w'
   go_simp
   with_reducible rfl
  rotate_left
  ·simp only [SX]
   rfl
  refine pu 3 23 ?_ (ms 15 13) rfl rfl HT_ (by kernel_rfl) (fun _ _ _ h => h) (by rfl) ?_ ?_ ?_ ?_
  rotate_left
  ·intro w'
   go_simp
   with_reducible rfl
  rotate_left
  ·simp only [SX]
   rfl
  refine pu 4 24 ?_ (ms 15 29) rfl rfl HT_ (by kernel_rfl) (fun _ _ _ h => h) (by rfl) ?_ ?_ ?_ ?_
  rotate_left
  ·intro w'
   go_simp
   with_reducible rfl
  rotate_left
  ·simp only [SX]
   rfl
  refine pu 6 26 ?_ (ms 15 93) rfl rfl HT_ (by kernel_rfl) (fun _ _ _ h => h) (by rfl) ?_ ?_ ?_ ?_
  rotate_left
  ·intro w'
   go_simp
   with_reducible rfl
  rotate_left
  ·simp only [SX]
   rfl
  refine tk 1 21 ?_ (ms 15 95) rfl rfl HT_ HW_ (by kernel_rfl) (fun _ _ _ h => h) (by rfl) ?_ hHeld ?_ ?_ ?_
  rotate_left
  ·rintro w' ⟨s0, s1, s2, s3, s4, s5, s6⟩
   go_simp
   with_reducible rfl
  rotate_left
  ·simp only [SX]
   rfl
  refine tk 5 25 ?_ (ms 15 127) rfl rfl HT_ HW_ (by kernel_rfl) (fun _ _ _ h => h) (by rfl) ?_ hHeld ?_ ?_ ?_
  rotate_left
  ·rintro w' ⟨s0, s1, s2, s3, s4, s5, s6⟩
   go_simp
   with_reducible rfl
  rotate_left
  ·simp only [SX]
   rfl
  refine pu 7 27 ?_ (ms 15 255) rfl rfl HT_ (by kernel_rfl) (fun _ _ _ h => h) (by rfl) ?_ ?_ ?_ ?_
  rotate_left
  ·intro w'
   go_simp
   with_reducible rfl
  rotate_left
  ·simp only [SX]
   rfl
  refine pu 8 28 ?_ (ms 15 511) rfl rfl HT_ (by kernel_rfl) (fun _ _ _ h => h) (by rfl) ?_ ?_ ?_ ?_
  rotate_left
  ·intro w'
   go_simp
   with_reducible rfl
  rotate_left
  ·simp only [SX]
   rfl
  refine tk 9 29 ?_ (ms 15 1023) rfl rfl HT_ HW_ (by kernel_rfl) (fun _ _ _ h => h) (by rfl) ?_ hHeld ?_ ?_ ?_
  rotate_left
  ·rintro w' ⟨s0, s1, s2, s3, s4, s5, s6⟩
   go_simp
   with_reducible rfl
  rotate_left
  ·simp only [SX]
   rfl
  refine one_ (i := 10) (N := some 30) (ms 15 2047) rfl rfl (qJa HT_.out (by kernel_rfl)) (by decide) (fun K hK => ?_)
  refine Kd.R_lit_step (Kd.int .i64) _ 3 ?hg (N := 30) ?hd (xs := ([(-1), 8, (qZa ae ac).f0] : List Int)) (inner := [.int .i64 (-1), .int .i64 8, .int .i64 ((qZa ae ac).f0)]) (ok := fun _ => True) (okp := fun _ => True) ?hr ?hp (fun _ hk => hk) trivial (Below.refl _ _) (Nat.le_refl _) (by simp) ?_; (case hd => rfl); (case hg => rfl); (case hr => (go_simp; done)); (case hp => exact (Reps.one (show Kd.M (Kd.int .i64) _ _ _ (-1) [.int .i64 (-1)] from rfl) (Reps.one (show Kd.M (Kd.int .i64) _ _ _ 8 [.int .i64 8] from rfl) (Reps.one (show Kd.M (Kd.int .i64) _ _ _ ((qZa ae ac).f0) [.int .i64 ((qZa ae ac).f0)] from rfl) (Reps.none _ _)))))
  intro eR w21 bD hb hg_ hnew_
  have bE := (hb.cell (World.block_lt_of_cell? _ _ (hHeld.2.2.1))).trans (hHeld.2.2.1)
  have bF := (hb.cell (World.block_lt_of_cell? _ _ (hHeld.2.2.2.1))).trans (hHeld.2.2.2.1)
  have bG := (hb.cell (World.block_lt_of_cell? _ _ (hHeld.2.2.2.2.1))).trans (hHeld.2.2.2.2.1)
  have bH := (hb.cell (World.block_lt_of_cell? _ _ (hHeld.2.2.2.2.2.1))).trans (hHeld.2.2.2.2.2.1)
  have bI := (hb.cell (World.block_lt_of_cell? _ _ (hHeld.2.2.2.2.2.2))).trans (hHeld.2.2.2.2.2.2)
  clear hg_ hnew_
  (rw [← bP.out] at bD)
  replace ad := ak (Kd.R_below (rk ad) hb)
  have aH := ak (Kd.R_lower bD (qQf (w := w) (g := g) (row := none) (by repeat ((with_reducible exact HK.out)))))
  replace aa := ak (qZe (bk aa) hb)
  replace ab := ak (qZe (bk ab) hb)
  replace HK := ak (KeepBut.trans (by repeat ((with_reducible exact HK.out))) (KeepBut.of_below hb g none) (.inl rfl))
  replace HB := ak (qZd (by repeat ((with_reducible exact HB.out))) hb)
  replace HI0 := ak (IsS95.below (by repeat ((with_reducible exact HI0.out))) hb)
  clear hb bD
  obtain ⟨bS, bT, dB⟩ := Kd.R_slice aH.out
  (subst dB)
  refine hK.out _ _ ⟨(qZb ab.out 0).trans rfl, (qZb ab.out 1).trans rfl, bE, bF, bG, bH, bI⟩ (fun hHeld => ?_)
  clear hK K
  refine qJd (a' := ?_) ?_ ?_
  rotate_left
  ·show Act.put _ (some 30) _ = _
   simp only [SX]
   rfl
  refine one_ (i := 11) (N := some 31) (ms 15 4095) rfl rfl (qJa HT_.out (by kernel_rfl)) (by decide) (fun K hK => ?_)
  refine qXc Try.func47 (by kernel_rfl) rfl #[.pointer (some ⟨g, 0, none⟩), .slice bS bg.length bT] (by rfl) rfl rfl (by (try simp only [List.map_toArray, List.map_cons, List.map_nil]); rfl) ?_
  with_reducible refine (spec_l30Rd_one.calls k g aj aB _ _ bg aG bz w0 _ ?side1 ?side2 ?side3 ?side4 ?side5 A9.out).mono ?_
  (case side1 => repeat ((with_reducible exact HI0.out)))
  (case side2 => repeat ((with_reducible exact HB.out)))
  (case side3 => repeat (exact (Kd.R_reads' aH.out).2.2))
  (case side4 => exact (Kd.R_reads' aH.out).2.1)
  (case side5 => exact qVa (IsS95.own_ne HI0.out aH.out (by decide)))
  rintro e w24 ⟨rfl, hi, hb, hk⟩
  have bE := qXg hk (hHeld.2.2.1) (by (rw [qJm]; exact Kd.own_blk (IsS95.own_ne HI0.out ad.out (by decide))))
  have bF := qXg hk (hHeld.2.2.2.1) (by (rw [qJm]; exact Kd.own_blk (IsS95.own_ne HI0.out ad.out (by decide))))
  have bG := qXg hk (hHeld.2.2.2.2.1) (by (rw [qJm]; exact Kd.own_blk (IsS95.own_ne HI0.out ad.out (by decide))))
  have bH := qXg hk (hHeld.2.2.2.2.2.1) (by (rw [qJm]; exact Kd.own_blk (IsS95.own_ne HI0.out ad.out (by decide))))
  have bI := qXg hk (hHeld.2.2.2.2.2.2) (by (rw [qJm]; exact Kd.own_blk (IsS95.own_ne HI0.out ad.out (by decide))))
  refine ⟨_, rfl, ?_⟩
  replace aa := ak (KeepBut.blk hk (g' := af) (o := .cells #[.int .i64 0, .slice none 0 0] 25 (0, 0)) (bk aa) al.out (by simp))
  replace ad := ak (Kd.R_mono (Kd.R_keep (IsS95.apart (show IsS95 w0 _ g aj aB from by repeat ((with_reducible exact HI0.out))) (rk ad) (by decide)) hk (fun _ h => h.2)) (fun _ h => h.1))
  replace ab := ak (KeepBut.blk hk (g' := ag) (o := .cells #[.int .i64 ao, .slice (some aA) ae.length aP] 25 (0, 0)) (bk ab) am.out (by simp))
  replace aH := ak (Kd.R_mono (Kd.R_keep (IsS95.apart (show IsS95 w0 _ g aj aB from by repeat ((with_reducible exact HI0.out))) (rk aH) (by decide)) hk (fun _ h => h.2)) (fun _ h => h.1))
  replace HK := ak (KeepBut.trans (by repeat ((with_reducible exact HK.out))) hk (.inl rfl))
  replace HB := ak (hb)
  replace HI0 := ak (hi)
  (try clear hb)
  (try clear hb2)
  (try clear hk)
  (try clear hi)
  have p10 : 0 ≤ (ac : Int) := oT (by (with_reducible assumption))
  have q10 : (ac : Int) < ((ae.length : Int) : Int) := oT (by (with_reducible assumption))
  obtain ⟨au, eS, dC, bU, dD, eT, bV⟩ := Kd.R_form ad.out (by omega)
  (cases dC)
  have bW := ak bU
  have dE := ak bV
  clear bU dD bV
  (simp only [qJf] at aW)
  (simp only [qJf] at aX)
  (simp only [qJf] at aY)
  (simp only [qJf] at aZ)
  (simp only [qJf] at ba)
  obtain ⟨eU, bX, bY, aR, aS⟩ := Kd.R_elem ad.out z58 (ac : Int) p10 q10
  obtain rfl := qWd bY
  have dF : World.cell? _ ⟨au, (ac : Int).toNat * 5, none⟩ = some (.int .i64 ((qZa ae ac).f0)) := aR 0 _ rfl
  have dG : World.cell? _ ⟨au, (ac : Int).toNat * 5 + 1, none⟩ = some (.int .i64 ((qZa ae ac).f1)) := aR 1 _ rfl
  have dH : World.cell? _ ⟨au, (ac : Int).toNat * 5 + 2, none⟩ = some (.int .i64 ((qZa ae ac).f2)) := aR 2 _ rfl
  have dI : World.cell? _ ⟨au, (ac : Int).toNat * 5 + 3, none⟩ = some (.int .i64 ((qZa ae ac).f3)) := aR 3 _ rfl
  have dJ : World.cell? _ ⟨au, (ac : Int).toNat * 5 + 4, none⟩ = some (.int .i64 ((qZa ae ac).f4)) := aR 4 _ rfl
  have dK : World.frozen? _ ⟨au, (ac : Int).toNat * 5, none⟩ = false := aS 0
  have dL : World.frozen? _ ⟨au, (ac : Int).toNat * 5 + 1, none⟩ = false := aS 1
  have dM : World.frozen? _ ⟨au, (ac : Int).toNat * 5 + 2, none⟩ = false := aS 2
  have dN : World.frozen? _ ⟨au, (ac : Int).toNat * 5 + 3, none⟩ = false := aS 3
  have dO : World.frozen? _ ⟨au, (ac : Int).toNat * 5 + 4, none⟩ = false := aS 4
  clear bX aR aS bY
  replace p10 := eq_true p10
  replace q10 := eq_true q10
  have HN0_go10 := ak (show g ≠ au from by have h_ := IsS95.own_ne HI0.out ad.out (by decide); intro e_; exact h_ (by rw [e_]; rfl))
  obtain ⟨eV, bs, bZ, bt, ca⟩ := Kd.R_elem ad.out z58 (ac : Int) (oT (by (with_reducible assumption))) (by have h_ : (ac : Int) < ((ae.length : Int) : Int) := oT (by (with_reducible assumption)); exact h_)
  obtain rfl := qWd bZ
  have bJ := (Kd.R_seg ad.out (ac : Int) (oT (by (with_reducible assumption))) (by have h_ : (ac : Int) < ((ae.length : Int) : Int) := oT (by (with_reducible assumption)); exact h_) (seg := [.int .i64 aG]) (j := 1) bs bt (show 2 ≤ 5 from by decide) (x' := (⟨(qZa ae ac).f0, aG, (qZa ae ac).f2, (qZa ae ac).f3, (qZa ae ac).f4⟩ : S58)) (k58_mkM _ _ _ (⟨(qZa ae ac).f0, aG, (qZa ae ac).f2, (qZa ae ac).f3, (qZa ae ac).f4⟩ : S58) ) (fun _ hk => hk)).1
  rw [← bR.out] at bJ
  have dP := ak bJ
  clear bs bt ca bZ bJ
  refine hK.out _ _ ⟨(qZb ab.out 0).trans rfl, (qZb ab.out 1).trans rfl, bE, bF, bG, bH, bI⟩ (fun hHeld => ?_)
  clear hK K
  refine qJd (a' := ?_) ?_ ?_
  rotate_left
  ·show Act.put _ (some 31) _ = _
   simp only [SX]
   rfl
  refine pu 12 32 ?_ (ms 15 8191) rfl rfl HT_ (by kernel_rfl) (fun _ _ _ h => h) (by rfl) ?_ ?_ ?_ ?_
  rotate_left
  ·intro w'
   go_simp
   with_reducible rfl
  rotate_left
  ·simp only [SX]
   rfl
  refine pu 13 33 ?_ (ms 15 16383) rfl rfl HT_ (by kernel_rfl) (fun _ _ _ h => h) (by rfl) ?_ ?_ ?_ ?_
  rotate_left
  ·intro w'
   go_simp
   with_reducible rfl
  rotate_left
  ·simp only [SX]
   rfl
  refine last_ (i := 14) (N := none) (ms 15 32767) rfl rfl (qJa HT_.out (by kernel_rfl)) (by decide) (fun K hK => ?_)
  refine skip_ (w1 := ?_) (by rfl) rfl ?_ ?_
  rotate_left
  ·go_simp
   rfl
  refine hK.out _ _ ?_
  clear hK K
  refine qXe (qJg HT_.out (by kernel_rfl)) ?_
  have n0_ : Aside0 (Kd.R k58 58 (w24.setCell ⟨au, (ac : Int).toNat * 5 + 1, none⟩ (.int .i64 aG)) w.heap.size (fun _ => True) (.slice (some ⟨au, 0, none⟩) ae.length aP) bQ) := ⟨by exact dP.out⟩
  have n1_ : Aside0 (Kd.R (Kd.int .i64) 3 (w24.setCell ⟨au, (ac : Int).toNat * 5 + 1, none⟩ (.int .i64 aG)) w.heap.size (fun _ => True) (.slice bS bg.length bT) bg) := ⟨by exact Kd.R_mono (Kd.R_far (p := ⟨au, (ac : Int).toNat * 5 + 1, none⟩) (Kd.R_types aH.out dE.out (by decide)) (fun _ hk => hk.2) (.int .i64 aG)) (fun _ hk => trivial)⟩
  have n2_ : Aside0 ((w24.setCell ⟨au, (ac : Int).toNat * 5 + 1, none⟩ (.int .i64 aG)).heap[af]? = some (.cells #[.int .i64 0, .slice none 0 0] 25 (0, 0))) := ⟨by refine blk_far ?_ (by have h_ := Kd.R_ne ad.out aa.out (by decide); intro e_; exact h_ (by rw [e_]; rfl)) _; exact aa.out⟩
  have n3_ : Aside0 ((w24.setCell ⟨au, (ac : Int).toNat * 5 + 1, none⟩ (.int .i64 aG)).heap[ag]? = some (.cells #[.int .i64 ao, .slice (some ⟨au, 0, none⟩) ae.length aP] 25 (0, 0))) := ⟨by refine blk_far ?_ (by have h_ := Kd.R_ne ad.out ab.out (by decide); intro e_; exact h_ (by rw [e_]; rfl)) _; exact ab.out⟩
  have n4_ : Aside0 (IsS95 w0 (w24.setCell ⟨au, (ac : Int).toNat * 5 + 1, none⟩ (.int .i64 aG)) g aj bz) := ⟨by repeat ((with_reducible first | exact HI0.out | refine IsS95.far ?_ HN0_go10.out _))⟩
  have n5_ : Aside0 (KeepBut w (w24.setCell ⟨au, (ac : Int).toNat * 5 + 1, none⟩ (.int .i64 aG)) g none) := ⟨by repeat ((with_reducible first | exact HK.out | refine keep_far ?_ bW.out _))⟩
  have n6_ : Aside0 (Below w0.heap.size w0 (w24.setCell ⟨au, (ac : Int).toNat * 5 + 1, none⟩ (.int .i64 aG))) := ⟨by repeat ((with_reducible first | exact HB.out | refine below_set ?_ (Nat.le_trans HL.out bW.out)))⟩
  (try clear ad)
  (try clear aH)
  (try clear aa)
  (try clear ab)
  (try clear HI0)
  (try clear HK)
  (try clear HB)
  generalize (w24.setCell ⟨au, (ac : Int).toNat * 5 + 1, none⟩ (.int .i64 aG)) = w26 at n0_ n1_ n2_ n3_ n4_ n5_ n6_ ⊢
  have ad := n0_
  have aH := n1_
  have aa := n2_
  have ab := n3_
  have HI0 := n4_
  have HK := n5_
  have HB := n6_
  clear n0_ n1_ n2_ n3_ n4_ n5_ n6_
  have cD := bc w26 ab 0 (.int .i64 ao) rfl
  have cE := bc w26 ab 1 (.slice (some ⟨au, 0, none⟩) ae.length aP) rfl
  have cF := fz ab 0
  have cG := fz ab 1
  have ew := al.out
  have ex := aq.out
  have cH := bc w26 aa 0 (.int .i64 0) rfl
  have cI := bc w26 aa 1 (.slice none 0 0) rfl
  have cJ := fz aa 0
  have cK := fz aa 1
  try go_wp2
  refine bodyPost_ret (results_cell_row rfl _ _ af 25 #[.int .i64 ao, .slice (some ⟨au, 0, none⟩) ae.length aP] (0, 0) _ rfl (by refine qZg (cs := #[.int .i64 ao, .slice none 0 0]) ?_ 1 _ rfl; refine qZg (cs := #[.int .i64 0, .slice none 0 0]) ?_ 0 _ rfl; exact aa.out) Try.underlying25 rfl (by kernel_rfl)) rfl ?_
  exact ⟨_, by rfl, by exact Kd.R_mono (Kd.R_far (p := ⟨af, 1, none⟩) (Kd.R_far (p := ⟨af, 0, none⟩) (Kd.R_types ad.out aa.out (by decide)) (fun _ hk => hk.2) (.int .i64 ao)) (fun _ hk => hk.2) (.slice (some ⟨au, 0, none⟩) ae.length aP)) (fun _ hk => trivial), by repeat ((with_reducible first | exact HI0.out | refine IsS95.far ?_ aq.out _)), by repeat ((with_reducible first | exact HB.out | refine below_set ?_ aF.out)), by repeat ((with_reducible first | exact HK.out | refine keep_far ?_ aE.out _))⟩
 rw [if_neg c6] at H
 have c6b0 : (az == 0) = false := beq_eq_false_iff_ne.mpr c6
 have c6b1 : (az != 0) = true := bne_iff_ne.mpr c6
 by_cases c30 : az = 1
 ·rw [if_pos c30] at H
  have c30b0 : (az == 1) = true := beq_iff_eq.mpr c30
  have c30b1 : (az != 1) = false := bne_eq_false_iff_eq.mpr c30
  clear c30
  obtain ⟨bj, bm⟩ : ∃ y_ : List Int, y_ = (([(-1), 100] : List Int)) := ⟨_, rfl⟩
  replace H : ((spec_l30Rd_one.f k aj aB bj).bind fun aL => (if 0 ≤ ac then (if ac < (ae.length : Int) then (some (ao, (ae.set (ac : Int).toNat (⟨(qZa ae ac).f0, (qZa ae ac).f1, aL.1, (qZa ae ac).f3, (qZa ae ac).f4⟩ : S58)), aL.2)) else (none)) else (none))) = some (r1, r2, r3) := by (rw [bm]; with_reducible exact H)
  have cb := ak bm
  clear bm
  replace H := Option.bind_eq_some_iff.mp H
  obtain ⟨⟨aI, bK⟩, cc, H⟩ := H
  have A31 := ak cc
  clear cc
  by_cases c32 : 0 ≤ ac
  rotate_left
  ·rw [if_neg c32] at H
   exact absurd H (by simp)
  rw [if_pos c32] at H
  have c32b0 : decide (0 ≤ ac) = true := decide_eq_true c32
  clear c32
  by_cases c33 : ac < (ae.length : Int)
  rotate_left
  ·rw [if_neg c33] at H
   exact absurd H (by simp)
  rw [if_pos c33] at H
  have c33b0 : decide (ac < (ae.length : Int)) = true := decide_eq_true c33
  clear c33
  obtain ⟨cd, bn⟩ : ∃ y_ : List (S58), y_ = (ae.set (ac : Int).toNat (⟨(qZa ae ac).f0, (qZa ae ac).f1, aI, (qZa ae ac).f3, (qZa ae ac).f4⟩ : S58)) := ⟨_, rfl⟩
  replace H : (some (ao, cd, bK)) = some (r1, r2, r3) := by (rw [bn]; with_reducible exact H)
  have ce := ak bn
  clear bn
  simp only [Option.some.injEq, Prod.mk.injEq] at H
  obtain ⟨rfl, rfl, rfl⟩ := H
  go_enter Try.func45, Try.ntmps45
  try go_wp2_with (first | ((with_reducible refine gate_dst (N := 2) rfl ?_); refine qZh ?hg (N := 2) ?hd (cs := #[.int .i64 0, .slice none 0 0]) (t := 25) ?hr ?_; (case hd => rfl); (case hg => rfl); (case hr => (go_simp; done)); intro af hg w35 hbox hb; replace HB := ak (qZd (by repeat ((with_reducible exact HB.out))) hb); have aa := ak (hbox); have aE := ak ((by rw [hg]; exact (qQf (w := w) (g := g) (row := none) (by repeat ((with_reducible exact HK.out)))) : w.heap.size ≤ af)); have aF := ak ((Nat.le_trans HW0.out (by rw [hg]; exact (qQf (w := w) (g := g) (row := none) (by repeat ((with_reducible exact HK.out)))) : w.heap.size ≤ af) : w0.heap.size ≤ af)); replace HK := ak (KeepBut.trans (by repeat ((with_reducible exact HK.out))) (KeepBut.of_below hb g none) (.inl rfl)); have aq := ak ((by rw [hg]; exact Nat.ne_of_lt (IsS95.lt (show IsS95 w0 _ g aj ay from by repeat ((with_reducible exact HI0.out)))) : g ≠ af)); have al := ak ((by rw [hg]; exact Nat.ne_of_gt (IsS95.lt (show IsS95 w0 _ g aj ay from by repeat ((with_reducible exact HI0.out)))) : af ≠ g)); replace HI0 := ak (IsS95.below (by repeat ((with_reducible exact HI0.out))) hb); clear hb hbox hg) | ((with_reducible refine gate_callee (f := 86) rfl ?_); refine qQi (some 6) rfl rfl Try.func86 (by kernel_rfl) rfl #[.pointer (some ⟨g, 0, none⟩)] rfl (by (try simp only [List.map_toArray, List.map_cons, List.map_nil]); rfl) ?_; (with_reducible refine (spec_l30Net.calls k g aj ay ao ae ax w0 _ ?side1 ?side2 A2.out).mono ?_); (case side1 => repeat ((with_reducible exact HI0.out))); (case side2 => repeat ((with_reducible exact HB.out))); rintro e w36 ⟨br, rfl, ho0, hi, hb, hk⟩; refine ⟨_, rfl, ?_⟩; replace aa := ak (KeepBut.blk hk (g' := af) (o := .cells #[.int .i64 0, .slice none 0 0] 25 (0, 0)) (bk aa) al.out (by simp)); have ad := ak (Kd.R_lower ho0 (qQf (w := w) (g := g) (row := none) (by repeat ((with_reducible exact HK.out))))); replace HK := ak (KeepBut.trans (by repeat ((with_reducible exact HK.out))) hk (.inl rfl)); replace HB := ak (hb); replace HI0 := ak (hi); (try clear hb); (try clear hb2); (try clear hk); (try clear hi); (try clear ho0)) | ((with_reducible refine gate_dst (N := 3) rfl ?_); refine qZh ?hg (N := 3) ?hd (cs := #[.int .i64 0, .slice none 0 0]) (t := 25) ?hr ?_; (case hd => rfl); (case hg => rfl); (case hr => (go_simp; done)); intro ag hg w37 hbox hb; replace ad := ak (Kd.R_below (rk ad) hb); replace HB := ak (qZd (by repeat ((with_reducible exact HB.out))) hb); have ab := ak (hbox); have aC := ak ((by rw [hg]; exact (qQf (w := w) (g := g) (row := none) (by repeat ((with_reducible exact HK.out)))) : w.heap.size ≤ ag)); have aD := ak ((Nat.le_trans HW0.out (by rw [hg]; exact (qQf (w := w) (g := g) (row := none) (by repeat ((with_reducible exact HK.out)))) : w.heap.size ≤ ag) : w0.heap.size ≤ ag)); replace HK := ak (KeepBut.trans (by repeat ((with_reducible exact HK.out))) (KeepBut.of_below hb g none) (.inl rfl)); have ai := ak ((by rw [hg]; exact Nat.ne_of_lt (qZk (bk aa)) : af ≠ ag)); have ar := ak ((by rw [hg]; exact Nat.ne_of_gt (qZk (bk aa)) : ag ≠ af)); replace aa := ak (qZe (bk aa) hb); have ap := ak ((by rw [hg]; exact Nat.ne_of_lt (IsS95.lt (show IsS95 w0 _ g aj ax from by repeat ((with_reducible exact HI0.out)))) : g ≠ ag)); have am := ak ((by rw [hg]; exact Nat.ne_of_gt (IsS95.lt (show IsS95 w0 _ g aj ax from by repeat ((with_reducible exact HI0.out)))) : ag ≠ g)); replace HI0 := ak (IsS95.below (by repeat ((with_reducible exact HI0.out))) hb); clear hb hbox hg; have ey := ar.out; have ez := ai.out; have eA := am.out; have eB := ap.out; have cL := bc w37 ab 0 (.int .i64 0) rfl; have cN := bc w37 ab 1 (.slice none 0 0) rfl; have cO := fz ab 0; have cP := fz ab 1; obtain ⟨bo, aQ, dQ⟩ := Kd.R_slice ad.out; subst dQ) | ((with_reducible refine gate_callee (f := 87) rfl ?_); refine qQi (some 15) rfl rfl Try.func87 (by kernel_rfl) rfl #[.pointer (some ⟨g, 0, none⟩), .int .i64 (ae.length : Int)] rfl (by (try simp only [List.map_toArray, List.map_cons, List.map_nil]); rfl) ?_; (with_reducible refine (spec_l30Rd_pick.calls k g aj ax (ae.length : Int) ac aO w0 _ ?side1 ?side2 A4.out).mono ?_); (case side1 => repeat ((with_reducible first | exact HI0.out | refine IsS95.far ?_ ap.out _))); (case side2 => repeat ((with_reducible first | exact HB.out | refine below_set ?_ aD.out))); rintro e w42 ⟨rfl, hi, hb, hk⟩; refine ⟨_, rfl, ?_⟩; replace aa := ak (KeepBut.blk hk (g' := af) (o := .cells #[.int .i64 0, .slice none 0 0] 25 (0, 0)) (by refine blk_far ?_ ai.out _; refine blk_far ?_ ai.out _; exact aa.out) al.out (by simp)); replace ad := ak (Kd.R_mono (Kd.R_keep (IsS95.apart (show IsS95 w0 _ g aj ax from by repeat ((with_reducible first | exact HI0.out | refine IsS95.far ?_ ap.out _))) (by exact (Kd.R_mono (Kd.R_far (p := ⟨ag, 1, none⟩) (Kd.R_far (p := ⟨ag, 0, none⟩) (Kd.R_types ad.out ab.out (by decide)) (fun _ hk => hk.2) (.int .i64 ao)) (fun _ hk => hk.2) (.slice bo ae.length aQ)) (fun _ h_ => h_.1))) (by decide)) hk (fun _ h => h.2)) (fun _ h => h.1)); replace ab := ak (KeepBut.blk hk (g' := ag) (o := .cells #[.int .i64 ao, .slice bo ae.length aQ] 25 (0, 0)) (by refine qZg (cs := #[.int .i64 ao, .slice none 0 0]) ?_ 1 _ rfl; refine qZg (cs := #[.int .i64 0, .slice none 0 0]) ?_ 0 _ rfl; exact ab.out) am.out (by simp)); replace HK := ak (KeepBut.trans (by repeat ((with_reducible first | exact HK.out | refine keep_far ?_ aC.out _))) hk (.inl rfl)); replace HB := ak (hb); replace HI0 := ak (hi); (try clear hb); (try clear hb2); (try clear hk); (try clear hi)) | ((with_reducible refine gate_callee (f := 87) rfl ?_); refine qQi (some 17) rfl rfl Try.func87 (by kernel_rfl) rfl #[.pointer (some ⟨g, 0, none⟩), .int .i64 16] rfl (by (try simp only [List.map_toArray, List.map_cons, List.map_nil]); rfl) ?_; (with_reducible refine (spec_l30Rd_pick.calls k g aj aO 16 az aB w0 _ ?side1 ?side2 A5.out).mono ?_); (case side1 => repeat ((with_reducible exact HI0.out))); (case side2 => repeat ((with_reducible exact HB.out))); rintro e w43 ⟨rfl, hi, hb, hk⟩; refine ⟨_, rfl, ?_⟩; replace aa := ak (KeepBut.blk hk (g' := af) (o := .cells #[.int .i64 0, .slice none 0 0] 25 (0, 0)) (bk aa) al.out (by simp)); replace ad := ak (Kd.R_mono (Kd.R_keep (IsS95.apart (show IsS95 w0 _ g aj aO from by repeat ((with_reducible exact HI0.out))) (rk ad) (by decide)) hk (fun _ h => h.2)) (fun _ h => h.1)); replace ab := ak (KeepBut.blk hk (g' := ag) (o := .cells #[.int .i64 ao, .slice bo ae.length aQ] 25 (0, 0)) (bk ab) am.out (by simp)); replace HK := ak (KeepBut.trans (by repeat ((with_reducible exact HK.out))) hk (.inl rfl)); replace HB := ak (hb); replace HI0 := ak (hi); (try clear hb); (try clear hb2); (try clear hk); (try clear hi)))
  replace ad := ak (Kd.R_drew ad.out)
  replace aa := ak (qZp aa.out)
  replace ab := ak (qZp ab.out)
  replace HI0 := ak (IsS95.drew HI0.out)
  replace HK := ak (qKo HK.out)
  replace HB := ak (qQg HB.out)
  refine qJj (n := 9) (S := fun w' => w'.cell? ⟨ag, 0, none⟩ = some (.int .i64 ao) ∧ w'.cell? ⟨ag, 1, none⟩ = some (.slice bo ae.length aQ)) (ds := [8]) (ms 9 0) (by kernel_rfl) rfl (by kernel_rfl) ⟨(qZb ab.out 0).trans rfl, (qZb ab.out 1).trans rfl⟩ (fun hHeld => ?_); refine qQo spec_l30AnyNet.tab8 spec_l30AnyNet.bits8 (fun HT_ HW_ => ?_)
  generalize w43.drew = w44 at ad aa ab HI0 HK HB hHeld ⊢
  refine pu 0 36 ?_ (ms 9 1) rfl rfl HT_ (by kernel_rfl) (fun _ _ _ h => h) (by rfl) ?_ ?_ ?_ ?_
  rotate_left
  ·intro w'
   go_simp
   with_reducible rfl
  rotate_left
  ·simp only [SX]
   rfl
  refine pu 2 38 ?_ (ms 9 5) rfl rfl HT_ (by kernel_rfl) (fun _ _ _ h => h) (by rfl) ?_ ?_ ?_ ?_
  rotate_left
  ·intro w'
   go_simp
   with_reducible rfl
  rotate_left
  ·simp only [SX]
   rfl
  refine pu 3 39 ?_ (ms 9 13) rfl rfl HT_ (by kernel_rfl) (fun _ _ _ h => h) (by rfl) ?_ ?_ ?_ ?_
  rotate_left
  ·intro w'
   go_simp
   with_reducible rfl
  rotate_left
  ·simp only [SX]
   rfl
  refine tk 1 37 ?_ (ms 9 15) rfl rfl HT_ HW_ (by kernel_rfl) (fun _ _ _ h => h) (by rfl) ?_ hHeld ?_ ?_ ?_
  rotate_left
  ·rintro w' ⟨s0, s1⟩
   go_simp
   with_reducible rfl
  rotate_left
  ·simp only [SX]
   rfl
  refine one_ (i := 4) (N := some 40) (ms 9 31) rfl rfl (qJa HT_.out (by kernel_rfl)) (by decide) (fun K hK => ?_)
  refine Kd.R_lit_step (Kd.int .i64) _ 3 ?hg (N := 40) ?hd (xs := ([(-1), 100] : List Int)) (inner := [.int .i64 (-1), .int .i64 100]) (ok := fun _ => True) (okp := fun _ => True) ?hr ?hp (fun _ hk => hk) trivial (Below.refl _ _) (Nat.le_refl _) (by simp) ?_; (case hd => rfl); (case hg => rfl); (case hr => (go_simp; done)); (case hp => exact (Reps.one (show Kd.M (Kd.int .i64) _ _ _ (-1) [.int .i64 (-1)] from rfl) (Reps.one (show Kd.M (Kd.int .i64) _ _ _ 100 [.int .i64 100] from rfl) (Reps.none _ _))))
  intro eW w45 bL hb hg_ hnew_
  clear hg_ hnew_
  (rw [← cb.out] at bL)
  replace ad := ak (Kd.R_below (rk ad) hb)
  have aJ := ak (Kd.R_lower bL (qQf (w := w) (g := g) (row := none) (by repeat ((with_reducible exact HK.out)))))
  replace aa := ak (qZe (bk aa) hb)
  replace ab := ak (qZe (bk ab) hb)
  replace HK := ak (KeepBut.trans (by repeat ((with_reducible exact HK.out))) (KeepBut.of_below hb g none) (.inl rfl))
  replace HB := ak (qZd (by repeat ((with_reducible exact HB.out))) hb)
  replace HI0 := ak (IsS95.below (by repeat ((with_reducible exact HI0.out))) hb)
  clear hb bL
  obtain ⟨cf, cg, dR⟩ := Kd.R_slice aJ.out
  (subst dR)
  refine hK.out _ _ ⟨(qZb ab.out 0).trans rfl, (qZb ab.out 1).trans rfl⟩ (fun hHeld => ?_)
  clear hK K
  refine qJd (a' := ?_) ?_ ?_
  rotate_left
  ·show Act.put _ (some 40) _ = _
   simp only [SX]
   rfl
  refine one_ (i := 5) (N := some 41) (ms 9 63) rfl rfl (qJa HT_.out (by kernel_rfl)) (by decide) (fun K hK => ?_)
  refine qXc Try.func47 (by kernel_rfl) rfl #[.pointer (some ⟨g, 0, none⟩), .slice cf bj.length cg] (by rfl) rfl rfl (by (try simp only [List.map_toArray, List.map_cons, List.map_nil]); rfl) ?_
  with_reducible refine (spec_l30Rd_one.calls k g aj aB _ _ bj aI bK w0 _ ?side1 ?side2 ?side3 ?side4 ?side5 A31.out).mono ?_
  (case side1 => repeat ((with_reducible exact HI0.out)))
  (case side2 => repeat ((with_reducible exact HB.out)))
  (case side3 => repeat (exact (Kd.R_reads' aJ.out).2.2))
  (case side4 => exact (Kd.R_reads' aJ.out).2.1)
  (case side5 => exact qVa (IsS95.own_ne HI0.out aJ.out (by decide)))
  rintro e w48 ⟨rfl, hi, hb, hk⟩
  refine ⟨_, rfl, ?_⟩
  replace aa := ak (KeepBut.blk hk (g' := af) (o := .cells #[.int .i64 0, .slice none 0 0] 25 (0, 0)) (bk aa) al.out (by simp))
  replace ad := ak (Kd.R_mono (Kd.R_keep (IsS95.apart (show IsS95 w0 _ g aj aB from by repeat ((with_reducible exact HI0.out))) (rk ad) (by decide)) hk (fun _ h => h.2)) (fun _ h => h.1))
  replace ab := ak (KeepBut.blk hk (g' := ag) (o := .cells #[.int .i64 ao, .slice bo ae.length aQ] 25 (0, 0)) (bk ab) am.out (by simp))
  replace aJ := ak (Kd.R_mono (Kd.R_keep (IsS95.apart (show IsS95 w0 _ g aj aB from by repeat ((with_reducible exact HI0.out))) (rk aJ) (by decide)) hk (fun _ h => h.2)) (fun _ h => h.1))
  replace HK := ak (KeepBut.trans (by repeat ((with_reducible exact HK.out))) hk (.inl rfl))
  replace HB := ak (hb)
  replace HI0 := ak (hi)
  (try clear hb)
  (try clear hb2)
  (try clear hk)
  (try clear hi)
  have p34 : 0 ≤ (ac : Int) := oT (by (with_reducible assumption))
  have q34 : (ac : Int) < ((ae.length : Int) : Int) := oT (by (with_reducible assumption))
  obtain ⟨av, eX, dS, ch, dT, eY, ci⟩ := Kd.R_form ad.out (by omega)
  (cases dS)
  have cj := ak ch
  have dU := ak ci
  clear ch dT ci
  obtain ⟨eZ, ck, cl, aT, aU⟩ := Kd.R_elem ad.out z58 (ac : Int) p34 q34
  obtain rfl := qWd cl
  have dV : World.cell? _ ⟨av, (ac : Int).toNat * 5, none⟩ = some (.int .i64 ((qZa ae ac).f0)) := aT 0 _ rfl
  have dW : World.cell? _ ⟨av, (ac : Int).toNat * 5 + 1, none⟩ = some (.int .i64 ((qZa ae ac).f1)) := aT 1 _ rfl
  have dX : World.cell? _ ⟨av, (ac : Int).toNat * 5 + 2, none⟩ = some (.int .i64 ((qZa ae ac).f2)) := aT 2 _ rfl
  have dY : World.cell? _ ⟨av, (ac : Int).toNat * 5 + 3, none⟩ = some (.int .i64 ((qZa ae ac).f3)) := aT 3 _ rfl
  have dZ : World.cell? _ ⟨av, (ac : Int).toNat * 5 + 4, none⟩ = some (.int .i64 ((qZa ae ac).f4)) := aT 4 _ rfl
  have ea : World.frozen? _ ⟨av, (ac : Int).toNat * 5, none⟩ = false := aU 0
  have eb : World.frozen? _ ⟨av, (ac : Int).toNat * 5 + 1, none⟩ = false := aU 1
  have ec : World.frozen? _ ⟨av, (ac : Int).toNat * 5 + 2, none⟩ = false := aU 2
  have ed : World.frozen? _ ⟨av, (ac : Int).toNat * 5 + 3, none⟩ = false := aU 3
  have ee : World.frozen? _ ⟨av, (ac : Int).toNat * 5 + 4, none⟩ = false := aU 4
  clear ck aT aU cl
  replace p34 := eq_true p34
  replace q34 := eq_true q34
  have HN0_go34 := ak (show g ≠ av from by have h_ := IsS95.own_ne HI0.out ad.out (by decide); intro e_; exact h_ (by rw [e_]; rfl))
  obtain ⟨fa, bu, cm, bv, cn⟩ := Kd.R_elem ad.out z58 (ac : Int) (oT (by (with_reducible assumption))) (by have h_ : (ac : Int) < ((ae.length : Int) : Int) := oT (by (with_reducible assumption)); exact h_)
  obtain rfl := qWd cm
  have bM := (Kd.R_seg ad.out (ac : Int) (oT (by (with_reducible assumption))) (by have h_ : (ac : Int) < ((ae.length : Int) : Int) := oT (by (with_reducible assumption)); exact h_) (seg := [.int .i64 aI]) (j := 2) bu bv (show 3 ≤ 5 from by decide) (x' := (⟨(qZa ae ac).f0, (qZa ae ac).f1, aI, (qZa ae ac).f3, (qZa ae ac).f4⟩ : S58)) (k58_mkM _ _ _ (⟨(qZa ae ac).f0, (qZa ae ac).f1, aI, (qZa ae ac).f3, (qZa ae ac).f4⟩ : S58) ) (fun _ hk => hk)).1
  rw [← ce.out] at bM
  have ef := ak bM
  clear bu bv cn cm bM
  refine hK.out _ _ ⟨(qZb ab.out 0).trans rfl, (qZb ab.out 1).trans rfl⟩ (fun hHeld => ?_)
  clear hK K
  refine qJd (a' := ?_) ?_ ?_
  rotate_left
  ·show Act.put _ (some 41) _ = _
   simp only [SX]
   rfl
  refine pu 6 42 ?_ (ms 9 127) rfl rfl HT_ (by kernel_rfl) (fun _ _ _ h => h) (by rfl) ?_ ?_ ?_ ?_
  rotate_left
  ·intro w'
   go_simp
   with_reducible rfl
  rotate_left
  ·simp only [SX]
   rfl
  refine pu 7 43 ?_ (ms 9 255) rfl rfl HT_ (by kernel_rfl) (fun _ _ _ h => h) (by rfl) ?_ ?_ ?_ ?_
  rotate_left
  ·intro w'
   go_simp
   with_reducible rfl
  rotate_left
  ·simp only [SX]
   rfl
  refine last_ (i := 8) (N := none) (ms 9 511) rfl rfl (qJa HT_.out (by kernel_rfl)) (by decide) (fun K hK => ?_)
  refine skip_ (w1 := ?_) (by rfl) rfl ?_ ?_
  rotate_left
  ·go_simp
   rfl
  refine hK.out _ _ ?_
  clear hK K
  refine qXe (qJg HT_.out (by kernel_rfl)) ?_
  have n0_ : Aside0 (Kd.R k58 58 (w48.setCell ⟨av, (ac : Int).toNat * 5 + 2, none⟩ (.int .i64 aI)) w.heap.size (fun _ => True) (.slice (some ⟨av, 0, none⟩) ae.length aQ) cd) := ⟨by exact ef.out⟩
  have n1_ : Aside0 (Kd.R (Kd.int .i64) 3 (w48.setCell ⟨av, (ac : Int).toNat * 5 + 2, none⟩ (.int .i64 aI)) w.heap.size (fun _ => True) (.slice cf bj.length cg) bj) := ⟨by exact Kd.R_mono (Kd.R_far (p := ⟨av, (ac : Int).toNat * 5 + 2, none⟩) (Kd.R_types aJ.out dU.out (by decide)) (fun _ hk => hk.2) (.int .i64 aI)) (fun _ hk => trivial)⟩
  have n2_ : Aside0 ((w48.setCell ⟨av, (ac : Int).toNat * 5 + 2, none⟩ (.int .i64 aI)).heap[af]? = some (.cells #[.int .i64 0, .slice none 0 0] 25 (0, 0))) := ⟨by refine blk_far ?_ (by have h_ := Kd.R_ne ad.out aa.out (by decide); intro e_; exact h_ (by rw [e_]; rfl)) _; exact aa.out⟩
  have n3_ : Aside0 ((w48.setCell ⟨av, (ac : Int).toNat * 5 + 2, none⟩ (.int .i64 aI)).heap[ag]? = some (.cells #[.int .i64 ao, .slice (some ⟨av, 0, none⟩) ae.length aQ] 25 (0, 0))) := ⟨by refine blk_far ?_ (by have h_ := Kd.R_ne ad.out ab.out (by decide); intro e_; exact h_ (by rw [e_]; rfl)) _; exact ab.out⟩
  have n4_ : Aside0 (IsS95 w0 (w48.setCell ⟨av, (ac : Int).toNat * 5 + 2, none⟩ (.int .i64 aI)) g aj bK) := ⟨by repeat ((with_reducible first | exact HI0.out | refine IsS95.far ?_ HN0_go34.out _))⟩
  have n5_ : Aside0 (KeepBut w (w48.setCell ⟨av, (ac : Int).toNat * 5 + 2, none⟩ (.int .i64 aI)) g none) := ⟨by repeat ((with_reducible first | exact HK.out | refine keep_far ?_ cj.out _))⟩
  have n6_ : Aside0 (Below w0.heap.size w0 (w48.setCell ⟨av, (ac : Int).toNat * 5 + 2, none⟩ (.int .i64 aI))) := ⟨by repeat ((with_reducible first | exact HB.out | refine below_set ?_ (Nat.le_trans HL.out cj.out)))⟩
  (try clear ad)
  (try clear aJ)
  (try clear aa)
  (try clear ab)
  (try clear HI0)
  (try clear HK)
  (try clear HB)
  generalize (w48.setCell ⟨av, (ac : Int).toNat * 5 + 2, none⟩ (.int .i64 aI)) = w50 at n0_ n1_ n2_ n3_ n4_ n5_ n6_ ⊢
  have ad := n0_
  have aJ := n1_
  have aa := n2_
  have ab := n3_
  have HI0 := n4_
  have HK := n5_
  have HB := n6_
  clear n0_ n1_ n2_ n3_ n4_ n5_ n6_
  have cQ := bc w50 ab 0 (.int .i64 ao) rfl
  have cR := bc w50 ab 1 (.slice (some ⟨av, 0, none⟩) ae.length aQ) rfl
  have cS := fz ab 0
  have cT := fz ab 1
  have eC := al.out
  have eD := aq.out
  have cU := bc w50 aa 0 (.int .i64 0) rfl
  have cV := bc w50 aa 1 (.slice none 0 0) rfl
  have cW := fz aa 0
  have cX := fz aa 1
  try go_wp2
  refine bodyPost_ret (results_cell_row rfl _ _ af 25 #[.int .i64 ao, .slice (some ⟨av, 0, none⟩) ae.length aQ] (0, 0) _ rfl (by refine qZg (cs := #[.int .i64 ao, .slice none 0 0]) ?_ 1 _ rfl; refine qZg (cs := #[.int .i64 0, .slice none 0 0]) ?_ 0 _ rfl; exact aa.out) Try.underlying25 rfl (by kernel_rfl)) rfl ?_
  exact ⟨_, by rfl, by exact Kd.R_mono (Kd.R_far (p := ⟨af, 1, none⟩) (Kd.R_far (p := ⟨af, 0, none⟩) (Kd.R_types ad.out aa.out (by decide)) (fun _ hk => hk.2) (.int .i64 ao)) (fun _ hk => hk.2) (.slice (some ⟨av, 0, none⟩) ae.length aQ)) (fun _ hk => trivial), by repeat ((with_reducible first | exact HI0.out | refine IsS95.far ?_ aq.out _)), by repeat ((with_reducible first | exact HB.out | refine below_set ?_ aF.out)), by repeat ((with_reducible first | exact HK.out | refine keep_far ?_ aE.out _))⟩
 rw [if_neg c30] at H
 have c30b0 : (az == 1) = false := beq_eq_false_iff_ne.mpr c30
 have c30b1 : (az != 1) = true := bne_iff_ne.mpr c30
 by_cases c54 : az = 2
 rotate_left
 ·rw [if_neg c54] at H
  have c54b0 : (az == 2) = false := beq_eq_false_iff_ne.mpr c54
  have c54b1 : (az != 2) = true := bne_iff_ne.mpr c54
  simp only [Option.some.injEq, Prod.mk.injEq] at H
  obtain ⟨rfl, rfl, rfl⟩ := H
  go_enter Try.func45, Try.ntmps45
  go_wp2_with (first | ((with_reducible refine gate_dst (N := 2) rfl ?_); refine qZh ?hg (N := 2) ?hd (cs := #[.int .i64 0, .slice none 0 0]) (t := 25) ?hr ?_; (case hd => rfl); (case hg => rfl); (case hr => (go_simp; done)); intro af hg w72 hbox hb; replace HB := ak (qZd (by repeat ((with_reducible exact HB.out))) hb); have aa := ak (hbox); have aE := ak ((by rw [hg]; exact (qQf (w := w) (g := g) (row := none) (by repeat ((with_reducible exact HK.out)))) : w.heap.size ≤ af)); have aF := ak ((Nat.le_trans HW0.out (by rw [hg]; exact (qQf (w := w) (g := g) (row := none) (by repeat ((with_reducible exact HK.out)))) : w.heap.size ≤ af) : w0.heap.size ≤ af)); replace HK := ak (KeepBut.trans (by repeat ((with_reducible exact HK.out))) (KeepBut.of_below hb g none) (.inl rfl)); have aq := ak ((by rw [hg]; exact Nat.ne_of_lt (IsS95.lt (show IsS95 w0 _ g aj ay from by repeat ((with_reducible exact HI0.out)))) : g ≠ af)); have al := ak ((by rw [hg]; exact Nat.ne_of_gt (IsS95.lt (show IsS95 w0 _ g aj ay from by repeat ((with_reducible exact HI0.out)))) : af ≠ g)); replace HI0 := ak (IsS95.below (by repeat ((with_reducible exact HI0.out))) hb); clear hb hbox hg) | ((with_reducible refine gate_callee (f := 86) rfl ?_); refine qQi (some 6) rfl rfl Try.func86 (by kernel_rfl) rfl #[.pointer (some ⟨g, 0, none⟩)] rfl (by (try simp only [List.map_toArray, List.map_cons, List.map_nil]); rfl) ?_; (with_reducible refine (spec_l30Net.calls k g aj ay ao ae ax w0 _ ?side1 ?side2 A2.out).mono ?_); (case side1 => repeat ((with_reducible exact HI0.out))); (case side2 => repeat ((with_reducible exact HB.out))); rintro e w73 ⟨br, rfl, ho0, hi, hb, hk⟩; refine ⟨_, rfl, ?_⟩; replace aa := ak (KeepBut.blk hk (g' := af) (o := .cells #[.int .i64 0, .slice none 0 0] 25 (0, 0)) (bk aa) al.out (by simp)); have ad := ak (Kd.R_lower ho0 (qQf (w := w) (g := g) (row := none) (by repeat ((with_reducible exact HK.out))))); replace HK := ak (KeepBut.trans (by repeat ((with_reducible exact HK.out))) hk (.inl rfl)); replace HB := ak (hb); replace HI0 := ak (hi); (try clear hb); (try clear hb2); (try clear hk); (try clear hi); (try clear ho0)) | ((with_reducible refine gate_dst (N := 3) rfl ?_); refine qZh ?hg (N := 3) ?hd (cs := #[.int .i64 0, .slice none 0 0]) (t := 25) ?hr ?_; (case hd => rfl); (case hg => rfl); (case hr => (go_simp; done)); intro ag hg w74 hbox hb; replace ad := ak (Kd.R_below (rk ad) hb); replace HB := ak (qZd (by repeat ((with_reducible exact HB.out))) hb); have ab := ak (hbox); have aC := ak ((by rw [hg]; exact (qQf (w := w) (g := g) (row := none) (by repeat ((with_reducible exact HK.out)))) : w.heap.size ≤ ag)); have aD := ak ((Nat.le_trans HW0.out (by rw [hg]; exact (qQf (w := w) (g := g) (row := none) (by repeat ((with_reducible exact HK.out)))) : w.heap.size ≤ ag) : w0.heap.size ≤ ag)); replace HK := ak (KeepBut.trans (by repeat ((with_reducible exact HK.out))) (KeepBut.of_below hb g none) (.inl rfl)); have ai := ak ((by rw [hg]; exact Nat.ne_of_lt (qZk (bk aa)) : af ≠ ag)); have ar := ak ((by rw [hg]; exact Nat.ne_of_gt (qZk (bk aa)) : ag ≠ af)); replace aa := ak (qZe (bk aa) hb); have ap := ak ((by rw [hg]; exact Nat.ne_of_lt (IsS95.lt (show IsS95 w0 _ g aj ax from by repeat ((with_reducible exact HI0.out)))) : g ≠ ag)); have am := ak ((by rw [hg]; exact Nat.ne_of_gt (IsS95.lt (show IsS95 w0 _ g aj ax from by repeat ((with_reducible exact HI0.out)))) : ag ≠ g)); replace HI0 := ak (IsS95.below (by repeat ((with_reducible exact HI0.out))) hb); clear hb hbox hg; have eE := ar.out; have eF := ai.out; have eG := am.out; have eH := ap.out; have cY := bc w74 ab 0 (.int .i64 0) rfl; have cZ := bc w74 ab 1 (.slice none 0 0) rfl; have da := fz ab 0; have db := fz ab 1; obtain ⟨be, bf, eg⟩ := Kd.R_slice ad.out; subst eg) | ((with_reducible refine gate_callee (f := 87) rfl ?_); refine qQi (some 15) rfl rfl Try.func87 (by kernel_rfl) rfl #[.pointer (some ⟨g, 0, none⟩), .int .i64 (ae.length : Int)] rfl (by (try simp only [List.map_toArray, List.map_cons, List.map_nil]); rfl) ?_; (with_reducible refine (spec_l30Rd_pick.calls k g aj ax (ae.length : Int) ac aO w0 _ ?side1 ?side2 A4.out).mono ?_); (case side1 => repeat ((with_reducible first | exact HI0.out | refine IsS95.far ?_ ap.out _))); (case side2 => repeat ((with_reducible first | exact HB.out | refine below_set ?_ aD.out))); rintro e w79 ⟨rfl, hi, hb, hk⟩; refine ⟨_, rfl, ?_⟩; replace aa := ak (KeepBut.blk hk (g' := af) (o := .cells #[.int .i64 0, .slice none 0 0] 25 (0, 0)) (by refine blk_far ?_ ai.out _; refine blk_far ?_ ai.out _; exact aa.out) al.out (by simp)); replace ad := ak (Kd.R_mono (Kd.R_keep (IsS95.apart (show IsS95 w0 _ g aj ax from by repeat ((with_reducible first | exact HI0.out | refine IsS95.far ?_ ap.out _))) (by exact (Kd.R_mono (Kd.R_far (p := ⟨ag, 1, none⟩) (Kd.R_far (p := ⟨ag, 0, none⟩) (Kd.R_types ad.out ab.out (by decide)) (fun _ hk => hk.2) (.int .i64 ao)) (fun _ hk => hk.2) (.slice be ae.length bf)) (fun _ h_ => h_.1))) (by decide)) hk (fun _ h => h.2)) (fun _ h => h.1)); replace ab := ak (KeepBut.blk hk (g' := ag) (o := .cells #[.int .i64 ao, .slice be ae.length bf] 25 (0, 0)) (by refine qZg (cs := #[.int .i64 ao, .slice none 0 0]) ?_ 1 _ rfl; refine qZg (cs := #[.int .i64 0, .slice none 0 0]) ?_ 0 _ rfl; exact ab.out) am.out (by simp)); replace HK := ak (KeepBut.trans (by repeat ((with_reducible first | exact HK.out | refine keep_far ?_ aC.out _))) hk (.inl rfl)); replace HB := ak (hb); replace HI0 := ak (hi); (try clear hb); (try clear hb2); (try clear hk); (try clear hi)) | ((with_reducible refine gate_callee (f := 87) rfl ?_); refine qQi (some 17) rfl rfl Try.func87 (by kernel_rfl) rfl #[.pointer (some ⟨g, 0, none⟩), .int .i64 16] rfl (by (try simp only [List.map_toArray, List.map_cons, List.map_nil]); rfl) ?_; (with_reducible refine (spec_l30Rd_pick.calls k g aj aO 16 az aB w0 _ ?side1 ?side2 A5.out).mono ?_); (case side1 => repeat ((with_reducible exact HI0.out))); (case side2 => repeat ((with_reducible exact HB.out))); rintro e w80 ⟨rfl, hi, hb, hk⟩; refine ⟨_, rfl, ?_⟩; replace aa := ak (KeepBut.blk hk (g' := af) (o := .cells #[.int .i64 0, .slice none 0 0] 25 (0, 0)) (bk aa) al.out (by simp)); replace ad := ak (Kd.R_mono (Kd.R_keep (IsS95.apart (show IsS95 w0 _ g aj aO from by repeat ((with_reducible exact HI0.out))) (rk ad) (by decide)) hk (fun _ h => h.2)) (fun _ h => h.1)); replace ab := ak (KeepBut.blk hk (g' := ag) (o := .cells #[.int .i64 ao, .slice be ae.length bf] 25 (0, 0)) (bk ab) am.out (by simp)); replace HK := ak (KeepBut.trans (by repeat ((with_reducible exact HK.out))) hk (.inl rfl)); replace HB := ak (hb); replace HI0 := ak (hi); (try clear hb); (try clear hb2); (try clear hk); (try clear hi); have dc := bc w80 ab 0 (.int .i64 ao) rfl; have dd := bc w80 ab 1 (.slice be ae.length bf) rfl; have de := fz ab 0; have df := fz ab 1; have eI := al.out; have eJ := aq.out; have dg := bc w80 aa 0 (.int .i64 0) rfl; have dh := bc w80 aa 1 (.slice none 0 0) rfl; have di := fz aa 0; have dj := fz aa 1))
  refine bodyPost_ret (results_cell_row rfl _ _ af 25 #[.int .i64 ao, .slice be ae.length bf] (0, 0) _ rfl (by refine qZg (cs := #[.int .i64 ao, .slice none 0 0]) ?_ 1 _ rfl; refine qZg (cs := #[.int .i64 0, .slice none 0 0]) ?_ 0 _ rfl; exact aa.out) Try.underlying25 rfl (by kernel_rfl)) rfl ?_
  exact ⟨_, by rfl, by exact Kd.R_mono (Kd.R_far (p := ⟨af, 1, none⟩) (Kd.R_far (p := ⟨af, 0, none⟩) (Kd.R_types ad.out aa.out (by decide)) (fun _ hk => hk.2) (.int .i64 ao)) (fun _ hk => hk.2) (.slice be ae.length bf)) (fun _ hk => trivial), by repeat ((with_reducible first | exact HI0.out | refine IsS95.far ?_ aq.out _)), by repeat ((with_reducible first | exact HB.out | refine below_set ?_ aF.out)), by repeat ((with_reducible first | exact HK.out | refine keep_far ?_ aE.out _))⟩
 rw [if_pos c54] at H
 have c54b0 : (az == 2) = true := beq_iff_eq.mpr c54
 have c54b1 : (az != 2) = false := bne_eq_false_iff_eq.mpr c54
 clear c54
 obtain ⟨bN, bp⟩ : ∃ y_ : List Int, y_ = (([0, 1, 9, 8] : List Int)) := ⟨_, rfl⟩
 replace H : ((spec_l30Rd_one.f k aj aB bN).bind fun aN => (some (aN.1, ae, aN.2))) = some (r1, r2, r3) := by (rw [bp]; with_reducible exact H)
 have co := ak bp
 clear bp
 replace H := Option.bind_eq_some_iff.mp H
 obtain ⟨⟨bq, eh⟩, cp, H⟩ := H
 have A55 := ak cp
 clear cp
 simp only [Option.some.injEq, Prod.mk.injEq] at H
 obtain ⟨rfl, rfl, rfl⟩ := H
 go_enter Try.func45, Try.ntmps45
 go_wp2_with (first | ((with_reducible refine gate_dst (N := 2) rfl ?_); refine qZh ?hg (N := 2) ?hd (cs := #[.int .i64 0, .slice none 0 0]) (t := 25) ?hr ?_; (case hd => rfl); (case hg => rfl); (case hr => (go_simp; done)); intro af hg w56 hbox hb; replace HB := ak (qZd (by repeat ((with_reducible exact HB.out))) hb); have aa := ak (hbox); have aE := ak ((by rw [hg]; exact (qQf (w := w) (g := g) (row := none) (by repeat ((with_reducible exact HK.out)))) : w.heap.size ≤ af)); have aF := ak ((Nat.le_trans HW0.out (by rw [hg]; exact (qQf (w := w) (g := g) (row := none) (by repeat ((with_reducible exact HK.out)))) : w.heap.size ≤ af) : w0.heap.size ≤ af)); replace HK := ak (KeepBut.trans (by repeat ((with_reducible exact HK.out))) (KeepBut.of_below hb g none) (.inl rfl)); have aq := ak ((by rw [hg]; exact Nat.ne_of_lt (IsS95.lt (show IsS95 w0 _ g aj ay from by repeat ((with_reducible exact HI0.out)))) : g ≠ af)); have al := ak ((by rw [hg]; exact Nat.ne_of_gt (IsS95.lt (show IsS95 w0 _ g aj ay from by repeat ((with_reducible exact HI0.out)))) : af ≠ g)); replace HI0 := ak (IsS95.below (by repeat ((with_reducible exact HI0.out))) hb); clear hb hbox hg) | ((with_reducible refine gate_callee (f := 86) rfl ?_); refine qQi (some 6) rfl rfl Try.func86 (by kernel_rfl) rfl #[.pointer (some ⟨g, 0, none⟩)] rfl (by (try simp only [List.map_toArray, List.map_cons, List.map_nil]); rfl) ?_; (with_reducible refine (spec_l30Net.calls k g aj ay ao ae ax w0 _ ?side1 ?side2 A2.out).mono ?_); (case side1 => repeat ((with_reducible exact HI0.out))); (case side2 => repeat ((with_reducible exact HB.out))); rintro e w57 ⟨br, rfl, ho0, hi, hb, hk⟩; refine ⟨_, rfl, ?_⟩; replace aa := ak (KeepBut.blk hk (g' := af) (o := .cells #[.int .i64 0, .slice none 0 0] 25 (0, 0)) (bk aa) al.out (by simp)); have ad := ak (Kd.R_lower ho0 (qQf (w := w) (g := g) (row := none) (by repeat ((with_reducible exact HK.out))))); replace HK := ak (KeepBut.trans (by repeat ((with_reducible exact HK.out))) hk (.inl rfl)); replace HB := ak (hb); replace HI0 := ak (hi); (try clear hb); (try clear hb2); (try clear hk); (try clear hi); (try clear ho0)) | ((with_reducible refine gate_dst (N := 3) rfl ?_); refine qZh ?hg (N := 3) ?hd (cs := #[.int .i64 0, .slice none 0 0]) (t := 25) ?hr ?_; (case hd => rfl); (case hg => rfl); (case hr => (go_simp; done)); intro ag hg w58 hbox hb; replace ad := ak (Kd.R_below (rk ad) hb); replace HB := ak (qZd (by repeat ((with_reducible exact HB.out))) hb); have ab := ak (hbox); have aC := ak ((by rw [hg]; exact (qQf (w := w) (g := g) (row := none) (by repeat ((with_reducible exact HK.out)))) : w.heap.size ≤ ag)); have aD := ak ((Nat.le_trans HW0.out (by rw [hg]; exact (qQf (w := w) (g := g) (row := none) (by repeat ((with_reducible exact HK.out)))) : w.heap.size ≤ ag) : w0.heap.size ≤ ag)); replace HK := ak (KeepBut.trans (by repeat ((with_reducible exact HK.out))) (KeepBut.of_below hb g none) (.inl rfl)); have ai := ak ((by rw [hg]; exact Nat.ne_of_lt (qZk (bk aa)) : af ≠ ag)); have ar := ak ((by rw [hg]; exact Nat.ne_of_gt (qZk (bk aa)) : ag ≠ af)); replace aa := ak (qZe (bk aa) hb); have ap := ak ((by rw [hg]; exact Nat.ne_of_lt (IsS95.lt (show IsS95 w0 _ g aj ax from by repeat ((with_reducible exact HI0.out)))) : g ≠ ag)); have am := ak ((by rw [hg]; exact Nat.ne_of_gt (IsS95.lt (show IsS95 w0 _ g aj ax from by repeat ((with_reducible exact HI0.out)))) : ag ≠ g)); replace HI0 := ak (IsS95.below (by repeat ((with_reducible exact HI0.out))) hb); clear hb hbox hg; have eK := ar.out; have eL := ai.out; have eM := am.out; have eN := ap.out; have dk := bc w58 ab 0 (.int .i64 0) rfl; have dl := bc w58 ab 1 (.slice none 0 0) rfl; have dm := fz ab 0; have dn := fz ab 1; obtain ⟨bb, bd, ei⟩ := Kd.R_slice ad.out; subst ei) | ((with_reducible refine gate_callee (f := 87) rfl ?_); refine qQi (some 15) rfl rfl Try.func87 (by kernel_rfl) rfl #[.pointer (some ⟨g, 0, none⟩), .int .i64 (ae.length : Int)] rfl (by (try simp only [List.map_toArray, List.map_cons, List.map_nil]); rfl) ?_; (with_reducible refine (spec_l30Rd_pick.calls k g aj ax (ae.length : Int) ac aO w0 _ ?side1 ?side2 A4.out).mono ?_); (case side1 => repeat ((with_reducible first | exact HI0.out | refine IsS95.far ?_ ap.out _))); (case side2 => repeat ((with_reducible first | exact HB.out | refine below_set ?_ aD.out))); rintro e w63 ⟨rfl, hi, hb, hk⟩; refine ⟨_, rfl, ?_⟩; replace aa := ak (KeepBut.blk hk (g' := af) (o := .cells #[.int .i64 0, .slice none 0 0] 25 (0, 0)) (by refine blk_far ?_ ai.out _; refine blk_far ?_ ai.out _; exact aa.out) al.out (by simp)); replace ad := ak (Kd.R_mono (Kd.R_keep (IsS95.apart (show IsS95 w0 _ g aj ax from by repeat ((with_reducible first | exact HI0.out | refine IsS95.far ?_ ap.out _))) (by exact (Kd.R_mono (Kd.R_far (p := ⟨ag, 1, none⟩) (Kd.R_far (p := ⟨ag, 0, none⟩) (Kd.R_types ad.out ab.out (by decide)) (fun _ hk => hk.2) (.int .i64 ao)) (fun _ hk => hk.2) (.slice bb ae.length bd)) (fun _ h_ => h_.1))) (by decide)) hk (fun _ h => h.2)) (fun _ h => h.1)); replace ab := ak (KeepBut.blk hk (g' := ag) (o := .cells #[.int .i64 ao, .slice bb ae.length bd] 25 (0, 0)) (by refine qZg (cs := #[.int .i64 ao, .slice none 0 0]) ?_ 1 _ rfl; refine qZg (cs := #[.int .i64 0, .slice none 0 0]) ?_ 0 _ rfl; exact ab.out) am.out (by simp)); replace HK := ak (KeepBut.trans (by repeat ((with_reducible first | exact HK.out | refine keep_far ?_ aC.out _))) hk (.inl rfl)); replace HB := ak (hb); replace HI0 := ak (hi); (try clear hb); (try clear hb2); (try clear hk); (try clear hi)) | ((with_reducible refine gate_callee (f := 87) rfl ?_); refine qQi (some 17) rfl rfl Try.func87 (by kernel_rfl) rfl #[.pointer (some ⟨g, 0, none⟩), .int .i64 16] rfl (by (try simp only [List.map_toArray, List.map_cons, List.map_nil]); rfl) ?_; (with_reducible refine (spec_l30Rd_pick.calls k g aj aO 16 az aB w0 _ ?side1 ?side2 A5.out).mono ?_); (case side1 => repeat ((with_reducible exact HI0.out))); (case side2 => repeat ((with_reducible exact HB.out))); rintro e w64 ⟨rfl, hi, hb, hk⟩; refine ⟨_, rfl, ?_⟩; replace aa := ak (KeepBut.blk hk (g' := af) (o := .cells #[.int .i64 0, .slice none 0 0] 25 (0, 0)) (bk aa) al.out (by simp)); replace ad := ak (Kd.R_mono (Kd.R_keep (IsS95.apart (show IsS95 w0 _ g aj aO from by repeat ((with_reducible exact HI0.out))) (rk ad) (by decide)) hk (fun _ h => h.2)) (fun _ h => h.1)); replace ab := ak (KeepBut.blk hk (g' := ag) (o := .cells #[.int .i64 ao, .slice bb ae.length bd] 25 (0, 0)) (bk ab) am.out (by simp)); replace HK := ak (KeepBut.trans (by repeat ((with_reducible exact HK.out))) hk (.inl rfl)); replace HB := ak (hb); replace HI0 := ak (hi); (try clear hb); (try clear hb2); (try clear hk); (try clear hi)) | ((with_reducible refine gate_dst (N := 47) rfl ?_); refine Kd.R_lit (Kd.int .i64) _ 3 ?hg (N := 47) ?hd (xs := ([0, 1, 9, 8] : List Int)) (inner := [.int .i64 0, .int .i64 1, .int .i64 9, .int .i64 8]) (ok := fun _ => True) (okp := fun _ => True) ?hr ?hp (fun _ hk => hk) trivial (Below.refl _ _) (Nat.le_refl _) (by simp) ?_; (case hd => rfl); (case hg => rfl); (case hr => (go_simp; done)); (case hp => exact (Reps.one (show Kd.M (Kd.int .i64) _ _ _ 0 [.int .i64 0] from rfl) (Reps.one (show Kd.M (Kd.int .i64) _ _ _ 1 [.int .i64 1] from rfl) (Reps.one (show Kd.M (Kd.int .i64) _ _ _ 9 [.int .i64 9] from rfl) (Reps.one (show Kd.M (Kd.int .i64) _ _ _ 8 [.int .i64 8] from rfl) (Reps.none _ _)))))); intro fb w65 bO hb hg_ hnew_; clear hg_ hnew_; (rw [← co.out] at bO); replace ad := ak (Kd.R_below (rk ad) hb); have aV := ak (Kd.R_lower bO (qQf (w := w) (g := g) (row := none) (by repeat ((with_reducible exact HK.out))))); replace aa := ak (qZe (bk aa) hb); replace ab := ak (qZe (bk ab) hb); replace HK := ak (KeepBut.trans (by repeat ((with_reducible exact HK.out))) (KeepBut.of_below hb g none) (.inl rfl)); replace HB := ak (qZd (by repeat ((with_reducible exact HB.out))) hb); replace HI0 := ak (IsS95.below (by repeat ((with_reducible exact HI0.out))) hb); clear hb bO; obtain ⟨ej, ek, el⟩ := Kd.R_slice aV.out; subst el) | ((with_reducible refine gate_callee (f := 47) rfl ?_); refine qQi (some 48) rfl rfl Try.func47 (by kernel_rfl) rfl #[.pointer (some ⟨g, 0, none⟩), .slice ej bN.length ek] rfl (by (try simp only [List.map_toArray, List.map_cons, List.map_nil]); rfl) ?_; (with_reducible refine (spec_l30Rd_one.calls k g aj aB _ _ bN bq eh w0 _ ?side1 ?side2 ?side3 ?side4 ?side5 A55.out).mono ?_); (case side1 => repeat ((with_reducible exact HI0.out))); (case side2 => repeat ((with_reducible exact HB.out))); (case side3 => repeat (exact (Kd.R_reads' aV.out).2.2)); (case side4 => exact (Kd.R_reads' aV.out).2.1); (case side5 => exact qVa (IsS95.own_ne HI0.out aV.out (by decide))); rintro e w68 ⟨rfl, hi, hb, hk⟩; refine ⟨_, rfl, ?_⟩; replace aa := ak (KeepBut.blk hk (g' := af) (o := .cells #[.int .i64 0, .slice none 0 0] 25 (0, 0)) (bk aa) al.out (by simp)); replace ad := ak (Kd.R_mono (Kd.R_keep (IsS95.apart (show IsS95 w0 _ g aj aB from by repeat ((with_reducible exact HI0.out))) (rk ad) (by decide)) hk (fun _ h => h.2)) (fun _ h => h.1)); replace ab := ak (KeepBut.blk hk (g' := ag) (o := .cells #[.int .i64 ao, .slice bb ae.length bd] 25 (0, 0)) (bk ab) am.out (by simp)); replace aV := ak (Kd.R_mono (Kd.R_keep (IsS95.apart (show IsS95 w0 _ g aj aB from by repeat ((with_reducible exact HI0.out))) (rk aV) (by decide)) hk (fun _ h => h.2)) (fun _ h => h.1)); replace HK := ak (KeepBut.trans (by repeat ((with_reducible exact HK.out))) hk (.inl rfl)); replace HB := ak (hb); replace HI0 := ak (hi); (try clear hb); (try clear hb2); (try clear hk); (try clear hi); have dp := bc w68 ab 0 (.int .i64 ao) rfl; have dq := bc w68 ab 1 (.slice bb ae.length bd) rfl; have dr := fz ab 0; have dt := fz ab 1; have eO := al.out; have eP := aq.out; have du := bc w68 aa 0 (.int .i64 0) rfl; have dv := bc w68 aa 1 (.slice none 0 0) rfl; have dw := fz aa 0; have dx := fz aa 1))
 refine bodyPost_ret (results_cell_row rfl _ _ af 25 #[.int .i64 bq, .slice bb ae.length bd] (0, 0) _ rfl (by refine qZg (cs := #[.int .i64 bq, .slice none 0 0]) ?_ 1 _ rfl; refine qZg (cs := #[.int .i64 0, .slice none 0 0]) ?_ 0 _ rfl; refine blk_far ?_ ai.out _; exact aa.out) Try.underlying25 rfl (by kernel_rfl)) rfl ?_
 exact ⟨_, by rfl, by exact Kd.R_mono (Kd.R_far (p := ⟨af, 1, none⟩) (Kd.R_far (p := ⟨af, 0, none⟩) (Kd.R_far (p := ⟨ag, 0, none⟩) (Kd.R_types (Kd.R_types ad.out ab.out (by decide)) aa.out (by decide)) (fun _ hk => hk.1.2) (.int .i64 bq)) (fun _ hk => hk.2) (.int .i64 bq)) (fun _ hk => hk.2) (.slice bb ae.length bd)) (fun _ hk => trivial), by repeat ((with_reducible first | exact HI0.out | refine IsS95.far ?_ aq.out _ | refine IsS95.far ?_ ap.out _)), by repeat ((with_reducible first | exact HB.out | refine below_set ?_ aF.out | refine below_set ?_ aD.out)), by repeat ((with_reducible first | exact HK.out | refine keep_far ?_ aE.out _ | refine keep_far ?_ aC.out _))⟩
/-! ### spec_l30Node: function 46 -/
def spec_l30Node.f (k : Nat) (ad : List Int) (ah : Int) (ac : Int) (af : List (S58)) : Option (Int × Int) := (spec_l30Rd_pick.f k ad ah 16).bind fun ai => (if ai.1 = 0 then ((spec_l30Rd_one.f k ad ai.2 (([(-1), ac] : List Int))).bind fun ag => (some (ag.1, ag.2))) else ((spec_l30Rd_pick.f k ad ai.2 ac).bind fun ao => (some (ao.1, ao.2))))
theorem spec_l30Node.mono : ∀ a0 a1 a2 a3 k, LeO (spec_l30Node.f k a0 a1 a2 a3) (spec_l30Node.f (k + 1) a0 a1 a2 a3) := by
 intro a0 a1 a2 a3 k
 unfold spec_l30Node.f
 repeat' first | (with_reducible exact spec_l30Rd_one.mono _ _ _ _) | (with_reducible exact spec_l30Rd_pick.mono _ _ _ _) | (with_reducible exact LeO.refl _) | (with_reducible refine LeO.ite ?_ ?_) | (with_reducible refine LeO.bind ?_ (fun _ => ?_))
set_option maxHeartbeats 8000000 in
set_option maxRecDepth 100000 in
theorem spec_l30Node.calls (k : Nat) (g : Nat) (ad : List Int) (ah : Int) (ac : Int) (aj : Option Addr) (al : Nat) (af : List (S58)) (r1 : Int) (r2 : Int) (w0 w : World) (hI : IsS95 w0 w g ad ah) (hB : Below w0.heap.size w0 w) (au : ∀ W_, KeepBut w W_ g none → Kd.C k58 W_ aj af.length af) (av : af.length ≤ al) (h : spec_l30Node.f k ad ah ac af = some (r1, r2)) :
  Calls Try.prog 46 #[.pointer (some ⟨g, 0, none⟩), .agg #[.int .i64 ac, .slice aj af.length al]] w fun e w' => e = .returned (.int .i64 r1) ∧ IsS95 w0 w' g ad r2 ∧ Below w0.heap.size w0 w' ∧ KeepBut w w' g none := by
 have aW := Try.underlying25
 have aS := ak au
 have aT := ak av
 clear au av
 have HI0 := ak hI
 have HK := ak (KeepBut.refl w g none)
 have HL := ak hB.size
 clear hI
 have HW0 := ak hB.size
 have HB := ak hB
 clear hB
 have H : ((spec_l30Rd_pick.f k ad ah 16).bind fun ai => (if ai.1 = 0 then ((spec_l30Rd_one.f k ad ai.2 (([(-1), ac] : List Int))).bind fun ag => (some (ag.1, ag.2))) else ((spec_l30Rd_pick.f k ad ai.2 ac).bind fun ao => (some (ao.1, ao.2))))) = some (r1, r2) := h
 clear h
 replace H := Option.bind_eq_some_iff.mp H
 obtain ⟨⟨ap, aq⟩, A30, H⟩ := H
 have A3 := ak A30
 clear A30
 by_cases c4 : ap = 0
 rotate_left
 ·rw [if_neg c4] at H
  have c4b0 : (ap == 0) = false := beq_eq_false_iff_ne.mpr c4
  have c4b1 : (ap != 0) = true := bne_iff_ne.mpr c4
  replace H := Option.bind_eq_some_iff.mp H
  obtain ⟨⟨aG, aH⟩, ay, H⟩ := H
  have A14 := ak ay
  clear ay
  simp only [Option.some.injEq, Prod.mk.injEq] at H
  obtain ⟨rfl, rfl⟩ := H
  go_enter Try.func46, Try.ntmps46
  go_wp2_with (first | ((with_reducible refine gate_dst (N := 3) rfl ?_); refine qZh ?hg (N := 3) ?hd (cs := #[.int .i64 ac, .slice aj af.length al]) (t := 25) ?hr ?_; (case hd => rfl); (case hg => rfl); (case hr => (go_simp; done)); intro ab hg w15 hbox hb; replace HB := ak (qZd (by repeat ((with_reducible exact HB.out))) hb); have aa := ak (hbox); have az := ak ((by rw [hg]; exact (qQf (w := w) (g := g) (row := none) (by repeat ((with_reducible exact HK.out)))) : w.heap.size ≤ ab)); have aA := ak ((Nat.le_trans HW0.out (by rw [hg]; exact (qQf (w := w) (g := g) (row := none) (by repeat ((with_reducible exact HK.out)))) : w.heap.size ≤ ab) : w0.heap.size ≤ ab)); replace HK := ak (KeepBut.trans (by repeat ((with_reducible exact HK.out))) (KeepBut.of_below hb g none) (.inl rfl)); have an := ak ((by rw [hg]; exact Nat.ne_of_lt (IsS95.lt (show IsS95 w0 _ g ad ah from by repeat ((with_reducible exact HI0.out)))) : g ≠ ab)); have ae := ak ((by rw [hg]; exact Nat.ne_of_gt (IsS95.lt (show IsS95 w0 _ g ad ah from by repeat ((with_reducible exact HI0.out)))) : ab ≠ g)); replace HI0 := ak (IsS95.below (by repeat ((with_reducible exact HI0.out))) hb); clear hb hbox hg) | ((with_reducible refine gate_callee (f := 87) rfl ?_); refine qQi (some 6) rfl rfl Try.func87 (by kernel_rfl) rfl #[.pointer (some ⟨g, 0, none⟩), .int .i64 16] rfl (by (try simp only [List.map_toArray, List.map_cons, List.map_nil]); rfl) ?_; (with_reducible refine (spec_l30Rd_pick.calls k g ad ah 16 ap aq w0 _ ?side1 ?side2 A3.out).mono ?_); (case side1 => repeat ((with_reducible exact HI0.out))); (case side2 => repeat ((with_reducible exact HB.out))); rintro e w16 ⟨rfl, hi, hb, hk⟩; refine ⟨_, rfl, ?_⟩; replace aa := ak (KeepBut.blk hk (g' := ab) (o := .cells #[.int .i64 ac, .slice aj af.length al] 25 (0, 0)) (bk aa) ae.out (by simp)); replace HK := ak (KeepBut.trans (by repeat ((with_reducible exact HK.out))) hk (.inl rfl)); replace HB := ak (hb); replace HI0 := ak (hi); (try clear hb); (try clear hb2); (try clear hk); (try clear hi); have aU := ae.out; have aV := an.out; have aC := bc w16 aa 0 (.int .i64 ac) rfl; have aD := bc w16 aa 1 (.slice aj af.length al) rfl; have aE := fz aa 0; have aF := fz aa 1) | ((with_reducible refine gate_callee (f := 87) rfl ?_); refine qQi (some 16) rfl rfl Try.func87 (by kernel_rfl) rfl #[.pointer (some ⟨g, 0, none⟩), .int .i64 ac] rfl (by (try simp only [List.map_toArray, List.map_cons, List.map_nil]); rfl) ?_; (with_reducible refine (spec_l30Rd_pick.calls k g ad aq ac aG aH w0 _ ?side1 ?side2 A14.out).mono ?_); (case side1 => repeat ((with_reducible exact HI0.out))); (case side2 => repeat ((with_reducible exact HB.out))); rintro e w19 ⟨rfl, hi, hb, hk⟩; refine ⟨_, rfl, ?_⟩; replace aa := ak (KeepBut.blk hk (g' := ab) (o := .cells #[.int .i64 ac, .slice aj af.length al] 25 (0, 0)) (bk aa) ae.out (by simp)); replace HK := ak (KeepBut.trans (by repeat ((with_reducible exact HK.out))) hk (.inl rfl)); replace HB := ak (hb); replace HI0 := ak (hi); (try clear hb); (try clear hb2); (try clear hk); (try clear hi)))
  go_ret
  exact ⟨by rfl, by repeat ((with_reducible exact HI0.out)), by repeat ((with_reducible exact HB.out)), by repeat ((with_reducible exact HK.out))⟩
 rw [if_pos c4] at H
 have c4b0 : (ap == 0) = true := beq_iff_eq.mpr c4
 have c4b1 : (ap != 0) = false := bne_eq_false_iff_eq.mpr c4
 clear c4
 obtain ⟨aw, ar⟩ : ∃ y_ : List Int, y_ = (([(-1), ac] : List Int)) := ⟨_, rfl⟩
 replace H : ((spec_l30Rd_one.f k ad aq aw).bind fun ag => (some (ag.1, ag.2))) = some (r1, r2) := by (rw [ar]; with_reducible exact H)
 have aB := ak ar
 clear ar
 replace H := Option.bind_eq_some_iff.mp H
 obtain ⟨⟨aI, aJ⟩, A50, H⟩ := H
 have A5 := ak A50
 clear A50
 simp only [Option.some.injEq, Prod.mk.injEq] at H
 obtain ⟨rfl, rfl⟩ := H
 go_enter Try.func46, Try.ntmps46
 go_wp2_with (first | ((with_reducible refine gate_dst (N := 3) rfl ?_); refine qZh ?hg (N := 3) ?hd (cs := #[.int .i64 ac, .slice aj af.length al]) (t := 25) ?hr ?_; (case hd => rfl); (case hg => rfl); (case hr => (go_simp; done)); intro ab hg w6 hbox hb; replace HB := ak (qZd (by repeat ((with_reducible exact HB.out))) hb); have aa := ak (hbox); have az := ak ((by rw [hg]; exact (qQf (w := w) (g := g) (row := none) (by repeat ((with_reducible exact HK.out)))) : w.heap.size ≤ ab)); have aA := ak ((Nat.le_trans HW0.out (by rw [hg]; exact (qQf (w := w) (g := g) (row := none) (by repeat ((with_reducible exact HK.out)))) : w.heap.size ≤ ab) : w0.heap.size ≤ ab)); replace HK := ak (KeepBut.trans (by repeat ((with_reducible exact HK.out))) (KeepBut.of_below hb g none) (.inl rfl)); have an := ak ((by rw [hg]; exact Nat.ne_of_lt (IsS95.lt (show IsS95 w0 _ g ad ah from by repeat ((with_reducible exact HI0.out)))) : g ≠ ab)); have ae := ak ((by rw [hg]; exact Nat.ne_of_gt (IsS95.lt (show IsS95 w0 _ g ad ah from by repeat ((with_reducible exact HI0.out)))) : ab ≠ g)); replace HI0 := ak (IsS95.below (by repeat ((with_reducible exact HI0.out))) hb); clear hb hbox hg) | ((with_reducible refine gate_callee (f := 87) rfl ?_); refine qQi (some 6) rfl rfl Try.func87 (by kernel_rfl) rfl #[.pointer (some ⟨g, 0, none⟩), .int .i64 16] rfl (by (try simp only [List.map_toArray, List.map_cons, List.map_nil]); rfl) ?_; (with_reducible refine (spec_l30Rd_pick.calls k g ad ah 16 ap aq w0 _ ?side1 ?side2 A3.out).mono ?_); (case side1 => repeat ((with_reducible exact HI0.out))); (case side2 => repeat ((with_reducible exact HB.out))); rintro e w7 ⟨rfl, hi, hb, hk⟩; refine ⟨_, rfl, ?_⟩; replace aa := ak (KeepBut.blk hk (g' := ab) (o := .cells #[.int .i64 ac, .slice aj af.length al] 25 (0, 0)) (bk aa) ae.out (by simp)); replace HK := ak (KeepBut.trans (by repeat ((with_reducible exact HK.out))) hk (.inl rfl)); replace HB := ak (hb); replace HI0 := ak (hi); (try clear hb); (try clear hb2); (try clear hk); (try clear hi); have aX := ae.out; have aY := an.out; have aK := bc w7 aa 0 (.int .i64 ac) rfl; have aL := bc w7 aa 1 (.slice aj af.length al) rfl; have aN := fz aa 0; have aO := fz aa 1) | ((with_reducible refine gate_dst (N := 11) rfl ?_); refine Kd.R_lit (Kd.int .i64) _ 3 ?hg (N := 11) ?hd (xs := ([(-1), ac] : List Int)) (inner := [.int .i64 (-1), .int .i64 ac]) (ok := fun _ => True) (okp := fun _ => True) ?hr ?hp (fun _ hk => hk) trivial (Below.refl _ _) (Nat.le_refl _) (by simp) ?_; (case hd => rfl); (case hg => rfl); (case hr => (go_simp; done)); (case hp => exact (Reps.one (show Kd.M (Kd.int .i64) _ _ _ (-1) [.int .i64 (-1)] from rfl) (Reps.one (show Kd.M (Kd.int .i64) _ _ _ ac [.int .i64 ac] from rfl) (Reps.none _ _)))); intro aZ w10 ax hb hg_ hnew_; clear hg_ hnew_; (rw [← aB.out] at ax); have am := ak (Kd.R_lower ax (qQf (w := w) (g := g) (row := none) (by repeat ((with_reducible exact HK.out))))); replace aa := ak (qZe (bk aa) hb); replace HK := ak (KeepBut.trans (by repeat ((with_reducible exact HK.out))) (KeepBut.of_below hb g none) (.inl rfl)); replace HB := ak (qZd (by repeat ((with_reducible exact HB.out))) hb); replace HI0 := ak (IsS95.below (by repeat ((with_reducible exact HI0.out))) hb); clear hb ax; obtain ⟨aP, aQ, aR⟩ := Kd.R_slice am.out; subst aR) | ((with_reducible refine gate_callee (f := 47) rfl ?_); refine qQi (some 12) rfl rfl Try.func47 (by kernel_rfl) rfl #[.pointer (some ⟨g, 0, none⟩), .slice aP aw.length aQ] rfl (by (try simp only [List.map_toArray, List.map_cons, List.map_nil]); rfl) ?_; (with_reducible refine (spec_l30Rd_one.calls k g ad aq _ _ aw aI aJ w0 _ ?side1 ?side2 ?side3 ?side4 ?side5 A5.out).mono ?_); (case side1 => repeat ((with_reducible exact HI0.out))); (case side2 => repeat ((with_reducible exact HB.out))); (case side3 => repeat (exact (Kd.R_reads' am.out).2.2)); (case side4 => exact (Kd.R_reads' am.out).2.1); (case side5 => exact qVa (IsS95.own_ne HI0.out am.out (by decide))); rintro e w13 ⟨rfl, hi, hb, hk⟩; refine ⟨_, rfl, ?_⟩; replace aa := ak (KeepBut.blk hk (g' := ab) (o := .cells #[.int .i64 ac, .slice aj af.length al] 25 (0, 0)) (bk aa) ae.out (by simp)); replace am := ak (Kd.R_mono (Kd.R_keep (IsS95.apart (show IsS95 w0 _ g ad aq from by repeat ((with_reducible exact HI0.out))) (rk am) (by decide)) hk (fun _ h => h.2)) (fun _ h => h.1)); replace HK := ak (KeepBut.trans (by repeat ((with_reducible exact HK.out))) hk (.inl rfl)); replace HB := ak (hb); replace HI0 := ak (hi); (try clear hb); (try clear hb2); (try clear hk); (try clear hi)))
 go_ret
 exact ⟨by rfl, by repeat ((with_reducible exact HI0.out)), by repeat ((with_reducible exact HB.out)), by repeat ((with_reducible exact HK.out))⟩
/-! ### spec_DrawSomeWalks: function 26 -/
def spec_DrawSomeWalks.f (k : Nat) (l0 : List Int) : Option (Int × (List (S58)) × Int × Int × Int) := (spec_l30Open.f l0).bind fun al => ((spec_l30AnyNet.f k al.1 al.2).bind fun ag => ((spec_l30Node.f k al.1 ag.2.2 ag.1 ag.2.1).bind fun ax => ((spec_l30Node.f k al.1 ax.2 ag.1 ag.2.1).bind fun ay => ((spec_l30Rd_one.f k al.1 ay.2 (([1, 2, 6, 6, 0] : List Int))).bind fun az => (some (ag.1, ag.2.1, ax.1, ay.1, az.1))))))
theorem spec_DrawSomeWalks.mono : ∀ a0 k, LeO (spec_DrawSomeWalks.f k a0) (spec_DrawSomeWalks.f (k + 1) a0) := by
 intro a0 k
 unfold spec_DrawSomeWalks.f
 repeat' first | (with_reducible exact spec_l30AnyNet.mono _ _ _) | (with_reducible exact spec_l30Node.mono _ _ _ _ _) | (with_reducible exact spec_l30Rd_one.mono _ _ _ _) | (with_reducible exact LeO.refl _) | (with_reducible refine LeO.bind ?_ (fun _ => ?_))
def spec_DrawSomeWalks.T5 : Bool × List (List Nat × List Nat) := (true, [([], []), ([], []), ([], []), ([], []), ([], []), ([3, 4], [3, 4]), ([0, 5, 0], [0]), ([1, 6, 0, 1, 6], [1]), ([2, 7, 0, 1, 2, 6, 7], [2]), ([5, 8, 0, 1, 2, 3, 4, 5, 6, 7, 8], [5])])
def spec_DrawSomeWalks.B5 : List Nat := [0, 0, 0, 0, 0, 24, 57, 123, 255, 511]
theorem spec_DrawSomeWalks.tab5 : rtab .any (qWg Try.f26 5) = spec_DrawSomeWalks.T5 := by kernel_rfl
theorem spec_DrawSomeWalks.bits5 : qJn spec_DrawSomeWalks.T5.2 spec_DrawSomeWalks.B5 = true := by kernel_rfl
set_option maxHeartbeats 8000000 in
set_option maxRecDepth 100000 in
theorem spec_DrawSomeWalks.calls (k : Nat) (A0 : Option Addr) (c0 : Nat) (l0 : List Int) (r1 : Int) (r2 : List (S58)) (r3 : Int) (r4 : Int) (r5 : Int) (w : World) (hr0 : Kd.C (Kd.int .u8) w A0 l0.length l0) (hc0 : l0.length ≤ c0) (h : spec_DrawSomeWalks.f k l0 = some (r1, r2, r3, r4, r5)) :
  Calls Try.prog 26 #[.slice A0 l0.length c0] w fun e w' => ∃ v1_ : Value, e = .returned (.tuple #[.agg #[.int .i64 r1, v1_], .int .i64 r3, .int .i64 r4, .int .i64 r5]) ∧ Kd.R k58 58 w' w.heap.size (fun _ => True) v1_ r2 ∧ Below w.heap.size w w' := by
 have br := Try.underlying25
 have HR0 := ak hr0
 have HC0 := ak hc0
 clear hr0 hc0
 have HB := ak (Below.refl w.heap.size w)
 have H : ((spec_l30Open.f l0).bind fun al => ((spec_l30AnyNet.f k al.1 al.2).bind fun ag => ((spec_l30Node.f k al.1 ag.2.2 ag.1 ag.2.1).bind fun ax => ((spec_l30Node.f k al.1 ax.2 ag.1 ag.2.1).bind fun ay => ((spec_l30Rd_one.f k al.1 ay.2 (([1, 2, 6, 6, 0] : List Int))).bind fun az => (some (ag.1, ag.2.1, ax.1, ay.1, az.1))))))) = some (r1, r2, r3, r4, r5) := h
 clear h
 replace H := Option.bind_eq_some_iff.mp H
 obtain ⟨⟨ar, aH⟩, A20, H⟩ := H
 have A2 := ak A20
 clear A20
 replace H := Option.bind_eq_some_iff.mp H
 obtain ⟨⟨am, aq, aA⟩, A30, H⟩ := H
 have A3 := ak A30
 clear A30
 replace H := Option.bind_eq_some_iff.mp H
 obtain ⟨⟨aI, aD⟩, A40, H⟩ := H
 have A4 := ak A40
 clear A40
 replace H := Option.bind_eq_some_iff.mp H
 obtain ⟨⟨aJ, aB⟩, A50, H⟩ := H
 have A5 := ak A50
 clear A50
 obtain ⟨aE, aC⟩ : ∃ y_ : List Int, y_ = (([1, 2, 6, 6, 0] : List Int)) := ⟨_, rfl⟩
 replace H : ((spec_l30Rd_one.f k ar aB aE).bind fun az => (some (am, aq, aI, aJ, az.1))) = some (r1, r2, r3, r4, r5) := by (rw [aC]; with_reducible exact H)
 have aK := ak aC
 clear aC
 replace H := Option.bind_eq_some_iff.mp H
 obtain ⟨⟨ba, bb⟩, A60, H⟩ := H
 have A6 := ak A60
 clear A60
 simp only [Option.some.injEq, Prod.mk.injEq] at H
 obtain ⟨rfl, rfl, rfl, rfl, rfl⟩ := H
 go_enter Try.func26, Try.ntmps26
 try go_wp2_with (first | ((with_reducible refine gate_dst (N := 2) rfl ?_); refine qZh ?hg (N := 2) ?hd (cs := #[.int .i64 0, .slice none 0 0]) (t := 25) ?hr ?_; (case hd => rfl); (case hg => rfl); (case hr => (go_simp; done)); intro af hg w7 hbox hb; have aa := ak (hbox); have bh := ak ((by rw [hg]; exact (qZc (bl HB)) : w.heap.size ≤ af)); have aL := ak ((by rw [hg]; exact (qZc (bl HB)) : w.heap.size ≤ af)); replace HB := ak (qZd (bl HB) hb); clear hb hbox hg) | ((with_reducible refine gate_callee (f := 44) rfl ?_); refine qQi (some 11) rfl rfl Try.func44 (by kernel_rfl) rfl #[.slice A0 l0.length c0] rfl (by (try simp only [List.map_toArray, List.map_cons, List.map_nil]); rfl) ?_; (with_reducible refine (spec_l30Open.calls _ _ l0 ar aH w _ ?side1 ?side2 ?side3 A2.out).mono ?_); (case side1 => repeat ((with_reducible exact HB.out))); (case side2 => exact HR0.out); (case side3 => exact HC0.out); rintro e w8 ⟨aj, rfl, hi, hb, hb2⟩; refine ⟨_, rfl, ?_⟩; replace HB := ak (hb); have ac := ak (hi); have aG := ak (IsS95.ne_blk hi (qZe (bk aa) hb2) (by decide)); have an := ak (Ne.symm (IsS95.ne_blk hi (qZe (bk aa) hb2) (by decide))); replace aa := ak (qZe (bk aa) hb2); (try clear hb); (try clear hb2); (try clear hk); (try clear hi)) | ((with_reducible refine gate_callee (f := 45) rfl ?_); refine qQi (some 13) rfl rfl Try.func45 (by kernel_rfl) rfl #[.pointer (some ⟨aj, 0, none⟩)] rfl (by (try simp only [List.map_toArray, List.map_cons, List.map_nil]); rfl) ?_; (with_reducible refine (spec_l30AnyNet.calls k aj ar aH am aq aA w _ ?side1 ?side2 A3.out).mono ?_); (case side1 => repeat ((with_reducible exact ac.out))); (case side2 => repeat ((with_reducible exact HB.out))); rintro e w9 ⟨bs, rfl, ho0, hi, hb, hk⟩; refine ⟨_, rfl, ?_⟩; replace aa := ak (KeepBut.blk hk (g' := af) (o := .cells #[.int .i64 0, .slice none 0 0] 25 (0, 0)) (bk aa) an.out (by simp)); have ad := ak (Kd.R_lower ho0 (qZc (by repeat ((with_reducible exact HB.out))))); replace HB := ak (hb); replace ac := ak (hi); (try clear hb); (try clear hb2); (try clear hk); (try clear hi); (try clear ho0)) | ((with_reducible refine gate_dst (N := 7) rfl ?_); refine qZh ?hg (N := 7) ?hd (cs := #[.int .i64 0, .slice none 0 0]) (t := 25) ?hr ?_; (case hd => rfl); (case hg => rfl); (case hr => (go_simp; done)); intro ah hg w10 hbox hb; replace ad := ak (Kd.R_below (rk ad) hb); have ab := ak (hbox); have bi := ak ((by rw [hg]; exact (qZc (by repeat ((with_reducible exact HB.out)))) : w.heap.size ≤ ah)); have aN := ak ((by rw [hg]; exact (qZc (by repeat ((with_reducible exact HB.out)))) : w.heap.size ≤ ah)); replace HB := ak (qZd (by repeat ((with_reducible exact HB.out))) hb); have ai := ak ((by rw [hg]; exact Nat.ne_of_lt (qZk (bk aa)) : af ≠ ah)); have ae := ak ((by rw [hg]; exact Nat.ne_of_gt (qZk (bk aa)) : ah ≠ af)); replace aa := ak (qZe (bk aa) hb); have ao := ak ((by rw [hg]; exact Nat.ne_of_lt (IsS95.lt (show IsS95 w _ aj ar aA from by repeat ((with_reducible exact ac.out)))) : aj ≠ ah)); have ap := ak ((by rw [hg]; exact Nat.ne_of_gt (IsS95.lt (show IsS95 w _ aj ar aA from by repeat ((with_reducible exact ac.out)))) : ah ≠ aj)); replace ac := ak (IsS95.below (by repeat ((with_reducible exact ac.out))) hb); clear hb hbox hg; have bj := ae.out; have bm := ai.out; have bn := ap.out; have bo := ao.out; have aO := bc w10 ab 0 (.int .i64 0) rfl; have aP := bc w10 ab 1 (.slice none 0 0) rfl; have aQ := fz ab 0; have aR := fz ab 1; obtain ⟨au, av, bd⟩ := Kd.R_slice ad.out; subst bd) | ((with_reducible refine gate_callee (f := 46) rfl ?_); refine qQi (some 16) rfl rfl Try.func46 (by kernel_rfl) rfl #[.pointer (some ⟨aj, 0, none⟩), .agg #[.int .i64 am, .slice au aq.length av]] rfl (by (try simp only [List.map_toArray, List.map_cons, List.map_nil]); rfl) ?_; (with_reducible refine (spec_l30Node.calls k aj ar aA am _ _ aq aI aD w _ ?side1 ?side2 ?side3 ?side4 A4.out).mono ?_); (case side1 => repeat ((with_reducible first | exact ac.out | refine IsS95.far ?_ ao.out _))); (case side2 => repeat ((with_reducible first | exact HB.out | refine below_set ?_ aN.out))); (case side3 => exact Kd.C_foot_own (IsS95.apart (show IsS95 w _ aj ar aA from by repeat ((with_reducible first | exact ac.out | refine IsS95.far ?_ ao.out _))) (by exact (Kd.R_mono (Kd.R_far (p := ⟨ah, 1, none⟩) (Kd.R_far (p := ⟨ah, 0, none⟩) (Kd.R_types ad.out ab.out (by decide)) (fun _ hk => hk.2) (.int .i64 am)) (fun _ hk => hk.2) (.slice au aq.length av)) (fun _ h_ => h_.1))) (by decide)) (fun _ h_ => h_.2)); (case side4 => exact (Kd.R_reads' ad.out).2.1); rintro e w15 ⟨rfl, hi, hb, hk⟩; refine ⟨_, rfl, ?_⟩; replace aa := ak (KeepBut.blk hk (g' := af) (o := .cells #[.int .i64 0, .slice none 0 0] 25 (0, 0)) (by refine blk_far ?_ ai.out _; refine blk_far ?_ ai.out _; exact aa.out) an.out (by simp)); replace ad := ak (Kd.R_mono (Kd.R_keep (IsS95.apart (show IsS95 w _ aj ar aA from by repeat ((with_reducible first | exact ac.out | refine IsS95.far ?_ ao.out _))) (by exact (Kd.R_mono (Kd.R_far (p := ⟨ah, 1, none⟩) (Kd.R_far (p := ⟨ah, 0, none⟩) (Kd.R_types ad.out ab.out (by decide)) (fun _ hk => hk.2) (.int .i64 am)) (fun _ hk => hk.2) (.slice au aq.length av)) (fun _ h_ => h_.1))) (by decide)) hk (fun _ h => h.2)) (fun _ h => h.1)); replace ab := ak (KeepBut.blk hk (g' := ah) (o := .cells #[.int .i64 am, .slice au aq.length av] 25 (0, 0)) (by refine qZg (cs := #[.int .i64 am, .slice none 0 0]) ?_ 1 _ rfl; refine qZg (cs := #[.int .i64 0, .slice none 0 0]) ?_ 0 _ rfl; exact ab.out) ap.out (by simp)); replace HB := ak (hb); replace ac := ak (hi); (try clear hb); (try clear hb2); (try clear hk); (try clear hi); have aS := bc w15 ab 0 (.int .i64 am) rfl; have aT := bc w15 ab 1 (.slice au aq.length av) rfl; have aU := fz ab 0; have aV := fz ab 1) | ((with_reducible refine gate_callee (f := 46) rfl ?_); refine qQi (some 19) rfl rfl Try.func46 (by kernel_rfl) rfl #[.pointer (some ⟨aj, 0, none⟩), .agg #[.int .i64 am, .slice au aq.length av]] rfl (by (try simp only [List.map_toArray, List.map_cons, List.map_nil]); rfl) ?_; (with_reducible refine (spec_l30Node.calls k aj ar aD am _ _ aq aJ aB w _ ?side1 ?side2 ?side3 ?side4 A5.out).mono ?_); (case side1 => repeat ((with_reducible exact ac.out))); (case side2 => repeat ((with_reducible exact HB.out))); (case side3 => exact Kd.C_foot_own (IsS95.apart (show IsS95 w _ aj ar aD from by repeat ((with_reducible exact ac.out))) (rk ad) (by decide)) (fun _ h_ => h_.2)); (case side4 => exact (Kd.R_reads' ad.out).2.1); rintro e w17 ⟨rfl, hi, hb, hk⟩; refine ⟨_, rfl, ?_⟩; replace aa := ak (KeepBut.blk hk (g' := af) (o := .cells #[.int .i64 0, .slice none 0 0] 25 (0, 0)) (bk aa) an.out (by simp)); replace ad := ak (Kd.R_mono (Kd.R_keep (IsS95.apart (show IsS95 w _ aj ar aD from by repeat ((with_reducible exact ac.out))) (rk ad) (by decide)) hk (fun _ h => h.2)) (fun _ h => h.1)); replace ab := ak (KeepBut.blk hk (g' := ah) (o := .cells #[.int .i64 am, .slice au aq.length av] 25 (0, 0)) (bk ab) ap.out (by simp)); replace HB := ak (hb); replace ac := ak (hi); (try clear hb); (try clear hb2); (try clear hk); (try clear hi)))
 replace ad := ak (Kd.R_drew ad.out)
 replace aa := ak (qZp aa.out)
 replace ab := ak (qZp ab.out)
 replace ac := ak (IsS95.drew ac.out)
 replace HB := ak (qQg HB.out)
 refine qJj (n := 10) (S := fun w' => w'.cell? ⟨ah, 0, none⟩ = some (.int .i64 am) ∧ w'.cell? ⟨ah, 1, none⟩ = some (.slice au aq.length av)) (ds := []) (ms 10 0) (by kernel_rfl) rfl (by kernel_rfl) ⟨(qZb ab.out 0).trans rfl, (qZb ab.out 1).trans rfl⟩ (fun hHeld => ?_); refine qQo spec_DrawSomeWalks.tab5 spec_DrawSomeWalks.bits5 (fun HT_ HW_ => ?_)
 generalize w17.drew = w18 at ad aa ab ac HB hHeld ⊢
 refine pu 1 21 ?_ (ms 10 2) rfl rfl HT_ (by kernel_rfl) (fun _ _ _ h => h) (by rfl) ?_ ?_ ?_ ?_
 rotate_left
 ·intro w'
  go_simp
  with_reducible rfl
 rotate_left
 ·simp only [SX]
  rfl
 refine pu 2 22 ?_ (ms 10 6) rfl rfl HT_ (by kernel_rfl) (fun _ _ _ h => h) (by rfl) ?_ ?_ ?_ ?_
 rotate_left
 ·intro w'
  go_simp
  with_reducible rfl
 rotate_left
 ·simp only [SX]
  rfl
 refine pu 3 23 ?_ (ms 10 14) rfl rfl HT_ (by kernel_rfl) (fun _ _ _ h => h) (by rfl) ?_ ?_ ?_ ?_
 rotate_left
 ·intro w'
  go_simp
  with_reducible rfl
 rotate_left
 ·simp only [SX]
  rfl
 refine tk 0 20 ?_ (ms 10 15) rfl rfl HT_ HW_ (by kernel_rfl) (fun _ _ _ h => h) (by rfl) ?_ hHeld ?_ ?_ ?_
 rotate_left
 ·rintro w' ⟨s0, s1⟩
  go_simp
  with_reducible rfl
 rotate_left
 ·simp only [SX]
  rfl
 refine one_ (i := 4) (N := some 24) (ms 10 31) rfl rfl (qJa HT_.out (by kernel_rfl)) (by decide) (fun K hK => ?_)
 refine Kd.R_lit_step (Kd.int .i64) _ 3 ?hg (N := 24) ?hd (xs := ([1, 2, 6, 6, 0] : List Int)) (inner := [.int .i64 1, .int .i64 2, .int .i64 6, .int .i64 6, .int .i64 0]) (ok := fun _ => True) (okp := fun _ => True) ?hr ?hp (fun _ hk => hk) trivial (Below.refl _ _) (Nat.le_refl _) (by simp) ?_; (case hd => rfl); (case hg => rfl); (case hr => (go_simp; done)); (case hp => exact (Reps.one (show Kd.M (Kd.int .i64) _ _ _ 1 [.int .i64 1] from rfl) (Reps.one (show Kd.M (Kd.int .i64) _ _ _ 2 [.int .i64 2] from rfl) (Reps.one (show Kd.M (Kd.int .i64) _ _ _ 6 [.int .i64 6] from rfl) (Reps.one (show Kd.M (Kd.int .i64) _ _ _ 6 [.int .i64 6] from rfl) (Reps.one (show Kd.M (Kd.int .i64) _ _ _ 0 [.int .i64 0] from rfl) (Reps.none _ _)))))))
 intro bt w19 aF hb hg_ hnew_
 clear hg_ hnew_
 (rw [← aK.out] at aF)
 replace ad := ak (Kd.R_below (rk ad) hb)
 have aw := ak (Kd.R_lower aF (qZc (by repeat ((with_reducible exact HB.out)))))
 replace aa := ak (qZe (bk aa) hb)
 replace ab := ak (qZe (bk ab) hb)
 replace HB := ak (qZd (by repeat ((with_reducible exact HB.out))) hb)
 replace ac := ak (IsS95.below (by repeat ((with_reducible exact ac.out))) hb)
 clear hb aF
 obtain ⟨be, bf, bg⟩ := Kd.R_slice aw.out
 (subst bg)
 refine hK.out _ _ ⟨(qZb ab.out 0).trans rfl, (qZb ab.out 1).trans rfl⟩ (fun hHeld => ?_)
 clear hK K
 refine qJd (a' := ?_) ?_ ?_
 rotate_left
 ·show Act.put _ (some 24) _ = _
  simp only [SX]
  rfl
 refine one_ (i := 5) (N := some 25) (ms 10 63) rfl rfl (qJa HT_.out (by kernel_rfl)) (by decide) (fun K hK => ?_)
 refine qXc Try.func47 (by kernel_rfl) rfl #[.pointer (some ⟨aj, 0, none⟩), .slice be aE.length bf] (by rfl) rfl rfl (by (try simp only [List.map_toArray, List.map_cons, List.map_nil]); rfl) ?_
 with_reducible refine (spec_l30Rd_one.calls k aj ar aB _ _ aE ba bb w _ ?side1 ?side2 ?side3 ?side4 ?side5 A6.out).mono ?_
 (case side1 => repeat ((with_reducible exact ac.out)))
 (case side2 => repeat ((with_reducible exact HB.out)))
 (case side3 => repeat (exact (Kd.R_reads' aw.out).2.2))
 (case side4 => exact (Kd.R_reads' aw.out).2.1)
 (case side5 => exact qVa (IsS95.own_ne ac.out aw.out (by decide)))
 rintro e w22 ⟨rfl, hi, hb, hk⟩
 refine ⟨_, rfl, ?_⟩
 replace aa := ak (KeepBut.blk hk (g' := af) (o := .cells #[.int .i64 0, .slice none 0 0] 25 (0, 0)) (bk aa) an.out (by simp))
 replace ad := ak (Kd.R_mono (Kd.R_keep (IsS95.apart (show IsS95 w _ aj ar aB from by repeat ((with_reducible exact ac.out))) (rk ad) (by decide)) hk (fun _ h => h.2)) (fun _ h => h.1))
 replace ab := ak (KeepBut.blk hk (g' := ah) (o := .cells #[.int .i64 am, .slice au aq.length av] 25 (0, 0)) (bk ab) ap.out (by simp))
 replace aw := ak (Kd.R_mono (Kd.R_keep (IsS95.apart (show IsS95 w _ aj ar aB from by repeat ((with_reducible exact ac.out))) (rk aw) (by decide)) hk (fun _ h => h.2)) (fun _ h => h.1))
 replace HB := ak (hb)
 replace ac := ak (hi)
 (try clear hb)
 (try clear hb2)
 (try clear hk)
 (try clear hi)
 refine hK.out _ _ ⟨(qZb ab.out 0).trans rfl, (qZb ab.out 1).trans rfl⟩ (fun hHeld => ?_)
 clear hK K
 refine qJd (a' := ?_) ?_ ?_
 rotate_left
 ·show Act.put _ (some 25) _ = _
  simp only [SX]
  rfl
 refine one_ (i := 6) (N := none) (ms 10 127) rfl rfl (qJa HT_.out (by kernel_rfl)) (by decide) (fun K hK => ?_)
 have bu : w22.cell? ⟨af, 0, none⟩ = some (.int .i64 0) := (qZb aa.out 0).trans rfl
 have bp := qQn aa.out 0
 have aW := ae.out
 have aX := ai.out
 have bv : w22.cell? ⟨af, 1, none⟩ = some (.slice none 0 0) := (qZb aa.out 1).trans rfl
 have bq := qQn aa.out 1
 have aY := ae.out
 have aZ := ai.out
 refine skip_ (w1 := ?_) (by rfl) rfl ?_ ?_
 rotate_left
 ·go_simp
  rfl
 refine hK.out _ _ ⟨((qQa (p := ⟨af, _, none⟩) ae.out _).trans (((qQa (p := ⟨af, _, none⟩) ae.out _).trans (hHeld.1)))), ((qQa (p := ⟨af, _, none⟩) ae.out _).trans (((qQa (p := ⟨af, _, none⟩) ae.out _).trans (hHeld.2))))⟩ (fun hHeld => ?_)
 clear hK K
 refine pu 7 3 ?_ (ms 10 255) rfl rfl HT_ (by kernel_rfl) (fun _ _ _ h => h) (by rfl) ?_ ?_ ?_ ?_
 rotate_left
 ·intro w'
  go_simp
  with_reducible rfl
 rotate_left
 ·simp only [SX]
  rfl
 refine pu 8 4 ?_ (ms 10 511) rfl rfl HT_ (by kernel_rfl) (fun _ _ _ h => h) (by rfl) ?_ ?_ ?_ ?_
 rotate_left
 ·intro w'
  go_simp
  with_reducible rfl
 rotate_left
 ·simp only [SX]
  rfl
 refine pu 9 5 ?_ (ms 10 1023) rfl rfl HT_ (by kernel_rfl) (fun _ _ _ h => h) (by rfl) ?_ ?_ ?_ ?_
 rotate_left
 ·intro w'
  go_simp
  with_reducible rfl
 rotate_left
 ·simp only [SX]
  rfl
 refine qXe (qJg HT_.out (by kernel_rfl)) ?_
 try go_wp2
 refine bodyPost_ret (results_list (rs := [.cell 2 25, .tmp 3, .tmp 4, .tmp 5]) rfl (by simp) (.cell af 25 #[.int .i64 am, .slice au aq.length av] (0, 0) _ rfl (by refine qZg (cs := #[.int .i64 am, .slice none 0 0]) ?_ 1 _ rfl; refine qZg (cs := #[.int .i64 0, .slice none 0 0]) ?_ 0 _ rfl; exact aa.out) Try.underlying25 rfl (by kernel_rfl) (.tmp (.tmp (.tmp .nil))))) rfl ?_
 exact ⟨_, by rfl, by exact Kd.R_mono (Kd.R_far (p := ⟨af, 1, none⟩) (Kd.R_far (p := ⟨af, 0, none⟩) (Kd.R_types ad.out aa.out (by decide)) (fun _ hk => hk.2) (.int .i64 am)) (fun _ hk => hk.2) (.slice au aq.length av)) (fun _ hk => trivial), by repeat ((with_reducible first | exact HB.out | refine below_set ?_ aL.out))⟩
end Go.Proofs.Ytlgolgfcolnddaa.F
