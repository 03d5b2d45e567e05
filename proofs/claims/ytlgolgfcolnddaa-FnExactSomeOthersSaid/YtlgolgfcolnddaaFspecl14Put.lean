-- Printed by wip/px/px.py of this claim's repository (the kit's printer, extended there). Lean checks it.
import Derived.Test.YtlgolgfcolnddaaFKinds
import Derived.Test.YtlgolgfcolnddaaFspecl14Less
namespace Go.Proofs.Ytlgolgfcolnddaa.F
open Go.RowKit Go.Proofs.YtlgolgfcolnddaaW.PrintWords Go.Proofs.YtlgolgfcolnddaaW.PrintLast Go.Proofs.YtlgolgfcolnddaaW.PrintMore
attribute [local go_sem] max2_int min2_int max_two min_two max_three min_three max_four min_four   -- for this text's walks alone
set_option linter.unusedVariables false
set_option linter.unusedSimpArgs false

/-! ### spec_l14Put: function 114 -/
def spec_l14Put.l0 : Nat → List (S103) → Int → Int → List Int → Int → Option ((List (S103)))
 | 0, _, _, _, _, _ => none
 | k + 1, x0, x2, x7, x169000, x169001 => if x7 < (x0.length : Int) then (if 0 ≤ x7 then ((spec_l14Less.f k x169000 x169001 ((rd_T103 x0 x7).f0) ((rd_T103 x0 x7).f1)).bind fun t170 => (if t170 = true then ((some (([] : List (S103)) : List (S103))).bind fun y171 => (if x7 ≤ (x0.length : Int) then ((some (x0.take (x7 : Int).toNat : List (S103))).bind fun y174 => (if y171.length + y174.length < 4398046511104 then ((some (y171 ++ y174 : List (S103))).bind fun y179 => (if y179.length < 4398046511104 then ((some (y179 ++ [(⟨x169000, x169001⟩ : S103)] : List (S103))).bind fun y182 => ((some (x0.drop (x7 : Int).toNat : List (S103))).bind fun y185 => (if y182.length + y185.length < 4398046511104 then ((some (y182 ++ y185 : List (S103))).bind fun y190 => (if (y190.length : Int) > x2 then (if 0 ≤ x2 then (if x2 ≤ (y190.length : Int) then (some (y190.take (x2 : Int).toNat)) else (none)) else (none)) else (some y190))) else (none)))) else (none))) else (none))) else (none))) else (spec_l14Put.l0 k x0 x2 (wrap64 (x7 + 1)) x169000 x169001))) else (none)) else ((some (([] : List (S103)) : List (S103))).bind fun y196 => (if 0 ≤ x7 then (if x7 ≤ (x0.length : Int) then ((some (x0.take (x7 : Int).toNat : List (S103))).bind fun y199 => (if y196.length + y199.length < 4398046511104 then ((some (y196 ++ y199 : List (S103))).bind fun y204 => (if y204.length < 4398046511104 then ((some (y204 ++ [(⟨x169000, x169001⟩ : S103)] : List (S103))).bind fun y207 => ((some (x0.drop (x7 : Int).toNat : List (S103))).bind fun y210 => (if y207.length + y210.length < 4398046511104 then ((some (y207 ++ y210 : List (S103))).bind fun y215 => (if (y215.length : Int) > x2 then (if 0 ≤ x2 then (if x2 ≤ (y215.length : Int) then (some (y215.take (x2 : Int).toNat)) else (none)) else (none)) else (some y215))) else (none)))) else (none))) else (none))) else (none)) else (none)))
def spec_l14Put.f (k : Nat) (l0 : List (S103)) (l1_0 : List Int) (a1_1 : Int) (a2 : Int) : Option ((List (S103))) := spec_l14Put.l0 k l0 a2 0 l1_0 a1_1
theorem spec_l14Put.mono_l : ∀ k, (∀ y0 y1 y2 y3 y4, LeO (spec_l14Put.l0 k y0 y1 y2 y3 y4) (spec_l14Put.l0 (k + 1) y0 y1 y2 y3 y4))
 | 0 => fun _ _ _ _ _ r h => by simp [spec_l14Put.l0] at h
 | k + 1 => by
  have ih0 := spec_l14Put.mono_l k
  ·intro y0 y1 y2 y3 y4
   unfold spec_l14Put.l0
   repeat' first
   | (with_reducible exact ih0 _ _ _ _ _)
   | (with_reducible exact spec_l14Less.mono _ _ _ _ _)
   | (with_reducible exact LeO.refl _)
   | (with_reducible exact LeO.none _)
   | (with_reducible refine LeO.ite ?_ ?_)
   | (with_reducible refine LeO.bind ?_ (fun _ => ?_))
   | exact ih0 _ _ _ _ _
   | exact spec_l14Less.mono _ _ _ _ _
   | exact LeO.none _
   | refine LeO.ite ?_ ?_
   | refine LeO.bind ?_ (fun _ => ?_)
theorem spec_l14Put.mono : ∀ a0 a1 a2 a3 k, LeO (spec_l14Put.f k a0 a1 a2 a3) (spec_l14Put.f (k + 1) a0 a1 a2 a3) := by
 intro a0 a1 a2 a3 k
 have ih0 := spec_l14Put.mono_l k
 unfold spec_l14Put.f
 repeat' first
   | (with_reducible exact ih0 _ _ _ _ _)
   | (with_reducible exact spec_l14Less.mono _ _ _ _ _)
   | (with_reducible exact LeO.refl _)
   | (with_reducible exact LeO.none _)
   | (with_reducible refine LeO.ite ?_ ?_)
   | (with_reducible refine LeO.bind ?_ (fun _ => ?_))
   | exact ih0 _ _ _ _ _
   | exact spec_l14Less.mono _ _ _ _ _
   | exact LeO.none _
   | refine LeO.ite ?_ ?_
   | refine LeO.bind ?_ (fun _ => ?_)
def spec_l14Put.T2 : Bool × List (List Nat × List Nat) := (true, [([], []), ([], []), ([1], [1]), ([0, 2], [0, 2]), ([3], [3]), ([4], [4]), ([4], [4]), ([4], [4]), ([6, 7, 4], [4, 6, 7]), ([8, 4], [4, 8]), ([5, 9, 4, 4], [4, 5, 9]), ([10, 4], [4, 10]), ([4, 11], [4, 11])])
def spec_l14Put.B2 : List Nat := [0, 0, 2, 7, 15, 31, 31, 31, 223, 479, 1023, 2047, 4095]
theorem spec_l14Put.tab2 : rtab .any (opsOf Try.f114 2) = spec_l14Put.T2 := by kernel_rfl
theorem spec_l14Put.bits2 : waitsOk spec_l14Put.T2.2 spec_l14Put.B2 = true := by kernel_rfl
set_option maxHeartbeats 8000000 in
set_option maxRecDepth 100000 in
theorem spec_l14Put.calls (k : Nat) (P0_ : Nat → Prop) (A0 : Option Addr) (c0 : Nat) (l0 : List (S103)) (P1_0_ : Nat → Prop) (A1_0 : Option Addr) (c1_0 : Nat) (l1_0 : List Int) (a1_1 : Int) (a2 : Int) (r : List (S103)) (w : World) (hs0 : Kd.V k103 103 w w.heap.size (fun k_ => P0_ k_) (.slice A0 l0.length c0) l0) (hs1_0 : Kd.V (Kd.int .i64) 3 w w.heap.size (fun k_ => P1_0_ k_) (.slice A1_0 l1_0.length c1_0) l1_0) (h : spec_l14Put.f k l0 l1_0 a1_1 a2 = some r) :
  Calls Try.prog 114 #[.slice A0 l0.length c0, .agg #[.slice A1_0 l1_0.length c1_0, .int .i64 a1_1], .int .i64 a2] w fun e w' => ∃ v0_ : Value, e = .returned (v0_) ∧ Kd.N k103 103 w' w.heap.size (fun k_ => ((P0_ k_ ∨ P1_0_ k_) ∨ w.heap.size ≤ k_)) v0_ r ∧ Below w.heap.size w w' := by
 have hu103 := Try.underlying103
 have HO0 := ak (show Kd.V k103 103 w w.heap.size (fun k_ => ((P0_ k_ ∨ P1_0_ k_) ∨ w.heap.size ≤ k_)) (.slice A0 l0.length c0) l0 from Kd.V_mono hs0 (fun k_ hk => .inl (.inl hk)))
 have HO1_0 := ak (show Kd.V (Kd.int .i64) 3 w w.heap.size (fun k_ => ((P0_ k_ ∨ P1_0_ k_) ∨ w.heap.size ≤ k_)) (.slice A1_0 l1_0.length c1_0) l1_0 from Kd.V_mono hs1_0 (fun k_ hk => .inl (.inr hk)))
 have HB := ak (Below.refl w.heap.size w)
 have H : (spec_l14Put.l0 k l0 a2 0 l1_0 a1_1) = some r := h
 clear h
 have H' := ak H
 clear H
 go_enter Try.func114, Try.ntmps114
 go_wp2_with (first | ((with_reducible refine gate_dst (N := 4) rfl ?_); refine box_event ?hg (N := 4) ?hd (cs := #[.slice A1_0 l1_0.length c1_0, .int .i64 a1_1]) (t := 103) ?hr ?_; (case hd => rfl); (case hg => rfl); (case hr => first | (go_simp; done) | (go_simp; rfl)); intro gb168 hg w4 hbox hb; replace HO0 := ak (Kd.V_below (Kd.V_elderB (by (with_reducible repeat (first | apply Kd.V_alloc | apply Kd.V_drewN | apply Kd.V_drew)); exact HO0.out) gb168 (Nat.le_of_eq hg.symm)) hb); replace HO1_0 := ak (Kd.V_below (Kd.V_elderB (by (with_reducible repeat (first | apply Kd.V_alloc | apply Kd.V_drewN | apply Kd.V_drew)); exact HO1_0.out) gb168 (Nat.le_of_eq hg.symm)) hb); have BK168 := ak (hbox); have GW168 := ak ((by rw [hg]; exact (below_size (bl HB)) : w.heap.size ≤ gb168)); have GE168 := ak ((by rw [hg]; exact (below_size (bl HB)) : w.heap.size ≤ gb168)); replace HB := ak (below_step (bl HB) hb); clear hb hbox hg))
 go_loopg [7] k (fun kq v7 w' => ∃ (x7_1 : Int), v7 = .int .i64 x7_1 ∧ Aside0 (spec_l14Put.l0 kq l0 a2 x7_1 l1_0 a1_1 = some r) ∧ Aside0 (kq ≤ k) ∧ Aside0 (Kd.V k103 103 w' w.heap.size (fun k_ => ((P0_ k_ ∨ P1_0_ k_) ∨ w.heap.size ≤ k_) ∧ k_ ≠ gb168) (.slice A0 l0.length c0) l0) ∧ Aside0 (Kd.V (Kd.int .i64) 3 w' w.heap.size (fun k_ => ((P0_ k_ ∨ P1_0_ k_) ∨ w.heap.size ≤ k_) ∧ k_ ≠ gb168) (.slice A1_0 l1_0.length c1_0) l1_0) ∧ Aside0 (w'.heap[gb168]? = some (.cells #[(.slice A1_0 l1_0.length c1_0), .int .i64 a1_1] 103 (0, 0))) ∧ Aside0 (Below w.heap.size w w'))
 case atStart => exact ⟨(0), (by first | rfl | (simp; done) | (simp [*]; done)), H', ⟨Nat.le_refl _⟩, ⟨by (with_reducible repeat (first | apply Kd.V_alloc | apply Kd.V_drewN | apply Kd.V_drew)); exact HO0.out⟩, ⟨by (with_reducible repeat (first | apply Kd.V_alloc | apply Kd.V_drewN | apply Kd.V_drew)); exact HO1_0.out⟩, ⟨bk BK168⟩, ⟨bl1 HB GE168⟩⟩
 clear H'
 try clear c1
 try clear p2
 obtain ⟨x7_1, rfl, HA, HK1, HO_0, HO_169000, BK168, HB⟩ := hrel
 cases gk with
 | zero => exact absurd HA.out (by simp [spec_l14Put.l0])
 | succ k1 =>
  have H := HA.out
  clear HA
  simp only [spec_l14Put.l0] at H
  by_cases c5 : x7_1 < (l0.length : Int)
  rotate_left
  ·rw [if_neg c5] at H
   have c5b0 : decide (x7_1 < (l0.length : Int)) = false := decide_eq_false c5
   clear c5
   obtain ⟨y196, hy196⟩ : ∃ y_ : List (S103), y_ = (([] : List (S103))) := ⟨_, rfl⟩
   replace H : (if 0 ≤ x7_1 then (if x7_1 ≤ (l0.length : Int) then ((some (l0.take (x7_1 : Int).toNat : List (S103))).bind fun y199 => (if y196.length + y199.length < 4398046511104 then ((some (y196 ++ y199 : List (S103))).bind fun y204 => (if y204.length < 4398046511104 then ((some (y204 ++ [(⟨l1_0, a1_1⟩ : S103)] : List (S103))).bind fun y207 => ((some (l0.drop (x7_1 : Int).toNat : List (S103))).bind fun y210 => (if y207.length + y210.length < 4398046511104 then ((some (y207 ++ y210 : List (S103))).bind fun y215 => (if (y215.length : Int) > a2 then (if 0 ≤ a2 then (if a2 ≤ (y215.length : Int) then (some (y215.take (a2 : Int).toNat)) else (none)) else (none)) else (some y215))) else (none)))) else (none))) else (none))) else (none)) else (none)) = some r := by first | (rw [hy196]; with_reducible exact H) | (have H2_ := (Option.bind_some _ _).symm.trans H; rw [hy196]; with_reducible exact H2_) | (have H2_ := (Option.bind_some _ _).symm.trans H; with_reducible exact H2_) | with_reducible exact H | (rw [hy196]; exact H) | exact H
   have Ny196 := ak hy196
   clear hy196
   by_cases c44 : 0 ≤ x7_1
   rotate_left
   ·rw [if_neg c44] at H
    exact absurd H (by simp)
   rw [if_pos c44] at H
   have c44b0 := eq_true c44
   have c44b1 : decide (0 ≤ x7_1) = true := decide_eq_true c44
   clear c44
   by_cases c45 : x7_1 ≤ (l0.length : Int)
   rotate_left
   ·rw [if_neg c45] at H
    exact absurd H (by simp)
   rw [if_pos c45] at H
   have c45b0 := eq_true c45
   have c45b1 : decide (x7_1 ≤ (l0.length : Int)) = true := decide_eq_true c45
   clear c45
   obtain ⟨y199, hy199⟩ : ∃ y_ : List (S103), y_ = (l0.take (x7_1 : Int).toNat) := ⟨_, rfl⟩
   replace H : (if y196.length + y199.length < 4398046511104 then ((some (y196 ++ y199 : List (S103))).bind fun y204 => (if y204.length < 4398046511104 then ((some (y204 ++ [(⟨l1_0, a1_1⟩ : S103)] : List (S103))).bind fun y207 => ((some (l0.drop (x7_1 : Int).toNat : List (S103))).bind fun y210 => (if y207.length + y210.length < 4398046511104 then ((some (y207 ++ y210 : List (S103))).bind fun y215 => (if (y215.length : Int) > a2 then (if 0 ≤ a2 then (if a2 ≤ (y215.length : Int) then (some (y215.take (a2 : Int).toNat)) else (none)) else (none)) else (some y215))) else (none)))) else (none))) else (none)) = some r := by first | (rw [hy199]; with_reducible exact H) | (have H2_ := (Option.bind_some _ _).symm.trans H; rw [hy199]; with_reducible exact H2_) | (have H2_ := (Option.bind_some _ _).symm.trans H; with_reducible exact H2_) | with_reducible exact H | (rw [hy199]; exact H) | exact H
   have Ny199 := ak hy199
   clear hy199
   by_cases c46 : y196.length + y199.length < 4398046511104
   rotate_left
   ·rw [if_neg c46] at H
    exact absurd H (by simp)
   rw [if_pos c46] at H
   have LMc46 := ak c46
   clear c46
   obtain ⟨y204, hy204⟩ : ∃ y_ : List (S103), y_ = (y196 ++ y199) := ⟨_, rfl⟩
   replace H : (if y204.length < 4398046511104 then ((some (y204 ++ [(⟨l1_0, a1_1⟩ : S103)] : List (S103))).bind fun y207 => ((some (l0.drop (x7_1 : Int).toNat : List (S103))).bind fun y210 => (if y207.length + y210.length < 4398046511104 then ((some (y207 ++ y210 : List (S103))).bind fun y215 => (if (y215.length : Int) > a2 then (if 0 ≤ a2 then (if a2 ≤ (y215.length : Int) then (some (y215.take (a2 : Int).toNat)) else (none)) else (none)) else (some y215))) else (none)))) else (none)) = some r := by first | (rw [hy204]; with_reducible exact H) | (have H2_ := (Option.bind_some _ _).symm.trans H; rw [hy204]; with_reducible exact H2_) | (have H2_ := (Option.bind_some _ _).symm.trans H; with_reducible exact H2_) | with_reducible exact H | (rw [hy204]; exact H) | exact H
   have Ny204 := ak hy204
   clear hy204
   by_cases c47 : y204.length < 4398046511104
   rotate_left
   ·rw [if_neg c47] at H
    exact absurd H (by simp)
   rw [if_pos c47] at H
   have LMc47 := ak c47
   clear c47
   obtain ⟨y207, hy207⟩ : ∃ y_ : List (S103), y_ = (y204 ++ [(⟨l1_0, a1_1⟩ : S103)]) := ⟨_, rfl⟩
   replace H : ((some (l0.drop (x7_1 : Int).toNat : List (S103))).bind fun y210 => (if y207.length + y210.length < 4398046511104 then ((some (y207 ++ y210 : List (S103))).bind fun y215 => (if (y215.length : Int) > a2 then (if 0 ≤ a2 then (if a2 ≤ (y215.length : Int) then (some (y215.take (a2 : Int).toNat)) else (none)) else (none)) else (some y215))) else (none))) = some r := by first | (rw [hy207]; with_reducible exact H) | (have H2_ := (Option.bind_some _ _).symm.trans H; rw [hy207]; with_reducible exact H2_) | (have H2_ := (Option.bind_some _ _).symm.trans H; with_reducible exact H2_) | with_reducible exact H | (rw [hy207]; exact H) | exact H
   have Ny207 := ak hy207
   clear hy207
   have c48b0 := eq_true (oT (by first | (with_reducible assumption) | assumption) : 0 ≤ x7_1)
   have c49b0 := eq_true (oT (by first | (with_reducible assumption) | assumption) : x7_1 ≤ (l0.length : Int))
   obtain ⟨y210, hy210⟩ : ∃ y_ : List (S103), y_ = (l0.drop (x7_1 : Int).toNat) := ⟨_, rfl⟩
   replace H : (if y207.length + y210.length < 4398046511104 then ((some (y207 ++ y210 : List (S103))).bind fun y215 => (if (y215.length : Int) > a2 then (if 0 ≤ a2 then (if a2 ≤ (y215.length : Int) then (some (y215.take (a2 : Int).toNat)) else (none)) else (none)) else (some y215))) else (none)) = some r := by first | (rw [hy210]; with_reducible exact H) | (have H2_ := (Option.bind_some _ _).symm.trans H; rw [hy210]; with_reducible exact H2_) | (have H2_ := (Option.bind_some _ _).symm.trans H; with_reducible exact H2_) | with_reducible exact H | (rw [hy210]; exact H) | exact H
   have Ny210 := ak hy210
   clear hy210
   by_cases c50 : y207.length + y210.length < 4398046511104
   rotate_left
   ·rw [if_neg c50] at H
    exact absurd H (by simp)
   rw [if_pos c50] at H
   have LMc50 := ak c50
   clear c50
   obtain ⟨y215, hy215⟩ : ∃ y_ : List (S103), y_ = (y207 ++ y210) := ⟨_, rfl⟩
   replace H : (if (y215.length : Int) > a2 then (if 0 ≤ a2 then (if a2 ≤ (y215.length : Int) then (some (y215.take (a2 : Int).toNat)) else (none)) else (none)) else (some y215)) = some r := by first | (rw [hy215]; with_reducible exact H) | (have H2_ := (Option.bind_some _ _).symm.trans H; rw [hy215]; with_reducible exact H2_) | (have H2_ := (Option.bind_some _ _).symm.trans H; with_reducible exact H2_) | with_reducible exact H | (rw [hy215]; exact H) | exact H
   have Ny215 := ak hy215
   clear hy215
   by_cases c51 : (y215.length : Int) > a2
   rotate_left
   ·rw [if_neg c51] at H
    have c51b0 : decide (a2 < (y215.length : Int)) = false := decide_eq_false c51
    clear c51
    obtain rfl := Option.some.inj H
    try go_wp2
    replace HO_0 := ak (Kd.V_drew HO_0.out)
    replace HO_169000 := ak (Kd.V_drew HO_169000.out)
    replace BK168 := ak (blk_drew BK168.out)
    replace HB := ak (below_drew1 HB.out)
    refine start_ (n := 13) (S := fun w' => True) (ds := []) (ms 13 0) (by kernel_rfl) rfl (by kernel_rfl) trivial (fun hHeld => ?_); refine with_tabW spec_l14Put.tab2 spec_l14Put.bits2 (fun HT_ HW_ => ?_)
    generalize wr.drew = w65 at HO_0 HO_169000 BK168 HB hHeld ⊢
    refine pu 0 9 ?_ (ms 13 1) rfl rfl HT_ (by kernel_rfl) (fun _ _ _ h => h) (by rfl) ?_ ?_ ?_ ?_
    rotate_left
    ·intro w'
     go_simp
     with_reducible rfl
    rotate_left
    ·simp only [SX]
     rfl
    refine pu 1 10 ?_ (ms 13 3) rfl rfl HT_ (by kernel_rfl) (fun _ _ _ h => h) (by rfl) ?_ ?_ ?_ ?_
    rotate_left
    ·intro w'
     go_simp
     with_reducible rfl
    rotate_left
    ·simp only [SX]
     rfl
    refine pu 2 11 ?_ (ms 13 7) rfl rfl HT_ (by kernel_rfl) (fun _ _ _ h => h) (by rfl) ?_ ?_ ?_ ?_
    rotate_left
    ·intro w'
     go_simp
     with_reducible rfl
    rotate_left
    ·simp only [SX]
     rfl
    refine pu 3 12 ?_ (ms 13 15) rfl rfl HT_ (by kernel_rfl) (fun _ _ _ h => h) (by rfl) ?_ ?_ ?_ ?_
    rotate_left
    ·intro w'
     go_simp
     with_reducible rfl
    rotate_left
    ·simp only [SX]
     rfl
    refine pu 4 13 ?_ (ms 13 31) rfl rfl HT_ (by kernel_rfl) (fun _ _ _ h => h) (by rfl) ?_ ?_ ?_ ?_
    rotate_left
    ·intro w'
     go_simp
     with_reducible rfl
    rotate_left
    ·simp only [SX]
     rfl
    refine pure_ (i := 5) (N := some 14) (v := undef) (a' := ?_) (ms 13 63) rfl rfl (any_of HT_.out (by kernel_rfl)) (fun _ _ _ h => h) (Or.inr ⟨by rfl, rfl⟩) ?_ ?_
    rotate_left
    ·simp only [SX]
     rfl
    refine pure_ (i := 6) (N := some 15) (v := undef) (a' := ?_) (ms 13 127) rfl rfl (any_of HT_.out (by kernel_rfl)) (fun _ _ _ h => h) (Or.inr ⟨by rfl, rfl⟩) ?_ ?_
    rotate_left
    ·simp only [SX]
     rfl
    refine pure_ (i := 7) (N := some 16) (v := undef) (a' := ?_) (ms 13 255) rfl rfl (any_of HT_.out (by kernel_rfl)) (fun _ _ _ h => h) (Or.inr ⟨by rfl, rfl⟩) ?_ ?_
    rotate_left
    ·simp only [SX]
     rfl
    refine pure_ (i := 8) (N := some 17) (v := undef) (a' := ?_) (ms 13 511) rfl rfl (any_of HT_.out (by kernel_rfl)) (fun _ _ _ h => h) (Or.inr ⟨by rfl, rfl⟩) ?_ ?_
    rotate_left
    ·simp only [SX]
     rfl
    refine pure_ (i := 9) (N := some 18) (v := undef) (a' := ?_) (ms 13 1023) rfl rfl (any_of HT_.out (by kernel_rfl)) (fun _ _ _ h => h) (Or.inr ⟨by rfl, rfl⟩) ?_ ?_
    rotate_left
    ·simp only [SX]
     rfl
    refine pure_ (i := 10) (N := some 19) (v := undef) (a' := ?_) (ms 13 2047) rfl rfl (any_of HT_.out (by kernel_rfl)) (fun _ _ _ h => h) (Or.inr ⟨by rfl, rfl⟩) ?_ ?_
    rotate_left
    ·simp only [SX]
     rfl
    refine pure_ (i := 11) (N := some 20) (v := undef) (a' := ?_) (ms 13 4095) rfl rfl (any_of HT_.out (by kernel_rfl)) (fun _ _ _ h => h) (Or.inr ⟨by rfl, rfl⟩) ?_ ?_
    rotate_left
    ·simp only [SX]
     rfl
    refine pu 12 21 ?_ (ms 13 8191) rfl rfl HT_ (by kernel_rfl) (fun _ _ _ h => h) (by rfl) ?_ ?_ ?_ ?_
    rotate_left
    ·intro w'
     go_simp
     with_reducible rfl
    rotate_left
    ·simp only [SX]
     rfl
    refine done_ (done_of HT_.out (by kernel_rfl)) ?_
    try go_wp2_with (first | ((with_reducible refine gate_dst (N := 24) rfl ?_); refine Kd.N_lit k103 _ 103 ?hg (N' := 24) ?hd (xs := ([] : List (S103))) (inner := []) (ok := (fun k_ => ((P0_ k_ ∨ P1_0_ k_) ∨ w.heap.size ≤ k_) ∧ k_ ≠ gb168)) (okp := (fun k_ => ((P0_ k_ ∨ P1_0_ k_) ∨ w.heap.size ≤ k_) ∧ k_ ≠ gb168)) ?hr ?hp (fun _ hk => hk) ((show ∀ k_, w65.heap.size ≤ k_ → (fun k_ => ((P0_ k_ ∨ P1_0_ k_) ∨ w.heap.size ≤ k_) ∧ k_ ≠ gb168) k_ from fun k_ hk => ⟨(.inr (Nat.le_trans (below_size (bl1 HB GE168)) hk)), Kd.freshB (bk BK168) k_ hk⟩) _ (Nat.le_refl _)) (Below.refl _ _) (Nat.le_refl _) (by simp) ?_; (case hd => rfl); (case hg => rfl); (case hr => first | (go_simp; done) | (go_simp; rfl)); (case hp => exact (Reps.none _ _)); intro v197 w66 ho67 hb hg_ hnew_; clear hg_ hnew_; (first | rw [← Ny196.out] at ho67 | (simp only [Int.reduceToNat] at ho67; rw [← Ny196.out] at ho67)); replace HO_0 := ak (Kd.V_elder' (by (with_reducible repeat (first | apply Kd.V_alloc | apply Kd.V_drewN | apply Kd.V_drew)); exact HO_0.out) (Kd.N_base ho67) hb); replace HO_169000 := ak (Kd.V_elder' (by (with_reducible repeat (first | apply Kd.V_alloc | apply Kd.V_drewN | apply Kd.V_drew)); exact HO_169000.out) (Kd.N_base ho67) hb); have HO198 := ak (Kd.N_lower ho67 (below_size (bl1 HB GE168))); replace BK168 := ak (blk_below (bk BK168) hb); replace HB := ak (below_step (bl1 HB GE168) hb); clear hb ho67; have q68 : (x7_1 : Int) ≤ ((l0.length : Int) : Int) := oT (by first | (with_reducible assumption) | assumption); obtain ⟨i068, hi068, _, hsz68, _⟩ := info_parts info103; have hroom68 : l0.length ≤ c0 := (Kd.V_reads' HO_0.out).2.1; have hC68 : Kd.F k103 _ _ A0 l0.length l0 := (Kd.V_at (base := w.heap.size) HO_0.out).2.2; have hcut68 := cut_to (P := Try.prog) 100 103 .i64 Try.underlying100 hi068 A0 l0.length c0 x7_1 (oT (by first | (with_reducible assumption) | assumption)) q68 hroom68; have hr68 := Kd.F_take (m := (x7_1 : Int).toNat) hC68 (by omega); have hy68 : y199.length = (x7_1 : Int).toNat := (by rw [Ny199.out, List.length_take]; omega); rw [← Ny199.out] at hr68; rw [← hy68] at hcut68; have HO203 := ak (show Kd.V k103 103 _ w.heap.size _ (.slice A0 y199.length c0) y199 from Kd.V_mk (by omega) hr68); have HC203 := ak (show y199.length ≤ c0 from by omega); clear hr68 hC68 hroom68 hi068 hsz68; have KY68 := ak hy68; clear hy68; replace q68 := eq_true q68) | ((with_reducible refine gate_builtin (b := .append) (xs := #[.tmp 24, .tmp 27]) rfl ?_); at_builtin; refine Kd.N_append_rows k103 (w0 := w) w.heap.size rfl (.tmp 24) (.tmp 27) 100 103 (.agg #[(.slice none 0 0), (.int .i64 0)]) 32 rfl Try.underlying100 info103 rfl (by decide) (by omega) v197 y196 y199 _ _ _ (fun k_ => ((P0_ k_ ∨ P1_0_ k_) ∨ w.heap.size ≤ k_) ∧ k_ ≠ gb168) (fun k_ => ((fun k_ => ((P0_ k_ ∨ P1_0_ k_) ∨ w.heap.size ≤ k_) ∧ k_ ≠ gb168)) k_ ∧ some k_ ≠ (v197 : Value).ownBlock) rfl rfl ?aO ?aR (fun _ hk => hk) ?aF ?aB ?aS ?aL ?_; (case aR => exact (by skip; exact Kd.V_F (Kd.V_mono (ok' := (fun k_ => ((fun k_ => ((P0_ k_ ∨ P1_0_ k_) ∨ w.heap.size ≤ k_) ∧ k_ ≠ gb168)) k_ ∧ some k_ ≠ (v197 : Value).ownBlock)) (HO203.out) (fun k_ hk => ⟨⟨hk.1.1, hk.1.2⟩, hk.2⟩)))); (case aB => exact (bl1 HB GE168)); (case aF => exact (fun k_ hk => ⟨(.inr (Nat.le_trans (below_size (bl1 HB GE168)) hk)), Kd.freshB (bk BK168) k_ hk⟩)); (case aO => exact (by (with_reducible repeat (first | apply Kd.N_alloc | apply Kd.N_drewN | apply Kd.N_drew)); exact HO198.out)); (case aS => exact (below_size (bl1 HB GE168))); (case aL => have := LMc46.out; omega); intro v205 w69 ho hb hg hat; rw [← Ny204.out] at ho; have n0_ := ak (Kd.V_afterv (ok := (fun k_ => ((P0_ k_ ∨ P1_0_ k_) ∨ w.heap.size ≤ k_) ∧ k_ ≠ gb168)) (by (with_reducible repeat (first | apply Kd.V_alloc | apply Kd.V_drewN | apply Kd.V_drew)); exact HO_0.out) hg hat); have n1_ := ak (Kd.V_afterv (ok := (fun k_ => ((P0_ k_ ∨ P1_0_ k_) ∨ w.heap.size ≤ k_) ∧ k_ ≠ gb168)) (by (with_reducible repeat (first | apply Kd.V_alloc | apply Kd.V_drewN | apply Kd.V_drew)); exact HO_169000.out) hg hat); have n2_ := ak (blk_grown (bk BK168) hg (Kd.N_away HO198.out (fun _ hk => hk.2))); have n3_ := ak (Kd.V_afterv (ok := (fun k_ => ((P0_ k_ ∨ P1_0_ k_) ∨ w.heap.size ≤ k_) ∧ k_ ≠ gb168)) (by (with_reducible repeat (first | apply Kd.V_alloc | apply Kd.V_drewN | apply Kd.V_drew)); exact HO203.out) hg hat); have n4_ := ak (hb); have n5_ := ak (ho); clear HO_0; clear HO_169000; clear BK168; clear HO203; clear HB; clear HO198; have HO_0 := n0_; have HO_169000 := n1_; have BK168 := n2_; have HO203 := n3_; have HB := n4_; have HO206 := n5_; clear n0_ n1_ n2_ n3_ n4_ n5_; clear ho hb hg hat; have hcz70_0 := bc w69 BK168 0 (.slice A1_0 l1_0.length c1_0) rfl; have hcz70_1 := bc w69 BK168 1 (.int .i64 a1_1) rfl; have hfz70_0 := fz BK168 0; have hfz70_1 := fz BK168 1) | ((with_reducible refine gate_builtin (b := .append) (xs := #[.tmp 29, .tmp 31]) rfl ?_); at_builtin; refine Kd.N_append k103 (w0 := w) w.heap.size rfl (.tmp 29) (.tmp 31) 100 103 (.agg #[(.slice none 0 0), (.int .i64 0)]) 32 rfl Try.underlying100 info103 rfl (by decide) (by omega) v205 y204 (⟨l1_0, a1_1⟩ : S103) [.slice A1_0 l1_0.length c1_0, .int .i64 a1_1] (fun k_ => ((P0_ k_ ∨ P1_0_ k_) ∨ w.heap.size ≤ k_) ∧ k_ ≠ gb168) (fun k_ => ((fun k_ => ((P0_ k_ ∨ P1_0_ k_) ∨ w.heap.size ≤ k_) ∧ k_ ≠ gb168)) k_ ∧ some k_ ≠ (v205 : Value).ownBlock) rfl rfl ?aP (fun _ hk => hk) ?aF ?aO ?aB ?aS ?aL ?_; (case aP => exact (k103_mkF _ _ (⟨l1_0, a1_1⟩ : S103) (Kd.V_reads' (Kd.V_mono (ok' := (fun k_ => ((fun k_ => ((P0_ k_ ∨ P1_0_ k_) ∨ w.heap.size ≤ k_) ∧ k_ ≠ gb168)) k_ ∧ some k_ ≠ (v205 : Value).ownBlock)) (HO_169000.out) (fun k_ hk => ⟨⟨hk.1.1, hk.1.2⟩, hk.2⟩))).2.1 (Kd.V_F (Kd.V_mono (ok' := (fun k_ => ((fun k_ => ((P0_ k_ ∨ P1_0_ k_) ∨ w.heap.size ≤ k_) ∧ k_ ≠ gb168)) k_ ∧ some k_ ≠ (v205 : Value).ownBlock)) (HO_169000.out) (fun k_ hk => ⟨⟨hk.1.1, hk.1.2⟩, hk.2⟩))))); (case aB => exact (bl1 HB GE168)); (case aF => exact (fun k_ hk => ⟨(.inr (Nat.le_trans (below_size (bl1 HB GE168)) hk)), Kd.freshB (bk BK168) k_ hk⟩)); (case aO => exact (by (with_reducible repeat (first | apply Kd.N_alloc | apply Kd.N_drewN | apply Kd.N_drew)); exact HO206.out)); (case aS => exact (below_size (bl1 HB GE168))); (case aL => have := LMc47.out; omega); intro v208 w71 ho hb hg hat; rw [← Ny207.out] at ho; have n0_ := ak (Kd.V_afterv (ok := (fun k_ => ((P0_ k_ ∨ P1_0_ k_) ∨ w.heap.size ≤ k_) ∧ k_ ≠ gb168)) (by (with_reducible repeat (first | apply Kd.V_alloc | apply Kd.V_drewN | apply Kd.V_drew)); exact HO_0.out) hg hat); have n1_ := ak (Kd.V_afterv (ok := (fun k_ => ((P0_ k_ ∨ P1_0_ k_) ∨ w.heap.size ≤ k_) ∧ k_ ≠ gb168)) (by (with_reducible repeat (first | apply Kd.V_alloc | apply Kd.V_drewN | apply Kd.V_drew)); exact HO_169000.out) hg hat); have n2_ := ak (blk_grown (bk BK168) hg (Kd.N_away HO206.out (fun _ hk => hk.2))); have n3_ := ak (Kd.V_afterv (ok := (fun k_ => ((P0_ k_ ∨ P1_0_ k_) ∨ w.heap.size ≤ k_) ∧ k_ ≠ gb168)) (by (with_reducible repeat (first | apply Kd.V_alloc | apply Kd.V_drewN | apply Kd.V_drew)); exact HO203.out) hg hat); have n4_ := ak (hb); have n5_ := ak (ho); clear HO_0; clear HO_169000; clear BK168; clear HO203; clear HB; clear HO206; have HO_0 := n0_; have HO_169000 := n1_; have BK168 := n2_; have HO203 := n3_; have HB := n4_; have HO209 := n5_; clear n0_ n1_ n2_ n3_ n4_ n5_; clear ho hb hg hat; have q72 : (x7_1 : Int) ≤ ((l0.length : Int) : Int) := oT (by first | (with_reducible assumption) | assumption); obtain ⟨i072, hi072, _, hsz72, _⟩ := info_parts info103; have hroom72 : l0.length ≤ c0 := (Kd.V_reads' HO_0.out).2.1; have hC72 : Kd.F k103 _ _ A0 l0.length l0 := (Kd.V_at (base := w.heap.size) HO_0.out).2.2; have q072 : (0 : Int) ≤ (x7_1 : Int) := oT (by first | (with_reducible assumption) | assumption); have hcut72 := cut_from (P := Try.prog) 100 103 .i64 Try.underlying100 hi072 2 hsz72 A0 l0.length c0 x7_1 q072 q72; have hr72 := Kd.F_cut (m := (x7_1 : Int).toNat) (c := c0) hC72 (by omega) hroom72; obtain ⟨A72, hA72⟩ : ∃ A1, A1 = (if c0 = (x7_1 : Int).toNat then A0 else (A0 : Option Addr).map (·.add ((x7_1 : Int).toNat * 2))) := ⟨_, rfl⟩; obtain ⟨c72, hc72⟩ : ∃ c1, c1 = c0 - (x7_1 : Int).toNat := ⟨_, rfl⟩; have hy72 : y210.length = l0.length - (x7_1 : Int).toNat := (by rw [Ny210.out, List.length_drop] <;> omega); rw [show (l0).drop (x7_1 : Int).toNat = y210 from Ny210.out.symm] at hr72; replace hr72 : Kd.F k103 _ _ A72 y210.length y210 := (by rw [hA72]; exact hr72); rw [← hy72, ← hA72, ← hc72] at hcut72; have HO214 := ak (show Kd.V k103 103 _ w.heap.size _ (.slice A72 y210.length c72) y210 from Kd.V_mk (by rw [hy72, hc72]; exact Nat.sub_le_sub_right hroom72 _) hr72); have HC214 := ak (show y210.length ≤ c72 from by rw [hy72, hc72]; exact Nat.sub_le_sub_right hroom72 _); clear hr72 hC72 hroom72 hi072 hsz72 hc72; have KY72 := ak hy72; have KA72 := ak hA72; clear hy72 hA72; replace q72 := eq_true q72) | ((with_reducible refine gate_builtin (b := .append) (xs := #[.tmp 33, .tmp 36]) rfl ?_); at_builtin; refine Kd.N_append_rows k103 (w0 := w) w.heap.size rfl (.tmp 33) (.tmp 36) 100 103 (.agg #[(.slice none 0 0), (.int .i64 0)]) 32 rfl Try.underlying100 info103 rfl (by decide) (by omega) v208 y207 y210 _ _ _ (fun k_ => ((P0_ k_ ∨ P1_0_ k_) ∨ w.heap.size ≤ k_) ∧ k_ ≠ gb168) (fun k_ => ((fun k_ => ((P0_ k_ ∨ P1_0_ k_) ∨ w.heap.size ≤ k_) ∧ k_ ≠ gb168)) k_ ∧ some k_ ≠ (v208 : Value).ownBlock) rfl rfl ?aO ?aR (fun _ hk => hk) ?aF ?aB ?aS ?aL ?_; (case aR => exact (by skip; exact Kd.V_F (Kd.V_mono (ok' := (fun k_ => ((fun k_ => ((P0_ k_ ∨ P1_0_ k_) ∨ w.heap.size ≤ k_) ∧ k_ ≠ gb168)) k_ ∧ some k_ ≠ (v208 : Value).ownBlock)) (HO214.out) (fun k_ hk => ⟨⟨hk.1.1, hk.1.2⟩, hk.2⟩)))); (case aB => exact (bl1 HB GE168)); (case aF => exact (fun k_ hk => ⟨(.inr (Nat.le_trans (below_size (bl1 HB GE168)) hk)), Kd.freshB (bk BK168) k_ hk⟩)); (case aO => exact (by (with_reducible repeat (first | apply Kd.N_alloc | apply Kd.N_drewN | apply Kd.N_drew)); exact HO209.out)); (case aS => exact (below_size (bl1 HB GE168))); (case aL => have := LMc50.out; omega); intro v216 w73 ho hb hg hat; rw [← Ny215.out] at ho; have n0_ := ak (Kd.V_afterv (ok := (fun k_ => ((P0_ k_ ∨ P1_0_ k_) ∨ w.heap.size ≤ k_) ∧ k_ ≠ gb168)) (by (with_reducible repeat (first | apply Kd.V_alloc | apply Kd.V_drewN | apply Kd.V_drew)); exact HO_0.out) hg hat); have n1_ := ak (Kd.V_afterv (ok := (fun k_ => ((P0_ k_ ∨ P1_0_ k_) ∨ w.heap.size ≤ k_) ∧ k_ ≠ gb168)) (by (with_reducible repeat (first | apply Kd.V_alloc | apply Kd.V_drewN | apply Kd.V_drew)); exact HO_169000.out) hg hat); have n2_ := ak (blk_grown (bk BK168) hg (Kd.N_away HO209.out (fun _ hk => hk.2))); have n3_ := ak (Kd.V_afterv (ok := (fun k_ => ((P0_ k_ ∨ P1_0_ k_) ∨ w.heap.size ≤ k_) ∧ k_ ≠ gb168)) (by (with_reducible repeat (first | apply Kd.V_alloc | apply Kd.V_drewN | apply Kd.V_drew)); exact HO203.out) hg hat); have n4_ := ak (Kd.V_afterv (ok := (fun k_ => ((P0_ k_ ∨ P1_0_ k_) ∨ w.heap.size ≤ k_) ∧ k_ ≠ gb168)) (by (with_reducible repeat (first | apply Kd.V_alloc | apply Kd.V_drewN | apply Kd.V_drew)); exact HO214.out) hg hat); have n5_ := ak (hb); have n6_ := ak (ho); clear HO_0; clear HO_169000; clear BK168; clear HO203; clear HO214; clear HB; clear HO209; have HO_0 := n0_; have HO_169000 := n1_; have BK168 := n2_; have HO203 := n3_; have HO214 := n4_; have HB := n5_; have HO217 := n6_; clear n0_ n1_ n2_ n3_ n4_ n5_ n6_; clear ho hb hg hat; obtain ⟨Ao74, co74, eo74⟩ := Kd.N_slice HO217.out; subst eo74))
    go_ret
    exact ⟨_, by first | rfl | (simp [errW_none, errW_some] <;> rfl) | (simp [*, errW_none, errW_some] <;> rfl), by (with_reducible repeat (first | apply Kd.N_alloc | apply Kd.N_drewN | apply Kd.N_drew)); exact Kd.N_mono HO217.out (fun _ hk => hk.1), bl1 HB GE168⟩
   rw [if_pos c51] at H
   have c51b0 : decide (a2 < (y215.length : Int)) = true := decide_eq_true c51
   clear c51
   by_cases c52 : 0 ≤ a2
   rotate_left
   ·rw [if_neg c52] at H
    exact absurd H (by simp)
   rw [if_pos c52] at H
   have c52b0 := eq_true c52
   have c52b1 : decide (0 ≤ a2) = true := decide_eq_true c52
   clear c52
   by_cases c53 : a2 ≤ (y215.length : Int)
   rotate_left
   ·rw [if_neg c53] at H
    exact absurd H (by simp)
   rw [if_pos c53] at H
   have c53b0 := eq_true c53
   have c53b1 : decide (a2 ≤ (y215.length : Int)) = true := decide_eq_true c53
   clear c53
   obtain ⟨y218, hy218⟩ : ∃ y_ : List (S103), y_ = (y215.take (a2 : Int).toNat) := ⟨_, rfl⟩
   replace H : (some y218) = some r := by first | (rw [hy218]; with_reducible exact H) | (have H2_ := (Option.bind_some _ _).symm.trans H; rw [hy218]; with_reducible exact H2_) | (have H2_ := (Option.bind_some _ _).symm.trans H; with_reducible exact H2_) | with_reducible exact H | (rw [hy218]; exact H) | exact H
   have Ny218 := ak hy218
   clear hy218
   obtain rfl := Option.some.inj H
   try go_wp2
   replace HO_0 := ak (Kd.V_drew HO_0.out)
   replace HO_169000 := ak (Kd.V_drew HO_169000.out)
   replace BK168 := ak (blk_drew BK168.out)
   replace HB := ak (below_drew1 HB.out)
   refine start_ (n := 13) (S := fun w' => True) (ds := []) (ms 13 0) (by kernel_rfl) rfl (by kernel_rfl) trivial (fun hHeld => ?_); refine with_tabW spec_l14Put.tab2 spec_l14Put.bits2 (fun HT_ HW_ => ?_)
   generalize wr.drew = w54 at HO_0 HO_169000 BK168 HB hHeld ⊢
   refine pu 0 9 ?_ (ms 13 1) rfl rfl HT_ (by kernel_rfl) (fun _ _ _ h => h) (by rfl) ?_ ?_ ?_ ?_
   rotate_left
   ·intro w'
    go_simp
    with_reducible rfl
   rotate_left
   ·simp only [SX]
    rfl
   refine pu 1 10 ?_ (ms 13 3) rfl rfl HT_ (by kernel_rfl) (fun _ _ _ h => h) (by rfl) ?_ ?_ ?_ ?_
   rotate_left
   ·intro w'
    go_simp
    with_reducible rfl
   rotate_left
   ·simp only [SX]
    rfl
   refine pu 2 11 ?_ (ms 13 7) rfl rfl HT_ (by kernel_rfl) (fun _ _ _ h => h) (by rfl) ?_ ?_ ?_ ?_
   rotate_left
   ·intro w'
    go_simp
    with_reducible rfl
   rotate_left
   ·simp only [SX]
    rfl
   refine pu 3 12 ?_ (ms 13 15) rfl rfl HT_ (by kernel_rfl) (fun _ _ _ h => h) (by rfl) ?_ ?_ ?_ ?_
   rotate_left
   ·intro w'
    go_simp
    with_reducible rfl
   rotate_left
   ·simp only [SX]
    rfl
   refine pu 4 13 ?_ (ms 13 31) rfl rfl HT_ (by kernel_rfl) (fun _ _ _ h => h) (by rfl) ?_ ?_ ?_ ?_
   rotate_left
   ·intro w'
    go_simp
    with_reducible rfl
   rotate_left
   ·simp only [SX]
    rfl
   refine pure_ (i := 5) (N := some 14) (v := undef) (a' := ?_) (ms 13 63) rfl rfl (any_of HT_.out (by kernel_rfl)) (fun _ _ _ h => h) (Or.inr ⟨by rfl, rfl⟩) ?_ ?_
   rotate_left
   ·simp only [SX]
    rfl
   refine pure_ (i := 6) (N := some 15) (v := undef) (a' := ?_) (ms 13 127) rfl rfl (any_of HT_.out (by kernel_rfl)) (fun _ _ _ h => h) (Or.inr ⟨by rfl, rfl⟩) ?_ ?_
   rotate_left
   ·simp only [SX]
    rfl
   refine pure_ (i := 7) (N := some 16) (v := undef) (a' := ?_) (ms 13 255) rfl rfl (any_of HT_.out (by kernel_rfl)) (fun _ _ _ h => h) (Or.inr ⟨by rfl, rfl⟩) ?_ ?_
   rotate_left
   ·simp only [SX]
    rfl
   refine pure_ (i := 8) (N := some 17) (v := undef) (a' := ?_) (ms 13 511) rfl rfl (any_of HT_.out (by kernel_rfl)) (fun _ _ _ h => h) (Or.inr ⟨by rfl, rfl⟩) ?_ ?_
   rotate_left
   ·simp only [SX]
    rfl
   refine pure_ (i := 9) (N := some 18) (v := undef) (a' := ?_) (ms 13 1023) rfl rfl (any_of HT_.out (by kernel_rfl)) (fun _ _ _ h => h) (Or.inr ⟨by rfl, rfl⟩) ?_ ?_
   rotate_left
   ·simp only [SX]
    rfl
   refine pure_ (i := 10) (N := some 19) (v := undef) (a' := ?_) (ms 13 2047) rfl rfl (any_of HT_.out (by kernel_rfl)) (fun _ _ _ h => h) (Or.inr ⟨by rfl, rfl⟩) ?_ ?_
   rotate_left
   ·simp only [SX]
    rfl
   refine pure_ (i := 11) (N := some 20) (v := undef) (a' := ?_) (ms 13 4095) rfl rfl (any_of HT_.out (by kernel_rfl)) (fun _ _ _ h => h) (Or.inr ⟨by rfl, rfl⟩) ?_ ?_
   rotate_left
   ·simp only [SX]
    rfl
   refine pu 12 21 ?_ (ms 13 8191) rfl rfl HT_ (by kernel_rfl) (fun _ _ _ h => h) (by rfl) ?_ ?_ ?_ ?_
   rotate_left
   ·intro w'
    go_simp
    with_reducible rfl
   rotate_left
   ·simp only [SX]
    rfl
   refine done_ (done_of HT_.out (by kernel_rfl)) ?_
   try go_wp2_with (first | ((with_reducible refine gate_dst (N := 24) rfl ?_); refine Kd.N_lit k103 _ 103 ?hg (N' := 24) ?hd (xs := ([] : List (S103))) (inner := []) (ok := (fun k_ => ((P0_ k_ ∨ P1_0_ k_) ∨ w.heap.size ≤ k_) ∧ k_ ≠ gb168)) (okp := (fun k_ => ((P0_ k_ ∨ P1_0_ k_) ∨ w.heap.size ≤ k_) ∧ k_ ≠ gb168)) ?hr ?hp (fun _ hk => hk) ((show ∀ k_, w54.heap.size ≤ k_ → (fun k_ => ((P0_ k_ ∨ P1_0_ k_) ∨ w.heap.size ≤ k_) ∧ k_ ≠ gb168) k_ from fun k_ hk => ⟨(.inr (Nat.le_trans (below_size (bl1 HB GE168)) hk)), Kd.freshB (bk BK168) k_ hk⟩) _ (Nat.le_refl _)) (Below.refl _ _) (Nat.le_refl _) (by simp) ?_; (case hd => rfl); (case hg => rfl); (case hr => first | (go_simp; done) | (go_simp; rfl)); (case hp => exact (Reps.none _ _)); intro v197 w55 ho56 hb hg_ hnew_; clear hg_ hnew_; (first | rw [← Ny196.out] at ho56 | (simp only [Int.reduceToNat] at ho56; rw [← Ny196.out] at ho56)); replace HO_0 := ak (Kd.V_elder' (by (with_reducible repeat (first | apply Kd.V_alloc | apply Kd.V_drewN | apply Kd.V_drew)); exact HO_0.out) (Kd.N_base ho56) hb); replace HO_169000 := ak (Kd.V_elder' (by (with_reducible repeat (first | apply Kd.V_alloc | apply Kd.V_drewN | apply Kd.V_drew)); exact HO_169000.out) (Kd.N_base ho56) hb); have HO198 := ak (Kd.N_lower ho56 (below_size (bl1 HB GE168))); replace BK168 := ak (blk_below (bk BK168) hb); replace HB := ak (below_step (bl1 HB GE168) hb); clear hb ho56; have q57 : (x7_1 : Int) ≤ ((l0.length : Int) : Int) := oT (by first | (with_reducible assumption) | assumption); obtain ⟨i057, hi057, _, hsz57, _⟩ := info_parts info103; have hroom57 : l0.length ≤ c0 := (Kd.V_reads' HO_0.out).2.1; have hC57 : Kd.F k103 _ _ A0 l0.length l0 := (Kd.V_at (base := w.heap.size) HO_0.out).2.2; have hcut57 := cut_to (P := Try.prog) 100 103 .i64 Try.underlying100 hi057 A0 l0.length c0 x7_1 (oT (by first | (with_reducible assumption) | assumption)) q57 hroom57; have hr57 := Kd.F_take (m := (x7_1 : Int).toNat) hC57 (by omega); have hy57 : y199.length = (x7_1 : Int).toNat := (by rw [Ny199.out, List.length_take]; omega); rw [← Ny199.out] at hr57; rw [← hy57] at hcut57; have HO203 := ak (show Kd.V k103 103 _ w.heap.size _ (.slice A0 y199.length c0) y199 from Kd.V_mk (by omega) hr57); have HC203 := ak (show y199.length ≤ c0 from by omega); clear hr57 hC57 hroom57 hi057 hsz57; have KY57 := ak hy57; clear hy57; replace q57 := eq_true q57) | ((with_reducible refine gate_builtin (b := .append) (xs := #[.tmp 24, .tmp 27]) rfl ?_); at_builtin; refine Kd.N_append_rows k103 (w0 := w) w.heap.size rfl (.tmp 24) (.tmp 27) 100 103 (.agg #[(.slice none 0 0), (.int .i64 0)]) 32 rfl Try.underlying100 info103 rfl (by decide) (by omega) v197 y196 y199 _ _ _ (fun k_ => ((P0_ k_ ∨ P1_0_ k_) ∨ w.heap.size ≤ k_) ∧ k_ ≠ gb168) (fun k_ => ((fun k_ => ((P0_ k_ ∨ P1_0_ k_) ∨ w.heap.size ≤ k_) ∧ k_ ≠ gb168)) k_ ∧ some k_ ≠ (v197 : Value).ownBlock) rfl rfl ?aO ?aR (fun _ hk => hk) ?aF ?aB ?aS ?aL ?_; (case aR => exact (by skip; exact Kd.V_F (Kd.V_mono (ok' := (fun k_ => ((fun k_ => ((P0_ k_ ∨ P1_0_ k_) ∨ w.heap.size ≤ k_) ∧ k_ ≠ gb168)) k_ ∧ some k_ ≠ (v197 : Value).ownBlock)) (HO203.out) (fun k_ hk => ⟨⟨hk.1.1, hk.1.2⟩, hk.2⟩)))); (case aB => exact (bl1 HB GE168)); (case aF => exact (fun k_ hk => ⟨(.inr (Nat.le_trans (below_size (bl1 HB GE168)) hk)), Kd.freshB (bk BK168) k_ hk⟩)); (case aO => exact (by (with_reducible repeat (first | apply Kd.N_alloc | apply Kd.N_drewN | apply Kd.N_drew)); exact HO198.out)); (case aS => exact (below_size (bl1 HB GE168))); (case aL => have := LMc46.out; omega); intro v205 w58 ho hb hg hat; rw [← Ny204.out] at ho; have n0_ := ak (Kd.V_afterv (ok := (fun k_ => ((P0_ k_ ∨ P1_0_ k_) ∨ w.heap.size ≤ k_) ∧ k_ ≠ gb168)) (by (with_reducible repeat (first | apply Kd.V_alloc | apply Kd.V_drewN | apply Kd.V_drew)); exact HO_0.out) hg hat); have n1_ := ak (Kd.V_afterv (ok := (fun k_ => ((P0_ k_ ∨ P1_0_ k_) ∨ w.heap.size ≤ k_) ∧ k_ ≠ gb168)) (by (with_reducible repeat (first | apply Kd.V_alloc | apply Kd.V_drewN | apply Kd.V_drew)); exact HO_169000.out) hg hat); have n2_ := ak (blk_grown (bk BK168) hg (Kd.N_away HO198.out (fun _ hk => hk.2))); have n3_ := ak (Kd.V_afterv (ok := (fun k_ => ((P0_ k_ ∨ P1_0_ k_) ∨ w.heap.size ≤ k_) ∧ k_ ≠ gb168)) (by (with_reducible repeat (first | apply Kd.V_alloc | apply Kd.V_drewN | apply Kd.V_drew)); exact HO203.out) hg hat); have n4_ := ak (hb); have n5_ := ak (ho); clear HO_0; clear HO_169000; clear BK168; clear HO203; clear HB; clear HO198; have HO_0 := n0_; have HO_169000 := n1_; have BK168 := n2_; have HO203 := n3_; have HB := n4_; have HO206 := n5_; clear n0_ n1_ n2_ n3_ n4_ n5_; clear ho hb hg hat; have hcz59_0 := bc w58 BK168 0 (.slice A1_0 l1_0.length c1_0) rfl; have hcz59_1 := bc w58 BK168 1 (.int .i64 a1_1) rfl; have hfz59_0 := fz BK168 0; have hfz59_1 := fz BK168 1) | ((with_reducible refine gate_builtin (b := .append) (xs := #[.tmp 29, .tmp 31]) rfl ?_); at_builtin; refine Kd.N_append k103 (w0 := w) w.heap.size rfl (.tmp 29) (.tmp 31) 100 103 (.agg #[(.slice none 0 0), (.int .i64 0)]) 32 rfl Try.underlying100 info103 rfl (by decide) (by omega) v205 y204 (⟨l1_0, a1_1⟩ : S103) [.slice A1_0 l1_0.length c1_0, .int .i64 a1_1] (fun k_ => ((P0_ k_ ∨ P1_0_ k_) ∨ w.heap.size ≤ k_) ∧ k_ ≠ gb168) (fun k_ => ((fun k_ => ((P0_ k_ ∨ P1_0_ k_) ∨ w.heap.size ≤ k_) ∧ k_ ≠ gb168)) k_ ∧ some k_ ≠ (v205 : Value).ownBlock) rfl rfl ?aP (fun _ hk => hk) ?aF ?aO ?aB ?aS ?aL ?_; (case aP => exact (k103_mkF _ _ (⟨l1_0, a1_1⟩ : S103) (Kd.V_reads' (Kd.V_mono (ok' := (fun k_ => ((fun k_ => ((P0_ k_ ∨ P1_0_ k_) ∨ w.heap.size ≤ k_) ∧ k_ ≠ gb168)) k_ ∧ some k_ ≠ (v205 : Value).ownBlock)) (HO_169000.out) (fun k_ hk => ⟨⟨hk.1.1, hk.1.2⟩, hk.2⟩))).2.1 (Kd.V_F (Kd.V_mono (ok' := (fun k_ => ((fun k_ => ((P0_ k_ ∨ P1_0_ k_) ∨ w.heap.size ≤ k_) ∧ k_ ≠ gb168)) k_ ∧ some k_ ≠ (v205 : Value).ownBlock)) (HO_169000.out) (fun k_ hk => ⟨⟨hk.1.1, hk.1.2⟩, hk.2⟩))))); (case aB => exact (bl1 HB GE168)); (case aF => exact (fun k_ hk => ⟨(.inr (Nat.le_trans (below_size (bl1 HB GE168)) hk)), Kd.freshB (bk BK168) k_ hk⟩)); (case aO => exact (by (with_reducible repeat (first | apply Kd.N_alloc | apply Kd.N_drewN | apply Kd.N_drew)); exact HO206.out)); (case aS => exact (below_size (bl1 HB GE168))); (case aL => have := LMc47.out; omega); intro v208 w60 ho hb hg hat; rw [← Ny207.out] at ho; have n0_ := ak (Kd.V_afterv (ok := (fun k_ => ((P0_ k_ ∨ P1_0_ k_) ∨ w.heap.size ≤ k_) ∧ k_ ≠ gb168)) (by (with_reducible repeat (first | apply Kd.V_alloc | apply Kd.V_drewN | apply Kd.V_drew)); exact HO_0.out) hg hat); have n1_ := ak (Kd.V_afterv (ok := (fun k_ => ((P0_ k_ ∨ P1_0_ k_) ∨ w.heap.size ≤ k_) ∧ k_ ≠ gb168)) (by (with_reducible repeat (first | apply Kd.V_alloc | apply Kd.V_drewN | apply Kd.V_drew)); exact HO_169000.out) hg hat); have n2_ := ak (blk_grown (bk BK168) hg (Kd.N_away HO206.out (fun _ hk => hk.2))); have n3_ := ak (Kd.V_afterv (ok := (fun k_ => ((P0_ k_ ∨ P1_0_ k_) ∨ w.heap.size ≤ k_) ∧ k_ ≠ gb168)) (by (with_reducible repeat (first | apply Kd.V_alloc | apply Kd.V_drewN | apply Kd.V_drew)); exact HO203.out) hg hat); have n4_ := ak (hb); have n5_ := ak (ho); clear HO_0; clear HO_169000; clear BK168; clear HO203; clear HB; clear HO206; have HO_0 := n0_; have HO_169000 := n1_; have BK168 := n2_; have HO203 := n3_; have HB := n4_; have HO209 := n5_; clear n0_ n1_ n2_ n3_ n4_ n5_; clear ho hb hg hat; have q61 : (x7_1 : Int) ≤ ((l0.length : Int) : Int) := oT (by first | (with_reducible assumption) | assumption); obtain ⟨i061, hi061, _, hsz61, _⟩ := info_parts info103; have hroom61 : l0.length ≤ c0 := (Kd.V_reads' HO_0.out).2.1; have hC61 : Kd.F k103 _ _ A0 l0.length l0 := (Kd.V_at (base := w.heap.size) HO_0.out).2.2; have q061 : (0 : Int) ≤ (x7_1 : Int) := oT (by first | (with_reducible assumption) | assumption); have hcut61 := cut_from (P := Try.prog) 100 103 .i64 Try.underlying100 hi061 2 hsz61 A0 l0.length c0 x7_1 q061 q61; have hr61 := Kd.F_cut (m := (x7_1 : Int).toNat) (c := c0) hC61 (by omega) hroom61; obtain ⟨A61, hA61⟩ : ∃ A1, A1 = (if c0 = (x7_1 : Int).toNat then A0 else (A0 : Option Addr).map (·.add ((x7_1 : Int).toNat * 2))) := ⟨_, rfl⟩; obtain ⟨c61, hc61⟩ : ∃ c1, c1 = c0 - (x7_1 : Int).toNat := ⟨_, rfl⟩; have hy61 : y210.length = l0.length - (x7_1 : Int).toNat := (by rw [Ny210.out, List.length_drop] <;> omega); rw [show (l0).drop (x7_1 : Int).toNat = y210 from Ny210.out.symm] at hr61; replace hr61 : Kd.F k103 _ _ A61 y210.length y210 := (by rw [hA61]; exact hr61); rw [← hy61, ← hA61, ← hc61] at hcut61; have HO214 := ak (show Kd.V k103 103 _ w.heap.size _ (.slice A61 y210.length c61) y210 from Kd.V_mk (by rw [hy61, hc61]; exact Nat.sub_le_sub_right hroom61 _) hr61); have HC214 := ak (show y210.length ≤ c61 from by rw [hy61, hc61]; exact Nat.sub_le_sub_right hroom61 _); clear hr61 hC61 hroom61 hi061 hsz61 hc61; have KY61 := ak hy61; have KA61 := ak hA61; clear hy61 hA61; replace q61 := eq_true q61) | ((with_reducible refine gate_builtin (b := .append) (xs := #[.tmp 33, .tmp 36]) rfl ?_); at_builtin; refine Kd.N_append_rows k103 (w0 := w) w.heap.size rfl (.tmp 33) (.tmp 36) 100 103 (.agg #[(.slice none 0 0), (.int .i64 0)]) 32 rfl Try.underlying100 info103 rfl (by decide) (by omega) v208 y207 y210 _ _ _ (fun k_ => ((P0_ k_ ∨ P1_0_ k_) ∨ w.heap.size ≤ k_) ∧ k_ ≠ gb168) (fun k_ => ((fun k_ => ((P0_ k_ ∨ P1_0_ k_) ∨ w.heap.size ≤ k_) ∧ k_ ≠ gb168)) k_ ∧ some k_ ≠ (v208 : Value).ownBlock) rfl rfl ?aO ?aR (fun _ hk => hk) ?aF ?aB ?aS ?aL ?_; (case aR => exact (by skip; exact Kd.V_F (Kd.V_mono (ok' := (fun k_ => ((fun k_ => ((P0_ k_ ∨ P1_0_ k_) ∨ w.heap.size ≤ k_) ∧ k_ ≠ gb168)) k_ ∧ some k_ ≠ (v208 : Value).ownBlock)) (HO214.out) (fun k_ hk => ⟨⟨hk.1.1, hk.1.2⟩, hk.2⟩)))); (case aB => exact (bl1 HB GE168)); (case aF => exact (fun k_ hk => ⟨(.inr (Nat.le_trans (below_size (bl1 HB GE168)) hk)), Kd.freshB (bk BK168) k_ hk⟩)); (case aO => exact (by (with_reducible repeat (first | apply Kd.N_alloc | apply Kd.N_drewN | apply Kd.N_drew)); exact HO209.out)); (case aS => exact (below_size (bl1 HB GE168))); (case aL => have := LMc50.out; omega); intro v216 w62 ho hb hg hat; rw [← Ny215.out] at ho; have n0_ := ak (Kd.V_afterv (ok := (fun k_ => ((P0_ k_ ∨ P1_0_ k_) ∨ w.heap.size ≤ k_) ∧ k_ ≠ gb168)) (by (with_reducible repeat (first | apply Kd.V_alloc | apply Kd.V_drewN | apply Kd.V_drew)); exact HO_0.out) hg hat); have n1_ := ak (Kd.V_afterv (ok := (fun k_ => ((P0_ k_ ∨ P1_0_ k_) ∨ w.heap.size ≤ k_) ∧ k_ ≠ gb168)) (by (with_reducible repeat (first | apply Kd.V_alloc | apply Kd.V_drewN | apply Kd.V_drew)); exact HO_169000.out) hg hat); have n2_ := ak (blk_grown (bk BK168) hg (Kd.N_away HO209.out (fun _ hk => hk.2))); have n3_ := ak (Kd.V_afterv (ok := (fun k_ => ((P0_ k_ ∨ P1_0_ k_) ∨ w.heap.size ≤ k_) ∧ k_ ≠ gb168)) (by (with_reducible repeat (first | apply Kd.V_alloc | apply Kd.V_drewN | apply Kd.V_drew)); exact HO203.out) hg hat); have n4_ := ak (Kd.V_afterv (ok := (fun k_ => ((P0_ k_ ∨ P1_0_ k_) ∨ w.heap.size ≤ k_) ∧ k_ ≠ gb168)) (by (with_reducible repeat (first | apply Kd.V_alloc | apply Kd.V_drewN | apply Kd.V_drew)); exact HO214.out) hg hat); have n5_ := ak (hb); have n6_ := ak (ho); clear HO_0; clear HO_169000; clear BK168; clear HO203; clear HO214; clear HB; clear HO209; have HO_0 := n0_; have HO_169000 := n1_; have BK168 := n2_; have HO203 := n3_; have HO214 := n4_; have HB := n5_; have HO217 := n6_; clear n0_ n1_ n2_ n3_ n4_ n5_ n6_; clear ho hb hg hat; obtain ⟨Ao63, co63, eo63⟩ := Kd.N_slice HO217.out; subst eo63; have q64 : (a2 : Int) ≤ ((y215.length : Int) : Int) := oT (by first | (with_reducible assumption) | assumption); obtain ⟨i064, hi064, _, hsz64, _⟩ := info_parts info103; have hcut64 := cut_to (P := Try.prog) 100 103 .i64 Try.underlying100 hi064 Ao63 y215.length co63 a2 (oT (by first | (with_reducible assumption) | assumption)) q64 (Kd.N_reads' HO217.out).2.1; have hr64 := Kd.N_take (m := (a2 : Int).toNat) HO217.out (by omega); have hy64 : y218.length = (a2 : Int).toNat := (by rw [Ny218.out, List.length_take]; omega); rw [← Ny218.out] at hr64; rw [← hy64] at hr64 hcut64; clear hy64 hi064 hsz64 HO217; have HO220 := ak hr64; clear hr64; replace q64 := eq_true q64))
   go_ret
   exact ⟨_, by first | rfl | (simp [errW_none, errW_some] <;> rfl) | (simp [*, errW_none, errW_some] <;> rfl), by (with_reducible repeat (first | apply Kd.N_alloc | apply Kd.N_drewN | apply Kd.N_drew)); exact Kd.N_mono HO220.out (fun _ hk => hk.1), bl1 HB GE168⟩
  rw [if_pos c5] at H
  have c5b0 : decide (x7_1 < (l0.length : Int)) = true := decide_eq_true c5
  clear c5
  by_cases c6 : 0 ≤ x7_1
  rotate_left
  ·rw [if_neg c6] at H
   exact absurd H (by simp)
  rw [if_pos c6] at H
  have c6b0 : decide (0 ≤ x7_1) = true := decide_eq_true c6
  clear c6
  replace H := Option.bind_eq_some_iff.mp H
  obtain ⟨t170, A70, H⟩ := H
  have A7 := ak A70
  clear A70
  by_cases c8 : t170 = true
  rotate_left
  ·replace c8 := Bool.eq_false_iff.mpr c8
   subst c8
   rw [if_neg (show ¬ (false = true) by decide)] at H
   have H' := ak H
   clear H
   try go_wp2
   replace HO_0 := ak (Kd.V_drew HO_0.out)
   replace HO_169000 := ak (Kd.V_drew HO_169000.out)
   replace BK168 := ak (blk_drew BK168.out)
   replace HB := ak (below_drew1 HB.out)
   have p169 : 0 ≤ (x7_1 : Int) := oT (by first | (with_reducible assumption) | assumption)
   have q169 : x7_1 < (l0.length : Int) := oT (by first | (with_reducible assumption) | assumption)
   obtain ⟨ad169, A169_0, c169_0, e169, hx169_0, hx169_1, hl169_0, hi169_0⟩ := at_T103 (Kd.V_reads' HO_0.out).2.2 x7_1 p169 q169
   cases e169
   obtain ⟨ce169, hce169, hMe169, hcc169⟩ := Kd.V_get HO_0.out z103 x7_1 p169 (by first | exact q169 | exact oT (by first | (with_reducible assumption) | assumption) | (have e_ := (Kd.V_reads' HO_0.out).1; omega))
   obtain ⟨ua169_0, uc169_0, rfl, ul169_0, ge169_0⟩ := k103_openF hMe169
   have hv169_0 := hcc169 0 _ rfl
   rw [Nat.add_zero] at hv169_0
   replace hv169_0 := Option.some.inj (hv169_0.symm.trans hx169_0)
   injection hv169_0 with hva_ hvn_ hvc_
   rw [hva_] at ge169_0
   rw [hvc_] at ul169_0
   have HL169_0 := ak (show Kd.V (Kd.int .i64) 3 _ w.heap.size _ _ ((rd_T103 l0 x7_1).f0) from Kd.V_mk ul169_0 ge169_0)
   clear hva_ hvn_ hvc_ ge169_0 ul169_0
   clear hcc169 hce169
   have HR169_0 := ak hi169_0
   have HC169_0 := ak hl169_0
   clear hi169_0 hl169_0
   replace p169 := eq_true p169
   replace q169 := eq_true q169
   refine start_ (n := 13) (S := fun w' => w'.cell? ⟨gb168, 0, none⟩ = some (.slice A1_0 l1_0.length c1_0) ∧ w'.cell? ⟨gb168, 1, none⟩ = some (.int .i64 a1_1) ∧ w'.cell? (ad169.add ((x7_1).toNat * 2)) = some (.slice A169_0 ((rd_T103 l0 x7_1).f0).length c169_0) ∧ w'.cell? ⟨(ad169.add ((x7_1).toNat * 2)).block, (ad169.add ((x7_1).toNat * 2)).off + 1, none⟩ = some (.int .i64 ((rd_T103 l0 x7_1).f1))) (ds := []) (ms 13 0) (by kernel_rfl) rfl (by kernel_rfl) ⟨(blk_cell BK168.out 0).trans rfl, (blk_cell BK168.out 1).trans rfl, hx169_0, hx169_1⟩ (fun hHeld => ?_); refine with_tabW spec_l14Put.tab2 spec_l14Put.bits2 (fun HT_ HW_ => ?_)
   generalize wr.drew = w42 at HO_0 HO_169000 BK168 HB HL169_0 HR169_0 hx169_0 hx169_1 hHeld ⊢
   refine pu 0 9 ?_ (ms 13 1) rfl rfl HT_ (by kernel_rfl) (fun _ _ _ h => h) (by rfl) ?_ ?_ ?_ ?_
   rotate_left
   ·intro w'
    go_simp
    with_reducible rfl
   rotate_left
   ·simp only [SX]
    rfl
   refine pu 1 10 ?_ (ms 13 3) rfl rfl HT_ (by kernel_rfl) (fun _ _ _ h => h) (by rfl) ?_ ?_ ?_ ?_
   rotate_left
   ·intro w'
    go_simp
    with_reducible rfl
   rotate_left
   ·simp only [SX]
    rfl
   refine pu 2 11 ?_ (ms 13 7) rfl rfl HT_ (by kernel_rfl) (fun _ _ _ h => h) (by rfl) ?_ ?_ ?_ ?_
   rotate_left
   ·intro w'
    go_simp
    with_reducible rfl
   rotate_left
   ·simp only [SX]
    rfl
   refine pu 3 12 ?_ (ms 13 15) rfl rfl HT_ (by kernel_rfl) (fun _ _ _ h => h) (by rfl) ?_ ?_ ?_ ?_
   rotate_left
   ·intro w'
    go_simp
    with_reducible rfl
   rotate_left
   ·simp only [SX]
    rfl
   refine pu 4 13 ?_ (ms 13 31) rfl rfl HT_ (by kernel_rfl) (fun _ _ _ h => h) (by rfl) ?_ ?_ ?_ ?_
   rotate_left
   ·intro w'
    go_simp
    with_reducible rfl
   rotate_left
   ·simp only [SX]
    rfl
   refine pu 6 15 ?_ (ms 13 95) rfl rfl HT_ (by kernel_rfl) (fun _ _ _ h => h) (by rfl) ?_ ?_ ?_ ?_
   rotate_left
   ·intro w'
    go_simp
    with_reducible rfl
   rotate_left
   ·simp only [SX]
    rfl
   refine pu 7 16 ?_ (ms 13 223) rfl rfl HT_ (by kernel_rfl) (fun _ _ _ h => h) (by rfl) ?_ ?_ ?_ ?_
   rotate_left
   ·intro w'
    go_simp
    with_reducible rfl
   rotate_left
   ·simp only [SX]
    rfl
   refine pu 8 17 ?_ (ms 13 479) rfl rfl HT_ (by kernel_rfl) (fun _ _ _ h => h) (by rfl) ?_ ?_ ?_ ?_
   rotate_left
   ·intro w'
    go_simp
    with_reducible rfl
   rotate_left
   ·simp only [SX]
    rfl
   refine tk 5 14 ?_ (ms 13 511) rfl rfl HT_ HW_ (by kernel_rfl) (fun _ _ _ h => h) (by rfl) ?_ hHeld ?_ ?_ ?_
   rotate_left
   ·rintro w' ⟨s0, s1, s2, s3⟩
    go_simp
    with_reducible rfl
   rotate_left
   ·simp only [SX]
    rfl
   refine tk 9 18 ?_ (ms 13 1023) rfl rfl HT_ HW_ (by kernel_rfl) (fun _ _ _ h => h) (by rfl) ?_ hHeld ?_ ?_ ?_
   rotate_left
   ·rintro w' ⟨s0, s1, s2, s3⟩
    go_simp
    with_reducible rfl
   rotate_left
   ·simp only [SX]
    rfl
   refine one_ (i := 10) (N := some 19) (ms 13 2047) rfl rfl (one_of HT_.out (by kernel_rfl)) (by decide) (fun K hK => ?_)
   refine goes_ Try.func127 (by kernel_rfl) rfl #[.agg #[.slice A1_0 l1_0.length c1_0, .int .i64 a1_1], .agg #[.slice A169_0 ((rd_T103 l0 x7_1).f0).length c169_0, .int .i64 ((rd_T103 l0 x7_1).f1)]] (by rfl) rfl rfl (by (try simp only [List.map_toArray, List.map_cons, List.map_nil]); first | done | rfl | (simp only [List.length_drop, List.length_take]; rfl)) ?_
   with_reducible refine (spec_l14Less.calls k1 _ _ l1_0 a1_1 _ _ ((rd_T103 l0 x7_1).f0) ((rd_T103 l0 x7_1).f1) false _ ?side1 ?side2 ?side3 ?side4 A7.out).mono ?_
   (case side1 => repeat (first | exact (Kd.V_reads' HO_169000.out).2.2 | (with_reducible refine Kd.C_alloc ?_ _) | (with_reducible refine Kd.C_drewN ?_ _) | (with_reducible refine Kd.C_drew ?_)))
   (case side2 => exact (Kd.V_reads' HO_169000.out).2.1)
   (case side3 => repeat (first | exact (by repeat (first | (with_reducible exact HR169_0.out) | (with_reducible refine Kd.C_alloc ?_ _) | (with_reducible refine Kd.C_drewN ?_ _) | (with_reducible refine Kd.C_drew ?_) | exact HR169_0.out)) | (with_reducible refine Kd.C_alloc ?_ _) | (with_reducible refine Kd.C_drewN ?_ _) | (with_reducible refine Kd.C_drew ?_)))
   (case side4 => exact HC169_0.out)
   rintro e w43 ⟨rfl, hb⟩
   have HS2_ := (hb.cell (World.block_lt_of_cell? _ _ (hHeld.2.2.1))).trans (hHeld.2.2.1)
   have HS3_ := (hb.cell (World.block_lt_of_cell? _ _ (hHeld.2.2.2))).trans (hHeld.2.2.2)
   refine ⟨_, rfl, ?_⟩
   replace HO_0 := ak (Kd.V_below (by (with_reducible repeat (first | apply Kd.V_alloc | apply Kd.V_drewN | apply Kd.V_drew)); exact HO_0.out) hb)
   replace HO_169000 := ak (Kd.V_below (by (with_reducible repeat (first | apply Kd.V_alloc | apply Kd.V_drewN | apply Kd.V_drew)); exact HO_169000.out) hb)
   replace HL169_0 := ak (Kd.V_below (by (with_reducible repeat (first | apply Kd.V_alloc | apply Kd.V_drewN | apply Kd.V_drew)); exact HL169_0.out) hb)
   replace BK168 := ak (blk_below (bk BK168) hb)
   replace HR169_0 := ak (Kd.C_below (by repeat (first | (with_reducible exact HR169_0.out) | (with_reducible refine Kd.C_alloc ?_ _) | (with_reducible refine Kd.C_drewN ?_ _) | (with_reducible refine Kd.C_drew ?_) | exact HR169_0.out)) hb)
   replace HB := ak (below_step (bl1 HB GE168) hb)
   (try clear hb)
   (try clear hb2)
   (try clear hk)
   (try clear hi)
   refine hK.out _ _ ⟨(blk_cell BK168.out 0).trans rfl, (blk_cell BK168.out 1).trans rfl, HS2_, HS3_⟩ (fun hHeld => ?_)
   clear hK K
   refine norm_ (a' := ?_) ?_ ?_
   rotate_left
   ·show Act.put _ (some 19) _ = _
    simp only [SX]
    rfl
   refine pu 11 20 ?_ (ms 13 4095) rfl rfl HT_ (by kernel_rfl) (fun _ _ _ h => h) (by rfl) ?_ ?_ ?_ ?_
   rotate_left
   ·intro w'
    go_simp
    with_reducible rfl
   rotate_left
   ·simp only [SX]
    rfl
   refine pu 12 21 ?_ (ms 13 8191) rfl rfl HT_ (by kernel_rfl) (fun _ _ _ h => h) (by rfl) ?_ ?_ ?_ ?_
   rotate_left
   ·intro w'
    go_simp
    with_reducible rfl
   rotate_left
   ·simp only [SX]
    rfl
   refine done_ (done_of HT_.out (by kernel_rfl)) ?_
   try go_wp2
   go_roundg k1
   case measure => have := HK1.out; omega
   case rel => exact ⟨(wrap64 (x7_1 + 1)), (by first | rfl | (simp; done) | (simp [*]; done)), H', ⟨by have := HK1.out; omega⟩, ⟨by (with_reducible repeat (first | apply Kd.V_alloc | apply Kd.V_drewN | apply Kd.V_drew)); exact HO_0.out⟩, ⟨by (with_reducible repeat (first | apply Kd.V_alloc | apply Kd.V_drewN | apply Kd.V_drew)); exact HO_169000.out⟩, ⟨bk BK168⟩, ⟨bl1 HB GE168⟩⟩
  subst c8
  rw [if_pos rfl] at H
  obtain ⟨y171, hy171⟩ : ∃ y_ : List (S103), y_ = (([] : List (S103))) := ⟨_, rfl⟩
  replace H : (if x7_1 ≤ (l0.length : Int) then ((some (l0.take (x7_1 : Int).toNat : List (S103))).bind fun y174 => (if y171.length + y174.length < 4398046511104 then ((some (y171 ++ y174 : List (S103))).bind fun y179 => (if y179.length < 4398046511104 then ((some (y179 ++ [(⟨l1_0, a1_1⟩ : S103)] : List (S103))).bind fun y182 => ((some (l0.drop (x7_1 : Int).toNat : List (S103))).bind fun y185 => (if y182.length + y185.length < 4398046511104 then ((some (y182 ++ y185 : List (S103))).bind fun y190 => (if (y190.length : Int) > a2 then (if 0 ≤ a2 then (if a2 ≤ (y190.length : Int) then (some (y190.take (a2 : Int).toNat)) else (none)) else (none)) else (some y190))) else (none)))) else (none))) else (none))) else (none)) = some r := by first | (rw [hy171]; with_reducible exact H) | (have H2_ := (Option.bind_some _ _).symm.trans H; rw [hy171]; with_reducible exact H2_) | (have H2_ := (Option.bind_some _ _).symm.trans H; with_reducible exact H2_) | with_reducible exact H | (rw [hy171]; exact H) | exact H
  have Ny171 := ak hy171
  clear hy171
  have c9b0 := eq_true (oT (by first | (with_reducible assumption) | assumption) : 0 ≤ x7_1)
  by_cases c10 : x7_1 ≤ (l0.length : Int)
  rotate_left
  ·rw [if_neg c10] at H
   exact absurd H (by simp)
  rw [if_pos c10] at H
  have c10b0 := eq_true c10
  have c10b1 : decide (x7_1 ≤ (l0.length : Int)) = true := decide_eq_true c10
  clear c10
  obtain ⟨y174, hy174⟩ : ∃ y_ : List (S103), y_ = (l0.take (x7_1 : Int).toNat) := ⟨_, rfl⟩
  replace H : (if y171.length + y174.length < 4398046511104 then ((some (y171 ++ y174 : List (S103))).bind fun y179 => (if y179.length < 4398046511104 then ((some (y179 ++ [(⟨l1_0, a1_1⟩ : S103)] : List (S103))).bind fun y182 => ((some (l0.drop (x7_1 : Int).toNat : List (S103))).bind fun y185 => (if y182.length + y185.length < 4398046511104 then ((some (y182 ++ y185 : List (S103))).bind fun y190 => (if (y190.length : Int) > a2 then (if 0 ≤ a2 then (if a2 ≤ (y190.length : Int) then (some (y190.take (a2 : Int).toNat)) else (none)) else (none)) else (some y190))) else (none)))) else (none))) else (none)) = some r := by first | (rw [hy174]; with_reducible exact H) | (have H2_ := (Option.bind_some _ _).symm.trans H; rw [hy174]; with_reducible exact H2_) | (have H2_ := (Option.bind_some _ _).symm.trans H; with_reducible exact H2_) | with_reducible exact H | (rw [hy174]; exact H) | exact H
  have Ny174 := ak hy174
  clear hy174
  by_cases c11 : y171.length + y174.length < 4398046511104
  rotate_left
  ·rw [if_neg c11] at H
   exact absurd H (by simp)
  rw [if_pos c11] at H
  have LMc11 := ak c11
  clear c11
  obtain ⟨y179, hy179⟩ : ∃ y_ : List (S103), y_ = (y171 ++ y174) := ⟨_, rfl⟩
  replace H : (if y179.length < 4398046511104 then ((some (y179 ++ [(⟨l1_0, a1_1⟩ : S103)] : List (S103))).bind fun y182 => ((some (l0.drop (x7_1 : Int).toNat : List (S103))).bind fun y185 => (if y182.length + y185.length < 4398046511104 then ((some (y182 ++ y185 : List (S103))).bind fun y190 => (if (y190.length : Int) > a2 then (if 0 ≤ a2 then (if a2 ≤ (y190.length : Int) then (some (y190.take (a2 : Int).toNat)) else (none)) else (none)) else (some y190))) else (none)))) else (none)) = some r := by first | (rw [hy179]; with_reducible exact H) | (have H2_ := (Option.bind_some _ _).symm.trans H; rw [hy179]; with_reducible exact H2_) | (have H2_ := (Option.bind_some _ _).symm.trans H; with_reducible exact H2_) | with_reducible exact H | (rw [hy179]; exact H) | exact H
  have Ny179 := ak hy179
  clear hy179
  by_cases c12 : y179.length < 4398046511104
  rotate_left
  ·rw [if_neg c12] at H
   exact absurd H (by simp)
  rw [if_pos c12] at H
  have LMc12 := ak c12
  clear c12
  obtain ⟨y182, hy182⟩ : ∃ y_ : List (S103), y_ = (y179 ++ [(⟨l1_0, a1_1⟩ : S103)]) := ⟨_, rfl⟩
  replace H : ((some (l0.drop (x7_1 : Int).toNat : List (S103))).bind fun y185 => (if y182.length + y185.length < 4398046511104 then ((some (y182 ++ y185 : List (S103))).bind fun y190 => (if (y190.length : Int) > a2 then (if 0 ≤ a2 then (if a2 ≤ (y190.length : Int) then (some (y190.take (a2 : Int).toNat)) else (none)) else (none)) else (some y190))) else (none))) = some r := by first | (rw [hy182]; with_reducible exact H) | (have H2_ := (Option.bind_some _ _).symm.trans H; rw [hy182]; with_reducible exact H2_) | (have H2_ := (Option.bind_some _ _).symm.trans H; with_reducible exact H2_) | with_reducible exact H | (rw [hy182]; exact H) | exact H
  have Ny182 := ak hy182
  clear hy182
  have c13b0 := eq_true (oT (by first | (with_reducible assumption) | assumption) : 0 ≤ x7_1)
  have c14b0 := eq_true (oT (by first | (with_reducible assumption) | assumption) : x7_1 ≤ (l0.length : Int))
  obtain ⟨y185, hy185⟩ : ∃ y_ : List (S103), y_ = (l0.drop (x7_1 : Int).toNat) := ⟨_, rfl⟩
  replace H : (if y182.length + y185.length < 4398046511104 then ((some (y182 ++ y185 : List (S103))).bind fun y190 => (if (y190.length : Int) > a2 then (if 0 ≤ a2 then (if a2 ≤ (y190.length : Int) then (some (y190.take (a2 : Int).toNat)) else (none)) else (none)) else (some y190))) else (none)) = some r := by first | (rw [hy185]; with_reducible exact H) | (have H2_ := (Option.bind_some _ _).symm.trans H; rw [hy185]; with_reducible exact H2_) | (have H2_ := (Option.bind_some _ _).symm.trans H; with_reducible exact H2_) | with_reducible exact H | (rw [hy185]; exact H) | exact H
  have Ny185 := ak hy185
  clear hy185
  by_cases c15 : y182.length + y185.length < 4398046511104
  rotate_left
  ·rw [if_neg c15] at H
   exact absurd H (by simp)
  rw [if_pos c15] at H
  have LMc15 := ak c15
  clear c15
  obtain ⟨y190, hy190⟩ : ∃ y_ : List (S103), y_ = (y182 ++ y185) := ⟨_, rfl⟩
  replace H : (if (y190.length : Int) > a2 then (if 0 ≤ a2 then (if a2 ≤ (y190.length : Int) then (some (y190.take (a2 : Int).toNat)) else (none)) else (none)) else (some y190)) = some r := by first | (rw [hy190]; with_reducible exact H) | (have H2_ := (Option.bind_some _ _).symm.trans H; rw [hy190]; with_reducible exact H2_) | (have H2_ := (Option.bind_some _ _).symm.trans H; with_reducible exact H2_) | with_reducible exact H | (rw [hy190]; exact H) | exact H
  have Ny190 := ak hy190
  clear hy190
  by_cases c16 : (y190.length : Int) > a2
  rotate_left
  ·rw [if_neg c16] at H
   have c16b0 : decide (a2 < (y190.length : Int)) = false := decide_eq_false c16
   clear c16
   obtain rfl := Option.some.inj H
   try go_wp2
   replace HO_0 := ak (Kd.V_drew HO_0.out)
   replace HO_169000 := ak (Kd.V_drew HO_169000.out)
   replace BK168 := ak (blk_drew BK168.out)
   replace HB := ak (below_drew1 HB.out)
   have p169 : 0 ≤ (x7_1 : Int) := oT (by first | (with_reducible assumption) | assumption)
   have q169 : x7_1 < (l0.length : Int) := oT (by first | (with_reducible assumption) | assumption)
   obtain ⟨ad169, A169_0, c169_0, e169, hx169_0, hx169_1, hl169_0, hi169_0⟩ := at_T103 (Kd.V_reads' HO_0.out).2.2 x7_1 p169 q169
   cases e169
   obtain ⟨ce169, hce169, hMe169, hcc169⟩ := Kd.V_get HO_0.out z103 x7_1 p169 (by first | exact q169 | exact oT (by first | (with_reducible assumption) | assumption) | (have e_ := (Kd.V_reads' HO_0.out).1; omega))
   obtain ⟨ua169_0, uc169_0, rfl, ul169_0, ge169_0⟩ := k103_openF hMe169
   have hv169_0 := hcc169 0 _ rfl
   rw [Nat.add_zero] at hv169_0
   replace hv169_0 := Option.some.inj (hv169_0.symm.trans hx169_0)
   injection hv169_0 with hva_ hvn_ hvc_
   rw [hva_] at ge169_0
   rw [hvc_] at ul169_0
   have HL169_0 := ak (show Kd.V (Kd.int .i64) 3 _ w.heap.size _ _ ((rd_T103 l0 x7_1).f0) from Kd.V_mk ul169_0 ge169_0)
   clear hva_ hvn_ hvc_ ge169_0 ul169_0
   clear hcc169 hce169
   have HR169_0 := ak hi169_0
   have HC169_0 := ak hl169_0
   clear hi169_0 hl169_0
   replace p169 := eq_true p169
   replace q169 := eq_true q169
   refine start_ (n := 13) (S := fun w' => w'.cell? ⟨gb168, 0, none⟩ = some (.slice A1_0 l1_0.length c1_0) ∧ w'.cell? ⟨gb168, 1, none⟩ = some (.int .i64 a1_1) ∧ w'.cell? (ad169.add ((x7_1).toNat * 2)) = some (.slice A169_0 ((rd_T103 l0 x7_1).f0).length c169_0) ∧ w'.cell? ⟨(ad169.add ((x7_1).toNat * 2)).block, (ad169.add ((x7_1).toNat * 2)).off + 1, none⟩ = some (.int .i64 ((rd_T103 l0 x7_1).f1))) (ds := []) (ms 13 0) (by kernel_rfl) rfl (by kernel_rfl) ⟨(blk_cell BK168.out 0).trans rfl, (blk_cell BK168.out 1).trans rfl, hx169_0, hx169_1⟩ (fun hHeld => ?_); refine with_tabW spec_l14Put.tab2 spec_l14Put.bits2 (fun HT_ HW_ => ?_)
   generalize wr.drew = w31 at HO_0 HO_169000 BK168 HB HL169_0 HR169_0 hx169_0 hx169_1 hHeld ⊢
   refine pu 0 9 ?_ (ms 13 1) rfl rfl HT_ (by kernel_rfl) (fun _ _ _ h => h) (by rfl) ?_ ?_ ?_ ?_
   rotate_left
   ·intro w'
    go_simp
    with_reducible rfl
   rotate_left
   ·simp only [SX]
    rfl
   refine pu 1 10 ?_ (ms 13 3) rfl rfl HT_ (by kernel_rfl) (fun _ _ _ h => h) (by rfl) ?_ ?_ ?_ ?_
   rotate_left
   ·intro w'
    go_simp
    with_reducible rfl
   rotate_left
   ·simp only [SX]
    rfl
   refine pu 2 11 ?_ (ms 13 7) rfl rfl HT_ (by kernel_rfl) (fun _ _ _ h => h) (by rfl) ?_ ?_ ?_ ?_
   rotate_left
   ·intro w'
    go_simp
    with_reducible rfl
   rotate_left
   ·simp only [SX]
    rfl
   refine pu 3 12 ?_ (ms 13 15) rfl rfl HT_ (by kernel_rfl) (fun _ _ _ h => h) (by rfl) ?_ ?_ ?_ ?_
   rotate_left
   ·intro w'
    go_simp
    with_reducible rfl
   rotate_left
   ·simp only [SX]
    rfl
   refine pu 4 13 ?_ (ms 13 31) rfl rfl HT_ (by kernel_rfl) (fun _ _ _ h => h) (by rfl) ?_ ?_ ?_ ?_
   rotate_left
   ·intro w'
    go_simp
    with_reducible rfl
   rotate_left
   ·simp only [SX]
    rfl
   refine pu 6 15 ?_ (ms 13 95) rfl rfl HT_ (by kernel_rfl) (fun _ _ _ h => h) (by rfl) ?_ ?_ ?_ ?_
   rotate_left
   ·intro w'
    go_simp
    with_reducible rfl
   rotate_left
   ·simp only [SX]
    rfl
   refine pu 7 16 ?_ (ms 13 223) rfl rfl HT_ (by kernel_rfl) (fun _ _ _ h => h) (by rfl) ?_ ?_ ?_ ?_
   rotate_left
   ·intro w'
    go_simp
    with_reducible rfl
   rotate_left
   ·simp only [SX]
    rfl
   refine pu 8 17 ?_ (ms 13 479) rfl rfl HT_ (by kernel_rfl) (fun _ _ _ h => h) (by rfl) ?_ ?_ ?_ ?_
   rotate_left
   ·intro w'
    go_simp
    with_reducible rfl
   rotate_left
   ·simp only [SX]
    rfl
   refine tk 5 14 ?_ (ms 13 511) rfl rfl HT_ HW_ (by kernel_rfl) (fun _ _ _ h => h) (by rfl) ?_ hHeld ?_ ?_ ?_
   rotate_left
   ·rintro w' ⟨s0, s1, s2, s3⟩
    go_simp
    with_reducible rfl
   rotate_left
   ·simp only [SX]
    rfl
   refine tk 9 18 ?_ (ms 13 1023) rfl rfl HT_ HW_ (by kernel_rfl) (fun _ _ _ h => h) (by rfl) ?_ hHeld ?_ ?_ ?_
   rotate_left
   ·rintro w' ⟨s0, s1, s2, s3⟩
    go_simp
    with_reducible rfl
   rotate_left
   ·simp only [SX]
    rfl
   refine one_ (i := 10) (N := some 19) (ms 13 2047) rfl rfl (one_of HT_.out (by kernel_rfl)) (by decide) (fun K hK => ?_)
   refine goes_ Try.func127 (by kernel_rfl) rfl #[.agg #[.slice A1_0 l1_0.length c1_0, .int .i64 a1_1], .agg #[.slice A169_0 ((rd_T103 l0 x7_1).f0).length c169_0, .int .i64 ((rd_T103 l0 x7_1).f1)]] (by rfl) rfl rfl (by (try simp only [List.map_toArray, List.map_cons, List.map_nil]); first | done | rfl | (simp only [List.length_drop, List.length_take]; rfl)) ?_
   with_reducible refine (spec_l14Less.calls k1 _ _ l1_0 a1_1 _ _ ((rd_T103 l0 x7_1).f0) ((rd_T103 l0 x7_1).f1) true _ ?side1 ?side2 ?side3 ?side4 A7.out).mono ?_
   (case side1 => repeat (first | exact (Kd.V_reads' HO_169000.out).2.2 | (with_reducible refine Kd.C_alloc ?_ _) | (with_reducible refine Kd.C_drewN ?_ _) | (with_reducible refine Kd.C_drew ?_)))
   (case side2 => exact (Kd.V_reads' HO_169000.out).2.1)
   (case side3 => repeat (first | exact (by repeat (first | (with_reducible exact HR169_0.out) | (with_reducible refine Kd.C_alloc ?_ _) | (with_reducible refine Kd.C_drewN ?_ _) | (with_reducible refine Kd.C_drew ?_) | exact HR169_0.out)) | (with_reducible refine Kd.C_alloc ?_ _) | (with_reducible refine Kd.C_drewN ?_ _) | (with_reducible refine Kd.C_drew ?_)))
   (case side4 => exact HC169_0.out)
   rintro e w32 ⟨rfl, hb⟩
   have HS2_ := (hb.cell (World.block_lt_of_cell? _ _ (hHeld.2.2.1))).trans (hHeld.2.2.1)
   have HS3_ := (hb.cell (World.block_lt_of_cell? _ _ (hHeld.2.2.2))).trans (hHeld.2.2.2)
   refine ⟨_, rfl, ?_⟩
   replace HO_0 := ak (Kd.V_below (by (with_reducible repeat (first | apply Kd.V_alloc | apply Kd.V_drewN | apply Kd.V_drew)); exact HO_0.out) hb)
   replace HO_169000 := ak (Kd.V_below (by (with_reducible repeat (first | apply Kd.V_alloc | apply Kd.V_drewN | apply Kd.V_drew)); exact HO_169000.out) hb)
   replace HL169_0 := ak (Kd.V_below (by (with_reducible repeat (first | apply Kd.V_alloc | apply Kd.V_drewN | apply Kd.V_drew)); exact HL169_0.out) hb)
   replace BK168 := ak (blk_below (bk BK168) hb)
   replace HR169_0 := ak (Kd.C_below (by repeat (first | (with_reducible exact HR169_0.out) | (with_reducible refine Kd.C_alloc ?_ _) | (with_reducible refine Kd.C_drewN ?_ _) | (with_reducible refine Kd.C_drew ?_) | exact HR169_0.out)) hb)
   replace HB := ak (below_step (bl1 HB GE168) hb)
   (try clear hb)
   (try clear hb2)
   (try clear hk)
   (try clear hi)
   refine hK.out _ _ ⟨(blk_cell BK168.out 0).trans rfl, (blk_cell BK168.out 1).trans rfl, HS2_, HS3_⟩ (fun hHeld => ?_)
   clear hK K
   refine norm_ (a' := ?_) ?_ ?_
   rotate_left
   ·show Act.put _ (some 19) _ = _
    simp only [SX]
    rfl
   refine pu 11 20 ?_ (ms 13 4095) rfl rfl HT_ (by kernel_rfl) (fun _ _ _ h => h) (by rfl) ?_ ?_ ?_ ?_
   rotate_left
   ·intro w'
    go_simp
    with_reducible rfl
   rotate_left
   ·simp only [SX]
    rfl
   refine pu 12 21 ?_ (ms 13 8191) rfl rfl HT_ (by kernel_rfl) (fun _ _ _ h => h) (by rfl) ?_ ?_ ?_ ?_
   rotate_left
   ·intro w'
    go_simp
    with_reducible rfl
   rotate_left
   ·simp only [SX]
    rfl
   refine done_ (done_of HT_.out (by kernel_rfl)) ?_
   try go_wp2_with (first | ((with_reducible refine gate_dst (N := 24) rfl ?_); refine Kd.N_lit k103 _ 103 ?hg (N' := 24) ?hd (xs := ([] : List (S103))) (inner := []) (ok := (fun k_ => ((P0_ k_ ∨ P1_0_ k_) ∨ w.heap.size ≤ k_) ∧ k_ ≠ gb168)) (okp := (fun k_ => ((P0_ k_ ∨ P1_0_ k_) ∨ w.heap.size ≤ k_) ∧ k_ ≠ gb168)) ?hr ?hp (fun _ hk => hk) ((show ∀ k_, w32.heap.size ≤ k_ → (fun k_ => ((P0_ k_ ∨ P1_0_ k_) ∨ w.heap.size ≤ k_) ∧ k_ ≠ gb168) k_ from fun k_ hk => ⟨(.inr (Nat.le_trans (below_size (bl1 HB GE168)) hk)), Kd.freshB (bk BK168) k_ hk⟩) _ (Nat.le_refl _)) (Below.refl _ _) (Nat.le_refl _) (by simp) ?_; (case hd => rfl); (case hg => rfl); (case hr => first | (go_simp; done) | (go_simp; rfl)); (case hp => exact (Reps.none _ _)); intro v172 w33 ho34 hb hg_ hnew_; clear hg_ hnew_; (first | rw [← Ny171.out] at ho34 | (simp only [Int.reduceToNat] at ho34; rw [← Ny171.out] at ho34)); replace HO_0 := ak (Kd.V_elder' (by (with_reducible repeat (first | apply Kd.V_alloc | apply Kd.V_drewN | apply Kd.V_drew)); exact HO_0.out) (Kd.N_base ho34) hb); replace HO_169000 := ak (Kd.V_elder' (by (with_reducible repeat (first | apply Kd.V_alloc | apply Kd.V_drewN | apply Kd.V_drew)); exact HO_169000.out) (Kd.N_base ho34) hb); replace HL169_0 := ak (Kd.V_elder' (by (with_reducible repeat (first | apply Kd.V_alloc | apply Kd.V_drewN | apply Kd.V_drew)); exact HL169_0.out) (Kd.N_base ho34) hb); have HO173 := ak (Kd.N_lower ho34 (below_size (bl1 HB GE168))); replace BK168 := ak (blk_below (bk BK168) hb); replace HR169_0 := ak (Kd.C_below (by repeat (first | (with_reducible exact HR169_0.out) | (with_reducible refine Kd.C_alloc ?_ _) | (with_reducible refine Kd.C_drewN ?_ _) | (with_reducible refine Kd.C_drew ?_) | exact HR169_0.out)) hb); replace HB := ak (below_step (bl1 HB GE168) hb); clear hb ho34; have q35 : (x7_1 : Int) ≤ ((l0.length : Int) : Int) := oT (by first | (with_reducible assumption) | assumption); obtain ⟨i035, hi035, _, hsz35, _⟩ := info_parts info103; have hroom35 : l0.length ≤ c0 := (Kd.V_reads' HO_0.out).2.1; have hC35 : Kd.F k103 _ _ (some ad169) l0.length l0 := (Kd.V_at (base := w.heap.size) HO_0.out).2.2; have hcut35 := cut_to (P := Try.prog) 100 103 .i64 Try.underlying100 hi035 (some ad169) l0.length c0 x7_1 (oT (by first | (with_reducible assumption) | assumption)) q35 hroom35; have hr35 := Kd.F_take (m := (x7_1 : Int).toNat) hC35 (by omega); have hy35 : y174.length = (x7_1 : Int).toNat := (by rw [Ny174.out, List.length_take]; omega); rw [← Ny174.out] at hr35; rw [← hy35] at hcut35; have HO178 := ak (show Kd.V k103 103 _ w.heap.size _ (.slice (some ad169) y174.length c0) y174 from Kd.V_mk (by omega) hr35); have HC178 := ak (show y174.length ≤ c0 from by omega); clear hr35 hC35 hroom35 hi035 hsz35; have KY35 := ak hy35; clear hy35; replace q35 := eq_true q35) | ((with_reducible refine gate_builtin (b := .append) (xs := #[.tmp 24, .tmp 27]) rfl ?_); at_builtin; refine Kd.N_append_rows k103 (w0 := w) w.heap.size rfl (.tmp 24) (.tmp 27) 100 103 (.agg #[(.slice none 0 0), (.int .i64 0)]) 32 rfl Try.underlying100 info103 rfl (by decide) (by omega) v172 y171 y174 _ _ _ (fun k_ => ((P0_ k_ ∨ P1_0_ k_) ∨ w.heap.size ≤ k_) ∧ k_ ≠ gb168) (fun k_ => ((fun k_ => ((P0_ k_ ∨ P1_0_ k_) ∨ w.heap.size ≤ k_) ∧ k_ ≠ gb168)) k_ ∧ some k_ ≠ (v172 : Value).ownBlock) rfl rfl ?aO ?aR (fun _ hk => hk) ?aF ?aB ?aS ?aL ?_; (case aR => exact (by skip; exact Kd.V_F (Kd.V_mono (ok' := (fun k_ => ((fun k_ => ((P0_ k_ ∨ P1_0_ k_) ∨ w.heap.size ≤ k_) ∧ k_ ≠ gb168)) k_ ∧ some k_ ≠ (v172 : Value).ownBlock)) (HO178.out) (fun k_ hk => ⟨⟨hk.1.1, hk.1.2⟩, hk.2⟩)))); (case aB => exact (bl1 HB GE168)); (case aF => exact (fun k_ hk => ⟨(.inr (Nat.le_trans (below_size (bl1 HB GE168)) hk)), Kd.freshB (bk BK168) k_ hk⟩)); (case aO => exact (by (with_reducible repeat (first | apply Kd.N_alloc | apply Kd.N_drewN | apply Kd.N_drew)); exact HO173.out)); (case aS => exact (below_size (bl1 HB GE168))); (case aL => have := LMc11.out; omega); intro v180 w36 ho hb hg hat; rw [← Ny179.out] at ho; have n0_ := ak (Kd.V_afterv (ok := (fun k_ => ((P0_ k_ ∨ P1_0_ k_) ∨ w.heap.size ≤ k_) ∧ k_ ≠ gb168)) (by (with_reducible repeat (first | apply Kd.V_alloc | apply Kd.V_drewN | apply Kd.V_drew)); exact HO_0.out) hg hat); have n1_ := ak (Kd.V_afterv (ok := (fun k_ => ((P0_ k_ ∨ P1_0_ k_) ∨ w.heap.size ≤ k_) ∧ k_ ≠ gb168)) (by (with_reducible repeat (first | apply Kd.V_alloc | apply Kd.V_drewN | apply Kd.V_drew)); exact HO_169000.out) hg hat); have n2_ := ak (blk_grown (bk BK168) hg (Kd.N_away HO173.out (fun _ hk => hk.2))); have n3_ := ak (Kd.V_afterv (ok := (fun k_ => ((P0_ k_ ∨ P1_0_ k_) ∨ w.heap.size ≤ k_) ∧ k_ ≠ gb168)) (by (with_reducible repeat (first | apply Kd.V_alloc | apply Kd.V_drewN | apply Kd.V_drew)); exact HL169_0.out) hg hat); have n4_ := ak (Kd.V_afterv (ok := (fun k_ => ((P0_ k_ ∨ P1_0_ k_) ∨ w.heap.size ≤ k_) ∧ k_ ≠ gb168)) (by (with_reducible repeat (first | apply Kd.V_alloc | apply Kd.V_drewN | apply Kd.V_drew)); exact HO178.out) hg hat); have n5_ := ak (hb); have n6_ := ak (ho); clear HO_0; clear HO_169000; clear BK168; clear HL169_0; clear HO178; clear HB; clear HO173; have HO_0 := n0_; have HO_169000 := n1_; have BK168 := n2_; have HL169_0 := n3_; have HO178 := n4_; have HB := n5_; have HO181 := n6_; clear n0_ n1_ n2_ n3_ n4_ n5_ n6_; clear ho hb hg hat; have hcz37_0 := bc w36 BK168 0 (.slice A1_0 l1_0.length c1_0) rfl; have hcz37_1 := bc w36 BK168 1 (.int .i64 a1_1) rfl; have hfz37_0 := fz BK168 0; have hfz37_1 := fz BK168 1) | ((with_reducible refine gate_builtin (b := .append) (xs := #[.tmp 29, .tmp 31]) rfl ?_); at_builtin; refine Kd.N_append k103 (w0 := w) w.heap.size rfl (.tmp 29) (.tmp 31) 100 103 (.agg #[(.slice none 0 0), (.int .i64 0)]) 32 rfl Try.underlying100 info103 rfl (by decide) (by omega) v180 y179 (⟨l1_0, a1_1⟩ : S103) [.slice A1_0 l1_0.length c1_0, .int .i64 a1_1] (fun k_ => ((P0_ k_ ∨ P1_0_ k_) ∨ w.heap.size ≤ k_) ∧ k_ ≠ gb168) (fun k_ => ((fun k_ => ((P0_ k_ ∨ P1_0_ k_) ∨ w.heap.size ≤ k_) ∧ k_ ≠ gb168)) k_ ∧ some k_ ≠ (v180 : Value).ownBlock) rfl rfl ?aP (fun _ hk => hk) ?aF ?aO ?aB ?aS ?aL ?_; (case aP => exact (k103_mkF _ _ (⟨l1_0, a1_1⟩ : S103) (Kd.V_reads' (Kd.V_mono (ok' := (fun k_ => ((fun k_ => ((P0_ k_ ∨ P1_0_ k_) ∨ w.heap.size ≤ k_) ∧ k_ ≠ gb168)) k_ ∧ some k_ ≠ (v180 : Value).ownBlock)) (HO_169000.out) (fun k_ hk => ⟨⟨hk.1.1, hk.1.2⟩, hk.2⟩))).2.1 (Kd.V_F (Kd.V_mono (ok' := (fun k_ => ((fun k_ => ((P0_ k_ ∨ P1_0_ k_) ∨ w.heap.size ≤ k_) ∧ k_ ≠ gb168)) k_ ∧ some k_ ≠ (v180 : Value).ownBlock)) (HO_169000.out) (fun k_ hk => ⟨⟨hk.1.1, hk.1.2⟩, hk.2⟩))))); (case aB => exact (bl1 HB GE168)); (case aF => exact (fun k_ hk => ⟨(.inr (Nat.le_trans (below_size (bl1 HB GE168)) hk)), Kd.freshB (bk BK168) k_ hk⟩)); (case aO => exact (by (with_reducible repeat (first | apply Kd.N_alloc | apply Kd.N_drewN | apply Kd.N_drew)); exact HO181.out)); (case aS => exact (below_size (bl1 HB GE168))); (case aL => have := LMc12.out; omega); intro v183 w38 ho hb hg hat; rw [← Ny182.out] at ho; have n0_ := ak (Kd.V_afterv (ok := (fun k_ => ((P0_ k_ ∨ P1_0_ k_) ∨ w.heap.size ≤ k_) ∧ k_ ≠ gb168)) (by (with_reducible repeat (first | apply Kd.V_alloc | apply Kd.V_drewN | apply Kd.V_drew)); exact HO_0.out) hg hat); have n1_ := ak (Kd.V_afterv (ok := (fun k_ => ((P0_ k_ ∨ P1_0_ k_) ∨ w.heap.size ≤ k_) ∧ k_ ≠ gb168)) (by (with_reducible repeat (first | apply Kd.V_alloc | apply Kd.V_drewN | apply Kd.V_drew)); exact HO_169000.out) hg hat); have n2_ := ak (blk_grown (bk BK168) hg (Kd.N_away HO181.out (fun _ hk => hk.2))); have n3_ := ak (Kd.V_afterv (ok := (fun k_ => ((P0_ k_ ∨ P1_0_ k_) ∨ w.heap.size ≤ k_) ∧ k_ ≠ gb168)) (by (with_reducible repeat (first | apply Kd.V_alloc | apply Kd.V_drewN | apply Kd.V_drew)); exact HL169_0.out) hg hat); have n4_ := ak (Kd.V_afterv (ok := (fun k_ => ((P0_ k_ ∨ P1_0_ k_) ∨ w.heap.size ≤ k_) ∧ k_ ≠ gb168)) (by (with_reducible repeat (first | apply Kd.V_alloc | apply Kd.V_drewN | apply Kd.V_drew)); exact HO178.out) hg hat); have n5_ := ak (hb); have n6_ := ak (ho); clear HO_0; clear HO_169000; clear BK168; clear HL169_0; clear HO178; clear HB; clear HO181; have HO_0 := n0_; have HO_169000 := n1_; have BK168 := n2_; have HL169_0 := n3_; have HO178 := n4_; have HB := n5_; have HO184 := n6_; clear n0_ n1_ n2_ n3_ n4_ n5_ n6_; clear ho hb hg hat; have q39 : (x7_1 : Int) ≤ ((l0.length : Int) : Int) := oT (by first | (with_reducible assumption) | assumption); obtain ⟨i039, hi039, _, hsz39, _⟩ := info_parts info103; have hroom39 : l0.length ≤ c0 := (Kd.V_reads' HO_0.out).2.1; have hC39 : Kd.F k103 _ _ (some ad169) l0.length l0 := (Kd.V_at (base := w.heap.size) HO_0.out).2.2; have q039 : (0 : Int) ≤ (x7_1 : Int) := oT (by first | (with_reducible assumption) | assumption); have hcut39 := cut_from (P := Try.prog) 100 103 .i64 Try.underlying100 hi039 2 hsz39 (some ad169) l0.length c0 x7_1 q039 q39; have hr39 := Kd.F_cut (m := (x7_1 : Int).toNat) (c := c0) hC39 (by omega) hroom39; obtain ⟨A39, hA39⟩ : ∃ A1, A1 = (if c0 = (x7_1 : Int).toNat then (some ad169) else ((some ad169) : Option Addr).map (·.add ((x7_1 : Int).toNat * 2))) := ⟨_, rfl⟩; obtain ⟨c39, hc39⟩ : ∃ c1, c1 = c0 - (x7_1 : Int).toNat := ⟨_, rfl⟩; have hy39 : y185.length = l0.length - (x7_1 : Int).toNat := (by rw [Ny185.out, List.length_drop] <;> omega); rw [show (l0).drop (x7_1 : Int).toNat = y185 from Ny185.out.symm] at hr39; replace hr39 : Kd.F k103 _ _ A39 y185.length y185 := (by rw [hA39]; exact hr39); rw [← hy39, ← hA39, ← hc39] at hcut39; have HO189 := ak (show Kd.V k103 103 _ w.heap.size _ (.slice A39 y185.length c39) y185 from Kd.V_mk (by rw [hy39, hc39]; exact Nat.sub_le_sub_right hroom39 _) hr39); have HC189 := ak (show y185.length ≤ c39 from by rw [hy39, hc39]; exact Nat.sub_le_sub_right hroom39 _); clear hr39 hC39 hroom39 hi039 hsz39 hc39; have KY39 := ak hy39; have KA39 := ak hA39; clear hy39 hA39; replace q39 := eq_true q39) | ((with_reducible refine gate_builtin (b := .append) (xs := #[.tmp 33, .tmp 36]) rfl ?_); at_builtin; refine Kd.N_append_rows k103 (w0 := w) w.heap.size rfl (.tmp 33) (.tmp 36) 100 103 (.agg #[(.slice none 0 0), (.int .i64 0)]) 32 rfl Try.underlying100 info103 rfl (by decide) (by omega) v183 y182 y185 _ _ _ (fun k_ => ((P0_ k_ ∨ P1_0_ k_) ∨ w.heap.size ≤ k_) ∧ k_ ≠ gb168) (fun k_ => ((fun k_ => ((P0_ k_ ∨ P1_0_ k_) ∨ w.heap.size ≤ k_) ∧ k_ ≠ gb168)) k_ ∧ some k_ ≠ (v183 : Value).ownBlock) rfl rfl ?aO ?aR (fun _ hk => hk) ?aF ?aB ?aS ?aL ?_; (case aR => exact (by skip; exact Kd.V_F (Kd.V_mono (ok' := (fun k_ => ((fun k_ => ((P0_ k_ ∨ P1_0_ k_) ∨ w.heap.size ≤ k_) ∧ k_ ≠ gb168)) k_ ∧ some k_ ≠ (v183 : Value).ownBlock)) (HO189.out) (fun k_ hk => ⟨⟨hk.1.1, hk.1.2⟩, hk.2⟩)))); (case aB => exact (bl1 HB GE168)); (case aF => exact (fun k_ hk => ⟨(.inr (Nat.le_trans (below_size (bl1 HB GE168)) hk)), Kd.freshB (bk BK168) k_ hk⟩)); (case aO => exact (by (with_reducible repeat (first | apply Kd.N_alloc | apply Kd.N_drewN | apply Kd.N_drew)); exact HO184.out)); (case aS => exact (below_size (bl1 HB GE168))); (case aL => have := LMc15.out; omega); intro v191 w40 ho hb hg hat; rw [← Ny190.out] at ho; have n0_ := ak (Kd.V_afterv (ok := (fun k_ => ((P0_ k_ ∨ P1_0_ k_) ∨ w.heap.size ≤ k_) ∧ k_ ≠ gb168)) (by (with_reducible repeat (first | apply Kd.V_alloc | apply Kd.V_drewN | apply Kd.V_drew)); exact HO_0.out) hg hat); have n1_ := ak (Kd.V_afterv (ok := (fun k_ => ((P0_ k_ ∨ P1_0_ k_) ∨ w.heap.size ≤ k_) ∧ k_ ≠ gb168)) (by (with_reducible repeat (first | apply Kd.V_alloc | apply Kd.V_drewN | apply Kd.V_drew)); exact HO_169000.out) hg hat); have n2_ := ak (blk_grown (bk BK168) hg (Kd.N_away HO184.out (fun _ hk => hk.2))); have n3_ := ak (Kd.V_afterv (ok := (fun k_ => ((P0_ k_ ∨ P1_0_ k_) ∨ w.heap.size ≤ k_) ∧ k_ ≠ gb168)) (by (with_reducible repeat (first | apply Kd.V_alloc | apply Kd.V_drewN | apply Kd.V_drew)); exact HL169_0.out) hg hat); have n4_ := ak (Kd.V_afterv (ok := (fun k_ => ((P0_ k_ ∨ P1_0_ k_) ∨ w.heap.size ≤ k_) ∧ k_ ≠ gb168)) (by (with_reducible repeat (first | apply Kd.V_alloc | apply Kd.V_drewN | apply Kd.V_drew)); exact HO178.out) hg hat); have n5_ := ak (Kd.V_afterv (ok := (fun k_ => ((P0_ k_ ∨ P1_0_ k_) ∨ w.heap.size ≤ k_) ∧ k_ ≠ gb168)) (by (with_reducible repeat (first | apply Kd.V_alloc | apply Kd.V_drewN | apply Kd.V_drew)); exact HO189.out) hg hat); have n6_ := ak (hb); have n7_ := ak (ho); clear HO_0; clear HO_169000; clear BK168; clear HL169_0; clear HO178; clear HO189; clear HB; clear HO184; have HO_0 := n0_; have HO_169000 := n1_; have BK168 := n2_; have HL169_0 := n3_; have HO178 := n4_; have HO189 := n5_; have HB := n6_; have HO192 := n7_; clear n0_ n1_ n2_ n3_ n4_ n5_ n6_ n7_; clear ho hb hg hat; obtain ⟨Ao41, co41, eo41⟩ := Kd.N_slice HO192.out; subst eo41))
   go_ret
   exact ⟨_, by first | rfl | (simp [errW_none, errW_some] <;> rfl) | (simp [*, errW_none, errW_some] <;> rfl), by (with_reducible repeat (first | apply Kd.N_alloc | apply Kd.N_drewN | apply Kd.N_drew)); exact Kd.N_mono HO192.out (fun _ hk => hk.1), bl1 HB GE168⟩
  rw [if_pos c16] at H
  have c16b0 : decide (a2 < (y190.length : Int)) = true := decide_eq_true c16
  clear c16
  by_cases c17 : 0 ≤ a2
  rotate_left
  ·rw [if_neg c17] at H
   exact absurd H (by simp)
  rw [if_pos c17] at H
  have c17b0 := eq_true c17
  have c17b1 : decide (0 ≤ a2) = true := decide_eq_true c17
  clear c17
  by_cases c18 : a2 ≤ (y190.length : Int)
  rotate_left
  ·rw [if_neg c18] at H
   exact absurd H (by simp)
  rw [if_pos c18] at H
  have c18b0 := eq_true c18
  have c18b1 : decide (a2 ≤ (y190.length : Int)) = true := decide_eq_true c18
  clear c18
  obtain ⟨y193, hy193⟩ : ∃ y_ : List (S103), y_ = (y190.take (a2 : Int).toNat) := ⟨_, rfl⟩
  replace H : (some y193) = some r := by first | (rw [hy193]; with_reducible exact H) | (have H2_ := (Option.bind_some _ _).symm.trans H; rw [hy193]; with_reducible exact H2_) | (have H2_ := (Option.bind_some _ _).symm.trans H; with_reducible exact H2_) | with_reducible exact H | (rw [hy193]; exact H) | exact H
  have Ny193 := ak hy193
  clear hy193
  obtain rfl := Option.some.inj H
  try go_wp2
  replace HO_0 := ak (Kd.V_drew HO_0.out)
  replace HO_169000 := ak (Kd.V_drew HO_169000.out)
  replace BK168 := ak (blk_drew BK168.out)
  replace HB := ak (below_drew1 HB.out)
  have p169 : 0 ≤ (x7_1 : Int) := oT (by first | (with_reducible assumption) | assumption)
  have q169 : x7_1 < (l0.length : Int) := oT (by first | (with_reducible assumption) | assumption)
  obtain ⟨ad169, A169_0, c169_0, e169, hx169_0, hx169_1, hl169_0, hi169_0⟩ := at_T103 (Kd.V_reads' HO_0.out).2.2 x7_1 p169 q169
  cases e169
  obtain ⟨ce169, hce169, hMe169, hcc169⟩ := Kd.V_get HO_0.out z103 x7_1 p169 (by first | exact q169 | exact oT (by first | (with_reducible assumption) | assumption) | (have e_ := (Kd.V_reads' HO_0.out).1; omega))
  obtain ⟨ua169_0, uc169_0, rfl, ul169_0, ge169_0⟩ := k103_openF hMe169
  have hv169_0 := hcc169 0 _ rfl
  rw [Nat.add_zero] at hv169_0
  replace hv169_0 := Option.some.inj (hv169_0.symm.trans hx169_0)
  injection hv169_0 with hva_ hvn_ hvc_
  rw [hva_] at ge169_0
  rw [hvc_] at ul169_0
  have HL169_0 := ak (show Kd.V (Kd.int .i64) 3 _ w.heap.size _ _ ((rd_T103 l0 x7_1).f0) from Kd.V_mk ul169_0 ge169_0)
  clear hva_ hvn_ hvc_ ge169_0 ul169_0
  clear hcc169 hce169
  have HR169_0 := ak hi169_0
  have HC169_0 := ak hl169_0
  clear hi169_0 hl169_0
  replace p169 := eq_true p169
  replace q169 := eq_true q169
  refine start_ (n := 13) (S := fun w' => w'.cell? ⟨gb168, 0, none⟩ = some (.slice A1_0 l1_0.length c1_0) ∧ w'.cell? ⟨gb168, 1, none⟩ = some (.int .i64 a1_1) ∧ w'.cell? (ad169.add ((x7_1).toNat * 2)) = some (.slice A169_0 ((rd_T103 l0 x7_1).f0).length c169_0) ∧ w'.cell? ⟨(ad169.add ((x7_1).toNat * 2)).block, (ad169.add ((x7_1).toNat * 2)).off + 1, none⟩ = some (.int .i64 ((rd_T103 l0 x7_1).f1))) (ds := []) (ms 13 0) (by kernel_rfl) rfl (by kernel_rfl) ⟨(blk_cell BK168.out 0).trans rfl, (blk_cell BK168.out 1).trans rfl, hx169_0, hx169_1⟩ (fun hHeld => ?_); refine with_tabW spec_l14Put.tab2 spec_l14Put.bits2 (fun HT_ HW_ => ?_)
  generalize wr.drew = w19 at HO_0 HO_169000 BK168 HB HL169_0 HR169_0 hx169_0 hx169_1 hHeld ⊢
  refine pu 0 9 ?_ (ms 13 1) rfl rfl HT_ (by kernel_rfl) (fun _ _ _ h => h) (by rfl) ?_ ?_ ?_ ?_
  rotate_left
  ·intro w'
   go_simp
   with_reducible rfl
  rotate_left
  ·simp only [SX]
   rfl
  refine pu 1 10 ?_ (ms 13 3) rfl rfl HT_ (by kernel_rfl) (fun _ _ _ h => h) (by rfl) ?_ ?_ ?_ ?_
  rotate_left
  ·intro w'
   go_simp
   with_reducible rfl
  rotate_left
  ·simp only [SX]
   rfl
  refine pu 2 11 ?_ (ms 13 7) rfl rfl HT_ (by kernel_rfl) (fun _ _ _ h => h) (by rfl) ?_ ?_ ?_ ?_
  rotate_left
  ·intro w'
   go_simp
   with_reducible rfl
  rotate_left
  ·simp only [SX]
   rfl
  refine pu 3 12 ?_ (ms 13 15) rfl rfl HT_ (by kernel_rfl) (fun _ _ _ h => h) (by rfl) ?_ ?_ ?_ ?_
  rotate_left
  ·intro w'
   go_simp
   with_reducible rfl
  rotate_left
  ·simp only [SX]
   rfl
  refine pu 4 13 ?_ (ms 13 31) rfl rfl HT_ (by kernel_rfl) (fun _ _ _ h => h) (by rfl) ?_ ?_ ?_ ?_
  rotate_left
  ·intro w'
   go_simp
   with_reducible rfl
  rotate_left
  ·simp only [SX]
   rfl
  refine pu 6 15 ?_ (ms 13 95) rfl rfl HT_ (by kernel_rfl) (fun _ _ _ h => h) (by rfl) ?_ ?_ ?_ ?_
  rotate_left
  ·intro w'
   go_simp
   with_reducible rfl
  rotate_left
  ·simp only [SX]
   rfl
  refine pu 7 16 ?_ (ms 13 223) rfl rfl HT_ (by kernel_rfl) (fun _ _ _ h => h) (by rfl) ?_ ?_ ?_ ?_
  rotate_left
  ·intro w'
   go_simp
   with_reducible rfl
  rotate_left
  ·simp only [SX]
   rfl
  refine pu 8 17 ?_ (ms 13 479) rfl rfl HT_ (by kernel_rfl) (fun _ _ _ h => h) (by rfl) ?_ ?_ ?_ ?_
  rotate_left
  ·intro w'
   go_simp
   with_reducible rfl
  rotate_left
  ·simp only [SX]
   rfl
  refine tk 5 14 ?_ (ms 13 511) rfl rfl HT_ HW_ (by kernel_rfl) (fun _ _ _ h => h) (by rfl) ?_ hHeld ?_ ?_ ?_
  rotate_left
  ·rintro w' ⟨s0, s1, s2, s3⟩
   go_simp
   with_reducible rfl
  rotate_left
  ·simp only [SX]
   rfl
  refine tk 9 18 ?_ (ms 13 1023) rfl rfl HT_ HW_ (by kernel_rfl) (fun _ _ _ h => h) (by rfl) ?_ hHeld ?_ ?_ ?_
  rotate_left
  ·rintro w' ⟨s0, s1, s2, s3⟩
   go_simp
   with_reducible rfl
  rotate_left
  ·simp only [SX]
   rfl
  refine one_ (i := 10) (N := some 19) (ms 13 2047) rfl rfl (one_of HT_.out (by kernel_rfl)) (by decide) (fun K hK => ?_)
  refine goes_ Try.func127 (by kernel_rfl) rfl #[.agg #[.slice A1_0 l1_0.length c1_0, .int .i64 a1_1], .agg #[.slice A169_0 ((rd_T103 l0 x7_1).f0).length c169_0, .int .i64 ((rd_T103 l0 x7_1).f1)]] (by rfl) rfl rfl (by (try simp only [List.map_toArray, List.map_cons, List.map_nil]); first | done | rfl | (simp only [List.length_drop, List.length_take]; rfl)) ?_
  with_reducible refine (spec_l14Less.calls k1 _ _ l1_0 a1_1 _ _ ((rd_T103 l0 x7_1).f0) ((rd_T103 l0 x7_1).f1) true _ ?side1 ?side2 ?side3 ?side4 A7.out).mono ?_
  (case side1 => repeat (first | exact (Kd.V_reads' HO_169000.out).2.2 | (with_reducible refine Kd.C_alloc ?_ _) | (with_reducible refine Kd.C_drewN ?_ _) | (with_reducible refine Kd.C_drew ?_)))
  (case side2 => exact (Kd.V_reads' HO_169000.out).2.1)
  (case side3 => repeat (first | exact (by repeat (first | (with_reducible exact HR169_0.out) | (with_reducible refine Kd.C_alloc ?_ _) | (with_reducible refine Kd.C_drewN ?_ _) | (with_reducible refine Kd.C_drew ?_) | exact HR169_0.out)) | (with_reducible refine Kd.C_alloc ?_ _) | (with_reducible refine Kd.C_drewN ?_ _) | (with_reducible refine Kd.C_drew ?_)))
  (case side4 => exact HC169_0.out)
  rintro e w20 ⟨rfl, hb⟩
  have HS2_ := (hb.cell (World.block_lt_of_cell? _ _ (hHeld.2.2.1))).trans (hHeld.2.2.1)
  have HS3_ := (hb.cell (World.block_lt_of_cell? _ _ (hHeld.2.2.2))).trans (hHeld.2.2.2)
  refine ⟨_, rfl, ?_⟩
  replace HO_0 := ak (Kd.V_below (by (with_reducible repeat (first | apply Kd.V_alloc | apply Kd.V_drewN | apply Kd.V_drew)); exact HO_0.out) hb)
  replace HO_169000 := ak (Kd.V_below (by (with_reducible repeat (first | apply Kd.V_alloc | apply Kd.V_drewN | apply Kd.V_drew)); exact HO_169000.out) hb)
  replace HL169_0 := ak (Kd.V_below (by (with_reducible repeat (first | apply Kd.V_alloc | apply Kd.V_drewN | apply Kd.V_drew)); exact HL169_0.out) hb)
  replace BK168 := ak (blk_below (bk BK168) hb)
  replace HR169_0 := ak (Kd.C_below (by repeat (first | (with_reducible exact HR169_0.out) | (with_reducible refine Kd.C_alloc ?_ _) | (with_reducible refine Kd.C_drewN ?_ _) | (with_reducible refine Kd.C_drew ?_) | exact HR169_0.out)) hb)
  replace HB := ak (below_step (bl1 HB GE168) hb)
  (try clear hb)
  (try clear hb2)
  (try clear hk)
  (try clear hi)
  refine hK.out _ _ ⟨(blk_cell BK168.out 0).trans rfl, (blk_cell BK168.out 1).trans rfl, HS2_, HS3_⟩ (fun hHeld => ?_)
  clear hK K
  refine norm_ (a' := ?_) ?_ ?_
  rotate_left
  ·show Act.put _ (some 19) _ = _
   simp only [SX]
   rfl
  refine pu 11 20 ?_ (ms 13 4095) rfl rfl HT_ (by kernel_rfl) (fun _ _ _ h => h) (by rfl) ?_ ?_ ?_ ?_
  rotate_left
  ·intro w'
   go_simp
   with_reducible rfl
  rotate_left
  ·simp only [SX]
   rfl
  refine pu 12 21 ?_ (ms 13 8191) rfl rfl HT_ (by kernel_rfl) (fun _ _ _ h => h) (by rfl) ?_ ?_ ?_ ?_
  rotate_left
  ·intro w'
   go_simp
   with_reducible rfl
  rotate_left
  ·simp only [SX]
   rfl
  refine done_ (done_of HT_.out (by kernel_rfl)) ?_
  try go_wp2_with (first | ((with_reducible refine gate_dst (N := 24) rfl ?_); refine Kd.N_lit k103 _ 103 ?hg (N' := 24) ?hd (xs := ([] : List (S103))) (inner := []) (ok := (fun k_ => ((P0_ k_ ∨ P1_0_ k_) ∨ w.heap.size ≤ k_) ∧ k_ ≠ gb168)) (okp := (fun k_ => ((P0_ k_ ∨ P1_0_ k_) ∨ w.heap.size ≤ k_) ∧ k_ ≠ gb168)) ?hr ?hp (fun _ hk => hk) ((show ∀ k_, w20.heap.size ≤ k_ → (fun k_ => ((P0_ k_ ∨ P1_0_ k_) ∨ w.heap.size ≤ k_) ∧ k_ ≠ gb168) k_ from fun k_ hk => ⟨(.inr (Nat.le_trans (below_size (bl1 HB GE168)) hk)), Kd.freshB (bk BK168) k_ hk⟩) _ (Nat.le_refl _)) (Below.refl _ _) (Nat.le_refl _) (by simp) ?_; (case hd => rfl); (case hg => rfl); (case hr => first | (go_simp; done) | (go_simp; rfl)); (case hp => exact (Reps.none _ _)); intro v172 w21 ho22 hb hg_ hnew_; clear hg_ hnew_; (first | rw [← Ny171.out] at ho22 | (simp only [Int.reduceToNat] at ho22; rw [← Ny171.out] at ho22)); replace HO_0 := ak (Kd.V_elder' (by (with_reducible repeat (first | apply Kd.V_alloc | apply Kd.V_drewN | apply Kd.V_drew)); exact HO_0.out) (Kd.N_base ho22) hb); replace HO_169000 := ak (Kd.V_elder' (by (with_reducible repeat (first | apply Kd.V_alloc | apply Kd.V_drewN | apply Kd.V_drew)); exact HO_169000.out) (Kd.N_base ho22) hb); replace HL169_0 := ak (Kd.V_elder' (by (with_reducible repeat (first | apply Kd.V_alloc | apply Kd.V_drewN | apply Kd.V_drew)); exact HL169_0.out) (Kd.N_base ho22) hb); have HO173 := ak (Kd.N_lower ho22 (below_size (bl1 HB GE168))); replace BK168 := ak (blk_below (bk BK168) hb); replace HR169_0 := ak (Kd.C_below (by repeat (first | (with_reducible exact HR169_0.out) | (with_reducible refine Kd.C_alloc ?_ _) | (with_reducible refine Kd.C_drewN ?_ _) | (with_reducible refine Kd.C_drew ?_) | exact HR169_0.out)) hb); replace HB := ak (below_step (bl1 HB GE168) hb); clear hb ho22; have q23 : (x7_1 : Int) ≤ ((l0.length : Int) : Int) := oT (by first | (with_reducible assumption) | assumption); obtain ⟨i023, hi023, _, hsz23, _⟩ := info_parts info103; have hroom23 : l0.length ≤ c0 := (Kd.V_reads' HO_0.out).2.1; have hC23 : Kd.F k103 _ _ (some ad169) l0.length l0 := (Kd.V_at (base := w.heap.size) HO_0.out).2.2; have hcut23 := cut_to (P := Try.prog) 100 103 .i64 Try.underlying100 hi023 (some ad169) l0.length c0 x7_1 (oT (by first | (with_reducible assumption) | assumption)) q23 hroom23; have hr23 := Kd.F_take (m := (x7_1 : Int).toNat) hC23 (by omega); have hy23 : y174.length = (x7_1 : Int).toNat := (by rw [Ny174.out, List.length_take]; omega); rw [← Ny174.out] at hr23; rw [← hy23] at hcut23; have HO178 := ak (show Kd.V k103 103 _ w.heap.size _ (.slice (some ad169) y174.length c0) y174 from Kd.V_mk (by omega) hr23); have HC178 := ak (show y174.length ≤ c0 from by omega); clear hr23 hC23 hroom23 hi023 hsz23; have KY23 := ak hy23; clear hy23; replace q23 := eq_true q23) | ((with_reducible refine gate_builtin (b := .append) (xs := #[.tmp 24, .tmp 27]) rfl ?_); at_builtin; refine Kd.N_append_rows k103 (w0 := w) w.heap.size rfl (.tmp 24) (.tmp 27) 100 103 (.agg #[(.slice none 0 0), (.int .i64 0)]) 32 rfl Try.underlying100 info103 rfl (by decide) (by omega) v172 y171 y174 _ _ _ (fun k_ => ((P0_ k_ ∨ P1_0_ k_) ∨ w.heap.size ≤ k_) ∧ k_ ≠ gb168) (fun k_ => ((fun k_ => ((P0_ k_ ∨ P1_0_ k_) ∨ w.heap.size ≤ k_) ∧ k_ ≠ gb168)) k_ ∧ some k_ ≠ (v172 : Value).ownBlock) rfl rfl ?aO ?aR (fun _ hk => hk) ?aF ?aB ?aS ?aL ?_; (case aR => exact (by skip; exact Kd.V_F (Kd.V_mono (ok' := (fun k_ => ((fun k_ => ((P0_ k_ ∨ P1_0_ k_) ∨ w.heap.size ≤ k_) ∧ k_ ≠ gb168)) k_ ∧ some k_ ≠ (v172 : Value).ownBlock)) (HO178.out) (fun k_ hk => ⟨⟨hk.1.1, hk.1.2⟩, hk.2⟩)))); (case aB => exact (bl1 HB GE168)); (case aF => exact (fun k_ hk => ⟨(.inr (Nat.le_trans (below_size (bl1 HB GE168)) hk)), Kd.freshB (bk BK168) k_ hk⟩)); (case aO => exact (by (with_reducible repeat (first | apply Kd.N_alloc | apply Kd.N_drewN | apply Kd.N_drew)); exact HO173.out)); (case aS => exact (below_size (bl1 HB GE168))); (case aL => have := LMc11.out; omega); intro v180 w24 ho hb hg hat; rw [← Ny179.out] at ho; have n0_ := ak (Kd.V_afterv (ok := (fun k_ => ((P0_ k_ ∨ P1_0_ k_) ∨ w.heap.size ≤ k_) ∧ k_ ≠ gb168)) (by (with_reducible repeat (first | apply Kd.V_alloc | apply Kd.V_drewN | apply Kd.V_drew)); exact HO_0.out) hg hat); have n1_ := ak (Kd.V_afterv (ok := (fun k_ => ((P0_ k_ ∨ P1_0_ k_) ∨ w.heap.size ≤ k_) ∧ k_ ≠ gb168)) (by (with_reducible repeat (first | apply Kd.V_alloc | apply Kd.V_drewN | apply Kd.V_drew)); exact HO_169000.out) hg hat); have n2_ := ak (blk_grown (bk BK168) hg (Kd.N_away HO173.out (fun _ hk => hk.2))); have n3_ := ak (Kd.V_afterv (ok := (fun k_ => ((P0_ k_ ∨ P1_0_ k_) ∨ w.heap.size ≤ k_) ∧ k_ ≠ gb168)) (by (with_reducible repeat (first | apply Kd.V_alloc | apply Kd.V_drewN | apply Kd.V_drew)); exact HL169_0.out) hg hat); have n4_ := ak (Kd.V_afterv (ok := (fun k_ => ((P0_ k_ ∨ P1_0_ k_) ∨ w.heap.size ≤ k_) ∧ k_ ≠ gb168)) (by (with_reducible repeat (first | apply Kd.V_alloc | apply Kd.V_drewN | apply Kd.V_drew)); exact HO178.out) hg hat); have n5_ := ak (hb); have n6_ := ak (ho); clear HO_0; clear HO_169000; clear BK168; clear HL169_0; clear HO178; clear HB; clear HO173; have HO_0 := n0_; have HO_169000 := n1_; have BK168 := n2_; have HL169_0 := n3_; have HO178 := n4_; have HB := n5_; have HO181 := n6_; clear n0_ n1_ n2_ n3_ n4_ n5_ n6_; clear ho hb hg hat; have hcz25_0 := bc w24 BK168 0 (.slice A1_0 l1_0.length c1_0) rfl; have hcz25_1 := bc w24 BK168 1 (.int .i64 a1_1) rfl; have hfz25_0 := fz BK168 0; have hfz25_1 := fz BK168 1) | ((with_reducible refine gate_builtin (b := .append) (xs := #[.tmp 29, .tmp 31]) rfl ?_); at_builtin; refine Kd.N_append k103 (w0 := w) w.heap.size rfl (.tmp 29) (.tmp 31) 100 103 (.agg #[(.slice none 0 0), (.int .i64 0)]) 32 rfl Try.underlying100 info103 rfl (by decide) (by omega) v180 y179 (⟨l1_0, a1_1⟩ : S103) [.slice A1_0 l1_0.length c1_0, .int .i64 a1_1] (fun k_ => ((P0_ k_ ∨ P1_0_ k_) ∨ w.heap.size ≤ k_) ∧ k_ ≠ gb168) (fun k_ => ((fun k_ => ((P0_ k_ ∨ P1_0_ k_) ∨ w.heap.size ≤ k_) ∧ k_ ≠ gb168)) k_ ∧ some k_ ≠ (v180 : Value).ownBlock) rfl rfl ?aP (fun _ hk => hk) ?aF ?aO ?aB ?aS ?aL ?_; (case aP => exact (k103_mkF _ _ (⟨l1_0, a1_1⟩ : S103) (Kd.V_reads' (Kd.V_mono (ok' := (fun k_ => ((fun k_ => ((P0_ k_ ∨ P1_0_ k_) ∨ w.heap.size ≤ k_) ∧ k_ ≠ gb168)) k_ ∧ some k_ ≠ (v180 : Value).ownBlock)) (HO_169000.out) (fun k_ hk => ⟨⟨hk.1.1, hk.1.2⟩, hk.2⟩))).2.1 (Kd.V_F (Kd.V_mono (ok' := (fun k_ => ((fun k_ => ((P0_ k_ ∨ P1_0_ k_) ∨ w.heap.size ≤ k_) ∧ k_ ≠ gb168)) k_ ∧ some k_ ≠ (v180 : Value).ownBlock)) (HO_169000.out) (fun k_ hk => ⟨⟨hk.1.1, hk.1.2⟩, hk.2⟩))))); (case aB => exact (bl1 HB GE168)); (case aF => exact (fun k_ hk => ⟨(.inr (Nat.le_trans (below_size (bl1 HB GE168)) hk)), Kd.freshB (bk BK168) k_ hk⟩)); (case aO => exact (by (with_reducible repeat (first | apply Kd.N_alloc | apply Kd.N_drewN | apply Kd.N_drew)); exact HO181.out)); (case aS => exact (below_size (bl1 HB GE168))); (case aL => have := LMc12.out; omega); intro v183 w26 ho hb hg hat; rw [← Ny182.out] at ho; have n0_ := ak (Kd.V_afterv (ok := (fun k_ => ((P0_ k_ ∨ P1_0_ k_) ∨ w.heap.size ≤ k_) ∧ k_ ≠ gb168)) (by (with_reducible repeat (first | apply Kd.V_alloc | apply Kd.V_drewN | apply Kd.V_drew)); exact HO_0.out) hg hat); have n1_ := ak (Kd.V_afterv (ok := (fun k_ => ((P0_ k_ ∨ P1_0_ k_) ∨ w.heap.size ≤ k_) ∧ k_ ≠ gb168)) (by (with_reducible repeat (first | apply Kd.V_alloc | apply Kd.V_drewN | apply Kd.V_drew)); exact HO_169000.out) hg hat); have n2_ := ak (blk_grown (bk BK168) hg (Kd.N_away HO181.out (fun _ hk => hk.2))); have n3_ := ak (Kd.V_afterv (ok := (fun k_ => ((P0_ k_ ∨ P1_0_ k_) ∨ w.heap.size ≤ k_) ∧ k_ ≠ gb168)) (by (with_reducible repeat (first | apply Kd.V_alloc | apply Kd.V_drewN | apply Kd.V_drew)); exact HL169_0.out) hg hat); have n4_ := ak (Kd.V_afterv (ok := (fun k_ => ((P0_ k_ ∨ P1_0_ k_) ∨ w.heap.size ≤ k_) ∧ k_ ≠ gb168)) (by (with_reducible repeat (first | apply Kd.V_alloc | apply Kd.V_drewN | apply Kd.V_drew)); exact HO178.out) hg hat); have n5_ := ak (hb); have n6_ := ak (ho); clear HO_0; clear HO_169000; clear BK168; clear HL169_0; clear HO178; clear HB; clear HO181; have HO_0 := n0_; have HO_169000 := n1_; have BK168 := n2_; have HL169_0 := n3_; have HO178 := n4_; have HB := n5_; have HO184 := n6_; clear n0_ n1_ n2_ n3_ n4_ n5_ n6_; clear ho hb hg hat; have q27 : (x7_1 : Int) ≤ ((l0.length : Int) : Int) := oT (by first | (with_reducible assumption) | assumption); obtain ⟨i027, hi027, _, hsz27, _⟩ := info_parts info103; have hroom27 : l0.length ≤ c0 := (Kd.V_reads' HO_0.out).2.1; have hC27 : Kd.F k103 _ _ (some ad169) l0.length l0 := (Kd.V_at (base := w.heap.size) HO_0.out).2.2; have q027 : (0 : Int) ≤ (x7_1 : Int) := oT (by first | (with_reducible assumption) | assumption); have hcut27 := cut_from (P := Try.prog) 100 103 .i64 Try.underlying100 hi027 2 hsz27 (some ad169) l0.length c0 x7_1 q027 q27; have hr27 := Kd.F_cut (m := (x7_1 : Int).toNat) (c := c0) hC27 (by omega) hroom27; obtain ⟨A27, hA27⟩ : ∃ A1, A1 = (if c0 = (x7_1 : Int).toNat then (some ad169) else ((some ad169) : Option Addr).map (·.add ((x7_1 : Int).toNat * 2))) := ⟨_, rfl⟩; obtain ⟨c27, hc27⟩ : ∃ c1, c1 = c0 - (x7_1 : Int).toNat := ⟨_, rfl⟩; have hy27 : y185.length = l0.length - (x7_1 : Int).toNat := (by rw [Ny185.out, List.length_drop] <;> omega); rw [show (l0).drop (x7_1 : Int).toNat = y185 from Ny185.out.symm] at hr27; replace hr27 : Kd.F k103 _ _ A27 y185.length y185 := (by rw [hA27]; exact hr27); rw [← hy27, ← hA27, ← hc27] at hcut27; have HO189 := ak (show Kd.V k103 103 _ w.heap.size _ (.slice A27 y185.length c27) y185 from Kd.V_mk (by rw [hy27, hc27]; exact Nat.sub_le_sub_right hroom27 _) hr27); have HC189 := ak (show y185.length ≤ c27 from by rw [hy27, hc27]; exact Nat.sub_le_sub_right hroom27 _); clear hr27 hC27 hroom27 hi027 hsz27 hc27; have KY27 := ak hy27; have KA27 := ak hA27; clear hy27 hA27; replace q27 := eq_true q27) | ((with_reducible refine gate_builtin (b := .append) (xs := #[.tmp 33, .tmp 36]) rfl ?_); at_builtin; refine Kd.N_append_rows k103 (w0 := w) w.heap.size rfl (.tmp 33) (.tmp 36) 100 103 (.agg #[(.slice none 0 0), (.int .i64 0)]) 32 rfl Try.underlying100 info103 rfl (by decide) (by omega) v183 y182 y185 _ _ _ (fun k_ => ((P0_ k_ ∨ P1_0_ k_) ∨ w.heap.size ≤ k_) ∧ k_ ≠ gb168) (fun k_ => ((fun k_ => ((P0_ k_ ∨ P1_0_ k_) ∨ w.heap.size ≤ k_) ∧ k_ ≠ gb168)) k_ ∧ some k_ ≠ (v183 : Value).ownBlock) rfl rfl ?aO ?aR (fun _ hk => hk) ?aF ?aB ?aS ?aL ?_; (case aR => exact (by skip; exact Kd.V_F (Kd.V_mono (ok' := (fun k_ => ((fun k_ => ((P0_ k_ ∨ P1_0_ k_) ∨ w.heap.size ≤ k_) ∧ k_ ≠ gb168)) k_ ∧ some k_ ≠ (v183 : Value).ownBlock)) (HO189.out) (fun k_ hk => ⟨⟨hk.1.1, hk.1.2⟩, hk.2⟩)))); (case aB => exact (bl1 HB GE168)); (case aF => exact (fun k_ hk => ⟨(.inr (Nat.le_trans (below_size (bl1 HB GE168)) hk)), Kd.freshB (bk BK168) k_ hk⟩)); (case aO => exact (by (with_reducible repeat (first | apply Kd.N_alloc | apply Kd.N_drewN | apply Kd.N_drew)); exact HO184.out)); (case aS => exact (below_size (bl1 HB GE168))); (case aL => have := LMc15.out; omega); intro v191 w28 ho hb hg hat; rw [← Ny190.out] at ho; have n0_ := ak (Kd.V_afterv (ok := (fun k_ => ((P0_ k_ ∨ P1_0_ k_) ∨ w.heap.size ≤ k_) ∧ k_ ≠ gb168)) (by (with_reducible repeat (first | apply Kd.V_alloc | apply Kd.V_drewN | apply Kd.V_drew)); exact HO_0.out) hg hat); have n1_ := ak (Kd.V_afterv (ok := (fun k_ => ((P0_ k_ ∨ P1_0_ k_) ∨ w.heap.size ≤ k_) ∧ k_ ≠ gb168)) (by (with_reducible repeat (first | apply Kd.V_alloc | apply Kd.V_drewN | apply Kd.V_drew)); exact HO_169000.out) hg hat); have n2_ := ak (blk_grown (bk BK168) hg (Kd.N_away HO184.out (fun _ hk => hk.2))); have n3_ := ak (Kd.V_afterv (ok := (fun k_ => ((P0_ k_ ∨ P1_0_ k_) ∨ w.heap.size ≤ k_) ∧ k_ ≠ gb168)) (by (with_reducible repeat (first | apply Kd.V_alloc | apply Kd.V_drewN | apply Kd.V_drew)); exact HL169_0.out) hg hat); have n4_ := ak (Kd.V_afterv (ok := (fun k_ => ((P0_ k_ ∨ P1_0_ k_) ∨ w.heap.size ≤ k_) ∧ k_ ≠ gb168)) (by (with_reducible repeat (first | apply Kd.V_alloc | apply Kd.V_drewN | apply Kd.V_drew)); exact HO178.out) hg hat); have n5_ := ak (Kd.V_afterv (ok := (fun k_ => ((P0_ k_ ∨ P1_0_ k_) ∨ w.heap.size ≤ k_) ∧ k_ ≠ gb168)) (by (with_reducible repeat (first | apply Kd.V_alloc | apply Kd.V_drewN | apply Kd.V_drew)); exact HO189.out) hg hat); have n6_ := ak (hb); have n7_ := ak (ho); clear HO_0; clear HO_169000; clear BK168; clear HL169_0; clear HO178; clear HO189; clear HB; clear HO184; have HO_0 := n0_; have HO_169000 := n1_; have BK168 := n2_; have HL169_0 := n3_; have HO178 := n4_; have HO189 := n5_; have HB := n6_; have HO192 := n7_; clear n0_ n1_ n2_ n3_ n4_ n5_ n6_ n7_; clear ho hb hg hat; obtain ⟨Ao29, co29, eo29⟩ := Kd.N_slice HO192.out; subst eo29; have q30 : (a2 : Int) ≤ ((y190.length : Int) : Int) := oT (by first | (with_reducible assumption) | assumption); obtain ⟨i030, hi030, _, hsz30, _⟩ := info_parts info103; have hcut30 := cut_to (P := Try.prog) 100 103 .i64 Try.underlying100 hi030 Ao29 y190.length co29 a2 (oT (by first | (with_reducible assumption) | assumption)) q30 (Kd.N_reads' HO192.out).2.1; have hr30 := Kd.N_take (m := (a2 : Int).toNat) HO192.out (by omega); have hy30 : y193.length = (a2 : Int).toNat := (by rw [Ny193.out, List.length_take]; omega); rw [← Ny193.out] at hr30; rw [← hy30] at hr30 hcut30; clear hy30 hi030 hsz30 HO192; have HO195 := ak hr30; clear hr30; replace q30 := eq_true q30))
  go_ret
  exact ⟨_, by first | rfl | (simp [errW_none, errW_some] <;> rfl) | (simp [*, errW_none, errW_some] <;> rfl), by (with_reducible repeat (first | apply Kd.N_alloc | apply Kd.N_drewN | apply Kd.N_drew)); exact Kd.N_mono HO195.out (fun _ hk => hk.1), bl1 HB GE168⟩

end Go.Proofs.Ytlgolgfcolnddaa.F
