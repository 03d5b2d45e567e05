-- Printed by wip/px/px.py of this claim's repository (the kit's printer, extended there). Lean checks it.
import Derived.Test.YtbcedkcjodokkaaFKinds
import Derived.Test.YtbcedkcjodokkaaFspecl30Open
import Derived.Test.YtbcedkcjodokkaaFspecl30Rdpick
import Derived.Test.YtbcedkcjodokkaaFspecl30Rdone
namespace Go.Proofs.Ytbcedkcjodokkaa.F
open Go.RowKit Go.Proofs.YtbcedkcjodokkaaW.PrintWords Go.Proofs.YtbcedkcjodokkaaW.PrintLast Go.Proofs.YtbcedkcjodokkaaW.PrintMore
attribute [local go_sem] max2_int min2_int max_two min_two max_three min_three max_four min_four   -- for this text's walks alone
set_option linter.unusedVariables false
set_option linter.unusedSimpArgs false

/-! ### spec_l30News: function 16 -/
def spec_l30News.f (k : Nat) (s0_0 : List Int) (s0_1 : Int) (a1_0 : Int) (l1_1 : List (S65)) : Option (Int × Int × Int × Int) := (spec_l30Rd_pick.f k s0_0 s0_1 6).bind fun bt183 => ((spec_l30Rd_pick.f k s0_0 bt183.2 (wrap64 ((l1_1.length : Int) + 1))).bind fun bt185 => ((spec_l30Rd_one.f k s0_0 bt185.2 (([(-1), 0, 3, 9, 99] : List Int))).bind fun bt190 => ((spec_l30Rd_pick.f k s0_0 bt190.2 14).bind fun bt193 => (if bt193.1 = 0 then ((spec_l30Rd_one.f k s0_0 bt193.2 (([0, 1000] : List Int))).bind fun bt198 => (some (bt198.1, bt185.1, bt190.1, bt198.2))) else (some (wrap64 (1 + bt183.1), bt185.1, bt190.1, bt193.2))))))
theorem spec_l30News.mono : ∀ a0 a1 a2 a3 k, LeO (spec_l30News.f k a0 a1 a2 a3) (spec_l30News.f (k + 1) a0 a1 a2 a3) := by
 intro a0 a1 a2 a3 k
 unfold spec_l30News.f
 repeat' first | (with_reducible exact spec_l30Rd_one.mono _ _ _ _) | (with_reducible exact spec_l30Rd_pick.mono _ _ _ _) | (with_reducible exact LeO.refl _) | (with_reducible refine LeO.ite ?_ ?_) | (with_reducible refine LeO.bind ?_ (fun _ => ?_))
def spec_l30News.T1 : Bool × List (List Nat × List Nat) := (true, [([], []), ([0], [0]), ([1], [1]), ([], []), ([], []), ([4], [4]), ([5], [5]), ([6], [6]), ([3, 7, 1], [3, 7]), ([], []), ([], []), ([9, 10, 8], [9, 10]), ([2, 8, 11], [2, 8, 11]), ([], []), ([13, 12, 11, 0, 1, 2, 3, 4, 5, 6, 7, 8, 9, 10, 11, 12, 13], [12, 13])])
def spec_l30News.B1 : List Nat := [0, 1, 3, 0, 0, 16, 48, 112, 251, 0, 0, 2043, 4095, 0, 16383]
theorem spec_l30News.tab1 : rtab .any (opsOf Try.f16 1) = spec_l30News.T1 := by kernel_rfl
theorem spec_l30News.bits1 : waitsOk spec_l30News.T1.2 spec_l30News.B1 = true := by kernel_rfl
set_option maxHeartbeats 8000000 in
set_option maxRecDepth 100000 in
theorem spec_l30News.calls (k : Nat) (g : Nat) (s0_0 : List Int) (s0_1 : Int) (a1_0 : Int) (A1_1 : Option Addr) (c1_1 : Nat) (l1_1 : List (S65)) (r1 : Int) (r2 : Int) (r3 : Int) (r4 : Int) (w0 w : World) (hI : IsS59 w0 w g s0_0 s0_1) (hB : Below w0.heap.size w0 w) (hr1_1 : ∀ W_, KeepBut w W_ g none → Kd.C k65 W_ A1_1 l1_1.length l1_1) (hc1_1 : l1_1.length ≤ c1_1) (h : spec_l30News.f k s0_0 s0_1 a1_0 l1_1 = some (r1, r2, r3, r4)) :
  Calls Try.prog 16 #[.pointer (some ⟨g, 0, none⟩), .agg #[.int .i64 a1_0, .slice A1_1 l1_1.length c1_1]] w fun e w' => e = .returned (.agg #[.int .i64 r1, .int .i64 r2, .int .i64 r3]) ∧ IsS59 w0 w' g s0_0 r4 ∧ Below w0.heap.size w0 w' ∧ KeepBut w w' g none := by
 have hu25 := Try.underlying25
 have hu30 := Try.underlying30
 have HR1_1 := ak hr1_1
 have HC1_1 := ak hc1_1
 clear hr1_1 hc1_1
 have HI0 := ak hI
 have HK := ak (KeepBut.refl w g none)
 have HL := ak hB.size
 clear hI
 have HW0 := ak hB.size
 have HB := ak hB
 clear hB
 have H : ((spec_l30Rd_pick.f k s0_0 s0_1 6).bind fun bt183 => ((spec_l30Rd_pick.f k s0_0 bt183.2 (wrap64 ((l1_1.length : Int) + 1))).bind fun bt185 => ((spec_l30Rd_one.f k s0_0 bt185.2 (([(-1), 0, 3, 9, 99] : List Int))).bind fun bt190 => ((spec_l30Rd_pick.f k s0_0 bt190.2 14).bind fun bt193 => (if bt193.1 = 0 then ((spec_l30Rd_one.f k s0_0 bt193.2 (([0, 1000] : List Int))).bind fun bt198 => (some (bt198.1, bt185.1, bt190.1, bt198.2))) else (some (wrap64 (1 + bt183.1), bt185.1, bt190.1, bt193.2))))))) = some (r1, r2, r3, r4) := h
 clear h
 replace H := Option.bind_eq_some_iff.mp H
 obtain ⟨⟨t183, t184⟩, A30, H⟩ := H
 have A3 := ak A30
 clear A30
 replace H := Option.bind_eq_some_iff.mp H
 obtain ⟨⟨t185, t186⟩, A40, H⟩ := H
 have A4 := ak A40
 clear A40
 obtain ⟨y187, hy187⟩ : ∃ y_ : List Int, y_ = (([(-1), 0, 3, 9, 99] : List Int)) := ⟨_, rfl⟩
 replace H : ((spec_l30Rd_one.f k s0_0 t186 y187).bind fun bt190 => ((spec_l30Rd_pick.f k s0_0 bt190.2 14).bind fun bt193 => (if bt193.1 = 0 then ((spec_l30Rd_one.f k s0_0 bt193.2 (([0, 1000] : List Int))).bind fun bt198 => (some (bt198.1, t185, bt190.1, bt198.2))) else (some (wrap64 (1 + t183), t185, bt190.1, bt193.2))))) = some (r1, r2, r3, r4) := by (rw [hy187]; with_reducible exact H)
 have Ny187 := ak hy187
 clear hy187
 replace H := Option.bind_eq_some_iff.mp H
 obtain ⟨⟨t190, t191⟩, A50, H⟩ := H
 have A5 := ak A50
 clear A50
 replace H := Option.bind_eq_some_iff.mp H
 obtain ⟨⟨t193, t194⟩, A60, H⟩ := H
 have A6 := ak A60
 clear A60
 go_enter Try.func16, Try.ntmps16
 try go_wp2_with (first | ((with_reducible refine gate_dst (N := 3) rfl ?_); refine box_event ?hg (N := 3) ?hd (cs := #[.int .i64 a1_0, .slice A1_1 l1_1.length c1_1]) (t := 25) ?hr ?_; (case hd => rfl); (case hg => rfl); (case hr => (go_simp; done)); intro gb181 hg w9 hbox hb; replace HB := ak (below_step (by repeat ((with_reducible exact HB.out))) hb); have BK181 := ak (hbox); have GW181 := ak ((by rw [hg]; exact (keep_size (w := w) (g := g) (row := none) (by repeat ((with_reducible exact HK.out)))) : w.heap.size ≤ gb181)); have GE181 := ak ((Nat.le_trans HW0.out (by rw [hg]; exact (keep_size (w := w) (g := g) (row := none) (by repeat ((with_reducible exact HK.out)))) : w.heap.size ≤ gb181) : w0.heap.size ≤ gb181)); replace HK := ak (KeepBut.trans (by repeat ((with_reducible exact HK.out))) (KeepBut.of_below hb g none) (.inl rfl)); have NB0_181 := ak ((by rw [hg]; exact Nat.ne_of_lt (IsS59.lt (show IsS59 w0 _ g s0_0 s0_1 from by repeat ((with_reducible exact HI0.out)))) : g ≠ gb181)); have NB181_0 := ak ((by rw [hg]; exact Nat.ne_of_gt (IsS59.lt (show IsS59 w0 _ g s0_0 s0_1 from by repeat ((with_reducible exact HI0.out)))) : gb181 ≠ g)); replace HI0 := ak (IsS59.below (by repeat ((with_reducible exact HI0.out))) hb); clear hb hbox hg) | ((with_reducible refine gate_dst (N := 4) rfl ?_); refine box_event ?hg (N := 4) ?hd (cs := #[.int .i64 0, .int .i64 0, .int .i64 0]) (t := 30) ?hr ?_; (case hd => rfl); (case hg => rfl); (case hr => (go_simp; done)); intro gb182 hg w10 hbox hb; replace HB := ak (below_step (by repeat ((with_reducible exact HB.out))) hb); have BK182 := ak (hbox); have GW182 := ak ((by rw [hg]; exact (keep_size (w := w) (g := g) (row := none) (by repeat ((with_reducible exact HK.out)))) : w.heap.size ≤ gb182)); have GE182 := ak ((Nat.le_trans HW0.out (by rw [hg]; exact (keep_size (w := w) (g := g) (row := none) (by repeat ((with_reducible exact HK.out)))) : w.heap.size ≤ gb182) : w0.heap.size ≤ gb182)); replace HK := ak (KeepBut.trans (by repeat ((with_reducible exact HK.out))) (KeepBut.of_below hb g none) (.inl rfl)); have NB181_182 := ak ((by rw [hg]; exact Nat.ne_of_lt (blk_lt (bk BK181)) : gb181 ≠ gb182)); have NB182_181 := ak ((by rw [hg]; exact Nat.ne_of_gt (blk_lt (bk BK181)) : gb182 ≠ gb181)); replace BK181 := ak (blk_below (bk BK181) hb); have NB0_182 := ak ((by rw [hg]; exact Nat.ne_of_lt (IsS59.lt (show IsS59 w0 _ g s0_0 s0_1 from by repeat ((with_reducible exact HI0.out)))) : g ≠ gb182)); have NB182_0 := ak ((by rw [hg]; exact Nat.ne_of_gt (IsS59.lt (show IsS59 w0 _ g s0_0 s0_1 from by repeat ((with_reducible exact HI0.out)))) : gb182 ≠ g)); replace HI0 := ak (IsS59.below (by repeat ((with_reducible exact HI0.out))) hb); clear hb hbox hg))
 replace BK181 := ak (blk_drew BK181.out)
 replace BK182 := ak (blk_drew BK182.out)
 replace HI0 := ak (IsS59.drew HI0.out)
 replace HK := ak (keep_drew HK.out)
 replace HB := ak (below_drew1 HB.out)
 refine start_ (n := 15) (S := fun w' => w'.cell? ⟨gb181, 0, none⟩ = some (.int .i64 a1_0) ∧ w'.cell? ⟨gb181, 1, none⟩ = some (.slice A1_1 l1_1.length c1_1)) (ds := []) (ms 15 0) (by kernel_rfl) rfl (by kernel_rfl) ⟨(blk_cell BK181.out 0).trans rfl, (blk_cell BK181.out 1).trans rfl⟩ (fun hHeld => ?_); refine with_tabW spec_l30News.tab1 spec_l30News.bits1 (fun HT_ HW_ => ?_)
 generalize w10.drew = w11 at BK181 BK182 HI0 HK HB hHeld ⊢
 refine pu 0 6 ?_ (ms 15 1) rfl rfl HT_ (by kernel_rfl) (fun _ _ _ h => h) (by rfl) ?_ ?_ ?_ ?_
 rotate_left
 ·intro w'
  go_simp
  with_reducible rfl
 rotate_left
 ·simp only [SX]
  rfl
 refine pu 3 9 ?_ (ms 15 9) rfl rfl HT_ (by kernel_rfl) (fun _ _ _ h => h) (by rfl) ?_ ?_ ?_ ?_
 rotate_left
 ·intro w'
  go_simp
  with_reducible rfl
 rotate_left
 ·simp only [SX]
  rfl
 refine pu 4 10 ?_ (ms 15 25) rfl rfl HT_ (by kernel_rfl) (fun _ _ _ h => h) (by rfl) ?_ ?_ ?_ ?_
 rotate_left
 ·intro w'
  go_simp
  with_reducible rfl
 rotate_left
 ·simp only [SX]
  rfl
 refine pu 9 15 ?_ (ms 15 537) rfl rfl HT_ (by kernel_rfl) (fun _ _ _ h => h) (by rfl) ?_ ?_ ?_ ?_
 rotate_left
 ·intro w'
  go_simp
  with_reducible rfl
 rotate_left
 ·simp only [SX]
  rfl
 refine tk 5 11 ?_ (ms 15 569) rfl rfl HT_ HW_ (by kernel_rfl) (fun _ _ _ h => h) (by rfl) ?_ hHeld ?_ ?_ ?_
 rotate_left
 ·rintro w' ⟨s0, s1⟩
  go_simp
  with_reducible rfl
 rotate_left
 ·simp only [SX]
  rfl
 refine pu 6 12 ?_ (ms 15 633) rfl rfl HT_ (by kernel_rfl) (fun _ _ _ h => h) (by rfl) ?_ ?_ ?_ ?_
 rotate_left
 ·intro w'
  go_simp
  with_reducible rfl
 rotate_left
 ·simp only [SX]
  rfl
 refine pu 7 13 ?_ (ms 15 761) rfl rfl HT_ (by kernel_rfl) (fun _ _ _ h => h) (by rfl) ?_ ?_ ?_ ?_
 rotate_left
 ·intro w'
  go_simp
  with_reducible rfl
 rotate_left
 ·simp only [SX]
  rfl
 refine join_ (σ := Value × Nat) 1 (ms 15 16383) (fun s_ => [(7, .int .i64 t183), (14, .int .i64 t185), (16, s_.1), (17, .int .i64 t190), (5, .pointer (some ⟨s_.2, 0, none⟩)), (8, .int .i64 (wrap64 (1 + t183))), (18, .agg #[.int .i64 (wrap64 (1 + t183)), .int .i64 t185, .int .i64 t190])]) (fun s_ w' => (w'.cell? ⟨gb181, 0, none⟩ = some (.int .i64 a1_0) ∧ w'.cell? ⟨gb181, 1, none⟩ = some (.slice A1_1 l1_1.length c1_1)) ∧ (Kd.R (Kd.int .i64) 3 w' w.heap.size (fun _ => True) s_.1 y187) ∧ (w'.heap[gb181]? = some (.cells #[.int .i64 a1_0, .slice A1_1 l1_1.length c1_1] 25 (0, 0))) ∧ (w'.heap[gb182]? = some (.cells #[.int .i64 0, .int .i64 0, .int .i64 0] 30 (0, 0))) ∧ (w'.heap[s_.2]? = some (.cells #[.int .i64 0, .int .i64 0, .int .i64 0] 30 (0, 0))) ∧ (w.heap.size ≤ s_.2) ∧ (w0.heap.size ≤ s_.2) ∧ (g ≠ s_.2) ∧ (s_.2 ≠ g) ∧ (gb181 ≠ s_.2) ∧ (s_.2 ≠ gb181) ∧ (gb182 ≠ s_.2) ∧ (s_.2 ≠ gb182) ∧ (IsS59 w0 w' g s0_0 t191) ∧ (KeepBut w w' g none) ∧ (Below w0.heap.size w0 w')) ?_ ?_
 rotate_left
 ·intro hJ1_8_10_11_13
  refine join_ (σ := Value) 2 (ms 15 8191) (fun s_ => [(7, .int .i64 t183), (14, .int .i64 t185), (16, s_), (17, .int .i64 t190), (8, .int .i64 (wrap64 (1 + t183))), (18, .agg #[.int .i64 (wrap64 (1 + t183)), .int .i64 t185, .int .i64 t190])]) (fun s_ w' => (w'.cell? ⟨gb181, 0, none⟩ = some (.int .i64 a1_0) ∧ w'.cell? ⟨gb181, 1, none⟩ = some (.slice A1_1 l1_1.length c1_1)) ∧ (Kd.R (Kd.int .i64) 3 w' w.heap.size (fun _ => True) s_ y187) ∧ (w'.heap[gb181]? = some (.cells #[.int .i64 a1_0, .slice A1_1 l1_1.length c1_1] 25 (0, 0))) ∧ (w'.heap[gb182]? = some (.cells #[.int .i64 0, .int .i64 0, .int .i64 0] 30 (0, 0))) ∧ (IsS59 w0 w' g s0_0 t191) ∧ (KeepBut w w' g none) ∧ (Below w0.heap.size w0 w')) ?_ ?_
  rotate_left
  rotate_left
  ·skip
   rintro v188 w18 ⟨hS_, h0_, h1_, h2_, h3_, h4_, h5_⟩
   have HO189 : Aside0 (Kd.R (Kd.int .i64) 3 w18 w.heap.size (fun _ => True) v188 y187) := ⟨h0_⟩
   replace BK181 : Aside0 (w18.heap[gb181]? = some (.cells #[.int .i64 a1_0, .slice A1_1 l1_1.length c1_1] 25 (0, 0))) := ⟨h1_⟩
   replace BK182 : Aside0 (w18.heap[gb182]? = some (.cells #[.int .i64 0, .int .i64 0, .int .i64 0] 30 (0, 0))) := ⟨h2_⟩
   replace HI0 : Aside0 (IsS59 w0 w18 g s0_0 t191) := ⟨h3_⟩
   replace HK : Aside0 (KeepBut w w18 g none) := ⟨h4_⟩
   replace HB : Aside0 (Below w0.heap.size w0 w18) := ⟨h5_⟩
   clear h0_ h1_ h2_ h3_ h4_ h5_
   have hHeld : w18.cell? ⟨gb181, 0, none⟩ = some (.int .i64 a1_0) ∧ w18.cell? ⟨gb181, 1, none⟩ = some (.slice A1_1 l1_1.length c1_1) := hS_
   refine norm_ (a' := ?_) ?_ ?_
   rotate_left
   ·simp only [putAll, Act.put, List.setIfInBounds_toArray, List.set_cons_zero, List.set_cons_succ]
    rfl
   refine one_ (i := 13) (N := some 5) (ms 15 16383) rfl rfl (one_of HT_.out (by kernel_rfl)) (by decide) (fun K hK => ?_)
   refine box_step ?hg (N := 5) ?hd (cs := #[.int .i64 0, .int .i64 0, .int .i64 0]) (t := 30) ?hr ?_; (case hd => rfl); (case hg => rfl); (case hr => (go_simp; done))
   intro gb192 hg w19 hbox hb
   replace HO189 := ak (Kd.R_below (rk HO189) hb)
   replace HB := ak (below_step (by repeat ((with_reducible exact HB.out))) hb)
   have BK192 := ak (hbox)
   have GW192 := ak ((by rw [hg]; exact (keep_size (w := w) (g := g) (row := none) (by repeat ((with_reducible exact HK.out)))) : w.heap.size ≤ gb192))
   have GE192 := ak ((Nat.le_trans HW0.out (by rw [hg]; exact (keep_size (w := w) (g := g) (row := none) (by repeat ((with_reducible exact HK.out)))) : w.heap.size ≤ gb192) : w0.heap.size ≤ gb192))
   replace HK := ak (KeepBut.trans (by repeat ((with_reducible exact HK.out))) (KeepBut.of_below hb g none) (.inl rfl))
   have NB181_192 := ak ((by rw [hg]; exact Nat.ne_of_lt (blk_lt (bk BK181)) : gb181 ≠ gb192))
   have NB192_181 := ak ((by rw [hg]; exact Nat.ne_of_gt (blk_lt (bk BK181)) : gb192 ≠ gb181))
   replace BK181 := ak (blk_below (bk BK181) hb)
   have NB182_192 := ak ((by rw [hg]; exact Nat.ne_of_lt (blk_lt (bk BK182)) : gb182 ≠ gb192))
   have NB192_182 := ak ((by rw [hg]; exact Nat.ne_of_gt (blk_lt (bk BK182)) : gb192 ≠ gb182))
   replace BK182 := ak (blk_below (bk BK182) hb)
   have NB0_192 := ak ((by rw [hg]; exact Nat.ne_of_lt (IsS59.lt (show IsS59 w0 _ g s0_0 t191 from by repeat ((with_reducible exact HI0.out)))) : g ≠ gb192))
   have NB192_0 := ak ((by rw [hg]; exact Nat.ne_of_gt (IsS59.lt (show IsS59 w0 _ g s0_0 t191 from by repeat ((with_reducible exact HI0.out)))) : gb192 ≠ g))
   replace HI0 := ak (IsS59.below (by repeat ((with_reducible exact HI0.out))) hb)
   clear hb hbox hg
   refine hK.out _ _ ⟨(blk_cell BK181.out 0).trans rfl, (blk_cell BK181.out 1).trans rfl⟩ (fun hHeld => ?_)
   clear hK K
   refine norm_ (a' := ?_) ?_ ?_
   rotate_left
   ·show Act.put _ (some 5) _ = _
    simp only [SX]
    rfl
   exact norm_ (by (simp only [putAll, Act.put, List.setIfInBounds_toArray, List.set_cons_zero, List.set_cons_succ]; done)) (hJ1_8_10_11_13 (v188, gb192) _ ⟨hHeld, (rk HO189), (bk BK181), (bk BK182), (bk BK192), GW192.out, GE192.out, NB0_192.out, NB192_0.out, NB181_192.out, NB192_181.out, NB182_192.out, NB192_182.out, (by repeat ((with_reducible exact HI0.out))), (by repeat ((with_reducible exact HK.out))), (by repeat ((with_reducible exact HB.out)))⟩)
  intro hJ1_8_10_11
  refine join_ (σ := Value × Nat) 3 (ms 15 10239) (fun s_ => [(7, .int .i64 t183), (14, .int .i64 t185), (16, s_.1), (5, .pointer (some ⟨s_.2, 0, none⟩)), (8, .int .i64 (wrap64 (1 + t183)))]) (fun s_ w' => (w'.cell? ⟨gb181, 0, none⟩ = some (.int .i64 a1_0) ∧ w'.cell? ⟨gb181, 1, none⟩ = some (.slice A1_1 l1_1.length c1_1)) ∧ (Kd.R (Kd.int .i64) 3 w' w.heap.size (fun _ => True) s_.1 y187) ∧ (w'.heap[gb181]? = some (.cells #[.int .i64 a1_0, .slice A1_1 l1_1.length c1_1] 25 (0, 0))) ∧ (w'.heap[gb182]? = some (.cells #[.int .i64 0, .int .i64 0, .int .i64 0] 30 (0, 0))) ∧ (w'.heap[s_.2]? = some (.cells #[.int .i64 0, .int .i64 0, .int .i64 0] 30 (0, 0))) ∧ (w.heap.size ≤ s_.2) ∧ (w0.heap.size ≤ s_.2) ∧ (g ≠ s_.2) ∧ (s_.2 ≠ g) ∧ (gb181 ≠ s_.2) ∧ (s_.2 ≠ gb181) ∧ (gb182 ≠ s_.2) ∧ (s_.2 ≠ gb182) ∧ (IsS59 w0 w' g s0_0 t186) ∧ (KeepBut w w' g none) ∧ (Below w0.heap.size w0 w')) ?_ ?_
  rotate_left
  rotate_left
  ·skip
   rintro ⟨v188, gb192⟩ w17 ⟨hS_, h0_, h1_, h2_, h3_, h4_, h5_, h6_, h7_, h8_, h9_, h10_, h11_, h12_, h13_, h14_⟩
   have HO189 : Aside0 (Kd.R (Kd.int .i64) 3 w17 w.heap.size (fun _ => True) v188 y187) := ⟨h0_⟩
   replace BK181 : Aside0 (w17.heap[gb181]? = some (.cells #[.int .i64 a1_0, .slice A1_1 l1_1.length c1_1] 25 (0, 0))) := ⟨h1_⟩
   replace BK182 : Aside0 (w17.heap[gb182]? = some (.cells #[.int .i64 0, .int .i64 0, .int .i64 0] 30 (0, 0))) := ⟨h2_⟩
   have BK192 : Aside0 (w17.heap[gb192]? = some (.cells #[.int .i64 0, .int .i64 0, .int .i64 0] 30 (0, 0))) := ⟨h3_⟩
   have GW192 : Aside0 (w.heap.size ≤ gb192) := ⟨h4_⟩
   have GE192 : Aside0 (w0.heap.size ≤ gb192) := ⟨h5_⟩
   have NB0_192 : Aside0 (g ≠ gb192) := ⟨h6_⟩
   have NB192_0 : Aside0 (gb192 ≠ g) := ⟨h7_⟩
   have NB181_192 : Aside0 (gb181 ≠ gb192) := ⟨h8_⟩
   have NB192_181 : Aside0 (gb192 ≠ gb181) := ⟨h9_⟩
   have NB182_192 : Aside0 (gb182 ≠ gb192) := ⟨h10_⟩
   have NB192_182 : Aside0 (gb192 ≠ gb182) := ⟨h11_⟩
   replace HI0 : Aside0 (IsS59 w0 w17 g s0_0 t186) := ⟨h12_⟩
   replace HK : Aside0 (KeepBut w w17 g none) := ⟨h13_⟩
   replace HB : Aside0 (Below w0.heap.size w0 w17) := ⟨h14_⟩
   clear h0_ h1_ h2_ h3_ h4_ h5_ h6_ h7_ h8_ h9_ h10_ h11_ h12_ h13_ h14_
   have hHeld : w17.cell? ⟨gb181, 0, none⟩ = some (.int .i64 a1_0) ∧ w17.cell? ⟨gb181, 1, none⟩ = some (.slice A1_1 l1_1.length c1_1) := hS_
   obtain ⟨Ao18, co18, eo18⟩ := Kd.R_slice HO189.out
   (subst eo18)
   refine norm_ (a' := ?_) ?_ ?_
   rotate_left
   ·simp only [putAll, Act.put, List.setIfInBounds_toArray, List.set_cons_zero, List.set_cons_succ]
    rfl
   refine one_ (i := 11) (N := some 17) (ms 15 12287) rfl rfl (one_of HT_.out (by kernel_rfl)) (by decide) (fun K hK => ?_)
   refine goes_ Try.func30 (by kernel_rfl) rfl #[.pointer (some ⟨g, 0, none⟩), .slice Ao18 y187.length co18] (by rfl) rfl rfl (by (try simp only [List.map_toArray, List.map_cons, List.map_nil]); rfl) ?_
   with_reducible refine (spec_l30Rd_one.calls k g s0_0 t186 _ _ y187 t190 t191 w0 _ ?side1 ?side2 ?side3 ?side4 ?side5 A5.out).mono ?_
   (case side1 => repeat ((with_reducible exact HI0.out)))
   (case side2 => repeat ((with_reducible exact HB.out)))
   (case side3 => repeat (exact (Kd.R_reads' HO189.out).2.2))
   (case side4 => exact (Kd.R_reads' HO189.out).2.1)
   (case side5 => exact far_slice (IsS59.own_ne HI0.out HO189.out (by decide)))
   rintro e w19 ⟨rfl, hi, hb, hk⟩
   refine ⟨_, rfl, ?_⟩
   replace BK181 := ak (KeepBut.blk hk (g' := gb181) (o := .cells #[.int .i64 a1_0, .slice A1_1 l1_1.length c1_1] 25 (0, 0)) (bk BK181) NB181_0.out (by simp))
   replace BK182 := ak (KeepBut.blk hk (g' := gb182) (o := .cells #[.int .i64 0, .int .i64 0, .int .i64 0] 30 (0, 0)) (bk BK182) NB182_0.out (by simp))
   replace HO189 := ak (Kd.R_mono (Kd.R_keep (IsS59.apart (show IsS59 w0 _ g s0_0 t186 from by repeat ((with_reducible exact HI0.out))) (rk HO189) (by decide)) hk (fun _ h => h.2)) (fun _ h => h.1))
   replace BK192 := ak (KeepBut.blk hk (g' := gb192) (o := .cells #[.int .i64 0, .int .i64 0, .int .i64 0] 30 (0, 0)) (bk BK192) NB192_0.out (by simp))
   replace HK := ak (KeepBut.trans (by repeat ((with_reducible exact HK.out))) hk (.inl rfl))
   replace HB := ak (hb)
   replace HI0 := ak (hi)
   (try clear hb)
   (try clear hb2)
   (try clear hk)
   (try clear hi)
   refine hK.out _ _ ⟨(blk_cell BK181.out 0).trans rfl, (blk_cell BK181.out 1).trans rfl⟩ (fun hHeld => ?_)
   clear hK K
   refine norm_ (a' := ?_) ?_ ?_
   rotate_left
   ·show Act.put _ (some 17) _ = _
    simp only [SX]
    rfl
   refine pu 12 18 ?_ (ms 15 16383) rfl rfl HT_ (by kernel_rfl) (fun _ _ _ h => h) (by rfl) ?_ ?_ ?_ ?_
   rotate_left
   ·intro w'
    go_simp
    with_reducible rfl
   rotate_left
   ·simp only [SX]
    rfl
   exact norm_ (by (simp only [putAll, Act.put, List.setIfInBounds_toArray, List.set_cons_zero, List.set_cons_succ]; done)) (hJ1_8_10_11_13 (.slice Ao18 y187.length co18, gb192) _ ⟨hHeld, (rk HO189), (bk BK181), (bk BK182), (bk BK192), GW192.out, GE192.out, NB0_192.out, NB192_0.out, NB181_192.out, NB192_181.out, NB182_192.out, NB192_182.out, (by repeat ((with_reducible exact HI0.out))), (by repeat ((with_reducible exact HK.out))), (by repeat ((with_reducible exact HB.out)))⟩)
  intro hJ1_8_10_13
  refine join_ (σ := Value) 4 (ms 15 2047) (fun s_ => [(7, .int .i64 t183), (14, .int .i64 t185), (16, s_), (8, .int .i64 (wrap64 (1 + t183)))]) (fun s_ w' => (w'.cell? ⟨gb181, 0, none⟩ = some (.int .i64 a1_0) ∧ w'.cell? ⟨gb181, 1, none⟩ = some (.slice A1_1 l1_1.length c1_1)) ∧ (Kd.R (Kd.int .i64) 3 w' w.heap.size (fun _ => True) s_ y187) ∧ (w'.heap[gb181]? = some (.cells #[.int .i64 a1_0, .slice A1_1 l1_1.length c1_1] 25 (0, 0))) ∧ (w'.heap[gb182]? = some (.cells #[.int .i64 0, .int .i64 0, .int .i64 0] 30 (0, 0))) ∧ (IsS59 w0 w' g s0_0 t186) ∧ (KeepBut w w' g none) ∧ (Below w0.heap.size w0 w')) ?_ ?_
  rotate_left
  rotate_left
  ·skip
   rintro v188 w16 ⟨hS_, h0_, h1_, h2_, h3_, h4_, h5_⟩
   have HO189 : Aside0 (Kd.R (Kd.int .i64) 3 w16 w.heap.size (fun _ => True) v188 y187) := ⟨h0_⟩
   replace BK181 : Aside0 (w16.heap[gb181]? = some (.cells #[.int .i64 a1_0, .slice A1_1 l1_1.length c1_1] 25 (0, 0))) := ⟨h1_⟩
   replace BK182 : Aside0 (w16.heap[gb182]? = some (.cells #[.int .i64 0, .int .i64 0, .int .i64 0] 30 (0, 0))) := ⟨h2_⟩
   replace HI0 : Aside0 (IsS59 w0 w16 g s0_0 t186) := ⟨h3_⟩
   replace HK : Aside0 (KeepBut w w16 g none) := ⟨h4_⟩
   replace HB : Aside0 (Below w0.heap.size w0 w16) := ⟨h5_⟩
   clear h0_ h1_ h2_ h3_ h4_ h5_
   have hHeld : w16.cell? ⟨gb181, 0, none⟩ = some (.int .i64 a1_0) ∧ w16.cell? ⟨gb181, 1, none⟩ = some (.slice A1_1 l1_1.length c1_1) := hS_
   obtain ⟨Ao17, co17, eo17⟩ := Kd.R_slice HO189.out
   (subst eo17)
   refine norm_ (a' := ?_) ?_ ?_
   rotate_left
   ·simp only [putAll, Act.put, List.setIfInBounds_toArray, List.set_cons_zero, List.set_cons_succ]
    rfl
   refine two_ (i := 11) (j := 13) (Ni := some 17) (Nj := some 5) (ms 15 4095) (ms 15 10239) rfl rfl rfl rfl (two_of HT_.out (by kernel_rfl)) (by decide) (by decide) (fun K hK => ?_) (fun K hK => ?_)
   ·skip
    refine goes_ Try.func30 (by kernel_rfl) rfl #[.pointer (some ⟨g, 0, none⟩), .slice Ao17 y187.length co17] (by rfl) rfl rfl (by (try simp only [List.map_toArray, List.map_cons, List.map_nil]); rfl) ?_
    with_reducible refine (spec_l30Rd_one.calls k g s0_0 t186 _ _ y187 t190 t191 w0 _ ?side1 ?side2 ?side3 ?side4 ?side5 A5.out).mono ?_
    (case side1 => repeat ((with_reducible exact HI0.out)))
    (case side2 => repeat ((with_reducible exact HB.out)))
    (case side3 => repeat (exact (Kd.R_reads' HO189.out).2.2))
    (case side4 => exact (Kd.R_reads' HO189.out).2.1)
    (case side5 => exact far_slice (IsS59.own_ne HI0.out HO189.out (by decide)))
    rintro e w18 ⟨rfl, hi, hb, hk⟩
    refine ⟨_, rfl, ?_⟩
    replace BK181 := ak (KeepBut.blk hk (g' := gb181) (o := .cells #[.int .i64 a1_0, .slice A1_1 l1_1.length c1_1] 25 (0, 0)) (bk BK181) NB181_0.out (by simp))
    replace BK182 := ak (KeepBut.blk hk (g' := gb182) (o := .cells #[.int .i64 0, .int .i64 0, .int .i64 0] 30 (0, 0)) (bk BK182) NB182_0.out (by simp))
    replace HO189 := ak (Kd.R_mono (Kd.R_keep (IsS59.apart (show IsS59 w0 _ g s0_0 t186 from by repeat ((with_reducible exact HI0.out))) (rk HO189) (by decide)) hk (fun _ h => h.2)) (fun _ h => h.1))
    replace HK := ak (KeepBut.trans (by repeat ((with_reducible exact HK.out))) hk (.inl rfl))
    replace HB := ak (hb)
    replace HI0 := ak (hi)
    (try clear hb)
    (try clear hb2)
    (try clear hk)
    (try clear hi)
    refine hK.out _ _ ⟨(blk_cell BK181.out 0).trans rfl, (blk_cell BK181.out 1).trans rfl⟩ (fun hHeld => ?_)
    clear hK K
    refine norm_ (a' := ?_) ?_ ?_
    rotate_left
    ·show Act.put _ (some 17) _ = _
     simp only [SX]
     rfl
    refine pu 12 18 ?_ (ms 15 8191) rfl rfl HT_ (by kernel_rfl) (fun _ _ _ h => h) (by rfl) ?_ ?_ ?_ ?_
    rotate_left
    ·intro w'
     go_simp
     with_reducible rfl
    rotate_left
    ·simp only [SX]
     rfl
    exact norm_ (by (simp only [putAll, Act.put, List.setIfInBounds_toArray, List.set_cons_zero, List.set_cons_succ]; done)) (hJ1_8_10_11 (.slice Ao17 y187.length co17) _ ⟨hHeld, (rk HO189), (bk BK181), (bk BK182), (by repeat ((with_reducible exact HI0.out))), (by repeat ((with_reducible exact HK.out))), (by repeat ((with_reducible exact HB.out)))⟩)
   skip
   refine box_step ?hg (N := 5) ?hd (cs := #[.int .i64 0, .int .i64 0, .int .i64 0]) (t := 30) ?hr ?_; (case hd => rfl); (case hg => rfl); (case hr => (go_simp; done))
   intro gb192 hg w17 hbox hb
   replace HO189 := ak (Kd.R_below (rk HO189) hb)
   replace HB := ak (below_step (by repeat ((with_reducible exact HB.out))) hb)
   have BK192 := ak (hbox)
   have GW192 := ak ((by rw [hg]; exact (keep_size (w := w) (g := g) (row := none) (by repeat ((with_reducible exact HK.out)))) : w.heap.size ≤ gb192))
   have GE192 := ak ((Nat.le_trans HW0.out (by rw [hg]; exact (keep_size (w := w) (g := g) (row := none) (by repeat ((with_reducible exact HK.out)))) : w.heap.size ≤ gb192) : w0.heap.size ≤ gb192))
   replace HK := ak (KeepBut.trans (by repeat ((with_reducible exact HK.out))) (KeepBut.of_below hb g none) (.inl rfl))
   have NB181_192 := ak ((by rw [hg]; exact Nat.ne_of_lt (blk_lt (bk BK181)) : gb181 ≠ gb192))
   have NB192_181 := ak ((by rw [hg]; exact Nat.ne_of_gt (blk_lt (bk BK181)) : gb192 ≠ gb181))
   replace BK181 := ak (blk_below (bk BK181) hb)
   have NB182_192 := ak ((by rw [hg]; exact Nat.ne_of_lt (blk_lt (bk BK182)) : gb182 ≠ gb192))
   have NB192_182 := ak ((by rw [hg]; exact Nat.ne_of_gt (blk_lt (bk BK182)) : gb192 ≠ gb182))
   replace BK182 := ak (blk_below (bk BK182) hb)
   have NB0_192 := ak ((by rw [hg]; exact Nat.ne_of_lt (IsS59.lt (show IsS59 w0 _ g s0_0 t186 from by repeat ((with_reducible exact HI0.out)))) : g ≠ gb192))
   have NB192_0 := ak ((by rw [hg]; exact Nat.ne_of_gt (IsS59.lt (show IsS59 w0 _ g s0_0 t186 from by repeat ((with_reducible exact HI0.out)))) : gb192 ≠ g))
   replace HI0 := ak (IsS59.below (by repeat ((with_reducible exact HI0.out))) hb)
   clear hb hbox hg
   refine hK.out _ _ ⟨(blk_cell BK181.out 0).trans rfl, (blk_cell BK181.out 1).trans rfl⟩ (fun hHeld => ?_)
   clear hK K
   refine norm_ (a' := ?_) ?_ ?_
   rotate_left
   ·show Act.put _ (some 5) _ = _
    simp only [SX]
    rfl
   exact norm_ (by (simp only [putAll, Act.put, List.setIfInBounds_toArray, List.set_cons_zero, List.set_cons_succ]; done)) (hJ1_8_10_13 ((.slice Ao17 y187.length co17), gb192) _ ⟨hHeld, (rk HO189), (bk BK181), (bk BK182), (bk BK192), GW192.out, GE192.out, NB0_192.out, NB192_0.out, NB181_192.out, NB192_181.out, NB182_192.out, NB192_182.out, (by repeat ((with_reducible exact HI0.out))), (by repeat ((with_reducible exact HK.out))), (by repeat ((with_reducible exact HB.out)))⟩)
  intro hJ1_8_10
  refine join_ (σ := Nat) 4 (ms 15 9215) (fun s_ => [(7, .int .i64 t183), (14, .int .i64 t185), (5, .pointer (some ⟨s_, 0, none⟩)), (8, .int .i64 (wrap64 (1 + t183)))]) (fun s_ w' => (w'.cell? ⟨gb181, 0, none⟩ = some (.int .i64 a1_0) ∧ w'.cell? ⟨gb181, 1, none⟩ = some (.slice A1_1 l1_1.length c1_1)) ∧ (w'.heap[gb181]? = some (.cells #[.int .i64 a1_0, .slice A1_1 l1_1.length c1_1] 25 (0, 0))) ∧ (w'.heap[gb182]? = some (.cells #[.int .i64 0, .int .i64 0, .int .i64 0] 30 (0, 0))) ∧ (w'.heap[s_]? = some (.cells #[.int .i64 0, .int .i64 0, .int .i64 0] 30 (0, 0))) ∧ (w.heap.size ≤ s_) ∧ (w0.heap.size ≤ s_) ∧ (g ≠ s_) ∧ (s_ ≠ g) ∧ (gb181 ≠ s_) ∧ (s_ ≠ gb181) ∧ (gb182 ≠ s_) ∧ (s_ ≠ gb182) ∧ (IsS59 w0 w' g s0_0 t186) ∧ (KeepBut w w' g none) ∧ (Below w0.heap.size w0 w')) ?_ ?_
  rotate_left
  rotate_left
  ·skip
   rintro gb192 w15 ⟨hS_, h0_, h1_, h2_, h3_, h4_, h5_, h6_, h7_, h8_, h9_, h10_, h11_, h12_, h13_⟩
   replace BK181 : Aside0 (w15.heap[gb181]? = some (.cells #[.int .i64 a1_0, .slice A1_1 l1_1.length c1_1] 25 (0, 0))) := ⟨h0_⟩
   replace BK182 : Aside0 (w15.heap[gb182]? = some (.cells #[.int .i64 0, .int .i64 0, .int .i64 0] 30 (0, 0))) := ⟨h1_⟩
   have BK192 : Aside0 (w15.heap[gb192]? = some (.cells #[.int .i64 0, .int .i64 0, .int .i64 0] 30 (0, 0))) := ⟨h2_⟩
   have GW192 : Aside0 (w.heap.size ≤ gb192) := ⟨h3_⟩
   have GE192 : Aside0 (w0.heap.size ≤ gb192) := ⟨h4_⟩
   have NB0_192 : Aside0 (g ≠ gb192) := ⟨h5_⟩
   have NB192_0 : Aside0 (gb192 ≠ g) := ⟨h6_⟩
   have NB181_192 : Aside0 (gb181 ≠ gb192) := ⟨h7_⟩
   have NB192_181 : Aside0 (gb192 ≠ gb181) := ⟨h8_⟩
   have NB182_192 : Aside0 (gb182 ≠ gb192) := ⟨h9_⟩
   have NB192_182 : Aside0 (gb192 ≠ gb182) := ⟨h10_⟩
   replace HI0 : Aside0 (IsS59 w0 w15 g s0_0 t186) := ⟨h11_⟩
   replace HK : Aside0 (KeepBut w w15 g none) := ⟨h12_⟩
   replace HB : Aside0 (Below w0.heap.size w0 w15) := ⟨h13_⟩
   clear h0_ h1_ h2_ h3_ h4_ h5_ h6_ h7_ h8_ h9_ h10_ h11_ h12_ h13_
   have hHeld : w15.cell? ⟨gb181, 0, none⟩ = some (.int .i64 a1_0) ∧ w15.cell? ⟨gb181, 1, none⟩ = some (.slice A1_1 l1_1.length c1_1) := hS_
   refine norm_ (a' := ?_) ?_ ?_
   rotate_left
   ·simp only [putAll, Act.put, List.setIfInBounds_toArray, List.set_cons_zero, List.set_cons_succ]
    rfl
   refine one_ (i := 10) (N := some 16) (ms 15 10239) rfl rfl (one_of HT_.out (by kernel_rfl)) (by decide) (fun K hK => ?_)
   refine Kd.R_lit_step (Kd.int .i64) _ 3 ?hg (N := 16) ?hd (xs := ([(-1), 0, 3, 9, 99] : List Int)) (inner := [.int .i64 (-1), .int .i64 0, .int .i64 3, .int .i64 9, .int .i64 99]) (ok := fun _ => True) (okp := fun _ => True) ?hr ?hp (fun _ hk => hk) trivial (Below.refl _ _) (Nat.le_refl _) (by simp) ?_; (case hd => rfl); (case hg => rfl); (case hr => (go_simp; done)); (case hp => exact (Reps.one (show Kd.M (Kd.int .i64) _ _ _ (-1) [.int .i64 (-1)] from rfl) (Reps.one (show Kd.M (Kd.int .i64) _ _ _ 0 [.int .i64 0] from rfl) (Reps.one (show Kd.M (Kd.int .i64) _ _ _ 3 [.int .i64 3] from rfl) (Reps.one (show Kd.M (Kd.int .i64) _ _ _ 9 [.int .i64 9] from rfl) (Reps.one (show Kd.M (Kd.int .i64) _ _ _ 99 [.int .i64 99] from rfl) (Reps.none _ _)))))))
   intro v188 w16 ho17 hb hg_ hnew_
   clear hg_ hnew_
   (rw [← Ny187.out] at ho17)
   have HO189 := ak (Kd.R_lower ho17 (keep_size (w := w) (g := g) (row := none) (by repeat ((with_reducible exact HK.out)))))
   replace BK181 := ak (blk_below (bk BK181) hb)
   replace BK182 := ak (blk_below (bk BK182) hb)
   replace BK192 := ak (blk_below (bk BK192) hb)
   replace HK := ak (KeepBut.trans (by repeat ((with_reducible exact HK.out))) (KeepBut.of_below hb g none) (.inl rfl))
   replace HB := ak (below_step (by repeat ((with_reducible exact HB.out))) hb)
   replace HI0 := ak (IsS59.below (by repeat ((with_reducible exact HI0.out))) hb)
   clear hb ho17
   refine hK.out _ _ ⟨(blk_cell BK181.out 0).trans rfl, (blk_cell BK181.out 1).trans rfl⟩ (fun hHeld => ?_)
   clear hK K
   refine norm_ (a' := ?_) ?_ ?_
   rotate_left
   ·show Act.put _ (some 16) _ = _
    simp only [SX]
    rfl
   exact norm_ (by (simp only [putAll, Act.put, List.setIfInBounds_toArray, List.set_cons_zero, List.set_cons_succ]; done)) (hJ1_8_10_13 (v188, gb192) _ ⟨hHeld, (rk HO189), (bk BK181), (bk BK182), (bk BK192), GW192.out, GE192.out, NB0_192.out, NB192_0.out, NB181_192.out, NB192_181.out, NB182_192.out, NB192_182.out, (by repeat ((with_reducible exact HI0.out))), (by repeat ((with_reducible exact HK.out))), (by repeat ((with_reducible exact HB.out)))⟩)
  intro hJ1_8_13
  refine join_ (σ := Value × Nat) 4 (ms 15 9983) (fun s_ => [(7, .int .i64 t183), (16, s_.1), (5, .pointer (some ⟨s_.2, 0, none⟩)), (8, .int .i64 (wrap64 (1 + t183)))]) (fun s_ w' => (w'.cell? ⟨gb181, 0, none⟩ = some (.int .i64 a1_0) ∧ w'.cell? ⟨gb181, 1, none⟩ = some (.slice A1_1 l1_1.length c1_1)) ∧ (Kd.R (Kd.int .i64) 3 w' w.heap.size (fun _ => True) s_.1 y187) ∧ (w'.heap[gb181]? = some (.cells #[.int .i64 a1_0, .slice A1_1 l1_1.length c1_1] 25 (0, 0))) ∧ (w'.heap[gb182]? = some (.cells #[.int .i64 0, .int .i64 0, .int .i64 0] 30 (0, 0))) ∧ (w'.heap[s_.2]? = some (.cells #[.int .i64 0, .int .i64 0, .int .i64 0] 30 (0, 0))) ∧ (w.heap.size ≤ s_.2) ∧ (w0.heap.size ≤ s_.2) ∧ (g ≠ s_.2) ∧ (s_.2 ≠ g) ∧ (gb181 ≠ s_.2) ∧ (s_.2 ≠ gb181) ∧ (gb182 ≠ s_.2) ∧ (s_.2 ≠ gb182) ∧ (IsS59 w0 w' g s0_0 t184) ∧ (KeepBut w w' g none) ∧ (Below w0.heap.size w0 w')) ?_ ?_
  rotate_left
  rotate_left
  ·skip
   rintro ⟨v188, gb192⟩ w16 ⟨hS_, h0_, h1_, h2_, h3_, h4_, h5_, h6_, h7_, h8_, h9_, h10_, h11_, h12_, h13_, h14_⟩
   have HO189 : Aside0 (Kd.R (Kd.int .i64) 3 w16 w.heap.size (fun _ => True) v188 y187) := ⟨h0_⟩
   replace BK181 : Aside0 (w16.heap[gb181]? = some (.cells #[.int .i64 a1_0, .slice A1_1 l1_1.length c1_1] 25 (0, 0))) := ⟨h1_⟩
   replace BK182 : Aside0 (w16.heap[gb182]? = some (.cells #[.int .i64 0, .int .i64 0, .int .i64 0] 30 (0, 0))) := ⟨h2_⟩
   have BK192 : Aside0 (w16.heap[gb192]? = some (.cells #[.int .i64 0, .int .i64 0, .int .i64 0] 30 (0, 0))) := ⟨h3_⟩
   have GW192 : Aside0 (w.heap.size ≤ gb192) := ⟨h4_⟩
   have GE192 : Aside0 (w0.heap.size ≤ gb192) := ⟨h5_⟩
   have NB0_192 : Aside0 (g ≠ gb192) := ⟨h6_⟩
   have NB192_0 : Aside0 (gb192 ≠ g) := ⟨h7_⟩
   have NB181_192 : Aside0 (gb181 ≠ gb192) := ⟨h8_⟩
   have NB192_181 : Aside0 (gb192 ≠ gb181) := ⟨h9_⟩
   have NB182_192 : Aside0 (gb182 ≠ gb192) := ⟨h10_⟩
   have NB192_182 : Aside0 (gb192 ≠ gb182) := ⟨h11_⟩
   replace HI0 : Aside0 (IsS59 w0 w16 g s0_0 t184) := ⟨h12_⟩
   replace HK : Aside0 (KeepBut w w16 g none) := ⟨h13_⟩
   replace HB : Aside0 (Below w0.heap.size w0 w16) := ⟨h14_⟩
   clear h0_ h1_ h2_ h3_ h4_ h5_ h6_ h7_ h8_ h9_ h10_ h11_ h12_ h13_ h14_
   have hHeld : w16.cell? ⟨gb181, 0, none⟩ = some (.int .i64 a1_0) ∧ w16.cell? ⟨gb181, 1, none⟩ = some (.slice A1_1 l1_1.length c1_1) := hS_
   refine norm_ (a' := ?_) ?_ ?_
   rotate_left
   ·simp only [putAll, Act.put, List.setIfInBounds_toArray, List.set_cons_zero, List.set_cons_succ]
    rfl
   refine one_ (i := 8) (N := some 14) (ms 15 10239) rfl rfl (one_of HT_.out (by kernel_rfl)) (by decide) (fun K hK => ?_)
   refine goes_ Try.func27 (by kernel_rfl) rfl #[.pointer (some ⟨g, 0, none⟩), .int .i64 (wrap64 ((l1_1.length : Int) + 1))] (by rfl) rfl rfl (by (try simp only [List.map_toArray, List.map_cons, List.map_nil]); rfl) ?_
   with_reducible refine (spec_l30Rd_pick.calls k g s0_0 t184 (wrap64 ((l1_1.length : Int) + 1)) t185 t186 w0 _ ?side1 ?side2 A4.out).mono ?_
   (case side1 => repeat ((with_reducible exact HI0.out)))
   (case side2 => repeat ((with_reducible exact HB.out)))
   rintro e w17 ⟨rfl, hi, hb, hk⟩
   refine ⟨_, rfl, ?_⟩
   replace BK181 := ak (KeepBut.blk hk (g' := gb181) (o := .cells #[.int .i64 a1_0, .slice A1_1 l1_1.length c1_1] 25 (0, 0)) (bk BK181) NB181_0.out (by simp))
   replace BK182 := ak (KeepBut.blk hk (g' := gb182) (o := .cells #[.int .i64 0, .int .i64 0, .int .i64 0] 30 (0, 0)) (bk BK182) NB182_0.out (by simp))
   replace HO189 := ak (Kd.R_mono (Kd.R_keep (IsS59.apart (show IsS59 w0 _ g s0_0 t184 from by repeat ((with_reducible exact HI0.out))) (rk HO189) (by decide)) hk (fun _ h => h.2)) (fun _ h => h.1))
   replace BK192 := ak (KeepBut.blk hk (g' := gb192) (o := .cells #[.int .i64 0, .int .i64 0, .int .i64 0] 30 (0, 0)) (bk BK192) NB192_0.out (by simp))
   replace HK := ak (KeepBut.trans (by repeat ((with_reducible exact HK.out))) hk (.inl rfl))
   replace HB := ak (hb)
   replace HI0 := ak (hi)
   (try clear hb)
   (try clear hb2)
   (try clear hk)
   (try clear hi)
   refine hK.out _ _ ⟨(blk_cell BK181.out 0).trans rfl, (blk_cell BK181.out 1).trans rfl⟩ (fun hHeld => ?_)
   clear hK K
   refine norm_ (a' := ?_) ?_ ?_
   rotate_left
   ·show Act.put _ (some 14) _ = _
    simp only [SX]
    rfl
   exact norm_ (by (simp only [putAll, Act.put, List.setIfInBounds_toArray, List.set_cons_zero, List.set_cons_succ]; done)) (hJ1_8_10_13 (v188, gb192) _ ⟨hHeld, (rk HO189), (bk BK181), (bk BK182), (bk BK192), GW192.out, GE192.out, NB0_192.out, NB192_0.out, NB181_192.out, NB192_181.out, NB182_192.out, NB192_182.out, (by repeat ((with_reducible exact HI0.out))), (by repeat ((with_reducible exact HK.out))), (by repeat ((with_reducible exact HB.out)))⟩)
  intro hJ1_10_13
  refine join_ (σ := Unit) 5 (ms 15 1023) (fun s_ => [(7, .int .i64 t183), (14, .int .i64 t185), (8, .int .i64 (wrap64 (1 + t183)))]) (fun s_ w' => (w'.cell? ⟨gb181, 0, none⟩ = some (.int .i64 a1_0) ∧ w'.cell? ⟨gb181, 1, none⟩ = some (.slice A1_1 l1_1.length c1_1)) ∧ (w'.heap[gb181]? = some (.cells #[.int .i64 a1_0, .slice A1_1 l1_1.length c1_1] 25 (0, 0))) ∧ (w'.heap[gb182]? = some (.cells #[.int .i64 0, .int .i64 0, .int .i64 0] 30 (0, 0))) ∧ (IsS59 w0 w' g s0_0 t186) ∧ (KeepBut w w' g none) ∧ (Below w0.heap.size w0 w')) ?_ ?_
  rotate_left
  rotate_left
  ·skip
   rintro _ w14 ⟨hS_, h0_, h1_, h2_, h3_, h4_⟩
   replace BK181 : Aside0 (w14.heap[gb181]? = some (.cells #[.int .i64 a1_0, .slice A1_1 l1_1.length c1_1] 25 (0, 0))) := ⟨h0_⟩
   replace BK182 : Aside0 (w14.heap[gb182]? = some (.cells #[.int .i64 0, .int .i64 0, .int .i64 0] 30 (0, 0))) := ⟨h1_⟩
   replace HI0 : Aside0 (IsS59 w0 w14 g s0_0 t186) := ⟨h2_⟩
   replace HK : Aside0 (KeepBut w w14 g none) := ⟨h3_⟩
   replace HB : Aside0 (Below w0.heap.size w0 w14) := ⟨h4_⟩
   clear h0_ h1_ h2_ h3_ h4_
   have hHeld : w14.cell? ⟨gb181, 0, none⟩ = some (.int .i64 a1_0) ∧ w14.cell? ⟨gb181, 1, none⟩ = some (.slice A1_1 l1_1.length c1_1) := hS_
   refine norm_ (a' := ?_) ?_ ?_
   rotate_left
   ·simp only [putAll, Act.put, List.setIfInBounds_toArray, List.set_cons_zero, List.set_cons_succ]
    rfl
   refine two_ (i := 10) (j := 13) (Ni := some 16) (Nj := some 5) (ms 15 2047) (ms 15 9215) rfl rfl rfl rfl (two_of HT_.out (by kernel_rfl)) (by decide) (by decide) (fun K hK => ?_) (fun K hK => ?_)
   ·skip
    refine Kd.R_lit_step (Kd.int .i64) _ 3 ?hg (N := 16) ?hd (xs := ([(-1), 0, 3, 9, 99] : List Int)) (inner := [.int .i64 (-1), .int .i64 0, .int .i64 3, .int .i64 9, .int .i64 99]) (ok := fun _ => True) (okp := fun _ => True) ?hr ?hp (fun _ hk => hk) trivial (Below.refl _ _) (Nat.le_refl _) (by simp) ?_; (case hd => rfl); (case hg => rfl); (case hr => (go_simp; done)); (case hp => exact (Reps.one (show Kd.M (Kd.int .i64) _ _ _ (-1) [.int .i64 (-1)] from rfl) (Reps.one (show Kd.M (Kd.int .i64) _ _ _ 0 [.int .i64 0] from rfl) (Reps.one (show Kd.M (Kd.int .i64) _ _ _ 3 [.int .i64 3] from rfl) (Reps.one (show Kd.M (Kd.int .i64) _ _ _ 9 [.int .i64 9] from rfl) (Reps.one (show Kd.M (Kd.int .i64) _ _ _ 99 [.int .i64 99] from rfl) (Reps.none _ _)))))))
    intro v188 w15 ho16 hb hg_ hnew_
    clear hg_ hnew_
    (rw [← Ny187.out] at ho16)
    have HO189 := ak (Kd.R_lower ho16 (keep_size (w := w) (g := g) (row := none) (by repeat ((with_reducible exact HK.out)))))
    replace BK181 := ak (blk_below (bk BK181) hb)
    replace BK182 := ak (blk_below (bk BK182) hb)
    replace HK := ak (KeepBut.trans (by repeat ((with_reducible exact HK.out))) (KeepBut.of_below hb g none) (.inl rfl))
    replace HB := ak (below_step (by repeat ((with_reducible exact HB.out))) hb)
    replace HI0 := ak (IsS59.below (by repeat ((with_reducible exact HI0.out))) hb)
    clear hb ho16
    refine hK.out _ _ ⟨(blk_cell BK181.out 0).trans rfl, (blk_cell BK181.out 1).trans rfl⟩ (fun hHeld => ?_)
    clear hK K
    refine norm_ (a' := ?_) ?_ ?_
    rotate_left
    ·show Act.put _ (some 16) _ = _
     simp only [SX]
     rfl
    exact norm_ (by (simp only [putAll, Act.put, List.setIfInBounds_toArray, List.set_cons_zero, List.set_cons_succ]; done)) (hJ1_8_10 (v188) _ ⟨hHeld, (rk HO189), (bk BK181), (bk BK182), (by repeat ((with_reducible exact HI0.out))), (by repeat ((with_reducible exact HK.out))), (by repeat ((with_reducible exact HB.out)))⟩)
   skip
   refine box_step ?hg (N := 5) ?hd (cs := #[.int .i64 0, .int .i64 0, .int .i64 0]) (t := 30) ?hr ?_; (case hd => rfl); (case hg => rfl); (case hr => (go_simp; done))
   intro gb192 hg w15 hbox hb
   replace HB := ak (below_step (by repeat ((with_reducible exact HB.out))) hb)
   have BK192 := ak (hbox)
   have GW192 := ak ((by rw [hg]; exact (keep_size (w := w) (g := g) (row := none) (by repeat ((with_reducible exact HK.out)))) : w.heap.size ≤ gb192))
   have GE192 := ak ((Nat.le_trans HW0.out (by rw [hg]; exact (keep_size (w := w) (g := g) (row := none) (by repeat ((with_reducible exact HK.out)))) : w.heap.size ≤ gb192) : w0.heap.size ≤ gb192))
   replace HK := ak (KeepBut.trans (by repeat ((with_reducible exact HK.out))) (KeepBut.of_below hb g none) (.inl rfl))
   have NB181_192 := ak ((by rw [hg]; exact Nat.ne_of_lt (blk_lt (bk BK181)) : gb181 ≠ gb192))
   have NB192_181 := ak ((by rw [hg]; exact Nat.ne_of_gt (blk_lt (bk BK181)) : gb192 ≠ gb181))
   replace BK181 := ak (blk_below (bk BK181) hb)
   have NB182_192 := ak ((by rw [hg]; exact Nat.ne_of_lt (blk_lt (bk BK182)) : gb182 ≠ gb192))
   have NB192_182 := ak ((by rw [hg]; exact Nat.ne_of_gt (blk_lt (bk BK182)) : gb192 ≠ gb182))
   replace BK182 := ak (blk_below (bk BK182) hb)
   have NB0_192 := ak ((by rw [hg]; exact Nat.ne_of_lt (IsS59.lt (show IsS59 w0 _ g s0_0 t186 from by repeat ((with_reducible exact HI0.out)))) : g ≠ gb192))
   have NB192_0 := ak ((by rw [hg]; exact Nat.ne_of_gt (IsS59.lt (show IsS59 w0 _ g s0_0 t186 from by repeat ((with_reducible exact HI0.out)))) : gb192 ≠ g))
   replace HI0 := ak (IsS59.below (by repeat ((with_reducible exact HI0.out))) hb)
   clear hb hbox hg
   refine hK.out _ _ ⟨(blk_cell BK181.out 0).trans rfl, (blk_cell BK181.out 1).trans rfl⟩ (fun hHeld => ?_)
   clear hK K
   refine norm_ (a' := ?_) ?_ ?_
   rotate_left
   ·show Act.put _ (some 5) _ = _
    simp only [SX]
    rfl
   exact norm_ (by (simp only [putAll, Act.put, List.setIfInBounds_toArray, List.set_cons_zero, List.set_cons_succ]; done)) (hJ1_8_13 (gb192) _ ⟨hHeld, (bk BK181), (bk BK182), (bk BK192), GW192.out, GE192.out, NB0_192.out, NB192_0.out, NB181_192.out, NB192_181.out, NB182_192.out, NB192_182.out, (by repeat ((with_reducible exact HI0.out))), (by repeat ((with_reducible exact HK.out))), (by repeat ((with_reducible exact HB.out)))⟩)
  intro hJ1_8
  refine join_ (σ := Value) 5 (ms 15 1791) (fun s_ => [(7, .int .i64 t183), (16, s_), (8, .int .i64 (wrap64 (1 + t183)))]) (fun s_ w' => (w'.cell? ⟨gb181, 0, none⟩ = some (.int .i64 a1_0) ∧ w'.cell? ⟨gb181, 1, none⟩ = some (.slice A1_1 l1_1.length c1_1)) ∧ (Kd.R (Kd.int .i64) 3 w' w.heap.size (fun _ => True) s_ y187) ∧ (w'.heap[gb181]? = some (.cells #[.int .i64 a1_0, .slice A1_1 l1_1.length c1_1] 25 (0, 0))) ∧ (w'.heap[gb182]? = some (.cells #[.int .i64 0, .int .i64 0, .int .i64 0] 30 (0, 0))) ∧ (IsS59 w0 w' g s0_0 t184) ∧ (KeepBut w w' g none) ∧ (Below w0.heap.size w0 w')) ?_ ?_
  rotate_left
  rotate_left
  ·skip
   rintro v188 w15 ⟨hS_, h0_, h1_, h2_, h3_, h4_, h5_⟩
   have HO189 : Aside0 (Kd.R (Kd.int .i64) 3 w15 w.heap.size (fun _ => True) v188 y187) := ⟨h0_⟩
   replace BK181 : Aside0 (w15.heap[gb181]? = some (.cells #[.int .i64 a1_0, .slice A1_1 l1_1.length c1_1] 25 (0, 0))) := ⟨h1_⟩
   replace BK182 : Aside0 (w15.heap[gb182]? = some (.cells #[.int .i64 0, .int .i64 0, .int .i64 0] 30 (0, 0))) := ⟨h2_⟩
   replace HI0 : Aside0 (IsS59 w0 w15 g s0_0 t184) := ⟨h3_⟩
   replace HK : Aside0 (KeepBut w w15 g none) := ⟨h4_⟩
   replace HB : Aside0 (Below w0.heap.size w0 w15) := ⟨h5_⟩
   clear h0_ h1_ h2_ h3_ h4_ h5_
   have hHeld : w15.cell? ⟨gb181, 0, none⟩ = some (.int .i64 a1_0) ∧ w15.cell? ⟨gb181, 1, none⟩ = some (.slice A1_1 l1_1.length c1_1) := hS_
   refine norm_ (a' := ?_) ?_ ?_
   rotate_left
   ·simp only [putAll, Act.put, List.setIfInBounds_toArray, List.set_cons_zero, List.set_cons_succ]
    rfl
   refine two_ (i := 8) (j := 13) (Ni := some 14) (Nj := some 5) (ms 15 2047) (ms 15 9983) rfl rfl rfl rfl (two_of HT_.out (by kernel_rfl)) (by decide) (by decide) (fun K hK => ?_) (fun K hK => ?_)
   ·skip
    refine goes_ Try.func27 (by kernel_rfl) rfl #[.pointer (some ⟨g, 0, none⟩), .int .i64 (wrap64 ((l1_1.length : Int) + 1))] (by rfl) rfl rfl (by (try simp only [List.map_toArray, List.map_cons, List.map_nil]); rfl) ?_
    with_reducible refine (spec_l30Rd_pick.calls k g s0_0 t184 (wrap64 ((l1_1.length : Int) + 1)) t185 t186 w0 _ ?side1 ?side2 A4.out).mono ?_
    (case side1 => repeat ((with_reducible exact HI0.out)))
    (case side2 => repeat ((with_reducible exact HB.out)))
    rintro e w16 ⟨rfl, hi, hb, hk⟩
    refine ⟨_, rfl, ?_⟩
    replace BK181 := ak (KeepBut.blk hk (g' := gb181) (o := .cells #[.int .i64 a1_0, .slice A1_1 l1_1.length c1_1] 25 (0, 0)) (bk BK181) NB181_0.out (by simp))
    replace BK182 := ak (KeepBut.blk hk (g' := gb182) (o := .cells #[.int .i64 0, .int .i64 0, .int .i64 0] 30 (0, 0)) (bk BK182) NB182_0.out (by simp))
    replace HO189 := ak (Kd.R_mono (Kd.R_keep (IsS59.apart (show IsS59 w0 _ g s0_0 t184 from by repeat ((with_reducible exact HI0.out))) (rk HO189) (by decide)) hk (fun _ h => h.2)) (fun _ h => h.1))
    replace HK := ak (KeepBut.trans (by repeat ((with_reducible exact HK.out))) hk (.inl rfl))
    replace HB := ak (hb)
    replace HI0 := ak (hi)
    (try clear hb)
    (try clear hb2)
    (try clear hk)
    (try clear hi)
    refine hK.out _ _ ⟨(blk_cell BK181.out 0).trans rfl, (blk_cell BK181.out 1).trans rfl⟩ (fun hHeld => ?_)
    clear hK K
    refine norm_ (a' := ?_) ?_ ?_
    rotate_left
    ·show Act.put _ (some 14) _ = _
     simp only [SX]
     rfl
    exact norm_ (by (simp only [putAll, Act.put, List.setIfInBounds_toArray, List.set_cons_zero, List.set_cons_succ]; done)) (hJ1_8_10 (v188) _ ⟨hHeld, (rk HO189), (bk BK181), (bk BK182), (by repeat ((with_reducible exact HI0.out))), (by repeat ((with_reducible exact HK.out))), (by repeat ((with_reducible exact HB.out)))⟩)
   skip
   refine box_step ?hg (N := 5) ?hd (cs := #[.int .i64 0, .int .i64 0, .int .i64 0]) (t := 30) ?hr ?_; (case hd => rfl); (case hg => rfl); (case hr => (go_simp; done))
   intro gb192 hg w16 hbox hb
   replace HO189 := ak (Kd.R_below (rk HO189) hb)
   replace HB := ak (below_step (by repeat ((with_reducible exact HB.out))) hb)
   have BK192 := ak (hbox)
   have GW192 := ak ((by rw [hg]; exact (keep_size (w := w) (g := g) (row := none) (by repeat ((with_reducible exact HK.out)))) : w.heap.size ≤ gb192))
   have GE192 := ak ((Nat.le_trans HW0.out (by rw [hg]; exact (keep_size (w := w) (g := g) (row := none) (by repeat ((with_reducible exact HK.out)))) : w.heap.size ≤ gb192) : w0.heap.size ≤ gb192))
   replace HK := ak (KeepBut.trans (by repeat ((with_reducible exact HK.out))) (KeepBut.of_below hb g none) (.inl rfl))
   have NB181_192 := ak ((by rw [hg]; exact Nat.ne_of_lt (blk_lt (bk BK181)) : gb181 ≠ gb192))
   have NB192_181 := ak ((by rw [hg]; exact Nat.ne_of_gt (blk_lt (bk BK181)) : gb192 ≠ gb181))
   replace BK181 := ak (blk_below (bk BK181) hb)
   have NB182_192 := ak ((by rw [hg]; exact Nat.ne_of_lt (blk_lt (bk BK182)) : gb182 ≠ gb192))
   have NB192_182 := ak ((by rw [hg]; exact Nat.ne_of_gt (blk_lt (bk BK182)) : gb192 ≠ gb182))
   replace BK182 := ak (blk_below (bk BK182) hb)
   have NB0_192 := ak ((by rw [hg]; exact Nat.ne_of_lt (IsS59.lt (show IsS59 w0 _ g s0_0 t184 from by repeat ((with_reducible exact HI0.out)))) : g ≠ gb192))
   have NB192_0 := ak ((by rw [hg]; exact Nat.ne_of_gt (IsS59.lt (show IsS59 w0 _ g s0_0 t184 from by repeat ((with_reducible exact HI0.out)))) : gb192 ≠ g))
   replace HI0 := ak (IsS59.below (by repeat ((with_reducible exact HI0.out))) hb)
   clear hb hbox hg
   refine hK.out _ _ ⟨(blk_cell BK181.out 0).trans rfl, (blk_cell BK181.out 1).trans rfl⟩ (fun hHeld => ?_)
   clear hK K
   refine norm_ (a' := ?_) ?_ ?_
   rotate_left
   ·show Act.put _ (some 5) _ = _
    simp only [SX]
    rfl
   exact norm_ (by (simp only [putAll, Act.put, List.setIfInBounds_toArray, List.set_cons_zero, List.set_cons_succ]; done)) (hJ1_10_13 (v188, gb192) _ ⟨hHeld, (rk HO189), (bk BK181), (bk BK182), (bk BK192), GW192.out, GE192.out, NB0_192.out, NB192_0.out, NB181_192.out, NB192_181.out, NB182_192.out, NB192_182.out, (by repeat ((with_reducible exact HI0.out))), (by repeat ((with_reducible exact HK.out))), (by repeat ((with_reducible exact HB.out)))⟩)
  intro hJ1_10
  refine join_ (σ := Nat) 5 (ms 15 8959) (fun s_ => [(7, .int .i64 t183), (5, .pointer (some ⟨s_, 0, none⟩)), (8, .int .i64 (wrap64 (1 + t183)))]) (fun s_ w' => (w'.cell? ⟨gb181, 0, none⟩ = some (.int .i64 a1_0) ∧ w'.cell? ⟨gb181, 1, none⟩ = some (.slice A1_1 l1_1.length c1_1)) ∧ (w'.heap[gb181]? = some (.cells #[.int .i64 a1_0, .slice A1_1 l1_1.length c1_1] 25 (0, 0))) ∧ (w'.heap[gb182]? = some (.cells #[.int .i64 0, .int .i64 0, .int .i64 0] 30 (0, 0))) ∧ (w'.heap[s_]? = some (.cells #[.int .i64 0, .int .i64 0, .int .i64 0] 30 (0, 0))) ∧ (w.heap.size ≤ s_) ∧ (w0.heap.size ≤ s_) ∧ (g ≠ s_) ∧ (s_ ≠ g) ∧ (gb181 ≠ s_) ∧ (s_ ≠ gb181) ∧ (gb182 ≠ s_) ∧ (s_ ≠ gb182) ∧ (IsS59 w0 w' g s0_0 t184) ∧ (KeepBut w w' g none) ∧ (Below w0.heap.size w0 w')) ?_ ?_
  rotate_left
  rotate_left
  ·skip
   rintro gb192 w14 ⟨hS_, h0_, h1_, h2_, h3_, h4_, h5_, h6_, h7_, h8_, h9_, h10_, h11_, h12_, h13_⟩
   replace BK181 : Aside0 (w14.heap[gb181]? = some (.cells #[.int .i64 a1_0, .slice A1_1 l1_1.length c1_1] 25 (0, 0))) := ⟨h0_⟩
   replace BK182 : Aside0 (w14.heap[gb182]? = some (.cells #[.int .i64 0, .int .i64 0, .int .i64 0] 30 (0, 0))) := ⟨h1_⟩
   have BK192 : Aside0 (w14.heap[gb192]? = some (.cells #[.int .i64 0, .int .i64 0, .int .i64 0] 30 (0, 0))) := ⟨h2_⟩
   have GW192 : Aside0 (w.heap.size ≤ gb192) := ⟨h3_⟩
   have GE192 : Aside0 (w0.heap.size ≤ gb192) := ⟨h4_⟩
   have NB0_192 : Aside0 (g ≠ gb192) := ⟨h5_⟩
   have NB192_0 : Aside0 (gb192 ≠ g) := ⟨h6_⟩
   have NB181_192 : Aside0 (gb181 ≠ gb192) := ⟨h7_⟩
   have NB192_181 : Aside0 (gb192 ≠ gb181) := ⟨h8_⟩
   have NB182_192 : Aside0 (gb182 ≠ gb192) := ⟨h9_⟩
   have NB192_182 : Aside0 (gb192 ≠ gb182) := ⟨h10_⟩
   replace HI0 : Aside0 (IsS59 w0 w14 g s0_0 t184) := ⟨h11_⟩
   replace HK : Aside0 (KeepBut w w14 g none) := ⟨h12_⟩
   replace HB : Aside0 (Below w0.heap.size w0 w14) := ⟨h13_⟩
   clear h0_ h1_ h2_ h3_ h4_ h5_ h6_ h7_ h8_ h9_ h10_ h11_ h12_ h13_
   have hHeld : w14.cell? ⟨gb181, 0, none⟩ = some (.int .i64 a1_0) ∧ w14.cell? ⟨gb181, 1, none⟩ = some (.slice A1_1 l1_1.length c1_1) := hS_
   refine norm_ (a' := ?_) ?_ ?_
   rotate_left
   ·simp only [putAll, Act.put, List.setIfInBounds_toArray, List.set_cons_zero, List.set_cons_succ]
    rfl
   refine two_ (i := 8) (j := 10) (Ni := some 14) (Nj := some 16) (ms 15 9215) (ms 15 9983) rfl rfl rfl rfl (two_of HT_.out (by kernel_rfl)) (by decide) (by decide) (fun K hK => ?_) (fun K hK => ?_)
   ·skip
    refine goes_ Try.func27 (by kernel_rfl) rfl #[.pointer (some ⟨g, 0, none⟩), .int .i64 (wrap64 ((l1_1.length : Int) + 1))] (by rfl) rfl rfl (by (try simp only [List.map_toArray, List.map_cons, List.map_nil]); rfl) ?_
    with_reducible refine (spec_l30Rd_pick.calls k g s0_0 t184 (wrap64 ((l1_1.length : Int) + 1)) t185 t186 w0 _ ?side1 ?side2 A4.out).mono ?_
    (case side1 => repeat ((with_reducible exact HI0.out)))
    (case side2 => repeat ((with_reducible exact HB.out)))
    rintro e w15 ⟨rfl, hi, hb, hk⟩
    refine ⟨_, rfl, ?_⟩
    replace BK181 := ak (KeepBut.blk hk (g' := gb181) (o := .cells #[.int .i64 a1_0, .slice A1_1 l1_1.length c1_1] 25 (0, 0)) (bk BK181) NB181_0.out (by simp))
    replace BK182 := ak (KeepBut.blk hk (g' := gb182) (o := .cells #[.int .i64 0, .int .i64 0, .int .i64 0] 30 (0, 0)) (bk BK182) NB182_0.out (by simp))
    replace BK192 := ak (KeepBut.blk hk (g' := gb192) (o := .cells #[.int .i64 0, .int .i64 0, .int .i64 0] 30 (0, 0)) (bk BK192) NB192_0.out (by simp))
    replace HK := ak (KeepBut.trans (by repeat ((with_reducible exact HK.out))) hk (.inl rfl))
    replace HB := ak (hb)
    replace HI0 := ak (hi)
    (try clear hb)
    (try clear hb2)
    (try clear hk)
    (try clear hi)
    refine hK.out _ _ ⟨(blk_cell BK181.out 0).trans rfl, (blk_cell BK181.out 1).trans rfl⟩ (fun hHeld => ?_)
    clear hK K
    refine norm_ (a' := ?_) ?_ ?_
    rotate_left
    ·show Act.put _ (some 14) _ = _
     simp only [SX]
     rfl
    exact norm_ (by (simp only [putAll, Act.put, List.setIfInBounds_toArray, List.set_cons_zero, List.set_cons_succ]; done)) (hJ1_8_13 (gb192) _ ⟨hHeld, (bk BK181), (bk BK182), (bk BK192), GW192.out, GE192.out, NB0_192.out, NB192_0.out, NB181_192.out, NB192_181.out, NB182_192.out, NB192_182.out, (by repeat ((with_reducible exact HI0.out))), (by repeat ((with_reducible exact HK.out))), (by repeat ((with_reducible exact HB.out)))⟩)
   skip
   refine Kd.R_lit_step (Kd.int .i64) _ 3 ?hg (N := 16) ?hd (xs := ([(-1), 0, 3, 9, 99] : List Int)) (inner := [.int .i64 (-1), .int .i64 0, .int .i64 3, .int .i64 9, .int .i64 99]) (ok := fun _ => True) (okp := fun _ => True) ?hr ?hp (fun _ hk => hk) trivial (Below.refl _ _) (Nat.le_refl _) (by simp) ?_; (case hd => rfl); (case hg => rfl); (case hr => (go_simp; done)); (case hp => exact (Reps.one (show Kd.M (Kd.int .i64) _ _ _ (-1) [.int .i64 (-1)] from rfl) (Reps.one (show Kd.M (Kd.int .i64) _ _ _ 0 [.int .i64 0] from rfl) (Reps.one (show Kd.M (Kd.int .i64) _ _ _ 3 [.int .i64 3] from rfl) (Reps.one (show Kd.M (Kd.int .i64) _ _ _ 9 [.int .i64 9] from rfl) (Reps.one (show Kd.M (Kd.int .i64) _ _ _ 99 [.int .i64 99] from rfl) (Reps.none _ _)))))))
   intro v188 w15 ho16 hb hg_ hnew_
   clear hg_ hnew_
   (rw [← Ny187.out] at ho16)
   have HO189 := ak (Kd.R_lower ho16 (keep_size (w := w) (g := g) (row := none) (by repeat ((with_reducible exact HK.out)))))
   replace BK181 := ak (blk_below (bk BK181) hb)
   replace BK182 := ak (blk_below (bk BK182) hb)
   replace BK192 := ak (blk_below (bk BK192) hb)
   replace HK := ak (KeepBut.trans (by repeat ((with_reducible exact HK.out))) (KeepBut.of_below hb g none) (.inl rfl))
   replace HB := ak (below_step (by repeat ((with_reducible exact HB.out))) hb)
   replace HI0 := ak (IsS59.below (by repeat ((with_reducible exact HI0.out))) hb)
   clear hb ho16
   refine hK.out _ _ ⟨(blk_cell BK181.out 0).trans rfl, (blk_cell BK181.out 1).trans rfl⟩ (fun hHeld => ?_)
   clear hK K
   refine norm_ (a' := ?_) ?_ ?_
   rotate_left
   ·show Act.put _ (some 16) _ = _
    simp only [SX]
    rfl
   exact norm_ (by (simp only [putAll, Act.put, List.setIfInBounds_toArray, List.set_cons_zero, List.set_cons_succ]; done)) (hJ1_10_13 (v188, gb192) _ ⟨hHeld, (rk HO189), (bk BK181), (bk BK182), (bk BK192), GW192.out, GE192.out, NB0_192.out, NB192_0.out, NB181_192.out, NB192_181.out, NB182_192.out, NB192_182.out, (by repeat ((with_reducible exact HI0.out))), (by repeat ((with_reducible exact HK.out))), (by repeat ((with_reducible exact HB.out)))⟩)
  intro hJ1_13
  refine join_ (σ := Value × Nat) 6 (ms 15 9977) (fun s_ => [(16, s_.1), (5, .pointer (some ⟨s_.2, 0, none⟩))]) (fun s_ w' => (w'.cell? ⟨gb181, 0, none⟩ = some (.int .i64 a1_0) ∧ w'.cell? ⟨gb181, 1, none⟩ = some (.slice A1_1 l1_1.length c1_1)) ∧ (Kd.R (Kd.int .i64) 3 w' w.heap.size (fun _ => True) s_.1 y187) ∧ (w'.heap[gb181]? = some (.cells #[.int .i64 a1_0, .slice A1_1 l1_1.length c1_1] 25 (0, 0))) ∧ (w'.heap[gb182]? = some (.cells #[.int .i64 0, .int .i64 0, .int .i64 0] 30 (0, 0))) ∧ (w'.heap[s_.2]? = some (.cells #[.int .i64 0, .int .i64 0, .int .i64 0] 30 (0, 0))) ∧ (w.heap.size ≤ s_.2) ∧ (w0.heap.size ≤ s_.2) ∧ (g ≠ s_.2) ∧ (s_.2 ≠ g) ∧ (gb181 ≠ s_.2) ∧ (s_.2 ≠ gb181) ∧ (gb182 ≠ s_.2) ∧ (s_.2 ≠ gb182) ∧ (IsS59 w0 w' g s0_0 s0_1) ∧ (KeepBut w w' g none) ∧ (Below w0.heap.size w0 w')) ?_ ?_
  rotate_left
  rotate_left
  ·skip
   rintro ⟨v188, gb192⟩ w15 ⟨hS_, h0_, h1_, h2_, h3_, h4_, h5_, h6_, h7_, h8_, h9_, h10_, h11_, h12_, h13_, h14_⟩
   have HO189 : Aside0 (Kd.R (Kd.int .i64) 3 w15 w.heap.size (fun _ => True) v188 y187) := ⟨h0_⟩
   replace BK181 : Aside0 (w15.heap[gb181]? = some (.cells #[.int .i64 a1_0, .slice A1_1 l1_1.length c1_1] 25 (0, 0))) := ⟨h1_⟩
   replace BK182 : Aside0 (w15.heap[gb182]? = some (.cells #[.int .i64 0, .int .i64 0, .int .i64 0] 30 (0, 0))) := ⟨h2_⟩
   have BK192 : Aside0 (w15.heap[gb192]? = some (.cells #[.int .i64 0, .int .i64 0, .int .i64 0] 30 (0, 0))) := ⟨h3_⟩
   have GW192 : Aside0 (w.heap.size ≤ gb192) := ⟨h4_⟩
   have GE192 : Aside0 (w0.heap.size ≤ gb192) := ⟨h5_⟩
   have NB0_192 : Aside0 (g ≠ gb192) := ⟨h6_⟩
   have NB192_0 : Aside0 (gb192 ≠ g) := ⟨h7_⟩
   have NB181_192 : Aside0 (gb181 ≠ gb192) := ⟨h8_⟩
   have NB192_181 : Aside0 (gb192 ≠ gb181) := ⟨h9_⟩
   have NB182_192 : Aside0 (gb182 ≠ gb192) := ⟨h10_⟩
   have NB192_182 : Aside0 (gb192 ≠ gb182) := ⟨h11_⟩
   replace HI0 : Aside0 (IsS59 w0 w15 g s0_0 s0_1) := ⟨h12_⟩
   replace HK : Aside0 (KeepBut w w15 g none) := ⟨h13_⟩
   replace HB : Aside0 (Below w0.heap.size w0 w15) := ⟨h14_⟩
   clear h0_ h1_ h2_ h3_ h4_ h5_ h6_ h7_ h8_ h9_ h10_ h11_ h12_ h13_ h14_
   have hHeld : w15.cell? ⟨gb181, 0, none⟩ = some (.int .i64 a1_0) ∧ w15.cell? ⟨gb181, 1, none⟩ = some (.slice A1_1 l1_1.length c1_1) := hS_
   refine norm_ (a' := ?_) ?_ ?_
   rotate_left
   ·simp only [putAll, Act.put, List.setIfInBounds_toArray, List.set_cons_zero, List.set_cons_succ]
    rfl
   refine one_ (i := 1) (N := some 7) (ms 15 9979) rfl rfl (one_of HT_.out (by kernel_rfl)) (by decide) (fun K hK => ?_)
   refine goes_ Try.func27 (by kernel_rfl) rfl #[.pointer (some ⟨g, 0, none⟩), .int .i64 6] (by rfl) rfl rfl (by (try simp only [List.map_toArray, List.map_cons, List.map_nil]); rfl) ?_
   with_reducible refine (spec_l30Rd_pick.calls k g s0_0 s0_1 6 t183 t184 w0 _ ?side1 ?side2 A3.out).mono ?_
   (case side1 => repeat ((with_reducible exact HI0.out)))
   (case side2 => repeat ((with_reducible exact HB.out)))
   rintro e w16 ⟨rfl, hi, hb, hk⟩
   refine ⟨_, rfl, ?_⟩
   replace BK181 := ak (KeepBut.blk hk (g' := gb181) (o := .cells #[.int .i64 a1_0, .slice A1_1 l1_1.length c1_1] 25 (0, 0)) (bk BK181) NB181_0.out (by simp))
   replace BK182 := ak (KeepBut.blk hk (g' := gb182) (o := .cells #[.int .i64 0, .int .i64 0, .int .i64 0] 30 (0, 0)) (bk BK182) NB182_0.out (by simp))
   replace HO189 := ak (Kd.R_mono (Kd.R_keep (IsS59.apart (show IsS59 w0 _ g s0_0 s0_1 from by repeat ((with_reducible exact HI0.out))) (rk HO189) (by decide)) hk (fun _ h => h.2)) (fun _ h => h.1))
   replace BK192 := ak (KeepBut.blk hk (g' := gb192) (o := .cells #[.int .i64 0, .int .i64 0, .int .i64 0] 30 (0, 0)) (bk BK192) NB192_0.out (by simp))
   replace HK := ak (KeepBut.trans (by repeat ((with_reducible exact HK.out))) hk (.inl rfl))
   replace HB := ak (hb)
   replace HI0 := ak (hi)
   (try clear hb)
   (try clear hb2)
   (try clear hk)
   (try clear hi)
   refine hK.out _ _ ⟨(blk_cell BK181.out 0).trans rfl, (blk_cell BK181.out 1).trans rfl⟩ (fun hHeld => ?_)
   clear hK K
   refine norm_ (a' := ?_) ?_ ?_
   rotate_left
   ·show Act.put _ (some 7) _ = _
    simp only [SX]
    rfl
   refine pu 2 8 ?_ (ms 15 9983) rfl rfl HT_ (by kernel_rfl) (fun _ _ _ h => h) (by rfl) ?_ ?_ ?_ ?_
   rotate_left
   ·intro w'
    go_simp
    with_reducible rfl
   rotate_left
   ·simp only [SX]
    rfl
   exact norm_ (by (simp only [putAll, Act.put, List.setIfInBounds_toArray, List.set_cons_zero, List.set_cons_succ]; done)) (hJ1_10_13 (v188, gb192) _ ⟨hHeld, (rk HO189), (bk BK181), (bk BK182), (bk BK192), GW192.out, GE192.out, NB0_192.out, NB192_0.out, NB181_192.out, NB192_181.out, NB182_192.out, NB192_182.out, (by repeat ((with_reducible exact HI0.out))), (by repeat ((with_reducible exact HK.out))), (by repeat ((with_reducible exact HB.out)))⟩)
  intro hJ10_13
  refine join_ (σ := Unit) 6 (ms 15 767) (fun s_ => [(7, .int .i64 t183), (8, .int .i64 (wrap64 (1 + t183)))]) (fun s_ w' => (w'.cell? ⟨gb181, 0, none⟩ = some (.int .i64 a1_0) ∧ w'.cell? ⟨gb181, 1, none⟩ = some (.slice A1_1 l1_1.length c1_1)) ∧ (w'.heap[gb181]? = some (.cells #[.int .i64 a1_0, .slice A1_1 l1_1.length c1_1] 25 (0, 0))) ∧ (w'.heap[gb182]? = some (.cells #[.int .i64 0, .int .i64 0, .int .i64 0] 30 (0, 0))) ∧ (IsS59 w0 w' g s0_0 t184) ∧ (KeepBut w w' g none) ∧ (Below w0.heap.size w0 w')) ?_ ?_
  rotate_left
  rotate_left
  ·skip
   rintro _ w13 ⟨hS_, h0_, h1_, h2_, h3_, h4_⟩
   replace BK181 : Aside0 (w13.heap[gb181]? = some (.cells #[.int .i64 a1_0, .slice A1_1 l1_1.length c1_1] 25 (0, 0))) := ⟨h0_⟩
   replace BK182 : Aside0 (w13.heap[gb182]? = some (.cells #[.int .i64 0, .int .i64 0, .int .i64 0] 30 (0, 0))) := ⟨h1_⟩
   replace HI0 : Aside0 (IsS59 w0 w13 g s0_0 t184) := ⟨h2_⟩
   replace HK : Aside0 (KeepBut w w13 g none) := ⟨h3_⟩
   replace HB : Aside0 (Below w0.heap.size w0 w13) := ⟨h4_⟩
   clear h0_ h1_ h2_ h3_ h4_
   have hHeld : w13.cell? ⟨gb181, 0, none⟩ = some (.int .i64 a1_0) ∧ w13.cell? ⟨gb181, 1, none⟩ = some (.slice A1_1 l1_1.length c1_1) := hS_
   refine norm_ (a' := ?_) ?_ ?_
   rotate_left
   ·simp only [putAll, Act.put, List.setIfInBounds_toArray, List.set_cons_zero, List.set_cons_succ]
    rfl
   refine three_ (i := 8) (j := 10) (k := 13) (Ni := some 14) (Nj := some 16) (Nk := some 5) (ms 15 1023) (ms 15 1791) (ms 15 8959) rfl rfl rfl rfl rfl rfl (three_of HT_.out (by kernel_rfl)) (by decide) (by decide) (by decide) (fun K hK => ?_) (fun K hK => ?_) (fun K hK => ?_)
   ·skip
    refine goes_ Try.func27 (by kernel_rfl) rfl #[.pointer (some ⟨g, 0, none⟩), .int .i64 (wrap64 ((l1_1.length : Int) + 1))] (by rfl) rfl rfl (by (try simp only [List.map_toArray, List.map_cons, List.map_nil]); rfl) ?_
    with_reducible refine (spec_l30Rd_pick.calls k g s0_0 t184 (wrap64 ((l1_1.length : Int) + 1)) t185 t186 w0 _ ?side1 ?side2 A4.out).mono ?_
    (case side1 => repeat ((with_reducible exact HI0.out)))
    (case side2 => repeat ((with_reducible exact HB.out)))
    rintro e w14 ⟨rfl, hi, hb, hk⟩
    refine ⟨_, rfl, ?_⟩
    replace BK181 := ak (KeepBut.blk hk (g' := gb181) (o := .cells #[.int .i64 a1_0, .slice A1_1 l1_1.length c1_1] 25 (0, 0)) (bk BK181) NB181_0.out (by simp))
    replace BK182 := ak (KeepBut.blk hk (g' := gb182) (o := .cells #[.int .i64 0, .int .i64 0, .int .i64 0] 30 (0, 0)) (bk BK182) NB182_0.out (by simp))
    replace HK := ak (KeepBut.trans (by repeat ((with_reducible exact HK.out))) hk (.inl rfl))
    replace HB := ak (hb)
    replace HI0 := ak (hi)
    (try clear hb)
    (try clear hb2)
    (try clear hk)
    (try clear hi)
    refine hK.out _ _ ⟨(blk_cell BK181.out 0).trans rfl, (blk_cell BK181.out 1).trans rfl⟩ (fun hHeld => ?_)
    clear hK K
    refine norm_ (a' := ?_) ?_ ?_
    rotate_left
    ·show Act.put _ (some 14) _ = _
     simp only [SX]
     rfl
    exact norm_ (by (simp only [putAll, Act.put, List.setIfInBounds_toArray, List.set_cons_zero, List.set_cons_succ]; done)) (hJ1_8 () _ ⟨hHeld, (bk BK181), (bk BK182), (by repeat ((with_reducible exact HI0.out))), (by repeat ((with_reducible exact HK.out))), (by repeat ((with_reducible exact HB.out)))⟩)
   ·skip
    refine Kd.R_lit_step (Kd.int .i64) _ 3 ?hg (N := 16) ?hd (xs := ([(-1), 0, 3, 9, 99] : List Int)) (inner := [.int .i64 (-1), .int .i64 0, .int .i64 3, .int .i64 9, .int .i64 99]) (ok := fun _ => True) (okp := fun _ => True) ?hr ?hp (fun _ hk => hk) trivial (Below.refl _ _) (Nat.le_refl _) (by simp) ?_; (case hd => rfl); (case hg => rfl); (case hr => (go_simp; done)); (case hp => exact (Reps.one (show Kd.M (Kd.int .i64) _ _ _ (-1) [.int .i64 (-1)] from rfl) (Reps.one (show Kd.M (Kd.int .i64) _ _ _ 0 [.int .i64 0] from rfl) (Reps.one (show Kd.M (Kd.int .i64) _ _ _ 3 [.int .i64 3] from rfl) (Reps.one (show Kd.M (Kd.int .i64) _ _ _ 9 [.int .i64 9] from rfl) (Reps.one (show Kd.M (Kd.int .i64) _ _ _ 99 [.int .i64 99] from rfl) (Reps.none _ _)))))))
    intro v188 w14 ho15 hb hg_ hnew_
    clear hg_ hnew_
    (rw [← Ny187.out] at ho15)
    have HO189 := ak (Kd.R_lower ho15 (keep_size (w := w) (g := g) (row := none) (by repeat ((with_reducible exact HK.out)))))
    replace BK181 := ak (blk_below (bk BK181) hb)
    replace BK182 := ak (blk_below (bk BK182) hb)
    replace HK := ak (KeepBut.trans (by repeat ((with_reducible exact HK.out))) (KeepBut.of_below hb g none) (.inl rfl))
    replace HB := ak (below_step (by repeat ((with_reducible exact HB.out))) hb)
    replace HI0 := ak (IsS59.below (by repeat ((with_reducible exact HI0.out))) hb)
    clear hb ho15
    refine hK.out _ _ ⟨(blk_cell BK181.out 0).trans rfl, (blk_cell BK181.out 1).trans rfl⟩ (fun hHeld => ?_)
    clear hK K
    refine norm_ (a' := ?_) ?_ ?_
    rotate_left
    ·show Act.put _ (some 16) _ = _
     simp only [SX]
     rfl
    exact norm_ (by (simp only [putAll, Act.put, List.setIfInBounds_toArray, List.set_cons_zero, List.set_cons_succ]; done)) (hJ1_10 (v188) _ ⟨hHeld, (rk HO189), (bk BK181), (bk BK182), (by repeat ((with_reducible exact HI0.out))), (by repeat ((with_reducible exact HK.out))), (by repeat ((with_reducible exact HB.out)))⟩)
   skip
   refine box_step ?hg (N := 5) ?hd (cs := #[.int .i64 0, .int .i64 0, .int .i64 0]) (t := 30) ?hr ?_; (case hd => rfl); (case hg => rfl); (case hr => (go_simp; done))
   intro gb192 hg w14 hbox hb
   replace HB := ak (below_step (by repeat ((with_reducible exact HB.out))) hb)
   have BK192 := ak (hbox)
   have GW192 := ak ((by rw [hg]; exact (keep_size (w := w) (g := g) (row := none) (by repeat ((with_reducible exact HK.out)))) : w.heap.size ≤ gb192))
   have GE192 := ak ((Nat.le_trans HW0.out (by rw [hg]; exact (keep_size (w := w) (g := g) (row := none) (by repeat ((with_reducible exact HK.out)))) : w.heap.size ≤ gb192) : w0.heap.size ≤ gb192))
   replace HK := ak (KeepBut.trans (by repeat ((with_reducible exact HK.out))) (KeepBut.of_below hb g none) (.inl rfl))
   have NB181_192 := ak ((by rw [hg]; exact Nat.ne_of_lt (blk_lt (bk BK181)) : gb181 ≠ gb192))
   have NB192_181 := ak ((by rw [hg]; exact Nat.ne_of_gt (blk_lt (bk BK181)) : gb192 ≠ gb181))
   replace BK181 := ak (blk_below (bk BK181) hb)
   have NB182_192 := ak ((by rw [hg]; exact Nat.ne_of_lt (blk_lt (bk BK182)) : gb182 ≠ gb192))
   have NB192_182 := ak ((by rw [hg]; exact Nat.ne_of_gt (blk_lt (bk BK182)) : gb192 ≠ gb182))
   replace BK182 := ak (blk_below (bk BK182) hb)
   have NB0_192 := ak ((by rw [hg]; exact Nat.ne_of_lt (IsS59.lt (show IsS59 w0 _ g s0_0 t184 from by repeat ((with_reducible exact HI0.out)))) : g ≠ gb192))
   have NB192_0 := ak ((by rw [hg]; exact Nat.ne_of_gt (IsS59.lt (show IsS59 w0 _ g s0_0 t184 from by repeat ((with_reducible exact HI0.out)))) : gb192 ≠ g))
   replace HI0 := ak (IsS59.below (by repeat ((with_reducible exact HI0.out))) hb)
   clear hb hbox hg
   refine hK.out _ _ ⟨(blk_cell BK181.out 0).trans rfl, (blk_cell BK181.out 1).trans rfl⟩ (fun hHeld => ?_)
   clear hK K
   refine norm_ (a' := ?_) ?_ ?_
   rotate_left
   ·show Act.put _ (some 5) _ = _
    simp only [SX]
    rfl
   exact norm_ (by (simp only [putAll, Act.put, List.setIfInBounds_toArray, List.set_cons_zero, List.set_cons_succ]; done)) (hJ1_13 (gb192) _ ⟨hHeld, (bk BK181), (bk BK182), (bk BK192), GW192.out, GE192.out, NB0_192.out, NB192_0.out, NB181_192.out, NB192_181.out, NB182_192.out, NB192_182.out, (by repeat ((with_reducible exact HI0.out))), (by repeat ((with_reducible exact HK.out))), (by repeat ((with_reducible exact HB.out)))⟩)
  intro hJ1
  refine join_ (σ := Value) 7 (ms 15 1785) (fun s_ => [(16, s_)]) (fun s_ w' => (w'.cell? ⟨gb181, 0, none⟩ = some (.int .i64 a1_0) ∧ w'.cell? ⟨gb181, 1, none⟩ = some (.slice A1_1 l1_1.length c1_1)) ∧ (Kd.R (Kd.int .i64) 3 w' w.heap.size (fun _ => True) s_ y187) ∧ (w'.heap[gb181]? = some (.cells #[.int .i64 a1_0, .slice A1_1 l1_1.length c1_1] 25 (0, 0))) ∧ (w'.heap[gb182]? = some (.cells #[.int .i64 0, .int .i64 0, .int .i64 0] 30 (0, 0))) ∧ (IsS59 w0 w' g s0_0 s0_1) ∧ (KeepBut w w' g none) ∧ (Below w0.heap.size w0 w')) ?_ ?_
  rotate_left
  rotate_left
  ·skip
   rintro v188 w14 ⟨hS_, h0_, h1_, h2_, h3_, h4_, h5_⟩
   have HO189 : Aside0 (Kd.R (Kd.int .i64) 3 w14 w.heap.size (fun _ => True) v188 y187) := ⟨h0_⟩
   replace BK181 : Aside0 (w14.heap[gb181]? = some (.cells #[.int .i64 a1_0, .slice A1_1 l1_1.length c1_1] 25 (0, 0))) := ⟨h1_⟩
   replace BK182 : Aside0 (w14.heap[gb182]? = some (.cells #[.int .i64 0, .int .i64 0, .int .i64 0] 30 (0, 0))) := ⟨h2_⟩
   replace HI0 : Aside0 (IsS59 w0 w14 g s0_0 s0_1) := ⟨h3_⟩
   replace HK : Aside0 (KeepBut w w14 g none) := ⟨h4_⟩
   replace HB : Aside0 (Below w0.heap.size w0 w14) := ⟨h5_⟩
   clear h0_ h1_ h2_ h3_ h4_ h5_
   have hHeld : w14.cell? ⟨gb181, 0, none⟩ = some (.int .i64 a1_0) ∧ w14.cell? ⟨gb181, 1, none⟩ = some (.slice A1_1 l1_1.length c1_1) := hS_
   refine norm_ (a' := ?_) ?_ ?_
   rotate_left
   ·simp only [putAll, Act.put, List.setIfInBounds_toArray, List.set_cons_zero, List.set_cons_succ]
    rfl
   refine two_ (i := 1) (j := 13) (Ni := some 7) (Nj := some 5) (ms 15 1787) (ms 15 9977) rfl rfl rfl rfl (two_of HT_.out (by kernel_rfl)) (by decide) (by decide) (fun K hK => ?_) (fun K hK => ?_)
   ·skip
    refine goes_ Try.func27 (by kernel_rfl) rfl #[.pointer (some ⟨g, 0, none⟩), .int .i64 6] (by rfl) rfl rfl (by (try simp only [List.map_toArray, List.map_cons, List.map_nil]); rfl) ?_
    with_reducible refine (spec_l30Rd_pick.calls k g s0_0 s0_1 6 t183 t184 w0 _ ?side1 ?side2 A3.out).mono ?_
    (case side1 => repeat ((with_reducible exact HI0.out)))
    (case side2 => repeat ((with_reducible exact HB.out)))
    rintro e w15 ⟨rfl, hi, hb, hk⟩
    refine ⟨_, rfl, ?_⟩
    replace BK181 := ak (KeepBut.blk hk (g' := gb181) (o := .cells #[.int .i64 a1_0, .slice A1_1 l1_1.length c1_1] 25 (0, 0)) (bk BK181) NB181_0.out (by simp))
    replace BK182 := ak (KeepBut.blk hk (g' := gb182) (o := .cells #[.int .i64 0, .int .i64 0, .int .i64 0] 30 (0, 0)) (bk BK182) NB182_0.out (by simp))
    replace HO189 := ak (Kd.R_mono (Kd.R_keep (IsS59.apart (show IsS59 w0 _ g s0_0 s0_1 from by repeat ((with_reducible exact HI0.out))) (rk HO189) (by decide)) hk (fun _ h => h.2)) (fun _ h => h.1))
    replace HK := ak (KeepBut.trans (by repeat ((with_reducible exact HK.out))) hk (.inl rfl))
    replace HB := ak (hb)
    replace HI0 := ak (hi)
    (try clear hb)
    (try clear hb2)
    (try clear hk)
    (try clear hi)
    refine hK.out _ _ ⟨(blk_cell BK181.out 0).trans rfl, (blk_cell BK181.out 1).trans rfl⟩ (fun hHeld => ?_)
    clear hK K
    refine norm_ (a' := ?_) ?_ ?_
    rotate_left
    ·show Act.put _ (some 7) _ = _
     simp only [SX]
     rfl
    refine pu 2 8 ?_ (ms 15 1791) rfl rfl HT_ (by kernel_rfl) (fun _ _ _ h => h) (by rfl) ?_ ?_ ?_ ?_
    rotate_left
    ·intro w'
     go_simp
     with_reducible rfl
    rotate_left
    ·simp only [SX]
     rfl
    exact norm_ (by (simp only [putAll, Act.put, List.setIfInBounds_toArray, List.set_cons_zero, List.set_cons_succ]; done)) (hJ1_10 (v188) _ ⟨hHeld, (rk HO189), (bk BK181), (bk BK182), (by repeat ((with_reducible exact HI0.out))), (by repeat ((with_reducible exact HK.out))), (by repeat ((with_reducible exact HB.out)))⟩)
   skip
   refine box_step ?hg (N := 5) ?hd (cs := #[.int .i64 0, .int .i64 0, .int .i64 0]) (t := 30) ?hr ?_; (case hd => rfl); (case hg => rfl); (case hr => (go_simp; done))
   intro gb192 hg w15 hbox hb
   replace HO189 := ak (Kd.R_below (rk HO189) hb)
   replace HB := ak (below_step (by repeat ((with_reducible exact HB.out))) hb)
   have BK192 := ak (hbox)
   have GW192 := ak ((by rw [hg]; exact (keep_size (w := w) (g := g) (row := none) (by repeat ((with_reducible exact HK.out)))) : w.heap.size ≤ gb192))
   have GE192 := ak ((Nat.le_trans HW0.out (by rw [hg]; exact (keep_size (w := w) (g := g) (row := none) (by repeat ((with_reducible exact HK.out)))) : w.heap.size ≤ gb192) : w0.heap.size ≤ gb192))
   replace HK := ak (KeepBut.trans (by repeat ((with_reducible exact HK.out))) (KeepBut.of_below hb g none) (.inl rfl))
   have NB181_192 := ak ((by rw [hg]; exact Nat.ne_of_lt (blk_lt (bk BK181)) : gb181 ≠ gb192))
   have NB192_181 := ak ((by rw [hg]; exact Nat.ne_of_gt (blk_lt (bk BK181)) : gb192 ≠ gb181))
   replace BK181 := ak (blk_below (bk BK181) hb)
   have NB182_192 := ak ((by rw [hg]; exact Nat.ne_of_lt (blk_lt (bk BK182)) : gb182 ≠ gb192))
   have NB192_182 := ak ((by rw [hg]; exact Nat.ne_of_gt (blk_lt (bk BK182)) : gb192 ≠ gb182))
   replace BK182 := ak (blk_below (bk BK182) hb)
   have NB0_192 := ak ((by rw [hg]; exact Nat.ne_of_lt (IsS59.lt (show IsS59 w0 _ g s0_0 s0_1 from by repeat ((with_reducible exact HI0.out)))) : g ≠ gb192))
   have NB192_0 := ak ((by rw [hg]; exact Nat.ne_of_gt (IsS59.lt (show IsS59 w0 _ g s0_0 s0_1 from by repeat ((with_reducible exact HI0.out)))) : gb192 ≠ g))
   replace HI0 := ak (IsS59.below (by repeat ((with_reducible exact HI0.out))) hb)
   clear hb hbox hg
   refine hK.out _ _ ⟨(blk_cell BK181.out 0).trans rfl, (blk_cell BK181.out 1).trans rfl⟩ (fun hHeld => ?_)
   clear hK K
   refine norm_ (a' := ?_) ?_ ?_
   rotate_left
   ·show Act.put _ (some 5) _ = _
    simp only [SX]
    rfl
   exact norm_ (by (simp only [putAll, Act.put, List.setIfInBounds_toArray, List.set_cons_zero, List.set_cons_succ]; done)) (hJ10_13 (v188, gb192) _ ⟨hHeld, (rk HO189), (bk BK181), (bk BK182), (bk BK192), GW192.out, GE192.out, NB0_192.out, NB192_0.out, NB181_192.out, NB192_181.out, NB182_192.out, NB192_182.out, (by repeat ((with_reducible exact HI0.out))), (by repeat ((with_reducible exact HK.out))), (by repeat ((with_reducible exact HB.out)))⟩)
  intro hJ10
  refine join_ (σ := Nat) 7 (ms 15 8953) (fun s_ => [(5, .pointer (some ⟨s_, 0, none⟩))]) (fun s_ w' => (w'.cell? ⟨gb181, 0, none⟩ = some (.int .i64 a1_0) ∧ w'.cell? ⟨gb181, 1, none⟩ = some (.slice A1_1 l1_1.length c1_1)) ∧ (w'.heap[gb181]? = some (.cells #[.int .i64 a1_0, .slice A1_1 l1_1.length c1_1] 25 (0, 0))) ∧ (w'.heap[gb182]? = some (.cells #[.int .i64 0, .int .i64 0, .int .i64 0] 30 (0, 0))) ∧ (w'.heap[s_]? = some (.cells #[.int .i64 0, .int .i64 0, .int .i64 0] 30 (0, 0))) ∧ (w.heap.size ≤ s_) ∧ (w0.heap.size ≤ s_) ∧ (g ≠ s_) ∧ (s_ ≠ g) ∧ (gb181 ≠ s_) ∧ (s_ ≠ gb181) ∧ (gb182 ≠ s_) ∧ (s_ ≠ gb182) ∧ (IsS59 w0 w' g s0_0 s0_1) ∧ (KeepBut w w' g none) ∧ (Below w0.heap.size w0 w')) ?_ ?_
  rotate_left
  rotate_left
  ·skip
   rintro gb192 w13 ⟨hS_, h0_, h1_, h2_, h3_, h4_, h5_, h6_, h7_, h8_, h9_, h10_, h11_, h12_, h13_⟩
   replace BK181 : Aside0 (w13.heap[gb181]? = some (.cells #[.int .i64 a1_0, .slice A1_1 l1_1.length c1_1] 25 (0, 0))) := ⟨h0_⟩
   replace BK182 : Aside0 (w13.heap[gb182]? = some (.cells #[.int .i64 0, .int .i64 0, .int .i64 0] 30 (0, 0))) := ⟨h1_⟩
   have BK192 : Aside0 (w13.heap[gb192]? = some (.cells #[.int .i64 0, .int .i64 0, .int .i64 0] 30 (0, 0))) := ⟨h2_⟩
   have GW192 : Aside0 (w.heap.size ≤ gb192) := ⟨h3_⟩
   have GE192 : Aside0 (w0.heap.size ≤ gb192) := ⟨h4_⟩
   have NB0_192 : Aside0 (g ≠ gb192) := ⟨h5_⟩
   have NB192_0 : Aside0 (gb192 ≠ g) := ⟨h6_⟩
   have NB181_192 : Aside0 (gb181 ≠ gb192) := ⟨h7_⟩
   have NB192_181 : Aside0 (gb192 ≠ gb181) := ⟨h8_⟩
   have NB182_192 : Aside0 (gb182 ≠ gb192) := ⟨h9_⟩
   have NB192_182 : Aside0 (gb192 ≠ gb182) := ⟨h10_⟩
   replace HI0 : Aside0 (IsS59 w0 w13 g s0_0 s0_1) := ⟨h11_⟩
   replace HK : Aside0 (KeepBut w w13 g none) := ⟨h12_⟩
   replace HB : Aside0 (Below w0.heap.size w0 w13) := ⟨h13_⟩
   clear h0_ h1_ h2_ h3_ h4_ h5_ h6_ h7_ h8_ h9_ h10_ h11_ h12_ h13_
   have hHeld : w13.cell? ⟨gb181, 0, none⟩ = some (.int .i64 a1_0) ∧ w13.cell? ⟨gb181, 1, none⟩ = some (.slice A1_1 l1_1.length c1_1) := hS_
   refine norm_ (a' := ?_) ?_ ?_
   rotate_left
   ·simp only [putAll, Act.put, List.setIfInBounds_toArray, List.set_cons_zero, List.set_cons_succ]
    rfl
   refine two_ (i := 1) (j := 10) (Ni := some 7) (Nj := some 16) (ms 15 8955) (ms 15 9977) rfl rfl rfl rfl (two_of HT_.out (by kernel_rfl)) (by decide) (by decide) (fun K hK => ?_) (fun K hK => ?_)
   ·skip
    refine goes_ Try.func27 (by kernel_rfl) rfl #[.pointer (some ⟨g, 0, none⟩), .int .i64 6] (by rfl) rfl rfl (by (try simp only [List.map_toArray, List.map_cons, List.map_nil]); rfl) ?_
    with_reducible refine (spec_l30Rd_pick.calls k g s0_0 s0_1 6 t183 t184 w0 _ ?side1 ?side2 A3.out).mono ?_
    (case side1 => repeat ((with_reducible exact HI0.out)))
    (case side2 => repeat ((with_reducible exact HB.out)))
    rintro e w14 ⟨rfl, hi, hb, hk⟩
    refine ⟨_, rfl, ?_⟩
    replace BK181 := ak (KeepBut.blk hk (g' := gb181) (o := .cells #[.int .i64 a1_0, .slice A1_1 l1_1.length c1_1] 25 (0, 0)) (bk BK181) NB181_0.out (by simp))
    replace BK182 := ak (KeepBut.blk hk (g' := gb182) (o := .cells #[.int .i64 0, .int .i64 0, .int .i64 0] 30 (0, 0)) (bk BK182) NB182_0.out (by simp))
    replace BK192 := ak (KeepBut.blk hk (g' := gb192) (o := .cells #[.int .i64 0, .int .i64 0, .int .i64 0] 30 (0, 0)) (bk BK192) NB192_0.out (by simp))
    replace HK := ak (KeepBut.trans (by repeat ((with_reducible exact HK.out))) hk (.inl rfl))
    replace HB := ak (hb)
    replace HI0 := ak (hi)
    (try clear hb)
    (try clear hb2)
    (try clear hk)
    (try clear hi)
    refine hK.out _ _ ⟨(blk_cell BK181.out 0).trans rfl, (blk_cell BK181.out 1).trans rfl⟩ (fun hHeld => ?_)
    clear hK K
    refine norm_ (a' := ?_) ?_ ?_
    rotate_left
    ·show Act.put _ (some 7) _ = _
     simp only [SX]
     rfl
    refine pu 2 8 ?_ (ms 15 8959) rfl rfl HT_ (by kernel_rfl) (fun _ _ _ h => h) (by rfl) ?_ ?_ ?_ ?_
    rotate_left
    ·intro w'
     go_simp
     with_reducible rfl
    rotate_left
    ·simp only [SX]
     rfl
    exact norm_ (by (simp only [putAll, Act.put, List.setIfInBounds_toArray, List.set_cons_zero, List.set_cons_succ]; done)) (hJ1_13 (gb192) _ ⟨hHeld, (bk BK181), (bk BK182), (bk BK192), GW192.out, GE192.out, NB0_192.out, NB192_0.out, NB181_192.out, NB192_181.out, NB182_192.out, NB192_182.out, (by repeat ((with_reducible exact HI0.out))), (by repeat ((with_reducible exact HK.out))), (by repeat ((with_reducible exact HB.out)))⟩)
   skip
   refine Kd.R_lit_step (Kd.int .i64) _ 3 ?hg (N := 16) ?hd (xs := ([(-1), 0, 3, 9, 99] : List Int)) (inner := [.int .i64 (-1), .int .i64 0, .int .i64 3, .int .i64 9, .int .i64 99]) (ok := fun _ => True) (okp := fun _ => True) ?hr ?hp (fun _ hk => hk) trivial (Below.refl _ _) (Nat.le_refl _) (by simp) ?_; (case hd => rfl); (case hg => rfl); (case hr => (go_simp; done)); (case hp => exact (Reps.one (show Kd.M (Kd.int .i64) _ _ _ (-1) [.int .i64 (-1)] from rfl) (Reps.one (show Kd.M (Kd.int .i64) _ _ _ 0 [.int .i64 0] from rfl) (Reps.one (show Kd.M (Kd.int .i64) _ _ _ 3 [.int .i64 3] from rfl) (Reps.one (show Kd.M (Kd.int .i64) _ _ _ 9 [.int .i64 9] from rfl) (Reps.one (show Kd.M (Kd.int .i64) _ _ _ 99 [.int .i64 99] from rfl) (Reps.none _ _)))))))
   intro v188 w14 ho15 hb hg_ hnew_
   clear hg_ hnew_
   (rw [← Ny187.out] at ho15)
   have HO189 := ak (Kd.R_lower ho15 (keep_size (w := w) (g := g) (row := none) (by repeat ((with_reducible exact HK.out)))))
   replace BK181 := ak (blk_below (bk BK181) hb)
   replace BK182 := ak (blk_below (bk BK182) hb)
   replace BK192 := ak (blk_below (bk BK192) hb)
   replace HK := ak (KeepBut.trans (by repeat ((with_reducible exact HK.out))) (KeepBut.of_below hb g none) (.inl rfl))
   replace HB := ak (below_step (by repeat ((with_reducible exact HB.out))) hb)
   replace HI0 := ak (IsS59.below (by repeat ((with_reducible exact HI0.out))) hb)
   clear hb ho15
   refine hK.out _ _ ⟨(blk_cell BK181.out 0).trans rfl, (blk_cell BK181.out 1).trans rfl⟩ (fun hHeld => ?_)
   clear hK K
   refine norm_ (a' := ?_) ?_ ?_
   rotate_left
   ·show Act.put _ (some 16) _ = _
    simp only [SX]
    rfl
   exact norm_ (by (simp only [putAll, Act.put, List.setIfInBounds_toArray, List.set_cons_zero, List.set_cons_succ]; done)) (hJ10_13 (v188, gb192) _ ⟨hHeld, (rk HO189), (bk BK181), (bk BK182), (bk BK192), GW192.out, GE192.out, NB0_192.out, NB192_0.out, NB181_192.out, NB192_181.out, NB182_192.out, NB192_182.out, (by repeat ((with_reducible exact HI0.out))), (by repeat ((with_reducible exact HK.out))), (by repeat ((with_reducible exact HB.out)))⟩)
  intro hJ13
  refine three_ (i := 1) (j := 10) (k := 13) (Ni := some 7) (Nj := some 16) (Nk := some 5) (ms 15 763) (ms 15 1785) (ms 15 8953) rfl rfl rfl rfl rfl rfl (three_of HT_.out (by kernel_rfl)) (by decide) (by decide) (by decide) (fun K hK => ?_) (fun K hK => ?_) (fun K hK => ?_)
  ·skip
   refine goes_ Try.func27 (by kernel_rfl) rfl #[.pointer (some ⟨g, 0, none⟩), .int .i64 6] (by rfl) rfl rfl (by (try simp only [List.map_toArray, List.map_cons, List.map_nil]); rfl) ?_
   with_reducible refine (spec_l30Rd_pick.calls k g s0_0 s0_1 6 t183 t184 w0 _ ?side1 ?side2 A3.out).mono ?_
   (case side1 => repeat ((with_reducible exact HI0.out)))
   (case side2 => repeat ((with_reducible exact HB.out)))
   rintro e w12 ⟨rfl, hi, hb, hk⟩
   refine ⟨_, rfl, ?_⟩
   replace BK181 := ak (KeepBut.blk hk (g' := gb181) (o := .cells #[.int .i64 a1_0, .slice A1_1 l1_1.length c1_1] 25 (0, 0)) (bk BK181) NB181_0.out (by simp))
   replace BK182 := ak (KeepBut.blk hk (g' := gb182) (o := .cells #[.int .i64 0, .int .i64 0, .int .i64 0] 30 (0, 0)) (bk BK182) NB182_0.out (by simp))
   replace HK := ak (KeepBut.trans (by repeat ((with_reducible exact HK.out))) hk (.inl rfl))
   replace HB := ak (hb)
   replace HI0 := ak (hi)
   (try clear hb)
   (try clear hb2)
   (try clear hk)
   (try clear hi)
   refine hK.out _ _ ⟨(blk_cell BK181.out 0).trans rfl, (blk_cell BK181.out 1).trans rfl⟩ (fun hHeld => ?_)
   clear hK K
   refine norm_ (a' := ?_) ?_ ?_
   rotate_left
   ·show Act.put _ (some 7) _ = _
    simp only [SX]
    rfl
   refine pu 2 8 ?_ (ms 15 767) rfl rfl HT_ (by kernel_rfl) (fun _ _ _ h => h) (by rfl) ?_ ?_ ?_ ?_
   rotate_left
   ·intro w'
    go_simp
    with_reducible rfl
   rotate_left
   ·simp only [SX]
    rfl
   exact norm_ (by (simp only [putAll, Act.put, List.setIfInBounds_toArray, List.set_cons_zero, List.set_cons_succ]; done)) (hJ1 () _ ⟨hHeld, (bk BK181), (bk BK182), (by repeat ((with_reducible exact HI0.out))), (by repeat ((with_reducible exact HK.out))), (by repeat ((with_reducible exact HB.out)))⟩)
  ·skip
   refine Kd.R_lit_step (Kd.int .i64) _ 3 ?hg (N := 16) ?hd (xs := ([(-1), 0, 3, 9, 99] : List Int)) (inner := [.int .i64 (-1), .int .i64 0, .int .i64 3, .int .i64 9, .int .i64 99]) (ok := fun _ => True) (okp := fun _ => True) ?hr ?hp (fun _ hk => hk) trivial (Below.refl _ _) (Nat.le_refl _) (by simp) ?_; (case hd => rfl); (case hg => rfl); (case hr => (go_simp; done)); (case hp => exact (Reps.one (show Kd.M (Kd.int .i64) _ _ _ (-1) [.int .i64 (-1)] from rfl) (Reps.one (show Kd.M (Kd.int .i64) _ _ _ 0 [.int .i64 0] from rfl) (Reps.one (show Kd.M (Kd.int .i64) _ _ _ 3 [.int .i64 3] from rfl) (Reps.one (show Kd.M (Kd.int .i64) _ _ _ 9 [.int .i64 9] from rfl) (Reps.one (show Kd.M (Kd.int .i64) _ _ _ 99 [.int .i64 99] from rfl) (Reps.none _ _)))))))
   intro v188 w12 ho13 hb hg_ hnew_
   clear hg_ hnew_
   (rw [← Ny187.out] at ho13)
   have HO189 := ak (Kd.R_lower ho13 (keep_size (w := w) (g := g) (row := none) (by repeat ((with_reducible exact HK.out)))))
   replace BK181 := ak (blk_below (bk BK181) hb)
   replace BK182 := ak (blk_below (bk BK182) hb)
   replace HK := ak (KeepBut.trans (by repeat ((with_reducible exact HK.out))) (KeepBut.of_below hb g none) (.inl rfl))
   replace HB := ak (below_step (by repeat ((with_reducible exact HB.out))) hb)
   replace HI0 := ak (IsS59.below (by repeat ((with_reducible exact HI0.out))) hb)
   clear hb ho13
   refine hK.out _ _ ⟨(blk_cell BK181.out 0).trans rfl, (blk_cell BK181.out 1).trans rfl⟩ (fun hHeld => ?_)
   clear hK K
   refine norm_ (a' := ?_) ?_ ?_
   rotate_left
   ·show Act.put _ (some 16) _ = _
    simp only [SX]
    rfl
   exact norm_ (by (simp only [putAll, Act.put, List.setIfInBounds_toArray, List.set_cons_zero, List.set_cons_succ]; done)) (hJ10 (v188) _ ⟨hHeld, (rk HO189), (bk BK181), (bk BK182), (by repeat ((with_reducible exact HI0.out))), (by repeat ((with_reducible exact HK.out))), (by repeat ((with_reducible exact HB.out)))⟩)
  skip
  refine box_step ?hg (N := 5) ?hd (cs := #[.int .i64 0, .int .i64 0, .int .i64 0]) (t := 30) ?hr ?_; (case hd => rfl); (case hg => rfl); (case hr => (go_simp; done))
  intro gb192 hg w12 hbox hb
  replace HB := ak (below_step (by repeat ((with_reducible exact HB.out))) hb)
  have BK192 := ak (hbox)
  have GW192 := ak ((by rw [hg]; exact (keep_size (w := w) (g := g) (row := none) (by repeat ((with_reducible exact HK.out)))) : w.heap.size ≤ gb192))
  have GE192 := ak ((Nat.le_trans HW0.out (by rw [hg]; exact (keep_size (w := w) (g := g) (row := none) (by repeat ((with_reducible exact HK.out)))) : w.heap.size ≤ gb192) : w0.heap.size ≤ gb192))
  replace HK := ak (KeepBut.trans (by repeat ((with_reducible exact HK.out))) (KeepBut.of_below hb g none) (.inl rfl))
  have NB181_192 := ak ((by rw [hg]; exact Nat.ne_of_lt (blk_lt (bk BK181)) : gb181 ≠ gb192))
  have NB192_181 := ak ((by rw [hg]; exact Nat.ne_of_gt (blk_lt (bk BK181)) : gb192 ≠ gb181))
  replace BK181 := ak (blk_below (bk BK181) hb)
  have NB182_192 := ak ((by rw [hg]; exact Nat.ne_of_lt (blk_lt (bk BK182)) : gb182 ≠ gb192))
  have NB192_182 := ak ((by rw [hg]; exact Nat.ne_of_gt (blk_lt (bk BK182)) : gb192 ≠ gb182))
  replace BK182 := ak (blk_below (bk BK182) hb)
  have NB0_192 := ak ((by rw [hg]; exact Nat.ne_of_lt (IsS59.lt (show IsS59 w0 _ g s0_0 s0_1 from by repeat ((with_reducible exact HI0.out)))) : g ≠ gb192))
  have NB192_0 := ak ((by rw [hg]; exact Nat.ne_of_gt (IsS59.lt (show IsS59 w0 _ g s0_0 s0_1 from by repeat ((with_reducible exact HI0.out)))) : gb192 ≠ g))
  replace HI0 := ak (IsS59.below (by repeat ((with_reducible exact HI0.out))) hb)
  clear hb hbox hg
  refine hK.out _ _ ⟨(blk_cell BK181.out 0).trans rfl, (blk_cell BK181.out 1).trans rfl⟩ (fun hHeld => ?_)
  clear hK K
  refine norm_ (a' := ?_) ?_ ?_
  rotate_left
  ·show Act.put _ (some 5) _ = _
   simp only [SX]
   rfl
  exact norm_ (by (simp only [putAll, Act.put, List.setIfInBounds_toArray, List.set_cons_zero, List.set_cons_succ]; done)) (hJ13 (gb192) _ ⟨hHeld, (bk BK181), (bk BK182), (bk BK192), GW192.out, GE192.out, NB0_192.out, NB192_0.out, NB181_192.out, NB192_181.out, NB182_192.out, NB192_182.out, (by repeat ((with_reducible exact HI0.out))), (by repeat ((with_reducible exact HK.out))), (by repeat ((with_reducible exact HB.out)))⟩)
 rintro ⟨v188, gb192⟩ w19 ⟨hS_, h0_, h1_, h2_, h3_, h4_, h5_, h6_, h7_, h8_, h9_, h10_, h11_, h12_, h13_, h14_⟩
 have HO189 : Aside0 (Kd.R (Kd.int .i64) 3 w19 w.heap.size (fun _ => True) v188 y187) := ⟨h0_⟩
 replace BK181 : Aside0 (w19.heap[gb181]? = some (.cells #[.int .i64 a1_0, .slice A1_1 l1_1.length c1_1] 25 (0, 0))) := ⟨h1_⟩
 replace BK182 : Aside0 (w19.heap[gb182]? = some (.cells #[.int .i64 0, .int .i64 0, .int .i64 0] 30 (0, 0))) := ⟨h2_⟩
 have BK192 : Aside0 (w19.heap[gb192]? = some (.cells #[.int .i64 0, .int .i64 0, .int .i64 0] 30 (0, 0))) := ⟨h3_⟩
 have GW192 : Aside0 (w.heap.size ≤ gb192) := ⟨h4_⟩
 have GE192 : Aside0 (w0.heap.size ≤ gb192) := ⟨h5_⟩
 have NB0_192 : Aside0 (g ≠ gb192) := ⟨h6_⟩
 have NB192_0 : Aside0 (gb192 ≠ g) := ⟨h7_⟩
 have NB181_192 : Aside0 (gb181 ≠ gb192) := ⟨h8_⟩
 have NB192_181 : Aside0 (gb192 ≠ gb181) := ⟨h9_⟩
 have NB182_192 : Aside0 (gb182 ≠ gb192) := ⟨h10_⟩
 have NB192_182 : Aside0 (gb192 ≠ gb182) := ⟨h11_⟩
 replace HI0 : Aside0 (IsS59 w0 w19 g s0_0 t191) := ⟨h12_⟩
 replace HK : Aside0 (KeepBut w w19 g none) := ⟨h13_⟩
 replace HB : Aside0 (Below w0.heap.size w0 w19) := ⟨h14_⟩
 clear h0_ h1_ h2_ h3_ h4_ h5_ h6_ h7_ h8_ h9_ h10_ h11_ h12_ h13_ h14_
 have hHeld : w19.cell? ⟨gb181, 0, none⟩ = some (.int .i64 a1_0) ∧ w19.cell? ⟨gb181, 1, none⟩ = some (.slice A1_1 l1_1.length c1_1) := hS_
 refine norm_ (a' := ?_) ?_ ?_
 rotate_left
 ·simp only [putAll, Act.put, List.setIfInBounds_toArray, List.set_cons_zero, List.set_cons_succ]
  rfl
 refine one_ (i := 14) (N := none) (ms 15 32767) rfl rfl (one_of HT_.out (by kernel_rfl)) (by decide) (fun K hK => ?_)
 have hs20 : w19.cell? ⟨gb192, 0, none⟩ = some (.int .i64 0) := (blk_cell BK192.out 0).trans rfl
 have hfs20 := blk_frozen BK192.out 0
 have hns20_0 := NB181_192.out
 have hns20_1 := NB182_192.out
 have hms20_0 := NB192_181.out
 have hms20_1 := NB192_182.out
 have hs21 : w19.cell? ⟨gb192, 1, none⟩ = some (.int .i64 0) := (blk_cell BK192.out 1).trans rfl
 have hfs21 := blk_frozen BK192.out 1
 have hns21_0 := NB181_192.out
 have hns21_1 := NB182_192.out
 have hms21_0 := NB192_181.out
 have hms21_1 := NB192_182.out
 have hs22 : w19.cell? ⟨gb192, 2, none⟩ = some (.int .i64 0) := (blk_cell BK192.out 2).trans rfl
 have hfs22 := blk_frozen BK192.out 2
 have hns22_0 := NB181_192.out
 have hns22_1 := NB182_192.out
 have hms22_0 := NB192_181.out
 have hms22_1 := NB192_182.out
 refine skip_ (w1 := ?_) (by rfl) rfl ?_ ?_
 rotate_left
 ·go_simp
  rfl
 refine hK.out _ _ ⟨((cell_far (p := ⟨gb192, _, none⟩) NB181_192.out _).trans (((cell_far (p := ⟨gb192, _, none⟩) NB181_192.out _).trans (((cell_far (p := ⟨gb192, _, none⟩) NB181_192.out _).trans (hHeld.1)))))), ((cell_far (p := ⟨gb192, _, none⟩) NB181_192.out _).trans (((cell_far (p := ⟨gb192, _, none⟩) NB181_192.out _).trans (((cell_far (p := ⟨gb192, _, none⟩) NB181_192.out _).trans (hHeld.2))))))⟩ (fun hHeld => ?_)
 clear hK K
 refine done_ (done_of HT_.out (by kernel_rfl)) ?_
 by_cases c7 : t193 = 0
 rotate_left
 ·rw [if_neg c7] at H
  have c7b0 : (t193 == 0) = false := beq_eq_false_iff_ne.mpr c7
  have c7b1 : (t193 != 0) = true := bne_iff_ne.mpr c7
  simp only [Option.some.injEq, Prod.mk.injEq] at H
  obtain ⟨rfl, rfl, rfl, rfl⟩ := H
  try go_wp2_with (((with_reducible refine gate_callee (f := 27) rfl ?_); refine goesL_ (some 20) rfl rfl Try.func27 (by kernel_rfl) rfl #[.pointer (some ⟨g, 0, none⟩), .int .i64 14] rfl (by (try simp only [List.map_toArray, List.map_cons, List.map_nil]); rfl) ?_; (with_reducible refine (spec_l30Rd_pick.calls k g s0_0 t191 14 t193 t194 w0 _ ?side1 ?side2 A6.out).mono ?_); (case side1 => repeat ((with_reducible first | exact HI0.out | refine IsS59.far ?_ NB0_192.out _))); (case side2 => repeat ((with_reducible first | exact HB.out | refine below_set ?_ GE192.out))); rintro e w49 ⟨rfl, hi, hb, hk⟩; refine ⟨_, rfl, ?_⟩; replace BK181 := ak (KeepBut.blk hk (g' := gb181) (o := .cells #[.int .i64 a1_0, .slice A1_1 l1_1.length c1_1] 25 (0, 0)) (by refine blk_far ?_ NB181_192.out _; refine blk_far ?_ NB181_192.out _; refine blk_far ?_ NB181_192.out _; exact BK181.out) NB181_0.out (by simp)); replace BK182 := ak (KeepBut.blk hk (g' := gb182) (o := .cells #[.int .i64 0, .int .i64 0, .int .i64 0] 30 (0, 0)) (by refine blk_far ?_ NB182_192.out _; refine blk_far ?_ NB182_192.out _; refine blk_far ?_ NB182_192.out _; exact BK182.out) NB182_0.out (by simp)); replace HO189 := ak (Kd.R_mono (Kd.R_keep (IsS59.apart (show IsS59 w0 _ g s0_0 t191 from by repeat ((with_reducible first | exact HI0.out | refine IsS59.far ?_ NB0_192.out _))) (by exact (Kd.R_mono (Kd.R_far (p := ⟨gb192, 2, none⟩) (Kd.R_far (p := ⟨gb192, 1, none⟩) (Kd.R_far (p := ⟨gb192, 0, none⟩) (Kd.R_types HO189.out BK192.out (by decide)) (fun _ hk => hk.2) (.int .i64 (wrap64 (1 + t183)))) (fun _ hk => hk.2) (.int .i64 t185)) (fun _ hk => hk.2) (.int .i64 t190)) (fun _ h_ => h_.1))) (by decide)) hk (fun _ h => h.2)) (fun _ h => h.1)); replace BK192 := ak (KeepBut.blk hk (g' := gb192) (o := .cells #[.int .i64 (wrap64 (1 + t183)), .int .i64 t185, .int .i64 t190] 30 (0, 0)) (by refine blk_put (cs := #[.int .i64 (wrap64 (1 + t183)), .int .i64 t185, .int .i64 0]) ?_ 2 _ rfl; refine blk_put (cs := #[.int .i64 (wrap64 (1 + t183)), .int .i64 0, .int .i64 0]) ?_ 1 _ rfl; refine blk_put (cs := #[.int .i64 0, .int .i64 0, .int .i64 0]) ?_ 0 _ rfl; exact BK192.out) NB192_0.out (by simp)); replace HK := ak (KeepBut.trans (by repeat ((with_reducible first | exact HK.out | refine keep_far ?_ GW192.out _))) hk (.inl rfl)); replace HB := ak (hb); replace HI0 := ak (hi); (try clear hb); (try clear hb2); (try clear hk); (try clear hi); have hnb50 := NB192_181.out; have hnc50 := NB181_192.out; have hnb51 := NB192_182.out; have hnc51 := NB182_192.out; have hnb52 := NB192_0.out; have hnc52 := NB0_192.out; have hcz53_0 := bc w49 BK192 0 (.int .i64 (wrap64 (1 + t183))) rfl; have hcz53_1 := bc w49 BK192 1 (.int .i64 t185) rfl; have hcz53_2 := bc w49 BK192 2 (.int .i64 t190) rfl; have hfz53_0 := fz BK192 0; have hfz53_1 := fz BK192 1; have hfz53_2 := fz BK192 2; have hnb54 := NB182_181.out; have hnc54 := NB181_182.out; have hnb55 := NB182_0.out; have hnc55 := NB0_182.out; have hcz56_0 := bc w49 BK182 0 (.int .i64 0) rfl; have hcz56_1 := bc w49 BK182 1 (.int .i64 0) rfl; have hcz56_2 := bc w49 BK182 2 (.int .i64 0) rfl; have hfz56_0 := fz BK182 0; have hfz56_1 := fz BK182 1; have hfz56_2 := fz BK182 2))
  refine bodyPost_ret (results_cell_row rfl _ _ gb182 30 #[.int .i64 (wrap64 (1 + t183)), .int .i64 t185, .int .i64 t190] (0, 0) _ rfl (by refine blk_put (cs := #[.int .i64 (wrap64 (1 + t183)), .int .i64 t185, .int .i64 0]) ?_ 2 _ rfl; refine blk_put (cs := #[.int .i64 (wrap64 (1 + t183)), .int .i64 0, .int .i64 0]) ?_ 1 _ rfl; refine blk_put (cs := #[.int .i64 0, .int .i64 0, .int .i64 0]) ?_ 0 _ rfl; exact BK182.out) Try.underlying30 rfl (by kernel_rfl)) rfl ?_
  exact ⟨by rfl, by repeat ((with_reducible first | exact HI0.out | refine IsS59.far ?_ NB0_182.out _)), by repeat ((with_reducible first | exact HB.out | refine below_set ?_ GE182.out)), by repeat ((with_reducible first | exact HK.out | refine keep_far ?_ GW182.out _))⟩
 rw [if_pos c7] at H
 have c7b0 : (t193 == 0) = true := beq_iff_eq.mpr c7
 have c7b1 : (t193 != 0) = false := bne_eq_false_iff_eq.mpr c7
 clear c7
 obtain ⟨y195, hy195⟩ : ∃ y_ : List Int, y_ = (([0, 1000] : List Int)) := ⟨_, rfl⟩
 replace H : ((spec_l30Rd_one.f k s0_0 t194 y195).bind fun bt198 => (some (bt198.1, t185, t190, bt198.2))) = some (r1, r2, r3, r4) := by (rw [hy195]; with_reducible exact H)
 have Ny195 := ak hy195
 clear hy195
 replace H := Option.bind_eq_some_iff.mp H
 obtain ⟨⟨t198, t199⟩, A80, H⟩ := H
 have A8 := ak A80
 clear A80
 simp only [Option.some.injEq, Prod.mk.injEq] at H
 obtain ⟨rfl, rfl, rfl, rfl⟩ := H
 try go_wp2_with (first | ((with_reducible refine gate_callee (f := 27) rfl ?_); refine goesL_ (some 20) rfl rfl Try.func27 (by kernel_rfl) rfl #[.pointer (some ⟨g, 0, none⟩), .int .i64 14] rfl (by (try simp only [List.map_toArray, List.map_cons, List.map_nil]); rfl) ?_; (with_reducible refine (spec_l30Rd_pick.calls k g s0_0 t191 14 t193 t194 w0 _ ?side1 ?side2 A6.out).mono ?_); (case side1 => repeat ((with_reducible first | exact HI0.out | refine IsS59.far ?_ NB0_192.out _))); (case side2 => repeat ((with_reducible first | exact HB.out | refine below_set ?_ GE192.out))); rintro e w23 ⟨rfl, hi, hb, hk⟩; refine ⟨_, rfl, ?_⟩; replace BK181 := ak (KeepBut.blk hk (g' := gb181) (o := .cells #[.int .i64 a1_0, .slice A1_1 l1_1.length c1_1] 25 (0, 0)) (by refine blk_far ?_ NB181_192.out _; refine blk_far ?_ NB181_192.out _; refine blk_far ?_ NB181_192.out _; exact BK181.out) NB181_0.out (by simp)); replace BK182 := ak (KeepBut.blk hk (g' := gb182) (o := .cells #[.int .i64 0, .int .i64 0, .int .i64 0] 30 (0, 0)) (by refine blk_far ?_ NB182_192.out _; refine blk_far ?_ NB182_192.out _; refine blk_far ?_ NB182_192.out _; exact BK182.out) NB182_0.out (by simp)); replace HO189 := ak (Kd.R_mono (Kd.R_keep (IsS59.apart (show IsS59 w0 _ g s0_0 t191 from by repeat ((with_reducible first | exact HI0.out | refine IsS59.far ?_ NB0_192.out _))) (by exact (Kd.R_mono (Kd.R_far (p := ⟨gb192, 2, none⟩) (Kd.R_far (p := ⟨gb192, 1, none⟩) (Kd.R_far (p := ⟨gb192, 0, none⟩) (Kd.R_types HO189.out BK192.out (by decide)) (fun _ hk => hk.2) (.int .i64 (wrap64 (1 + t183)))) (fun _ hk => hk.2) (.int .i64 t185)) (fun _ hk => hk.2) (.int .i64 t190)) (fun _ h_ => h_.1))) (by decide)) hk (fun _ h => h.2)) (fun _ h => h.1)); replace BK192 := ak (KeepBut.blk hk (g' := gb192) (o := .cells #[.int .i64 (wrap64 (1 + t183)), .int .i64 t185, .int .i64 t190] 30 (0, 0)) (by refine blk_put (cs := #[.int .i64 (wrap64 (1 + t183)), .int .i64 t185, .int .i64 0]) ?_ 2 _ rfl; refine blk_put (cs := #[.int .i64 (wrap64 (1 + t183)), .int .i64 0, .int .i64 0]) ?_ 1 _ rfl; refine blk_put (cs := #[.int .i64 0, .int .i64 0, .int .i64 0]) ?_ 0 _ rfl; exact BK192.out) NB192_0.out (by simp)); replace HK := ak (KeepBut.trans (by repeat ((with_reducible first | exact HK.out | refine keep_far ?_ GW192.out _))) hk (.inl rfl)); replace HB := ak (hb); replace HI0 := ak (hi); (try clear hb); (try clear hb2); (try clear hk); (try clear hi)) | ((with_reducible refine gate_dst (N := 23) rfl ?_); refine Kd.R_lit (Kd.int .i64) _ 3 ?hg (N := 23) ?hd (xs := ([0, 1000] : List Int)) (inner := [.int .i64 0, .int .i64 1000]) (ok := fun _ => True) (okp := fun _ => True) ?hr ?hp (fun _ hk => hk) trivial (Below.refl _ _) (Nat.le_refl _) (by simp) ?_; (case hd => rfl); (case hg => rfl); (case hr => (go_simp; done)); (case hp => exact (Reps.one (show Kd.M (Kd.int .i64) _ _ _ 0 [.int .i64 0] from rfl) (Reps.one (show Kd.M (Kd.int .i64) _ _ _ 1000 [.int .i64 1000] from rfl) (Reps.none _ _)))); intro v196 w24 ho25 hb hg_ hnew_; clear hg_ hnew_; (rw [← Ny195.out] at ho25); have HO197 := ak (Kd.R_lower (Kd.R_new' ho25 (Kd.R_lt (rk HO189))) (keep_size (w := w) (g := g) (row := none) (by repeat ((with_reducible exact HK.out))))); replace HO189 := ak (Kd.R_elder' (rk HO189) (Kd.R_base ho25) hb); replace BK181 := ak (blk_below (bk BK181) hb); replace BK182 := ak (blk_below (bk BK182) hb); replace BK192 := ak (blk_below (bk BK192) hb); replace HK := ak (KeepBut.trans (by repeat ((with_reducible exact HK.out))) (KeepBut.of_below hb g none) (.inl rfl)); replace HB := ak (below_step (by repeat ((with_reducible exact HB.out))) hb); replace HI0 := ak (IsS59.below (by repeat ((with_reducible exact HI0.out))) hb); clear hb ho25; obtain ⟨Ao26, co26, eo26⟩ := Kd.R_slice HO197.out; subst eo26) | ((with_reducible refine gate_callee (f := 30) rfl ?_); refine goesL_ (some 24) rfl rfl Try.func30 (by kernel_rfl) rfl #[.pointer (some ⟨g, 0, none⟩), .slice Ao26 y195.length co26] rfl (by (try simp only [List.map_toArray, List.map_cons, List.map_nil]); rfl) ?_; (with_reducible refine (spec_l30Rd_one.calls k g s0_0 t194 _ _ y195 t198 t199 w0 _ ?side1 ?side2 ?side3 ?side4 ?side5 A8.out).mono ?_); (case side1 => repeat ((with_reducible exact HI0.out))); (case side2 => repeat ((with_reducible exact HB.out))); (case side3 => repeat (exact (Kd.R_reads' HO197.out).2.2)); (case side4 => exact (Kd.R_reads' HO197.out).2.1); (case side5 => exact far_slice (IsS59.own_ne HI0.out HO197.out (by decide))); rintro e w27 ⟨rfl, hi, hb, hk⟩; refine ⟨_, rfl, ?_⟩; replace BK181 := ak (KeepBut.blk hk (g' := gb181) (o := .cells #[.int .i64 a1_0, .slice A1_1 l1_1.length c1_1] 25 (0, 0)) (bk BK181) NB181_0.out (by simp)); replace BK182 := ak (KeepBut.blk hk (g' := gb182) (o := .cells #[.int .i64 0, .int .i64 0, .int .i64 0] 30 (0, 0)) (bk BK182) NB182_0.out (by simp)); replace HO189 := ak (Kd.R_mono (Kd.R_keep (IsS59.apart (show IsS59 w0 _ g s0_0 t194 from by repeat ((with_reducible exact HI0.out))) (rk HO189) (by decide)) hk (fun _ h => h.2)) (fun _ h => h.1)); replace BK192 := ak (KeepBut.blk hk (g' := gb192) (o := .cells #[.int .i64 (wrap64 (1 + t183)), .int .i64 t185, .int .i64 t190] 30 (0, 0)) (bk BK192) NB192_0.out (by simp)); replace HO197 := ak (Kd.R_mono (Kd.R_keep (IsS59.apart (show IsS59 w0 _ g s0_0 t194 from by repeat ((with_reducible exact HI0.out))) (rk HO197) (by decide)) hk (fun _ h => h.2)) (fun _ h => h.1)); replace HK := ak (KeepBut.trans (by repeat ((with_reducible exact HK.out))) hk (.inl rfl)); replace HB := ak (hb); replace HI0 := ak (hi); (try clear hb); (try clear hb2); (try clear hk); (try clear hi); have hnb28 := NB192_181.out; have hnc28 := NB181_192.out; have hnb29 := NB192_182.out; have hnc29 := NB182_192.out; have hnb30 := NB192_0.out; have hnc30 := NB0_192.out; have hcz31_0 := bc w27 BK192 0 (.int .i64 (wrap64 (1 + t183))) rfl; have hcz31_1 := bc w27 BK192 1 (.int .i64 t185) rfl; have hcz31_2 := bc w27 BK192 2 (.int .i64 t190) rfl; have hfz31_0 := fz BK192 0; have hfz31_1 := fz BK192 1; have hfz31_2 := fz BK192 2; have hnb32 := NB182_181.out; have hnc32 := NB181_182.out; have hnb33 := NB182_0.out; have hnc33 := NB0_182.out; have hcz34_0 := bc w27 BK182 0 (.int .i64 0) rfl; have hcz34_1 := bc w27 BK182 1 (.int .i64 0) rfl; have hcz34_2 := bc w27 BK182 2 (.int .i64 0) rfl; have hfz34_0 := fz BK182 0; have hfz34_1 := fz BK182 1; have hfz34_2 := fz BK182 2))
 refine bodyPost_ret (results_cell_row rfl _ _ gb182 30 #[.int .i64 t198, .int .i64 t185, .int .i64 t190] (0, 0) _ rfl (by refine blk_put (cs := #[.int .i64 t198, .int .i64 t185, .int .i64 0]) ?_ 2 _ rfl; refine blk_put (cs := #[.int .i64 t198, .int .i64 0, .int .i64 0]) ?_ 1 _ rfl; refine blk_put (cs := #[.int .i64 0, .int .i64 0, .int .i64 0]) ?_ 0 _ rfl; refine blk_far ?_ NB182_192.out _; exact BK182.out) Try.underlying30 rfl (by kernel_rfl)) rfl ?_
 exact ⟨by rfl, by repeat ((with_reducible first | exact HI0.out | refine IsS59.far ?_ NB0_182.out _ | refine IsS59.far ?_ NB0_192.out _)), by repeat ((with_reducible first | exact HB.out | refine below_set ?_ GE182.out | refine below_set ?_ GE192.out)), by repeat ((with_reducible first | exact HK.out | refine keep_far ?_ GW182.out _ | refine keep_far ?_ GW192.out _))⟩

end Go.Proofs.Ytbcedkcjodokkaa.F
