-- Printed by wip/px/px.py of this claim's repository (the kit's printer, extended there). Lean checks it.
import Derived.Test.YtgickejeakmenaaFKinds
import Derived.Test.YtgickejeakmenaaFslicesIn
import Derived.Test.YtgickejeakmenaaFimplstopsOk
import Derived.Test.YtgickejeakmenaaFimplaround
import Derived.Test.YtgickejeakmenaaFimplNear
import Derived.Test.YtgickejeakmenaaFimplchosen
import Derived.Test.YtgickejeakmenaaFtextorders
namespace Go.Proofs.Ytgickejeakmenaa.F
open Go.RowKit Go.Proofs.YtgickejeakmenaaW.PrintWords Go.Proofs.YtgickejeakmenaaW.PrintLast Go.Proofs.YtgickejeakmenaaW.PrintMore
attribute [local go_sem] max2_int min2_int max_two min_two max_three min_three max_four min_four   -- for this text's walks alone
set_option linter.unusedVariables false
set_option linter.unusedSimpArgs false

/-! ### text tourbest -/
def tbF (k : Nat) (n : Int) (l : List S41) (s : List Int) : Option (List Int × Int) := (impl_stopsOk.f k n l s).bind fun ok => if ok = true then ((impl_Net_table.f k n l).bind fun all => if 1 ≤ s.length ∧ s.length ≤ 1000 then ordF k all s s.length (s.length - 1) [0] ([], 99999) else none) else some ([], -1)
theorem R_zero (w : World) (base : Nat) (hb : base ≤ w.heap.size) : Kd.R (Kd.int .i64) 3 (w.alloc (.cells #[.int .i64 0] 3)) base (fun k_ => k_ = w.heap.size) (.slice (some ⟨w.heap.size, 0, none⟩) 1 1) [0] := by
  refine ⟨fun k hk => ?_, OwnRow.lit (ps := [(0 : Int)]) (inner := [.int .i64 0]) w base ⟨rfl, fun j p hj => ?_⟩ hb (by simp)⟩
  · have : w.heap.size = k := by simpa [Value.ownBlock] using hk
    exact this.symm
  · obtain ⟨h, rfl⟩ := List.getElem?_eq_some_iff.1 hj
    have : j = 0 := by simp at h; exact h
    subst this
    rfl
set_option maxHeartbeats 4000000 in
set_option maxRecDepth 100000 in
theorem tourBest_any (k : Nat) (n : Int) (A0 : Option Addr) (c0 : Nat) (l0 : List S41) (A1 : Option Addr) (c1 : Nat) (l1 : List Int) (r1 : List Int) (r2 : Int) (w : World) (hr0 : Kd.C k41 w A0 l0.length l0) (hc0 : l0.length ≤ c0) (hr1 : Kd.C (Kd.int .i64) w A1 l1.length l1) (hc1 : l1.length ≤ c1) (h : tbF k n l0 l1 = some (r1, r2)) :
    Calls Try.prog 35 #[.agg #[.int .i64 n, .slice A0 l0.length c0], .slice A1 l1.length c1] w fun e w' => ∃ v0_ : Value, e = .returned (.tuple #[v0_, .int .i64 r2]) ∧ Kd.R (Kd.int .i64) 3 w' w.heap.size (fun _ => True) v0_ r1 ∧ Below w.heap.size w w' := by
  have hu := Try.underlying25
  unfold tbF at h
  obtain ⟨ok, hok, h⟩ := Option.bind_eq_some_iff.mp h
  obtain ⟨W0, hW0⟩ : ∃ W0, W0 = (w.alloc (.cells #[.int .i64 n, .slice A0 l0.length c0] 25)).alloc (.cells #[.slice A1 l1.length c1] 26) := ⟨_, rfl⟩
  have B0 : Below w.heap.size w W0 := by rw [hW0]; exact below_alloc (below_alloc (Below.refl _ _) _) _
  have f1 : W0.heap[w.heap.size]? = some (.cells #[.int .i64 n, .slice A0 l0.length c0] 25 (0, 0)) := by rw [hW0]; exact blk_alloc (blk_new w _) _
  have f2 : W0.heap[w.heap.size + 1]? = some (.cells #[.slice A1 l1.length c1] 26 (0, 0)) := by rw [hW0]; have := heap_alloc_new (w.alloc (.cells #[.int .i64 n, .slice A0 l0.length c0] 25)) (.cells #[.slice A1 l1.length c1] 26); simpa using this
  have SO := Aside0.mk (impl_stopsOk.calls k n A0 c0 l0 A1 c1 l1 ok W0 (Kd.C_below hr0 B0) hc0 (Kd.C_below hr1 B0) hc1 hok)
  have F := Aside0.mk (fun (w1 : World) (hb : Below W0.heap.size W0 w1) => (⟨(blk_cell ((hb.block _ (blk_lt f1)).trans f1) 0).trans rfl, (blk_cell ((hb.block _ (blk_lt f1)).trans f1) 1).trans rfl, (blk_cell ((hb.block _ (blk_lt f2)).trans f2) 0).trans rfl, Nat.lt_of_lt_of_le (blk_lt f2) hb.size⟩ : w1.cell? ⟨w.heap.size, 0, none⟩ = some (.int .i64 n) ∧ w1.cell? ⟨w.heap.size, 1, none⟩ = some (.slice A0 l0.length c0) ∧ w1.cell? ⟨w.heap.size + 1, 0, none⟩ = some (.slice A1 l1.length c1) ∧ w.heap.size + 1 < w1.heap.size))
  have HB0 := Aside0.mk B0
  have HR0 := Aside0.mk hr0
  have HR1 := Aside0.mk hr1
  have F2 := Aside0.mk f2
  rw [hW0] at SO
  clear f1 f2 hr0 hr1 B0 hok
  cases ok with
  | false =>
    rw [if_neg Bool.false_ne_true] at h
    injection h with h
    injection h with h1 h2
    subst h1 h2
    go_enter Try.func35, Try.ntmps35
    go_wp2_with (go_at_call 52; refine SO.out.mono ?_; rintro e w1 ⟨rfl, hb1⟩)
    go_ret2
    rw [← hW0] at hb1
    exact ⟨_, rfl, Kd.R_nil _ _ _ _ _, HB0.out.trans (hb1.mono HB0.out.size)⟩
  | true =>
    rw [if_pos rfl] at h
    obtain ⟨all, hall, h⟩ := Option.bind_eq_some_iff.mp h
    by_cases hs : 1 ≤ l1.length ∧ l1.length ≤ 1000
    · rw [if_pos hs] at h
      have TB := Aside0.mk (fun (w1 : World) (hb : Below W0.heap.size W0 w1) => impl_Net_table.calls k n A0 c0 l0 all w1 (Kd.C_below (Kd.C_below HR0.out HB0.out) hb) hc0 hall)
      have H := Aside0.mk h
      have ORD := Aside0.mk (fun (w3 : World) (Aa : Option Addr) (ca : Nat) (hb : Below W0.heap.size W0 w3) (hca : all.length ≤ ca) (hCa : Kd.C (Kd.slice 3 (Kd.int .i64)) w3 Aa all.length all) => (by
        have g1 : w3.heap[w.heap.size + 1]? = some (.cells #[.slice A1 l1.length c1] 26 (0, 0)) := (hb.block _ (blk_lt F2.out)).trans F2.out
        have g2 : (w3.alloc (.cells #[.slice Aa all.length ca] 50)).heap[w3.heap.size]? = some (.cells #[.slice Aa all.length ca] 50 (0, 0)) := blk_new w3 _
        have g3 : ((w3.alloc (.cells #[.slice Aa all.length ca] 50)).alloc (.cells #[.slice none 0 0] 26)).heap[w3.heap.size + 1]? = some (.cells #[.slice none 0 0] 26 (0, 0)) := by have := heap_alloc_new (w3.alloc (.cells #[.slice Aa all.length ca] 50)) (.cells #[.slice none 0 0] 26); simpa using this
        have g4 : (((w3.alloc (.cells #[.slice Aa all.length ca] 50)).alloc (.cells #[.slice none 0 0] 26)).alloc (.cells #[.int .i64 99999] 3)).heap[w3.heap.size + 1 + 1]? = some (.cells #[.int .i64 99999] 3 (0, 0)) := by have := heap_alloc_new ((w3.alloc (.cells #[.slice Aa all.length ca] 50)).alloc (.cells #[.slice none 0 0] 26)) (.cells #[.int .i64 99999] 3); simpa using this
        have hz := R_zero (((w3.alloc (.cells #[.slice Aa all.length ca] 50)).alloc (.cells #[.slice none 0 0] 26)).alloc (.cells #[.int .i64 99999] 3)) w3.heap.size (by simp; omega)
        have sz : (((w3.alloc (.cells #[.slice Aa all.length ca] 50)).alloc (.cells #[.slice none 0 0] 26)).alloc (.cells #[.int .i64 99999] 3)).heap.size = w3.heap.size + 1 + 1 + 1 := by simp
        rw [sz] at hz
        refine orders_any k all l1 l1.length hs.2 w3 (w.heap.size + 1) w3.heap.size (w3.heap.size + 1) (w3.heap.size + 1 + 1) Aa A1 ca c1 g1 hc1 (Kd.C_below (Kd.C_below HR1.out HB0.out) hb) hca hCa (Nat.le_refl _) (by omega) (by omega) (by omega) (by omega) (by omega) (l1.length - 1) [0] ((((w3.alloc (.cells #[.slice Aa all.length ca] 50)).alloc (.cells #[.slice none 0 0] 26)).alloc (.cells #[.int .i64 99999] 3)).alloc (.cells #[.int .i64 0] 3)) (some ⟨w3.heap.size + 1 + 1 + 1, 0, none⟩) 1 ([], 99999) (r1, r2) (by simp; omega) ⟨below_alloc (below_alloc (below_alloc (below_alloc (Below.refl _ _) _) _) _) _, blk_alloc (blk_alloc (blk_alloc g2 _) _) _, ⟨.slice none 0 0, blk_alloc (blk_alloc g3 _) _, Kd.R_nil _ _ _ _ _⟩, blk_alloc g4 _⟩ (fun W' hk => ?_) (by simp) H.out
        obtain ⟨A3, c3, e3, _, h4⟩ := Kd.R_reads (Kd.R_kept hz hk (fun k_ hk => by omega))
        injection e3 with e3
        subst e3
        exact h4 : Calls Try.prog 83 #[.slice (some ⟨w3.heap.size + 1 + 1 + 1, 0, none⟩) 1 1, .int .i64 l1.length, .func (.func 84) #[] #[.pointer (some ⟨w.heap.size + 1, 0, none⟩), .pointer (some ⟨w3.heap.size, 0, none⟩), .pointer (some ⟨w3.heap.size + 1 + 1, 0, none⟩), .pointer (some ⟨w3.heap.size + 1, 0, none⟩)]] ((((w3.alloc (.cells #[.slice Aa all.length ca] 50)).alloc (.cells #[.slice none 0 0] 26)).alloc (.cells #[.int .i64 99999] 3)).alloc (.cells #[.int .i64 0] 3)) fun e w' => e = .returned (.tuple #[]) ∧ Kept ((((w3.alloc (.cells #[.slice Aa all.length ca] 50)).alloc (.cells #[.slice none 0 0] 26)).alloc (.cells #[.int .i64 99999] 3)).alloc (.cells #[.int .i64 0] 3)) w' (fun k_ => k_ = w3.heap.size + 1 ∨ k_ = w3.heap.size + 1 + 1) ∧ TI w3 w3.heap.size (w3.heap.size + 1) (w3.heap.size + 1 + 1) (.slice Aa all.length ca) w' (r1, r2)))
      clear h hall
      go_enter Try.func35, Try.ntmps35
      go_wp2_with (first | (go_at_call 52; refine SO.out.mono ?_; rintro e w1 ⟨rfl, hb1⟩; rw [← hW0] at hb1; have HB1 := Aside0.mk hb1; obtain ⟨x1, x2, x3, x4⟩ := F.out w1 hb1; clear hb1) | (go_at_call 54; refine (TB.out _ HB1.out).mono ?_; rintro e w3 ⟨v3, rfl, hs3, hb3⟩; clear x1 x2 x3 x4; obtain ⟨Aa, ca, rfl, hca, hCa⟩ := Kd.R_reads (Kd.S_R hs3); obtain ⟨x1, x2, x3, x4⟩ := F.out w3 (HB1.out.trans (hb3.mono HB1.out.size)); have OR := Aside0.mk (ORD.out w3 Aa ca (HB1.out.trans (hb3.mono HB1.out.size)) hca hCa); have HB3 := Aside0.mk hb3; have x8 := (F.out ((((w3.alloc (.cells #[.slice Aa all.length ca] 50)).alloc (.cells #[.slice none 0 0] 26)).alloc (.cells #[.int .i64 99999] 3)).alloc (.cells #[.int .i64 0] 3)) (below_alloc (below_alloc (below_alloc (below_alloc (HB1.out.trans (hb3.mono HB1.out.size)) _) _) _) _)).2.2.1; have x5 : w.heap.size + 1 ≠ w3.heap.size := (by omega); have x6 : w.heap.size + 1 ≠ w3.heap.size + 1 := (by omega); have x7 : w.heap.size + 1 ≠ w3.heap.size + 1 + 1 := (by omega); clear hs3 hb3 hCa) | (go_at_call 83; refine OR.out.mono ?_; rintro e w5 ⟨rfl, hk, hI⟩; have HI := Aside0.mk hI; have HK := Aside0.mk hk; obtain ⟨_, _, ⟨bv, y1, y2⟩, y3⟩ := hI; have HBV := Aside0.mk y2; have z1 : w5.cell? ⟨w3.heap.size + 1, 0, none⟩ = some bv := (blk_cell y1 0).trans rfl; have z2 : w5.cell? ⟨w3.heap.size + 1 + 1, 0, none⟩ = some (.int .i64 r2) := (blk_cell y3 0).trans rfl; clear hk y1 y2 y3))
      have SZ := Aside0.mk (Nat.le_trans HB0.out.size (Nat.le_trans HB1.out.size HB3.out.size))
      go_region_law (fail)
      all_goals
        go_wp2
        go_ret2
        exact ⟨_, rfl, Kd.R_lower (Kd.R_mono (Kd.R_drew HBV.out) (fun _ _ => trivial)) SZ.out, (HB0.out.trans ((HB1.out.trans (HB3.out.mono HB1.out.size)).mono HB0.out.size)).trans (below_drew (HI.out.below.mono SZ.out))⟩
    · rw [if_neg hs] at h
      cases h
theorem visF_mono (k : Nat) (all : List (List Int)) (stops bg : List Int) (st : List Int × Int) : LeO (visF k all stops bg st) (visF (k + 1) all stops bg st) := by
  unfold visF
  exact LeO.bind (impl_chosen.mono _ _ k) fun _ => LeO.bind (impl_around.mono _ _ k) fun _ => LeO.refl _
theorem loopF_mono {g g' : Int → List Int × Int → Option (List Int × Int)} (h : ∀ i s, LeO (g i s) (g' i s)) : ∀ c i st, LeO (loopF g c i st) (loopF g' c i st)
  | 0, _, _ => LeO.refl _
  | c + 1, i, st => LeO.bind (h _ _) fun s => loopF_mono h c (i + 1) s
theorem ordF_mono (k : Nat) (all : List (List Int)) (stops : List Int) (many : Nat) : ∀ m bg st, LeO (ordF k all stops many m bg st) (ordF (k + 1) all stops many m bg st)
  | 0, bg, st => visF_mono k all stops bg st
  | m + 1, bg, st => loopF_mono (fun i s => LeO.bind (slices_Contains_int_int.mono _ _ k) fun _ => LeO.ite (LeO.refl _) (ordF_mono k all stops many m (bg ++ [i]) s)) many 0 st
theorem tbF_mono (k : Nat) (n : Int) (l : List S41) (s : List Int) : LeO (tbF k n l s) (tbF (k + 1) n l s) := by
  unfold tbF
  exact LeO.bind (impl_stopsOk.mono _ _ _ k) fun _ => LeO.ite (LeO.bind (impl_Net_table.mono _ _ k) fun _ => LeO.ite (ordF_mono k _ _ _ _ _ _) (LeO.none _)) (LeO.refl _)

end Go.Proofs.Ytgickejeakmenaa.F
