-- Printed by wip/px/px.py of this claim's repository (the kit's printer, extended there). Lean checks it.
import Derived.Test.YtlgolgfcolnddaaFKinds
import Derived.Test.YtlgolgfcolnddaaFlawsNet
import Derived.Test.YtlgolgfcolnddaaFlawsNet
import Derived.Test.YtlgolgfcolnddaaFlawseqIntSS
import Derived.Test.YtlgolgfcolnddaaFlawsNet
import Derived.Test.YtlgolgfcolnddaaFlawsMarkInt
import Derived.Test.YtlgolgfcolnddaaFtextmarkss
import Derived.Test.YtlgolgfcolnddaaFlawsheldIntSS
import Derived.Test.YtlgolgfcolnddaaFtextmarkrows
import Derived.Test.YtlgolgfcolnddaaFimplSomeOthers
import Derived.Test.YtlgolgfcolnddaaFspecSomeOthers
namespace Go.Proofs.Ytlgolgfcolnddaa.F
open Go.RowKit Go.Proofs.YtlgolgfcolnddaaW.PrintWords Go.Proofs.YtlgolgfcolnddaaW.PrintLast Go.Proofs.YtlgolgfcolnddaaW.PrintMore
attribute [local go_sem] max2_int min2_int max_two min_two max_three min_three max_four min_four   -- for this text's walks alone
set_option linter.unusedVariables false
set_option linter.unusedSimpArgs false

/-! ### laws_FnExactSomeOthers: function 4 -/
def laws_FnExactSomeOthers.f (k : Nat) (a0 : Int) (l : List S109) (a1 : Int) (a2 : Int) (a3 : Int) (a4 : Int) : Option Bool := (laws_szNet.f a0 l 1048576).bind fun t => if t < 0 then some true else (laws_toNet.f k a0 l).bind fun m => (spec_SomeOthers.f k m.1 m.2 a1 a2 a3 a4).bind fun w0 => (impl_SomeOthers.f m.1 m.2 a1 a2 a3 a4).bind fun g0 => (laws_eqIntSS.f k g0 w0).bind fun e1 => (laws_eqNet.f k m.1 m.2 m.1 m.2).bind fun e2 => (laws_markNet.f k m.1 m.2 1).bind fun mk => (laws_heldIntSS.f k (mkRows g0 1) 1).bind fun q => if (e1 = true ∧ e2 = true) ∧ 0 ≤ mk.1 ∧ 0 ≤ q ∧ q = mkSS g0 1 ∧ g0.length ≤ 1048576 ∧ ∀ x ∈ g0, x.length ≤ 1048576 then some true else none
set_option maxHeartbeats 8000000 in
set_option maxRecDepth 100000 in
theorem laws_FnExactSomeOthers.calls (k : Nat) (a0 : Int) (A0 : Option Addr) (c0 : Nat) (l : List S109) (a1 : Int) (a2 : Int) (a3 : Int) (a4 : Int) (r : Bool) (w : World) (hr0 : Kd.C k109 w A0 l.length l) (hc0 : l.length ≤ c0) (h : laws_FnExactSomeOthers.f k a0 l a1 a2 a3 a4 = some r) (hr_ : r = true) :
  Calls Try.prog 4 #[.agg #[.int .i64 a0, .slice A0 l.length c0], .int .i64 a1, .int .i64 a2, .int .i64 a3, .int .i64 a4] w fun e w' => e = .returned (.bool r) ∧ Below w.heap.size w w' := by
 have hu39 := Try.underlying39
 have hu25 := Try.underlying25
 subst hr_
 unfold laws_FnExactSomeOthers.f at h
 replace h := Option.bind_eq_some_iff.mp h
 obtain ⟨t, SZ, h⟩ := h
 obtain ⟨WA, hWA⟩ : ∃ WA, WA = w.alloc (.cells #[.int .i64 a0, .slice A0 l.length c0] 39) := ⟨_, rfl⟩
 have bA : Below w.heap.size w WA := by rw [hWA]; exact below_alloc (Below.refl _ _) _
 have fA : WA.heap[w.heap.size]? = some (.cells #[.int .i64 a0, .slice A0 l.length c0] 39 (0, 0)) := by rw [hWA]; exact blk_new w _
 have y0 : WA.cell? ⟨w.heap.size, 0, none⟩ = some (.int .i64 a0) := (blk_cell fA 0).trans rfl
 have y1 : WA.cell? ⟨w.heap.size, 1, none⟩ = some (.slice A0 l.length c0) := (blk_cell fA 1).trans rfl
 have SZC := ak (laws_szNet.calls a0 A0 c0 l 1048576 t WA (Kd.C_below hr0 bA) hc0 SZ)
 have BX := ak (fun (W : World) (hb : Below WA.heap.size WA W) => (⟨(blk_cell ((hb.block _ (blk_lt fA)).trans fA) 0).trans rfl, (blk_cell ((hb.block _ (blk_lt fA)).trans fA) 1).trans rfl⟩ : W.cell? ⟨w.heap.size, 0, none⟩ = some (.int .i64 a0) ∧ W.cell? ⟨w.heap.size, 1, none⟩ = some (.slice A0 l.length c0)))
 have HA := ak bA
 have HR := ak (Kd.C_below hr0 bA)
 clear fA bA hr0 SZ
 by_cases ht : t < 0
 ·have htd : decide (t < 0) = true := decide_eq_true ht
  clear h ht
  go_enter Try.func4, Try.ntmps4
  go_wp2_with (rw [← hWA]; clear hWA; go_at_call 19; refine SZC.out.mono ?_; rintro e w1 ⟨rfl, hb⟩; have B1 := ak (HA.out.trans (hb.mono HA.out.size)); clear hb)
  go_ret
  exact ⟨rfl, B1.out⟩
 have htd : decide (t < 0) = false := decide_eq_false ht
 rw [if_neg ht] at h
 clear ht
 replace h := Option.bind_eq_some_iff.mp h
 obtain ⟨⟨m1, m2⟩, TN0, h⟩ := h
 replace h := Option.bind_eq_some_iff.mp h
 obtain ⟨w0, SP0, h⟩ := h
 replace h := Option.bind_eq_some_iff.mp h
 obtain ⟨g0, IM0, h⟩ := h
 replace h := Option.bind_eq_some_iff.mp h
 obtain ⟨e1, EQ0, h⟩ := h
 replace h := Option.bind_eq_some_iff.mp h
 obtain ⟨e2, EN0, h⟩ := h
 replace h := Option.bind_eq_some_iff.mp h
 obtain ⟨⟨mk1, mk2⟩, MN0, h⟩ := h
 replace h := Option.bind_eq_some_iff.mp h
 obtain ⟨q, HS0, h⟩ := h
 by_cases hall : (e1 = true ∧ e2 = true) ∧ 0 ≤ mk1 ∧ 0 ≤ q ∧ q = mkSS g0 1 ∧ g0.length ≤ 1048576 ∧ ∀ x ∈ g0, x.length ≤ 1048576
 rotate_left
 ·rw [if_neg hall] at h; cases h
 clear h
 obtain ⟨⟨rfl, rfl⟩, hm0, hq0, rfl, hgl, hgx⟩ := hall
 have hmd : decide (mk1 < 0) = false := decide_eq_false (by omega)
 have TN := ak (fun (W : World) (hb : Below WA.heap.size WA W) => laws_toNet.calls k a0 A0 c0 l m1 m2 W (Kd.C_below HR.out hb) hc0 TN0)
 have SP := ak (fun (W : World) (A : Option Addr) (c : Nat) (hC : Kd.C k58 W A m2.length m2) (hc : m2.length ≤ c) => spec_SomeOthers.calls k m1 A c m2 a1 a2 a3 a4 w0 W hC hc SP0)
 have IM := ak (fun (W : World) (A : Option Addr) (c : Nat) (hC : Kd.C k58 W A m2.length m2) (hc : m2.length ≤ c) => impl_SomeOthers.calls m1 A c m2 a1 a2 a3 a4 g0 W hC hc IM0)
 have EQ := ak (fun (W : World) (A B : Option Addr) (c d : Nat) (hA : Kd.C (Kd.slice 3 (Kd.int .i64)) W A g0.length g0) (hc : g0.length ≤ c) (hB : Kd.C (Kd.slice 3 (Kd.int .i64)) W B w0.length w0) (hd : w0.length ≤ d) => laws_eqIntSS.calls k A c g0 B d w0 true W hA hc hB hd EQ0)
 have EN := ak (fun (W : World) (A B : Option Addr) (c d : Nat) (hA : Kd.C k58 W A m2.length m2) (hc : m2.length ≤ c) (hB : Kd.C k58 W B m2.length m2) (hd : m2.length ≤ d) => laws_eqNet.calls k m1 A c m2 m1 B d m2 true W hA hc hB hd EN0)
 have HE := ak (fun (W : World) (A : Option Addr) (c : Nat) (hA : Kd.C (Kd.slice 3 (Kd.int .i64)) W A (mkRows g0 1).length (mkRows g0 1)) (hc : (mkRows g0 1).length ≤ c) => laws_heldIntSS.calls k A c (mkRows g0 1) 1 (mkSS g0 1) W hA hc HS0)
 have MN := ak MN0
 have hml := mkRows_length g0 1
 rw [hml] at HE
 have HQ := ak hq0
 have HGX := ak hgx
 have hqd : decide (mkSS g0 1 < 0) = false := decide_eq_false (by omega)
 clear TN0 SP0 IM0 EQ0 EN0 HS0 MN0 hml hq0 hm0 hgx
 generalize hqq : mkSS g0 1 = qq at HE HQ hqd
 have HQE := ak hqq
 clear hqq
 go_enter Try.func4, Try.ntmps4
 go_upto_region 10 with (first
  | (rw [← hWA]; clear hWA y0 y1; go_at_call 19; refine SZC.out.mono ?_; rintro e w1 ⟨rfl, hb⟩; have B1 := ak hb; obtain ⟨y0, y1⟩ := BX.out w1 hb; clear hb)
  | (go_at_call 20; (with_reducible refine (TN.out w1 B1.out).mono ?_); rintro e w2 ⟨v2, rfl, hr, hb⟩; clear y0 y1; obtain ⟨A2, c2, rfl, hc2, hC2⟩ := Kd.R_reads hr; have B2 := ak (B1.out.trans (hb.mono B1.out.size)); have SPC := ak (SP.out w2 A2 c2 hC2 hc2); clear hr hb hC2 hc2)
  | (go_at_call 14; refine SPC.out.mono ?_; rintro e w3 ⟨v3, rfl, hn, hb⟩; obtain ⟨Aw, cw, rfl, hcw, _⟩ := Kd.N_reads hn; have B3 := ak (B2.out.trans (hb.mono B2.out.size)); have HN := ak hn; obtain ⟨y0, y1⟩ := BX.out w3 B3.out; clear hn hb SPC)
  | (go_at_call 20; (with_reducible refine (TN.out w3 B3.out).mono ?_); rintro e w4 ⟨v4, rfl, hr, hb⟩; clear y0 y1; obtain ⟨Ax, cx, rfl, hcx, _⟩ := Kd.R_reads hr; obtain ⟨W5, hW5⟩ : ∃ W5, W5 = w4.alloc (.cells #[.int .i64 m1, .slice Ax m2.length cx] 25) := ⟨_, rfl⟩; have b45 : Below w4.heap.size w4 W5 := (by rw [hW5]; exact below_alloc (Below.refl _ _) _); have f5 : W5.heap[w4.heap.size]? = some (.cells #[.int .i64 m1, .slice Ax m2.length cx] 25 (0, 0)) := (by rw [hW5]; exact blk_new w4 _); have z0 : W5.cell? ⟨w4.heap.size, 0, none⟩ = some (.int .i64 m1) := (blk_cell f5 0).trans rfl; have z1 : W5.cell? ⟨w4.heap.size, 1, none⟩ = some (.slice Ax m2.length cx) := (blk_cell f5 1).trans rfl; have s45 : w4.heap.size < W5.heap.size := (by rw [hW5]; simp); have B35 := ak (hb.trans (b45.mono hb.size)); have HX := ak (Kd.R_lower (Kd.R_below hr b45) (Nat.le_refl _)); have XL := ak (fun (k : Nat) (hk : (Value.slice Ax m2.length cx).ownBlock = some k) => Nat.lt_of_lt_of_le (Kd.R_lt hr k hk) (Nat.le_of_lt s45)); have HF := ak f5; have IMC := ak (IM.out W5 Ax cx (Kd.R_reads' (Kd.R_below hr b45)).2.2 hcx); clear hr hb b45 f5 s45)
  | (rw [← hW5]; clear hW5; go_at_call 12; refine IMC.out.mono ?_; rintro e w6 ⟨v6, rfl, hs, hb⟩; clear z0 z1; obtain ⟨Ag, cg, rfl, hcg, hCg⟩ := Kd.S_reads hs; have B56 := ak hb; have B36 := ak (B35.out.trans (hb.mono B35.out.size)); have HS := ak (Kd.S_mono (ok' := fun k => W5.heap.size ≤ k) (Kd.S_bound hs) (fun _ hk => hk.2.1)); have EQC := ak (EQ.out w6 Ag Aw cg cw hCg hcg (Kd.N_reads' (Kd.N_below HN.out B36.out)).2.2 hcw); clear hs hb hCg IMC)
  | (go_at_call 21; refine EQC.out.mono ?_; rintro e w' ⟨rfl, ⟨nd, rfl⟩⟩; have B6 := ak (pw_below_drewN (Below.refl w6.heap.size w6) nd); clear EQC))
 obtain ⟨W7, hW7⟩ : ∃ W7, W7 = w6.drewN nd := ⟨_, rfl⟩
 have B67 : Below w6.heap.size w6 W7 := by rw [hW7]; exact B6.out
 rw [← hW7]
 clear hW7 B6
 have B37 := B36.out.trans (B67.mono B36.out.size)
 have BA7 : Below WA.heap.size WA W7 := B3.out.trans (B37.mono B3.out.size)
 have F7 : W7.heap[w4.heap.size]? = some (.cells #[.int .i64 m1, .slice Ax m2.length cx] 25 (0, 0)) := ((B56.out.trans (B67.mono B56.out.size)).block _ (blk_lt HF.out)).trans HF.out
 have HX7 := ak (Kd.R_below HX.out (B56.out.trans (B67.mono B56.out.size)))
 have HS7 := ak (Kd.S_below HS.out B67)
 have X7 := ak (fun (W : World) (hb : Below W7.heap.size W7 W) => (⟨(blk_cell ((hb.block _ (blk_lt F7)).trans F7) 0).trans rfl, (blk_cell ((hb.block _ (blk_lt F7)).trans F7) 1).trans rfl, (BX.out W (BA7.trans (hb.mono BA7.size))).1, (BX.out W (BA7.trans (hb.mono BA7.size))).2⟩ : W.cell? ⟨w4.heap.size, 0, none⟩ = some (.int .i64 m1) ∧ W.cell? ⟨w4.heap.size, 1, none⟩ = some (.slice Ax m2.length cx) ∧ W.cell? ⟨w.heap.size, 0, none⟩ = some (.int .i64 a0) ∧ W.cell? ⟨w.heap.size, 1, none⟩ = some (.slice A0 l.length c0)))
 have HB37 := ak B37
 have HBA7 := ak BA7
 clear B67 B37 BA7 F7 HF HX HS B56 B36
 refine start_ (n := 5) (S := fun w' => Below W7.heap.size W7 w') (ds := []) (ms 5 0) (by kernel_rfl) rfl (by kernel_rfl) (below_drew (Below.refl _ _)) (fun hHeld => ?_)
 generalize W7.drew = W8 at hHeld ⊢
 refine take_ (i := 0) (N := some 43) (v := ?_) (a' := ?_) (ms 5 1) rfl rfl (by kernel_rfl) (fun _ _ _ h => h) (Or.inl ⟨by rfl, ?_⟩) hHeld ?_ ?_
 rotate_left
 ·intro w' hS
  obtain ⟨s0, s1, s2, s3⟩ := X7.out w' hS
  go_simp
  with_reducible rfl
 rotate_left
 ·simp only [SX]
  rfl
 refine take_ (i := 1) (N := some 44) (v := ?_) (a' := ?_) (ms 5 3) rfl rfl (by kernel_rfl) (fun _ _ _ h => h) (Or.inl ⟨by rfl, ?_⟩) hHeld ?_ ?_
 rotate_left
 ·intro w' hS
  obtain ⟨s0, s1, s2, s3⟩ := X7.out w' hS
  go_simp
  with_reducible rfl
 rotate_left
 ·simp only [SX]
  rfl
 refine one_ (i := 2) (N := some 45) (ms 5 7) rfl rfl (by kernel_rfl) (by decide) (fun K hK => ?_)
 refine goes_ Try.func20 (by kernel_rfl) rfl #[.agg #[.int .i64 a0, .slice A0 l.length c0]] (by rfl) rfl rfl (by (try simp only [List.map_toArray, List.map_cons, List.map_nil]); rfl) ?_
 refine (TN.out W8 (HBA7.out.trans (hHeld.mono HBA7.out.size))).mono ?_
 rintro e w9 ⟨v9, rfl, hr9, hb9⟩
 refine ⟨_, rfl, ?_⟩
 obtain ⟨Ay, cy, rfl, hcy, hCy⟩ := Kd.R_reads hr9
 have hS9 : Below W7.heap.size W7 w9 := hHeld.trans (hb9.mono hHeld.size)
 refine hK.out _ _ hS9 (fun _ => ?_)
 clear hK K hHeld hb9 hr9
 refine norm_ (a' := ?_) ?_ ?_
 rotate_left
 ·show Act.put _ (some 45) _ = _
  simp only [SX]
  rfl
 refine one_ (i := 3) (N := some 46) (ms 5 15) rfl rfl (by kernel_rfl) (by decide) (fun K hK => ?_)
 refine goes_ Try.func22 (by kernel_rfl) rfl #[.agg #[.int .i64 m1, .slice Ax m2.length cx], .agg #[.int .i64 m1, .slice Ay m2.length cy]] (by rfl) rfl rfl (by (try simp only [List.map_toArray, List.map_cons, List.map_nil]); rfl) ?_
 refine (EN.out w9 Ax Ay cx cy (Kd.R_reads' (Kd.R_below HX7.out hS9)).2.2 hcx hCy hcy).mono ?_
 rintro e w10 ⟨rfl, hb10⟩
 refine ⟨_, rfl, ?_⟩
 have B10 := ak (hS9.trans (hb10.mono hS9.size))
 refine hK.out _ _ B10.out (fun _ => ?_)
 clear hK K hb10 hS9 hCy
 refine norm_ (a' := ?_) ?_ ?_
 rotate_left
 ·show Act.put _ (some 46) _ = _
  simp only [SX]
  rfl
 refine pure_ (i := 4) (N := some 47) (v := ?_) (a' := ?_) (ms 5 31) rfl rfl (by kernel_rfl) (fun _ _ _ h => h) (Or.inl ⟨by rfl, ?_⟩) ?_ ?_
 rotate_left
 ·intro w'
  go_simp
  with_reducible rfl
 rotate_left
 ·simp only [SX]
  rfl
 refine done_ (by kernel_rfl) ?_
 obtain ⟨z0, z1, _, _⟩ := X7.out w10 B10.out
 have B310 := ak (HB37.out.trans (B10.out.mono HB37.out.size))
 have MNC := ak (laws_markNet.calls k m1 (fun k => some k = (Value.slice Ax m2.length cx).ownBlock) (.slice Ax m2.length cx) m2 1 mk1 mk2 w3 w10 B310.out (Kd.R_mono (Kd.R_tight rfl (Kd.R_below HX7.out B10.out)) (fun _ h => h)) MN.out)
 have HS10 := ak (Kd.S_below HS7.out B10.out)
 clear X7 HX7 HS7 HBA7 HB37 B10 MN EN
 go_wp2_with (first
  | (go_at_call 23; refine MNC.out.mono ?_; rintro e w11 ⟨rfl, _, hb, hkp⟩; clear z0 z1; have B311 := ak hb; have HS11 := ak (Kd.S_kept HS10.out hkp (fun k hk hs => by have := XL.out k hs.symm; omega)); have EQ2 := ak (EQ.out w11 Ag Aw cg cw (Kd.S_reads' HS11.out).2.2 hcg (Kd.N_reads' (Kd.N_below HN.out hb)).2.2 hcw); clear hb hkp MNC)
  | (go_at_call 21; (with_reducible refine EQ2.out.mono ?_); rintro e w' ⟨rfl, ⟨nd2, rfl⟩⟩; have MSC := ak (markRows_any (.slice Ag g0.length cg) g0 1 w3 (w11.drewN nd2) W5.heap.size (fun k => W5.heap.size ≤ k) (fun k hk => Nat.le_trans B35.out.size hk) (B311.out.trans (pw_below_drewN (Below.refl _ _) nd2)) (Kd.S_drewN HS11.out nd2) hgl HGX.out); rw [HQE.out] at MSC; clear EQ2)
  | (go_at_call 24; refine MSC.out.mono ?_; rintro e w12 ⟨rfl, hs, hb, _⟩; have HS12 := ak hs; have B312 := ak hb; have BA12 := ak (B3.out.trans (hb.mono B3.out.size)); have HE1 := ak (HE.out w12 Ag cg (by have h := (Kd.S_reads' hs).2.2; rw [mkRows_length] at h; exact h) hcg); obtain ⟨y0, y1⟩ := BX.out w12 BA12.out; clear hs hb MSC)
  | (go_at_call 25; (with_reducible refine HE1.out.mono ?_); rintro e w' ⟨rfl, ⟨nd3, rfl⟩⟩; have B13 := ak (BA12.out.trans (pw_below_drewN (Below.refl _ _) nd3)); clear HE1)
  | (go_at_call 20; (with_reducible refine (TN.out _ B13.out).mono ?_); rintro e w14 ⟨v14, rfl, hr, hb⟩; clear y0 y1; obtain ⟨Az, cz, rfl, hcz, hCz⟩ := Kd.R_reads hr; have B1214 := ak ((pw_below_drewN (Below.refl w12.heap.size w12) nd3).trans hb); have IM2 := ak (IM.out w14 Az cz hCz hcz); clear hr hb hCz hcz)
  | (go_at_call 12; refine IM2.out.mono ?_; rintro e w15 ⟨v15, rfl, hs, hb⟩; obtain ⟨Ah, ch, rfl, hch, hCh⟩ := Kd.S_reads hs; have B1215 := ak (B1214.out.trans (hb.mono B1214.out.size)); have EQ3 := ak (EQ.out w15 Ah Aw ch cw hCh hch (Kd.N_reads' (Kd.N_below HN.out (B312.out.trans (B1215.out.mono B312.out.size)))).2.2 hcw); clear hs hb hCh IM2)
  | (go_at_call 21; (with_reducible refine EQ3.out.mono ?_); rintro e w' ⟨rfl, ⟨nd4, rfl⟩⟩; have HE2 := ak (HE.out (w15.drewN nd4) Ag cg (by have h := (Kd.S_reads' (Kd.S_drewN (Kd.S_below HS12.out B1215.out) nd4)).2.2; rw [mkRows_length] at h; exact h) hcg); clear EQ3)
  | (go_at_call 25; (with_reducible refine HE2.out.mono ?_); rintro e w' ⟨rfl, ⟨nd5, rfl⟩⟩; clear HE2))
 go_ret
 exact ⟨rfl, (HA.out.trans ((BA12.out.trans (B1215.out.mono BA12.out.size)).mono HA.out.size)).trans (pw_below_drewN (Below.refl _ _) _)⟩
/-- THE ONE PURE STATEMENT of laws_FnExactSomeOthers. -/
def laws_FnExactSomeOthers.Pure : Prop := ∀ (a0_0 : Int) (l0_1 : List (S109)) (a1 : Int) (a2 : Int) (a3 : Int) (a4 : Int), (Lit.int .i64 a0_0).wf = true → (l0_1.length ≤ 9223372036854775807 ∧ ∀ y_ ∈ l0_1, ((Lit.int .i64 y_.f0).wf = true ∧ ((Lit.int .i64 y_.f1).wf = true ∧ ((Lit.int .i64 y_.f2).wf = true ∧ ((Lit.int .i64 y_.f3).wf = true ∧ ((Lit.int .i64 y_.f4).wf = true)))))) → (Lit.int .i64 a1).wf = true → (Lit.int .i64 a2).wf = true → (Lit.int .i64 a3).wf = true → (Lit.int .i64 a4).wf = true → ∃ k, laws_FnExactSomeOthers.f k a0_0 l0_1 a1 a2 a3 a4 = some true

end Go.Proofs.Ytlgolgfcolnddaa.F
