-- Printed by wip/px/px.py of this claim's repository (the kit's printer, extended there). Lean checks it.
import Derived.Test.YtlgolgfcolnddaaFKinds
import Derived.Test.YtlgolgfcolnddaaFtextseenok
import Derived.Test.YtlgolgfcolnddaaFimplseenOk
import Derived.Test.YtlgolgfcolnddaaFimplNear
import Derived.Test.YtlgolgfcolnddaaFslicesCloneintint
import Derived.Test.YtlgolgfcolnddaaFslicesRepeatintint
import Derived.Test.YtlgolgfcolnddaaFslicesIn
import Derived.Test.YtlgolgfcolnddaaFtextseenstep
import Derived.Test.YtlgolgfcolnddaaFtextminint
import Derived.Test.YtlgolgfcolnddaaFtextseenbest
namespace Go.Proofs.Ytlgolgfcolnddaa.F
open Go.RowKit Go.Proofs.YtlgolgfcolnddaaW.PrintWords Go.Proofs.YtlgolgfcolnddaaW.PrintLast Go.Proofs.YtlgolgfcolnddaaW.PrintMore
attribute [local go_sem] max2_int min2_int max_two min_two max_three min_three max_four min_four   -- for this text's walks alone
set_option linter.unusedVariables false
set_option linter.unusedSimpArgs false

/-! ### text seenwalk -/
set_option maxHeartbeats 4000000 in
set_option maxRecDepth 100000 in
theorem seenBest_any (k : Nat) (n : Int) (A0 : Option Addr) (c0 : Nat) (l0 : List S58) (A1 : Option Addr) (c1 : Nat) (l1 : List (List Int)) (r1 : List Int) (r2 : Int) (w : World) (hr0 : Kd.C k58 w A0 l0.length l0) (hc0 : l0.length ≤ c0) (hr1 : Kd.C (Kd.slice 3 (Kd.int .i64)) w A1 l1.length l1) (hc1 : l1.length ≤ c1) (h : sbF k n l0 l1 = some (r1, r2)) :
    Calls Try.prog 40 #[.agg #[.int .i64 n, .slice A0 l0.length c0], .slice A1 l1.length c1] w fun e w' => ∃ v0_ : Value, e = .returned (.tuple #[v0_, .int .i64 r2]) ∧ Kd.R (Kd.int .i64) 3 w' w.heap.size (fun _ => True) v0_ r1 ∧ Below w.heap.size w w' := by
  have hu := Try.underlying25
  unfold sbF at h
  obtain ⟨W0, hW0⟩ : ∃ W0, W0 = (w.alloc (.cells #[.int .i64 n, .slice A0 l0.length c0] 25)).alloc (.cells #[.slice A1 l1.length c1] 28) := ⟨_, rfl⟩
  have B0 : Below w.heap.size w W0 := by rw [hW0]; exact below_alloc (below_alloc (Below.refl _ _) _) _
  have f1 : W0.heap[w.heap.size]? = some (.cells #[.int .i64 n, .slice A0 l0.length c0] 25 (0, 0)) := by rw [hW0]; exact blk_alloc (blk_new w _) _
  have f2 : W0.heap[w.heap.size + 1]? = some (.cells #[.slice A1 l1.length c1] 28 (0, 0)) := by rw [hW0]; have := heap_alloc_new (w.alloc (.cells #[.int .i64 n, .slice A0 l0.length c0] 25)) (.cells #[.slice A1 l1.length c1] 28); simpa using this
  have SO := Aside0.mk (impl_seenOk.calls n A0 c0 l0 A1 c1 l1 (seenOkB n l0 l1) W0 (Kd.C_below hr0 B0) hc0 (Kd.C_below hr1 B0) hc1 rfl)
  have F := Aside0.mk (fun (w1 : World) (hb : Below W0.heap.size W0 w1) => (⟨(blk_cell ((hb.block _ (blk_lt f1)).trans f1) 0).trans rfl, (blk_cell ((hb.block _ (blk_lt f1)).trans f1) 1).trans rfl, (blk_cell ((hb.block _ (blk_lt f2)).trans f2) 0).trans rfl, Nat.lt_of_lt_of_le (blk_lt f2) hb.size⟩ : w1.cell? ⟨w.heap.size, 0, none⟩ = some (.int .i64 n) ∧ w1.cell? ⟨w.heap.size, 1, none⟩ = some (.slice A0 l0.length c0) ∧ w1.cell? ⟨w.heap.size + 1, 0, none⟩ = some (.slice A1 l1.length c1) ∧ w.heap.size + 1 < w1.heap.size))
  have HB0 := Aside0.mk B0
  have HR0 := Aside0.mk hr0
  have HR1 := Aside0.mk hr1
  have F2 := Aside0.mk f2
  rw [hW0] at SO
  clear f1 f2 hr0 B0
  by_cases hok : seenOkB n l0 l1 = true
  case neg =>
    rw [if_neg hok] at h
    have hok' : seenOkB n l0 l1 = false := by cases hz : seenOkB n l0 l1 with | true => exact absurd hz hok | false => rfl
    rw [hok'] at SO
    injection h with h
    injection h with h1 h2
    subst h1 h2
    clear hr1
    go_enter Try.func40, Try.ntmps40
    go_wp2_with (go_at_call 79; refine SO.out.mono ?_; rintro e w1 ⟨rfl, hb1⟩)
    go_ret2
    rw [← hW0] at hb1
    exact ⟨_, rfl, Kd.R_nil _ _ _ _ _, HB0.out.trans (hb1.mono HB0.out.size)⟩
  case pos =>
    rw [if_pos hok] at h
    rw [hok] at SO
    obtain ⟨all, hall, h'⟩ := Option.bind_eq_some_iff.mp h
    clear h
    have h := h'
    clear h'
    by_cases hg : all.length = n.toNat ∧ (all.all fun r => r.length == n.toNat) = true
    case neg => rw [if_neg hg] at h; cases h
    rw [if_pos hg] at h
    have HD := Aside0.mk (Dims.of hok hg.1 hg.2)
    have hn := sights_seen hok
    obtain ⟨N, hN⟩ : ∃ N : Nat, n = (N : Int) := ⟨n.toNat, by omega⟩
    subst hN
    rw [Int.toNat_natCast] at h HD
    have TB := Aside0.mk (fun (w1 : World) (hb : Below W0.heap.size W0 w1) => impl_Net_table.calls k (N : Int) A0 c0 l0 all w1 (Kd.C_below (Kd.C_below HR0.out HB0.out) hb) hc0 hall)
    obtain ⟨ad0, Ar, cr, ea, hrow, hcr, hCr⟩ := at_R hr1 0 (by omega) (by omega)
    cases ea
    replace hrow : w.cell? ad0 = some (.slice Ar (rdR l1 0).length cr) := hrow
    have hl1 : (rdR l1 0).length = N := by have := HD.out.sight 0 (by omega); exact this
    have CL := Aside0.mk (fun (W : World) (hb : Below w.heap.size w W) => slices_Clone_int_int.calls Ar cr (rdR l1 0) (rdR l1 0) W (Kd.C_below hCr hb) hcr (by unfold slices_Clone_int_int.f; rw [if_pos (by omega)]))
    have ROW := Aside0.mk (fun (W : World) (hb : Below w.heap.size w W) => (hb.cell (World.block_lt_of_cell? w _ hrow)).trans hrow)
    have H := Aside0.mk h
    have d0 : decide ((0 : Int) < (l1.length : Int)) = true := decide_eq_true (by omega)
    have p0 : (0 : Int) < (l1.length : Int) := by omega
    have L6 := Aside0.mk (show 1 ≤ l1.length ∧ l1.length ≤ 6 ∧ 1 ≤ N ∧ N ≤ 8 by omega)
    clear h hall hr1 hrow hcr hCr hl1 hok hg hn
    go_enter Try.func40, Try.ntmps40
    go_wp2_with (first
      | (go_at_call 79; refine SO.out.mono ?_; rintro e w1 ⟨rfl, hb1⟩; rw [← hW0] at hb1; have HB1 := Aside0.mk hb1; obtain ⟨x1, x2, x3, x4⟩ := F.out w1 hb1; clear hb1)
      | (go_at_call 80; refine (TB.out _ HB1.out).mono ?_; rintro e w3 ⟨v3, rfl, hs3, hb3⟩; clear x1 x2 x3 x4; obtain ⟨Aa, ca, rfl, hca, hCa⟩ := Kd.R_reads (Kd.S_R hs3); have HB3 := Aside0.mk (HB1.out.trans (hb3.mono HB1.out.size)); have HCA := Aside0.mk hCa; have HB4 := Aside0.mk (below_alloc HB3.out (.cells #[.slice Aa all.length ca] 28)); obtain ⟨x1, x2, x3, x4⟩ := F.out _ HB4.out; have x5 := ROW.out _ (HB0.out.trans (HB4.out.mono HB0.out.size)); clear hs3 hb3 hCa)
      | (go_at_call 81; refine (CL.out _ (HB0.out.trans (HB4.out.mono HB0.out.size))).mono ?_; rintro e w5 ⟨v5, rfl, hr5, hb5⟩; clear x1 x2 x3 x4 x5; obtain ⟨A5, c5, rfl, _, _⟩ := Kd.R_reads hr5; have HSI := Aside0.mk (si_start hb5 hr5); have H35 := Aside0.mk (Nat.lt_of_lt_of_le (by simp) hb5.size : w3.heap.size < w5.heap.size); clear hr5 hb5))
    go_loopg [9] l1.length (fun kx s9 wr => ∃ i : Nat, s9 = .int .i64 i ∧ 1 ≤ i ∧ i ≤ l1.length ∧ l1.length - i ≤ kx ∧ Aside0 (SI w3 w3.heap.size (w5.heap.size + 1) (.slice Aa all.length ca) wr (leastV N all l1 i)))
    case atStart => exact ⟨1, rfl, Nat.le_refl _, L6.out.1, by omega, HSI⟩
    case round =>
      clear HSI
      rename World => wa
      obtain ⟨i, rfl, hi1, hil, hg, TW⟩ := hrel
      have BW := Aside0.mk (HB3.out.trans (TW.out.below.mono HB3.out.size))
      obtain ⟨x1, x2, x3, x4⟩ := F.out wa BW.out
      by_cases hlt : i < l1.length
      · have hltz : (i : Int) < (l1.length : Int) := by omega
        have RP := Aside0.mk (slices_Repeat_int_int.calls (some ⟨wa.heap.size, 0, none⟩) 1 [99999] (N : Int) (List.replicate N 99999) (wa.alloc (.cells #[.int .i64 99999] 3)) (one_int (blk_new wa _)) (Nat.le_refl _) (by have h8 := L6.out; show (if 0 ≤ (N : Int) ∧ (N : Int) ≤ 8 then some (List.replicate (N : Int).toNat 99999) else none) = _; rw [if_pos (by omega), Int.toNat_natCast]))
        have y1 := (F.out (wa.alloc (.cells #[.int .i64 99999] 3)) (below_alloc BW.out _)).1
        go_wp2_with (go_at_call 83; refine RP.out.mono ?_; rintro e w8 ⟨v8, rfl, hr8, hb8⟩; obtain ⟨g, cap, hv8, hg1, hg2, _⟩ := Kd.R_form hr8 (by have h8 := L6.out; rw [List.length_replicate]; omega); rw [List.length_replicate] at hv8; subst hv8; have HR8 := Aside0.mk hr8; have HB8 := Aside0.mk ((below_alloc (Below.refl _ _) _).trans (hb8.mono (by simp)) : Below wa.heap.size wa w8); have G8 := Aside0.mk hg1; clear hr8 hb8 hg1 hg2)
        go_loopg [42] N (fun kx s42 W => ∃ v : Nat, s42 = .int .i64 v ∧ v ≤ N ∧ N - v ≤ kx ∧ ∃ row : List Int, Aside0 (RowAt N all (leastV N all l1 i) l1 i v 0 row) ∧ Aside0 (Kd.R (Kd.int .i64) 3 W wa.heap.size (fun _ => True) (.slice (some ⟨g, 0, none⟩) N cap) row) ∧ Aside0 (Below wa.heap.size wa W))
        case atStart => exact ⟨0, rfl, Nat.zero_le _, by omega, List.replicate N 99999, ⟨RowAt.start _ _ _ _ _⟩, ⟨Kd.R_lower HR8.out (by simp)⟩, HB8⟩
        case round =>
          clear HR8 HB8 y1 RP
          obtain ⟨v, rfl, hv, hg2, row, RA, RR, BR⟩ := hrel
          by_cases hvn : v < N
          · have hvz : (v : Int) < (N : Int) := by omega
            go_wp2
            go_loopg [47] N (fun kx s47 W2 => ∃ u : Nat, s47 = .int .i64 u ∧ u ≤ N ∧ N - u ≤ kx ∧ ∃ row : List Int, Aside0 (RowAt N all (leastV N all l1 i) l1 i v u row) ∧ Aside0 (Kd.R (Kd.int .i64) 3 W2 wa.heap.size (fun _ => True) (.slice (some ⟨g, 0, none⟩) N cap) row) ∧ Aside0 (Below wa.heap.size wa W2))
            case atStart => exact ⟨0, rfl, Nat.zero_le _, by omega, row, RA, RR, BR⟩
            case round =>
              clear RA RR BR row
              obtain ⟨u, rfl, hu, hg3, row, RA, RR, BR⟩ := hrel
              by_cases hun : u < N
              · have huz : (u : Int) < (N : Int) := by omega
                have hu8 : u + 1 ≤ 8 := Nat.le_trans hun L6.out.2.2.2
                have hv1 : v < N := hvn
                obtain ⟨y1, y2⟩ := Kd.R_celln (0 : Int) RR.out (v : Int) (by omega) hvz
                rw [Int.toNat_natCast] at y1 y2
                have ST := Aside0.mk (fun (W : World) (hb : Below wa.heap.size wa W) => (TW.out.next hb).step HD.out (Nat.le_of_lt hlt) HCA.out (Nat.lt_of_lt_of_le (blk_lt F2.out) HB3.out.size) ((HB3.out.block _ (blk_lt F2.out)).trans F2.out) (Kd.C_below HR1.out (HB0.out.trans (HB3.out.mono HB0.out.size))) i u v hi1 hlt (Nat.le_refl _) hun hv1)
                have NX := Aside0.mk (show RowAt N all (leastV N all l1 i) l1 i v (u + 1) (row.set v (if stepV all (leastV N all l1 i) l1 i u v < rdOf (0 : Int) row (v : Int) then stepV all (leastV N all l1 i) l1 i u v else rdOf (0 : Int) row (v : Int))) from RA.out.step hv1)
                have FIN := Aside0.mk (fun (nd : Nat) => (⟨by have := Kd.R_putn (Kd.R_drewN RR.out nd) (v : Int) (if stepV all (leastV N all l1 i) l1 i u v < rdOf (0 : Int) row (v : Int) then stepV all (leastV N all l1 i) l1 i u v else rdOf (0 : Int) row (v : Int)); rwa [Int.toNat_natCast] at this, below_set (pw_below_drewN BR.out nd) (Nat.le_trans (by simp) G8.out)⟩ : Kd.R (Kd.int .i64) 3 ((wr.drewN nd).setCell ⟨g, v, none⟩ (.int .i64 (if stepV all (leastV N all l1 i) l1 i u v < rdOf (0 : Int) row (v : Int) then stepV all (leastV N all l1 i) l1 i u v else rdOf (0 : Int) row (v : Int)))) wa.heap.size (fun _ => True) (.slice (some ⟨g, 0, none⟩) N cap) (row.set v (if stepV all (leastV N all l1 i) l1 i u v < rdOf (0 : Int) row (v : Int) then stepV all (leastV N all l1 i) l1 i u v else rdOf (0 : Int) row (v : Int))) ∧ Below wa.heap.size wa ((wr.drewN nd).setCell ⟨g, v, none⟩ (.int .i64 (if stepV all (leastV N all l1 i) l1 i u v < rdOf (0 : Int) row (v : Int) then stepV all (leastV N all l1 i) l1 i u v else rdOf (0 : Int) row (v : Int))))))
                go_wp2
                go_region_law (go_simp; go_at_call 82; refine (ST.out _ ?_).mono ?_; (exact below_drew BR.out); rintro e w9 ⟨rfl, ⟨nd, rfl⟩⟩)
                all_goals
                  generalize (if stepV all (leastV N all l1 i) l1 i u v < rdOf (0 : Int) row (v : Int) then stepV all (leastV N all l1 i) l1 i u v else rdOf (0 : Int) row (v : Int)) = x at NX FIN ⊢
                  go_wp2
                  go_roundg (N - (u + 1))
                  case measure => omega
                  case rel => exact ⟨u + 1, by go_num, hun, Nat.le_refl _, _, NX, ⟨(FIN.out _).1⟩, ⟨(FIN.out _).2⟩⟩
              · have huz : ¬ (u : Int) < (N : Int) := by omega
                have hue : u = N := by omega
                have RA2 := RA.out
                rw [hue] at RA2
                have RA3 := Aside0.mk (RA2.next hvn)
                have hv1 : v + 1 ≤ N := hvn
                have hv8 : v + 1 ≤ 8 := Nat.le_trans hvn L6.out.2.2.2
                clear RA RA2
                go_wp2
                go_roundg (N - (v + 1))
                case measure => omega
                case rel => exact ⟨v + 1, by go_num, hv1, Nat.le_refl _, row, RA3, RR, BR⟩
          · have hvz : ¬ (v : Int) < (N : Int) := by omega
            have hve : N ≤ v := by omega
            have RE := RA.out.end_ hve
            clear RA
            obtain ⟨sb, sa, lv, sl, sr⟩ := TW.out
            have lg : w5.heap.size + 1 < wa.heap.size := blk_lt sl
            have la : w3.heap.size < wa.heap.size := blk_lt sa
            have lb := fun k_ hk => Kd.R_lt sr k_ hk
            have sB : Below w3.heap.size w3 wr := sb.trans (BR.out.mono sb.size)
            have sW := BR.out.size
            have sA := (BR.out.block _ la).trans sa
            have sL := (BR.out.block _ lg).trans sl
            have sR := Kd.R_below sr BR.out
            obtain ⟨Al, cl, elv, _, _⟩ := Kd.R_reads sR
            subst elv
            have y1 : wr.cell? ⟨w5.heap.size + 1, 0, none⟩ = some (.slice Al (leastV N all l1 i).length cl) := (blk_cell sL 0).trans rfl
            have SR := Aside0.mk sR
            have SW := Aside0.mk sW
            have SB := Aside0.mk sB
            have RM := Aside0.mk (Kd.M_row (Kd.R_lower (Kd.R_bound RR.out) sb.size))
            have LL := Aside0.mk (show ((leastV N all l1 i).length + 1) * 24 ≤ 140737488355328 by rw [leastV_length]; have := L6.out.2.1; omega)
            have OKP := Aside0.mk (fun (k_ : Nat) (hk : True ∧ wa.heap.size ≤ k_ ∧ k_ < wr.heap.size ∧ ∃ q, q ∈ 3 :: (Kd.int .i64).E ∧ ∃ cells, wr.heap[k_]? = some (.cells cells q (0, 0))) => (⟨⟨by have := hk.2.1; omega, by have := hk.2.1; omega⟩, fun e => by have := lb k_ e.symm; have := hk.2.1; omega⟩ : (k_ ≠ w3.heap.size ∧ k_ ≠ w5.heap.size + 1) ∧ some k_ ≠ (Value.slice Al (leastV N all l1 i).length cl).ownBlock))
            have FR := Aside0.mk (fun (k_ : Nat) (hk : wr.heap.size ≤ k_) => (⟨by omega, by omega⟩ : k_ ≠ w3.heap.size ∧ k_ ≠ w5.heap.size + 1))
            have NW := Aside0.mk (fun (v1 : Value) (w1 : World) (ho : Kd.R (Kd.slice 3 (Kd.int .i64)) 33 w1 w3.heap.size (fun k_ => k_ ≠ w3.heap.size ∧ k_ ≠ w5.heap.size + 1) v1 (leastV N all l1 i ++ [row])) (hb : Below w3.heap.size w3 w1) (hg : wr.grownBy w1 (Value.slice Al (leastV N all l1 i).length cl).ownBlock) => (by
              have n1 : some w3.heap.size ≠ (Value.slice Al (leastV N all l1 i).length cl).ownBlock := fun e => (sr.1 _ e.symm).1 rfl
              have n2 : some (w5.heap.size + 1) ≠ (Value.slice Al (leastV N all l1 i).length cl).ownBlock := fun e => (sr.1 _ e.symm).2 rfl
              have g1 := (hg.block w3.heap.size (by omega) n1).trans sA
              have g2 := (hg.block (w5.heap.size + 1) (by omega) n2).trans sL
              have hn : w3.heap.size ≠ w5.heap.size + 1 := by have := H35.out; omega
              have e : leastV N all l1 (i + 1) = leastV N all l1 i ++ [row] := by rw [RE, leastV, if_neg (by omega)]
              exact ⟨⟨(blk_cell g2 0).trans rfl, blk_frozen g2 0⟩, below_set hb (by have := H35.out; omega), blk_far g1 hn _, ⟨v1, blk_set g2 0 v1, by rw [e]; exact Kd.R_far ho (fun _ hk => hk.2) _⟩⟩ : (w1.cell? ⟨w5.heap.size + 1, 0, none⟩ = some (.slice Al (leastV N all l1 i).length cl) ∧ w1.frozen? ⟨w5.heap.size + 1, 0, none⟩ = false) ∧ SI w3 w3.heap.size (w5.heap.size + 1) (.slice Aa all.length ca) (w1.setCell ⟨w5.heap.size + 1, 0, none⟩ v1) (leastV N all l1 (i + 1))))
            clear sb sa sl sr lg la lb sB sW sA sL sR RE TW RR
            have hi8 : i + 1 ≤ 6 := Nat.le_trans hlt L6.out.2.1
            go_wp2_with (first
              | ((with_reducible refine gate_builtin (b := .append) (xs := #[.tmp 65, .tmp 67]) rfl ?_); at_builtin; refine Kd.R_append (Kd.slice 3 (Kd.int .i64)) (w0 := w3) w3.heap.size rfl (.tmp 65) (.tmp 67) 28 33 (.slice none 0 0) 24 rfl Try.underlying28 info33 rfl (by decide) (by omega) (.slice Al (leastV N all l1 i).length cl) (leastV N all l1 i) row [.slice (some ⟨g, 0, none⟩) N cap] (fun k_ => k_ ≠ w3.heap.size ∧ k_ ≠ w5.heap.size + 1) _ rfl rfl ?aP OKP.out ?aF ?aO ?aB ?aS ?aL ?_; (case aP => exact RM.out); (case aB => exact SB.out); (case aF => exact FR.out); (case aO => exact SR.out); (case aS => exact SB.out.size); (case aL => exact LL.out); intro v2 w2' ho hb hg hat; obtain ⟨A2, c2, e2, _, _⟩ := Kd.R_reads ho; rw [List.length_append, List.length_singleton] at e2; subst e2; obtain ⟨⟨z1, z2⟩, z3⟩ := NW.out _ w2' ho hb hg; have NS := Aside0.mk z3; clear ho hb hg hat z3))
            go_roundg (l1.length - (i + 1))
            case measure => omega
            case rel => exact ⟨i + 1, by go_num, by omega, hlt, Nat.le_refl _, NS⟩
      · have hltz : ¬ (i : Int) < (l1.length : Int) := by omega
        have hie : i = l1.length := by omega
        have TS := TW.out
        rw [hie] at TS
        have h := H.out
        unfold endV at h
        obtain ⟨o, hidx, h2⟩ := Option.bind_eq_some_iff.mp h
        by_cases ho : 0 ≤ o ∧ o < (N : Int)
        case neg => rw [if_neg ho] at h2; cases h2
        rw [if_pos ho] at h2
        obtain ⟨r, hback, h3⟩ := Option.bind_eq_some_iff.mp h2
        injection h3 with h3
        injection h3 with h4 h5
        subst h4
        obtain ⟨ov, rfl⟩ := Int.eq_ofNat_of_zero_le ho.1
        rw [Int.toNat_natCast] at hback
        have hov : ov < N := by have := ho.2; omega
        obtain ⟨sb, sa, lv, sl, sr⟩ := TS
        obtain ⟨Al, cl, elv, hcl, hCl⟩ := Kd.R_reads sr
        subst elv
        have hll : (leastV N all l1 l1.length).length = l1.length := leastV_length N all l1 l1.length
        have h16 := L6.out
        obtain ⟨ad, Ar2, cr2, ea, hc2, hcr2, hCr2⟩ := at_R hCl ((l1.length - 1 : Nat) : Int) (by omega) (by omega)
        cases ea
        have hrl : (rdR (leastV N all l1 l1.length) ((l1.length - 1 : Nat) : Int)).length = N := HD.out.least (by omega)
        rw [Int.toNat_natCast] at hc2
        have HBK := Aside0.mk hback
        have GW := Aside0.mk (fun (W : World) (hb : Below wa.heap.size wa W) => (⟨(F.out W (BW.out.trans (hb.mono BW.out.size))).2.2.1, (blk_cell ((hb.block _ (blk_lt sl)).trans sl) 0).trans rfl, (hb.cell (World.block_lt_of_cell? wa _ hc2)).trans hc2⟩ : W.cell? ⟨w.heap.size + 1, 0, none⟩ = some (.slice (some ad0) l1.length c1) ∧ W.cell? ⟨w5.heap.size + 1, 0, none⟩ = some (.slice (some ad) (leastV N all l1 l1.length).length cl) ∧ W.cell? (ad.add (l1.length - 1)) = some (.slice Ar2 (rdR (leastV N all l1 l1.length) ((l1.length - 1 : Nat) : Int)).length cr2)))
        have MN := Aside0.mk (minI_any Ar2 cr2 (rdR (leastV N all l1 l1.length) ((l1.length - 1 : Nat) : Int)) wa (by omega) hCr2)
        have IX := Aside0.mk (fun (W : World) (hb : Below wa.heap.size wa W) => slices_Index_int_int.calls k Ar2 cr2 (rdR (leastV N all l1 l1.length) ((l1.length - 1 : Nat) : Int)) _ _ W (Kd.C_below hCr2 hb) hcr2 hidx)
        have SG := Aside0.mk (show SI w3 w3.heap.size (w5.heap.size + 1) (.slice Aa all.length ca) wa (leastV N all l1 l1.length) from ⟨sb, sa, ⟨_, sl, sr⟩⟩)
        have w1_ : IntKind.i64.wrap ((l1.length : Int) - 1) = ((l1.length - 1 : Nat) : Int) := by rw [IntKind.wrap_i64]; omega
        obtain ⟨y1, y2, y3⟩ := GW.out wa (Below.refl _ _)
        have d1 : decide ((0 : Int) ≤ ((l1.length - 1 : Nat) : Int)) = true := decide_eq_true (by omega)
        have d2 : decide (((l1.length - 1 : Nat) : Int) < ((leastV N all l1 l1.length).length : Int)) = true := decide_eq_true (by omega)
        have d3 : decide (((l1.length - 1 : Nat) : Int) < (l1.length : Int)) = true := decide_eq_true (by omega)
        have d4 : ((l1.length - 1 : Nat) : Int) < ((leastV N all l1 l1.length).length : Int) := by omega
        have d5 : ((l1.length - 1 : Nat) : Int) < (l1.length : Int) := by omega
        rw [h5] at IX MN
        have HN := Aside0.mk hll
        have HCL := Aside0.mk hCl
        clear TW H h h2 hidx hback h5 sb sa sl sr hCl hCr2 hcl hrl h16 TB CL ROW
        have LM := Aside0.mk (show ((l1.length : Int).toNat) * 8 ≤ 281474976710656 by have := L6.out.2.1; omega)
        have POS := Aside0.mk (show 0 < (List.replicate ((l1.length : Int).toNat) (0 : Int)).length by have := L6.out.1; rw [List.length_replicate]; omega)
        have d6 : (0 : Int) ≤ (l1.length : Int) := by omega
        go_wp2_with (first
          | (go_at_call 84; refine MN.out.mono ?_; rintro e w10 ⟨rfl, hb10⟩; have HB10 := Aside0.mk hb10; clear y1 y2 y3; obtain ⟨y1, y2, y3⟩ := GW.out w10 hb10; clear hb10)
          | ((with_reducible refine gate_dst (N := 79) rfl ?_); refine Kd.R_make (Kd.int .i64) _ 3 rfl (N := 79) rfl 33 _ _ rfl (l1.length : Int) rfl rfl Try.underlying33 (.int .i64 0) 8 info3 rfl (by decide) (by omega) 0 (ok := fun _ => True) (okp := fun _ => True) rfl (fun _ hk => hk) trivial d6 LM.out (Below.refl _ _) (Nat.le_refl _) ?_; intro v11 w11 ho5 hb hg_ hnew_; clear hg_ hnew_; obtain ⟨go, capo, ev, hgo, _, _⟩ := Kd.R_form ho5 POS.out; rw [List.length_replicate, Int.toNat_natCast] at ev; rw [Int.toNat_natCast] at ho5; subst ev; obtain ⟨y4, y5⟩ := Kd.R_celln (0 : Int) ho5 ((l1.length - 1 : Nat) : Int) (Int.natCast_nonneg _) d5; rw [Int.toNat_natCast] at y4 y5; have HO11 := Aside0.mk ho5; have HB11 := Aside0.mk (HB10.out.trans (hb.mono HB10.out.size)); have GO := Aside0.mk hgo; have HBM := Aside0.mk hb; clear y1 y2 y3; obtain ⟨y1, y2, y3⟩ := GW.out w11 HB11.out; clear ho5 hb hgo)
          | (go_at_call 85; refine (IX.out _ HB11.out).mono ?_; rintro e w12 ⟨rfl, ⟨nd, rfl⟩⟩))
        have OS := Aside0.mk (show Kd.R (Kd.int .i64) 3 ((w11.drewN nd).setCell ⟨go, l1.length - 1, none⟩ (.int .i64 (ov : Int))) w10.heap.size (fun _ => True) (.slice (some ⟨go, 0, none⟩) l1.length capo) (outV (l1.length - 1) (ov : Int) []) by
          have h1 := Kd.R_putn (Kd.R_drewN HO11.out nd) ((l1.length - 1 : Nat) : Int) (ov : Int)
          rw [Int.toNat_natCast, outV_start _ _ L6.out.1] at h1
          exact h1)
        have OB := Aside0.mk (below_set (pw_below_drewN HBM.out nd) GO.out : Below w10.heap.size w10 ((w11.drewN nd).setCell ⟨go, l1.length - 1, none⟩ (.int .i64 (ov : Int))))
        clear y1 y2 y3 y4 y5 HO11 IX MN
        go_loopg [16] l1.length (fun kx s16 W => ∃ (i v : Nat) (tl : List Int), s16 = .int .i64 i ∧ i < l1.length ∧ v < N ∧ i ≤ kx ∧ Aside0 (backV N all (leastV N all l1 l1.length) l1 i v tl = some r) ∧ Aside0 (Kd.R (Kd.int .i64) 3 W w10.heap.size (fun _ => True) (.slice (some ⟨go, 0, none⟩) l1.length capo) (outV i (v : Int) tl)) ∧ Aside0 (Below w10.heap.size w10 W))
        case atStart => exact ⟨l1.length - 1, ov, [], rfl, by have := L6.out.1; omega, hov, by omega, HBK, OS, OB⟩
        case round =>
          clear OS OB HBK
          obtain ⟨i, v, tl, rfl, hi, hv, hg1, HK, OR, OB⟩ := hrel
          by_cases hi0 : 0 < i
          · have hiz : (0 : Int) < (i : Int) := by omega
            have hiz2 : decide ((i : Int) > 0) = true := decide_eq_true hiz
            have hil : (i : Int) < (l1.length : Int) := by omega
            obtain ⟨u0, hs0, hk0⟩ := backV_pos hi0 HK.out
            have HK2 := Aside0.mk hk0
            have HS0 := Aside0.mk (show seekV (hitV all (leastV N all l1 l1.length) l1 i v) (N - 0) 0 = some u0 from hs0)
            obtain ⟨y1, _⟩ := Kd.R_celln (0 : Int) OR.out (i : Int) (Int.natCast_nonneg _) hil
            rw [Int.toNat_natCast, outV_at] at y1
            have OR2 := Aside0.mk (show Kd.R (Kd.int .i64) 3 wr w10.heap.size (fun _ => True) (.slice (some ⟨go, 0, none⟩) l1.length capo) (outV (i - 1) ((0 : Nat) : Int) ((v : Int) :: tl)) by have := OR.out; rwa [outV_step i _ _ hi0] at this)
            have w2_ : IntKind.i64.wrap ((i : Int) - 1) = ((i - 1 : Nat) : Int) := by have h6 := L6.out.2.1; rw [IntKind.wrap_i64]; omega
            clear HK OR hs0 hk0
            go_wp2
            go_loopg [] N (fun kx W2 => ∃ u : Nat, N - u ≤ kx ∧ Aside0 (seekV (hitV all (leastV N all l1 l1.length) l1 i v) (N - u) u = some u0) ∧ Aside0 (Kd.R (Kd.int .i64) 3 W2 w10.heap.size (fun _ => True) (.slice (some ⟨go, 0, none⟩) l1.length capo) (outV (i - 1) (u : Int) ((v : Int) :: tl))) ∧ Aside0 (Below w10.heap.size w10 W2))
            case atStart => exact ⟨0, by omega, HS0, OR2, OB⟩
            case round =>
              clear HS0 OR2 OB y1
              obtain ⟨u, hg2, HS, OR, OB⟩ := hrel
              obtain ⟨hu, hp1, hp2⟩ := seekV_pos HS.out
              have BA := Aside0.mk (HB10.out.trans (OB.out.mono HB10.out.size) : Below wa.heap.size wa wr)
              have ST := Aside0.mk (fun (W : World) (hb : Below wa.heap.size wa W) => (SG.out.next hb).step HD.out (Nat.le_refl _) HCA.out (Nat.lt_of_lt_of_le (blk_lt F2.out) HB3.out.size) ((HB3.out.block _ (blk_lt F2.out)).trans F2.out) (Kd.C_below HR1.out (HB0.out.trans (HB3.out.mono HB0.out.size))) i u v hi0 hi (Nat.le_of_lt hi) hu hv)
              have hll := HN.out
              have hrl : (rdR (leastV N all l1 l1.length) (i : Int)).length = N := HD.out.least hi
              obtain ⟨ad', Ai, ci, ea, hci, _, hCi⟩ := at_R HCL.out (i : Int) (Int.natCast_nonneg _) (by omega)
              injection ea with ea
              subst ea
              rw [Int.toNat_natCast] at hci
              obtain ⟨b1, eb, hb1⟩ := Kd.at_int hCi (v : Int) (Int.natCast_nonneg _) (by omega)
              cases eb
              rw [Int.toNat_natCast] at hb1
              have z1 := (GW.out wr BA.out).2.1
              have z2 := (BA.out.cell (World.block_lt_of_cell? wa _ hci)).trans hci
              have z3 : wr.cell? (b1.add v) = some (.int .i64 (rd (rdR (leastV N all l1 l1.length) (i : Int)) (v : Int))) := (BA.out.cell (World.block_lt_of_cell? wa _ hb1)).trans hb1
              obtain ⟨y1, y2⟩ := Kd.R_celln (0 : Int) OR.out ((i - 1 : Nat) : Int) (Int.natCast_nonneg _) (by omega)
              rw [Int.toNat_natCast] at y1 y2
              rw [outV_at] at y1
              have d1 : decide ((0 : Int) ≤ (i : Int)) = true := decide_eq_true (by omega)
              have d2 : decide ((i : Int) < ((leastV N all l1 l1.length).length : Int)) = true := decide_eq_true (by omega)
              have d3 : decide ((0 : Int) ≤ (v : Int)) = true := decide_eq_true (by omega)
              have d4 : decide ((v : Int) < ((rdR (leastV N all l1 l1.length) (i : Int)).length : Int)) = true := decide_eq_true (by omega)
              have d5 : decide ((0 : Int) ≤ ((i - 1 : Nat) : Int)) = true := decide_eq_true (by omega)
              have d6 : decide (((i - 1 : Nat) : Int) < (l1.length : Int)) = true := decide_eq_true (by omega)
              have w3_ : IntKind.i64.wrap ((i : Int) - 1) = ((i - 1 : Nat) : Int) := by have h6 := L6.out.2.1; rw [IntKind.wrap_i64]; omega
              have n1 : i - 1 < l1.length := by omega
              have n2 : i < (leastV N all l1 l1.length).length := by omega
              have n3 : v < (rdR (leastV N all l1 l1.length) (i : Int)).length := by omega
              have hu8 : u + 1 ≤ 8 := Nat.le_trans hu L6.out.2.2.2
              clear hci hCi hb1 hll hrl
              by_cases hp : hitV all (leastV N all l1 l1.length) l1 i v u = true
              · have e1 := hp1 hp
                have HK3 := Aside0.mk (by have := HK2.out; rwa [e1] at this : backV N all (leastV N all l1 l1.length) l1 (i - 1) u ((v : Int) :: tl) = some r)
                unfold hitV at hp
                have hpn : (stepV all (leastV N all l1 l1.length) l1 i u v != rd (rdR (leastV N all l1 l1.length) (i : Int)) (v : Int)) = false := by rw [bne, hp]; rfl
                have hpe : stepV all (leastV N all l1 l1.length) l1 i u v = rd (rdR (leastV N all l1 l1.length) (i : Int)) (v : Int) := beq_iff_eq.1 hp
                clear hp1 hp2 HK2 HS e1
                go_wp2
                go_quiet ((go_at_call 82; exact Calls.quiet_of (ST.out _ (pw_below_drewN BA.out _))))
                go_wp2
                go_roundg (i - 1)
                case measure => omega
                case rel => exact ⟨i - 1, u, (v : Int) :: tl, by first | rfl | go_num, n1, hu, Nat.le_refl _, HK3, ⟨Kd.R_drewN OR.out nq⟩, ⟨pw_below_drewN OB.out nq⟩⟩
              · have hpf : hitV all (leastV N all l1 l1.length) l1 i v u = false := by cases hz : hitV all (leastV N all l1 l1.length) l1 i v u with | true => exact absurd hz hp | false => rfl
                have HS2 := Aside0.mk (hp2 hpf)
                unfold hitV at hpf
                have hpn : (stepV all (leastV N all l1 l1.length) l1 i u v != rd (rdR (leastV N all l1 l1.length) (i : Int)) (v : Int)) = true := by rw [bne, hpf]; rfl
                have hpe : ¬ stepV all (leastV N all l1 l1.length) l1 i u v = rd (rdR (leastV N all l1 l1.length) (i : Int)) (v : Int) := beq_eq_false_iff_ne.1 hpf
                have FIN := Aside0.mk (fun (nd : Nat) => (⟨by have h := Kd.R_putn (Kd.R_drewN OR.out nd) ((i - 1 : Nat) : Int) ((u + 1 : Nat) : Int); rw [Int.toNat_natCast, outV_set] at h; exact h, below_set (pw_below_drewN OB.out nd) GO.out⟩ : Kd.R (Kd.int .i64) 3 ((wr.drewN nd).setCell ⟨go, i - 1, none⟩ (.int .i64 ((u : Int) + 1))) w10.heap.size (fun _ => True) (.slice (some ⟨go, 0, none⟩) l1.length capo) (outV (i - 1) ((u + 1 : Nat) : Int) ((v : Int) :: tl)) ∧ Below w10.heap.size w10 ((wr.drewN nd).setCell ⟨go, i - 1, none⟩ (.int .i64 ((u : Int) + 1)))))
                clear hp hp1 hp2 HK2 HS
                go_wp2
                go_quiet ((go_at_call 82; exact Calls.quiet_of (ST.out _ (pw_below_drewN BA.out _))))
                go_wp2
                go_roundg (N - (u + 1))
                case measure => omega
                case rel => exact ⟨u + 1, Nat.le_refl _, HS2, ⟨(FIN.out _).1⟩, ⟨(FIN.out _).2⟩⟩
          · have hiz : ¬ (0 : Int) < (i : Int) := by omega
            have hiz2 : decide ((i : Int) > 0) = false := decide_eq_false hiz
            have hi00 : i = 0 := by omega
            have hk := HK.out
            have ho := OR.out
            rw [hi00, backV] at hk
            have hk := Option.some.inj hk
            rw [hi00] at ho
            have HRR := Aside0.mk (show Kd.R (Kd.int .i64) 3 wr w10.heap.size (fun _ => True) (.slice (some ⟨go, 0, none⟩) l1.length capo) r by rw [← hk]; exact ho)
            have HBB := Aside0.mk (HB0.out.trans ((BW.out.trans ((HB10.out.trans (OB.out.mono HB10.out.size)).mono BW.out.size)).mono HB0.out.size))
            have HSZ := Aside0.mk (Nat.le_trans (Nat.le_trans HB0.out.size BW.out.size) HB10.out.size)
            clear hk ho HK OR
            go_wp2
            go_ret2
            exact ⟨_, rfl, Kd.R_lower HRR.out HSZ.out, HBB.out⟩
theorem sbF_mono (k : Nat) (n : Int) (l : List S58) (s : List (List Int)) : LeO (sbF k n l s) (sbF (k + 1) n l s) := by
  unfold sbF
  refine LeO.ite (LeO.bind (impl_Net_table.mono _ _ k) fun _ => LeO.ite ?_ (LeO.none _)) (LeO.refl _)
  unfold endV
  exact LeO.bind (slices_Index_int_int.mono _ _ k) fun _ => LeO.refl _

end Go.Proofs.Ytlgolgfcolnddaa.F
