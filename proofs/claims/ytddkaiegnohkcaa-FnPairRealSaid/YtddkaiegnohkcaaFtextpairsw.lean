-- Printed by wip/px/px.py of this claim's repository (the kit's printer, extended there). Lean checks it.
import Derived.Test.YtddkaiegnohkcaaFKinds
import Derived.Test.YtddkaiegnohkcaaFimplPair69
import Derived.Test.YtddkaiegnohkcaaFtextfrontw
import Derived.Test.YtddkaiegnohkcaaFimplPair71
import Derived.Test.YtddkaiegnohkcaaFtextpairsd
namespace Go.Proofs.Ytddkaiegnohkcaa.F
open Go.RowKit Go.Proofs.YtddkaiegnohkcaaW.PrintWords Go.Proofs.YtddkaiegnohkcaaW.PrintLast Go.Proofs.YtddkaiegnohkcaaW.PrintMore
attribute [local go_sem] max2_int min2_int max_two min_two max_three min_three max_four min_four   -- for this text's walks alone
set_option linter.unusedVariables false
set_option linter.unusedSimpArgs false

/-! ### text pairsw -/
set_option maxHeartbeats 16000000 in
set_option maxRecDepth 100000 in
theorem pairs_any (k : Nat) (n : Int) (A0 : Option Addr) (c0 : Nat) (l0 : List S33) (a b : Int) (r : List S35) (w : World) (hr0 : Kd.C k33 w A0 l0.length l0) (hc0 : l0.length ≤ c0) (h : pairsF k n l0 a b = some r) :
    Calls Try.prog 45 #[.agg #[.int .i64 n, .slice A0 l0.length c0], .int .i64 a, .int .i64 b] w fun e w' => ∃ v0_ : Value, e = .returned v0_ ∧ Kd.R k35 35 w' w.heap.size (fun _ => True) v0_ r ∧ Below w.heap.size w w' := by
  have hu := Try.underlying25
  have hu2 := Try.underlying33
  have hu3 := Try.underlying35
  unfold pairsF at h
  by_cases hg : (1 ≤ n ∧ n ≤ 1000) ∧ (0 ≤ a ∧ a < n) ∧ (0 ≤ b ∧ b < n)
  case neg => rw [if_neg hg] at h; cases h
  rw [if_pos hg] at h
  obtain ⟨df, hdf, h2⟩ := Option.bind_eq_some_iff.mp h
  by_cases hlen : df.length = n.toNat
  case neg => rw [if_neg hlen] at h2; cases h2
  rw [if_pos hlen] at h2
  have h2 := Option.some.inj h2
  obtain ⟨N, rfl⟩ : ∃ N : Nat, n = (N : Int) := ⟨n.toNat, by omega⟩
  obtain ⟨an, rfl⟩ : ∃ an : Nat, a = (an : Int) := ⟨a.toNat, by omega⟩
  obtain ⟨bn, rfl⟩ : ∃ bn : Nat, b = (bn : Int) := ⟨b.toNat, by omega⟩
  simp only [Int.toNat_natCast] at hdf hlen
  have hbig : l0.length ≤ 9223372036854775807 := by
    have := hr0.2.1
    omega
  obtain ⟨W1, hW1⟩ : ∃ W1, W1 = w.alloc (.cells #[.int .i64 (N : Int), .slice A0 l0.length c0] 25) := ⟨_, rfl⟩
  have B1 : Below w.heap.size w W1 := by rw [hW1]; exact below_alloc (Below.refl _ _) _
  have f1 : W1.heap[w.heap.size]? = some (.cells #[.int .i64 (N : Int), .slice A0 l0.length c0] 25 (0, 0)) := by rw [hW1]; exact blk_new w _
  have s1 : W1.heap.size = w.heap.size + 1 := by rw [hW1]; simp
  have F := Aside0.mk (fun (W : World) (hb : Below W1.heap.size W1 W) => (⟨(blk_cell ((hb.block _ (blk_lt f1)).trans f1) 0).trans rfl, (blk_cell ((hb.block _ (blk_lt f1)).trans f1) 1).trans rfl⟩ : W.cell? ⟨w.heap.size, 0, none⟩ = some (.int .i64 (N : Int)) ∧ W.cell? ⟨w.heap.size, 1, none⟩ = some (.slice A0 l0.length c0)))
  have HB1 := Aside0.mk B1
  have HR0 := Aside0.mk hr0
  have HDF := Aside0.mk hdf
  have HRES := Aside0.mk h2
  have LIM := Aside0.mk (show ((N : Int)).toNat * 24 ≤ 281474976710656 by omega)
  have d0 : (0 : Int) ≤ (N : Int) := by omega
  have han : an < N := by omega
  have hanz : (an : Int) < (N : Int) := by omega
  have hbn : bn < N := by omega
  have hbnz : (bn : Int) < (N : Int) := by omega
  have POS := Aside0.mk (show 0 < (List.replicate ((N : Int).toNat) ([] : List S35)).length by rw [List.length_replicate]; omega)
  have S1 := Aside0.mk s1
  obtain ⟨x1, x2⟩ := F.out W1 (Below.refl _ _)
  have HW1 := Aside0.mk hW1
  rw [hW1] at x1 x2
  clear hr0 h h2 hdf f1 s1 B1 hg hW1
  go_enter Try.func45, Try.ntmps45
  go_wp2_with (first
    | ((with_reducible refine gate_dst (N := 16) rfl ?_); refine Kd.R_make (Kd.slice 35 k35) _ 30 rfl (N := 16) rfl 73 _ _ rfl (N : Int) rfl rfl Try.underlying73 (.slice none 0 0) 24 info30 rfl (by decide) (by omega) ([] : List S35) (ok := fun _ => True) (okp := fun _ => False) (Kd.M_row (Kd.R_nil _ _ _ _ _)) (fun _ hk => hk.elim) trivial d0 LIM.out (Below.refl _ _) (Nat.le_refl _) ?_; intro v2 w2 ho2 hb hg_ hnew_; clear hg_ hnew_; obtain ⟨go, capo, ev, hgo, hgl, _⟩ := Kd.R_form ho2 POS.out; rw [List.length_replicate, Int.toNat_natCast] at ev; rw [Int.toNat_natCast] at ho2; subst ev; rw [← HW1.out] at ho2 hb hgo; obtain ⟨Ay, cy, y1, y2, _, _⟩ := get_row (Kd.R_alloc ho2 (.cells #[.int .i64 0, .int .i64 0] 35)) han; have HO2 := Aside0.mk ho2; have HB2 := Aside0.mk hb; have GO := Aside0.mk hgo; have GL := Aside0.mk hgl; clear ho2 hb hgo hgl))
  have ST := Aside0.mk (show Kd.R (Kd.slice 35 k35) 30 ((w2.alloc (.cells #[.int .i64 0, .int .i64 0] 35)).setCell ⟨go, an, none⟩ (.slice (some ⟨w2.heap.size, 0, none⟩) 1 1)) W1.heap.size (fun _ => True) (.slice (some ⟨go, 0, none⟩) N capo) (startP N an) from put_row (Kd.R_alloc HO2.out _) han (R_pair w2 W1.heap.size HB2.out.size) (fun k_ hk => by rw [hk]; exact Nat.ne_of_gt GL.out))
  have SB := Aside0.mk (below_set (below_alloc HB2.out (.cells #[.int .i64 0, .int .i64 0] 35)) GO.out : Below W1.heap.size W1 ((w2.alloc (.cells #[.int .i64 0, .int .i64 0] 35)).setCell ⟨go, an, none⟩ (.slice (some ⟨w2.heap.size, 0, none⟩) 1 1)))
  have SL : (startP N an).length = N := by unfold startP; rw [List.length_set, List.length_replicate]
  clear y1 y2 HO2 HB2 GL x1 x2
  go_loopg [8] k (fun kx s8 W => ∃ (ch : Bool) (q : Nat) (d : List (List S35)), s8 = .bool ch ∧ q ≤ kx ∧ d.length = N ∧ Aside0 (if ch = true then roundsF k l0 q d = some df else d = df) ∧ Aside0 (Kd.R (Kd.slice 35 k35) 30 W W1.heap.size (fun _ => True) (.slice (some ⟨go, 0, none⟩) N capo) d) ∧ Aside0 (Below W1.heap.size W1 W))
  case atStart => exact ⟨true, k, startP N an, rfl, Nat.le_refl _, SL, ⟨by rw [if_pos rfl]; exact HDF.out⟩, ST, SB⟩
  case round =>
    clear ST SB SL HDF
    obtain ⟨ch, q, d, rfl, hq, hdl, HK, OR, OB⟩ := hrel
    obtain ⟨x1, x2⟩ := F.out wr OB.out
    cases ch with
    | false =>
      have hk := HK.out
      rw [if_neg Bool.false_ne_true] at hk
      obtain ⟨Ay, cy, y1, _, _, hRy⟩ := get_row OR.out hbn
      rw [hk] at y1 hRy
      rw [HRES.out] at y1 hRy
      have FIN := Aside0.mk hRy
      have FB := Aside0.mk (HB1.out.trans (OB.out.mono HB1.out.size))
      clear hRy HK hk
      go_wp2
      go_ret
      exact ⟨_, rfl, Kd.R_lower (Kd.R_mono FIN.out (fun _ _ => trivial)) HB1.out.size, FB.out⟩
    | true =>
      have hk := HK.out
      rw [if_pos rfl] at hk
      obtain ⟨q', rfl⟩ : ∃ q', q = q' + 1 := ⟨q - 1, by cases q with | zero => cases hk | succ q' => rfl⟩
      obtain ⟨s, hs, hk2⟩ := Option.bind_eq_some_iff.mp (show (arcsF k l0 (d, false)).bind (fun s => if s.2 = true then roundsF k l0 q' s.1 else some s.1) = some df from hk)
      have HS := Aside0.mk (show arcsF k (l0.drop 0) (d, false) = some s by rw [List.drop_zero]; exact hs)
      have HK2 := Aside0.mk hk2
      clear HK hk hs hk2
      go_wp2
      go_loopg [8, 26] l0.length (fun kx s8 s26 W => ∃ (ch : Bool) (i : Nat) (d : List (List S35)), s8 = .bool ch ∧ s26 = .int .i64 (i : Int) ∧ i ≤ l0.length ∧ l0.length - i ≤ kx ∧ d.length = N ∧ Aside0 (arcsF k (l0.drop i) (d, ch) = some s) ∧ Aside0 (Kd.R (Kd.slice 35 k35) 30 W W1.heap.size (fun _ => True) (.slice (some ⟨go, 0, none⟩) N capo) d) ∧ Aside0 (Below W1.heap.size W1 W))
      case atStart => exact ⟨false, 0, d, rfl, rfl, Nat.zero_le _, by omega, hdl, HS, OR, OB⟩
      case round =>
        clear HS OR OB x1 x2 hdl d
        obtain ⟨ch, i, d, rfl, rfl, hi, hg, hdl, HS, OR, OB⟩ := hrel
        by_cases hlt : i < l0.length
        · have hltz : (i : Int) < (l0.length : Int) := by omega
          obtain ⟨ad, ea, q0, q1, q2, q3, q4⟩ := at_T33 HR0.out (i : Int) (Int.natCast_nonneg _) (by omega)
          have hBW := HB1.out.trans (OB.out.mono HB1.out.size)
          cases ea
          rw [Int.toNat_natCast] at q0 q1 q2 q3 q4
          replace q0 := (hBW.cell (World.block_lt_of_cell? w _ q0)).trans q0
          replace q1 := (hBW.cell (World.block_lt_of_cell? w _ q1)).trans q1
          replace q2 := (hBW.cell (World.block_lt_of_cell? w _ q2)).trans q2
          replace q3 := (hBW.cell (World.block_lt_of_cell? w _ q3)).trans q3
          replace q4 := (hBW.cell (World.block_lt_of_cell? w _ q4)).trans q4
          have hs := HS.out
          have ey : rd_T33 l0 (i : Int) = l0[i] := by simp [rd_T33, hlt]
          rw [List.drop_eq_getElem_cons hlt, ← ey] at hs
          generalize rd_T33 l0 (i : Int) = y at q0 q1 q2 q3 q4 hs
          obtain ⟨s2, ha, hs2⟩ := Option.bind_eq_some_iff.mp (show (arcF k d y ch).bind (arcsF k (l0.drop (i + 1))) = some s from hs)
          have hln := arcF_len ha
          unfold arcF at ha
          by_cases hok : arcOkP d y
          case neg => rw [if_neg hok] at ha; cases ha
          rw [if_pos hok] at ha
          obtain ⟨bb, hbb, hs3⟩ := Option.bind_eq_some_iff.mp ha
          have hs3 := Option.some.inj hs3
          obtain ⟨y0, y1, y2, y3, y4⟩ := y
          obtain ⟨⟨o1, o2⟩, ⟨o3, o4⟩, o5⟩ := hok
          simp only at q0 q1 q2 q3 q4 o1 o2 o3 o4 o5
          obtain ⟨fn, rfl⟩ : ∃ fn : Nat, y0 = (fn : Int) := ⟨y0.toNat, by omega⟩
          obtain ⟨tn, rfl⟩ : ∃ tn : Nat, y1 = (tn : Int) := ⟨y1.toNat, by omega⟩
          have hfn : fn < N := by omega
          have htn : tn < N := by omega
          have hfnz : (fn : Int) < (N : Int) := by omega
          have htnz : (tn : Int) < (N : Int) := by omega
          obtain ⟨Wb, hWb⟩ : ∃ Wb, Wb = wr.alloc (.cells #[.int .i64 (fn : Int), .int .i64 (tn : Int), .int .i64 y2, .int .i64 y3, .int .i64 y4] 33) := ⟨_, rfl⟩
          have ORb : Kd.R (Kd.slice 35 k35) 30 Wb W1.heap.size (fun _ => True) (.slice (some ⟨go, 0, none⟩) N capo) d := by rw [hWb]; exact Kd.R_alloc OR.out _
          have HBb := Aside0.mk (show Below W1.heap.size W1 Wb by rw [hWb]; exact below_alloc OB.out _)
          have bx : Wb.heap[wr.heap.size]? = some (.cells #[.int .i64 (fn : Int), .int .i64 (tn : Int), .int .i64 y2, .int .i64 y3, .int .i64 y4] 33 (0, 0)) := by rw [hWb]; exact blk_new wr _
          obtain ⟨A1, c1, z1, zf, hl1, hR1⟩ := get_row ORb htn
          obtain ⟨A2, c2, z2, _, hl2, hR2⟩ := get_row ORb hfn
          have hC1 := (Kd.R_reads' hR1).2.2
          have hC2 := (Kd.R_reads' hR2).2.2
          have GB := Aside0.mk (fun (W : World) (hb : Below Wb.heap.size Wb W) => (⟨(blk_cell ((hb.block _ (blk_lt bx)).trans bx) 0).trans rfl, (blk_cell ((hb.block _ (blk_lt bx)).trans bx) 1).trans rfl, (blk_cell ((hb.block _ (blk_lt bx)).trans bx) 2).trans rfl, (blk_cell ((hb.block _ (blk_lt bx)).trans bx) 3).trans rfl, (hb.cell (World.block_lt_of_cell? Wb _ z1)).trans z1, (hb.cell (World.block_lt_of_cell? Wb _ z2)).trans z2⟩ : W.cell? ⟨wr.heap.size, 0, none⟩ = some (.int .i64 (fn : Int)) ∧ W.cell? ⟨wr.heap.size, 1, none⟩ = some (.int .i64 (tn : Int)) ∧ W.cell? ⟨wr.heap.size, 2, none⟩ = some (.int .i64 y2) ∧ W.cell? ⟨wr.heap.size, 3, none⟩ = some (.int .i64 y3) ∧ W.cell? ⟨go, tn, none⟩ = some (.slice A1 (rdP d (tn : Int)).length c1) ∧ W.cell? ⟨go, fn, none⟩ = some (.slice A2 (rdP d (fn : Int)).length c2)))
          have GLT := Aside0.mk (World.block_lt_of_cell? Wb _ z1 : go < Wb.heap.size)
          have HC1 := Aside0.mk hC1
          have HC2 := Aside0.mk hC2
          have HORb := Aside0.mk ORb
          have CLN := Aside0.mk (impl_Pair_69.calls A1 c1 (rdP d (tn : Int)) (rdP d (tn : Int)) Wb hC1 hl1 (by unfold impl_Pair_69.f; rw [if_pos (by omega)]))
          have EQ := Aside0.mk hbb
          have HS2 := Aside0.mk hs2
          have HS3 := Aside0.mk hs3
          have HF := Aside0.mk (zf)
          have O5 := Aside0.mk o5
          obtain ⟨g0, g1, g2, g3, g4, g5⟩ := GB.out Wb (Below.refl _ _)
          have HWb := Aside0.mk hWb
          rw [hWb] at g0 g1 g2 g3 g4 g5
          rw [hWb] at CLN
          clear hs ey hs2 ha hbb hs3 HS hBW ORb bx z1 z2 zf hR1 hR2 hC1 hC2 hWb OR OB
          go_wp2_with (go_at_call 69; refine CLN.out.mono ?_; rintro e w4 ⟨v4, rfl, hr4, hb4⟩; rw [← HWb.out] at hr4 hb4; obtain ⟨A4, c4, rfl, _, _⟩ := Kd.R_reads hr4; have HR4 := Aside0.mk hr4; have HB4 := Aside0.mk hb4; clear g0 g1 g2 g3 g4 g5; obtain ⟨g0, g1, g2, g3, g4, g5⟩ := GB.out w4 hb4; clear hr4 hb4)
          go_loopg [11, 42] (rdP d (fn : Int)).length (fun kx s11 s42 W => ∃ (j : Nat) (A : Option Addr) (c : Nat) (out : List S35), s42 = .int .i64 (j : Int) ∧ s11 = .slice A out.length c ∧ j ≤ (rdP d (fn : Int)).length ∧ (rdP d (fn : Int)).length - j ≤ kx ∧ Aside0 (out.length = (rdP d (tn : Int)).length + j) ∧ Aside0 (out = rdP d (tn : Int) ++ ((rdP d (fn : Int)).take j).map (shW (⟨(fn : Int), (tn : Int), y2, y3, y4⟩ : S33))) ∧ Aside0 (Kd.R k35 35 W Wb.heap.size (fun _ => True) (.slice A out.length c) out) ∧ Aside0 (Below Wb.heap.size Wb W))
          case atStart => exact ⟨0, A4, c4, rdP d (tn : Int), rfl, rfl, Nat.zero_le _, by omega, ⟨rfl⟩, ⟨by simp⟩, HR4, HB4⟩
          case round =>
            clear HR4 HB4 g0 g1 g2 g3 g4 g5 q0 q1 q2 q3 q4
            obtain ⟨j, A, c, out, rfl, rfl, hj, hg2, hol, HO, OR, OB⟩ := hrel
            by_cases hjm : j < (rdP d (fn : Int)).length
            · have hjz : (j : Int) < ((rdP d (fn : Int)).length : Int) := by omega
              obtain ⟨ad2, ea2, q0, q1⟩ := at_T35 (Kd.C_below HC2.out OB.out) (j : Int) (Int.natCast_nonneg _) (by omega)
              cases ea2
              rw [Int.toNat_natCast] at q0 q1
              have ep : rd_T35 (rdP d (fn : Int)) (j : Int) = (rdP d (fn : Int))[j] := by simp [rd_T35, hjm]
              have HO2 := Aside0.mk (show out ++ [shW (⟨(fn : Int), (tn : Int), y2, y3, y4⟩ : S33) (rd_T35 (rdP d (fn : Int)) (j : Int))] = rdP d (tn : Int) ++ ((rdP d (fn : Int)).take (j + 1)).map (shW (⟨(fn : Int), (tn : Int), y2, y3, y4⟩ : S33)) by rw [HO.out, List.take_succ_eq_append_getElem hjm, List.map_append, List.append_assoc, ep]; rfl)
              generalize rd_T35 (rdP d (fn : Int)) (j : Int) = p at q0 q1 HO2
              have bx := blk_new wr (.cells #[.int .i64 p.f0, .int .i64 p.f1] 35)
              have x0 : (wr.alloc (.cells #[.int .i64 p.f0, .int .i64 p.f1] 35)).cell? ⟨wr.heap.size, 0, none⟩ = some (.int .i64 p.f0) := (blk_cell bx 0).trans rfl
              have x1 : (wr.alloc (.cells #[.int .i64 p.f0, .int .i64 p.f1] 35)).cell? ⟨wr.heap.size, 1, none⟩ = some (.int .i64 p.f1) := (blk_cell bx 1).trans rfl
              have OB2 := Aside0.mk (below_alloc OB.out (.cells #[.int .i64 p.f0, .int .i64 p.f1] 35))
              have OR2 := Aside0.mk (Kd.R_alloc OR.out (.cells #[.int .i64 p.f0, .int .i64 p.f1] 35))
              obtain ⟨_, _, g2, g3, _, _⟩ := GB.out _ OB2.out
              have LL := Aside0.mk (show (out.length + 1) * 16 ≤ 140737488355328 by have := O5.out; have := hol.out; omega)
              have hj8 : j + 1 ≤ 1000000 := by have := O5.out; omega
              clear bx HO ep
              go_wp2_with (first
                | ((with_reducible refine gate_builtin (b := .append) (xs := #[.tmp 46, .tmp 58]) rfl ?_); at_builtin; refine Kd.R_append k35 (w0 := Wb) Wb.heap.size rfl (.tmp 46) (.tmp 58) 30 35 (.agg #[(.int .i64 0), (.int .i64 0)]) 16 rfl Try.underlying30 info35 rfl (by decide) (by omega) (.slice A out.length c) out (shW (⟨(fn : Int), (tn : Int), y2, y3, y4⟩ : S33) p) [.int .i64 (wrap64 (p.f0 + y2)), .int .i64 (wrap64 (p.f1 + y3))] (fun _ => True) (fun _ => False) rfl ?hx ?aP (fun _ hk => hk.elim) ?aF ?aO ?aB ?aS ?aL ?_; (case hx => (show Value.slice (some ⟨wr.heap.size + 1, 0, none⟩) 1 1 = _); simp); (case aP => exact k35_mkM _ _ _ (shW (⟨(fn : Int), (tn : Int), y2, y3, y4⟩ : S33) p)); (case aF => exact fun _ _ => trivial); (case aO => exact OR2.out); (case aB => exact OB2.out); (case aS => exact OB2.out.size); (case aL => exact LL.out); intro v5 w5 ho5 hb5 hg5 hat5; clear hg5 hat5; obtain ⟨A5, c5, e5, _, _⟩ := Kd.R_reads ho5; rw [List.length_append, List.length_singleton] at e5; subst e5; have HR5 := Aside0.mk ho5; have HB5 := Aside0.mk hb5; clear ho5 hb5))
              go_roundg ((rdP d (fn : Int)).length - (j + 1))
              case measure => omega
              case rel => exact ⟨j + 1, A5, c5, out ++ [shW (⟨(fn : Int), (tn : Int), y2, y3, y4⟩ : S33) p], by go_num, by rw [List.length_append]; rfl, hjm, Nat.le_refl _, ⟨by have := hol.out; rw [List.length_append, List.length_singleton]; omega⟩, HO2, by rw [List.length_append, List.length_singleton]; exact HR5, HB5⟩
            · have hjz : ¬ (j : Int) < ((rdP d (fn : Int)).length : Int) := by omega
              have HJ := Aside0.mk (show frontP out = relP d (⟨(fn : Int), (tn : Int), y2, y3, y4⟩ : S33) by have := HO.out; rw [List.take_of_length_le (by omega)] at this; show frontP out = frontP (rdP d (tn : Int) ++ (rdP d (fn : Int)).map (shW (⟨(fn : Int), (tn : Int), y2, y3, y4⟩ : S33))); exact congrArg frontP this)
              have FR := Aside0.mk (front_any (fun _ => True) (.slice A out.length c) out Wb wr OB.out OR.out (by have := O5.out; have := hol.out; omega))
              have EQC := Aside0.mk (fun (W : World) (A5 : Option Addr) (c5 : Nat) (hb : Below Wb.heap.size Wb W) (hC : Kd.C k35 W A5 (relP d (⟨(fn : Int), (tn : Int), y2, y3, y4⟩ : S33)).length (relP d (⟨(fn : Int), (tn : Int), y2, y3, y4⟩ : S33))) (hc : (relP d (⟨(fn : Int), (tn : Int), y2, y3, y4⟩ : S33)).length ≤ c5) => impl_Pair_71.calls k A5 c5 (relP d (⟨(fn : Int), (tn : Int), y2, y3, y4⟩ : S33)) A1 c1 (rdP d (tn : Int)) bb W hC hc (Kd.C_below HC1.out hb) hl1 EQ.out)
              rw [HJ.out] at FR
              clear HO HJ OR OB
              have hi8 : (i : Int) + 1 ≤ 9223372036854775807 := by omega
              cases bb with
              | true =>
                have HSn := Aside0.mk (by have h1 := HS3.out; rw [if_pos rfl] at h1; have h2 := HS2.out; rw [← h1] at h2; exact h2 : arcsF k (l0.drop (i + 1)) (d, ch) = some s)
                clear HS2 HS3
                go_wp2_with (first
                  | (go_at_call 70; refine FR.out.mono ?_; rintro e w6 ⟨v6, rfl, hr6, hb6, _⟩; obtain ⟨A6, c6, rfl, hc6, hC6⟩ := Kd.R_reads hr6; have HR6 := Aside0.mk hr6; have HB6 := Aside0.mk hb6; have zf := (show w6.frozen? ⟨go, tn, none⟩ = false from (get_row (Kd.R_below HORb.out hb6) htn).elim fun _ h => h.elim fun _ h => h.2.1); obtain ⟨g0, g1, g2, g3, g4, g5⟩ := GB.out w6 hb6; have EQ6 := Aside0.mk (EQC.out w6 A6 c6 hb6 hC6 hc6); clear hr6 hb6 hC6)
                  | (go_at_call 71; refine EQ6.out.mono ?_; rintro e w7 ⟨rfl, ⟨nd, rfl⟩⟩))
                go_roundg (l0.length - (i + 1))
                case measure => omega
                case rel => exact ⟨ch, i + 1, d, rfl, by go_num, hlt, Nat.le_refl _, hdl, HSn, ⟨Kd.R_drewN (Kd.R_below HORb.out HB6.out) nd⟩, ⟨pw_below_drewN (HBb.out.trans (HB6.out.mono HBb.out.size)) nd⟩⟩
              | false =>
                have HSn := Aside0.mk (by have h1 := HS3.out; rw [if_neg Bool.false_ne_true] at h1; have h2 := HS2.out; rw [← h1] at h2; simpa using h2 : arcsF k (l0.drop (i + 1)) (d.set tn (relP d (⟨(fn : Int), (tn : Int), y2, y3, y4⟩ : S33)), true) = some s)
                clear HS2 HS3
                go_wp2_with (first
                  | (go_at_call 70; refine FR.out.mono ?_; rintro e w6 ⟨v6, rfl, hr6, hb6, _⟩; obtain ⟨A6, c6, rfl, hc6, hC6⟩ := Kd.R_reads hr6; have HR6 := Aside0.mk hr6; have HB6 := Aside0.mk hb6; have zf := (show w6.frozen? ⟨go, tn, none⟩ = false from (get_row (Kd.R_below HORb.out hb6) htn).elim fun _ h => h.elim fun _ h => h.2.1); obtain ⟨g0, g1, g2, g3, g4, g5⟩ := GB.out w6 hb6; have EQ6 := Aside0.mk (EQC.out w6 A6 c6 hb6 hC6 hc6); clear hr6 hb6 hC6)
                  | (go_at_call 71; refine EQ6.out.mono ?_; rintro e w7 ⟨rfl, ⟨nd, rfl⟩⟩))
                go_roundg (l0.length - (i + 1))
                case measure => omega
                case rel => exact ⟨true, i + 1, d.set tn (relP d (⟨(fn : Int), (tn : Int), y2, y3, y4⟩ : S33)), rfl, by go_num, hlt, Nat.le_refl _, by rw [List.length_set]; exact hdl, HSn, ⟨put_row (Kd.R_drewN (Kd.R_below HORb.out HB6.out) nd) htn (Kd.R_lower (Kd.R_drewN (Kd.R_bound HR6.out) nd) HBb.out.size) (fun k_ hk => by have := hk.2.1; have := GLT.out; omega)⟩, ⟨below_set (pw_below_drewN (HBb.out.trans (HB6.out.mono HBb.out.size)) nd) GO.out⟩⟩
        · have hltz : ¬ (i : Int) < (l0.length : Int) := by omega
          have hs := HS.out
          rw [List.drop_of_length_le (by omega)] at hs
          have hs := Option.some.inj hs
          have HK3 := Aside0.mk (by have := HK2.out; rw [← hs] at this; exact this : (if ch = true then roundsF k l0 q' d else some d) = some df)
          clear HS hs HK2
          go_wp2
          go_roundg q'
          case measure => omega
          case rel => exact ⟨ch, q', d, rfl, Nat.le_refl _, hdl, ⟨by have := HK3.out; cases ch with | true => rw [if_pos rfl] at this ⊢; exact this | false => rw [if_neg Bool.false_ne_true] at this ⊢; exact Option.some.inj this⟩, OR, OB⟩

end Go.Proofs.Ytddkaiegnohkcaa.F
