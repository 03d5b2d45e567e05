-- Printed by wip/px/px.py of this claim's repository (the kit's printer, extended there). Lean checks it.
import Derived.Test.YtlgolgfcolnddaaFKinds
import Derived.Test.YtlgolgfcolnddaaFslicesCloneintint
import Derived.Test.YtlgolgfcolnddaaFtextsomefol
namespace Go.Proofs.Ytlgolgfcolnddaa.F
open Go.RowKit Go.Proofs.YtlgolgfcolnddaaW.PrintWords Go.Proofs.YtlgolgfcolnddaaW.PrintLast Go.Proofs.YtlgolgfcolnddaaW.PrintMore
attribute [local go_sem] max2_int min2_int max_two min_two max_three min_three max_four min_four   -- for this text's walks alone
set_option linter.unusedVariables false
set_option linter.unusedSimpArgs false

/-! ### text somefolend -/
theorem mask_lt (s v : Nat) (hs : s < 256) (hv : v < 8) : s ||| 2 ^ v < 256 := by
  have p1 : 2 ^ v ≤ 2 ^ 7 := Nat.pow_le_pow_right (by decide) (by omega)
  have p2 : s ||| 2 ^ v < 2 ^ 8 := Nat.or_lt_two_pow (by omega) (by omega)
  omega
theorem mask_or (s : Nat) (hs : s < 256) (v : Int) (h : v < 8) : bits .or .i64 (s : Int) (wrap64 (2 ^ v.toNat)) = ((s ||| 2 ^ v.toNat : Nat) : Int) := by
  have p1 : 2 ^ v.toNat ≤ 2 ^ 7 := Nat.pow_le_pow_right (by decide) (by omega)
  have e3 : wrap64 (2 ^ v.toNat) = ((2 ^ v.toNat : Nat) : Int) := by
    rw [show (2 : Int) ^ v.toNat = ((2 ^ v.toNat : Nat) : Int) by push_cast; rfl]
    generalize 2 ^ v.toNat = q at p1 ⊢
    unfold wrap64
    omega
  rw [e3]
  exact bitsOr _ _ hs (by omega)
theorem clipI_any (A : Option Addr) (n c : Nat) (h : n ≤ c) (w : World) : Calls Try.prog 93 #[.slice A n c] w fun e w' => e = .returned (.slice A n n) ∧ w' = w := by
  obtain ⟨i0, hi0, _⟩ := Option.map_eq_some_iff.1 info3
  have hcut := cut_clip 33 3 Try.underlying33 hi0 A n c h
  clear hi0
  go_enter Try.func93, Try.ntmps93
  go_wp2
  go_ret
  exact ⟨rfl, rfl⟩
set_option maxHeartbeats 4000000 in
set_option maxRecDepth 100000 in
theorem follow_end (w2 : World) (gto gout gwk gn gf : Nat) (ha : Apart5 w2.heap.size gto gout gwk gn gf) (tg : Int) (nb : Array Value) (s : Int) (W : World) (wv ov : Value) (w : List Int) (out : List (List Int)) (hI : FolI w2 gto gout gwk gn gf tg nb W wv ov w out) (hl : out.length < 1000000000000) (hwl : w.length ≤ 1000) :
    Calls Try.prog 92 #[.int .i64 tg, .int .i64 s, .pointer (some ⟨gto, 0, none⟩), .pointer (some ⟨gout, 0, none⟩), .pointer (some ⟨gwk, 0, none⟩), .pointer (some ⟨gn, 0, none⟩), .pointer (some ⟨gf, 0, none⟩)] W fun e w' => e = .returned (.tuple #[]) ∧ ∃ wv' ov', FolI w2 gto gout gwk gn gf tg nb w' wv' ov' w (out ++ [w]) := by
  obtain ⟨Aw, cw, rfl, hcw, hCw⟩ := Kd.R_reads hI.rw
  have t1 : ∀ W1, Below W.heap.size W W1 → W1.cell? ⟨gto, 0, none⟩ = some (.int .i64 tg) ∧ W1.cell? ⟨gout, 0, none⟩ = some ov ∧ W1.frozen? ⟨gout, 0, none⟩ = false ∧ gout < W1.heap.size := fun W1 hb => ⟨((blk_cell ((hb.block _ (blk_lt hI.tgt)).trans hI.tgt) 0).trans rfl), ((blk_cell ((hb.block _ (blk_lt hI.ot)).trans hI.ot) 0).trans rfl), blk_frozen ((hb.block _ (blk_lt hI.ot)).trans hI.ot) 0, Nat.lt_of_lt_of_le (blk_lt hI.ot) hb.size⟩
  have x1 := (t1 W (Below.refl _ _)).1
  have x2 := (t1 W (Below.refl _ _)).2.1
  have x3 : W.cell? ⟨gwk, 0, none⟩ = some (.slice Aw w.length cw) := (blk_cell hI.wk 0).trans rfl
  have T1 := Aside0.mk t1
  have HI := Aside0.mk hI
  have CL := Aside0.mk (fun (W1 : World) (hb : Below W.heap.size W W1) => slices_Clone_int_int.calls Aw cw w w W1 (Kd.C_below hCw hb) hcw (by unfold slices_Clone_int_int.f; rw [if_pos (by omega)]))
  have CP := Aside0.mk (fun (A1 : Option Addr) (c1 : Nat) (h : w.length ≤ c1) (W1 : World) => clipI_any A1 w.length c1 h W1)
  have AP := Aside0.mk (fun (w1 : World) (A1 : Option Addr) (c1 : Nat) (hb : Below W.heap.size W w1) (hr : Kd.R (Kd.int .i64) 3 w1 W.heap.size (fun _ => True) (.slice A1 w.length c1) w) => (by
    have hI1 := hI.next hb
    have own := (Kd.S_R hI.so).1
    have hw2 := hI.below.size
    have hr2 : Kd.R (Kd.int .i64) 3 w1 w2.heap.size (fun k => W.heap.size ≤ k) (.slice A1 w.length w.length) w := Kd.R_lower (Kd.R_mono (Kd.R_bound (Kd.R_clip hr)) (fun k hk => hk.2.1)) hw2
    refine ⟨⟨_, rfl, hr2⟩, fun k hk => ⟨⟨?_, fun e => ?_⟩, fun e => ?_⟩, fun k hk => ⟨?_, fun e => ?_⟩, Kd.S_mono (Kd.S_below (Kd.S_bound hI.so) hb) (fun k hk => ⟨hk.1, by have := hk.2.2.1; omega⟩), hI1.below, Nat.le_trans hw2 hb.size⟩
    · have a1 := blk_lt hI.tgt; have a2 := blk_lt hI.ot; have a3 := blk_lt hI.wk; have a4 := blk_lt hI.net; obtain ⟨T, h5⟩ := hI.fol; have a5 := blk_lt h5; omega
    · have := Kd.R_lt hI.rw k e.symm; omega
    · have := Kd.R_lt (Kd.S_R hI.so) k e.symm; omega
    · have a0 := hb.size; have a1 := blk_lt hI.tgt; have a2 := blk_lt hI.ot; have a3 := blk_lt hI.wk; have a4 := blk_lt hI.net; obtain ⟨T, h5⟩ := hI.fol; have a5 := blk_lt h5; omega
    · have := Kd.R_lt hI.rw k e.symm; have := hb.size; omega : (∃ v, [Value.slice A1 w.length w.length] = [v] ∧ Kd.R (Kd.int .i64) 3 w1 w2.heap.size (fun k => W.heap.size ≤ k) v w) ∧ (∀ k, W.heap.size ≤ k → (¬ (k = gto ∨ k = gout ∨ k = gwk ∨ k = gn ∨ k = gf) ∧ some k ≠ (Value.slice Aw w.length cw).ownBlock) ∧ some k ≠ ov.ownBlock) ∧ (∀ k, w1.heap.size ≤ k → ¬ (k = gto ∨ k = gout ∨ k = gwk ∨ k = gn ∨ k = gf) ∧ some k ≠ (Value.slice Aw w.length cw).ownBlock) ∧ Kd.S (Kd.slice 3 (Kd.int .i64)) 33 w1 w2.heap.size (fun k => (¬ (k = gto ∨ k = gout ∨ k = gwk ∨ k = gn ∨ k = gf) ∧ some k ≠ (Value.slice Aw w.length cw).ownBlock) ∧ ¬ W.heap.size ≤ k) ov out ∧ Below w2.heap.size w2 w1 ∧ w2.heap.size ≤ w1.heap.size))
  have GO := Aside0.mk (fun (w1 w3 : World) (hb : Below W.heap.size W w1) (hg : w1.grownBy w3 ov.ownBlock) => ((hg.block gout (blk_lt (hI.next hb).ot) (fun e => ((Kd.S_R hI.so).1 gout e.symm).1 (.inr (.inl rfl)))).trans (hI.next hb).ot : w3.heap[gout]? = some (.cells #[ov] 28 (0, 0))))
  have e0 : (tg == tg) = true := beq_iff_eq.2 rfl
  have LL := Aside0.mk (show (out.length + 1) * 24 ≤ 140737488355328 by omega)
  have HA5 := Aside0.mk ha
  clear t1 hI hCw ha
  go_enter Try.func92, Try.ntmps92
  go_wp2
  go_region_law (first
    | (go_simp; go_at_call 81; refine (CL.out _ (below_drew (Below.refl _ _))).mono ?_; rintro e w1 ⟨v1, rfl, hr1, hb1⟩; obtain ⟨A1, c1, rfl, hc1, _⟩ := Kd.R_reads hr1; have HB1 := Aside0.mk (show Below W.heap.size W w1 from (below_drew (Below.refl _ _)).trans hb1); have y1 := (T1.out w1 HB1.out).2.1; have y2 := (T1.out w1 HB1.out).2.2.1; have y3 := (T1.out w1 HB1.out).2.2.2; have HR1 := Aside0.mk hr1; have HC1 := Aside0.mk hc1; have AX := Aside0.mk (AP.out w1 A1 c1 HB1.out hr1); clear hr1 hb1 hc1)
    | (go_simp; go_at_call 93; refine (CP.out A1 c1 HC1.out _).mono ?_; rintro e w' ⟨rfl, hw'⟩; have hw2 := hw'.symm; clear hw'; subst hw2)
    | (refine Kd.S_append_step (Kd.slice 3 (Kd.int .i64)) (w0 := w2) w2.heap.size rfl (.tmp 14) (.tmp 18) 28 33 (.slice none 0 0) 24 rfl Try.underlying28 info33 rfl (by decide) (by decide) ov out w [.slice A1 w.length w.length] _ (fun k => W.heap.size ≤ k) rfl rfl AX.out.1 AX.out.2.1 AX.out.2.2.1 AX.out.2.2.2.1 AX.out.2.2.2.2.1 AX.out.2.2.2.2.2 LL.out ?_; intro v3 w3 hs3 hb3 hg3 _; obtain ⟨A3, c3, rfl⟩ := Kd.S_slice hs3; have z1 := GO.out w1 w3 HB1.out hg3; have z2 := (blk_cell z1 0).trans rfl; have z3 := blk_frozen z1 0; clear z1; have HS3 := Aside0.mk hs3; have HB3 := Aside0.mk hb3; have HG3 := Aside0.mk hg3; clear hs3 hb3 hg3))
  all_goals
    go_wp2
    refine bodyPost_ret (results_none rfl _ _ _) rfl ?_
    have hs4 := HS3.out
    rw [List.length_append, List.length_singleton] at hs4
    exact ⟨rfl, _, _, FolI.putOut HA5.out (HI.out.next HB1.out) HG3.out HB3.out hs4⟩

end Go.Proofs.Ytlgolgfcolnddaa.F
