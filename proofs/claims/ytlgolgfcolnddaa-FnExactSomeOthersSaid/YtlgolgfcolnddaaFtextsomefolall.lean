-- Printed by wip/px/px.py of this claim's repository (the kit's printer, extended there). Lean checks it.
import Derived.Test.YtlgolgfcolnddaaFKinds
import Derived.StillTailTactics
import Derived.Test.YtlgolgfcolnddaaFtextsomefol
import Derived.Test.YtlgolgfcolnddaaFtextsomefolend
namespace Go.Proofs.Ytlgolgfcolnddaa.F
open Go.RowKit Go.Proofs.YtlgolgfcolnddaaW.PrintWords Go.Proofs.YtlgolgfcolnddaaW.PrintLast Go.Proofs.YtlgolgfcolnddaaW.PrintMore
attribute [local go_sem] max2_int min2_int max_two min_two max_three min_three max_four min_four   -- for this text's walks alone
set_option linter.unusedVariables false
set_option linter.unusedSimpArgs false

/-! ### text somefolall -/
set_option maxHeartbeats 4000000 in
set_option maxRecDepth 100000 in
theorem follow_any (l : List S58) (A0 : Option Addr) (c0 : Nat) (n : Int) (hl8 : ∀ x ∈ l, 0 ≤ x.f1 ∧ x.f1 < 8) (w2 : World) (hr0 : Kd.C k58 w2 A0 l.length l) (hll : l.length ≤ 1000) (gto gout gwk gn gf : Nat) (ha : Apart5 w2.heap.size gto gout gwk gn gf) (tg : Int) :
    ∀ (m : Nat) (at_ : Int) (s : Nat) (W : World) (wv ov : Value) (w : List Int) (out out' : List (List Int)), w.length + m ≤ 1000 → s < 256 → FolI w2 gto gout gwk gn gf tg #[.int .i64 n, .slice A0 l.length c0] W wv ov w out → folF l tg m at_ s w out = some out' →
    Calls Try.prog 92 #[.int .i64 at_, .int .i64 (s : Int), .pointer (some ⟨gto, 0, none⟩), .pointer (some ⟨gout, 0, none⟩), .pointer (some ⟨gwk, 0, none⟩), .pointer (some ⟨gn, 0, none⟩), .pointer (some ⟨gf, 0, none⟩)] W fun e w' => e = .returned (.tuple #[]) ∧ ∃ wv' ov', FolI w2 gto gout gwk gn gf tg #[.int .i64 n, .slice A0 l.length c0] w' wv' ov' w out' := by
  intro m
  have fin : ∀ (s : Nat) (W : World) (wv ov : Value) (w : List Int) (out out' : List (List Int)), w.length ≤ 1000 → FolI w2 gto gout gwk gn gf tg #[.int .i64 n, .slice A0 l.length c0] W wv ov w out → (if out.length < 1000000000000 then some (out ++ [w]) else none) = some out' →
    Calls Try.prog 92 #[.int .i64 tg, .int .i64 (s : Int), .pointer (some ⟨gto, 0, none⟩), .pointer (some ⟨gout, 0, none⟩), .pointer (some ⟨gwk, 0, none⟩), .pointer (some ⟨gn, 0, none⟩), .pointer (some ⟨gf, 0, none⟩)] W fun e w' => e = .returned (.tuple #[]) ∧ ∃ wv' ov', FolI w2 gto gout gwk gn gf tg #[.int .i64 n, .slice A0 l.length c0] w' wv' ov' w out' := by
    intro s W wv ov w out out' hw hI h
    by_cases hlt : out.length < 1000000000000
    · rw [if_pos hlt] at h
      obtain rfl := Option.some.inj h
      exact follow_end w2 gto gout gwk gn gf ha tg _ s W wv ov w out hI hlt hw
    · rw [if_neg hlt] at h; cases h
  induction m with
  | zero =>
    intro at_ s W wv ov w out out' hm hs hI h
    rw [folF] at h
    by_cases he : at_ = tg
    · rw [if_pos he] at h
      subst he
      exact fin s W wv ov w out out' (by omega) hI h
    · rw [if_neg he] at h; cases h
  | succ m ih =>
    intro at_ s W wv ov w out out' hm hs hI h
    rw [folF] at h
    by_cases he : at_ = tg
    · rw [if_pos he] at h
      subst he
      exact fin s W wv ov w out out' (by omega) hI h
    rw [if_neg he] at h
    obtain ⟨G, hG⟩ : ∃ G, G = (fun (i : Int) (o : List (List Int)) => if (rd_T58 l i).f0 = at_ ∧ s / 2 ^ (rd_T58 l i).f1.toNat % 2 = 0 then folF l tg m (rd_T58 l i).f1 (s ||| 2 ^ (rd_T58 l i).f1.toNat) (w ++ [i]) o else some o) := ⟨_, rfl⟩
    have e0 : (at_ == tg) = false := beq_eq_false_iff_ne.2 he
    have x1 : W.cell? ⟨gto, 0, none⟩ = some (.int .i64 tg) := (blk_cell hI.tgt 0).trans rfl
    have x2 : W.cell? ⟨gn, 1, none⟩ = some (.slice A0 l.length c0) := (blk_cell hI.net 1).trans rfl
    have hu := Try.underlying25
    have HI := Aside0.mk hI
    have HG := Aside0.mk hG
    have H := Aside0.mk (show loopS G l.length 0 out = some out' by rw [hG]; exact h)
    have IH := Aside0.mk ih
    have HR := Aside0.mk hr0
    have HA5 := Aside0.mk ha
    have H8 := Aside0.mk hl8
    clear hI h ih hr0 hG ha hl8 fin he
    go_enter Try.func92, Try.ntmps92
    go_wp2
    go_loopg [23] l.length (fun kx s23 wr => ∃ (i : Nat) (o1 : List (List Int)), s23 = .int .i64 i ∧ i ≤ l.length ∧ l.length - i ≤ kx ∧ Aside0 (∃ wv1 ov1, FolI w2 gto gout gwk gn gf tg #[.int .i64 n, .slice A0 l.length c0] wr wv1 ov1 w o1) ∧ Aside0 (loopS G (l.length - i) i o1 = some out'))
    case atStart => exact ⟨0, out, rfl, Nat.zero_le _, by omega, ⟨_, _, HI.out⟩, H⟩
    case round =>
      clear HI H x1 x2
      obtain ⟨i, o1, rfl, hi, hg, KI, H⟩ := hrel
      obtain ⟨wv1, ov1, hI⟩ := KI.out
      by_cases hlt : i < l.length
      · have hltz : (i : Int) < (l.length : Int) := by omega
        have z0 : (0 : Int) ≤ (i : Int) := by omega
        obtain ⟨d, hd⟩ : ∃ d, l.length - i = d + 1 := ⟨l.length - i - 1, by omega⟩
        have h := H.out
        rw [hd] at h
        obtain ⟨o2, h1, h2⟩ := Option.bind_eq_some_iff.mp (show (G (i : Int) o1).bind (fun s => loopS G d (i + 1) s) = some out' from h)
        rw [HG.out] at h1
        change (ite _ _ _) = some o2 at h1
        have NX := Aside0.mk (show loopS G (l.length - (i + 1)) (i + 1) o2 = some out' by rw [show l.length - (i + 1) = d by omega]; exact h2)
        clear h h2 H hd
        obtain ⟨ad, ea, q0, q1, q2, q3, q4⟩ := at_T58 (Kd.C_below HR.out hI.below) (i : Int) z0 hltz
        cases ea
        rw [Int.toNat_natCast] at q0 q1 q2 q3 q4
        have hv : 0 ≤ (rd_T58 l (i : Int)).f1 ∧ (rd_T58 l (i : Int)).f1 < 8 := H8.out _ (by simp [rd_T58, hlt])
        generalize hx : rd_T58 l (i : Int) = x at q0 q1 q2 q3 q4 hv h1
        obtain ⟨v0, v1⟩ := hv
        have H1 := Aside0.mk h1
        have HI := Aside0.mk hI
        clear h1 hI
        by_cases c1 : x.f0 = at_
        · have c1b : (x.f0 == at_) = true := beq_iff_eq.2 c1
          have e1 : ((s : Int) / 2 ^ x.f1.toNat) = ((s / 2 ^ x.f1.toNat : Nat) : Int) := by push_cast; rfl
          have e2 : bits .and .i64 ((s : Int) / 2 ^ x.f1.toNat) 1 = ((s / 2 ^ x.f1.toNat % 2 : Nat) : Int) := by rw [e1]; exact bitsAnd1 _ (Nat.lt_of_le_of_lt (Nat.div_le_self _ _) (by omega))
          by_cases c2 : s / 2 ^ x.f1.toNat % 2 = 0
          · have c2b : (bits .and .i64 ((s : Int) / 2 ^ x.f1.toNat) 1 == 0) = true := by rw [e2, c2]; rfl
            have H2 := Aside0.mk (by have := H1.out; rwa [if_pos ⟨c1, c2⟩] at this : folF l tg m x.f1 (s ||| 2 ^ x.f1.toNat) (w ++ [(i : Int)]) o1 = some o2)
            clear e1 e2 H1 c2
            obtain ⟨V, hV⟩ : ∃ V, V = wr.alloc (.cells #[.int .i64 at_, .int .i64 x.f1, .int .i64 x.f2, .int .i64 x.f3, .int .i64 x.f4] 58) := ⟨_, rfl⟩
            have hB : Below wr.heap.size wr V := by rw [hV]; exact below_alloc (Below.refl _ _) _
            have hIV := HI.out.next hB
            have bx : V.heap[wr.heap.size]? = some (.cells #[.int .i64 at_, .int .i64 x.f1, .int .i64 x.f2, .int .i64 x.f3, .int .i64 x.f4] 58 (0, 0)) := by rw [hV]; exact blk_new wr _
            obtain ⟨Aw, cw, hwv, hcw, _⟩ := Kd.R_reads hIV.rw
            subst hwv
            have xw : wr.cell? ⟨gwk, 0, none⟩ = some (.slice Aw w.length cw) := (blk_cell HI.out.wk 0).trans rfl
            have lw : gwk < wr.heap.size := blk_lt HI.out.wk
            have hwl : w.length < 1000 := by omega
            have HIV := Aside0.mk hIV
            have BX := Aside0.mk bx
            have AP := Aside0.mk (fun (w3 : World) (v3 : Value) (hg : V.grownBy w3 (Value.slice Aw w.length cw).ownBlock) (hb : Below w2.heap.size w2 w3) (hr : Kd.R (Kd.int .i64) 3 w3 w2.heap.size (fun k => ¬ (k = gto ∨ k = gout ∨ k = gwk ∨ k = gn ∨ k = gf)) v3 (w ++ [(i : Int)])) (hat : v3.ownBlock = (Value.slice Aw w.length cw).ownBlock ∨ ∃ b, v3.ownBlock = some b ∧ V.heap.size ≤ b) => (by
              have hs := FolI.putWalk HA5.out hIV hg hb hr hat
              obtain ⟨T, hf⟩ := hs.fol
              have own := hIV.rw.1
              have kb : w3.heap[wr.heap.size]? = some (.cells #[.int .i64 at_, .int .i64 x.f1, .int .i64 x.f2, .int .i64 x.f3, .int .i64 x.f4] 58 (0, 0)) := (hg.block _ (blk_lt bx) (fun e => by have := Kd.R_lt HI.out.rw _ e.symm; omega)).trans bx
              have kw : w3.heap[gwk]? = some (.cells #[Value.slice Aw w.length cw] 33 (0, 0)) := (hg.block _ (blk_lt hIV.wk) (fun e => own _ e.symm (.inr (.inr (.inl rfl))))).trans hIV.wk
              exact ⟨hs, (blk_cell hf 0).trans rfl, (blk_cell (blk_far kb (by show wr.heap.size ≠ gwk; omega) v3) 1).trans rfl, (blk_cell kw 0).trans rfl, blk_frozen kw 0⟩ : FolI w2 gto gout gwk gn gf tg #[.int .i64 n, .slice (some ad) l.length c0] (w3.setCell ⟨gwk, 0, none⟩ v3) v3 ov1 (w ++ [(i : Int)]) o1 ∧ (w3.setCell ⟨gwk, 0, none⟩ v3).cell? ⟨gf, 0, none⟩ = some (.func (.func 92) #[] #[.pointer (some ⟨gto, 0, none⟩), .pointer (some ⟨gout, 0, none⟩), .pointer (some ⟨gwk, 0, none⟩), .pointer (some ⟨gn, 0, none⟩), .pointer (some ⟨gf, 0, none⟩)]) ∧ (w3.setCell ⟨gwk, 0, none⟩ v3).cell? ⟨wr.heap.size, 1, none⟩ = some (.int .i64 x.f1) ∧ w3.cell? ⟨gwk, 0, none⟩ = some (.slice Aw w.length cw) ∧ w3.frozen? ⟨gwk, 0, none⟩ = false))
            have FR := Aside0.mk (fun (k : Nat) (hk : V.heap.size ≤ k) => (by
              have a1 := blk_lt hIV.tgt; have a2 := blk_lt hIV.ot; have a3 := blk_lt hIV.wk; have a4 := blk_lt hIV.net; obtain ⟨T, h5⟩ := hIV.fol; have a5 := blk_lt h5; omega : ¬ (k = gto ∨ k = gout ∨ k = gwk ∨ k = gn ∨ k = gf)))
            have HVS := Aside0.mk hV
            clear hIV bx hB hV
            go_wp2_with (first
              | ((with_reducible refine gate_builtin (b := .append) (xs := #[.tmp 40, .tmp 42]) rfl ?_); at_builtin; rw [← HVS.out]; refine Kd.R_append (Kd.int .i64) (w0 := w2) w2.heap.size rfl (.tmp 40) (.tmp 42) 33 3 (.int .i64 0) 8 rfl Try.underlying33 info3 rfl (by decide) (by omega) (.slice Aw w.length cw) w (i : Int) [.int .i64 (i : Int)] (fun k => ¬ (k = gto ∨ k = gout ∨ k = gwk ∨ k = gn ∨ k = gf)) (fun _ => False) rfl ?hx rfl (fun _ hk => hk.elim) FR.out HIV.out.rw HIV.out.below ?aS (by omega) ?_; (case hx => (rw [HVS.out]; show Value.slice (some ⟨wr.heap.size + 1, 0, none⟩) 1 1 = _; simp)); (case aS => exact HIV.out.below.size); intro v3 w3 ho hb hg hat; obtain ⟨A3, c3, e3, _, _⟩ := Kd.R_reads ho; rw [List.length_append, List.length_singleton] at e3; subst e3; have AX := Aside0.mk (AP.out w3 _ hg hb ho hat); obtain ⟨_, y1, y2, y3, y4⟩ := AX.out; clear ho hb hg hat))
            clear xw lw y3 y4 AP FR
            obtain ⟨Wn, hWn⟩ : ∃ Wn, Wn = w3.setCell ⟨gwk, 0, none⟩ (.slice A3 (w.length + 1) c3) := ⟨_, rfl⟩
            have HIN := Aside0.mk (show FolI w2 gto gout gwk gn gf tg #[.int .i64 n, .slice (some ad) l.length c0] Wn (.slice A3 (w.length + 1) c3) ov1 (w ++ [(i : Int)]) o1 by rw [hWn]; exact AX.out.1)
            rw [← hWn] at y1 y2 ⊢
            clear hWn AX HIV BX HVS
            refine wp_region_still_tail 8 (by kernel_rfl) (by kernel_rfl) ?_
            simp only [List.take_succ_cons, List.take_zero, List.drop_succ_cons, List.drop_zero]
            show wpStill _ _ (World.drew _) (fun a' => wpList _ _ _ _ a' (World.drew _)) _ _
            iterate 8 still_step
            refine wpStill_nil ?_
            clear y1 y2
            have eb := mask_or s hs x.f1 v1
            have REC := Aside0.mk (IH.out x.f1 (s ||| 2 ^ x.f1.toNat) Wn.drew _ _ (w ++ [(i : Int)]) o1 o2 (by rw [List.length_append, List.length_singleton]; omega) (mask_lt s _ hs (by omega)) (HIN.out.next (below_drew (Below.refl _ _))) H2.out)
            rw [← eb] at REC
            clear eb H2 HIN
            obtain ⟨i0, hi0, _⟩ := Option.map_eq_some_iff.1 info3
            have CUT := Aside0.mk (fun (A2 : Option Addr) (c2 : Nat) (h : w.length + 1 ≤ c2) => cut_to 33 3 .i64 Try.underlying33 hi0 A2 (w.length + 1) c2 (w.length : Int) (by omega) (by omega) h)
            clear hi0
            have wl : wrap64 (((w.length + 1 : Nat) : Int) - 1) = (w.length : Int) := by unfold wrap64; omega
            go_wp2_with (first
              | (go_at_call 92; refine REC.out.mono ?_; rintro e w4 ⟨rfl, wv4, ov4, hI4⟩; obtain ⟨A4, c4, e4, hc4, _⟩ := Kd.R_reads hI4.rw; rw [List.length_append, List.length_singleton] at e4 hc4; subst e4; have z1 : w4.cell? ⟨gwk, 0, none⟩ = some (.slice A4 (w.length + 1) c4) := (blk_cell hI4.wk 0).trans rfl; have z2 := blk_frozen hI4.wk 0; have z3 := CUT.out A4 c4 hc4; have HI4 := Aside0.mk hI4; clear hI4))
            go_roundg (l.length - (i + 1))
            case measure => omega
            case rel =>
              refine ⟨i + 1, o2, by go_num, hlt, Nat.le_refl _, ⟨_, _, FolI.putWalk HA5.out HI4.out (World.grownBy.refl _ _) HI4.out.below ?_ (.inl (by cases A4 <;> rfl))⟩, NX⟩
              have h5 := Kd.R_take (m := w.length) HI4.out.rw (by rw [List.length_append]; omega)
              rw [List.take_left' rfl] at h5
              exact h5
          · have c2b : (bits .and .i64 ((s : Int) / 2 ^ x.f1.toNat) 1 == 0) = false := by rw [e2]; exact beq_eq_false_iff_ne.2 (by omega)
            clear e1 e2
            have H2 := Aside0.mk (by have := H1.out; rw [if_neg (fun z => c2 z.2)] at this; exact Option.some.inj this : o1 = o2)
            clear c2 H1
            go_wp2
            go_roundg (l.length - (i + 1))
            case measure => omega
            case rel => exact ⟨i + 1, o2, by go_num, hlt, Nat.le_refl _, ⟨_, _, H2.out ▸ HI.out.next (below_alloc (Below.refl _ _) _)⟩, NX⟩
        · have c1b : (x.f0 == at_) = false := beq_eq_false_iff_ne.2 c1
          have H2 := Aside0.mk (by have := H1.out; rw [if_neg (fun z => c1 z.1)] at this; exact Option.some.inj this : o1 = o2)
          clear H1
          go_wp2
          go_roundg (l.length - (i + 1))
          case measure => omega
          case rel => exact ⟨i + 1, o2, by go_num, hlt, Nat.le_refl _, ⟨_, _, H2.out ▸ HI.out.next (below_alloc (Below.refl _ _) _)⟩, NX⟩
      · have hltz : ¬ (i : Int) < (l.length : Int) := by omega
        have h := H.out
        rw [show l.length - i = 0 by omega] at h
        have h := Option.some.inj h
        have HI := Aside0.mk (h ▸ hI)
        clear hI h H KI
        go_wp2
        refine bodyPost_end (results_none rfl _ _ _) rfl ?_
        exact ⟨rfl, _, _, HI.out⟩

end Go.Proofs.Ytlgolgfcolnddaa.F
