-- Printed by wip/px/px.py of this claim's repository (the kit's printer, extended there). Lean checks it.
import Derived.Test.YtddkaiegnohkcaaFKinds
import Derived.Test.YtddkaiegnohkcaaFtextsortp
namespace Go.Proofs.Ytddkaiegnohkcaa.F
open Go.RowKit Go.Proofs.YtddkaiegnohkcaaW.PrintWords Go.Proofs.YtddkaiegnohkcaaW.PrintLast Go.Proofs.YtddkaiegnohkcaaW.PrintMore
attribute [local go_sem] max2_int min2_int max_two min_two max_three min_three max_four min_four   -- for this text's walks alone
set_option linter.unusedVariables false
set_option linter.unusedSimpArgs false

/-! ### text frontw -/
theorem clipP_any (A : Option Addr) (n c : Nat) (h : n ≤ c) (w : World) : Calls Try.prog 94 #[.slice A n c] w fun e w' => e = .returned (.slice A n n) ∧ w' = w := by
  obtain ⟨i0, hi0, _⟩ := Option.map_eq_some_iff.1 info35
  have hcut := cut_clip 30 35 Try.underlying30 hi0 A n c h
  clear hi0
  go_enter Try.func94, Try.ntmps94
  go_wp2
  go_ret
  exact ⟨rfl, rfl⟩
/-- Those that have less toll than all ahead of them. -/
def stairP : List S35 → List S35 → List S35
  | [], out => out
  | p :: r, out => stairP r (if out.length = 0 ∨ p.f1 < (rd_T35 out ((out.length - 1 : Nat) : Int)).f1 then out ++ [p] else out)
def frontP (l : List S35) : List S35 := stairP (sortPair l) []
theorem stairP_at (l : List S35) (i : Nat) (h : i < l.length) (out : List S35) : stairP (l.drop i) out = stairP (l.drop (i + 1)) (if out.length = 0 ∨ (rd_T35 l (i : Int)).f1 < (rd_T35 out ((out.length - 1 : Nat) : Int)).f1 then out ++ [rd_T35 l (i : Int)] else out) := by
  have e : rd_T35 l (i : Int) = l[i] := by simp [rd_T35, h]
  rw [List.drop_eq_getElem_cons h, stairP, e]
set_option maxHeartbeats 4000000 in
set_option maxRecDepth 100000 in
theorem front_any (P0_ : Nat → Prop) (v : Value) (l0 : List S35) (w0 w : World) (hB : Below w0.heap.size w0 w) (ho : Kd.R k35 35 w w0.heap.size P0_ v l0) (hlim : l0.length ≤ 1000000) :
    Calls Try.prog 70 #[v] w fun e w' => ∃ v0_ : Value, e = .returned v0_ ∧ Kd.R k35 35 w' w0.heap.size (fun k_ => (P0_ k_ ∨ w.heap.size ≤ k_)) v0_ (frontP l0) ∧ Below w0.heap.size w0 w' ∧ Kept w w' (fun k_ => P0_ k_) := by
  have SP := Aside0.mk (sortPair_any P0_ v l0 w0 w hB ho hlim)
  have HL := Aside0.mk (show (sortPair l0).length ≤ 1000000 by rw [sortPair_length]; exact hlim)
  obtain ⟨A0, c0, rfl, hc0, _⟩ := Kd.R_reads ho
  clear ho hB
  go_enter Try.func70, Try.ntmps70
  go_wp2_with (first
    | (go_at_call 92; refine SP.out.mono ?_; rintro e w1 ⟨rfl, hr1, hb1, hk1⟩; have HR1 := Aside0.mk hr1; have HB1 := Aside0.mk hb1; have HK1 := Aside0.mk hk1; clear hr1 hb1 hk1)
    | ((with_reducible refine gate_dst (N := 8) rfl ?_); refine Kd.R_lit k35 _ 35 ?hg (N := 8) ?hd (xs := ([] : List S35)) (inner := []) (ok := fun _ => True) (okp := fun _ => True) ?hr ?hp (fun _ hk => hk) trivial (Below.refl _ _) (Nat.le_refl _) (by simp) ?_; (case hd => rfl); (case hg => rfl); (case hr => first | (go_simp; done) | (go_simp; rfl)); (case hp => exact (Reps.none _ _)); intro v2 w2 ho2 hb2 hg_ hnew_; clear hg_ hnew_; obtain ⟨A2, c2, rfl, _, _⟩ := Kd.R_reads ho2; have HR2 := Aside0.mk ho2; have HB2 := Aside0.mk hb2; clear ho2 hb2))
  have hls := sortPair_length l0
  go_loopg [3, 11] l0.length (fun kx s3 s11 wr => ∃ (i : Nat) (out : List S35) (A : Option Addr) (c : Nat), s11 = .int .i64 (i : Int) ∧ s3 = .slice A out.length c ∧ i ≤ l0.length ∧ l0.length - i ≤ kx ∧ out.length ≤ i ∧ Aside0 (stairP ((sortPair l0).drop i) out = frontP l0) ∧ Aside0 (Kd.R k35 35 wr w1.heap.size (fun _ => True) (.slice A out.length c) out) ∧ Aside0 (Below w1.heap.size w1 wr))
  case atStart => exact ⟨0, [], A2, c2, rfl, rfl, Nat.zero_le _, by omega, Nat.le_refl _, ⟨rfl⟩, HR2, HB2⟩
  case round =>
    clear HR2 HB2
    obtain ⟨i, out, A, c, rfl, rfl, hi, hg, hoi, HS, OR, OB⟩ := hrel
    by_cases hlt : i < l0.length
    · have hltz : (i : Int) < (l0.length : Int) := by omega
      have hlis : i < (sortPair l0).length := by omega
      obtain ⟨ad, ea, q0, q1⟩ := at_T35 (Kd.R_reads' HR1.out).2.2 (i : Int) (Int.natCast_nonneg _) (by omega)
      cases ea
      rw [Int.toNat_natCast] at q0 q1
      replace q0 := (OB.out.cell (World.block_lt_of_cell? w1 _ q0)).trans q0
      replace q1 := (OB.out.cell (World.block_lt_of_cell? w1 _ q1)).trans q1
      have HS2 := Aside0.mk ((stairP_at (sortPair l0) i hlis out).symm.trans HS.out)
      generalize hp : rd_T35 (sortPair l0) (i : Int) = p at q0 q1 HS2
      have hi8 : i + 1 ≤ 1000000 := by omega
      have OW := Aside0.mk (fun (nd : Nat) => (⟨Kd.R_drewN (Kd.R_alloc OR.out _) nd, pw_below_drewN (below_alloc OB.out _) nd⟩ : Kd.R k35 35 ((wr.alloc (.cells #[.int .i64 p.f0, .int .i64 p.f1] 35)).drewN nd) w1.heap.size (fun _ => True) (.slice A out.length c) out ∧ Below w1.heap.size w1 ((wr.alloc (.cells #[.int .i64 p.f0, .int .i64 p.f1] 35)).drewN nd)))
      have LL := Aside0.mk (show (out.length + 1) * 16 ≤ 140737488355328 by omega)
      have bx := blk_new wr (.cells #[.int .i64 p.f0, .int .i64 p.f1] 35)
      have x0 : (wr.alloc (.cells #[.int .i64 p.f0, .int .i64 p.f1] 35)).cell? ⟨wr.heap.size, 0, none⟩ = some (.int .i64 p.f0) := (blk_cell bx 0).trans rfl
      have x1 : (wr.alloc (.cells #[.int .i64 p.f0, .int .i64 p.f1] 35)).cell? ⟨wr.heap.size, 1, none⟩ = some (.int .i64 p.f1) := (blk_cell bx 1).trans rfl
      clear bx
      by_cases ho0 : out.length = 0
      · have hn : out = [] := List.eq_nil_of_length_eq_zero ho0
        subst hn
        have HS3 := Aside0.mk (by have := HS2.out; rwa [if_pos (.inl rfl)] at this : stairP ((sortPair l0).drop (i + 1)) ([] ++ [p]) = frontP l0)
        clear HS HS2
        go_wp2
        go_quiet (fail)
        go_wp2_with (first
          | ((with_reducible refine gate_builtin (b := .append) (xs := #[.tmp 30, .tmp 32]) rfl ?_); at_builtin; refine Kd.R_append k35 (w0 := w1) w1.heap.size rfl (.tmp 30) (.tmp 32) 30 35 (.agg #[(.int .i64 0), (.int .i64 0)]) 16 rfl Try.underlying30 info35 rfl (by decide) (by omega) (.slice A ([] : List S35).length c) ([] : List S35) p [.int .i64 p.f0, .int .i64 p.f1] (fun _ => True) (fun _ => False) rfl ?hx ?aP (fun _ hk => hk.elim) ?aF ?aO ?aB ?aS ?aL ?_; (case hx => (show Value.slice (some ⟨wr.heap.size + 1, 0, none⟩) 1 1 = _); simp); (case aP => exact k35_mkM _ _ _ p); (case aF => exact fun _ _ => trivial); (case aO => exact (OW.out _).1); (case aB => exact (OW.out _).2); (case aS => exact (OW.out _).2.size); (case aL => exact LL.out); intro v3 w3 ho3 hb3 hg3 hat3; clear hg3 hat3; obtain ⟨A3, c3, e3, _, _⟩ := Kd.R_reads ho3; rw [List.length_append, List.length_singleton] at e3; subst e3; have HR3 := Aside0.mk ho3; have HB3 := Aside0.mk hb3; clear ho3 hb3))
        go_roundg (l0.length - (i + 1))
        case measure => omega
        case rel => exact ⟨i + 1, ([] : List S35) ++ [p], A3, c3, by go_num, by rw [List.length_append]; rfl, hlt, Nat.le_refl _, by rw [List.length_append, List.length_singleton]; omega, HS3, by rw [List.length_append, List.length_singleton]; exact HR3, HB3⟩
      · obtain ⟨g, cap, ev, hg1, hg2, _⟩ := Kd.R_form OR.out (by omega)
        injection ev with ev1 ev2 ev3
        subst ev1
        subst ev3
        obtain ⟨ad2, ea2, _, q3⟩ := at_T35 (Kd.R_reads' OR.out).2.2 ((out.length - 1 : Nat) : Int) (Int.natCast_nonneg _) (by omega)
        injection ea2 with ea2
        subst ea2
        rw [Int.toNat_natCast] at q3
        simp only [add_at, Nat.zero_add] at q3
        have q4 : (wr.alloc (.cells #[.int .i64 p.f0, .int .i64 p.f1] 35)).cell? ⟨g, (out.length - 1) * 2 + 1, none⟩ = some (.int .i64 (rd_T35 out ((out.length - 1 : Nat) : Int)).f1) := (Below.cell (below_alloc (Below.refl _ _) _) (World.block_lt_of_cell? wr _ q3)).trans q3
        generalize hq : rd_T35 out ((out.length - 1 : Nat) : Int) = lst at q4 HS2
        have z0 : ((out.length : Int) == 0) = false := beq_eq_false_iff_ne.2 (by omega)
        have z1 : ¬ (out.length : Int) = 0 := by omega
        have w1_ : IntKind.i64.wrap ((out.length : Int) - 1) = ((out.length - 1 : Nat) : Int) := by rw [IntKind.wrap_i64]; omega
        have n1 : out.length - 1 < out.length := by omega
        have n2 : decide ((0 : Int) ≤ ((out.length - 1 : Nat) : Int)) = true := decide_eq_true (by omega)
        have n3 : decide (((out.length - 1 : Nat) : Int) < (out.length : Int)) = true := decide_eq_true (by omega)
        by_cases hc : p.f1 < lst.f1
        · have HS3 := Aside0.mk (by have := HS2.out; rwa [if_pos (.inr hc)] at this : stairP ((sortPair l0).drop (i + 1)) (out ++ [p]) = frontP l0)
          have hc1 : decide (p.f1 < lst.f1) = true := decide_eq_true hc
          clear HS HS2 q3
          go_wp2
          go_quiet (fail)
          go_wp2_with (first
            | ((with_reducible refine gate_builtin (b := .append) (xs := #[.tmp 30, .tmp 32]) rfl ?_); at_builtin; refine Kd.R_append k35 (w0 := w1) w1.heap.size rfl (.tmp 30) (.tmp 32) 30 35 (.agg #[(.int .i64 0), (.int .i64 0)]) 16 rfl Try.underlying30 info35 rfl (by decide) (by omega) (.slice (some ⟨g, 0, none⟩) out.length c) out p [.int .i64 p.f0, .int .i64 p.f1] (fun _ => True) (fun _ => False) rfl ?hx ?aP (fun _ hk => hk.elim) ?aF ?aO ?aB ?aS ?aL ?_; (case hx => (show Value.slice (some ⟨wr.heap.size + 1, 0, none⟩) 1 1 = _); simp); (case aP => exact k35_mkM _ _ _ p); (case aF => exact fun _ _ => trivial); (case aO => exact (OW.out _).1); (case aB => exact (OW.out _).2); (case aS => exact (OW.out _).2.size); (case aL => exact LL.out); intro v3 w3 ho3 hb3 hg3 hat3; clear hg3 hat3; obtain ⟨A3, c3, e3, _, _⟩ := Kd.R_reads ho3; rw [List.length_append, List.length_singleton] at e3; subst e3; have HR3 := Aside0.mk ho3; have HB3 := Aside0.mk hb3; clear ho3 hb3))
          go_roundg (l0.length - (i + 1))
          case measure => omega
          case rel => exact ⟨i + 1, out ++ [p], A3, c3, by go_num, by rw [List.length_append]; rfl, hlt, Nat.le_refl _, by rw [List.length_append, List.length_singleton]; omega, HS3, by rw [List.length_append, List.length_singleton]; exact HR3, HB3⟩
        · have HS3 := Aside0.mk (by have := HS2.out; rwa [if_neg (by rintro (z | z); exact ho0 z; exact hc z)] at this : stairP ((sortPair l0).drop (i + 1)) out = frontP l0)
          have hc1 : decide (p.f1 < lst.f1) = false := decide_eq_false hc
          clear HS HS2 q3
          go_wp2
          go_quiet (fail)
          go_wp2
          go_roundg (l0.length - (i + 1))
          case measure => omega
          case rel => exact ⟨i + 1, out, _, _, by go_num, rfl, hlt, Nat.le_refl _, by omega, HS3, ⟨(OW.out _).1⟩, ⟨(OW.out _).2⟩⟩
    · have hltz : ¬ (i : Int) < (l0.length : Int) := by omega
      have hie : i = l0.length := by omega
      have hs := HS.out
      rw [List.drop_of_length_le (by omega), stairP] at hs
      have hcl := (Kd.R_reads' OR.out).2.1
      have CLP := Aside0.mk (fun (W : World) => clipP_any A out.length c hcl W)
      have FIN := Aside0.mk (Kd.R_clip OR.out)
      have HS3 := Aside0.mk hs
      clear hs HS hcl
      go_wp2_with (go_at_call 94; refine (CLP.out _).mono ?_; rintro e w' ⟨rfl, rfl⟩)
      go_ret
      have hr := FIN.out
      rw [HS3.out] at hr
      have sz : w.heap.size ≤ w1.heap.size := HK1.out.1
      refine ⟨_, rfl, Kd.R_lower (Kd.R_mono (Kd.R_bound (by rw [HS3.out]; exact hr)) (fun k_ hk => .inr (Nat.le_trans sz hk.2.1))) HB1.out.size, HB1.out.trans (OB.out.mono HB1.out.size), HK1.out.below OB.out⟩

end Go.Proofs.Ytddkaiegnohkcaa.F
