-- Printed by wip/px/px.py of this claim's repository (the kit's printer, extended there). Lean checks it.
import Derived.Test.YtgickejeakmenaaFKinds
import Derived.Test.YtgickejeakmenaaFslicesIn
import Derived.Test.YtgickejeakmenaaFimplaround
import Derived.Test.YtgickejeakmenaaFimplchosen
import Derived.Test.YtgickejeakmenaaFslicesCloneintint
namespace Go.Proofs.Ytgickejeakmenaa.F
open Go.RowKit Go.Proofs.YtgickejeakmenaaW.PrintWords Go.Proofs.YtgickejeakmenaaW.PrintLast Go.Proofs.YtgickejeakmenaaW.PrintMore
attribute [local go_sem] max2_int min2_int max_two min_two max_three min_three max_four min_four   -- for this text's walks alone
set_option linter.unusedVariables false
set_option linter.unusedSimpArgs false

/-! ### text orders -/
/-- One order is tried: the best so far, and what it costs. -/
def visF (k : Nat) (all : List (List Int)) (stops bg : List Int) (st : List Int × Int) : Option (List Int × Int) := (impl_chosen.f k stops bg).bind fun o => (impl_around.f k all o).bind fun c => some (if c < st.2 then (o, c) else st)
def loopF (g : Int → List Int × Int → Option (List Int × Int)) : Nat → Nat → List Int × Int → Option (List Int × Int)
  | 0, _, st => some st
  | c + 1, i, st => (g (i : Int) st).bind fun s => loopF g c (i + 1) s
/-- All orders that begin so. -/
def ordF (k : Nat) (all : List (List Int)) (stops : List Int) (many : Nat) : Nat → List Int → List Int × Int → Option (List Int × Int)
  | 0, bg, st => visF k all stops bg st
  | m + 1, bg, st => loopF (fun i s => (slices_Contains_int_int.f k bg i).bind fun b => if b = true then some s else ordF k all stops many m (bg ++ [i]) s) many 0 st
/-- What holds while orders are tried. -/
structure TI (w2 : World) (gall gb gl : Nat) (allv : Value) (W : World) (st : List Int × Int) : Prop where
  below : Below w2.heap.size w2 W
  all : W.heap[gall]? = some (.cells #[allv] 50 (0, 0))
  best : ∃ bv, W.heap[gb]? = some (.cells #[bv] 26 (0, 0)) ∧ Kd.R (Kd.int .i64) 3 W w2.heap.size (fun k_ => k_ ≠ gl ∧ k_ ≠ gb) bv st.1
  least : W.heap[gl]? = some (.cells #[.int .i64 st.2] 3 (0, 0))
theorem TI.next {w2 : World} {gall gb gl : Nat} {allv : Value} {W W' : World} {st : List Int × Int} (h : TI w2 gall gb gl allv W st) (hb : Below W.heap.size W W') : TI w2 gall gb gl allv W' st := by
  obtain ⟨h1, h2, ⟨bv, h3, h4⟩, h5⟩ := h
  exact ⟨h1.trans (hb.mono h1.size), (hb.block _ (Array.getElem?_eq_some_iff.1 h2).1).trans h2, ⟨bv, (hb.block _ (Array.getElem?_eq_some_iff.1 h3).1).trans h3, Kd.R_below h4 hb⟩, (hb.block _ (Array.getElem?_eq_some_iff.1 h5).1).trans h5⟩
set_option maxHeartbeats 4000000 in
set_option maxRecDepth 100000 in
theorem visit_any (k : Nat) (all : List (List Int)) (stops : List Int) (w2 : World) (gs gall gb gl : Nat) (Aa As : Option Addr) (ca cs : Nat) (hgs : w2.heap[gs]? = some (.cells #[.slice As stops.length cs] 26 (0, 0))) (hcs : stops.length ≤ cs) (hS : Kd.C (Kd.int .i64) w2 As stops.length stops) (hca : all.length ≤ ca) (hA : Kd.C (Kd.slice 3 (Kd.int .i64)) w2 Aa all.length all) (hga : w2.heap.size ≤ gall) (hgb : w2.heap.size ≤ gb) (hgl : w2.heap.size ≤ gl) (n1 : gall ≠ gb) (n2 : gall ≠ gl) (n3 : gb ≠ gl)
    (bg : List Int) (W : World) (A : Option Addr) (c : Nat) (st st' : List Int × Int) (hI : TI w2 gall gb gl (.slice Aa all.length ca) W st) (hC : Kd.C (Kd.int .i64) W A bg.length bg) (hbc : bg.length ≤ c) (h : visF k all stops bg st = some st') :
    Calls Try.prog 84 #[.slice A bg.length c, .pointer (some ⟨gs, 0, none⟩), .pointer (some ⟨gall, 0, none⟩), .pointer (some ⟨gl, 0, none⟩), .pointer (some ⟨gb, 0, none⟩)] W fun e w' => e = .returned (.tuple #[]) ∧ Kept W w' (fun k_ => k_ = gb ∨ k_ = gl) ∧ TI w2 gall gb gl (.slice Aa all.length ca) w' st' := by
  obtain ⟨hB, hall, ⟨bv, hbest, hbR⟩, hleast⟩ := hI
  unfold visF at h
  obtain ⟨o, ho, h⟩ := Option.bind_eq_some_iff.mp h
  obtain ⟨cost, hcost, h⟩ := Option.bind_eq_some_iff.mp h
  have h := Option.some.inj h
  have lb : gb < W.heap.size := (Array.getElem?_eq_some_iff.1 hbest).1
  have ll : gl < W.heap.size := (Array.getElem?_eq_some_iff.1 hleast).1
  have la : gall < W.heap.size := (Array.getElem?_eq_some_iff.1 hall).1
  have ls : gs < w2.heap.size := (Array.getElem?_eq_some_iff.1 hgs).1
  have k1 : W.cell? ⟨gs, 0, none⟩ = some (.slice As stops.length cs) := (blk_cell ((hB.block gs ls).trans hgs) 0).trans rfl
  have CH := Aside0.mk (impl_chosen.calls k As cs stops A c bg o W (Kd.C_below hS hB) hcs hC hbc ho)
  have AR := Aside0.mk (fun (w1 : World) (A1 : Option Addr) (c1 : Nat) (hb : Below W.heap.size W w1) (hr : Kd.C (Kd.int .i64) w1 A1 o.length o) (hc : o.length ≤ c1) => impl_around.calls k Aa ca all A1 c1 o cost w1 (Kd.C_below (Kd.C_below hA hB) hb) hca hr hc hcost)
  have fin : ∀ (w1 : World) (v : Value) (nd : Nat), Below W.heap.size W w1 → Kd.R (Kd.int .i64) 3 w1 W.heap.size (fun _ => True) v o → (cost < st.2 → TI w2 gall gb gl (.slice Aa all.length ca) (((w1.drewN nd).setCell ⟨gb, 0, none⟩ v).setCell ⟨gl, 0, none⟩ (.int .i64 cost)) (o, cost) ∧ Kept W (((w1.drewN nd).setCell ⟨gb, 0, none⟩ v).setCell ⟨gl, 0, none⟩ (.int .i64 cost)) (fun k_ => k_ = gb ∨ k_ = gl)) ∧ TI w2 gall gb gl (.slice Aa all.length ca) (w1.drewN nd) st ∧ Kept W (w1.drewN nd) (fun k_ => k_ = gb ∨ k_ = gl) := by
    intro w1 v nd hb hr
    have hb2 := pw_below_drewN hb nd
    have B2 := hB.trans (hb2.mono hB.size)
    have g1 : (w1.drewN nd).heap[gb]? = some (.cells #[bv] 26 (0, 0)) := (hb2.block gb lb).trans hbest
    have g2 : (w1.drewN nd).heap[gl]? = some (.cells #[.int .i64 st.2] 3 (0, 0)) := (hb2.block gl ll).trans hleast
    have g3 : (w1.drewN nd).heap[gall]? = some (.cells #[.slice Aa all.length ca] 50 (0, 0)) := (hb2.block gall la).trans hall
    refine ⟨fun _ => ⟨⟨?_, ?_, ⟨v, ?_, ?_⟩, ?_⟩, ?_⟩, ⟨B2, g3, ⟨bv, g1, Kd.R_below hbR hb2⟩, g2⟩, Kept.of_below hb2 _⟩
    · exact below_set (below_set B2 hgb) hgl
    · exact blk_far (blk_far g3 n1 _) n2 _
    · exact blk_far (blk_set g1 0 v) n3 _
    · have r1 : Kd.R (Kd.int .i64) 3 (w1.drewN nd) W.heap.size (fun k_ => k_ ≠ gl ∧ k_ ≠ gb) v o := Kd.R_mono (Kd.R_bound (Kd.R_drewN hr nd)) (fun k_ hk => ⟨by have := hk.2.1; omega, by have := hk.2.1; omega⟩)
      exact Kd.R_lower (Kd.R_far (p := ⟨gl, 0, none⟩) (Kd.R_far (p := ⟨gb, 0, none⟩) r1 (fun _ hk => hk.2) v) (fun _ hk => hk.1) _) hB.size
    · exact blk_set (blk_far g2 n3.symm v) 0 _
    · exact Kept.setCell (Kept.setCell (Kept.of_below hb2 _) (.inl (.inl rfl)) v) (.inl (.inr rfl)) _
  have FIN := Aside0.mk fin
  have F1 := Aside0.mk (fun (w1 : World) (hb : Below W.heap.size W w1) => (⟨(blk_cell ((hb.block gall la).trans hall) 0).trans rfl, (blk_cell ((hb.block gl ll).trans hleast) 0).trans rfl, (blk_cell ((hb.block gb lb).trans hbest) 0).trans rfl, blk_frozen ((hb.block gl ll).trans hleast) 0, blk_frozen ((hb.block gb lb).trans hbest) 0⟩ : w1.cell? ⟨gall, 0, none⟩ = some (.slice Aa all.length ca) ∧ w1.cell? ⟨gl, 0, none⟩ = some (.int .i64 st.2) ∧ w1.cell? ⟨gb, 0, none⟩ = some bv ∧ w1.frozen? ⟨gl, 0, none⟩ = false ∧ w1.frozen? ⟨gb, 0, none⟩ = false))
  have N3 := n3
  clear hall hbest hbR hleast hB hC hA hS hgs ho hcost fin
  by_cases hlt : cost < st.2
  · rw [if_pos hlt] at h
    subst h
    go_enter Try.func84, Try.ntmps84
    go_wp2_with (first | (go_at_call 69; refine CH.out.mono ?_; rintro e w1 ⟨v, rfl, hr, hb⟩; obtain ⟨A1, c1, rfl, hlc, hC1⟩ := Kd.R_reads hr; obtain ⟨x1, x2, x3, x4, x5⟩ := F1.out w1 hb; have AC := Aside0.mk (AR.out w1 A1 c1 hb hC1 hlc); have FF := Aside0.mk (fun nd => FIN.out w1 _ nd hb hr); clear hr hb hC1) | (go_at_call 53; refine AC.out.mono ?_; rintro e w' ⟨rfl, ⟨nd, rfl⟩⟩))
    refine bodyPost_end (results_none rfl _ _ _) rfl ?_
    exact ⟨rfl, ((FF.out nd).1 hlt).2, ((FF.out nd).1 hlt).1⟩
  · rw [if_neg hlt] at h
    subst h
    go_enter Try.func84, Try.ntmps84
    go_wp2_with (first | (go_at_call 69; refine CH.out.mono ?_; rintro e w1 ⟨v, rfl, hr, hb⟩; obtain ⟨A1, c1, rfl, hlc, hC1⟩ := Kd.R_reads hr; obtain ⟨x1, x2, x3, x4, x5⟩ := F1.out w1 hb; have AC := Aside0.mk (AR.out w1 A1 c1 hb hC1 hlc); have FF := Aside0.mk (fun nd => FIN.out w1 _ nd hb hr); clear hr hb hC1) | (go_at_call 53; refine AC.out.mono ?_; rintro e w' ⟨rfl, ⟨nd, rfl⟩⟩))
    refine bodyPost_end (results_none rfl _ _ _) rfl ?_
    exact ⟨rfl, (FF.out nd).2.2, (FF.out nd).2.1⟩
set_option maxHeartbeats 4000000 in
set_option maxRecDepth 100000 in
theorem orders_any (k : Nat) (all : List (List Int)) (stops : List Int) (many : Nat) (hmany : many ≤ 1000) (w2 : World) (gs gall gb gl : Nat) (Aa As : Option Addr) (ca cs : Nat) (hgs : w2.heap[gs]? = some (.cells #[.slice As stops.length cs] 26 (0, 0))) (hcs : stops.length ≤ cs) (hS : Kd.C (Kd.int .i64) w2 As stops.length stops) (hca : all.length ≤ ca) (hA : Kd.C (Kd.slice 3 (Kd.int .i64)) w2 Aa all.length all) (hga : w2.heap.size ≤ gall) (hgb : w2.heap.size ≤ gb) (hgl : w2.heap.size ≤ gl) (n1 : gall ≠ gb) (n2 : gall ≠ gl) (n3 : gb ≠ gl) :
    ∀ (m : Nat) (bg : List Int) (W : World) (A : Option Addr) (c : Nat) (st st' : List Int × Int), bg.length + m = many → TI w2 gall gb gl (.slice Aa all.length ca) W st → (∀ W', Kept W W' (fun k_ => k_ = gb ∨ k_ = gl) → Kd.C (Kd.int .i64) W' A bg.length bg) → bg.length ≤ c → ordF k all stops many m bg st = some st' →
    Calls Try.prog 83 #[.slice A bg.length c, .int .i64 many, .func (.func 84) #[] #[.pointer (some ⟨gs, 0, none⟩), .pointer (some ⟨gall, 0, none⟩), .pointer (some ⟨gl, 0, none⟩), .pointer (some ⟨gb, 0, none⟩)]] W fun e w' => e = .returned (.tuple #[]) ∧ Kept W w' (fun k_ => k_ = gb ∨ k_ = gl) ∧ TI w2 gall gb gl (.slice Aa all.length ca) w' st' := by
  intro m
  induction m with
  | zero =>
    intro bg W A c st st' hm hI hC hbc h
    have V := Aside0.mk (visit_any k all stops w2 gs gall gb gl Aa As ca cs hgs hcs hS hca hA hga hgb hgl n1 n2 n3 bg W A c st st' hI (hC W (Kept.refl _ _)) hbc h)
    have e1 : (bg.length : Int) = (many : Int) := by omega
    clear hI hC h hgs hS hA
    go_enter Try.func83, Try.ntmps83
    go_wp2_with (go_at_call 84; refine V.out.mono ?_; rintro e w' ⟨rfl, hk, hI⟩)
    refine bodyPost_ret (results_none rfl _ _ _) rfl ?_
    exact ⟨rfl, hk, hI⟩
  | succ m ih =>
    intro bg W A c st st' hm hI hC hbc h
    have e1 : ((bg.length : Int) == (many : Int)) = false := beq_eq_false_iff_ne.2 (by omega)
    obtain ⟨G, hG⟩ : ∃ G, G = (fun (i : Int) (s : List Int × Int) => (slices_Contains_int_int.f k bg i).bind fun b => if b = true then some s else ordF k all stops many m (bg ++ [i]) s) := ⟨_, rfl⟩
    have HI := Aside0.mk hI
    have HC := Aside0.mk hC
    have HG := Aside0.mk hG
    have H := Aside0.mk (show loopF G many 0 st = some st' by rw [hG]; exact h)
    have IH := Aside0.mk ih
    clear hI hC h ih hgs hS hA hG
    go_enter Try.func83, Try.ntmps83
    go_wp2
    go_loopg [15] many (fun kx s15 wr => ∃ (i : Nat) (s1 : List Int × Int), s15 = .int .i64 i ∧ i ≤ many ∧ many - i ≤ kx ∧ Aside0 (Kept W wr (fun k_ => k_ = gb ∨ k_ = gl)) ∧ Aside0 (TI w2 gall gb gl (.slice Aa all.length ca) wr s1) ∧ Aside0 (loopF G (many - i) i s1 = some st'))
    case atStart => exact ⟨0, st, rfl, Nat.zero_le _, by omega, ⟨Kept.refl _ _⟩, HI, H⟩
    case round =>
      clear HI H
      obtain ⟨i, s1, rfl, hi, hg, KW, TW, H⟩ := hrel
      by_cases hlt : i < many
      · have hltz : (i : Int) < (many : Int) := by omega
        obtain ⟨d, hd⟩ : ∃ d, many - i = d + 1 := ⟨many - i - 1, by omega⟩
        have h := H.out
        rw [hd] at h
        obtain ⟨s2, h1, h2⟩ := Option.bind_eq_some_iff.mp (show (G (i : Int) s1).bind (fun s => loopF G d (i + 1) s) = some st' from h)
        rw [HG.out] at h1
        obtain ⟨b, hb, h3⟩ := Option.bind_eq_some_iff.mp h1
        have hCw := HC.out wr KW.out
        have CT := Aside0.mk (slices_Contains_int_int.calls k A c bg (i : Int) b wr hCw hbc hb)
        have NX := Aside0.mk (show loopF G (many - (i + 1)) (i + 1) s2 = some st' by rw [show many - (i + 1) = d by omega]; exact h2)
        clear h h1 h2 hb H
        cases b with
        | true =>
          rw [if_pos rfl] at h3
          obtain rfl := Option.some.inj h3
          clear h3 hCw
          go_wp2_with (go_at_call 79; refine CT.out.mono ?_; rintro e w' ⟨rfl, ⟨nd, rfl⟩⟩)
          go_roundg (many - (i + 1))
          case measure => omega
          case rel => exact ⟨i + 1, s1, by go_num, by omega, Nat.le_refl _, ⟨KW.out.drewN nd⟩, ⟨TW.out.next (pw_below_drewN (Below.refl _ _) nd)⟩, NX⟩
        | false =>
          rw [if_neg Bool.false_ne_true] at h3
          have CL := Aside0.mk (fun wa (hb : Below wr.heap.size wr wa) => slices_Clone_int_int.calls A c bg bg wa (Kd.C_below hCw hb) hbc (by unfold slices_Clone_int_int.f; rw [if_pos (by omega)]))
          have H3 := Aside0.mk h3
          clear h3 hCw
          have LL := Aside0.mk (show bg.length + 1 ≤ 1000 by omega)
          have REC := Aside0.mk (fun (nd : Nat) (w2' : World) (v2 : Value) (hb : Below (wr.drewN nd).heap.size (wr.drewN nd) w2') (hr : Kd.R (Kd.int .i64) 3 w2' (wr.drewN nd).heap.size (fun _ => True) v2 (bg ++ [(i : Int)])) => (by
            have hb0 : Below wr.heap.size wr w2' := (pw_below_drewN (Below.refl _ _) nd).trans hb
            have hI2 := TW.out.next hb0
            obtain ⟨_, _, ⟨bv, g1, _⟩, g2⟩ := TW.out
            have lb : gb < wr.heap.size := (Array.getElem?_eq_some_iff.1 g1).1
            have ll : gl < wr.heap.size := (Array.getElem?_eq_some_iff.1 g2).1
            have hr2 : Kd.R (Kd.int .i64) 3 w2' wr.heap.size (fun k_ => ¬ (k_ = gb ∨ k_ = gl)) v2 (bg ++ [(i : Int)]) := Kd.R_mono (Kd.R_bound hr) (fun k_ hk => by have := hk.2.1; have e : (wr.drewN nd).heap.size = wr.heap.size := rfl; omega)
            obtain ⟨A2, c2, rfl, hlc, hC2⟩ := Kd.R_reads hr
            have hC' : ∀ W', Kept w2' W' (fun k_ => k_ = gb ∨ k_ = gl) → Kd.C (Kd.int .i64) W' A2 (bg ++ [(i : Int)]).length (bg ++ [(i : Int)]) := fun W' hk => by
              obtain ⟨A3, c3, e3, _, h4⟩ := Kd.R_reads (Kd.R_kept hr2 hk (fun _ hk => hk))
              injection e3 with e3
              subst e3
              exact h4
            exact (IH.out (bg ++ [(i : Int)]) w2' A2 c2 s1 s2 (by rw [List.length_append, List.length_singleton]; omega) hI2 hC' hlc H3.out).mono fun e w' hq => ⟨hq.1, Kept.then_ (KW.out.below hb0) hq.2.1 (fun _ hk => .inl hk), hq.2.2⟩ : Calls Try.prog 83 #[v2, .int .i64 many, .func (.func 84) #[] #[.pointer (some ⟨gs, 0, none⟩), .pointer (some ⟨gall, 0, none⟩), .pointer (some ⟨gl, 0, none⟩), .pointer (some ⟨gb, 0, none⟩)]] w2' fun e w' => e = .returned (.tuple #[]) ∧ Kept W w' (fun k_ => k_ = gb ∨ k_ = gl) ∧ TI w2 gall gb gl (.slice Aa all.length ca) w' s2))
          go_wp2_with (first | (go_at_call 79; refine CT.out.mono ?_; rintro e w' ⟨rfl, ⟨nd, rfl⟩⟩) | (go_at_call 78; refine (CL.out _ (pw_below_drewN (Below.refl _ _) nd)).mono ?_; rintro e w1 ⟨v1, rfl, hr1, hb1⟩; have HR1 := Aside0.mk hr1; have HB1 := Aside0.mk hb1; clear hr1 hb1) | ((with_reducible refine gate_builtin (b := .append) (xs := #[.tmp 23, .tmp 25]) rfl ?_); at_builtin; refine Kd.R_append (Kd.int .i64) (w0 := wr.drewN nd) (wr.drewN nd).heap.size rfl (.tmp 23) (.tmp 25) 26 3 (.int .i64 0) 8 rfl Try.underlying26 info3 rfl (by decide) (by omega) v1 bg (i : Int) [.int .i64 (i : Int)] (fun _ => True) (fun _ => False) rfl rfl ?aP (fun _ hk => hk.elim) ?aF ?aO ?aB ?aS ?aL ?_; (case aP => exact rfl); (case aB => exact HB1.out); (case aF => exact (fun _ _ => trivial)); (case aO => exact HR1.out); (case aS => exact HB1.out.size); (case aL => have := LL.out; omega); intro v2 w2' ho hb hg hat; have HR2 := Aside0.mk ho; have HB2 := Aside0.mk hb; clear ho hb hg hat HR1 HB1) | (go_at_call 83; refine (REC.out _ _ _ HB2.out HR2.out).mono ?_; rintro e w' ⟨rfl, hk, hI⟩; have KW2 := Aside0.mk hk; have TW2 := Aside0.mk hI; clear hk hI))
          go_roundg (many - (i + 1))
          case measure => omega
          case rel => exact ⟨i + 1, s2, by go_num, by omega, Nat.le_refl _, KW2, TW2, NX⟩
      · have hltz : ¬ (i : Int) < (many : Int) := by omega
        have hz : many - i = 0 := by omega
        have h := H.out
        rw [hz] at h
        obtain rfl := Option.some.inj (show some s1 = some st' from h)
        clear h H
        go_wp2
        refine bodyPost_end (results_none rfl _ _ _) rfl ?_
        exact ⟨rfl, KW.out, TW.out⟩

end Go.Proofs.Ytgickejeakmenaa.F
