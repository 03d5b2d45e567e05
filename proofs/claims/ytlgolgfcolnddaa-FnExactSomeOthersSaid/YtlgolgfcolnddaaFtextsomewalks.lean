-- Printed by wip/px/px.py of this claim's repository (the kit's printer, extended there). Lean checks it.
import Derived.Test.YtlgolgfcolnddaaFKinds
import Derived.Test.YtlgolgfcolnddaaFimplwithin
import Derived.Test.YtlgolgfcolnddaaFimplnodesIn
import Derived.Test.YtlgolgfcolnddaaFtextsomecmp
import Derived.Test.YtlgolgfcolnddaaFtextsomesimple
namespace Go.Proofs.Ytlgolgfcolnddaa.F
open Go.RowKit Go.Proofs.YtlgolgfcolnddaaW.PrintWords Go.Proofs.YtlgolgfcolnddaaW.PrintLast Go.Proofs.YtlgolgfcolnddaaW.PrintMore
attribute [local go_sem] max2_int min2_int max_two min_two max_three min_three max_four min_four   -- for this text's walks alone
set_option linter.unusedVariables false
set_option linter.unusedSimpArgs false

/-! ### text somewalks -/
/-- The first of all walks that come to no node twice. -/
def swF (n : Int) (l : List S58) (a b most : Int) : Option (List (List Int)) := (impl_nodesIn.f n l [a, b]).bind fun ok => if ok = true then (if a = b then some [] else (impl_within.f most 1 6).bind fun t => if t = true then (simF l a b).bind fun o => (if 0 ≤ most then some (o.take most.toNat) else none) else some []) else some []
theorem R_two (w : World) (a b : Int) (base : Nat) (hb : base ≤ w.heap.size) : Kd.R (Kd.int .i64) 3 (w.alloc (.cells #[.int .i64 a, .int .i64 b] 3)) base (fun _ => True) (.slice (some ⟨w.heap.size, 0, none⟩) 2 2) [a, b] := by
  refine ⟨fun k hk => trivial, OwnRow.lit (ps := [a, b]) (inner := [.int .i64 a, .int .i64 b]) w base ⟨rfl, fun j p hj => ?_⟩ hb (by simp)⟩
  obtain ⟨h, rfl⟩ := List.getElem?_eq_some_iff.1 hj
  match j, h with
  | 0, _ => rfl
  | 1, _ => rfl
set_option maxHeartbeats 4000000 in
set_option maxRecDepth 100000 in
theorem someWalks_any (n : Int) (A0 : Option Addr) (c0 : Nat) (l : List S58) (a b most : Int) (r : List (List Int)) (w : World) (hr0 : Kd.C k58 w A0 l.length l) (hc0 : l.length ≤ c0) (h : swF n l a b most = some r) :
    Calls Try.prog 15 #[.agg #[.int .i64 n, .slice A0 l.length c0], .int .i64 a, .int .i64 b, .int .i64 most] w fun e w' => ∃ v0_ : Value, e = .returned v0_ ∧ Kd.S (Kd.slice 3 (Kd.int .i64)) 33 w' w.heap.size (fun _ => True) v0_ r ∧ Below w.heap.size w w' := by
  have hu := Try.underlying25
  unfold swF at h
  obtain ⟨ok, hok, h⟩ := Option.bind_eq_some_iff.mp h
  obtain ⟨WA, hWA⟩ : ∃ WA, WA = w.alloc (.cells #[.int .i64 n, .slice A0 l.length c0] 25) := ⟨_, rfl⟩
  have bA : Below w.heap.size w WA := by rw [hWA]; exact below_alloc (Below.refl _ _) _
  have sA : WA.heap.size = w.heap.size + 1 := by rw [hWA]; simp
  have f1 : WA.heap[w.heap.size]? = some (.cells #[.int .i64 n, .slice A0 l.length c0] 25 (0, 0)) := by rw [hWA]; exact blk_new w _
  have y0 : WA.cell? ⟨w.heap.size, 0, none⟩ = some (.int .i64 n) := (blk_cell f1 0).trans rfl
  have y1 : WA.cell? ⟨w.heap.size, 1, none⟩ = some (.slice A0 l.length c0) := (blk_cell f1 1).trans rfl
  have bB : Below w.heap.size w (WA.alloc (.cells #[.int .i64 a, .int .i64 b] 3)) := below_alloc bA _
  obtain ⟨A2, c2, e2, hc2, hC2⟩ := Kd.R_reads (R_two WA a b WA.heap.size (Nat.le_refl _))
  have NI0 := impl_nodesIn.calls n A0 c0 l A2 c2 [a, b] ok (WA.alloc (.cells #[.int .i64 a, .int .i64 b] 3)) (Kd.C_below hr0 bB) hc0 hC2 hc2 hok
  rw [← e2] at NI0
  have NI := Aside0.mk (NI0.mono (R' := fun e w' => e = .returned (.bool ok) ∧ Below WA.heap.size WA w' ∧ Below w.heap.size w w') fun e w' h => ⟨h.1, (below_alloc (Below.refl _ _) _).trans (h.2.mono (by simp)), bB.trans (h.2.mono bB.size)⟩)
  have F := Aside0.mk (fun (w1 : World) (hb : Below (w.heap.size + 1) WA w1) => (⟨(blk_cell ((hb.block _ (Nat.lt_succ_self _)).trans f1) 0).trans rfl, (blk_cell ((hb.block _ (Nat.lt_succ_self _)).trans f1) 1).trans rfl⟩ : w1.cell? ⟨w.heap.size, 0, none⟩ = some (.int .i64 n) ∧ w1.cell? ⟨w.heap.size, 1, none⟩ = some (.slice A0 l.length c0)))
  have WI := Aside0.mk (fun (t : Bool) (h : impl_within.f most 1 6 = some t) (W : World) => impl_within.calls most 1 6 t W h)
  have SF_ := Aside0.mk (fun (o : List (List Int)) (h : simF l a b = some o) (W : World) (hb : Below w.heap.size w W) => simple_any n A0 c0 l a b o W (Kd.C_below hr0 hb) h)
  clear f1 bA bB NI0 e2 hc2 hC2 hr0 hok
  rw [sA] at NI
  have CP := Aside0.mk (fun (A1 : Option Addr) (n1 c1 : Nat) (h : n1 ≤ c1) (W1 : World) => clipS_any A1 n1 c1 h W1)
  obtain ⟨i0, hi0, _⟩ := Option.map_eq_some_iff.1 info33
  have CUT := Aside0.mk (fun (A2 : Option Addr) (n2 c2 : Nat) (j : Int) (h0 : 0 ≤ j) (hm : j ≤ n2) (hc : n2 ≤ c2) => cut_to 28 33 .i64 Try.underlying28 hi0 A2 n2 c2 j h0 hm hc)
  clear hi0
  cases ok with
  | false =>
    rw [if_neg Bool.false_ne_true] at h
    obtain rfl := Option.some.inj h
    go_enter Try.func15, Try.ntmps15
    go_wp2_with (first
      | (rw [← hWA]; go_at_call 58; refine NI.out.mono ?_; rintro e w1 ⟨rfl, hb1, hb0⟩; obtain ⟨z0, z1⟩ := F.out w1 hb1; have HB0 := Aside0.mk hb0; clear hb1 hb0))
    go_ret
    exact ⟨_, rfl, Kd.S_nil _ _ _ _ _, HB0.out⟩
  | true =>
    rw [if_pos rfl] at h
    by_cases hab : a = b
    · rw [if_pos hab] at h
      obtain rfl := Option.some.inj h
      subst hab
      have hab2 : (a == a) = true := beq_iff_eq.2 rfl
      go_enter Try.func15, Try.ntmps15
      go_wp2_with (first
        | (rw [← hWA]; go_at_call 58; refine NI.out.mono ?_; rintro e w1 ⟨rfl, hb1, hb0⟩; obtain ⟨z0, z1⟩ := F.out w1 hb1; have HB0 := Aside0.mk hb0; clear hb1 hb0))
      go_ret
      exact ⟨_, rfl, Kd.S_nil _ _ _ _ _, HB0.out⟩
    rw [if_neg hab] at h
    have hab2 : (a == b) = false := beq_eq_false_iff_ne.2 hab
    obtain ⟨t, ht, h⟩ := Option.bind_eq_some_iff.mp h
    have WT := Aside0.mk (WI.out t ht)
    clear WI ht
    cases t with
    | false =>
      rw [if_neg Bool.false_ne_true] at h
      obtain rfl := Option.some.inj h
      go_enter Try.func15, Try.ntmps15
      go_wp2_with (first
        | (rw [← hWA]; go_at_call 58; refine NI.out.mono ?_; rintro e w1 ⟨rfl, hb1, hb0⟩; obtain ⟨z0, z1⟩ := F.out w1 hb1; have HB0 := Aside0.mk hb0; clear hb1 hb0)
        | (go_at_call 48; refine (WT.out _).mono ?_; rintro e w' ⟨rfl, ⟨nd, rfl⟩⟩))
      go_ret
      exact ⟨_, rfl, Kd.S_nil _ _ _ _ _, HB0.out.trans (pw_below_drewN (Below.refl _ _) _)⟩
    | true =>
      rw [if_pos rfl] at h
      obtain ⟨o, ho, h⟩ := Option.bind_eq_some_iff.mp h
      by_cases hm0 : 0 ≤ most
      · rw [if_pos hm0] at h
        obtain rfl := Option.some.inj h
        have SO := Aside0.mk (SF_.out o ho)
        clear SF_ ho h
        by_cases hlt : (o.length : Int) < most
        · have er : o.take most.toNat = o := List.take_of_length_le (by omega)
          rw [er]
          go_enter Try.func15, Try.ntmps15
          go_wp2_with (first
            | (rw [← hWA]; go_at_call 58; refine NI.out.mono ?_; rintro e w1 ⟨rfl, hb1, hb0⟩; obtain ⟨z0, z1⟩ := F.out w1 hb1; have HB0 := Aside0.mk hb0; clear hb1 hb0)
            | (go_at_call 48; refine (WT.out _).mono ?_; rintro e w' ⟨rfl, ⟨nd, rfl⟩⟩; have HB2 := Aside0.mk (HB0.out.trans (pw_below_drewN (Below.refl _ _) nd)))
            | (go_at_call 59; refine (SO.out _ HB2.out).mono ?_; rintro e w3 ⟨v3, rfl, hs3, hb3⟩; obtain ⟨A3, c3, rfl, hc3, _⟩ := Kd.S_reads hs3; have hcut := CUT.out A3 o.length c3 (o.length : Int) (by omega) (by omega) hc3; rw [Int.toNat_natCast] at hcut; have HS3 := Aside0.mk (Kd.S_clip hs3); have HB3 := Aside0.mk hb3; have HC3 := Aside0.mk (CP.out A3 o.length c3 hc3); clear hs3 hb3)
            | (go_at_call 60; refine (HC3.out _).mono ?_; rintro e w' ⟨rfl, rfl⟩))
          go_ret
          exact ⟨_, rfl, Kd.S_lower HS3.out HB2.out.size, HB2.out.trans (HB3.out.mono HB2.out.size)⟩
        · have hml : most.toNat ≤ o.length := by omega
          have hmi : (most.toNat : Int) = most := by omega
          go_enter Try.func15, Try.ntmps15
          go_wp2_with (first
            | (rw [← hWA]; go_at_call 58; refine NI.out.mono ?_; rintro e w1 ⟨rfl, hb1, hb0⟩; obtain ⟨z0, z1⟩ := F.out w1 hb1; have HB0 := Aside0.mk hb0; clear hb1 hb0)
            | (go_at_call 48; refine (WT.out _).mono ?_; rintro e w' ⟨rfl, ⟨nd, rfl⟩⟩; have HB2 := Aside0.mk (HB0.out.trans (pw_below_drewN (Below.refl _ _) nd)))
            | (go_at_call 59; refine (SO.out _ HB2.out).mono ?_; rintro e w3 ⟨v3, rfl, hs3, hb3⟩; obtain ⟨A3, c3, rfl, hc3, _⟩ := Kd.S_reads hs3; have hcut := CUT.out A3 o.length c3 most hm0 (by omega) hc3; have HS3 := Aside0.mk (Kd.S_clip (Kd.S_take (m := most.toNat) hs3 hml)); have HB3 := Aside0.mk hb3; have HC3 := Aside0.mk (CP.out A3 most.toNat c3 (by omega)); clear hs3 hb3)
            | (go_at_call 60; refine (HC3.out _).mono ?_; rintro e w' ⟨rfl, rfl⟩))
          go_ret
          have hs := HS3.out
          rw [List.length_take, Nat.min_eq_left hml] at hs
          exact ⟨_, rfl, Kd.S_lower hs HB2.out.size, HB2.out.trans (HB3.out.mono HB2.out.size)⟩
      · rw [if_neg hm0] at h; cases h

end Go.Proofs.Ytlgolgfcolnddaa.F
