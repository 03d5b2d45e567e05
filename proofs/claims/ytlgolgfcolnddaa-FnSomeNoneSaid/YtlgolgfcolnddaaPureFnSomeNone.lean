/- The pure statement of FnSomeNone: of every drawn net and walk, the walk without its rings is the reference's, and it is among the best, or behind the last of as many as may be. No condition. -/
import Derived.Test.YtlgolgfcolnddaaFKinds
import Derived.Test.YtlgolgfcolnddaaFimplMeas
import Derived.Test.YtlgolgfcolnddaaFimplNearWalk
import Derived.Test.YtlgolgfcolnddaaFimplNetOk
import Derived.Test.YtlgolgfcolnddaaFimplNetalong
import Derived.Test.YtlgolgfcolnddaaFimplNetbest
import Derived.Test.YtlgolgfcolnddaaFimplNetcost
import Derived.Test.YtlgolgfcolnddaaFimplNetfirstArc
import Derived.Test.YtlgolgfcolnddaaFimplNethas
import Derived.Test.YtlgolgfcolnddaaFimplNettoward
import Derived.Test.YtlgolgfcolnddaaFimplSomeWalks
import Derived.Test.YtlgolgfcolnddaaFimplWalkCost
import Derived.Test.YtlgolgfcolnddaaFimplWalkOk
import Derived.Test.YtlgolgfcolnddaaFimplWalkPlain
import Derived.Test.YtlgolgfcolnddaaFimplnodesIn
import Derived.Test.YtlgolgfcolnddaaFimplwithin
import Derived.Test.YtlgolgfcolnddaaFlawsFnSomeNone
import Derived.Test.YtlgolgfcolnddaaFlawswkAhead
import Derived.Test.YtlgolgfcolnddaaFspecDrawWalkOk
import Derived.Test.YtlgolgfcolnddaaFspecDrawWalkPlain
import Derived.Test.YtlgolgfcolnddaaFspecWalkPlain
import Derived.Test.YtlgolgfcolnddaaFspecl1In
import Derived.Test.YtlgolgfcolnddaaFspecl1Ok
import Derived.Test.YtlgolgfcolnddaaFspecl2Ok
import Derived.Test.YtlgolgfcolnddaaFspecl30AnyNet
import Derived.Test.YtlgolgfcolnddaaFspecl30AnyWalk
import Derived.Test.YtlgolgfcolnddaaFspecl30Net
import Derived.Test.YtlgolgfcolnddaaFspecl30Node
import Derived.Test.YtlgolgfcolnddaaFspecl30Open
import Derived.Test.YtlgolgfcolnddaaFspecl30Rdone
import Derived.Test.YtlgolgfcolnddaaFspecl30Rdpick
import Derived.Test.YtlgolgfcolnddaaFspecl30Walk
import Derived.Test.YtlgolgfcolnddaaFtextcore
import Derived.Test.YtlgolgfcolnddaaFtextfirst
import Derived.Test.YtlgolgfcolnddaaFtextsomecmp
import Derived.Test.YtlgolgfcolnddaaFtextsomefol
import Derived.Test.YtlgolgfcolnddaaFtextsomeord
import Derived.Test.YtlgolgfcolnddaaFtextsomesimple
import Derived.Test.YtlgolgfcolnddaaFtextsomewalks
import Derived.Test.YtlgolgfcolnddaaFwkNet
namespace Go.Proofs.Ytlgolgfcolnddaa.Pure
open Go.RowKit Go.Proofs.Ytlgolgfcolnddaa.F Go.Proofs.YtlgolgfcolnddaaW.PrintWords
set_option linter.unusedVariables false
set_option linter.unusedSimpArgs false
/-! ### rounds -/
theorem ev_shift {α : Type} {g : Nat → Option α} {r : α} (h : Ev (fun k => g (k + 1)) r) : Ev g r := by
  obtain ⟨K, h⟩ := h
  refine ⟨K + 1, fun k hk => ?_⟩
  obtain ⟨m, rfl⟩ : ∃ m, k = m + 1 := ⟨k - 1, by omega⟩
  exact h m (by omega)
theorem ev_ind {σ β : Type} (g : Nat → σ → Option β) (μ : σ → Nat) (Inv : σ → Prop) (r : σ → β)
    (h : ∀ s, Inv s → (∀ s', Inv s' → μ s' < μ s → Ev (fun k => g k s') (r s')) → Ev (fun k => g (k + 1) s) (r s)) : ∀ s, Inv s → Ev (fun k => g k s) (r s) := by
  have key : ∀ n s, μ s ≤ n → Inv s → Ev (fun k => g k s) (r s) := by
    intro n
    induction n with
    | zero => intro s hs hi; exact ev_shift (h s hi (fun s' _ hlt => absurd hlt (by omega)))
    | succ n ih => intro s hs hi; exact ev_shift (h s hi (fun s' hi' hlt => ih s' (by omega) hi'))
  exact fun s hi => key _ s (Nat.le_refl _) hi
theorem ev_now {α : Type} {g : Nat → Option α} {r : α} (h : ∀ k, g k = some r) : Ev g r := ⟨0, fun k _ => h k⟩
theorem ev_at {α : Type} {g : Nat → Option α} {r r' : α} (h : Ev g r) (e : r = r') : Ev g r' := e ▸ h
/-! ### numbers and lists -/
theorem wsucc {i n : Nat} (h : i < n) (hn : n ≤ 9223372036854775807) : wrap64 ((i : Int) + 1) = ((i + 1 : Nat) : Int) := by
  unfold wrap64; omega
theorem wpred {i : Nat} (h : 0 < i) (hi : i ≤ 9223372036854775807) : wrap64 ((i : Int) - 1) = ((i - 1 : Nat) : Int) := by
  unfold wrap64; omega
theorem w_id {n : Int} (h : -9223372036854775808 ≤ n) (h' : n ≤ 9223372036854775807) : wrap64 n = n := by unfold wrap64; omega
theorem rd_nat (l : List Int) (i : Nat) : rd l (i : Int) = l.getD i 0 := by simp [rd]
theorem rd_at (l : List Int) (i : Nat) (h : i < l.length) : rd l (i : Int) = l[i] := by simp [rd, h]
theorem arc_at (l : List S58) (i : Nat) (h : i < l.length) : rd_T58 l (i : Int) = l[i] := by simp [rd_T58, h]
theorem any_at {α : Type} (p : α → Bool) (l : List α) (i : Nat) (h : i < l.length) : (l.drop i).any p = (p l[i] || (l.drop (i + 1)).any p) := by
  rw [List.drop_eq_getElem_cons h, List.any_cons]
/-! ### is a net valid -/
theorem within_eq (a b c : Int) : impl_within.f a b c = some (inB a b c) := by
  unfold impl_within.f inB
  by_cases h : b ≤ a
  · rw [if_pos h]; simp [h]
  · rw [if_neg h]; simp [h]
theorem l1In_eq (a b c : Int) : spec_l1In.f a b c = some (inB a b c) := within_eq a b c
theorem arcBad_eq (n : Int) (x : S58) : arcBad n x = !(inB x.f0 0 (wrap64 (n - 1)) && (inB x.f1 0 (wrap64 (n - 1)) && (!(x.f0 == x.f1) && (inB x.f2 0 99 && (inB x.f3 0 99 && inB x.f4 0 9))))) := by
  unfold arcBad hasB
  cases h1 : inB x.f0 0 (wrap64 (n - 1)) <;> cases h2 : inB x.f1 0 (wrap64 (n - 1)) <;> simp [h1, h2, Bool.not_and]
theorem netOk_eq (n : Int) (l : List S58) : impl_NetOk.f n l = some (netOkB n l) := rfl
theorem l1Ok_loop (n : Int) (l : List S58) (hl : l.length ≤ 9223372036854775807) (i : Nat) (hi : i ≤ l.length) :
    Ev (fun k => spec_l1Ok.l0 k (i : Int) n l) (!((l.drop i).any (arcBad n)) && (inB n 1 8 && decide (l.length ≤ 16))) := by
  refine ev_ind (fun k (i : Nat) => spec_l1Ok.l0 k (i : Int) n l) (fun i => l.length - i) (fun i => i ≤ l.length) (fun i => !((l.drop i).any (arcBad n)) && (inB n 1 8 && decide (l.length ≤ 16))) ?_ i hi
  intro i hi ih
  by_cases h : i < l.length
  · have hlt : (i : Int) < (l.length : Int) := by omega
    have h0 : (0 : Int) ≤ (i : Int) := by omega
    simp only [spec_l1Ok.l0, hlt, h0, if_true, l1In_eq, Option.bind_some, arc_at l i h, wsucc h hl]
    rw [any_at _ _ _ h, arcBad_eq]
    have ih' := ih (i + 1) (by omega) (by omega)
    generalize (l.drop (i + 1)).any (arcBad n) = q at ih' ⊢
    generalize l[i] = x at ih' ⊢
    cases inB x.f0 0 (wrap64 (n - 1)) with
    | false => exact ev_now fun k => by simp
    | true =>
    cases inB x.f1 0 (wrap64 (n - 1)) with
    | false => exact ev_now fun k => by simp
    | true =>
    by_cases he : x.f0 = x.f1
    · exact ev_now fun k => by simp [he]
    · cases inB x.f2 0 99 with
      | false => exact ev_now fun k => by simp [he]
      | true =>
      cases inB x.f3 0 99 with
      | false => exact ev_now fun k => by simp [he]
      | true =>
      cases inB x.f4 0 9 with
      | false => exact ev_now fun k => by simp [he]
      | true =>
        have he' : (x.f0 == x.f1) = false := beq_eq_false_iff_ne.2 he
        simpa [he, he'] using ih'
  · have hlt : ¬ (i : Int) < (l.length : Int) := by omega
    have he : i = l.length := by omega
    simp only [spec_l1Ok.l0, hlt, if_false, l1In_eq, Option.bind_some]
    subst he
    refine ev_now fun k => ?_
    cases inB n 1 8 <;> simp
    omega
theorem l1Ok_ev (n : Int) (l : List S58) (hl : l.length ≤ 9223372036854775807) : Ev (fun k => spec_l1Ok.f k n l) (netOkB n l) := by
  refine ev_at (l1Ok_loop n l hl 0 (Nat.zero_le _)) ?_
  unfold netOkB
  rw [List.drop_zero]
  cases inB n 1 8 <;> cases decide (l.length ≤ 16) <;> cases l.any (arcBad n) <;> rfl
theorem netOk_len {n : Int} {l : List S58} (h : netOkB n l = true) : l.length ≤ 16 := by
  unfold netOkB at h
  simp only [Bool.and_eq_true, decide_eq_true_eq] at h
  exact h.2.1
theorem inB_iff {a b c : Int} : inB a b c = true ↔ b ≤ a ∧ a ≤ c := by unfold inB; rw [Bool.and_eq_true, decide_eq_true_eq, decide_eq_true_eq]
/-! ### draws: what they make is of some size, whatever it is -/
theorem xor_nn {x y : Int} (hx : 0 ≤ x) (hx2 : x < 1099511627776) (hy : 0 ≤ y) (hy2 : y < 1099511627776) : 0 ≤ Go.bits .xor .i64 x y := by
  obtain ⟨a, rfl⟩ := Int.eq_ofNat_of_zero_le hx
  obtain ⟨b, rfl⟩ := Int.eq_ofNat_of_zero_le hy
  have h1 : (BitVec.ofInt 64 (a : Int)).toNat = a := by
    rw [BitVec.toNat_ofInt]
    omega
  have h2 : (BitVec.ofInt 64 (b : Int)).toNat = b := by
    rw [BitVec.toNat_ofInt]
    omega
  have h3 : a ^^^ b < 2 ^ 40 := Nat.xor_lt_two_pow (by omega) (by omega)
  have h4 : Go.bits .xor .i64 (a : Int) (b : Int) = IntKind.i64.wrap ((a ^^^ b : Nat) : Int) := by
    unfold Go.bits
    show IntKind.i64.wrap ((BitVec.ofInt 64 (a : Int) ^^^ BitVec.ofInt 64 (b : Int)).toNat : Int) = _
    rw [BitVec.toNat_xor, h1, h2]
  rw [h4, IntKind.wrap_i64]
  omega
/-- The bytes of a reader. -/
def Bytes (b : List Int) : Prop := b.length ≤ 2000 ∧ ∀ x ∈ b, 0 ≤ x ∧ x ≤ 255
theorem Bytes.at {b : List Int} (hb : Bytes b) (i : Int) : 0 ≤ rd b i ∧ rd b i ≤ 255 := by
  unfold rd
  rw [List.getD_eq_getElem?_getD]
  cases h : b[i.toNat]? with
  | none => simp
  | some x => exact hb.2 x (List.mem_of_getElem? h)
theorem pick_ex {b : List Int} (hb : Bytes b) {p n : Int} (hp : 0 ≤ p) (hp2 : p ≤ 1000000) (hn : n ≤ 1000000) :
    ∃ v, Ev (fun k => spec_l30Rd_pick.f k b p n) (v, p + 1) ∧ 0 ≤ v ∧ (1 ≤ n → v < n) ∧ (n < 1 → v = 0) := by
  have hl := hb.1
  have w1 : wrap64 (p + 1) = p + 1 := w_id (by omega) (by omega)
  have w0 : wrap64 (p + 1 - 1) = p := by rw [w_id (by omega) (by omega)]; omega
  unfold spec_l30Rd_pick.f
  rw [w1]
  by_cases h1 : n < 1
  · refine ⟨0, ?_, Int.le_refl _, fun h => by omega, fun _ => rfl⟩
    simp only [h1, if_true]
    exact ev_shift (ev_now fun k => by simp only [spec_l30Rd_pick.j0, if_true])
  · simp only [h1, if_false]
    have hn0 : ¬ n = 0 := by omega
    by_cases h2 : b.length = 0
    · refine ⟨0, ?_, Int.le_refl _, fun h => by omega, fun h => by first | exact absurd h h1 | exact h.elim⟩
      have e : ((b.length : Int) == 0) = true := by rw [beq_iff_eq]; omega
      rw [e]
      exact ev_shift (ev_now fun k => by simp only [spec_l30Rd_pick.j0, if_true])
    · have e : ((b.length : Int) == 0) = false := by rw [beq_eq_false_iff_ne]; omega
      have hm0 : ¬ (b.length : Int) = 0 := by omega
      rw [e]
      by_cases h3 : p < (b.length : Int)
      · have hr := hb.at p
        have w2 : wrap64 (rd b p) = rd b p := w_id (by omega) (by omega)
        refine ⟨Int.tmod (rd b p) n, ?_, Int.tmod_nonneg _ hr.1, fun h => Int.tmod_lt_of_pos _ (by omega), fun h => by first | exact absurd h h1 | exact h.elim⟩
        exact ev_shift (ev_now fun k => by simp only [spec_l30Rd_pick.j0, Bool.false_eq_true, if_false, w0, h3, hp, hn0, if_true, w2])
      · have q1 := Int.tmod_nonneg (a := p) (b.length : Int) hp
        have q2 := Int.tmod_lt_of_pos p (show (0 : Int) < (b.length : Int) by omega)
        have w3 : wrap64 (wrap64 (p * 7) + 3) = p * 7 + 3 := by rw [w_id (n := p * 7) (by omega) (by omega), w_id (by omega) (by omega)]
        have q3 := Int.tmod_nonneg (a := p * 7 + 3) (b.length : Int) (by omega)
        have q4 := Int.tmod_lt_of_pos (p * 7 + 3) (show (0 : Int) < (b.length : Int) by omega)
        have q5 : 0 ≤ Int.tdiv p (b.length : Int) := Int.tdiv_nonneg hp (by omega)
        have q6 : Int.tdiv p (b.length : Int) ≤ p := Int.tdiv_le_self _ hp
        obtain ⟨d, hd⟩ : ∃ d, Int.tdiv p (b.length : Int) = d := ⟨_, rfl⟩
        rw [hd] at q5 q6
        have r1 := hb.at (Int.tmod p (b.length : Int))
        have r2 := hb.at (Int.tmod (p * 7 + 3) (b.length : Int))
        have wx : wrap64 (wrap64 (wrap64 (wrap64 (wrap64 (rd b (Int.tmod p (b.length : Int))) * 131) + wrap64 (wrap64 (rd b (Int.tmod (p * 7 + 3) (b.length : Int))) * 1117)) + wrap64 (p * 29)) + wrap64 (wrap64 d * 53)) = rd b (Int.tmod p (b.length : Int)) * 131 + rd b (Int.tmod (p * 7 + 3) (b.length : Int)) * 1117 + p * 29 + d * 53 := by
          generalize rd b (Int.tmod p (b.length : Int)) = x1 at r1 ⊢
          generalize rd b (Int.tmod (p * 7 + 3) (b.length : Int)) = x2 at r2 ⊢
          rw [w_id (n := x1) (by omega) (by omega), w_id (n := x2) (by omega) (by omega), w_id (n := x1 * 131) (by omega) (by omega), w_id (n := x2 * 1117) (by omega) (by omega), w_id (n := p * 29) (by omega) (by omega), w_id (n := d) (by omega) (by omega), w_id (n := d * 53) (by omega) (by omega), w_id (n := x1 * 131 + x2 * 1117) (by omega) (by omega), w_id (n := x1 * 131 + x2 * 1117 + p * 29) (by omega) (by omega), w_id (by omega) (by omega)]
        generalize hX : rd b (Int.tmod p (b.length : Int)) * 131 + rd b (Int.tmod (p * 7 + 3) (b.length : Int)) * 1117 + p * 29 + d * 53 = X at wx
        have x0 : 0 ≤ X := by omega
        have x1 : X < 1099511627776 := by omega
        have y0 : 0 ≤ Int.tdiv X 64 := Int.tdiv_nonneg x0 (by omega)
        have y1 : Int.tdiv X 64 ≤ X := Int.tdiv_le_self _ x0
        have wy : wrap64 (Int.tdiv X 64) = Int.tdiv X 64 := w_id (by omega) (by omega)
        refine ⟨Int.tmod (Go.bits .xor .i64 X (Int.tdiv X 64)) n, ?_, Int.tmod_nonneg _ (xor_nn x0 x1 y0 (by omega)), fun h => Int.tmod_lt_of_pos _ (by omega), fun h => by first | exact absurd h h1 | exact h.elim⟩
        exact ev_shift (ev_now fun k => by simp only [spec_l30Rd_pick.j0, Bool.false_eq_true, if_false, w0, h3, hm0, q1, q2, w3, q3, q4, hn0, if_true, hd, wx, wy])
theorem one_ex {b : List Int} (hb : Bytes b) {p : Int} (hp : 0 ≤ p) (hp2 : p ≤ 1000000) (l : List Int) (hl : 1 ≤ l.length) (hl2 : l.length ≤ 1000) :
    ∃ v, v ∈ l ∧ Ev (fun k => spec_l30Rd_one.f k b p l) (v, p + 1) := by
  obtain ⟨v, hv, h0, h1, _⟩ := pick_ex hb hp hp2 (n := (l.length : Int)) (by omega)
  have h1 := h1 (by omega)
  unfold spec_l30Rd_one.f
  obtain ⟨i, rfl⟩ := Int.eq_ofNat_of_zero_le h0
  have hi : i < l.length := by omega
  refine ⟨l[i], List.getElem_mem hi, Ev.bind hv ?_⟩
  simp only [h0, h1, if_true, rd_at l i hi]
  exact ev_now fun _ => rfl
theorem open_ex (l : List Int) (h : ∀ x ∈ l, (Lit.int .u8 x).wf = true) : ∃ b, Bytes b ∧ spec_l30Open.f l = some (b, 0) := by
  have hw : ∀ x ∈ l, 0 ≤ x ∧ x ≤ 255 := by
    intro x hx
    have := h x hx
    simp [Lit.wf, IntKind.min, IntKind.max, IntKind.signed, IntKind.bits] at this
    omega
  unfold spec_l30Open.f
  by_cases h1 : (l.length : Int) > 2000
  · have h2 : 2000 ≤ (l.length : Int) := by omega
    rw [if_pos h1, if_pos h2]
    exact ⟨_, ⟨by rw [List.length_take]; omega, fun x hx => hw x (List.mem_of_mem_take hx)⟩, rfl⟩
  · rw [if_neg h1]
    exact ⟨_, ⟨by omega, hw⟩, rfl⟩
/-! ### nets, nodes and walks that are drawn -/
theorem l30Net_loop {b : List Int} (hb : Bytes b) {n : Int} (hn : 2 ≤ n ∧ n ≤ 6) : ∀ (m : Nat) (l : List S58) (p : Int), l.length + m ≤ 13 → 0 ≤ p → p + 6 * m ≤ 100000 →
    ∃ l' q, Ev (fun k => spec_l30Net.l0 k (m : Int) b p n l) (n, l', q) ∧ l'.length ≤ 13 ∧ 0 ≤ q ∧ q ≤ p + 6 * m := by
  intro m
  induction m with
  | zero =>
    intro l p hl hp hq
    exact ⟨l, p, ev_shift (ev_now fun k => by simp [spec_l30Net.l0]), by omega, hp, by omega⟩
  | succ m ih =>
    intro l p hl hp hq
    obtain ⟨v1, e1, _⟩ := pick_ex hb hp (by omega) (n := n) (by omega)
    obtain ⟨v2, e2, _⟩ := pick_ex hb (p := p + 1) (by omega) (by omega) (n := n) (by omega)
    obtain ⟨v3, e3, _⟩ := pick_ex hb (p := p + 1 + 1) (by omega) (by omega) (n := 100) (by omega)
    obtain ⟨v4, _, e4⟩ := one_ex hb (p := p + 1 + 1 + 1) (by omega) (by omega) [0, 1, 2, 5, 9, v3] (by simp) (by simp)
    obtain ⟨v5, _, e5⟩ := one_ex hb (p := p + 1 + 1 + 1 + 1) (by omega) (by omega) [0, 0, 3, 8] (by simp) (by simp)
    obtain ⟨v6, e6, _⟩ := pick_ex hb (p := p + 1 + 1 + 1 + 1 + 1) (by omega) (by omega) (n := 10) (by omega)
    have hpos : ((m + 1 : Nat) : Int) > 0 := by omega
    have hw : wrap64 (((m + 1 : Nat) : Int) - 1) = (m : Int) := by rw [w_id (by omega) (by omega)]; omega
    have hlen : l.length < 3518437208883 := by omega
    have hn0 : ¬ n = 0 := by omega
    by_cases hv : v1 = v2
    · obtain ⟨l', q, he, h1, h2, h3⟩ := ih (l ++ [⟨v1, Int.tmod (wrap64 (v2 + 1)) n, v4, v5, v6⟩]) (p + 1 + 1 + 1 + 1 + 1 + 1) (by rw [List.length_append]; simp; omega) (by omega) (by omega)
      refine ⟨l', q, ev_shift ?_, h1, h2, by omega⟩
      simp only [spec_l30Net.l0, hpos, if_true]
      refine Ev.bind e1 (Ev.bind e2 (Ev.bind e3 (Ev.bind e4 (Ev.bind e5 (Ev.bind e6 ?_)))))
      simp only [hv, hn0, hlen, if_true, if_false, hw]
      rw [hv] at he
      exact he
    · obtain ⟨l', q, he, h1, h2, h3⟩ := ih (l ++ [⟨v1, v2, v4, v5, v6⟩]) (p + 1 + 1 + 1 + 1 + 1 + 1) (by rw [List.length_append]; simp; omega) (by omega) (by omega)
      refine ⟨l', q, ev_shift ?_, h1, h2, by omega⟩
      simp only [spec_l30Net.l0, hpos, if_true]
      refine Ev.bind e1 (Ev.bind e2 (Ev.bind e3 (Ev.bind e4 (Ev.bind e5 (Ev.bind e6 ?_)))))
      simp only [hv, hlen, if_true, if_false, hw]
      exact he
theorem l30Net_ex {b : List Int} (hb : Bytes b) {p : Int} (hp : 0 ≤ p) (hp2 : p ≤ 90000) :
    ∃ n l q, Ev (fun k => spec_l30Net.f k b p) (n, l, q) ∧ l.length ≤ 13 ∧ 0 ≤ q ∧ q ≤ p + 100 ∧ 2 ≤ n ∧ n ≤ 6 := by
  obtain ⟨v1, e1, h1, h1', _⟩ := pick_ex hb hp (by omega) (n := 5) (by omega)
  obtain ⟨v2, e2, h2, h2', _⟩ := pick_ex hb (p := p + 1) (by omega) (by omega) (n := 14) (by omega)
  have h1' := h1' (by omega)
  have h2' := h2' (by omega)
  obtain ⟨m, rfl⟩ := Int.eq_ofNat_of_zero_le h2
  have hw : wrap64 (2 + v1) = 2 + v1 := w_id (by omega) (by omega)
  obtain ⟨l, q, he, h3, h4, h5⟩ := l30Net_loop hb (n := 2 + v1) (by omega) m [] (p + 1 + 1) (by simp; omega) (by omega) (by omega)
  refine ⟨2 + v1, l, q, ?_, h3, h4, by omega, by omega, by omega⟩
  unfold spec_l30Net.f
  refine Ev.bind e1 (Ev.bind e2 ?_)
  rw [hw]
  exact he
/-! ### drawn nodes -/
theorem l30Node_ex {b : List Int} (hb : Bytes b) {p : Int} (hp : 0 ≤ p) (hp2 : p ≤ 90000) (n : Int) (hn : n ≤ 1000000) (l : List S58) :
    ∃ v q, Ev (fun k => spec_l30Node.f k b p n l) (v, q) ∧ 0 ≤ q ∧ q ≤ p + 10 := by
  obtain ⟨v1, e1, _⟩ := pick_ex hb hp (by omega) (n := 16) (by omega)
  unfold spec_l30Node.f
  by_cases c : v1 = 0
  · obtain ⟨v2, _, e2⟩ := one_ex hb (p := p + 1) (by omega) (by omega) [(-1), n] (by simp) (by simp)
    refine ⟨v2, p + 1 + 1, Ev.bind e1 ?_, by omega, by omega⟩
    simp only [c, if_true]
    exact Ev.bind e2 (ev_now fun _ => rfl)
  · obtain ⟨v2, e2, _⟩ := pick_ex hb (p := p + 1) (by omega) (by omega) (n := n) hn
    refine ⟨v2, p + 1 + 1, Ev.bind e1 ?_, by omega, by omega⟩
    simp only [c, if_false]
    exact Ev.bind e2 (ev_now fun _ => rfl)
/-! ### drawn nets, ok or not -/
theorem l30AnyNet_ex9 {b : List Int} (hb : Bytes b) {p : Int} (hp : 0 ≤ p) (hp2 : p ≤ 90000) :
    ∃ n l q, Ev (fun k => spec_l30AnyNet.f k b p) (n, l, q) ∧ l.length ≤ 13 ∧ 0 ≤ q ∧ q ≤ p + 200 ∧ n ≤ 9 := by
  obtain ⟨n, l, q, he, h1, h2, h3, h4, h5⟩ := l30Net_ex hb hp hp2
  unfold spec_l30AnyNet.f
  by_cases hl : (l.length : Int) > 0
  · obtain ⟨v1, e1, g1, g2, _⟩ := pick_ex hb h2 (by omega) (n := (l.length : Int)) (by omega)
    have g2 := g2 (by omega)
    obtain ⟨v2, e2, _⟩ := pick_ex hb (p := q + 1) (by omega) (by omega) (n := 16) (by omega)
    by_cases c0 : v2 = 0
    · obtain ⟨v3, _, e3⟩ := one_ex hb (p := q + 1 + 1) (by omega) (by omega) [(-1), 8, (rd_T58 l v1).f0] (by simp) (by simp)
      refine ⟨n, l.set v1.toNat (⟨(rd_T58 l v1).f0, v3, (rd_T58 l v1).f2, (rd_T58 l v1).f3, (rd_T58 l v1).f4⟩ : S58), q + 1 + 1 + 1, Ev.bind he ?_, ?_, ?_, ?_, ?_⟩
      · simp only [hl, if_true]
        refine Ev.bind e1 (Ev.bind e2 ?_)
        simp only [c0, if_true, g1, g2]
        exact Ev.bind e3 (ev_now fun _ => rfl)
      · rw [List.length_set]; exact h1
      · omega
      · omega
      · omega
    · by_cases c1 : v2 = 1
      · obtain ⟨v3, _, e3⟩ := one_ex hb (p := q + 1 + 1) (by omega) (by omega) [(-1), 100] (by simp) (by simp)
        refine ⟨n, l.set v1.toNat (⟨(rd_T58 l v1).f0, (rd_T58 l v1).f1, v3, (rd_T58 l v1).f3, (rd_T58 l v1).f4⟩ : S58), q + 1 + 1 + 1, Ev.bind he ?_, ?_, ?_, ?_, ?_⟩
        · simp only [hl, if_true]
          refine Ev.bind e1 (Ev.bind e2 ?_)
          simp only [c1, if_true, show ¬ (1 : Int) = 0 by omega, if_false]
          refine Ev.bind e3 ?_
          simp only [g1, g2, if_true]
          exact ev_now fun _ => rfl
        · rw [List.length_set]; exact h1
        · omega
        · omega
        · omega
      · by_cases c2 : v2 = 2
        · obtain ⟨v3, hv3, e3⟩ := one_ex hb (p := q + 1 + 1) (by omega) (by omega) [0, 1, 9, 8] (by simp) (by simp)
          refine ⟨v3, l, q + 1 + 1 + 1, Ev.bind he ?_, h1, by omega, by omega, by simp only [List.mem_cons, List.not_mem_nil, or_false] at hv3; omega⟩
          simp only [hl, if_true]
          refine Ev.bind e1 (Ev.bind e2 ?_)
          simp only [c2, if_true, show ¬ (2 : Int) = 0 by omega, show ¬ (2 : Int) = 1 by omega, if_false]
          exact Ev.bind e3 (ev_now fun _ => rfl)
        · refine ⟨n, l, q + 1 + 1, Ev.bind he ?_, h1, by omega, by omega, by omega⟩
          simp only [hl, if_true]
          refine Ev.bind e1 (Ev.bind e2 ?_)
          simp only [c0, c1, c2, if_false]
          exact ev_now fun _ => rfl
  · refine ⟨n, l, q, Ev.bind he ?_, h1, h2, by omega, by omega⟩
    simp only [hl, if_false]
    exact ev_now fun _ => rfl
theorem l30AnyNet_ex {b : List Int} (hb : Bytes b) {p : Int} (hp : 0 ≤ p) (hp2 : p ≤ 90000) :
    ∃ n l q, Ev (fun k => spec_l30AnyNet.f k b p) (n, l, q) ∧ l.length ≤ 13 ∧ 0 ≤ q ∧ q ≤ p + 200 ∧ n ≤ 1000000 := by
  obtain ⟨n, l, q, h1, h2, h3, h4, h5⟩ := l30AnyNet_ex9 hb hp hp2
  exact ⟨n, l, q, h1, h2, h3, h4, by omega⟩
/-! ### a valid net -/
/-- What a valid net is. -/
structure Net1 (n : Int) (l : List S58) : Prop where
  lo : 1 ≤ n
  hi : n ≤ 8
  len : l.length ≤ 16
  ends : ∀ x ∈ l, 0 ≤ x.f0 ∧ x.f0 < n ∧ 0 ≤ x.f1 ∧ x.f1 < n ∧ x.f0 ≠ x.f1 ∧ 0 ≤ x.f2 ∧ x.f2 ≤ 99 ∧ 0 ≤ x.f3 ∧ x.f3 ≤ 99 ∧ 0 ≤ x.f4 ∧ x.f4 ≤ 9
theorem net1_of {n : Int} {l : List S58} (h : netOkB n l = true) : Net1 n l := by
  unfold netOkB at h
  simp only [Bool.and_eq_true, decide_eq_true_eq, inB_iff, Bool.not_eq_true'] at h
  obtain ⟨⟨h1, h2⟩, h3, h4⟩ := h
  refine ⟨h1, h2, h3, fun x hx => ?_⟩
  have h5 : arcBad n x = false := by
    cases h6 : arcBad n x with
    | false => rfl
    | true => rw [List.any_eq_true.2 ⟨x, hx, h6⟩] at h4; cases h4
  rw [arcBad_eq] at h5
  simp only [Bool.not_eq_false', Bool.and_eq_true, inB_iff, Bool.not_eq_true', beq_eq_false_iff_ne] at h5
  rw [w_id (n := n - 1) (by omega) (by omega)] at h5
  obtain ⟨a, b, c, d, e, f⟩ := h5
  exact ⟨a.1, by omega, b.1, by omega, c, d.1, d.2, e.1, e.2, f.1, f.2⟩
theorem netOk_of {n : Int} {l : List S58} (hn : Net1 n l) : netOkB n l = true := by
  unfold netOkB
  have hlo := hn.lo
  have hhi := hn.hi
  have hl := hn.len
  simp only [Bool.and_eq_true, decide_eq_true_eq, inB_iff, Bool.not_eq_true']
  refine ⟨⟨hlo, hhi⟩, hl, ?_⟩
  rw [List.any_eq_false]
  intro x hx
  obtain ⟨h1, h2, h3, h4, h5, h6, h7, h8, h9, h10, h11⟩ := hn.ends x hx
  have : arcBad n x = false := by
    rw [arcBad_eq]
    simp only [Bool.not_eq_false', Bool.and_eq_true, inB_iff, Bool.not_eq_true', beq_eq_false_iff_ne]
    rw [w_id (n := n - 1) (by omega) (by omega)]
    exact ⟨⟨h1, by omega⟩, ⟨h3, by omega⟩, h5, ⟨h6, h7⟩, ⟨h8, h9⟩, h10, h11⟩
  rw [this]; exact Bool.false_ne_true
/-! ### rounds that end somewhere -/
theorem ev_ex {σ β : Type} (g : Nat → σ → Option β) (μ : σ → Nat) (Inv : σ → Prop) (P : β → Prop)
    (h : ∀ s, Inv s → (∀ s', Inv s' → μ s' < μ s → ∃ r, P r ∧ Ev (fun k => g k s') r) → ∃ r, P r ∧ Ev (fun k => g (k + 1) s) r) : ∀ s, Inv s → ∃ r, P r ∧ Ev (fun k => g k s) r := by
  have key : ∀ n s, μ s ≤ n → Inv s → ∃ r, P r ∧ Ev (fun k => g k s) r := by
    intro n
    induction n with
    | zero => intro s hs hi; obtain ⟨r, hp, he⟩ := h s hi (fun s' _ hlt => absurd hlt (by omega)); exact ⟨r, hp, ev_shift he⟩
    | succ n ih => intro s hs hi; obtain ⟨r, hp, he⟩ := h s hi (fun s' hi' hlt => ih s' (by omega) hi'); exact ⟨r, hp, ev_shift he⟩
  exact fun s hi => key _ s (Nat.le_refl _) hi
/-! ### walks that are drawn -/
theorem l30Walk_l1 {b : List Int} (hb : Bytes b) {n : Int} {l : List S58} (hl : l.length ≤ 1000) (w : List Int) (hw : w.length ≤ 1000) (v m p : Int) (hp : 0 ≤ p) (hp2 : p ≤ 1000000) (P : List Int × Int → Prop) (hend : P (w, p))
    (next : ∀ x, 0 ≤ x → x < (l.length : Int) → ∃ R, P R ∧ Ev (fun k => spec_l30Walk.l0 k (w ++ [x]) (rd_T58 l x).f1 (wrap64 (m - 1)) b (p + 1) n l) R) :
    ∃ R, P R ∧ Ev (fun k => spec_l30Walk.l1 k w v m [] 0 b p n l) R := by
  refine ev_ex (fun k (s : Nat × List Int) => spec_l30Walk.l1 k w v m s.2 (s.1 : Int) b p n l) (fun s => l.length - s.1) (fun s => s.1 ≤ l.length ∧ s.2.length ≤ s.1 ∧ ∀ x ∈ s.2, 0 ≤ x ∧ x < (l.length : Int)) P ?_ (0, []) ⟨Nat.zero_le _, by simp, fun x hx => by cases hx⟩
  rintro ⟨i, out⟩ ⟨hi, ho, hx⟩ ih
  simp only at hi ho hx ih ⊢
  by_cases h : i < l.length
  · have hlt : (i : Int) < (l.length : Int) := by omega
    have h0 : (0 : Int) ≤ (i : Int) := by omega
    have b1 : out.length < 17592186044416 := by omega
    simp only [spec_l30Walk.l1, hlt, h0, if_true, b1, wsucc h (show l.length ≤ 9223372036854775807 by omega)]
    by_cases e : (rd_T58 l (i : Int)).f0 = v
    · simp only [e, if_true]
      refine ih (i + 1, out ++ [(i : Int)]) ⟨by simp; omega, by simp; omega, ?_⟩ (by simp; omega)
      intro x hx'
      simp only [List.mem_append, List.mem_singleton] at hx'
      rcases hx' with hx' | rfl
      · exact hx x hx'
      · omega
    · simp only [e, if_false]
      exact ih (i + 1, out) ⟨by simp; omega, by simp; omega, hx⟩ (by simp; omega)
  · have hlt : ¬ (i : Int) < (l.length : Int) := by omega
    simp only [spec_l30Walk.l1, hlt, if_false]
    by_cases hz : (out.length : Int) = 0
    · simp only [hz, if_true]
      exact ⟨(w, p), hend, ev_now fun _ => rfl⟩
    · simp only [hz, if_false]
      obtain ⟨y, e, v0, v1, _⟩ := pick_ex hb hp hp2 (n := (out.length : Int)) (by omega)
      have v1 := v1 (by omega)
      obtain ⟨j, rfl⟩ := Int.eq_ofNat_of_zero_le v0
      have hj : j < out.length := by omega
      have hm := hx _ (List.getElem_mem hj)
      obtain ⟨R, hR, he⟩ := next out[j] hm.1 hm.2
      refine ⟨R, hR, Ev.bind e ?_⟩
      have b2 : w.length < 17592186044416 := by omega
      simp only [v0, v1, b2, if_true, rd_at out j hj, hm.1, hm.2]
      exact he
theorem l30Walk_loop {b : List Int} (hb : Bytes b) {n : Int} {l : List S58} (hl : l.length ≤ 1000) : ∀ (m : Nat) (w : List Int) (v p : Int), w.length + m ≤ 30 → 0 ≤ p → p + m ≤ 100000 →
    ∃ R : List Int × Int, (R.1.length ≤ w.length + m ∧ 0 ≤ R.2 ∧ R.2 ≤ p + m) ∧ Ev (fun k => spec_l30Walk.l0 k w v (m : Int) b p n l) R := by
  intro m
  induction m with
  | zero =>
    intro w v p h1 h2 h3
    exact ⟨(w, p), ⟨by simp, h2, by simp⟩, ev_shift (ev_now fun k => by simp [spec_l30Walk.l0])⟩
  | succ m ih =>
    intro w v p h1 h2 h3
    have hpos : ((m + 1 : Nat) : Int) > 0 := by omega
    have hw : wrap64 (((m + 1 : Nat) : Int) - 1) = (m : Int) := by rw [w_id (by omega) (by omega)]; omega
    obtain ⟨R, hR, he⟩ := l30Walk_l1 hb hl w (by omega) v ((m + 1 : Nat) : Int) p h2 (by omega) (fun R : List Int × Int => R.1.length ≤ w.length + (m + 1) ∧ 0 ≤ R.2 ∧ R.2 ≤ p + ((m + 1 : Nat) : Int)) ⟨by simp, h2, by simp; omega⟩ (n := n) (by
      intro x _ _
      rw [hw]
      obtain ⟨R, hR, he⟩ := ih (w ++ [x]) (rd_T58 l x).f1 (p + 1) (by simp; omega) (by omega) (by omega)
      refine ⟨R, ⟨?_, hR.2.1, by omega⟩, he⟩
      have := hR.1
      simp only [List.length_append, List.length_singleton] at this
      omega)
    refine ⟨R, hR, ev_shift ?_⟩
    simp only [spec_l30Walk.l0, hpos, if_true]
    exact he
theorem l30Walk_ex {b : List Int} (hb : Bytes b) (n : Int) {l : List S58} (hl : l.length ≤ 1000) (v : Int) {p m : Int} (hp : 0 ≤ p) (hp2 : p ≤ 90000) (hm : 0 ≤ m) (hm2 : m ≤ 25) :
    ∃ R : List Int × Int, (R.1.length ≤ 25 ∧ 0 ≤ R.2 ∧ R.2 ≤ p + 30) ∧ Ev (fun k => spec_l30Walk.f k b p n l v m) R := by
  have hw : wrap64 (m + 1) = m + 1 := w_id (by omega) (by omega)
  obtain ⟨v1, e1, g0, g1, _⟩ := pick_ex hb hp (by omega) (n := m + 1) (by omega)
  have g1 := g1 (by omega)
  obtain ⟨j, rfl⟩ := Int.eq_ofNat_of_zero_le g0
  obtain ⟨R, hR, he⟩ := l30Walk_loop hb (n := n) hl j [] v (p + 1) (by simp; omega) (by omega) (by omega)
  simp only [List.length_nil, Nat.zero_add] at hR
  refine ⟨R, ⟨by omega, hR.2.1, by omega⟩, ?_⟩
  unfold spec_l30Walk.f
  rw [hw]
  exact Ev.bind e1 he
theorem l30AnyWalk_ex {b : List Int} (hb : Bytes b) (n : Int) {l : List S58} (hl : l.length ≤ 1000) {p : Int} (hp : 0 ≤ p) (hp2 : p ≤ 80000) :
    ∃ w q, Ev (fun k => spec_l30AnyWalk.f k b p n l) (w, q) ∧ w.length ≤ 30 ∧ 0 ≤ q ∧ q ≤ p + 100 := by
  unfold spec_l30AnyWalk.f
  cases hok : netOkB n l with
  | false =>
    refine ⟨[0], p, Ev.bind (l1Ok_ev n l (by omega)) ?_, by simp, hp, by omega⟩
    simp only [hok, Bool.false_eq_true, if_false]
    exact ev_now fun _ => rfl
  | true =>
    have hn := net1_of hok
    have hhi := hn.hi
    obtain ⟨v1, e1, _⟩ := pick_ex hb hp (by omega) (n := n) (by omega)
    obtain ⟨v2, hv2, e2⟩ := one_ex hb (p := p + 1) (by omega) (by omega) [3, 8, 21] (by simp) (by simp)
    have hv : 0 ≤ v2 ∧ v2 ≤ 25 := by simp only [List.mem_cons, List.not_mem_nil, or_false] at hv2; omega
    obtain ⟨⟨w, q⟩, ⟨r1, r2, r3⟩, e3⟩ := l30Walk_ex hb n hl v1 (p := p + 1 + 1) (m := v2) (by omega) (by omega) hv.1 hv.2
    simp only at r1 r2 r3
    obtain ⟨v4, e4, _⟩ := pick_ex hb r2 (by omega) (n := 10) (by omega)
    by_cases c : v4 = 0
    · obtain ⟨v5, e5, _⟩ := pick_ex hb (p := q + 1) (by omega) (by omega) (n := 17) (by omega)
      refine ⟨w ++ [wrap64 (v5 - 1)], q + 1 + 1, Ev.bind (l1Ok_ev n l (by omega)) ?_, by simp; omega, by omega, by omega⟩
      have b1 : w.length < 17592186044416 := by omega
      simp only [hok, if_true]
      refine Ev.bind e1 (Ev.bind e2 (Ev.bind e3 (Ev.bind e4 ?_)))
      simp only [c, if_true]
      refine Ev.bind e5 ?_
      simp only [b1, if_true]
      exact ev_now fun _ => rfl
    · refine ⟨w, q + 1, Ev.bind (l1Ok_ev n l (by omega)) ?_, by omega, by omega, by omega⟩
      simp only [hok, if_true]
      refine Ev.bind e1 (Ev.bind e2 (Ev.bind e3 (Ev.bind e4 ?_)))
      simp only [c, if_false]
      exact ev_now fun _ => rfl
/-! ### all walks that come to no node twice, as they are met -/
def DV (l : List S58) (tg : Int) : Nat → Int → List Int → List Int → List (List Int)
  | 0, _, _, _ => []
  | m + 1, at_, vis, w => if at_ = tg then [w] else (List.range l.length).flatMap fun (i : Nat) => if (rd_T58 l (i : Int)).f0 = at_ ∧ (rd_T58 l (i : Int)).f1 ∉ vis then DV l tg m (rd_T58 l (i : Int)).f1 ((rd_T58 l (i : Int)).f1 :: vis) (w ++ [(i : Int)]) else []
theorem flatMap_len {α : Type} (b : Nat) (f : α → List (List Int)) : ∀ L : List α, (∀ x ∈ L, (f x).length ≤ b) → (L.flatMap f).length ≤ L.length * b
  | [], _ => by simp
  | x :: r, h => by
    rw [List.flatMap_cons, List.length_append, List.length_cons, Nat.add_mul, Nat.one_mul]
    have := flatMap_len b f r fun y hy => h y (by simp [hy])
    have := h x (by simp)
    omega
theorem DV_len (l : List S58) (hl : l.length ≤ 16) (tg : Int) : ∀ (m : Nat) (at_ : Int) (vis w : List Int), (DV l tg m at_ vis w).length ≤ 16 ^ m
  | 0, _, _, _ => by simp [DV]
  | m + 1, at_, vis, w => by
    rw [DV]
    have hp : 0 < 16 ^ m := Nat.pos_of_ne_zero (by simp)
    split
    · rw [Nat.pow_succ]; simp; omega
    · refine Nat.le_trans (flatMap_len (16 ^ m) _ _ fun i _ => ?_) ?_
      · split
        · exact DV_len l hl tg m _ _ _
        · exact Nat.zero_le _
      · rw [List.length_range, Nat.pow_succ, Nat.mul_comm (16 ^ m)]
        exact Nat.mul_le_mul_right _ hl
/-- A list of distinct small numbers is short. -/
theorem nodup_short : ∀ (b : Nat) (vis : List Int), vis.Nodup → (∀ v ∈ vis, 0 ≤ v ∧ v < (b : Int)) → vis.length ≤ b
  | 0, [], _, _ => Nat.le_refl _
  | 0, v :: r, _, h => by have := h v (by simp); omega
  | b + 1, vis, hn, h => by
    have h2 := nodup_short b (vis.erase (b : Int)) (hn.erase _) fun v hv => by
      have h3 := h v (List.mem_of_mem_erase hv)
      have h4 : v ≠ (b : Int) := fun e => by subst e; exact (hn.not_mem_erase) hv
      omega
    have h5 := List.length_erase (a := (b : Int)) (l := vis)
    rw [h5] at h2
    split at h2 <;> omega
def maskOk (s : Nat) (vis : List Int) : Prop := ∀ v : Nat, v < 8 → (s / 2 ^ v % 2 = 0 ↔ (v : Int) ∉ vis)
theorem mask_next {s : Nat} {vis : List Int} (h : maskOk s vis) {u : Int} (h0 : 0 ≤ u) : maskOk (s ||| 2 ^ u.toNat) (u :: vis) := by
  intro v hv
  have h1 := h v hv
  have e : ∀ x : Nat, x / 2 ^ v % 2 = 0 ↔ x.testBit v = false := fun x => by rw [Nat.testBit_eq_decide_div_mod_eq, decide_eq_false_iff_not]; omega
  rw [e] at h1 ⊢
  rw [Nat.testBit_or, Bool.or_eq_false_iff, h1, Nat.testBit_two_pow, decide_eq_false_iff_not, List.mem_cons]
  constructor
  · rintro ⟨a, b⟩ (c | c)
    · exact b (by omega)
    · exact a c
  · intro a
    exact ⟨fun c => a (.inr c), fun c => a (.inl (by omega))⟩
theorem loop_flat (G : Int → List (List Int) → Option (List (List Int))) (F : Nat → List (List Int)) (b B N : Nat) (hG : ∀ (i : Nat) (o : List (List Int)), i < N → o.length + b ≤ B → G (i : Int) o = some (o ++ F i)) (hF : ∀ i, (F i).length ≤ b) : ∀ (c i : Nat) (o : List (List Int)), i + c ≤ N → o.length + c * b ≤ B → loopS G c i o = some (o ++ ((List.range' i c).flatMap F))
  | 0, i, o, _, _ => by simp [loopS]
  | c + 1, i, o, hN, h => by
    rw [Nat.add_mul, Nat.one_mul] at h
    rw [loopS, hG i o (by omega) (by omega), Option.bind_some, loop_flat G F b B N hG hF c (i + 1) _ (by omega) (by rw [List.length_append]; have := hF i; omega), List.range'_succ, List.flatMap_cons, List.append_assoc]
theorem folF_eq {n : Int} {l : List S58} (hn : Net1 n l) (tg : Int) : ∀ (m : Nat) (at_ : Int) (vis : List Int) (s : Nat) (w : List Int) (out : List (List Int)), vis.Nodup → (∀ v ∈ vis, 0 ≤ v ∧ v < (8 : Nat)) → vis.length + m = 9 → maskOk s vis → out.length + 16 ^ m ≤ 100000000000 → folF l tg m at_ s w out = some (out ++ DV l tg m at_ vis w)
  | 0, at_, vis, s, w, out, h1, h2, h3, _, _ => by have := nodup_short 8 vis h1 h2; omega
  | m + 1, at_, vis, s, w, out, h1, h2, h3, h4, h5 => by
    rw [folF, DV]
    have hp : 0 < 16 ^ m := Nat.pos_of_ne_zero (by simp)
    rw [Nat.pow_succ] at h5
    by_cases e : at_ = tg
    · rw [if_pos e, if_pos e, if_pos (by omega)]
    · rw [if_neg e, if_neg e]
      have hl := hn.len
      have hm : l.length * 16 ^ m ≤ 16 * 16 ^ m := Nat.mul_le_mul_right _ hl
      rw [List.range_eq_range']
      refine loop_flat _ _ (16 ^ m) 100000000000 l.length (fun i o hi ho => ?_) (fun i => ?_) _ _ _ (by omega) (by omega)
      · have hx := hn.ends _ (List.getElem_mem hi)
        rw [← arc_at l i hi] at hx
        generalize rd_T58 l (i : Int) = x at hx ⊢
        obtain ⟨_, _, e3, e4, _⟩ := hx
        have hhi := hn.hi
        have hb := h4 x.f1.toNat (by omega)
        rw [Int.toNat_of_nonneg e3] at hb
        by_cases c : x.f0 = at_ ∧ x.f1 ∉ vis
        · rw [if_pos ⟨c.1, hb.2 c.2⟩, if_pos c]
          exact folF_eq hn tg m _ _ _ _ _ (List.nodup_cons.2 ⟨c.2, h1⟩) (fun v hv => by
            rw [List.mem_cons] at hv
            rcases hv with rfl | hv
            · exact ⟨e3, by omega⟩
            · exact h2 v hv) (by rw [List.length_cons]; omega) (mask_next h4 e3) ho
        · rw [if_neg (fun z => c ⟨z.1, hb.1 z.2⟩), if_neg c, List.append_nil]
      · split
        · exact DV_len l hl tg m _ _ _
        · exact Nat.zero_le _
/-! ### a node's number -/
theorem node_of {n : Int} {l : List S58} (hn : Net1 n l) {a : Int} (h : inB a 0 (wrap64 (n - 1)) = true) : 0 ≤ a ∧ a < n := by
  have := hn.lo
  have := hn.hi
  rw [inB_iff, w_id (n := n - 1) (by omega) (by omega)] at h
  omega
/-! ### nodes of a net, and what can be reached -/
theorem nodesIn_eq (n : Int) (l : List S58) (ns : List Int) : impl_nodesIn.f n l ns = some (netOkB n l && hasB n ns) := by
  unfold impl_nodesIn.f impl_Net_has.f
  rw [netOk_eq]
  cases netOkB n l <;> rfl
theorem hasB1 (n a : Int) : hasB n [a] = inB a 0 (wrap64 (n - 1)) := by unfold hasB; simp
theorem hasB2 (n a b : Int) : hasB n [a, b] = (inB a 0 (wrap64 (n - 1)) && inB b 0 (wrap64 (n - 1))) := by unfold hasB; simp
theorem hasB3 (n a b c : Int) : hasB n [a, b, c] = (inB a 0 (wrap64 (n - 1)) && (inB b 0 (wrap64 (n - 1)) && inB c 0 (wrap64 (n - 1)))) := by unfold hasB; simp
/-! ### the best walks: what the program tells -/
def lessC (l : List S58) : List Int → List Int → Bool := lessW fun x => wcost l x 0
def someD (l : List S58) (a b : Int) : List (List Int) := DV l b 8 a [a] []
def someL (l : List S58) (a b : Int) : List (List Int) := sortW (lessC l) (someD l a b)
theorem DV_in (l : List S58) (tg : Int) : ∀ (m : Nat) (at_ : Int) (vis w : List Int), (∀ k ∈ w, 0 ≤ k ∧ k < (l.length : Int)) → ∀ d ∈ DV l tg m at_ vis w, ∀ k ∈ d, 0 ≤ k ∧ k < (l.length : Int)
  | 0, _, _, _, _, d, hd => by simp [DV] at hd
  | m + 1, at_, vis, w, hw, d, hd => by
    rw [DV] at hd
    split at hd
    · rw [List.mem_singleton] at hd
      subst hd
      exact hw
    · obtain ⟨i, hi, hd⟩ := List.mem_flatMap.1 hd
      split at hd
      · refine DV_in l tg m _ _ _ (fun k hk => ?_) d hd
        rw [List.mem_append, List.mem_singleton] at hk
        rw [List.mem_range] at hi
        rcases hk with hk | hk
        · exact hw k hk
        · omega
      · cases hd
theorem simF_eq {n : Int} {l : List S58} (hn : Net1 n l) {a : Int} (ha : 0 ≤ a ∧ a < n) (b : Int) : simF l a b = some (someL l a b) := by
  have hhi := hn.hi
  have hll := hn.len
  have h1 : (l.all fun x => decide (0 ≤ x.f1 ∧ x.f1 < 8)) = true := by
    rw [List.all_eq_true]
    intro x hx
    obtain ⟨_, _, e3, e4, _⟩ := hn.ends x hx
    exact decide_eq_true ⟨e3, by omega⟩
  have hm : maskOk (2 ^ a.toNat) [a] := by
    have h0 : maskOk 0 [] := fun v _ => by simp
    have := mask_next h0 ha.1
    rwa [Nat.zero_or] at this
  have hf := folF_eq hn b 8 a [a] (2 ^ a.toNat) [] [] (by simp) (fun v hv => by rw [List.mem_singleton] at hv; subst hv; exact ⟨ha.1, by omega⟩) (by simp) hm (by simp)
  have hlen := DV_len l hll b 8 a [a] []
  have h2 : ((DV l b 8 a [a] []).all fun w => w.all fun k => decide (0 ≤ k ∧ k < (l.length : Int))) = true := by
    rw [List.all_eq_true]
    intro w hw
    rw [List.all_eq_true]
    intro k hk
    exact decide_eq_true (DV_in l b 8 a [a] [] (by simp) w hw k hk)
  unfold simF
  rw [if_pos ⟨h1, by omega, ha.1, by omega⟩, hf, List.nil_append, Option.bind_some, if_pos ⟨h2, by omega⟩]
  rfl
theorem someI_ok {n : Int} {l : List S58} (hok : netOkB n l = true) {a b m : Int} (ha : inB a 0 (wrap64 (n - 1)) = true) (hb : inB b 0 (wrap64 (n - 1)) = true) (hab : a ≠ b) (hm : inB m 1 6 = true) : impl_SomeWalks.f n l a b m = some ((someL l a b).take m.toNat) := by
  have hn := net1_of hok
  have hm2 := inB_iff.1 hm
  unfold impl_SomeWalks.f swF
  rw [nodesIn_eq, hasB2, hok, ha, hb, Option.bind_some, if_pos (show (true && (true && true)) = true from rfl), if_neg hab, within_eq, Option.bind_some, hm, if_pos rfl, simF_eq hn (node_of hn ha), Option.bind_some, if_pos (by omega)]
theorem someI_bad {n : Int} {l : List S58} {a b m : Int} (h : ¬ (netOkB n l = true ∧ inB a 0 (wrap64 (n - 1)) = true ∧ inB b 0 (wrap64 (n - 1)) = true ∧ a ≠ b ∧ inB m 1 6 = true)) : impl_SomeWalks.f n l a b m = some [] := by
  unfold impl_SomeWalks.f swF
  rw [nodesIn_eq, hasB2, Option.bind_some]
  cases h1 : netOkB n l with
  | false => rfl
  | true =>
  cases h2 : inB a 0 (wrap64 (n - 1)) with
  | false => rfl
  | true =>
  cases h3 : inB b 0 (wrap64 (n - 1)) with
  | false => rfl
  | true =>
  rw [if_pos (show (true && (true && true)) = true from rfl)]
  by_cases e : a = b
  · rw [if_pos e]
  · rw [if_neg e, within_eq, Option.bind_some]
    cases h4 : inB m 1 6 with
    | false => rfl
    | true => exact absurd ⟨h1, h2, h3, e, h4⟩ h
/-! ### the nodes of a walk, as a list -/
def ndsV (l : List S58) (v : Int) (w : List Int) : List Int := v :: w.map fun i => (rd_T58 l i).f1
theorem ndsV_length (l : List S58) (v : Int) (w : List Int) : (ndsV l v w).length = w.length + 1 := by unfold ndsV; rw [List.length_cons, List.length_map]
/-! ### walks -/
theorem range_all (p : Nat → Bool) (i n : Nat) (h : i < n) : (List.range' i (n - i)).all p = (p i && (List.range' (i + 1) (n - (i + 1))).all p) := by
  obtain ⟨d, hd⟩ : ∃ d, n - i = d + 1 := ⟨n - i - 1, by omega⟩
  rw [hd, List.range'_succ, List.all_cons, show n - (i + 1) = d by omega]
theorem range_none (p : Nat → Bool) (n : Nat) : (List.range' n (n - n)).all p = true := by simp
/-- Is arc number i of a walk there, and does it begin where the one ahead ends. -/
def chk (l : List S58) (w : List Int) (i : Nat) : Bool := inB (w.getD i 0) 0 (wrap64 ((l.length : Int) - 1)) && (decide (i = 0) || (rd_T58 l (w.getD (i - 1) 0)).f1 == (rd_T58 l (w.getD i 0)).f0)
def chainB (l : List S58) (w : List Int) : Bool := (List.range' 0 w.length).all (chk l w)
def walkB (l : List S58) (w : List Int) : Bool := chainB l w && decide (w.length ≤ 20)
theorem arc_in {l : List S58} {x : Int} (hl : l.length ≤ 9223372036854775807) (h : inB x 0 (wrap64 ((l.length : Int) - 1)) = true) : 0 ≤ x ∧ x < (l.length : Int) := by
  rw [inB_iff, w_id (by omega) (by omega)] at h
  omega
theorem walkOk_loop (n : Int) (l : List S58) (w : List Int) (hl : l.length ≤ 9223372036854775807) (hw : w.length ≤ 9223372036854775807) :
    Ev (fun k => impl_WalkOk.l0 k w w (w.length : Int) (0 : Nat) n l) ((List.range' 0 (w.length - 0)).all (chk l w)) := by
  refine ev_ind (fun k (i : Nat) => impl_WalkOk.l0 k w w (w.length : Int) (i : Int) n l) (fun i => w.length - i) (fun i => i ≤ w.length ∧ ∀ j, j < i → inB (w.getD j 0) 0 (wrap64 ((l.length : Int) - 1)) = true) (fun i => (List.range' i (w.length - i)).all (chk l w)) ?_ 0 ⟨Nat.zero_le _, fun j hj => absurd hj (Nat.not_lt_zero _)⟩
  rintro i ⟨hi, hp⟩ ih
  by_cases h : i < w.length
  · have hlt : (i : Int) < (w.length : Int) := by omega
    have h0 : (0 : Int) ≤ (i : Int) := by omega
    rw [range_all _ _ _ h]
    simp only [impl_WalkOk.l0, hlt, h0, if_true, within_eq, Option.bind_some, wsucc h hw]
    have ih' := fun hin => ih (i + 1) ⟨by omega, hin⟩ (by omega)
    generalize (List.range' (i + 1) (w.length - (i + 1))).all (chk l w) = q at ih' ⊢
    unfold chk
    rw [rd_nat]
    cases hb : inB (w.getD i 0) 0 (wrap64 ((l.length : Int) - 1)) with
    | false => exact ev_now fun k => by simp
    | true =>
      have hin : ∀ j, j < i + 1 → inB (w.getD j 0) 0 (wrap64 ((l.length : Int) - 1)) = true := by
        intro j hj
        by_cases e : j = i
        · subst e; exact hb
        · exact hp j (by omega)
      obtain ⟨b0, b1⟩ := arc_in hl hb
      by_cases hi0 : i = 0
      · subst hi0
        have hn : ¬ ((0 : Nat) : Int) > 0 := by omega
        simp only [hn, if_true, if_false]
        simpa using ih' hin
      · have hn : ((i : Nat) : Int) > 0 := by omega
        have hp1 := hp (i - 1) (by omega)
        obtain ⟨c0, c1⟩ := arc_in hl hp1
        have hw1 : wrap64 ((i : Int) - 1) = ((i - 1 : Nat) : Int) := wpred (by omega) (by omega)
        have g0 : (0 : Int) ≤ ((i - 1 : Nat) : Int) := by omega
        have g1 : ((i - 1 : Nat) : Int) < (w.length : Int) := by omega
        simp only [hn, if_true, b0, b1, hw1, g0, g1, rd_nat, c0, c1, hi0, decide_false, Bool.false_or, Bool.true_and]
        by_cases he : (rd_T58 l (w.getD (i - 1) 0)).f1 = (rd_T58 l (w.getD i 0)).f0
        · simp only [he, if_true]
          simpa using ih' hin
        · have he' : ((rd_T58 l (w.getD (i - 1) 0)).f1 == (rd_T58 l (w.getD i 0)).f0) = false := beq_eq_false_iff_ne.2 he
          exact ev_now fun k => by simp only [he, he', if_false, Bool.false_and]
  · have hlt : ¬ (i : Int) < (w.length : Int) := by omega
    have he : i = w.length := by omega
    subst he
    simp only [impl_WalkOk.l0, hlt, if_false, range_none]
    exact ev_now fun k => rfl
theorem walkOk_ev (n : Int) (l : List S58) (w : List Int) (hl : l.length ≤ 9223372036854775807) (hw : w.length ≤ 9223372036854775807) : Ev (fun k => impl_WalkOk.f k n l w) (netOkB n l && walkB l w) := by
  unfold impl_WalkOk.f
  simp only [netOk_eq, Option.bind_some]
  cases netOkB n l with
  | false => exact ev_shift (ev_now fun k => by simp [impl_WalkOk.j0])
  | true =>
    simp only [if_true]
    refine ev_shift ?_
    unfold walkB chainB
    by_cases h : w.length ≤ 20
    · have h1 : ¬ decide ((w.length : Int) > 20) = true := by simp; omega
      simp only [impl_WalkOk.j0, h1, if_false]
      simpa [h] using walkOk_loop n l w hl hw
    · have h1 : decide ((w.length : Int) > 20) = true := by simp; omega
      simp only [impl_WalkOk.j0, h1, if_true]
      exact ev_now fun k => by simp [h]
theorem walkAt_in {l : List S58} {w : List Int} (hl : l.length ≤ 9223372036854775807) (h : walkB l w = true) (i : Nat) (hi : i < w.length) : 0 ≤ w[i] ∧ w[i] < (l.length : Int) := by
  unfold walkB chainB at h
  rw [Bool.and_eq_true, List.all_eq_true] at h
  have h1 := h.1 i (by rw [List.mem_range'_1]; omega)
  unfold chk at h1
  rw [Bool.and_eq_true] at h1
  have := arc_in hl h1.1
  rwa [List.getD_eq_getElem?_getD, List.getElem?_eq_getElem hi] at this
/-! ### what walks share -/
/-! ### what walks cost -/
def costS (l : List S58) : List Int → Int
  | [] => 0
  | x :: xs => (rd_T58 l x).f2 + costS l xs
/-! ### what a walk costs -/
theorem arc_cost {n : Int} {l : List S58} (hn : Net1 n l) {x : Int} (h0 : 0 ≤ x) (h1 : x < (l.length : Int)) : 0 ≤ (rd_T58 l x).f2 ∧ (rd_T58 l x).f2 ≤ 99 := by
  obtain ⟨j, rfl⟩ := Int.eq_ofNat_of_zero_le h0
  rw [arc_at l j (by omega)]
  obtain ⟨_, _, _, _, _, h2, h3, _⟩ := hn.ends _ (List.getElem_mem (show j < l.length by omega))
  exact ⟨h2, h3⟩
theorem costS_rng {n : Int} {l : List S58} (hn : Net1 n l) : ∀ a : List Int, (∀ x ∈ a, 0 ≤ x ∧ x < (l.length : Int)) → 0 ≤ costS l a ∧ costS l a ≤ 99 * (a.length : Int) := by
  intro a
  induction a with
  | nil => intro _; simp [costS]
  | cons x xs ih =>
    intro h
    have h1 := h x (by simp)
    have h2 := arc_cost hn h1.1 h1.2
    have h3 := ih fun y hy => h y (by simp [hy])
    simp only [costS, List.length_cons]
    omega
theorem walk_in {l : List S58} {w : List Int} (hl : l.length ≤ 9223372036854775807) (h : walkB l w = true) : ∀ x ∈ w, 0 ≤ x ∧ x < (l.length : Int) := by
  intro x hx
  obtain ⟨i, hi, rfl⟩ := List.getElem_of_mem hx
  exact walkAt_in hl h i hi
theorem walk_len {l : List S58} {w : List Int} (h : walkB l w = true) : w.length ≤ 20 := by
  unfold walkB at h
  simp only [Bool.and_eq_true, decide_eq_true_eq] at h
  exact h.2
theorem cost_ev {n : Int} {l : List S58} (hn : Net1 n l) (a : List Int) (ha : ∀ x ∈ a, 0 ≤ x ∧ x < (l.length : Int)) (hl : a.length ≤ 10000) : Ev (fun k => impl_Net_cost.f k n l a) (costS l a) := by
  unfold impl_Net_cost.f
  have hll := hn.len
  have := ev_ind (fun k (s : Nat × Int) => impl_Net_cost.l0 k s.2 a (a.length : Int) (s.1 : Int) n l) (fun s => a.length - s.1) (fun s => s.1 ≤ a.length ∧ 0 ≤ s.2 ∧ s.2 ≤ 99 * (s.1 : Int)) (fun s => s.2 + costS l (a.drop s.1)) ?_ (0, 0) ⟨Nat.zero_le _, by simp, by simp⟩
  · simpa using this
  rintro ⟨i, acc⟩ ⟨hi, h1, h2⟩ ih
  simp only at hi h1 h2 ih ⊢
  by_cases h : i < a.length
  · have hlt : (i : Int) < (a.length : Int) := by omega
    have h0 : (0 : Int) ≤ (i : Int) := by omega
    obtain ⟨b0, b1⟩ := ha _ (List.getElem_mem h)
    have hc := arc_cost hn b0 b1
    have hw : wrap64 (acc + (rd_T58 l a[i]).f2) = acc + (rd_T58 l a[i]).f2 := w_id (by omega) (by omega)
    simp only [impl_Net_cost.l0, hlt, h0, if_true, rd_at a i h, wsucc h (show a.length ≤ 9223372036854775807 by omega), b0, b1, hw]
    refine ev_at (ih (i + 1, acc + (rd_T58 l a[i]).f2) ⟨by simp; omega, by simp; omega, by simp; omega⟩ (by simp; omega)) ?_
    rw [List.drop_eq_getElem_cons h]
    simp only [costS]
    omega
  · have hlt : ¬ (i : Int) < (a.length : Int) := by omega
    simp only [impl_Net_cost.l0, hlt, if_false]
    refine ev_now fun k => ?_
    rw [List.drop_of_length_le (by omega)]
    simp [costS]
theorem walkCost_ev {n : Int} {l : List S58} (hok : netOkB n l = true) (a : List Int) (ha : walkB l a = true) : Ev (fun k => impl_WalkCost.f k n l a) (costS l a) := by
  have hn := net1_of hok
  have hll := hn.len
  have h20 := walk_len ha
  unfold impl_WalkCost.f
  refine Ev.bind (walkOk_ev n l a (by omega) (by omega)) ?_
  simp only [hok, ha, Bool.and_self, if_true]
  exact Ev.bind (cost_ev hn a (walk_in (by omega) ha) (by omega)) (ev_now fun _ => rfl)
theorem chainB_iff (l : List S58) (w : List Int) : chainB l w = true ↔ ∀ i, i < w.length → chk l w i = true := by
  unfold chainB
  rw [List.all_eq_true]
  constructor
  · intro h i hi; exact h i (by rw [List.mem_range'_1]; omega)
  · intro h i hi; rw [List.mem_range'_1] at hi; exact h i (by omega)
/-! ### the nodes of a walk: what the program tells -/
theorem along_ev {n : Int} {l : List S58} {w : List Int} (hw : ∀ x ∈ w, 0 ≤ x ∧ x < (l.length : Int)) (h1 : 1 ≤ w.length) (h2 : w.length ≤ 1000) : Ev (fun k => impl_Net_along.f k n l w) (ndsV l (rd_T58 l (rd w 0)).f0 w) := by
  unfold impl_Net_along.f
  have e0 : wrap64 ((w.length : Int) + 1) = ((w.length + 1 : Nat) : Int) := by rw [w_id (by omega) (by omega)]; omega
  have c1 : (0 : Int) ≤ ((w.length + 1 : Nat) : Int) := by omega
  have c2 : w.length + 1 ≤ 35184372088832 := by omega
  have c3 : 0 < (w.length : Int) := by omega
  have b0 := hw w[0] (List.getElem_mem (by omega))
  have er : rd w 0 = w[0] := rd_at w 0 (by omega)
  have c4 : (0 : Int) ≤ rd w 0 := by rw [er]; exact b0.1
  have c5 : rd w 0 < (l.length : Int) := by rw [er]; exact b0.2
  have c6 : ([] : List Int).length < 17592186044416 := by simp
  simp only [e0, c1, Int.toNat_natCast, c2, c3, c4, c5, c6, if_true, Option.bind_some, List.nil_append]
  generalize (rd_T58 l (rd w 0)).f0 = v
  have key := ev_ind (fun k (i : Nat) => impl_Net_along.l0 k (ndsV l v (w.take i)) w (w.length : Int) (i : Int) n l) (fun i => w.length - i) (fun i => i ≤ w.length) (fun _ => ndsV l v w) ?_ 0 (Nat.zero_le _)
  · exact key
  intro i hi ih
  by_cases h : i < w.length
  · have hlt : (i : Int) < (w.length : Int) := by omega
    have h0 : (0 : Int) ≤ (i : Int) := by omega
    have bi := hw w[i] (List.getElem_mem h)
    have ei := rd_at w i h
    have g1 : (0 : Int) ≤ rd w (i : Int) := by rw [ei]; exact bi.1
    have g2 : rd w (i : Int) < (l.length : Int) := by rw [ei]; exact bi.2
    have g3 : (ndsV l v (w.take i)).length < 17592186044416 := by rw [ndsV_length, List.length_take]; omega
    have next := ih (i + 1) (by omega) (by omega)
    have e : ndsV l v (w.take (i + 1)) = ndsV l v (w.take i) ++ [(rd_T58 l (rd w (i : Int))).f1] := by
      unfold ndsV
      rw [List.take_succ_eq_append_getElem h, List.map_append, ei]
      rfl
    rw [e] at next
    simp only [impl_Net_along.l0, hlt, h0, g1, g2, g3, if_true, wsucc h (show w.length ≤ 9223372036854775807 by omega)]
    exact next
  · have hlt : ¬ (i : Int) < (w.length : Int) := by omega
    simp only [impl_Net_along.l0, hlt, if_false]
    refine ev_now fun k => ?_
    rw [List.take_of_length_le (by omega)]
/-! ### a walk without its rings -/
/-- The last place of what stands at a place. -/
def LastV (V : List Int) (i j : Nat) : Prop := i ≤ j ∧ j < V.length ∧ V.getD j 0 = V.getD i 0 ∧ ∀ k, j < k → k < V.length → V.getD k 0 ≠ V.getD i 0
theorem last_one {V : List Int} {i j j' : Nat} (h : LastV V i j) (h' : LastV V i j') : j = j' := by
  obtain ⟨a, b, c, d⟩ := h
  obtain ⟨a', b', c', d'⟩ := h'
  rcases Nat.lt_trichotomy j j' with e | e | e
  · exact absurd c' (d j' e b')
  · exact e
  · exact absurd c (d' j e b)
theorem last_ex (V : List Int) (i : Nat) (hi : i < V.length) : ∃ j, LastV V i j := by
  have key : ∀ c k j, k + c = V.length → i ≤ j → j < V.length → V.getD j 0 = V.getD i 0 → (∀ q, j < q → q < k → V.getD q 0 ≠ V.getD i 0) → ∃ j, LastV V i j := by
    intro c
    induction c with
    | zero => intro k j hk h1 h2 h3 h4; exact ⟨j, h1, h2, h3, fun q hq hq2 => h4 q hq (by omega)⟩
    | succ c ih =>
      intro k j hk h1 h2 h3 h4
      by_cases e : V.getD k 0 = V.getD i 0 ∧ j < k
      · exact ih (k + 1) k (by omega) (by omega) (by omega) e.1 (fun q hq hq2 => by omega)
      · refine ih (k + 1) j (by omega) h1 h2 h3 (fun q hq hq2 => ?_)
        by_cases e2 : q = k
        · subst e2; exact fun z => e ⟨z, hq⟩
        · exact h4 q hq (by omega)
  exact key (V.length - (i + 1)) (i + 1) i (by omega) (Nat.le_refl _) hi rfl (fun q hq hq2 => by omega)
open Classical in
noncomputable def lastV (V : List Int) (i : Nat) : Nat := if h : ∃ j, LastV V i j then h.choose else 0
theorem lastV_is (V : List Int) (i : Nat) (hi : i < V.length) : LastV V i (lastV V i) := by
  unfold lastV
  rw [dif_pos (last_ex V i hi)]
  exact (last_ex V i hi).choose_spec
noncomputable def plainV (V w : List Int) : Nat → Nat → List Int
  | 0, _ => []
  | f + 1, i => if lastV V i < w.length then w.getD (lastV V i) 0 :: plainV V w f (lastV V i + 1) else []
theorem plain_ev {n : Int} {l : List S58} (hok : netOkB n l = true) {w : List Int} (hw : walkB l w = true) (h1 : 1 ≤ w.length) : Ev (fun k => impl_WalkPlain.f k n l w) (plainV (ndsV l (rd_T58 l (rd w 0)).f0 w) w (w.length + 1) 0) := by
  have hll := (net1_of hok).len
  have h20 := walk_len hw
  unfold impl_WalkPlain.f
  refine Ev.bind (walkOk_ev n l w (by omega) (by omega)) ?_
  have c1 : ((w.length : Int) == 0) = false := beq_eq_false_iff_ne.2 (by omega)
  simp only [hok, hw, Bool.and_self, if_true, c1]
  refine ev_shift ?_
  simp only [impl_WalkPlain.j0, Bool.false_eq_true, if_false]
  refine Ev.bind (along_ev (walk_in (by omega) hw) h1 (by omega)) ?_
  have hVl := ndsV_length l (rd_T58 l (rd w 0)).f0 w
  generalize ndsV l (rd_T58 l (rd w 0)).f0 w = V at hVl ⊢
  have c2 : ((w.length : Int) : Int).toNat ≤ 35184372088832 := by omega
  simp only [c2, if_true]
  have outer := ev_ind (fun k (s : Nat × List Int) => impl_WalkPlain.l0 k w V s.2 (s.1 : Int)) (fun s => w.length + 1 - s.1) (fun s => s.1 ≤ w.length ∧ s.2.length ≤ s.1) (fun s => s.2 ++ plainV V w (w.length + 1 - s.1) s.1) ?_ (0, []) ⟨Nat.zero_le _, Nat.le_refl _⟩
  · simpa using outer
  rintro ⟨i, out⟩ ⟨hi, ho⟩ ih
  simp only at hi ho ih ⊢
  have hiV : i < V.length := by omega
  have hlast := lastV_is V i hiV
  obtain ⟨f, hf⟩ : ∃ f, w.length + 1 - i = f + 1 := ⟨w.length - i, by omega⟩
  simp only [impl_WalkPlain.l0]
  have inner := ev_ind (fun k (s : Nat × Nat) => impl_WalkPlain.l1 k w V out (s.2 : Int) V (V.length : Int) (s.1 : Int)) (fun s => V.length - s.1) (fun s => s.1 ≤ V.length ∧ i ≤ s.2 ∧ s.2 < V.length ∧ V.getD s.2 0 = V.getD i 0 ∧ (∀ q, s.2 < q → q < s.1 → V.getD q 0 ≠ V.getD i 0)) (fun _ => out ++ plainV V w (w.length + 1 - i) i) ?_ (0, i) ⟨Nat.zero_le _, Nat.le_refl _, hiV, rfl, fun q hq hq2 => by omega⟩
  · exact inner
  rintro ⟨k, j⟩ ⟨hk, j1, j2, j3, j4⟩ ih2
  simp only at hk j1 j2 j3 j4 ih2 ⊢
  by_cases h : k < V.length
  · have hlt : (k : Int) < (V.length : Int) := by omega
    have h0 : (0 : Int) ≤ (k : Int) := by omega
    have g0 : (0 : Int) ≤ (j : Int) := by omega
    have g1 : (j : Int) < (V.length : Int) := by omega
    simp only [impl_WalkPlain.l1, hlt, h0, g0, g1, if_true, rd_nat, wsucc h (show V.length ≤ 9223372036854775807 by omega)]
    by_cases c : V.getD k 0 = V.getD j 0
    · simp only [c, if_true]
      have hmx : mx (j : Int) (k : Int) = ((max j k : Nat) : Int) := by unfold mx; split <;> omega
      rw [hmx]
      refine ih2 (k + 1, max j k) ⟨by simp; omega, by simp; omega, by simp; omega, ?_, fun q hq hq2 => ?_⟩ (by simp; omega)
      · simp only
        rcases Nat.le_total j k with e | e
        · rw [Nat.max_eq_right e, c, j3]
        · rw [Nat.max_eq_left e, j3]
      · simp only at hq hq2
        rcases Nat.le_total j k with e | e
        · rw [Nat.max_eq_right e] at hq; omega
        · rw [Nat.max_eq_left e] at hq
          exact j4 q hq (by omega)
    · simp only [c, if_false]
      refine ih2 (k + 1, j) ⟨by simp; omega, j1, j2, j3, fun q hq hq2 => ?_⟩ (by simp; omega)
      simp only at hq hq2
      by_cases e : q = k
      · subst e; exact fun z => c (z.trans j3.symm)
      · exact j4 q hq (by omega)
  · have hlt : ¬ (k : Int) < (V.length : Int) := by omega
    have hj : lastV V i = j := last_one hlast ⟨j1, j2, j3, fun q hq hq2 => j4 q hq (by omega)⟩
    simp only [impl_WalkPlain.l1, hlt, if_false]
    rw [hf, plainV, hj]
    by_cases c : j = w.length
    · have c3 : (j : Int) = (w.length : Int) := by omega
      simp only [c3, if_true]
      refine ev_now fun _ => ?_
      rw [if_neg (by omega), List.append_nil]
    · have c3 : ¬ (j : Int) = (w.length : Int) := by omega
      have c4 : (j : Int) < (w.length : Int) := by omega
      have g0 : (0 : Int) ≤ (j : Int) := by omega
      have c5 : out.length < 17592186044416 := by omega
      have hjw : j < w.length := by omega
      simp only [c3, c4, g0, c5, if_true, if_false, rd_nat, wsucc hjw (show w.length ≤ 9223372036854775807 by omega)]
      have := ih (j + 1, out ++ [w.getD j 0]) ⟨by simp; omega, by simp; omega⟩ (by simp; omega)
      simp only at this
      refine ev_at this ?_
      rw [if_pos hjw, List.append_assoc, List.singleton_append]
      congr 2
      have e : ∀ f1 f2 i, w.length + 1 - i ≤ f1 → w.length + 1 - i ≤ f2 → i ≤ w.length → plainV V w f1 i = plainV V w f2 i := by
        intro f1
        induction f1 with
        | zero => intro f2 i h1 h2 h3; omega
        | succ f1 ihf =>
          intro f2 i h1 h2 h3
          obtain ⟨f2, rfl⟩ : ∃ g, f2 = g + 1 := ⟨f2 - 1, by omega⟩
          rw [plainV, plainV]
          have hl := (lastV_is V i (by omega)).1
          by_cases c : lastV V i < w.length
          · rw [if_pos c, if_pos c, ihf f2 (lastV V i + 1) (by omega) (by omega) (by omega)]
          · rw [if_neg c, if_neg c]
      exact e _ _ _ (by omega) (by omega) (by omega)
/-- Of a walk to no node twice nothing is taken. -/
theorem plain_same {V w : List Int} (hV : V.Nodup) (hl : V.length = w.length + 1) : ∀ (f i : Nat), w.length + 1 ≤ f + i → i ≤ w.length → plainV V w f i = w.drop i
  | 0, i, h1, h2 => by omega
  | f + 1, i, h1, h2 => by
    have hlast := lastV_is V i (by omega)
    have hi : lastV V i = i := by
      refine last_one hlast ⟨Nat.le_refl _, by omega, rfl, fun k hk hk2 e => ?_⟩
      rw [List.getD_eq_getElem?_getD, List.getD_eq_getElem?_getD, List.getElem?_eq_getElem hk2, List.getElem?_eq_getElem (show i < V.length by omega)] at e
      exact absurd e.symm (List.pairwise_iff_getElem.1 hV i k (by omega) hk2 hk)
    rw [plainV, hi]
    by_cases c : i < w.length
    · rw [if_pos c, plain_same hV hl f (i + 1) (by omega) (by omega), List.drop_eq_getElem_cons c]
      congr 1
      rw [List.getD_eq_getElem?_getD, List.getElem?_eq_getElem c]
      rfl
    · rw [if_neg c, List.drop_of_length_le (by omega)]
/-! ### is a walk one, in the reference -/
theorem l2Ok_loop (n : Int) (l : List S58) (w : List Int) (hl : l.length ≤ 9223372036854775807) (hw : w.length ≤ 9223372036854775807) :
    Ev (fun k => spec_l2Ok.l0 k w (0 : Nat) n l) ((List.range' 0 (w.length - 0)).all (chk l w) && decide (w.length ≤ 20)) := by
  refine ev_ind (fun k (i : Nat) => spec_l2Ok.l0 k w (i : Int) n l) (fun i => w.length - i) (fun i => i ≤ w.length ∧ ∀ j, j < i → inB (w.getD j 0) 0 (wrap64 ((l.length : Int) - 1)) = true) (fun i => (List.range' i (w.length - i)).all (chk l w) && decide (w.length ≤ 20)) ?_ 0 ⟨Nat.zero_le _, fun j hj => absurd hj (Nat.not_lt_zero _)⟩
  rintro i ⟨hi, hp⟩ ih
  by_cases h : i < w.length
  · have hlt : (i : Int) < (w.length : Int) := by omega
    have h0 : (0 : Int) ≤ (i : Int) := by omega
    rw [range_all _ _ _ h]
    simp only [spec_l2Ok.l0, hlt, h0, if_true, l1In_eq, Option.bind_some, wsucc h hw]
    have ih' := fun hin => ih (i + 1) ⟨by omega, hin⟩ (by omega)
    generalize (List.range' (i + 1) (w.length - (i + 1))).all (chk l w) = q at ih' ⊢
    unfold chk
    rw [rd_nat]
    cases hb : inB (w.getD i 0) 0 (wrap64 ((l.length : Int) - 1)) with
    | false => exact ev_now fun k => by simp
    | true =>
      have hin : ∀ j, j < i + 1 → inB (w.getD j 0) 0 (wrap64 ((l.length : Int) - 1)) = true := by
        intro j hj
        by_cases e : j = i
        · subst e; exact hb
        · exact hp j (by omega)
      obtain ⟨b0, b1⟩ := arc_in hl hb
      by_cases hi0 : i = 0
      · subst hi0
        have hn : ¬ ((0 : Nat) : Int) > 0 := by omega
        simp only [hn, if_true, if_false]
        simpa using ih' hin
      · have hn : ((i : Nat) : Int) > 0 := by omega
        have hp1 := hp (i - 1) (by omega)
        obtain ⟨c0, c1⟩ := arc_in hl hp1
        have hw1 : wrap64 ((i : Int) - 1) = ((i - 1 : Nat) : Int) := wpred (by omega) (by omega)
        have g0 : (0 : Int) ≤ ((i - 1 : Nat) : Int) := by omega
        have g1 : ((i - 1 : Nat) : Int) < (w.length : Int) := by omega
        simp only [hn, if_true, b0, b1, hw1, g0, g1, rd_nat, c0, c1, hi0, decide_false, Bool.false_or, Bool.true_and]
        by_cases he : (rd_T58 l (w.getD i 0)).f0 = (rd_T58 l (w.getD (i - 1) 0)).f1
        · simp only [he, if_true]
          simpa using ih' hin
        · have he' : ((rd_T58 l (w.getD (i - 1) 0)).f1 == (rd_T58 l (w.getD i 0)).f0) = false := beq_eq_false_iff_ne.2 (fun x => he x.symm)
          exact ev_now fun k => by simp only [he, he', if_false, Bool.false_and]
  · have hlt : ¬ (i : Int) < (w.length : Int) := by omega
    have he : i = w.length := by omega
    subst he
    simp only [spec_l2Ok.l0, hlt, if_false, range_none, Bool.true_and]
    exact ev_now fun k => by simp; omega
theorem l2Ok_ev (n : Int) (l : List S58) (w : List Int) (hl : l.length ≤ 9223372036854775807) (hw : w.length ≤ 9223372036854775807) : Ev (fun k => spec_l2Ok.f k n l w) (walkB l w) := l2Ok_loop n l w hl hw
/-! ### walks to no node twice -/
inductive SP (l : List S58) (tg : Int) : Int → List Int → List Int → Prop
  | nil {vis : List Int} : SP l tg tg vis []
  | cons {i : Nat} {at_ : Int} {vis e : List Int} : i < l.length → (rd_T58 l (i : Int)).f0 = at_ → at_ ≠ tg → (rd_T58 l (i : Int)).f1 ∉ vis → SP l tg (rd_T58 l (i : Int)).f1 ((rd_T58 l (i : Int)).f1 :: vis) e → SP l tg at_ vis ((i : Int) :: e)
theorem DV_sound (l : List S58) (tg : Int) : ∀ (m : Nat) (at_ : Int) (vis w d : List Int), d ∈ DV l tg m at_ vis w → ∃ e, d = w ++ e ∧ SP l tg at_ vis e
  | 0, _, _, _, d, hd => by simp [DV] at hd
  | m + 1, at_, vis, w, d, hd => by
    rw [DV] at hd
    split at hd
    · rename_i e
      rw [List.mem_singleton] at hd
      subst e
      exact ⟨[], by rw [List.append_nil]; exact hd, SP.nil⟩
    · rename_i e
      obtain ⟨i, hi, hd⟩ := List.mem_flatMap.1 hd
      split at hd
      · rename_i c
        obtain ⟨e2, h1, h2⟩ := DV_sound l tg m _ _ _ d hd
        exact ⟨(i : Int) :: e2, by rw [h1, List.append_assoc]; rfl, SP.cons (List.mem_range.1 hi) c.1 e c.2 h2⟩
      · cases hd
theorem DV_full {n : Int} {l : List S58} (hn : Net1 n l) (tg : Int) {at_ : Int} {vis e : List Int} (h : SP l tg at_ vis e) : ∀ (m : Nat) (w : List Int), vis.Nodup → (∀ v ∈ vis, 0 ≤ v ∧ v < (8 : Nat)) → vis.length + m = 9 → w ++ e ∈ DV l tg m at_ vis w := by
  induction h with
  | nil =>
    intro m w h1 h2 h3
    have := nodup_short 8 _ h1 h2
    obtain ⟨k, rfl⟩ : ∃ k, m = k + 1 := ⟨m - 1, by omega⟩
    rw [DV, if_pos rfl, List.append_nil]
    exact List.mem_singleton.2 rfl
  | @cons i at_ vis e hi h0 hne hv _ ih =>
    intro m w h1 h2 h3
    have := nodup_short 8 _ h1 h2
    obtain ⟨k, rfl⟩ : ∃ k, m = k + 1 := ⟨m - 1, by omega⟩
    rw [DV, if_neg hne]
    refine List.mem_flatMap.2 ⟨i, List.mem_range.2 hi, ?_⟩
    rw [if_pos ⟨h0, hv⟩]
    have hx := hn.ends _ (List.getElem_mem hi)
    rw [← arc_at l i hi] at hx
    obtain ⟨_, _, e3, e4, _⟩ := hx
    have hhi := hn.hi
    have := ih k (w ++ [(i : Int)]) (List.nodup_cons.2 ⟨hv, h1⟩) (fun v hv2 => by
      rw [List.mem_cons] at hv2
      rcases hv2 with rfl | hv2
      · exact ⟨e3, by omega⟩
      · exact h2 v hv2) (by rw [List.length_cons]; omega)
    rwa [List.append_assoc] at this
theorem DV_nodup (l : List S58) (tg : Int) : ∀ (m : Nat) (at_ : Int) (vis w : List Int), (DV l tg m at_ vis w).Nodup
  | 0, _, _, _ => by simp [DV]
  | m + 1, at_, vis, w => by
    rw [DV]
    split
    · simp
    · unfold List.Nodup
      rw [List.pairwise_flatMap]
      constructor
      · intro i _
        split
        · exact DV_nodup l tg m _ _ _
        · exact List.Pairwise.nil
      · refine List.Pairwise.imp ?_ List.nodup_range
        intro i j hij x hx y hy e
        subst e
        split at hx
        · split at hy
          · obtain ⟨e1, h1, _⟩ := DV_sound l tg m _ _ _ x hx
            obtain ⟨e2, h2, _⟩ := DV_sound l tg m _ _ _ x hy
            rw [h1, List.append_assoc, List.append_assoc] at h2
            have h3 := List.append_cancel_left h2
            rw [List.singleton_append, List.singleton_append, List.cons.injEq] at h3
            exact hij (by omega)
          · cases hy
        · cases hx
theorem someD_iff {n : Int} {l : List S58} (hn : Net1 n l) {a b : Int} (ha : 0 ≤ a ∧ a < n) (d : List Int) : d ∈ someD l a b ↔ SP l b a [a] d := by
  have hhi := hn.hi
  constructor
  · intro h
    obtain ⟨e, h1, h2⟩ := DV_sound l b 8 a [a] [] d h
    rw [List.nil_append] at h1
    subst h1
    exact h2
  · intro h
    have := DV_full hn b h 8 [] (by simp) (fun v hv => by rw [List.mem_singleton] at hv; subst hv; exact ⟨ha.1, by omega⟩) (by simp)
    rwa [List.nil_append] at this
theorem someL_mem {n : Int} {l : List S58} (hn : Net1 n l) {a b : Int} (ha : 0 ≤ a ∧ a < n) (d : List Int) : d ∈ someL l a b ↔ SP l b a [a] d := by
  rw [← someD_iff hn ha]
  exact (sortW_perm (lessC l) (someD l a b)).mem_iff
theorem someL_sorted (l : List S58) (a b : Int) : SortedW (lessC l) (someL l a b) := sortW_sorted (toW _) _
theorem someL_strict (l : List S58) (a b : Int) : (someL l a b).Pairwise fun x y => lessC l x y = true := by
  have h1 := someL_sorted l a b
  have h2 : (someL l a b).Nodup := (sortW_perm (lessC l) (someD l a b)).nodup_iff.2 (DV_nodup l b 8 a [a] [])
  unfold SortedW at h1
  unfold List.Nodup at h2
  refine List.Pairwise.imp ?_ (h1.and h2)
  intro x y h
  cases h3 : lessC l x y with
  | true => rfl
  | false => exact absurd ((toW _).tot x y h3 h.1) h.2
/-- How a walk to no node twice goes. -/
theorem SP.goes {l : List S58} {tg at_ : Int} {vis e : List Int} (h : SP l tg at_ vis e) : (∀ k ∈ e, 0 ≤ k ∧ k < (l.length : Int)) ∧ (vis.Nodup → (∀ v ∈ vis, 0 ≤ v ∧ v < (8 : Nat)) → (∀ x ∈ l, 0 ≤ x.f1 ∧ x.f1 < (8 : Nat)) → e.length + vis.length ≤ 8) := by
  induction h with
  | nil => exact ⟨by simp, fun h1 h2 _ => by have := nodup_short 8 _ h1 h2; simpa using this⟩
  | @cons i at_ vis e hi h0 hne hv _ ih =>
    refine ⟨fun k hk => ?_, fun h1 h2 h3 => ?_⟩
    · rw [List.mem_cons] at hk
      rcases hk with rfl | hk
      · omega
      · exact ih.1 k hk
    · have hx := h3 _ (List.getElem_mem hi)
      rw [← arc_at l i hi] at hx
      have := ih.2 (List.nodup_cons.2 ⟨hv, h1⟩) (fun v hv2 => by
        rw [List.mem_cons] at hv2
        rcases hv2 with rfl | hv2
        · exact hx
        · exact h2 v hv2) h3
      rw [List.length_cons] at this ⊢
      omega
theorem SP.len {n : Int} {l : List S58} (hn : Net1 n l) {a b : Int} (ha : 0 ≤ a ∧ a < n) {e : List Int} (h : SP l b a [a] e) : e.length ≤ 7 := by
  have hhi := hn.hi
  have := h.goes.2 (by simp) (fun v hv => by rw [List.mem_singleton] at hv; subst hv; exact ⟨ha.1, by omega⟩) (fun x hx => by obtain ⟨_, _, e3, e4, _⟩ := hn.ends x hx; exact ⟨e3, by omega⟩)
  simpa using this
/-! ### the least costs from all nodes to one -/
theorem rdi_set (D : List Int) (i j : Int) (v : Int) (hi : 0 ≤ i) (hl : i < (D.length : Int)) (hj : 0 ≤ j) : rd (D.set i.toNat v) j = if i = j then v else rd D j := by
  unfold rd
  rw [List.getD_eq_getElem?_getD, List.getD_eq_getElem?_getD, List.getElem?_set]
  by_cases h : i = j
  · subst h; rw [if_pos rfl, if_pos rfl, if_pos (by omega)]; rfl
  · rw [if_neg h, if_neg (by omega)]
theorem rdm_set (D : List S114) (i j : Int) (v : S114) (hi : 0 ≤ i) (hl : i < (D.length : Int)) (hj : 0 ≤ j) : rd_T114 (D.set i.toNat v) j = if i = j then v else rd_T114 D j := by
  unfold rd_T114
  rw [List.getD_eq_getElem?_getD, List.getD_eq_getElem?_getD, List.getElem?_set]
  by_cases h : i = j
  · subst h; rw [if_pos rfl, if_pos rfl, if_pos (by omega)]; rfl
  · rw [if_neg h, if_neg (by omega)]
def sumI : List Int → Int
  | [] => 0
  | x :: xs => x + sumI xs
theorem sumI_set (L : List Int) : ∀ (i : Nat) (v : Int), i < L.length → sumI (L.set i v) = sumI L - L.getD i 0 + v := by
  induction L with
  | nil => intro i v h; exact absurd h (by simp)
  | cons x xs ih =>
    intro i v h
    cases i with
    | zero => simp [sumI]; omega
    | succ i => simp only [List.set_cons_succ, sumI, ih i v (by simpa using h), List.getD_cons_succ]; omega
theorem sumI_nonneg (L : List Int) (h : ∀ x ∈ L, 0 ≤ x) : 0 ≤ sumI L := by
  induction L with
  | nil => simp [sumI]
  | cons x xs ih => have := h x (by simp); have := ih fun y hy => h y (by simp [hy]); simp only [sumI]; omega
theorem sumI_le8 (L : List Int) (b : Int) (hb : 0 ≤ b) (hl : L.length ≤ 8) (h : ∀ x ∈ L, x ≤ b) : sumI L ≤ 8 * b := by
  have key : ∀ L : List Int, (∀ x ∈ L, x ≤ b) → sumI L ≤ (L.length : Int) * b := by
    intro L
    induction L with
    | nil => intro _; simp [sumI]
    | cons x xs ih =>
      intro h
      have h1 := h x (by simp)
      have h2 := ih fun y hy => h y (by simp [hy])
      simp only [sumI, List.length_cons, Int.natCast_add, Int.add_mul]
      omega
  have h1 := key L h
  have h2 : (L.length : Int) * b ≤ 8 * b := Int.mul_le_mul_of_nonneg_right (by omega) hb
  omega
/-- A list that has all numbers below k has so many. -/
theorem levels_len (k : Nat) : ∀ L : List Int, (∀ j : Nat, j < k → (j : Int) ∈ L) → k ≤ L.length := by
  induction k with
  | zero => intro L _; omega
  | succ k ih =>
    intro L h
    have h1 := h k (by omega)
    have h2 := ih (L.erase (k : Int)) fun j hj => (List.mem_erase_of_ne (by omega)).2 (h j (by omega))
    rw [List.length_erase_of_mem h1] at h2
    have : 0 < L.length := List.length_pos_of_mem h1
    omega
/-- A walk to node t, from a node: what it costs, and how many arcs. -/
inductive Way (l : List S58) (t : Int) : Int → Int → Nat → Prop
  | nil : Way l t t 0 0
  | cons {x : S58} {c : Int} {m : Nat} : x ∈ l → Way l t x.f1 c m → Way l t x.f0 (x.f2 + c) (m + 1)
theorem Way.node {n : Int} {l : List S58} (hn : Net1 n l) {t : Int} (ht : 0 ≤ t ∧ t < n) {v c : Int} {m : Nat} (h : Way l t v c m) : 0 ≤ v ∧ v < n := by
  cases h with
  | nil => exact ht
  | cons hx _ => have := hn.ends _ hx; exact ⟨this.1, this.2.1⟩
def cM (M : List S114) (v : Int) : Int := (rd_T114 M v).f0
def aM (M : List S114) (v : Int) : Int := (rd_T114 M v).f1
def sumC (M : List S114) : Int := sumI (M.map fun m => m.f0)
def sumA (M : List S114) : Int := sumI (M.map fun m => m.f1)
theorem cM_set (M : List S114) (i j a b : Int) (hi : 0 ≤ i) (hl : i < (M.length : Int)) (hj : 0 ≤ j) : cM (M.set i.toNat ⟨a, b⟩) j = if i = j then a else cM M j := by
  unfold cM; rw [rdm_set M i j _ hi hl hj]; split <;> rfl
theorem aM_set (M : List S114) (i j a b : Int) (hi : 0 ≤ i) (hl : i < (M.length : Int)) (hj : 0 ≤ j) : aM (M.set i.toNat ⟨a, b⟩) j = if i = j then b else aM M j := by
  unfold aM; rw [rdm_set M i j _ hi hl hj]; split <;> rfl
theorem cM_get (M : List S114) (i : Nat) (h : i < M.length) : cM M (i : Int) = M[i].f0 := by simp [cM, rd_T114, h]
theorem aM_get (M : List S114) (i : Nat) (h : i < M.length) : aM M (i : Int) = M[i].f1 := by simp [aM, rd_T114, h]
theorem sumC_set (M : List S114) (i a b : Int) (hi : 0 ≤ i) (hl : i < (M.length : Int)) : sumC (M.set i.toNat ⟨a, b⟩) = sumC M - cM M i + a := by
  obtain ⟨j, rfl⟩ : ∃ j : Nat, i = (j : Int) := ⟨i.toNat, by omega⟩
  unfold sumC
  rw [List.map_set, Int.toNat_natCast, sumI_set _ j _ (by rw [List.length_map]; omega), cM_get M j (by omega)]
  rw [List.getD_eq_getElem?_getD, List.getElem?_map, List.getElem?_eq_getElem (show j < M.length by omega)]
  rfl
theorem sumA_set (M : List S114) (i a b : Int) (hi : 0 ≤ i) (hl : i < (M.length : Int)) : sumA (M.set i.toNat ⟨a, b⟩) = sumA M - aM M i + b := by
  obtain ⟨j, rfl⟩ : ∃ j : Nat, i = (j : Int) := ⟨i.toNat, by omega⟩
  unfold sumA
  rw [List.map_set, Int.toNat_natCast, sumI_set _ j _ (by rw [List.length_map]; omega), aM_get M j (by omega)]
  rw [List.getD_eq_getElem?_getD, List.getElem?_map, List.getElem?_eq_getElem (show j < M.length by omega)]
  rfl
/-- What holds of the measures while they are made. -/
structure MInv (n : Int) (l : List S58) (t : Int) (M : List S114) : Prop where
  len : (M.length : Int) = n
  rng : ∀ v, 0 ≤ v → v < n → 0 ≤ cM M v ∧ cM M v ≤ 99999 ∧ 0 ≤ aM M v ∧ (cM M v = 99999 → aM M v = 0)
  tz : cM M t = 0 ∧ aM M t = 0
  way : ∀ v, 0 ≤ v → v < n → cM M v ≠ 99999 → Way l t v (cM M v) (aM M v).toNat
  par : ∀ v, 0 ≤ v → v < n → v ≠ t → cM M v ≠ 99999 → ∃ x ∈ l, x.f0 = v ∧ cM M x.f1 ≠ 99999 ∧ (cM M x.f1 + x.f2 < cM M v ∨ cM M x.f1 + x.f2 = cM M v ∧ aM M x.f1 + 1 ≤ aM M v)
  bnd : ∀ v, 0 ≤ v → v < n → aM M v + sumC M ≤ 799992
def pot (M : List S114) : Nat := (sumC M * 6399937 + sumA M).toNat
/-- An arc says that it can be nearer. -/
def Less (M : List S114) (x : S58) : Prop := cM M x.f1 + x.f2 < cM M x.f0 ∨ cM M x.f1 + x.f2 = cM M x.f0 ∧ aM M x.f1 + 1 < aM M x.f0
def Closed (l : List S58) (M : List S114) : Prop := ∀ x ∈ l, cM M x.f1 ≠ 99999 → ¬ Less M x
theorem MInv.sums {n : Int} {l : List S58} {t : Int} {M : List S114} (hn : Net1 n l) (h : MInv n l t M) : 0 ≤ sumC M ∧ 0 ≤ sumA M ∧ sumA M ≤ 6399936 := by
  have hl := h.len
  have hi := hn.hi
  have hc : ∀ x ∈ (M.map fun m => m.f0), 0 ≤ x := by
    intro x hx
    obtain ⟨m, hm, rfl⟩ := List.mem_map.1 hx
    obtain ⟨i, hi, rfl⟩ := List.getElem_of_mem hm
    have := h.rng i (by omega) (by omega)
    rw [cM_get M i hi] at this
    exact this.1
  have hC := sumI_nonneg _ hc
  have ha : ∀ x ∈ (M.map fun m => m.f1), 0 ≤ x ∧ x ≤ 799992 := by
    intro x hx
    obtain ⟨m, hm, rfl⟩ := List.mem_map.1 hx
    obtain ⟨i, hi, rfl⟩ := List.getElem_of_mem hm
    have h1 := h.rng i (by omega) (by omega)
    have h2 := h.bnd i (by omega) (by omega)
    rw [aM_get M i hi] at h1 h2
    unfold sumC at h2
    omega
  have h1 := sumI_nonneg _ fun x hx => (ha x hx).1
  have h2 := sumI_le8 _ 799992 (by omega) (by rw [List.length_map]; omega) fun x hx => (ha x hx).2
  exact ⟨hC, h1, by unfold sumA; omega⟩
set_option maxHeartbeats 4000000 in
theorem MInv.step {n : Int} {l : List S58} {t : Int} {M : List S114} (hn : Net1 n l) (h : MInv n l t M) {x : S58} (hx : x ∈ l) (hw : cM M x.f1 ≠ 99999) (hL : Less M x) :
    MInv n l t (M.set x.f0.toNat ⟨cM M x.f1 + x.f2, aM M x.f1 + 1⟩) ∧ pot (M.set x.f0.toNat ⟨cM M x.f1 + x.f2, aM M x.f1 + 1⟩) < pot M := by
  obtain ⟨e1, e2, e3, e4, e5, e6, e7, _⟩ := hn.ends x hx
  have hlen := h.len
  have hlt : x.f0 < (M.length : Int) := by omega
  have r0 := h.rng x.f0 e1 e2
  have r1 := h.rng x.f1 e3 e4
  have b0 := h.bnd x.f0 e1 e2
  have b1 := h.bnd x.f1 e3 e4
  have hc : ∀ j, 0 ≤ j → cM (M.set x.f0.toNat ⟨cM M x.f1 + x.f2, aM M x.f1 + 1⟩) j = if x.f0 = j then cM M x.f1 + x.f2 else cM M j := fun j hj => cM_set M x.f0 j _ _ e1 hlt hj
  have ha : ∀ j, 0 ≤ j → aM (M.set x.f0.toNat ⟨cM M x.f1 + x.f2, aM M x.f1 + 1⟩) j = if x.f0 = j then aM M x.f1 + 1 else aM M j := fun j hj => aM_set M x.f0 j _ _ e1 hlt hj
  have sC := sumC_set M x.f0 (cM M x.f1 + x.f2) (aM M x.f1 + 1) e1 hlt
  have sA := sumA_set M x.f0 (cM M x.f1 + x.f2) (aM M x.f1 + 1) e1 hlt
  obtain ⟨s1, s2, s3⟩ := h.sums hn
  unfold Less at hL
  have hz := h.tz
  have hut : x.f0 ≠ t := by
    intro e
    rw [e] at hL
    omega
  have hinv : MInv n l t (M.set x.f0.toNat ⟨cM M x.f1 + x.f2, aM M x.f1 + 1⟩) := by
    refine ⟨by rw [List.length_set]; exact hlen, ?_, ?_, ?_, ?_, ?_⟩
    · intro v v0 v1
      rw [hc v v0, ha v v0]
      have := h.rng v v0 v1
      split
      · omega
      · exact this
    · by_cases ht : 0 ≤ t
      · rw [hc t ht, ha t ht, if_neg hut, if_neg hut]; exact hz
      · have h1 : ∀ L : List S114, cM L t = cM L 0 ∧ aM L t = aM L 0 := by
          intro L
          have : t.toNat = (0 : Int).toNat := by omega
          unfold cM aM rd_T114
          rw [this]
          exact ⟨rfl, rfl⟩
        rw [(h1 _).1, (h1 _).2] at hz ⊢
        rw [hc 0 (by omega), ha 0 (by omega)]
        by_cases h2 : x.f0 = 0
        · rw [h2] at hL; omega
        · rw [if_neg h2, if_neg h2]; exact hz
    · intro v v0 v1
      rw [hc v v0, ha v v0]
      by_cases e : x.f0 = v
      · subst e
        rw [if_pos rfl, if_pos rfl]
        intro _
        have hw' := h.way x.f1 e3 e4 hw
        have hm : (aM M x.f1 + 1).toNat = (aM M x.f1).toNat + 1 := by omega
        rw [hm, Int.add_comm]
        exact Way.cons hx hw'
      · rw [if_neg e, if_neg e]; exact h.way v v0 v1
    · intro v v0 v1 vt
      rw [hc v v0, ha v v0]
      by_cases e : x.f0 = v
      · subst e
        rw [if_pos rfl, if_pos rfl]
        intro _
        refine ⟨x, hx, rfl, ?_, ?_⟩
        · rw [hc x.f1 e3, if_neg e5]; exact hw
        · rw [hc x.f1 e3, ha x.f1 e3, if_neg e5, if_neg e5]; omega
      · rw [if_neg e, if_neg e]
        intro hv
        obtain ⟨y, hy, y0, y1, y2⟩ := h.par v v0 v1 vt hv
        have ey := hn.ends y hy
        refine ⟨y, hy, y0, ?_, ?_⟩
        · rw [hc y.f1 ey.2.2.1]
          split
          · omega
          · exact y1
        · rw [hc y.f1 ey.2.2.1, ha y.f1 ey.2.2.1]
          by_cases e2 : x.f0 = y.f1
          · rw [if_pos e2, if_pos e2]; rw [← e2] at y2; omega
          · rw [if_neg e2, if_neg e2]; exact y2
    · intro v v0 v1
      rw [ha v v0, sC]
      have := h.bnd v v0 v1
      split <;> omega
  refine ⟨hinv, ?_⟩
  obtain ⟨t1, t2, t3⟩ := hinv.sums hn
  unfold pot
  rw [sC] at t1 ⊢
  rw [sA] at t2 t3 ⊢
  omega
/-- What the program's measures are at the end. -/
def Fin1 (n : Int) (l : List S58) (t : Int) (M : List S114) : Prop := MInv n l t M ∧ Closed l M
theorem less_eq (a b c d : Int) : impl_measure_less.f a b c d = some (decide (a < c ∨ a = c ∧ b < d)) := by
  unfold impl_measure_less.f
  by_cases h : a < c
  · rw [if_pos h]; simp [h]
  · by_cases h2 : a = c
    · subst h2; simp
    · rw [if_neg h, if_neg h2]; simp [h, h2]
set_option maxHeartbeats 4000000 in
theorem toward_loop {n : Int} {l : List S58} (hn : Net1 n l) {t : Int} : ∀ s : List S114 × Bool, (MInv n l t s.1 ∧ (s.2 = false → Closed l s.1)) → ∃ R, Fin1 n l t R ∧ Ev (fun k => impl_Net_toward.l0 k s.1 s.2 n l) R := by
  refine ev_ex (fun k (s : List S114 × Bool) => impl_Net_toward.l0 k s.1 s.2 n l) (fun s => pot s.1 * 2 + (if s.2 = true then 1 else 0)) (fun s => MInv n l t s.1 ∧ (s.2 = false → Closed l s.1)) (Fin1 n l t) ?_
  rintro ⟨M, b⟩ ⟨hM, hC⟩ ih
  simp only at hM hC ih ⊢
  have hll := hn.len
  cases b with
  | false => exact ⟨M, ⟨hM, hC rfl⟩, ev_now fun k => by simp [impl_Net_toward.l0]⟩
  | true =>
    simp only [impl_Net_toward.l0, if_true]
    have inner := ev_ex (fun k (s : Nat × List S114 × Bool) => impl_Net_toward.l1 k s.2.1 s.2.2 l (l.length : Int) (s.1 : Int) n l) (fun s => l.length - s.1)
      (fun s => s.1 ≤ l.length ∧ MInv n l t s.2.1 ∧ ((s.2.2 = false ∧ s.2.1 = M ∧ ∀ j, j < s.1 → ∀ hj : j < l.length, cM M l[j].f1 ≠ 99999 → ¬ Less M l[j]) ∨ (s.2.2 = true ∧ pot s.2.1 < pot M))) (Fin1 n l t) ?_ (0, M, false) ⟨Nat.zero_le _, hM, .inl ⟨rfl, rfl, fun j hj => absurd hj (Nat.not_lt_zero _)⟩⟩
    · exact inner
    rintro ⟨i, M1, b1⟩ ⟨hi, hM1, hb⟩ ih2
    simp only at hi hM1 hb ih2 ⊢
    by_cases h : i < l.length
    · have hlt : (i : Int) < (l.length : Int) := by omega
      have h0 : (0 : Int) ≤ (i : Int) := by omega
      have hxl : l[i] ∈ l := List.getElem_mem h
      obtain ⟨e1, e2, e3, e4, e5, e6, e7, _⟩ := hn.ends l[i] hxl
      have hlen := hM1.len
      have g1 : l[i].f1 < (M1.length : Int) := by omega
      have g0 : l[i].f0 < (M1.length : Int) := by omega
      simp only [impl_Net_toward.l1, hlt, h0, if_true, arc_at l i h, e1, e3, g0, g1, wsucc h (show l.length ≤ 9223372036854775807 by omega), less_eq, Option.bind_some]
      have r1 := hM1.rng l[i].f1 e3 e4
      have b1' := hM1.bnd l[i].f1 e3 e4
      have hs := hM1.sums hn
      by_cases hf : cM M1 l[i].f1 = 99999
      · have hf' : (rd_T114 M1 l[i].f1).f0 = 99999 := hf
        simp only [hf', if_true]
        refine ih2 (i + 1, M1, b1) ⟨by simp; omega, hM1, ?_⟩ (by simp; omega)
        rcases hb with ⟨q1, q2, q3⟩ | q
        · refine .inl ⟨q1, q2, fun j hj hjl hc => ?_⟩
          by_cases hji : j = i
          · subst hji; rw [← q2] at hc; exact absurd hf hc
          · exact q3 j (by simp at hj; omega) hjl hc
        · exact .inr q
      · have hf' : ¬ (rd_T114 M1 l[i].f1).f0 = 99999 := hf
        have w1 : wrap64 ((rd_T114 M1 l[i].f1).f0 + l[i].f2) = cM M1 l[i].f1 + l[i].f2 := by unfold cM at *; exact w_id (by omega) (by omega)
        have w2 : wrap64 ((rd_T114 M1 l[i].f1).f1 + 1) = aM M1 l[i].f1 + 1 := by unfold aM at *; exact w_id (by omega) (by omega)
        simp only [hf', if_false, w1, w2]
        by_cases hL : Less M1 l[i]
        · have hL' : (cM M1 l[i].f1 + l[i].f2 < (rd_T114 M1 l[i].f0).f0 ∨ cM M1 l[i].f1 + l[i].f2 = (rd_T114 M1 l[i].f0).f0 ∧ aM M1 l[i].f1 + 1 < (rd_T114 M1 l[i].f0).f1) := hL
          simp only [hL', decide_true, if_true]
          obtain ⟨hs1, hs2⟩ := hM1.step hn hxl hf hL
          refine ih2 (i + 1, _, true) ⟨by simp; omega, hs1, .inr ⟨rfl, ?_⟩⟩ (by simp; omega)
          rcases hb with ⟨_, q2, _⟩ | ⟨_, q⟩
          · rw [← q2]; exact hs2
          · exact Nat.lt_trans hs2 q
        · have hL' : ¬ (cM M1 l[i].f1 + l[i].f2 < (rd_T114 M1 l[i].f0).f0 ∨ cM M1 l[i].f1 + l[i].f2 = (rd_T114 M1 l[i].f0).f0 ∧ aM M1 l[i].f1 + 1 < (rd_T114 M1 l[i].f0).f1) := hL
          simp only [hL', decide_false, Bool.false_eq_true, if_false]
          refine ih2 (i + 1, M1, b1) ⟨by simp; omega, hM1, ?_⟩ (by simp; omega)
          rcases hb with ⟨q1, q2, q3⟩ | q
          · refine .inl ⟨q1, q2, fun j hj hjl hc => ?_⟩
            by_cases hji : j = i
            · subst hji; rw [← q2]; exact hL
            · exact q3 j (by simp at hj; omega) hjl hc
          · exact .inr q
    · have hlt : ¬ (i : Int) < (l.length : Int) := by omega
      simp only [impl_Net_toward.l1, hlt, if_false]
      rcases hb with ⟨q1, q2, q3⟩ | ⟨q1, q2⟩
      · subst q1
        refine ih (M1, false) ⟨hM1, fun _ x hx hc => ?_⟩ (by rw [q2]; simp)
        obtain ⟨j, hj, rfl⟩ := List.getElem_of_mem hx
        rw [q2] at hc ⊢
        exact q3 j (by omega) hj hc
      · subst q1
        exact ih (M1, true) ⟨hM1, fun h => by cases h⟩ (by simp; omega)
theorem minv_start {n : Int} {l : List S58} (hn : Net1 n l) {t : Int} (h0 : 0 ≤ t) (h1 : t < n) : MInv n l t ((List.replicate n.toNat (⟨99999, 0⟩ : S114)).set t.toNat ⟨0, 0⟩) := by
  have hlo := hn.lo
  have hhi := hn.hi
  have hll : ((List.replicate n.toNat (⟨99999, 0⟩ : S114)).length : Int) = n := by rw [List.length_replicate]; omega
  have hc : ∀ v, 0 ≤ v → v < n → cM ((List.replicate n.toNat (⟨99999, 0⟩ : S114)).set t.toNat ⟨0, 0⟩) v = if t = v then 0 else 99999 := by
    intro v v0 v1
    rw [cM_set _ t v _ _ h0 (by omega) v0]
    split
    · rfl
    · obtain ⟨j, rfl⟩ : ∃ j : Nat, v = (j : Int) := ⟨v.toNat, by omega⟩
      rw [cM_get _ j (by rw [List.length_replicate]; omega), List.getElem_replicate]
  have ha : ∀ v, 0 ≤ v → v < n → aM ((List.replicate n.toNat (⟨99999, 0⟩ : S114)).set t.toNat ⟨0, 0⟩) v = 0 := by
    intro v v0 v1
    rw [aM_set _ t v _ _ h0 (by omega) v0]
    split
    · rfl
    · obtain ⟨j, rfl⟩ : ∃ j : Nat, v = (j : Int) := ⟨v.toNat, by omega⟩
      rw [aM_get _ j (by rw [List.length_replicate]; omega), List.getElem_replicate]
  refine ⟨by rw [List.length_set]; exact hll, ?_, ?_, ?_, ?_, ?_⟩
  · intro v v0 v1
    rw [hc v v0 v1, ha v v0 v1]
    split <;> omega
  · rw [hc t h0 h1, ha t h0 h1, if_pos rfl]; exact ⟨rfl, rfl⟩
  · intro v v0 v1
    rw [hc v v0 v1, ha v v0 v1]
    split
    · rename_i e; subst e; intro _; exact Way.nil
    · intro h; exact absurd rfl h
  · intro v v0 v1 vt
    rw [hc v v0 v1, if_neg (Ne.symm vt)]
    intro h; exact absurd rfl h
  · intro v v0 v1
    rw [ha v v0 v1]
    have := sumI_le8 (((List.replicate n.toNat (⟨99999, 0⟩ : S114)).set t.toNat ⟨0, 0⟩).map fun m => m.f0) 99999 (by omega) (by rw [List.length_map, List.length_set, List.length_replicate]; omega) (by
      intro x hx
      obtain ⟨m, hm, rfl⟩ := List.mem_map.1 hx
      rcases List.mem_or_eq_of_mem_set hm with h | h
      · rw [List.eq_of_mem_replicate h]; exact Int.le_refl _
      · rw [h]; simp)
    unfold sumC
    omega
/-- No walk is nearer than the measures say. -/
theorem Fin1.low {n : Int} {l : List S58} (hn : Net1 n l) {t : Int} {M : List S114} (hM : Fin1 n l t M) {v c : Int} {m : Nat} (h : Way l t v c m) : cM M v < c ∨ (cM M v = c ∧ aM M v ≤ m) ∨ 99999 ≤ c := by
  induction h with
  | nil => rw [hM.1.tz.1, hM.1.tz.2]; exact .inr (.inl ⟨rfl, by omega⟩)
  | @cons x c m hx h ih =>
    obtain ⟨e1, e2, e3, e4, e5, e6, e7, _⟩ := hn.ends x hx
    have r0 := hM.1.rng x.f0 e1 e2
    by_cases hf : cM M x.f1 = 99999
    · rcases ih with ih | ih | ih <;> omega
    · have := hM.2 x hx hf
      unfold Less at this
      rcases ih with ih | ih | ih <;> omega
theorem Fin1.levels {n : Int} {l : List S58} (hn : Net1 n l) {t : Int} {M : List S114} (hM : Fin1 n l t M) (m : Nat) : ∀ v, 0 ≤ v → v < n → cM M v ≠ 99999 → aM M v = (m : Int) → ∀ j : Nat, j ≤ m → ∃ u, 0 ≤ u ∧ u < n ∧ aM M u = (j : Int) := by
  induction m with
  | zero => intro v v0 v1 _ hm j hj; exact ⟨v, v0, v1, by rw [hm]; omega⟩
  | succ m ih =>
    intro v v0 v1 hc hm j hj
    by_cases hj2 : j = m + 1
    · exact ⟨v, v0, v1, by rw [hm, hj2]⟩
    · have hvt : v ≠ t := by intro e; rw [e, hM.1.tz.2] at hm; omega
      obtain ⟨x, hx, x0, x1, x2⟩ := hM.1.par v v0 v1 hvt hc
      obtain ⟨e1, e2, e3, e4, e5, e6, e7, _⟩ := hn.ends x hx
      have := hM.2 x hx x1
      unfold Less at this
      rw [x0] at this
      exact ih x.f1 e3 e4 x1 (by omega) j (by omega)
theorem Fin1.few {n : Int} {l : List S58} (hn : Net1 n l) {t : Int} {M : List S114} (hM : Fin1 n l t M) {v : Int} (v0 : 0 ≤ v) (v1 : v < n) (hc : cM M v ≠ 99999) : aM M v + 1 ≤ n := by
  have hlen := hM.1.len
  have r := hM.1.rng v v0 v1
  have := levels_len ((aM M v).toNat + 1) (M.map fun m => m.f1) (by
    intro j hj
    obtain ⟨u, u0, u1, hu⟩ := hM.levels hn (aM M v).toNat v v0 v1 hc (by omega) j (by omega)
    obtain ⟨i, rfl⟩ : ∃ i : Nat, u = (i : Int) := ⟨u.toNat, by omega⟩
    rw [aM_get M i (by omega)] at hu
    rw [← hu]
    exact List.mem_map.2 ⟨M[i], List.getElem_mem _, rfl⟩)
  rw [List.length_map] at this
  omega
/-! ### ways and rounds -/
theorem ev_one {α : Type} {g : Nat → Option α} {a b : α} (h : Ev g a) (h' : Ev g b) : a = b := by
  obtain ⟨K, h⟩ := h
  obtain ⟨K', h'⟩ := h'
  have h1 := h (max K K') (by omega)
  rw [h' (max K K') (by omega)] at h1
  exact (Option.some.inj h1).symm
theorem Way.trans {l : List S58} {t v u c c' : Int} {m m' : Nat} (h1 : Way l t v c m) (h2 : Way l v u c' m') : Way l t u (c' + c) (m' + m) := by
  induction h2 with
  | nil => simpa using h1
  | @cons x c' m' hx _ ih =>
    have := Way.cons hx ih
    rw [show x.f2 + c' + c = x.f2 + (c' + c) by omega, show m' + 1 + m = (m' + m) + 1 by omega]
    exact this
theorem Way.cost {n : Int} {l : List S58} (hn : Net1 n l) {t v c : Int} {m : Nat} (h : Way l t v c m) : 0 ≤ c ∧ c ≤ 99 * (m : Int) := by
  induction h with
  | nil => simp
  | @cons x c m hx _ ih =>
    obtain ⟨_, _, _, _, _, h1, h2, _⟩ := hn.ends _ hx
    omega
theorem inB_node {n : Int} {l : List S58} (hn : Net1 n l) {a : Int} (h : 0 ≤ a ∧ a < n) : inB a 0 (wrap64 (n - 1)) = true := by
  have := hn.lo
  have := hn.hi
  rw [inB_iff, w_id (n := n - 1) (by omega) (by omega)]
  omega
/-! ### least costs: what the program makes -/
def revA (x : S58) : S58 := ⟨x.f1, x.f0, x.f2, x.f3, x.f4⟩
def backL (l : List S58) : List S58 := l.map revA
theorem backL_backL (l : List S58) : backL (backL l) = l := by
  unfold backL
  rw [List.map_map]
  have : revA ∘ revA = id := by funext x; rfl
  rw [this, List.map_id]
theorem backL_length (l : List S58) : (backL l).length = l.length := by unfold backL; rw [List.length_map]
theorem Net1.back {n : Int} {l : List S58} (hn : Net1 n l) : Net1 n (backL l) := by
  refine ⟨hn.lo, hn.hi, by rw [backL_length]; exact hn.len, fun x hx => ?_⟩
  obtain ⟨y, hy, rfl⟩ := List.mem_map.1 hx
  obtain ⟨a, b, c, d, e, f⟩ := hn.ends y hy
  exact ⟨c, d, a, b, fun z => e z.symm, f⟩
/-- The least measures to a node: what the program makes. -/
theorem toward_ex {n : Int} {l : List S58} (hn : Net1 n l) {t : Int} (ht : 0 ≤ t ∧ t < n) : ∃ M, Fin1 n l t M ∧ Ev (fun k => impl_Net_toward.f k n l t) M := by
  have hlo := hn.lo
  have hhi := hn.hi
  unfold impl_Net_toward.f impl_measure.f
  have b : 0 ≤ n ∧ n ≤ 8 := by omega
  have g : t < ((n.toNat : Nat) : Int) := by omega
  simp only [b, and_self, if_true, Option.bind_some, ht.1, List.length_replicate, g]
  exact toward_loop hn ((List.replicate n.toNat (⟨99999, 0⟩ : S114)).set t.toNat ⟨0, 0⟩, true) ⟨minv_start hn ht.1 ht.2, fun h => by cases h⟩
theorem Way.snoc {l : List S58} {t v c : Int} {m : Nat} (h : Way l t v c m) {x : S58} (hx : x ∈ l) (ht : x.f0 = t) : Way l x.f1 v (c + x.f2) (m + 1) := by
  induction h with
  | nil =>
    have := Way.cons (t := x.f1) hx (Way.nil (l := l))
    rw [ht] at this
    rw [Int.add_comm]
    exact this
  | @cons y c m hy _ ih =>
    have := Way.cons hy ih
    rw [show y.f2 + c + x.f2 = y.f2 + (c + x.f2) by omega]
    exact this
/-- A walk, gone the other way round. -/
theorem Way.rev {l : List S58} {t v c : Int} {m : Nat} (h : Way l t v c m) : Way (backL l) v t c m := by
  induction h with
  | nil => exact Way.nil
  | @cons x c m hx _ ih =>
    have hr : revA x ∈ backL l := List.mem_map.2 ⟨x, hx, rfl⟩
    have := ih.snoc hr rfl
    rw [Int.add_comm]
    exact this
/-! ### best ways: the program's -/
theorem Fin1.good {n : Int} {l : List S58} {t : Int} {M : List S114} (hM : Fin1 n l t M) {v : Int} (v0 : 0 ≤ v) (v1 : v < n) (hv : v ≠ t) (hc : cM M v ≠ 99999) : ∃ x ∈ l, x.f0 = v ∧ cM M x.f1 ≠ 99999 ∧ cM M x.f1 + x.f2 = cM M v ∧ aM M x.f1 + 1 = aM M v := by
  obtain ⟨x, hx, e, h1, h2⟩ := hM.1.par v v0 v1 hv hc
  have h3 := hM.2 x hx h1
  unfold Less at h3
  rw [e] at h3
  refine ⟨x, hx, e, h1, ?_, ?_⟩ <;> omega
theorem Fin1.small {n : Int} {l : List S58} (hn : Net1 n l) {t : Int} {M : List S114} (hM : Fin1 n l t M) {v : Int} (v0 : 0 ≤ v) (v1 : v < n) : 0 ≤ aM M v ∧ aM M v ≤ 8 ∧ 0 ≤ cM M v ∧ (cM M v ≠ 99999 → cM M v ≤ 700 ∧ aM M v + 1 ≤ n) ∧ cM M v ≤ 99999 := by
  have r := hM.1.rng v v0 v1
  have hhi := hn.hi
  by_cases hc : cM M v = 99999
  · have := r.2.2.2 hc
    exact ⟨r.2.2.1, by omega, r.1, fun h => absurd hc h, r.2.1⟩
  · have h1 := hM.few hn v0 v1 hc
    have h2 := (hM.1.way v v0 v1 hc).cost hn
    exact ⟨r.2.2.1, by omega, r.1, fun _ => ⟨by omega, h1⟩, r.2.1⟩
theorem goodM_iff {n : Int} {l : List S58} (hn : Net1 n l) {t : Int} {M : List S114} (hM : Fin1 n l t M) (v : Int) {x : S58} (hx : x ∈ l) : goodM M v x = true ↔ x.f0 = v ∧ cM M x.f1 ≠ 99999 ∧ cM M x.f1 + x.f2 = cM M v ∧ aM M x.f1 + 1 = aM M v := by
  obtain ⟨e1, e2, e3, e4, e5, e6, e7, _⟩ := hn.ends x hx
  have s := hM.small hn e3 e4
  have w1 : wrap64 (cM M x.f1 + x.f2) = cM M x.f1 + x.f2 := w_id (by omega) (by omega)
  have w2 : wrap64 (aM M x.f1 + 1) = aM M x.f1 + 1 := w_id (by omega) (by omega)
  have e : goodM M v x = ((x.f0 == v) && (!(cM M x.f1 == 99999) && ((wrap64 (cM M x.f1 + x.f2) == cM M v) && (wrap64 (aM M x.f1 + 1) == aM M v)))) := rfl
  rw [e, w1, w2]
  simp only [Bool.and_eq_true, beq_iff_eq, Bool.not_eq_true', beq_eq_false_iff_ne, ne_eq]
theorem idxP_is {α : Type} {p : α → Bool} {l : List α} (h : ∃ x ∈ l, p x = true) : ∃ (i : Nat) (hi : i < l.length), idxP p l = (i : Int) ∧ p l[i] = true ∧ ∀ j (hj : j < i), p (l[j]'(Nat.lt_trans hj hi)) = false := by
  unfold idxP
  cases h2 : l.findIdx? p with
  | none =>
    rw [List.findIdx?_eq_none_iff] at h2
    obtain ⟨x, hx, hp⟩ := h
    have := h2 x hx
    rw [hp] at this
    cases this
  | some i =>
    rw [List.findIdx?_eq_some_iff_getElem] at h2
    obtain ⟨hi, hp, hb⟩ := h2
    exact ⟨i, hi, rfl, hp, fun j hj => by simpa using hb j hj⟩
/-- The best way on from a node, by least measures, so many arcs. -/
def walkM (l : List S58) (M : List S114) : Nat → Int → List Int
  | 0, _ => []
  | k + 1, v => idxP (goodM M v) l :: walkM l M k (rd_T58 l (idxP (goodM M v) l)).f1
def bestM (l : List S58) (M : List S114) (a : Int) : List Int × Bool := if cM M a = 99999 then ([], false) else (walkM l M (aM M a).toNat a, true)
/-- Arcs, one behind another, from a node to another one. -/
def Goes (l : List S58) : Int → List Int → Int → Prop
  | v, [], t => v = t
  | v, i :: w, t => (0 ≤ i ∧ i < (l.length : Int)) ∧ (rd_T58 l i).f0 = v ∧ Goes l (rd_T58 l i).f1 w t
theorem Fin1.first {n : Int} {l : List S58} (hn : Net1 n l) {t : Int} {M : List S114} (hM : Fin1 n l t M) {v : Int} (v0 : 0 ≤ v) (v1 : v < n) (hv : v ≠ t) (hc : cM M v ≠ 99999) :
    ∃ (i : Nat) (hi : i < l.length), idxP (goodM M v) l = (i : Int) ∧ l[i].f0 = v ∧ cM M l[i].f1 ≠ 99999 ∧ cM M l[i].f1 + l[i].f2 = cM M v ∧ aM M l[i].f1 + 1 = aM M v ∧ ∀ j (hj : j < i), goodM M v (l[j]'(Nat.lt_trans hj hi)) = false := by
  obtain ⟨x, hx, h⟩ := hM.good v0 v1 hv hc
  obtain ⟨i, hi, e, hg, hb⟩ := idxP_is ⟨x, hx, (goodM_iff hn hM v hx).2 h⟩
  obtain ⟨g1, g2, g3, g4⟩ := (goodM_iff hn hM v (List.getElem_mem hi)).1 hg
  exact ⟨i, hi, e, g1, g2, g3, g4, hb⟩
theorem Fin1.zero {n : Int} {l : List S58} (hn : Net1 n l) {t : Int} {M : List S114} (hM : Fin1 n l t M) {v : Int} (v0 : 0 ≤ v) (v1 : v < n) (hc : cM M v ≠ 99999) (ha : aM M v = 0) : v = t := by
  by_cases h : v = t
  · exact h
  · obtain ⟨x, hx, _, _, _, h4⟩ := hM.good v0 v1 h hc
    obtain ⟨_, _, e3, e4, _⟩ := hn.ends x hx
    have := (hM.small hn e3 e4).1
    omega
theorem walkM_goes {n : Int} {l : List S58} (hn : Net1 n l) {t : Int} {M : List S114} (hM : Fin1 n l t M) : ∀ (k : Nat) (v : Int), 0 ≤ v → v < n → cM M v ≠ 99999 → aM M v = (k : Int) → Goes l v (walkM l M k v) t ∧ (walkM l M k v).length = k ∧ costS l (walkM l M k v) = cM M v := by
  intro k
  induction k with
  | zero =>
    intro v v0 v1 hc ha
    have e := hM.zero hn v0 v1 hc (by simpa using ha)
    subst e
    exact ⟨rfl, rfl, by rw [hM.1.tz.1]; rfl⟩
  | succ k ih =>
    intro v v0 v1 hc ha
    have hv : v ≠ t := by intro e; subst e; have := hM.1.tz.2; omega
    obtain ⟨i, hi, e, g1, g2, g3, g4, _⟩ := hM.first hn v0 v1 hv hc
    obtain ⟨_, _, e3, e4, _⟩ := hn.ends _ (List.getElem_mem hi)
    obtain ⟨h1, h2, h3⟩ := ih l[i].f1 e3 e4 g2 (by omega)
    unfold walkM
    rw [e, arc_at l i hi]
    refine ⟨⟨⟨by omega, by omega⟩, by rw [arc_at l i hi]; exact g1, by rw [arc_at l i hi]; exact h1⟩, by rw [List.length_cons, h2], ?_⟩
    simp only [costS, h3, arc_at l i hi]
    omega
theorem firstArc_eq {n : Int} {l : List S58} (hn : Net1 n l) {M : List S114} (hl : (M.length : Int) = n) {v : Int} (v0 : 0 ≤ v) (v1 : v < n) : impl_Net_firstArc.f n l M v = some (idxP (goodM M v) l) := by
  unfold impl_Net_firstArc.f
  rw [if_pos]
  unfold firstOk
  simp only [Bool.and_eq_true, decide_eq_true_eq, List.all_eq_true]
  refine ⟨⟨v0, by omega⟩, fun x hx => ?_⟩
  obtain ⟨_, _, e3, e4, _⟩ := hn.ends x hx
  exact ⟨e3, by omega⟩
theorem best_loop {n : Int} {l : List S58} (hn : Net1 n l) {t : Int} {M : List S114} (hM : Fin1 n l t M) : ∀ (k : Nat) (v : Int) (acc : List Int), 0 ≤ v → v < n → cM M v ≠ 99999 → aM M v = (k : Int) → acc.length + k ≤ 1000 →
    Ev (fun f => impl_Net_best.l0 f v t M acc n l) (acc ++ walkM l M k v, true) := by
  intro k
  induction k with
  | zero =>
    intro v acc v0 v1 hc ha _
    have e := hM.zero hn v0 v1 hc (by simpa using ha)
    subst e
    exact ev_shift (ev_now fun f => by simp [impl_Net_best.l0, walkM])
  | succ k ih =>
    intro v acc v0 v1 hc ha hl
    have hv : v ≠ t := by intro e; subst e; have := hM.1.tz.2; omega
    obtain ⟨i, hi, e, g1, g2, g3, g4, _⟩ := hM.first hn v0 v1 hv hc
    obtain ⟨_, _, e3, e4, _⟩ := hn.ends _ (List.getElem_mem hi)
    have b0 : (0 : Int) ≤ (i : Int) := by omega
    have b1 : (i : Int) < (l.length : Int) := by omega
    have b2 : acc.length < 17592186044416 := by omega
    have next := ih l[i].f1 (acc ++ [(i : Int)]) e3 e4 g2 (by omega) (by simp; omega)
    refine ev_shift ?_
    simp only [impl_Net_best.l0, hv, if_false, firstArc_eq hn hM.1.len v0 v1, Option.bind_some, e, b0, b1, b2, if_true, arc_at l i hi]
    refine ev_at next ?_
    rw [walkM, e, arc_at l i hi]
    simp
theorem best_ex {n : Int} {l : List S58} (hn : Net1 n l) {a b : Int} (ha : 0 ≤ a ∧ a < n) (hb : 0 ≤ b ∧ b < n) : ∃ M, Fin1 n l b M ∧ Ev (fun k => impl_Net_best.f k n l a b) (bestM l M a) := by
  obtain ⟨M, hM, he⟩ := toward_ex hn hb
  refine ⟨M, hM, ?_⟩
  have hl := hM.1.len
  have g : a < (M.length : Int) := by omega
  have s := hM.small hn ha.1 ha.2
  unfold impl_Net_best.f bestM
  refine Ev.bind he ?_
  simp only [ha.1, g, if_true]
  show Ev (fun k => if cM M a = 99999 then some (([] : List Int), false) else (if 0 ≤ aM M a then (if (aM M a).toNat ≤ 35184372088832 then impl_Net_best.l0 k a b M [] n l else none) else none)) _
  by_cases hc : cM M a = 99999
  · simp only [hc, if_true]; exact ev_now fun _ => rfl
  · have b0 : 0 ≤ aM M a := s.1
    have b1 : (aM M a).toNat ≤ 35184372088832 := by omega
    simp only [hc, if_false, b0, b1, if_true]
    exact ev_at (best_loop hn hM (aM M a).toNat a [] ha.1 ha.2 hc (by omega) (by simp; omega)) (by simp)
/-! ### best ways -/
theorem goes_at {l : List S58} {t : Int} : ∀ (w : List Int) (v : Int), Goes l v w t → ∀ i, i < w.length → (0 ≤ w.getD i 0 ∧ w.getD i 0 < (l.length : Int)) ∧ (i = 0 → (rd_T58 l (w.getD i 0)).f0 = v) ∧ (i ≠ 0 → (rd_T58 l (w.getD i 0)).f0 = (rd_T58 l (w.getD (i - 1) 0)).f1) ∧ (i + 1 = w.length → (rd_T58 l (w.getD i 0)).f1 = t) := by
  intro w
  induction w with
  | nil => intro v _ i hi; exact absurd hi (Nat.not_lt_zero _)
  | cons x xs ih =>
    intro v h i hi
    obtain ⟨h1, h2, h3⟩ := h
    cases i with
    | zero =>
      refine ⟨h1, fun _ => h2, fun e => absurd rfl e, fun e => ?_⟩
      cases xs with
      | nil => exact h3
      | cons y ys => simp at e
    | succ i =>
      obtain ⟨g1, g2, g3, g4⟩ := ih _ h3 i (by simpa using hi)
      refine ⟨g1, fun e => absurd e (by omega), fun _ => ?_, fun e => g4 (by simpa using e)⟩
      cases i with
      | zero => exact g2 rfl
      | succ i => exact g3 (by omega)
theorem goes_walkB {l : List S58} (hl : l.length ≤ 1000) {t v : Int} {w : List Int} (h : Goes l v w t) (h8 : w.length ≤ 8) : walkB l w = true := by
  unfold walkB
  rw [Bool.and_eq_true, decide_eq_true_eq, chainB_iff]
  refine ⟨fun i hi => ?_, by omega⟩
  obtain ⟨g1, g2, g3, g4⟩ := goes_at w v h i hi
  unfold chk
  have e : inB (w.getD i 0) 0 (wrap64 ((l.length : Int) - 1)) = true := by rw [inB_iff, w_id (by omega) (by omega)]; omega
  rw [e, Bool.true_and, Bool.or_eq_true, decide_eq_true_eq, beq_iff_eq]
  by_cases c : i = 0
  · exact .inl c
  · exact .inr (g3 c).symm
theorem nearWalk_ev {n : Int} {l : List S58} (hok : netOkB n l = true) {a b : Int} (ha : 0 ≤ a ∧ a < n) (hb : 0 ≤ b ∧ b < n) : ∃ M, Fin1 n l b M ∧ Ev (fun k => impl_NearWalk.f k n l a b) (bestM l M a) := by
  have hn := net1_of hok
  obtain ⟨M, hM, he⟩ := best_ex hn ha hb
  refine ⟨M, hM, ?_⟩
  unfold impl_NearWalk.f
  simp only [nodesIn_eq, Option.bind_some, hasB2, hok, inB_node hn ha, inB_node hn hb, Bool.and_self, if_true]
  exact Ev.bind he (ev_now fun _ => rfl)
theorem bestM_goes {n : Int} {l : List S58} (hn : Net1 n l) {t : Int} {M : List S114} (hM : Fin1 n l t M) {a : Int} (a0 : 0 ≤ a) (a1 : a < n) (hc : cM M a ≠ 99999) : Goes l a (bestM l M a).1 t ∧ (bestM l M a).1.length ≤ 8 ∧ costS l (bestM l M a).1 = cM M a := by
  have s := hM.small hn a0 a1
  unfold bestM
  rw [if_neg hc]
  obtain ⟨h1, h2, h3⟩ := walkM_goes hn hM (aM M a).toNat a a0 a1 hc (by omega)
  exact ⟨h1, by simp only; rw [h2]; omega, h3⟩
/-! ### the best way is the first of the best walks -/
theorem wcost_costS {n : Int} {l : List S58} (hn : Net1 n l) : ∀ (e : List Int) (s : Int), (∀ k ∈ e, 0 ≤ k ∧ k < (l.length : Int)) → 0 ≤ s → s + 99 * (e.length : Int) ≤ 1000000000 → wcost l e s = s + costS l e
  | [], s, _, _, _ => by simp [wcost, costS]
  | x :: r, s, h, h0, h1 => by
    rw [List.length_cons] at h1
    obtain ⟨a, b⟩ := h x (by simp)
    have hc := arc_cost hn a b
    rw [wcost, costS, w_id (by omega) (by omega), wcost_costS hn r _ (fun k hk => h k (by simp [hk])) (by omega) (by omega)]
    omega
theorem goes_in {l : List S58} {t : Int} : ∀ (w : List Int) (v : Int), Goes l v w t → ∀ k ∈ w, 0 ≤ k ∧ k < (l.length : Int)
  | [], _, _, k, hk => by cases hk
  | i :: w, v, h, k, hk => by
    rw [List.mem_cons] at hk
    rcases hk with rfl | hk
    · exact h.1
    · exact goes_in w _ h.2.2 k hk
theorem goes_way {l : List S58} {t : Int} : ∀ (w : List Int) (v : Int), Goes l v w t → Way l t v (costS l w) w.length
  | [], v, h => by have : v = t := h; subst this; exact Way.nil
  | i :: w, v, h => by
    obtain ⟨⟨h0, h1⟩, h2, h3⟩ := h
    obtain ⟨j, rfl⟩ := Int.eq_ofNat_of_zero_le h0
    have hm : rd_T58 l (j : Int) ∈ l := by rw [arc_at l j (by omega)]; exact List.getElem_mem _
    have := Way.cons hm (goes_way w _ h3)
    rw [h2] at this
    exact this
theorem SP.go {l : List S58} {tg at_ : Int} {vis e : List Int} (h : SP l tg at_ vis e) : Goes l at_ e tg := by
  induction h with
  | nil => rfl
  | cons hi h0 _ _ _ ih => exact ⟨⟨by omega, by omega⟩, h0, ih⟩
theorem walkM_SP {n : Int} {l : List S58} (hn : Net1 n l) {t : Int} {M : List S114} (hM : Fin1 n l t M) : ∀ (k : Nat) (v : Int) (vis : List Int), 0 ≤ v → v < n → cM M v ≠ 99999 → aM M v = (k : Int) → (∀ u ∈ vis, (k : Int) ≤ aM M u) → SP l t v vis (walkM l M k v)
  | 0, v, vis, v0, v1, hc, ha, hv => by
    have e := hM.zero hn v0 v1 hc ha
    subst e
    rw [walkM]
    exact SP.nil
  | k + 1, v, vis, v0, v1, hc, ha, hv => by
    have hvt : v ≠ t := fun e => by subst e; have := hM.1.tz.2; omega
    obtain ⟨i, hi, e, h1, h2, h3, h4, h5⟩ := hM.first hn v0 v1 hvt hc
    obtain ⟨e1, e2, e3, e4, _⟩ := hn.ends _ (List.getElem_mem hi)
    rw [walkM, e]
    have ex := arc_at l i hi
    rw [← ex] at h1 h2 h3 h4 e3 e4
    refine SP.cons hi h1 hvt (fun hm => ?_) (walkM_SP hn hM k _ _ e3 e4 h2 (by omega) fun u hu => ?_)
    · have := hv _ hm
      omega
    · rw [List.mem_cons] at hu
      rcases hu with rfl | hu
      · omega
      · have := hv u hu
        omega
/-- No way is ahead of the one that is told. -/
theorem walkM_first {n : Int} {l : List S58} (hn : Net1 n l) {t : Int} {M : List S114} (hM : Fin1 n l t M) : ∀ (e : List Int) (k : Nat) (v : Int), 0 ≤ v → v < n → cM M v ≠ 99999 → aM M v = (k : Int) → Goes l v e t → costS l e = cM M v → e.length = k → e.length ≤ 100 → lexB e (walkM l M k v) = false
  | [], k, v, v0, v1, hc, ha, hg, h1, h2, _ => by
    have : k = 0 := h2.symm
    subst this
    rfl
  | i :: e, k, v, v0, v1, hc, ha, hg, h1, h2, hle => by
    obtain ⟨⟨g0, g1⟩, g2, g3⟩ := hg
    obtain ⟨j, rfl⟩ := Int.eq_ofNat_of_zero_le g0
    have hj : j < l.length := by omega
    rw [List.length_cons] at h2 hle
    obtain ⟨k, rfl⟩ : ∃ k', k = k' + 1 := ⟨k - 1, by omega⟩
    have hvt : v ≠ t := fun e => by subst e; have := hM.1.tz.2; omega
    obtain ⟨q, hq, e1, f1, f2, f3, f4, f5⟩ := hM.first hn v0 v1 hvt hc
    have hx := hn.ends _ (List.getElem_mem hj)
    have ex := arc_at l j hj
    have hmem : rd_T58 l (j : Int) ∈ l := by rw [ex]; exact List.getElem_mem hj
    rw [← ex] at hx
    obtain ⟨_, _, x3, x4, _, x6, x7, _⟩ := hx
    rw [costS] at h1
    have hw := goes_way e _ g3
    have hcr := costS_rng hn e (goes_in e _ g3)
    have low := hM.low hn hw
    have rng := hM.1.rng _ x3 x4
    have hc2 : cM M (rd_T58 l (j : Int)).f1 ≠ 99999 := by omega
    have cl := hM.2 _ hmem hc2
    unfold Less at cl
    rw [g2] at cl
    have k1 : cM M (rd_T58 l (j : Int)).f1 = costS l e := by omega
    have k2 : aM M (rd_T58 l (j : Int)).f1 = (k : Int) := by omega
    have hgood : goodM M v l[j] = true := by
      rw [← ex]
      exact (goodM_iff hn hM v hmem).2 ⟨g2, hc2, by omega, by omega⟩
    rw [walkM, e1, lexB]
    have hqj : q ≤ j := by
      rcases Nat.lt_or_ge j q with c | c
      · have := f5 j c
        rw [hgood] at this
        cases this
      · exact c
    by_cases c : q = j
    · subst c
      rw [if_pos rfl]
      exact walkM_first hn hM e k _ x3 x4 hc2 k2 g3 k1.symm (by omega) (by omega)
    · rw [if_neg (by omega)]
      exact decide_eq_false (by omega)
theorem near_first {n : Int} {l : List S58} (hn : Net1 n l) {a b : Int} (ha : 0 ≤ a ∧ a < n) (hb : 0 ≤ b ∧ b < n) {M : List S114} (hM : Fin1 n l b M) (hc : cM M a ≠ 99999) : ∃ r, someL l a b = (bestM l M a).1 :: r := by
  have s := hM.small hn ha.1 ha.2
  obtain ⟨k, hk⟩ := Int.eq_ofNat_of_zero_le s.1
  have hbm : (bestM l M a).1 = walkM l M k a := by unfold bestM; rw [if_neg hc, hk]; rfl
  have hsp : SP l b a [a] (walkM l M k a) := walkM_SP hn hM k a [a] ha.1 ha.2 hc hk fun u hu => by rw [List.mem_singleton] at hu; subst hu; omega
  obtain ⟨g1, g2, g3⟩ := walkM_goes hn hM k a ha.1 ha.2 hc hk
  rw [hbm]
  have hmem := (someL_mem hn ha _).2 hsp
  have hmin : ∀ e ∈ someL l a b, lessC l e (walkM l M k a) = false := fun e he => by
    have hse := (someL_mem hn ha e).1 he
    have hl := hse.len hn ha
    have hg := hse.go
    have hl2 := hsp.len hn ha
    have c1 := wcost_costS hn e 0 hse.goes.1 (by omega) (by omega)
    have c2 := wcost_costS hn (walkM l M k a) 0 hsp.goes.1 (by omega) (by omega)
    have low := hM.low hn (goes_way e _ hg)
    have hcr := costS_rng hn e hse.goes.1
    unfold lessC lessW
    simp only [c1, c2, Int.zero_add, g3]
    by_cases z : costS l e = cM M a
    · rw [if_pos z]
      by_cases z2 : e.length = (walkM l M k a).length
      · rw [if_pos z2]
        exact walkM_first hn hM e k a ha.1 ha.2 hc hk hg z (by omega) (by omega)
      · rw [if_neg z2]
        exact decide_eq_false (by omega)
    · rw [if_neg z]
      exact decide_eq_false (by omega)
  have hstr := someL_strict l a b
  cases hL : someL l a b with
  | nil => rw [hL] at hmem; cases hmem
  | cons x r =>
    refine ⟨r, ?_⟩
    rw [hL] at hmem hmin hstr
    rw [List.pairwise_cons] at hstr
    rw [List.mem_cons] at hmem
    rcases hmem with h | h
    · rw [h]
    · have h1 := hstr.1 _ h
      rw [hmin x (by simp)] at h1
      cases h1
/-! ### the laws' own tests of lists -/
theorem ev_uniq {α : Type} {g : Nat → Option α} {a b : α} (h : Ev g a) (h' : Ev g b) : a = b := by
  obtain ⟨K, h⟩ := h
  obtain ⟨K', h'⟩ := h'
  have h1 := h (max K K') (by omega)
  rw [h' (max K K') (by omega)] at h1
  exact (Option.some.inj h1).symm
theorem wkInts_self (l : List Int) (hl : l.length ≤ 9223372036854775807) : Ev (fun k => laws_wkInts.f k l l) true := by
  unfold laws_wkInts.f
  simp only [if_true]
  refine ev_ind (fun k (i : Nat) => laws_wkInts.l0 k l l (i : Int)) (fun i => l.length - i) (fun i => i ≤ l.length) (fun _ => true) ?_ 0 (Nat.zero_le _)
  intro i hi ih
  by_cases h : i < l.length
  · have hlt : (i : Int) < (l.length : Int) := by omega
    have h0 : (0 : Int) ≤ (i : Int) := by omega
    simp only [laws_wkInts.l0, hlt, h0, if_true, wsucc h hl]
    exact ih (i + 1) (by omega) (by omega)
  · have hlt : ¬ (i : Int) < (l.length : Int) := by omega
    simp only [laws_wkInts.l0, hlt, if_false]
    exact ev_now fun _ => rfl
/-! ### the laws' own tests of walks -/
theorem wkInts_ne (a b : List Int) (ha : a.length ≤ 1000) : Ev (fun k => laws_wkInts.f k a b) (decide (a = b)) := by
  unfold laws_wkInts.f
  by_cases e : a.length = b.length
  · have e2 : (a.length : Int) = (b.length : Int) := by omega
    simp only [e2, if_true]
    have := ev_ind (fun k (i : Nat) => laws_wkInts.l0 k a b (i : Int)) (fun i => a.length - i) (fun i => i ≤ a.length) (fun i => decide (a.drop i = b.drop i)) ?_ 0 (Nat.zero_le _)
    · simpa using this
    intro i hi ih
    by_cases h : i < a.length
    · have hlt : (i : Int) < (a.length : Int) := by omega
      have hlt2 : (i : Int) < (b.length : Int) := by omega
      have h0 : (0 : Int) ≤ (i : Int) := by omega
      have hb : i < b.length := by omega
      simp only [laws_wkInts.l0, hlt, hlt2, h0, if_true, rd_at a i h, rd_at b i hb, wsucc h (show a.length ≤ 9223372036854775807 by omega)]
      rw [List.drop_eq_getElem_cons h, List.drop_eq_getElem_cons hb]
      by_cases c : a[i] = b[i]
      · simp only [c, if_true]
        refine ev_at (ih (i + 1) (by omega) (by omega)) ?_
        apply decide_eq_decide.2
        rw [List.cons.injEq]
        exact ⟨fun z => ⟨rfl, z⟩, fun z => z.2⟩
      · simp only [c, if_false]
        refine ev_now fun _ => ?_
        congr 1
        exact (decide_eq_false (fun z => c (List.cons.inj z).1)).symm
    · have hlt : ¬ (i : Int) < (a.length : Int) := by omega
      simp only [laws_wkInts.l0, hlt, if_false]
      refine ev_now fun _ => ?_
      rw [List.drop_of_length_le (by omega), List.drop_of_length_le (by omega)]
      rfl
  · have e2 : ¬ (a.length : Int) = (b.length : Int) := by omega
    simp only [e2, if_false]
    refine ev_now fun _ => ?_
    congr 1
    exact (decide_eq_false (fun z => e (by rw [z]))).symm
theorem wkAhead_ev {n : Int} {l : List S58} (hok : netOkB n l = true) {a b : List Int} (ha : walkB l a = true) (hb : walkB l b = true) : Ev (fun k => laws_wkAhead.f k n l a b) (lessC l a b) := by
  have hn := net1_of hok
  have hl := hn.len
  have ia := walk_in (by omega) ha
  have ib := walk_in (by omega) hb
  have la := walk_len ha
  have lb := walk_len hb
  have ca := wcost_costS hn a 0 ia (by omega) (by omega)
  have cb := wcost_costS hn b 0 ib (by omega) (by omega)
  rw [Int.zero_add] at ca cb
  unfold laws_wkAhead.f
  refine Ev.bind (walkCost_ev hok a ha) (Ev.bind (walkCost_ev hok b hb) ?_)
  unfold lessC lessW
  simp only [ca, cb]
  by_cases e : costS l a = costS l b
  · simp only [e, if_true]
    by_cases e2 : a.length = b.length
    · have e3 : (a.length : Int) = (b.length : Int) := by omega
      simp only [e2, if_true]
      have := ev_ind (fun k (i : Nat) => laws_wkAhead.l0 k a b (i : Int)) (fun i => a.length - i) (fun i => i ≤ a.length) (fun i => lexB (a.drop i) (b.drop i)) ?_ 0 (Nat.zero_le _)
      · simpa using this
      intro i hi ih
      by_cases h : i < a.length
      · have hlt : (i : Int) < (a.length : Int) := by omega
        have hlt2 : (i : Int) < (b.length : Int) := by omega
        have h0 : (0 : Int) ≤ (i : Int) := by omega
        have hb2 : i < b.length := by omega
        simp only [laws_wkAhead.l0, hlt, hlt2, h0, if_true, rd_at a i h, rd_at b i hb2, wsucc h (show a.length ≤ 9223372036854775807 by omega)]
        rw [List.drop_eq_getElem_cons h, List.drop_eq_getElem_cons hb2, lexB]
        by_cases c : a[i] = b[i]
        · simp only [c, if_true]
          exact ih (i + 1) (by omega) (by omega)
        · simp only [c, if_false]
          exact ev_now fun _ => rfl
      · have hlt : ¬ (i : Int) < (a.length : Int) := by omega
        simp only [laws_wkAhead.l0, hlt, if_false]
        refine ev_now fun _ => ?_
        rw [List.drop_of_length_le (by omega), List.drop_of_length_le (by omega)]
        rfl
    · have e3 : ¬ (a.length : Int) = (b.length : Int) := by omega
      simp only [e2, e3, if_false]
      refine ev_now fun _ => ?_
      congr 1
      apply decide_eq_decide.2
      omega
  · simp only [e, if_false]
    exact ev_now fun _ => rfl
/-- The nodes of a walk to no node twice. -/
theorem SP.nodes {l : List S58} {tg at_ : Int} {vis e : List Int} (h : SP l tg at_ vis e) : ∀ v ∈ e.map (fun i => (rd_T58 l i).f1), v ∉ vis := by
  induction h with
  | nil => intro v hv; cases hv
  | @cons i at_ vis e hi h0 hne hv _ ih =>
    intro v hv2
    rw [List.map_cons, List.mem_cons] at hv2
    rcases hv2 with rfl | hv2
    · exact hv
    · exact fun z => ih v hv2 (by simp [z])
theorem SP.nodup {l : List S58} {tg at_ : Int} {vis e : List Int} (h : SP l tg at_ vis e) : (e.map (fun i => (rd_T58 l i).f1)).Nodup := by
  induction h with
  | nil => simp
  | @cons i at_ vis e hi h0 hne hv h2 ih =>
    rw [List.map_cons, List.nodup_cons]
    exact ⟨fun z => h2.nodes _ z (by simp), ih⟩
theorem SP.allNodes {l : List S58} {tg a : Int} {e : List Int} (h : SP l tg a [a] e) : (ndsV l a e).Nodup := by
  unfold ndsV
  rw [List.nodup_cons]
  exact ⟨fun z => h.nodes _ z (by simp), h.nodup⟩
theorem SP.first {l : List S58} {tg at_ : Int} {vis e : List Int} (h : SP l tg at_ vis e) (hne : at_ ≠ tg) : 1 ≤ e.length ∧ (rd_T58 l (rd e 0)).f0 = at_ := by
  cases h with
  | nil => exact absurd rfl hne
  | cons hi h0 _ _ _ => exact ⟨by simp, h0⟩
/-! ### a walk without its rings: what the reference tells, and that it comes to no node twice -/
theorem nds_succ (l : List S58) (v : Int) (w : List Int) (k : Nat) (hk : k < w.length) : (ndsV l v w).getD (k + 1) 0 = (rd_T58 l (w.getD k 0)).f1 := by
  unfold ndsV
  rw [List.getD_eq_getElem?_getD, List.getElem?_cons_succ, List.getElem?_map, List.getElem?_eq_getElem hk, List.getD_eq_getElem?_getD, List.getElem?_eq_getElem hk]
  rfl
theorem nds_at {l : List S58} {w : List Int} (hw : walkB l w = true) (i : Nat) (hi : i < w.length) : (ndsV l (rd_T58 l (rd w 0)).f0 w).getD i 0 = (rd_T58 l (w.getD i 0)).f0 := by
  cases i with
  | zero => rfl
  | succ i =>
    rw [nds_succ l _ w i (by omega)]
    have hc : chk l w (i + 1) = true := by
      unfold walkB at hw
      rw [Bool.and_eq_true] at hw
      exact (chainB_iff l w).1 hw.1 (i + 1) hi
    unfold chk at hc
    rw [Bool.and_eq_true, Bool.or_eq_true, decide_eq_true_eq, beq_iff_eq] at hc
    rcases hc.2 with h | h
    · omega
    · exact h
theorem plain_fuel {V w : List Int} (hVl : V.length = w.length + 1) : ∀ f1 f2 i, w.length + 1 - i ≤ f1 → w.length + 1 - i ≤ f2 → i ≤ w.length → plainV V w f1 i = plainV V w f2 i := by
  intro f1
  induction f1 with
  | zero => intro f2 i h1 h2 h3; omega
  | succ f1 ihf =>
    intro f2 i h1 h2 h3
    obtain ⟨f2, rfl⟩ : ∃ g, f2 = g + 1 := ⟨f2 - 1, by omega⟩
    rw [plainV, plainV]
    have hl := (lastV_is V i (by omega)).1
    by_cases c : lastV V i < w.length
    · rw [if_pos c, if_pos c, ihf f2 (lastV V i + 1) (by omega) (by omega) (by omega)]
    · rw [if_neg c, if_neg c]
theorem plainS_ev {n : Int} {l : List S58} (hok : netOkB n l = true) {w : List Int} (hw : walkB l w = true) (h1 : 1 ≤ w.length) : Ev (fun k => spec_WalkPlain.f k n l w) (plainV (ndsV l (rd_T58 l (rd w 0)).f0 w) w (w.length + 1) 0) := by
  have hll := (net1_of hok).len
  have h20 := walk_len hw
  have hin := walk_in (by omega) hw
  have hat := nds_at hw
  unfold spec_WalkPlain.f
  simp only [Option.bind_some]
  refine Ev.bind (l1Ok_ev n l (by omega)) ?_
  simp only [hok, if_true]
  refine Ev.bind (l2Ok_ev n l w (by omega) (by omega)) ?_
  simp only [hw, Bool.not_true]
  refine ev_shift ?_
  simp only [spec_WalkPlain.j0, Bool.false_eq_true, if_false]
  have hVl := ndsV_length l (rd_T58 l (rd w 0)).f0 w
  have hsu := nds_succ l (rd_T58 l (rd w 0)).f0 w
  generalize ndsV l (rd_T58 l (rd w 0)).f0 w = V at hVl hat hsu ⊢
  have outer := ev_ind (fun k (s : Nat × List Int) => spec_WalkPlain.l0 k w s.2 (s.1 : Int) n l) (fun s => w.length + 1 - s.1) (fun s => s.2.length ≤ s.1) (fun s => if s.1 ≤ w.length then s.2 ++ plainV V w (w.length + 1 - s.1) s.1 else s.2) ?_ (0, []) (Nat.le_refl _)
  · simpa using outer
  rintro ⟨i, out⟩ ho ih
  simp only at ho ih ⊢
  by_cases hi : i < w.length
  · have hlt : (i : Int) < (w.length : Int) := by omega
    have h0 : (0 : Int) ≤ (i : Int) := by omega
    have hwi : w.getD i 0 = w[i] := by rw [List.getD_eq_getElem?_getD, List.getElem?_eq_getElem hi]; rfl
    obtain ⟨b0, b1⟩ := hin _ (List.getElem_mem hi)
    rw [← hwi] at b0 b1
    have hiV : i < V.length := by omega
    have hlast := lastV_is V i hiV
    obtain ⟨f, hf⟩ : ∃ f, w.length + 1 - i = f + 1 := ⟨w.length - i, by omega⟩
    simp only [spec_WalkPlain.l0, hlt, h0, if_true, rd_nat, b0, b1]
    rw [if_pos (show i ≤ w.length by omega), ← hat i hi]
    refine ev_ind (fun k (s : Nat × Nat) => spec_WalkPlain.l1 k w out (s.2 : Int) (V.getD i 0) (s.1 : Int) n l) (fun s => w.length - s.1) (fun s => s.1 ≤ w.length ∧ i ≤ s.1 ∧ i ≤ s.2 ∧ s.2 ≤ s.1 ∧ V.getD s.2 0 = V.getD i 0 ∧ (∀ q, s.2 < q → q ≤ s.1 → V.getD q 0 ≠ V.getD i 0)) (fun _ => out ++ plainV V w (w.length + 1 - i) i) ?_ (i, i) ⟨by simp; omega, Nat.le_refl _, Nat.le_refl _, Nat.le_refl _, rfl, fun q hq hq2 => by omega⟩
    rintro ⟨k, j⟩ ⟨hk, ki, j1, j2, j3, j4⟩ ih2
    simp only at hk ki j1 j2 j3 j4 ih2 ⊢
    by_cases h : k < w.length
    · have hlt2 : (k : Int) < (w.length : Int) := by omega
      have g0 : (0 : Int) ≤ (k : Int) := by omega
      have hwk : w.getD k 0 = w[k] := by rw [List.getD_eq_getElem?_getD, List.getElem?_eq_getElem h]; rfl
      obtain ⟨d0, d1⟩ := hin _ (List.getElem_mem h)
      rw [← hwk] at d0 d1
      simp only [spec_WalkPlain.l1, hlt2, g0, if_true, rd_nat, d0, d1, ← hsu k h, wsucc h (show w.length ≤ 9223372036854775807 by omega)]
      by_cases c : V.getD (k + 1) 0 = V.getD i 0
      · simp only [c, if_true]
        exact ih2 (k + 1, k + 1) ⟨by simp; omega, by simp; omega, by simp; omega, Nat.le_refl _, c, fun q hq hq2 => by simp at hq hq2; omega⟩ (by simp; omega)
      · simp only [c, if_false]
        refine ih2 (k + 1, j) ⟨by simp; omega, by simp; omega, j1, by simp; omega, j3, fun q hq hq2 => ?_⟩ (by simp; omega)
        simp only at hq hq2
        by_cases e : q = k + 1
        · subst e; exact c
        · exact j4 q hq (by omega)
    · have hlt2 : ¬ (k : Int) < (w.length : Int) := by omega
      have hj : lastV V i = j := last_one hlast ⟨j1, by omega, j3, fun q hq hq2 => j4 q hq (by omega)⟩
      simp only [spec_WalkPlain.l1, hlt2, if_false]
      rw [hf, plainV, hj]
      by_cases c : j < w.length
      · have c4 : (j : Int) < (w.length : Int) := by omega
        have g0 : (0 : Int) ≤ (j : Int) := by omega
        have c5 : out.length < 17592186044416 := by omega
        simp only [c4, g0, c5, if_true, rd_nat, wsucc c (show w.length ≤ 9223372036854775807 by omega)]
        have := ih (j + 1, out ++ [w.getD j 0]) (by simp; omega) (by simp; omega)
        simp only at this
        rw [if_pos (show j + 1 ≤ w.length by omega)] at this
        refine ev_at this ?_
        rw [if_pos c, List.append_assoc, List.singleton_append]
        congr 2
        exact plain_fuel hVl _ _ _ (by omega) (by omega) (by omega)
      · have c4 : ¬ (j : Int) < (w.length : Int) := by omega
        have hj2 : j = w.length := by omega
        have m1 : out.length ≤ j + 1 := by rw [hj2]; exact Nat.le_trans ho (Nat.le_trans (Nat.le_of_lt hi) (Nat.le_succ _))
        have m2 : w.length + 1 - (j + 1) < w.length + 1 - i := by rw [hj2, Nat.sub_self]; exact Nat.sub_pos_of_lt (Nat.lt_succ_of_lt hi)
        have hw1 : wrap64 ((j : Int) + 1) = ((j + 1 : Nat) : Int) := by
          have hj3 : j ≤ 9223372036854775806 := by clear ih ih2; omega
          clear ih ih2 hj hj2 hlast
          rw [w_id (by omega) (by omega)]; omega
        simp only [c4, if_false, hw1]
        have := ih (j + 1, out) m1 m2
        simp only at this
        rw [if_neg (show ¬ j + 1 ≤ w.length by omega)] at this
        refine ev_at this ?_
        rw [if_neg c, List.append_nil]
  · have hlt : ¬ (i : Int) < (w.length : Int) := by omega
    simp only [spec_WalkPlain.l0, hlt, if_false]
    refine ev_now fun _ => ?_
    by_cases e : i ≤ w.length
    · have e2 : i = w.length := by omega
      subst e2
      have hl := lastV_is V w.length (by omega)
      rw [if_pos e, show w.length + 1 - w.length = 1 by omega, plainV, if_neg (by have := hl.1; omega), List.append_nil]
    · rw [if_neg e]
/-- It comes to no node twice. -/
theorem plain_SP {l : List S58} {w : List Int} (hl : l.length ≤ 1000) (hw : walkB l w = true) : ∀ (f i : Nat) (vis : List Int), w.length + 1 ≤ f + i → i ≤ w.length → (∀ u ∈ vis, u ≠ (ndsV l (rd_T58 l (rd w 0)).f0 w).getD i 0 → ∀ k, i ≤ k → k ≤ w.length → (ndsV l (rd_T58 l (rd w 0)).f0 w).getD k 0 ≠ u) →
    SP l ((ndsV l (rd_T58 l (rd w 0)).f0 w).getD w.length 0) ((ndsV l (rd_T58 l (rd w 0)).f0 w).getD i 0) vis (plainV (ndsV l (rd_T58 l (rd w 0)).f0 w) w f i)
  | 0, i, vis, h1, h2, _ => by omega
  | f + 1, i, vis, h1, h2, hv => by
    have hat := nds_at hw
    have hsu := nds_succ l (rd_T58 l (rd w 0)).f0 w
    have hVl := ndsV_length l (rd_T58 l (rd w 0)).f0 w
    have ihr := plain_SP hl hw f
    generalize ndsV l (rd_T58 l (rd w 0)).f0 w = V at hat hsu hVl hv ihr ⊢
    obtain ⟨a1, a2, a3, a4⟩ := lastV_is V i (by omega)
    rw [plainV]
    by_cases c : lastV V i < w.length
    · rw [if_pos c]
      generalize lastV V i = j at a1 a2 a3 a4 c ⊢
      have hwj : w.getD j 0 = w[j] := by rw [List.getD_eq_getElem?_getD, List.getElem?_eq_getElem c]; rfl
      obtain ⟨b0, b1⟩ := walk_in (by omega) hw _ (List.getElem_mem c)
      rw [← hwj] at b0 b1
      have e1 := hat j c
      have e2 := hsu j c
      obtain ⟨q, hq⟩ := Int.eq_ofNat_of_zero_le b0
      rw [hq] at e1 e2 b1 ⊢
      have hne : V.getD i 0 ≠ V.getD w.length 0 := fun z => a4 w.length c (by omega) z.symm
      have hnv : (rd_T58 l (q : Int)).f1 ∉ vis := fun z => by
        rw [← e2] at z
        by_cases e : V.getD (j + 1) 0 = V.getD i 0
        · exact a4 (j + 1) (by omega) (by omega) e
        · exact hv _ z e (j + 1) (by omega) (by omega) rfl
      refine SP.cons (by omega) (by rw [← e1, a3]) hne hnv ?_
      have := ihr (j + 1) ((rd_T58 l (q : Int)).f1 :: vis) (by omega) (by omega) (fun u hu hu2 k hk hk2 => by
        rw [List.mem_cons] at hu
        rcases hu with rfl | hu
        · exact absurd e2.symm hu2
        · by_cases e : u = V.getD i 0
          · subst e
            exact a4 k (by omega) (by omega)
          · exact hv u hu e k (by omega) hk2)
      rw [e2] at this
      exact this
    · rw [if_neg c]
      have : lastV V i = w.length := by omega
      rw [this] at a3
      rw [← a3]
      exact SP.nil
theorem SP.last {l : List S58} {tg at_ : Int} {vis e : List Int} (h : SP l tg at_ vis e) (hne : 1 ≤ e.length) : (rd_T58 l (e.getD (e.length - 1) 0)).f1 = tg := by
  induction h with
  | nil => simp at hne
  | @cons i at_ vis e hi h0 hne2 hv h2 ih =>
    cases e with
    | nil => cases h2; rfl
    | cons y r =>
      have := ih (by simp)
      rw [List.length_cons] at this ⊢
      rw [show (y :: r).length + 1 - 1 = (y :: r).length - 1 + 1 by simp]
      exact this
theorem drawWalkOkN_ex (c : List Int) (h : ∀ x ∈ c, (Lit.int .u8 x).wf = true) : ∃ n l a, Ev (fun k => spec_DrawWalkPlain.f k c) (n, l, a) ∧ l.length ≤ 13 ∧ a.length ≤ 30 := by
  obtain ⟨y, hb, ho⟩ := open_ex c h
  obtain ⟨n, l, q, he, h1, h2, h3, h4⟩ := l30AnyNet_ex hb (p := 0) (by omega) (by omega)
  obtain ⟨a, q1, e1, a1, a2, a3⟩ := l30AnyWalk_ex hb n (l := l) (by omega) h2 (by omega)
  have hk : Ev (fun k => spec_DrawWalkOk.f k c) (n, l, a) := by
    unfold spec_DrawWalkOk.f
    simp only [ho, Option.bind_some]
    exact Ev.bind he (Ev.bind e1 (ev_now fun _ => rfl))
  unfold spec_DrawWalkPlain.f
  exact ⟨n, l, a, Ev.bind hk (ev_now fun _ => rfl), h1, a1⟩
theorem plain_bad {n : Int} {l : List S58} (hl : l.length ≤ 9223372036854775807) {w : List Int} (hwl : w.length ≤ 9223372036854775807) (h : ¬ ((netOkB n l && walkB l w) = true ∧ 1 ≤ w.length)) : Ev (fun k => impl_WalkPlain.f k n l w) [] ∧ Ev (fun k => spec_WalkPlain.f k n l w) [] := by
  constructor
  · unfold impl_WalkPlain.f
    refine Ev.bind (walkOk_ev n l w hl hwl) ?_
    have same : Ev (fun k => impl_WalkPlain.j0 k w true n l) [] := by
      refine ev_shift ?_
      simp only [impl_WalkPlain.j0, if_true]
      exact ev_now fun _ => rfl
    cases h1 : (netOkB n l && walkB l w) with
    | false => simpa using same
    | true =>
      have : ((w.length : Int) == 0) = true := by
        rw [beq_iff_eq]
        by_cases e : 1 ≤ w.length
        · exact absurd ⟨h1, e⟩ h
        · omega
      simp only [if_true, this]
      exact same
  · unfold spec_WalkPlain.f
    simp only [Option.bind_some]
    have same : Ev (fun k => spec_WalkPlain.j0 k w [] true n l) [] := by
      refine ev_shift ?_
      simp only [spec_WalkPlain.j0, if_true]
      exact ev_now fun _ => rfl
    refine Ev.bind (l1Ok_ev n l hl) ?_
    cases h1 : netOkB n l with
    | false => simpa using same
    | true =>
      simp only [if_true]
      refine Ev.bind (l2Ok_ev n l w hl hwl) ?_
      cases h2 : walkB l w with
      | false => exact same
      | true =>
        have e : w.length = 0 := by
          by_cases e : 1 ≤ w.length
          · exact absurd ⟨by rw [h1, h2]; rfl, e⟩ h
          · omega
        have hw0 : w = [] := List.eq_nil_of_length_eq_zero e
        subst hw0
        refine ev_shift ?_
        simp only [Bool.not_true, spec_WalkPlain.j0, Bool.false_eq_true, if_false]
        refine ev_shift ?_
        simp only [spec_WalkPlain.l0, List.length_nil, show ¬ (0 : Int) < ((0 : Nat) : Int) by omega, if_false]
        exact ev_now fun _ => rfl
theorem someNone_loop {n : Int} {l : List S58} (hok : netOkB n l = true) {a b : Int} (ha : 0 ≤ a ∧ a < n) {x : List Int} (hx : SP l b a [a] x) : Ev (fun k => laws_FnSomeNone.l0 k x ((someL l a b).take 6) 0 n l) true := by
  have hn := net1_of hok
  have hll := hn.len
  have hx7 := hx.len hn ha
  have hmem := (someL_mem hn ha x).2 hx
  obtain ⟨K, hK⟩ : ∃ K, K = (someL l a b).take 6 := ⟨_, rfl⟩
  rw [← hK]
  have hKl : K.length ≤ 6 := by rw [hK, List.length_take]; omega
  have hsp : ∀ i (h : i < K.length), SP l b a [a] K[i] := fun i h => (someL_mem hn ha _).1 (List.mem_of_mem_take (by rw [← hK]; exact List.getElem_mem h))
  refine ev_ind (fun k (i : Nat) => laws_FnSomeNone.l0 k x K (i : Int) n l) (fun i => K.length - i) (fun i => i ≤ K.length ∧ ∀ j (h : j < K.length), j < i → K[j] ≠ x) (fun _ => true) ?_ 0 ⟨Nat.zero_le _, fun j _ h => absurd h (Nat.not_lt_zero _)⟩
  rintro i ⟨hi, hb⟩ ih
  by_cases h : i < K.length
  · have hlt : (i : Int) < (K.length : Int) := by omega
    have h0 : (0 : Int) ≤ (i : Int) := by omega
    have e1 : rd_L1 K (i : Int) = K[i] := by simp [rd_L1, h]
    have hl7 := (hsp i h).len hn ha
    simp only [laws_FnSomeNone.l0, hlt, h0, if_true, e1, wsucc h (show K.length ≤ 9223372036854775807 by omega)]
    refine Ev.bind (wkInts_ne K[i] x (by omega)) ?_
    by_cases c : K[i] = x
    · rw [decide_eq_true c]
      simp only [if_true]
      exact ev_now fun _ => rfl
    · rw [decide_eq_false c]
      simp only [Bool.false_eq_true, if_false]
      exact ih (i + 1) ⟨by omega, fun j hj hji => by
        by_cases e : j = i
        · subst e; exact c
        · exact hb j hj (by omega)⟩ (by omega)
  · have hlt : ¬ (i : Int) < (K.length : Int) := by omega
    have hno : x ∉ K := fun z => by
      obtain ⟨j, hj, e⟩ := List.getElem_of_mem z
      exact hb j hj (by omega) e
    obtain ⟨q, hq, hqe⟩ := List.getElem_of_mem hmem
    have hq6 : 6 ≤ q := by
      rcases Nat.lt_or_ge q 6 with c | c
      · exfalso
        apply hno
        rw [hK, ← hqe]
        exact List.mem_take_iff_getElem.2 ⟨q, by omega, rfl⟩
      · exact c
    have hK6 : K.length = 6 := by rw [hK, List.length_take]; omega
    have c6 : (K.length : Int) = 6 := by omega
    have hw : wrap64 ((K.length : Int) - 1) = ((5 : Nat) : Int) := by rw [c6, w_id (by omega) (by omega)]; rfl
    have q1 : ((5 : Nat) : Int) < (K.length : Int) := by omega
    have h5 : 5 < K.length := by omega
    have e5 : rd_L1 K ((5 : Nat) : Int) = K[5] := by simp [rd_L1, h5]
    have hlt2 : lessC l K[5] x = true := by
      have h1 := List.pairwise_iff_getElem.1 (someL_strict l a b) 5 q (by omega) hq (by omega)
      have h2 : K[5] = (someL l a b)[5]'(by omega) := by simp [hK]
      rw [h2, ← hqe]
      exact h1
    have hwb : ∀ y, SP l b a [a] y → walkB l y = true := fun y hy => goes_walkB (by omega) hy.go (by have := hy.len hn ha; omega)
    have hA := wkAhead_ev hok (hwb _ (hsp 5 h5)) (hwb x hx)
    rw [hlt2] at hA
    have z5 : (0 : Int) ≤ ((5 : Nat) : Int) := by omega
    rw [c6] at hw q1 hlt
    simp only [laws_FnSomeNone.l0, c6, hlt, if_false, if_true]
    simp only [hw, q1, z5, if_true, e5]
    exact Ev.bind hA (ev_now fun _ => rfl)
theorem FnSomeNone : laws_FnSomeNone.Pure := by
  intro code _ _ hw
  refine Ev.rounds ?_
  unfold laws_FnSomeNone.f
  by_cases h0 : (code.length : Int) > 1048576
  · simp only [h0, if_true]; exact ev_now fun _ => rfl
  simp only [h0, if_false]
  obtain ⟨n, l, w, hd, hl, hwl⟩ := drawWalkOkN_ex code hw
  refine Ev.bind hd ?_
  by_cases hok : (netOkB n l && walkB l w) = true ∧ 1 ≤ w.length
  · obtain ⟨h1, h2⟩ := hok
    rw [Bool.and_eq_true] at h1
    obtain ⟨hok, hwb⟩ := h1
    have hn := net1_of hok
    have v1 := plain_ev hok hwb h2
    have v2 := plainS_ev hok hwb h2
    have hsp := plain_SP (l := l) (by omega) hwb (w.length + 1) 0 [(ndsV l (rd_T58 l (rd w 0)).f0 w).getD 0 0] (by omega) (Nat.zero_le _) (fun u hu hu2 => by rw [List.mem_singleton] at hu; exact absurd hu hu2)
    have h20 := walk_len hwb
    have b0 := walk_in (by omega) hwb w[0] (List.getElem_mem (by omega))
    have ha : 0 ≤ (ndsV l (rd_T58 l (rd w 0)).f0 w).getD 0 0 ∧ (ndsV l (rd_T58 l (rd w 0)).f0 w).getD 0 0 < n := by
      rw [nds_at hwb 0 (by omega)]
      have e : w.getD 0 0 = w[0] := by rw [List.getD_eq_getElem?_getD, List.getElem?_eq_getElem (by omega)]; rfl
      rw [e]
      obtain ⟨j, hj⟩ := Int.eq_ofNat_of_zero_le b0.1
      rw [hj, arc_at l j (by omega)]
      obtain ⟨e1, e2, _⟩ := hn.ends _ (List.getElem_mem (show j < l.length by omega))
      exact ⟨e1, e2⟩
    generalize plainV (ndsV l (rd_T58 l (rd w 0)).f0 w) w (w.length + 1) 0 = x at v1 v2 hsp
    generalize (ndsV l (rd_T58 l (rd w 0)).f0 w).getD 0 0 = a at hsp ha
    generalize (ndsV l (rd_T58 l (rd w 0)).f0 w).getD w.length 0 = b at hsp
    have hx7 := hsp.len hn ha
    have wk := wkInts_self x (by omega)
    refine Ev.bind v1 (Ev.bind v2 (Ev.bind wk ?_))
    simp only [if_true]
    by_cases hz : x.length = 0
    · have : ((x.length : Int) == 0) = true := beq_iff_eq.2 (by omega)
      rw [this]
      refine ev_shift ?_
      simp only [laws_FnSomeNone.j0, if_true]
      exact Ev.bind v2 (Ev.bind wk (ev_now fun _ => rfl))
    · have : ((x.length : Int) == 0) = false := beq_eq_false_iff_ne.2 (by omega)
      rw [this]
      have hin := hsp.goes.1
      have hab : a ≠ b := fun e => by
        subst e
        cases hsp with
        | nil => exact hz rfl
        | cons _ _ h _ _ => exact h rfl
      have hf := (hsp.first hab).2
      have hla := hsp.last (by omega)
      have gt0 : ∀ i, i < x.length → 0 ≤ x.getD i 0 ∧ x.getD i 0 < (l.length : Int) := by
        intro i hi
        have e : x.getD i 0 = x[i] := by rw [List.getD_eq_getElem?_getD, List.getElem?_eq_getElem hi]; rfl
        rw [e]
        exact hin _ (List.getElem_mem hi)
      have p0 : 0 < (x.length : Int) := by omega
      have w1 : wrap64 ((x.length : Int) - 1) = ((x.length - 1 : Nat) : Int) := wpred (by omega) (by omega)
      have q0 : (0 : Int) ≤ ((x.length - 1 : Nat) : Int) := by omega
      have q1 : ((x.length - 1 : Nat) : Int) < (x.length : Int) := by omega
      have e0 : rd x 0 = x.getD 0 0 := rfl
      have g0 := gt0 0 (by omega)
      have g1 := gt0 (x.length - 1) (by omega)
      rw [e0] at hf
      have hb : 0 ≤ b ∧ b < n := by
        rw [← hla]
        obtain ⟨j, hj⟩ := Int.eq_ofNat_of_zero_le g1.1
        rw [hj] at g1 ⊢
        rw [arc_at l j (by omega)]
        obtain ⟨_, _, e1, e2, _⟩ := hn.ends _ (List.getElem_mem (show j < l.length by omega))
        exact ⟨e1, e2⟩
      have hs := someI_ok hok (inB_node hn ha) (inB_node hn hb) hab (m := 6) (by decide)
      refine ev_shift ?_
      simp only [laws_FnSomeNone.j0, Bool.false_eq_true, if_false, p0, e0, g0.1, g0.2, w1, q0, q1, rd_nat, g1.1, g1.2, if_true, hf, hla, hs, Option.bind_some]
      exact someNone_loop hok ha hsp
  · obtain ⟨v1, v2⟩ := plain_bad (n := n) (l := l) (by omega) (by omega) hok
    have wk := wkInts_self [] (by simp)
    refine Ev.bind v1 (Ev.bind v2 (Ev.bind wk ?_))
    simp only [if_true, List.length_nil, show (((0 : Nat) : Int) == 0) = true from rfl]
    refine ev_shift ?_
    simp only [laws_FnSomeNone.j0, if_true]
    exact Ev.bind v2 (Ev.bind wk (ev_now fun _ => rfl))
end Go.Proofs.Ytlgolgfcolnddaa.Pure
