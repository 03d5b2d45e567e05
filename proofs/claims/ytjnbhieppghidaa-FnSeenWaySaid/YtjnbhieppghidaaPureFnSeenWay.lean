/- The pure statement of FnSeenWay: who is seen just on a best way was on it. No condition. -/
import Derived.Test.YtjnbhieppghidaaFKinds
import Derived.Test.YtjnbhieppghidaaFimplMeas
import Derived.Test.YtjnbhieppghidaaFimplNear
import Derived.Test.YtjnbhieppghidaaFimplNearWalk
import Derived.Test.YtjnbhieppghidaaFimplNetOk
import Derived.Test.YtjnbhieppghidaaFimplNetalong
import Derived.Test.YtjnbhieppghidaaFimplNetback
import Derived.Test.YtjnbhieppghidaaFimplNetbest
import Derived.Test.YtjnbhieppghidaaFimplNetcost
import Derived.Test.YtjnbhieppghidaaFimplNetfirstArc
import Derived.Test.YtjnbhieppghidaaFimplNethas
import Derived.Test.YtjnbhieppghidaaFimplNettoward
import Derived.Test.YtjnbhieppghidaaFimplSeenBest
import Derived.Test.YtjnbhieppghidaaFimplSeenCost
import Derived.Test.YtjnbhieppghidaaFimplWalkCost
import Derived.Test.YtjnbhieppghidaaFimplWalkNodes
import Derived.Test.YtjnbhieppghidaaFimplWalkOk
import Derived.Test.YtjnbhieppghidaaFimplnodesIn
import Derived.Test.YtjnbhieppghidaaFimplseenOk
import Derived.Test.YtjnbhieppghidaaFimplwithin
import Derived.Test.YtjnbhieppghidaaFlawsFnSeenWay
import Derived.Test.YtjnbhieppghidaaFslicesIn
import Derived.Test.YtjnbhieppghidaaFspecDrawNearWalk
import Derived.Test.YtjnbhieppghidaaFspecNearWalk
import Derived.Test.YtjnbhieppghidaaFspecl1Back
import Derived.Test.YtjnbhieppghidaaFspecl1In
import Derived.Test.YtjnbhieppghidaaFspecl1Ok
import Derived.Test.YtjnbhieppghidaaFspecl30AnyNet
import Derived.Test.YtjnbhieppghidaaFspecl30Net
import Derived.Test.YtjnbhieppghidaaFspecl30Node
import Derived.Test.YtjnbhieppghidaaFspecl30Open
import Derived.Test.YtjnbhieppghidaaFspecl30Rdone
import Derived.Test.YtjnbhieppghidaaFspecl30Rdpick
import Derived.Test.YtjnbhieppghidaaFspecl3All
import Derived.Test.YtjnbhieppghidaaFspecl3Steps
import Derived.Test.YtjnbhieppghidaaFspecl3Walk
import Derived.Test.YtjnbhieppghidaaFtextcore
import Derived.Test.YtjnbhieppghidaaFtextfirst
import Derived.Test.YtjnbhieppghidaaFtextminint
import Derived.Test.YtjnbhieppghidaaFtextseenbest
import Derived.Test.YtjnbhieppghidaaFtextseenok
import Derived.Test.YtjnbhieppghidaaFtextseenstep
import Derived.Test.YtjnbhieppghidaaFwkNet
namespace Go.Proofs.Ytjnbhieppghidaa.Pure
open Go.RowKit Go.Proofs.Ytjnbhieppghidaa.F Go.Proofs.YtjnbhieppghidaaW.PrintWords
set_option linter.unusedVariables false
set_option linter.unusedSimpArgs false
/-! ### rounds -/
theorem ev_shift {α : Type} {g : Nat → Option α} {r : α} (h : Ev (fun k => g (k + 1)) r) : Ev g r := by
  obtain ⟨K, h⟩ := h
  refine ⟨K + 1, fun k hk => ?_⟩
  obtain ⟨m, rfl⟩ : ∃ m, k = m + 1 := ⟨k - 1, by omega⟩
  exact h m (by omega)
theorem ev_ind {σ β : Type} (g : Nat → σ → Option β) (μ : σ → Nat) (Inv : σ → Prop) (r : σ → β)
    (h : ∀ s, Inv s → (∀ s', Inv s' → μ s' < μ s → Ev (fun k => g k s') (r s')) → Ev (fun k => g (k + 1) s) (r s)) : ∀ s, Inv s → Ev (fun k => g k s) (r s) := by
  have key : ∀ n s, μ s ≤ n → Inv s → Ev (fun k => g k s) (r s) := by
    intro n
    induction n with
    | zero => intro s hs hi; exact ev_shift (h s hi (fun s' _ hlt => absurd hlt (by omega)))
    | succ n ih => intro s hs hi; exact ev_shift (h s hi (fun s' hi' hlt => ih s' (by omega) hi'))
  exact fun s hi => key _ s (Nat.le_refl _) hi
theorem ev_now {α : Type} {g : Nat → Option α} {r : α} (h : ∀ k, g k = some r) : Ev g r := ⟨0, fun k _ => h k⟩
theorem ev_at {α : Type} {g : Nat → Option α} {r r' : α} (h : Ev g r) (e : r = r') : Ev g r' := e ▸ h
/-! ### numbers and lists -/
theorem wsucc {i n : Nat} (h : i < n) (hn : n ≤ 9223372036854775807) : wrap64 ((i : Int) + 1) = ((i + 1 : Nat) : Int) := by
  unfold wrap64; omega
theorem wpred {i : Nat} (h : 0 < i) (hi : i ≤ 9223372036854775807) : wrap64 ((i : Int) - 1) = ((i - 1 : Nat) : Int) := by
  unfold wrap64; omega
theorem w_id {n : Int} (h : -9223372036854775808 ≤ n) (h' : n ≤ 9223372036854775807) : wrap64 n = n := by unfold wrap64; omega
theorem rd_nat (l : List Int) (i : Nat) : rd l (i : Int) = l.getD i 0 := by simp [rd]
theorem rd_at (l : List Int) (i : Nat) (h : i < l.length) : rd l (i : Int) = l[i] := by simp [rd, h]
theorem arc_at (l : List S60) (i : Nat) (h : i < l.length) : rd_T60 l (i : Int) = l[i] := by simp [rd_T60, h]
theorem any_at {α : Type} (p : α → Bool) (l : List α) (i : Nat) (h : i < l.length) : (l.drop i).any p = (p l[i] || (l.drop (i + 1)).any p) := by
  rw [List.drop_eq_getElem_cons h, List.any_cons]
/-! ### is a net valid -/
theorem within_eq (a b c : Int) : impl_within.f a b c = some (inB a b c) := by
  unfold impl_within.f inB
  by_cases h : b ≤ a
  · rw [if_pos h]; simp [h]
  · rw [if_neg h]; simp [h]
theorem l1In_eq (a b c : Int) : spec_l1In.f a b c = some (inB a b c) := within_eq a b c
theorem arcBad_eq (n : Int) (x : S60) : arcBad n x = !(inB x.f0 0 (wrap64 (n - 1)) && (inB x.f1 0 (wrap64 (n - 1)) && (!(x.f0 == x.f1) && (inB x.f2 0 99 && (inB x.f3 0 99 && inB x.f4 0 9))))) := by
  unfold arcBad hasB
  cases h1 : inB x.f0 0 (wrap64 (n - 1)) <;> cases h2 : inB x.f1 0 (wrap64 (n - 1)) <;> simp [h1, h2, Bool.not_and]
theorem netOk_eq (n : Int) (l : List S60) : impl_NetOk.f n l = some (netOkB n l) := rfl
theorem l1Ok_loop (n : Int) (l : List S60) (hl : l.length ≤ 9223372036854775807) (i : Nat) (hi : i ≤ l.length) :
    Ev (fun k => spec_l1Ok.l0 k (i : Int) n l) (!((l.drop i).any (arcBad n)) && (inB n 1 8 && decide (l.length ≤ 16))) := by
  refine ev_ind (fun k (i : Nat) => spec_l1Ok.l0 k (i : Int) n l) (fun i => l.length - i) (fun i => i ≤ l.length) (fun i => !((l.drop i).any (arcBad n)) && (inB n 1 8 && decide (l.length ≤ 16))) ?_ i hi
  intro i hi ih
  by_cases h : i < l.length
  · have hlt : (i : Int) < (l.length : Int) := by omega
    have h0 : (0 : Int) ≤ (i : Int) := by omega
    simp only [spec_l1Ok.l0, hlt, h0, if_true, l1In_eq, Option.bind_some, arc_at l i h, wsucc h hl]
    rw [any_at _ _ _ h, arcBad_eq]
    have ih' := ih (i + 1) (by omega) (by omega)
    generalize (l.drop (i + 1)).any (arcBad n) = q at ih' ⊢
    generalize l[i] = x at ih' ⊢
    cases inB x.f0 0 (wrap64 (n - 1)) with
    | false => exact ev_now fun k => by simp
    | true =>
    cases inB x.f1 0 (wrap64 (n - 1)) with
    | false => exact ev_now fun k => by simp
    | true =>
    by_cases he : x.f0 = x.f1
    · exact ev_now fun k => by simp [he]
    · cases inB x.f2 0 99 with
      | false => exact ev_now fun k => by simp [he]
      | true =>
      cases inB x.f3 0 99 with
      | false => exact ev_now fun k => by simp [he]
      | true =>
      cases inB x.f4 0 9 with
      | false => exact ev_now fun k => by simp [he]
      | true =>
        have he' : (x.f0 == x.f1) = false := beq_eq_false_iff_ne.2 he
        simpa [he, he'] using ih'
  · have hlt : ¬ (i : Int) < (l.length : Int) := by omega
    have he : i = l.length := by omega
    simp only [spec_l1Ok.l0, hlt, if_false, l1In_eq, Option.bind_some]
    subst he
    refine ev_now fun k => ?_
    cases inB n 1 8 <;> simp
    omega
theorem l1Ok_ev (n : Int) (l : List S60) (hl : l.length ≤ 9223372036854775807) : Ev (fun k => spec_l1Ok.f k n l) (netOkB n l) := by
  refine ev_at (l1Ok_loop n l hl 0 (Nat.zero_le _)) ?_
  unfold netOkB
  rw [List.drop_zero]
  cases inB n 1 8 <;> cases decide (l.length ≤ 16) <;> cases l.any (arcBad n) <;> rfl
theorem netOk_len {n : Int} {l : List S60} (h : netOkB n l = true) : l.length ≤ 16 := by
  unfold netOkB at h
  simp only [Bool.and_eq_true, decide_eq_true_eq] at h
  exact h.2.1
theorem inB_iff {a b c : Int} : inB a b c = true ↔ b ≤ a ∧ a ≤ c := by unfold inB; rw [Bool.and_eq_true, decide_eq_true_eq, decide_eq_true_eq]
/-! ### draws: what they make is of some size, whatever it is -/
theorem xor_nn {x y : Int} (hx : 0 ≤ x) (hx2 : x < 1099511627776) (hy : 0 ≤ y) (hy2 : y < 1099511627776) : 0 ≤ Go.bits .xor .i64 x y := by
  obtain ⟨a, rfl⟩ := Int.eq_ofNat_of_zero_le hx
  obtain ⟨b, rfl⟩ := Int.eq_ofNat_of_zero_le hy
  have h1 : (BitVec.ofInt 64 (a : Int)).toNat = a := by
    rw [BitVec.toNat_ofInt]
    omega
  have h2 : (BitVec.ofInt 64 (b : Int)).toNat = b := by
    rw [BitVec.toNat_ofInt]
    omega
  have h3 : a ^^^ b < 2 ^ 40 := Nat.xor_lt_two_pow (by omega) (by omega)
  have h4 : Go.bits .xor .i64 (a : Int) (b : Int) = IntKind.i64.wrap ((a ^^^ b : Nat) : Int) := by
    unfold Go.bits
    show IntKind.i64.wrap ((BitVec.ofInt 64 (a : Int) ^^^ BitVec.ofInt 64 (b : Int)).toNat : Int) = _
    rw [BitVec.toNat_xor, h1, h2]
  rw [h4, IntKind.wrap_i64]
  omega
/-- The bytes of a reader. -/
def Bytes (b : List Int) : Prop := b.length ≤ 2000 ∧ ∀ x ∈ b, 0 ≤ x ∧ x ≤ 255
theorem Bytes.at {b : List Int} (hb : Bytes b) (i : Int) : 0 ≤ rd b i ∧ rd b i ≤ 255 := by
  unfold rd
  rw [List.getD_eq_getElem?_getD]
  cases h : b[i.toNat]? with
  | none => simp
  | some x => exact hb.2 x (List.mem_of_getElem? h)
theorem pick_ex {b : List Int} (hb : Bytes b) {p n : Int} (hp : 0 ≤ p) (hp2 : p ≤ 1000000) (hn : n ≤ 1000000) :
    ∃ v, Ev (fun k => spec_l30Rd_pick.f k b p n) (v, p + 1) ∧ 0 ≤ v ∧ (1 ≤ n → v < n) ∧ (n < 1 → v = 0) := by
  have hl := hb.1
  have w1 : wrap64 (p + 1) = p + 1 := w_id (by omega) (by omega)
  have w0 : wrap64 (p + 1 - 1) = p := by rw [w_id (by omega) (by omega)]; omega
  unfold spec_l30Rd_pick.f
  rw [w1]
  by_cases h1 : n < 1
  · refine ⟨0, ?_, Int.le_refl _, fun h => by omega, fun _ => rfl⟩
    simp only [h1, if_true]
    exact ev_shift (ev_now fun k => by simp only [spec_l30Rd_pick.j0, if_true])
  · simp only [h1, if_false]
    have hn0 : ¬ n = 0 := by omega
    by_cases h2 : b.length = 0
    · refine ⟨0, ?_, Int.le_refl _, fun h => by omega, fun h => by first | exact absurd h h1 | exact h.elim⟩
      have e : ((b.length : Int) == 0) = true := by rw [beq_iff_eq]; omega
      rw [e]
      exact ev_shift (ev_now fun k => by simp only [spec_l30Rd_pick.j0, if_true])
    · have e : ((b.length : Int) == 0) = false := by rw [beq_eq_false_iff_ne]; omega
      have hm0 : ¬ (b.length : Int) = 0 := by omega
      rw [e]
      by_cases h3 : p < (b.length : Int)
      · have hr := hb.at p
        have w2 : wrap64 (rd b p) = rd b p := w_id (by omega) (by omega)
        refine ⟨Int.tmod (rd b p) n, ?_, Int.tmod_nonneg _ hr.1, fun h => Int.tmod_lt_of_pos _ (by omega), fun h => by first | exact absurd h h1 | exact h.elim⟩
        exact ev_shift (ev_now fun k => by simp only [spec_l30Rd_pick.j0, Bool.false_eq_true, if_false, w0, h3, hp, hn0, if_true, w2])
      · have q1 := Int.tmod_nonneg (a := p) (b.length : Int) hp
        have q2 := Int.tmod_lt_of_pos p (show (0 : Int) < (b.length : Int) by omega)
        have w3 : wrap64 (wrap64 (p * 7) + 3) = p * 7 + 3 := by rw [w_id (n := p * 7) (by omega) (by omega), w_id (by omega) (by omega)]
        have q3 := Int.tmod_nonneg (a := p * 7 + 3) (b.length : Int) (by omega)
        have q4 := Int.tmod_lt_of_pos (p * 7 + 3) (show (0 : Int) < (b.length : Int) by omega)
        have q5 : 0 ≤ Int.tdiv p (b.length : Int) := Int.tdiv_nonneg hp (by omega)
        have q6 : Int.tdiv p (b.length : Int) ≤ p := Int.tdiv_le_self _ hp
        obtain ⟨d, hd⟩ : ∃ d, Int.tdiv p (b.length : Int) = d := ⟨_, rfl⟩
        rw [hd] at q5 q6
        have r1 := hb.at (Int.tmod p (b.length : Int))
        have r2 := hb.at (Int.tmod (p * 7 + 3) (b.length : Int))
        have wx : wrap64 (wrap64 (wrap64 (wrap64 (wrap64 (rd b (Int.tmod p (b.length : Int))) * 131) + wrap64 (wrap64 (rd b (Int.tmod (p * 7 + 3) (b.length : Int))) * 1117)) + wrap64 (p * 29)) + wrap64 (wrap64 d * 53)) = rd b (Int.tmod p (b.length : Int)) * 131 + rd b (Int.tmod (p * 7 + 3) (b.length : Int)) * 1117 + p * 29 + d * 53 := by
          generalize rd b (Int.tmod p (b.length : Int)) = x1 at r1 ⊢
          generalize rd b (Int.tmod (p * 7 + 3) (b.length : Int)) = x2 at r2 ⊢
          rw [w_id (n := x1) (by omega) (by omega), w_id (n := x2) (by omega) (by omega), w_id (n := x1 * 131) (by omega) (by omega), w_id (n := x2 * 1117) (by omega) (by omega), w_id (n := p * 29) (by omega) (by omega), w_id (n := d) (by omega) (by omega), w_id (n := d * 53) (by omega) (by omega), w_id (n := x1 * 131 + x2 * 1117) (by omega) (by omega), w_id (n := x1 * 131 + x2 * 1117 + p * 29) (by omega) (by omega), w_id (by omega) (by omega)]
        generalize hX : rd b (Int.tmod p (b.length : Int)) * 131 + rd b (Int.tmod (p * 7 + 3) (b.length : Int)) * 1117 + p * 29 + d * 53 = X at wx
        have x0 : 0 ≤ X := by omega
        have x1 : X < 1099511627776 := by omega
        have y0 : 0 ≤ Int.tdiv X 64 := Int.tdiv_nonneg x0 (by omega)
        have y1 : Int.tdiv X 64 ≤ X := Int.tdiv_le_self _ x0
        have wy : wrap64 (Int.tdiv X 64) = Int.tdiv X 64 := w_id (by omega) (by omega)
        refine ⟨Int.tmod (Go.bits .xor .i64 X (Int.tdiv X 64)) n, ?_, Int.tmod_nonneg _ (xor_nn x0 x1 y0 (by omega)), fun h => Int.tmod_lt_of_pos _ (by omega), fun h => by first | exact absurd h h1 | exact h.elim⟩
        exact ev_shift (ev_now fun k => by simp only [spec_l30Rd_pick.j0, Bool.false_eq_true, if_false, w0, h3, hm0, q1, q2, w3, q3, q4, hn0, if_true, hd, wx, wy])
theorem one_ex {b : List Int} (hb : Bytes b) {p : Int} (hp : 0 ≤ p) (hp2 : p ≤ 1000000) (l : List Int) (hl : 1 ≤ l.length) (hl2 : l.length ≤ 1000) :
    ∃ v, v ∈ l ∧ Ev (fun k => spec_l30Rd_one.f k b p l) (v, p + 1) := by
  obtain ⟨v, hv, h0, h1, _⟩ := pick_ex hb hp hp2 (n := (l.length : Int)) (by omega)
  have h1 := h1 (by omega)
  unfold spec_l30Rd_one.f
  obtain ⟨i, rfl⟩ := Int.eq_ofNat_of_zero_le h0
  have hi : i < l.length := by omega
  refine ⟨l[i], List.getElem_mem hi, Ev.bind hv ?_⟩
  simp only [h0, h1, if_true, rd_at l i hi]
  exact ev_now fun _ => rfl
theorem open_ex (l : List Int) (h : ∀ x ∈ l, (Lit.int .u8 x).wf = true) : ∃ b, Bytes b ∧ spec_l30Open.f l = some (b, 0) := by
  have hw : ∀ x ∈ l, 0 ≤ x ∧ x ≤ 255 := by
    intro x hx
    have := h x hx
    simp [Lit.wf, IntKind.min, IntKind.max, IntKind.signed, IntKind.bits] at this
    omega
  unfold spec_l30Open.f
  by_cases h1 : (l.length : Int) > 2000
  · have h2 : 2000 ≤ (l.length : Int) := by omega
    rw [if_pos h1, if_pos h2]
    exact ⟨_, ⟨by rw [List.length_take]; omega, fun x hx => hw x (List.mem_of_mem_take hx)⟩, rfl⟩
  · rw [if_neg h1]
    exact ⟨_, ⟨by omega, hw⟩, rfl⟩
/-! ### nets, nodes and walks that are drawn -/
theorem l30Net_loop {b : List Int} (hb : Bytes b) {n : Int} (hn : 2 ≤ n ∧ n ≤ 6) : ∀ (m : Nat) (l : List S60) (p : Int), l.length + m ≤ 13 → 0 ≤ p → p + 6 * m ≤ 100000 →
    ∃ l' q, Ev (fun k => spec_l30Net.l0 k (m : Int) b p n l) (n, l', q) ∧ l'.length ≤ 13 ∧ 0 ≤ q ∧ q ≤ p + 6 * m := by
  intro m
  induction m with
  | zero =>
    intro l p hl hp hq
    exact ⟨l, p, ev_shift (ev_now fun k => by simp [spec_l30Net.l0]), by omega, hp, by omega⟩
  | succ m ih =>
    intro l p hl hp hq
    obtain ⟨v1, e1, _⟩ := pick_ex hb hp (by omega) (n := n) (by omega)
    obtain ⟨v2, e2, _⟩ := pick_ex hb (p := p + 1) (by omega) (by omega) (n := n) (by omega)
    obtain ⟨v3, e3, _⟩ := pick_ex hb (p := p + 1 + 1) (by omega) (by omega) (n := 100) (by omega)
    obtain ⟨v4, _, e4⟩ := one_ex hb (p := p + 1 + 1 + 1) (by omega) (by omega) [0, 1, 2, 5, 9, v3] (by simp) (by simp)
    obtain ⟨v5, _, e5⟩ := one_ex hb (p := p + 1 + 1 + 1 + 1) (by omega) (by omega) [0, 0, 3, 8] (by simp) (by simp)
    obtain ⟨v6, e6, _⟩ := pick_ex hb (p := p + 1 + 1 + 1 + 1 + 1) (by omega) (by omega) (n := 10) (by omega)
    have hpos : ((m + 1 : Nat) : Int) > 0 := by omega
    have hw : wrap64 (((m + 1 : Nat) : Int) - 1) = (m : Int) := by rw [w_id (by omega) (by omega)]; omega
    have hlen : l.length < 3518437208883 := by omega
    have hn0 : ¬ n = 0 := by omega
    by_cases hv : v1 = v2
    · obtain ⟨l', q, he, h1, h2, h3⟩ := ih (l ++ [⟨v1, Int.tmod (wrap64 (v2 + 1)) n, v4, v5, v6⟩]) (p + 1 + 1 + 1 + 1 + 1 + 1) (by rw [List.length_append]; simp; omega) (by omega) (by omega)
      refine ⟨l', q, ev_shift ?_, h1, h2, by omega⟩
      simp only [spec_l30Net.l0, hpos, if_true]
      refine Ev.bind e1 (Ev.bind e2 (Ev.bind e3 (Ev.bind e4 (Ev.bind e5 (Ev.bind e6 ?_)))))
      simp only [hv, hn0, hlen, if_true, if_false, hw]
      rw [hv] at he
      exact he
    · obtain ⟨l', q, he, h1, h2, h3⟩ := ih (l ++ [⟨v1, v2, v4, v5, v6⟩]) (p + 1 + 1 + 1 + 1 + 1 + 1) (by rw [List.length_append]; simp; omega) (by omega) (by omega)
      refine ⟨l', q, ev_shift ?_, h1, h2, by omega⟩
      simp only [spec_l30Net.l0, hpos, if_true]
      refine Ev.bind e1 (Ev.bind e2 (Ev.bind e3 (Ev.bind e4 (Ev.bind e5 (Ev.bind e6 ?_)))))
      simp only [hv, hlen, if_true, if_false, hw]
      exact he
theorem l30Net_ex {b : List Int} (hb : Bytes b) {p : Int} (hp : 0 ≤ p) (hp2 : p ≤ 90000) :
    ∃ n l q, Ev (fun k => spec_l30Net.f k b p) (n, l, q) ∧ l.length ≤ 13 ∧ 0 ≤ q ∧ q ≤ p + 100 ∧ 2 ≤ n ∧ n ≤ 6 := by
  obtain ⟨v1, e1, h1, h1', _⟩ := pick_ex hb hp (by omega) (n := 5) (by omega)
  obtain ⟨v2, e2, h2, h2', _⟩ := pick_ex hb (p := p + 1) (by omega) (by omega) (n := 14) (by omega)
  have h1' := h1' (by omega)
  have h2' := h2' (by omega)
  obtain ⟨m, rfl⟩ := Int.eq_ofNat_of_zero_le h2
  have hw : wrap64 (2 + v1) = 2 + v1 := w_id (by omega) (by omega)
  obtain ⟨l, q, he, h3, h4, h5⟩ := l30Net_loop hb (n := 2 + v1) (by omega) m [] (p + 1 + 1) (by simp; omega) (by omega) (by omega)
  refine ⟨2 + v1, l, q, ?_, h3, h4, by omega, by omega, by omega⟩
  unfold spec_l30Net.f
  refine Ev.bind e1 (Ev.bind e2 ?_)
  rw [hw]
  exact he
/-! ### drawn nodes -/
theorem l30Node_ex {b : List Int} (hb : Bytes b) {p : Int} (hp : 0 ≤ p) (hp2 : p ≤ 90000) (n : Int) (hn : n ≤ 1000000) (l : List S60) :
    ∃ v q, Ev (fun k => spec_l30Node.f k b p n l) (v, q) ∧ 0 ≤ q ∧ q ≤ p + 10 := by
  obtain ⟨v1, e1, _⟩ := pick_ex hb hp (by omega) (n := 16) (by omega)
  unfold spec_l30Node.f
  by_cases c : v1 = 0
  · obtain ⟨v2, _, e2⟩ := one_ex hb (p := p + 1) (by omega) (by omega) [(-1), n] (by simp) (by simp)
    refine ⟨v2, p + 1 + 1, Ev.bind e1 ?_, by omega, by omega⟩
    simp only [c, if_true]
    exact Ev.bind e2 (ev_now fun _ => rfl)
  · obtain ⟨v2, e2, _⟩ := pick_ex hb (p := p + 1) (by omega) (by omega) (n := n) hn
    refine ⟨v2, p + 1 + 1, Ev.bind e1 ?_, by omega, by omega⟩
    simp only [c, if_false]
    exact Ev.bind e2 (ev_now fun _ => rfl)
/-! ### drawn nets, ok or not -/
theorem l30AnyNet_ex9 {b : List Int} (hb : Bytes b) {p : Int} (hp : 0 ≤ p) (hp2 : p ≤ 90000) :
    ∃ n l q, Ev (fun k => spec_l30AnyNet.f k b p) (n, l, q) ∧ l.length ≤ 13 ∧ 0 ≤ q ∧ q ≤ p + 200 ∧ n ≤ 9 := by
  obtain ⟨n, l, q, he, h1, h2, h3, h4, h5⟩ := l30Net_ex hb hp hp2
  unfold spec_l30AnyNet.f
  by_cases hl : (l.length : Int) > 0
  · obtain ⟨v1, e1, g1, g2, _⟩ := pick_ex hb h2 (by omega) (n := (l.length : Int)) (by omega)
    have g2 := g2 (by omega)
    obtain ⟨v2, e2, _⟩ := pick_ex hb (p := q + 1) (by omega) (by omega) (n := 16) (by omega)
    by_cases c0 : v2 = 0
    · obtain ⟨v3, _, e3⟩ := one_ex hb (p := q + 1 + 1) (by omega) (by omega) [(-1), 8, (rd_T60 l v1).f0] (by simp) (by simp)
      refine ⟨n, l.set v1.toNat (⟨(rd_T60 l v1).f0, v3, (rd_T60 l v1).f2, (rd_T60 l v1).f3, (rd_T60 l v1).f4⟩ : S60), q + 1 + 1 + 1, Ev.bind he ?_, ?_, ?_, ?_, ?_⟩
      · simp only [hl, if_true]
        refine Ev.bind e1 (Ev.bind e2 ?_)
        simp only [c0, if_true, g1, g2]
        exact Ev.bind e3 (ev_now fun _ => rfl)
      · rw [List.length_set]; exact h1
      · omega
      · omega
      · omega
    · by_cases c1 : v2 = 1
      · obtain ⟨v3, _, e3⟩ := one_ex hb (p := q + 1 + 1) (by omega) (by omega) [(-1), 100] (by simp) (by simp)
        refine ⟨n, l.set v1.toNat (⟨(rd_T60 l v1).f0, (rd_T60 l v1).f1, v3, (rd_T60 l v1).f3, (rd_T60 l v1).f4⟩ : S60), q + 1 + 1 + 1, Ev.bind he ?_, ?_, ?_, ?_, ?_⟩
        · simp only [hl, if_true]
          refine Ev.bind e1 (Ev.bind e2 ?_)
          simp only [c1, if_true, show ¬ (1 : Int) = 0 by omega, if_false]
          refine Ev.bind e3 ?_
          simp only [g1, g2, if_true]
          exact ev_now fun _ => rfl
        · rw [List.length_set]; exact h1
        · omega
        · omega
        · omega
      · by_cases c2 : v2 = 2
        · obtain ⟨v3, hv3, e3⟩ := one_ex hb (p := q + 1 + 1) (by omega) (by omega) [0, 1, 9, 8] (by simp) (by simp)
          refine ⟨v3, l, q + 1 + 1 + 1, Ev.bind he ?_, h1, by omega, by omega, by simp only [List.mem_cons, List.not_mem_nil, or_false] at hv3; omega⟩
          simp only [hl, if_true]
          refine Ev.bind e1 (Ev.bind e2 ?_)
          simp only [c2, if_true, show ¬ (2 : Int) = 0 by omega, show ¬ (2 : Int) = 1 by omega, if_false]
          exact Ev.bind e3 (ev_now fun _ => rfl)
        · refine ⟨n, l, q + 1 + 1, Ev.bind he ?_, h1, by omega, by omega, by omega⟩
          simp only [hl, if_true]
          refine Ev.bind e1 (Ev.bind e2 ?_)
          simp only [c0, c1, c2, if_false]
          exact ev_now fun _ => rfl
  · refine ⟨n, l, q, Ev.bind he ?_, h1, h2, by omega, by omega⟩
    simp only [hl, if_false]
    exact ev_now fun _ => rfl
theorem l30AnyNet_ex {b : List Int} (hb : Bytes b) {p : Int} (hp : 0 ≤ p) (hp2 : p ≤ 90000) :
    ∃ n l q, Ev (fun k => spec_l30AnyNet.f k b p) (n, l, q) ∧ l.length ≤ 13 ∧ 0 ≤ q ∧ q ≤ p + 200 ∧ n ≤ 1000000 := by
  obtain ⟨n, l, q, h1, h2, h3, h4, h5⟩ := l30AnyNet_ex9 hb hp hp2
  exact ⟨n, l, q, h1, h2, h3, h4, by omega⟩
theorem drawNearWalk_ex (c : List Int) (h : ∀ x ∈ c, (Lit.int .u8 x).wf = true) : ∃ n l a b, Ev (fun k => spec_DrawNearWalk.f k c) (n, l, a, b) ∧ l.length ≤ 13 := by
  obtain ⟨y, hb, ho⟩ := open_ex c h
  obtain ⟨n, l, q, he, h1, h2, h3, h4⟩ := l30AnyNet_ex hb (p := 0) (by omega) (by omega)
  obtain ⟨a, q1, e1, g1, g2⟩ := l30Node_ex hb h2 (by omega) n h4 l
  obtain ⟨b, q2, e2, g3, g4⟩ := l30Node_ex hb g1 (by omega) n h4 l
  unfold spec_DrawNearWalk.f
  simp only [ho, Option.bind_some]
  exact ⟨n, l, a, b, Ev.bind he (Ev.bind e1 (Ev.bind e2 (ev_now fun _ => rfl))), h1⟩
/-! ### walks -/
theorem range_all (p : Nat → Bool) (i n : Nat) (h : i < n) : (List.range' i (n - i)).all p = (p i && (List.range' (i + 1) (n - (i + 1))).all p) := by
  obtain ⟨d, hd⟩ : ∃ d, n - i = d + 1 := ⟨n - i - 1, by omega⟩
  rw [hd, List.range'_succ, List.all_cons, show n - (i + 1) = d by omega]
theorem range_none (p : Nat → Bool) (n : Nat) : (List.range' n (n - n)).all p = true := by simp
/-- Is arc number i of a walk there, and does it begin where the one ahead ends. -/
def chk (l : List S60) (w : List Int) (i : Nat) : Bool := inB (w.getD i 0) 0 (wrap64 ((l.length : Int) - 1)) && (decide (i = 0) || (rd_T60 l (w.getD (i - 1) 0)).f1 == (rd_T60 l (w.getD i 0)).f0)
def chainB (l : List S60) (w : List Int) : Bool := (List.range' 0 w.length).all (chk l w)
def walkB (l : List S60) (w : List Int) : Bool := chainB l w && decide (w.length ≤ 20)
theorem arc_in {l : List S60} {x : Int} (hl : l.length ≤ 9223372036854775807) (h : inB x 0 (wrap64 ((l.length : Int) - 1)) = true) : 0 ≤ x ∧ x < (l.length : Int) := by
  rw [inB_iff, w_id (by omega) (by omega)] at h
  omega
theorem walkOk_loop (n : Int) (l : List S60) (w : List Int) (hl : l.length ≤ 9223372036854775807) (hw : w.length ≤ 9223372036854775807) :
    Ev (fun k => impl_WalkOk.l0 k w w (w.length : Int) (0 : Nat) n l) ((List.range' 0 (w.length - 0)).all (chk l w)) := by
  refine ev_ind (fun k (i : Nat) => impl_WalkOk.l0 k w w (w.length : Int) (i : Int) n l) (fun i => w.length - i) (fun i => i ≤ w.length ∧ ∀ j, j < i → inB (w.getD j 0) 0 (wrap64 ((l.length : Int) - 1)) = true) (fun i => (List.range' i (w.length - i)).all (chk l w)) ?_ 0 ⟨Nat.zero_le _, fun j hj => absurd hj (Nat.not_lt_zero _)⟩
  rintro i ⟨hi, hp⟩ ih
  by_cases h : i < w.length
  · have hlt : (i : Int) < (w.length : Int) := by omega
    have h0 : (0 : Int) ≤ (i : Int) := by omega
    rw [range_all _ _ _ h]
    simp only [impl_WalkOk.l0, hlt, h0, if_true, within_eq, Option.bind_some, wsucc h hw]
    have ih' := fun hin => ih (i + 1) ⟨by omega, hin⟩ (by omega)
    generalize (List.range' (i + 1) (w.length - (i + 1))).all (chk l w) = q at ih' ⊢
    unfold chk
    rw [rd_nat]
    cases hb : inB (w.getD i 0) 0 (wrap64 ((l.length : Int) - 1)) with
    | false => exact ev_now fun k => by simp
    | true =>
      have hin : ∀ j, j < i + 1 → inB (w.getD j 0) 0 (wrap64 ((l.length : Int) - 1)) = true := by
        intro j hj
        by_cases e : j = i
        · subst e; exact hb
        · exact hp j (by omega)
      obtain ⟨b0, b1⟩ := arc_in hl hb
      by_cases hi0 : i = 0
      · subst hi0
        have hn : ¬ ((0 : Nat) : Int) > 0 := by omega
        simp only [hn, if_true, if_false]
        simpa using ih' hin
      · have hn : ((i : Nat) : Int) > 0 := by omega
        have hp1 := hp (i - 1) (by omega)
        obtain ⟨c0, c1⟩ := arc_in hl hp1
        have hw1 : wrap64 ((i : Int) - 1) = ((i - 1 : Nat) : Int) := wpred (by omega) (by omega)
        have g0 : (0 : Int) ≤ ((i - 1 : Nat) : Int) := by omega
        have g1 : ((i - 1 : Nat) : Int) < (w.length : Int) := by omega
        simp only [hn, if_true, b0, b1, hw1, g0, g1, rd_nat, c0, c1, hi0, decide_false, Bool.false_or, Bool.true_and]
        by_cases he : (rd_T60 l (w.getD (i - 1) 0)).f1 = (rd_T60 l (w.getD i 0)).f0
        · simp only [he, if_true]
          simpa using ih' hin
        · have he' : ((rd_T60 l (w.getD (i - 1) 0)).f1 == (rd_T60 l (w.getD i 0)).f0) = false := beq_eq_false_iff_ne.2 he
          exact ev_now fun k => by simp only [he, he', if_false, Bool.false_and]
  · have hlt : ¬ (i : Int) < (w.length : Int) := by omega
    have he : i = w.length := by omega
    subst he
    simp only [impl_WalkOk.l0, hlt, if_false, range_none]
    exact ev_now fun k => rfl
theorem walkOk_ev (n : Int) (l : List S60) (w : List Int) (hl : l.length ≤ 9223372036854775807) (hw : w.length ≤ 9223372036854775807) : Ev (fun k => impl_WalkOk.f k n l w) (netOkB n l && walkB l w) := by
  unfold impl_WalkOk.f
  simp only [netOk_eq, Option.bind_some]
  cases netOkB n l with
  | false => exact ev_shift (ev_now fun k => by simp [impl_WalkOk.j0])
  | true =>
    simp only [if_true]
    refine ev_shift ?_
    unfold walkB chainB
    by_cases h : w.length ≤ 20
    · have h1 : ¬ decide ((w.length : Int) > 20) = true := by simp; omega
      simp only [impl_WalkOk.j0, h1, if_false]
      simpa [h] using walkOk_loop n l w hl hw
    · have h1 : decide ((w.length : Int) > 20) = true := by simp; omega
      simp only [impl_WalkOk.j0, h1, if_true]
      exact ev_now fun k => by simp [h]
theorem walkAt_in {l : List S60} {w : List Int} (hl : l.length ≤ 9223372036854775807) (h : walkB l w = true) (i : Nat) (hi : i < w.length) : 0 ≤ w[i] ∧ w[i] < (l.length : Int) := by
  unfold walkB chainB at h
  rw [Bool.and_eq_true, List.all_eq_true] at h
  have h1 := h.1 i (by rw [List.mem_range'_1]; omega)
  unfold chk at h1
  rw [Bool.and_eq_true] at h1
  have := arc_in hl h1.1
  rwa [List.getD_eq_getElem?_getD, List.getElem?_eq_getElem hi] at this
/-! ### what walks share -/
/-! ### a valid net -/
/-- What a valid net is. -/
structure Net1 (n : Int) (l : List S60) : Prop where
  lo : 1 ≤ n
  hi : n ≤ 8
  len : l.length ≤ 16
  ends : ∀ x ∈ l, 0 ≤ x.f0 ∧ x.f0 < n ∧ 0 ≤ x.f1 ∧ x.f1 < n ∧ x.f0 ≠ x.f1 ∧ 0 ≤ x.f2 ∧ x.f2 ≤ 99 ∧ 0 ≤ x.f3 ∧ x.f3 ≤ 99 ∧ 0 ≤ x.f4 ∧ x.f4 ≤ 9
theorem net1_of {n : Int} {l : List S60} (h : netOkB n l = true) : Net1 n l := by
  unfold netOkB at h
  simp only [Bool.and_eq_true, decide_eq_true_eq, inB_iff, Bool.not_eq_true'] at h
  obtain ⟨⟨h1, h2⟩, h3, h4⟩ := h
  refine ⟨h1, h2, h3, fun x hx => ?_⟩
  have h5 : arcBad n x = false := by
    cases h6 : arcBad n x with
    | false => rfl
    | true => rw [List.any_eq_true.2 ⟨x, hx, h6⟩] at h4; cases h4
  rw [arcBad_eq] at h5
  simp only [Bool.not_eq_false', Bool.and_eq_true, inB_iff, Bool.not_eq_true', beq_eq_false_iff_ne] at h5
  rw [w_id (n := n - 1) (by omega) (by omega)] at h5
  obtain ⟨a, b, c, d, e, f⟩ := h5
  exact ⟨a.1, by omega, b.1, by omega, c, d.1, d.2, e.1, e.2, f.1, f.2⟩
theorem netOk_of {n : Int} {l : List S60} (hn : Net1 n l) : netOkB n l = true := by
  unfold netOkB
  have hlo := hn.lo
  have hhi := hn.hi
  have hl := hn.len
  simp only [Bool.and_eq_true, decide_eq_true_eq, inB_iff, Bool.not_eq_true']
  refine ⟨⟨hlo, hhi⟩, hl, ?_⟩
  rw [List.any_eq_false]
  intro x hx
  obtain ⟨h1, h2, h3, h4, h5, h6, h7, h8, h9, h10, h11⟩ := hn.ends x hx
  have : arcBad n x = false := by
    rw [arcBad_eq]
    simp only [Bool.not_eq_false', Bool.and_eq_true, inB_iff, Bool.not_eq_true', beq_eq_false_iff_ne]
    rw [w_id (n := n - 1) (by omega) (by omega)]
    exact ⟨⟨h1, by omega⟩, ⟨h3, by omega⟩, h5, ⟨h6, h7⟩, ⟨h8, h9⟩, h10, h11⟩
  rw [this]; exact Bool.false_ne_true
/-! ### the least costs from all nodes to one -/
theorem ev_ex {σ β : Type} (g : Nat → σ → Option β) (μ : σ → Nat) (Inv : σ → Prop) (P : β → Prop)
    (h : ∀ s, Inv s → (∀ s', Inv s' → μ s' < μ s → ∃ r, P r ∧ Ev (fun k => g k s') r) → ∃ r, P r ∧ Ev (fun k => g (k + 1) s) r) : ∀ s, Inv s → ∃ r, P r ∧ Ev (fun k => g k s) r := by
  have key : ∀ n s, μ s ≤ n → Inv s → ∃ r, P r ∧ Ev (fun k => g k s) r := by
    intro n
    induction n with
    | zero => intro s hs hi; obtain ⟨r, hp, he⟩ := h s hi (fun s' _ hlt => absurd hlt (by omega)); exact ⟨r, hp, ev_shift he⟩
    | succ n ih => intro s hs hi; obtain ⟨r, hp, he⟩ := h s hi (fun s' hi' hlt => ih s' (by omega) hi'); exact ⟨r, hp, ev_shift he⟩
  exact fun s hi => key _ s (Nat.le_refl _) hi
theorem rdi_set (D : List Int) (i j : Int) (v : Int) (hi : 0 ≤ i) (hl : i < (D.length : Int)) (hj : 0 ≤ j) : rd (D.set i.toNat v) j = if i = j then v else rd D j := by
  unfold rd
  rw [List.getD_eq_getElem?_getD, List.getD_eq_getElem?_getD, List.getElem?_set]
  by_cases h : i = j
  · subst h; rw [if_pos rfl, if_pos rfl, if_pos (by omega)]; rfl
  · rw [if_neg h, if_neg (by omega)]
theorem rdm_set (D : List S64) (i j : Int) (v : S64) (hi : 0 ≤ i) (hl : i < (D.length : Int)) (hj : 0 ≤ j) : rd_T64 (D.set i.toNat v) j = if i = j then v else rd_T64 D j := by
  unfold rd_T64
  rw [List.getD_eq_getElem?_getD, List.getD_eq_getElem?_getD, List.getElem?_set]
  by_cases h : i = j
  · subst h; rw [if_pos rfl, if_pos rfl, if_pos (by omega)]; rfl
  · rw [if_neg h, if_neg (by omega)]
def sumI : List Int → Int
  | [] => 0
  | x :: xs => x + sumI xs
theorem sumI_set (L : List Int) : ∀ (i : Nat) (v : Int), i < L.length → sumI (L.set i v) = sumI L - L.getD i 0 + v := by
  induction L with
  | nil => intro i v h; exact absurd h (by simp)
  | cons x xs ih =>
    intro i v h
    cases i with
    | zero => simp [sumI]; omega
    | succ i => simp only [List.set_cons_succ, sumI, ih i v (by simpa using h), List.getD_cons_succ]; omega
theorem sumI_nonneg (L : List Int) (h : ∀ x ∈ L, 0 ≤ x) : 0 ≤ sumI L := by
  induction L with
  | nil => simp [sumI]
  | cons x xs ih => have := h x (by simp); have := ih fun y hy => h y (by simp [hy]); simp only [sumI]; omega
theorem sumI_le8 (L : List Int) (b : Int) (hb : 0 ≤ b) (hl : L.length ≤ 8) (h : ∀ x ∈ L, x ≤ b) : sumI L ≤ 8 * b := by
  have key : ∀ L : List Int, (∀ x ∈ L, x ≤ b) → sumI L ≤ (L.length : Int) * b := by
    intro L
    induction L with
    | nil => intro _; simp [sumI]
    | cons x xs ih =>
      intro h
      have h1 := h x (by simp)
      have h2 := ih fun y hy => h y (by simp [hy])
      simp only [sumI, List.length_cons, Int.natCast_add, Int.add_mul]
      omega
  have h1 := key L h
  have h2 : (L.length : Int) * b ≤ 8 * b := Int.mul_le_mul_of_nonneg_right (by omega) hb
  omega
/-- A list that has all numbers below k has so many. -/
theorem levels_len (k : Nat) : ∀ L : List Int, (∀ j : Nat, j < k → (j : Int) ∈ L) → k ≤ L.length := by
  induction k with
  | zero => intro L _; omega
  | succ k ih =>
    intro L h
    have h1 := h k (by omega)
    have h2 := ih (L.erase (k : Int)) fun j hj => (List.mem_erase_of_ne (by omega)).2 (h j (by omega))
    rw [List.length_erase_of_mem h1] at h2
    have : 0 < L.length := List.length_pos_of_mem h1
    omega
/-- A walk to node t, from a node: what it costs, and how many arcs. -/
inductive Way (l : List S60) (t : Int) : Int → Int → Nat → Prop
  | nil : Way l t t 0 0
  | cons {x : S60} {c : Int} {m : Nat} : x ∈ l → Way l t x.f1 c m → Way l t x.f0 (x.f2 + c) (m + 1)
theorem Way.node {n : Int} {l : List S60} (hn : Net1 n l) {t : Int} (ht : 0 ≤ t ∧ t < n) {v c : Int} {m : Nat} (h : Way l t v c m) : 0 ≤ v ∧ v < n := by
  cases h with
  | nil => exact ht
  | cons hx _ => have := hn.ends _ hx; exact ⟨this.1, this.2.1⟩
def cM (M : List S64) (v : Int) : Int := (rd_T64 M v).f0
def aM (M : List S64) (v : Int) : Int := (rd_T64 M v).f1
def sumC (M : List S64) : Int := sumI (M.map fun m => m.f0)
def sumA (M : List S64) : Int := sumI (M.map fun m => m.f1)
theorem cM_set (M : List S64) (i j a b : Int) (hi : 0 ≤ i) (hl : i < (M.length : Int)) (hj : 0 ≤ j) : cM (M.set i.toNat ⟨a, b⟩) j = if i = j then a else cM M j := by
  unfold cM; rw [rdm_set M i j _ hi hl hj]; split <;> rfl
theorem aM_set (M : List S64) (i j a b : Int) (hi : 0 ≤ i) (hl : i < (M.length : Int)) (hj : 0 ≤ j) : aM (M.set i.toNat ⟨a, b⟩) j = if i = j then b else aM M j := by
  unfold aM; rw [rdm_set M i j _ hi hl hj]; split <;> rfl
theorem cM_get (M : List S64) (i : Nat) (h : i < M.length) : cM M (i : Int) = M[i].f0 := by simp [cM, rd_T64, h]
theorem aM_get (M : List S64) (i : Nat) (h : i < M.length) : aM M (i : Int) = M[i].f1 := by simp [aM, rd_T64, h]
theorem sumC_set (M : List S64) (i a b : Int) (hi : 0 ≤ i) (hl : i < (M.length : Int)) : sumC (M.set i.toNat ⟨a, b⟩) = sumC M - cM M i + a := by
  obtain ⟨j, rfl⟩ : ∃ j : Nat, i = (j : Int) := ⟨i.toNat, by omega⟩
  unfold sumC
  rw [List.map_set, Int.toNat_natCast, sumI_set _ j _ (by rw [List.length_map]; omega), cM_get M j (by omega)]
  rw [List.getD_eq_getElem?_getD, List.getElem?_map, List.getElem?_eq_getElem (show j < M.length by omega)]
  rfl
theorem sumA_set (M : List S64) (i a b : Int) (hi : 0 ≤ i) (hl : i < (M.length : Int)) : sumA (M.set i.toNat ⟨a, b⟩) = sumA M - aM M i + b := by
  obtain ⟨j, rfl⟩ : ∃ j : Nat, i = (j : Int) := ⟨i.toNat, by omega⟩
  unfold sumA
  rw [List.map_set, Int.toNat_natCast, sumI_set _ j _ (by rw [List.length_map]; omega), aM_get M j (by omega)]
  rw [List.getD_eq_getElem?_getD, List.getElem?_map, List.getElem?_eq_getElem (show j < M.length by omega)]
  rfl
/-- What holds of the measures while they are made. -/
structure MInv (n : Int) (l : List S60) (t : Int) (M : List S64) : Prop where
  len : (M.length : Int) = n
  rng : ∀ v, 0 ≤ v → v < n → 0 ≤ cM M v ∧ cM M v ≤ 99999 ∧ 0 ≤ aM M v ∧ (cM M v = 99999 → aM M v = 0)
  tz : cM M t = 0 ∧ aM M t = 0
  way : ∀ v, 0 ≤ v → v < n → cM M v ≠ 99999 → Way l t v (cM M v) (aM M v).toNat
  par : ∀ v, 0 ≤ v → v < n → v ≠ t → cM M v ≠ 99999 → ∃ x ∈ l, x.f0 = v ∧ cM M x.f1 ≠ 99999 ∧ (cM M x.f1 + x.f2 < cM M v ∨ cM M x.f1 + x.f2 = cM M v ∧ aM M x.f1 + 1 ≤ aM M v)
  bnd : ∀ v, 0 ≤ v → v < n → aM M v + sumC M ≤ 799992
def pot (M : List S64) : Nat := (sumC M * 6399937 + sumA M).toNat
/-- An arc says that it can be nearer. -/
def Less (M : List S64) (x : S60) : Prop := cM M x.f1 + x.f2 < cM M x.f0 ∨ cM M x.f1 + x.f2 = cM M x.f0 ∧ aM M x.f1 + 1 < aM M x.f0
def Closed (l : List S60) (M : List S64) : Prop := ∀ x ∈ l, cM M x.f1 ≠ 99999 → ¬ Less M x
theorem MInv.sums {n : Int} {l : List S60} {t : Int} {M : List S64} (hn : Net1 n l) (h : MInv n l t M) : 0 ≤ sumC M ∧ 0 ≤ sumA M ∧ sumA M ≤ 6399936 := by
  have hl := h.len
  have hi := hn.hi
  have hc : ∀ x ∈ (M.map fun m => m.f0), 0 ≤ x := by
    intro x hx
    obtain ⟨m, hm, rfl⟩ := List.mem_map.1 hx
    obtain ⟨i, hi, rfl⟩ := List.getElem_of_mem hm
    have := h.rng i (by omega) (by omega)
    rw [cM_get M i hi] at this
    exact this.1
  have hC := sumI_nonneg _ hc
  have ha : ∀ x ∈ (M.map fun m => m.f1), 0 ≤ x ∧ x ≤ 799992 := by
    intro x hx
    obtain ⟨m, hm, rfl⟩ := List.mem_map.1 hx
    obtain ⟨i, hi, rfl⟩ := List.getElem_of_mem hm
    have h1 := h.rng i (by omega) (by omega)
    have h2 := h.bnd i (by omega) (by omega)
    rw [aM_get M i hi] at h1 h2
    unfold sumC at h2
    omega
  have h1 := sumI_nonneg _ fun x hx => (ha x hx).1
  have h2 := sumI_le8 _ 799992 (by omega) (by rw [List.length_map]; omega) fun x hx => (ha x hx).2
  exact ⟨hC, h1, by unfold sumA; omega⟩
set_option maxHeartbeats 4000000 in
theorem MInv.step {n : Int} {l : List S60} {t : Int} {M : List S64} (hn : Net1 n l) (h : MInv n l t M) {x : S60} (hx : x ∈ l) (hw : cM M x.f1 ≠ 99999) (hL : Less M x) :
    MInv n l t (M.set x.f0.toNat ⟨cM M x.f1 + x.f2, aM M x.f1 + 1⟩) ∧ pot (M.set x.f0.toNat ⟨cM M x.f1 + x.f2, aM M x.f1 + 1⟩) < pot M := by
  obtain ⟨e1, e2, e3, e4, e5, e6, e7, _⟩ := hn.ends x hx
  have hlen := h.len
  have hlt : x.f0 < (M.length : Int) := by omega
  have r0 := h.rng x.f0 e1 e2
  have r1 := h.rng x.f1 e3 e4
  have b0 := h.bnd x.f0 e1 e2
  have b1 := h.bnd x.f1 e3 e4
  have hc : ∀ j, 0 ≤ j → cM (M.set x.f0.toNat ⟨cM M x.f1 + x.f2, aM M x.f1 + 1⟩) j = if x.f0 = j then cM M x.f1 + x.f2 else cM M j := fun j hj => cM_set M x.f0 j _ _ e1 hlt hj
  have ha : ∀ j, 0 ≤ j → aM (M.set x.f0.toNat ⟨cM M x.f1 + x.f2, aM M x.f1 + 1⟩) j = if x.f0 = j then aM M x.f1 + 1 else aM M j := fun j hj => aM_set M x.f0 j _ _ e1 hlt hj
  have sC := sumC_set M x.f0 (cM M x.f1 + x.f2) (aM M x.f1 + 1) e1 hlt
  have sA := sumA_set M x.f0 (cM M x.f1 + x.f2) (aM M x.f1 + 1) e1 hlt
  obtain ⟨s1, s2, s3⟩ := h.sums hn
  unfold Less at hL
  have hz := h.tz
  have hut : x.f0 ≠ t := by
    intro e
    rw [e] at hL
    omega
  have hinv : MInv n l t (M.set x.f0.toNat ⟨cM M x.f1 + x.f2, aM M x.f1 + 1⟩) := by
    refine ⟨by rw [List.length_set]; exact hlen, ?_, ?_, ?_, ?_, ?_⟩
    · intro v v0 v1
      rw [hc v v0, ha v v0]
      have := h.rng v v0 v1
      split
      · omega
      · exact this
    · by_cases ht : 0 ≤ t
      · rw [hc t ht, ha t ht, if_neg hut, if_neg hut]; exact hz
      · have h1 : ∀ L : List S64, cM L t = cM L 0 ∧ aM L t = aM L 0 := by
          intro L
          have : t.toNat = (0 : Int).toNat := by omega
          unfold cM aM rd_T64
          rw [this]
          exact ⟨rfl, rfl⟩
        rw [(h1 _).1, (h1 _).2] at hz ⊢
        rw [hc 0 (by omega), ha 0 (by omega)]
        by_cases h2 : x.f0 = 0
        · rw [h2] at hL; omega
        · rw [if_neg h2, if_neg h2]; exact hz
    · intro v v0 v1
      rw [hc v v0, ha v v0]
      by_cases e : x.f0 = v
      · subst e
        rw [if_pos rfl, if_pos rfl]
        intro _
        have hw' := h.way x.f1 e3 e4 hw
        have hm : (aM M x.f1 + 1).toNat = (aM M x.f1).toNat + 1 := by omega
        rw [hm, Int.add_comm]
        exact Way.cons hx hw'
      · rw [if_neg e, if_neg e]; exact h.way v v0 v1
    · intro v v0 v1 vt
      rw [hc v v0, ha v v0]
      by_cases e : x.f0 = v
      · subst e
        rw [if_pos rfl, if_pos rfl]
        intro _
        refine ⟨x, hx, rfl, ?_, ?_⟩
        · rw [hc x.f1 e3, if_neg e5]; exact hw
        · rw [hc x.f1 e3, ha x.f1 e3, if_neg e5, if_neg e5]; omega
      · rw [if_neg e, if_neg e]
        intro hv
        obtain ⟨y, hy, y0, y1, y2⟩ := h.par v v0 v1 vt hv
        have ey := hn.ends y hy
        refine ⟨y, hy, y0, ?_, ?_⟩
        · rw [hc y.f1 ey.2.2.1]
          split
          · omega
          · exact y1
        · rw [hc y.f1 ey.2.2.1, ha y.f1 ey.2.2.1]
          by_cases e2 : x.f0 = y.f1
          · rw [if_pos e2, if_pos e2]; rw [← e2] at y2; omega
          · rw [if_neg e2, if_neg e2]; exact y2
    · intro v v0 v1
      rw [ha v v0, sC]
      have := h.bnd v v0 v1
      split <;> omega
  refine ⟨hinv, ?_⟩
  obtain ⟨t1, t2, t3⟩ := hinv.sums hn
  unfold pot
  rw [sC] at t1 ⊢
  rw [sA] at t2 t3 ⊢
  omega
/-- What the program's measures are at the end. -/
def Fin1 (n : Int) (l : List S60) (t : Int) (M : List S64) : Prop := MInv n l t M ∧ Closed l M
theorem less_eq (a b c d : Int) : impl_measure_less.f a b c d = some (decide (a < c ∨ a = c ∧ b < d)) := by
  unfold impl_measure_less.f
  by_cases h : a < c
  · rw [if_pos h]; simp [h]
  · by_cases h2 : a = c
    · subst h2; simp
    · rw [if_neg h, if_neg h2]; simp [h, h2]
set_option maxHeartbeats 4000000 in
theorem toward_loop {n : Int} {l : List S60} (hn : Net1 n l) {t : Int} : ∀ s : List S64 × Bool, (MInv n l t s.1 ∧ (s.2 = false → Closed l s.1)) → ∃ R, Fin1 n l t R ∧ Ev (fun k => impl_Net_toward.l0 k s.1 s.2 n l) R := by
  refine ev_ex (fun k (s : List S64 × Bool) => impl_Net_toward.l0 k s.1 s.2 n l) (fun s => pot s.1 * 2 + (if s.2 = true then 1 else 0)) (fun s => MInv n l t s.1 ∧ (s.2 = false → Closed l s.1)) (Fin1 n l t) ?_
  rintro ⟨M, b⟩ ⟨hM, hC⟩ ih
  simp only at hM hC ih ⊢
  have hll := hn.len
  cases b with
  | false => exact ⟨M, ⟨hM, hC rfl⟩, ev_now fun k => by simp [impl_Net_toward.l0]⟩
  | true =>
    simp only [impl_Net_toward.l0, if_true]
    have inner := ev_ex (fun k (s : Nat × List S64 × Bool) => impl_Net_toward.l1 k s.2.1 s.2.2 l (l.length : Int) (s.1 : Int) n l) (fun s => l.length - s.1)
      (fun s => s.1 ≤ l.length ∧ MInv n l t s.2.1 ∧ ((s.2.2 = false ∧ s.2.1 = M ∧ ∀ j, j < s.1 → ∀ hj : j < l.length, cM M l[j].f1 ≠ 99999 → ¬ Less M l[j]) ∨ (s.2.2 = true ∧ pot s.2.1 < pot M))) (Fin1 n l t) ?_ (0, M, false) ⟨Nat.zero_le _, hM, .inl ⟨rfl, rfl, fun j hj => absurd hj (Nat.not_lt_zero _)⟩⟩
    · exact inner
    rintro ⟨i, M1, b1⟩ ⟨hi, hM1, hb⟩ ih2
    simp only at hi hM1 hb ih2 ⊢
    by_cases h : i < l.length
    · have hlt : (i : Int) < (l.length : Int) := by omega
      have h0 : (0 : Int) ≤ (i : Int) := by omega
      have hxl : l[i] ∈ l := List.getElem_mem h
      obtain ⟨e1, e2, e3, e4, e5, e6, e7, _⟩ := hn.ends l[i] hxl
      have hlen := hM1.len
      have g1 : l[i].f1 < (M1.length : Int) := by omega
      have g0 : l[i].f0 < (M1.length : Int) := by omega
      simp only [impl_Net_toward.l1, hlt, h0, if_true, arc_at l i h, e1, e3, g0, g1, wsucc h (show l.length ≤ 9223372036854775807 by omega), less_eq, Option.bind_some]
      have r1 := hM1.rng l[i].f1 e3 e4
      have b1' := hM1.bnd l[i].f1 e3 e4
      have hs := hM1.sums hn
      by_cases hf : cM M1 l[i].f1 = 99999
      · have hf' : (rd_T64 M1 l[i].f1).f0 = 99999 := hf
        simp only [hf', if_true]
        refine ih2 (i + 1, M1, b1) ⟨by simp; omega, hM1, ?_⟩ (by simp; omega)
        rcases hb with ⟨q1, q2, q3⟩ | q
        · refine .inl ⟨q1, q2, fun j hj hjl hc => ?_⟩
          by_cases hji : j = i
          · subst hji; rw [← q2] at hc; exact absurd hf hc
          · exact q3 j (by simp at hj; omega) hjl hc
        · exact .inr q
      · have hf' : ¬ (rd_T64 M1 l[i].f1).f0 = 99999 := hf
        have w1 : wrap64 ((rd_T64 M1 l[i].f1).f0 + l[i].f2) = cM M1 l[i].f1 + l[i].f2 := by unfold cM at *; exact w_id (by omega) (by omega)
        have w2 : wrap64 ((rd_T64 M1 l[i].f1).f1 + 1) = aM M1 l[i].f1 + 1 := by unfold aM at *; exact w_id (by omega) (by omega)
        simp only [hf', if_false, w1, w2]
        by_cases hL : Less M1 l[i]
        · have hL' : (cM M1 l[i].f1 + l[i].f2 < (rd_T64 M1 l[i].f0).f0 ∨ cM M1 l[i].f1 + l[i].f2 = (rd_T64 M1 l[i].f0).f0 ∧ aM M1 l[i].f1 + 1 < (rd_T64 M1 l[i].f0).f1) := hL
          simp only [hL', decide_true, if_true]
          obtain ⟨hs1, hs2⟩ := hM1.step hn hxl hf hL
          refine ih2 (i + 1, _, true) ⟨by simp; omega, hs1, .inr ⟨rfl, ?_⟩⟩ (by simp; omega)
          rcases hb with ⟨_, q2, _⟩ | ⟨_, q⟩
          · rw [← q2]; exact hs2
          · exact Nat.lt_trans hs2 q
        · have hL' : ¬ (cM M1 l[i].f1 + l[i].f2 < (rd_T64 M1 l[i].f0).f0 ∨ cM M1 l[i].f1 + l[i].f2 = (rd_T64 M1 l[i].f0).f0 ∧ aM M1 l[i].f1 + 1 < (rd_T64 M1 l[i].f0).f1) := hL
          simp only [hL', decide_false, Bool.false_eq_true, if_false]
          refine ih2 (i + 1, M1, b1) ⟨by simp; omega, hM1, ?_⟩ (by simp; omega)
          rcases hb with ⟨q1, q2, q3⟩ | q
          · refine .inl ⟨q1, q2, fun j hj hjl hc => ?_⟩
            by_cases hji : j = i
            · subst hji; rw [← q2]; exact hL
            · exact q3 j (by simp at hj; omega) hjl hc
          · exact .inr q
    · have hlt : ¬ (i : Int) < (l.length : Int) := by omega
      simp only [impl_Net_toward.l1, hlt, if_false]
      rcases hb with ⟨q1, q2, q3⟩ | ⟨q1, q2⟩
      · subst q1
        refine ih (M1, false) ⟨hM1, fun _ x hx hc => ?_⟩ (by rw [q2]; simp)
        obtain ⟨j, hj, rfl⟩ := List.getElem_of_mem hx
        rw [q2] at hc ⊢
        exact q3 j (by omega) hj hc
      · subst q1
        exact ih (M1, true) ⟨hM1, fun h => by cases h⟩ (by simp; omega)
theorem minv_start {n : Int} {l : List S60} (hn : Net1 n l) {t : Int} (h0 : 0 ≤ t) (h1 : t < n) : MInv n l t ((List.replicate n.toNat (⟨99999, 0⟩ : S64)).set t.toNat ⟨0, 0⟩) := by
  have hlo := hn.lo
  have hhi := hn.hi
  have hll : ((List.replicate n.toNat (⟨99999, 0⟩ : S64)).length : Int) = n := by rw [List.length_replicate]; omega
  have hc : ∀ v, 0 ≤ v → v < n → cM ((List.replicate n.toNat (⟨99999, 0⟩ : S64)).set t.toNat ⟨0, 0⟩) v = if t = v then 0 else 99999 := by
    intro v v0 v1
    rw [cM_set _ t v _ _ h0 (by omega) v0]
    split
    · rfl
    · obtain ⟨j, rfl⟩ : ∃ j : Nat, v = (j : Int) := ⟨v.toNat, by omega⟩
      rw [cM_get _ j (by rw [List.length_replicate]; omega), List.getElem_replicate]
  have ha : ∀ v, 0 ≤ v → v < n → aM ((List.replicate n.toNat (⟨99999, 0⟩ : S64)).set t.toNat ⟨0, 0⟩) v = 0 := by
    intro v v0 v1
    rw [aM_set _ t v _ _ h0 (by omega) v0]
    split
    · rfl
    · obtain ⟨j, rfl⟩ : ∃ j : Nat, v = (j : Int) := ⟨v.toNat, by omega⟩
      rw [aM_get _ j (by rw [List.length_replicate]; omega), List.getElem_replicate]
  refine ⟨by rw [List.length_set]; exact hll, ?_, ?_, ?_, ?_, ?_⟩
  · intro v v0 v1
    rw [hc v v0 v1, ha v v0 v1]
    split <;> omega
  · rw [hc t h0 h1, ha t h0 h1, if_pos rfl]; exact ⟨rfl, rfl⟩
  · intro v v0 v1
    rw [hc v v0 v1, ha v v0 v1]
    split
    · rename_i e; subst e; intro _; exact Way.nil
    · intro h; exact absurd rfl h
  · intro v v0 v1 vt
    rw [hc v v0 v1, if_neg (Ne.symm vt)]
    intro h; exact absurd rfl h
  · intro v v0 v1
    rw [ha v v0 v1]
    have := sumI_le8 (((List.replicate n.toNat (⟨99999, 0⟩ : S64)).set t.toNat ⟨0, 0⟩).map fun m => m.f0) 99999 (by omega) (by rw [List.length_map, List.length_set, List.length_replicate]; omega) (by
      intro x hx
      obtain ⟨m, hm, rfl⟩ := List.mem_map.1 hx
      rcases List.mem_or_eq_of_mem_set hm with h | h
      · rw [List.eq_of_mem_replicate h]; exact Int.le_refl _
      · rw [h]; simp)
    unfold sumC
    omega
/-- No walk is nearer than the measures say. -/
theorem Fin1.low {n : Int} {l : List S60} (hn : Net1 n l) {t : Int} {M : List S64} (hM : Fin1 n l t M) {v c : Int} {m : Nat} (h : Way l t v c m) : cM M v < c ∨ (cM M v = c ∧ aM M v ≤ m) ∨ 99999 ≤ c := by
  induction h with
  | nil => rw [hM.1.tz.1, hM.1.tz.2]; exact .inr (.inl ⟨rfl, by omega⟩)
  | @cons x c m hx h ih =>
    obtain ⟨e1, e2, e3, e4, e5, e6, e7, _⟩ := hn.ends x hx
    have r0 := hM.1.rng x.f0 e1 e2
    by_cases hf : cM M x.f1 = 99999
    · rcases ih with ih | ih | ih <;> omega
    · have := hM.2 x hx hf
      unfold Less at this
      rcases ih with ih | ih | ih <;> omega
theorem Fin1.levels {n : Int} {l : List S60} (hn : Net1 n l) {t : Int} {M : List S64} (hM : Fin1 n l t M) (m : Nat) : ∀ v, 0 ≤ v → v < n → cM M v ≠ 99999 → aM M v = (m : Int) → ∀ j : Nat, j ≤ m → ∃ u, 0 ≤ u ∧ u < n ∧ aM M u = (j : Int) := by
  induction m with
  | zero => intro v v0 v1 _ hm j hj; exact ⟨v, v0, v1, by rw [hm]; omega⟩
  | succ m ih =>
    intro v v0 v1 hc hm j hj
    by_cases hj2 : j = m + 1
    · exact ⟨v, v0, v1, by rw [hm, hj2]⟩
    · have hvt : v ≠ t := by intro e; rw [e, hM.1.tz.2] at hm; omega
      obtain ⟨x, hx, x0, x1, x2⟩ := hM.1.par v v0 v1 hvt hc
      obtain ⟨e1, e2, e3, e4, e5, e6, e7, _⟩ := hn.ends x hx
      have := hM.2 x hx x1
      unfold Less at this
      rw [x0] at this
      exact ih x.f1 e3 e4 x1 (by omega) j (by omega)
theorem Fin1.few {n : Int} {l : List S60} (hn : Net1 n l) {t : Int} {M : List S64} (hM : Fin1 n l t M) {v : Int} (v0 : 0 ≤ v) (v1 : v < n) (hc : cM M v ≠ 99999) : aM M v + 1 ≤ n := by
  have hlen := hM.1.len
  have r := hM.1.rng v v0 v1
  have := levels_len ((aM M v).toNat + 1) (M.map fun m => m.f1) (by
    intro j hj
    obtain ⟨u, u0, u1, hu⟩ := hM.levels hn (aM M v).toNat v v0 v1 hc (by omega) j (by omega)
    obtain ⟨i, rfl⟩ : ∃ i : Nat, u = (i : Int) := ⟨u.toNat, by omega⟩
    rw [aM_get M i (by omega)] at hu
    rw [← hu]
    exact List.mem_map.2 ⟨M[i], List.getElem_mem _, rfl⟩)
  rw [List.length_map] at this
  omega
/-! ### what walks cost -/
def costS (l : List S60) : List Int → Int
  | [] => 0
  | x :: xs => (rd_T60 l x).f2 + costS l xs
/-! ### what a walk costs -/
theorem arc_cost {n : Int} {l : List S60} (hn : Net1 n l) {x : Int} (h0 : 0 ≤ x) (h1 : x < (l.length : Int)) : 0 ≤ (rd_T60 l x).f2 ∧ (rd_T60 l x).f2 ≤ 99 := by
  obtain ⟨j, rfl⟩ := Int.eq_ofNat_of_zero_le h0
  rw [arc_at l j (by omega)]
  obtain ⟨_, _, _, _, _, h2, h3, _⟩ := hn.ends _ (List.getElem_mem (show j < l.length by omega))
  exact ⟨h2, h3⟩
theorem costS_rng {n : Int} {l : List S60} (hn : Net1 n l) : ∀ a : List Int, (∀ x ∈ a, 0 ≤ x ∧ x < (l.length : Int)) → 0 ≤ costS l a ∧ costS l a ≤ 99 * (a.length : Int) := by
  intro a
  induction a with
  | nil => intro _; simp [costS]
  | cons x xs ih =>
    intro h
    have h1 := h x (by simp)
    have h2 := arc_cost hn h1.1 h1.2
    have h3 := ih fun y hy => h y (by simp [hy])
    simp only [costS, List.length_cons]
    omega
theorem walk_in {l : List S60} {w : List Int} (hl : l.length ≤ 9223372036854775807) (h : walkB l w = true) : ∀ x ∈ w, 0 ≤ x ∧ x < (l.length : Int) := by
  intro x hx
  obtain ⟨i, hi, rfl⟩ := List.getElem_of_mem hx
  exact walkAt_in hl h i hi
theorem walk_len {l : List S60} {w : List Int} (h : walkB l w = true) : w.length ≤ 20 := by
  unfold walkB at h
  simp only [Bool.and_eq_true, decide_eq_true_eq] at h
  exact h.2
theorem cost_ev {n : Int} {l : List S60} (hn : Net1 n l) (a : List Int) (ha : ∀ x ∈ a, 0 ≤ x ∧ x < (l.length : Int)) (hl : a.length ≤ 10000) : Ev (fun k => impl_Net_cost.f k n l a) (costS l a) := by
  unfold impl_Net_cost.f
  have hll := hn.len
  have := ev_ind (fun k (s : Nat × Int) => impl_Net_cost.l0 k s.2 a (a.length : Int) (s.1 : Int) n l) (fun s => a.length - s.1) (fun s => s.1 ≤ a.length ∧ 0 ≤ s.2 ∧ s.2 ≤ 99 * (s.1 : Int)) (fun s => s.2 + costS l (a.drop s.1)) ?_ (0, 0) ⟨Nat.zero_le _, by simp, by simp⟩
  · simpa using this
  rintro ⟨i, acc⟩ ⟨hi, h1, h2⟩ ih
  simp only at hi h1 h2 ih ⊢
  by_cases h : i < a.length
  · have hlt : (i : Int) < (a.length : Int) := by omega
    have h0 : (0 : Int) ≤ (i : Int) := by omega
    obtain ⟨b0, b1⟩ := ha _ (List.getElem_mem h)
    have hc := arc_cost hn b0 b1
    have hw : wrap64 (acc + (rd_T60 l a[i]).f2) = acc + (rd_T60 l a[i]).f2 := w_id (by omega) (by omega)
    simp only [impl_Net_cost.l0, hlt, h0, if_true, rd_at a i h, wsucc h (show a.length ≤ 9223372036854775807 by omega), b0, b1, hw]
    refine ev_at (ih (i + 1, acc + (rd_T60 l a[i]).f2) ⟨by simp; omega, by simp; omega, by simp; omega⟩ (by simp; omega)) ?_
    rw [List.drop_eq_getElem_cons h]
    simp only [costS]
    omega
  · have hlt : ¬ (i : Int) < (a.length : Int) := by omega
    simp only [impl_Net_cost.l0, hlt, if_false]
    refine ev_now fun k => ?_
    rw [List.drop_of_length_le (by omega)]
    simp [costS]
theorem walkCost_ev {n : Int} {l : List S60} (hok : netOkB n l = true) (a : List Int) (ha : walkB l a = true) : Ev (fun k => impl_WalkCost.f k n l a) (costS l a) := by
  have hn := net1_of hok
  have hll := hn.len
  have h20 := walk_len ha
  unfold impl_WalkCost.f
  refine Ev.bind (walkOk_ev n l a (by omega) (by omega)) ?_
  simp only [hok, ha, Bool.and_self, if_true]
  exact Ev.bind (cost_ev hn a (walk_in (by omega) ha) (by omega)) (ev_now fun _ => rfl)
theorem chainB_iff (l : List S60) (w : List Int) : chainB l w = true ↔ ∀ i, i < w.length → chk l w i = true := by
  unfold chainB
  rw [List.all_eq_true]
  constructor
  · intro h i hi; exact h i (by rw [List.mem_range'_1]; omega)
  · intro h i hi; rw [List.mem_range'_1] at hi; exact h i (by omega)
/-! ### the reference's least costs, and that both are the same -/
def revA (x : S60) : S60 := ⟨x.f1, x.f0, x.f2, x.f3, x.f4⟩
def backL (l : List S60) : List S60 := l.map revA
theorem backL_backL (l : List S60) : backL (backL l) = l := by
  unfold backL
  rw [List.map_map]
  have : revA ∘ revA = id := by funext x; rfl
  rw [this, List.map_id]
theorem backL_length (l : List S60) : (backL l).length = l.length := by unfold backL; rw [List.length_map]
theorem Net1.back {n : Int} {l : List S60} (hn : Net1 n l) : Net1 n (backL l) := by
  refine ⟨hn.lo, hn.hi, by rw [backL_length]; exact hn.len, fun x hx => ?_⟩
  obtain ⟨y, hy, rfl⟩ := List.mem_map.1 hx
  obtain ⟨a, b, c, d, e, f⟩ := hn.ends y hy
  exact ⟨c, d, a, b, fun z => e z.symm, f⟩
/-- What holds of the reference's costs while they are made. -/
structure SInv (n : Int) (l : List S60) (s : Int) (D : List Int) : Prop where
  len : (D.length : Int) = n
  rng : ∀ v, 0 ≤ v → v < n → 0 ≤ rd D v ∧ rd D v ≤ 99999
  sz : rd D s = 0
  way : ∀ v, 0 ≤ v → v < n → rd D v < 99999 → ∃ m, Way (backL l) s v (rd D v) m
def RInv (l : List S60) (s : Int) (D : List Int) (r : Nat) : Prop := ∀ v c m, Way (backL l) s v c m → m ≤ r → rd D v ≤ c
theorem SInv.step {n : Int} {l : List S60} {s : Int} {D : List Int} (hn : Net1 n l) (hs : 0 ≤ s ∧ s < n) (h : SInv n l s D) {y : S60} (hy : y ∈ l) (hf : rd D y.f0 < 99999) (hL : rd D y.f0 + y.f2 < rd D y.f1) :
    SInv n l s (D.set y.f1.toNat (rd D y.f0 + y.f2)) ∧ ∀ v, 0 ≤ v → v < n → rd (D.set y.f1.toNat (rd D y.f0 + y.f2)) v ≤ rd D v := by
  obtain ⟨e1, e2, e3, e4, e5, e6, e7, _⟩ := hn.ends y hy
  have hlen := h.len
  have hlt : y.f1 < (D.length : Int) := by omega
  have hc : ∀ j, 0 ≤ j → rd (D.set y.f1.toNat (rd D y.f0 + y.f2)) j = if y.f1 = j then rd D y.f0 + y.f2 else rd D j := fun j hj => rdi_set D y.f1 j _ e3 hlt hj
  have r0 := h.rng y.f0 e1 e2
  have r1 := h.rng y.f1 e3 e4
  have hys : y.f1 ≠ s := by intro e; rw [e, h.sz] at hL; omega
  refine ⟨⟨by rw [List.length_set]; exact hlen, ?_, ?_, ?_⟩, ?_⟩
  · intro v v0 v1
    rw [hc v v0]
    have := h.rng v v0 v1
    split <;> omega
  · rw [hc s hs.1, if_neg hys]; exact h.sz
  · intro v v0 v1
    rw [hc v v0]
    by_cases e : y.f1 = v
    · rw [if_pos e]
      intro _
      obtain ⟨m, hm⟩ := h.way y.f0 e1 e2 hf
      refine ⟨m + 1, ?_⟩
      have hx : revA y ∈ backL l := List.mem_map.2 ⟨y, hy, rfl⟩
      have := Way.cons (t := s) hx (show Way (backL l) s (revA y).f1 (rd D y.f0) m from hm)
      rw [Int.add_comm, ← e]
      exact this
    · rw [if_neg e]; exact h.way v v0 v1
  · intro v v0 v1
    rw [hc v v0]
    split
    · rename_i e; rw [← e]; omega
    · exact Int.le_refl _
theorem l3All_round {n : Int} {l : List S60} (hn : Net1 n l) {s : Int} (hs : 0 ≤ s ∧ s < n) (r : Nat) (D0 : List Int) (h0 : SInv n l s D0) (hR : RInv l s D0 r) (q : Int) (P : List Int → Prop)
    (next : ∀ D, SInv n l s D → RInv l s D (r + 1) → ∃ R, P R ∧ Ev (fun k => spec_l3All.l1 k D (wrap64 (q + 1)) n l) R) :
    ∃ R, P R ∧ Ev (fun k => spec_l3All.l2 k D0 q 0 n l) R := by
  have hll := hn.len
  refine ev_ex (fun k (x : Nat × List Int) => spec_l3All.l2 k x.2 q (x.1 : Int) n l) (fun x => l.length - x.1) (fun x => x.1 ≤ l.length ∧ SInv n l s x.2 ∧ (∀ v, 0 ≤ v → v < n → rd x.2 v ≤ rd D0 v) ∧ ∀ j, j < x.1 → ∀ hj : j < l.length, rd x.2 l[j].f1 ≤ rd D0 l[j].f0 + l[j].f2 ∨ 99999 ≤ rd D0 l[j].f0) P ?_ (0, D0) ⟨Nat.zero_le _, h0, fun _ _ _ => Int.le_refl _, fun j hj => absurd hj (Nat.not_lt_zero _)⟩
  rintro ⟨i, D⟩ ⟨hi, hD, hle, hj⟩ ih
  simp only at hi hD hle hj ih ⊢
  by_cases h : i < l.length
  · have hlt : (i : Int) < (l.length : Int) := by omega
    have h0' : (0 : Int) ≤ (i : Int) := by omega
    have hxl : l[i] ∈ l := List.getElem_mem h
    obtain ⟨e1, e2, e3, e4, e5, e6, e7, _⟩ := hn.ends l[i] hxl
    have hlen := hD.len
    have g0 : l[i].f0 < (D.length : Int) := by omega
    have g1 : l[i].f1 < (D.length : Int) := by omega
    have r0 := hD.rng l[i].f0 e1 e2
    have r1 := hD.rng l[i].f1 e3 e4
    have l0 := hle l[i].f0 e1 e2
    have l1 := hle l[i].f1 e3 e4
    have w1 : wrap64 (rd D l[i].f0 + l[i].f2) = rd D l[i].f0 + l[i].f2 := w_id (by omega) (by omega)
    simp only [spec_l3All.l2, hlt, h0', if_true, arc_at l i h, e1, e3, g0, g1, wsucc h (show l.length ≤ 9223372036854775807 by omega), w1]
    by_cases hf : rd D l[i].f0 < 99999
    · by_cases hL : rd D l[i].f0 + l[i].f2 < rd D l[i].f1
      · simp only [hf, hL, if_true]
        obtain ⟨s1, s2⟩ := hD.step hn hs hxl hf hL
        refine ih (i + 1, D.set l[i].f1.toNat (rd D l[i].f0 + l[i].f2)) ⟨by simp; omega, s1, fun v v0 v1 => Int.le_trans (s2 v v0 v1) (hle v v0 v1), ?_⟩ (by simp; omega)
        intro j hji hjl
        simp only at hji ⊢
        obtain ⟨_, _, j3, j4, _⟩ := hn.ends l[j] (List.getElem_mem hjl)
        by_cases hjj : j = i
        · subst hjj
          left
          rw [rdi_set D _ _ _ e3 g1 e3, if_pos rfl]
          omega
        · rcases hj j (by omega) hjl with z | z
          · exact .inl (Int.le_trans (s2 _ j3 j4) z)
          · exact .inr z
      · simp only [hf, hL, if_true, if_false]
        refine ih (i + 1, D) ⟨by simp; omega, hD, hle, ?_⟩ (by simp; omega)
        intro j hji hjl
        simp only at hji ⊢
        by_cases hjj : j = i
        · subst hjj; omega
        · exact hj j (by omega) hjl
    · simp only [hf, if_false]
      refine ih (i + 1, D) ⟨by simp; omega, hD, hle, ?_⟩ (by simp; omega)
      intro j hji hjl
      simp only at hji ⊢
      by_cases hjj : j = i
      · subst hjj; right; omega
      · exact hj j (by omega) hjl
  · have hlt : ¬ (i : Int) < (l.length : Int) := by omega
    simp only [spec_l3All.l2, hlt, if_false]
    refine next D hD ?_
    intro v c m hw hm
    cases hw with
    | nil => rw [hD.sz]; exact Int.le_refl _
    | @cons x c m hx hw =>
      obtain ⟨y, hy, rfl⟩ := List.mem_map.1 hx
      obtain ⟨j, hjl, rfl⟩ := List.getElem_of_mem hy
      have h1 := hR _ _ _ hw (by omega)
      obtain ⟨j1, j2, j3, j4, j5, j6, j7, _⟩ := hn.ends l[j] hy
      have r1 := hD.rng l[j].f1 j3 j4
      have h2 := hj j (by omega) hjl
      simp only [revA] at h1 ⊢
      omega
theorem l3All_fill {n : Int} {l : List S60} (hn : Net1 n l) {s : Int} (hs : 0 ≤ s ∧ s < n) (P : List Int → Prop)
    (next : ∀ D, SInv n l s D → RInv l s D 0 → ∃ R, P R ∧ Ev (fun k => spec_l3All.l1 k D 0 n l) R) : ∃ R, P R ∧ Ev (fun k => spec_l3All.f k n l s) R := by
  have hlo := hn.lo
  have hhi := hn.hi
  unfold spec_l3All.f
  have b1 : (0 : Int) ≤ n := by omega
  have b2 : n.toNat ≤ 35184372088832 := by omega
  simp only [b1, b2, if_true]
  refine ev_ex (fun k (x : Nat × List Int) => spec_l3All.l0 k s x.2 (x.1 : Int) n l) (fun x => n.toNat - x.1) (fun x => x.1 ≤ n.toNat ∧ (x.2.length : Int) = n ∧ ∀ j : Nat, j < x.1 → rd x.2 (j : Int) = 99999) P ?_ (0, List.replicate n.toNat 0) ⟨Nat.zero_le _, by rw [List.length_replicate]; omega, fun j hj => absurd hj (Nat.not_lt_zero _)⟩
  rintro ⟨i, D⟩ ⟨hi, hlen, hj⟩ ih
  simp only at hi hlen hj ih ⊢
  by_cases h : i < n.toNat
  · have hlt : (i : Int) < n := by omega
    have h0 : (0 : Int) ≤ (i : Int) := by omega
    have g : (i : Int) < (D.length : Int) := by omega
    simp only [spec_l3All.l0, hlt, h0, g, if_true, wsucc h (show n.toNat ≤ 9223372036854775807 by omega)]
    refine ih (i + 1, D.set (i : Int).toNat 99999) ⟨by simp; omega, by rw [List.length_set]; exact hlen, ?_⟩ (by simp; omega)
    intro j hji
    simp only at hji ⊢
    rw [rdi_set D _ _ _ h0 g (by omega)]
    by_cases e : (i : Int) = (j : Int)
    · rw [if_pos e]
    · rw [if_neg e]; exact hj j (by omega)
  · have hlt : ¬ (i : Int) < n := by omega
    have g : s < (D.length : Int) := by omega
    simp only [spec_l3All.l0, hlt, hs.1, g, if_false, if_true]
    have hc : ∀ j, 0 ≤ j → j < n → rd (D.set s.toNat 0) j = if s = j then 0 else 99999 := by
      intro j j0 j1
      rw [rdi_set D _ _ _ hs.1 g j0]
      split
      · rfl
      · obtain ⟨k, rfl⟩ : ∃ k : Nat, j = (k : Int) := ⟨j.toNat, by omega⟩
        exact hj k (by omega)
    refine next _ ⟨by rw [List.length_set]; exact hlen, ?_, ?_, ?_⟩ ?_
    · intro v v0 v1
      rw [hc v v0 v1]
      split <;> omega
    · rw [hc s hs.1 hs.2, if_pos rfl]
    · intro v v0 v1
      rw [hc v v0 v1]
      split
      · rename_i e; subst e; intro _; exact ⟨0, Way.nil⟩
      · intro h; omega
    · intro v c m hw hm
      cases hw with
      | nil => rw [hc s hs.1 hs.2, if_pos rfl]; exact Int.le_refl _
      | cons _ _ => omega
theorem l3All_ex {n : Int} {l : List S60} (hn : Net1 n l) {s : Int} (hs : 0 ≤ s ∧ s < n) : ∃ D, (SInv n l s D ∧ RInv l s D n.toNat) ∧ Ev (fun k => spec_l3All.f k n l s) D := by
  have hlo := hn.lo
  have hhi := hn.hi
  refine l3All_fill hn hs _ fun D hD hR => ?_
  refine ev_ex (fun k (x : Nat × List Int) => spec_l3All.l1 k x.2 (x.1 : Int) n l) (fun x => n.toNat - x.1) (fun x => x.1 ≤ n.toNat ∧ SInv n l s x.2 ∧ RInv l s x.2 x.1) _ ?_ (0, D) ⟨Nat.zero_le _, hD, hR⟩
  rintro ⟨r, D⟩ ⟨hr, hD, hR⟩ ih
  simp only at hr hD hR ih ⊢
  by_cases h : r < n.toNat
  · have hlt : (r : Int) < n := by omega
    simp only [spec_l3All.l1, hlt, if_true]
    refine l3All_round hn hs r D hD hR r _ fun D1 h1 h2 => ?_
    rw [wsucc h (show n.toNat ≤ 9223372036854775807 by omega)]
    exact ih (r + 1, D1) ⟨by simp; omega, h1, h2⟩ (by simp; omega)
  · have hlt : ¬ (r : Int) < n := by omega
    simp only [spec_l3All.l1, hlt, if_false]
    have : r = n.toNat := by omega
    rw [this] at hR
    exact ⟨D, ⟨hD, hR⟩, ev_now fun _ => rfl⟩
theorem costs_ev (M : List S64) (h : M.length ≤ 1000) : Ev (fun k => impl_costs.f k M) (M.map fun m => m.f0) := by
  unfold impl_costs.f
  have h1 : ((M.length : Int) : Int).toNat ≤ 35184372088832 := by omega
  simp only [h1, if_true]
  have := ev_ind (fun k (s : Nat × List Int) => impl_costs.l0 k s.2 M (M.length : Int) (s.1 : Int)) (fun s => M.length - s.1) (fun s => s.1 ≤ M.length ∧ s.2.length ≤ s.1) (fun s => s.2 ++ (M.drop s.1).map fun m => m.f0) ?_ (0, []) ⟨Nat.zero_le _, by simp⟩
  · simpa using this
  rintro ⟨i, x⟩ ⟨hi, hx⟩ ih
  simp only at hi hx ih ⊢
  by_cases h : i < M.length
  · have hlt : (i : Int) < (M.length : Int) := by omega
    have h0 : (0 : Int) ≤ (i : Int) := by omega
    have b1 : x.length < 17592186044416 := by omega
    simp only [impl_costs.l0, hlt, h0, b1, if_true, wsucc h (show M.length ≤ 9223372036854775807 by omega)]
    refine ev_at (ih (i + 1, x ++ [(rd_T64 M (i : Int)).f0]) ⟨by simp; omega, by simp; omega⟩ (by simp; omega)) ?_
    rw [List.drop_eq_getElem_cons h, List.map_cons, List.append_assoc]
    simp [rd_T64, h]
  · have hlt : ¬ (i : Int) < (M.length : Int) := by omega
    simp only [impl_costs.l0, hlt, if_false]
    refine ev_now fun k => ?_
    rw [List.drop_of_length_le (by omega)]
    simp
theorem back_ev (n : Int) (l : List S60) (hl : l.length ≤ 1000) : Ev (fun k => impl_Net_back.f k n l) (n, backL l) := by
  unfold impl_Net_back.f
  have h1 : ((l.length : Int) : Int).toNat ≤ 7036874417766 := by omega
  simp only [h1, if_true]
  have := ev_ind (fun k (s : Nat × List S60) => impl_Net_back.l0 k l (l.length : Int) (s.1 : Int) n s.2) (fun s => l.length - s.1) (fun s => s.1 ≤ l.length ∧ s.2.length ≤ s.1) (fun s => (n, s.2 ++ backL (l.drop s.1))) ?_ (0, []) ⟨Nat.zero_le _, by simp⟩
  · simpa using this
  rintro ⟨i, x⟩ ⟨hi, hx⟩ ih
  simp only at hi hx ih ⊢
  by_cases h : i < l.length
  · have hlt : (i : Int) < (l.length : Int) := by omega
    have h0 : (0 : Int) ≤ (i : Int) := by omega
    have b1 : x.length < 3518437208883 := by omega
    simp only [impl_Net_back.l0, hlt, h0, b1, if_true, wsucc h (show l.length ≤ 9223372036854775807 by omega), arc_at l i h]
    refine ev_at (ih (i + 1, x ++ [revA l[i]]) ⟨by simp; omega, by simp; omega⟩ (by simp; omega)) ?_
    rw [List.drop_eq_getElem_cons h, backL, backL, List.map_cons, List.append_assoc]
    rfl
  · have hlt : ¬ (i : Int) < (l.length : Int) := by omega
    simp only [impl_Net_back.l0, hlt, if_false]
    refine ev_now fun k => ?_
    rw [List.drop_of_length_le (by omega)]
    simp [backL]
/-- The least measures to a node: what the program makes. -/
theorem toward_ex {n : Int} {l : List S60} (hn : Net1 n l) {t : Int} (ht : 0 ≤ t ∧ t < n) : ∃ M, Fin1 n l t M ∧ Ev (fun k => impl_Net_toward.f k n l t) M := by
  have hlo := hn.lo
  have hhi := hn.hi
  unfold impl_Net_toward.f impl_measure.f
  have b : 0 ≤ n ∧ n ≤ 8 := by omega
  have g : t < ((n.toNat : Nat) : Int) := by omega
  simp only [b, and_self, if_true, Option.bind_some, ht.1, List.length_replicate, g]
  exact toward_loop hn ((List.replicate n.toNat (⟨99999, 0⟩ : S64)).set t.toNat ⟨0, 0⟩, true) ⟨minv_start hn ht.1 ht.2, fun h => by cases h⟩
/-- Both are the same: the costs of the program's measures on a net, and what the reference makes of the net turned round. -/
theorem near_same {n : Int} {l : List S60} (hn : Net1 n l) {t : Int} (ht : 0 ≤ t ∧ t < n) {M : List S64} (hM : Fin1 n l t M) {D : List Int} (hD : SInv n (backL l) t D) (hR : RInv (backL l) t D n.toNat) : (M.map fun m => m.f0) = D := by
  have hlo := hn.lo
  have l1 := hM.1.len
  have l2 := hD.len
  have key : ∀ v, 0 ≤ v → v < n → cM M v = rd D v := by
    intro v v0 v1
    have r1 := hM.1.rng v v0 v1
    have r2 := hD.rng v v0 v1
    have a1 : rd D v ≤ cM M v := by
      by_cases hf : cM M v = 99999
      · omega
      · have hw := hM.1.way v v0 v1 hf
        rw [← backL_backL l] at hw
        have := hM.few hn v0 v1 hf
        exact hR _ _ _ hw (by omega)
    have a2 : cM M v ≤ rd D v := by
      by_cases hf : rd D v < 99999
      · obtain ⟨m, hw⟩ := hD.way v v0 v1 hf
        rw [backL_backL] at hw
        have := hM.low hn hw
        omega
      · omega
    omega
  apply List.ext_getElem
  · rw [List.length_map]; omega
  · intro i h1 h2
    rw [List.length_map] at h1
    have := key i (by omega) (by omega)
    rw [cM_get M i h1, rd_at D i h2] at this
    rw [List.getElem_map]
    exact this
/-- What is true of the least costs from a node. -/
structure Dist (n : Int) (l : List S60) (s : Int) (D : List Int) : Prop where
  impl : Ev (fun k => impl_Net_from.f k n l s) D
  spec : Ev (fun k => spec_l3All.f k n l s) D
  inv : SInv n l s D
  low : ∀ v c m, Way (backL l) s v c m → rd D v ≤ c
theorem dist_ex {n : Int} {l : List S60} (hn : Net1 n l) {s : Int} (hs : 0 ≤ s ∧ s < n) : ∃ D, Dist n l s D := by
  obtain ⟨M, hM, he⟩ := toward_ex hn.back hs
  obtain ⟨D, ⟨hD, hR⟩, hd⟩ := l3All_ex hn hs
  have e : (M.map fun m => m.f0) = D := near_same hn.back hs hM (by rw [backL_backL]; exact hD) (by rw [backL_backL]; exact hR)
  have hlow : ∀ v c m, Way (backL l) s v c m → rd D v ≤ c := by
    intro v c m hw
    have hv := hw.node hn.back hs
    have h1 := hM.low hn.back hw
    have h2 := hM.1.rng v hv.1 hv.2
    have h3 : rd D v = cM M v := by
      have hl := hM.1.len
      obtain ⟨i, rfl⟩ : ∃ i : Nat, v = (i : Int) := ⟨v.toNat, by omega⟩
      rw [← e, cM_get M i (by omega), rd_at _ i (by rw [List.length_map]; omega), List.getElem_map]
    omega
  refine ⟨D, ?_, hd, hD, hlow⟩
  unfold impl_Net_from.f
  refine Ev.bind (back_ev n l (by have := hn.len; omega)) ?_
  refine Ev.bind he ?_
  refine Ev.bind (costs_ev M (by have := hM.1.len; have := hn.hi; omega)) (ev_now fun _ => by rw [e])

theorem Way.snoc {l : List S60} {t v c : Int} {m : Nat} (h : Way l t v c m) {x : S60} (hx : x ∈ l) (ht : x.f0 = t) : Way l x.f1 v (c + x.f2) (m + 1) := by
  induction h with
  | nil =>
    have := Way.cons (t := x.f1) hx (Way.nil (l := l))
    rw [ht] at this
    rw [Int.add_comm]
    exact this
  | @cons y c m hy _ ih =>
    have := Way.cons hy ih
    rw [show y.f2 + c + x.f2 = y.f2 + (c + x.f2) by omega]
    exact this
/-- A walk, gone the other way round. -/
theorem Way.rev {l : List S60} {t v c : Int} {m : Nat} (h : Way l t v c m) : Way (backL l) v t c m := by
  induction h with
  | nil => exact Way.nil
  | @cons x c m hx _ ih =>
    have hr : revA x ∈ backL l := List.mem_map.2 ⟨x, hx, rfl⟩
    have := ih.snoc hr rfl
    rw [Int.add_comm]
    exact this
theorem Dist.sym {n : Int} {l : List S60} {a b : Int} {D E : List Int} (ha : 0 ≤ a ∧ a < n) (hb : 0 ≤ b ∧ b < n) (hD : Dist n l a D) (hE : Dist n (backL l) b E) : rd D b = rd E a := by
  have r1 := hD.inv.rng b hb.1 hb.2
  have r2 := hE.inv.rng a ha.1 ha.2
  have h1 : rd E a ≤ rd D b := by
    by_cases h : rd D b < 99999
    · obtain ⟨m, hw⟩ := hD.inv.way b hb.1 hb.2 h
      exact hE.low _ _ _ hw.rev
    · omega
  have h2 : rd D b ≤ rd E a := by
    by_cases h : rd E a < 99999
    · obtain ⟨m, hw⟩ := hE.inv.way a ha.1 ha.2 h
      have := hw.rev
      rw [backL_backL] at this
      exact hD.low _ _ _ this
    · omega
  omega
open Classical in
/-- The least costs from a node, as a list. -/
noncomputable def distV (n : Int) (l : List S60) (s : Int) : List Int := if h : ∃ D, Dist n l s D then h.choose else []
theorem distV_is {n : Int} {l : List S60} (hn : Net1 n l) {s : Int} (hs : 0 ≤ s ∧ s < n) : Dist n l s (distV n l s) := by
  unfold distV
  rw [dif_pos (dist_ex hn hs)]
  exact (dist_ex hn hs).choose_spec
/-! ### what holds of least costs -/
theorem ev_one {α : Type} {g : Nat → Option α} {a b : α} (h : Ev g a) (h' : Ev g b) : a = b := by
  obtain ⟨K, h⟩ := h
  obtain ⟨K', h'⟩ := h'
  have h1 := h (max K K') (by omega)
  rw [h' (max K K') (by omega)] at h1
  exact (Option.some.inj h1).symm
theorem Way.trans {l : List S60} {t v u c c' : Int} {m m' : Nat} (h1 : Way l t v c m) (h2 : Way l v u c' m') : Way l t u (c' + c) (m' + m) := by
  induction h2 with
  | nil => simpa using h1
  | @cons x c' m' hx _ ih =>
    have := Way.cons hx ih
    rw [show x.f2 + c' + c = x.f2 + (c' + c) by omega, show m' + 1 + m = (m' + m) + 1 by omega]
    exact this
theorem Way.cost {n : Int} {l : List S60} (hn : Net1 n l) {t v c : Int} {m : Nat} (h : Way l t v c m) : 0 ≤ c ∧ c ≤ 99 * (m : Int) := by
  induction h with
  | nil => simp
  | @cons x c m hx _ ih =>
    obtain ⟨_, _, _, _, _, h1, h2, _⟩ := hn.ends _ hx
    omega
theorem Dist.meas {n : Int} {l : List S60} (hn : Net1 n l) {s : Int} (hs : 0 ≤ s ∧ s < n) {D : List Int} (hD : Dist n l s D) : ∃ M, Fin1 n (backL l) s M ∧ ∀ v, 0 ≤ v → v < n → cM M v = rd D v := by
  obtain ⟨M, hM, _⟩ := toward_ex hn.back hs
  obtain ⟨D', ⟨h1, h2⟩, hd⟩ := l3All_ex hn hs
  have e : (M.map fun m => m.f0) = D' := near_same hn.back hs hM (by rw [backL_backL]; exact h1) (by rw [backL_backL]; exact h2)
  have e2 : D' = D := ev_one hd hD.spec
  refine ⟨M, hM, fun v v0 v1 => ?_⟩
  have hl := hM.1.len
  obtain ⟨i, rfl⟩ : ∃ i : Nat, v = (i : Int) := ⟨v.toNat, by omega⟩
  rw [← e2, ← e, cM_get M i (by omega), rd_at _ i (by rw [List.length_map]; omega), List.getElem_map]
theorem Dist.small {n : Int} {l : List S60} (hn : Net1 n l) {s : Int} (hs : 0 ≤ s ∧ s < n) {D : List Int} (hD : Dist n l s D) {v : Int} (v0 : 0 ≤ v) (v1 : v < n) (h : rd D v < 99999) : rd D v ≤ 700 := by
  obtain ⟨M, hM, he⟩ := hD.meas hn hs
  have hhi := hn.hi
  have e := he v v0 v1
  have hc : cM M v ≠ 99999 := by omega
  have h1 := hM.few hn.back v0 v1 hc
  have h2 := (hM.1.way v v0 v1 hc).cost hn.back
  have h3 := hM.1.rng v v0 v1
  omega
theorem Dist.tri {n : Int} {l : List S60} {a k : Int} (hk : 0 ≤ k ∧ k < n) {A K : List Int} (hA : Dist n l a A) (hK : Dist n l k K) {v : Int} (v0 : 0 ≤ v) (v1 : v < n) (h1 : rd A k < 99999) (h2 : rd K v < 99999) : rd A v ≤ rd A k + rd K v := by
  obtain ⟨m1, w1⟩ := hA.inv.way k hk.1 hk.2 h1
  obtain ⟨m2, w2⟩ := hK.inv.way v v0 v1 h2
  have := hA.low _ _ _ (w1.trans w2)
  omega
theorem Dist.arc {n : Int} {l : List S60} (hn : Net1 n l) {a : Int} {D : List Int} (hD : Dist n l a D) {x : S60} (hx : x ∈ l) (h : rd D x.f0 < 99999) : rd D x.f1 ≤ rd D x.f0 + x.f2 := by
  obtain ⟨e1, e2, e3, e4, _⟩ := hn.ends x hx
  obtain ⟨m, hw⟩ := hD.inv.way x.f0 e1 e2 h
  have hx' : revA x ∈ backL l := List.mem_map.2 ⟨x, hx, rfl⟩
  have := hD.low _ _ _ (Way.cons (t := a) hx' (show Way (backL l) a (revA x).f1 (rd D x.f0) m from hw))
  simp only [revA] at this
  omega
theorem dist_one {n : Int} {l : List S60} {s : Int} {D E : List Int} (hD : Dist n l s D) (hE : Dist n l s E) : D = E := ev_one hD.spec hE.spec
theorem inB_node {n : Int} {l : List S60} (hn : Net1 n l) {a : Int} (h : 0 ≤ a ∧ a < n) : inB a 0 (wrap64 (n - 1)) = true := by
  have := hn.lo
  have := hn.hi
  rw [inB_iff, w_id (n := n - 1) (by omega) (by omega)]
  omega
/-! ### best ways: the program's -/
theorem Fin1.good {n : Int} {l : List S60} {t : Int} {M : List S64} (hM : Fin1 n l t M) {v : Int} (v0 : 0 ≤ v) (v1 : v < n) (hv : v ≠ t) (hc : cM M v ≠ 99999) : ∃ x ∈ l, x.f0 = v ∧ cM M x.f1 ≠ 99999 ∧ cM M x.f1 + x.f2 = cM M v ∧ aM M x.f1 + 1 = aM M v := by
  obtain ⟨x, hx, e, h1, h2⟩ := hM.1.par v v0 v1 hv hc
  have h3 := hM.2 x hx h1
  unfold Less at h3
  rw [e] at h3
  refine ⟨x, hx, e, h1, ?_, ?_⟩ <;> omega
theorem Fin1.small {n : Int} {l : List S60} (hn : Net1 n l) {t : Int} {M : List S64} (hM : Fin1 n l t M) {v : Int} (v0 : 0 ≤ v) (v1 : v < n) : 0 ≤ aM M v ∧ aM M v ≤ 8 ∧ 0 ≤ cM M v ∧ (cM M v ≠ 99999 → cM M v ≤ 700 ∧ aM M v + 1 ≤ n) ∧ cM M v ≤ 99999 := by
  have r := hM.1.rng v v0 v1
  have hhi := hn.hi
  by_cases hc : cM M v = 99999
  · have := r.2.2.2 hc
    exact ⟨r.2.2.1, by omega, r.1, fun h => absurd hc h, r.2.1⟩
  · have h1 := hM.few hn v0 v1 hc
    have h2 := (hM.1.way v v0 v1 hc).cost hn
    exact ⟨r.2.2.1, by omega, r.1, fun _ => ⟨by omega, h1⟩, r.2.1⟩
theorem goodM_iff {n : Int} {l : List S60} (hn : Net1 n l) {t : Int} {M : List S64} (hM : Fin1 n l t M) (v : Int) {x : S60} (hx : x ∈ l) : goodM M v x = true ↔ x.f0 = v ∧ cM M x.f1 ≠ 99999 ∧ cM M x.f1 + x.f2 = cM M v ∧ aM M x.f1 + 1 = aM M v := by
  obtain ⟨e1, e2, e3, e4, e5, e6, e7, _⟩ := hn.ends x hx
  have s := hM.small hn e3 e4
  have w1 : wrap64 (cM M x.f1 + x.f2) = cM M x.f1 + x.f2 := w_id (by omega) (by omega)
  have w2 : wrap64 (aM M x.f1 + 1) = aM M x.f1 + 1 := w_id (by omega) (by omega)
  have e : goodM M v x = ((x.f0 == v) && (!(cM M x.f1 == 99999) && ((wrap64 (cM M x.f1 + x.f2) == cM M v) && (wrap64 (aM M x.f1 + 1) == aM M v)))) := rfl
  rw [e, w1, w2]
  simp only [Bool.and_eq_true, beq_iff_eq, Bool.not_eq_true', beq_eq_false_iff_ne, ne_eq]
theorem idxP_is {α : Type} {p : α → Bool} {l : List α} (h : ∃ x ∈ l, p x = true) : ∃ (i : Nat) (hi : i < l.length), idxP p l = (i : Int) ∧ p l[i] = true ∧ ∀ j (hj : j < i), p (l[j]'(Nat.lt_trans hj hi)) = false := by
  unfold idxP
  cases h2 : l.findIdx? p with
  | none =>
    rw [List.findIdx?_eq_none_iff] at h2
    obtain ⟨x, hx, hp⟩ := h
    have := h2 x hx
    rw [hp] at this
    cases this
  | some i =>
    rw [List.findIdx?_eq_some_iff_getElem] at h2
    obtain ⟨hi, hp, hb⟩ := h2
    exact ⟨i, hi, rfl, hp, fun j hj => by simpa using hb j hj⟩
/-- The best way on from a node, by least measures, so many arcs. -/
def walkM (l : List S60) (M : List S64) : Nat → Int → List Int
  | 0, _ => []
  | k + 1, v => idxP (goodM M v) l :: walkM l M k (rd_T60 l (idxP (goodM M v) l)).f1
def bestM (l : List S60) (M : List S64) (a : Int) : List Int × Bool := if cM M a = 99999 then ([], false) else (walkM l M (aM M a).toNat a, true)
/-- Arcs, one behind another, from a node to another one. -/
def Goes (l : List S60) : Int → List Int → Int → Prop
  | v, [], t => v = t
  | v, i :: w, t => (0 ≤ i ∧ i < (l.length : Int)) ∧ (rd_T60 l i).f0 = v ∧ Goes l (rd_T60 l i).f1 w t
theorem Fin1.first {n : Int} {l : List S60} (hn : Net1 n l) {t : Int} {M : List S64} (hM : Fin1 n l t M) {v : Int} (v0 : 0 ≤ v) (v1 : v < n) (hv : v ≠ t) (hc : cM M v ≠ 99999) :
    ∃ (i : Nat) (hi : i < l.length), idxP (goodM M v) l = (i : Int) ∧ l[i].f0 = v ∧ cM M l[i].f1 ≠ 99999 ∧ cM M l[i].f1 + l[i].f2 = cM M v ∧ aM M l[i].f1 + 1 = aM M v ∧ ∀ j (hj : j < i), goodM M v (l[j]'(Nat.lt_trans hj hi)) = false := by
  obtain ⟨x, hx, h⟩ := hM.good v0 v1 hv hc
  obtain ⟨i, hi, e, hg, hb⟩ := idxP_is ⟨x, hx, (goodM_iff hn hM v hx).2 h⟩
  obtain ⟨g1, g2, g3, g4⟩ := (goodM_iff hn hM v (List.getElem_mem hi)).1 hg
  exact ⟨i, hi, e, g1, g2, g3, g4, hb⟩
theorem Fin1.zero {n : Int} {l : List S60} (hn : Net1 n l) {t : Int} {M : List S64} (hM : Fin1 n l t M) {v : Int} (v0 : 0 ≤ v) (v1 : v < n) (hc : cM M v ≠ 99999) (ha : aM M v = 0) : v = t := by
  by_cases h : v = t
  · exact h
  · obtain ⟨x, hx, _, _, _, h4⟩ := hM.good v0 v1 h hc
    obtain ⟨_, _, e3, e4, _⟩ := hn.ends x hx
    have := (hM.small hn e3 e4).1
    omega
theorem walkM_goes {n : Int} {l : List S60} (hn : Net1 n l) {t : Int} {M : List S64} (hM : Fin1 n l t M) : ∀ (k : Nat) (v : Int), 0 ≤ v → v < n → cM M v ≠ 99999 → aM M v = (k : Int) → Goes l v (walkM l M k v) t ∧ (walkM l M k v).length = k ∧ costS l (walkM l M k v) = cM M v := by
  intro k
  induction k with
  | zero =>
    intro v v0 v1 hc ha
    have e := hM.zero hn v0 v1 hc (by simpa using ha)
    subst e
    exact ⟨rfl, rfl, by rw [hM.1.tz.1]; rfl⟩
  | succ k ih =>
    intro v v0 v1 hc ha
    have hv : v ≠ t := by intro e; subst e; have := hM.1.tz.2; omega
    obtain ⟨i, hi, e, g1, g2, g3, g4, _⟩ := hM.first hn v0 v1 hv hc
    obtain ⟨_, _, e3, e4, _⟩ := hn.ends _ (List.getElem_mem hi)
    obtain ⟨h1, h2, h3⟩ := ih l[i].f1 e3 e4 g2 (by omega)
    unfold walkM
    rw [e, arc_at l i hi]
    refine ⟨⟨⟨by omega, by omega⟩, by rw [arc_at l i hi]; exact g1, by rw [arc_at l i hi]; exact h1⟩, by rw [List.length_cons, h2], ?_⟩
    simp only [costS, h3, arc_at l i hi]
    omega
theorem firstArc_eq {n : Int} {l : List S60} (hn : Net1 n l) {M : List S64} (hl : (M.length : Int) = n) {v : Int} (v0 : 0 ≤ v) (v1 : v < n) : impl_Net_firstArc.f n l M v = some (idxP (goodM M v) l) := by
  unfold impl_Net_firstArc.f
  rw [if_pos]
  unfold firstOk
  simp only [Bool.and_eq_true, decide_eq_true_eq, List.all_eq_true]
  refine ⟨⟨v0, by omega⟩, fun x hx => ?_⟩
  obtain ⟨_, _, e3, e4, _⟩ := hn.ends x hx
  exact ⟨e3, by omega⟩
theorem best_loop {n : Int} {l : List S60} (hn : Net1 n l) {t : Int} {M : List S64} (hM : Fin1 n l t M) : ∀ (k : Nat) (v : Int) (acc : List Int), 0 ≤ v → v < n → cM M v ≠ 99999 → aM M v = (k : Int) → acc.length + k ≤ 1000 →
    Ev (fun f => impl_Net_best.l0 f v t M acc n l) (acc ++ walkM l M k v, true) := by
  intro k
  induction k with
  | zero =>
    intro v acc v0 v1 hc ha _
    have e := hM.zero hn v0 v1 hc (by simpa using ha)
    subst e
    exact ev_shift (ev_now fun f => by simp [impl_Net_best.l0, walkM])
  | succ k ih =>
    intro v acc v0 v1 hc ha hl
    have hv : v ≠ t := by intro e; subst e; have := hM.1.tz.2; omega
    obtain ⟨i, hi, e, g1, g2, g3, g4, _⟩ := hM.first hn v0 v1 hv hc
    obtain ⟨_, _, e3, e4, _⟩ := hn.ends _ (List.getElem_mem hi)
    have b0 : (0 : Int) ≤ (i : Int) := by omega
    have b1 : (i : Int) < (l.length : Int) := by omega
    have b2 : acc.length < 17592186044416 := by omega
    have next := ih l[i].f1 (acc ++ [(i : Int)]) e3 e4 g2 (by omega) (by simp; omega)
    refine ev_shift ?_
    simp only [impl_Net_best.l0, hv, if_false, firstArc_eq hn hM.1.len v0 v1, Option.bind_some, e, b0, b1, b2, if_true, arc_at l i hi]
    refine ev_at next ?_
    rw [walkM, e, arc_at l i hi]
    simp
theorem best_ex {n : Int} {l : List S60} (hn : Net1 n l) {a b : Int} (ha : 0 ≤ a ∧ a < n) (hb : 0 ≤ b ∧ b < n) : ∃ M, Fin1 n l b M ∧ Ev (fun k => impl_Net_best.f k n l a b) (bestM l M a) := by
  obtain ⟨M, hM, he⟩ := toward_ex hn hb
  refine ⟨M, hM, ?_⟩
  have hl := hM.1.len
  have g : a < (M.length : Int) := by omega
  have s := hM.small hn ha.1 ha.2
  unfold impl_Net_best.f bestM
  refine Ev.bind he ?_
  simp only [ha.1, g, if_true]
  show Ev (fun k => if cM M a = 99999 then some (([] : List Int), false) else (if 0 ≤ aM M a then (if (aM M a).toNat ≤ 35184372088832 then impl_Net_best.l0 k a b M [] n l else none) else none)) _
  by_cases hc : cM M a = 99999
  · simp only [hc, if_true]; exact ev_now fun _ => rfl
  · have b0 : 0 ≤ aM M a := s.1
    have b1 : (aM M a).toNat ≤ 35184372088832 := by omega
    simp only [hc, if_false, b0, b1, if_true]
    exact ev_at (best_loop hn hM (aM M a).toNat a [] ha.1 ha.2 hc (by omega) (by simp; omega)) (by simp)
/-! ### a node's number -/
theorem node_of {n : Int} {l : List S60} (hn : Net1 n l) {a : Int} (h : inB a 0 (wrap64 (n - 1)) = true) : 0 ≤ a ∧ a < n := by
  have := hn.lo
  have := hn.hi
  rw [inB_iff, w_id (n := n - 1) (by omega) (by omega)] at h
  omega
/-! ### nodes of a net, and what can be reached -/
theorem nodesIn_eq (n : Int) (l : List S60) (ns : List Int) : impl_nodesIn.f n l ns = some (netOkB n l && hasB n ns) := by
  unfold impl_nodesIn.f impl_Net_has.f
  rw [netOk_eq]
  cases netOkB n l <;> rfl
theorem hasB1 (n a : Int) : hasB n [a] = inB a 0 (wrap64 (n - 1)) := by unfold hasB; simp
theorem hasB2 (n a b : Int) : hasB n [a, b] = (inB a 0 (wrap64 (n - 1)) && inB b 0 (wrap64 (n - 1))) := by unfold hasB; simp
theorem hasB3 (n a b c : Int) : hasB n [a, b, c] = (inB a 0 (wrap64 (n - 1)) && (inB b 0 (wrap64 (n - 1)) && inB c 0 (wrap64 (n - 1)))) := by unfold hasB; simp
/-! ### best ways -/
theorem cM_dist' {n : Int} {l : List S60} (hn : Net1 n l) {a b : Int} (ha : 0 ≤ a ∧ a < n) (hb : 0 ≤ b ∧ b < n) {M : List S64} (hM : Fin1 n l b M) : cM M a = rd (distV n l a) b := by
  obtain ⟨D, ⟨h1, h2⟩, hd⟩ := l3All_ex hn.back hb
  have e : (M.map fun m => m.f0) = D := near_same hn hb hM h1 h2
  have e2 : D = distV n (backL l) b := ev_one hd (distV_is hn.back hb).spec
  have hl := hM.1.len
  rw [(distV_is hn ha).sym ha hb (distV_is hn.back hb), ← e2, ← e]
  obtain ⟨i, rfl⟩ := Int.eq_ofNat_of_zero_le ha.1
  rw [cM_get M i (by omega), rd_at _ i (by rw [List.length_map]; omega), List.getElem_map]
theorem goes_at {l : List S60} {t : Int} : ∀ (w : List Int) (v : Int), Goes l v w t → ∀ i, i < w.length → (0 ≤ w.getD i 0 ∧ w.getD i 0 < (l.length : Int)) ∧ (i = 0 → (rd_T60 l (w.getD i 0)).f0 = v) ∧ (i ≠ 0 → (rd_T60 l (w.getD i 0)).f0 = (rd_T60 l (w.getD (i - 1) 0)).f1) ∧ (i + 1 = w.length → (rd_T60 l (w.getD i 0)).f1 = t) := by
  intro w
  induction w with
  | nil => intro v _ i hi; exact absurd hi (Nat.not_lt_zero _)
  | cons x xs ih =>
    intro v h i hi
    obtain ⟨h1, h2, h3⟩ := h
    cases i with
    | zero =>
      refine ⟨h1, fun _ => h2, fun e => absurd rfl e, fun e => ?_⟩
      cases xs with
      | nil => exact h3
      | cons y ys => simp at e
    | succ i =>
      obtain ⟨g1, g2, g3, g4⟩ := ih _ h3 i (by simpa using hi)
      refine ⟨g1, fun e => absurd e (by omega), fun _ => ?_, fun e => g4 (by simpa using e)⟩
      cases i with
      | zero => exact g2 rfl
      | succ i => exact g3 (by omega)
theorem goes_walkB {l : List S60} (hl : l.length ≤ 1000) {t v : Int} {w : List Int} (h : Goes l v w t) (h8 : w.length ≤ 8) : walkB l w = true := by
  unfold walkB
  rw [Bool.and_eq_true, decide_eq_true_eq, chainB_iff]
  refine ⟨fun i hi => ?_, by omega⟩
  obtain ⟨g1, g2, g3, g4⟩ := goes_at w v h i hi
  unfold chk
  have e : inB (w.getD i 0) 0 (wrap64 ((l.length : Int) - 1)) = true := by rw [inB_iff, w_id (by omega) (by omega)]; omega
  rw [e, Bool.true_and, Bool.or_eq_true, decide_eq_true_eq, beq_iff_eq]
  by_cases c : i = 0
  · exact .inl c
  · exact .inr (g3 c).symm
theorem nearWalk_ev {n : Int} {l : List S60} (hok : netOkB n l = true) {a b : Int} (ha : 0 ≤ a ∧ a < n) (hb : 0 ≤ b ∧ b < n) : ∃ M, Fin1 n l b M ∧ Ev (fun k => impl_NearWalk.f k n l a b) (bestM l M a) := by
  have hn := net1_of hok
  obtain ⟨M, hM, he⟩ := best_ex hn ha hb
  refine ⟨M, hM, ?_⟩
  unfold impl_NearWalk.f
  simp only [nodesIn_eq, Option.bind_some, hasB2, hok, inB_node hn ha, inB_node hn hb, Bool.and_self, if_true]
  exact Ev.bind he (ev_now fun _ => rfl)
theorem bestM_goes {n : Int} {l : List S60} (hn : Net1 n l) {t : Int} {M : List S64} (hM : Fin1 n l t M) {a : Int} (a0 : 0 ≤ a) (a1 : a < n) (hc : cM M a ≠ 99999) : Goes l a (bestM l M a).1 t ∧ (bestM l M a).1.length ≤ 8 ∧ costS l (bestM l M a).1 = cM M a := by
  have s := hM.small hn a0 a1
  unfold bestM
  rw [if_neg hc]
  obtain ⟨h1, h2, h3⟩ := walkM_goes hn hM (aM M a).toNat a a0 a1 hc (by omega)
  exact ⟨h1, by simp only; rw [h2]; omega, h3⟩
/-! ### all distances -/
theorem table_ev {n : Int} {l : List S60} (hn : Net1 n l) : Ev (fun k => impl_Net_table.f k n l) ((List.range n.toNat).map fun v : Nat => distV n l (v : Int)) := by
  have hlo := hn.lo
  have hhi := hn.hi
  unfold impl_Net_table.f
  have b0 : (0 : Int) ≤ n := by omega
  have b1 : n.toNat ≤ 11728124029610 := by omega
  simp only [b0, b1, if_true]
  refine ev_at (ev_ind (fun k (i : Nat) => impl_Net_table.l0 k ((List.range i).map fun v : Nat => distV n l (v : Int)) n (i : Int) n l) (fun i => n.toNat - i) (fun i => i ≤ n.toNat) (fun _ => (List.range n.toNat).map fun v : Nat => distV n l (v : Int)) ?_ 0 (Nat.zero_le _)) rfl
  intro i hi ih
  by_cases h : i < n.toNat
  · have hlt : (i : Int) < n := by omega
    have hD := distV_is hn (s := (i : Int)) (by omega)
    have b2 : ((List.range i).map fun v : Nat => distV n l (v : Int)).length < 5864062014805 := by rw [List.length_map, List.length_range]; omega
    simp only [impl_Net_table.l0, hlt, if_true]
    refine Ev.bind hD.impl ?_
    simp only [b2, if_true, wsucc h (show n.toNat ≤ 9223372036854775807 by omega)]
    have := ih (i + 1) (by omega) (by omega)
    rw [List.range_succ, List.map_append] at this
    exact this
  · have hlt : ¬ (i : Int) < n := by omega
    simp only [impl_Net_table.l0, hlt, if_false]
    refine ev_now fun k => ?_
    rw [show i = n.toNat by omega]
noncomputable def tableV (n : Int) (l : List S60) : List (List Int) := (List.range n.toNat).map fun v : Nat => distV n l (v : Int)
theorem tableV_length (n : Int) (l : List S60) : (tableV n l).length = n.toNat := by unfold tableV; rw [List.length_map, List.length_range]
theorem tableV_at (n : Int) (l : List S60) (i : Nat) (h : i < n.toNat) : rd_L4 (tableV n l) (i : Int) = distV n l (i : Int) := by
  unfold rd_L4 tableV
  rw [List.getD_eq_getElem?_getD, Int.toNat_natCast, List.getElem?_map, List.getElem?_range h]
  rfl
/-! ### sights -/
theorem row_at (s : List (List Int)) (i : Nat) (h : i < s.length) : rd_L4 s (i : Int) = s[i] := by simp [rd_L4, h]
/-- Are they sights of a net of n nodes. -/
def sightsB (n : Int) (s : List (List Int)) : Bool := !(s.any (seenBad n)) && inB (s.length : Int) 1 6
theorem seenOk_eq (n : Int) (l : List S60) (s : List (List Int)) : impl_seenOk.f n l s = some (netOkB n l && sightsB n s) := by
  unfold impl_seenOk.f seenOkB sightsB
  cases netOkB n l <;> cases inB (s.length : Int) 1 6 <;> cases s.any (seenBad n) <;> rfl
structure Sights (n : Int) (s : List (List Int)) : Prop where
  lo : 1 ≤ s.length
  hi : s.length ≤ 6
  len : ∀ i : Nat, i < s.length → ((rd_L4 s (i : Int)).length : Int) = n
  rng : ∀ (i : Nat) (v : Int), i < s.length → 0 ≤ v → v < n → 0 ≤ rd (rd_L4 s (i : Int)) v ∧ rd (rd_L4 s (i : Int)) v ≤ 99
theorem sights_of {n : Int} {s : List (List Int)} (h : sightsB n s = true) : Sights n s := by
  unfold sightsB at h
  rw [Bool.and_eq_true, inB_iff, Bool.not_eq_true'] at h
  have key : ∀ i : Nat, i < s.length → ((rd_L4 s (i : Int)).length : Int) = n ∧ ∀ x ∈ rd_L4 s (i : Int), 0 ≤ x ∧ x ≤ 99 := by
    intro i hi
    rw [row_at s i hi]
    have hb : seenBad n s[i] = false := by
      cases hc : seenBad n s[i] with
      | false => rfl
      | true =>
        have : s.any (seenBad n) = true := List.any_eq_true.2 ⟨_, List.getElem_mem hi, hc⟩
        rw [this] at h
        cases h.1
    unfold seenBad at hb
    rw [Bool.or_eq_false_iff, decide_eq_false_iff_not, Decidable.not_not] at hb
    refine ⟨hb.1, fun x hx => ?_⟩
    cases hc : inB x 0 99 with
    | true => exact inB_iff.1 hc
    | false =>
      have : s[i].any (fun c => !(inB c 0 99)) = true := List.any_eq_true.2 ⟨x, hx, by rw [hc]; rfl⟩
      rw [this] at hb
      cases hb.2
  refine ⟨by omega, by omega, fun i hi => (key i hi).1, fun i v hi v0 v1 => (key i hi).2 _ ?_⟩
  obtain ⟨a, rfl⟩ := Int.eq_ofNat_of_zero_le v0
  have hl := (key i hi).1
  rw [rd_at _ a (by omega)]
  exact List.getElem_mem _
theorem seen_ok {n : Int} {l : List S60} {s : List (List Int)} (h : (netOkB n l && sightsB n s) = true) : Net1 n l ∧ Sights n s := by
  rw [Bool.and_eq_true] at h
  exact ⟨net1_of h.1, sights_of h.2⟩
/-! ### what nodes cost: the program -/
theorem hasB_of {n : Int} {l : List S60} (hn : Net1 n l) {s : List Int} (h : hasB n s = true) : ∀ i : Nat, i < s.length → 0 ≤ rd s (i : Int) ∧ rd s (i : Int) < n := by
  intro i hi
  refine node_of hn ?_
  rw [rd_at s i hi]
  cases h2 : inB s[i] 0 (wrap64 (n - 1)) with
  | true => rfl
  | false =>
    unfold hasB at h
    have : s.any (fun v => !(inB v 0 (wrap64 (n - 1)))) = true := List.any_eq_true.2 ⟨s[i], List.getElem_mem hi, by rw [h2]; rfl⟩
    rw [this] at h
    cases h
noncomputable def accN (n : Int) (l : List S60) (s : List (List Int)) (ns : List Int) : Nat → Option Int
  | 0 => some 0
  | i + 1 => (accN n l s ns i).bind fun a => if i = 0 then some (a + rd (rd_L4 s (i : Int)) (rd ns (i : Int))) else if rd (distV n l (rd ns ((i - 1 : Nat) : Int))) (rd ns (i : Int)) = 99999 then none else some (a + rd (rd_L4 s (i : Int)) (rd ns (i : Int)) + rd (distV n l (rd ns ((i - 1 : Nat) : Int))) (rd ns (i : Int)))
noncomputable def costN (n : Int) (l : List S60) (s : List (List Int)) (ns : List Int) : Int := (accN n l s ns ns.length).getD 99999
theorem accN_none {n : Int} {l : List S60} {s : List (List Int)} {ns : List Int} {i : Nat} (h : accN n l s ns i = none) : ∀ d, accN n l s ns (i + d) = none
  | 0 => h
  | d + 1 => by show (accN n l s ns (i + d)).bind _ = none; rw [accN_none h d]; rfl
noncomputable def seenCostV (n : Int) (l : List S60) (s : List (List Int)) (ns : List Int) : Int := if (netOkB n l && sightsB n s) = true ∧ ns.length = s.length ∧ hasB n ns = true then costN n l s ns else -1
theorem costN_impl {n : Int} {l : List S60} (hn : Net1 n l) {s : List (List Int)} (hs : Sights n s) (ns : List Int) (hl : ns.length = s.length) (hns : ∀ i : Nat, i < ns.length → 0 ≤ rd ns (i : Int) ∧ rd ns (i : Int) < n) (d : Nat) : ∀ (i : Nat) (a : Int), ns.length - i = d → i ≤ ns.length → accN n l s ns i = some a → 0 ≤ a → a ≤ 1000 * (i : Int) →
    Ev (fun k => impl_SeenCost.l0 k s ns (tableV n l) a ns (ns.length : Int) (i : Int)) (costN n l s ns) := by
  have hlo := hn.lo
  have hhi := hn.hi
  have hl6 := hs.hi
  induction d with
  | zero =>
    intro i a hd hi ha _ _
    have hlt : ¬ (i : Int) < (ns.length : Int) := by omega
    have e : costN n l s ns = a := by unfold costN; rw [show ns.length = i by omega, ha]; rfl
    rw [e]
    exact ev_shift (ev_now fun k => by simp only [impl_SeenCost.l0, hlt, if_false])
  | succ d ih =>
    intro i a hd hi ha h0 h1
    have h : i < ns.length := by omega
    have hlt : (i : Int) < (ns.length : Int) := by omega
    have hlt' : (i : Int) < (s.length : Int) := by omega
    have p0 : (0 : Int) ≤ (i : Int) := by omega
    have hb := hns i h
    have hr := hs.rng i (rd ns (i : Int)) (by omega) hb.1 hb.2
    have hlen := hs.len i (by omega)
    have g1 : rd ns (i : Int) < ((rd_L4 s (i : Int)).length : Int) := by omega
    generalize hx : rd (rd_L4 s (i : Int)) (rd ns (i : Int)) = x at *
    have hw : wrap64 (a + x) = a + x := w_id (by omega) (by omega)
    by_cases c : i = 0
    · subst c
      have hacc : accN n l s ns 1 = some (a + x) := by show (accN n l s ns 0).bind _ = _; rw [ha, ← hx]; rfl
      have v2 := ih 1 (a + x) (by omega) (by omega) hacc (by omega) (by omega)
      have wz : wrap64 (((0 : Nat) : Int) + 1) = ((1 : Nat) : Int) := wsucc h (by omega)
      have ng : ¬ ((0 : Nat) : Int) > 0 := by omega
      have z0 : (((0 : Nat) : Int) = 0) = True := eq_true rfl
      refine ev_shift ?_
      simp only [impl_SeenCost.l0, hlt, hlt', p0, hb.1, g1, hx, hw, wz, z0, if_true]
      exact v2
    · have hpr : i - 1 < ns.length := by omega
      have ha1 := hns (i - 1) hpr
      have hD := distV_is hn ha1
      have hdl := hD.inv.len
      have hdr := hD.inv.rng _ hb.1 hb.2
      have hsm := hD.small hn ha1 hb.1 hb.2
      have wp : wrap64 ((i : Int) - 1) = ((i - 1 : Nat) : Int) := wpred (by omega) (by omega)
      have q0 : (0 : Int) ≤ ((i - 1 : Nat) : Int) := by omega
      have q1 : ((i - 1 : Nat) : Int) < (ns.length : Int) := by omega
      obtain ⟨u, hu⟩ : ∃ u : Nat, rd ns ((i - 1 : Nat) : Int) = (u : Int) := ⟨(rd ns ((i - 1 : Nat) : Int)).toNat, by omega⟩
      have t1 : rd ns ((i - 1 : Nat) : Int) < ((tableV n l).length : Int) := by rw [tableV_length]; omega
      have ht : rd_L4 (tableV n l) (rd ns ((i - 1 : Nat) : Int)) = distV n l (rd ns ((i - 1 : Nat) : Int)) := by rw [hu]; exact tableV_at n l u (by omega)
      have t2 : rd ns (i : Int) < ((distV n l (rd ns ((i - 1 : Nat) : Int))).length : Int) := by omega
      have pg : (i : Int) > 0 := by omega
      have pz : ¬ (i : Int) = 0 := by omega
      have hacc : accN n l s ns (i + 1) = if rd (distV n l (rd ns ((i - 1 : Nat) : Int))) (rd ns (i : Int)) = 99999 then none else some (a + x + rd (distV n l (rd ns ((i - 1 : Nat) : Int))) (rd ns (i : Int))) := by
        show (accN n l s ns i).bind _ = _
        rw [ha, ← hx]
        simp only [Option.bind_some, c, if_false]
      generalize hy : rd (distV n l (rd ns ((i - 1 : Nat) : Int))) (rd ns (i : Int)) = y at *
      by_cases cy : y = 99999
      · subst cy
        rw [if_pos rfl] at hacc
        have e : costN n l s ns = 99999 := by
          unfold costN
          have := accN_none hacc (ns.length - (i + 1))
          rw [show i + 1 + (ns.length - (i + 1)) = ns.length by omega] at this
          rw [this]; rfl
        rw [e]
        refine ev_shift ?_
        simp only [impl_SeenCost.l0, hlt, hlt', p0, hb.1, g1, pz, wp, q0, q1, ha1.1, t1, ht, t2, hy, if_true, if_false]
        exact ev_now fun _ => rfl
      · have hys := hsm (by omega)
        rw [if_neg cy] at hacc
        have cy' : ¬ y ≥ 99999 := by omega
        have hw2 : wrap64 (a + x + y) = a + x + y := w_id (by omega) (by omega)
        have v2 := ih (i + 1) (a + x + y) (by omega) (by omega) hacc (by omega) (by omega)
        refine ev_shift ?_
        simp only [impl_SeenCost.l0, hlt, hlt', p0, hb.1, g1, pz, wp, q0, q1, ha1.1, t1, ht, t2, hx, hy, cy, hw, hw2, if_true, if_false, wsucc h (show ns.length ≤ 9223372036854775807 by omega)]
        exact v2
theorem seenCost_impl {n : Int} {l : List S60} {s : List (List Int)} {ns : List Int} (hok : (netOkB n l && sightsB n s) = true) (hlen : ns.length = s.length) (hh : hasB n ns = true) : Ev (fun k => impl_SeenCost.f k n l s ns) (costN n l s ns) := by
  obtain ⟨hn, hS⟩ := seen_ok hok
  have hlen' : (ns.length : Int) = (s.length : Int) := by omega
  have v2 := costN_impl hn hS ns hlen (hasB_of hn hh) ns.length 0 0 (by omega) (by omega) rfl (by omega) (by omega)
  unfold impl_SeenCost.f
  simp only [seenOk_eq, hok, Option.bind_some, if_true, hlen']
  have hb : ∀ k, impl_SeenCost.j0 (k + 1) s ns (!true) n l = (impl_Net_table.f k n l).bind fun t => impl_SeenCost.l0 k s ns t 0 ns (ns.length : Int) 0 := fun k => by simp [impl_SeenCost.j0]
  have hhas : impl_Net_has.f n l ns = some true := by rw [← hh]; rfl
  simp only [hhas, Option.bind_some]
  refine ev_shift ?_
  simp only [hb]
  exact Ev.bind (table_ev hn) v2
/-! ### the least, and where it is first -/
theorem minK_le (l : List Int) : ∀ k j : Nat, j ≤ k → minK l k ≤ rd l (j : Int)
  | 0, j, h => by
    have : j = 0 := by omega
    subst this
    exact Int.le_refl _
  | k + 1, j, h => by
    unfold minK
    by_cases e : j = k + 1
    · subst e; split <;> omega
    · have := minK_le l k j (by omega)
      split <;> omega
theorem minK_hit (l : List Int) : ∀ k : Nat, ∃ j : Nat, j ≤ k ∧ rd l (j : Int) = minK l k ∧ ∀ i : Nat, i < j → rd l (i : Int) ≠ minK l k
  | 0 => ⟨0, Nat.le_refl _, rfl, fun i h => absurd h (Nat.not_lt_zero _)⟩
  | k + 1 => by
    unfold minK
    obtain ⟨j, h1, h2, h3⟩ := minK_hit l k
    by_cases c : rd l ((k + 1 : Nat) : Int) < minK l k
    · rw [if_pos c]
      refine ⟨k + 1, Nat.le_refl _, rfl, fun i hi => ?_⟩
      have := minK_le l k i (by omega)
      omega
    · rw [if_neg c]
      exact ⟨j, by omega, h2, h3⟩
/-- The least of Far and f's first numbers, and the first place of it. -/
def minF (f : Nat → Int) : Nat → Int
  | 0 => 99999
  | u + 1 => if f u < minF f u then f u else minF f u
def argF (f : Nat → Int) : Nat → Nat
  | 0 => 0
  | u + 1 => if f u < minF f u then u else argF f u
theorem minF_le (f : Nat → Int) : ∀ n u : Nat, u < n → minF f n ≤ f u
  | 0, u, h => absurd h (Nat.not_lt_zero _)
  | n + 1, u, h => by
    unfold minF
    by_cases e : u = n
    · subst e; split <;> omega
    · have := minF_le f n u (by omega)
      split <;> omega
theorem minF_att (f : Nat → Int) : ∀ n : Nat, minF f n < 99999 → argF f n < n ∧ f (argF f n) = minF f n ∧ ∀ u : Nat, u < argF f n → f u ≠ minF f n
  | 0, h => absurd h (by unfold minF; omega)
  | n + 1, h => by
    rw [minF] at h ⊢
    rw [argF]
    by_cases c : f n < minF f n
    · rw [if_pos c, if_pos c]
      refine ⟨by omega, rfl, fun u hu => ?_⟩
      have := minF_le f n u hu
      omega
    · rw [if_neg c] at h
      rw [if_neg c, if_neg c]
      obtain ⟨h1, h2, h3⟩ := minF_att f n h
      exact ⟨by omega, h2, h3⟩
theorem minF_ge (f : Nat → Int) (b : Int) (hb : b ≤ 99999) : ∀ n : Nat, (∀ u : Nat, u < n → b ≤ f u) → b ≤ minF f n
  | 0, _ => hb
  | n + 1, h => by
    unfold minF
    have := minF_ge f b hb n (fun u hu => h u (by omega))
    have := h n (by omega)
    split <;> omega
theorem minF_congr {f g : Nat → Int} : ∀ n : Nat, (∀ u : Nat, u < n → f u = g u) → minF f n = minF g n ∧ argF f n = argF g n
  | 0, _ => ⟨rfl, rfl⟩
  | n + 1, h => by
    obtain ⟨h1, h2⟩ := minF_congr n (fun u hu => h u (by omega))
    exact ⟨by unfold minF; rw [h n (by omega), h1], by unfold argF; rw [h n (by omega), h1, h2]⟩
theorem bestV_eq (all least s : List (List Int)) (i v : Nat) : ∀ u : Nat, bestV all least s i v u = minF (fun u => stepV all least s i u v) u
  | 0 => rfl
  | u + 1 => by unfold bestV minF; rw [bestV_eq all least s i v u]
theorem seekV_hit (p : Nat → Bool) : ∀ (c u m : Nat), u ≤ m → m < u + c → p m = true → (∀ j : Nat, u ≤ j → j < m → p j = false) → seekV p c u = some m
  | 0, u, m, h1, h2, _, _ => absurd h2 (by omega)
  | c + 1, u, m, h1, h2, h3, h4 => by
    unfold seekV
    by_cases e : u = m
    · subst e; rw [if_pos h3]
    · rw [h4 u (Nat.le_refl _) (by omega), if_neg Bool.false_ne_true]
      exact seekV_hit p c (u + 1) m (by omega) (by omega) h3 (fun j h5 h6 => h4 j (by omega) h6)
/-! ### rows of least costs -/
/-- The row of sight i. -/
def lvV (N : Nat) (all s : List (List Int)) (i : Nat) : List Int := rdR (leastV N all s (i + 1)) (i : Int)
theorem leastV_at (N : Nat) (all s : List (List Int)) : ∀ m j : Nat, j < m → rdR (leastV N all s m) (j : Int) = lvV N all s j
  | 0, j, h => absurd h (Nat.not_lt_zero _)
  | m + 1, j, h => by
    by_cases e : j = m
    · subst e; rfl
    · have ih := leastV_at N all s m j (by omega)
      rw [← ih]
      have hm : ¬ m = 0 := by omega
      have hx : leastV N all s (m + 1) = leastV N all s m ++ [rowV N all (leastV N all s m) s m] := by rw [leastV, if_neg hm]
      rw [hx, rdR_nat, rdR_nat, List.getD_eq_getElem?_getD, List.getElem?_append_left (by rw [leastV_length]; omega), ← List.getD_eq_getElem?_getD]
theorem lvV_zero (N : Nat) (all s : List (List Int)) : lvV N all s 0 = rdR s 0 := by
  unfold lvV
  rw [rdR_nat]
  rfl
theorem lvV_succ (N : Nat) (all s : List (List Int)) (i : Nat) : lvV N all s (i + 1) = rowV N all (leastV N all s (i + 1)) s (i + 1) := by
  unfold lvV
  have hx : leastV N all s (i + 1 + 1) = leastV N all s (i + 1) ++ [rowV N all (leastV N all s (i + 1)) s (i + 1)] := by rw [leastV, if_neg (by omega)]
  rw [hx, rdR_nat, List.getD_eq_getElem?_getD, List.getElem?_append_right (by rw [leastV_length]; omega), leastV_length, Nat.sub_self]
  rfl
/-- What it costs to come to v by u, from sight i to the next. -/
def stV (N : Nat) (all s : List (List Int)) (i u v : Nat) : Int := if rd (rdR all (u : Int)) (v : Int) = 99999 then 99999 else wrap64 (wrap64 (rd (lvV N all s i) (u : Int) + rd (rdR all (u : Int)) (v : Int)) + rd (rdR s ((i + 1 : Nat) : Int)) (v : Int))
theorem stepV_eq (N : Nat) (all s : List (List Int)) (m i u v : Nat) (h : i < m) : stepV all (leastV N all s m) s (i + 1) u v = stV N all s i u v := by
  unfold stepV stV
  rw [Nat.add_sub_cancel, leastV_at N all s m i h]
theorem lvV_at (N : Nat) (all s : List (List Int)) (i v : Nat) (hv : v < N) : rd (lvV N all s (i + 1)) (v : Int) = minF (fun u => stV N all s i u v) N := by
  rw [lvV_succ]
  unfold rowV
  have : rd ((List.range N).map fun v => bestV all (leastV N all s (i + 1)) s (i + 1) v N) (v : Int) = bestV all (leastV N all s (i + 1)) s (i + 1) v N := by simp [rd, hv]
  rw [this, bestV_eq]
  exact (minF_congr N (fun u _ => stepV_eq N all s (i + 1) i u v (by omega))).1
/-- What is asked of a table and of sights. -/
structure SOk (N : Nat) (all s : List (List Int)) : Prop where
  n1 : 1 ≤ N
  s0 : 1 ≤ s.length
  s1 : s.length ≤ 6
  all0 : ∀ u v : Nat, u < N → v < N → 0 ≤ rd (rdR all (u : Int)) (v : Int)
  small : ∀ u v : Nat, u < N → v < N → rd (rdR all (u : Int)) (v : Int) ≠ 99999 → rd (rdR all (u : Int)) (v : Int) ≤ 10000
  diag : ∀ v : Nat, v < N → rd (rdR all (v : Int)) (v : Int) = 0
  sr : ∀ i v : Nat, i < s.length → v < N → 0 ≤ rd (rdR s (i : Int)) (v : Int) ∧ rd (rdR s (i : Int)) (v : Int) ≤ 99
theorem SOk.row {N : Nat} {all s : List (List Int)} (h : SOk N all s) : ∀ i v : Nat, i < s.length → v < N → 0 ≤ rd (lvV N all s i) (v : Int) ∧ rd (lvV N all s i) (v : Int) ≤ 99 * ((i : Int) + 1)
  | 0, v, hi, hv => by
    rw [lvV_zero]
    have := h.sr 0 v hi hv
    simpa using this
  | i + 1, v, hi, hv => by
    have ih := fun u hu => SOk.row h i u (by omega) hu
    have hs := h.sr (i + 1) v hi hv
    have h6 := h.s1
    rw [lvV_at N all s i v hv]
    have ev : stV N all s i v v = rd (lvV N all s i) (v : Int) + rd (rdR s ((i + 1 : Nat) : Int)) (v : Int) := by
      have := ih v hv
      unfold stV
      rw [h.diag v hv, if_neg (by omega), Int.add_zero, w_id (n := rd (lvV N all s i) (v : Int)) (by omega) (by omega), w_id (by omega) (by omega)]
    constructor
    · refine minF_ge _ 0 (by omega) N (fun u hu => ?_)
      simp only [stV]
      by_cases c : rd (rdR all (u : Int)) (v : Int) = 99999
      · rw [if_pos c]; omega
      · rw [if_neg c]
        have h1 := h.all0 u v hu hv
        have h2 := h.small u v hu hv c
        have h3 := ih u hu
        rw [w_id (n := rd (lvV N all s i) (u : Int) + rd (rdR all (u : Int)) (v : Int)) (by omega) (by omega), w_id (by omega) (by omega)]
        omega
    · have := minF_le (fun u => stV N all s i u v) N v hv
      have h3 := ih v hv
      simp only [ev] at this
      omega
theorem SOk.st {N : Nat} {all s : List (List Int)} (h : SOk N all s) (i u v : Nat) (hi : i + 1 < s.length) (hu : u < N) (hv : v < N) : stV N all s i u v = if rd (rdR all (u : Int)) (v : Int) = 99999 then 99999 else rd (lvV N all s i) (u : Int) + rd (rdR all (u : Int)) (v : Int) + rd (rdR s ((i + 1 : Nat) : Int)) (v : Int) := by
  unfold stV
  by_cases c : rd (rdR all (u : Int)) (v : Int) = 99999
  · rw [if_pos c, if_pos c]
  · rw [if_neg c, if_neg c]
    have h1 := h.all0 u v hu hv
    have h2 := h.small u v hu hv c
    have h3 := h.row i u (by omega) hu
    have h4 := h.sr (i + 1) v hi hv
    have h6 := h.s1
    rw [w_id (n := rd (lvV N all s i) (u : Int) + rd (rdR all (u : Int)) (v : Int)) (by omega) (by omega), w_id (by omega) (by omega)]
/-- Where one was ahead of v, the first of those. -/
def fromV (N : Nat) (all s : List (List Int)) (i v : Nat) : Nat := argF (fun u => stV N all s i u v) N
theorem SOk.from_ {N : Nat} {all s : List (List Int)} (h : SOk N all s) (i v : Nat) (hi : i + 1 < s.length) (hv : v < N) : fromV N all s i v < N ∧ stV N all s i (fromV N all s i v) v = rd (lvV N all s (i + 1)) (v : Int) ∧ rd (rdR all (fromV N all s i v : Int)) (v : Int) ≠ 99999 ∧ ∀ u : Nat, u < fromV N all s i v → stV N all s i u v ≠ rd (lvV N all s (i + 1)) (v : Int) := by
  have h1 := h.row (i + 1) v hi hv
  have h6 := h.s1
  rw [lvV_at N all s i v hv] at *
  obtain ⟨a, b, c⟩ := minF_att (fun u => stV N all s i u v) N (by omega)
  refine ⟨a, b, fun e => ?_, c⟩
  have b' : stV N all s i (fromV N all s i v) v = minF (fun u => stV N all s i u v) N := b
  have e2 : stV N all s i (fromV N all s i v) v = 99999 := by unfold stV; rw [if_pos e]
  omega
/-- The nodes up to sight i, the last of them v. -/
def pathV (N : Nat) (all s : List (List Int)) : Nat → Nat → List Int
  | 0, v => [(v : Int)]
  | i + 1, v => pathV N all s i (fromV N all s i v) ++ [(v : Int)]
theorem pathV_length (N : Nat) (all s : List (List Int)) : ∀ i v : Nat, (pathV N all s i v).length = i + 1
  | 0, _ => rfl
  | i + 1, v => by unfold pathV; rw [List.length_append, pathV_length N all s i]; rfl
theorem SOk.back {N : Nat} {all s : List (List Int)} (h : SOk N all s) : ∀ (i v : Nat) (tl : List Int), i < s.length → v < N → backV N all (leastV N all s s.length) s i v tl = some (pathV N all s i v ++ tl)
  | 0, v, tl, _, _ => rfl
  | i + 1, v, tl, hi, hv => by
    obtain ⟨a, b, _, c⟩ := h.from_ i v hi hv
    have hh : ∀ u : Nat, hitV all (leastV N all s s.length) s (i + 1) v u = (stV N all s i u v == rd (lvV N all s (i + 1)) (v : Int)) := fun u => by
      unfold hitV
      rw [stepV_eq N all s s.length i u v (by omega), leastV_at N all s s.length (i + 1) hi]
    unfold backV pathV
    rw [seekV_hit _ N 0 (fromV N all s i v) (Nat.zero_le _) (by omega) (by rw [hh, b]; exact beq_self_eq_true _) (fun j _ hj => by rw [hh]; exact beq_eq_false_iff_ne.2 (c j hj))]
    rw [Option.bind_some, SOk.back h i (fromV N all s i v) _ (by omega) a, List.append_assoc]
    rfl
/-- The first of the best nodes at the last sight. -/
noncomputable def bestAt (N : Nat) (all s : List (List Int)) : Nat := (minK_hit (lvV N all s (s.length - 1)) (N - 1)).choose
noncomputable def leastC (N : Nat) (all s : List (List Int)) : Int := minK (lvV N all s (s.length - 1)) (N - 1)
theorem SOk.at_ {N : Nat} {all s : List (List Int)} (h : SOk N all s) : bestAt N all s < N ∧ rd (lvV N all s (s.length - 1)) (bestAt N all s : Int) = leastC N all s ∧ ∀ i : Nat, i < bestAt N all s → rd (lvV N all s (s.length - 1)) (i : Int) ≠ leastC N all s := by
  obtain ⟨a, b, c⟩ := (minK_hit (lvV N all s (s.length - 1)) (N - 1)).choose_spec
  have := h.n1
  exact ⟨by unfold bestAt; omega, b, c⟩
theorem SOk.le_ {N : Nat} {all s : List (List Int)} (h : SOk N all s) (v : Nat) (hv : v < N) : leastC N all s ≤ rd (lvV N all s (s.length - 1)) (v : Int) := minK_le _ (N - 1) v (by omega)
/-! ### the best nodes for sights -/
theorem sok {n : Int} {l : List S60} (hn : Net1 n l) {s : List (List Int)} (hs : Sights n s) : SOk n.toNat (tableV n l) s := by
  have hlo := hn.lo
  have hd : ∀ u : Nat, u < n.toNat → rdR (tableV n l) (u : Int) = distV n l (u : Int) := fun u hu => tableV_at n l u hu
  refine ⟨by omega, hs.lo, hs.hi, fun u v hu hv => ?_, fun u v hu hv h => ?_, fun v hv => ?_, fun i v hi hv => hs.rng i (v : Int) hi (by omega) (by omega)⟩
  · rw [hd u hu]
    exact ((distV_is hn (s := (u : Int)) (by omega)).inv.rng (v : Int) (by omega) (by omega)).1
  · rw [hd u hu] at h ⊢
    have hD := distV_is hn (s := (u : Int)) (by omega)
    have h1 := (hD.inv.rng (v : Int) (by omega) (by omega)).2
    have := hD.small hn (by omega) (v := (v : Int)) (by omega) (by omega) (by omega)
    omega
  · rw [hd v hv]
    exact (distV_is hn (s := (v : Int)) (by omega)).inv.sz
theorem accN_succ {n : Int} {l : List S60} {s : List (List Int)} {ns : List Int} (i : Nat) : accN n l s ns (i + 1 + 1) = (accN n l s ns (i + 1)).bind fun a => if rd (distV n l (rd ns (i : Int))) (rd ns ((i + 1 : Nat) : Int)) = 99999 then none else some (a + rd (rd_L4 s ((i + 1 : Nat) : Int)) (rd ns ((i + 1 : Nat) : Int)) + rd (distV n l (rd ns (i : Int))) (rd ns ((i + 1 : Nat) : Int))) := by
  rfl
theorem accN_one {n : Int} {l : List S60} {s : List (List Int)} {ns : List Int} : accN n l s ns 1 = some (rd (rd_L4 s ((0 : Nat) : Int)) (rd ns ((0 : Nat) : Int))) := by
  show (some 0).bind _ = _
  simp
theorem accN_congr {n : Int} {l : List S60} {s s' : List (List Int)} {ns ns' : List Int} : ∀ i : Nat, (∀ j : Nat, j < i → rd ns (j : Int) = rd ns' (j : Int) ∧ rd_L4 s (j : Int) = rd_L4 s' (j : Int)) → accN n l s ns i = accN n l s' ns' i
  | 0, _ => rfl
  | 1, h => by rw [accN_one, accN_one, (h 0 (by omega)).1, (h 0 (by omega)).2]
  | i + 2, h => by
    rw [accN_succ, accN_succ, accN_congr (i + 1) (fun j hj => h j (by omega)), (h i (by omega)).1, (h (i + 1) (by omega)).1, (h (i + 1) (by omega)).2]
/-- Nodes cost no less than the least told for the last of them. -/
theorem accN_ge {n : Int} {l : List S60} (hn : Net1 n l) {s : List (List Int)} (hs : Sights n s) {ns : List Int} : ∀ (i : Nat) (a : Int), i < s.length → (∀ j : Nat, j ≤ i → 0 ≤ rd ns (j : Int) ∧ rd ns (j : Int) < n) → accN n l s ns (i + 1) = some a → rd (lvV n.toNat (tableV n l) s i) (rd ns (i : Int)) ≤ a
  | 0, a, hi, _, h => by
    rw [accN_one] at h
    have h := Option.some.inj h
    rw [lvV_zero, ← h]
    exact Int.le_refl _
  | i + 1, a, hi, hb, h => by
    rw [accN_succ] at h
    obtain ⟨b, h1, h2⟩ := Option.bind_eq_some_iff.mp h
    have ih := accN_ge hn hs i b (by omega) (fun j hj => hb j (by omega)) h1
    have b1 := hb i (by omega)
    have b2 := hb (i + 1) (by omega)
    obtain ⟨u, hu⟩ : ∃ u : Nat, rd ns (i : Int) = (u : Int) := ⟨(rd ns (i : Int)).toNat, by omega⟩
    obtain ⟨v, hv⟩ : ∃ v : Nat, rd ns ((i + 1 : Nat) : Int) = (v : Int) := ⟨(rd ns ((i + 1 : Nat) : Int)).toNat, by omega⟩
    rw [hu, hv] at h2
    rw [hv]
    rw [hu] at ih
    have hd : rdR (tableV n l) (u : Int) = distV n l (u : Int) := tableV_at n l u (by omega)
    have hS := sok hn hs
    have st := hS.st i u v hi (by omega) (by omega)
    rw [lvV_at _ _ _ i v (by omega)]
    have le := minF_le (fun u => stV n.toNat (tableV n l) s i u v) n.toNat u (by omega)
    simp only [st, hd] at le
    by_cases c : rd (distV n l (u : Int)) (v : Int) = 99999
    · rw [if_pos c] at h2; cases h2
    · rw [if_neg c] at h2 le
      have h2 := Option.some.inj h2
      have e : rd_L4 s ((i + 1 : Nat) : Int) = rdR s ((i + 1 : Nat) : Int) := rfl
      rw [e] at h2
      omega
theorem rd_app_lt (a : List Int) (x : Int) (j : Nat) (h : j < a.length) : rd (a ++ [x]) (j : Int) = rd a (j : Int) := by
  rw [rd_at _ j (by rw [List.length_append]; omega), rd_at a j h, List.getElem_append_left h]
theorem rd_app_last (a : List Int) (x : Int) : rd (a ++ [x]) ((a.length : Nat) : Int) = x := by
  rw [rd_at _ a.length (by rw [List.length_append]; exact Nat.lt_succ_self _)]
  simp
theorem pathV_last (N : Nat) (all s : List (List Int)) : ∀ i v : Nat, rd (pathV N all s i v) (i : Int) = (v : Int)
  | 0, v => rfl
  | i + 1, v => by
    have h := rd_app_last (pathV N all s i (fromV N all s i v)) (v : Int)
    rw [pathV_length] at h
    exact h
theorem pathV_node {N : Nat} {all s : List (List Int)} (h : SOk N all s) : ∀ i v : Nat, i < s.length → v < N → ∀ j : Nat, j ≤ i → 0 ≤ rd (pathV N all s i v) (j : Int) ∧ rd (pathV N all s i v) (j : Int) < (N : Int)
  | 0, v, _, hv, j, hj => by
    have : j = 0 := by omega
    subst this
    have := pathV_last N all s 0 v
    rw [this]
    omega
  | i + 1, v, hi, hv, j, hj => by
    by_cases e : j = i + 1
    · subst e
      rw [pathV_last]
      omega
    · obtain ⟨a, _⟩ := h.from_ i v hi hv
      have := pathV_node h i (fromV N all s i v) (by omega) a j (by omega)
      unfold pathV
      rw [rd_app_lt _ _ j (by rw [pathV_length]; omega)]
      exact this
theorem acc_path {n : Int} {l : List S60} (hn : Net1 n l) {s : List (List Int)} (hs : Sights n s) : ∀ i v : Nat, i < s.length → v < n.toNat → accN n l s (pathV n.toNat (tableV n l) s i v) (i + 1) = some (rd (lvV n.toNat (tableV n l) s i) (v : Int))
  | 0, v, _, _ => by
    rw [accN_one, lvV_zero]
    rfl
  | i + 1, v, hi, hv => by
    have hS := sok hn hs
    obtain ⟨hu, he, hf, _⟩ := hS.from_ i v hi hv
    have ih := acc_path hn hs i (fromV n.toNat (tableV n l) s i v) (by omega) hu
    have hd : rdR (tableV n l) (fromV n.toNat (tableV n l) s i v : Int) = distV n l (fromV n.toNat (tableV n l) s i v : Int) := tableV_at n l _ hu
    have hlen := pathV_length n.toNat (tableV n l) s i (fromV n.toNat (tableV n l) s i v)
    have c1 : accN n l s (pathV n.toNat (tableV n l) s (i + 1) v) (i + 1) = accN n l s (pathV n.toNat (tableV n l) s i (fromV n.toNat (tableV n l) s i v)) (i + 1) := accN_congr (i + 1) (fun j hj => ⟨rd_app_lt _ _ j (by omega), rfl⟩)
    have c2 : rd (pathV n.toNat (tableV n l) s (i + 1) v) (i : Int) = (fromV n.toNat (tableV n l) s i v : Int) := (rd_app_lt _ _ i (by omega)).trans (pathV_last n.toNat (tableV n l) s i _)
    have st := hS.st i (fromV n.toNat (tableV n l) s i v) v hi hu hv
    rw [accN_succ, c1, ih, c2, pathV_last]
    rw [hd] at hf st
    rw [if_neg hf] at st
    rw [Option.bind_some, if_neg hf, ← he, st]
    have e : rd_L4 s ((i + 1 : Nat) : Int) = rdR s ((i + 1 : Nat) : Int) := rfl
    rw [e]
    congr 1
    omega
/-- What SeenBest tells of sights that are ok. -/
noncomputable def bestN (n : Int) (l : List S60) (s : List (List Int)) : List Int := pathV n.toNat (tableV n l) s (s.length - 1) (bestAt n.toNat (tableV n l) s)
theorem bestN_length {n : Int} {l : List S60} {s : List (List Int)} (hs : Sights n s) : (bestN n l s).length = s.length := by
  have := hs.lo
  unfold bestN
  rw [pathV_length]
  omega
theorem bestN_node {n : Int} {l : List S60} (hn : Net1 n l) {s : List (List Int)} (hs : Sights n s) (j : Nat) (hj : j < s.length) : 0 ≤ rd (bestN n l s) (j : Int) ∧ rd (bestN n l s) (j : Int) < n := by
  have hS := sok hn hs
  have := hs.lo
  have h := pathV_node hS (s.length - 1) (bestAt n.toNat (tableV n l) s) (by omega) hS.at_.1 j (by omega)
  have := hn.lo
  unfold bestN
  omega
theorem bestN_cost {n : Int} {l : List S60} (hn : Net1 n l) {s : List (List Int)} (hs : Sights n s) : costN n l s (bestN n l s) = leastC n.toNat (tableV n l) s := by
  have hS := sok hn hs
  have := hs.lo
  obtain ⟨a, b, _⟩ := hS.at_
  have h := acc_path hn hs (s.length - 1) (bestAt n.toNat (tableV n l) s) (by omega) a
  rw [show s.length - 1 + 1 = s.length by omega] at h
  unfold costN
  rw [bestN_length hs]
  unfold bestN
  rw [h, ← b]
  rfl
theorem least_rng {n : Int} {l : List S60} (hn : Net1 n l) {s : List (List Int)} (hs : Sights n s) : 0 ≤ leastC n.toNat (tableV n l) s ∧ leastC n.toNat (tableV n l) s ≤ 1000 := by
  have hS := sok hn hs
  have := hs.lo
  have := hs.hi
  obtain ⟨a, b, _⟩ := hS.at_
  have := hS.row (s.length - 1) _ (by omega) a
  omega
theorem least_le {n : Int} {l : List S60} (hn : Net1 n l) {s : List (List Int)} (hs : Sights n s) {ns : List Int} (hl : ns.length = s.length) (hb : ∀ j : Nat, j < s.length → 0 ≤ rd ns (j : Int) ∧ rd ns (j : Int) < n) : leastC n.toNat (tableV n l) s ≤ costN n l s ns := by
  have hr := least_rng hn hs
  have h0 := hs.lo
  unfold costN
  cases h : accN n l s ns ns.length with
  | none => exact Int.le_trans hr.2 (by decide)
  | some a =>
    rw [hl, show s.length = s.length - 1 + 1 by omega] at h
    have h1 := accN_ge hn hs (s.length - 1) a (by omega) (fun j hj => hb j (by omega)) h
    have b1 := hb (s.length - 1) (by omega)
    obtain ⟨u, hu⟩ : ∃ u : Nat, rd ns ((s.length - 1 : Nat) : Int) = (u : Int) := ⟨(rd ns ((s.length - 1 : Nat) : Int)).toNat, by omega⟩
    rw [hu] at h1
    have := (sok hn hs).le_ u (by omega)
    exact Int.le_trans this h1
/-! ### the program's best nodes -/
theorem index_first (l : List Int) (x : Int) (m : Nat) (hl : l.length ≤ 9223372036854775807) (hm : m < l.length) (hx : rd l (m : Int) = x) (hne : ∀ i : Nat, i < m → rd l (i : Int) ≠ x) : Ev (fun k => slices_Index_int_int.f k l x) (m : Int) := by
  unfold slices_Index_int_int.f
  refine ev_ind (fun k (i : Nat) => slices_Index_int_int.l0 k l x (l.length : Int) (i : Int)) (fun i => m - i) (fun i => i ≤ m) (fun _ => (m : Int)) ?_ 0 (Nat.zero_le _)
  intro i hi ih
  have h : i < l.length := by omega
  have hlt : (i : Int) < (l.length : Int) := by omega
  have h0 : (0 : Int) ≤ (i : Int) := by omega
  by_cases e : i = m
  · subst e
    rw [rd_at l i h] at hx
    simp only [slices_Index_int_int.l0, hlt, h0, if_true, rd_at l i h, hx]
    exact ev_now fun k => rfl
  · have hq := hne i (by omega)
    rw [rd_at l i h] at hq
    have hq' : ¬ x = l[i] := fun z => hq z.symm
    simp only [slices_Index_int_int.l0, hlt, h0, if_true, rd_at l i h, hq', if_false, wsucc h hl]
    exact ih (i + 1) (by omega) (by omega)
theorem seenOkB_eq (n : Int) (l : List S60) (s : List (List Int)) : seenOkB n l s = (netOkB n l && sightsB n s) := Option.some.inj (seenOk_eq n l s)
theorem lvV_len {n : Int} {l : List S60} (hn : Net1 n l) {s : List (List Int)} (hs : Sights n s) (i : Nat) : (lvV n.toNat (tableV n l) s i).length = n.toNat := by
  have h0 : (rdR s 0).length = n.toNat := by
    have := hs.len 0 hs.lo
    have e : rdR s 0 = rd_L4 s ((0 : Nat) : Int) := rfl
    rw [e]
    omega
  exact leastV_len h0 (i + 1) i (Nat.lt_succ_self _)
theorem seenBest_impl {n : Int} {l : List S60} {s : List (List Int)} (hok : (netOkB n l && sightsB n s) = true) : Ev (fun k => impl_SeenBest.f k n l s) (bestN n l s, leastC n.toNat (tableV n l) s) := by
  obtain ⟨hn, hs⟩ := seen_ok hok
  have hS := sok hn hs
  have hlo := hn.lo
  have h0 := hs.lo
  obtain ⟨a, b, c⟩ := hS.at_
  have hlen := lvV_len hn hs (s.length - 1)
  unfold impl_SeenBest.f sbF
  simp only [seenOkB_eq, hok, if_true]
  refine Ev.bind (table_ev hn) ?_
  show Ev (fun k => if (tableV n l).length = n.toNat ∧ ((tableV n l).all fun r => r.length == n.toNat) = true then endV k n.toNat (tableV n l) (leastV n.toNat (tableV n l) s s.length) s (rdR (leastV n.toNat (tableV n l) s s.length) ((s.length - 1 : Nat) : Int)) else none) _
  have hall : ((tableV n l).all fun r => r.length == n.toNat) = true := by
    rw [List.all_eq_true]
    intro r hr
    obtain ⟨u, hu, rfl⟩ := List.mem_map.1 hr
    have := (distV_is hn (s := (u : Int)) (by have := List.mem_range.1 hu; omega)).inv.len
    exact beq_iff_eq.2 (by omega)
  rw [leastV_at n.toNat (tableV n l) s s.length (s.length - 1) (by omega)]
  simp only [tableV_length, hall, and_self, if_true]
  unfold endV
  rw [hlen]
  refine Ev.bind (index_first (lvV n.toNat (tableV n l) s (s.length - 1)) _ (bestAt n.toNat (tableV n l) s) (by have := hn.hi; omega) (by omega) b c) ?_
  have g : (0 : Int) ≤ (bestAt n.toNat (tableV n l) s : Int) ∧ (bestAt n.toNat (tableV n l) s : Int) < (n.toNat : Int) := by omega
  simp only [g, and_self, if_true, Int.toNat_natCast]
  rw [hS.back (s.length - 1) _ [] (by omega) a, List.append_nil]
  exact ev_now fun k => rfl
theorem seenBest_not {n : Int} {l : List S60} {s : List (List Int)} (hok : ¬ (netOkB n l && sightsB n s) = true) : Ev (fun k => impl_SeenBest.f k n l s) ([], -1) := by
  unfold impl_SeenBest.f sbF
  simp only [seenOkB_eq, if_neg hok]
  exact ev_now fun k => rfl
/-! ### who is seen just on a way -/
def ndsV (l : List S60) (v : Int) (w : List Int) : List Int := v :: w.map fun i => (rd_T60 l i).f1
theorem ndsV_length (l : List S60) (v : Int) (w : List Int) : (ndsV l v w).length = w.length + 1 := by unfold ndsV; rw [List.length_cons, List.length_map]
theorem rd_cons_succ (x : Int) (r : List Int) (i : Nat) : rd (x :: r) ((i + 1 : Nat) : Int) = rd r (i : Int) := by
  unfold rd
  rw [Int.toNat_natCast, Int.toNat_natCast, List.getD_cons_succ]
theorem arc_dist {n : Int} {l : List S60} (hn : Net1 n l) {t : Int} (ht : 0 ≤ t ∧ t < n) {M : List S64} (hM : Fin1 n l t M) {x : S60} (hx : x ∈ l) (hc : cM M x.f1 ≠ 99999) (he : cM M x.f1 + x.f2 = cM M x.f0) (hc0 : cM M x.f0 ≠ 99999) : rd (distV n l x.f0) x.f1 = x.f2 := by
  obtain ⟨e1, e2, e3, e4, _, e5, e6, _⟩ := hn.ends x hx
  have d0 := distV_is hn (s := x.f0) ⟨e1, e2⟩
  have d1 := distV_is hn (s := x.f1) ⟨e3, e4⟩
  have c0 := cM_dist' hn ⟨e1, e2⟩ ht hM
  have c1 := cM_dist' hn ⟨e3, e4⟩ ht hM
  have s0 := hM.small hn e1 e2
  have s1 := hM.small hn e3 e4
  have z := d0.inv.sz
  have up := d0.arc hn hx (by rw [z]; decide)
  have lo := Dist.tri (n := n) (l := l) ⟨e3, e4⟩ d0 d1 ht.1 ht.2 (by omega) (by omega)
  omega
theorem way_dist {n : Int} {l : List S60} (hn : Net1 n l) {t : Int} (ht : 0 ≤ t ∧ t < n) {M : List S64} (hM : Fin1 n l t M) : ∀ (k : Nat) (v : Int), 0 ≤ v → v < n → cM M v ≠ 99999 → aM M v = (k : Int) →
    (∀ i : Nat, i ≤ k → 0 ≤ rd (ndsV l v (walkM l M k v)) (i : Int) ∧ rd (ndsV l v (walkM l M k v)) (i : Int) < n) ∧ ∀ i : Nat, i < k → rd (distV n l (rd (ndsV l v (walkM l M k v)) (i : Int))) (rd (ndsV l v (walkM l M k v)) ((i + 1 : Nat) : Int)) = (rd_T60 l ((walkM l M k v).getD i 0)).f2 ∧ (rd_T60 l ((walkM l M k v).getD i 0)).f2 ≤ 99 := by
  intro k
  induction k with
  | zero =>
    intro v v0 v1 hc ha
    refine ⟨fun i hi => ?_, fun i hi => absurd hi (Nat.not_lt_zero _)⟩
    have : i = 0 := by omega
    subst this
    exact ⟨v0, v1⟩
  | succ k ih =>
    intro v v0 v1 hc ha
    have hv : v ≠ t := by intro e; subst e; have := hM.1.tz.2; omega
    obtain ⟨i0, hi0, e, g1, g2, g3, g4, _⟩ := hM.first hn v0 v1 hv hc
    have hx : l[i0] ∈ l := List.getElem_mem hi0
    obtain ⟨_, _, e3, e4, _, _, e6, _⟩ := hn.ends _ hx
    obtain ⟨h1, h2⟩ := ih l[i0].f1 e3 e4 g2 (by omega)
    have hw : walkM l M (k + 1) v = (i0 : Int) :: walkM l M k l[i0].f1 := by rw [walkM, e, arc_at l i0 hi0]
    have hN : ndsV l v (walkM l M (k + 1) v) = v :: ndsV l l[i0].f1 (walkM l M k l[i0].f1) := by
      rw [hw]
      unfold ndsV
      rw [List.map_cons, arc_at l i0 hi0]
    rw [hN, hw]
    refine ⟨fun i hi => ?_, fun i hi => ?_⟩
    · match i, hi with
      | 0, _ => exact ⟨v0, v1⟩
      | i + 1, hi => rw [rd_cons_succ]; exact h1 i (by omega)
    · match i, hi with
      | 0, _ =>
        rw [rd_cons_succ]
        have a := arc_dist hn ht hM hx g2 (by rw [g1]; exact g3) (by rw [g1]; exact hc)
        rw [g1] at a
        have b : (rd_T60 l (((i0 : Int) :: walkM l M k l[i0].f1).getD 0 0)) = l[i0] := arc_at l i0 hi0
        rw [b]
        exact ⟨a, e6⟩
      | i + 1, hi =>
        rw [rd_cons_succ, rd_cons_succ, List.getD_cons_succ]
        exact h2 i (by omega)
theorem costS_take (l : List S60) : ∀ (w : List Int) (i : Nat), i < w.length → costS l (w.take (i + 1)) = costS l (w.take i) + (rd_T60 l (w.getD i 0)).f2
  | [], i, h => absurd h (Nat.not_lt_zero _)
  | x :: xs, 0, _ => by
    show costS l [x] = costS l [] + _
    simp only [costS, List.getD_cons_zero]
    omega
  | x :: xs, i + 1, h => by
    have ih := costS_take l xs i (by simpa using h)
    rw [List.take_succ_cons, List.take_succ_cons, List.getD_cons_succ]
    simp only [costS]
    omega
theorem acc_way {n : Int} {l : List S60} {s : List (List Int)} {w nds : List Int} (hz : ∀ i : Nat, i ≤ w.length → rd (rd_L4 s (i : Int)) (rd nds (i : Int)) = 0) (hd : ∀ i : Nat, i < w.length → rd (distV n l (rd nds (i : Int))) (rd nds ((i + 1 : Nat) : Int)) = (rd_T60 l (w.getD i 0)).f2 ∧ (rd_T60 l (w.getD i 0)).f2 ≤ 99) : ∀ i : Nat, i ≤ w.length → accN n l s nds (i + 1) = some (costS l (w.take i))
  | 0, _ => by
    rw [accN_one, hz 0 (Nat.zero_le _)]
    rfl
  | i + 1, hi => by
    have ih := acc_way hz hd i (by omega)
    obtain ⟨d1, d2⟩ := hd i (by omega)
    rw [accN_succ, ih, d1, hz (i + 1) hi, costS_take l w i (by omega), Option.bind_some, if_neg (by omega), Int.add_zero]
/-! ### the nodes of a walk -/
theorem along_ev {n : Int} {l : List S60} {w : List Int} (hw : ∀ x ∈ w, 0 ≤ x ∧ x < (l.length : Int)) (h1 : 1 ≤ w.length) (h2 : w.length ≤ 1000) : Ev (fun k => impl_Net_along.f k n l w) (ndsV l (rd_T60 l (rd w 0)).f0 w) := by
  unfold impl_Net_along.f
  have e0 : wrap64 ((w.length : Int) + 1) = ((w.length + 1 : Nat) : Int) := by rw [w_id (by omega) (by omega)]; omega
  have c1 : (0 : Int) ≤ ((w.length + 1 : Nat) : Int) := by omega
  have c2 : w.length + 1 ≤ 35184372088832 := by omega
  have c3 : 0 < (w.length : Int) := by omega
  have b0 := hw w[0] (List.getElem_mem (by omega))
  have er : rd w 0 = w[0] := rd_at w 0 (by omega)
  have c4 : (0 : Int) ≤ rd w 0 := by rw [er]; exact b0.1
  have c5 : rd w 0 < (l.length : Int) := by rw [er]; exact b0.2
  have c6 : ([] : List Int).length < 17592186044416 := by simp
  simp only [e0, c1, Int.toNat_natCast, c2, c3, c4, c5, c6, if_true, Option.bind_some, List.nil_append]
  generalize (rd_T60 l (rd w 0)).f0 = v
  have key := ev_ind (fun k (i : Nat) => impl_Net_along.l0 k (ndsV l v (w.take i)) w (w.length : Int) (i : Int) n l) (fun i => w.length - i) (fun i => i ≤ w.length) (fun _ => ndsV l v w) ?_ 0 (Nat.zero_le _)
  · exact key
  intro i hi ih
  by_cases h : i < w.length
  · have hlt : (i : Int) < (w.length : Int) := by omega
    have h0 : (0 : Int) ≤ (i : Int) := by omega
    have bi := hw w[i] (List.getElem_mem h)
    have ei := rd_at w i h
    have g1 : (0 : Int) ≤ rd w (i : Int) := by rw [ei]; exact bi.1
    have g2 : rd w (i : Int) < (l.length : Int) := by rw [ei]; exact bi.2
    have g3 : (ndsV l v (w.take i)).length < 17592186044416 := by rw [ndsV_length, List.length_take]; omega
    have next := ih (i + 1) (by omega) (by omega)
    have e : ndsV l v (w.take (i + 1)) = ndsV l v (w.take i) ++ [(rd_T60 l (rd w (i : Int))).f1] := by
      unfold ndsV
      rw [List.take_succ_eq_append_getElem h, List.map_append, ei]
      rfl
    rw [e] at next
    simp only [impl_Net_along.l0, hlt, h0, g1, g2, g3, if_true, wsucc h (show w.length ≤ 9223372036854775807 by omega)]
    exact next
  · have hlt : ¬ (i : Int) < (w.length : Int) := by omega
    simp only [impl_Net_along.l0, hlt, if_false]
    refine ev_now fun k => ?_
    rw [List.take_of_length_le (by omega)]
theorem walkNodes_ev {n : Int} {l : List S60} (hok : netOkB n l = true) {w : List Int} (hw : walkB l w = true) (h1 : 1 ≤ w.length) : Ev (fun k => impl_WalkNodes.f k n l w) (ndsV l (rd_T60 l (rd w 0)).f0 w) := by
  have hll := (net1_of hok).len
  have h20 := walk_len hw
  unfold impl_WalkNodes.f
  refine Ev.bind (walkOk_ev n l w (by omega) (by omega)) ?_
  have c1 : ¬ (w.length : Int) = 0 := by omega
  simp only [hok, hw, Bool.and_self, if_true, c1, if_false]
  exact Ev.bind (along_ev (walk_in (by omega) hw) h1 (by omega)) (ev_now fun _ => rfl)
/-! ### the reference turns a net round -/
theorem l1Back_ev (n : Int) (l : List S60) (hl : l.length ≤ 1000) : Ev (fun k => spec_l1Back.f k n l) (n, backL l) := by
  unfold spec_l1Back.f
  have := ev_ind (fun k (s : Nat × List S60) => spec_l1Back.l0 k (s.1 : Int) n l n s.2) (fun s => l.length - s.1) (fun s => s.1 ≤ l.length ∧ s.2.length ≤ s.1) (fun s => (n, s.2 ++ backL (l.drop s.1))) ?_ (0, []) ⟨Nat.zero_le _, by simp⟩
  · simpa using this
  rintro ⟨i, x⟩ ⟨hi, hx⟩ ih
  simp only at hi hx ih ⊢
  by_cases h : i < l.length
  · have hlt : (i : Int) < (l.length : Int) := by omega
    have h0 : (0 : Int) ≤ (i : Int) := by omega
    have b1 : x.length < 3518437208883 := by omega
    simp only [spec_l1Back.l0, hlt, h0, b1, if_true, wsucc h (show l.length ≤ 9223372036854775807 by omega), arc_at l i h]
    refine ev_at (ih (i + 1, x ++ [revA l[i]]) ⟨by simp; omega, by simp; omega⟩ (by simp; omega)) ?_
    rw [List.drop_eq_getElem_cons h, backL, backL, List.map_cons, List.append_assoc]
    rfl
  · have hlt : ¬ (i : Int) < (l.length : Int) := by omega
    simp only [spec_l1Back.l0, hlt, if_false]
    refine ev_now fun k => ?_
    rw [List.drop_of_length_le (by omega)]
    simp [backL]
/-! ### best ways: the reference's -/
structure SI (n : Int) (t : Int) (M : List S64) (S : List Int) : Prop where
  len : (S.length : Int) = n
  tz : rd S t = 0
  rng : ∀ v, 0 ≤ v → v < n → 0 ≤ rd S v ∧ rd S v ≤ 99999
  low : ∀ v, 0 ≤ v → v < n → cM M v ≠ 99999 → aM M v ≤ rd S v
def SUp (n : Int) (M : List S64) (S : List Int) (r : Nat) : Prop := ∀ v, 0 ≤ v → v < n → cM M v ≠ 99999 → aM M v ≤ (r : Int) → rd S v ≤ aM M v
theorem l3Steps_round {n : Int} {l : List S60} (hn : Net1 n l) {t : Int} (ht : 0 ≤ t ∧ t < n) {M : List S64} (hM : Fin1 n l t M) {D : List Int} (hDl : (D.length : Int) = n) (hD : ∀ v, 0 ≤ v → v < n → rd D v = cM M v) (r : Nat) (S0 : List Int) (h0 : SI n t M S0) (hU : SUp n M S0 r) (q : Int) (P : List Int → Prop)
    (next : ∀ S, SI n t M S → SUp n M S (r + 1) → ∃ R, P R ∧ Ev (fun k => spec_l3Steps.l1 k D S (wrap64 (q + 1)) n l) R) :
    ∃ R, P R ∧ Ev (fun k => spec_l3Steps.l2 k D S0 q 0 n l) R := by
  have hll := hn.len
  refine ev_ex (fun k (x : Nat × List Int) => spec_l3Steps.l2 k D x.2 q (x.1 : Int) n l) (fun x => l.length - x.1) (fun x => x.1 ≤ l.length ∧ SI n t M x.2 ∧ (∀ v, 0 ≤ v → v < n → rd x.2 v ≤ rd S0 v) ∧ ∀ j, j < x.1 → ∀ hj : j < l.length, cM M l[j].f1 ≠ 99999 → cM M l[j].f1 + l[j].f2 = cM M l[j].f0 → rd x.2 l[j].f0 ≤ rd S0 l[j].f1 + 1) P ?_ (0, S0) ⟨Nat.zero_le _, h0, fun _ _ _ => Int.le_refl _, fun j hj => absurd hj (Nat.not_lt_zero _)⟩
  rintro ⟨i, S⟩ ⟨hi, hS, hle, hj⟩ ih
  simp only at hi hS hle hj ih ⊢
  by_cases h : i < l.length
  · have hlt : (i : Int) < (l.length : Int) := by omega
    have h0' : (0 : Int) ≤ (i : Int) := by omega
    have hxl : l[i] ∈ l := List.getElem_mem h
    obtain ⟨e1, e2, e3, e4, e5, e6, e7, _⟩ := hn.ends l[i] hxl
    have hlen := hS.len
    have g0 : l[i].f0 < (D.length : Int) := by omega
    have g1 : l[i].f1 < (D.length : Int) := by omega
    have g2 : l[i].f0 < (S.length : Int) := by omega
    have g3 : l[i].f1 < (S.length : Int) := by omega
    have s0 := hM.small hn e1 e2
    have s1 := hM.small hn e3 e4
    have r0 := hS.rng _ e1 e2
    have r1 := hS.rng _ e3 e4
    have l1 := hle _ e3 e4
    have l0 := hle _ e1 e2
    have w1 : wrap64 (l[i].f2 + cM M l[i].f1) = l[i].f2 + cM M l[i].f1 := w_id (by omega) (by omega)
    have w2 : wrap64 (rd S l[i].f1 + 1) = rd S l[i].f1 + 1 := w_id (by omega) (by omega)
    have keep : (cM M l[i].f1 ≠ 99999 → cM M l[i].f1 + l[i].f2 = cM M l[i].f0 → rd S l[i].f0 ≤ rd S0 l[i].f1 + 1) → ∃ R, P R ∧ Ev (fun k => spec_l3Steps.l2 k D S q ((i + 1 : Nat) : Int) n l) R := by
      intro hk
      refine ih (i + 1, S) ⟨by simp; omega, hS, hle, ?_⟩ (by simp; omega)
      intro j hji hjl h1 h2
      simp only at hji ⊢
      by_cases e : j = i
      · subst e; exact hk h1 h2
      · exact hj j (by omega) hjl h1 h2
    simp only [spec_l3Steps.l2, hlt, h0', if_true, arc_at l i h, e1, e3, g0, g1, g2, g3, hD _ e1 e2, hD _ e3 e4, w1, w2, wsucc h (show l.length ≤ 9223372036854775807 by omega)]
    by_cases c1 : cM M l[i].f1 < 99999
    · by_cases c2 : cM M l[i].f0 = l[i].f2 + cM M l[i].f1
      · by_cases c3 : rd S l[i].f1 + 1 < rd S l[i].f0
        · simp only [c1, c2, c3, if_true]
          have hcl := hM.2 _ hxl (by omega)
          unfold Less at hcl
          have hlow := hS.low _ e3 e4 (by omega)
          have ht0 : l[i].f0 ≠ t := by intro e; rw [e, hS.tz] at c3; omega
          refine ih (i + 1, S.set l[i].f0.toNat (rd S l[i].f1 + 1)) ⟨by simp; omega, ⟨by rw [List.length_set]; exact hlen, ?_, ?_, ?_⟩, ?_, ?_⟩ (by simp; omega)
          · rw [rdi_set S _ _ _ e1 g2 ht.1, if_neg ht0]; exact hS.tz
          · intro v v0 v1
            rw [rdi_set S _ _ _ e1 g2 v0]
            split
            · omega
            · exact hS.rng v v0 v1
          · intro v v0 v1 hc
            rw [rdi_set S _ _ _ e1 g2 v0]
            split
            · rename_i e; rw [← e]; omega
            · exact hS.low v v0 v1 hc
          · intro v v0 v1
            simp only
            rw [rdi_set S _ _ _ e1 g2 v0]
            split
            · rename_i e; rw [← e]; omega
            · exact hle v v0 v1
          · intro j hji hjl h1 h2
            simp only at hji ⊢
            obtain ⟨j1, j2, _⟩ := hn.ends l[j] (List.getElem_mem hjl)
            rw [rdi_set S _ _ _ e1 g2 j1]
            split
            · rename_i e
              by_cases e' : j = i
              · subst e'; omega
              · have := hj j (by omega) hjl h1 h2
                rw [← e] at this
                omega
            · rename_i e
              by_cases e' : j = i
              · subst e'; exact absurd rfl e
              · exact hj j (by omega) hjl h1 h2
        · simp only [c1, c2, c3, if_true, if_false]
          exact keep fun _ _ => by omega
      · simp only [c1, c2, if_true, if_false]
        exact keep fun _ h => by omega
    · simp only [c1, if_false]
      exact keep fun h _ => by omega
  · have hlt : ¬ (i : Int) < (l.length : Int) := by omega
    simp only [spec_l3Steps.l2, hlt, if_false]
    refine next S hS ?_
    intro v v0 v1 hc ha
    by_cases ha' : aM M v ≤ (r : Int)
    · exact Int.le_trans (hle v v0 v1) (hU v v0 v1 hc ha')
    · by_cases hv : v = t
      · subst hv; rw [hM.1.tz.2] at ha'; omega
      · obtain ⟨x, hx, g1, g2, g3, g4⟩ := hM.good v0 v1 hv hc
        obtain ⟨j, hjl, rfl⟩ := List.getElem_of_mem hx
        obtain ⟨_, _, e3, e4, _⟩ := hn.ends _ hx
        have h1 := hj j (by omega) hjl g2 (by rw [g1]; exact g3)
        have h2 := hU _ e3 e4 g2 (by omega)
        rw [g1] at h1
        omega
theorem l3Steps_ex {n : Int} {l : List S60} (hn : Net1 n l) {t : Int} (ht : 0 ≤ t ∧ t < n) {M : List S64} (hM : Fin1 n l t M) : ∃ S, ((S.length : Int) = n ∧ ∀ v, 0 ≤ v → v < n → cM M v ≠ 99999 → rd S v = aM M v) ∧ Ev (fun k => spec_l3Steps.f k n l t) S := by
  have hlo := hn.lo
  have hhi := hn.hi
  have hll := hn.len
  obtain ⟨D, ⟨h1, h2⟩, hd⟩ := l3All_ex hn.back ht
  have eD : (M.map fun m => m.f0) = D := near_same hn ht hM h1 h2
  have hl := hM.1.len
  have hDl : (D.length : Int) = n := by rw [← eD, List.length_map]; exact hl
  have hD : ∀ v, 0 ≤ v → v < n → rd D v = cM M v := by
    intro v v0 v1
    obtain ⟨i, rfl⟩ : ∃ i : Nat, v = (i : Int) := ⟨v.toNat, by omega⟩
    rw [← eD, cM_get M i (by omega), rd_at _ i (by rw [List.length_map]; omega), List.getElem_map]
  unfold spec_l3Steps.f
  have b1 : (0 : Int) ≤ n := by omega
  have b2 : n.toNat ≤ 35184372088832 := by omega
  have rounds : ∀ S, SI n t M S → SUp n M S 0 → ∃ R, ((R.length : Int) = n ∧ ∀ v, 0 ≤ v → v < n → cM M v ≠ 99999 → rd R v = aM M v) ∧ Ev (fun k => spec_l3Steps.l1 k D S 0 n l) R := by
    intro S hS hU
    refine ev_ex (fun k (x : Nat × List Int) => spec_l3Steps.l1 k D x.2 (x.1 : Int) n l) (fun x => n.toNat - x.1) (fun x => x.1 ≤ n.toNat ∧ SI n t M x.2 ∧ SUp n M x.2 x.1) _ ?_ (0, S) ⟨Nat.zero_le _, hS, hU⟩
    rintro ⟨r, S⟩ ⟨hr, hS, hU⟩ ih
    simp only at hr hS hU ih ⊢
    by_cases h : r < n.toNat
    · have hlt : (r : Int) < n := by omega
      simp only [spec_l3Steps.l1, hlt, if_true]
      refine l3Steps_round hn ht hM hDl hD r S hS hU r _ fun S1 h1 h2 => ?_
      rw [wsucc h (show n.toNat ≤ 9223372036854775807 by omega)]
      exact ih (r + 1, S1) ⟨by simp; omega, h1, h2⟩ (by simp; omega)
    · have hlt : ¬ (r : Int) < n := by omega
      simp only [spec_l3Steps.l1, hlt, if_false]
      refine ⟨S, ⟨hS.len, fun v v0 v1 hc => ?_⟩, ev_now fun _ => rfl⟩
      have a1 := hS.low v v0 v1 hc
      have a2 := hU v v0 v1 hc (by have := (hM.small hn v0 v1).2.2.2.1 hc; omega)
      omega
  have fill : ∃ R, ((R.length : Int) = n ∧ ∀ v, 0 ≤ v → v < n → cM M v ≠ 99999 → rd R v = aM M v) ∧ Ev (fun k => spec_l3Steps.l0 k t D (List.replicate n.toNat 0) 0 n l) R := by
    refine ev_ex (fun k (x : Nat × List Int) => spec_l3Steps.l0 k t D x.2 (x.1 : Int) n l) (fun x => n.toNat - x.1) (fun x => x.1 ≤ n.toNat ∧ (x.2.length : Int) = n ∧ ∀ j : Nat, j < x.1 → rd x.2 (j : Int) = 99999) _ ?_ (0, List.replicate n.toNat 0) ⟨Nat.zero_le _, by rw [List.length_replicate]; omega, fun j hj => absurd hj (Nat.not_lt_zero _)⟩
    rintro ⟨i, S⟩ ⟨hi, hlen, hj⟩ ih
    simp only at hi hlen hj ih ⊢
    by_cases h : i < n.toNat
    · have hlt : (i : Int) < n := by omega
      have h0 : (0 : Int) ≤ (i : Int) := by omega
      have g : (i : Int) < (S.length : Int) := by omega
      simp only [spec_l3Steps.l0, hlt, h0, g, if_true, wsucc h (show n.toNat ≤ 9223372036854775807 by omega)]
      refine ih (i + 1, S.set (i : Int).toNat 99999) ⟨by simp; omega, by rw [List.length_set]; exact hlen, ?_⟩ (by simp; omega)
      intro j hji
      simp only at hji ⊢
      rw [rdi_set S _ _ _ h0 g (by omega)]
      by_cases e : (i : Int) = (j : Int)
      · rw [if_pos e]
      · rw [if_neg e]; exact hj j (by omega)
    · have hlt : ¬ (i : Int) < n := by omega
      have g : t < (S.length : Int) := by omega
      have hc : ∀ j, 0 ≤ j → j < n → rd (S.set t.toNat 0) j = if t = j then 0 else 99999 := by
        intro j j0 j1
        rw [rdi_set S _ _ _ ht.1 g j0]
        split
        · rfl
        · obtain ⟨k, rfl⟩ : ∃ k : Nat, j = (k : Int) := ⟨j.toNat, by omega⟩
          exact hj k (by omega)
      simp only [spec_l3Steps.l0, hlt, ht.1, g, if_false, if_true]
      refine rounds _ ⟨by rw [List.length_set]; exact hlen, by rw [hc t ht.1 ht.2, if_pos rfl], ?_, ?_⟩ ?_
      · intro v v0 v1; rw [hc v v0 v1]; split <;> omega
      · intro v v0 v1 hcv
        have s := hM.small hn v0 v1
        rw [hc v v0 v1]
        split
        · rename_i e; subst e; rw [hM.1.tz.2]; exact Int.le_refl _
        · omega
      · intro v v0 v1 hcv ha
        have s := hM.small hn v0 v1
        have e := hM.zero hn v0 v1 hcv (by omega)
        rw [hc v v0 v1, if_pos e.symm]
        exact s.1
  obtain ⟨R, hR, he⟩ := fill
  refine ⟨R, hR, Ev.bind (l1Back_ev n l (by omega)) (Ev.bind hd ?_)⟩
  simp only [b1, b2, if_true]
  exact he
theorem l3Walk_loop {n : Int} {l : List S60} (hn : Net1 n l) {t : Int} {M : List S64} (hM : Fin1 n l t M) {D S : List Int} (hDl : (D.length : Int) = n) (hD : ∀ v, 0 ≤ v → v < n → rd D v = cM M v) (hSl : (S.length : Int) = n) (hS : ∀ v, 0 ≤ v → v < n → cM M v ≠ 99999 → rd S v = aM M v) : ∀ (k : Nat) (v : Int) (acc : List Int), 0 ≤ v → v < n → cM M v ≠ 99999 → aM M v = (k : Int) → acc.length + k ≤ 1000 →
    Ev (fun f => spec_l3Walk.l0 f t D S acc v n l) (acc ++ walkM l M k v, true) := by
  have hll := hn.len
  intro k
  induction k with
  | zero =>
    intro v acc v0 v1 hc ha _
    have e := hM.zero hn v0 v1 hc (by simpa using ha)
    subst e
    exact ev_shift (ev_now fun f => by simp [spec_l3Walk.l0, walkM])
  | succ k ih =>
    intro v acc v0 v1 hc ha hl
    have hv : v ≠ t := by intro e; subst e; have := hM.1.tz.2; omega
    obtain ⟨i, hi, e, g1, g2, g3, g4, hb⟩ := hM.first hn v0 v1 hv hc
    obtain ⟨_, _, i3, i4, _⟩ := hn.ends _ (List.getElem_mem hi)
    have next := ih l[i].f1 (acc ++ [(i : Int)]) i3 i4 g2 (by omega) (by simp; omega)
    refine ev_shift ?_
    simp only [spec_l3Walk.l0, hv, if_false]
    refine ev_at (ev_ind (fun f (j : Nat) => spec_l3Walk.l1 f t D S acc v (j : Int) n l) (fun j => l.length - j) (fun j => j ≤ i) (fun _ => (acc ++ [(i : Int)] ++ walkM l M k l[i].f1, true)) ?_ 0 (Nat.zero_le _)) (by rw [walkM, e, arc_at l i hi]; simp)
    intro j hj ih2
    have hjl : j < l.length := by omega
    obtain ⟨e1, e2, e3, e4, e5, e6, e7, _⟩ := hn.ends _ (List.getElem_mem hjl)
    have s1 := hM.small hn e3 e4
    have sv := hM.small hn v0 v1
    have hlt : (j : Int) < (l.length : Int) := by omega
    have h0 : (0 : Int) ≤ (j : Int) := by omega
    have q1 : l[j].f1 < (D.length : Int) := by omega
    have q2 : v < (D.length : Int) := by omega
    have q3 : v < (S.length : Int) := by omega
    have q4 : l[j].f1 < (S.length : Int) := by omega
    have q5 : acc.length < 17592186044416 := by omega
    have w1 : wrap64 (l[j].f2 + cM M l[j].f1) = l[j].f2 + cM M l[j].f1 := w_id (by omega) (by omega)
    have hg := goodM_iff hn hM v (List.getElem_mem hjl)
    by_cases hji : j = i
    · subst hji
      have c1 : cM M l[j].f1 < 99999 := by omega
      have c2 : cM M v = l[j].f2 + cM M l[j].f1 := by omega
      have w2 : wrap64 (aM M l[j].f1 + 1) = aM M l[j].f1 + 1 := w_id (by omega) (by omega)
      have c3 : aM M v = aM M l[j].f1 + 1 := by omega
      simp only [spec_l3Walk.l1, hlt, h0, if_true, arc_at l j hjl, g1, e3, q1, hD _ e3 e4, c1, v0, q2, hD v v0 v1, w1, c2, q3, q4, hS v v0 v1 hc, hS _ e3 e4 g2, w2, c3, q5]
      exact next
    · have hno : ¬ goodM M v l[j] = true := by rw [hb j (by omega)]; exact Bool.false_ne_true
      rw [hg] at hno
      have nx := ih2 (j + 1) (by omega) (by omega)
      simp only [spec_l3Walk.l1, hlt, h0, if_true, arc_at l j hjl, e3, q1, hD _ e3 e4, v0, q2, hD v v0 v1, w1, q3, q4, hS v v0 v1 hc, wsucc hjl (show l.length ≤ 9223372036854775807 by omega)]
      by_cases c0 : l[j].f0 = v
      · by_cases c1 : cM M l[j].f1 < 99999
        · by_cases c2 : cM M v = l[j].f2 + cM M l[j].f1
          · have hc1 : cM M l[j].f1 ≠ 99999 := by omega
            have w2 : wrap64 (aM M l[j].f1 + 1) = aM M l[j].f1 + 1 := w_id (by omega) (by omega)
            have c3 : ¬ aM M v = aM M l[j].f1 + 1 := fun h => hno ⟨c0, hc1, by omega, by omega⟩
            simp only [c0, c1, c2, if_true, hS _ e3 e4 hc1, w2, c3, if_false]
            exact nx
          · simp only [c0, c1, c2, if_true, if_false]
            exact nx
        · simp only [c0, c1, if_true, if_false]
          exact nx
      · simp only [c0, if_false]
        exact nx
theorem l3Walk_ev {n : Int} {l : List S60} (hn : Net1 n l) {a b : Int} (ha : 0 ≤ a ∧ a < n) (hb : 0 ≤ b ∧ b < n) {M : List S64} (hM : Fin1 n l b M) : Ev (fun k => spec_l3Walk.f k n l a b) (bestM l M a) := by
  have hll := hn.len
  obtain ⟨D, ⟨h1, h2⟩, hd⟩ := l3All_ex hn.back hb
  have eD : (M.map fun m => m.f0) = D := near_same hn hb hM h1 h2
  have hl := hM.1.len
  have hDl : (D.length : Int) = n := by rw [← eD, List.length_map]; exact hl
  have hD : ∀ v, 0 ≤ v → v < n → rd D v = cM M v := by
    intro v v0 v1
    obtain ⟨i, rfl⟩ : ∃ i : Nat, v = (i : Int) := ⟨v.toNat, by omega⟩
    rw [← eD, cM_get M i (by omega), rd_at _ i (by rw [List.length_map]; omega), List.getElem_map]
  obtain ⟨S, ⟨hSl, hS⟩, hs⟩ := l3Steps_ex hn hb hM
  have s := hM.small hn ha.1 ha.2
  have g : a < (D.length : Int) := by omega
  unfold spec_l3Walk.f bestM
  refine Ev.bind (l1Back_ev n l (by omega)) (Ev.bind hd (Ev.bind hs ?_))
  simp only [Option.bind_some, ha.1, g, if_true, hD a ha.1 ha.2]
  by_cases hc : cM M a = 99999
  · have : cM M a ≥ 99999 := by omega
    simp only [hc, ge_iff_le, Int.le_refl, if_true]
    exact ev_now fun _ => rfl
  · have : ¬ cM M a ≥ 99999 := by omega
    simp only [hc, this, if_false]
    exact ev_at (l3Walk_loop hn hM hDl hD hSl hS (aM M a).toNat a [] ha.1 ha.2 hc (by omega) (by simp; omega)) (by simp)
/-! ### the laws' own tests of lists -/
theorem ev_uniq {α : Type} {g : Nat → Option α} {a b : α} (h : Ev g a) (h' : Ev g b) : a = b := by
  obtain ⟨K, h⟩ := h
  obtain ⟨K', h'⟩ := h'
  have h1 := h (max K K') (by omega)
  rw [h' (max K K') (by omega)] at h1
  exact (Option.some.inj h1).symm
theorem wkInts_self (l : List Int) (hl : l.length ≤ 9223372036854775807) : Ev (fun k => laws_wkInts.f k l l) true := by
  unfold laws_wkInts.f
  simp only [if_true]
  refine ev_ind (fun k (i : Nat) => laws_wkInts.l0 k l l (i : Int)) (fun i => l.length - i) (fun i => i ≤ l.length) (fun _ => true) ?_ 0 (Nat.zero_le _)
  intro i hi ih
  by_cases h : i < l.length
  · have hlt : (i : Int) < (l.length : Int) := by omega
    have h0 : (0 : Int) ≤ (i : Int) := by omega
    simp only [laws_wkInts.l0, hlt, h0, if_true, wsucc h hl]
    exact ih (i + 1) (by omega) (by omega)
  · have hlt : ¬ (i : Int) < (l.length : Int) := by omega
    simp only [laws_wkInts.l0, hlt, if_false]
    exact ev_now fun _ => rfl
/-- A row that is 0 at one node alone. -/
def zrow (a : Int) (m : Nat) : List Int := (List.range m).map fun k : Nat => if (k : Int) = a then 0 else 99
theorem zrow_length (a : Int) (m : Nat) : (zrow a m).length = m := by unfold zrow; rw [List.length_map, List.length_range]
theorem zrow_succ (a : Int) (m : Nat) : zrow a (m + 1) = zrow a m ++ [if (m : Int) = a then 0 else 99] := by
  unfold zrow
  rw [List.range_succ, List.map_append]
  rfl
theorem zrow_at (v m : Nat) (h : v < m) : rd (zrow (v : Int) m) (v : Int) = 0 := by
  rw [rd_at _ v (by rw [zrow_length]; exact h)]
  unfold zrow
  simp
def zrows (nds : List Int) (m : Nat) : List (List Int) := nds.map fun a => zrow a m
theorem zrows_ok {n : Int} {nds : List Int} (hn1 : 1 ≤ n) (h1 : 1 ≤ nds.length) (h6 : nds.length ≤ 6) : sightsB n (zrows nds n.toNat) = true := by
  unfold sightsB
  have hl : (zrows nds n.toNat).length = nds.length := by unfold zrows; rw [List.length_map]
  rw [Bool.and_eq_true, Bool.not_eq_true', hl]
  refine ⟨?_, inB_iff.2 (by omega)⟩
  rw [← Bool.not_eq_true, List.any_eq_true]
  rintro ⟨x, hx, hb⟩
  obtain ⟨a, _, rfl⟩ := List.mem_map.1 hx
  unfold seenBad at hb
  rw [Bool.or_eq_true, decide_eq_true_eq, zrow_length] at hb
  rcases hb with hb | hb
  · exact hb (by omega)
  · rw [List.any_eq_true] at hb
    obtain ⟨y, hy, hb⟩ := hb
    unfold zrow at hy
    obtain ⟨k, _, rfl⟩ := List.mem_map.1 hy
    have : inB (if (k : Int) = a then (0 : Int) else 99) 0 99 = true := by
      split
      · decide
      · decide
    rw [this] at hb
    cases hb
theorem nearWalk_spec {n : Int} {l : List S60} (hok : netOkB n l = true) (hl : l.length ≤ 9223372036854775807) {a b : Int} (ha : 0 ≤ a ∧ a < n) (hb : 0 ≤ b ∧ b < n) {M : List S64} (hM : Fin1 n l b M) : Ev (fun k => spec_NearWalk.f k n l a b) (bestM l M a) := by
  have hn := net1_of hok
  unfold spec_NearWalk.f
  refine Ev.bind (l1Ok_ev n l hl) ?_
  simp only [hok, if_true, l1In_eq, Option.bind_some, inB_node hn ha, inB_node hn hb]
  exact Ev.bind (l3Walk_ev hn ha hb hM) (ev_now fun _ => rfl)
theorem nearWalk_not {n : Int} {l : List S60} (hl : l.length ≤ 9223372036854775807) {a b : Int} (h : ¬ (netOkB n l && (inB a 0 (wrap64 (n - 1)) && inB b 0 (wrap64 (n - 1)))) = true) : Ev (fun k => impl_NearWalk.f k n l a b) ([], false) ∧ Ev (fun k => spec_NearWalk.f k n l a b) ([], false) := by
  have h' : (netOkB n l && (inB a 0 (wrap64 (n - 1)) && inB b 0 (wrap64 (n - 1)))) = false := by simpa using h
  constructor
  · unfold impl_NearWalk.f
    simp only [nodesIn_eq, Option.bind_some, hasB2, h', Bool.false_eq_true, if_false]
    exact ev_now fun _ => rfl
  · unfold spec_NearWalk.f
    refine Ev.bind (l1Ok_ev n l hl) ?_
    cases h1 : netOkB n l with
    | false => exact ev_now fun _ => rfl
    | true =>
      simp only [if_true, l1In_eq, Option.bind_some]
      cases h2 : inB a 0 (wrap64 (n - 1)) with
      | false => exact ev_now fun _ => rfl
      | true =>
        cases h3 : inB b 0 (wrap64 (n - 1)) with
        | false => exact ev_now fun _ => rfl
        | true => rw [h1, h2, h3] at h'; cases h'
theorem FnSeenWay : laws_FnSeenWay.Pure := by
  intro c _ _ hc
  refine Ev.rounds ?_
  unfold laws_FnSeenWay.f
  by_cases h0 : (c.length : Int) > 1048576
  · simp only [h0, if_true]; exact ev_now fun _ => rfl
  simp only [h0, if_false]
  obtain ⟨n, l, a, b, he, hl⟩ := drawNearWalk_ex c hc
  refine Ev.bind he ?_
  simp only
  have fin : ∀ (w : List Int) (ok : Bool), w.length ≤ 1000 → Ev (fun k => laws_FnSeenWay.j0 k w ok w ok true n l) true := fun w ok hw => by
    refine ev_shift ?_
    simp only [laws_FnSeenWay.j0, if_true, beq_self_eq_true]
    exact Ev.bind (wkInts_self w (by omega)) (ev_now fun _ => rfl)
  by_cases hok : (netOkB n l && (inB a 0 (wrap64 (n - 1)) && inB b 0 (wrap64 (n - 1)))) = true
  case neg =>
    obtain ⟨e1, e2⟩ := nearWalk_not (n := n) (l := l) (by omega) hok
    refine Ev.bind e1 (Ev.bind e2 ?_)
    have z : ¬ ((false != false) = true) := by decide
    simp only [z, if_false]
    refine Ev.bind (wkInts_self _ (by simp)) ?_
    simp only [if_true, List.length_nil]
    exact fin [] false (by simp)
  rw [Bool.and_eq_true, Bool.and_eq_true] at hok
  obtain ⟨ok, oa, ob⟩ := hok
  have hn := net1_of ok
  have ha := node_of hn oa
  have hb := node_of hn ob
  have hlo := hn.lo
  have hhi := hn.hi
  obtain ⟨M, hM, e1⟩ := nearWalk_ev ok ha hb
  have e2 := nearWalk_spec ok (by omega) ha hb hM
  have s := hM.small hn ha.1 ha.2
  have hlen8 : (bestM l M a).1.length ≤ 8 := by
    unfold bestM
    by_cases hz : cM M a = 99999
    · rw [if_pos hz]; simp
    · rw [if_neg hz]
      have := (walkM_goes hn hM (aM M a).toNat a ha.1 ha.2 hz (by omega)).2.1
      simp only
      omega
  refine Ev.bind e1 (Ev.bind e2 ?_)
  have z : ¬ (((bestM l M a).2 != (bestM l M a).2) = true) := by simp
  simp only [z, if_false]
  refine Ev.bind (wkInts_self _ (by omega)) ?_
  simp only [if_true]
  by_cases hz : ((bestM l M a).1.length : Int) = 0
  · simp only [hz, if_true]
    exact fin _ _ (by omega)
  simp only [hz, if_false]
  by_cases h6 : ((bestM l M a).1.length : Int) ≥ 6
  · simp only [h6, decide_true]
    exact fin _ _ (by omega)
  simp only [h6, decide_false]
  have hcz : cM M a ≠ 99999 := by
    intro e
    unfold bestM at hz
    rw [if_pos e] at hz
    exact hz rfl
  obtain ⟨w, hw⟩ : ∃ w, w = walkM l M (aM M a).toNat a := ⟨_, rfl⟩
  have hbm : (bestM l M a).1 = w := by unfold bestM; rw [if_neg hcz, hw]
  rw [hbm] at hz h6 hlen8 ⊢
  obtain ⟨g1, g2, g3⟩ := walkM_goes hn hM (aM M a).toNat a ha.1 ha.2 hcz (by omega)
  obtain ⟨d1, d2⟩ := way_dist hn hb hM (aM M a).toNat a ha.1 ha.2 hcz (by omega)
  rw [← hw] at g1 g2 g3 d1 d2
  rw [← g2] at d1 d2
  have hll := hn.len
  have hwB := goes_walkB (by omega) g1 hlen8
  have hfirst : (rd_T60 l (rd w 0)).f0 = a := by
    cases w with
    | nil => exact absurd rfl hz
    | cons x xs => exact g1.2.1
  have eN := walkNodes_ev ok hwB (by omega)
  rw [hfirst] at eN
  refine ev_shift ?_
  simp only [laws_FnSeenWay.j0, Bool.false_eq_true, if_false]
  refine Ev.bind eN ?_
  obtain ⟨nds, hnds⟩ : ∃ nds, nds = ndsV l a w := ⟨_, rfl⟩
  have hnl : nds.length = w.length + 1 := by rw [hnds]; exact ndsV_length l a w
  rw [← hnds] at d1 d2 ⊢
  have hsB := zrows_ok (n := n) (nds := nds) hlo (by omega) (by omega)
  have hboth : (netOkB n l && sightsB n (zrows nds n.toNat)) = true := by rw [Bool.and_eq_true]; exact ⟨ok, hsB⟩
  have hs := sights_of hsB
  have hzl : (zrows nds n.toNat).length = nds.length := by unfold zrows; rw [List.length_map]
  have hnode : ∀ i : Nat, i < nds.length → 0 ≤ rd nds (i : Int) ∧ rd nds (i : Int) < n := fun i hi => d1 i (by omega)
  have hzero : ∀ i : Nat, i ≤ w.length → rd (rd_L4 (zrows nds n.toNat) (i : Int)) (rd nds (i : Int)) = 0 := fun i hi => by
    have hin : i < nds.length := by omega
    have b := hnode i hin
    have e : rd_L4 (zrows nds n.toNat) (i : Int) = zrow (rd nds (i : Int)) n.toNat := by
      rw [row_at _ i (by omega), rd_at nds i hin]
      unfold zrows
      rw [List.getElem_map]
    rw [e]
    obtain ⟨v, hv⟩ : ∃ v : Nat, rd nds (i : Int) = (v : Int) := ⟨(rd nds (i : Int)).toNat, by omega⟩
    rw [hv]
    exact zrow_at v n.toNat (by omega)
  have acc := acc_way hzero d2 w.length (Nat.le_refl _)
  rw [List.take_length] at acc
  have hcost : costN n l (zrows nds n.toNat) nds = costS l w := by
    unfold costN
    rw [hnl, acc]
    rfl
  have hhas : hasB n nds = true := by
    unfold hasB
    rw [Bool.not_eq_true', ← Bool.not_eq_true, List.any_eq_true]
    rintro ⟨x, hx, hb⟩
    obtain ⟨i, hi, rfl⟩ := List.getElem_of_mem hx
    have := hnode i hi
    rw [rd_at nds i hi] at this
    rw [inB_node hn this] at hb
    cases hb
  have hle := least_le hn hs (ns := nds) (by omega) (fun j hj => hnode j (by omega))
  rw [hcost] at hle
  have eC := seenCost_impl hboth (ns := nds) (by omega) hhas
  rw [hcost] at eC
  have eW := walkCost_ev ok w hwB
  have eB := seenBest_impl hboth
  have step : Ev (fun k => laws_FnSeenWay.l0 k w nds (zrows (nds.take 0) n.toNat) ((0 : Nat) : Int) n l) true := by
    refine ev_ind (fun k (i : Nat) => laws_FnSeenWay.l0 k w nds (zrows (nds.take i) n.toNat) (i : Int) n l) (fun i => nds.length - i) (fun i => i ≤ nds.length) (fun _ => true) ?_ 0 (Nat.zero_le _)
    intro i hi ih
    by_cases h : i < nds.length
    · have hlt : (i : Int) < (nds.length : Int) := by omega
      have h0 : (0 : Int) ≤ (i : Int) := by omega
      have next := ih (i + 1) (by omega) (by omega)
      have e : zrows (nds.take (i + 1)) n.toNat = zrows (nds.take i) n.toNat ++ [zrow (rd nds (i : Int)) n.toNat] := by
        unfold zrows
        rw [List.take_succ_eq_append_getElem h, List.map_append, rd_at nds i h]
        rfl
      rw [e] at next
      have g5 : (zrows (nds.take i) n.toNat).length < 5864062014805 := by unfold zrows; rw [List.length_map, List.length_take]; omega
      simp only [laws_FnSeenWay.l0, hlt, if_true]
      have inner := ev_ind (fun k (j : Nat) => laws_FnSeenWay.l1 k w nds (zrows (nds.take i) n.toNat) (i : Int) (zrow (rd nds (i : Int)) j) (j : Int) n l) (fun j => n.toNat - j) (fun j => j ≤ n.toNat) (fun _ => true) ?_ 0 (Nat.zero_le _)
      · exact inner
      intro j hj ihj
      by_cases g : j < n.toNat
      · have glt : (j : Int) < n := by omega
        have nx := ihj (j + 1) (by omega) (by omega)
        rw [zrow_succ] at nx
        have g6 : (zrow (rd nds (i : Int)) j).length < 17592186044416 := by rw [zrow_length]; omega
        have hw' := wsucc g (show n.toNat ≤ 9223372036854775807 by omega)
        by_cases q : (j : Int) = rd nds (i : Int)
        · rw [if_pos q] at nx
          simp only [laws_FnSeenWay.l1, glt, h0, hlt, if_true, g6, hw']
          simp only [if_pos q]
          exact nx
        · rw [if_neg q] at nx
          simp only [laws_FnSeenWay.l1, glt, h0, hlt, q, if_true, if_false, g6, hw']
          exact nx
      · have glt : ¬ (j : Int) < n := by omega
        have hjn : j = n.toNat := by omega
        simp only [laws_FnSeenWay.l1, glt, g5, if_true, if_false, wsucc h (show nds.length ≤ 9223372036854775807 by omega)]
        rw [hjn]
        exact next
    · have hlt : ¬ (i : Int) < (nds.length : Int) := by omega
      simp only [laws_FnSeenWay.l0, hlt, if_false]
      rw [List.take_of_length_le (by omega)]
      refine Ev.bind eB (Ev.bind eC (Ev.bind eW ?_))
      simp only [if_true]
      refine Ev.bind eW ?_
      simp only [hle, decide_true]
      exact ev_now fun _ => rfl
  exact step
end Go.Proofs.Ytjnbhieppghidaa.Pure
