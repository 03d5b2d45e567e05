/- The pure statement of FnLiveNow: of every drawn net with news the program tells the net as it is now: each arc that is not shut, with what all its news add, at most the greatest cost; without news it is the net. No condition. -/
import Derived.Test.YthgihpbpebbebaaFKinds
import Derived.Test.YthgihpbpebbebaaFimplArc102
import Derived.Test.YthgihpbpebbebaaFimplLiveNow
import Derived.Test.YthgihpbpebbebaaFimplLiveOk
import Derived.Test.YthgihpbpebbebaaFimplLivenow
import Derived.Test.YthgihpbpebbebaaFimplNetOk
import Derived.Test.YthgihpbpebbebaaFimplnewsOk
import Derived.Test.YthgihpbpebbebaaFimplwithin
import Derived.Test.YthgihpbpebbebaaFlawsFnLiveNow
import Derived.Test.YthgihpbpebbebaaFspecDrawLiveNow
import Derived.Test.YthgihpbpebbebaaFspecLiveNow
import Derived.Test.YthgihpbpebbebaaFspecLiveOk
import Derived.Test.YthgihpbpebbebaaFspecLiveTell
import Derived.Test.YthgihpbpebbebaaFspecl16Copy
import Derived.Test.YthgihpbpebbebaaFspecl16Now
import Derived.Test.YthgihpbpebbebaaFspecl16Ok
import Derived.Test.YthgihpbpebbebaaFspecl1Copy
import Derived.Test.YthgihpbpebbebaaFspecl1In
import Derived.Test.YthgihpbpebbebaaFspecl1Ok
import Derived.Test.YthgihpbpebbebaaFspecl30Live
import Derived.Test.YthgihpbpebbebaaFspecl30Net
import Derived.Test.YthgihpbpebbebaaFspecl30News
import Derived.Test.YthgihpbpebbebaaFspecl30Open
import Derived.Test.YthgihpbpebbebaaFspecl30Rdone
import Derived.Test.YthgihpbpebbebaaFspecl30Rdpick
import Derived.Test.YthgihpbpebbebaaFtextcore
import Derived.Test.YthgihpbpebbebaaFwkNet
namespace Go.Proofs.Ythgihpbpebbebaa.Pure
open Go.RowKit Go.Proofs.Ythgihpbpebbebaa.F Go.Proofs.YthgihpbpebbebaaW.PrintWords
set_option linter.unusedVariables false
set_option linter.unusedSimpArgs false
/-! ### rounds -/
theorem ev_shift {α : Type} {g : Nat → Option α} {r : α} (h : Ev (fun k => g (k + 1)) r) : Ev g r := by
  obtain ⟨K, h⟩ := h
  refine ⟨K + 1, fun k hk => ?_⟩
  obtain ⟨m, rfl⟩ : ∃ m, k = m + 1 := ⟨k - 1, by omega⟩
  exact h m (by omega)
theorem ev_ind {σ β : Type} (g : Nat → σ → Option β) (μ : σ → Nat) (Inv : σ → Prop) (r : σ → β)
    (h : ∀ s, Inv s → (∀ s', Inv s' → μ s' < μ s → Ev (fun k => g k s') (r s')) → Ev (fun k => g (k + 1) s) (r s)) : ∀ s, Inv s → Ev (fun k => g k s) (r s) := by
  have key : ∀ n s, μ s ≤ n → Inv s → Ev (fun k => g k s) (r s) := by
    intro n
    induction n with
    | zero => intro s hs hi; exact ev_shift (h s hi (fun s' _ hlt => absurd hlt (by omega)))
    | succ n ih => intro s hs hi; exact ev_shift (h s hi (fun s' hi' hlt => ih s' (by omega) hi'))
  exact fun s hi => key _ s (Nat.le_refl _) hi
theorem ev_now {α : Type} {g : Nat → Option α} {r : α} (h : ∀ k, g k = some r) : Ev g r := ⟨0, fun k _ => h k⟩
theorem ev_at {α : Type} {g : Nat → Option α} {r r' : α} (h : Ev g r) (e : r = r') : Ev g r' := e ▸ h
/-! ### numbers and lists -/
theorem wsucc {i n : Nat} (h : i < n) (hn : n ≤ 9223372036854775807) : wrap64 ((i : Int) + 1) = ((i + 1 : Nat) : Int) := by
  unfold wrap64; omega
theorem wpred {i : Nat} (h : 0 < i) (hi : i ≤ 9223372036854775807) : wrap64 ((i : Int) - 1) = ((i - 1 : Nat) : Int) := by
  unfold wrap64; omega
theorem w_id {n : Int} (h : -9223372036854775808 ≤ n) (h' : n ≤ 9223372036854775807) : wrap64 n = n := by unfold wrap64; omega
theorem rd_nat (l : List Int) (i : Nat) : rd l (i : Int) = l.getD i 0 := by simp [rd]
theorem rd_at (l : List Int) (i : Nat) (h : i < l.length) : rd l (i : Int) = l[i] := by simp [rd, h]
theorem arc_at (l : List S31) (i : Nat) (h : i < l.length) : rd_T31 l (i : Int) = l[i] := by simp [rd_T31, h]
theorem any_at {α : Type} (p : α → Bool) (l : List α) (i : Nat) (h : i < l.length) : (l.drop i).any p = (p l[i] || (l.drop (i + 1)).any p) := by
  rw [List.drop_eq_getElem_cons h, List.any_cons]
/-! ### is a net valid -/
theorem within_eq (a b c : Int) : impl_within.f a b c = some (inB a b c) := by
  unfold impl_within.f inB
  by_cases h : b ≤ a
  · rw [if_pos h]; simp [h]
  · rw [if_neg h]; simp [h]
theorem l1In_eq (a b c : Int) : spec_l1In.f a b c = some (inB a b c) := within_eq a b c
theorem arcBad_eq (n : Int) (x : S31) : arcBad n x = !(inB x.f0 0 (wrap64 (n - 1)) && (inB x.f1 0 (wrap64 (n - 1)) && (!(x.f0 == x.f1) && (inB x.f2 0 99 && (inB x.f3 0 99 && inB x.f4 0 9))))) := by
  unfold arcBad hasB
  cases h1 : inB x.f0 0 (wrap64 (n - 1)) <;> cases h2 : inB x.f1 0 (wrap64 (n - 1)) <;> simp [h1, h2, Bool.not_and]
theorem netOk_eq (n : Int) (l : List S31) : impl_NetOk.f n l = some (netOkB n l) := rfl
theorem l1Ok_loop (n : Int) (l : List S31) (hl : l.length ≤ 9223372036854775807) (i : Nat) (hi : i ≤ l.length) :
    Ev (fun k => spec_l1Ok.l0 k (i : Int) n l) (!((l.drop i).any (arcBad n)) && (inB n 1 8 && decide (l.length ≤ 16))) := by
  refine ev_ind (fun k (i : Nat) => spec_l1Ok.l0 k (i : Int) n l) (fun i => l.length - i) (fun i => i ≤ l.length) (fun i => !((l.drop i).any (arcBad n)) && (inB n 1 8 && decide (l.length ≤ 16))) ?_ i hi
  intro i hi ih
  by_cases h : i < l.length
  · have hlt : (i : Int) < (l.length : Int) := by omega
    have h0 : (0 : Int) ≤ (i : Int) := by omega
    simp only [spec_l1Ok.l0, hlt, h0, if_true, l1In_eq, Option.bind_some, arc_at l i h, wsucc h hl]
    rw [any_at _ _ _ h, arcBad_eq]
    have ih' := ih (i + 1) (by omega) (by omega)
    generalize (l.drop (i + 1)).any (arcBad n) = q at ih' ⊢
    generalize l[i] = x at ih' ⊢
    cases inB x.f0 0 (wrap64 (n - 1)) with
    | false => exact ev_now fun k => by simp
    | true =>
    cases inB x.f1 0 (wrap64 (n - 1)) with
    | false => exact ev_now fun k => by simp
    | true =>
    by_cases he : x.f0 = x.f1
    · exact ev_now fun k => by simp [he]
    · cases inB x.f2 0 99 with
      | false => exact ev_now fun k => by simp [he]
      | true =>
      cases inB x.f3 0 99 with
      | false => exact ev_now fun k => by simp [he]
      | true =>
      cases inB x.f4 0 9 with
      | false => exact ev_now fun k => by simp [he]
      | true =>
        have he' : (x.f0 == x.f1) = false := beq_eq_false_iff_ne.2 he
        simpa [he, he'] using ih'
  · have hlt : ¬ (i : Int) < (l.length : Int) := by omega
    have he : i = l.length := by omega
    simp only [spec_l1Ok.l0, hlt, if_false, l1In_eq, Option.bind_some]
    subst he
    refine ev_now fun k => ?_
    cases inB n 1 8 <;> simp
    omega
theorem l1Ok_ev (n : Int) (l : List S31) (hl : l.length ≤ 9223372036854775807) : Ev (fun k => spec_l1Ok.f k n l) (netOkB n l) := by
  refine ev_at (l1Ok_loop n l hl 0 (Nat.zero_le _)) ?_
  unfold netOkB
  rw [List.drop_zero]
  cases inB n 1 8 <;> cases decide (l.length ≤ 16) <;> cases l.any (arcBad n) <;> rfl
theorem netOk_len {n : Int} {l : List S31} (h : netOkB n l = true) : l.length ≤ 16 := by
  unfold netOkB at h
  simp only [Bool.and_eq_true, decide_eq_true_eq] at h
  exact h.2.1
theorem inB_iff {a b c : Int} : inB a b c = true ↔ b ≤ a ∧ a ≤ c := by unfold inB; rw [Bool.and_eq_true, decide_eq_true_eq, decide_eq_true_eq]
/-! ### draws: what they make is of some size, whatever it is -/
theorem xor_nn {x y : Int} (hx : 0 ≤ x) (hx2 : x < 1099511627776) (hy : 0 ≤ y) (hy2 : y < 1099511627776) : 0 ≤ Go.bits .xor .i64 x y := by
  obtain ⟨a, rfl⟩ := Int.eq_ofNat_of_zero_le hx
  obtain ⟨b, rfl⟩ := Int.eq_ofNat_of_zero_le hy
  have h1 : (BitVec.ofInt 64 (a : Int)).toNat = a := by
    rw [BitVec.toNat_ofInt]
    omega
  have h2 : (BitVec.ofInt 64 (b : Int)).toNat = b := by
    rw [BitVec.toNat_ofInt]
    omega
  have h3 : a ^^^ b < 2 ^ 40 := Nat.xor_lt_two_pow (by omega) (by omega)
  have h4 : Go.bits .xor .i64 (a : Int) (b : Int) = IntKind.i64.wrap ((a ^^^ b : Nat) : Int) := by
    unfold Go.bits
    show IntKind.i64.wrap ((BitVec.ofInt 64 (a : Int) ^^^ BitVec.ofInt 64 (b : Int)).toNat : Int) = _
    rw [BitVec.toNat_xor, h1, h2]
  rw [h4, IntKind.wrap_i64]
  omega
/-- The bytes of a reader. -/
def Bytes (b : List Int) : Prop := b.length ≤ 2000 ∧ ∀ x ∈ b, 0 ≤ x ∧ x ≤ 255
theorem Bytes.at {b : List Int} (hb : Bytes b) (i : Int) : 0 ≤ rd b i ∧ rd b i ≤ 255 := by
  unfold rd
  rw [List.getD_eq_getElem?_getD]
  cases h : b[i.toNat]? with
  | none => simp
  | some x => exact hb.2 x (List.mem_of_getElem? h)
theorem pick_ex {b : List Int} (hb : Bytes b) {p n : Int} (hp : 0 ≤ p) (hp2 : p ≤ 1000000) (hn : n ≤ 1000000) :
    ∃ v, Ev (fun k => spec_l30Rd_pick.f k b p n) (v, p + 1) ∧ 0 ≤ v ∧ (1 ≤ n → v < n) ∧ (n < 1 → v = 0) := by
  have hl := hb.1
  have w1 : wrap64 (p + 1) = p + 1 := w_id (by omega) (by omega)
  have w0 : wrap64 (p + 1 - 1) = p := by rw [w_id (by omega) (by omega)]; omega
  unfold spec_l30Rd_pick.f
  rw [w1]
  by_cases h1 : n < 1
  · refine ⟨0, ?_, Int.le_refl _, fun h => by omega, fun _ => rfl⟩
    simp only [h1, if_true]
    exact ev_shift (ev_now fun k => by simp only [spec_l30Rd_pick.j0, if_true])
  · simp only [h1, if_false]
    have hn0 : ¬ n = 0 := by omega
    by_cases h2 : b.length = 0
    · refine ⟨0, ?_, Int.le_refl _, fun h => by omega, fun h => by first | exact absurd h h1 | exact h.elim⟩
      have e : ((b.length : Int) == 0) = true := by rw [beq_iff_eq]; omega
      rw [e]
      exact ev_shift (ev_now fun k => by simp only [spec_l30Rd_pick.j0, if_true])
    · have e : ((b.length : Int) == 0) = false := by rw [beq_eq_false_iff_ne]; omega
      have hm0 : ¬ (b.length : Int) = 0 := by omega
      rw [e]
      by_cases h3 : p < (b.length : Int)
      · have hr := hb.at p
        have w2 : wrap64 (rd b p) = rd b p := w_id (by omega) (by omega)
        refine ⟨Int.tmod (rd b p) n, ?_, Int.tmod_nonneg _ hr.1, fun h => Int.tmod_lt_of_pos _ (by omega), fun h => by first | exact absurd h h1 | exact h.elim⟩
        exact ev_shift (ev_now fun k => by simp only [spec_l30Rd_pick.j0, Bool.false_eq_true, if_false, w0, h3, hp, hn0, if_true, w2])
      · have q1 := Int.tmod_nonneg (a := p) (b.length : Int) hp
        have q2 := Int.tmod_lt_of_pos p (show (0 : Int) < (b.length : Int) by omega)
        have w3 : wrap64 (wrap64 (p * 7) + 3) = p * 7 + 3 := by rw [w_id (n := p * 7) (by omega) (by omega), w_id (by omega) (by omega)]
        have q3 := Int.tmod_nonneg (a := p * 7 + 3) (b.length : Int) (by omega)
        have q4 := Int.tmod_lt_of_pos (p * 7 + 3) (show (0 : Int) < (b.length : Int) by omega)
        have q5 : 0 ≤ Int.tdiv p (b.length : Int) := Int.tdiv_nonneg hp (by omega)
        have q6 : Int.tdiv p (b.length : Int) ≤ p := Int.tdiv_le_self _ hp
        obtain ⟨d, hd⟩ : ∃ d, Int.tdiv p (b.length : Int) = d := ⟨_, rfl⟩
        rw [hd] at q5 q6
        have r1 := hb.at (Int.tmod p (b.length : Int))
        have r2 := hb.at (Int.tmod (p * 7 + 3) (b.length : Int))
        have wx : wrap64 (wrap64 (wrap64 (wrap64 (wrap64 (rd b (Int.tmod p (b.length : Int))) * 131) + wrap64 (wrap64 (rd b (Int.tmod (p * 7 + 3) (b.length : Int))) * 1117)) + wrap64 (p * 29)) + wrap64 (wrap64 d * 53)) = rd b (Int.tmod p (b.length : Int)) * 131 + rd b (Int.tmod (p * 7 + 3) (b.length : Int)) * 1117 + p * 29 + d * 53 := by
          generalize rd b (Int.tmod p (b.length : Int)) = x1 at r1 ⊢
          generalize rd b (Int.tmod (p * 7 + 3) (b.length : Int)) = x2 at r2 ⊢
          rw [w_id (n := x1) (by omega) (by omega), w_id (n := x2) (by omega) (by omega), w_id (n := x1 * 131) (by omega) (by omega), w_id (n := x2 * 1117) (by omega) (by omega), w_id (n := p * 29) (by omega) (by omega), w_id (n := d) (by omega) (by omega), w_id (n := d * 53) (by omega) (by omega), w_id (n := x1 * 131 + x2 * 1117) (by omega) (by omega), w_id (n := x1 * 131 + x2 * 1117 + p * 29) (by omega) (by omega), w_id (by omega) (by omega)]
        generalize hX : rd b (Int.tmod p (b.length : Int)) * 131 + rd b (Int.tmod (p * 7 + 3) (b.length : Int)) * 1117 + p * 29 + d * 53 = X at wx
        have x0 : 0 ≤ X := by omega
        have x1 : X < 1099511627776 := by omega
        have y0 : 0 ≤ Int.tdiv X 64 := Int.tdiv_nonneg x0 (by omega)
        have y1 : Int.tdiv X 64 ≤ X := Int.tdiv_le_self _ x0
        have wy : wrap64 (Int.tdiv X 64) = Int.tdiv X 64 := w_id (by omega) (by omega)
        refine ⟨Int.tmod (Go.bits .xor .i64 X (Int.tdiv X 64)) n, ?_, Int.tmod_nonneg _ (xor_nn x0 x1 y0 (by omega)), fun h => Int.tmod_lt_of_pos _ (by omega), fun h => by first | exact absurd h h1 | exact h.elim⟩
        exact ev_shift (ev_now fun k => by simp only [spec_l30Rd_pick.j0, Bool.false_eq_true, if_false, w0, h3, hm0, q1, q2, w3, q3, q4, hn0, if_true, hd, wx, wy])
theorem one_ex {b : List Int} (hb : Bytes b) {p : Int} (hp : 0 ≤ p) (hp2 : p ≤ 1000000) (l : List Int) (hl : 1 ≤ l.length) (hl2 : l.length ≤ 1000) :
    ∃ v, v ∈ l ∧ Ev (fun k => spec_l30Rd_one.f k b p l) (v, p + 1) := by
  obtain ⟨v, hv, h0, h1, _⟩ := pick_ex hb hp hp2 (n := (l.length : Int)) (by omega)
  have h1 := h1 (by omega)
  unfold spec_l30Rd_one.f
  obtain ⟨i, rfl⟩ := Int.eq_ofNat_of_zero_le h0
  have hi : i < l.length := by omega
  refine ⟨l[i], List.getElem_mem hi, Ev.bind hv ?_⟩
  simp only [h0, h1, if_true, rd_at l i hi]
  exact ev_now fun _ => rfl
theorem open_ex (l : List Int) (h : ∀ x ∈ l, (Lit.int .u8 x).wf = true) : ∃ b, Bytes b ∧ spec_l30Open.f l = some (b, 0) := by
  have hw : ∀ x ∈ l, 0 ≤ x ∧ x ≤ 255 := by
    intro x hx
    have := h x hx
    simp [Lit.wf, IntKind.min, IntKind.max, IntKind.signed, IntKind.bits] at this
    omega
  unfold spec_l30Open.f
  by_cases h1 : (l.length : Int) > 2000
  · have h2 : 2000 ≤ (l.length : Int) := by omega
    rw [if_pos h1, if_pos h2]
    exact ⟨_, ⟨by rw [List.length_take]; omega, fun x hx => hw x (List.mem_of_mem_take hx)⟩, rfl⟩
  · rw [if_neg h1]
    exact ⟨_, ⟨by omega, hw⟩, rfl⟩
/-! ### nets, nodes and walks that are drawn -/
theorem l30Net_loop {b : List Int} (hb : Bytes b) {n : Int} (hn : 2 ≤ n ∧ n ≤ 6) : ∀ (m : Nat) (l : List S31) (p : Int), l.length + m ≤ 13 → 0 ≤ p → p + 6 * m ≤ 100000 →
    ∃ l' q, Ev (fun k => spec_l30Net.l0 k (m : Int) b p n l) (n, l', q) ∧ l'.length ≤ 13 ∧ 0 ≤ q ∧ q ≤ p + 6 * m := by
  intro m
  induction m with
  | zero =>
    intro l p hl hp hq
    exact ⟨l, p, ev_shift (ev_now fun k => by simp [spec_l30Net.l0]), by omega, hp, by omega⟩
  | succ m ih =>
    intro l p hl hp hq
    obtain ⟨v1, e1, _⟩ := pick_ex hb hp (by omega) (n := n) (by omega)
    obtain ⟨v2, e2, _⟩ := pick_ex hb (p := p + 1) (by omega) (by omega) (n := n) (by omega)
    obtain ⟨v3, e3, _⟩ := pick_ex hb (p := p + 1 + 1) (by omega) (by omega) (n := 100) (by omega)
    obtain ⟨v4, _, e4⟩ := one_ex hb (p := p + 1 + 1 + 1) (by omega) (by omega) [0, 1, 2, 5, 9, v3] (by simp) (by simp)
    obtain ⟨v5, _, e5⟩ := one_ex hb (p := p + 1 + 1 + 1 + 1) (by omega) (by omega) [0, 0, 3, 8] (by simp) (by simp)
    obtain ⟨v6, e6, _⟩ := pick_ex hb (p := p + 1 + 1 + 1 + 1 + 1) (by omega) (by omega) (n := 10) (by omega)
    have hpos : ((m + 1 : Nat) : Int) > 0 := by omega
    have hw : wrap64 (((m + 1 : Nat) : Int) - 1) = (m : Int) := by rw [w_id (by omega) (by omega)]; omega
    have hlen : l.length < 3518437208883 := by omega
    have hn0 : ¬ n = 0 := by omega
    by_cases hv : v1 = v2
    · obtain ⟨l', q, he, h1, h2, h3⟩ := ih (l ++ [⟨v1, Int.tmod (wrap64 (v2 + 1)) n, v4, v5, v6⟩]) (p + 1 + 1 + 1 + 1 + 1 + 1) (by rw [List.length_append]; simp; omega) (by omega) (by omega)
      refine ⟨l', q, ev_shift ?_, h1, h2, by omega⟩
      simp only [spec_l30Net.l0, hpos, if_true]
      refine Ev.bind e1 (Ev.bind e2 (Ev.bind e3 (Ev.bind e4 (Ev.bind e5 (Ev.bind e6 ?_)))))
      simp only [hv, hn0, hlen, if_true, if_false, hw]
      rw [hv] at he
      exact he
    · obtain ⟨l', q, he, h1, h2, h3⟩ := ih (l ++ [⟨v1, v2, v4, v5, v6⟩]) (p + 1 + 1 + 1 + 1 + 1 + 1) (by rw [List.length_append]; simp; omega) (by omega) (by omega)
      refine ⟨l', q, ev_shift ?_, h1, h2, by omega⟩
      simp only [spec_l30Net.l0, hpos, if_true]
      refine Ev.bind e1 (Ev.bind e2 (Ev.bind e3 (Ev.bind e4 (Ev.bind e5 (Ev.bind e6 ?_)))))
      simp only [hv, hlen, if_true, if_false, hw]
      exact he
theorem l30Net_ex {b : List Int} (hb : Bytes b) {p : Int} (hp : 0 ≤ p) (hp2 : p ≤ 90000) :
    ∃ n l q, Ev (fun k => spec_l30Net.f k b p) (n, l, q) ∧ l.length ≤ 13 ∧ 0 ≤ q ∧ q ≤ p + 100 ∧ 2 ≤ n ∧ n ≤ 6 := by
  obtain ⟨v1, e1, h1, h1', _⟩ := pick_ex hb hp (by omega) (n := 5) (by omega)
  obtain ⟨v2, e2, h2, h2', _⟩ := pick_ex hb (p := p + 1) (by omega) (by omega) (n := 14) (by omega)
  have h1' := h1' (by omega)
  have h2' := h2' (by omega)
  obtain ⟨m, rfl⟩ := Int.eq_ofNat_of_zero_le h2
  have hw : wrap64 (2 + v1) = 2 + v1 := w_id (by omega) (by omega)
  obtain ⟨l, q, he, h3, h4, h5⟩ := l30Net_loop hb (n := 2 + v1) (by omega) m [] (p + 1 + 1) (by simp; omega) (by omega) (by omega)
  refine ⟨2 + v1, l, q, ?_, h3, h4, by omega, by omega, by omega⟩
  unfold spec_l30Net.f
  refine Ev.bind e1 (Ev.bind e2 ?_)
  rw [hw]
  exact he
/-! ### news in their places -/
theorem news_at (l : List S64) (i : Nat) (h : i < l.length) : rd_T64 l (i : Int) = l[i] := by simp [rd_T64, h]
/-! ### nets with news -/
def newsB (m : Int) (w : S64) : Bool := inB w.f0 1 999 && (inB w.f1 0 (wrap64 (m - 1)) && inB w.f2 (-1) 99)
def newsAt (m : Int) (w : List S64) (i : Nat) : Bool := newsB m (rd_T64 w (i : Int)) && (decide (i = 0) || decide ((rd_T64 w ((i - 1 : Nat) : Int)).f0 < (rd_T64 w (i : Int)).f0))
def liveB (n : Int) (l : List S31) (w : List S64) : Bool := (List.range' 0 w.length).all (newsAt l.length w) && (netOkB n l && decide (w.length ≤ 6))
theorem implNewsOk_eq (w : S64) (m : Int) : impl_newsOk.f w.f0 w.f1 w.f2 m = some (newsB m w) := by
  unfold impl_newsOk.f newsB
  simp only [within_eq, Option.bind_some]
  cases inB w.f0 1 999 <;> cases inB w.f1 0 (wrap64 (m - 1)) <;> simp
theorem range'_step (i n : Nat) (h : i < n) : List.range' i (n - i) = i :: List.range' (i + 1) (n - (i + 1)) := by
  rw [show n - i = (n - (i + 1)) + 1 by omega, List.range'_succ]
theorem implLiveOk_ev (n : Int) (l : List S31) (w : List S64) (hw : w.length ≤ 9223372036854775807) : Ev (fun k => impl_LiveOk.f k n l w) (liveB n l w) := by
  unfold impl_LiveOk.f
  refine ev_at (ev_ind (fun k (i : Nat) => impl_LiveOk.l0 k w (w.length : Int) (i : Int) n l w) (fun i => w.length - i) (fun i => i ≤ w.length) (fun i => (List.range' i (w.length - i)).all (newsAt l.length w) && (netOkB n l && decide (w.length ≤ 6))) ?_ 0 (Nat.zero_le _)) (by unfold liveB; rfl)
  intro i hi ih
  by_cases h : i < w.length
  · have hlt : (i : Int) < (w.length : Int) := by omega
    have h0 : (0 : Int) ≤ (i : Int) := by omega
    have ih' := ih (i + 1) (by omega) (by omega)
    simp only [impl_LiveOk.l0, hlt, h0, if_true, implNewsOk_eq, Option.bind_some, wsucc h hw]
    rw [range'_step i _ h, List.all_cons]
    generalize (List.range' (i + 1) (w.length - (i + 1))).all (newsAt l.length w) = q at ih' ⊢
    unfold newsAt
    cases newsB l.length (rd_T64 w (i : Int)) with
    | false => exact ev_now fun k => by simp
    | true =>
      by_cases hz : i = 0
      · have : ¬ (i : Int) > 0 := by omega
        simp only [this, if_false, if_true, hz, decide_true, Bool.true_or, Bool.true_and]
        subst hz
        simpa using ih'
      · have hp : (i : Int) > 0 := by omega
        have hw1 := wpred (show 0 < i by omega) (show i ≤ 9223372036854775807 by omega)
        have hp0 : (0 : Int) ≤ ((i - 1 : Nat) : Int) := by omega
        have hp1 : ((i - 1 : Nat) : Int) < (w.length : Int) := by omega
        simp only [hp, hw1, hp0, hp1, if_true, hz, decide_false, Bool.false_or, Bool.true_and]
        by_cases hc : (rd_T64 w ((i - 1 : Nat) : Int)).f0 < (rd_T64 w (i : Int)).f0
        · have hc' : ¬ (rd_T64 w ((i - 1 : Nat) : Int)).f0 ≥ (rd_T64 w (i : Int)).f0 := by omega
          simp only [hc, hc', if_false, decide_true, Bool.true_and]
          exact ih'
        · have hc' : (rd_T64 w ((i - 1 : Nat) : Int)).f0 ≥ (rd_T64 w (i : Int)).f0 := by omega
          simp only [hc, hc', if_true, decide_false, Bool.false_and]
          exact ev_now fun _ => rfl
  · have hlt : ¬ (i : Int) < (w.length : Int) := by omega
    have he : w.length - i = 0 := by omega
    simp only [impl_LiveOk.l0, hlt, if_false, netOk_eq, Option.bind_some, he, List.range'_zero, List.all_nil, Bool.true_and]
    refine ev_now fun k => ?_
    cases netOkB n l <;> simp
    omega
theorem l16Ok_ev (n : Int) (l : List S31) (w : List S64) (hl : l.length ≤ 9223372036854775807) (hw : w.length ≤ 9223372036854775807) : Ev (fun k => spec_l16Ok.f k n l w) (liveB n l w) := by
  unfold spec_l16Ok.f
  refine ev_at (ev_ind (fun k (i : Nat) => spec_l16Ok.l0 k (i : Int) n l w) (fun i => w.length - i) (fun i => i ≤ w.length) (fun i => (List.range' i (w.length - i)).all (newsAt l.length w) && (netOkB n l && decide (w.length ≤ 6))) ?_ 0 (Nat.zero_le _)) (by unfold liveB; rfl)
  intro i hi ih
  by_cases h : i < w.length
  · have hlt : (i : Int) < (w.length : Int) := by omega
    have h0 : (0 : Int) ≤ (i : Int) := by omega
    have ih' := ih (i + 1) (by omega) (by omega)
    simp only [spec_l16Ok.l0, hlt, h0, if_true, l1In_eq, Option.bind_some, wsucc h hw]
    rw [range'_step i _ h, List.all_cons]
    generalize (List.range' (i + 1) (w.length - (i + 1))).all (newsAt l.length w) = q at ih' ⊢
    unfold newsAt newsB
    cases inB (rd_T64 w (i : Int)).f0 1 999 with
    | false => exact ev_now fun k => by simp
    | true =>
    cases inB (rd_T64 w (i : Int)).f1 0 (wrap64 ((l.length : Int) - 1)) with
    | false => exact ev_now fun k => by simp
    | true =>
    cases inB (rd_T64 w (i : Int)).f2 (-1) 99 with
    | false => exact ev_now fun k => by simp
    | true =>
      by_cases hz : i = 0
      · have : ¬ (i : Int) > 0 := by omega
        simp only [this, if_false, if_true, hz, decide_true, Bool.true_or, Bool.true_and]
        subst hz
        simpa using ih'
      · have hp : (i : Int) > 0 := by omega
        have hw1 := wpred (show 0 < i by omega) (show i ≤ 9223372036854775807 by omega)
        have hp0 : (0 : Int) ≤ ((i - 1 : Nat) : Int) := by omega
        have hp1 : ((i - 1 : Nat) : Int) < (w.length : Int) := by omega
        simp only [hp, hw1, hp0, hp1, if_true, hz, decide_false, Bool.false_or, Bool.true_and]
        by_cases hc : (rd_T64 w ((i - 1 : Nat) : Int)).f0 < (rd_T64 w (i : Int)).f0
        · have hc' : ¬ (rd_T64 w (i : Int)).f0 ≤ (rd_T64 w ((i - 1 : Nat) : Int)).f0 := by omega
          simp only [hc, hc', if_false, decide_true, Bool.true_and]
          exact ih'
        · have hc' : (rd_T64 w (i : Int)).f0 ≤ (rd_T64 w ((i - 1 : Nat) : Int)).f0 := by omega
          simp only [hc, hc', if_true, decide_false, Bool.false_and]
          exact ev_now fun _ => rfl
  · have hlt : ¬ (i : Int) < (w.length : Int) := by omega
    have he : w.length - i = 0 := by omega
    simp only [spec_l16Ok.l0, hlt, if_false, he, List.range'_zero, List.all_nil, Bool.true_and]
    refine Ev.bind (l1Ok_ev n l hl) (ev_now fun k => ?_)
    cases netOkB n l <;> simp
    omega
/-- What liveB says. -/
theorem liveB_len {n : Int} {l : List S31} {w : List S64} (h : liveB n l w = true) : netOkB n l = true ∧ w.length ≤ 6 := by
  unfold liveB at h
  simp only [Bool.and_eq_true, decide_eq_true_eq] at h
  exact h.2
theorem liveB_at {n : Int} {l : List S31} {w : List S64} (h : liveB n l w = true) (i : Nat) (hi : i < w.length) : newsAt l.length w i = true := by
  unfold liveB at h
  simp only [Bool.and_eq_true, List.all_eq_true] at h
  exact h.1 i (by simp [List.mem_range']; omega)
theorem liveB_more {n : Int} {l : List S31} {w : List S64} (h : liveB n l w = true) : ∀ x ∈ w, newsB l.length x = true := by
  intro x hx
  obtain ⟨i, hi, rfl⟩ := List.getElem_of_mem hx
  have := liveB_at h i hi
  unfold newsAt at this
  rw [Bool.and_eq_true, news_at w i hi] at this
  exact this.1
/-- What news make of an arc of number k: shut, and what it costs. -/
def nowS (k : Int) : List S64 → Bool → Int → Bool × Int
  | [], s, c => (s, c)
  | w :: ws, s, c => if w.f1 = k then (if w.f2 < 0 then nowS k ws true c else nowS k ws s (wrap64 (c + w.f2))) else nowS k ws s c
def nowI (k : Int) : List S64 → Bool → Int → Bool × Int
  | [], s, c => (s, c)
  | w :: ws, s, c => if w.f1 = k then (if w.f2 = -1 then nowI k ws false c else if s = true then nowI k ws s (wrap64 (c + w.f2)) else nowI k ws s c) else nowI k ws s c
theorem nowI_false (k : Int) (ws : List S64) : ∀ c, (nowI k ws false c).1 = false := by
  induction ws with
  | nil => intro c; rfl
  | cons w ws ih => intro c; unfold nowI; split <;> (try split) <;> simp [ih]
theorem nowS_true (k : Int) (ws : List S64) : ∀ c, (nowS k ws true c).1 = true := by
  induction ws with
  | nil => intro c; rfl
  | cons w ws ih => intro c; unfold nowS; split <;> (try split) <;> simp [ih]
theorem now_same (k : Int) (ws : List S64) (h : ∀ x ∈ ws, -1 ≤ x.f2) : ∀ c, (nowI k ws true c).1 = !(nowS k ws false c).1 ∧ ((nowI k ws true c).1 = true → (nowI k ws true c).2 = (nowS k ws false c).2) := by
  induction ws with
  | nil => intro c; exact ⟨rfl, fun _ => rfl⟩
  | cons w ws ih =>
    intro c
    have hw := h w (by simp)
    have ih := ih fun x hx => h x (by simp [hx])
    unfold nowI nowS
    by_cases hk : w.f1 = k
    · by_cases hm : w.f2 < 0
      · have : w.f2 = -1 := by omega
        rw [if_pos hk, if_pos this, if_pos hk, if_pos hm]
        refine ⟨?_, fun z => ?_⟩
        · rw [nowI_false, nowS_true]; rfl
        · rw [nowI_false] at z; exact absurd z (by simp)
      · have : ¬ w.f2 = -1 := by omega
        simp only [hk, hm, this, if_true, if_false]
        exact ih _
    · simp only [hk, if_false]
      exact ih c
def nowA (w : List S64) (k : Int) (x : S31) : List S31 := if (nowS k w false x.f2).1 = true then [] else [⟨x.f0, x.f1, if (nowS k w false x.f2).2 > 99 then 99 else (nowS k w false x.f2).2, x.f3, x.f4⟩]
def nowL (w : List S64) : List S31 → Nat → List S31
  | [], _ => []
  | x :: xs, k => nowA w (k : Int) x ++ nowL w xs (k + 1)
theorem nowA_length (w : List S64) (k : Int) (x : S31) : (nowA w k x).length ≤ 1 := by unfold nowA; split <;> simp
theorem nowL_length (w : List S64) (l : List S31) : ∀ k, (nowL w l k).length ≤ l.length := by
  induction l with
  | nil => intro k; simp [nowL]
  | cons x xs ih => intro k; have := ih (k + 1); have := nowA_length w k x; simp [nowL]; omega
theorem l16Now_l1 (n : Int) (l : List S31) (w : List S64) (hw : w.length ≤ 9223372036854775807) (k : Int) (n' : Int) (out : List S31) (x : S31) (hout : out.length < 3518437208883)
    (R : Int × List S31) (hR : Ev (fun f => spec_l16Now.l0 f (wrap64 (k + 1)) n l w n' (out ++ nowA w k x)) R) :
    Ev (fun f => spec_l16Now.l1 f k false 0 n l w n' out x.f0 x.f1 x.f2 x.f3 x.f4) R := by
  refine ev_ind (fun f (s : Nat × Bool × Int) => spec_l16Now.l1 f k s.2.1 (s.1 : Int) n l w n' out x.f0 x.f1 s.2.2 x.f3 x.f4) (fun s => w.length - s.1) (fun s => s.1 ≤ w.length ∧ nowS k w false x.f2 = nowS k (w.drop s.1) s.2.1 s.2.2) (fun _ => R) ?_ (0, false, x.f2) ⟨Nat.zero_le _, by simp⟩
  rintro ⟨i, s, c⟩ ⟨hi, hs⟩ ih
  simp only at hi hs ih ⊢
  by_cases h : i < w.length
  · have hlt : (i : Int) < (w.length : Int) := by omega
    have h0 : (0 : Int) ≤ (i : Int) := by omega
    rw [List.drop_eq_getElem_cons h, nowS] at hs
    simp only [spec_l16Now.l1, hlt, h0, if_true, news_at w i h]
    by_cases hk : w[i].f1 = k
    · by_cases hm : w[i].f2 < 0
      · simp only [hk, hm, if_true, decide_true] at hs ⊢
        refine ev_shift ?_
        simp only [spec_l16Now.j2, if_true, wsucc h hw]
        exact ih (i + 1, true, c) ⟨by simp; omega, hs⟩ (by simp; omega)
      · simp only [hk, hm, if_true, if_false, decide_false] at hs ⊢
        refine ev_shift ?_
        simp only [spec_l16Now.j2, Bool.false_eq_true, if_false, if_true, hlt, h0, news_at w i h, hk, wsucc h hw]
        exact ih (i + 1, s, wrap64 (c + w[i].f2)) ⟨by simp; omega, hs⟩ (by simp; omega)
    · simp only [hk, if_false] at hs ⊢
      refine ev_shift ?_
      simp only [spec_l16Now.j2, Bool.false_eq_true, if_false, if_true, hlt, h0, news_at w i h, hk, wsucc h hw]
      exact ih (i + 1, s, c) ⟨by simp; omega, hs⟩ (by simp; omega)
  · have hlt : ¬ (i : Int) < (w.length : Int) := by omega
    rw [List.drop_of_length_le (by omega), nowS] at hs
    simp only [spec_l16Now.l1, hlt, if_false]
    unfold nowA at hR
    rw [hs] at hR
    simp only at hR
    by_cases hc : c > 99
    · cases s with
      | true => simpa [hc] using hR
      | false => simpa [hc, hout] using hR
    · cases s with
      | true => simpa [hc] using hR
      | false => simpa [hc, hout] using hR
theorem l16Now_ev (n : Int) (l : List S31) (w : List S64) (hl : l.length ≤ 1000) (hw : w.length ≤ 9223372036854775807) : Ev (fun k => spec_l16Now.f k n l w) (n, nowL w l 0) := by
  unfold spec_l16Now.f
  have := ev_ind (fun k (s : Nat × List S31) => spec_l16Now.l0 k (s.1 : Int) n l w n s.2) (fun s => l.length - s.1) (fun s => s.1 ≤ l.length ∧ s.2.length ≤ s.1) (fun s => (n, s.2 ++ nowL w (l.drop s.1) s.1)) ?_ (0, []) ⟨Nat.zero_le _, by simp⟩
  · simpa using this
  rintro ⟨i, x⟩ ⟨hi, hx⟩ ih
  simp only at hi hx ih ⊢
  by_cases h : i < l.length
  · have hlt : (i : Int) < (l.length : Int) := by omega
    have h0 : (0 : Int) ≤ (i : Int) := by omega
    simp only [spec_l16Now.l0, hlt, h0, if_true, arc_at l i h]
    refine l16Now_l1 n l w hw i n x l[i] (by omega) _ ?_
    rw [wsucc h (show l.length ≤ 9223372036854775807 by omega)]
    have ha := nowA_length w i l[i]
    refine ev_at (ih (i + 1, x ++ nowA w i l[i]) ⟨by simp; omega, by simp; omega⟩ (by simp; omega)) ?_
    rw [List.drop_eq_getElem_cons h, nowL, List.append_assoc]
  · have hlt : ¬ (i : Int) < (l.length : Int) := by omega
    simp only [spec_l16Now.l0, hlt, if_false]
    refine ev_now fun k => ?_
    rw [List.drop_of_length_le (by omega)]
    simp [nowL]
theorem now_l1 (n : Int) (l : List S31) (w : List S64) (hw : w.length ≤ 9223372036854775807) (hm : ∀ x ∈ w, -1 ≤ x.f2) (k : Int) (n' : Int) (out : List S31) (x : S31) (hout : out.length < 3518437208883)
    (R : Int × List S31) (hR : Ev (fun f => impl_Live_now.l0 f l (l.length : Int) (wrap64 (k + 1)) n l w n' (out ++ nowA w k x)) R) :
    Ev (fun f => impl_Live_now.l1 f k true l (l.length : Int) k w (w.length : Int) 0 n l w n' out x.f0 x.f1 x.f2 x.f3 x.f4) R := by
  refine ev_ind (fun f (s : Nat × Bool × Int) => impl_Live_now.l1 f k s.2.1 l (l.length : Int) k w (w.length : Int) (s.1 : Int) n l w n' out x.f0 x.f1 s.2.2 x.f3 x.f4) (fun s => w.length - s.1) (fun s => s.1 ≤ w.length ∧ nowI k w true x.f2 = nowI k (w.drop s.1) s.2.1 s.2.2) (fun _ => R) ?_ (0, true, x.f2) ⟨Nat.zero_le _, by simp⟩
  rintro ⟨i, s, c⟩ ⟨hi, hs⟩ ih
  simp only at hi hs ih ⊢
  by_cases h : i < w.length
  · have hlt : (i : Int) < (w.length : Int) := by omega
    have h0 : (0 : Int) ≤ (i : Int) := by omega
    rw [List.drop_eq_getElem_cons h, nowI] at hs
    simp only [impl_Live_now.l1, hlt, h0, if_true, news_at w i h]
    by_cases hk : w[i].f1 = k
    · simp only [hk, if_true] at hs ⊢
      refine ev_shift ?_
      by_cases hm : w[i].f2 = -1
      · simp only [hm, if_true] at hs
        simp only [impl_Live_now.j2, hm, beq_self_eq_true, if_true, wsucc h hw]
        exact ih (i + 1, false, c) ⟨by simp; omega, hs⟩ (by simp; omega)
      · have hm' : (w[i].f2 == -1) = false := beq_eq_false_iff_ne.2 hm
        simp only [hm, if_false] at hs
        simp only [impl_Live_now.j2, hm', Bool.false_eq_true, if_false, if_true, wsucc h hw]
        cases s with
        | true =>
          simp only [if_true] at hs ⊢
          exact ih (i + 1, true, wrap64 (c + w[i].f2)) ⟨by simp; omega, hs⟩ (by simp; omega)
        | false =>
          simp only [Bool.false_eq_true, if_false] at hs ⊢
          exact ih (i + 1, false, c) ⟨by simp; omega, hs⟩ (by simp; omega)
    · simp only [hk, if_false] at hs ⊢
      refine ev_shift ?_
      simp only [impl_Live_now.j2, Bool.false_eq_true, hk, if_false, wsucc h hw]
      exact ih (i + 1, s, c) ⟨by simp; omega, hs⟩ (by simp; omega)
  · have hlt : ¬ (i : Int) < (w.length : Int) := by omega
    rw [List.drop_of_length_le (by omega), nowI] at hs
    simp only [impl_Live_now.l1, hlt, if_false]
    obtain ⟨e1, e2⟩ := now_same k w hm x.f2
    rw [hs] at e1 e2
    simp only at e1 e2
    unfold nowA at hR
    cases s with
    | true =>
      have e1' : (nowS k w false x.f2).1 = false := by simpa using e1.symm
      rw [← e2 rfl] at hR
      simp only [e1', Bool.false_eq_true, if_false] at hR
      have hmn : mn c 99 = if c > 99 then 99 else c := by unfold mn; by_cases hq : c > 99 <;> simp [hq] <;> omega
      simpa [hout, hmn] using hR
    | false =>
      have e1' : (nowS k w false x.f2).1 = true := by simpa using e1.symm
      simpa [e1'] using hR
theorem now_ev (n : Int) (l : List S31) (w : List S64) (hl : l.length ≤ 1000) (hw : w.length ≤ 9223372036854775807) (hm : ∀ x ∈ w, -1 ≤ x.f2) : Ev (fun k => impl_Live_now.f k n l w) (n, nowL w l 0) := by
  unfold impl_Live_now.f
  simp only [show ((l.length : Int) : Int).toNat ≤ 7036874417766 by omega, if_true]
  have := ev_ind (fun k (s : Nat × List S31) => impl_Live_now.l0 k l (l.length : Int) (s.1 : Int) n l w n s.2) (fun s => l.length - s.1) (fun s => s.1 ≤ l.length ∧ s.2.length ≤ s.1) (fun s => (n, s.2 ++ nowL w (l.drop s.1) s.1)) ?_ (0, []) ⟨Nat.zero_le _, by simp⟩
  · simpa using this
  rintro ⟨i, x⟩ ⟨hi, hx⟩ ih
  simp only at hi hx ih ⊢
  by_cases h : i < l.length
  · have hlt : (i : Int) < (l.length : Int) := by omega
    have h0 : (0 : Int) ≤ (i : Int) := by omega
    simp only [impl_Live_now.l0, hlt, h0, if_true, arc_at l i h]
    refine now_l1 n l w hw hm i n x l[i] (by omega) _ ?_
    rw [wsucc h (show l.length ≤ 9223372036854775807 by omega)]
    have ha := nowA_length w i l[i]
    refine ev_at (ih (i + 1, x ++ nowA w i l[i]) ⟨by simp; omega, by simp; omega⟩ (by simp; omega)) ?_
    rw [List.drop_eq_getElem_cons h, nowL, List.append_assoc]
  · have hlt : ¬ (i : Int) < (l.length : Int) := by omega
    simp only [impl_Live_now.l0, hlt, if_false, impl_Arc_102.f, Option.bind_some]
    refine ev_now fun k => ?_
    rw [List.drop_of_length_le (by omega)]
    simp [nowL]
/-! ### news that are told -/
/-- News in their places, one more told: what has its number goes. -/
def tellS (x : S64) : List S64 → Bool → List S64
  | [], put => if put = true then [] else [x]
  | y :: ys, put => (if (!put && decide (y.f0 ≥ x.f0)) = true then [x] else []) ++ ((if y.f0 = x.f0 then [] else [y]) ++ tellS x ys (put || decide (y.f0 ≥ x.f0)))
theorem tellS_length (x : S64) : ∀ (w : List S64) (put : Bool), (tellS x w put).length ≤ w.length + (if put = true then 0 else 1) := by
  intro w
  induction w with
  | nil => intro put; cases put <;> simp [tellS]
  | cons y ys ih =>
    intro put
    have h := ih (put || decide (y.f0 ≥ x.f0))
    unfold tellS
    by_cases c : y.f0 ≥ x.f0
    · by_cases e : y.f0 = x.f0
      · cases put <;> simp [c, e] at h ⊢ <;> omega
      · cases put <;> simp [c, e] at h ⊢ <;> omega
    · have e : ¬ y.f0 = x.f0 := by omega
      cases put <;> simp [c, e] at h ⊢ <;> omega
theorem l16Copy_eq (n : Int) (l : List S31) (w : List S64) (hl : l.length ≤ 1000) (hw : w.length ≤ 1000) : spec_l16Copy.f n l w = some (n, l, w) := by
  have h1 : l.length < 3518437208883 := by omega
  have h2 : w.length < 5864062014805 := by omega
  unfold spec_l16Copy.f spec_l1Copy.f
  simp [h1, h2]
def tellV (n : Int) (l : List S31) (w W : List S64) : Int × List S31 × List S64 × Bool := if liveB n l W = true then (n, l, W, true) else (n, l, w, false)
theorem news_eta (x : S64) : (⟨x.f0, x.f1, x.f2⟩ : S64) = x := rfl
theorem specTell_loop (n : Int) (l : List S31) (w : List S64) (hl : l.length ≤ 1000) (hw : w.length ≤ 1000) (x : S64) :
    Ev (fun k => spec_LiveTell.l0 k false (0 : Nat) n l w x.f0 x.f1 x.f2 n l []) (tellV n l w (tellS x w false)) := by
  refine ev_at (ev_ind (fun k (s : Bool × Nat × List S64) => spec_LiveTell.l0 k s.1 (s.2.1 : Int) n l w x.f0 x.f1 x.f2 n l s.2.2) (fun s => w.length - s.2.1) (fun s => s.2.1 ≤ w.length ∧ s.2.2.length ≤ 2 * s.2.1) (fun s => tellV n l w (s.2.2 ++ tellS x (w.drop s.2.1) s.1)) ?_ (false, 0, []) ⟨Nat.zero_le _, by simp⟩) (by simp)
  rintro ⟨put, i, acc⟩ ⟨hi, ha⟩ ih
  simp only at hi ha ih ⊢
  by_cases h : i < w.length
  · have hlt : (i : Int) < (w.length : Int) := by omega
    have h0 : (0 : Int) ≤ (i : Int) := by omega
    have b1 : acc.length < 5864062014805 := by omega
    have b2 : (acc ++ [x]).length < 5864062014805 := by rw [List.length_append]; simp; omega
    have e1 := ih (true, i + 1, acc ++ [x]) ⟨by simp; omega, by simp; omega⟩ (by simp; omega)
    have e2 := ih (true, i + 1, acc ++ [x] ++ [w[i]]) ⟨by simp; omega, by simp; omega⟩ (by simp; omega)
    have e3 := ih (put, i + 1, acc) ⟨by simp; omega, by simp; omega⟩ (by simp; omega)
    have e4 := ih (put, i + 1, acc ++ [w[i]]) ⟨by simp; omega, by simp; omega⟩ (by simp; omega)
    simp only at e1 e2 e3 e4
    have hd : w.drop i = w[i] :: w.drop (i + 1) := List.drop_eq_getElem_cons h
    simp only [spec_LiveTell.l0, hlt, h0, if_true, news_at w i h]
    cases put with
    | true =>
      simp only [if_true]
      refine ev_shift ?_
      simp only [spec_LiveTell.j1, Bool.false_eq_true, if_false, h0, hlt, if_true, news_at w i h, b1, news_eta, wsucc h (show w.length ≤ 9223372036854775807 by omega)]
      rw [hd]
      by_cases e : w[i].f0 = x.f0
      · simp only [e, if_true]
        refine ev_at e3 ?_
        simp [tellS, e]
      · simp only [e, if_false]
        refine ev_at e4 ?_
        simp [tellS, e]
    | false =>
      simp only [Bool.false_eq_true, if_false]
      refine ev_shift ?_
      rw [hd]
      by_cases c : w[i].f0 ≥ x.f0
      · simp only [spec_LiveTell.j1, c, decide_true, if_true, h0, hlt, news_at w i h, b1, b2, news_eta, Option.bind_some, wsucc h (show w.length ≤ 9223372036854775807 by omega)]
        by_cases e : w[i].f0 = x.f0
        · simp only [e, if_true]
          refine ev_at e1 ?_
          simp [tellS, e]
        · simp only [e, if_false]
          refine ev_at e2 ?_
          simp [tellS, e, c]
      · have e : ¬ w[i].f0 = x.f0 := by omega
        simp only [spec_LiveTell.j1, c, decide_false, Bool.false_eq_true, if_false, h0, hlt, if_true, news_at w i h, b1, news_eta, e, wsucc h (show w.length ≤ 9223372036854775807 by omega)]
        refine ev_at e4 ?_
        simp [tellS, e, c]
  · have hlt : ¬ (i : Int) < (w.length : Int) := by omega
    have hd : w.drop i = [] := List.drop_of_length_le (by omega)
    have b1 : acc.length < 5864062014805 := by omega
    simp only [spec_LiveTell.l0, hlt, if_false]
    have key : ∀ W : List S64, W.length ≤ 9223372036854775807 → Ev (fun k => spec_LiveTell.j2 k n l w n l W) (tellV n l w W) := by
      intro W hW
      refine ev_shift ?_
      simp only [spec_LiveTell.j2]
      refine Ev.bind (l16Ok_ev n l W (by omega) hW) ?_
      unfold tellV
      cases liveB n l W with
      | true => simp only [if_true]; exact ev_now fun _ => rfl
      | false =>
        simp only [Bool.false_eq_true, if_false, l16Copy_eq n l w hl hw, Option.bind_some]
        exact ev_now fun _ => rfl
    rw [hd]
    cases put with
    | true =>
      simp only [if_true]
      refine ev_at (key acc (by omega)) ?_
      simp [tellS]
    | false =>
      simp only [Bool.false_eq_true, if_false, b1, if_true, news_eta]
      refine ev_at (key (acc ++ [x]) (by simp; omega)) ?_
      simp [tellS]
theorem specTell_ev (n : Int) (l : List S31) (w : List S64) (hl : l.length ≤ 9223372036854775807) (hw : w.length ≤ 9223372036854775807) (a b c : Int) :
    Ev (fun k => spec_LiveTell.f k n l w a b c) (if liveB n l w = true then tellV n l w (tellS ⟨a, b, c⟩ w false) else (0, [], [], false)) := by
  unfold spec_LiveTell.f
  refine Ev.bind (l16Ok_ev n l w hl hw) ?_
  cases hok : liveB n l w with
  | false => simp only [Bool.false_eq_true, if_false]; exact ev_now fun _ => rfl
  | true =>
    have h1 := liveB_len hok
    have h2 := netOk_len h1.1
    have h3 : l.length < 3518437208883 := by omega
    unfold spec_l1Copy.f
    simp only [if_true, Option.bind_some, List.length_nil, Nat.zero_add, h3, List.nil_append]
    exact specTell_loop n l w (by omega) (by omega) ⟨a, b, c⟩
/-! ### nets with news that are drawn -/
theorem l30News_ex {b : List Int} (hb : Bytes b) (n : Int) {l : List S31} (hl : l.length ≤ 1000) {p : Int} (hp : 0 ≤ p) (hp2 : p ≤ 90000) :
    ∃ a c d q, Ev (fun k => spec_l30News.f k b p n l) (a, c, d, q) ∧ 0 ≤ q ∧ q ≤ p + 10 := by
  have hw : wrap64 ((l.length : Int) + 1) = (l.length : Int) + 1 := w_id (by omega) (by omega)
  obtain ⟨v1, e1, _⟩ := pick_ex hb hp (by omega) (n := 6) (by omega)
  obtain ⟨v2, e2, _⟩ := pick_ex hb (p := p + 1) (by omega) (by omega) (n := (l.length : Int) + 1) (by omega)
  obtain ⟨v3, _, e3⟩ := one_ex hb (p := p + 1 + 1) (by omega) (by omega) [(-1), 0, 3, 9, 99] (by simp) (by simp)
  obtain ⟨v4, e4, _⟩ := pick_ex hb (p := p + 1 + 1 + 1) (by omega) (by omega) (n := 14) (by omega)
  unfold spec_l30News.f
  rw [hw]
  by_cases c : v4 = 0
  · obtain ⟨v5, _, e5⟩ := one_ex hb (p := p + 1 + 1 + 1 + 1) (by omega) (by omega) [0, 1000] (by simp) (by simp)
    refine ⟨v5, v2, v3, p + 1 + 1 + 1 + 1 + 1, Ev.bind e1 (Ev.bind e2 (Ev.bind e3 (Ev.bind e4 ?_))), by omega, by omega⟩
    simp only [c, if_true]
    exact Ev.bind e5 (ev_now fun _ => rfl)
  · refine ⟨wrap64 (1 + v1), v2, v3, p + 1 + 1 + 1 + 1, Ev.bind e1 (Ev.bind e2 (Ev.bind e3 (Ev.bind e4 ?_))), by omega, by omega⟩
    simp only [c, if_false]
    exact ev_now fun _ => rfl
theorem l30Live_end {b : List Int} (hb : Bytes b) (n : Int) {l : List S31} (hl : l.length ≤ 13) (w : List S64) (hw : w.length ≤ 20) {p : Int} (hp : 0 ≤ p) (hp2 : p ≤ 95000) :
    ∃ n' l' w' q, Ev (fun k => spec_l30Live.l0 k 0 b p n l w) (n', l', w', q) ∧ l'.length ≤ 13 ∧ w'.length ≤ 21 ∧ 0 ≤ q ∧ q ≤ p + 10 := by
  have z : ¬ (0 : Int) > 0 := by omega
  by_cases hz : (w.length : Int) > 0
  · obtain ⟨v1, e1, g0, g1, _⟩ := pick_ex hb hp (by omega) (n := (w.length : Int)) (by omega)
    have g1 := g1 (by omega)
    obtain ⟨v2, e2, _⟩ := pick_ex hb (p := p + 1) (by omega) (by omega) (n := 14) (by omega)
    by_cases c0 : v2 = 0
    · obtain ⟨v3, _, e3⟩ := one_ex hb (p := p + 1 + 1) (by omega) (by omega) [(-2), 100] (by simp) (by simp)
      refine ⟨n, l, w.set v1.toNat (⟨(rd_T64 w v1).f0, (rd_T64 w v1).f1, v3⟩ : S64), p + 1 + 1 + 1, ev_shift ?_, hl, by rw [List.length_set]; omega, by omega, by omega⟩
      simp only [spec_l30Live.l0, z, hz, if_true, if_false]
      refine Ev.bind e1 (Ev.bind e2 ?_)
      simp only [c0, if_true]
      refine Ev.bind e3 ?_
      simp only [g0, g1, if_true]
      rw [l16Copy_eq n l _ (by omega) (by rw [List.length_set]; omega)]
      exact ev_now fun _ => rfl
    · by_cases c1 : v2 = 1
      · refine ⟨n, l, w ++ [(⟨(rd_T64 w v1).f0, (rd_T64 w v1).f1, (rd_T64 w v1).f2⟩ : S64)], p + 1 + 1, ev_shift ?_, hl, by simp; omega, by omega, by omega⟩
        simp only [spec_l30Live.l0, z, hz, if_true, if_false]
        refine Ev.bind e1 (Ev.bind e2 ?_)
        have b1 : w.length < 5864062014805 := by omega
        simp only [c1, show ¬ (1 : Int) = 0 by omega, if_true, if_false, g0, g1, b1]
        rw [l16Copy_eq n l _ (by omega) (by simp; omega)]
        exact ev_now fun _ => rfl
      · refine ⟨n, l, w, p + 1 + 1, ev_shift ?_, hl, by omega, by omega, by omega⟩
        simp only [spec_l30Live.l0, z, hz, if_true, if_false]
        refine Ev.bind e1 (Ev.bind e2 ?_)
        simp only [c0, c1, if_false]
        rw [l16Copy_eq n l _ (by omega) (by omega)]
        exact ev_now fun _ => rfl
  · refine ⟨n, l, w, p, ev_shift ?_, hl, by omega, hp, by omega⟩
    simp only [spec_l30Live.l0, z, hz, if_false]
    rw [l16Copy_eq n l _ (by omega) (by omega)]
    exact ev_now fun _ => rfl
theorem l30Live_loop {b : List Int} (hb : Bytes b) : ∀ (m : Nat) (n : Int) (l : List S31) (w : List S64) (p : Int), l.length ≤ 13 → w.length + m ≤ 20 → 0 ≤ p → p + 10 * m ≤ 90000 →
    ∃ n' l' w' q, Ev (fun k => spec_l30Live.l0 k (m : Int) b p n l w) (n', l', w', q) ∧ l'.length ≤ 13 ∧ w'.length ≤ 21 ∧ 0 ≤ q ∧ q ≤ p + 10 * m + 10 := by
  intro m
  induction m with
  | zero =>
    intro n l w p h1 h2 h3 h4
    obtain ⟨n', l', w', q, he, r1, r2, r3, r4⟩ := l30Live_end hb n h1 w (by omega) h3 (by omega)
    exact ⟨n', l', w', q, he, r1, r2, r3, by omega⟩
  | succ m ih =>
    intro n l w p h1 h2 h3 h4
    have hpos : ((m + 1 : Nat) : Int) > 0 := by omega
    have hw : wrap64 (((m + 1 : Nat) : Int) - 1) = (m : Int) := by rw [w_id (by omega) (by omega)]; omega
    obtain ⟨x, y, z, q1, e1, g0, g1⟩ := l30News_ex hb n (l := l) (by omega) h3 (by omega)
    have e2 := specTell_ev n l w (by omega) (by omega) x y z
    obtain ⟨R, hR, hlen⟩ : ∃ R, (if liveB n l w = true then tellV n l w (tellS ⟨x, y, z⟩ w false) else (0, [], [], false)) = R ∧ R.2.1.length ≤ 13 ∧ R.2.2.1.length ≤ w.length + 1 := by
      refine ⟨_, rfl, ?_⟩
      have ht := tellS_length (⟨x, y, z⟩ : S64) w false
      simp only [Bool.false_eq_true, if_false] at ht
      unfold tellV
      split
      · split
        · exact ⟨h1, ht⟩
        · exact ⟨h1, by simp⟩
      · exact ⟨by simp, by simp⟩
    rw [hR] at e2
    obtain ⟨n', l', w', q, he, r1, r2, r3, r4⟩ := ih R.1 R.2.1 R.2.2.1 q1 hlen.1 (by omega) g0 (by omega)
    refine ⟨n', l', w', q, ev_shift ?_, r1, r2, r3, by omega⟩
    simp only [spec_l30Live.l0, hpos, if_true, hw]
    exact Ev.bind e1 (Ev.bind e2 he)
theorem l30Live_ex {b : List Int} (hb : Bytes b) {p : Int} (hp : 0 ≤ p) (hp2 : p ≤ 80000) :
    ∃ n l w q, Ev (fun k => spec_l30Live.f k b p) (n, l, w, q) ∧ l.length ≤ 13 ∧ w.length ≤ 21 ∧ 0 ≤ q ∧ q ≤ p + 300 := by
  obtain ⟨n, l, q, he, h1, h2, h3, _⟩ := l30Net_ex hb hp (by omega)
  obtain ⟨v, e1, g0, g1, _⟩ := pick_ex hb h2 (by omega) (n := 7) (by omega)
  have g1 := g1 (by omega)
  obtain ⟨m, rfl⟩ := Int.eq_ofNat_of_zero_le g0
  obtain ⟨n', l', w', q', he', r1, r2, r3, r4⟩ := l30Live_loop hb m n l [] (q + 1) h1 (by simp; omega) (by omega) (by omega)
  refine ⟨n', l', w', q', ?_, r1, r2, r3, by omega⟩
  unfold spec_l30Live.f
  exact Ev.bind he (Ev.bind e1 he')
/-! ### a valid net -/
/-- What a valid net is. -/
structure Net1 (n : Int) (l : List S31) : Prop where
  lo : 1 ≤ n
  hi : n ≤ 8
  len : l.length ≤ 16
  ends : ∀ x ∈ l, 0 ≤ x.f0 ∧ x.f0 < n ∧ 0 ≤ x.f1 ∧ x.f1 < n ∧ x.f0 ≠ x.f1 ∧ 0 ≤ x.f2 ∧ x.f2 ≤ 99 ∧ 0 ≤ x.f3 ∧ x.f3 ≤ 99 ∧ 0 ≤ x.f4 ∧ x.f4 ≤ 9
theorem net1_of {n : Int} {l : List S31} (h : netOkB n l = true) : Net1 n l := by
  unfold netOkB at h
  simp only [Bool.and_eq_true, decide_eq_true_eq, inB_iff, Bool.not_eq_true'] at h
  obtain ⟨⟨h1, h2⟩, h3, h4⟩ := h
  refine ⟨h1, h2, h3, fun x hx => ?_⟩
  have h5 : arcBad n x = false := by
    cases h6 : arcBad n x with
    | false => rfl
    | true => rw [List.any_eq_true.2 ⟨x, hx, h6⟩] at h4; cases h4
  rw [arcBad_eq] at h5
  simp only [Bool.not_eq_false', Bool.and_eq_true, inB_iff, Bool.not_eq_true', beq_eq_false_iff_ne] at h5
  rw [w_id (n := n - 1) (by omega) (by omega)] at h5
  obtain ⟨a, b, c, d, e, f⟩ := h5
  exact ⟨a.1, by omega, b.1, by omega, c, d.1, d.2, e.1, e.2, f.1, f.2⟩
theorem netOk_of {n : Int} {l : List S31} (hn : Net1 n l) : netOkB n l = true := by
  unfold netOkB
  have hlo := hn.lo
  have hhi := hn.hi
  have hl := hn.len
  simp only [Bool.and_eq_true, decide_eq_true_eq, inB_iff, Bool.not_eq_true']
  refine ⟨⟨hlo, hhi⟩, hl, ?_⟩
  rw [List.any_eq_false]
  intro x hx
  obtain ⟨h1, h2, h3, h4, h5, h6, h7, h8, h9, h10, h11⟩ := hn.ends x hx
  have : arcBad n x = false := by
    rw [arcBad_eq]
    simp only [Bool.not_eq_false', Bool.and_eq_true, inB_iff, Bool.not_eq_true', beq_eq_false_iff_ne]
    rw [w_id (n := n - 1) (by omega) (by omega)]
    exact ⟨⟨h1, by omega⟩, ⟨h3, by omega⟩, h5, ⟨h6, h7⟩, ⟨h8, h9⟩, h10, h11⟩
  rw [this]; exact Bool.false_ne_true
/-! ### what is near by news -/
theorem nowS_pos (k : Int) (ws : List S64) (h : ∀ x ∈ ws, x.f2 ≤ 99) : ∀ s c, 0 ≤ c → c + 99 * (ws.length : Int) ≤ 1000000 → 0 ≤ (nowS k ws s c).2 := by
  induction ws with
  | nil => intro s c h0 _; exact h0
  | cons w ws ih =>
    intro s c h0 hc
    have hw := h w (by simp)
    have ih := ih fun x hx => h x (by simp [hx])
    simp only [List.length_cons] at hc
    unfold nowS
    by_cases hk : w.f1 = k
    · rw [if_pos hk]
      by_cases hm : w.f2 < 0
      · rw [if_pos hm]; exact ih true c h0 (by omega)
      · rw [if_neg hm, w_id (n := c + w.f2) (by omega) (by omega)]
        exact ih s (c + w.f2) (by omega) (by omega)
    · rw [if_neg hk]; exact ih s c h0 (by omega)
theorem nowL_mem (w : List S64) (l : List S31) : ∀ k y, y ∈ nowL w l k → ∃ x ∈ l, ∃ k', y ∈ nowA w k' x := by
  induction l with
  | nil => intro k y h; simp [nowL] at h
  | cons x xs ih =>
    intro k y h
    simp only [nowL, List.mem_append] at h
    rcases h with h | h
    · exact ⟨x, by simp, _, h⟩
    · obtain ⟨z, hz, k', hk⟩ := ih _ _ h
      exact ⟨z, by simp [hz], k', hk⟩
theorem Net1.now {n : Int} {l : List S31} {w : List S64} (hn : Net1 n l) (hw : w.length ≤ 6) (h : ∀ x ∈ w, x.f2 ≤ 99) : Net1 n (nowL w l 0) := by
  refine ⟨hn.lo, hn.hi, Nat.le_trans (nowL_length w l 0) hn.len, fun y hy => ?_⟩
  obtain ⟨x, hx, k, hk⟩ := nowL_mem w l 0 y hy
  obtain ⟨e1, e2, e3, e4, e5, e6, e7, e8⟩ := hn.ends x hx
  have hp := nowS_pos k w h false x.f2 e6 (by omega)
  unfold nowA at hk
  split at hk
  · simp at hk
  · rw [List.mem_singleton] at hk
    subst hk
    refine ⟨e1, e2, e3, e4, e5, ?_, ?_, e8⟩
    · simp only; split <;> omega
    · simp only; split <;> omega
theorem newsB_less {m : Int} {x : S64} (h : newsB m x = true) : x.f2 ≤ 99 := by
  unfold newsB inB at h
  simp only [Bool.and_eq_true, decide_eq_true_eq] at h
  exact h.2.2.2
theorem newsB_more {m : Int} {x : S64} (h : newsB m x = true) : -1 ≤ x.f2 := by
  unfold newsB inB at h
  simp only [Bool.and_eq_true, decide_eq_true_eq] at h
  exact h.2.2.1
theorem live_net1 {n : Int} {l : List S31} {w : List S64} (h : liveB n l w = true) : Net1 n (nowL w l 0) :=
  (net1_of (liveB_len h).1).now (liveB_len h).2 fun x hx => newsB_less (liveB_more h x hx)
/-- What LiveNow tells. -/
def liveNowV (n : Int) (l : List S31) (w : List S64) : Int × List S31 := if liveB n l w = true then (n, nowL w l 0) else (0, [])
theorem liveNowV_len (n : Int) (l : List S31) (w : List S64) : (liveNowV n l w).2.length ≤ 16 := by
  unfold liveNowV
  split
  · rename_i h
    exact Nat.le_trans (nowL_length w l 0) (netOk_len (liveB_len h).1)
  · simp
theorem implLiveNow_ev (n : Int) (l : List S31) (w : List S64) (hw : w.length ≤ 9223372036854775807) : Ev (fun k => impl_LiveNow.f k n l w) (liveNowV n l w) := by
  unfold impl_LiveNow.f liveNowV
  refine Ev.bind (implLiveOk_ev n l w hw) ?_
  cases h : liveB n l w with
  | false => exact ev_now fun k => by simp
  | true =>
    simp only [if_true]
    exact Ev.bind (now_ev n l w (by have := netOk_len (liveB_len h).1; omega) hw fun x hx => newsB_more (liveB_more h x hx)) (ev_now fun _ => rfl)
/-! ### the laws' own tests of what is the same -/
theorem wkNet_self (n : Int) (l : List S31) (hl : l.length ≤ 9223372036854775807) : Ev (fun k => laws_wkNet.f k n l n l) true := by
  unfold laws_wkNet.f
  simp only [if_true]
  refine ev_shift ?_
  have e : (((l.length : Int) != (l.length : Int)) = true) = False := by simp
  simp only [laws_wkNet.j0, e, if_false]
  refine ev_ind (fun k (i : Nat) => laws_wkNet.l0 k (i : Int) n l n l) (fun i => l.length - i) (fun i => i ≤ l.length) (fun _ => true) ?_ 0 (Nat.zero_le _)
  intro i hi ih
  by_cases h : i < l.length
  · have hlt : (i : Int) < (l.length : Int) := by omega
    have h0 : (0 : Int) ≤ (i : Int) := by omega
    simp only [laws_wkNet.l0, hlt, h0, if_true, beq_self_eq_true, Bool.not_true, Bool.or_self, Bool.false_eq_true, if_false, wsucc h hl]
    exact ih (i + 1) (by omega) (by omega)
  · have hlt : ¬ (i : Int) < (l.length : Int) := by omega
    simp only [laws_wkNet.l0, hlt, if_false]
    exact ev_now fun _ => rfl
theorem drawLiveNow_ex (c : List Int) (h : ∀ x ∈ c, (Lit.int .u8 x).wf = true) : ∃ n l w, Ev (fun k => spec_DrawLiveNow.f k c) (n, l, w) ∧ l.length ≤ 13 ∧ w.length ≤ 21 := by
  obtain ⟨b, hb, ho⟩ := open_ex c h
  obtain ⟨n, l, w, q, he, h1, h2, _⟩ := l30Live_ex hb (p := 0) (by omega) (by omega)
  unfold spec_DrawLiveNow.f
  simp only [ho, Option.bind_some]
  exact ⟨n, l, w, Ev.bind he (ev_now fun _ => rfl), h1, h2⟩
theorem specLiveNow_ev (n : Int) (l : List S31) (w : List S64) (hl : l.length ≤ 9223372036854775807) (hw : w.length ≤ 9223372036854775807) : Ev (fun k => spec_LiveNow.f k n l w) (liveNowV n l w) := by
  unfold spec_LiveNow.f liveNowV
  refine Ev.bind (l16Ok_ev n l w hl hw) ?_
  cases h : liveB n l w with
  | false => exact ev_now fun k => by simp
  | true =>
    simp only [if_true]
    exact Ev.bind (l16Now_ev n l w (by have := netOk_len (liveB_len h).1; omega) hw) (ev_now fun _ => rfl)
theorem specLiveOk_ev (n : Int) (l : List S31) (w : List S64) (hl : l.length ≤ 9223372036854775807) (hw : w.length ≤ 9223372036854775807) : Ev (fun k => spec_LiveOk.f k n l w) (liveB n l w) := by
  unfold spec_LiveOk.f
  exact Ev.bind (l16Ok_ev n l w hl hw) (ev_now fun _ => rfl)
/-- As the law adds up. -/
def lawS (k : Int) : List S64 → Bool → Int → Bool × Int
  | [], s, c => (s, c)
  | w :: ws, s, c => if w.f1 = k then lawS k ws (s || decide (w.f2 < 0)) (wrap64 (c + w.f2)) else lawS k ws s c
theorem lawS_true (k : Int) (ws : List S64) : ∀ c, (lawS k ws true c).1 = true := by
  induction ws with
  | nil => intro c; rfl
  | cons w ws ih => intro c; unfold lawS; split <;> simp [ih]
theorem lawS_now (k : Int) (ws : List S64) : ∀ c, (lawS k ws false c).1 = (nowS k ws false c).1 ∧ ((nowS k ws false c).1 = false → (lawS k ws false c).2 = (nowS k ws false c).2) := by
  induction ws with
  | nil => intro c; exact ⟨rfl, fun _ => rfl⟩
  | cons w ws ih =>
    intro c
    unfold lawS nowS
    by_cases hk : w.f1 = k
    · by_cases hm : w.f2 < 0
      · simp only [hk, hm, if_true, decide_true, Bool.or_true]
        rw [lawS_true, nowS_true]
        exact ⟨rfl, fun h => by cases h⟩
      · simp only [hk, hm, if_true, if_false, decide_false, Bool.or_false]
        exact ih _
    · simp only [hk, if_false]
      exact ih c
theorem nowL_append (w : List S64) (xs ys : List S31) : ∀ k, nowL w (xs ++ ys) k = nowL w xs k ++ nowL w ys (k + xs.length) := by
  induction xs with
  | nil => intro k; simp [nowL]
  | cons x xs ih =>
    intro k
    simp only [List.cons_append, nowL, ih (k + 1), List.append_assoc, List.length_cons]
    rw [show k + 1 + xs.length = k + (xs.length + 1) by omega]
theorem nowL_none {n : Int} {l : List S31} (hn : ∀ x ∈ l, x.f2 ≤ 99) : ∀ k, nowL [] l k = l := by
  induction l with
  | nil => intro k; rfl
  | cons x xs ih =>
    intro k
    have h := hn x (by simp)
    have e : ¬ x.f2 > 99 := by omega
    simp only [nowL, nowA, nowS, Bool.false_eq_true, if_false, e, ih (fun y hy => hn y (by simp [hy]))]
    rfl
theorem liveNow_l1 (w : List S64) (hw : w.length ≤ 9223372036854775807) (t : Int) (i : Nat) (n : Int) (l : List S31) (hi : i < l.length) (n' : Int) (N : List S31) (R : Bool)
    (h1 : (lawS (i : Int) w false (l[i]).f2).1 = true → Ev (fun k => laws_FnLiveNow.l0 k t (wrap64 ((i : Int) + 1)) n l w n' N) R)
    (h2 : (lawS (i : Int) w false (l[i]).f2).1 = false → ∃ j : Nat, t = (j : Int) ∧ ∃ hj : j < N.length, N.length ≤ 1000 ∧ N[j] = ⟨l[i].f0, l[i].f1, if (lawS (i : Int) w false (l[i]).f2).2 > 99 then 99 else (lawS (i : Int) w false (l[i]).f2).2, l[i].f3, l[i].f4⟩ ∧ Ev (fun k => laws_FnLiveNow.l0 k ((j + 1 : Nat) : Int) (wrap64 ((i : Int) + 1)) n l w n' N) R) :
    Ev (fun k => laws_FnLiveNow.l1 k t (i : Int) false (l[i]).f2 0 n l w n' N) R := by
  refine ev_ind (fun k (s : Nat × Bool × Int) => laws_FnLiveNow.l1 k t (i : Int) s.2.1 s.2.2 (s.1 : Int) n l w n' N) (fun s => w.length - s.1) (fun s => s.1 ≤ w.length ∧ lawS (i : Int) w false (l[i]).f2 = lawS (i : Int) (w.drop s.1) s.2.1 s.2.2) (fun _ => R) ?_ (0, false, (l[i]).f2) ⟨Nat.zero_le _, by simp⟩
  rintro ⟨q, s, c⟩ ⟨hq, hs⟩ ih
  simp only at hq hs ih ⊢
  by_cases h : q < w.length
  · have hlt : (q : Int) < (w.length : Int) := by omega
    have h0 : (0 : Int) ≤ (q : Int) := by omega
    rw [List.drop_eq_getElem_cons h, lawS] at hs
    simp only [laws_FnLiveNow.l1, hlt, h0, if_true, news_at w q h, wsucc h hw]
    by_cases hk : w[q].f1 = (i : Int)
    · simp only [hk, if_true] at hs ⊢
      cases s with
      | true =>
        simp only [if_true]
        exact ih (q + 1, true, wrap64 (c + w[q].f2)) ⟨by simp; omega, by simpa using hs⟩ (by simp; omega)
      | false =>
        simp only [Bool.false_eq_true, if_false]
        exact ih (q + 1, decide (w[q].f2 < 0), wrap64 (c + w[q].f2)) ⟨by simp; omega, by simpa using hs⟩ (by simp; omega)
    · simp only [hk, if_false] at hs ⊢
      exact ih (q + 1, s, c) ⟨by simp; omega, hs⟩ (by simp; omega)
  · have hlt : ¬ (q : Int) < (w.length : Int) := by omega
    rw [List.drop_of_length_le (by omega), lawS] at hs
    rw [hs] at h1 h2
    simp only at h1 h2
    simp only [laws_FnLiveNow.l1, hlt, if_false]
    cases s with
    | true => simp only [if_true]; exact h1 rfl
    | false =>
      obtain ⟨j, rfl, hj, hN, ha, he⟩ := h2 rfl
      have a0 : (0 : Int) ≤ (i : Int) := by omega
      have a1 : (i : Int) < (l.length : Int) := by omega
      have b0 : (0 : Int) ≤ (j : Int) := by omega
      have b1 : (j : Int) < (N.length : Int) := by omega
      have b2 : ¬ (j : Int) ≥ (N.length : Int) := by omega
      simp only [Bool.false_eq_true, if_false, a0, a1, if_true, b0, b1, b2, arc_at N j hj, arc_at l i hi, ha, wsucc hj (show N.length ≤ 9223372036854775807 by omega)]
      by_cases hc : c > 99
      · simp only [hc, if_true, beq_self_eq_true, Bool.not_true, Bool.or_self, Bool.false_eq_true, if_false]
        exact he
      · simp only [hc, if_false, beq_self_eq_true, Bool.not_true, Bool.or_self, Bool.false_eq_true]
        exact he
theorem FnLiveNow : laws_FnLiveNow.Pure := by
  intro c _ _ hc
  refine Ev.rounds ?_
  unfold laws_FnLiveNow.f
  by_cases h0 : (c.length : Int) > 1048576
  · simp only [h0, if_true]; exact ev_now fun _ => rfl
  simp only [h0, if_false]
  obtain ⟨n, l, w, he, hl, hw⟩ := drawLiveNow_ex c hc
  have hl9 : l.length ≤ 9223372036854775807 := by omega
  have hw9 : w.length ≤ 9223372036854775807 := by omega
  have hv := liveNowV_len n l w
  refine Ev.bind he (Ev.bind (implLiveNow_ev n l w hw9) (Ev.bind (specLiveNow_ev n l w hl9 hw9) (Ev.bind (wkNet_self _ _ (by omega)) ?_)))
  simp only [if_true]
  refine Ev.bind (implLiveOk_ev n l w hw9) (Ev.bind (specLiveOk_ev n l w hl9 hw9) ?_)
  simp only [bne_self_eq_false, Bool.false_eq_true, if_false]
  refine Ev.bind (implLiveOk_ev n l w hw9) (ev_shift ?_)
  cases hok : liveB n l w with
  | false =>
    simp only [laws_FnLiveNow.j0, Bool.not_false, if_true]
    refine Ev.bind (specLiveNow_ev n l w hl9 hw9) (Ev.bind (wkNet_self _ _ (by omega)) ?_)
    simp only [if_true]
    exact Ev.bind (implLiveOk_ev n l w hw9) (Ev.bind (specLiveOk_ev n l w hl9 hw9) (ev_now fun _ => by simp))
  | true =>
    have hV : liveNowV n l w = (n, nowL w l 0) := by unfold liveNowV; rw [if_pos hok]
    have hn := net1_of (liveB_len hok).1
    have hN1 := live_net1 hok
    have hNl := nowL_length w l 0
    rw [hV]
    simp only [laws_FnLiveNow.j0, Bool.not_true, Bool.false_eq_true, if_false]
    refine ev_ind (fun k (i : Nat) => laws_FnLiveNow.l0 k (((nowL w (l.take i) 0).length : Nat) : Int) (i : Int) n l w n (nowL w l 0)) (fun i => l.length - i) (fun i => i ≤ l.length) (fun _ => true) ?_ 0 (Nat.zero_le _)
    intro i hi ih
    by_cases h : i < l.length
    · have hlt : (i : Int) < (l.length : Int) := by omega
      have hi0 : (0 : Int) ≤ (i : Int) := by omega
      have next := ih (i + 1) (by omega) (by omega)
      have htk : l.take (i + 1) = l.take i ++ [l[i]] := by rw [List.take_succ_eq_append_getElem h]
      have hsp : nowL w l 0 = nowL w (l.take i) 0 ++ (nowA w (i : Int) l[i] ++ nowL w (l.drop (i + 1)) (i + 1)) := by
        have e1 := nowL_append w (l.take i) (l.drop i) 0
        rw [List.take_append_drop, List.length_take, show 0 + min i l.length = i by omega, List.drop_eq_getElem_cons h, nowL] at e1
        exact e1
      have hnx : (nowL w (l.take (i + 1)) 0) = nowL w (l.take i) 0 ++ nowA w (i : Int) l[i] := by
        rw [htk, nowL_append, List.length_take, show 0 + min i l.length = i by omega]
        simp [nowL]
      have hs := lawS_now (i : Int) w (l[i]).f2
      simp only [laws_FnLiveNow.l0, hlt, hi0, if_true, arc_at l i h]
      refine liveNow_l1 w hw9 _ i n l h n _ true ?_ ?_
      · intro hb
        rw [hs.1] at hb
        have ea : nowA w (i : Int) l[i] = [] := by unfold nowA; rw [if_pos hb]
        rw [hnx, ea, List.append_nil] at next
        rw [wsucc h hl9]
        exact next
      · intro hb
        have hb' := hb
        rw [hs.1] at hb'
        have e2 := hs.2 hb'
        have ea : nowA w (i : Int) l[i] = [⟨l[i].f0, l[i].f1, if (lawS (i : Int) w false (l[i]).f2).2 > 99 then 99 else (lawS (i : Int) w false (l[i]).f2).2, l[i].f3, l[i].f4⟩] := by
          unfold nowA; rw [if_neg (by rw [hb']; exact Bool.false_ne_true), e2]
        have hlen : (nowL w (l.take i) 0).length < (nowL w l 0).length := by rw [hsp, ea]; simp
        refine ⟨_, rfl, hlen, by omega, ?_, ?_⟩
        · have : (nowL w l 0)[(nowL w (l.take i) 0).length]? = some (⟨l[i].f0, l[i].f1, if (lawS (i : Int) w false (l[i]).f2).2 > 99 then 99 else (lawS (i : Int) w false (l[i]).f2).2, l[i].f3, l[i].f4⟩ : S31) := by rw [hsp, ea]; simp
          exact (List.getElem?_eq_some_iff.1 this).2
        · rw [hnx, ea] at next
          rw [wsucc h hl9]
          simpa using next
    · have hlt : ¬ (i : Int) < (l.length : Int) := by omega
      have hal : l.take i = l := List.take_of_length_le (by omega)
      have hno := netOk_of hN1
      have hlv : liveB n l [] = true := by unfold liveB; simp [(liveB_len hok).1]
      have v2 : liveNowV n l [] = (n, l) := by unfold liveNowV; rw [if_pos hlv, nowL_none (n := n) fun x hx => (hn.ends x hx).2.2.2.2.2.2.1]
      simp only [laws_FnLiveNow.l0, hlt, if_false, netOk_eq, hno, Option.bind_some, if_true, hal]
      refine Ev.bind (implLiveNow_ev n l [] (by simp)) ?_
      rw [v2]
      exact Ev.bind (wkNet_self n l hl9) (ev_now fun _ => rfl)
end Go.Proofs.Ythgihpbpebbebaa.Pure
