/- The pure statement of FnSomeWalks: of every drawn net, two nodes and a number the program tells the same walks as the reference, each from the one to the other, to no node twice, each ahead of the next one, the best way first, and no more than asked. No condition. -/
import Derived.Test.YtlgolgfcolnddaaFKindsPFnSomeWalks
import Derived.Test.YtlgolgfcolnddaaPFnSomeWalks6
import Derived.Test.YtlgolgfcolnddaaPFnSomeWalks0
import Derived.Test.YtlgolgfcolnddaaPFnSomeWalks5
import Derived.Test.YtlgolgfcolnddaaPFnSomeWalks1
import Derived.Test.YtlgolgfcolnddaaPFnSomeWalks7
import Derived.Test.YtlgolgfcolnddaaPFnSomeWalks2
import Derived.Test.YtlgolgfcolnddaaPFnSomeWalks4
import Derived.Test.YtlgolgfcolnddaaPFnSomeWalks3
namespace Go.Proofs.Ytlgolgfcolnddaa.Pure
open Go.RowKit Go.Proofs.Ytlgolgfcolnddaa.F Go.Proofs.YtlgolgfcolnddaaW.PrintWords
set_option linter.unusedVariables false
set_option linter.unusedSimpArgs false
theorem ev_shift {α : Type} {g : Nat → Option α} {r : α} (h : Ev (fun k => g (k + 1)) r) : Ev g r := by
  obtain ⟨K, h⟩ := h
  refine ⟨K + 1, fun k hk => ?_⟩
  obtain ⟨m, rfl⟩ : ∃ m, k = m + 1 := ⟨k - 1, by omega⟩
  exact h m (by omega)
theorem qVd {σ β : Type} (g : Nat → σ → Option β) (μ : σ → Nat) (Inv : σ → Prop) (r : σ → β)
    (h : ∀ s, Inv s → (∀ s', Inv s' → μ s' < μ s → Ev (fun k => g k s') (r s')) → Ev (fun k => g (k + 1) s) (r s)) : ∀ s, Inv s → Ev (fun k => g k s) (r s) := by
  have key : ∀ n s, μ s ≤ n → Inv s → Ev (fun k => g k s) (r s) := by
    intro n
    induction n with
    | zero => intro s hs hi; exact ev_shift (h s hi (fun s' _ hlt => absurd hlt (by omega)))
    | succ n ih => intro s hs hi; exact ev_shift (h s hi (fun s' hi' hlt => ih s' (by omega) hi'))
  exact fun s hi => key _ s (Nat.le_refl _) hi
theorem qQm {α : Type} {g : Nat → Option α} {r : α} (h : ∀ k, g k = some r) : Ev g r := ⟨0, fun k _ => h k⟩
theorem ev_at {α : Type} {g : Nat → Option α} {r r' : α} (h : Ev g r) (e : r = r') : Ev g r' := e ▸ h
theorem qKe {i n : Nat} (h : i < n) (hn : n ≤ 9223372036854775807) : wrap64 ((i : Int) + 1) = ((i + 1 : Nat) : Int) := by
  unfold wrap64; omega
theorem wpred {i : Nat} (h : 0 < i) (hi : i ≤ 9223372036854775807) : wrap64 ((i : Int) - 1) = ((i - 1 : Nat) : Int) := by
  unfold wrap64; omega
theorem w_id {n : Int} (h : -9223372036854775808 ≤ n) (h' : n ≤ 9223372036854775807) : wrap64 n = n := by unfold wrap64; omega
theorem rd_nat (l : List Int) (i : Nat) : rd l (i : Int) = l.getD i 0 := by simp [rd]
theorem rd_at (l : List Int) (i : Nat) (h : i < l.length) : rd l (i : Int) = l[i] := by simp [rd, h]
theorem qXh (l : List S58) (i : Nat) (h : i < l.length) : qZa l (i : Int) = l[i] := by simp [qZa, h]
theorem any_at {α : Type} (p : α → Bool) (l : List α) (i : Nat) (h : i < l.length) : (l.drop i).any p = (p l[i] || (l.drop (i + 1)).any p) := by
  rw [List.drop_eq_getElem_cons h, List.any_cons]
theorem qKm (a b c : Int) : impl_within.f a b c = some (inB a b c) := by
  unfold impl_within.f inB
  by_cases h : b ≤ a
  · rw [if_pos h]; simp [h]
  · rw [if_neg h]; simp [h]
theorem jZo (a b c : Int) : spec_l1In.f a b c = some (inB a b c) := qKm a b c
theorem arcBad_eq (n : Int) (x : S58) : arcBad n x = !(inB x.f0 0 (wrap64 (n - 1)) && (inB x.f1 0 (wrap64 (n - 1)) && (!(x.f0 == x.f1) && (inB x.f2 0 99 && (inB x.f3 0 99 && inB x.f4 0 9))))) := by
  unfold arcBad hasB
  cases h1 : inB x.f0 0 (wrap64 (n - 1)) <;> cases h2 : inB x.f1 0 (wrap64 (n - 1)) <;> simp [h1, h2, Bool.not_and]
theorem netOk_eq (n : Int) (l : List S58) : impl_NetOk.f n l = some (netOkB n l) := rfl
theorem l1Ok_loop (n : Int) (l : List S58) (hl : l.length ≤ 9223372036854775807) (i : Nat) (hi : i ≤ l.length) :
    Ev (fun k => spec_l1Ok.l0 k (i : Int) n l) (!((l.drop i).any (arcBad n)) && (inB n 1 8 && decide (l.length ≤ 16))) := by
  refine qVd (fun k (i : Nat) => spec_l1Ok.l0 k (i : Int) n l) (fun i => l.length - i) (fun i => i ≤ l.length) (fun i => !((l.drop i).any (arcBad n)) && (inB n 1 8 && decide (l.length ≤ 16))) ?_ i hi
  intro i hi ih
  by_cases h : i < l.length
  · have hlt : (i : Int) < (l.length : Int) := by omega
    have h0 : (0 : Int) ≤ (i : Int) := by omega
    simp only [spec_l1Ok.l0, hlt, h0, if_true, jZo, Option.bind_some, qXh l i h, qKe h hl]
    rw [any_at _ _ _ h, arcBad_eq]
    have ih' := ih (i + 1) (by omega) (by omega)
    generalize (l.drop (i + 1)).any (arcBad n) = q at ih' ⊢
    generalize l[i] = x at ih' ⊢
    cases inB x.f0 0 (wrap64 (n - 1)) with
    | false => exact qQm fun k => by simp
    | true =>
    cases inB x.f1 0 (wrap64 (n - 1)) with
    | false => exact qQm fun k => by simp
    | true =>
    by_cases he : x.f0 = x.f1
    · exact qQm fun k => by simp [he]
    · cases inB x.f2 0 99 with
      | false => exact qQm fun k => by simp [he]
      | true =>
      cases inB x.f3 0 99 with
      | false => exact qQm fun k => by simp [he]
      | true =>
      cases inB x.f4 0 9 with
      | false => exact qQm fun k => by simp [he]
      | true =>
        have he' : (x.f0 == x.f1) = false := beq_eq_false_iff_ne.2 he
        simpa [he, he'] using ih'
  · have hlt : ¬ (i : Int) < (l.length : Int) := by omega
    have he : i = l.length := by omega
    simp only [spec_l1Ok.l0, hlt, if_false, jZo, Option.bind_some]
    subst he
    refine qQm fun k => ?_
    cases inB n 1 8 <;> simp
    omega
theorem l1Ok_ev (n : Int) (l : List S58) (hl : l.length ≤ 9223372036854775807) : Ev (fun k => spec_l1Ok.f k n l) (netOkB n l) := by
  refine ev_at (l1Ok_loop n l hl 0 (Nat.zero_le _)) ?_
  unfold netOkB
  rw [List.drop_zero]
  cases inB n 1 8 <;> cases decide (l.length ≤ 16) <;> cases l.any (arcBad n) <;> rfl
theorem qWp {a b c : Int} : inB a b c = true ↔ b ≤ a ∧ a ≤ c := by unfold inB; rw [Bool.and_eq_true, decide_eq_true_eq, decide_eq_true_eq]
theorem xor_nn {x y : Int} (hx : 0 ≤ x) (hx2 : x < 1099511627776) (hy : 0 ≤ y) (hy2 : y < 1099511627776) : 0 ≤ Go.bits .xor .i64 x y := by
  obtain ⟨a, rfl⟩ := Int.eq_ofNat_of_zero_le hx
  obtain ⟨b, rfl⟩ := Int.eq_ofNat_of_zero_le hy
  have h1 : (BitVec.ofInt 64 (a : Int)).toNat = a := by
    rw [BitVec.toNat_ofInt]
    omega
  have h2 : (BitVec.ofInt 64 (b : Int)).toNat = b := by
    rw [BitVec.toNat_ofInt]
    omega
  have h3 : a ^^^ b < 2 ^ 40 := Nat.xor_lt_two_pow (by omega) (by omega)
  have h4 : Go.bits .xor .i64 (a : Int) (b : Int) = IntKind.i64.wrap ((a ^^^ b : Nat) : Int) := by
    unfold Go.bits
    show IntKind.i64.wrap ((BitVec.ofInt 64 (a : Int) ^^^ BitVec.ofInt 64 (b : Int)).toNat : Int) = _
    rw [BitVec.toNat_xor, h1, h2]
  rw [h4, IntKind.wrap_i64]
  omega
def Bytes (b : List Int) : Prop := b.length ≤ 2000 ∧ ∀ x ∈ b, 0 ≤ x ∧ x ≤ 255
theorem Bytes.at {b : List Int} (hb : Bytes b) (i : Int) : 0 ≤ rd b i ∧ rd b i ≤ 255 := by
  unfold rd
  rw [List.getD_eq_getElem?_getD]
  cases h : b[i.toNat]? with
  | none => simp
  | some x => exact hb.2 x (List.mem_of_getElem? h)
theorem qXm {b : List Int} (hb : Bytes b) {p n : Int} (hp : 0 ≤ p) (hp2 : p ≤ 1000000) (hn : n ≤ 1000000) :
    ∃ v, Ev (fun k => spec_l30Rd_pick.f k b p n) (v, p + 1) ∧ 0 ≤ v ∧ (1 ≤ n → v < n) ∧ (n < 1 → v = 0) := by
  have hl := hb.1
  have w1 : wrap64 (p + 1) = p + 1 := w_id (by omega) (by omega)
  have w0 : wrap64 (p + 1 - 1) = p := by rw [w_id (by omega) (by omega)]; omega
  unfold spec_l30Rd_pick.f
  rw [w1]
  by_cases h1 : n < 1
  · refine ⟨0, ?_, Int.le_refl _, fun h => by omega, fun _ => rfl⟩
    simp only [h1, if_true]
    exact ev_shift (qQm fun k => by simp only [spec_l30Rd_pick.j0, if_true])
  · simp only [h1, if_false]
    have hn0 : ¬ n = 0 := by omega
    by_cases h2 : b.length = 0
    · refine ⟨0, ?_, Int.le_refl _, fun h => by omega, fun h => by first | exact absurd h h1 | exact h.elim⟩
      have e : ((b.length : Int) == 0) = true := by rw [beq_iff_eq]; omega
      rw [e]
      exact ev_shift (qQm fun k => by simp only [spec_l30Rd_pick.j0, if_true])
    · have e : ((b.length : Int) == 0) = false := by rw [beq_eq_false_iff_ne]; omega
      have hm0 : ¬ (b.length : Int) = 0 := by omega
      rw [e]
      by_cases h3 : p < (b.length : Int)
      · have hr := hb.at p
        have w2 : wrap64 (rd b p) = rd b p := w_id (by omega) (by omega)
        refine ⟨Int.tmod (rd b p) n, ?_, Int.tmod_nonneg _ hr.1, fun h => Int.tmod_lt_of_pos _ (by omega), fun h => by first | exact absurd h h1 | exact h.elim⟩
        exact ev_shift (qQm fun k => by simp only [spec_l30Rd_pick.j0, Bool.false_eq_true, if_false, w0, h3, hp, hn0, if_true, w2])
      · have q1 := Int.tmod_nonneg (a := p) (b.length : Int) hp
        have q2 := Int.tmod_lt_of_pos p (show (0 : Int) < (b.length : Int) by omega)
        have w3 : wrap64 (wrap64 (p * 7) + 3) = p * 7 + 3 := by rw [w_id (n := p * 7) (by omega) (by omega), w_id (by omega) (by omega)]
        have q3 := Int.tmod_nonneg (a := p * 7 + 3) (b.length : Int) (by omega)
        have q4 := Int.tmod_lt_of_pos (p * 7 + 3) (show (0 : Int) < (b.length : Int) by omega)
        have q5 : 0 ≤ Int.tdiv p (b.length : Int) := Int.tdiv_nonneg hp (by omega)
        have q6 : Int.tdiv p (b.length : Int) ≤ p := Int.tdiv_le_self _ hp
        obtain ⟨d, hd⟩ : ∃ d, Int.tdiv p (b.length : Int) = d := ⟨_, rfl⟩
        rw [hd] at q5 q6
        have r1 := hb.at (Int.tmod p (b.length : Int))
        have r2 := hb.at (Int.tmod (p * 7 + 3) (b.length : Int))
        have wx : wrap64 (wrap64 (wrap64 (wrap64 (wrap64 (rd b (Int.tmod p (b.length : Int))) * 131) + wrap64 (wrap64 (rd b (Int.tmod (p * 7 + 3) (b.length : Int))) * 1117)) + wrap64 (p * 29)) + wrap64 (wrap64 d * 53)) = rd b (Int.tmod p (b.length : Int)) * 131 + rd b (Int.tmod (p * 7 + 3) (b.length : Int)) * 1117 + p * 29 + d * 53 := by
          generalize rd b (Int.tmod p (b.length : Int)) = x1 at r1 ⊢
          generalize rd b (Int.tmod (p * 7 + 3) (b.length : Int)) = x2 at r2 ⊢
          rw [w_id (n := x1) (by omega) (by omega), w_id (n := x2) (by omega) (by omega), w_id (n := x1 * 131) (by omega) (by omega), w_id (n := x2 * 1117) (by omega) (by omega), w_id (n := p * 29) (by omega) (by omega), w_id (n := d) (by omega) (by omega), w_id (n := d * 53) (by omega) (by omega), w_id (n := x1 * 131 + x2 * 1117) (by omega) (by omega), w_id (n := x1 * 131 + x2 * 1117 + p * 29) (by omega) (by omega), w_id (by omega) (by omega)]
        generalize hX : rd b (Int.tmod p (b.length : Int)) * 131 + rd b (Int.tmod (p * 7 + 3) (b.length : Int)) * 1117 + p * 29 + d * 53 = X at wx
        have x0 : 0 ≤ X := by omega
        have x1 : X < 1099511627776 := by omega
        have y0 : 0 ≤ Int.tdiv X 64 := Int.tdiv_nonneg x0 (by omega)
        have y1 : Int.tdiv X 64 ≤ X := Int.tdiv_le_self _ x0
        have wy : wrap64 (Int.tdiv X 64) = Int.tdiv X 64 := w_id (by omega) (by omega)
        refine ⟨Int.tmod (Go.bits .xor .i64 X (Int.tdiv X 64)) n, ?_, Int.tmod_nonneg _ (xor_nn x0 x1 y0 (by omega)), fun h => Int.tmod_lt_of_pos _ (by omega), fun h => by first | exact absurd h h1 | exact h.elim⟩
        exact ev_shift (qQm fun k => by simp only [spec_l30Rd_pick.j0, Bool.false_eq_true, if_false, w0, h3, hm0, q1, q2, w3, q3, q4, hn0, if_true, hd, wx, wy])
theorem jZc {b : List Int} (hb : Bytes b) {p : Int} (hp : 0 ≤ p) (hp2 : p ≤ 1000000) (l : List Int) (hl : 1 ≤ l.length) (hl2 : l.length ≤ 1000) :
    ∃ v, v ∈ l ∧ Ev (fun k => spec_l30Rd_one.f k b p l) (v, p + 1) := by
  obtain ⟨v, hv, h0, h1, _⟩ := qXm hb hp hp2 (n := (l.length : Int)) (by omega)
  have h1 := h1 (by omega)
  unfold spec_l30Rd_one.f
  obtain ⟨i, rfl⟩ := Int.eq_ofNat_of_zero_le h0
  have hi : i < l.length := by omega
  refine ⟨l[i], List.getElem_mem hi, Ev.bind hv ?_⟩
  simp only [h0, h1, if_true, rd_at l i hi]
  exact qQm fun _ => rfl
theorem open_ex (l : List Int) (h : ∀ x ∈ l, (Lit.int .u8 x).wf = true) : ∃ b, Bytes b ∧ spec_l30Open.f l = some (b, 0) := by
  have hw : ∀ x ∈ l, 0 ≤ x ∧ x ≤ 255 := by
    intro x hx
    have := h x hx
    simp [Lit.wf, IntKind.min, IntKind.max, IntKind.signed, IntKind.bits] at this
    omega
  unfold spec_l30Open.f
  by_cases h1 : (l.length : Int) > 2000
  · have h2 : 2000 ≤ (l.length : Int) := by omega
    rw [if_pos h1, if_pos h2]
    exact ⟨_, ⟨by rw [List.length_take]; omega, fun x hx => hw x (List.mem_of_mem_take hx)⟩, rfl⟩
  · rw [if_neg h1]
    exact ⟨_, ⟨by omega, hw⟩, rfl⟩
theorem l30Net_loop {b : List Int} (hb : Bytes b) {n : Int} (hn : 2 ≤ n ∧ n ≤ 6) : ∀ (m : Nat) (l : List S58) (p : Int), l.length + m ≤ 13 → 0 ≤ p → p + 6 * m ≤ 100000 →
    ∃ l' q, Ev (fun k => spec_l30Net.l0 k (m : Int) b p n l) (n, l', q) ∧ l'.length ≤ 13 ∧ 0 ≤ q ∧ q ≤ p + 6 * m := by
  intro m
  induction m with
  | zero =>
    intro l p hl hp hq
    exact ⟨l, p, ev_shift (qQm fun k => by simp [spec_l30Net.l0]), by omega, hp, by omega⟩
  | succ m ih =>
    intro l p hl hp hq
    obtain ⟨v1, e1, _⟩ := qXm hb hp (by omega) (n := n) (by omega)
    obtain ⟨v2, e2, _⟩ := qXm hb (p := p + 1) (by omega) (by omega) (n := n) (by omega)
    obtain ⟨v3, e3, _⟩ := qXm hb (p := p + 1 + 1) (by omega) (by omega) (n := 100) (by omega)
    obtain ⟨v4, _, e4⟩ := jZc hb (p := p + 1 + 1 + 1) (by omega) (by omega) [0, 1, 2, 5, 9, v3] (by simp) (by simp)
    obtain ⟨v5, _, e5⟩ := jZc hb (p := p + 1 + 1 + 1 + 1) (by omega) (by omega) [0, 0, 3, 8] (by simp) (by simp)
    obtain ⟨v6, e6, _⟩ := qXm hb (p := p + 1 + 1 + 1 + 1 + 1) (by omega) (by omega) (n := 10) (by omega)
    have hpos : ((m + 1 : Nat) : Int) > 0 := by omega
    have hw : wrap64 (((m + 1 : Nat) : Int) - 1) = (m : Int) := by rw [w_id (by omega) (by omega)]; omega
    have hlen : l.length < 3518437208883 := by omega
    have hn0 : ¬ n = 0 := by omega
    by_cases hv : v1 = v2
    · obtain ⟨l', q, he, h1, h2, h3⟩ := ih (l ++ [⟨v1, Int.tmod (wrap64 (v2 + 1)) n, v4, v5, v6⟩]) (p + 1 + 1 + 1 + 1 + 1 + 1) (by rw [List.length_append]; simp; omega) (by omega) (by omega)
      refine ⟨l', q, ev_shift ?_, h1, h2, by omega⟩
      simp only [spec_l30Net.l0, hpos, if_true]
      refine Ev.bind e1 (Ev.bind e2 (Ev.bind e3 (Ev.bind e4 (Ev.bind e5 (Ev.bind e6 ?_)))))
      simp only [hv, hn0, hlen, if_true, if_false, hw]
      rw [hv] at he
      exact he
    · obtain ⟨l', q, he, h1, h2, h3⟩ := ih (l ++ [⟨v1, v2, v4, v5, v6⟩]) (p + 1 + 1 + 1 + 1 + 1 + 1) (by rw [List.length_append]; simp; omega) (by omega) (by omega)
      refine ⟨l', q, ev_shift ?_, h1, h2, by omega⟩
      simp only [spec_l30Net.l0, hpos, if_true]
      refine Ev.bind e1 (Ev.bind e2 (Ev.bind e3 (Ev.bind e4 (Ev.bind e5 (Ev.bind e6 ?_)))))
      simp only [hv, hlen, if_true, if_false, hw]
      exact he
theorem l30Net_ex {b : List Int} (hb : Bytes b) {p : Int} (hp : 0 ≤ p) (hp2 : p ≤ 90000) :
    ∃ n l q, Ev (fun k => spec_l30Net.f k b p) (n, l, q) ∧ l.length ≤ 13 ∧ 0 ≤ q ∧ q ≤ p + 100 ∧ 2 ≤ n ∧ n ≤ 6 := by
  obtain ⟨v1, e1, h1, h1', _⟩ := qXm hb hp (by omega) (n := 5) (by omega)
  obtain ⟨v2, e2, h2, h2', _⟩ := qXm hb (p := p + 1) (by omega) (by omega) (n := 14) (by omega)
  have h1' := h1' (by omega)
  have h2' := h2' (by omega)
  obtain ⟨m, rfl⟩ := Int.eq_ofNat_of_zero_le h2
  have hw : wrap64 (2 + v1) = 2 + v1 := w_id (by omega) (by omega)
  obtain ⟨l, q, he, h3, h4, h5⟩ := l30Net_loop hb (n := 2 + v1) (by omega) m [] (p + 1 + 1) (by simp; omega) (by omega) (by omega)
  refine ⟨2 + v1, l, q, ?_, h3, h4, by omega, by omega, by omega⟩
  unfold spec_l30Net.f
  refine Ev.bind e1 (Ev.bind e2 ?_)
  rw [hw]
  exact he
theorem l30Node_ex {b : List Int} (hb : Bytes b) {p : Int} (hp : 0 ≤ p) (hp2 : p ≤ 90000) (n : Int) (hn : n ≤ 1000000) (l : List S58) :
    ∃ v q, Ev (fun k => spec_l30Node.f k b p n l) (v, q) ∧ 0 ≤ q ∧ q ≤ p + 10 := by
  obtain ⟨v1, e1, _⟩ := qXm hb hp (by omega) (n := 16) (by omega)
  unfold spec_l30Node.f
  by_cases c : v1 = 0
  · obtain ⟨v2, _, e2⟩ := jZc hb (p := p + 1) (by omega) (by omega) [(-1), n] (by simp) (by simp)
    refine ⟨v2, p + 1 + 1, Ev.bind e1 ?_, by omega, by omega⟩
    simp only [c, if_true]
    exact Ev.bind e2 (qQm fun _ => rfl)
  · obtain ⟨v2, e2, _⟩ := qXm hb (p := p + 1) (by omega) (by omega) (n := n) hn
    refine ⟨v2, p + 1 + 1, Ev.bind e1 ?_, by omega, by omega⟩
    simp only [c, if_false]
    exact Ev.bind e2 (qQm fun _ => rfl)
theorem l30AnyNet_ex9 {b : List Int} (hb : Bytes b) {p : Int} (hp : 0 ≤ p) (hp2 : p ≤ 90000) :
    ∃ n l q, Ev (fun k => spec_l30AnyNet.f k b p) (n, l, q) ∧ l.length ≤ 13 ∧ 0 ≤ q ∧ q ≤ p + 200 ∧ n ≤ 9 := by
  obtain ⟨n, l, q, he, h1, h2, h3, h4, h5⟩ := l30Net_ex hb hp hp2
  unfold spec_l30AnyNet.f
  by_cases hl : (l.length : Int) > 0
  · obtain ⟨v1, e1, g1, g2, _⟩ := qXm hb h2 (by omega) (n := (l.length : Int)) (by omega)
    have g2 := g2 (by omega)
    obtain ⟨v2, e2, _⟩ := qXm hb (p := q + 1) (by omega) (by omega) (n := 16) (by omega)
    by_cases c0 : v2 = 0
    · obtain ⟨v3, _, e3⟩ := jZc hb (p := q + 1 + 1) (by omega) (by omega) [(-1), 8, (qZa l v1).f0] (by simp) (by simp)
      refine ⟨n, l.set v1.toNat (⟨(qZa l v1).f0, v3, (qZa l v1).f2, (qZa l v1).f3, (qZa l v1).f4⟩ : S58), q + 1 + 1 + 1, Ev.bind he ?_, ?_, ?_, ?_, ?_⟩
      · simp only [hl, if_true]
        refine Ev.bind e1 (Ev.bind e2 ?_)
        simp only [c0, if_true, g1, g2]
        exact Ev.bind e3 (qQm fun _ => rfl)
      · rw [List.length_set]; exact h1
      · omega
      · omega
      · omega
    · by_cases c1 : v2 = 1
      · obtain ⟨v3, _, e3⟩ := jZc hb (p := q + 1 + 1) (by omega) (by omega) [(-1), 100] (by simp) (by simp)
        refine ⟨n, l.set v1.toNat (⟨(qZa l v1).f0, (qZa l v1).f1, v3, (qZa l v1).f3, (qZa l v1).f4⟩ : S58), q + 1 + 1 + 1, Ev.bind he ?_, ?_, ?_, ?_, ?_⟩
        · simp only [hl, if_true]
          refine Ev.bind e1 (Ev.bind e2 ?_)
          simp only [c1, if_true, show ¬ (1 : Int) = 0 by omega, if_false]
          refine Ev.bind e3 ?_
          simp only [g1, g2, if_true]
          exact qQm fun _ => rfl
        · rw [List.length_set]; exact h1
        · omega
        · omega
        · omega
      · by_cases c2 : v2 = 2
        · obtain ⟨v3, hv3, e3⟩ := jZc hb (p := q + 1 + 1) (by omega) (by omega) [0, 1, 9, 8] (by simp) (by simp)
          refine ⟨v3, l, q + 1 + 1 + 1, Ev.bind he ?_, h1, by omega, by omega, by simp only [List.mem_cons, List.not_mem_nil, or_false] at hv3; omega⟩
          simp only [hl, if_true]
          refine Ev.bind e1 (Ev.bind e2 ?_)
          simp only [c2, if_true, show ¬ (2 : Int) = 0 by omega, show ¬ (2 : Int) = 1 by omega, if_false]
          exact Ev.bind e3 (qQm fun _ => rfl)
        · refine ⟨n, l, q + 1 + 1, Ev.bind he ?_, h1, by omega, by omega, by omega⟩
          simp only [hl, if_true]
          refine Ev.bind e1 (Ev.bind e2 ?_)
          simp only [c0, c1, c2, if_false]
          exact qQm fun _ => rfl
  · refine ⟨n, l, q, Ev.bind he ?_, h1, h2, by omega, by omega⟩
    simp only [hl, if_false]
    exact qQm fun _ => rfl
theorem l30AnyNet_ex {b : List Int} (hb : Bytes b) {p : Int} (hp : 0 ≤ p) (hp2 : p ≤ 90000) :
    ∃ n l q, Ev (fun k => spec_l30AnyNet.f k b p) (n, l, q) ∧ l.length ≤ 13 ∧ 0 ≤ q ∧ q ≤ p + 200 ∧ n ≤ 1000000 := by
  obtain ⟨n, l, q, h1, h2, h3, h4, h5⟩ := l30AnyNet_ex9 hb hp hp2
  exact ⟨n, l, q, h1, h2, h3, h4, by omega⟩
theorem drawSomeWalks_ex (c : List Int) (h : ∀ x ∈ c, (Lit.int .u8 x).wf = true) : ∃ n l a b m, Ev (fun k => spec_DrawSomeWalks.f k c) (n, l, a, b, m) ∧ l.length ≤ 13 ∧ (m = 1 ∨ m = 2 ∨ m = 6 ∨ m = 0) := by
  obtain ⟨y, hb, ho⟩ := open_ex c h
  obtain ⟨n, l, q, he, h1, h2, h3, h4⟩ := l30AnyNet_ex hb (p := 0) (by omega) (by omega)
  obtain ⟨a, q1, e1, g1, g2⟩ := l30Node_ex hb h2 (by omega) n h4 l
  obtain ⟨b, q2, e2, g3, g4⟩ := l30Node_ex hb g1 (by omega) n h4 l
  obtain ⟨d, hd, e3⟩ := jZc hb (p := q2) g3 (by omega) [1, 2, 6, 6, 0] (by simp) (by simp)
  unfold spec_DrawSomeWalks.f
  simp only [ho, Option.bind_some]
  refine ⟨n, l, a, b, d, Ev.bind he (Ev.bind e1 (Ev.bind e2 (Ev.bind e3 (qQm fun _ => rfl)))), h1, ?_⟩
  simp only [List.mem_cons, List.not_mem_nil, or_false] at hd
  omega
structure Net1 (n : Int) (l : List S58) : Prop where
  lo : 1 ≤ n
  hi : n ≤ 8
  len : l.length ≤ 16
  ends : ∀ x ∈ l, 0 ≤ x.f0 ∧ x.f0 < n ∧ 0 ≤ x.f1 ∧ x.f1 < n ∧ x.f0 ≠ x.f1 ∧ 0 ≤ x.f2 ∧ x.f2 ≤ 99 ∧ 0 ≤ x.f3 ∧ x.f3 ≤ 99 ∧ 0 ≤ x.f4 ∧ x.f4 ≤ 9
theorem qVl {n : Int} {l : List S58} (h : netOkB n l = true) : Net1 n l := by
  unfold netOkB at h
  simp only [Bool.and_eq_true, decide_eq_true_eq, qWp, Bool.not_eq_true'] at h
  obtain ⟨⟨h1, h2⟩, h3, h4⟩ := h
  refine ⟨h1, h2, h3, fun x hx => ?_⟩
  have h5 : arcBad n x = false := by
    cases h6 : arcBad n x with
    | false => rfl
    | true => rw [List.any_eq_true.2 ⟨x, hx, h6⟩] at h4; cases h4
  rw [arcBad_eq] at h5
  simp only [Bool.not_eq_false', Bool.and_eq_true, qWp, Bool.not_eq_true', beq_eq_false_iff_ne] at h5
  rw [w_id (n := n - 1) (by omega) (by omega)] at h5
  obtain ⟨a, b, c, d, e, f⟩ := h5
  exact ⟨a.1, by omega, b.1, by omega, c, d.1, d.2, e.1, e.2, f.1, f.2⟩
def DV (l : List S58) (tg : Int) : Nat → Int → List Int → List Int → List (List Int)
  | 0, _, _, _ => []
  | m + 1, at_, vis, w => if at_ = tg then [w] else (List.range l.length).flatMap fun (i : Nat) => if (qZa l (i : Int)).f0 = at_ ∧ (qZa l (i : Int)).f1 ∉ vis then DV l tg m (qZa l (i : Int)).f1 ((qZa l (i : Int)).f1 :: vis) (w ++ [(i : Int)]) else []
theorem flatMap_len {α : Type} (b : Nat) (f : α → List (List Int)) : ∀ L : List α, (∀ x ∈ L, (f x).length ≤ b) → (L.flatMap f).length ≤ L.length * b
  | [], _ => by simp
  | x :: r, h => by
    rw [List.flatMap_cons, List.length_append, List.length_cons, Nat.add_mul, Nat.one_mul]
    have := flatMap_len b f r fun y hy => h y (by simp [hy])
    have := h x (by simp)
    omega
theorem DV_len (l : List S58) (hl : l.length ≤ 16) (tg : Int) : ∀ (m : Nat) (at_ : Int) (vis w : List Int), (DV l tg m at_ vis w).length ≤ 16 ^ m
  | 0, _, _, _ => by simp [DV]
  | m + 1, at_, vis, w => by
    rw [DV]
    have hp : 0 < 16 ^ m := Nat.pos_of_ne_zero (by simp)
    split
    · rw [Nat.pow_succ]; simp; omega
    · refine Nat.le_trans (flatMap_len (16 ^ m) _ _ fun i _ => ?_) ?_
      · split
        · exact DV_len l hl tg m _ _ _
        · exact Nat.zero_le _
      · rw [List.length_range, Nat.pow_succ, Nat.mul_comm (16 ^ m)]
        exact Nat.mul_le_mul_right _ hl
theorem qXf : ∀ (b : Nat) (vis : List Int), vis.Nodup → (∀ v ∈ vis, 0 ≤ v ∧ v < (b : Int)) → vis.length ≤ b
  | 0, [], _, _ => Nat.le_refl _
  | 0, v :: r, _, h => by have := h v (by simp); omega
  | b + 1, vis, hn, h => by
    have h2 := qXf b (vis.erase (b : Int)) (hn.erase _) fun v hv => by
      have h3 := h v (List.mem_of_mem_erase hv)
      have h4 : v ≠ (b : Int) := fun e => by subst e; exact (hn.not_mem_erase) hv
      omega
    have h5 := List.length_erase (a := (b : Int)) (l := vis)
    rw [h5] at h2
    split at h2 <;> omega
def maskOk (s : Nat) (vis : List Int) : Prop := ∀ v : Nat, v < 8 → (s / 2 ^ v % 2 = 0 ↔ (v : Int) ∉ vis)
theorem mask_next {s : Nat} {vis : List Int} (h : maskOk s vis) {u : Int} (h0 : 0 ≤ u) : maskOk (s ||| 2 ^ u.toNat) (u :: vis) := by
  intro v hv
  have h1 := h v hv
  have e : ∀ x : Nat, x / 2 ^ v % 2 = 0 ↔ x.testBit v = false := fun x => by rw [Nat.testBit_eq_decide_div_mod_eq, decide_eq_false_iff_not]; omega
  rw [e] at h1 ⊢
  rw [Nat.testBit_or, Bool.or_eq_false_iff, h1, Nat.testBit_two_pow, decide_eq_false_iff_not, List.mem_cons]
  constructor
  · rintro ⟨a, b⟩ (c | c)
    · exact b (by omega)
    · exact a c
  · intro a
    exact ⟨fun c => a (.inr c), fun c => a (.inl (by omega))⟩
theorem loop_flat (G : Int → List (List Int) → Option (List (List Int))) (F : Nat → List (List Int)) (b B N : Nat) (hG : ∀ (i : Nat) (o : List (List Int)), i < N → o.length + b ≤ B → G (i : Int) o = some (o ++ F i)) (hF : ∀ i, (F i).length ≤ b) : ∀ (c i : Nat) (o : List (List Int)), i + c ≤ N → o.length + c * b ≤ B → loopS G c i o = some (o ++ ((List.range' i c).flatMap F))
  | 0, i, o, _, _ => by simp [loopS]
  | c + 1, i, o, hN, h => by
    rw [Nat.add_mul, Nat.one_mul] at h
    rw [loopS, hG i o (by omega) (by omega), Option.bind_some, loop_flat G F b B N hG hF c (i + 1) _ (by omega) (by rw [List.length_append]; have := hF i; omega), List.range'_succ, List.flatMap_cons, List.append_assoc]
theorem folF_eq {n : Int} {l : List S58} (hn : Net1 n l) (tg : Int) : ∀ (m : Nat) (at_ : Int) (vis : List Int) (s : Nat) (w : List Int) (out : List (List Int)), vis.Nodup → (∀ v ∈ vis, 0 ≤ v ∧ v < (8 : Nat)) → vis.length + m = 9 → maskOk s vis → out.length + 16 ^ m ≤ 100000000000 → folF l tg m at_ s w out = some (out ++ DV l tg m at_ vis w)
  | 0, at_, vis, s, w, out, h1, h2, h3, _, _ => by have := qXf 8 vis h1 h2; omega
  | m + 1, at_, vis, s, w, out, h1, h2, h3, h4, h5 => by
    rw [folF, DV]
    have hp : 0 < 16 ^ m := Nat.pos_of_ne_zero (by simp)
    rw [Nat.pow_succ] at h5
    by_cases e : at_ = tg
    · rw [if_pos e, if_pos e, if_pos (by omega)]
    · rw [if_neg e, if_neg e]
      have hl := hn.len
      have hm : l.length * 16 ^ m ≤ 16 * 16 ^ m := Nat.mul_le_mul_right _ hl
      rw [List.range_eq_range']
      refine loop_flat _ _ (16 ^ m) 100000000000 l.length (fun i o hi ho => ?_) (fun i => ?_) _ _ _ (by omega) (by omega)
      · have hx := hn.ends _ (List.getElem_mem hi)
        rw [← qXh l i hi] at hx
        generalize qZa l (i : Int) = x at hx ⊢
        obtain ⟨_, _, e3, e4, _⟩ := hx
        have hhi := hn.hi
        have hb := h4 x.f1.toNat (by omega)
        rw [Int.toNat_of_nonneg e3] at hb
        by_cases c : x.f0 = at_ ∧ x.f1 ∉ vis
        · rw [if_pos ⟨c.1, hb.2 c.2⟩, if_pos c]
          exact folF_eq hn tg m _ _ _ _ _ (List.nodup_cons.2 ⟨c.2, h1⟩) (fun v hv => by
            rw [List.mem_cons] at hv
            rcases hv with rfl | hv
            · exact ⟨e3, by omega⟩
            · exact h2 v hv) (by rw [List.length_cons]; omega) (mask_next h4 e3) ho
        · rw [if_neg (fun z => c ⟨z.1, hb.1 z.2⟩), if_neg c, List.append_nil]
      · split
        · exact DV_len l hl tg m _ _ _
        · exact Nat.zero_le _
theorem qYa {n : Int} {l : List S58} (hn : Net1 n l) {a : Int} (h : inB a 0 (wrap64 (n - 1)) = true) : 0 ≤ a ∧ a < n := by
  have := hn.lo
  have := hn.hi
  rw [qWp, w_id (n := n - 1) (by omega) (by omega)] at h
  omega
theorem qWj (n : Int) (l : List S58) (ns : List Int) : impl_nodesIn.f n l ns = some (netOkB n l && hasB n ns) := by
  unfold impl_nodesIn.f impl_Net_has.f
  rw [netOk_eq]
  cases netOkB n l <;> rfl
theorem hasB2 (n a b : Int) : hasB n [a, b] = (inB a 0 (wrap64 (n - 1)) && inB b 0 (wrap64 (n - 1))) := by unfold hasB; simp
def lessC (l : List S58) : List Int → List Int → Bool := qKd fun x => qQp l x 0
def someD (l : List S58) (a b : Int) : List (List Int) := DV l b 8 a [a] []
def someL (l : List S58) (a b : Int) : List (List Int) := jZm (lessC l) (someD l a b)
theorem DV_in (l : List S58) (tg : Int) : ∀ (m : Nat) (at_ : Int) (vis w : List Int), (∀ k ∈ w, 0 ≤ k ∧ k < (l.length : Int)) → ∀ d ∈ DV l tg m at_ vis w, ∀ k ∈ d, 0 ≤ k ∧ k < (l.length : Int)
  | 0, _, _, _, _, d, hd => by simp [DV] at hd
  | m + 1, at_, vis, w, hw, d, hd => by
    rw [DV] at hd
    split at hd
    · rw [List.mem_singleton] at hd
      subst hd
      exact hw
    · obtain ⟨i, hi, hd⟩ := List.mem_flatMap.1 hd
      split at hd
      · refine DV_in l tg m _ _ _ (fun k hk => ?_) d hd
        rw [List.mem_append, List.mem_singleton] at hk
        rw [List.mem_range] at hi
        rcases hk with hk | hk
        · exact hw k hk
        · omega
      · cases hd
theorem simF_eq {n : Int} {l : List S58} (hn : Net1 n l) {a : Int} (ha : 0 ≤ a ∧ a < n) (b : Int) : simF l a b = some (someL l a b) := by
  have hhi := hn.hi
  have hll := hn.len
  have h1 : (l.all fun x => decide (0 ≤ x.f1 ∧ x.f1 < 8)) = true := by
    rw [List.all_eq_true]
    intro x hx
    obtain ⟨_, _, e3, e4, _⟩ := hn.ends x hx
    exact decide_eq_true ⟨e3, by omega⟩
  have hm : maskOk (2 ^ a.toNat) [a] := by
    have h0 : maskOk 0 [] := fun v _ => by simp
    have := mask_next h0 ha.1
    rwa [Nat.zero_or] at this
  have hf := folF_eq hn b 8 a [a] (2 ^ a.toNat) [] [] (by simp) (fun v hv => by rw [List.mem_singleton] at hv; subst hv; exact ⟨ha.1, by omega⟩) (by simp) hm (by simp)
  have hlen := DV_len l hll b 8 a [a] []
  have h2 : ((DV l b 8 a [a] []).all fun w => w.all fun k => decide (0 ≤ k ∧ k < (l.length : Int))) = true := by
    rw [List.all_eq_true]
    intro w hw
    rw [List.all_eq_true]
    intro k hk
    exact decide_eq_true (DV_in l b 8 a [a] [] (by simp) w hw k hk)
  unfold simF
  rw [if_pos ⟨h1, by omega, ha.1, by omega⟩, hf, List.nil_append, Option.bind_some, if_pos ⟨h2, by omega⟩]
  rfl
theorem someI_ok {n : Int} {l : List S58} (hok : netOkB n l = true) {a b m : Int} (ha : inB a 0 (wrap64 (n - 1)) = true) (hb : inB b 0 (wrap64 (n - 1)) = true) (hab : a ≠ b) (hm : inB m 1 6 = true) : impl_SomeWalks.f n l a b m = some ((someL l a b).take m.toNat) := by
  have hn := qVl hok
  have hm2 := qWp.1 hm
  unfold impl_SomeWalks.f swF
  rw [qWj, hasB2, hok, ha, hb, Option.bind_some, if_pos (show (true && (true && true)) = true from rfl), if_neg hab, qKm, Option.bind_some, hm, if_pos rfl, simF_eq hn (qYa hn ha), Option.bind_some, if_pos (by omega)]
theorem someI_bad {n : Int} {l : List S58} {a b m : Int} (h : ¬ (netOkB n l = true ∧ inB a 0 (wrap64 (n - 1)) = true ∧ inB b 0 (wrap64 (n - 1)) = true ∧ a ≠ b ∧ inB m 1 6 = true)) : impl_SomeWalks.f n l a b m = some [] := by
  unfold impl_SomeWalks.f swF
  rw [qWj, hasB2, Option.bind_some]
  cases h1 : netOkB n l with
  | false => rfl
  | true =>
  cases h2 : inB a 0 (wrap64 (n - 1)) with
  | false => rfl
  | true =>
  cases h3 : inB b 0 (wrap64 (n - 1)) with
  | false => rfl
  | true =>
  rw [if_pos (show (true && (true && true)) = true from rfl)]
  by_cases e : a = b
  · rw [if_pos e]
  · rw [if_neg e, qKm, Option.bind_some]
    cases h4 : inB m 1 6 with
    | false => rfl
    | true => exact absurd ⟨h1, h2, h3, e, h4⟩ h
def fillW (lt : List Int → List Int → Bool) (m : Nat) (L D : List (List Int)) : List (List Int) := D.foldl (fun L w => (insW lt w L).take m) L
theorem insW_take {lt : List Int → List Int → Bool} (w : List Int) : ∀ (m : Nat) (L : List (List Int)), (insW lt w (L.take m)).take m = (insW lt w L).take m
  | 0, L => by rw [List.take_zero, List.take_zero]
  | m + 1, [] => by rw [List.take_nil]
  | m + 1, e :: r => by
    rw [List.take_succ_cons, insW, insW]
    split
    · rw [List.take_succ_cons, List.take_succ_cons]
      congr 1
      cases m with
      | zero => rw [List.take_zero, List.take_zero]
      | succ m => rw [List.take_succ_cons, List.take_succ_cons, List.take_take, Nat.min_eq_left (by omega)]
    · rw [List.take_succ_cons, List.take_succ_cons, insW_take w m r]
theorem fillW_take {lt : List Int → List Int → Bool} (m : Nat) : ∀ (D L : List (List Int)), fillW lt m (L.take m) D = (D.foldl (fun L w => insW lt w L) L).take m
  | [], L => rfl
  | d :: D, L => by
    unfold fillW
    rw [List.foldl_cons, List.foldl_cons, insW_take]
    exact fillW_take m D _
theorem fillW_sort {lt : List Int → List Int → Bool} (m : Nat) (D : List (List Int)) : fillW lt m [] D = (jZm lt D).take m := by
  have := fillW_take (lt := lt) m D []
  rwa [List.take_nil] at this
theorem fillW_append {lt : List Int → List Int → Bool} (m : Nat) (L D E : List (List Int)) : fillW lt m L (D ++ E) = fillW lt m (fillW lt m L D) E := by unfold fillW; rw [List.foldl_append]
theorem insW_end {lt : List Int → List Int → Bool} (w : List Int) : ∀ L : List (List Int), (∀ e ∈ L, lt w e = false) → insW lt w L = L ++ [w]
  | [], _ => rfl
  | e :: r, h => by rw [insW, if_neg (by rw [h e (by simp)]; exact Bool.false_ne_true), insW_end w r fun x hx => h x (by simp [hx]), List.cons_append]
theorem sorted_take {lt : List Int → List Int → Bool} {L : List (List Int)} (h : qJl lt L) (m : Nat) : qJl lt (L.take m) := List.Pairwise.sublist (List.take_sublist m L) h
theorem fillW_ok {lt : List Int → List Int → Bool} (h : TO lt) {m : Nat} : ∀ (D : List (List Int)) {L : List (List Int)}, qJl lt L → L.length ≤ m → qJl lt (fillW lt m L D) ∧ (fillW lt m L D).length ≤ m
  | [], _, hs, hl => ⟨hs, hl⟩
  | d :: D, L, hs, hl => by
    unfold fillW
    rw [List.foldl_cons]
    exact fillW_ok h D (sorted_take (qKf h d hs) m) (by rw [List.length_take]; omega)
theorem fillW_full {lt : List Int → List Int → Bool} (h : TO lt) {m : Nat} : ∀ (D : List (List Int)) {L : List (List Int)}, qJl lt L → (hl : L.length = m) → (hm : 0 < m) → (∀ d ∈ D, lt (L[m - 1]'(by omega)) d = true) → fillW lt m L D = L
  | [], _, _, _, _, _ => rfl
  | d :: D, L, hs, hl, hm, hd => by
    unfold fillW
    rw [List.foldl_cons]
    have e : (insW lt d L).take m = L := by
      rw [insW_end d L, List.take_left' hl]
      intro e he
      obtain ⟨j, hj, rfl⟩ := List.getElem_of_mem he
      have h1 := h.asym (hd d (by simp))
      by_cases e2 : j = m - 1
      · subst e2; exact h1
      · have h2 := List.pairwise_iff_getElem.1 hs j (m - 1) hj (by omega) (by omega)
        exact h.nlt h1 h2
    rw [e]
    exact fillW_full h D hs hl hm fun x hx => hd x (by simp [hx])
theorem insW_at {lt : List Int → List Int → Bool} (w : List Int) : ∀ (L : List (List Int)) (j : Nat), j ≤ L.length → (∀ i (h : i < L.length), i < j → lt w L[i] = false) → (∀ h : j < L.length, lt w L[j] = true) → insW lt w L = L.take j ++ w :: L.drop j
  | [], j, hj, _, _ => by
    have : j = 0 := by simpa using hj
    subst this
    rfl
  | e :: r, 0, _, _, h2 => by rw [insW, if_pos (show lt w e = true from h2 (by simp))]; rfl
  | e :: r, j + 1, hj, h1, h2 => by
    rw [insW, if_neg (by rw [show lt w e = false from h1 0 (by simp) (by omega)]; exact Bool.false_ne_true), List.take_succ_cons, List.drop_succ_cons, List.cons_append]
    congr 1
    exact insW_at w r j (by simpa using hj) (fun i h hi => h1 (i + 1) (by simpa using h) (by omega)) (fun h => h2 (by simpa using h))
def qJh (l : List S58) (w : List Int) : S103 := ⟨w, qQp l w 0⟩
theorem qYl (l : List S58) : ∀ (u e : List Int) (s : Int), qQp l (u ++ e) s = qQp l e (qQp l u s)
  | [], e, s => rfl
  | x :: u, e, s => by rw [List.cons_append, qQp, qQp, qYl l u e]
theorem wcost_one (l : List S58) (u : List Int) (i s : Int) : qQp l (u ++ [i]) s = wrap64 (qQp l u s + (qZa l i).f2) := by rw [qYl, qQp, qQp]
theorem qYj {n : Int} {l : List S58} (hn : Net1 n l) : ∀ (e : List Int) (s : Int), (∀ k ∈ e, 0 ≤ k ∧ k < (l.length : Int)) → 0 ≤ s → s + 99 * (e.length : Int) ≤ 1000000000 → s ≤ qQp l e s ∧ qQp l e s ≤ s + 99 * (e.length : Int)
  | [], s, _, _, _ => by simp [qQp]
  | x :: r, s, h, h0, h1 => by
    rw [List.length_cons] at h1 ⊢
    obtain ⟨a, b⟩ := h x (by simp)
    obtain ⟨j, rfl⟩ := Int.eq_ofNat_of_zero_le a
    obtain ⟨_, _, _, _, _, e6, e7, _⟩ := hn.ends _ (List.getElem_mem (show j < l.length by omega))
    rw [← qXh l j (by omega)] at e6 e7
    rw [qQp, w_id (by omega) (by omega)]
    have := qYj hn r (s + (qZa l (j : Int)).f2) (fun k hk => h k (by simp [hk])) (by omega) (by omega)
    omega
theorem way_at (L : List S103) (i : Nat) (h : i < L.length) : qQh L (i : Int) = L[i] := by simp [qQh, h]
theorem l14Less_ev (l : List S58) (a b : List Int) (ha : a.length ≤ 1000) (hb : b.length ≤ 1000) : Ev (fun k => spec_l14Less.f k a (qQp l a 0) b (qQp l b 0)) (lessC l a b) := by
  unfold spec_l14Less.f lessC qKd
  by_cases e : qQp l a 0 = qQp l b 0
  · simp only [e, if_true]
    by_cases e2 : a.length = b.length
    · have e3 : (a.length : Int) = (b.length : Int) := by omega
      simp only [e2, if_true]
      have := qVd (fun k (i : Nat) => spec_l14Less.l0 k (i : Int) a (qQp l b 0) b (qQp l b 0)) (fun i => a.length - i) (fun i => i ≤ a.length) (fun i => lexB (a.drop i) (b.drop i)) ?_ 0 (Nat.zero_le _)
      · simpa using this
      intro i hi ih
      by_cases h : i < a.length
      · have hlt : (i : Int) < (a.length : Int) := by omega
        have hlt2 : (i : Int) < (b.length : Int) := by omega
        have h0 : (0 : Int) ≤ (i : Int) := by omega
        have hb2 : i < b.length := by omega
        simp only [spec_l14Less.l0, hlt, hlt2, h0, if_true, rd_at a i h, rd_at b i hb2, qKe h (show a.length ≤ 9223372036854775807 by omega)]
        rw [List.drop_eq_getElem_cons h, List.drop_eq_getElem_cons hb2, lexB]
        by_cases c : a[i] = b[i]
        · simp only [c, if_true]
          exact ih (i + 1) (by omega) (by omega)
        · simp only [c, if_false]
          exact qQm fun _ => rfl
      · have hlt : ¬ (i : Int) < (a.length : Int) := by omega
        simp only [spec_l14Less.l0, hlt, if_false]
        refine qQm fun _ => ?_
        rw [List.drop_of_length_le (by omega), List.drop_of_length_le (by omega)]
        rfl
    · have e3 : ¬ (a.length : Int) = (b.length : Int) := by omega
      simp only [e2, e3, if_false]
      refine qQm fun _ => ?_
      congr 1
      apply decide_eq_decide.2
      omega
  · simp only [e, if_false]
    exact qQm fun _ => rfl
theorem putTail (l : List S58) (w : List Int) (L : List (List Int)) (j m : Nat) (hj : j ≤ L.length) (e : insW (lessC l) w L = L.take j ++ w :: L.drop j) : (((L.map (qJh l)).take j ++ [qJh l w]) ++ (L.map (qJh l)).drop j).take m = ((insW (lessC l) w L).take m).map (qJh l) := by
  rw [e, List.map_take, List.map_append, List.map_cons, List.map_take, List.map_drop, List.append_assoc, List.singleton_append]
theorem l14Put_ev (l : List S58) (w : List Int) (L : List (List Int)) (m : Int) (hm : 1 ≤ m) (hw : w.length ≤ 1000) (hL : L.length ≤ 1000) (hLw : ∀ x ∈ L, x.length ≤ 1000) : Ev (fun k => spec_l14Put.f k (L.map (qJh l)) w (qQp l w 0) m) (((insW (lessC l) w L).take m.toNat).map (qJh l)) := by
  unfold spec_l14Put.f
  have hml : (L.map (qJh l)).length = L.length := List.length_map _
  have tail : ∀ j : Nat, j ≤ L.length → insW (lessC l) w L = L.take j ++ w :: L.drop j → ∀ Y : List S103, Y = ((L.map (qJh l)).take j ++ [qJh l w]) ++ (L.map (qJh l)).drop j → (if (Y.length : Int) > m then (if 0 ≤ m then (if m ≤ (Y.length : Int) then (some (Y.take m.toNat)) else none) else none) else (some Y)) = some (((insW (lessC l) w L).take m.toNat).map (qJh l)) := by
    intro j hj e Y hY
    rw [← putTail l w L j m.toNat hj e, ← hY]
    by_cases c : (Y.length : Int) > m
    · rw [if_pos c, if_pos (by omega), if_pos (by omega)]
    · rw [if_neg c, List.take_of_length_le (by omega)]
  refine qVd (fun k (j : Nat) => spec_l14Put.l0 k (L.map (qJh l)) m (j : Int) w (qQp l w 0)) (fun j => L.length - j) (fun j => j ≤ L.length ∧ ∀ i (h : i < L.length), i < j → lessC l w L[i] = false) (fun _ => ((insW (lessC l) w L).take m.toNat).map (qJh l)) ?_ 0 ⟨Nat.zero_le _, fun i _ h => absurd h (Nat.not_lt_zero _)⟩
  rintro j ⟨hj, hb⟩ ih
  have hjl : j ≤ (L.map (qJh l)).length := by rw [hml]; exact hj
  have t1 : ((L.map (qJh l)).take j).length = j := by rw [List.length_take, hml]; omega
  have t2 : ((L.map (qJh l)).drop j).length = L.length - j := by rw [List.length_drop, hml]
  by_cases h : j < L.length
  · have hlt : (j : Int) < (L.length : Int) := by omega
    have h0 : (0 : Int) ≤ (j : Int) := by omega
    have hle : (j : Int) ≤ (L.length : Int) := by omega
    have hat : qQh (L.map (qJh l)) (j : Int) = qJh l L[j] := by rw [way_at _ j (by rw [hml]; exact h), List.getElem_map]
    simp only [spec_l14Put.l0, hml, hlt, h0, hle, if_true, hat, qJh, Option.bind_some, List.length_nil, Nat.zero_add, List.nil_append, Int.toNat_natCast, qKe h (show L.length ≤ 9223372036854775807 by omega)]
    refine Ev.bind (l14Less_ev l w L[j] hw (hLw _ (List.getElem_mem h))) ?_
    cases c : lessC l w L[j] with
    | false =>
      simp only [Bool.false_eq_true, if_false]
      exact ih (j + 1) ⟨by omega, fun i hi hij => by
        by_cases e : i = j
        · subst e; exact c
        · exact hb i hi (by omega)⟩ (by omega)
    | true =>
      have e := insW_at (lt := lessC l) w L j hj hb (fun _ => c)
      have b1 : ((L.map (qJh l)).take j).length < 4398046511104 := by rw [t1]; omega
      have b2 : ((L.map (qJh l)).take j ++ [qJh l w]).length + ((L.map (qJh l)).drop j).length < 4398046511104 := by rw [List.length_append, t1, t2]; simp; omega
      have b0 : ((L.map (qJh l)).take j).length < 4398046511104 := b1
      have hk := tail j hj e _ rfl
      unfold qJh at b1 b2 hk ⊢
      simp only [if_true, b1, b2]
      exact qQm fun _ => hk
  · have hlt : ¬ (j : Int) < (L.length : Int) := by omega
    have h0 : (0 : Int) ≤ (j : Int) := by omega
    have hle : (j : Int) ≤ (L.length : Int) := by omega
    have e := insW_at (lt := lessC l) w L j hj hb (fun hc => absurd hc h)
    have b1 : ((L.map (qJh l)).take j).length < 4398046511104 := by rw [t1]; omega
    have b2 : ((L.map (qJh l)).take j ++ [qJh l w]).length + ((L.map (qJh l)).drop j).length < 4398046511104 := by rw [List.length_append, t1, t2]; simp; omega
    have hk := tail j hj e _ rfl
    simp only [spec_l14Put.l0, hml, hlt, h0, hle, if_true, if_false, Option.bind_some, List.length_nil, Nat.zero_add, List.nil_append, Int.toNat_natCast]
    unfold qJh at b1 b2 hk ⊢
    simp only [if_true, b1, b2]
    exact qQm fun _ => hk
inductive SP (l : List S58) (tg : Int) : Int → List Int → List Int → Prop
  | nil {vis : List Int} : SP l tg tg vis []
  | cons {i : Nat} {at_ : Int} {vis e : List Int} : i < l.length → (qZa l (i : Int)).f0 = at_ → at_ ≠ tg → (qZa l (i : Int)).f1 ∉ vis → SP l tg (qZa l (i : Int)).f1 ((qZa l (i : Int)).f1 :: vis) e → SP l tg at_ vis ((i : Int) :: e)
theorem qWb (l : List S58) (tg : Int) : ∀ (m : Nat) (at_ : Int) (vis w d : List Int), d ∈ DV l tg m at_ vis w → ∃ e, d = w ++ e ∧ SP l tg at_ vis e
  | 0, _, _, _, d, hd => by simp [DV] at hd
  | m + 1, at_, vis, w, d, hd => by
    rw [DV] at hd
    split at hd
    · rename_i e
      rw [List.mem_singleton] at hd
      subst e
      exact ⟨[], by rw [List.append_nil]; exact hd, SP.nil⟩
    · rename_i e
      obtain ⟨i, hi, hd⟩ := List.mem_flatMap.1 hd
      split at hd
      · rename_i c
        obtain ⟨e2, h1, h2⟩ := qWb l tg m _ _ _ d hd
        exact ⟨(i : Int) :: e2, by rw [h1, List.append_assoc]; rfl, SP.cons (List.mem_range.1 hi) c.1 e c.2 h2⟩
      · cases hd
theorem DV_full {n : Int} {l : List S58} (hn : Net1 n l) (tg : Int) {at_ : Int} {vis e : List Int} (h : SP l tg at_ vis e) : ∀ (m : Nat) (w : List Int), vis.Nodup → (∀ v ∈ vis, 0 ≤ v ∧ v < (8 : Nat)) → vis.length + m = 9 → w ++ e ∈ DV l tg m at_ vis w := by
  induction h with
  | nil =>
    intro m w h1 h2 h3
    have := qXf 8 _ h1 h2
    obtain ⟨k, rfl⟩ : ∃ k, m = k + 1 := ⟨m - 1, by omega⟩
    rw [DV, if_pos rfl, List.append_nil]
    exact List.mem_singleton.2 rfl
  | @cons i at_ vis e hi h0 hne hv _ ih =>
    intro m w h1 h2 h3
    have := qXf 8 _ h1 h2
    obtain ⟨k, rfl⟩ : ∃ k, m = k + 1 := ⟨m - 1, by omega⟩
    rw [DV, if_neg hne]
    refine List.mem_flatMap.2 ⟨i, List.mem_range.2 hi, ?_⟩
    rw [if_pos ⟨h0, hv⟩]
    have hx := hn.ends _ (List.getElem_mem hi)
    rw [← qXh l i hi] at hx
    obtain ⟨_, _, e3, e4, _⟩ := hx
    have hhi := hn.hi
    have := ih k (w ++ [(i : Int)]) (List.nodup_cons.2 ⟨hv, h1⟩) (fun v hv2 => by
      rw [List.mem_cons] at hv2
      rcases hv2 with rfl | hv2
      · exact ⟨e3, by omega⟩
      · exact h2 v hv2) (by rw [List.length_cons]; omega)
    rwa [List.append_assoc] at this
theorem DV_nodup (l : List S58) (tg : Int) : ∀ (m : Nat) (at_ : Int) (vis w : List Int), (DV l tg m at_ vis w).Nodup
  | 0, _, _, _ => by simp [DV]
  | m + 1, at_, vis, w => by
    rw [DV]
    split
    · simp
    · unfold List.Nodup
      rw [List.pairwise_flatMap]
      constructor
      · intro i _
        split
        · exact DV_nodup l tg m _ _ _
        · exact List.Pairwise.nil
      · refine List.Pairwise.imp ?_ List.nodup_range
        intro i j hij x hx y hy e
        subst e
        split at hx
        · split at hy
          · obtain ⟨e1, h1, _⟩ := qWb l tg m _ _ _ x hx
            obtain ⟨e2, h2, _⟩ := qWb l tg m _ _ _ x hy
            rw [h1, List.append_assoc, List.append_assoc] at h2
            have h3 := List.append_cancel_left h2
            rw [List.singleton_append, List.singleton_append, List.cons.injEq] at h3
            exact hij (by omega)
          · cases hy
        · cases hx
theorem someD_iff {n : Int} {l : List S58} (hn : Net1 n l) {a b : Int} (ha : 0 ≤ a ∧ a < n) (d : List Int) : d ∈ someD l a b ↔ SP l b a [a] d := by
  have hhi := hn.hi
  constructor
  · intro h
    obtain ⟨e, h1, h2⟩ := qWb l b 8 a [a] [] d h
    rw [List.nil_append] at h1
    subst h1
    exact h2
  · intro h
    have := DV_full hn b h 8 [] (by simp) (fun v hv => by rw [List.mem_singleton] at hv; subst hv; exact ⟨ha.1, by omega⟩) (by simp)
    rwa [List.nil_append] at this
theorem qKn {n : Int} {l : List S58} (hn : Net1 n l) {a b : Int} (ha : 0 ≤ a ∧ a < n) (d : List Int) : d ∈ someL l a b ↔ SP l b a [a] d := by
  rw [← someD_iff hn ha]
  exact (qWi (lessC l) (someD l a b)).mem_iff
theorem someL_sorted (l : List S58) (a b : Int) : qJl (lessC l) (someL l a b) := sortW_sorted (toW _) _
theorem someL_strict (l : List S58) (a b : Int) : (someL l a b).Pairwise fun x y => lessC l x y = true := by
  have h1 := someL_sorted l a b
  have h2 : (someL l a b).Nodup := (qWi (lessC l) (someD l a b)).nodup_iff.2 (DV_nodup l b 8 a [a] [])
  unfold qJl at h1
  unfold List.Nodup at h2
  refine List.Pairwise.imp ?_ (h1.and h2)
  intro x y h
  cases h3 : lessC l x y with
  | true => rfl
  | false => exact absurd ((toW _).tot x y h3 h.1) h.2
theorem SP.goes {l : List S58} {tg at_ : Int} {vis e : List Int} (h : SP l tg at_ vis e) : (∀ k ∈ e, 0 ≤ k ∧ k < (l.length : Int)) ∧ (vis.Nodup → (∀ v ∈ vis, 0 ≤ v ∧ v < (8 : Nat)) → (∀ x ∈ l, 0 ≤ x.f1 ∧ x.f1 < (8 : Nat)) → e.length + vis.length ≤ 8) := by
  induction h with
  | nil => exact ⟨by simp, fun h1 h2 _ => by have := qXf 8 _ h1 h2; simpa using this⟩
  | @cons i at_ vis e hi h0 hne hv _ ih =>
    refine ⟨fun k hk => ?_, fun h1 h2 h3 => ?_⟩
    · rw [List.mem_cons] at hk
      rcases hk with rfl | hk
      · omega
      · exact ih.1 k hk
    · have hx := h3 _ (List.getElem_mem hi)
      rw [← qXh l i hi] at hx
      have := ih.2 (List.nodup_cons.2 ⟨hv, h1⟩) (fun v hv2 => by
        rw [List.mem_cons] at hv2
        rcases hv2 with rfl | hv2
        · exact hx
        · exact h2 v hv2) h3
      rw [List.length_cons] at this ⊢
      omega
theorem SP.len {n : Int} {l : List S58} (hn : Net1 n l) {a b : Int} (ha : 0 ≤ a ∧ a < n) {e : List Int} (h : SP l b a [a] e) : e.length ≤ 7 := by
  have hhi := hn.hi
  have := h.goes.2 (by simp) (fun v hv => by rw [List.mem_singleton] at hv; subst hv; exact ⟨ha.1, by omega⟩) (fun x hx => by obtain ⟨_, _, e3, e4, _⟩ := hn.ends x hx; exact ⟨e3, by omega⟩)
  simpa using this
theorem seen_back (seen : List Bool) (v : Int) (h0 : 0 ≤ v) (h1 : v < (seen.length : Int)) (h : rdOf false seen v = false) : (seen.set v.toNat true).set v.toNat false = seen := by
  rw [List.set_set]
  have hv : v.toNat < seen.length := by omega
  have e : seen[v.toNat] = false := by
    unfold rdOf at h
    rw [List.getD_eq_getElem?_getD, List.getElem?_eq_getElem hv] at h
    exact h
  rw [← e, List.set_getElem_self]
theorem seen_next {n : Int} {seen : List Bool} {vis : List Int} (hl : (seen.length : Int) = n) (h : ∀ v, 0 ≤ v → v < n → rdOf false seen v = decide (v ∈ vis)) {u : Int} (h0 : 0 ≤ u) (h1 : u < n) : ∀ v, 0 ≤ v → v < n → rdOf false (seen.set u.toNat true) v = decide (v ∈ u :: vis) := by
  intro v v0 v1
  have h2 := h v v0 v1
  unfold rdOf at h2 ⊢
  rw [List.getD_eq_getElem?_getD, List.getElem?_set]
  by_cases e : u = v
  · subst e
    rw [if_pos rfl, if_pos (by omega)]
    simp
  · rw [if_neg (by omega), ← List.getD_eq_getElem?_getD, h2]
    apply decide_eq_decide.2
    rw [List.mem_cons]
    constructor
    · intro a; exact .inr a
    · rintro (a | a)
      · exact absurd a.symm e
      · exact a
theorem fillW_sub {lt : List Int → List Int → Bool} {m : Nat} : ∀ (D L : List (List Int)), ∀ x ∈ fillW lt m L D, x ∈ L ∨ x ∈ D
  | [], L, x, hx => .inl hx
  | d :: D, L, x, hx => by
    unfold fillW at hx
    rw [List.foldl_cons] at hx
    rcases fillW_sub D _ x hx with h | h
    · have h2 := (qWf lt d L).subset (List.mem_of_mem_take h)
      rw [List.mem_cons] at h2
      rcases h2 with rfl | h2
      · exact .inr (by simp)
      · exact .inl h2
    · exact .inr (by simp [h])
theorem DV_short (l : List S58) (tg : Int) : ∀ (m : Nat) (at_ : Int) (vis w : List Int), ∀ d ∈ DV l tg m at_ vis w, d.length ≤ w.length + m
  | 0, _, _, _, d, hd => by simp [DV] at hd
  | m + 1, at_, vis, w, d, hd => by
    rw [DV] at hd
    split at hd
    · rw [List.mem_singleton] at hd
      subst hd
      omega
    · obtain ⟨i, _, hd⟩ := List.mem_flatMap.1 hd
      split at hd
      · have := DV_short l tg m _ _ _ d hd
        rw [List.length_append, List.length_singleton] at this
        omega
      · cases hd
theorem wcost_more {n : Int} {l : List S58} (hn : Net1 n l) {w e : List Int} (hw : ∀ k ∈ w, 0 ≤ k ∧ k < (l.length : Int)) (he : ∀ k ∈ e, 0 ≤ k ∧ k < (l.length : Int)) (hl : w.length ≤ 1000) (hl2 : e.length ≤ 1000) : qQp l w 0 ≤ qQp l (w ++ e) 0 := by
  rw [qYl]
  have h1 := qYj hn w 0 hw (by omega) (by omega)
  exact (qYj hn e _ he (by omega) (by omega)).1
theorem l14Go_ev {n : Int} {l : List S58} (hn : Net1 n l) (tg most : Int) (hm1 : 1 ≤ most) (hm6 : most ≤ 6) : ∀ (m : Nat) (at_ : Int) (vis : List Int) (seen : List Bool) (w : List Int) (L : List (List Int)), vis.Nodup → (∀ v ∈ vis, 0 ≤ v ∧ v < (8 : Nat)) → vis.length + m = 9 → (seen.length : Int) = n → (∀ v, 0 ≤ v → v < n → rdOf false seen v = decide (v ∈ vis)) → w.length + m ≤ 9 → (∀ k ∈ w, 0 ≤ k ∧ k < (l.length : Int)) → qJl (lessC l) L → L.length ≤ most.toNat → (∀ x ∈ L, x.length ≤ 1000) →
    Ev (fun k => spec_l14Go.f k n l tg most at_ seen w (qQp l w 0) (L.map (qJh l))) ((fillW (lessC l) most.toNat L (DV l tg m at_ vis w)).map (qJh l), seen)
  | 0, at_, vis, seen, w, L, h1, h2, h3, _, _, _, _, _, _, _ => by have := qXf 8 vis h1 h2; omega
  | m + 1, at_, vis, seen, w, L, h1, h2, h3, h4, h5, h6, h7, h8, h9, h10 => by
    have hll := hn.len
    refine ev_shift ?_
    by_cases e : at_ = tg
    · rw [DV, if_pos e]
      have b1 : ([] : List Int).length + w.length < 17592186044416 := by simp; omega
      simp only [spec_l14Go.f, e, if_true, Option.bind_some, b1, List.nil_append]
      exact Ev.bind (l14Put_ev l w L most hm1 (by omega) (by omega) h10) (qQm fun _ => rfl)
    rw [DV, if_neg e]
    simp only [spec_l14Go.f, e, if_false]
    rw [List.range_eq_range']
    obtain ⟨F, hF⟩ : ∃ F : Nat → List (List Int), F = fun (i : Nat) => if (qZa l (i : Int)).f0 = at_ ∧ (qZa l (i : Int)).f1 ∉ vis then DV l tg m (qZa l (i : Int)).f1 ((qZa l (i : Int)).f1 :: vis) (w ++ [(i : Int)]) else [] := ⟨_, rfl⟩
    rw [← hF]
    have := qVd (fun k (s : Nat × List (List Int)) => spec_l14Go.l0 k tg most at_ seen (s.2.map (qJh l)) (s.1 : Int) n l w (qQp l w 0)) (fun s => l.length - s.1) (fun s => s.1 ≤ l.length ∧ qJl (lessC l) s.2 ∧ s.2.length ≤ most.toNat ∧ ∀ x ∈ s.2, x.length ≤ 1000) (fun s => ((fillW (lessC l) most.toNat s.2 ((List.range' s.1 (l.length - s.1)).flatMap F)).map (qJh l), seen)) ?_ (0, L) ⟨Nat.zero_le _, h8, h9, h10⟩
    · simpa using this
    rintro ⟨i, K⟩ ⟨hi, k1, k2, k3⟩ ih
    simp only at hi k1 k2 k3 ih ⊢
    by_cases h : i < l.length
    · have hlt : (i : Int) < (l.length : Int) := by omega
      have h0 : (0 : Int) ≤ (i : Int) := by omega
      obtain ⟨d, hd⟩ : ∃ d, l.length - i = d + 1 := ⟨l.length - i - 1, by omega⟩
      have hr : (List.range' i (l.length - i)).flatMap F = F i ++ (List.range' (i + 1) (l.length - (i + 1))).flatMap F := by
        rw [hd, List.range'_succ, List.flatMap_cons, show l.length - (i + 1) = d by omega]
      rw [hr, fillW_append]
      have hx := hn.ends _ (List.getElem_mem h)
      rw [← qXh l i h] at hx
      have next : ∀ K2, K2 = fillW (lessC l) most.toNat K (F i) → Ev (fun k => spec_l14Go.l0 k tg most at_ seen (K2.map (qJh l)) (wrap64 ((i : Int) + 1)) n l w (qQp l w 0)) ((fillW (lessC l) most.toNat (fillW (lessC l) most.toNat K (F i)) ((List.range' (i + 1) (l.length - (i + 1))).flatMap F)).map (qJh l), seen) := by
        intro K2 hK2
        rw [← hK2, qKe h (show l.length ≤ 9223372036854775807 by omega)]
        have ok := fillW_ok (toW _) (m := most.toNat) (F i) k1 k2
        refine ih (i + 1, K2) ⟨by simp; omega, by rw [hK2]; exact ok.1, by rw [hK2]; exact ok.2, fun x hx2 => ?_⟩ (by simp; omega)
        rw [hK2] at hx2
        rcases fillW_sub _ _ x hx2 with a | a
        · exact k3 x a
        · rw [hF] at a
          simp only at a
          split at a
          · have := DV_short l tg m _ _ _ x a
            rw [List.length_append, List.length_singleton] at this
            omega
          · cases a
      have skip : F i = [] → Ev (fun k => spec_l14Go.l0 k tg most at_ seen (K.map (qJh l)) (wrap64 ((i : Int) + 1)) n l w (qQp l w 0)) ((fillW (lessC l) most.toNat (fillW (lessC l) most.toNat K (F i)) ((List.range' (i + 1) (l.length - (i + 1))).flatMap F)).map (qJh l), seen) := fun z => next K (by rw [z]; rfl)
      have hFi : F i = if (qZa l (i : Int)).f0 = at_ ∧ (qZa l (i : Int)).f1 ∉ vis then DV l tg m (qZa l (i : Int)).f1 ((qZa l (i : Int)).f1 :: vis) (w ++ [(i : Int)]) else [] := by rw [hF]
      have hone := wcost_one l w (i : Int) 0
      have hKl : (K.map (qJh l)).length = K.length := List.length_map _
      simp only [spec_l14Go.l0, hlt, h0, if_true]
      generalize qZa l (i : Int) = x at hx hFi hone ⊢
      obtain ⟨e1, e2, e3, e4, e5, e6, e7, _⟩ := hx
      by_cases c1 : x.f0 = at_
      · have g1 : x.f1 < (seen.length : Int) := by omega
        have hsv := h5 x.f1 e3 e4
        simp only [c1, if_true, e3, g1]
        by_cases c2 : x.f1 ∈ vis
        · have e8 : rdOf false seen x.f1 = true := by rw [hsv]; exact decide_eq_true c2
          simp only [e8, if_true]
          exact skip (by rw [hFi, if_neg (fun z => z.2 c2)])
        · have e8 : rdOf false seen x.f1 = false := by rw [hsv]; exact decide_eq_false c2
          rw [if_pos ⟨c1, c2⟩] at hFi
          simp only [e8, Bool.false_eq_true, if_false, hKl]
          have b1 : ([] : List Int).length + w.length < 17592186044416 := by simp; omega
          have b2 : w.length + [(i : Int)].length < 17592186044416 := by simp; omega
          have hwi : ∀ k ∈ w ++ [(i : Int)], 0 ≤ k ∧ k < (l.length : Int) := fun k hk => by
            rw [List.mem_append, List.mem_singleton] at hk
            rcases hk with hk | hk
            · exact h7 k hk
            · omega
          have hhi := hn.hi
          have rec_ : Ev (fun k => (spec_l14Go.f k n l tg most x.f1 (seen.set x.f1.toNat true) (w ++ [(i : Int)]) (wrap64 (qQp l w 0 + x.f2)) (K.map (qJh l))).bind fun bt => spec_l14Go.l0 k tg most at_ (bt.2.set x.f1.toNat false) bt.1 (wrap64 ((i : Int) + 1)) n l w (qQp l w 0)) ((fillW (lessC l) most.toNat (fillW (lessC l) most.toNat K (F i)) ((List.range' (i + 1) (l.length - (i + 1))).flatMap F)).map (qJh l), seen) := by
            rw [← hone]
            refine Ev.bind (l14Go_ev hn tg most hm1 hm6 m x.f1 (x.f1 :: vis) (seen.set x.f1.toNat true) (w ++ [(i : Int)]) K (List.nodup_cons.2 ⟨c2, h1⟩) (fun v hv => by
              rw [List.mem_cons] at hv
              rcases hv with rfl | hv
              · exact ⟨e3, by omega⟩
              · exact h2 v hv) (by rw [List.length_cons]; omega) (by rw [List.length_set]; exact h4) (seen_next h4 h5 e3 e4) (by rw [List.length_append, List.length_singleton]; omega) hwi k1 k2 k3) ?_
            simp only [seen_back seen x.f1 e3 g1 e8]
            exact next _ (by rw [hFi])
          by_cases c3 : (K.length : Int) = most
          · have q1 : wrap64 (most - 1) = ((most.toNat - 1 : Nat) : Int) := by rw [w_id (by omega) (by omega)]; omega
            have q2 : (0 : Int) ≤ ((most.toNat - 1 : Nat) : Int) := by omega
            have q3 : ((most.toNat - 1 : Nat) : Int) < (K.length : Int) := by omega
            have q4 : most.toNat - 1 < K.length := by omega
            have q5 : qQh (K.map (qJh l)) ((most.toNat - 1 : Nat) : Int) = qJh l K[most.toNat - 1] := by rw [way_at _ _ (by rw [hKl]; exact q4), List.getElem_map]
            have q6 : (0 : Int) ≤ most - 1 := by omega
            simp only [c3, if_true, q1, q2, q5]
            have q7 : ((most.toNat - 1 : Nat) : Int) < most := by omega
            simp only [q7, if_true]
            by_cases c4 : wrap64 (qQp l w 0 + x.f2) > (qJh l K[most.toNat - 1]).f1
            · simp only [c4, if_true]
              refine next K ?_
              refine (fillW_full (toW _) (F i) k1 (by omega) (by omega) fun d hd => ?_).symm
              rw [hFi] at hd
              obtain ⟨e9, he9, hs9⟩ := qWb l tg m _ _ _ d hd
              have hle := DV_short l tg m _ _ _ d hd
              rw [List.length_append, List.length_singleton] at hle
              have hmore := wcost_more hn hwi hs9.goes.1 (by rw [List.length_append, List.length_singleton]; omega) (by
                have := congrArg List.length he9
                rw [List.length_append] at this
                omega)
              rw [← he9, hone] at hmore
              unfold qJh at c4
              simp only at c4
              unfold qKd
              have hne : qQp l K[most.toNat - 1] 0 < qQp l d 0 := Int.lt_of_lt_of_le c4 hmore
              rw [if_neg (fun z => absurd (show qQp l K[most.toNat - 1] 0 = qQp l d 0 from z) (by omega)), decide_eq_true_eq]
              exact hne
            · simp only [c4, if_false, Option.bind_some, b1, b2, if_true, List.nil_append]
              exact rec_
          · simp only [c3, if_false, Option.bind_some, b1, b2, if_true, List.nil_append]
            exact rec_
      · simp only [c1, if_false]
        exact skip (by rw [hFi, if_neg (fun z => c1 z.1)])
    · have hlt : ¬ (i : Int) < (l.length : Int) := by omega
      simp only [spec_l14Go.l0, hlt, if_false]
      refine qQm fun _ => ?_
      rw [show l.length - i = 0 by omega]
      rfl
theorem qKg (l : List Int) (hl : l.length ≤ 9223372036854775807) : Ev (fun k => laws_wkInts.f k l l) true := by
  unfold laws_wkInts.f
  simp only [if_true]
  refine qVd (fun k (i : Nat) => laws_wkInts.l0 k l l (i : Int)) (fun i => l.length - i) (fun i => i ≤ l.length) (fun _ => true) ?_ 0 (Nat.zero_le _)
  intro i hi ih
  by_cases h : i < l.length
  · have hlt : (i : Int) < (l.length : Int) := by omega
    have h0 : (0 : Int) ≤ (i : Int) := by omega
    simp only [laws_wkInts.l0, hlt, h0, if_true, qKe h hl]
    exact ih (i + 1) (by omega) (by omega)
  · have hlt : ¬ (i : Int) < (l.length : Int) := by omega
    simp only [laws_wkInts.l0, hlt, if_false]
    exact qQm fun _ => rfl
theorem l14Some_ev {n : Int} {l : List S58} (hn : Net1 n l) {a b m : Int} (ha : 0 ≤ a ∧ a < n) (hm1 : 1 ≤ m) (hm6 : m ≤ 6) : Ev (fun k => spec_l14Some.f k n l a b m) ((someL l a b).take m.toNat) := by
  have hlo := hn.lo
  have hhi := hn.hi
  unfold spec_l14Some.f
  have b1 : n.toNat ≤ 281474976710656 := by omega
  have b2 : (0 : Int) ≤ n := by omega
  have b3 : a < ((List.replicate n.toNat false).length : Int) := by rw [List.length_replicate]; omega
  simp only [b1, b2, b3, ha.1, if_true, Option.bind_some]
  have hs : ∀ v, 0 ≤ v → v < n → rdOf false ((List.replicate n.toNat false).set a.toNat true) v = decide (v ∈ [a]) := by
    refine seen_next (vis := []) (by rw [List.length_replicate]; omega) (fun v v0 v1 => ?_) ha.1 ha.2
    unfold rdOf
    rw [List.getD_eq_getElem?_getD, List.getElem?_replicate]
    split <;> simp
  have hg := l14Go_ev hn b m hm1 hm6 8 a [a] ((List.replicate n.toNat false).set a.toNat true) [] [] (by simp) (fun v hv => by rw [List.mem_singleton] at hv; subst hv; exact ⟨ha.1, by omega⟩) (by simp) (by rw [List.length_set, List.length_replicate]; omega) hs (by simp) (by simp) List.Pairwise.nil (Nat.zero_le _) (by simp)
  have hfill : fillW (lessC l) m.toNat [] (DV l b 8 a [a] []) = (someL l a b).take m.toNat := fillW_sort _ _
  rw [hfill] at hg
  refine Ev.bind hg ?_
  have hlen : ((someL l a b).take m.toNat).length ≤ 6 := by rw [List.length_take]; omega
  have hml : (((someL l a b).take m.toNat).map (qJh l)).length = ((someL l a b).take m.toNat).length := List.length_map _
  generalize (someL l a b).take m.toNat = K at hlen hml ⊢
  have := qVd (fun k (s : Nat × List (List Int)) => spec_l14Some.l0 k (K.map (qJh l)) s.2 (s.1 : Int)) (fun s => K.length - s.1) (fun s => s.1 ≤ K.length ∧ s.2.length ≤ s.1) (fun s => s.2 ++ K.drop s.1) ?_ (0, []) ⟨Nat.zero_le _, by simp⟩
  · simpa using this
  rintro ⟨i, x⟩ ⟨hi, hx⟩ ih
  simp only at hi hx ih ⊢
  by_cases h : i < K.length
  · have hlt : (i : Int) < (K.length : Int) := by omega
    have h0 : (0 : Int) ≤ (i : Int) := by omega
    have c1 : x.length < 5864062014805 := by omega
    have hat : qQh (K.map (qJh l)) (i : Int) = qJh l K[i] := by rw [way_at _ i (by rw [hml]; exact h), List.getElem_map]
    simp only [spec_l14Some.l0, hml, hlt, h0, c1, if_true, hat, qKe h (show K.length ≤ 9223372036854775807 by omega)]
    refine ev_at (ih (i + 1, x ++ [K[i]]) ⟨by simp; omega, by simp; omega⟩ (by simp; omega)) ?_
    rw [List.drop_eq_getElem_cons h, List.append_assoc]
    rfl
  · have hlt : ¬ (i : Int) < (K.length : Int) := by omega
    simp only [spec_l14Some.l0, hml, hlt, if_false]
    refine qQm fun _ => ?_
    rw [List.drop_of_length_le (by omega), List.append_nil]
theorem someS_ok {n : Int} {l : List S58} (hok : netOkB n l = true) (hl : l.length ≤ 9223372036854775807) {a b m : Int} (ha : inB a 0 (wrap64 (n - 1)) = true) (hb : inB b 0 (wrap64 (n - 1)) = true) (hab : a ≠ b) (hm : inB m 1 6 = true) : Ev (fun k => spec_SomeWalks.f k n l a b m) ((someL l a b).take m.toNat) := by
  have hn := qVl hok
  have hm2 := qWp.1 hm
  unfold spec_SomeWalks.f
  refine Ev.bind (l1Ok_ev n l hl) ?_
  simp only [hok, if_true, jZo, Option.bind_some, ha, hb, hab, if_false, hm]
  exact Ev.bind (l14Some_ev hn (qYa hn ha) hm2.1 hm2.2) (qQm fun _ => rfl)
theorem someS_bad {n : Int} {l : List S58} (hl : l.length ≤ 9223372036854775807) {a b m : Int} (h : ¬ (netOkB n l = true ∧ inB a 0 (wrap64 (n - 1)) = true ∧ inB b 0 (wrap64 (n - 1)) = true ∧ a ≠ b ∧ inB m 1 6 = true)) : Ev (fun k => spec_SomeWalks.f k n l a b m) [] := by
  unfold spec_SomeWalks.f
  refine Ev.bind (l1Ok_ev n l hl) ?_
  cases h1 : netOkB n l with
  | false => exact qQm fun _ => rfl
  | true =>
  simp only [if_true, jZo, Option.bind_some]
  cases h2 : inB a 0 (wrap64 (n - 1)) with
  | false => exact qQm fun _ => rfl
  | true =>
  cases h3 : inB b 0 (wrap64 (n - 1)) with
  | false => exact qQm fun _ => rfl
  | true =>
  by_cases e : a = b
  · simp only [e, if_true]; exact qQm fun _ => rfl
  · simp only [e, if_true, if_false]
    cases h4 : inB m 1 6 with
    | false => exact qQm fun _ => rfl
    | true => exact absurd ⟨h1, h2, h3, e, h4⟩ h
theorem some_both (n : Int) (l : List S58) (hl : l.length ≤ 9223372036854775807) (a b m : Int) : ∃ K : List (List Int), impl_SomeWalks.f n l a b m = some K ∧ Ev (fun k => spec_SomeWalks.f k n l a b m) K ∧ K.length ≤ 6 ∧ (∀ x ∈ K, x.length ≤ 7) ∧ ((netOkB n l = true ∧ inB a 0 (wrap64 (n - 1)) = true ∧ inB b 0 (wrap64 (n - 1)) = true ∧ a ≠ b ∧ inB m 1 6 = true ∧ K = (someL l a b).take m.toNat) ∨ (¬ (netOkB n l = true ∧ inB a 0 (wrap64 (n - 1)) = true ∧ inB b 0 (wrap64 (n - 1)) = true ∧ a ≠ b ∧ inB m 1 6 = true) ∧ K = [])) := by
  by_cases h : netOkB n l = true ∧ inB a 0 (wrap64 (n - 1)) = true ∧ inB b 0 (wrap64 (n - 1)) = true ∧ a ≠ b ∧ inB m 1 6 = true
  · obtain ⟨h1, h2, h3, h4, h5⟩ := h
    have hn := qVl h1
    have hm := qWp.1 h5
    refine ⟨_, someI_ok h1 h2 h3 h4 h5, someS_ok h1 hl h2 h3 h4 h5, by rw [List.length_take]; omega, fun x hx => ?_, .inl ⟨h1, h2, h3, h4, h5, rfl⟩⟩
    exact ((qKn hn (qYa hn h2) x).1 (List.mem_of_mem_take hx)).len hn (qYa hn h2)
  · exact ⟨[], someI_bad h, someS_bad hl h, by simp, by simp, .inr ⟨h, rfl⟩⟩
theorem wkGrid_self (K : List (List Int)) (hl : K.length ≤ 9223372036854775807) (hx : ∀ x ∈ K, x.length ≤ 9223372036854775807) : Ev (fun k => laws_wkGrid.f k K K) true := by
  unfold laws_wkGrid.f
  simp only [if_true]
  refine qVd (fun k (i : Nat) => laws_wkGrid.l0 k K K (i : Int)) (fun i => K.length - i) (fun i => i ≤ K.length) (fun _ => true) ?_ 0 (Nat.zero_le _)
  intro i hi ih
  by_cases h : i < K.length
  · have hlt : (i : Int) < (K.length : Int) := by omega
    have h0 : (0 : Int) ≤ (i : Int) := by omega
    have e : qJc K (i : Int) = K[i] := by simp [qJc, h]
    simp only [laws_wkGrid.l0, hlt, h0, if_true, e, qKe h hl]
    refine Ev.bind (qKg _ (hx _ (List.getElem_mem h))) ?_
    simp only [if_true]
    exact ih (i + 1) (by omega) (by omega)
  · have hlt : ¬ (i : Int) < (K.length : Int) := by omega
    simp only [laws_wkGrid.l0, hlt, if_false]
    exact qQm fun _ => rfl
theorem range_all (p : Nat → Bool) (i n : Nat) (h : i < n) : (List.range' i (n - i)).all p = (p i && (List.range' (i + 1) (n - (i + 1))).all p) := by
  obtain ⟨d, hd⟩ : ∃ d, n - i = d + 1 := ⟨n - i - 1, by omega⟩
  rw [hd, List.range'_succ, List.all_cons, show n - (i + 1) = d by omega]
theorem range_none (p : Nat → Bool) (n : Nat) : (List.range' n (n - n)).all p = true := by simp
def chk (l : List S58) (w : List Int) (i : Nat) : Bool := inB (w.getD i 0) 0 (wrap64 ((l.length : Int) - 1)) && (decide (i = 0) || (qZa l (w.getD (i - 1) 0)).f1 == (qZa l (w.getD i 0)).f0)
def chainB (l : List S58) (w : List Int) : Bool := (List.range' 0 w.length).all (chk l w)
def qKk (l : List S58) (w : List Int) : Bool := chainB l w && decide (w.length ≤ 20)
theorem arc_in {l : List S58} {x : Int} (hl : l.length ≤ 9223372036854775807) (h : inB x 0 (wrap64 ((l.length : Int) - 1)) = true) : 0 ≤ x ∧ x < (l.length : Int) := by
  rw [qWp, w_id (by omega) (by omega)] at h
  omega
theorem walkOk_loop (n : Int) (l : List S58) (w : List Int) (hl : l.length ≤ 9223372036854775807) (hw : w.length ≤ 9223372036854775807) :
    Ev (fun k => impl_WalkOk.l0 k w w (w.length : Int) (0 : Nat) n l) ((List.range' 0 (w.length - 0)).all (chk l w)) := by
  refine qVd (fun k (i : Nat) => impl_WalkOk.l0 k w w (w.length : Int) (i : Int) n l) (fun i => w.length - i) (fun i => i ≤ w.length ∧ ∀ j, j < i → inB (w.getD j 0) 0 (wrap64 ((l.length : Int) - 1)) = true) (fun i => (List.range' i (w.length - i)).all (chk l w)) ?_ 0 ⟨Nat.zero_le _, fun j hj => absurd hj (Nat.not_lt_zero _)⟩
  rintro i ⟨hi, hp⟩ ih
  by_cases h : i < w.length
  · have hlt : (i : Int) < (w.length : Int) := by omega
    have h0 : (0 : Int) ≤ (i : Int) := by omega
    rw [range_all _ _ _ h]
    simp only [impl_WalkOk.l0, hlt, h0, if_true, qKm, Option.bind_some, qKe h hw]
    have ih' := fun hin => ih (i + 1) ⟨by omega, hin⟩ (by omega)
    generalize (List.range' (i + 1) (w.length - (i + 1))).all (chk l w) = q at ih' ⊢
    unfold chk
    rw [rd_nat]
    cases hb : inB (w.getD i 0) 0 (wrap64 ((l.length : Int) - 1)) with
    | false => exact qQm fun k => by simp
    | true =>
      have hin : ∀ j, j < i + 1 → inB (w.getD j 0) 0 (wrap64 ((l.length : Int) - 1)) = true := by
        intro j hj
        by_cases e : j = i
        · subst e; exact hb
        · exact hp j (by omega)
      obtain ⟨b0, b1⟩ := arc_in hl hb
      by_cases hi0 : i = 0
      · subst hi0
        have hn : ¬ ((0 : Nat) : Int) > 0 := by omega
        simp only [hn, if_true, if_false]
        simpa using ih' hin
      · have hn : ((i : Nat) : Int) > 0 := by omega
        have hp1 := hp (i - 1) (by omega)
        obtain ⟨c0, c1⟩ := arc_in hl hp1
        have hw1 : wrap64 ((i : Int) - 1) = ((i - 1 : Nat) : Int) := wpred (by omega) (by omega)
        have g0 : (0 : Int) ≤ ((i - 1 : Nat) : Int) := by omega
        have g1 : ((i - 1 : Nat) : Int) < (w.length : Int) := by omega
        simp only [hn, if_true, b0, b1, hw1, g0, g1, rd_nat, c0, c1, hi0, decide_false, Bool.false_or, Bool.true_and]
        by_cases he : (qZa l (w.getD (i - 1) 0)).f1 = (qZa l (w.getD i 0)).f0
        · simp only [he, if_true]
          simpa using ih' hin
        · have he' : ((qZa l (w.getD (i - 1) 0)).f1 == (qZa l (w.getD i 0)).f0) = false := beq_eq_false_iff_ne.2 he
          exact qQm fun k => by simp only [he, he', if_false, Bool.false_and]
  · have hlt : ¬ (i : Int) < (w.length : Int) := by omega
    have he : i = w.length := by omega
    subst he
    simp only [impl_WalkOk.l0, hlt, if_false, range_none]
    exact qQm fun k => rfl
theorem qYo (n : Int) (l : List S58) (w : List Int) (hl : l.length ≤ 9223372036854775807) (hw : w.length ≤ 9223372036854775807) : Ev (fun k => impl_WalkOk.f k n l w) (netOkB n l && qKk l w) := by
  unfold impl_WalkOk.f
  simp only [netOk_eq, Option.bind_some]
  cases netOkB n l with
  | false => exact ev_shift (qQm fun k => by simp [impl_WalkOk.j0])
  | true =>
    simp only [if_true]
    refine ev_shift ?_
    unfold qKk chainB
    by_cases h : w.length ≤ 20
    · have h1 : ¬ decide ((w.length : Int) > 20) = true := by simp; omega
      simp only [impl_WalkOk.j0, h1, if_false]
      simpa [h] using walkOk_loop n l w hl hw
    · have h1 : decide ((w.length : Int) > 20) = true := by simp; omega
      simp only [impl_WalkOk.j0, h1, if_true]
      exact qQm fun k => by simp [h]
theorem walkAt_in {l : List S58} {w : List Int} (hl : l.length ≤ 9223372036854775807) (h : qKk l w = true) (i : Nat) (hi : i < w.length) : 0 ≤ w[i] ∧ w[i] < (l.length : Int) := by
  unfold qKk chainB at h
  rw [Bool.and_eq_true, List.all_eq_true] at h
  have h1 := h.1 i (by rw [List.mem_range'_1]; omega)
  unfold chk at h1
  rw [Bool.and_eq_true] at h1
  have := arc_in hl h1.1
  rwa [List.getD_eq_getElem?_getD, List.getElem?_eq_getElem hi] at this
def costS (l : List S58) : List Int → Int
  | [] => 0
  | x :: xs => (qZa l x).f2 + costS l xs
theorem jQd {n : Int} {l : List S58} (hn : Net1 n l) {x : Int} (h0 : 0 ≤ x) (h1 : x < (l.length : Int)) : 0 ≤ (qZa l x).f2 ∧ (qZa l x).f2 ≤ 99 := by
  obtain ⟨j, rfl⟩ := Int.eq_ofNat_of_zero_le h0
  rw [qXh l j (by omega)]
  obtain ⟨_, _, _, _, _, h2, h3, _⟩ := hn.ends _ (List.getElem_mem (show j < l.length by omega))
  exact ⟨h2, h3⟩
theorem qYk {n : Int} {l : List S58} (hn : Net1 n l) : ∀ a : List Int, (∀ x ∈ a, 0 ≤ x ∧ x < (l.length : Int)) → 0 ≤ costS l a ∧ costS l a ≤ 99 * (a.length : Int) := by
  intro a
  induction a with
  | nil => intro _; simp [costS]
  | cons x xs ih =>
    intro h
    have h1 := h x (by simp)
    have h2 := jQd hn h1.1 h1.2
    have h3 := ih fun y hy => h y (by simp [hy])
    simp only [costS, List.length_cons]
    omega
theorem jQe {l : List S58} {w : List Int} (hl : l.length ≤ 9223372036854775807) (h : qKk l w = true) : ∀ x ∈ w, 0 ≤ x ∧ x < (l.length : Int) := by
  intro x hx
  obtain ⟨i, hi, rfl⟩ := List.getElem_of_mem hx
  exact walkAt_in hl h i hi
theorem qYg {l : List S58} {w : List Int} (h : qKk l w = true) : w.length ≤ 20 := by
  unfold qKk at h
  simp only [Bool.and_eq_true, decide_eq_true_eq] at h
  exact h.2
theorem cost_ev {n : Int} {l : List S58} (hn : Net1 n l) (a : List Int) (ha : ∀ x ∈ a, 0 ≤ x ∧ x < (l.length : Int)) (hl : a.length ≤ 10000) : Ev (fun k => impl_Net_cost.f k n l a) (costS l a) := by
  unfold impl_Net_cost.f
  have hll := hn.len
  have := qVd (fun k (s : Nat × Int) => impl_Net_cost.l0 k s.2 a (a.length : Int) (s.1 : Int) n l) (fun s => a.length - s.1) (fun s => s.1 ≤ a.length ∧ 0 ≤ s.2 ∧ s.2 ≤ 99 * (s.1 : Int)) (fun s => s.2 + costS l (a.drop s.1)) ?_ (0, 0) ⟨Nat.zero_le _, by simp, by simp⟩
  · simpa using this
  rintro ⟨i, acc⟩ ⟨hi, h1, h2⟩ ih
  simp only at hi h1 h2 ih ⊢
  by_cases h : i < a.length
  · have hlt : (i : Int) < (a.length : Int) := by omega
    have h0 : (0 : Int) ≤ (i : Int) := by omega
    obtain ⟨b0, b1⟩ := ha _ (List.getElem_mem h)
    have hc := jQd hn b0 b1
    have hw : wrap64 (acc + (qZa l a[i]).f2) = acc + (qZa l a[i]).f2 := w_id (by omega) (by omega)
    simp only [impl_Net_cost.l0, hlt, h0, if_true, rd_at a i h, qKe h (show a.length ≤ 9223372036854775807 by omega), b0, b1, hw]
    refine ev_at (ih (i + 1, acc + (qZa l a[i]).f2) ⟨by simp; omega, by simp; omega, by simp; omega⟩ (by simp; omega)) ?_
    rw [List.drop_eq_getElem_cons h]
    simp only [costS]
    omega
  · have hlt : ¬ (i : Int) < (a.length : Int) := by omega
    simp only [impl_Net_cost.l0, hlt, if_false]
    refine qQm fun k => ?_
    rw [List.drop_of_length_le (by omega)]
    simp [costS]
theorem walkCost_ev {n : Int} {l : List S58} (hok : netOkB n l = true) (a : List Int) (ha : qKk l a = true) : Ev (fun k => impl_WalkCost.f k n l a) (costS l a) := by
  have hn := qVl hok
  have hll := hn.len
  have h20 := qYg ha
  unfold impl_WalkCost.f
  refine Ev.bind (qYo n l a (by omega) (by omega)) ?_
  simp only [hok, ha, Bool.and_self, if_true]
  exact Ev.bind (cost_ev hn a (jQe (by omega) ha) (by omega)) (qQm fun _ => rfl)
theorem chainB_iff (l : List S58) (w : List Int) : chainB l w = true ↔ ∀ i, i < w.length → chk l w i = true := by
  unfold chainB
  rw [List.all_eq_true]
  constructor
  · intro h i hi; exact h i (by rw [List.mem_range'_1]; omega)
  · intro h i hi; rw [List.mem_range'_1] at hi; exact h i (by omega)
theorem ev_ex {σ β : Type} (g : Nat → σ → Option β) (μ : σ → Nat) (Inv : σ → Prop) (P : β → Prop)
    (h : ∀ s, Inv s → (∀ s', Inv s' → μ s' < μ s → ∃ r, P r ∧ Ev (fun k => g k s') r) → ∃ r, P r ∧ Ev (fun k => g (k + 1) s) r) : ∀ s, Inv s → ∃ r, P r ∧ Ev (fun k => g k s) r := by
  have key : ∀ n s, μ s ≤ n → Inv s → ∃ r, P r ∧ Ev (fun k => g k s) r := by
    intro n
    induction n with
    | zero => intro s hs hi; obtain ⟨r, hp, he⟩ := h s hi (fun s' _ hlt => absurd hlt (by omega)); exact ⟨r, hp, ev_shift he⟩
    | succ n ih => intro s hs hi; obtain ⟨r, hp, he⟩ := h s hi (fun s' hi' hlt => ih s' (by omega) hi'); exact ⟨r, hp, ev_shift he⟩
  exact fun s hi => key _ s (Nat.le_refl _) hi
theorem rdm_set (D : List S114) (i j : Int) (v : S114) (hi : 0 ≤ i) (hl : i < (D.length : Int)) (hj : 0 ≤ j) : qZf (D.set i.toNat v) j = if i = j then v else qZf D j := by
  unfold qZf
  rw [List.getD_eq_getElem?_getD, List.getD_eq_getElem?_getD, List.getElem?_set]
  by_cases h : i = j
  · subst h; rw [if_pos rfl, if_pos rfl, if_pos (by omega)]; rfl
  · rw [if_neg h, if_neg (by omega)]
def sumI : List Int → Int
  | [] => 0
  | x :: xs => x + sumI xs
theorem sumI_set (L : List Int) : ∀ (i : Nat) (v : Int), i < L.length → sumI (L.set i v) = sumI L - L.getD i 0 + v := by
  induction L with
  | nil => intro i v h; exact absurd h (by simp)
  | cons x xs ih =>
    intro i v h
    cases i with
    | zero => simp [sumI]; omega
    | succ i => simp only [List.set_cons_succ, sumI, ih i v (by simpa using h), List.getD_cons_succ]; omega
theorem sumI_nonneg (L : List Int) (h : ∀ x ∈ L, 0 ≤ x) : 0 ≤ sumI L := by
  induction L with
  | nil => simp [sumI]
  | cons x xs ih => have := h x (by simp); have := ih fun y hy => h y (by simp [hy]); simp only [sumI]; omega
theorem sumI_le8 (L : List Int) (b : Int) (hb : 0 ≤ b) (hl : L.length ≤ 8) (h : ∀ x ∈ L, x ≤ b) : sumI L ≤ 8 * b := by
  have key : ∀ L : List Int, (∀ x ∈ L, x ≤ b) → sumI L ≤ (L.length : Int) * b := by
    intro L
    induction L with
    | nil => intro _; simp [sumI]
    | cons x xs ih =>
      intro h
      have h1 := h x (by simp)
      have h2 := ih fun y hy => h y (by simp [hy])
      simp only [sumI, List.length_cons, Int.natCast_add, Int.add_mul]
      omega
  have h1 := key L h
  have h2 : (L.length : Int) * b ≤ 8 * b := Int.mul_le_mul_of_nonneg_right (by omega) hb
  omega
theorem levels_len (k : Nat) : ∀ L : List Int, (∀ j : Nat, j < k → (j : Int) ∈ L) → k ≤ L.length := by
  induction k with
  | zero => intro L _; omega
  | succ k ih =>
    intro L h
    have h1 := h k (by omega)
    have h2 := ih (L.erase (k : Int)) fun j hj => (List.mem_erase_of_ne (by omega)).2 (h j (by omega))
    rw [List.length_erase_of_mem h1] at h2
    have : 0 < L.length := List.length_pos_of_mem h1
    omega
inductive Way (l : List S58) (t : Int) : Int → Int → Nat → Prop
  | nil : Way l t t 0 0
  | cons {x : S58} {c : Int} {m : Nat} : x ∈ l → Way l t x.f1 c m → Way l t x.f0 (x.f2 + c) (m + 1)
theorem Way.node {n : Int} {l : List S58} (hn : Net1 n l) {t : Int} (ht : 0 ≤ t ∧ t < n) {v c : Int} {m : Nat} (h : Way l t v c m) : 0 ≤ v ∧ v < n := by
  cases h with
  | nil => exact ht
  | cons hx _ => have := hn.ends _ hx; exact ⟨this.1, this.2.1⟩
def cM (M : List S114) (v : Int) : Int := (qZf M v).f0
def aM (M : List S114) (v : Int) : Int := (qZf M v).f1
def sumC (M : List S114) : Int := sumI (M.map fun m => m.f0)
def sumA (M : List S114) : Int := sumI (M.map fun m => m.f1)
theorem cM_set (M : List S114) (i j a b : Int) (hi : 0 ≤ i) (hl : i < (M.length : Int)) (hj : 0 ≤ j) : cM (M.set i.toNat ⟨a, b⟩) j = if i = j then a else cM M j := by
  unfold cM; rw [rdm_set M i j _ hi hl hj]; split <;> rfl
theorem aM_set (M : List S114) (i j a b : Int) (hi : 0 ≤ i) (hl : i < (M.length : Int)) (hj : 0 ≤ j) : aM (M.set i.toNat ⟨a, b⟩) j = if i = j then b else aM M j := by
  unfold aM; rw [rdm_set M i j _ hi hl hj]; split <;> rfl
theorem cM_get (M : List S114) (i : Nat) (h : i < M.length) : cM M (i : Int) = M[i].f0 := by simp [cM, qZf, h]
theorem aM_get (M : List S114) (i : Nat) (h : i < M.length) : aM M (i : Int) = M[i].f1 := by simp [aM, qZf, h]
theorem sumC_set (M : List S114) (i a b : Int) (hi : 0 ≤ i) (hl : i < (M.length : Int)) : sumC (M.set i.toNat ⟨a, b⟩) = sumC M - cM M i + a := by
  obtain ⟨j, rfl⟩ : ∃ j : Nat, i = (j : Int) := ⟨i.toNat, by omega⟩
  unfold sumC
  rw [List.map_set, Int.toNat_natCast, sumI_set _ j _ (by rw [List.length_map]; omega), cM_get M j (by omega)]
  rw [List.getD_eq_getElem?_getD, List.getElem?_map, List.getElem?_eq_getElem (show j < M.length by omega)]
  rfl
theorem sumA_set (M : List S114) (i a b : Int) (hi : 0 ≤ i) (hl : i < (M.length : Int)) : sumA (M.set i.toNat ⟨a, b⟩) = sumA M - aM M i + b := by
  obtain ⟨j, rfl⟩ : ∃ j : Nat, i = (j : Int) := ⟨i.toNat, by omega⟩
  unfold sumA
  rw [List.map_set, Int.toNat_natCast, sumI_set _ j _ (by rw [List.length_map]; omega), aM_get M j (by omega)]
  rw [List.getD_eq_getElem?_getD, List.getElem?_map, List.getElem?_eq_getElem (show j < M.length by omega)]
  rfl
structure MInv (n : Int) (l : List S58) (t : Int) (M : List S114) : Prop where
  len : (M.length : Int) = n
  rng : ∀ v, 0 ≤ v → v < n → 0 ≤ cM M v ∧ cM M v ≤ 99999 ∧ 0 ≤ aM M v ∧ (cM M v = 99999 → aM M v = 0)
  tz : cM M t = 0 ∧ aM M t = 0
  way : ∀ v, 0 ≤ v → v < n → cM M v ≠ 99999 → Way l t v (cM M v) (aM M v).toNat
  par : ∀ v, 0 ≤ v → v < n → v ≠ t → cM M v ≠ 99999 → ∃ x ∈ l, x.f0 = v ∧ cM M x.f1 ≠ 99999 ∧ (cM M x.f1 + x.f2 < cM M v ∨ cM M x.f1 + x.f2 = cM M v ∧ aM M x.f1 + 1 ≤ aM M v)
  bnd : ∀ v, 0 ≤ v → v < n → aM M v + sumC M ≤ 799992
def pot (M : List S114) : Nat := (sumC M * 6399937 + sumA M).toNat
def Less (M : List S114) (x : S58) : Prop := cM M x.f1 + x.f2 < cM M x.f0 ∨ cM M x.f1 + x.f2 = cM M x.f0 ∧ aM M x.f1 + 1 < aM M x.f0
def Closed (l : List S58) (M : List S114) : Prop := ∀ x ∈ l, cM M x.f1 ≠ 99999 → ¬ Less M x
theorem MInv.sums {n : Int} {l : List S58} {t : Int} {M : List S114} (hn : Net1 n l) (h : MInv n l t M) : 0 ≤ sumC M ∧ 0 ≤ sumA M ∧ sumA M ≤ 6399936 := by
  have hl := h.len
  have hi := hn.hi
  have hc : ∀ x ∈ (M.map fun m => m.f0), 0 ≤ x := by
    intro x hx
    obtain ⟨m, hm, rfl⟩ := List.mem_map.1 hx
    obtain ⟨i, hi, rfl⟩ := List.getElem_of_mem hm
    have := h.rng i (by omega) (by omega)
    rw [cM_get M i hi] at this
    exact this.1
  have hC := sumI_nonneg _ hc
  have ha : ∀ x ∈ (M.map fun m => m.f1), 0 ≤ x ∧ x ≤ 799992 := by
    intro x hx
    obtain ⟨m, hm, rfl⟩ := List.mem_map.1 hx
    obtain ⟨i, hi, rfl⟩ := List.getElem_of_mem hm
    have h1 := h.rng i (by omega) (by omega)
    have h2 := h.bnd i (by omega) (by omega)
    rw [aM_get M i hi] at h1 h2
    unfold sumC at h2
    omega
  have h1 := sumI_nonneg _ fun x hx => (ha x hx).1
  have h2 := sumI_le8 _ 799992 (by omega) (by rw [List.length_map]; omega) fun x hx => (ha x hx).2
  exact ⟨hC, h1, by unfold sumA; omega⟩
set_option maxHeartbeats 4000000 in
theorem MInv.step {n : Int} {l : List S58} {t : Int} {M : List S114} (hn : Net1 n l) (h : MInv n l t M) {x : S58} (hx : x ∈ l) (hw : cM M x.f1 ≠ 99999) (hL : Less M x) :
    MInv n l t (M.set x.f0.toNat ⟨cM M x.f1 + x.f2, aM M x.f1 + 1⟩) ∧ pot (M.set x.f0.toNat ⟨cM M x.f1 + x.f2, aM M x.f1 + 1⟩) < pot M := by
  obtain ⟨e1, e2, e3, e4, e5, e6, e7, _⟩ := hn.ends x hx
  have hlen := h.len
  have hlt : x.f0 < (M.length : Int) := by omega
  have r0 := h.rng x.f0 e1 e2
  have r1 := h.rng x.f1 e3 e4
  have b0 := h.bnd x.f0 e1 e2
  have b1 := h.bnd x.f1 e3 e4
  have hc : ∀ j, 0 ≤ j → cM (M.set x.f0.toNat ⟨cM M x.f1 + x.f2, aM M x.f1 + 1⟩) j = if x.f0 = j then cM M x.f1 + x.f2 else cM M j := fun j hj => cM_set M x.f0 j _ _ e1 hlt hj
  have ha : ∀ j, 0 ≤ j → aM (M.set x.f0.toNat ⟨cM M x.f1 + x.f2, aM M x.f1 + 1⟩) j = if x.f0 = j then aM M x.f1 + 1 else aM M j := fun j hj => aM_set M x.f0 j _ _ e1 hlt hj
  have sC := sumC_set M x.f0 (cM M x.f1 + x.f2) (aM M x.f1 + 1) e1 hlt
  have sA := sumA_set M x.f0 (cM M x.f1 + x.f2) (aM M x.f1 + 1) e1 hlt
  obtain ⟨s1, s2, s3⟩ := h.sums hn
  unfold Less at hL
  have hz := h.tz
  have hut : x.f0 ≠ t := by
    intro e
    rw [e] at hL
    omega
  have hinv : MInv n l t (M.set x.f0.toNat ⟨cM M x.f1 + x.f2, aM M x.f1 + 1⟩) := by
    refine ⟨by rw [List.length_set]; exact hlen, ?_, ?_, ?_, ?_, ?_⟩
    · intro v v0 v1
      rw [hc v v0, ha v v0]
      have := h.rng v v0 v1
      split
      · omega
      · exact this
    · by_cases ht : 0 ≤ t
      · rw [hc t ht, ha t ht, if_neg hut, if_neg hut]; exact hz
      · have h1 : ∀ L : List S114, cM L t = cM L 0 ∧ aM L t = aM L 0 := by
          intro L
          have : t.toNat = (0 : Int).toNat := by omega
          unfold cM aM qZf
          rw [this]
          exact ⟨rfl, rfl⟩
        rw [(h1 _).1, (h1 _).2] at hz ⊢
        rw [hc 0 (by omega), ha 0 (by omega)]
        by_cases h2 : x.f0 = 0
        · rw [h2] at hL; omega
        · rw [if_neg h2, if_neg h2]; exact hz
    · intro v v0 v1
      rw [hc v v0, ha v v0]
      by_cases e : x.f0 = v
      · subst e
        rw [if_pos rfl, if_pos rfl]
        intro _
        have hw' := h.way x.f1 e3 e4 hw
        have hm : (aM M x.f1 + 1).toNat = (aM M x.f1).toNat + 1 := by omega
        rw [hm, Int.add_comm]
        exact Way.cons hx hw'
      · rw [if_neg e, if_neg e]; exact h.way v v0 v1
    · intro v v0 v1 vt
      rw [hc v v0, ha v v0]
      by_cases e : x.f0 = v
      · subst e
        rw [if_pos rfl, if_pos rfl]
        intro _
        refine ⟨x, hx, rfl, ?_, ?_⟩
        · rw [hc x.f1 e3, if_neg e5]; exact hw
        · rw [hc x.f1 e3, ha x.f1 e3, if_neg e5, if_neg e5]; omega
      · rw [if_neg e, if_neg e]
        intro hv
        obtain ⟨y, hy, y0, y1, y2⟩ := h.par v v0 v1 vt hv
        have ey := hn.ends y hy
        refine ⟨y, hy, y0, ?_, ?_⟩
        · rw [hc y.f1 ey.2.2.1]
          split
          · omega
          · exact y1
        · rw [hc y.f1 ey.2.2.1, ha y.f1 ey.2.2.1]
          by_cases e2 : x.f0 = y.f1
          · rw [if_pos e2, if_pos e2]; rw [← e2] at y2; omega
          · rw [if_neg e2, if_neg e2]; exact y2
    · intro v v0 v1
      rw [ha v v0, sC]
      have := h.bnd v v0 v1
      split <;> omega
  refine ⟨hinv, ?_⟩
  obtain ⟨t1, t2, t3⟩ := hinv.sums hn
  unfold pot
  rw [sC] at t1 ⊢
  rw [sA] at t2 t3 ⊢
  omega
def Fin1 (n : Int) (l : List S58) (t : Int) (M : List S114) : Prop := MInv n l t M ∧ Closed l M
theorem less_eq (a b c d : Int) : impl_measure_less.f a b c d = some (decide (a < c ∨ a = c ∧ b < d)) := by
  unfold impl_measure_less.f
  by_cases h : a < c
  · rw [if_pos h]; simp [h]
  · by_cases h2 : a = c
    · subst h2; simp
    · rw [if_neg h, if_neg h2]; simp [h, h2]
set_option maxHeartbeats 4000000 in
theorem toward_loop {n : Int} {l : List S58} (hn : Net1 n l) {t : Int} : ∀ s : List S114 × Bool, (MInv n l t s.1 ∧ (s.2 = false → Closed l s.1)) → ∃ R, Fin1 n l t R ∧ Ev (fun k => impl_Net_toward.l0 k s.1 s.2 n l) R := by
  refine ev_ex (fun k (s : List S114 × Bool) => impl_Net_toward.l0 k s.1 s.2 n l) (fun s => pot s.1 * 2 + (if s.2 = true then 1 else 0)) (fun s => MInv n l t s.1 ∧ (s.2 = false → Closed l s.1)) (Fin1 n l t) ?_
  rintro ⟨M, b⟩ ⟨hM, hC⟩ ih
  simp only at hM hC ih ⊢
  have hll := hn.len
  cases b with
  | false => exact ⟨M, ⟨hM, hC rfl⟩, qQm fun k => by simp [impl_Net_toward.l0]⟩
  | true =>
    simp only [impl_Net_toward.l0, if_true]
    have inner := ev_ex (fun k (s : Nat × List S114 × Bool) => impl_Net_toward.l1 k s.2.1 s.2.2 l (l.length : Int) (s.1 : Int) n l) (fun s => l.length - s.1)
      (fun s => s.1 ≤ l.length ∧ MInv n l t s.2.1 ∧ ((s.2.2 = false ∧ s.2.1 = M ∧ ∀ j, j < s.1 → ∀ hj : j < l.length, cM M l[j].f1 ≠ 99999 → ¬ Less M l[j]) ∨ (s.2.2 = true ∧ pot s.2.1 < pot M))) (Fin1 n l t) ?_ (0, M, false) ⟨Nat.zero_le _, hM, .inl ⟨rfl, rfl, fun j hj => absurd hj (Nat.not_lt_zero _)⟩⟩
    · exact inner
    rintro ⟨i, M1, b1⟩ ⟨hi, hM1, hb⟩ ih2
    simp only at hi hM1 hb ih2 ⊢
    by_cases h : i < l.length
    · have hlt : (i : Int) < (l.length : Int) := by omega
      have h0 : (0 : Int) ≤ (i : Int) := by omega
      have hxl : l[i] ∈ l := List.getElem_mem h
      obtain ⟨e1, e2, e3, e4, e5, e6, e7, _⟩ := hn.ends l[i] hxl
      have hlen := hM1.len
      have g1 : l[i].f1 < (M1.length : Int) := by omega
      have g0 : l[i].f0 < (M1.length : Int) := by omega
      simp only [impl_Net_toward.l1, hlt, h0, if_true, qXh l i h, e1, e3, g0, g1, qKe h (show l.length ≤ 9223372036854775807 by omega), less_eq, Option.bind_some]
      have r1 := hM1.rng l[i].f1 e3 e4
      have b1' := hM1.bnd l[i].f1 e3 e4
      have hs := hM1.sums hn
      by_cases hf : cM M1 l[i].f1 = 99999
      · have hf' : (qZf M1 l[i].f1).f0 = 99999 := hf
        simp only [hf', if_true]
        refine ih2 (i + 1, M1, b1) ⟨by simp; omega, hM1, ?_⟩ (by simp; omega)
        rcases hb with ⟨q1, q2, q3⟩ | q
        · refine .inl ⟨q1, q2, fun j hj hjl hc => ?_⟩
          by_cases hji : j = i
          · subst hji; rw [← q2] at hc; exact absurd hf hc
          · exact q3 j (by simp at hj; omega) hjl hc
        · exact .inr q
      · have hf' : ¬ (qZf M1 l[i].f1).f0 = 99999 := hf
        have w1 : wrap64 ((qZf M1 l[i].f1).f0 + l[i].f2) = cM M1 l[i].f1 + l[i].f2 := by unfold cM at *; exact w_id (by omega) (by omega)
        have w2 : wrap64 ((qZf M1 l[i].f1).f1 + 1) = aM M1 l[i].f1 + 1 := by unfold aM at *; exact w_id (by omega) (by omega)
        simp only [hf', if_false, w1, w2]
        by_cases hL : Less M1 l[i]
        · have hL' : (cM M1 l[i].f1 + l[i].f2 < (qZf M1 l[i].f0).f0 ∨ cM M1 l[i].f1 + l[i].f2 = (qZf M1 l[i].f0).f0 ∧ aM M1 l[i].f1 + 1 < (qZf M1 l[i].f0).f1) := hL
          simp only [hL', decide_true, if_true]
          obtain ⟨hs1, hs2⟩ := hM1.step hn hxl hf hL
          refine ih2 (i + 1, _, true) ⟨by simp; omega, hs1, .inr ⟨rfl, ?_⟩⟩ (by simp; omega)
          rcases hb with ⟨_, q2, _⟩ | ⟨_, q⟩
          · rw [← q2]; exact hs2
          · exact Nat.lt_trans hs2 q
        · have hL' : ¬ (cM M1 l[i].f1 + l[i].f2 < (qZf M1 l[i].f0).f0 ∨ cM M1 l[i].f1 + l[i].f2 = (qZf M1 l[i].f0).f0 ∧ aM M1 l[i].f1 + 1 < (qZf M1 l[i].f0).f1) := hL
          simp only [hL', decide_false, Bool.false_eq_true, if_false]
          refine ih2 (i + 1, M1, b1) ⟨by simp; omega, hM1, ?_⟩ (by simp; omega)
          rcases hb with ⟨q1, q2, q3⟩ | q
          · refine .inl ⟨q1, q2, fun j hj hjl hc => ?_⟩
            by_cases hji : j = i
            · subst hji; rw [← q2]; exact hL
            · exact q3 j (by simp at hj; omega) hjl hc
          · exact .inr q
    · have hlt : ¬ (i : Int) < (l.length : Int) := by omega
      simp only [impl_Net_toward.l1, hlt, if_false]
      rcases hb with ⟨q1, q2, q3⟩ | ⟨q1, q2⟩
      · subst q1
        refine ih (M1, false) ⟨hM1, fun _ x hx hc => ?_⟩ (by rw [q2]; simp)
        obtain ⟨j, hj, rfl⟩ := List.getElem_of_mem hx
        rw [q2] at hc ⊢
        exact q3 j (by omega) hj hc
      · subst q1
        exact ih (M1, true) ⟨hM1, fun h => by cases h⟩ (by simp; omega)
theorem minv_start {n : Int} {l : List S58} (hn : Net1 n l) {t : Int} (h0 : 0 ≤ t) (h1 : t < n) : MInv n l t ((List.replicate n.toNat (⟨99999, 0⟩ : S114)).set t.toNat ⟨0, 0⟩) := by
  have hlo := hn.lo
  have hhi := hn.hi
  have hll : ((List.replicate n.toNat (⟨99999, 0⟩ : S114)).length : Int) = n := by rw [List.length_replicate]; omega
  have hc : ∀ v, 0 ≤ v → v < n → cM ((List.replicate n.toNat (⟨99999, 0⟩ : S114)).set t.toNat ⟨0, 0⟩) v = if t = v then 0 else 99999 := by
    intro v v0 v1
    rw [cM_set _ t v _ _ h0 (by omega) v0]
    split
    · rfl
    · obtain ⟨j, rfl⟩ : ∃ j : Nat, v = (j : Int) := ⟨v.toNat, by omega⟩
      rw [cM_get _ j (by rw [List.length_replicate]; omega), List.getElem_replicate]
  have ha : ∀ v, 0 ≤ v → v < n → aM ((List.replicate n.toNat (⟨99999, 0⟩ : S114)).set t.toNat ⟨0, 0⟩) v = 0 := by
    intro v v0 v1
    rw [aM_set _ t v _ _ h0 (by omega) v0]
    split
    · rfl
    · obtain ⟨j, rfl⟩ : ∃ j : Nat, v = (j : Int) := ⟨v.toNat, by omega⟩
      rw [aM_get _ j (by rw [List.length_replicate]; omega), List.getElem_replicate]
  refine ⟨by rw [List.length_set]; exact hll, ?_, ?_, ?_, ?_, ?_⟩
  · intro v v0 v1
    rw [hc v v0 v1, ha v v0 v1]
    split <;> omega
  · rw [hc t h0 h1, ha t h0 h1, if_pos rfl]; exact ⟨rfl, rfl⟩
  · intro v v0 v1
    rw [hc v v0 v1, ha v v0 v1]
    split
    · rename_i e; subst e; intro _; exact Way.nil
    · intro h; exact absurd rfl h
  · intro v v0 v1 vt
    rw [hc v v0 v1, if_neg (Ne.symm vt)]
    intro h; exact absurd rfl h
  · intro v v0 v1
    rw [ha v v0 v1]
    have := sumI_le8 (((List.replicate n.toNat (⟨99999, 0⟩ : S114)).set t.toNat ⟨0, 0⟩).map fun m => m.f0) 99999 (by omega) (by rw [List.length_map, List.length_set, List.length_replicate]; omega) (by
      intro x hx
      obtain ⟨m, hm, rfl⟩ := List.mem_map.1 hx
      rcases List.mem_or_eq_of_mem_set hm with h | h
      · rw [List.eq_of_mem_replicate h]; exact Int.le_refl _
      · rw [h]; simp)
    unfold sumC
    omega
theorem Fin1.low {n : Int} {l : List S58} (hn : Net1 n l) {t : Int} {M : List S114} (hM : Fin1 n l t M) {v c : Int} {m : Nat} (h : Way l t v c m) : cM M v < c ∨ (cM M v = c ∧ aM M v ≤ m) ∨ 99999 ≤ c := by
  induction h with
  | nil => rw [hM.1.tz.1, hM.1.tz.2]; exact .inr (.inl ⟨rfl, by omega⟩)
  | @cons x c m hx h ih =>
    obtain ⟨e1, e2, e3, e4, e5, e6, e7, _⟩ := hn.ends x hx
    have r0 := hM.1.rng x.f0 e1 e2
    by_cases hf : cM M x.f1 = 99999
    · rcases ih with ih | ih | ih <;> omega
    · have := hM.2 x hx hf
      unfold Less at this
      rcases ih with ih | ih | ih <;> omega
theorem Fin1.levels {n : Int} {l : List S58} (hn : Net1 n l) {t : Int} {M : List S114} (hM : Fin1 n l t M) (m : Nat) : ∀ v, 0 ≤ v → v < n → cM M v ≠ 99999 → aM M v = (m : Int) → ∀ j : Nat, j ≤ m → ∃ u, 0 ≤ u ∧ u < n ∧ aM M u = (j : Int) := by
  induction m with
  | zero => intro v v0 v1 _ hm j hj; exact ⟨v, v0, v1, by rw [hm]; omega⟩
  | succ m ih =>
    intro v v0 v1 hc hm j hj
    by_cases hj2 : j = m + 1
    · exact ⟨v, v0, v1, by rw [hm, hj2]⟩
    · have hvt : v ≠ t := by intro e; rw [e, hM.1.tz.2] at hm; omega
      obtain ⟨x, hx, x0, x1, x2⟩ := hM.1.par v v0 v1 hvt hc
      obtain ⟨e1, e2, e3, e4, e5, e6, e7, _⟩ := hn.ends x hx
      have := hM.2 x hx x1
      unfold Less at this
      rw [x0] at this
      exact ih x.f1 e3 e4 x1 (by omega) j (by omega)
theorem Fin1.few {n : Int} {l : List S58} (hn : Net1 n l) {t : Int} {M : List S114} (hM : Fin1 n l t M) {v : Int} (v0 : 0 ≤ v) (v1 : v < n) (hc : cM M v ≠ 99999) : aM M v + 1 ≤ n := by
  have hlen := hM.1.len
  have r := hM.1.rng v v0 v1
  have := levels_len ((aM M v).toNat + 1) (M.map fun m => m.f1) (by
    intro j hj
    obtain ⟨u, u0, u1, hu⟩ := hM.levels hn (aM M v).toNat v v0 v1 hc (by omega) j (by omega)
    obtain ⟨i, rfl⟩ : ∃ i : Nat, u = (i : Int) := ⟨u.toNat, by omega⟩
    rw [aM_get M i (by omega)] at hu
    rw [← hu]
    exact List.mem_map.2 ⟨M[i], List.getElem_mem _, rfl⟩)
  rw [List.length_map] at this
  omega
theorem Way.trans {l : List S58} {t v u c c' : Int} {m m' : Nat} (h1 : Way l t v c m) (h2 : Way l v u c' m') : Way l t u (c' + c) (m' + m) := by
  induction h2 with
  | nil => simpa using h1
  | @cons x c' m' hx _ ih =>
    have := Way.cons hx ih
    rw [show x.f2 + c' + c = x.f2 + (c' + c) by omega, show m' + 1 + m = (m' + m) + 1 by omega]
    exact this
theorem Way.cost {n : Int} {l : List S58} (hn : Net1 n l) {t v c : Int} {m : Nat} (h : Way l t v c m) : 0 ≤ c ∧ c ≤ 99 * (m : Int) := by
  induction h with
  | nil => simp
  | @cons x c m hx _ ih =>
    obtain ⟨_, _, _, _, _, h1, h2, _⟩ := hn.ends _ hx
    omega
theorem inB_node {n : Int} {l : List S58} (hn : Net1 n l) {a : Int} (h : 0 ≤ a ∧ a < n) : inB a 0 (wrap64 (n - 1)) = true := by
  have := hn.lo
  have := hn.hi
  rw [qWp, w_id (n := n - 1) (by omega) (by omega)]
  omega
theorem toward_ex {n : Int} {l : List S58} (hn : Net1 n l) {t : Int} (ht : 0 ≤ t ∧ t < n) : ∃ M, Fin1 n l t M ∧ Ev (fun k => impl_Net_toward.f k n l t) M := by
  have hlo := hn.lo
  have hhi := hn.hi
  unfold impl_Net_toward.f impl_measure.f
  have b : 0 ≤ n ∧ n ≤ 8 := by omega
  have g : t < ((n.toNat : Nat) : Int) := by omega
  simp only [b, and_self, if_true, Option.bind_some, ht.1, List.length_replicate, g]
  exact toward_loop hn ((List.replicate n.toNat (⟨99999, 0⟩ : S114)).set t.toNat ⟨0, 0⟩, true) ⟨minv_start hn ht.1 ht.2, fun h => by cases h⟩
theorem Way.snoc {l : List S58} {t v c : Int} {m : Nat} (h : Way l t v c m) {x : S58} (hx : x ∈ l) (ht : x.f0 = t) : Way l x.f1 v (c + x.f2) (m + 1) := by
  induction h with
  | nil =>
    have := Way.cons (t := x.f1) hx (Way.nil (l := l))
    rw [ht] at this
    rw [Int.add_comm]
    exact this
  | @cons y c m hy _ ih =>
    have := Way.cons hy ih
    rw [show y.f2 + c + x.f2 = y.f2 + (c + x.f2) by omega]
    exact this
theorem Fin1.good {n : Int} {l : List S58} {t : Int} {M : List S114} (hM : Fin1 n l t M) {v : Int} (v0 : 0 ≤ v) (v1 : v < n) (hv : v ≠ t) (hc : cM M v ≠ 99999) : ∃ x ∈ l, x.f0 = v ∧ cM M x.f1 ≠ 99999 ∧ cM M x.f1 + x.f2 = cM M v ∧ aM M x.f1 + 1 = aM M v := by
  obtain ⟨x, hx, e, h1, h2⟩ := hM.1.par v v0 v1 hv hc
  have h3 := hM.2 x hx h1
  unfold Less at h3
  rw [e] at h3
  refine ⟨x, hx, e, h1, ?_, ?_⟩ <;> omega
theorem Fin1.small {n : Int} {l : List S58} (hn : Net1 n l) {t : Int} {M : List S114} (hM : Fin1 n l t M) {v : Int} (v0 : 0 ≤ v) (v1 : v < n) : 0 ≤ aM M v ∧ aM M v ≤ 8 ∧ 0 ≤ cM M v ∧ (cM M v ≠ 99999 → cM M v ≤ 700 ∧ aM M v + 1 ≤ n) ∧ cM M v ≤ 99999 := by
  have r := hM.1.rng v v0 v1
  have hhi := hn.hi
  by_cases hc : cM M v = 99999
  · have := r.2.2.2 hc
    exact ⟨r.2.2.1, by omega, r.1, fun h => absurd hc h, r.2.1⟩
  · have h1 := hM.few hn v0 v1 hc
    have h2 := (hM.1.way v v0 v1 hc).cost hn
    exact ⟨r.2.2.1, by omega, r.1, fun _ => ⟨by omega, h1⟩, r.2.1⟩
theorem jZd {n : Int} {l : List S58} (hn : Net1 n l) {t : Int} {M : List S114} (hM : Fin1 n l t M) (v : Int) {x : S58} (hx : x ∈ l) : goodM M v x = true ↔ x.f0 = v ∧ cM M x.f1 ≠ 99999 ∧ cM M x.f1 + x.f2 = cM M v ∧ aM M x.f1 + 1 = aM M v := by
  obtain ⟨e1, e2, e3, e4, e5, e6, e7, _⟩ := hn.ends x hx
  have s := hM.small hn e3 e4
  have w1 : wrap64 (cM M x.f1 + x.f2) = cM M x.f1 + x.f2 := w_id (by omega) (by omega)
  have w2 : wrap64 (aM M x.f1 + 1) = aM M x.f1 + 1 := w_id (by omega) (by omega)
  have e : goodM M v x = ((x.f0 == v) && (!(cM M x.f1 == 99999) && ((wrap64 (cM M x.f1 + x.f2) == cM M v) && (wrap64 (aM M x.f1 + 1) == aM M v)))) := rfl
  rw [e, w1, w2]
  simp only [Bool.and_eq_true, beq_iff_eq, Bool.not_eq_true', beq_eq_false_iff_ne, ne_eq]
theorem idxP_is {α : Type} {p : α → Bool} {l : List α} (h : ∃ x ∈ l, p x = true) : ∃ (i : Nat) (hi : i < l.length), idxP p l = (i : Int) ∧ p l[i] = true ∧ ∀ j (hj : j < i), p (l[j]'(Nat.lt_trans hj hi)) = false := by
  unfold idxP
  cases h2 : l.findIdx? p with
  | none =>
    rw [List.findIdx?_eq_none_iff] at h2
    obtain ⟨x, hx, hp⟩ := h
    have := h2 x hx
    rw [hp] at this
    cases this
  | some i =>
    rw [List.findIdx?_eq_some_iff_getElem] at h2
    obtain ⟨hi, hp, hb⟩ := h2
    exact ⟨i, hi, rfl, hp, fun j hj => by simpa using hb j hj⟩
def walkM (l : List S58) (M : List S114) : Nat → Int → List Int
  | 0, _ => []
  | k + 1, v => idxP (goodM M v) l :: walkM l M k (qZa l (idxP (goodM M v) l)).f1
def jZg (l : List S58) (M : List S114) (a : Int) : List Int × Bool := if cM M a = 99999 then ([], false) else (walkM l M (aM M a).toNat a, true)
def Goes (l : List S58) : Int → List Int → Int → Prop
  | v, [], t => v = t
  | v, i :: w, t => (0 ≤ i ∧ i < (l.length : Int)) ∧ (qZa l i).f0 = v ∧ Goes l (qZa l i).f1 w t
theorem Fin1.first {n : Int} {l : List S58} (hn : Net1 n l) {t : Int} {M : List S114} (hM : Fin1 n l t M) {v : Int} (v0 : 0 ≤ v) (v1 : v < n) (hv : v ≠ t) (hc : cM M v ≠ 99999) :
    ∃ (i : Nat) (hi : i < l.length), idxP (goodM M v) l = (i : Int) ∧ l[i].f0 = v ∧ cM M l[i].f1 ≠ 99999 ∧ cM M l[i].f1 + l[i].f2 = cM M v ∧ aM M l[i].f1 + 1 = aM M v ∧ ∀ j (hj : j < i), goodM M v (l[j]'(Nat.lt_trans hj hi)) = false := by
  obtain ⟨x, hx, h⟩ := hM.good v0 v1 hv hc
  obtain ⟨i, hi, e, hg, hb⟩ := idxP_is ⟨x, hx, (jZd hn hM v hx).2 h⟩
  obtain ⟨g1, g2, g3, g4⟩ := (jZd hn hM v (List.getElem_mem hi)).1 hg
  exact ⟨i, hi, e, g1, g2, g3, g4, hb⟩
theorem Fin1.zero {n : Int} {l : List S58} (hn : Net1 n l) {t : Int} {M : List S114} (hM : Fin1 n l t M) {v : Int} (v0 : 0 ≤ v) (v1 : v < n) (hc : cM M v ≠ 99999) (ha : aM M v = 0) : v = t := by
  by_cases h : v = t
  · exact h
  · obtain ⟨x, hx, _, _, _, h4⟩ := hM.good v0 v1 h hc
    obtain ⟨_, _, e3, e4, _⟩ := hn.ends x hx
    have := (hM.small hn e3 e4).1
    omega
theorem walkM_goes {n : Int} {l : List S58} (hn : Net1 n l) {t : Int} {M : List S114} (hM : Fin1 n l t M) : ∀ (k : Nat) (v : Int), 0 ≤ v → v < n → cM M v ≠ 99999 → aM M v = (k : Int) → Goes l v (walkM l M k v) t ∧ (walkM l M k v).length = k ∧ costS l (walkM l M k v) = cM M v := by
  intro k
  induction k with
  | zero =>
    intro v v0 v1 hc ha
    have e := hM.zero hn v0 v1 hc (by simpa using ha)
    subst e
    exact ⟨rfl, rfl, by rw [hM.1.tz.1]; rfl⟩
  | succ k ih =>
    intro v v0 v1 hc ha
    have hv : v ≠ t := by intro e; subst e; have := hM.1.tz.2; omega
    obtain ⟨i, hi, e, g1, g2, g3, g4, _⟩ := hM.first hn v0 v1 hv hc
    obtain ⟨_, _, e3, e4, _⟩ := hn.ends _ (List.getElem_mem hi)
    obtain ⟨h1, h2, h3⟩ := ih l[i].f1 e3 e4 g2 (by omega)
    unfold walkM
    rw [e, qXh l i hi]
    refine ⟨⟨⟨by omega, by omega⟩, by rw [qXh l i hi]; exact g1, by rw [qXh l i hi]; exact h1⟩, by rw [List.length_cons, h2], ?_⟩
    simp only [costS, h3, qXh l i hi]
    omega
theorem firstArc_eq {n : Int} {l : List S58} (hn : Net1 n l) {M : List S114} (hl : (M.length : Int) = n) {v : Int} (v0 : 0 ≤ v) (v1 : v < n) : impl_Net_firstArc.f n l M v = some (idxP (goodM M v) l) := by
  unfold impl_Net_firstArc.f
  rw [if_pos]
  unfold qYm
  simp only [Bool.and_eq_true, decide_eq_true_eq, List.all_eq_true]
  refine ⟨⟨v0, by omega⟩, fun x hx => ?_⟩
  obtain ⟨_, _, e3, e4, _⟩ := hn.ends x hx
  exact ⟨e3, by omega⟩
theorem best_loop {n : Int} {l : List S58} (hn : Net1 n l) {t : Int} {M : List S114} (hM : Fin1 n l t M) : ∀ (k : Nat) (v : Int) (acc : List Int), 0 ≤ v → v < n → cM M v ≠ 99999 → aM M v = (k : Int) → acc.length + k ≤ 1000 →
    Ev (fun f => impl_Net_best.l0 f v t M acc n l) (acc ++ walkM l M k v, true) := by
  intro k
  induction k with
  | zero =>
    intro v acc v0 v1 hc ha _
    have e := hM.zero hn v0 v1 hc (by simpa using ha)
    subst e
    exact ev_shift (qQm fun f => by simp [impl_Net_best.l0, walkM])
  | succ k ih =>
    intro v acc v0 v1 hc ha hl
    have hv : v ≠ t := by intro e; subst e; have := hM.1.tz.2; omega
    obtain ⟨i, hi, e, g1, g2, g3, g4, _⟩ := hM.first hn v0 v1 hv hc
    obtain ⟨_, _, e3, e4, _⟩ := hn.ends _ (List.getElem_mem hi)
    have b0 : (0 : Int) ≤ (i : Int) := by omega
    have b1 : (i : Int) < (l.length : Int) := by omega
    have b2 : acc.length < 17592186044416 := by omega
    have next := ih l[i].f1 (acc ++ [(i : Int)]) e3 e4 g2 (by omega) (by simp; omega)
    refine ev_shift ?_
    simp only [impl_Net_best.l0, hv, if_false, firstArc_eq hn hM.1.len v0 v1, Option.bind_some, e, b0, b1, b2, if_true, qXh l i hi]
    refine ev_at next ?_
    rw [walkM, e, qXh l i hi]
    simp
theorem best_ex {n : Int} {l : List S58} (hn : Net1 n l) {a b : Int} (ha : 0 ≤ a ∧ a < n) (hb : 0 ≤ b ∧ b < n) : ∃ M, Fin1 n l b M ∧ Ev (fun k => impl_Net_best.f k n l a b) (jZg l M a) := by
  obtain ⟨M, hM, he⟩ := toward_ex hn hb
  refine ⟨M, hM, ?_⟩
  have hl := hM.1.len
  have g : a < (M.length : Int) := by omega
  have s := hM.small hn ha.1 ha.2
  unfold impl_Net_best.f jZg
  refine Ev.bind he ?_
  simp only [ha.1, g, if_true]
  show Ev (fun k => if cM M a = 99999 then some (([] : List Int), false) else (if 0 ≤ aM M a then (if (aM M a).toNat ≤ 35184372088832 then impl_Net_best.l0 k a b M [] n l else none) else none)) _
  by_cases hc : cM M a = 99999
  · simp only [hc, if_true]; exact qQm fun _ => rfl
  · have b0 : 0 ≤ aM M a := s.1
    have b1 : (aM M a).toNat ≤ 35184372088832 := by omega
    simp only [hc, if_false, b0, b1, if_true]
    exact ev_at (best_loop hn hM (aM M a).toNat a [] ha.1 ha.2 hc (by omega) (by simp; omega)) (by simp)
theorem goes_at {l : List S58} {t : Int} : ∀ (w : List Int) (v : Int), Goes l v w t → ∀ i, i < w.length → (0 ≤ w.getD i 0 ∧ w.getD i 0 < (l.length : Int)) ∧ (i = 0 → (qZa l (w.getD i 0)).f0 = v) ∧ (i ≠ 0 → (qZa l (w.getD i 0)).f0 = (qZa l (w.getD (i - 1) 0)).f1) ∧ (i + 1 = w.length → (qZa l (w.getD i 0)).f1 = t) := by
  intro w
  induction w with
  | nil => intro v _ i hi; exact absurd hi (Nat.not_lt_zero _)
  | cons x xs ih =>
    intro v h i hi
    obtain ⟨h1, h2, h3⟩ := h
    cases i with
    | zero =>
      refine ⟨h1, fun _ => h2, fun e => absurd rfl e, fun e => ?_⟩
      cases xs with
      | nil => exact h3
      | cons y ys => simp at e
    | succ i =>
      obtain ⟨g1, g2, g3, g4⟩ := ih _ h3 i (by simpa using hi)
      refine ⟨g1, fun e => absurd e (by omega), fun _ => ?_, fun e => g4 (by simpa using e)⟩
      cases i with
      | zero => exact g2 rfl
      | succ i => exact g3 (by omega)
theorem goes_walkB {l : List S58} (hl : l.length ≤ 1000) {t v : Int} {w : List Int} (h : Goes l v w t) (h8 : w.length ≤ 8) : qKk l w = true := by
  unfold qKk
  rw [Bool.and_eq_true, decide_eq_true_eq, chainB_iff]
  refine ⟨fun i hi => ?_, by omega⟩
  obtain ⟨g1, g2, g3, g4⟩ := goes_at w v h i hi
  unfold chk
  have e : inB (w.getD i 0) 0 (wrap64 ((l.length : Int) - 1)) = true := by rw [qWp, w_id (by omega) (by omega)]; omega
  rw [e, Bool.true_and, Bool.or_eq_true, decide_eq_true_eq, beq_iff_eq]
  by_cases c : i = 0
  · exact .inl c
  · exact .inr (g3 c).symm
theorem nearWalk_ev {n : Int} {l : List S58} (hok : netOkB n l = true) {a b : Int} (ha : 0 ≤ a ∧ a < n) (hb : 0 ≤ b ∧ b < n) : ∃ M, Fin1 n l b M ∧ Ev (fun k => impl_NearWalk.f k n l a b) (jZg l M a) := by
  have hn := qVl hok
  obtain ⟨M, hM, he⟩ := best_ex hn ha hb
  refine ⟨M, hM, ?_⟩
  unfold impl_NearWalk.f
  simp only [qWj, Option.bind_some, hasB2, hok, inB_node hn ha, inB_node hn hb, Bool.and_self, if_true]
  exact Ev.bind he (qQm fun _ => rfl)
theorem qVc {n : Int} {l : List S58} (hn : Net1 n l) : ∀ (e : List Int) (s : Int), (∀ k ∈ e, 0 ≤ k ∧ k < (l.length : Int)) → 0 ≤ s → s + 99 * (e.length : Int) ≤ 1000000000 → qQp l e s = s + costS l e
  | [], s, _, _, _ => by simp [qQp, costS]
  | x :: r, s, h, h0, h1 => by
    rw [List.length_cons] at h1
    obtain ⟨a, b⟩ := h x (by simp)
    have hc := jQd hn a b
    rw [qQp, costS, w_id (by omega) (by omega), qVc hn r _ (fun k hk => h k (by simp [hk])) (by omega) (by omega)]
    omega
theorem goes_in {l : List S58} {t : Int} : ∀ (w : List Int) (v : Int), Goes l v w t → ∀ k ∈ w, 0 ≤ k ∧ k < (l.length : Int)
  | [], _, _, k, hk => by cases hk
  | i :: w, v, h, k, hk => by
    rw [List.mem_cons] at hk
    rcases hk with rfl | hk
    · exact h.1
    · exact goes_in w _ h.2.2 k hk
theorem qYi {l : List S58} {t : Int} : ∀ (w : List Int) (v : Int), Goes l v w t → Way l t v (costS l w) w.length
  | [], v, h => by have : v = t := h; subst this; exact Way.nil
  | i :: w, v, h => by
    obtain ⟨⟨h0, h1⟩, h2, h3⟩ := h
    obtain ⟨j, rfl⟩ := Int.eq_ofNat_of_zero_le h0
    have hm : qZa l (j : Int) ∈ l := by rw [qXh l j (by omega)]; exact List.getElem_mem _
    have := Way.cons hm (qYi w _ h3)
    rw [h2] at this
    exact this
theorem SP.go {l : List S58} {tg at_ : Int} {vis e : List Int} (h : SP l tg at_ vis e) : Goes l at_ e tg := by
  induction h with
  | nil => rfl
  | cons hi h0 _ _ _ ih => exact ⟨⟨by omega, by omega⟩, h0, ih⟩
theorem walkM_SP {n : Int} {l : List S58} (hn : Net1 n l) {t : Int} {M : List S114} (hM : Fin1 n l t M) : ∀ (k : Nat) (v : Int) (vis : List Int), 0 ≤ v → v < n → cM M v ≠ 99999 → aM M v = (k : Int) → (∀ u ∈ vis, (k : Int) ≤ aM M u) → SP l t v vis (walkM l M k v)
  | 0, v, vis, v0, v1, hc, ha, hv => by
    have e := hM.zero hn v0 v1 hc ha
    subst e
    rw [walkM]
    exact SP.nil
  | k + 1, v, vis, v0, v1, hc, ha, hv => by
    have hvt : v ≠ t := fun e => by subst e; have := hM.1.tz.2; omega
    obtain ⟨i, hi, e, h1, h2, h3, h4, h5⟩ := hM.first hn v0 v1 hvt hc
    obtain ⟨e1, e2, e3, e4, _⟩ := hn.ends _ (List.getElem_mem hi)
    rw [walkM, e]
    have ex := qXh l i hi
    rw [← ex] at h1 h2 h3 h4 e3 e4
    refine SP.cons hi h1 hvt (fun hm => ?_) (walkM_SP hn hM k _ _ e3 e4 h2 (by omega) fun u hu => ?_)
    · have := hv _ hm
      omega
    · rw [List.mem_cons] at hu
      rcases hu with rfl | hu
      · omega
      · have := hv u hu
        omega
theorem walkM_first {n : Int} {l : List S58} (hn : Net1 n l) {t : Int} {M : List S114} (hM : Fin1 n l t M) : ∀ (e : List Int) (k : Nat) (v : Int), 0 ≤ v → v < n → cM M v ≠ 99999 → aM M v = (k : Int) → Goes l v e t → costS l e = cM M v → e.length = k → e.length ≤ 100 → lexB e (walkM l M k v) = false
  | [], k, v, v0, v1, hc, ha, hg, h1, h2, _ => by
    have : k = 0 := h2.symm
    subst this
    rfl
  | i :: e, k, v, v0, v1, hc, ha, hg, h1, h2, hle => by
    obtain ⟨⟨g0, g1⟩, g2, g3⟩ := hg
    obtain ⟨j, rfl⟩ := Int.eq_ofNat_of_zero_le g0
    have hj : j < l.length := by omega
    rw [List.length_cons] at h2 hle
    obtain ⟨k, rfl⟩ : ∃ k', k = k' + 1 := ⟨k - 1, by omega⟩
    have hvt : v ≠ t := fun e => by subst e; have := hM.1.tz.2; omega
    obtain ⟨q, hq, e1, f1, f2, f3, f4, f5⟩ := hM.first hn v0 v1 hvt hc
    have hx := hn.ends _ (List.getElem_mem hj)
    have ex := qXh l j hj
    have hmem : qZa l (j : Int) ∈ l := by rw [ex]; exact List.getElem_mem hj
    rw [← ex] at hx
    obtain ⟨_, _, x3, x4, _, x6, x7, _⟩ := hx
    rw [costS] at h1
    have hw := qYi e _ g3
    have hcr := qYk hn e (goes_in e _ g3)
    have low := hM.low hn hw
    have rng := hM.1.rng _ x3 x4
    have hc2 : cM M (qZa l (j : Int)).f1 ≠ 99999 := by omega
    have cl := hM.2 _ hmem hc2
    unfold Less at cl
    rw [g2] at cl
    have k1 : cM M (qZa l (j : Int)).f1 = costS l e := by omega
    have k2 : aM M (qZa l (j : Int)).f1 = (k : Int) := by omega
    have hgood : goodM M v l[j] = true := by
      rw [← ex]
      exact (jZd hn hM v hmem).2 ⟨g2, hc2, by omega, by omega⟩
    rw [walkM, e1, lexB]
    have hqj : q ≤ j := by
      rcases Nat.lt_or_ge j q with c | c
      · have := f5 j c
        rw [hgood] at this
        cases this
      · exact c
    by_cases c : q = j
    · subst c
      rw [if_pos rfl]
      exact walkM_first hn hM e k _ x3 x4 hc2 k2 g3 k1.symm (by omega) (by omega)
    · rw [if_neg (by omega)]
      exact decide_eq_false (by omega)
theorem near_first {n : Int} {l : List S58} (hn : Net1 n l) {a b : Int} (ha : 0 ≤ a ∧ a < n) (hb : 0 ≤ b ∧ b < n) {M : List S114} (hM : Fin1 n l b M) (hc : cM M a ≠ 99999) : ∃ r, someL l a b = (jZg l M a).1 :: r := by
  have s := hM.small hn ha.1 ha.2
  obtain ⟨k, hk⟩ := Int.eq_ofNat_of_zero_le s.1
  have hbm : (jZg l M a).1 = walkM l M k a := by unfold jZg; rw [if_neg hc, hk]; rfl
  have hsp : SP l b a [a] (walkM l M k a) := walkM_SP hn hM k a [a] ha.1 ha.2 hc hk fun u hu => by rw [List.mem_singleton] at hu; subst hu; omega
  obtain ⟨g1, g2, g3⟩ := walkM_goes hn hM k a ha.1 ha.2 hc hk
  rw [hbm]
  have hmem := (qKn hn ha _).2 hsp
  have hmin : ∀ e ∈ someL l a b, lessC l e (walkM l M k a) = false := fun e he => by
    have hse := (qKn hn ha e).1 he
    have hl := hse.len hn ha
    have hg := hse.go
    have hl2 := hsp.len hn ha
    have c1 := qVc hn e 0 hse.goes.1 (by omega) (by omega)
    have c2 := qVc hn (walkM l M k a) 0 hsp.goes.1 (by omega) (by omega)
    have low := hM.low hn (qYi e _ hg)
    have hcr := qYk hn e hse.goes.1
    unfold lessC qKd
    simp only [c1, c2, Int.zero_add, g3]
    by_cases z : costS l e = cM M a
    · rw [if_pos z]
      by_cases z2 : e.length = (walkM l M k a).length
      · rw [if_pos z2]
        exact walkM_first hn hM e k a ha.1 ha.2 hc hk hg z (by omega) (by omega)
      · rw [if_neg z2]
        exact decide_eq_false (by omega)
    · rw [if_neg z]
      exact decide_eq_false (by omega)
  have hstr := someL_strict l a b
  cases hL : someL l a b with
  | nil => rw [hL] at hmem; cases hmem
  | cons x r =>
    refine ⟨r, ?_⟩
    rw [hL] at hmem hmin hstr
    rw [List.pairwise_cons] at hstr
    rw [List.mem_cons] at hmem
    rcases hmem with h | h
    · rw [h]
    · have h1 := hstr.1 _ h
      rw [hmin x (by simp)] at h1
      cases h1
def ndsV (l : List S58) (v : Int) (w : List Int) : List Int := v :: w.map fun i => (qZa l i).f1
theorem qKh (l : List S58) (v : Int) (w : List Int) : (ndsV l v w).length = w.length + 1 := by unfold ndsV; rw [List.length_cons, List.length_map]
theorem wkAhead_ev {n : Int} {l : List S58} (hok : netOkB n l = true) {a b : List Int} (ha : qKk l a = true) (hb : qKk l b = true) : Ev (fun k => laws_wkAhead.f k n l a b) (lessC l a b) := by
  have hn := qVl hok
  have hl := hn.len
  have ia := jQe (by omega) ha
  have ib := jQe (by omega) hb
  have la := qYg ha
  have lb := qYg hb
  have ca := qVc hn a 0 ia (by omega) (by omega)
  have cb := qVc hn b 0 ib (by omega) (by omega)
  rw [Int.zero_add] at ca cb
  unfold laws_wkAhead.f
  refine Ev.bind (walkCost_ev hok a ha) (Ev.bind (walkCost_ev hok b hb) ?_)
  unfold lessC qKd
  simp only [ca, cb]
  by_cases e : costS l a = costS l b
  · simp only [e, if_true]
    by_cases e2 : a.length = b.length
    · have e3 : (a.length : Int) = (b.length : Int) := by omega
      simp only [e2, if_true]
      have := qVd (fun k (i : Nat) => laws_wkAhead.l0 k a b (i : Int)) (fun i => a.length - i) (fun i => i ≤ a.length) (fun i => lexB (a.drop i) (b.drop i)) ?_ 0 (Nat.zero_le _)
      · simpa using this
      intro i hi ih
      by_cases h : i < a.length
      · have hlt : (i : Int) < (a.length : Int) := by omega
        have hlt2 : (i : Int) < (b.length : Int) := by omega
        have h0 : (0 : Int) ≤ (i : Int) := by omega
        have hb2 : i < b.length := by omega
        simp only [laws_wkAhead.l0, hlt, hlt2, h0, if_true, rd_at a i h, rd_at b i hb2, qKe h (show a.length ≤ 9223372036854775807 by omega)]
        rw [List.drop_eq_getElem_cons h, List.drop_eq_getElem_cons hb2, lexB]
        by_cases c : a[i] = b[i]
        · simp only [c, if_true]
          exact ih (i + 1) (by omega) (by omega)
        · simp only [c, if_false]
          exact qQm fun _ => rfl
      · have hlt : ¬ (i : Int) < (a.length : Int) := by omega
        simp only [laws_wkAhead.l0, hlt, if_false]
        refine qQm fun _ => ?_
        rw [List.drop_of_length_le (by omega), List.drop_of_length_le (by omega)]
        rfl
    · have e3 : ¬ (a.length : Int) = (b.length : Int) := by omega
      simp only [e2, e3, if_false]
      refine qQm fun _ => ?_
      congr 1
      apply decide_eq_decide.2
      omega
  · simp only [e, if_false]
    exact qQm fun _ => rfl
theorem SP.nodes {l : List S58} {tg at_ : Int} {vis e : List Int} (h : SP l tg at_ vis e) : ∀ v ∈ e.map (fun i => (qZa l i).f1), v ∉ vis := by
  induction h with
  | nil => intro v hv; cases hv
  | @cons i at_ vis e hi h0 hne hv _ ih =>
    intro v hv2
    rw [List.map_cons, List.mem_cons] at hv2
    rcases hv2 with rfl | hv2
    · exact hv
    · exact fun z => ih v hv2 (by simp [z])
theorem SP.nodup {l : List S58} {tg at_ : Int} {vis e : List Int} (h : SP l tg at_ vis e) : (e.map (fun i => (qZa l i).f1)).Nodup := by
  induction h with
  | nil => simp
  | @cons i at_ vis e hi h0 hne hv h2 ih =>
    rw [List.map_cons, List.nodup_cons]
    exact ⟨fun z => h2.nodes _ z (by simp), ih⟩
theorem SP.allNodes {l : List S58} {tg a : Int} {e : List Int} (h : SP l tg a [a] e) : (ndsV l a e).Nodup := by
  unfold ndsV
  rw [List.nodup_cons]
  exact ⟨fun z => h.nodes _ z (by simp), h.nodup⟩
theorem SP.first {l : List S58} {tg at_ : Int} {vis e : List Int} (h : SP l tg at_ vis e) (hne : at_ ≠ tg) : 1 ≤ e.length ∧ (qZa l (rd e 0)).f0 = at_ := by
  cases h with
  | nil => exact absurd rfl hne
  | cons hi h0 _ _ _ => exact ⟨by simp, h0⟩
theorem along_ev {n : Int} {l : List S58} {w : List Int} (hw : ∀ x ∈ w, 0 ≤ x ∧ x < (l.length : Int)) (h1 : 1 ≤ w.length) (h2 : w.length ≤ 1000) : Ev (fun k => impl_Net_along.f k n l w) (ndsV l (qZa l (rd w 0)).f0 w) := by
  unfold impl_Net_along.f
  have e0 : wrap64 ((w.length : Int) + 1) = ((w.length + 1 : Nat) : Int) := by rw [w_id (by omega) (by omega)]; omega
  have c1 : (0 : Int) ≤ ((w.length + 1 : Nat) : Int) := by omega
  have c2 : w.length + 1 ≤ 35184372088832 := by omega
  have c3 : 0 < (w.length : Int) := by omega
  have b0 := hw w[0] (List.getElem_mem (by omega))
  have er : rd w 0 = w[0] := rd_at w 0 (by omega)
  have c4 : (0 : Int) ≤ rd w 0 := by rw [er]; exact b0.1
  have c5 : rd w 0 < (l.length : Int) := by rw [er]; exact b0.2
  have c6 : ([] : List Int).length < 17592186044416 := by simp
  simp only [e0, c1, Int.toNat_natCast, c2, c3, c4, c5, c6, if_true, Option.bind_some, List.nil_append]
  generalize (qZa l (rd w 0)).f0 = v
  have key := qVd (fun k (i : Nat) => impl_Net_along.l0 k (ndsV l v (w.take i)) w (w.length : Int) (i : Int) n l) (fun i => w.length - i) (fun i => i ≤ w.length) (fun _ => ndsV l v w) ?_ 0 (Nat.zero_le _)
  · exact key
  intro i hi ih
  by_cases h : i < w.length
  · have hlt : (i : Int) < (w.length : Int) := by omega
    have h0 : (0 : Int) ≤ (i : Int) := by omega
    have bi := hw w[i] (List.getElem_mem h)
    have ei := rd_at w i h
    have g1 : (0 : Int) ≤ rd w (i : Int) := by rw [ei]; exact bi.1
    have g2 : rd w (i : Int) < (l.length : Int) := by rw [ei]; exact bi.2
    have g3 : (ndsV l v (w.take i)).length < 17592186044416 := by rw [qKh, List.length_take]; omega
    have next := ih (i + 1) (by omega) (by omega)
    have e : ndsV l v (w.take (i + 1)) = ndsV l v (w.take i) ++ [(qZa l (rd w (i : Int))).f1] := by
      unfold ndsV
      rw [List.take_succ_eq_append_getElem h, List.map_append, ei]
      rfl
    rw [e] at next
    simp only [impl_Net_along.l0, hlt, h0, g1, g2, g3, if_true, qKe h (show w.length ≤ 9223372036854775807 by omega)]
    exact next
  · have hlt : ¬ (i : Int) < (w.length : Int) := by omega
    simp only [impl_Net_along.l0, hlt, if_false]
    refine qQm fun k => ?_
    rw [List.take_of_length_le (by omega)]
def LastV (V : List Int) (i j : Nat) : Prop := i ≤ j ∧ j < V.length ∧ V.getD j 0 = V.getD i 0 ∧ ∀ k, j < k → k < V.length → V.getD k 0 ≠ V.getD i 0
theorem last_one {V : List Int} {i j j' : Nat} (h : LastV V i j) (h' : LastV V i j') : j = j' := by
  obtain ⟨a, b, c, d⟩ := h
  obtain ⟨a', b', c', d'⟩ := h'
  rcases Nat.lt_trichotomy j j' with e | e | e
  · exact absurd c' (d j' e b')
  · exact e
  · exact absurd c (d' j e b)
theorem last_ex (V : List Int) (i : Nat) (hi : i < V.length) : ∃ j, LastV V i j := by
  have key : ∀ c k j, k + c = V.length → i ≤ j → j < V.length → V.getD j 0 = V.getD i 0 → (∀ q, j < q → q < k → V.getD q 0 ≠ V.getD i 0) → ∃ j, LastV V i j := by
    intro c
    induction c with
    | zero => intro k j hk h1 h2 h3 h4; exact ⟨j, h1, h2, h3, fun q hq hq2 => h4 q hq (by omega)⟩
    | succ c ih =>
      intro k j hk h1 h2 h3 h4
      by_cases e : V.getD k 0 = V.getD i 0 ∧ j < k
      · exact ih (k + 1) k (by omega) (by omega) (by omega) e.1 (fun q hq hq2 => by omega)
      · refine ih (k + 1) j (by omega) h1 h2 h3 (fun q hq hq2 => ?_)
        by_cases e2 : q = k
        · subst e2; exact fun z => e ⟨z, hq⟩
        · exact h4 q hq (by omega)
  exact key (V.length - (i + 1)) (i + 1) i (by omega) (Nat.le_refl _) hi rfl (fun q hq hq2 => by omega)
open Classical in
noncomputable def lastV (V : List Int) (i : Nat) : Nat := if h : ∃ j, LastV V i j then h.choose else 0
theorem jQa (V : List Int) (i : Nat) (hi : i < V.length) : LastV V i (lastV V i) := by
  unfold lastV
  rw [dif_pos (last_ex V i hi)]
  exact (last_ex V i hi).choose_spec
noncomputable def plainV (V w : List Int) : Nat → Nat → List Int
  | 0, _ => []
  | f + 1, i => if lastV V i < w.length then w.getD (lastV V i) 0 :: plainV V w f (lastV V i + 1) else []
theorem plain_ev {n : Int} {l : List S58} (hok : netOkB n l = true) {w : List Int} (hw : qKk l w = true) (h1 : 1 ≤ w.length) : Ev (fun k => impl_WalkPlain.f k n l w) (plainV (ndsV l (qZa l (rd w 0)).f0 w) w (w.length + 1) 0) := by
  have hll := (qVl hok).len
  have h20 := qYg hw
  unfold impl_WalkPlain.f
  refine Ev.bind (qYo n l w (by omega) (by omega)) ?_
  have c1 : ((w.length : Int) == 0) = false := beq_eq_false_iff_ne.2 (by omega)
  simp only [hok, hw, Bool.and_self, if_true, c1]
  refine ev_shift ?_
  simp only [impl_WalkPlain.j0, Bool.false_eq_true, if_false]
  refine Ev.bind (along_ev (jQe (by omega) hw) h1 (by omega)) ?_
  have hVl := qKh l (qZa l (rd w 0)).f0 w
  generalize ndsV l (qZa l (rd w 0)).f0 w = V at hVl ⊢
  have c2 : ((w.length : Int) : Int).toNat ≤ 35184372088832 := by omega
  simp only [c2, if_true]
  have outer := qVd (fun k (s : Nat × List Int) => impl_WalkPlain.l0 k w V s.2 (s.1 : Int)) (fun s => w.length + 1 - s.1) (fun s => s.1 ≤ w.length ∧ s.2.length ≤ s.1) (fun s => s.2 ++ plainV V w (w.length + 1 - s.1) s.1) ?_ (0, []) ⟨Nat.zero_le _, Nat.le_refl _⟩
  · simpa using outer
  rintro ⟨i, out⟩ ⟨hi, ho⟩ ih
  simp only at hi ho ih ⊢
  have hiV : i < V.length := by omega
  have hlast := jQa V i hiV
  obtain ⟨f, hf⟩ : ∃ f, w.length + 1 - i = f + 1 := ⟨w.length - i, by omega⟩
  simp only [impl_WalkPlain.l0]
  have inner := qVd (fun k (s : Nat × Nat) => impl_WalkPlain.l1 k w V out (s.2 : Int) V (V.length : Int) (s.1 : Int)) (fun s => V.length - s.1) (fun s => s.1 ≤ V.length ∧ i ≤ s.2 ∧ s.2 < V.length ∧ V.getD s.2 0 = V.getD i 0 ∧ (∀ q, s.2 < q → q < s.1 → V.getD q 0 ≠ V.getD i 0)) (fun _ => out ++ plainV V w (w.length + 1 - i) i) ?_ (0, i) ⟨Nat.zero_le _, Nat.le_refl _, hiV, rfl, fun q hq hq2 => by omega⟩
  · exact inner
  rintro ⟨k, j⟩ ⟨hk, j1, j2, j3, j4⟩ ih2
  simp only at hk j1 j2 j3 j4 ih2 ⊢
  by_cases h : k < V.length
  · have hlt : (k : Int) < (V.length : Int) := by omega
    have h0 : (0 : Int) ≤ (k : Int) := by omega
    have g0 : (0 : Int) ≤ (j : Int) := by omega
    have g1 : (j : Int) < (V.length : Int) := by omega
    simp only [impl_WalkPlain.l1, hlt, h0, g0, g1, if_true, rd_nat, qKe h (show V.length ≤ 9223372036854775807 by omega)]
    by_cases c : V.getD k 0 = V.getD j 0
    · simp only [c, if_true]
      have hmx : mx (j : Int) (k : Int) = ((max j k : Nat) : Int) := by unfold mx; split <;> omega
      rw [hmx]
      refine ih2 (k + 1, max j k) ⟨by simp; omega, by simp; omega, by simp; omega, ?_, fun q hq hq2 => ?_⟩ (by simp; omega)
      · simp only
        rcases Nat.le_total j k with e | e
        · rw [Nat.max_eq_right e, c, j3]
        · rw [Nat.max_eq_left e, j3]
      · simp only at hq hq2
        rcases Nat.le_total j k with e | e
        · rw [Nat.max_eq_right e] at hq; omega
        · rw [Nat.max_eq_left e] at hq
          exact j4 q hq (by omega)
    · simp only [c, if_false]
      refine ih2 (k + 1, j) ⟨by simp; omega, j1, j2, j3, fun q hq hq2 => ?_⟩ (by simp; omega)
      simp only at hq hq2
      by_cases e : q = k
      · subst e; exact fun z => c (z.trans j3.symm)
      · exact j4 q hq (by omega)
  · have hlt : ¬ (k : Int) < (V.length : Int) := by omega
    have hj : lastV V i = j := last_one hlast ⟨j1, j2, j3, fun q hq hq2 => j4 q hq (by omega)⟩
    simp only [impl_WalkPlain.l1, hlt, if_false]
    rw [hf, plainV, hj]
    by_cases c : j = w.length
    · have c3 : (j : Int) = (w.length : Int) := by omega
      simp only [c3, if_true]
      refine qQm fun _ => ?_
      rw [if_neg (by omega), List.append_nil]
    · have c3 : ¬ (j : Int) = (w.length : Int) := by omega
      have c4 : (j : Int) < (w.length : Int) := by omega
      have g0 : (0 : Int) ≤ (j : Int) := by omega
      have c5 : out.length < 17592186044416 := by omega
      have hjw : j < w.length := by omega
      simp only [c3, c4, g0, c5, if_true, if_false, rd_nat, qKe hjw (show w.length ≤ 9223372036854775807 by omega)]
      have := ih (j + 1, out ++ [w.getD j 0]) ⟨by simp; omega, by simp; omega⟩ (by simp; omega)
      simp only at this
      refine ev_at this ?_
      rw [if_pos hjw, List.append_assoc, List.singleton_append]
      congr 2
      have e : ∀ f1 f2 i, w.length + 1 - i ≤ f1 → w.length + 1 - i ≤ f2 → i ≤ w.length → plainV V w f1 i = plainV V w f2 i := by
        intro f1
        induction f1 with
        | zero => intro f2 i h1 h2 h3; omega
        | succ f1 ihf =>
          intro f2 i h1 h2 h3
          obtain ⟨f2, rfl⟩ : ∃ g, f2 = g + 1 := ⟨f2 - 1, by omega⟩
          rw [plainV, plainV]
          have hl := (jQa V i (by omega)).1
          by_cases c : lastV V i < w.length
          · rw [if_pos c, if_pos c, ihf f2 (lastV V i + 1) (by omega) (by omega) (by omega)]
          · rw [if_neg c, if_neg c]
      exact e _ _ _ (by omega) (by omega) (by omega)
theorem plain_same {V w : List Int} (hV : V.Nodup) (hl : V.length = w.length + 1) : ∀ (f i : Nat), w.length + 1 ≤ f + i → i ≤ w.length → plainV V w f i = w.drop i
  | 0, i, h1, h2 => by omega
  | f + 1, i, h1, h2 => by
    have hlast := jQa V i (by omega)
    have hi : lastV V i = i := by
      refine last_one hlast ⟨Nat.le_refl _, by omega, rfl, fun k hk hk2 e => ?_⟩
      rw [List.getD_eq_getElem?_getD, List.getD_eq_getElem?_getD, List.getElem?_eq_getElem hk2, List.getElem?_eq_getElem (show i < V.length by omega)] at e
      exact absurd e.symm (List.pairwise_iff_getElem.1 hV i k (by omega) hk2 hk)
    rw [plainV, hi]
    by_cases c : i < w.length
    · rw [if_pos c, plain_same hV hl f (i + 1) (by omega) (by omega), List.drop_eq_getElem_cons c]
      congr 1
      rw [List.getD_eq_getElem?_getD, List.getElem?_eq_getElem c]
      rfl
    · rw [if_neg c, List.drop_of_length_le (by omega)]
theorem wkEnds_ev {n : Int} {l : List S58} (hok : netOkB n l = true) (hl : l.length ≤ 1000) {a b : Int} {w : List Int} (h : Goes l a w b) (h8 : w.length ≤ 8) : Ev (fun k => laws_wkEnds.f k n l w a b) true := by
  unfold laws_wkEnds.f
  by_cases c : (w.length : Int) = 0
  · simp only [c, if_true]
    have : w = [] := List.length_eq_zero_iff.1 (by omega)
    subst this
    have e : a = b := h
    exact qQm fun _ => by rw [e, beq_self_eq_true]
  · simp only [c, if_false]
    have p0 : 0 < (w.length : Int) := by omega
    obtain ⟨f1, f2, _, _⟩ := goes_at w a h 0 (by omega)
    obtain ⟨g1, _, _, g4⟩ := goes_at w a h (w.length - 1) (by omega)
    have f2 := f2 rfl
    have g4 := g4 (by omega)
    have w1 : wrap64 ((w.length : Int) - 1) = ((w.length - 1 : Nat) : Int) := wpred (by omega) (by omega)
    have e0 : rd w 0 = w.getD 0 0 := rfl
    have q0 : (0 : Int) ≤ ((w.length - 1 : Nat) : Int) := by omega
    have q1 : ((w.length - 1 : Nat) : Int) < (w.length : Int) := by omega
    refine Ev.bind (qYo n l w (by omega) (by omega)) ?_
    simp only [hok, goes_walkB hl h h8, Bool.and_self, if_true, p0, w1, e0, rd_nat, f1.1, f1.2, f2, q0, q1, g1.1, g1.2, g4, beq_self_eq_true]
    exact qQm fun _ => rfl
theorem someWalks_loop {n : Int} {l : List S58} (hok : netOkB n l = true) {a b m : Int} (ha : 0 ≤ a ∧ a < n) (hb : 0 ≤ b ∧ b < n) (hab : a ≠ b) (hm : 1 ≤ m ∧ m ≤ 6) {K : List (List Int)} (hK : K = (someL l a b).take m.toNat) (hne : 0 < K.length) : Ev (fun k => laws_FnSomeWalks.l0 k a b m K 0 n l) true := by
  have hn := qVl hok
  have hll := hn.len
  have hKl : K.length ≤ 6 := by rw [hK, List.length_take]; omega
  have hsp : ∀ i (h : i < K.length), SP l b a [a] K[i] := fun i h => (qKn hn ha _).1 (List.mem_of_mem_take (by rw [← hK]; exact List.getElem_mem h))
  have hwb : ∀ i (h : i < K.length), qKk l K[i] = true := fun i h => goes_walkB (by omega) (hsp i h).go (by have := (hsp i h).len hn ha; omega)
  have hstr : K.Pairwise fun x y => lessC l x y = true := by rw [hK]; exact List.Pairwise.sublist (List.take_sublist _ _) (someL_strict l a b)
  refine qVd (fun k (i : Nat) => laws_FnSomeWalks.l0 k a b m K (i : Int) n l) (fun i => K.length - i) (fun i => i ≤ K.length) (fun _ => true) ?_ 0 (Nat.zero_le _)
  intro i hi ih
  by_cases h : i < K.length
  · have hlt : (i : Int) < (K.length : Int) := by omega
    have h0 : (0 : Int) ≤ (i : Int) := by omega
    have e1 : qJc K (i : Int) = K[i] := by simp [qJc, h]
    have hs := hsp i h
    have hl7 := hs.len hn ha
    obtain ⟨f1, f2⟩ := hs.first hab
    have hpl := plain_ev hok (hwb i h) f1
    rw [f2, plain_same hs.allNodes (qKh l a K[i]) _ 0 (by omega) (by omega), List.drop_zero] at hpl
    have next : Ev (fun k => laws_FnSomeWalks.l0 k a b m K ((i + 1 : Nat) : Int) n l) true := ih (i + 1) (by omega) (by omega)
    simp only [laws_FnSomeWalks.l0, hlt, h0, if_true, e1, qKe h (show K.length ≤ 9223372036854775807 by omega)]
    refine Ev.bind (wkEnds_ev hok (by omega) hs.go (by omega)) ?_
    simp only [if_true]
    refine Ev.bind hpl (Ev.bind (qKg _ (by omega)) ?_)
    simp only [if_true]
    by_cases c : (i : Int) > 0
    · have hw : wrap64 ((i : Int) - 1) = ((i - 1 : Nat) : Int) := wpred (by omega) (by omega)
      have q0 : (0 : Int) ≤ ((i - 1 : Nat) : Int) := by omega
      have q1 : ((i - 1 : Nat) : Int) < (K.length : Int) := by omega
      have h2 : i - 1 < K.length := by omega
      have e2 : qJc K ((i - 1 : Nat) : Int) = K[i - 1] := by simp [qJc, h2]
      have hlt2 : lessC l K[i - 1] K[i] = true := List.pairwise_iff_getElem.1 hstr (i - 1) i h2 h (by omega)
      have hA := wkAhead_ev hok (hwb (i - 1) h2) (hwb i h)
      rw [hlt2] at hA
      simp only [c, hw, q0, q1, if_true, e2]
      refine Ev.bind hA ?_
      simp only [if_true]
      exact next
    · simp only [c, if_false]
      exact next
  · have hlt : ¬ (i : Int) < (K.length : Int) := by omega
    obtain ⟨M, hM, hN⟩ := nearWalk_ev hok ha hb
    have hs := hsp 0 hne
    have hcz : cM M a ≠ 99999 := by
      intro e
      have low := hM.low hn (qYi K[0] a hs.go)
      have hcr := qYk hn K[0] hs.goes.1
      have := hs.len hn ha
      omega
    obtain ⟨r, hr⟩ := near_first hn ha hb hM hcz
    have hb2 : (jZg l M a).2 = true := by unfold jZg; rw [if_neg hcz]
    have e0 : qJc K 0 = (jZg l M a).1 := by
      rw [hK, hr]
      obtain ⟨q, hq⟩ : ∃ q, m.toNat = q + 1 := ⟨m.toNat - 1, by omega⟩
      rw [hq, List.take_succ_cons]
      rfl
    have hlen : (jZg l M a).1.length ≤ 1000 := by
      have h1 : qJc K 0 = K[0] := by simp [qJc, hne]
      rw [← e0, h1]
      have := hs.len hn ha
      omega
    have p0 : 0 < (K.length : Int) := by omega
    simp only [laws_FnSomeWalks.l0, hlt, if_false]
    refine Ev.bind hN ?_
    simp only [hb2, p0, if_true, e0]
    refine Ev.bind (qKg _ (by omega)) ?_
    simp only [if_true]
    refine qQm fun _ => ?_
    congr 1
    apply decide_eq_true
    rw [hK, List.length_take]
    omega
theorem FnSomeWalks : laws_FnSomeWalks.Pure := by
  intro code _ _ hw
  refine Ev.rounds ?_
  unfold laws_FnSomeWalks.f
  by_cases h0 : (code.length : Int) > 1048576
  · simp only [h0, if_true]; exact qQm fun _ => rfl
  simp only [h0, if_false]
  obtain ⟨n, l, a, b, m, hd, hl, hm⟩ := drawSomeWalks_ex code hw
  refine Ev.bind hd ?_
  obtain ⟨K, e1, e2, k1, k2, k3⟩ := some_both n l (by omega) a b m
  simp only [e1, Option.bind_some]
  have wk := wkGrid_self K (by omega) (fun x hx => by have := k2 x hx; omega)
  refine Ev.bind e2 (Ev.bind wk ?_)
  simp only [if_true]
  by_cases hz : K.length = 0
  · have : ((K.length : Int) == 0) = true := beq_iff_eq.2 (by omega)
    rw [this]
    refine ev_shift ?_
    simp only [laws_FnSomeWalks.j0, if_true]
    exact Ev.bind e2 (Ev.bind wk (qQm fun _ => rfl))
  · have : ((K.length : Int) == 0) = false := beq_eq_false_iff_ne.2 (by omega)
    rw [this]
    refine ev_shift ?_
    simp only [laws_FnSomeWalks.j0, Bool.false_eq_true, if_false]
    rcases k3 with ⟨h1, h2, h3, h4, h5, h6⟩ | ⟨_, h2⟩
    · have hn := qVl h1
      exact someWalks_loop h1 (qYa hn h2) (qYa hn h3) h4 (qWp.1 h5) h6 (by omega)
    · rw [h2] at hz; exact absurd rfl hz
end Go.Proofs.Ytlgolgfcolnddaa.Pure
