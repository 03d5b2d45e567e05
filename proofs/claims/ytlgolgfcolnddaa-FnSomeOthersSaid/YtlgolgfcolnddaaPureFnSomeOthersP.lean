/- The pure statement of FnSomeOthers: of every drawn net, two nodes and two numbers the program tells the same walks as the reference; the first is the best one, and of the best walks just those are told that are not too long and share not too much with any that is told. No condition. -/
import Derived.Test.YtlgolgfcolnddaaFKindsPFnSomeOthers
import Derived.Test.YtlgolgfcolnddaaPFnSomeOthers0
import Derived.Test.YtlgolgfcolnddaaPFnSomeOthers7
import Derived.Test.YtlgolgfcolnddaaPFnSomeOthers2
import Derived.Test.YtlgolgfcolnddaaPFnSomeOthers1
import Derived.Test.YtlgolgfcolnddaaPFnSomeOthers8
import Derived.Test.YtlgolgfcolnddaaPFnSomeOthers3
import Derived.Test.YtlgolgfcolnddaaPFnSomeOthers6
import Derived.Test.YtlgolgfcolnddaaPFnSomeOthers5
import Derived.Test.YtlgolgfcolnddaaPFnSomeOthers4
namespace Go.Proofs.Ytlgolgfcolnddaa.Pure
open Go.RowKit Go.Proofs.Ytlgolgfcolnddaa.F Go.Proofs.YtlgolgfcolnddaaW.PrintWords
set_option linter.unusedVariables false
set_option linter.unusedSimpArgs false
theorem ev_shift {α : Type} {g : Nat → Option α} {r : α} (h : Ev (fun k => g (k + 1)) r) : Ev g r := by
  obtain ⟨K, h⟩ := h
  refine ⟨K + 1, fun k hk => ?_⟩
  obtain ⟨m, rfl⟩ : ∃ m, k = m + 1 := ⟨k - 1, by omega⟩
  exact h m (by omega)
theorem qXi {σ β : Type} (g : Nat → σ → Option β) (μ : σ → Nat) (Inv : σ → Prop) (r : σ → β)
    (h : ∀ s, Inv s → (∀ s', Inv s' → μ s' < μ s → Ev (fun k => g k s') (r s')) → Ev (fun k => g (k + 1) s) (r s)) : ∀ s, Inv s → Ev (fun k => g k s) (r s) := by
  have key : ∀ n s, μ s ≤ n → Inv s → Ev (fun k => g k s) (r s) := by
    intro n
    induction n with
    | zero => intro s hs hi; exact ev_shift (h s hi (fun s' _ hlt => absurd hlt (by omega)))
    | succ n ih => intro s hs hi; exact ev_shift (h s hi (fun s' hi' hlt => ih s' (by omega) hi'))
  exact fun s hi => key _ s (Nat.le_refl _) hi
theorem qQl {α : Type} {g : Nat → Option α} {r : α} (h : ∀ k, g k = some r) : Ev g r := ⟨0, fun k _ => h k⟩
theorem ev_at {α : Type} {g : Nat → Option α} {r r' : α} (h : Ev g r) (e : r = r') : Ev g r' := e ▸ h
theorem qVh {i n : Nat} (h : i < n) (hn : n ≤ 9223372036854775807) : wrap64 ((i : Int) + 1) = ((i + 1 : Nat) : Int) := by
  unfold wrap64; omega
theorem wpred {i : Nat} (h : 0 < i) (hi : i ≤ 9223372036854775807) : wrap64 ((i : Int) - 1) = ((i - 1 : Nat) : Int) := by
  unfold wrap64; omega
theorem w_id {n : Int} (h : -9223372036854775808 ≤ n) (h' : n ≤ 9223372036854775807) : wrap64 n = n := by unfold wrap64; omega
theorem rd_nat (l : List Int) (i : Nat) : rd l (i : Int) = l.getD i 0 := by simp [rd]
theorem qYb (l : List Int) (i : Nat) (h : i < l.length) : rd l (i : Int) = l[i] := by simp [rd, h]
theorem jZj (l : List S58) (i : Nat) (h : i < l.length) : qZa l (i : Int) = l[i] := by simp [qZa, h]
theorem any_at {α : Type} (p : α → Bool) (l : List α) (i : Nat) (h : i < l.length) : (l.drop i).any p = (p l[i] || (l.drop (i + 1)).any p) := by
  rw [List.drop_eq_getElem_cons h, List.any_cons]
theorem qXm (a b c : Int) : impl_within.f a b c = some (inB a b c) := by
  unfold impl_within.f inB
  by_cases h : b ≤ a
  · rw [if_pos h]; simp [h]
  · rw [if_neg h]; simp [h]
theorem jQa (a b c : Int) : spec_l1In.f a b c = some (inB a b c) := qXm a b c
theorem arcBad_eq (n : Int) (x : S58) : arcBad n x = !(inB x.f0 0 (wrap64 (n - 1)) && (inB x.f1 0 (wrap64 (n - 1)) && (!(x.f0 == x.f1) && (inB x.f2 0 99 && (inB x.f3 0 99 && inB x.f4 0 9))))) := by
  unfold arcBad hasB
  cases h1 : inB x.f0 0 (wrap64 (n - 1)) <;> cases h2 : inB x.f1 0 (wrap64 (n - 1)) <;> simp [h1, h2, Bool.not_and]
theorem netOk_eq (n : Int) (l : List S58) : impl_NetOk.f n l = some (netOkB n l) := rfl
theorem l1Ok_loop (n : Int) (l : List S58) (hl : l.length ≤ 9223372036854775807) (i : Nat) (hi : i ≤ l.length) :
    Ev (fun k => spec_l1Ok.l0 k (i : Int) n l) (!((l.drop i).any (arcBad n)) && (inB n 1 8 && decide (l.length ≤ 16))) := by
  refine qXi (fun k (i : Nat) => spec_l1Ok.l0 k (i : Int) n l) (fun i => l.length - i) (fun i => i ≤ l.length) (fun i => !((l.drop i).any (arcBad n)) && (inB n 1 8 && decide (l.length ≤ 16))) ?_ i hi
  intro i hi ih
  by_cases h : i < l.length
  · have hlt : (i : Int) < (l.length : Int) := by omega
    have h0 : (0 : Int) ≤ (i : Int) := by omega
    simp only [spec_l1Ok.l0, hlt, h0, if_true, jQa, Option.bind_some, jZj l i h, qVh h hl]
    rw [any_at _ _ _ h, arcBad_eq]
    have ih' := ih (i + 1) (by omega) (by omega)
    generalize (l.drop (i + 1)).any (arcBad n) = q at ih' ⊢
    generalize l[i] = x at ih' ⊢
    cases inB x.f0 0 (wrap64 (n - 1)) with
    | false => exact qQl fun k => by simp
    | true =>
    cases inB x.f1 0 (wrap64 (n - 1)) with
    | false => exact qQl fun k => by simp
    | true =>
    by_cases he : x.f0 = x.f1
    · exact qQl fun k => by simp [he]
    · cases inB x.f2 0 99 with
      | false => exact qQl fun k => by simp [he]
      | true =>
      cases inB x.f3 0 99 with
      | false => exact qQl fun k => by simp [he]
      | true =>
      cases inB x.f4 0 9 with
      | false => exact qQl fun k => by simp [he]
      | true =>
        have he' : (x.f0 == x.f1) = false := beq_eq_false_iff_ne.2 he
        simpa [he, he'] using ih'
  · have hlt : ¬ (i : Int) < (l.length : Int) := by omega
    have he : i = l.length := by omega
    simp only [spec_l1Ok.l0, hlt, if_false, jQa, Option.bind_some]
    subst he
    refine qQl fun k => ?_
    cases inB n 1 8 <;> simp
    omega
theorem l1Ok_ev (n : Int) (l : List S58) (hl : l.length ≤ 9223372036854775807) : Ev (fun k => spec_l1Ok.f k n l) (netOkB n l) := by
  refine ev_at (l1Ok_loop n l hl 0 (Nat.zero_le _)) ?_
  unfold netOkB
  rw [List.drop_zero]
  cases inB n 1 8 <;> cases decide (l.length ≤ 16) <;> cases l.any (arcBad n) <;> rfl
theorem qKl {a b c : Int} : inB a b c = true ↔ b ≤ a ∧ a ≤ c := by unfold inB; rw [Bool.and_eq_true, decide_eq_true_eq, decide_eq_true_eq]
theorem xor_nn {x y : Int} (hx : 0 ≤ x) (hx2 : x < 1099511627776) (hy : 0 ≤ y) (hy2 : y < 1099511627776) : 0 ≤ Go.bits .xor .i64 x y := by
  obtain ⟨a, rfl⟩ := Int.eq_ofNat_of_zero_le hx
  obtain ⟨b, rfl⟩ := Int.eq_ofNat_of_zero_le hy
  have h1 : (BitVec.ofInt 64 (a : Int)).toNat = a := by
    rw [BitVec.toNat_ofInt]
    omega
  have h2 : (BitVec.ofInt 64 (b : Int)).toNat = b := by
    rw [BitVec.toNat_ofInt]
    omega
  have h3 : a ^^^ b < 2 ^ 40 := Nat.xor_lt_two_pow (by omega) (by omega)
  have h4 : Go.bits .xor .i64 (a : Int) (b : Int) = IntKind.i64.wrap ((a ^^^ b : Nat) : Int) := by
    unfold Go.bits
    show IntKind.i64.wrap ((BitVec.ofInt 64 (a : Int) ^^^ BitVec.ofInt 64 (b : Int)).toNat : Int) = _
    rw [BitVec.toNat_xor, h1, h2]
  rw [h4, IntKind.wrap_i64]
  omega
def Bytes (b : List Int) : Prop := b.length ≤ 2000 ∧ ∀ x ∈ b, 0 ≤ x ∧ x ≤ 255
theorem Bytes.at {b : List Int} (hb : Bytes b) (i : Int) : 0 ≤ rd b i ∧ rd b i ≤ 255 := by
  unfold rd
  rw [List.getD_eq_getElem?_getD]
  cases h : b[i.toNat]? with
  | none => simp
  | some x => exact hb.2 x (List.mem_of_getElem? h)
theorem qVc {b : List Int} (hb : Bytes b) {p n : Int} (hp : 0 ≤ p) (hp2 : p ≤ 1000000) (hn : n ≤ 1000000) :
    ∃ v, Ev (fun k => spec_l30Rd_pick.f k b p n) (v, p + 1) ∧ 0 ≤ v ∧ (1 ≤ n → v < n) ∧ (n < 1 → v = 0) := by
  have hl := hb.1
  have w1 : wrap64 (p + 1) = p + 1 := w_id (by omega) (by omega)
  have w0 : wrap64 (p + 1 - 1) = p := by rw [w_id (by omega) (by omega)]; omega
  unfold spec_l30Rd_pick.f
  rw [w1]
  by_cases h1 : n < 1
  · refine ⟨0, ?_, Int.le_refl _, fun h => by omega, fun _ => rfl⟩
    simp only [h1, if_true]
    exact ev_shift (qQl fun k => by simp only [spec_l30Rd_pick.j0, if_true])
  · simp only [h1, if_false]
    have hn0 : ¬ n = 0 := by omega
    by_cases h2 : b.length = 0
    · refine ⟨0, ?_, Int.le_refl _, fun h => by omega, fun h => by first | exact absurd h h1 | exact h.elim⟩
      have e : ((b.length : Int) == 0) = true := by rw [beq_iff_eq]; omega
      rw [e]
      exact ev_shift (qQl fun k => by simp only [spec_l30Rd_pick.j0, if_true])
    · have e : ((b.length : Int) == 0) = false := by rw [beq_eq_false_iff_ne]; omega
      have hm0 : ¬ (b.length : Int) = 0 := by omega
      rw [e]
      by_cases h3 : p < (b.length : Int)
      · have hr := hb.at p
        have w2 : wrap64 (rd b p) = rd b p := w_id (by omega) (by omega)
        refine ⟨Int.tmod (rd b p) n, ?_, Int.tmod_nonneg _ hr.1, fun h => Int.tmod_lt_of_pos _ (by omega), fun h => by first | exact absurd h h1 | exact h.elim⟩
        exact ev_shift (qQl fun k => by simp only [spec_l30Rd_pick.j0, Bool.false_eq_true, if_false, w0, h3, hp, hn0, if_true, w2])
      · have q1 := Int.tmod_nonneg (a := p) (b.length : Int) hp
        have q2 := Int.tmod_lt_of_pos p (show (0 : Int) < (b.length : Int) by omega)
        have w3 : wrap64 (wrap64 (p * 7) + 3) = p * 7 + 3 := by rw [w_id (n := p * 7) (by omega) (by omega), w_id (by omega) (by omega)]
        have q3 := Int.tmod_nonneg (a := p * 7 + 3) (b.length : Int) (by omega)
        have q4 := Int.tmod_lt_of_pos (p * 7 + 3) (show (0 : Int) < (b.length : Int) by omega)
        have q5 : 0 ≤ Int.tdiv p (b.length : Int) := Int.tdiv_nonneg hp (by omega)
        have q6 : Int.tdiv p (b.length : Int) ≤ p := Int.tdiv_le_self _ hp
        obtain ⟨d, hd⟩ : ∃ d, Int.tdiv p (b.length : Int) = d := ⟨_, rfl⟩
        rw [hd] at q5 q6
        have r1 := hb.at (Int.tmod p (b.length : Int))
        have r2 := hb.at (Int.tmod (p * 7 + 3) (b.length : Int))
        have wx : wrap64 (wrap64 (wrap64 (wrap64 (wrap64 (rd b (Int.tmod p (b.length : Int))) * 131) + wrap64 (wrap64 (rd b (Int.tmod (p * 7 + 3) (b.length : Int))) * 1117)) + wrap64 (p * 29)) + wrap64 (wrap64 d * 53)) = rd b (Int.tmod p (b.length : Int)) * 131 + rd b (Int.tmod (p * 7 + 3) (b.length : Int)) * 1117 + p * 29 + d * 53 := by
          generalize rd b (Int.tmod p (b.length : Int)) = x1 at r1 ⊢
          generalize rd b (Int.tmod (p * 7 + 3) (b.length : Int)) = x2 at r2 ⊢
          rw [w_id (n := x1) (by omega) (by omega), w_id (n := x2) (by omega) (by omega), w_id (n := x1 * 131) (by omega) (by omega), w_id (n := x2 * 1117) (by omega) (by omega), w_id (n := p * 29) (by omega) (by omega), w_id (n := d) (by omega) (by omega), w_id (n := d * 53) (by omega) (by omega), w_id (n := x1 * 131 + x2 * 1117) (by omega) (by omega), w_id (n := x1 * 131 + x2 * 1117 + p * 29) (by omega) (by omega), w_id (by omega) (by omega)]
        generalize hX : rd b (Int.tmod p (b.length : Int)) * 131 + rd b (Int.tmod (p * 7 + 3) (b.length : Int)) * 1117 + p * 29 + d * 53 = X at wx
        have x0 : 0 ≤ X := by omega
        have x1 : X < 1099511627776 := by omega
        have y0 : 0 ≤ Int.tdiv X 64 := Int.tdiv_nonneg x0 (by omega)
        have y1 : Int.tdiv X 64 ≤ X := Int.tdiv_le_self _ x0
        have wy : wrap64 (Int.tdiv X 64) = Int.tdiv X 64 := w_id (by omega) (by omega)
        refine ⟨Int.tmod (Go.bits .xor .i64 X (Int.tdiv X 64)) n, ?_, Int.tmod_nonneg _ (xor_nn x0 x1 y0 (by omega)), fun h => Int.tmod_lt_of_pos _ (by omega), fun h => by first | exact absurd h h1 | exact h.elim⟩
        exact ev_shift (qQl fun k => by simp only [spec_l30Rd_pick.j0, Bool.false_eq_true, if_false, w0, h3, hm0, q1, q2, w3, q3, q4, hn0, if_true, hd, wx, wy])
theorem qYm {b : List Int} (hb : Bytes b) {p : Int} (hp : 0 ≤ p) (hp2 : p ≤ 1000000) (l : List Int) (hl : 1 ≤ l.length) (hl2 : l.length ≤ 1000) :
    ∃ v, v ∈ l ∧ Ev (fun k => spec_l30Rd_one.f k b p l) (v, p + 1) := by
  obtain ⟨v, hv, h0, h1, _⟩ := qVc hb hp hp2 (n := (l.length : Int)) (by omega)
  have h1 := h1 (by omega)
  unfold spec_l30Rd_one.f
  obtain ⟨i, rfl⟩ := Int.eq_ofNat_of_zero_le h0
  have hi : i < l.length := by omega
  refine ⟨l[i], List.getElem_mem hi, Ev.bind hv ?_⟩
  simp only [h0, h1, if_true, qYb l i hi]
  exact qQl fun _ => rfl
theorem open_ex (l : List Int) (h : ∀ x ∈ l, (Lit.int .u8 x).wf = true) : ∃ b, Bytes b ∧ spec_l30Open.f l = some (b, 0) := by
  have hw : ∀ x ∈ l, 0 ≤ x ∧ x ≤ 255 := by
    intro x hx
    have := h x hx
    simp [Lit.wf, IntKind.min, IntKind.max, IntKind.signed, IntKind.bits] at this
    omega
  unfold spec_l30Open.f
  by_cases h1 : (l.length : Int) > 2000
  · have h2 : 2000 ≤ (l.length : Int) := by omega
    rw [if_pos h1, if_pos h2]
    exact ⟨_, ⟨by rw [List.length_take]; omega, fun x hx => hw x (List.mem_of_mem_take hx)⟩, rfl⟩
  · rw [if_neg h1]
    exact ⟨_, ⟨by omega, hw⟩, rfl⟩
theorem l30Net_loop {b : List Int} (hb : Bytes b) {n : Int} (hn : 2 ≤ n ∧ n ≤ 6) : ∀ (m : Nat) (l : List S58) (p : Int), l.length + m ≤ 13 → 0 ≤ p → p + 6 * m ≤ 100000 →
    ∃ l' q, Ev (fun k => spec_l30Net.l0 k (m : Int) b p n l) (n, l', q) ∧ l'.length ≤ 13 ∧ 0 ≤ q ∧ q ≤ p + 6 * m := by
  intro m
  induction m with
  | zero =>
    intro l p hl hp hq
    exact ⟨l, p, ev_shift (qQl fun k => by simp [spec_l30Net.l0]), by omega, hp, by omega⟩
  | succ m ih =>
    intro l p hl hp hq
    obtain ⟨v1, e1, _⟩ := qVc hb hp (by omega) (n := n) (by omega)
    obtain ⟨v2, e2, _⟩ := qVc hb (p := p + 1) (by omega) (by omega) (n := n) (by omega)
    obtain ⟨v3, e3, _⟩ := qVc hb (p := p + 1 + 1) (by omega) (by omega) (n := 100) (by omega)
    obtain ⟨v4, _, e4⟩ := qYm hb (p := p + 1 + 1 + 1) (by omega) (by omega) [0, 1, 2, 5, 9, v3] (by simp) (by simp)
    obtain ⟨v5, _, e5⟩ := qYm hb (p := p + 1 + 1 + 1 + 1) (by omega) (by omega) [0, 0, 3, 8] (by simp) (by simp)
    obtain ⟨v6, e6, _⟩ := qVc hb (p := p + 1 + 1 + 1 + 1 + 1) (by omega) (by omega) (n := 10) (by omega)
    have hpos : ((m + 1 : Nat) : Int) > 0 := by omega
    have hw : wrap64 (((m + 1 : Nat) : Int) - 1) = (m : Int) := by rw [w_id (by omega) (by omega)]; omega
    have hlen : l.length < 3518437208883 := by omega
    have hn0 : ¬ n = 0 := by omega
    by_cases hv : v1 = v2
    · obtain ⟨l', q, he, h1, h2, h3⟩ := ih (l ++ [⟨v1, Int.tmod (wrap64 (v2 + 1)) n, v4, v5, v6⟩]) (p + 1 + 1 + 1 + 1 + 1 + 1) (by rw [List.length_append]; simp; omega) (by omega) (by omega)
      refine ⟨l', q, ev_shift ?_, h1, h2, by omega⟩
      simp only [spec_l30Net.l0, hpos, if_true]
      refine Ev.bind e1 (Ev.bind e2 (Ev.bind e3 (Ev.bind e4 (Ev.bind e5 (Ev.bind e6 ?_)))))
      simp only [hv, hn0, hlen, if_true, if_false, hw]
      rw [hv] at he
      exact he
    · obtain ⟨l', q, he, h1, h2, h3⟩ := ih (l ++ [⟨v1, v2, v4, v5, v6⟩]) (p + 1 + 1 + 1 + 1 + 1 + 1) (by rw [List.length_append]; simp; omega) (by omega) (by omega)
      refine ⟨l', q, ev_shift ?_, h1, h2, by omega⟩
      simp only [spec_l30Net.l0, hpos, if_true]
      refine Ev.bind e1 (Ev.bind e2 (Ev.bind e3 (Ev.bind e4 (Ev.bind e5 (Ev.bind e6 ?_)))))
      simp only [hv, hlen, if_true, if_false, hw]
      exact he
theorem l30Net_ex {b : List Int} (hb : Bytes b) {p : Int} (hp : 0 ≤ p) (hp2 : p ≤ 90000) :
    ∃ n l q, Ev (fun k => spec_l30Net.f k b p) (n, l, q) ∧ l.length ≤ 13 ∧ 0 ≤ q ∧ q ≤ p + 100 ∧ 2 ≤ n ∧ n ≤ 6 := by
  obtain ⟨v1, e1, h1, h1', _⟩ := qVc hb hp (by omega) (n := 5) (by omega)
  obtain ⟨v2, e2, h2, h2', _⟩ := qVc hb (p := p + 1) (by omega) (by omega) (n := 14) (by omega)
  have h1' := h1' (by omega)
  have h2' := h2' (by omega)
  obtain ⟨m, rfl⟩ := Int.eq_ofNat_of_zero_le h2
  have hw : wrap64 (2 + v1) = 2 + v1 := w_id (by omega) (by omega)
  obtain ⟨l, q, he, h3, h4, h5⟩ := l30Net_loop hb (n := 2 + v1) (by omega) m [] (p + 1 + 1) (by simp; omega) (by omega) (by omega)
  refine ⟨2 + v1, l, q, ?_, h3, h4, by omega, by omega, by omega⟩
  unfold spec_l30Net.f
  refine Ev.bind e1 (Ev.bind e2 ?_)
  rw [hw]
  exact he
theorem l30Node_ex {b : List Int} (hb : Bytes b) {p : Int} (hp : 0 ≤ p) (hp2 : p ≤ 90000) (n : Int) (hn : n ≤ 1000000) (l : List S58) :
    ∃ v q, Ev (fun k => spec_l30Node.f k b p n l) (v, q) ∧ 0 ≤ q ∧ q ≤ p + 10 := by
  obtain ⟨v1, e1, _⟩ := qVc hb hp (by omega) (n := 16) (by omega)
  unfold spec_l30Node.f
  by_cases c : v1 = 0
  · obtain ⟨v2, _, e2⟩ := qYm hb (p := p + 1) (by omega) (by omega) [(-1), n] (by simp) (by simp)
    refine ⟨v2, p + 1 + 1, Ev.bind e1 ?_, by omega, by omega⟩
    simp only [c, if_true]
    exact Ev.bind e2 (qQl fun _ => rfl)
  · obtain ⟨v2, e2, _⟩ := qVc hb (p := p + 1) (by omega) (by omega) (n := n) hn
    refine ⟨v2, p + 1 + 1, Ev.bind e1 ?_, by omega, by omega⟩
    simp only [c, if_false]
    exact Ev.bind e2 (qQl fun _ => rfl)
theorem l30AnyNet_ex9 {b : List Int} (hb : Bytes b) {p : Int} (hp : 0 ≤ p) (hp2 : p ≤ 90000) :
    ∃ n l q, Ev (fun k => spec_l30AnyNet.f k b p) (n, l, q) ∧ l.length ≤ 13 ∧ 0 ≤ q ∧ q ≤ p + 200 ∧ n ≤ 9 := by
  obtain ⟨n, l, q, he, h1, h2, h3, h4, h5⟩ := l30Net_ex hb hp hp2
  unfold spec_l30AnyNet.f
  by_cases hl : (l.length : Int) > 0
  · obtain ⟨v1, e1, g1, g2, _⟩ := qVc hb h2 (by omega) (n := (l.length : Int)) (by omega)
    have g2 := g2 (by omega)
    obtain ⟨v2, e2, _⟩ := qVc hb (p := q + 1) (by omega) (by omega) (n := 16) (by omega)
    by_cases c0 : v2 = 0
    · obtain ⟨v3, _, e3⟩ := qYm hb (p := q + 1 + 1) (by omega) (by omega) [(-1), 8, (qZa l v1).f0] (by simp) (by simp)
      refine ⟨n, l.set v1.toNat (⟨(qZa l v1).f0, v3, (qZa l v1).f2, (qZa l v1).f3, (qZa l v1).f4⟩ : S58), q + 1 + 1 + 1, Ev.bind he ?_, ?_, ?_, ?_, ?_⟩
      · simp only [hl, if_true]
        refine Ev.bind e1 (Ev.bind e2 ?_)
        simp only [c0, if_true, g1, g2]
        exact Ev.bind e3 (qQl fun _ => rfl)
      · rw [List.length_set]; exact h1
      · omega
      · omega
      · omega
    · by_cases c1 : v2 = 1
      · obtain ⟨v3, _, e3⟩ := qYm hb (p := q + 1 + 1) (by omega) (by omega) [(-1), 100] (by simp) (by simp)
        refine ⟨n, l.set v1.toNat (⟨(qZa l v1).f0, (qZa l v1).f1, v3, (qZa l v1).f3, (qZa l v1).f4⟩ : S58), q + 1 + 1 + 1, Ev.bind he ?_, ?_, ?_, ?_, ?_⟩
        · simp only [hl, if_true]
          refine Ev.bind e1 (Ev.bind e2 ?_)
          simp only [c1, if_true, show ¬ (1 : Int) = 0 by omega, if_false]
          refine Ev.bind e3 ?_
          simp only [g1, g2, if_true]
          exact qQl fun _ => rfl
        · rw [List.length_set]; exact h1
        · omega
        · omega
        · omega
      · by_cases c2 : v2 = 2
        · obtain ⟨v3, hv3, e3⟩ := qYm hb (p := q + 1 + 1) (by omega) (by omega) [0, 1, 9, 8] (by simp) (by simp)
          refine ⟨v3, l, q + 1 + 1 + 1, Ev.bind he ?_, h1, by omega, by omega, by simp only [List.mem_cons, List.not_mem_nil, or_false] at hv3; omega⟩
          simp only [hl, if_true]
          refine Ev.bind e1 (Ev.bind e2 ?_)
          simp only [c2, if_true, show ¬ (2 : Int) = 0 by omega, show ¬ (2 : Int) = 1 by omega, if_false]
          exact Ev.bind e3 (qQl fun _ => rfl)
        · refine ⟨n, l, q + 1 + 1, Ev.bind he ?_, h1, by omega, by omega, by omega⟩
          simp only [hl, if_true]
          refine Ev.bind e1 (Ev.bind e2 ?_)
          simp only [c0, c1, c2, if_false]
          exact qQl fun _ => rfl
  · refine ⟨n, l, q, Ev.bind he ?_, h1, h2, by omega, by omega⟩
    simp only [hl, if_false]
    exact qQl fun _ => rfl
theorem l30AnyNet_ex {b : List Int} (hb : Bytes b) {p : Int} (hp : 0 ≤ p) (hp2 : p ≤ 90000) :
    ∃ n l q, Ev (fun k => spec_l30AnyNet.f k b p) (n, l, q) ∧ l.length ≤ 13 ∧ 0 ≤ q ∧ q ≤ p + 200 ∧ n ≤ 1000000 := by
  obtain ⟨n, l, q, h1, h2, h3, h4, h5⟩ := l30AnyNet_ex9 hb hp hp2
  exact ⟨n, l, q, h1, h2, h3, h4, by omega⟩
theorem drawSomeOthers_ex (c : List Int) (h : ∀ x ∈ c, (Lit.int .u8 x).wf = true) : ∃ n l a b m s, Ev (fun k => spec_DrawSomeOthers.f k c) (n, l, a, b, m, s) ∧ l.length ≤ 13 := by
  obtain ⟨y, hb, ho⟩ := open_ex c h
  obtain ⟨n, l, q, he, h1, h2, h3, h4⟩ := l30AnyNet_ex hb (p := 0) (by omega) (by omega)
  obtain ⟨a, q1, e1, g1, g2⟩ := l30Node_ex hb h2 (by omega) n h4 l
  obtain ⟨b, q2, e2, g3, g4⟩ := l30Node_ex hb g1 (by omega) n h4 l
  obtain ⟨d, hd, e3⟩ := qYm hb (p := q2) g3 (by omega) [0, 50, 200, 201] (by simp) (by simp)
  obtain ⟨f, hf, e4⟩ := qYm hb (p := q2 + 1) (by omega) (by omega) [0, 50, 100, -1] (by simp) (by simp)
  unfold spec_DrawSomeOthers.f
  simp only [ho, Option.bind_some]
  exact ⟨n, l, a, b, d, f, Ev.bind he (Ev.bind e1 (Ev.bind e2 (Ev.bind e3 (Ev.bind e4 (qQl fun _ => rfl))))), h1⟩
structure Net1 (n : Int) (l : List S58) : Prop where
  lo : 1 ≤ n
  hi : n ≤ 8
  len : l.length ≤ 16
  ends : ∀ x ∈ l, 0 ≤ x.f0 ∧ x.f0 < n ∧ 0 ≤ x.f1 ∧ x.f1 < n ∧ x.f0 ≠ x.f1 ∧ 0 ≤ x.f2 ∧ x.f2 ≤ 99 ∧ 0 ≤ x.f3 ∧ x.f3 ≤ 99 ∧ 0 ≤ x.f4 ∧ x.f4 ≤ 9
theorem qKk {n : Int} {l : List S58} (h : netOkB n l = true) : Net1 n l := by
  unfold netOkB at h
  simp only [Bool.and_eq_true, decide_eq_true_eq, qKl, Bool.not_eq_true'] at h
  obtain ⟨⟨h1, h2⟩, h3, h4⟩ := h
  refine ⟨h1, h2, h3, fun x hx => ?_⟩
  have h5 : arcBad n x = false := by
    cases h6 : arcBad n x with
    | false => rfl
    | true => rw [List.any_eq_true.2 ⟨x, hx, h6⟩] at h4; cases h4
  rw [arcBad_eq] at h5
  simp only [Bool.not_eq_false', Bool.and_eq_true, qKl, Bool.not_eq_true', beq_eq_false_iff_ne] at h5
  rw [w_id (n := n - 1) (by omega) (by omega)] at h5
  obtain ⟨a, b, c, d, e, f⟩ := h5
  exact ⟨a.1, by omega, b.1, by omega, c, d.1, d.2, e.1, e.2, f.1, f.2⟩
def DV (l : List S58) (tg : Int) : Nat → Int → List Int → List Int → List (List Int)
  | 0, _, _, _ => []
  | m + 1, at_, vis, w => if at_ = tg then [w] else (List.range l.length).flatMap fun (i : Nat) => if (qZa l (i : Int)).f0 = at_ ∧ (qZa l (i : Int)).f1 ∉ vis then DV l tg m (qZa l (i : Int)).f1 ((qZa l (i : Int)).f1 :: vis) (w ++ [(i : Int)]) else []
theorem flatMap_len {α : Type} (b : Nat) (f : α → List (List Int)) : ∀ L : List α, (∀ x ∈ L, (f x).length ≤ b) → (L.flatMap f).length ≤ L.length * b
  | [], _ => by simp
  | x :: r, h => by
    rw [List.flatMap_cons, List.length_append, List.length_cons, Nat.add_mul, Nat.one_mul]
    have := flatMap_len b f r fun y hy => h y (by simp [hy])
    have := h x (by simp)
    omega
theorem DV_len (l : List S58) (hl : l.length ≤ 16) (tg : Int) : ∀ (m : Nat) (at_ : Int) (vis w : List Int), (DV l tg m at_ vis w).length ≤ 16 ^ m
  | 0, _, _, _ => by simp [DV]
  | m + 1, at_, vis, w => by
    rw [DV]
    have hp : 0 < 16 ^ m := Nat.pos_of_ne_zero (by simp)
    split
    · rw [Nat.pow_succ]; simp; omega
    · refine Nat.le_trans (flatMap_len (16 ^ m) _ _ fun i _ => ?_) ?_
      · split
        · exact DV_len l hl tg m _ _ _
        · exact Nat.zero_le _
      · rw [List.length_range, Nat.pow_succ, Nat.mul_comm (16 ^ m)]
        exact Nat.mul_le_mul_right _ hl
theorem qXj : ∀ (b : Nat) (vis : List Int), vis.Nodup → (∀ v ∈ vis, 0 ≤ v ∧ v < (b : Int)) → vis.length ≤ b
  | 0, [], _, _ => Nat.le_refl _
  | 0, v :: r, _, h => by have := h v (by simp); omega
  | b + 1, vis, hn, h => by
    have h2 := qXj b (vis.erase (b : Int)) (hn.erase _) fun v hv => by
      have h3 := h v (List.mem_of_mem_erase hv)
      have h4 : v ≠ (b : Int) := fun e => by subst e; exact (hn.not_mem_erase) hv
      omega
    have h5 := List.length_erase (a := (b : Int)) (l := vis)
    rw [h5] at h2
    split at h2 <;> omega
def maskOk (s : Nat) (vis : List Int) : Prop := ∀ v : Nat, v < 8 → (s / 2 ^ v % 2 = 0 ↔ (v : Int) ∉ vis)
theorem mask_next {s : Nat} {vis : List Int} (h : maskOk s vis) {u : Int} (h0 : 0 ≤ u) : maskOk (s ||| 2 ^ u.toNat) (u :: vis) := by
  intro v hv
  have h1 := h v hv
  have e : ∀ x : Nat, x / 2 ^ v % 2 = 0 ↔ x.testBit v = false := fun x => by rw [Nat.testBit_eq_decide_div_mod_eq, decide_eq_false_iff_not]; omega
  rw [e] at h1 ⊢
  rw [Nat.testBit_or, Bool.or_eq_false_iff, h1, Nat.testBit_two_pow, decide_eq_false_iff_not, List.mem_cons]
  constructor
  · rintro ⟨a, b⟩ (c | c)
    · exact b (by omega)
    · exact a c
  · intro a
    exact ⟨fun c => a (.inr c), fun c => a (.inl (by omega))⟩
theorem loop_flat (G : Int → List (List Int) → Option (List (List Int))) (F : Nat → List (List Int)) (b B N : Nat) (hG : ∀ (i : Nat) (o : List (List Int)), i < N → o.length + b ≤ B → G (i : Int) o = some (o ++ F i)) (hF : ∀ i, (F i).length ≤ b) : ∀ (c i : Nat) (o : List (List Int)), i + c ≤ N → o.length + c * b ≤ B → loopS G c i o = some (o ++ ((List.range' i c).flatMap F))
  | 0, i, o, _, _ => by simp [loopS]
  | c + 1, i, o, hN, h => by
    rw [Nat.add_mul, Nat.one_mul] at h
    rw [loopS, hG i o (by omega) (by omega), Option.bind_some, loop_flat G F b B N hG hF c (i + 1) _ (by omega) (by rw [List.length_append]; have := hF i; omega), List.range'_succ, List.flatMap_cons, List.append_assoc]
theorem folF_eq {n : Int} {l : List S58} (hn : Net1 n l) (tg : Int) : ∀ (m : Nat) (at_ : Int) (vis : List Int) (s : Nat) (w : List Int) (out : List (List Int)), vis.Nodup → (∀ v ∈ vis, 0 ≤ v ∧ v < (8 : Nat)) → vis.length + m = 9 → maskOk s vis → out.length + 16 ^ m ≤ 100000000000 → folF l tg m at_ s w out = some (out ++ DV l tg m at_ vis w)
  | 0, at_, vis, s, w, out, h1, h2, h3, _, _ => by have := qXj 8 vis h1 h2; omega
  | m + 1, at_, vis, s, w, out, h1, h2, h3, h4, h5 => by
    rw [folF, DV]
    have hp : 0 < 16 ^ m := Nat.pos_of_ne_zero (by simp)
    rw [Nat.pow_succ] at h5
    by_cases e : at_ = tg
    · rw [if_pos e, if_pos e, if_pos (by omega)]
    · rw [if_neg e, if_neg e]
      have hl := hn.len
      have hm : l.length * 16 ^ m ≤ 16 * 16 ^ m := Nat.mul_le_mul_right _ hl
      rw [List.range_eq_range']
      refine loop_flat _ _ (16 ^ m) 100000000000 l.length (fun i o hi ho => ?_) (fun i => ?_) _ _ _ (by omega) (by omega)
      · have hx := hn.ends _ (List.getElem_mem hi)
        rw [← jZj l i hi] at hx
        generalize qZa l (i : Int) = x at hx ⊢
        obtain ⟨_, _, e3, e4, _⟩ := hx
        have hhi := hn.hi
        have hb := h4 x.f1.toNat (by omega)
        rw [Int.toNat_of_nonneg e3] at hb
        by_cases c : x.f0 = at_ ∧ x.f1 ∉ vis
        · rw [if_pos ⟨c.1, hb.2 c.2⟩, if_pos c]
          exact folF_eq hn tg m _ _ _ _ _ (List.nodup_cons.2 ⟨c.2, h1⟩) (fun v hv => by
            rw [List.mem_cons] at hv
            rcases hv with rfl | hv
            · exact ⟨e3, by omega⟩
            · exact h2 v hv) (by rw [List.length_cons]; omega) (mask_next h4 e3) ho
        · rw [if_neg (fun z => c ⟨z.1, hb.1 z.2⟩), if_neg c, List.append_nil]
      · split
        · exact DV_len l hl tg m _ _ _
        · exact Nat.zero_le _
theorem qYa {n : Int} {l : List S58} (hn : Net1 n l) {a : Int} (h : inB a 0 (wrap64 (n - 1)) = true) : 0 ≤ a ∧ a < n := by
  have := hn.lo
  have := hn.hi
  rw [qKl, w_id (n := n - 1) (by omega) (by omega)] at h
  omega
theorem nodesIn_eq (n : Int) (l : List S58) (ns : List Int) : impl_nodesIn.f n l ns = some (netOkB n l && hasB n ns) := by
  unfold impl_nodesIn.f impl_Net_has.f
  rw [netOk_eq]
  cases netOkB n l <;> rfl
theorem hasB2 (n a b : Int) : hasB n [a, b] = (inB a 0 (wrap64 (n - 1)) && inB b 0 (wrap64 (n - 1))) := by unfold hasB; simp
def qXd (l : List S58) : List Int → List Int → Bool := qWg fun x => wcost l x 0
def someD (l : List S58) (a b : Int) : List (List Int) := DV l b 8 a [a] []
def someL (l : List S58) (a b : Int) : List (List Int) := jQb (qXd l) (someD l a b)
theorem DV_in (l : List S58) (tg : Int) : ∀ (m : Nat) (at_ : Int) (vis w : List Int), (∀ k ∈ w, 0 ≤ k ∧ k < (l.length : Int)) → ∀ d ∈ DV l tg m at_ vis w, ∀ k ∈ d, 0 ≤ k ∧ k < (l.length : Int)
  | 0, _, _, _, _, d, hd => by simp [DV] at hd
  | m + 1, at_, vis, w, hw, d, hd => by
    rw [DV] at hd
    split at hd
    · rw [List.mem_singleton] at hd
      subst hd
      exact hw
    · obtain ⟨i, hi, hd⟩ := List.mem_flatMap.1 hd
      split at hd
      · refine DV_in l tg m _ _ _ (fun k hk => ?_) d hd
        rw [List.mem_append, List.mem_singleton] at hk
        rw [List.mem_range] at hi
        rcases hk with hk | hk
        · exact hw k hk
        · omega
      · cases hd
theorem simF_eq {n : Int} {l : List S58} (hn : Net1 n l) {a : Int} (ha : 0 ≤ a ∧ a < n) (b : Int) : simF l a b = some (someL l a b) := by
  have hhi := hn.hi
  have hll := hn.len
  have h1 : (l.all fun x => decide (0 ≤ x.f1 ∧ x.f1 < 8)) = true := by
    rw [List.all_eq_true]
    intro x hx
    obtain ⟨_, _, e3, e4, _⟩ := hn.ends x hx
    exact decide_eq_true ⟨e3, by omega⟩
  have hm : maskOk (2 ^ a.toNat) [a] := by
    have h0 : maskOk 0 [] := fun v _ => by simp
    have := mask_next h0 ha.1
    rwa [Nat.zero_or] at this
  have hf := folF_eq hn b 8 a [a] (2 ^ a.toNat) [] [] (by simp) (fun v hv => by rw [List.mem_singleton] at hv; subst hv; exact ⟨ha.1, by omega⟩) (by simp) hm (by simp)
  have hlen := DV_len l hll b 8 a [a] []
  have h2 : ((DV l b 8 a [a] []).all fun w => w.all fun k => decide (0 ≤ k ∧ k < (l.length : Int))) = true := by
    rw [List.all_eq_true]
    intro w hw
    rw [List.all_eq_true]
    intro k hk
    exact decide_eq_true (DV_in l b 8 a [a] [] (by simp) w hw k hk)
  unfold simF
  rw [if_pos ⟨h1, by omega, ha.1, by omega⟩, hf, List.nil_append, Option.bind_some, if_pos ⟨h2, by omega⟩]
  rfl
theorem someI_ok {n : Int} {l : List S58} (hok : netOkB n l = true) {a b m : Int} (ha : inB a 0 (wrap64 (n - 1)) = true) (hb : inB b 0 (wrap64 (n - 1)) = true) (hab : a ≠ b) (hm : inB m 1 6 = true) : impl_SomeWalks.f n l a b m = some ((someL l a b).take m.toNat) := by
  have hn := qKk hok
  have hm2 := qKl.1 hm
  unfold impl_SomeWalks.f swF
  rw [nodesIn_eq, hasB2, hok, ha, hb, Option.bind_some, if_pos (show (true && (true && true)) = true from rfl), if_neg hab, qXm, Option.bind_some, hm, if_pos rfl, simF_eq hn (qYa hn ha), Option.bind_some, if_pos (by omega)]
theorem someI_bad {n : Int} {l : List S58} {a b m : Int} (h : ¬ (netOkB n l = true ∧ inB a 0 (wrap64 (n - 1)) = true ∧ inB b 0 (wrap64 (n - 1)) = true ∧ a ≠ b ∧ inB m 1 6 = true)) : impl_SomeWalks.f n l a b m = some [] := by
  unfold impl_SomeWalks.f swF
  rw [nodesIn_eq, hasB2, Option.bind_some]
  cases h1 : netOkB n l with
  | false => rfl
  | true =>
  cases h2 : inB a 0 (wrap64 (n - 1)) with
  | false => rfl
  | true =>
  cases h3 : inB b 0 (wrap64 (n - 1)) with
  | false => rfl
  | true =>
  rw [if_pos (show (true && (true && true)) = true from rfl)]
  by_cases e : a = b
  · rw [if_pos e]
  · rw [if_neg e, qXm, Option.bind_some]
    cases h4 : inB m 1 6 with
    | false => rfl
    | true => exact absurd ⟨h1, h2, h3, e, h4⟩ h
def fillW (lt : List Int → List Int → Bool) (m : Nat) (L D : List (List Int)) : List (List Int) := D.foldl (fun L w => (insW lt w L).take m) L
theorem insW_take {lt : List Int → List Int → Bool} (w : List Int) : ∀ (m : Nat) (L : List (List Int)), (insW lt w (L.take m)).take m = (insW lt w L).take m
  | 0, L => by rw [List.take_zero, List.take_zero]
  | m + 1, [] => by rw [List.take_nil]
  | m + 1, e :: r => by
    rw [List.take_succ_cons, insW, insW]
    split
    · rw [List.take_succ_cons, List.take_succ_cons]
      congr 1
      cases m with
      | zero => rw [List.take_zero, List.take_zero]
      | succ m => rw [List.take_succ_cons, List.take_succ_cons, List.take_take, Nat.min_eq_left (by omega)]
    · rw [List.take_succ_cons, List.take_succ_cons, insW_take w m r]
theorem fillW_take {lt : List Int → List Int → Bool} (m : Nat) : ∀ (D L : List (List Int)), fillW lt m (L.take m) D = (D.foldl (fun L w => insW lt w L) L).take m
  | [], L => rfl
  | d :: D, L => by
    unfold fillW
    rw [List.foldl_cons, List.foldl_cons, insW_take]
    exact fillW_take m D _
theorem fillW_sort {lt : List Int → List Int → Bool} (m : Nat) (D : List (List Int)) : fillW lt m [] D = (jQb lt D).take m := by
  have := fillW_take (lt := lt) m D []
  rwa [List.take_nil] at this
theorem fillW_append {lt : List Int → List Int → Bool} (m : Nat) (L D E : List (List Int)) : fillW lt m L (D ++ E) = fillW lt m (fillW lt m L D) E := by unfold fillW; rw [List.foldl_append]
theorem insW_end {lt : List Int → List Int → Bool} (w : List Int) : ∀ L : List (List Int), (∀ e ∈ L, lt w e = false) → insW lt w L = L ++ [w]
  | [], _ => rfl
  | e :: r, h => by rw [insW, if_neg (by rw [h e (by simp)]; exact Bool.false_ne_true), insW_end w r fun x hx => h x (by simp [hx]), List.cons_append]
theorem sorted_take {lt : List Int → List Int → Bool} {L : List (List Int)} (h : qJj lt L) (m : Nat) : qJj lt (L.take m) := List.Pairwise.sublist (List.take_sublist m L) h
theorem fillW_ok {lt : List Int → List Int → Bool} (h : TO lt) {m : Nat} : ∀ (D : List (List Int)) {L : List (List Int)}, qJj lt L → L.length ≤ m → qJj lt (fillW lt m L D) ∧ (fillW lt m L D).length ≤ m
  | [], _, hs, hl => ⟨hs, hl⟩
  | d :: D, L, hs, hl => by
    unfold fillW
    rw [List.foldl_cons]
    exact fillW_ok h D (sorted_take (qKj h d hs) m) (by rw [List.length_take]; omega)
theorem fillW_full {lt : List Int → List Int → Bool} (h : TO lt) {m : Nat} : ∀ (D : List (List Int)) {L : List (List Int)}, qJj lt L → (hl : L.length = m) → (hm : 0 < m) → (∀ d ∈ D, lt (L[m - 1]'(by omega)) d = true) → fillW lt m L D = L
  | [], _, _, _, _, _ => rfl
  | d :: D, L, hs, hl, hm, hd => by
    unfold fillW
    rw [List.foldl_cons]
    have e : (insW lt d L).take m = L := by
      rw [insW_end d L, List.take_left' hl]
      intro e he
      obtain ⟨j, hj, rfl⟩ := List.getElem_of_mem he
      have h1 := h.asym (hd d (by simp))
      by_cases e2 : j = m - 1
      · subst e2; exact h1
      · have h2 := List.pairwise_iff_getElem.1 hs j (m - 1) hj (by omega) (by omega)
        exact h.nlt h1 h2
    rw [e]
    exact fillW_full h D hs hl hm fun x hx => hd x (by simp [hx])
theorem insW_at {lt : List Int → List Int → Bool} (w : List Int) : ∀ (L : List (List Int)) (j : Nat), j ≤ L.length → (∀ i (h : i < L.length), i < j → lt w L[i] = false) → (∀ h : j < L.length, lt w L[j] = true) → insW lt w L = L.take j ++ w :: L.drop j
  | [], j, hj, _, _ => by
    have : j = 0 := by simpa using hj
    subst this
    rfl
  | e :: r, 0, _, _, h2 => by rw [insW, if_pos (show lt w e = true from h2 (by simp))]; rfl
  | e :: r, j + 1, hj, h1, h2 => by
    rw [insW, if_neg (by rw [show lt w e = false from h1 0 (by simp) (by omega)]; exact Bool.false_ne_true), List.take_succ_cons, List.drop_succ_cons, List.cons_append]
    congr 1
    exact insW_at w r j (by simpa using hj) (fun i h hi => h1 (i + 1) (by simpa using h) (by omega)) (fun h => h2 (by simpa using h))
def qJg (l : List S58) (w : List Int) : S103 := ⟨w, wcost l w 0⟩
theorem jZf (l : List S58) : ∀ (u e : List Int) (s : Int), wcost l (u ++ e) s = wcost l e (wcost l u s)
  | [], e, s => rfl
  | x :: u, e, s => by rw [List.cons_append, wcost, wcost, jZf l u e]
theorem wcost_one (l : List S58) (u : List Int) (i s : Int) : wcost l (u ++ [i]) s = wrap64 (wcost l u s + (qZa l i).f2) := by rw [jZf, wcost, wcost]
theorem qWi {n : Int} {l : List S58} (hn : Net1 n l) : ∀ (e : List Int) (s : Int), (∀ k ∈ e, 0 ≤ k ∧ k < (l.length : Int)) → 0 ≤ s → s + 99 * (e.length : Int) ≤ 1000000000 → s ≤ wcost l e s ∧ wcost l e s ≤ s + 99 * (e.length : Int)
  | [], s, _, _, _ => by simp [wcost]
  | x :: r, s, h, h0, h1 => by
    rw [List.length_cons] at h1 ⊢
    obtain ⟨a, b⟩ := h x (by simp)
    obtain ⟨j, rfl⟩ := Int.eq_ofNat_of_zero_le a
    obtain ⟨_, _, _, _, _, e6, e7, _⟩ := hn.ends _ (List.getElem_mem (show j < l.length by omega))
    rw [← jZj l j (by omega)] at e6 e7
    rw [wcost, w_id (by omega) (by omega)]
    have := qWi hn r (s + (qZa l (j : Int)).f2) (fun k hk => h k (by simp [hk])) (by omega) (by omega)
    omega
theorem way_at (L : List S103) (i : Nat) (h : i < L.length) : qQg L (i : Int) = L[i] := by simp [qQg, h]
theorem l14Less_ev (l : List S58) (a b : List Int) (ha : a.length ≤ 1000) (hb : b.length ≤ 1000) : Ev (fun k => spec_l14Less.f k a (wcost l a 0) b (wcost l b 0)) (qXd l a b) := by
  unfold spec_l14Less.f qXd qWg
  by_cases e : wcost l a 0 = wcost l b 0
  · simp only [e, if_true]
    by_cases e2 : a.length = b.length
    · have e3 : (a.length : Int) = (b.length : Int) := by omega
      simp only [e2, if_true]
      have := qXi (fun k (i : Nat) => spec_l14Less.l0 k (i : Int) a (wcost l b 0) b (wcost l b 0)) (fun i => a.length - i) (fun i => i ≤ a.length) (fun i => lexB (a.drop i) (b.drop i)) ?_ 0 (Nat.zero_le _)
      · simpa using this
      intro i hi ih
      by_cases h : i < a.length
      · have hlt : (i : Int) < (a.length : Int) := by omega
        have hlt2 : (i : Int) < (b.length : Int) := by omega
        have h0 : (0 : Int) ≤ (i : Int) := by omega
        have hb2 : i < b.length := by omega
        simp only [spec_l14Less.l0, hlt, hlt2, h0, if_true, qYb a i h, qYb b i hb2, qVh h (show a.length ≤ 9223372036854775807 by omega)]
        rw [List.drop_eq_getElem_cons h, List.drop_eq_getElem_cons hb2, lexB]
        by_cases c : a[i] = b[i]
        · simp only [c, if_true]
          exact ih (i + 1) (by omega) (by omega)
        · simp only [c, if_false]
          exact qQl fun _ => rfl
      · have hlt : ¬ (i : Int) < (a.length : Int) := by omega
        simp only [spec_l14Less.l0, hlt, if_false]
        refine qQl fun _ => ?_
        rw [List.drop_of_length_le (by omega), List.drop_of_length_le (by omega)]
        rfl
    · have e3 : ¬ (a.length : Int) = (b.length : Int) := by omega
      simp only [e2, e3, if_false]
      refine qQl fun _ => ?_
      congr 1
      apply decide_eq_decide.2
      omega
  · simp only [e, if_false]
    exact qQl fun _ => rfl
theorem putTail (l : List S58) (w : List Int) (L : List (List Int)) (j m : Nat) (hj : j ≤ L.length) (e : insW (qXd l) w L = L.take j ++ w :: L.drop j) : (((L.map (qJg l)).take j ++ [qJg l w]) ++ (L.map (qJg l)).drop j).take m = ((insW (qXd l) w L).take m).map (qJg l) := by
  rw [e, List.map_take, List.map_append, List.map_cons, List.map_take, List.map_drop, List.append_assoc, List.singleton_append]
theorem l14Put_ev (l : List S58) (w : List Int) (L : List (List Int)) (m : Int) (hm : 1 ≤ m) (hw : w.length ≤ 1000) (hL : L.length ≤ 1000) (hLw : ∀ x ∈ L, x.length ≤ 1000) : Ev (fun k => spec_l14Put.f k (L.map (qJg l)) w (wcost l w 0) m) (((insW (qXd l) w L).take m.toNat).map (qJg l)) := by
  unfold spec_l14Put.f
  have hml : (L.map (qJg l)).length = L.length := List.length_map _
  have tail : ∀ j : Nat, j ≤ L.length → insW (qXd l) w L = L.take j ++ w :: L.drop j → ∀ Y : List S103, Y = ((L.map (qJg l)).take j ++ [qJg l w]) ++ (L.map (qJg l)).drop j → (if (Y.length : Int) > m then (if 0 ≤ m then (if m ≤ (Y.length : Int) then (some (Y.take m.toNat)) else none) else none) else (some Y)) = some (((insW (qXd l) w L).take m.toNat).map (qJg l)) := by
    intro j hj e Y hY
    rw [← putTail l w L j m.toNat hj e, ← hY]
    by_cases c : (Y.length : Int) > m
    · rw [if_pos c, if_pos (by omega), if_pos (by omega)]
    · rw [if_neg c, List.take_of_length_le (by omega)]
  refine qXi (fun k (j : Nat) => spec_l14Put.l0 k (L.map (qJg l)) m (j : Int) w (wcost l w 0)) (fun j => L.length - j) (fun j => j ≤ L.length ∧ ∀ i (h : i < L.length), i < j → qXd l w L[i] = false) (fun _ => ((insW (qXd l) w L).take m.toNat).map (qJg l)) ?_ 0 ⟨Nat.zero_le _, fun i _ h => absurd h (Nat.not_lt_zero _)⟩
  rintro j ⟨hj, hb⟩ ih
  have hjl : j ≤ (L.map (qJg l)).length := by rw [hml]; exact hj
  have t1 : ((L.map (qJg l)).take j).length = j := by rw [List.length_take, hml]; omega
  have t2 : ((L.map (qJg l)).drop j).length = L.length - j := by rw [List.length_drop, hml]
  by_cases h : j < L.length
  · have hlt : (j : Int) < (L.length : Int) := by omega
    have h0 : (0 : Int) ≤ (j : Int) := by omega
    have hle : (j : Int) ≤ (L.length : Int) := by omega
    have hat : qQg (L.map (qJg l)) (j : Int) = qJg l L[j] := by rw [way_at _ j (by rw [hml]; exact h), List.getElem_map]
    simp only [spec_l14Put.l0, hml, hlt, h0, hle, if_true, hat, qJg, Option.bind_some, List.length_nil, Nat.zero_add, List.nil_append, Int.toNat_natCast, qVh h (show L.length ≤ 9223372036854775807 by omega)]
    refine Ev.bind (l14Less_ev l w L[j] hw (hLw _ (List.getElem_mem h))) ?_
    cases c : qXd l w L[j] with
    | false =>
      simp only [Bool.false_eq_true, if_false]
      exact ih (j + 1) ⟨by omega, fun i hi hij => by
        by_cases e : i = j
        · subst e; exact c
        · exact hb i hi (by omega)⟩ (by omega)
    | true =>
      have e := insW_at (lt := qXd l) w L j hj hb (fun _ => c)
      have b1 : ((L.map (qJg l)).take j).length < 4398046511104 := by rw [t1]; omega
      have b2 : ((L.map (qJg l)).take j ++ [qJg l w]).length + ((L.map (qJg l)).drop j).length < 4398046511104 := by rw [List.length_append, t1, t2]; simp; omega
      have b0 : ((L.map (qJg l)).take j).length < 4398046511104 := b1
      have hk := tail j hj e _ rfl
      unfold qJg at b1 b2 hk ⊢
      simp only [if_true, b1, b2]
      exact qQl fun _ => hk
  · have hlt : ¬ (j : Int) < (L.length : Int) := by omega
    have h0 : (0 : Int) ≤ (j : Int) := by omega
    have hle : (j : Int) ≤ (L.length : Int) := by omega
    have e := insW_at (lt := qXd l) w L j hj hb (fun hc => absurd hc h)
    have b1 : ((L.map (qJg l)).take j).length < 4398046511104 := by rw [t1]; omega
    have b2 : ((L.map (qJg l)).take j ++ [qJg l w]).length + ((L.map (qJg l)).drop j).length < 4398046511104 := by rw [List.length_append, t1, t2]; simp; omega
    have hk := tail j hj e _ rfl
    simp only [spec_l14Put.l0, hml, hlt, h0, hle, if_true, if_false, Option.bind_some, List.length_nil, Nat.zero_add, List.nil_append, Int.toNat_natCast]
    unfold qJg at b1 b2 hk ⊢
    simp only [if_true, b1, b2]
    exact qQl fun _ => hk
inductive SP (l : List S58) (tg : Int) : Int → List Int → List Int → Prop
  | nil {vis : List Int} : SP l tg tg vis []
  | cons {i : Nat} {at_ : Int} {vis e : List Int} : i < l.length → (qZa l (i : Int)).f0 = at_ → at_ ≠ tg → (qZa l (i : Int)).f1 ∉ vis → SP l tg (qZa l (i : Int)).f1 ((qZa l (i : Int)).f1 :: vis) e → SP l tg at_ vis ((i : Int) :: e)
theorem qWj (l : List S58) (tg : Int) : ∀ (m : Nat) (at_ : Int) (vis w d : List Int), d ∈ DV l tg m at_ vis w → ∃ e, d = w ++ e ∧ SP l tg at_ vis e
  | 0, _, _, _, d, hd => by simp [DV] at hd
  | m + 1, at_, vis, w, d, hd => by
    rw [DV] at hd
    split at hd
    · rename_i e
      rw [List.mem_singleton] at hd
      subst e
      exact ⟨[], by rw [List.append_nil]; exact hd, SP.nil⟩
    · rename_i e
      obtain ⟨i, hi, hd⟩ := List.mem_flatMap.1 hd
      split at hd
      · rename_i c
        obtain ⟨e2, h1, h2⟩ := qWj l tg m _ _ _ d hd
        exact ⟨(i : Int) :: e2, by rw [h1, List.append_assoc]; rfl, SP.cons (List.mem_range.1 hi) c.1 e c.2 h2⟩
      · cases hd
theorem DV_full {n : Int} {l : List S58} (hn : Net1 n l) (tg : Int) {at_ : Int} {vis e : List Int} (h : SP l tg at_ vis e) : ∀ (m : Nat) (w : List Int), vis.Nodup → (∀ v ∈ vis, 0 ≤ v ∧ v < (8 : Nat)) → vis.length + m = 9 → w ++ e ∈ DV l tg m at_ vis w := by
  induction h with
  | nil =>
    intro m w h1 h2 h3
    have := qXj 8 _ h1 h2
    obtain ⟨k, rfl⟩ : ∃ k, m = k + 1 := ⟨m - 1, by omega⟩
    rw [DV, if_pos rfl, List.append_nil]
    exact List.mem_singleton.2 rfl
  | @cons i at_ vis e hi h0 hne hv _ ih =>
    intro m w h1 h2 h3
    have := qXj 8 _ h1 h2
    obtain ⟨k, rfl⟩ : ∃ k, m = k + 1 := ⟨m - 1, by omega⟩
    rw [DV, if_neg hne]
    refine List.mem_flatMap.2 ⟨i, List.mem_range.2 hi, ?_⟩
    rw [if_pos ⟨h0, hv⟩]
    have hx := hn.ends _ (List.getElem_mem hi)
    rw [← jZj l i hi] at hx
    obtain ⟨_, _, e3, e4, _⟩ := hx
    have hhi := hn.hi
    have := ih k (w ++ [(i : Int)]) (List.nodup_cons.2 ⟨hv, h1⟩) (fun v hv2 => by
      rw [List.mem_cons] at hv2
      rcases hv2 with rfl | hv2
      · exact ⟨e3, by omega⟩
      · exact h2 v hv2) (by rw [List.length_cons]; omega)
    rwa [List.append_assoc] at this
theorem DV_nodup (l : List S58) (tg : Int) : ∀ (m : Nat) (at_ : Int) (vis w : List Int), (DV l tg m at_ vis w).Nodup
  | 0, _, _, _ => by simp [DV]
  | m + 1, at_, vis, w => by
    rw [DV]
    split
    · simp
    · unfold List.Nodup
      rw [List.pairwise_flatMap]
      constructor
      · intro i _
        split
        · exact DV_nodup l tg m _ _ _
        · exact List.Pairwise.nil
      · refine List.Pairwise.imp ?_ List.nodup_range
        intro i j hij x hx y hy e
        subst e
        split at hx
        · split at hy
          · obtain ⟨e1, h1, _⟩ := qWj l tg m _ _ _ x hx
            obtain ⟨e2, h2, _⟩ := qWj l tg m _ _ _ x hy
            rw [h1, List.append_assoc, List.append_assoc] at h2
            have h3 := List.append_cancel_left h2
            rw [List.singleton_append, List.singleton_append, List.cons.injEq] at h3
            exact hij (by omega)
          · cases hy
        · cases hx
theorem someD_iff {n : Int} {l : List S58} (hn : Net1 n l) {a b : Int} (ha : 0 ≤ a ∧ a < n) (d : List Int) : d ∈ someD l a b ↔ SP l b a [a] d := by
  have hhi := hn.hi
  constructor
  · intro h
    obtain ⟨e, h1, h2⟩ := qWj l b 8 a [a] [] d h
    rw [List.nil_append] at h1
    subst h1
    exact h2
  · intro h
    have := DV_full hn b h 8 [] (by simp) (fun v hv => by rw [List.mem_singleton] at hv; subst hv; exact ⟨ha.1, by omega⟩) (by simp)
    rwa [List.nil_append] at this
theorem someL_mem {n : Int} {l : List S58} (hn : Net1 n l) {a b : Int} (ha : 0 ≤ a ∧ a < n) (d : List Int) : d ∈ someL l a b ↔ SP l b a [a] d := by
  rw [← someD_iff hn ha]
  exact (qYf (qXd l) (someD l a b)).mem_iff
theorem someL_sorted (l : List S58) (a b : Int) : qJj (qXd l) (someL l a b) := sortW_sorted (toW _) _
theorem someL_strict (l : List S58) (a b : Int) : (someL l a b).Pairwise fun x y => qXd l x y = true := by
  have h1 := someL_sorted l a b
  have h2 : (someL l a b).Nodup := (qYf (qXd l) (someD l a b)).nodup_iff.2 (DV_nodup l b 8 a [a] [])
  unfold qJj at h1
  unfold List.Nodup at h2
  refine List.Pairwise.imp ?_ (h1.and h2)
  intro x y h
  cases h3 : qXd l x y with
  | true => rfl
  | false => exact absurd ((toW _).tot x y h3 h.1) h.2
theorem SP.goes {l : List S58} {tg at_ : Int} {vis e : List Int} (h : SP l tg at_ vis e) : (∀ k ∈ e, 0 ≤ k ∧ k < (l.length : Int)) ∧ (vis.Nodup → (∀ v ∈ vis, 0 ≤ v ∧ v < (8 : Nat)) → (∀ x ∈ l, 0 ≤ x.f1 ∧ x.f1 < (8 : Nat)) → e.length + vis.length ≤ 8) := by
  induction h with
  | nil => exact ⟨by simp, fun h1 h2 _ => by have := qXj 8 _ h1 h2; simpa using this⟩
  | @cons i at_ vis e hi h0 hne hv _ ih =>
    refine ⟨fun k hk => ?_, fun h1 h2 h3 => ?_⟩
    · rw [List.mem_cons] at hk
      rcases hk with rfl | hk
      · omega
      · exact ih.1 k hk
    · have hx := h3 _ (List.getElem_mem hi)
      rw [← jZj l i hi] at hx
      have := ih.2 (List.nodup_cons.2 ⟨hv, h1⟩) (fun v hv2 => by
        rw [List.mem_cons] at hv2
        rcases hv2 with rfl | hv2
        · exact hx
        · exact h2 v hv2) h3
      rw [List.length_cons] at this ⊢
      omega
theorem SP.len {n : Int} {l : List S58} (hn : Net1 n l) {a b : Int} (ha : 0 ≤ a ∧ a < n) {e : List Int} (h : SP l b a [a] e) : e.length ≤ 7 := by
  have hhi := hn.hi
  have := h.goes.2 (by simp) (fun v hv => by rw [List.mem_singleton] at hv; subst hv; exact ⟨ha.1, by omega⟩) (fun x hx => by obtain ⟨_, _, e3, e4, _⟩ := hn.ends x hx; exact ⟨e3, by omega⟩)
  simpa using this
theorem seen_back (seen : List Bool) (v : Int) (h0 : 0 ≤ v) (h1 : v < (seen.length : Int)) (h : rdOf false seen v = false) : (seen.set v.toNat true).set v.toNat false = seen := by
  rw [List.set_set]
  have hv : v.toNat < seen.length := by omega
  have e : seen[v.toNat] = false := by
    unfold rdOf at h
    rw [List.getD_eq_getElem?_getD, List.getElem?_eq_getElem hv] at h
    exact h
  rw [← e, List.set_getElem_self]
theorem seen_next {n : Int} {seen : List Bool} {vis : List Int} (hl : (seen.length : Int) = n) (h : ∀ v, 0 ≤ v → v < n → rdOf false seen v = decide (v ∈ vis)) {u : Int} (h0 : 0 ≤ u) (h1 : u < n) : ∀ v, 0 ≤ v → v < n → rdOf false (seen.set u.toNat true) v = decide (v ∈ u :: vis) := by
  intro v v0 v1
  have h2 := h v v0 v1
  unfold rdOf at h2 ⊢
  rw [List.getD_eq_getElem?_getD, List.getElem?_set]
  by_cases e : u = v
  · subst e
    rw [if_pos rfl, if_pos (by omega)]
    simp
  · rw [if_neg (by omega), ← List.getD_eq_getElem?_getD, h2]
    apply decide_eq_decide.2
    rw [List.mem_cons]
    constructor
    · intro a; exact .inr a
    · rintro (a | a)
      · exact absurd a.symm e
      · exact a
theorem fillW_sub {lt : List Int → List Int → Bool} {m : Nat} : ∀ (D L : List (List Int)), ∀ x ∈ fillW lt m L D, x ∈ L ∨ x ∈ D
  | [], L, x, hx => .inl hx
  | d :: D, L, x, hx => by
    unfold fillW at hx
    rw [List.foldl_cons] at hx
    rcases fillW_sub D _ x hx with h | h
    · have h2 := (qWc lt d L).subset (List.mem_of_mem_take h)
      rw [List.mem_cons] at h2
      rcases h2 with rfl | h2
      · exact .inr (by simp)
      · exact .inl h2
    · exact .inr (by simp [h])
theorem jQd (l : List S58) (tg : Int) : ∀ (m : Nat) (at_ : Int) (vis w : List Int), ∀ d ∈ DV l tg m at_ vis w, d.length ≤ w.length + m
  | 0, _, _, _, d, hd => by simp [DV] at hd
  | m + 1, at_, vis, w, d, hd => by
    rw [DV] at hd
    split at hd
    · rw [List.mem_singleton] at hd
      subst hd
      omega
    · obtain ⟨i, _, hd⟩ := List.mem_flatMap.1 hd
      split at hd
      · have := jQd l tg m _ _ _ d hd
        rw [List.length_append, List.length_singleton] at this
        omega
      · cases hd
theorem wcost_more {n : Int} {l : List S58} (hn : Net1 n l) {w e : List Int} (hw : ∀ k ∈ w, 0 ≤ k ∧ k < (l.length : Int)) (he : ∀ k ∈ e, 0 ≤ k ∧ k < (l.length : Int)) (hl : w.length ≤ 1000) (hl2 : e.length ≤ 1000) : wcost l w 0 ≤ wcost l (w ++ e) 0 := by
  rw [jZf]
  have h1 := qWi hn w 0 hw (by omega) (by omega)
  exact (qWi hn e _ he (by omega) (by omega)).1
theorem l14Go_ev {n : Int} {l : List S58} (hn : Net1 n l) (tg most : Int) (hm1 : 1 ≤ most) (hm6 : most ≤ 6) : ∀ (m : Nat) (at_ : Int) (vis : List Int) (seen : List Bool) (w : List Int) (L : List (List Int)), vis.Nodup → (∀ v ∈ vis, 0 ≤ v ∧ v < (8 : Nat)) → vis.length + m = 9 → (seen.length : Int) = n → (∀ v, 0 ≤ v → v < n → rdOf false seen v = decide (v ∈ vis)) → w.length + m ≤ 9 → (∀ k ∈ w, 0 ≤ k ∧ k < (l.length : Int)) → qJj (qXd l) L → L.length ≤ most.toNat → (∀ x ∈ L, x.length ≤ 1000) →
    Ev (fun k => spec_l14Go.f k n l tg most at_ seen w (wcost l w 0) (L.map (qJg l))) ((fillW (qXd l) most.toNat L (DV l tg m at_ vis w)).map (qJg l), seen)
  | 0, at_, vis, seen, w, L, h1, h2, h3, _, _, _, _, _, _, _ => by have := qXj 8 vis h1 h2; omega
  | m + 1, at_, vis, seen, w, L, h1, h2, h3, h4, h5, h6, h7, h8, h9, h10 => by
    have hll := hn.len
    refine ev_shift ?_
    by_cases e : at_ = tg
    · rw [DV, if_pos e]
      have b1 : ([] : List Int).length + w.length < 17592186044416 := by simp; omega
      simp only [spec_l14Go.f, e, if_true, Option.bind_some, b1, List.nil_append]
      exact Ev.bind (l14Put_ev l w L most hm1 (by omega) (by omega) h10) (qQl fun _ => rfl)
    rw [DV, if_neg e]
    simp only [spec_l14Go.f, e, if_false]
    rw [List.range_eq_range']
    obtain ⟨F, hF⟩ : ∃ F : Nat → List (List Int), F = fun (i : Nat) => if (qZa l (i : Int)).f0 = at_ ∧ (qZa l (i : Int)).f1 ∉ vis then DV l tg m (qZa l (i : Int)).f1 ((qZa l (i : Int)).f1 :: vis) (w ++ [(i : Int)]) else [] := ⟨_, rfl⟩
    rw [← hF]
    have := qXi (fun k (s : Nat × List (List Int)) => spec_l14Go.l0 k tg most at_ seen (s.2.map (qJg l)) (s.1 : Int) n l w (wcost l w 0)) (fun s => l.length - s.1) (fun s => s.1 ≤ l.length ∧ qJj (qXd l) s.2 ∧ s.2.length ≤ most.toNat ∧ ∀ x ∈ s.2, x.length ≤ 1000) (fun s => ((fillW (qXd l) most.toNat s.2 ((List.range' s.1 (l.length - s.1)).flatMap F)).map (qJg l), seen)) ?_ (0, L) ⟨Nat.zero_le _, h8, h9, h10⟩
    · simpa using this
    rintro ⟨i, K⟩ ⟨hi, k1, k2, k3⟩ ih
    simp only at hi k1 k2 k3 ih ⊢
    by_cases h : i < l.length
    · have hlt : (i : Int) < (l.length : Int) := by omega
      have h0 : (0 : Int) ≤ (i : Int) := by omega
      obtain ⟨d, hd⟩ : ∃ d, l.length - i = d + 1 := ⟨l.length - i - 1, by omega⟩
      have hr : (List.range' i (l.length - i)).flatMap F = F i ++ (List.range' (i + 1) (l.length - (i + 1))).flatMap F := by
        rw [hd, List.range'_succ, List.flatMap_cons, show l.length - (i + 1) = d by omega]
      rw [hr, fillW_append]
      have hx := hn.ends _ (List.getElem_mem h)
      rw [← jZj l i h] at hx
      have next : ∀ K2, K2 = fillW (qXd l) most.toNat K (F i) → Ev (fun k => spec_l14Go.l0 k tg most at_ seen (K2.map (qJg l)) (wrap64 ((i : Int) + 1)) n l w (wcost l w 0)) ((fillW (qXd l) most.toNat (fillW (qXd l) most.toNat K (F i)) ((List.range' (i + 1) (l.length - (i + 1))).flatMap F)).map (qJg l), seen) := by
        intro K2 hK2
        rw [← hK2, qVh h (show l.length ≤ 9223372036854775807 by omega)]
        have ok := fillW_ok (toW _) (m := most.toNat) (F i) k1 k2
        refine ih (i + 1, K2) ⟨by simp; omega, by rw [hK2]; exact ok.1, by rw [hK2]; exact ok.2, fun x hx2 => ?_⟩ (by simp; omega)
        rw [hK2] at hx2
        rcases fillW_sub _ _ x hx2 with a | a
        · exact k3 x a
        · rw [hF] at a
          simp only at a
          split at a
          · have := jQd l tg m _ _ _ x a
            rw [List.length_append, List.length_singleton] at this
            omega
          · cases a
      have skip : F i = [] → Ev (fun k => spec_l14Go.l0 k tg most at_ seen (K.map (qJg l)) (wrap64 ((i : Int) + 1)) n l w (wcost l w 0)) ((fillW (qXd l) most.toNat (fillW (qXd l) most.toNat K (F i)) ((List.range' (i + 1) (l.length - (i + 1))).flatMap F)).map (qJg l), seen) := fun z => next K (by rw [z]; rfl)
      have hFi : F i = if (qZa l (i : Int)).f0 = at_ ∧ (qZa l (i : Int)).f1 ∉ vis then DV l tg m (qZa l (i : Int)).f1 ((qZa l (i : Int)).f1 :: vis) (w ++ [(i : Int)]) else [] := by rw [hF]
      have hone := wcost_one l w (i : Int) 0
      have hKl : (K.map (qJg l)).length = K.length := List.length_map _
      simp only [spec_l14Go.l0, hlt, h0, if_true]
      generalize qZa l (i : Int) = x at hx hFi hone ⊢
      obtain ⟨e1, e2, e3, e4, e5, e6, e7, _⟩ := hx
      by_cases c1 : x.f0 = at_
      · have g1 : x.f1 < (seen.length : Int) := by omega
        have hsv := h5 x.f1 e3 e4
        simp only [c1, if_true, e3, g1]
        by_cases c2 : x.f1 ∈ vis
        · have e8 : rdOf false seen x.f1 = true := by rw [hsv]; exact decide_eq_true c2
          simp only [e8, if_true]
          exact skip (by rw [hFi, if_neg (fun z => z.2 c2)])
        · have e8 : rdOf false seen x.f1 = false := by rw [hsv]; exact decide_eq_false c2
          rw [if_pos ⟨c1, c2⟩] at hFi
          simp only [e8, Bool.false_eq_true, if_false, hKl]
          have b1 : ([] : List Int).length + w.length < 17592186044416 := by simp; omega
          have b2 : w.length + [(i : Int)].length < 17592186044416 := by simp; omega
          have hwi : ∀ k ∈ w ++ [(i : Int)], 0 ≤ k ∧ k < (l.length : Int) := fun k hk => by
            rw [List.mem_append, List.mem_singleton] at hk
            rcases hk with hk | hk
            · exact h7 k hk
            · omega
          have hhi := hn.hi
          have rec_ : Ev (fun k => (spec_l14Go.f k n l tg most x.f1 (seen.set x.f1.toNat true) (w ++ [(i : Int)]) (wrap64 (wcost l w 0 + x.f2)) (K.map (qJg l))).bind fun bt => spec_l14Go.l0 k tg most at_ (bt.2.set x.f1.toNat false) bt.1 (wrap64 ((i : Int) + 1)) n l w (wcost l w 0)) ((fillW (qXd l) most.toNat (fillW (qXd l) most.toNat K (F i)) ((List.range' (i + 1) (l.length - (i + 1))).flatMap F)).map (qJg l), seen) := by
            rw [← hone]
            refine Ev.bind (l14Go_ev hn tg most hm1 hm6 m x.f1 (x.f1 :: vis) (seen.set x.f1.toNat true) (w ++ [(i : Int)]) K (List.nodup_cons.2 ⟨c2, h1⟩) (fun v hv => by
              rw [List.mem_cons] at hv
              rcases hv with rfl | hv
              · exact ⟨e3, by omega⟩
              · exact h2 v hv) (by rw [List.length_cons]; omega) (by rw [List.length_set]; exact h4) (seen_next h4 h5 e3 e4) (by rw [List.length_append, List.length_singleton]; omega) hwi k1 k2 k3) ?_
            simp only [seen_back seen x.f1 e3 g1 e8]
            exact next _ (by rw [hFi])
          by_cases c3 : (K.length : Int) = most
          · have q1 : wrap64 (most - 1) = ((most.toNat - 1 : Nat) : Int) := by rw [w_id (by omega) (by omega)]; omega
            have q2 : (0 : Int) ≤ ((most.toNat - 1 : Nat) : Int) := by omega
            have q3 : ((most.toNat - 1 : Nat) : Int) < (K.length : Int) := by omega
            have q4 : most.toNat - 1 < K.length := by omega
            have q5 : qQg (K.map (qJg l)) ((most.toNat - 1 : Nat) : Int) = qJg l K[most.toNat - 1] := by rw [way_at _ _ (by rw [hKl]; exact q4), List.getElem_map]
            have q6 : (0 : Int) ≤ most - 1 := by omega
            simp only [c3, if_true, q1, q2, q5]
            have q7 : ((most.toNat - 1 : Nat) : Int) < most := by omega
            simp only [q7, if_true]
            by_cases c4 : wrap64 (wcost l w 0 + x.f2) > (qJg l K[most.toNat - 1]).f1
            · simp only [c4, if_true]
              refine next K ?_
              refine (fillW_full (toW _) (F i) k1 (by omega) (by omega) fun d hd => ?_).symm
              rw [hFi] at hd
              obtain ⟨e9, he9, hs9⟩ := qWj l tg m _ _ _ d hd
              have hle := jQd l tg m _ _ _ d hd
              rw [List.length_append, List.length_singleton] at hle
              have hmore := wcost_more hn hwi hs9.goes.1 (by rw [List.length_append, List.length_singleton]; omega) (by
                have := congrArg List.length he9
                rw [List.length_append] at this
                omega)
              rw [← he9, hone] at hmore
              unfold qJg at c4
              simp only at c4
              unfold qWg
              have hne : wcost l K[most.toNat - 1] 0 < wcost l d 0 := Int.lt_of_lt_of_le c4 hmore
              rw [if_neg (fun z => absurd (show wcost l K[most.toNat - 1] 0 = wcost l d 0 from z) (by omega)), decide_eq_true_eq]
              exact hne
            · simp only [c4, if_false, Option.bind_some, b1, b2, if_true, List.nil_append]
              exact rec_
          · simp only [c3, if_false, Option.bind_some, b1, b2, if_true, List.nil_append]
            exact rec_
      · simp only [c1, if_false]
        exact skip (by rw [hFi, if_neg (fun z => c1 z.1)])
    · have hlt : ¬ (i : Int) < (l.length : Int) := by omega
      simp only [spec_l14Go.l0, hlt, if_false]
      refine qQl fun _ => ?_
      rw [show l.length - i = 0 by omega]
      rfl
theorem l14Some_ev {n : Int} {l : List S58} (hn : Net1 n l) {a b m : Int} (ha : 0 ≤ a ∧ a < n) (hm1 : 1 ≤ m) (hm6 : m ≤ 6) : Ev (fun k => spec_l14Some.f k n l a b m) ((someL l a b).take m.toNat) := by
  have hlo := hn.lo
  have hhi := hn.hi
  unfold spec_l14Some.f
  have b1 : n.toNat ≤ 281474976710656 := by omega
  have b2 : (0 : Int) ≤ n := by omega
  have b3 : a < ((List.replicate n.toNat false).length : Int) := by rw [List.length_replicate]; omega
  simp only [b1, b2, b3, ha.1, if_true, Option.bind_some]
  have hs : ∀ v, 0 ≤ v → v < n → rdOf false ((List.replicate n.toNat false).set a.toNat true) v = decide (v ∈ [a]) := by
    refine seen_next (vis := []) (by rw [List.length_replicate]; omega) (fun v v0 v1 => ?_) ha.1 ha.2
    unfold rdOf
    rw [List.getD_eq_getElem?_getD, List.getElem?_replicate]
    split <;> simp
  have hg := l14Go_ev hn b m hm1 hm6 8 a [a] ((List.replicate n.toNat false).set a.toNat true) [] [] (by simp) (fun v hv => by rw [List.mem_singleton] at hv; subst hv; exact ⟨ha.1, by omega⟩) (by simp) (by rw [List.length_set, List.length_replicate]; omega) hs (by simp) (by simp) List.Pairwise.nil (Nat.zero_le _) (by simp)
  have hfill : fillW (qXd l) m.toNat [] (DV l b 8 a [a] []) = (someL l a b).take m.toNat := fillW_sort _ _
  rw [hfill] at hg
  refine Ev.bind hg ?_
  have hlen : ((someL l a b).take m.toNat).length ≤ 6 := by rw [List.length_take]; omega
  have hml : (((someL l a b).take m.toNat).map (qJg l)).length = ((someL l a b).take m.toNat).length := List.length_map _
  generalize (someL l a b).take m.toNat = K at hlen hml ⊢
  have := qXi (fun k (s : Nat × List (List Int)) => spec_l14Some.l0 k (K.map (qJg l)) s.2 (s.1 : Int)) (fun s => K.length - s.1) (fun s => s.1 ≤ K.length ∧ s.2.length ≤ s.1) (fun s => s.2 ++ K.drop s.1) ?_ (0, []) ⟨Nat.zero_le _, by simp⟩
  · simpa using this
  rintro ⟨i, x⟩ ⟨hi, hx⟩ ih
  simp only at hi hx ih ⊢
  by_cases h : i < K.length
  · have hlt : (i : Int) < (K.length : Int) := by omega
    have h0 : (0 : Int) ≤ (i : Int) := by omega
    have c1 : x.length < 5864062014805 := by omega
    have hat : qQg (K.map (qJg l)) (i : Int) = qJg l K[i] := by rw [way_at _ i (by rw [hml]; exact h), List.getElem_map]
    simp only [spec_l14Some.l0, hml, hlt, h0, c1, if_true, hat, qVh h (show K.length ≤ 9223372036854775807 by omega)]
    refine ev_at (ih (i + 1, x ++ [K[i]]) ⟨by simp; omega, by simp; omega⟩ (by simp; omega)) ?_
    rw [List.drop_eq_getElem_cons h, List.append_assoc]
    rfl
  · have hlt : ¬ (i : Int) < (K.length : Int) := by omega
    simp only [spec_l14Some.l0, hml, hlt, if_false]
    refine qQl fun _ => ?_
    rw [List.drop_of_length_le (by omega), List.append_nil]
theorem l12In_ev (l : List Int) (x : Int) (hl : l.length ≤ 9223372036854775807) : Ev (fun k => spec_l12In.f k l x) (l.contains x) := by
  unfold spec_l12In.f
  have := qXi (fun k (i : Nat) => spec_l12In.l0 k l x (i : Int)) (fun i => l.length - i) (fun i => i ≤ l.length) (fun i => (l.drop i).contains x) ?_ 0 (Nat.zero_le _)
  · simpa using this
  intro i hi ih
  by_cases h : i < l.length
  · have hlt : (i : Int) < (l.length : Int) := by omega
    have h0 : (0 : Int) ≤ (i : Int) := by omega
    simp only [spec_l12In.l0, hlt, h0, if_true, qYb l i h, qVh h hl]
    rw [List.drop_eq_getElem_cons h, List.contains_cons]
    by_cases he : l[i] = x
    · exact qQl fun k => by simp [he]
    · have he' : (x == l[i]) = false := beq_eq_false_iff_ne.2 (fun e => he e.symm)
      simp only [he, if_false, he', Bool.false_or]
      exact ih (i + 1) (by omega) (by omega)
  · have hlt : ¬ (i : Int) < (l.length : Int) := by omega
    simp only [spec_l12In.l0, hlt, if_false]
    rw [List.drop_of_length_le (by omega)]
    exact qQl fun k => rfl
def shareFrom (l : List S58) (b : List Int) : List Int → Int → Int
  | [], acc => acc
  | x :: xs, acc => shareFrom l b xs (if b.contains x then wrap64 (acc + (qZa l x).f2) else acc)
theorem l14Share_ev (n : Int) (l : List S58) (a b : List Int) (hl : l.length ≤ 9223372036854775807) (ha : a.length ≤ 9223372036854775807) (hb : b.length ≤ 9223372036854775807) (hin : ∀ (i : Nat) (hi : i < a.length), 0 ≤ a[i] ∧ a[i] < (l.length : Int)) :
    Ev (fun k => spec_l14Share.f k n l a b) (shareFrom l b a 0) := by
  unfold spec_l14Share.f
  have := qXi (fun k (s : Nat × Int) => spec_l14Share.l0 k a b s.2 (s.1 : Int) n l) (fun s => a.length - s.1) (fun s => s.1 ≤ a.length) (fun s => shareFrom l b (a.drop s.1) s.2) ?_ (0, 0) (Nat.zero_le _)
  · simpa using this
  rintro ⟨i, acc⟩ hi ih
  simp only at hi ih ⊢
  by_cases h : i < a.length
  · have hlt : (i : Int) < (a.length : Int) := by omega
    have h0 : (0 : Int) ≤ (i : Int) := by omega
    obtain ⟨b0, b1⟩ := hin i h
    simp only [spec_l14Share.l0, hlt, h0, if_true, qYb a i h, qVh h ha, b0, b1]
    refine Ev.bind (l12In_ev b a[i] hb) ?_
    rw [List.drop_eq_getElem_cons h]
    unfold shareFrom
    by_cases hc : b.contains a[i] = true
    · simp only [hc, if_true]
      exact ih (i + 1, wrap64 (acc + (qZa l a[i]).f2)) (by simp; omega) (by simp; omega)
    · simp only [hc, if_false]
      exact ih (i + 1, acc) (by simp; omega) (by simp; omega)
  · have hlt : ¬ (i : Int) < (a.length : Int) := by omega
    simp only [spec_l14Share.l0, hlt, if_false]
    rw [List.drop_of_length_le (by omega)]
    exact qQl fun k => rfl
theorem wshare_from (l : List S58) (b : List Int) : ∀ (a : List Int) (s : Int), wshare l b a s = shareFrom l b a s
  | [], _ => rfl
  | k :: r, s => by
    rw [wshare, shareFrom, wshare_from l b r, List.contains_eq_any_beq]
theorem l2Cost_ev (n : Int) (l : List S58) (a : List Int) (ha : a.length ≤ 1000) (hin : ∀ k ∈ a, 0 ≤ k ∧ k < (l.length : Int)) : Ev (fun k => spec_l2Cost.f k n l a) (wcost l a 0) := by
  unfold spec_l2Cost.f
  have := qXi (fun k (s : Nat × Int) => spec_l2Cost.l0 k a s.2 (s.1 : Int) n l) (fun s => a.length - s.1) (fun s => s.1 ≤ a.length) (fun s => wcost l (a.drop s.1) s.2) ?_ (0, 0) (Nat.zero_le _)
  · simpa using this
  rintro ⟨i, acc⟩ hi ih
  simp only at hi ih ⊢
  by_cases h : i < a.length
  · have hlt : (i : Int) < (a.length : Int) := by omega
    have h0 : (0 : Int) ≤ (i : Int) := by omega
    obtain ⟨b0, b1⟩ := hin _ (List.getElem_mem h)
    simp only [spec_l2Cost.l0, hlt, h0, if_true, qYb a i h, qVh h (show a.length ≤ 9223372036854775807 by omega), b0, b1]
    rw [wcost_at l a i h, qYb a i h]
    exact ih (i + 1, wrap64 (acc + (qZa l a[i]).f2)) (by simp; omega) (by simp; omega)
  · have hlt : ¬ (i : Int) < (a.length : Int) := by omega
    simp only [spec_l2Cost.l0, hlt, if_false]
    rw [List.drop_of_length_le (by omega)]
    exact qQl fun k => rfl
theorem bT {a b : Bool} (h : (a && !b) = true) (c : Bool) : (a && !(b || c)) = !c := by cases a <;> cases b <;> simp_all
theorem bF {a b : Bool} (h : (a && !b) = false) (c : Bool) : (a && !(b || c)) = false := by cases a <;> cases b <;> simp_all
theorem alikeB_from (l : List S58) (x : List Int) (first share : Int) (y : List Int) : decide (wrap64 (shareFrom l y x 0 * 100) ≤ wrap64 (first * share)) = !alikeB l x first share y := by
  unfold alikeB
  rw [wshare_from]
  generalize wrap64 (shareFrom l y x 0 * 100) = p
  generalize wrap64 (first * share) = q
  by_cases h : p ≤ q
  · rw [decide_eq_true h, decide_eq_false (by omega)]; rfl
  · rw [decide_eq_false h, decide_eq_true (by omega)]; rfl
theorem qKg (l : List S58) (longer share first : Int) (A : List (List Int)) : ∀ i, i ≤ A.length → (othL l longer share first (A.take i)).length ≤ i
  | 0, _ => by simp [othL]
  | i + 1, h => by
    have := qKg l longer share first A i (by omega)
    rw [qVd l longer share first A i (by omega)]
    split
    · rw [List.length_append, List.length_singleton]; omega
    · omega
theorem qYi (l : List S58) (longer share first : Int) (A : List (List Int)) : ∀ i, i ≤ A.length → ∀ x ∈ othL l longer share first (A.take i), x ∈ A
  | 0, _, x, hx => by simp [othL] at hx
  | i + 1, h, x, hx => by
    rw [qVd l longer share first A i (by omega)] at hx
    split at hx
    · rw [List.mem_append, List.mem_singleton] at hx
      rcases hx with hx | rfl
      · exact qYi l longer share first A i (by omega) x hx
      · exact List.getElem_mem _
    · exact qYi l longer share first A i (by omega) x hx
def bestA (l : List S58) (a b : Int) : List (List Int) := (someL l a b).take 6
def goodO (n : Int) (l : List S58) (a b longer share : Int) : Prop := netOkB n l = true ∧ inB a 0 (wrap64 (n - 1)) = true ∧ inB b 0 (wrap64 (n - 1)) = true ∧ a ≠ b ∧ inB longer 0 200 = true ∧ inB share 0 100 = true
def othA (l : List S58) (a b longer share : Int) : List (List Int) := othL l longer share (wcost l ((bestA l a b).getD 0 []) 0) (bestA l a b)
theorem qWm {n : Int} {l : List S58} (hn : Net1 n l) {a b : Int} (ha : 0 ≤ a ∧ a < n) : (bestA l a b).length ≤ 6 ∧ ∀ x ∈ bestA l a b, SP l b a [a] x ∧ x.length ≤ 7 ∧ ∀ k ∈ x, 0 ≤ k ∧ k < (l.length : Int) := by
  refine ⟨by unfold bestA; rw [List.length_take]; omega, fun x hx => ?_⟩
  have hs := (someL_mem hn ha x).1 (List.mem_of_mem_take hx)
  exact ⟨hs, hs.len hn ha, hs.goes.1⟩
theorem othI_ok {n : Int} {l : List S58} {a b longer share : Int} (h : goodO n l a b longer share) : impl_SomeOthers.f n l a b longer share = some (othA l a b longer share) := by
  obtain ⟨h1, h2, h3, h4, h5, h6⟩ := h
  have hn := qKk h1
  obtain ⟨hl, hx⟩ := qWm hn (qYa hn h2) (b := b)
  have hs : swF n l a b 6 = some (bestA l a b) := someI_ok h1 h2 h3 h4 (by rw [qKl]; omega)
  unfold impl_SomeOthers.f soF othA
  rw [qXm, h5, qXm, h6]
  simp only [Option.bind_some, if_true, hs]
  rw [if_pos ⟨List.all_eq_true.2 fun x hxm => List.all_eq_true.2 fun k hk => decide_eq_true ((hx x hxm).2.2 k hk), by omega⟩]
theorem othI_bad {n : Int} {l : List S58} {a b longer share : Int} (h : ¬ goodO n l a b longer share) : impl_SomeOthers.f n l a b longer share = some [] := by
  unfold impl_SomeOthers.f soF
  rw [qXm]
  cases h5 : inB longer 0 200 with
  | false => rfl
  | true =>
  rw [qXm]
  cases h6 : inB share 0 100 with
  | false => rfl
  | true =>
    have hs : swF n l a b 6 = some [] := someI_bad fun g => h ⟨g.1, g.2.1, g.2.2.1, g.2.2.2.1, h5, h6⟩
    simp only [Option.bind_some, if_true, hs]
    rfl
theorem othS_loop {n : Int} {l : List S58} {longer share : Int} (A : List (List Int)) (hA : A.length ≤ 6) (hx : ∀ x ∈ A, x.length ≤ 7 ∧ ∀ k ∈ x, 0 ≤ k ∧ k < (l.length : Int)) (hll : l.length ≤ 9223372036854775807) :
    Ev (fun k => spec_SomeOthers.l0 k longer share [] A 0 n l) (othL l longer share (wcost l (A.getD 0 []) 0) A) := by
  generalize hfc : wcost l (A.getD 0 []) 0 = fc
  have := qXi (fun k (i : Nat) => spec_SomeOthers.l0 k longer share (othL l longer share fc (A.take i)) A (i : Int) n l) (fun i => A.length - i) (fun i => i ≤ A.length) (fun _ => othL l longer share fc A) ?_ 0 (Nat.zero_le _)
  · simpa [othL] using this
  intro i hi ih
  by_cases h : i < A.length
  · have hlt : (i : Int) < (A.length : Int) := by omega
    have h0 : (0 : Int) ≤ (i : Int) := by omega
    have hp : (0 : Int) < (A.length : Int) := by omega
    have e0 : qQf A 0 = A.getD 0 [] := by simp [qQf]
    have e1 : qQf A (i : Int) = A[i] := by simp [qQf, h]
    have g0 : A.getD 0 [] = A[0] := by simp [show 0 < A.length by omega]
    obtain ⟨x0, x1⟩ := hx A[0] (List.getElem_mem (by omega))
    obtain ⟨y0, y1⟩ := hx A[i] (List.getElem_mem h)
    have c0 := l2Cost_ev n l A[0] (by omega) x1
    rw [← g0, hfc] at c0
    have c1 := l2Cost_ev n l A[i] (by omega) y1
    have hol := qKg l longer share fc A i hi
    have hoi := qYi l longer share fc A i hi
    have NX := ih (i + 1) (by omega) (by omega)
    rw [qVd l longer share fc A i h] at NX
    unfold othOk at NX
    simp only [spec_SomeOthers.l0, hlt, hp, h0, if_true, e0, e1]
    refine Ev.bind c0 (Ev.bind c1 ?_)
    generalize decide (wrap64 (wcost l A[i] 0 * 100) ≤ wrap64 (fc * wrap64 (100 + longer))) = ok0 at NX ⊢
    generalize othL l longer share fc (A.take i) = out at NX hol hoi ⊢
    have key := qXi (fun k (j : Nat) => spec_SomeOthers.l1 k longer share out A (i : Int) fc (ok0 && !((out.take j).any (alikeB l A[i] fc share))) (j : Int) n l) (fun j => out.length - j) (fun j => j ≤ out.length) (fun _ => othL l longer share fc A) ?_ 0 (Nat.zero_le _)
    · simpa using key
    intro j hj ihj
    by_cases g : j < out.length
    · have glt : (j : Int) < (out.length : Int) := by omega
      have gj : (0 : Int) ≤ (j : Int) := by omega
      have ej : qQf out (j : Int) = out[j] := by simp [qQf, g]
      obtain ⟨z0, _⟩ := hx out[j] (hoi _ (List.getElem_mem g))
      have next := ihj (j + 1) (by omega) (by omega)
      have et : (out.take (j + 1)).any (alikeB l A[i] fc share) = ((out.take j).any (alikeB l A[i] fc share) || alikeB l A[i] fc share out[j]) := by rw [List.take_succ_eq_append_getElem g, List.any_append]; simp
      rw [et] at next
      simp only [spec_SomeOthers.l1, glt, if_true, h0, hlt, gj, e1, ej, qVh g (show out.length ≤ 9223372036854775807 by omega)]
      cases hq : (ok0 && !((out.take j).any (alikeB l A[i] fc share))) with
      | false =>
        simp only [Bool.false_eq_true, if_false]
        rwa [bF hq] at next
      | true =>
        simp only [if_true]
        refine Ev.bind (l14Share_ev n l A[i] out[j] hll (by omega) (by omega) (fun q hq => y1 _ (List.getElem_mem hq))) ?_
        rw [alikeB_from]
        rwa [bT hq] at next
    · have glt : ¬ (j : Int) < (out.length : Int) := by omega
      have ejl : out.take j = out := List.take_of_length_le (by omega)
      have lim : out.length < 5864062014805 := by omega
      simp only [spec_SomeOthers.l1, glt, if_false, h0, hlt, if_true, e1, lim, ejl, qVh h (show A.length ≤ 9223372036854775807 by omega)]
      cases hq : (ok0 && !(out.any (alikeB l A[i] fc share))) with
      | false =>
        rw [hq] at NX
        simp only [Bool.false_eq_true, if_false] at NX ⊢
        exact NX
      | true =>
        rw [hq] at NX
        simp only [if_true] at NX ⊢
        exact NX
  · have hlt : ¬ (i : Int) < (A.length : Int) := by omega
    simp only [spec_SomeOthers.l0, hlt, if_false]
    rw [List.take_of_length_le (by omega)]
    exact qQl fun _ => rfl
theorem othS_ok {n : Int} {l : List S58} (hll : l.length ≤ 9223372036854775807) {a b longer share : Int} (h : goodO n l a b longer share) : Ev (fun k => spec_SomeOthers.f k n l a b longer share) (othA l a b longer share) := by
  obtain ⟨h1, h2, h3, h4, h5, h6⟩ := h
  have hn := qKk h1
  obtain ⟨hl, hx⟩ := qWm hn (qYa hn h2) (b := b)
  unfold spec_SomeOthers.f
  simp only [Option.bind_some]
  refine Ev.bind (l1Ok_ev n l hll) ?_
  simp only [h1, if_true, jQa, Option.bind_some, h2, h3, h4, if_false, h5, h6, Bool.not_true]
  refine ev_shift ?_
  simp only [spec_SomeOthers.j0, Bool.false_eq_true, if_false]
  refine Ev.bind (l14Some_ev hn (qYa hn h2) (by omega) (by omega)) ?_
  exact othS_loop (bestA l a b) hl (fun x hxm => ⟨(hx x hxm).2.1, (hx x hxm).2.2⟩) hll
theorem othS_bad {n : Int} {l : List S58} (hll : l.length ≤ 9223372036854775807) {a b longer share : Int} (h : ¬ goodO n l a b longer share) : Ev (fun k => spec_SomeOthers.f k n l a b longer share) [] := by
  have hj : Ev (fun k => spec_SomeOthers.j0 k a b longer share [] true n l) [] := ev_shift (qQl fun k => by simp only [spec_SomeOthers.j0, if_true])
  unfold spec_SomeOthers.f
  simp only [Option.bind_some]
  refine Ev.bind (l1Ok_ev n l hll) ?_
  cases h1 : netOkB n l with
  | false => simpa using hj
  | true =>
  simp only [if_true, jQa, Option.bind_some]
  cases h2 : inB a 0 (wrap64 (n - 1)) with
  | false => simpa using hj
  | true =>
  simp only [if_true]
  cases h3 : inB b 0 (wrap64 (n - 1)) with
  | false => simpa using hj
  | true =>
  simp only [if_true]
  by_cases e : a = b
  · simp only [e, if_true]
    simpa [e] using hj
  · simp only [e, if_false]
    cases h5 : inB longer 0 200 with
    | false => simpa using hj
    | true =>
    simp only [if_true]
    cases h6 : inB share 0 100 with
    | false => simpa using hj
    | true => exact absurd ⟨h1, h2, h3, e, h5, h6⟩ h
theorem others_both (n : Int) (l : List S58) (hll : l.length ≤ 9223372036854775807) (a b longer share : Int) : ∃ K : List (List Int), impl_SomeOthers.f n l a b longer share = some K ∧ Ev (fun k => spec_SomeOthers.f k n l a b longer share) K ∧ K.length ≤ 6 ∧ (∀ x ∈ K, x.length ≤ 7) ∧ ((goodO n l a b longer share ∧ K = othA l a b longer share) ∨ K = []) := by
  by_cases h : goodO n l a b longer share
  · have hn := qKk h.1
    obtain ⟨hl, hx⟩ := qWm hn (qYa hn h.2.1) (b := b)
    have h1 := qKg l longer share (wcost l ((bestA l a b).getD 0 []) 0) (bestA l a b) (bestA l a b).length (Nat.le_refl _)
    have h2 := qYi l longer share (wcost l ((bestA l a b).getD 0 []) 0) (bestA l a b) (bestA l a b).length (Nat.le_refl _)
    rw [List.take_length] at h1 h2
    exact ⟨_, othI_ok h, othS_ok hll h, Nat.le_trans h1 hl, fun x hxm => (hx x (h2 x hxm)).2.1, .inl ⟨h, rfl⟩⟩
  · exact ⟨[], othI_bad h, othS_bad hll h, by simp, by simp, .inr rfl⟩
theorem wkInts_self (l : List Int) (hl : l.length ≤ 9223372036854775807) : Ev (fun k => laws_wkInts.f k l l) true := by
  unfold laws_wkInts.f
  simp only [if_true]
  refine qXi (fun k (i : Nat) => laws_wkInts.l0 k l l (i : Int)) (fun i => l.length - i) (fun i => i ≤ l.length) (fun _ => true) ?_ 0 (Nat.zero_le _)
  intro i hi ih
  by_cases h : i < l.length
  · have hlt : (i : Int) < (l.length : Int) := by omega
    have h0 : (0 : Int) ≤ (i : Int) := by omega
    simp only [laws_wkInts.l0, hlt, h0, if_true, qVh h hl]
    exact ih (i + 1) (by omega) (by omega)
  · have hlt : ¬ (i : Int) < (l.length : Int) := by omega
    simp only [laws_wkInts.l0, hlt, if_false]
    exact qQl fun _ => rfl
theorem wkGrid_self (K : List (List Int)) (hl : K.length ≤ 9223372036854775807) (hx : ∀ x ∈ K, x.length ≤ 9223372036854775807) : Ev (fun k => laws_wkGrid.f k K K) true := by
  unfold laws_wkGrid.f
  simp only [if_true]
  refine qXi (fun k (i : Nat) => laws_wkGrid.l0 k K K (i : Int)) (fun i => K.length - i) (fun i => i ≤ K.length) (fun _ => true) ?_ 0 (Nat.zero_le _)
  intro i hi ih
  by_cases h : i < K.length
  · have hlt : (i : Int) < (K.length : Int) := by omega
    have h0 : (0 : Int) ≤ (i : Int) := by omega
    have e : qQf K (i : Int) = K[i] := by simp [qQf, h]
    simp only [laws_wkGrid.l0, hlt, h0, if_true, e, qVh h hl]
    refine Ev.bind (wkInts_self _ (hx _ (List.getElem_mem h))) ?_
    simp only [if_true]
    exact ih (i + 1) (by omega) (by omega)
  · have hlt : ¬ (i : Int) < (K.length : Int) := by omega
    simp only [laws_wkGrid.l0, hlt, if_false]
    exact qQl fun _ => rfl
theorem jZb (a b : List Int) (ha : a.length ≤ 1000) : Ev (fun k => laws_wkInts.f k a b) (decide (a = b)) := by
  unfold laws_wkInts.f
  by_cases e : a.length = b.length
  · have e2 : (a.length : Int) = (b.length : Int) := by omega
    simp only [e2, if_true]
    have := qXi (fun k (i : Nat) => laws_wkInts.l0 k a b (i : Int)) (fun i => a.length - i) (fun i => i ≤ a.length) (fun i => decide (a.drop i = b.drop i)) ?_ 0 (Nat.zero_le _)
    · simpa using this
    intro i hi ih
    by_cases h : i < a.length
    · have hlt : (i : Int) < (a.length : Int) := by omega
      have hlt2 : (i : Int) < (b.length : Int) := by omega
      have h0 : (0 : Int) ≤ (i : Int) := by omega
      have hb : i < b.length := by omega
      simp only [laws_wkInts.l0, hlt, hlt2, h0, if_true, qYb a i h, qYb b i hb, qVh h (show a.length ≤ 9223372036854775807 by omega)]
      rw [List.drop_eq_getElem_cons h, List.drop_eq_getElem_cons hb]
      by_cases c : a[i] = b[i]
      · simp only [c, if_true]
        refine ev_at (ih (i + 1) (by omega) (by omega)) ?_
        apply decide_eq_decide.2
        rw [List.cons.injEq]
        exact ⟨fun z => ⟨rfl, z⟩, fun z => z.2⟩
      · simp only [c, if_false]
        refine qQl fun _ => ?_
        congr 1
        exact (decide_eq_false (fun z => c (List.cons.inj z).1)).symm
    · have hlt : ¬ (i : Int) < (a.length : Int) := by omega
      simp only [laws_wkInts.l0, hlt, if_false]
      refine qQl fun _ => ?_
      rw [List.drop_of_length_le (by omega), List.drop_of_length_le (by omega)]
      rfl
  · have e2 : ¬ (a.length : Int) = (b.length : Int) := by omega
    simp only [e2, if_false]
    refine qQl fun _ => ?_
    congr 1
    exact (decide_eq_false (fun z => e (by rw [z]))).symm
theorem range_all (p : Nat → Bool) (i n : Nat) (h : i < n) : (List.range' i (n - i)).all p = (p i && (List.range' (i + 1) (n - (i + 1))).all p) := by
  obtain ⟨d, hd⟩ : ∃ d, n - i = d + 1 := ⟨n - i - 1, by omega⟩
  rw [hd, List.range'_succ, List.all_cons, show n - (i + 1) = d by omega]
theorem range_none (p : Nat → Bool) (n : Nat) : (List.range' n (n - n)).all p = true := by simp
def chk (l : List S58) (w : List Int) (i : Nat) : Bool := inB (w.getD i 0) 0 (wrap64 ((l.length : Int) - 1)) && (decide (i = 0) || (qZa l (w.getD (i - 1) 0)).f1 == (qZa l (w.getD i 0)).f0)
def chainB (l : List S58) (w : List Int) : Bool := (List.range' 0 w.length).all (chk l w)
def walkB (l : List S58) (w : List Int) : Bool := chainB l w && decide (w.length ≤ 20)
theorem arc_in {l : List S58} {x : Int} (hl : l.length ≤ 9223372036854775807) (h : inB x 0 (wrap64 ((l.length : Int) - 1)) = true) : 0 ≤ x ∧ x < (l.length : Int) := by
  rw [qKl, w_id (by omega) (by omega)] at h
  omega
theorem walkOk_loop (n : Int) (l : List S58) (w : List Int) (hl : l.length ≤ 9223372036854775807) (hw : w.length ≤ 9223372036854775807) :
    Ev (fun k => impl_WalkOk.l0 k w w (w.length : Int) (0 : Nat) n l) ((List.range' 0 (w.length - 0)).all (chk l w)) := by
  refine qXi (fun k (i : Nat) => impl_WalkOk.l0 k w w (w.length : Int) (i : Int) n l) (fun i => w.length - i) (fun i => i ≤ w.length ∧ ∀ j, j < i → inB (w.getD j 0) 0 (wrap64 ((l.length : Int) - 1)) = true) (fun i => (List.range' i (w.length - i)).all (chk l w)) ?_ 0 ⟨Nat.zero_le _, fun j hj => absurd hj (Nat.not_lt_zero _)⟩
  rintro i ⟨hi, hp⟩ ih
  by_cases h : i < w.length
  · have hlt : (i : Int) < (w.length : Int) := by omega
    have h0 : (0 : Int) ≤ (i : Int) := by omega
    rw [range_all _ _ _ h]
    simp only [impl_WalkOk.l0, hlt, h0, if_true, qXm, Option.bind_some, qVh h hw]
    have ih' := fun hin => ih (i + 1) ⟨by omega, hin⟩ (by omega)
    generalize (List.range' (i + 1) (w.length - (i + 1))).all (chk l w) = q at ih' ⊢
    unfold chk
    rw [rd_nat]
    cases hb : inB (w.getD i 0) 0 (wrap64 ((l.length : Int) - 1)) with
    | false => exact qQl fun k => by simp
    | true =>
      have hin : ∀ j, j < i + 1 → inB (w.getD j 0) 0 (wrap64 ((l.length : Int) - 1)) = true := by
        intro j hj
        by_cases e : j = i
        · subst e; exact hb
        · exact hp j (by omega)
      obtain ⟨b0, b1⟩ := arc_in hl hb
      by_cases hi0 : i = 0
      · subst hi0
        have hn : ¬ ((0 : Nat) : Int) > 0 := by omega
        simp only [hn, if_true, if_false]
        simpa using ih' hin
      · have hn : ((i : Nat) : Int) > 0 := by omega
        have hp1 := hp (i - 1) (by omega)
        obtain ⟨c0, c1⟩ := arc_in hl hp1
        have hw1 : wrap64 ((i : Int) - 1) = ((i - 1 : Nat) : Int) := wpred (by omega) (by omega)
        have g0 : (0 : Int) ≤ ((i - 1 : Nat) : Int) := by omega
        have g1 : ((i - 1 : Nat) : Int) < (w.length : Int) := by omega
        simp only [hn, if_true, b0, b1, hw1, g0, g1, rd_nat, c0, c1, hi0, decide_false, Bool.false_or, Bool.true_and]
        by_cases he : (qZa l (w.getD (i - 1) 0)).f1 = (qZa l (w.getD i 0)).f0
        · simp only [he, if_true]
          simpa using ih' hin
        · have he' : ((qZa l (w.getD (i - 1) 0)).f1 == (qZa l (w.getD i 0)).f0) = false := beq_eq_false_iff_ne.2 he
          exact qQl fun k => by simp only [he, he', if_false, Bool.false_and]
  · have hlt : ¬ (i : Int) < (w.length : Int) := by omega
    have he : i = w.length := by omega
    subst he
    simp only [impl_WalkOk.l0, hlt, if_false, range_none]
    exact qQl fun k => rfl
theorem jZc (n : Int) (l : List S58) (w : List Int) (hl : l.length ≤ 9223372036854775807) (hw : w.length ≤ 9223372036854775807) : Ev (fun k => impl_WalkOk.f k n l w) (netOkB n l && walkB l w) := by
  unfold impl_WalkOk.f
  simp only [netOk_eq, Option.bind_some]
  cases netOkB n l with
  | false => exact ev_shift (qQl fun k => by simp [impl_WalkOk.j0])
  | true =>
    simp only [if_true]
    refine ev_shift ?_
    unfold walkB chainB
    by_cases h : w.length ≤ 20
    · have h1 : ¬ decide ((w.length : Int) > 20) = true := by simp; omega
      simp only [impl_WalkOk.j0, h1, if_false]
      simpa [h] using walkOk_loop n l w hl hw
    · have h1 : decide ((w.length : Int) > 20) = true := by simp; omega
      simp only [impl_WalkOk.j0, h1, if_true]
      exact qQl fun k => by simp [h]
theorem walkAt_in {l : List S58} {w : List Int} (hl : l.length ≤ 9223372036854775807) (h : walkB l w = true) (i : Nat) (hi : i < w.length) : 0 ≤ w[i] ∧ w[i] < (l.length : Int) := by
  unfold walkB chainB at h
  rw [Bool.and_eq_true, List.all_eq_true] at h
  have h1 := h.1 i (by rw [List.mem_range'_1]; omega)
  unfold chk at h1
  rw [Bool.and_eq_true] at h1
  have := arc_in hl h1.1
  rwa [List.getD_eq_getElem?_getD, List.getElem?_eq_getElem hi] at this
theorem index_loop (l : List Int) (x : Int) (hl : l.length ≤ 9223372036854775807) : ∃ r : Int, Ev (fun k => slices_Index_int_int.f k l x) r ∧ decide (r ≥ 0) = l.contains x := by
  unfold slices_Index_int_int.f
  have key : ∀ d i : Nat, l.length - i ≤ d → i ≤ l.length → ∃ r : Int, Ev (fun k => slices_Index_int_int.l0 k l x (l.length : Int) (i : Int)) r ∧ decide (r ≥ 0) = (l.drop i).contains x := by
    intro d
    induction d with
    | zero =>
      intro i hd hi
      refine ⟨-1, ev_shift ?_, ?_⟩
      · have hlt : ¬ (i : Int) < (l.length : Int) := by omega
        simp only [slices_Index_int_int.l0, hlt, if_false]
        exact qQl fun k => rfl
      · rw [List.drop_of_length_le (by omega)]; rfl
    | succ d ihd =>
      intro i hd hi
      by_cases h : i < l.length
      · have hlt : (i : Int) < (l.length : Int) := by omega
        have h0 : (0 : Int) ≤ (i : Int) := by omega
        by_cases he : x = l[i]
        · refine ⟨i, ev_shift ?_, ?_⟩
          · simp only [slices_Index_int_int.l0, hlt, h0, if_true, qYb l i h]
            exact qQl fun k => by simp only [he, if_true]
          · rw [List.drop_eq_getElem_cons h, List.contains_cons, he]; simp
        · obtain ⟨r, hr, hc⟩ := ihd (i + 1) (by omega) (by omega)
          refine ⟨r, ev_shift ?_, ?_⟩
          · simp only [slices_Index_int_int.l0, hlt, h0, if_true, qYb l i h, he, if_false, qVh h hl]
            exact hr
          · rw [hc, List.drop_eq_getElem_cons h, List.contains_cons, beq_eq_false_iff_ne.2 he, Bool.false_or]
      · refine ⟨-1, ev_shift ?_, ?_⟩
        · have hlt : ¬ (i : Int) < (l.length : Int) := by omega
          simp only [slices_Index_int_int.l0, hlt, if_false]
          exact qQl fun k => rfl
        · rw [List.drop_of_length_le (by omega)]; rfl
  have := key l.length 0 (by omega) (by omega)
  simpa using this
theorem contains_ev (l : List Int) (x : Int) (hl : l.length ≤ 9223372036854775807) : Ev (fun k => slices_Contains_int_int.f k l x) (l.contains x) := by
  unfold slices_Contains_int_int.f
  obtain ⟨r, hr, hc⟩ := index_loop l x hl
  exact Ev.bind hr (qQl fun k => by rw [hc])
theorem share_ev (n : Int) (l : List S58) (a b : List Int) (hl : l.length ≤ 9223372036854775807) (ha : a.length ≤ 9223372036854775807) (hb : b.length ≤ 9223372036854775807) (hin : ∀ (i : Nat) (hi : i < a.length), 0 ≤ a[i] ∧ a[i] < (l.length : Int)) :
    Ev (fun k => impl_Net_share.f k n l a b) (shareFrom l b a 0) := by
  unfold impl_Net_share.f
  have := qXi (fun k (s : Nat × Int) => impl_Net_share.l0 k b s.2 a (a.length : Int) (s.1 : Int) n l) (fun s => a.length - s.1) (fun s => s.1 ≤ a.length) (fun s => shareFrom l b (a.drop s.1) s.2) ?_ (0, 0) (Nat.zero_le _)
  · simpa using this
  rintro ⟨i, acc⟩ hi ih
  simp only at hi ih ⊢
  by_cases h : i < a.length
  · have hlt : (i : Int) < (a.length : Int) := by omega
    have h0 : (0 : Int) ≤ (i : Int) := by omega
    obtain ⟨b0, b1⟩ := hin i h
    simp only [impl_Net_share.l0, hlt, h0, if_true, qYb a i h, qVh h ha, b0, b1]
    refine Ev.bind (contains_ev b a[i] hb) ?_
    rw [List.drop_eq_getElem_cons h]
    unfold shareFrom
    by_cases hc : b.contains a[i] = true
    · simp only [hc, if_true]
      exact ih (i + 1, wrap64 (acc + (qZa l a[i]).f2)) (by simp; omega) (by simp; omega)
    · simp only [hc, if_false]
      exact ih (i + 1, acc) (by simp; omega) (by simp; omega)
  · have hlt : ¬ (i : Int) < (a.length : Int) := by omega
    simp only [impl_Net_share.l0, hlt, if_false]
    rw [List.drop_of_length_le (by omega)]
    exact qQl fun k => rfl
def qWp (n : Int) (l : List S58) (a b : List Int) : Int := if (netOkB n l && walkB l a) = true then (if (netOkB n l && walkB l b) = true then shareFrom l b a 0 else -1) else -1
theorem implSomeShare_ev (n : Int) (l : List S58) (a b : List Int) (hl : l.length ≤ 9223372036854775807) (ha : a.length ≤ 9223372036854775807) (hb : b.length ≤ 9223372036854775807) :
    Ev (fun k => impl_SomeShare.f k n l a b) (qWp n l a b) := by
  unfold impl_SomeShare.f qWp
  refine Ev.bind (jZc n l a hl ha) ?_
  cases h1 : (netOkB n l && walkB l a) with
  | false => exact qQl fun k => by simp
  | true =>
    simp only [if_true]
    refine Ev.bind (jZc n l b hl hb) ?_
    cases h2 : (netOkB n l && walkB l b) with
    | false => exact qQl fun k => by simp
    | true =>
      simp only [if_true]
      refine Ev.bind (share_ev n l a b hl ha hb (walkAt_in hl ?_)) (qQl fun k => rfl)
      rw [Bool.and_eq_true] at h1
      exact h1.2
def Goes (l : List S58) : Int → List Int → Int → Prop
  | v, [], t => v = t
  | v, i :: w, t => (0 ≤ i ∧ i < (l.length : Int)) ∧ (qZa l i).f0 = v ∧ Goes l (qZa l i).f1 w t
def costS (l : List S58) : List Int → Int
  | [] => 0
  | x :: xs => (qZa l x).f2 + costS l xs
theorem arc_cost {n : Int} {l : List S58} (hn : Net1 n l) {x : Int} (h0 : 0 ≤ x) (h1 : x < (l.length : Int)) : 0 ≤ (qZa l x).f2 ∧ (qZa l x).f2 ≤ 99 := by
  obtain ⟨j, rfl⟩ := Int.eq_ofNat_of_zero_le h0
  rw [jZj l j (by omega)]
  obtain ⟨_, _, _, _, _, h2, h3, _⟩ := hn.ends _ (List.getElem_mem (show j < l.length by omega))
  exact ⟨h2, h3⟩
theorem walk_in {l : List S58} {w : List Int} (hl : l.length ≤ 9223372036854775807) (h : walkB l w = true) : ∀ x ∈ w, 0 ≤ x ∧ x < (l.length : Int) := by
  intro x hx
  obtain ⟨i, hi, rfl⟩ := List.getElem_of_mem hx
  exact walkAt_in hl h i hi
theorem walk_len {l : List S58} {w : List Int} (h : walkB l w = true) : w.length ≤ 20 := by
  unfold walkB at h
  simp only [Bool.and_eq_true, decide_eq_true_eq] at h
  exact h.2
theorem cost_ev {n : Int} {l : List S58} (hn : Net1 n l) (a : List Int) (ha : ∀ x ∈ a, 0 ≤ x ∧ x < (l.length : Int)) (hl : a.length ≤ 10000) : Ev (fun k => impl_Net_cost.f k n l a) (costS l a) := by
  unfold impl_Net_cost.f
  have hll := hn.len
  have := qXi (fun k (s : Nat × Int) => impl_Net_cost.l0 k s.2 a (a.length : Int) (s.1 : Int) n l) (fun s => a.length - s.1) (fun s => s.1 ≤ a.length ∧ 0 ≤ s.2 ∧ s.2 ≤ 99 * (s.1 : Int)) (fun s => s.2 + costS l (a.drop s.1)) ?_ (0, 0) ⟨Nat.zero_le _, by simp, by simp⟩
  · simpa using this
  rintro ⟨i, acc⟩ ⟨hi, h1, h2⟩ ih
  simp only at hi h1 h2 ih ⊢
  by_cases h : i < a.length
  · have hlt : (i : Int) < (a.length : Int) := by omega
    have h0 : (0 : Int) ≤ (i : Int) := by omega
    obtain ⟨b0, b1⟩ := ha _ (List.getElem_mem h)
    have hc := arc_cost hn b0 b1
    have hw : wrap64 (acc + (qZa l a[i]).f2) = acc + (qZa l a[i]).f2 := w_id (by omega) (by omega)
    simp only [impl_Net_cost.l0, hlt, h0, if_true, qYb a i h, qVh h (show a.length ≤ 9223372036854775807 by omega), b0, b1, hw]
    refine ev_at (ih (i + 1, acc + (qZa l a[i]).f2) ⟨by simp; omega, by simp; omega, by simp; omega⟩ (by simp; omega)) ?_
    rw [List.drop_eq_getElem_cons h]
    simp only [costS]
    omega
  · have hlt : ¬ (i : Int) < (a.length : Int) := by omega
    simp only [impl_Net_cost.l0, hlt, if_false]
    refine qQl fun k => ?_
    rw [List.drop_of_length_le (by omega)]
    simp [costS]
theorem walkCost_ev {n : Int} {l : List S58} (hok : netOkB n l = true) (a : List Int) (ha : walkB l a = true) : Ev (fun k => impl_WalkCost.f k n l a) (costS l a) := by
  have hn := qKk hok
  have hll := hn.len
  have h20 := walk_len ha
  unfold impl_WalkCost.f
  refine Ev.bind (jZc n l a (by omega) (by omega)) ?_
  simp only [hok, ha, Bool.and_self, if_true]
  exact Ev.bind (cost_ev hn a (walk_in (by omega) ha) (by omega)) (qQl fun _ => rfl)
theorem chainB_iff (l : List S58) (w : List Int) : chainB l w = true ↔ ∀ i, i < w.length → chk l w i = true := by
  unfold chainB
  rw [List.all_eq_true]
  constructor
  · intro h i hi; exact h i (by rw [List.mem_range'_1]; omega)
  · intro h i hi; rw [List.mem_range'_1] at hi; exact h i (by omega)
theorem goes_at {l : List S58} {t : Int} : ∀ (w : List Int) (v : Int), Goes l v w t → ∀ i, i < w.length → (0 ≤ w.getD i 0 ∧ w.getD i 0 < (l.length : Int)) ∧ (i = 0 → (qZa l (w.getD i 0)).f0 = v) ∧ (i ≠ 0 → (qZa l (w.getD i 0)).f0 = (qZa l (w.getD (i - 1) 0)).f1) ∧ (i + 1 = w.length → (qZa l (w.getD i 0)).f1 = t) := by
  intro w
  induction w with
  | nil => intro v _ i hi; exact absurd hi (Nat.not_lt_zero _)
  | cons x xs ih =>
    intro v h i hi
    obtain ⟨h1, h2, h3⟩ := h
    cases i with
    | zero =>
      refine ⟨h1, fun _ => h2, fun e => absurd rfl e, fun e => ?_⟩
      cases xs with
      | nil => exact h3
      | cons y ys => simp at e
    | succ i =>
      obtain ⟨g1, g2, g3, g4⟩ := ih _ h3 i (by simpa using hi)
      refine ⟨g1, fun e => absurd e (by omega), fun _ => ?_, fun e => g4 (by simpa using e)⟩
      cases i with
      | zero => exact g2 rfl
      | succ i => exact g3 (by omega)
theorem goes_walkB {l : List S58} (hl : l.length ≤ 1000) {t v : Int} {w : List Int} (h : Goes l v w t) (h8 : w.length ≤ 8) : walkB l w = true := by
  unfold walkB
  rw [Bool.and_eq_true, decide_eq_true_eq, chainB_iff]
  refine ⟨fun i hi => ?_, by omega⟩
  obtain ⟨g1, g2, g3, g4⟩ := goes_at w v h i hi
  unfold chk
  have e : inB (w.getD i 0) 0 (wrap64 ((l.length : Int) - 1)) = true := by rw [qKl, w_id (by omega) (by omega)]; omega
  rw [e, Bool.true_and, Bool.or_eq_true, decide_eq_true_eq, beq_iff_eq]
  by_cases c : i = 0
  · exact .inl c
  · exact .inr (g3 c).symm
theorem qKn {n : Int} {l : List S58} (hn : Net1 n l) : ∀ (e : List Int) (s : Int), (∀ k ∈ e, 0 ≤ k ∧ k < (l.length : Int)) → 0 ≤ s → s + 99 * (e.length : Int) ≤ 1000000000 → wcost l e s = s + costS l e
  | [], s, _, _, _ => by simp [wcost, costS]
  | x :: r, s, h, h0, h1 => by
    rw [List.length_cons] at h1
    obtain ⟨a, b⟩ := h x (by simp)
    have hc := arc_cost hn a b
    rw [wcost, costS, w_id (by omega) (by omega), qKn hn r _ (fun k hk => h k (by simp [hk])) (by omega) (by omega)]
    omega
theorem SP.go {l : List S58} {tg at_ : Int} {vis e : List Int} (h : SP l tg at_ vis e) : Goes l at_ e tg := by
  induction h with
  | nil => rfl
  | cons hi h0 _ _ _ ih => exact ⟨⟨by omega, by omega⟩, h0, ih⟩
theorem jZe (l : List S58) (longer share first : Int) (A : List (List Int)) : ∀ (d i : Nat), i + d = A.length → ∃ R, othL l longer share first A = othL l longer share first (A.take i) ++ R ∧ ∀ x ∈ R, x ∈ A.drop i
  | 0, i, h => ⟨[], by rw [List.take_of_length_le (by omega), List.append_nil], by simp⟩
  | d + 1, i, h => by
    have hi : i < A.length := by omega
    obtain ⟨R, h1, h2⟩ := jZe l longer share first A d (i + 1) (by omega)
    rw [qVd l longer share first A i hi] at h1
    rw [List.drop_eq_getElem_cons hi]
    split at h1
    · exact ⟨A[i] :: R, by rw [h1, List.append_assoc]; rfl, fun x hx => by
        rw [List.mem_cons] at hx ⊢
        rcases hx with hx | hx
        · exact .inl hx
        · exact .inr (h2 x hx)⟩
    · exact ⟨R, h1, fun x hx => List.mem_cons_of_mem _ (h2 x hx)⟩
theorem othLaw_loop {n : Int} {l : List S58} (hok : netOkB n l = true) {a b longer share : Int} (ha : 0 ≤ a ∧ a < n) (h5 : 0 ≤ longer ∧ longer ≤ 200) {A K : List (List Int)} (hA : A = bestA l a b) (hne : 0 < A.length) {fc : Int} (hfc : fc = wcost l (A.getD 0 []) 0) (hK : K = othL l longer share fc A) :
    Ev (fun k => laws_FnSomeOthers.l0 k longer share K A fc 0 0 n l) true := by
  have hn := qKk hok
  have hll := hn.len
  obtain ⟨hl6, hx⟩ := qWm hn ha (b := b)
  rw [← hA] at hl6 hx
  have hwb : ∀ x ∈ A, walkB l x = true := fun x hxm => goes_walkB (by omega) (hx x hxm).1.go (by have := (hx x hxm).2.1; omega)
  have hcost : ∀ x ∈ A, Ev (fun k => impl_WalkCost.f k n l x) (wcost l x 0) := fun x hxm => ev_at (walkCost_ev hok x (hwb x hxm)) (by rw [qKn hn x 0 (hx x hxm).2.2 (Int.le_refl _) (by have := (hx x hxm).2.1; omega)]; omega)
  have hshare : ∀ x ∈ A, ∀ y ∈ A, Ev (fun k => impl_SomeShare.f k n l x y) (shareFrom l y x 0) := fun x hxm y hym => ev_at (implSomeShare_ev n l x y (by omega) (by have := (hx x hxm).2.1; omega) (by have := (hx y hym).2.1; omega)) (by unfold qWp; rw [if_pos (by rw [hok, hwb x hxm]; rfl), if_pos (by rw [hok, hwb y hym]; rfl)])
  have hnd : A.Nodup := by
    have h1 : A.Pairwise fun x y => qXd l x y = true := by rw [hA]; exact List.Pairwise.sublist (List.take_sublist _ _) (someL_strict l a b)
    refine List.Pairwise.imp (fun {x y} h e => ?_) h1
    subst e
    have h2 : qXd l x x = false := (toW fun x => wcost l x 0).irr x
    rw [h2] at h
    cases h
  have hKin : ∀ x ∈ K, x ∈ A := by have := qYi l longer share fc A A.length (Nat.le_refl _); rw [List.take_length] at this; rw [hK]; exact this
  have hKl : K.length ≤ 6 := by have := qKg l longer share fc A A.length (Nat.le_refl _); rw [List.take_length] at this; rw [hK]; omega
  have := qXi (fun k (i : Nat) => laws_FnSomeOthers.l0 k longer share K A fc (((othL l longer share fc (A.take i)).length : Nat) : Int) (i : Int) n l) (fun i => A.length - i) (fun i => i ≤ A.length) (fun _ => true) ?_ 0 (Nat.zero_le _)
  · simpa [othL] using this
  intro i hi ih
  by_cases h : i < A.length
  · have hlt : (i : Int) < (A.length : Int) := by omega
    have h0 : (0 : Int) ≤ (i : Int) := by omega
    have e1 : qQf A (i : Int) = A[i] := by simp [qQf, h]
    have hAi := List.getElem_mem h
    have hol := qKg l longer share fc A i hi
    have hoi := qYi l longer share fc A i hi
    have NX := ih (i + 1) (by omega) (by omega)
    obtain ⟨R, hR, hRd⟩ := jZe l longer share fc A (A.length - (i + 1)) (i + 1) (by omega)
    rw [← hK] at hR
    rw [qVd l longer share fc A i h] at NX hR
    unfold othOk at NX hR
    simp only [laws_FnSomeOthers.l0, hlt, h0, if_true, e1]
    refine Ev.bind (hcost A[i] hAi) ?_
    generalize decide (wrap64 (wcost l A[i] 0 * 100) ≤ wrap64 (fc * wrap64 (100 + longer))) = ok0 at NX hR ⊢
    generalize othL l longer share fc (A.take i) = out at NX hR hol hoi ⊢
    have key := qXi (fun k (j : Nat) => laws_FnSomeOthers.l1 k longer share K A fc (out.length : Int) (i : Int) (ok0 && !((out.take j).any (alikeB l A[i] fc share))) (j : Int) n l) (fun j => out.length - j) (fun j => j ≤ out.length) (fun _ => true) ?_ 0 (Nat.zero_le _)
    · simpa using key
    intro j hj ihj
    have hpre : ∃ S, K = out ++ S := by
      split at hR
      · exact ⟨A[i] :: R, by rw [hR, List.append_assoc]; rfl⟩
      · exact ⟨R, hR⟩
    by_cases g : j < out.length
    · obtain ⟨S, hS⟩ := hpre
      have glt : (j : Int) < (out.length : Int) := by omega
      have gj : (0 : Int) ≤ (j : Int) := by omega
      have gK : j < K.length := by rw [hS, List.length_append]; omega
      have gKi : (j : Int) < (K.length : Int) := by omega
      have ej : qQf K (j : Int) = out[j] := by
        have : K[j] = out[j] := by simp only [hS, List.getElem_append_left g]
        rw [← this]
        simp [qQf, gK]
      have next := ihj (j + 1) (by omega) (by omega)
      have et : (out.take (j + 1)).any (alikeB l A[i] fc share) = ((out.take j).any (alikeB l A[i] fc share) || alikeB l A[i] fc share out[j]) := by rw [List.take_succ_eq_append_getElem g, List.any_append]; simp
      rw [et] at next
      simp only [laws_FnSomeOthers.l1, glt, if_true, h0, hlt, gj, gKi, e1, ej, qVh g (show out.length ≤ 9223372036854775807 by omega)]
      cases hq : (ok0 && !((out.take j).any (alikeB l A[i] fc share))) with
      | false =>
        simp only [Bool.false_eq_true, if_false]
        rwa [bF hq] at next
      | true =>
        simp only [if_true]
        refine Ev.bind (hshare A[i] hAi out[j] (hoi _ (List.getElem_mem g))) ?_
        rw [alikeB_from]
        rwa [bT hq] at next
    · have glt : ¬ (j : Int) < (out.length : Int) := by omega
      have ejl : out.take j = out := List.take_of_length_le (by omega)
      have o0 : (0 : Int) ≤ (out.length : Int) := by omega
      simp only [laws_FnSomeOthers.l1, glt, if_false, ejl]
      cases hq : (ok0 && !(out.any (alikeB l A[i] fc share))) with
      | true =>
        rw [hq] at NX hR
        simp only [if_true] at NX hR
        have hKo : out.length < K.length := by rw [hR]; simp
        have hKi : (out.length : Int) < (K.length : Int) := by omega
        have ek : qQf K (out.length : Int) = A[i] := by
          have : K[out.length] = A[i] := by simp [hR]
          rw [← this]
          simp [qQf, hKo]
        simp only [hKi, o0, h0, hlt, if_true, e1, ek]
        refine Ev.bind (jZb A[i] A[i] (by have := (hx _ hAi).2.1; omega)) ?_
        rw [decide_eq_true rfl]
        refine ev_shift ?_
        rw [List.length_append, List.length_singleton] at NX
        simp only [laws_FnSomeOthers.j3, bne_self_eq_false, Bool.false_eq_true, if_false, if_true, qVh h (show A.length ≤ 9223372036854775807 by omega), qVh hKo (show K.length ≤ 9223372036854775807 by omega)]
        exact NX
      | false =>
        rw [hq] at NX hR
        simp only [Bool.false_eq_true, if_false] at NX hR
        have fin : Ev (fun k => laws_FnSomeOthers.j3 k longer share K A fc (out.length : Int) (i : Int) false false n l) true := by
          refine ev_shift ?_
          simp only [laws_FnSomeOthers.j3, bne_self_eq_false, Bool.false_eq_true, if_false, qVh h (show A.length ≤ 9223372036854775807 by omega)]
          exact NX
        by_cases hKo : out.length < K.length
        · have hKi : (out.length : Int) < (K.length : Int) := by omega
          have ek : qQf K (out.length : Int) = K[out.length] := by simp [qQf, hKo]
          have hne : K[out.length] ≠ A[i] := by
            intro e
            have h1 : K[out.length] ∈ R := by
              cases hRc : R with
              | nil => rw [hRc, List.append_nil] at hR; rw [hR] at hKo; omega
              | cons y S =>
                have : K[out.length] = y := by simp [hR, hRc]
                rw [this]; exact List.mem_cons_self
            have h2 := hRd _ h1
            rw [e] at h2
            have h3 : (A[i] :: A.drop (i + 1)).Nodup := by rw [← List.drop_eq_getElem_cons h]; exact hnd.sublist (List.drop_sublist _ _)
            exact (List.nodup_cons.1 h3).1 h2
          simp only [hKi, o0, h0, hlt, if_true, e1, ek]
          refine Ev.bind (jZb _ A[i] (by have := (hx _ (hKin _ (List.getElem_mem hKo))).2.1; omega)) ?_
          rw [decide_eq_false hne]
          exact fin
        · have hKi : ¬ (out.length : Int) < (K.length : Int) := by omega
          simp only [hKi, if_false]
          exact fin
  · have hlt : ¬ (i : Int) < (A.length : Int) := by omega
    have e2 : othL l longer share fc (A.take i) = K := by rw [List.take_of_length_le (by omega)]; exact hK.symm
    have hp : (0 : Int) < (A.length : Int) := by omega
    have hfirst : ∃ S, K = A[0] :: S := by
      obtain ⟨R, hR, _⟩ := jZe l longer share fc A (A.length - 1) 1 (by omega)
      rw [← hK, qVd l longer share fc A 0 hne] at hR
      have g0 : A.getD 0 [] = A[0] := by simp [hne]
      have hc := qWi hn A[0] 0 (hx _ (List.getElem_mem hne)).2.2 (Int.le_refl _) (by have := (hx _ (List.getElem_mem hne)).2.1; omega)
      have hl7 := (hx _ (List.getElem_mem hne)).2.1
      have hb1 : othOk l longer share fc (othL l longer share fc (A.take 0)) A[0] = true := by
        unfold othOk
        rw [hfc, g0]
        have : (othL l longer share (wcost l A[0] 0) (A.take 0)).any (alikeB l A[0] (wcost l A[0] 0) share) = false := by simp [othL]
        rw [this, Bool.not_false, Bool.and_true, decide_eq_true_eq]
        generalize wcost l A[0] 0 = q at hc ⊢
        obtain ⟨q0, q1⟩ := hc
        rw [w_id (n := q * 100) (by omega) (by omega), w_id (n := 100 + longer) (by omega) (by omega)]
        have hm : q * 100 ≤ q * (100 + longer) := Int.mul_le_mul_of_nonneg_left (by omega) q0
        have hm2 : q * (100 + longer) ≤ 1000 * (100 + longer) := Int.mul_le_mul_of_nonneg_right (by omega) (by omega)
        rw [w_id (n := q * (100 + longer)) (by omega) (by omega)]
        exact hm
      rw [if_pos hb1] at hR
      exact ⟨R, by rw [hR]; simp [othL]⟩
    obtain ⟨S, hS⟩ := hfirst
    have hKp : (0 : Int) < (K.length : Int) := by rw [hS]; simp
    have ea : qQf A 0 = A[0] := by simp [qQf, hne]
    have ek : qQf K 0 = A[0] := by rw [hS]; simp [qQf]
    simp only [laws_FnSomeOthers.l0, hlt, if_false, e2, hKp, hp, if_true, ea, ek]
    refine Ev.bind (jZb A[0] A[0] (by have := (hx _ (List.getElem_mem hne)).2.1; omega)) ?_
    exact qQl fun _ => by simp
theorem FnSomeOthers : laws_FnSomeOthers.Pure := by
  intro code _ _ hw
  refine Ev.rounds ?_
  unfold laws_FnSomeOthers.f
  by_cases h0 : (code.length : Int) > 1048576
  · simp only [h0, if_true]; exact qQl fun _ => rfl
  simp only [h0, if_false]
  obtain ⟨n, l, a, b, m, s, hd, hl⟩ := drawSomeOthers_ex code hw
  refine Ev.bind hd ?_
  obtain ⟨K, e1, e2, k1, k2, k3⟩ := others_both n l (by omega) a b m s
  simp only [e1, Option.bind_some]
  have wk := wkGrid_self K (by omega) (fun x hx => by have := k2 x hx; omega)
  refine Ev.bind e2 (Ev.bind wk ?_)
  simp only [if_true]
  by_cases hz : K.length = 0
  · have : ((K.length : Int) == 0) = true := beq_iff_eq.2 (by omega)
    rw [this]
    refine ev_shift ?_
    simp only [laws_FnSomeOthers.j0, if_true]
    exact Ev.bind e2 (Ev.bind wk (qQl fun _ => rfl))
  · have : ((K.length : Int) == 0) = false := beq_eq_false_iff_ne.2 (by omega)
    rw [this]
    refine ev_shift ?_
    simp only [laws_FnSomeOthers.j0, Bool.false_eq_true, if_false]
    rcases k3 with ⟨hg, hK⟩ | h2
    · obtain ⟨h1, h2, h3, h4, h5, h6⟩ := hg
      have hn := qKk h1
      have hll := hn.len
      have ha := qYa hn h2
      obtain ⟨hl6, hx⟩ := qWm hn ha (b := b)
      have hsw : impl_SomeWalks.f n l a b 6 = some (bestA l a b) := someI_ok h1 h2 h3 h4 (by rw [qKl]; omega)
      have hAl : 0 < (bestA l a b).length := by
        have := qKg l m s (wcost l ((bestA l a b).getD 0 []) 0) (bestA l a b) (bestA l a b).length (Nat.le_refl _)
        rw [List.take_length] at this
        unfold othA at hK
        rw [← hK] at this
        omega
      have hAi : (0 : Int) < ((bestA l a b).length : Int) := by omega
      have g0 : (bestA l a b).getD 0 [] = (bestA l a b)[0] := by simp [hAl]
      have e0 : qQf (bestA l a b) 0 = (bestA l a b).getD 0 [] := by simp [qQf]
      obtain ⟨x0, x1, x2⟩ := hx _ (List.getElem_mem hAl)
      have hc : Ev (fun k => impl_WalkCost.f k n l ((bestA l a b).getD 0 [])) (wcost l ((bestA l a b).getD 0 []) 0) := by
        rw [g0]
        refine ev_at (walkCost_ev h1 _ (goes_walkB (by omega) x0.go (by omega))) ?_
        rw [qKn hn _ 0 x2 (Int.le_refl _) (by omega)]
        omega
      simp only [hsw, Option.bind_some, hAi, if_true, e0]
      refine Ev.bind hc ?_
      exact othLaw_loop h1 ha (qKl.1 h5) rfl hAl rfl hK
    · rw [h2] at hz; exact absurd rfl hz
end Go.Proofs.Ytlgolgfcolnddaa.Pure
