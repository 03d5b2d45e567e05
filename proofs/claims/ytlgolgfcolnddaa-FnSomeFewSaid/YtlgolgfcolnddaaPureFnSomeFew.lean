/- The pure statement of FnSomeFew: of every drawn net, two nodes and a number the program tells the same walks as the reference; they are the first of all that may be told. No condition. -/
import Derived.Test.YtlgolgfcolnddaaFKinds
import Derived.Test.YtlgolgfcolnddaaFimplNetOk
import Derived.Test.YtlgolgfcolnddaaFimplNethas
import Derived.Test.YtlgolgfcolnddaaFimplSomeWalks
import Derived.Test.YtlgolgfcolnddaaFimplnodesIn
import Derived.Test.YtlgolgfcolnddaaFimplwithin
import Derived.Test.YtlgolgfcolnddaaFlawsFnSomeFew
import Derived.Test.YtlgolgfcolnddaaFlawswkGrid
import Derived.Test.YtlgolgfcolnddaaFspecDrawSomeWalks
import Derived.Test.YtlgolgfcolnddaaFspecSomeWalks
import Derived.Test.YtlgolgfcolnddaaFspecl14Go
import Derived.Test.YtlgolgfcolnddaaFspecl14Less
import Derived.Test.YtlgolgfcolnddaaFspecl14Put
import Derived.Test.YtlgolgfcolnddaaFspecl14Some
import Derived.Test.YtlgolgfcolnddaaFspecl1In
import Derived.Test.YtlgolgfcolnddaaFspecl1Ok
import Derived.Test.YtlgolgfcolnddaaFspecl30AnyNet
import Derived.Test.YtlgolgfcolnddaaFspecl30Net
import Derived.Test.YtlgolgfcolnddaaFspecl30Node
import Derived.Test.YtlgolgfcolnddaaFspecl30Open
import Derived.Test.YtlgolgfcolnddaaFspecl30Rdone
import Derived.Test.YtlgolgfcolnddaaFspecl30Rdpick
import Derived.Test.YtlgolgfcolnddaaFtextcore
import Derived.Test.YtlgolgfcolnddaaFtextsomecmp
import Derived.Test.YtlgolgfcolnddaaFtextsomefol
import Derived.Test.YtlgolgfcolnddaaFtextsomeord
import Derived.Test.YtlgolgfcolnddaaFtextsomesimple
import Derived.Test.YtlgolgfcolnddaaFtextsomewalks
import Derived.Test.YtlgolgfcolnddaaFwkNet
namespace Go.Proofs.Ytlgolgfcolnddaa.Pure
open Go.RowKit Go.Proofs.Ytlgolgfcolnddaa.F Go.Proofs.YtlgolgfcolnddaaW.PrintWords
set_option linter.unusedVariables false
set_option linter.unusedSimpArgs false
/-! ### rounds -/
theorem ev_shift {α : Type} {g : Nat → Option α} {r : α} (h : Ev (fun k => g (k + 1)) r) : Ev g r := by
  obtain ⟨K, h⟩ := h
  refine ⟨K + 1, fun k hk => ?_⟩
  obtain ⟨m, rfl⟩ : ∃ m, k = m + 1 := ⟨k - 1, by omega⟩
  exact h m (by omega)
theorem ev_ind {σ β : Type} (g : Nat → σ → Option β) (μ : σ → Nat) (Inv : σ → Prop) (r : σ → β)
    (h : ∀ s, Inv s → (∀ s', Inv s' → μ s' < μ s → Ev (fun k => g k s') (r s')) → Ev (fun k => g (k + 1) s) (r s)) : ∀ s, Inv s → Ev (fun k => g k s) (r s) := by
  have key : ∀ n s, μ s ≤ n → Inv s → Ev (fun k => g k s) (r s) := by
    intro n
    induction n with
    | zero => intro s hs hi; exact ev_shift (h s hi (fun s' _ hlt => absurd hlt (by omega)))
    | succ n ih => intro s hs hi; exact ev_shift (h s hi (fun s' hi' hlt => ih s' (by omega) hi'))
  exact fun s hi => key _ s (Nat.le_refl _) hi
theorem ev_now {α : Type} {g : Nat → Option α} {r : α} (h : ∀ k, g k = some r) : Ev g r := ⟨0, fun k _ => h k⟩
theorem ev_at {α : Type} {g : Nat → Option α} {r r' : α} (h : Ev g r) (e : r = r') : Ev g r' := e ▸ h
/-! ### numbers and lists -/
theorem wsucc {i n : Nat} (h : i < n) (hn : n ≤ 9223372036854775807) : wrap64 ((i : Int) + 1) = ((i + 1 : Nat) : Int) := by
  unfold wrap64; omega
theorem wpred {i : Nat} (h : 0 < i) (hi : i ≤ 9223372036854775807) : wrap64 ((i : Int) - 1) = ((i - 1 : Nat) : Int) := by
  unfold wrap64; omega
theorem w_id {n : Int} (h : -9223372036854775808 ≤ n) (h' : n ≤ 9223372036854775807) : wrap64 n = n := by unfold wrap64; omega
theorem rd_nat (l : List Int) (i : Nat) : rd l (i : Int) = l.getD i 0 := by simp [rd]
theorem rd_at (l : List Int) (i : Nat) (h : i < l.length) : rd l (i : Int) = l[i] := by simp [rd, h]
theorem arc_at (l : List S58) (i : Nat) (h : i < l.length) : rd_T58 l (i : Int) = l[i] := by simp [rd_T58, h]
theorem any_at {α : Type} (p : α → Bool) (l : List α) (i : Nat) (h : i < l.length) : (l.drop i).any p = (p l[i] || (l.drop (i + 1)).any p) := by
  rw [List.drop_eq_getElem_cons h, List.any_cons]
/-! ### is a net valid -/
theorem within_eq (a b c : Int) : impl_within.f a b c = some (inB a b c) := by
  unfold impl_within.f inB
  by_cases h : b ≤ a
  · rw [if_pos h]; simp [h]
  · rw [if_neg h]; simp [h]
theorem l1In_eq (a b c : Int) : spec_l1In.f a b c = some (inB a b c) := within_eq a b c
theorem arcBad_eq (n : Int) (x : S58) : arcBad n x = !(inB x.f0 0 (wrap64 (n - 1)) && (inB x.f1 0 (wrap64 (n - 1)) && (!(x.f0 == x.f1) && (inB x.f2 0 99 && (inB x.f3 0 99 && inB x.f4 0 9))))) := by
  unfold arcBad hasB
  cases h1 : inB x.f0 0 (wrap64 (n - 1)) <;> cases h2 : inB x.f1 0 (wrap64 (n - 1)) <;> simp [h1, h2, Bool.not_and]
theorem netOk_eq (n : Int) (l : List S58) : impl_NetOk.f n l = some (netOkB n l) := rfl
theorem l1Ok_loop (n : Int) (l : List S58) (hl : l.length ≤ 9223372036854775807) (i : Nat) (hi : i ≤ l.length) :
    Ev (fun k => spec_l1Ok.l0 k (i : Int) n l) (!((l.drop i).any (arcBad n)) && (inB n 1 8 && decide (l.length ≤ 16))) := by
  refine ev_ind (fun k (i : Nat) => spec_l1Ok.l0 k (i : Int) n l) (fun i => l.length - i) (fun i => i ≤ l.length) (fun i => !((l.drop i).any (arcBad n)) && (inB n 1 8 && decide (l.length ≤ 16))) ?_ i hi
  intro i hi ih
  by_cases h : i < l.length
  · have hlt : (i : Int) < (l.length : Int) := by omega
    have h0 : (0 : Int) ≤ (i : Int) := by omega
    simp only [spec_l1Ok.l0, hlt, h0, if_true, l1In_eq, Option.bind_some, arc_at l i h, wsucc h hl]
    rw [any_at _ _ _ h, arcBad_eq]
    have ih' := ih (i + 1) (by omega) (by omega)
    generalize (l.drop (i + 1)).any (arcBad n) = q at ih' ⊢
    generalize l[i] = x at ih' ⊢
    cases inB x.f0 0 (wrap64 (n - 1)) with
    | false => exact ev_now fun k => by simp
    | true =>
    cases inB x.f1 0 (wrap64 (n - 1)) with
    | false => exact ev_now fun k => by simp
    | true =>
    by_cases he : x.f0 = x.f1
    · exact ev_now fun k => by simp [he]
    · cases inB x.f2 0 99 with
      | false => exact ev_now fun k => by simp [he]
      | true =>
      cases inB x.f3 0 99 with
      | false => exact ev_now fun k => by simp [he]
      | true =>
      cases inB x.f4 0 9 with
      | false => exact ev_now fun k => by simp [he]
      | true =>
        have he' : (x.f0 == x.f1) = false := beq_eq_false_iff_ne.2 he
        simpa [he, he'] using ih'
  · have hlt : ¬ (i : Int) < (l.length : Int) := by omega
    have he : i = l.length := by omega
    simp only [spec_l1Ok.l0, hlt, if_false, l1In_eq, Option.bind_some]
    subst he
    refine ev_now fun k => ?_
    cases inB n 1 8 <;> simp
    omega
theorem l1Ok_ev (n : Int) (l : List S58) (hl : l.length ≤ 9223372036854775807) : Ev (fun k => spec_l1Ok.f k n l) (netOkB n l) := by
  refine ev_at (l1Ok_loop n l hl 0 (Nat.zero_le _)) ?_
  unfold netOkB
  rw [List.drop_zero]
  cases inB n 1 8 <;> cases decide (l.length ≤ 16) <;> cases l.any (arcBad n) <;> rfl
theorem netOk_len {n : Int} {l : List S58} (h : netOkB n l = true) : l.length ≤ 16 := by
  unfold netOkB at h
  simp only [Bool.and_eq_true, decide_eq_true_eq] at h
  exact h.2.1
theorem inB_iff {a b c : Int} : inB a b c = true ↔ b ≤ a ∧ a ≤ c := by unfold inB; rw [Bool.and_eq_true, decide_eq_true_eq, decide_eq_true_eq]
/-! ### draws: what they make is of some size, whatever it is -/
theorem xor_nn {x y : Int} (hx : 0 ≤ x) (hx2 : x < 1099511627776) (hy : 0 ≤ y) (hy2 : y < 1099511627776) : 0 ≤ Go.bits .xor .i64 x y := by
  obtain ⟨a, rfl⟩ := Int.eq_ofNat_of_zero_le hx
  obtain ⟨b, rfl⟩ := Int.eq_ofNat_of_zero_le hy
  have h1 : (BitVec.ofInt 64 (a : Int)).toNat = a := by
    rw [BitVec.toNat_ofInt]
    omega
  have h2 : (BitVec.ofInt 64 (b : Int)).toNat = b := by
    rw [BitVec.toNat_ofInt]
    omega
  have h3 : a ^^^ b < 2 ^ 40 := Nat.xor_lt_two_pow (by omega) (by omega)
  have h4 : Go.bits .xor .i64 (a : Int) (b : Int) = IntKind.i64.wrap ((a ^^^ b : Nat) : Int) := by
    unfold Go.bits
    show IntKind.i64.wrap ((BitVec.ofInt 64 (a : Int) ^^^ BitVec.ofInt 64 (b : Int)).toNat : Int) = _
    rw [BitVec.toNat_xor, h1, h2]
  rw [h4, IntKind.wrap_i64]
  omega
/-- The bytes of a reader. -/
def Bytes (b : List Int) : Prop := b.length ≤ 2000 ∧ ∀ x ∈ b, 0 ≤ x ∧ x ≤ 255
theorem Bytes.at {b : List Int} (hb : Bytes b) (i : Int) : 0 ≤ rd b i ∧ rd b i ≤ 255 := by
  unfold rd
  rw [List.getD_eq_getElem?_getD]
  cases h : b[i.toNat]? with
  | none => simp
  | some x => exact hb.2 x (List.mem_of_getElem? h)
theorem pick_ex {b : List Int} (hb : Bytes b) {p n : Int} (hp : 0 ≤ p) (hp2 : p ≤ 1000000) (hn : n ≤ 1000000) :
    ∃ v, Ev (fun k => spec_l30Rd_pick.f k b p n) (v, p + 1) ∧ 0 ≤ v ∧ (1 ≤ n → v < n) ∧ (n < 1 → v = 0) := by
  have hl := hb.1
  have w1 : wrap64 (p + 1) = p + 1 := w_id (by omega) (by omega)
  have w0 : wrap64 (p + 1 - 1) = p := by rw [w_id (by omega) (by omega)]; omega
  unfold spec_l30Rd_pick.f
  rw [w1]
  by_cases h1 : n < 1
  · refine ⟨0, ?_, Int.le_refl _, fun h => by omega, fun _ => rfl⟩
    simp only [h1, if_true]
    exact ev_shift (ev_now fun k => by simp only [spec_l30Rd_pick.j0, if_true])
  · simp only [h1, if_false]
    have hn0 : ¬ n = 0 := by omega
    by_cases h2 : b.length = 0
    · refine ⟨0, ?_, Int.le_refl _, fun h => by omega, fun h => by first | exact absurd h h1 | exact h.elim⟩
      have e : ((b.length : Int) == 0) = true := by rw [beq_iff_eq]; omega
      rw [e]
      exact ev_shift (ev_now fun k => by simp only [spec_l30Rd_pick.j0, if_true])
    · have e : ((b.length : Int) == 0) = false := by rw [beq_eq_false_iff_ne]; omega
      have hm0 : ¬ (b.length : Int) = 0 := by omega
      rw [e]
      by_cases h3 : p < (b.length : Int)
      · have hr := hb.at p
        have w2 : wrap64 (rd b p) = rd b p := w_id (by omega) (by omega)
        refine ⟨Int.tmod (rd b p) n, ?_, Int.tmod_nonneg _ hr.1, fun h => Int.tmod_lt_of_pos _ (by omega), fun h => by first | exact absurd h h1 | exact h.elim⟩
        exact ev_shift (ev_now fun k => by simp only [spec_l30Rd_pick.j0, Bool.false_eq_true, if_false, w0, h3, hp, hn0, if_true, w2])
      · have q1 := Int.tmod_nonneg (a := p) (b.length : Int) hp
        have q2 := Int.tmod_lt_of_pos p (show (0 : Int) < (b.length : Int) by omega)
        have w3 : wrap64 (wrap64 (p * 7) + 3) = p * 7 + 3 := by rw [w_id (n := p * 7) (by omega) (by omega), w_id (by omega) (by omega)]
        have q3 := Int.tmod_nonneg (a := p * 7 + 3) (b.length : Int) (by omega)
        have q4 := Int.tmod_lt_of_pos (p * 7 + 3) (show (0 : Int) < (b.length : Int) by omega)
        have q5 : 0 ≤ Int.tdiv p (b.length : Int) := Int.tdiv_nonneg hp (by omega)
        have q6 : Int.tdiv p (b.length : Int) ≤ p := Int.tdiv_le_self _ hp
        obtain ⟨d, hd⟩ : ∃ d, Int.tdiv p (b.length : Int) = d := ⟨_, rfl⟩
        rw [hd] at q5 q6
        have r1 := hb.at (Int.tmod p (b.length : Int))
        have r2 := hb.at (Int.tmod (p * 7 + 3) (b.length : Int))
        have wx : wrap64 (wrap64 (wrap64 (wrap64 (wrap64 (rd b (Int.tmod p (b.length : Int))) * 131) + wrap64 (wrap64 (rd b (Int.tmod (p * 7 + 3) (b.length : Int))) * 1117)) + wrap64 (p * 29)) + wrap64 (wrap64 d * 53)) = rd b (Int.tmod p (b.length : Int)) * 131 + rd b (Int.tmod (p * 7 + 3) (b.length : Int)) * 1117 + p * 29 + d * 53 := by
          generalize rd b (Int.tmod p (b.length : Int)) = x1 at r1 ⊢
          generalize rd b (Int.tmod (p * 7 + 3) (b.length : Int)) = x2 at r2 ⊢
          rw [w_id (n := x1) (by omega) (by omega), w_id (n := x2) (by omega) (by omega), w_id (n := x1 * 131) (by omega) (by omega), w_id (n := x2 * 1117) (by omega) (by omega), w_id (n := p * 29) (by omega) (by omega), w_id (n := d) (by omega) (by omega), w_id (n := d * 53) (by omega) (by omega), w_id (n := x1 * 131 + x2 * 1117) (by omega) (by omega), w_id (n := x1 * 131 + x2 * 1117 + p * 29) (by omega) (by omega), w_id (by omega) (by omega)]
        generalize hX : rd b (Int.tmod p (b.length : Int)) * 131 + rd b (Int.tmod (p * 7 + 3) (b.length : Int)) * 1117 + p * 29 + d * 53 = X at wx
        have x0 : 0 ≤ X := by omega
        have x1 : X < 1099511627776 := by omega
        have y0 : 0 ≤ Int.tdiv X 64 := Int.tdiv_nonneg x0 (by omega)
        have y1 : Int.tdiv X 64 ≤ X := Int.tdiv_le_self _ x0
        have wy : wrap64 (Int.tdiv X 64) = Int.tdiv X 64 := w_id (by omega) (by omega)
        refine ⟨Int.tmod (Go.bits .xor .i64 X (Int.tdiv X 64)) n, ?_, Int.tmod_nonneg _ (xor_nn x0 x1 y0 (by omega)), fun h => Int.tmod_lt_of_pos _ (by omega), fun h => by first | exact absurd h h1 | exact h.elim⟩
        exact ev_shift (ev_now fun k => by simp only [spec_l30Rd_pick.j0, Bool.false_eq_true, if_false, w0, h3, hm0, q1, q2, w3, q3, q4, hn0, if_true, hd, wx, wy])
theorem one_ex {b : List Int} (hb : Bytes b) {p : Int} (hp : 0 ≤ p) (hp2 : p ≤ 1000000) (l : List Int) (hl : 1 ≤ l.length) (hl2 : l.length ≤ 1000) :
    ∃ v, v ∈ l ∧ Ev (fun k => spec_l30Rd_one.f k b p l) (v, p + 1) := by
  obtain ⟨v, hv, h0, h1, _⟩ := pick_ex hb hp hp2 (n := (l.length : Int)) (by omega)
  have h1 := h1 (by omega)
  unfold spec_l30Rd_one.f
  obtain ⟨i, rfl⟩ := Int.eq_ofNat_of_zero_le h0
  have hi : i < l.length := by omega
  refine ⟨l[i], List.getElem_mem hi, Ev.bind hv ?_⟩
  simp only [h0, h1, if_true, rd_at l i hi]
  exact ev_now fun _ => rfl
theorem open_ex (l : List Int) (h : ∀ x ∈ l, (Lit.int .u8 x).wf = true) : ∃ b, Bytes b ∧ spec_l30Open.f l = some (b, 0) := by
  have hw : ∀ x ∈ l, 0 ≤ x ∧ x ≤ 255 := by
    intro x hx
    have := h x hx
    simp [Lit.wf, IntKind.min, IntKind.max, IntKind.signed, IntKind.bits] at this
    omega
  unfold spec_l30Open.f
  by_cases h1 : (l.length : Int) > 2000
  · have h2 : 2000 ≤ (l.length : Int) := by omega
    rw [if_pos h1, if_pos h2]
    exact ⟨_, ⟨by rw [List.length_take]; omega, fun x hx => hw x (List.mem_of_mem_take hx)⟩, rfl⟩
  · rw [if_neg h1]
    exact ⟨_, ⟨by omega, hw⟩, rfl⟩
/-! ### nets, nodes and walks that are drawn -/
theorem l30Net_loop {b : List Int} (hb : Bytes b) {n : Int} (hn : 2 ≤ n ∧ n ≤ 6) : ∀ (m : Nat) (l : List S58) (p : Int), l.length + m ≤ 13 → 0 ≤ p → p + 6 * m ≤ 100000 →
    ∃ l' q, Ev (fun k => spec_l30Net.l0 k (m : Int) b p n l) (n, l', q) ∧ l'.length ≤ 13 ∧ 0 ≤ q ∧ q ≤ p + 6 * m := by
  intro m
  induction m with
  | zero =>
    intro l p hl hp hq
    exact ⟨l, p, ev_shift (ev_now fun k => by simp [spec_l30Net.l0]), by omega, hp, by omega⟩
  | succ m ih =>
    intro l p hl hp hq
    obtain ⟨v1, e1, _⟩ := pick_ex hb hp (by omega) (n := n) (by omega)
    obtain ⟨v2, e2, _⟩ := pick_ex hb (p := p + 1) (by omega) (by omega) (n := n) (by omega)
    obtain ⟨v3, e3, _⟩ := pick_ex hb (p := p + 1 + 1) (by omega) (by omega) (n := 100) (by omega)
    obtain ⟨v4, _, e4⟩ := one_ex hb (p := p + 1 + 1 + 1) (by omega) (by omega) [0, 1, 2, 5, 9, v3] (by simp) (by simp)
    obtain ⟨v5, _, e5⟩ := one_ex hb (p := p + 1 + 1 + 1 + 1) (by omega) (by omega) [0, 0, 3, 8] (by simp) (by simp)
    obtain ⟨v6, e6, _⟩ := pick_ex hb (p := p + 1 + 1 + 1 + 1 + 1) (by omega) (by omega) (n := 10) (by omega)
    have hpos : ((m + 1 : Nat) : Int) > 0 := by omega
    have hw : wrap64 (((m + 1 : Nat) : Int) - 1) = (m : Int) := by rw [w_id (by omega) (by omega)]; omega
    have hlen : l.length < 3518437208883 := by omega
    have hn0 : ¬ n = 0 := by omega
    by_cases hv : v1 = v2
    · obtain ⟨l', q, he, h1, h2, h3⟩ := ih (l ++ [⟨v1, Int.tmod (wrap64 (v2 + 1)) n, v4, v5, v6⟩]) (p + 1 + 1 + 1 + 1 + 1 + 1) (by rw [List.length_append]; simp; omega) (by omega) (by omega)
      refine ⟨l', q, ev_shift ?_, h1, h2, by omega⟩
      simp only [spec_l30Net.l0, hpos, if_true]
      refine Ev.bind e1 (Ev.bind e2 (Ev.bind e3 (Ev.bind e4 (Ev.bind e5 (Ev.bind e6 ?_)))))
      simp only [hv, hn0, hlen, if_true, if_false, hw]
      rw [hv] at he
      exact he
    · obtain ⟨l', q, he, h1, h2, h3⟩ := ih (l ++ [⟨v1, v2, v4, v5, v6⟩]) (p + 1 + 1 + 1 + 1 + 1 + 1) (by rw [List.length_append]; simp; omega) (by omega) (by omega)
      refine ⟨l', q, ev_shift ?_, h1, h2, by omega⟩
      simp only [spec_l30Net.l0, hpos, if_true]
      refine Ev.bind e1 (Ev.bind e2 (Ev.bind e3 (Ev.bind e4 (Ev.bind e5 (Ev.bind e6 ?_)))))
      simp only [hv, hlen, if_true, if_false, hw]
      exact he
theorem l30Net_ex {b : List Int} (hb : Bytes b) {p : Int} (hp : 0 ≤ p) (hp2 : p ≤ 90000) :
    ∃ n l q, Ev (fun k => spec_l30Net.f k b p) (n, l, q) ∧ l.length ≤ 13 ∧ 0 ≤ q ∧ q ≤ p + 100 ∧ 2 ≤ n ∧ n ≤ 6 := by
  obtain ⟨v1, e1, h1, h1', _⟩ := pick_ex hb hp (by omega) (n := 5) (by omega)
  obtain ⟨v2, e2, h2, h2', _⟩ := pick_ex hb (p := p + 1) (by omega) (by omega) (n := 14) (by omega)
  have h1' := h1' (by omega)
  have h2' := h2' (by omega)
  obtain ⟨m, rfl⟩ := Int.eq_ofNat_of_zero_le h2
  have hw : wrap64 (2 + v1) = 2 + v1 := w_id (by omega) (by omega)
  obtain ⟨l, q, he, h3, h4, h5⟩ := l30Net_loop hb (n := 2 + v1) (by omega) m [] (p + 1 + 1) (by simp; omega) (by omega) (by omega)
  refine ⟨2 + v1, l, q, ?_, h3, h4, by omega, by omega, by omega⟩
  unfold spec_l30Net.f
  refine Ev.bind e1 (Ev.bind e2 ?_)
  rw [hw]
  exact he
/-! ### drawn nodes -/
theorem l30Node_ex {b : List Int} (hb : Bytes b) {p : Int} (hp : 0 ≤ p) (hp2 : p ≤ 90000) (n : Int) (hn : n ≤ 1000000) (l : List S58) :
    ∃ v q, Ev (fun k => spec_l30Node.f k b p n l) (v, q) ∧ 0 ≤ q ∧ q ≤ p + 10 := by
  obtain ⟨v1, e1, _⟩ := pick_ex hb hp (by omega) (n := 16) (by omega)
  unfold spec_l30Node.f
  by_cases c : v1 = 0
  · obtain ⟨v2, _, e2⟩ := one_ex hb (p := p + 1) (by omega) (by omega) [(-1), n] (by simp) (by simp)
    refine ⟨v2, p + 1 + 1, Ev.bind e1 ?_, by omega, by omega⟩
    simp only [c, if_true]
    exact Ev.bind e2 (ev_now fun _ => rfl)
  · obtain ⟨v2, e2, _⟩ := pick_ex hb (p := p + 1) (by omega) (by omega) (n := n) hn
    refine ⟨v2, p + 1 + 1, Ev.bind e1 ?_, by omega, by omega⟩
    simp only [c, if_false]
    exact Ev.bind e2 (ev_now fun _ => rfl)
/-! ### drawn nets, ok or not -/
theorem l30AnyNet_ex9 {b : List Int} (hb : Bytes b) {p : Int} (hp : 0 ≤ p) (hp2 : p ≤ 90000) :
    ∃ n l q, Ev (fun k => spec_l30AnyNet.f k b p) (n, l, q) ∧ l.length ≤ 13 ∧ 0 ≤ q ∧ q ≤ p + 200 ∧ n ≤ 9 := by
  obtain ⟨n, l, q, he, h1, h2, h3, h4, h5⟩ := l30Net_ex hb hp hp2
  unfold spec_l30AnyNet.f
  by_cases hl : (l.length : Int) > 0
  · obtain ⟨v1, e1, g1, g2, _⟩ := pick_ex hb h2 (by omega) (n := (l.length : Int)) (by omega)
    have g2 := g2 (by omega)
    obtain ⟨v2, e2, _⟩ := pick_ex hb (p := q + 1) (by omega) (by omega) (n := 16) (by omega)
    by_cases c0 : v2 = 0
    · obtain ⟨v3, _, e3⟩ := one_ex hb (p := q + 1 + 1) (by omega) (by omega) [(-1), 8, (rd_T58 l v1).f0] (by simp) (by simp)
      refine ⟨n, l.set v1.toNat (⟨(rd_T58 l v1).f0, v3, (rd_T58 l v1).f2, (rd_T58 l v1).f3, (rd_T58 l v1).f4⟩ : S58), q + 1 + 1 + 1, Ev.bind he ?_, ?_, ?_, ?_, ?_⟩
      · simp only [hl, if_true]
        refine Ev.bind e1 (Ev.bind e2 ?_)
        simp only [c0, if_true, g1, g2]
        exact Ev.bind e3 (ev_now fun _ => rfl)
      · rw [List.length_set]; exact h1
      · omega
      · omega
      · omega
    · by_cases c1 : v2 = 1
      · obtain ⟨v3, _, e3⟩ := one_ex hb (p := q + 1 + 1) (by omega) (by omega) [(-1), 100] (by simp) (by simp)
        refine ⟨n, l.set v1.toNat (⟨(rd_T58 l v1).f0, (rd_T58 l v1).f1, v3, (rd_T58 l v1).f3, (rd_T58 l v1).f4⟩ : S58), q + 1 + 1 + 1, Ev.bind he ?_, ?_, ?_, ?_, ?_⟩
        · simp only [hl, if_true]
          refine Ev.bind e1 (Ev.bind e2 ?_)
          simp only [c1, if_true, show ¬ (1 : Int) = 0 by omega, if_false]
          refine Ev.bind e3 ?_
          simp only [g1, g2, if_true]
          exact ev_now fun _ => rfl
        · rw [List.length_set]; exact h1
        · omega
        · omega
        · omega
      · by_cases c2 : v2 = 2
        · obtain ⟨v3, hv3, e3⟩ := one_ex hb (p := q + 1 + 1) (by omega) (by omega) [0, 1, 9, 8] (by simp) (by simp)
          refine ⟨v3, l, q + 1 + 1 + 1, Ev.bind he ?_, h1, by omega, by omega, by simp only [List.mem_cons, List.not_mem_nil, or_false] at hv3; omega⟩
          simp only [hl, if_true]
          refine Ev.bind e1 (Ev.bind e2 ?_)
          simp only [c2, if_true, show ¬ (2 : Int) = 0 by omega, show ¬ (2 : Int) = 1 by omega, if_false]
          exact Ev.bind e3 (ev_now fun _ => rfl)
        · refine ⟨n, l, q + 1 + 1, Ev.bind he ?_, h1, by omega, by omega, by omega⟩
          simp only [hl, if_true]
          refine Ev.bind e1 (Ev.bind e2 ?_)
          simp only [c0, c1, c2, if_false]
          exact ev_now fun _ => rfl
  · refine ⟨n, l, q, Ev.bind he ?_, h1, h2, by omega, by omega⟩
    simp only [hl, if_false]
    exact ev_now fun _ => rfl
theorem l30AnyNet_ex {b : List Int} (hb : Bytes b) {p : Int} (hp : 0 ≤ p) (hp2 : p ≤ 90000) :
    ∃ n l q, Ev (fun k => spec_l30AnyNet.f k b p) (n, l, q) ∧ l.length ≤ 13 ∧ 0 ≤ q ∧ q ≤ p + 200 ∧ n ≤ 1000000 := by
  obtain ⟨n, l, q, h1, h2, h3, h4, h5⟩ := l30AnyNet_ex9 hb hp hp2
  exact ⟨n, l, q, h1, h2, h3, h4, by omega⟩
theorem drawSomeWalks_ex (c : List Int) (h : ∀ x ∈ c, (Lit.int .u8 x).wf = true) : ∃ n l a b m, Ev (fun k => spec_DrawSomeWalks.f k c) (n, l, a, b, m) ∧ l.length ≤ 13 ∧ (m = 1 ∨ m = 2 ∨ m = 6 ∨ m = 0) := by
  obtain ⟨y, hb, ho⟩ := open_ex c h
  obtain ⟨n, l, q, he, h1, h2, h3, h4⟩ := l30AnyNet_ex hb (p := 0) (by omega) (by omega)
  obtain ⟨a, q1, e1, g1, g2⟩ := l30Node_ex hb h2 (by omega) n h4 l
  obtain ⟨b, q2, e2, g3, g4⟩ := l30Node_ex hb g1 (by omega) n h4 l
  obtain ⟨d, hd, e3⟩ := one_ex hb (p := q2) g3 (by omega) [1, 2, 6, 6, 0] (by simp) (by simp)
  unfold spec_DrawSomeWalks.f
  simp only [ho, Option.bind_some]
  refine ⟨n, l, a, b, d, Ev.bind he (Ev.bind e1 (Ev.bind e2 (Ev.bind e3 (ev_now fun _ => rfl)))), h1, ?_⟩
  simp only [List.mem_cons, List.not_mem_nil, or_false] at hd
  omega
/-! ### a valid net -/
/-- What a valid net is. -/
structure Net1 (n : Int) (l : List S58) : Prop where
  lo : 1 ≤ n
  hi : n ≤ 8
  len : l.length ≤ 16
  ends : ∀ x ∈ l, 0 ≤ x.f0 ∧ x.f0 < n ∧ 0 ≤ x.f1 ∧ x.f1 < n ∧ x.f0 ≠ x.f1 ∧ 0 ≤ x.f2 ∧ x.f2 ≤ 99 ∧ 0 ≤ x.f3 ∧ x.f3 ≤ 99 ∧ 0 ≤ x.f4 ∧ x.f4 ≤ 9
theorem net1_of {n : Int} {l : List S58} (h : netOkB n l = true) : Net1 n l := by
  unfold netOkB at h
  simp only [Bool.and_eq_true, decide_eq_true_eq, inB_iff, Bool.not_eq_true'] at h
  obtain ⟨⟨h1, h2⟩, h3, h4⟩ := h
  refine ⟨h1, h2, h3, fun x hx => ?_⟩
  have h5 : arcBad n x = false := by
    cases h6 : arcBad n x with
    | false => rfl
    | true => rw [List.any_eq_true.2 ⟨x, hx, h6⟩] at h4; cases h4
  rw [arcBad_eq] at h5
  simp only [Bool.not_eq_false', Bool.and_eq_true, inB_iff, Bool.not_eq_true', beq_eq_false_iff_ne] at h5
  rw [w_id (n := n - 1) (by omega) (by omega)] at h5
  obtain ⟨a, b, c, d, e, f⟩ := h5
  exact ⟨a.1, by omega, b.1, by omega, c, d.1, d.2, e.1, e.2, f.1, f.2⟩
theorem netOk_of {n : Int} {l : List S58} (hn : Net1 n l) : netOkB n l = true := by
  unfold netOkB
  have hlo := hn.lo
  have hhi := hn.hi
  have hl := hn.len
  simp only [Bool.and_eq_true, decide_eq_true_eq, inB_iff, Bool.not_eq_true']
  refine ⟨⟨hlo, hhi⟩, hl, ?_⟩
  rw [List.any_eq_false]
  intro x hx
  obtain ⟨h1, h2, h3, h4, h5, h6, h7, h8, h9, h10, h11⟩ := hn.ends x hx
  have : arcBad n x = false := by
    rw [arcBad_eq]
    simp only [Bool.not_eq_false', Bool.and_eq_true, inB_iff, Bool.not_eq_true', beq_eq_false_iff_ne]
    rw [w_id (n := n - 1) (by omega) (by omega)]
    exact ⟨⟨h1, by omega⟩, ⟨h3, by omega⟩, h5, ⟨h6, h7⟩, ⟨h8, h9⟩, h10, h11⟩
  rw [this]; exact Bool.false_ne_true
/-! ### all walks that come to no node twice, as they are met -/
def DV (l : List S58) (tg : Int) : Nat → Int → List Int → List Int → List (List Int)
  | 0, _, _, _ => []
  | m + 1, at_, vis, w => if at_ = tg then [w] else (List.range l.length).flatMap fun (i : Nat) => if (rd_T58 l (i : Int)).f0 = at_ ∧ (rd_T58 l (i : Int)).f1 ∉ vis then DV l tg m (rd_T58 l (i : Int)).f1 ((rd_T58 l (i : Int)).f1 :: vis) (w ++ [(i : Int)]) else []
theorem flatMap_len {α : Type} (b : Nat) (f : α → List (List Int)) : ∀ L : List α, (∀ x ∈ L, (f x).length ≤ b) → (L.flatMap f).length ≤ L.length * b
  | [], _ => by simp
  | x :: r, h => by
    rw [List.flatMap_cons, List.length_append, List.length_cons, Nat.add_mul, Nat.one_mul]
    have := flatMap_len b f r fun y hy => h y (by simp [hy])
    have := h x (by simp)
    omega
theorem DV_len (l : List S58) (hl : l.length ≤ 16) (tg : Int) : ∀ (m : Nat) (at_ : Int) (vis w : List Int), (DV l tg m at_ vis w).length ≤ 16 ^ m
  | 0, _, _, _ => by simp [DV]
  | m + 1, at_, vis, w => by
    rw [DV]
    have hp : 0 < 16 ^ m := Nat.pos_of_ne_zero (by simp)
    split
    · rw [Nat.pow_succ]; simp; omega
    · refine Nat.le_trans (flatMap_len (16 ^ m) _ _ fun i _ => ?_) ?_
      · split
        · exact DV_len l hl tg m _ _ _
        · exact Nat.zero_le _
      · rw [List.length_range, Nat.pow_succ, Nat.mul_comm (16 ^ m)]
        exact Nat.mul_le_mul_right _ hl
/-- A list of distinct small numbers is short. -/
theorem nodup_short : ∀ (b : Nat) (vis : List Int), vis.Nodup → (∀ v ∈ vis, 0 ≤ v ∧ v < (b : Int)) → vis.length ≤ b
  | 0, [], _, _ => Nat.le_refl _
  | 0, v :: r, _, h => by have := h v (by simp); omega
  | b + 1, vis, hn, h => by
    have h2 := nodup_short b (vis.erase (b : Int)) (hn.erase _) fun v hv => by
      have h3 := h v (List.mem_of_mem_erase hv)
      have h4 : v ≠ (b : Int) := fun e => by subst e; exact (hn.not_mem_erase) hv
      omega
    have h5 := List.length_erase (a := (b : Int)) (l := vis)
    rw [h5] at h2
    split at h2 <;> omega
def maskOk (s : Nat) (vis : List Int) : Prop := ∀ v : Nat, v < 8 → (s / 2 ^ v % 2 = 0 ↔ (v : Int) ∉ vis)
theorem mask_next {s : Nat} {vis : List Int} (h : maskOk s vis) {u : Int} (h0 : 0 ≤ u) : maskOk (s ||| 2 ^ u.toNat) (u :: vis) := by
  intro v hv
  have h1 := h v hv
  have e : ∀ x : Nat, x / 2 ^ v % 2 = 0 ↔ x.testBit v = false := fun x => by rw [Nat.testBit_eq_decide_div_mod_eq, decide_eq_false_iff_not]; omega
  rw [e] at h1 ⊢
  rw [Nat.testBit_or, Bool.or_eq_false_iff, h1, Nat.testBit_two_pow, decide_eq_false_iff_not, List.mem_cons]
  constructor
  · rintro ⟨a, b⟩ (c | c)
    · exact b (by omega)
    · exact a c
  · intro a
    exact ⟨fun c => a (.inr c), fun c => a (.inl (by omega))⟩
theorem loop_flat (G : Int → List (List Int) → Option (List (List Int))) (F : Nat → List (List Int)) (b B N : Nat) (hG : ∀ (i : Nat) (o : List (List Int)), i < N → o.length + b ≤ B → G (i : Int) o = some (o ++ F i)) (hF : ∀ i, (F i).length ≤ b) : ∀ (c i : Nat) (o : List (List Int)), i + c ≤ N → o.length + c * b ≤ B → loopS G c i o = some (o ++ ((List.range' i c).flatMap F))
  | 0, i, o, _, _ => by simp [loopS]
  | c + 1, i, o, hN, h => by
    rw [Nat.add_mul, Nat.one_mul] at h
    rw [loopS, hG i o (by omega) (by omega), Option.bind_some, loop_flat G F b B N hG hF c (i + 1) _ (by omega) (by rw [List.length_append]; have := hF i; omega), List.range'_succ, List.flatMap_cons, List.append_assoc]
theorem folF_eq {n : Int} {l : List S58} (hn : Net1 n l) (tg : Int) : ∀ (m : Nat) (at_ : Int) (vis : List Int) (s : Nat) (w : List Int) (out : List (List Int)), vis.Nodup → (∀ v ∈ vis, 0 ≤ v ∧ v < (8 : Nat)) → vis.length + m = 9 → maskOk s vis → out.length + 16 ^ m ≤ 100000000000 → folF l tg m at_ s w out = some (out ++ DV l tg m at_ vis w)
  | 0, at_, vis, s, w, out, h1, h2, h3, _, _ => by have := nodup_short 8 vis h1 h2; omega
  | m + 1, at_, vis, s, w, out, h1, h2, h3, h4, h5 => by
    rw [folF, DV]
    have hp : 0 < 16 ^ m := Nat.pos_of_ne_zero (by simp)
    rw [Nat.pow_succ] at h5
    by_cases e : at_ = tg
    · rw [if_pos e, if_pos e, if_pos (by omega)]
    · rw [if_neg e, if_neg e]
      have hl := hn.len
      have hm : l.length * 16 ^ m ≤ 16 * 16 ^ m := Nat.mul_le_mul_right _ hl
      rw [List.range_eq_range']
      refine loop_flat _ _ (16 ^ m) 100000000000 l.length (fun i o hi ho => ?_) (fun i => ?_) _ _ _ (by omega) (by omega)
      · have hx := hn.ends _ (List.getElem_mem hi)
        rw [← arc_at l i hi] at hx
        generalize rd_T58 l (i : Int) = x at hx ⊢
        obtain ⟨_, _, e3, e4, _⟩ := hx
        have hhi := hn.hi
        have hb := h4 x.f1.toNat (by omega)
        rw [Int.toNat_of_nonneg e3] at hb
        by_cases c : x.f0 = at_ ∧ x.f1 ∉ vis
        · rw [if_pos ⟨c.1, hb.2 c.2⟩, if_pos c]
          exact folF_eq hn tg m _ _ _ _ _ (List.nodup_cons.2 ⟨c.2, h1⟩) (fun v hv => by
            rw [List.mem_cons] at hv
            rcases hv with rfl | hv
            · exact ⟨e3, by omega⟩
            · exact h2 v hv) (by rw [List.length_cons]; omega) (mask_next h4 e3) ho
        · rw [if_neg (fun z => c ⟨z.1, hb.1 z.2⟩), if_neg c, List.append_nil]
      · split
        · exact DV_len l hl tg m _ _ _
        · exact Nat.zero_le _
/-! ### a node's number -/
theorem node_of {n : Int} {l : List S58} (hn : Net1 n l) {a : Int} (h : inB a 0 (wrap64 (n - 1)) = true) : 0 ≤ a ∧ a < n := by
  have := hn.lo
  have := hn.hi
  rw [inB_iff, w_id (n := n - 1) (by omega) (by omega)] at h
  omega
/-! ### nodes of a net, and what can be reached -/
theorem nodesIn_eq (n : Int) (l : List S58) (ns : List Int) : impl_nodesIn.f n l ns = some (netOkB n l && hasB n ns) := by
  unfold impl_nodesIn.f impl_Net_has.f
  rw [netOk_eq]
  cases netOkB n l <;> rfl
theorem hasB1 (n a : Int) : hasB n [a] = inB a 0 (wrap64 (n - 1)) := by unfold hasB; simp
theorem hasB2 (n a b : Int) : hasB n [a, b] = (inB a 0 (wrap64 (n - 1)) && inB b 0 (wrap64 (n - 1))) := by unfold hasB; simp
theorem hasB3 (n a b c : Int) : hasB n [a, b, c] = (inB a 0 (wrap64 (n - 1)) && (inB b 0 (wrap64 (n - 1)) && inB c 0 (wrap64 (n - 1)))) := by unfold hasB; simp
/-! ### the best walks: what the program tells -/
def lessC (l : List S58) : List Int → List Int → Bool := lessW fun x => wcost l x 0
def someD (l : List S58) (a b : Int) : List (List Int) := DV l b 8 a [a] []
def someL (l : List S58) (a b : Int) : List (List Int) := sortW (lessC l) (someD l a b)
theorem DV_in (l : List S58) (tg : Int) : ∀ (m : Nat) (at_ : Int) (vis w : List Int), (∀ k ∈ w, 0 ≤ k ∧ k < (l.length : Int)) → ∀ d ∈ DV l tg m at_ vis w, ∀ k ∈ d, 0 ≤ k ∧ k < (l.length : Int)
  | 0, _, _, _, _, d, hd => by simp [DV] at hd
  | m + 1, at_, vis, w, hw, d, hd => by
    rw [DV] at hd
    split at hd
    · rw [List.mem_singleton] at hd
      subst hd
      exact hw
    · obtain ⟨i, hi, hd⟩ := List.mem_flatMap.1 hd
      split at hd
      · refine DV_in l tg m _ _ _ (fun k hk => ?_) d hd
        rw [List.mem_append, List.mem_singleton] at hk
        rw [List.mem_range] at hi
        rcases hk with hk | hk
        · exact hw k hk
        · omega
      · cases hd
theorem simF_eq {n : Int} {l : List S58} (hn : Net1 n l) {a : Int} (ha : 0 ≤ a ∧ a < n) (b : Int) : simF l a b = some (someL l a b) := by
  have hhi := hn.hi
  have hll := hn.len
  have h1 : (l.all fun x => decide (0 ≤ x.f1 ∧ x.f1 < 8)) = true := by
    rw [List.all_eq_true]
    intro x hx
    obtain ⟨_, _, e3, e4, _⟩ := hn.ends x hx
    exact decide_eq_true ⟨e3, by omega⟩
  have hm : maskOk (2 ^ a.toNat) [a] := by
    have h0 : maskOk 0 [] := fun v _ => by simp
    have := mask_next h0 ha.1
    rwa [Nat.zero_or] at this
  have hf := folF_eq hn b 8 a [a] (2 ^ a.toNat) [] [] (by simp) (fun v hv => by rw [List.mem_singleton] at hv; subst hv; exact ⟨ha.1, by omega⟩) (by simp) hm (by simp)
  have hlen := DV_len l hll b 8 a [a] []
  have h2 : ((DV l b 8 a [a] []).all fun w => w.all fun k => decide (0 ≤ k ∧ k < (l.length : Int))) = true := by
    rw [List.all_eq_true]
    intro w hw
    rw [List.all_eq_true]
    intro k hk
    exact decide_eq_true (DV_in l b 8 a [a] [] (by simp) w hw k hk)
  unfold simF
  rw [if_pos ⟨h1, by omega, ha.1, by omega⟩, hf, List.nil_append, Option.bind_some, if_pos ⟨h2, by omega⟩]
  rfl
theorem someI_ok {n : Int} {l : List S58} (hok : netOkB n l = true) {a b m : Int} (ha : inB a 0 (wrap64 (n - 1)) = true) (hb : inB b 0 (wrap64 (n - 1)) = true) (hab : a ≠ b) (hm : inB m 1 6 = true) : impl_SomeWalks.f n l a b m = some ((someL l a b).take m.toNat) := by
  have hn := net1_of hok
  have hm2 := inB_iff.1 hm
  unfold impl_SomeWalks.f swF
  rw [nodesIn_eq, hasB2, hok, ha, hb, Option.bind_some, if_pos (show (true && (true && true)) = true from rfl), if_neg hab, within_eq, Option.bind_some, hm, if_pos rfl, simF_eq hn (node_of hn ha), Option.bind_some, if_pos (by omega)]
theorem someI_bad {n : Int} {l : List S58} {a b m : Int} (h : ¬ (netOkB n l = true ∧ inB a 0 (wrap64 (n - 1)) = true ∧ inB b 0 (wrap64 (n - 1)) = true ∧ a ≠ b ∧ inB m 1 6 = true)) : impl_SomeWalks.f n l a b m = some [] := by
  unfold impl_SomeWalks.f swF
  rw [nodesIn_eq, hasB2, Option.bind_some]
  cases h1 : netOkB n l with
  | false => rfl
  | true =>
  cases h2 : inB a 0 (wrap64 (n - 1)) with
  | false => rfl
  | true =>
  cases h3 : inB b 0 (wrap64 (n - 1)) with
  | false => rfl
  | true =>
  rw [if_pos (show (true && (true && true)) = true from rfl)]
  by_cases e : a = b
  · rw [if_pos e]
  · rw [if_neg e, within_eq, Option.bind_some]
    cases h4 : inB m 1 6 with
    | false => rfl
    | true => exact absurd ⟨h1, h2, h3, e, h4⟩ h
/-! ### so many of the best, put in one by one -/
def fillW (lt : List Int → List Int → Bool) (m : Nat) (L D : List (List Int)) : List (List Int) := D.foldl (fun L w => (insW lt w L).take m) L
theorem insW_take {lt : List Int → List Int → Bool} (w : List Int) : ∀ (m : Nat) (L : List (List Int)), (insW lt w (L.take m)).take m = (insW lt w L).take m
  | 0, L => by rw [List.take_zero, List.take_zero]
  | m + 1, [] => by rw [List.take_nil]
  | m + 1, e :: r => by
    rw [List.take_succ_cons, insW, insW]
    split
    · rw [List.take_succ_cons, List.take_succ_cons]
      congr 1
      cases m with
      | zero => rw [List.take_zero, List.take_zero]
      | succ m => rw [List.take_succ_cons, List.take_succ_cons, List.take_take, Nat.min_eq_left (by omega)]
    · rw [List.take_succ_cons, List.take_succ_cons, insW_take w m r]
theorem fillW_take {lt : List Int → List Int → Bool} (m : Nat) : ∀ (D L : List (List Int)), fillW lt m (L.take m) D = (D.foldl (fun L w => insW lt w L) L).take m
  | [], L => rfl
  | d :: D, L => by
    unfold fillW
    rw [List.foldl_cons, List.foldl_cons, insW_take]
    exact fillW_take m D _
theorem fillW_sort {lt : List Int → List Int → Bool} (m : Nat) (D : List (List Int)) : fillW lt m [] D = (sortW lt D).take m := by
  have := fillW_take (lt := lt) m D []
  rwa [List.take_nil] at this
theorem fillW_append {lt : List Int → List Int → Bool} (m : Nat) (L D E : List (List Int)) : fillW lt m L (D ++ E) = fillW lt m (fillW lt m L D) E := by unfold fillW; rw [List.foldl_append]
theorem insW_end {lt : List Int → List Int → Bool} (w : List Int) : ∀ L : List (List Int), (∀ e ∈ L, lt w e = false) → insW lt w L = L ++ [w]
  | [], _ => rfl
  | e :: r, h => by rw [insW, if_neg (by rw [h e (by simp)]; exact Bool.false_ne_true), insW_end w r fun x hx => h x (by simp [hx]), List.cons_append]
theorem sorted_take {lt : List Int → List Int → Bool} {L : List (List Int)} (h : SortedW lt L) (m : Nat) : SortedW lt (L.take m) := List.Pairwise.sublist (List.take_sublist m L) h
theorem fillW_ok {lt : List Int → List Int → Bool} (h : TO lt) {m : Nat} : ∀ (D : List (List Int)) {L : List (List Int)}, SortedW lt L → L.length ≤ m → SortedW lt (fillW lt m L D) ∧ (fillW lt m L D).length ≤ m
  | [], _, hs, hl => ⟨hs, hl⟩
  | d :: D, L, hs, hl => by
    unfold fillW
    rw [List.foldl_cons]
    exact fillW_ok h D (sorted_take (insW_sorted h d hs) m) (by rw [List.length_take]; omega)
/-- What is behind the last of so many changes nothing. -/
theorem fillW_full {lt : List Int → List Int → Bool} (h : TO lt) {m : Nat} : ∀ (D : List (List Int)) {L : List (List Int)}, SortedW lt L → (hl : L.length = m) → (hm : 0 < m) → (∀ d ∈ D, lt (L[m - 1]'(by omega)) d = true) → fillW lt m L D = L
  | [], _, _, _, _, _ => rfl
  | d :: D, L, hs, hl, hm, hd => by
    unfold fillW
    rw [List.foldl_cons]
    have e : (insW lt d L).take m = L := by
      rw [insW_end d L, List.take_left' hl]
      intro e he
      obtain ⟨j, hj, rfl⟩ := List.getElem_of_mem he
      have h1 := h.asym (hd d (by simp))
      by_cases e2 : j = m - 1
      · subst e2; exact h1
      · have h2 := List.pairwise_iff_getElem.1 hs j (m - 1) hj (by omega) (by omega)
        exact h.nlt h1 h2
    rw [e]
    exact fillW_full h D hs hl hm fun x hx => hd x (by simp [hx])
/-- Where one is put. -/
theorem insW_at {lt : List Int → List Int → Bool} (w : List Int) : ∀ (L : List (List Int)) (j : Nat), j ≤ L.length → (∀ i (h : i < L.length), i < j → lt w L[i] = false) → (∀ h : j < L.length, lt w L[j] = true) → insW lt w L = L.take j ++ w :: L.drop j
  | [], j, hj, _, _ => by
    have : j = 0 := by simpa using hj
    subst this
    rfl
  | e :: r, 0, _, _, h2 => by rw [insW, if_pos (show lt w e = true from h2 (by simp))]; rfl
  | e :: r, j + 1, hj, h1, h2 => by
    rw [insW, if_neg (by rw [show lt w e = false from h1 0 (by simp) (by omega)]; exact Bool.false_ne_true), List.take_succ_cons, List.drop_succ_cons, List.cons_append]
    congr 1
    exact insW_at w r j (by simpa using hj) (fun i h hi => h1 (i + 1) (by simpa using h) (by omega)) (fun h => h2 (by simpa using h))
/-! ### the best walks: what the reference tells -/
def toWay (l : List S58) (w : List Int) : S103 := ⟨w, wcost l w 0⟩
theorem wcost_app (l : List S58) : ∀ (u e : List Int) (s : Int), wcost l (u ++ e) s = wcost l e (wcost l u s)
  | [], e, s => rfl
  | x :: u, e, s => by rw [List.cons_append, wcost, wcost, wcost_app l u e]
theorem wcost_one (l : List S58) (u : List Int) (i s : Int) : wcost l (u ++ [i]) s = wrap64 (wcost l u s + (rd_T58 l i).f2) := by rw [wcost_app, wcost, wcost]
theorem wcost_rng {n : Int} {l : List S58} (hn : Net1 n l) : ∀ (e : List Int) (s : Int), (∀ k ∈ e, 0 ≤ k ∧ k < (l.length : Int)) → 0 ≤ s → s + 99 * (e.length : Int) ≤ 1000000000 → s ≤ wcost l e s ∧ wcost l e s ≤ s + 99 * (e.length : Int)
  | [], s, _, _, _ => by simp [wcost]
  | x :: r, s, h, h0, h1 => by
    rw [List.length_cons] at h1 ⊢
    obtain ⟨a, b⟩ := h x (by simp)
    obtain ⟨j, rfl⟩ := Int.eq_ofNat_of_zero_le a
    obtain ⟨_, _, _, _, _, e6, e7, _⟩ := hn.ends _ (List.getElem_mem (show j < l.length by omega))
    rw [← arc_at l j (by omega)] at e6 e7
    rw [wcost, w_id (by omega) (by omega)]
    have := wcost_rng hn r (s + (rd_T58 l (j : Int)).f2) (fun k hk => h k (by simp [hk])) (by omega) (by omega)
    omega
theorem way_at (L : List S103) (i : Nat) (h : i < L.length) : rd_T103 L (i : Int) = L[i] := by simp [rd_T103, h]
theorem l14Less_ev (l : List S58) (a b : List Int) (ha : a.length ≤ 1000) (hb : b.length ≤ 1000) : Ev (fun k => spec_l14Less.f k a (wcost l a 0) b (wcost l b 0)) (lessC l a b) := by
  unfold spec_l14Less.f lessC lessW
  by_cases e : wcost l a 0 = wcost l b 0
  · simp only [e, if_true]
    by_cases e2 : a.length = b.length
    · have e3 : (a.length : Int) = (b.length : Int) := by omega
      simp only [e2, if_true]
      have := ev_ind (fun k (i : Nat) => spec_l14Less.l0 k (i : Int) a (wcost l b 0) b (wcost l b 0)) (fun i => a.length - i) (fun i => i ≤ a.length) (fun i => lexB (a.drop i) (b.drop i)) ?_ 0 (Nat.zero_le _)
      · simpa using this
      intro i hi ih
      by_cases h : i < a.length
      · have hlt : (i : Int) < (a.length : Int) := by omega
        have hlt2 : (i : Int) < (b.length : Int) := by omega
        have h0 : (0 : Int) ≤ (i : Int) := by omega
        have hb2 : i < b.length := by omega
        simp only [spec_l14Less.l0, hlt, hlt2, h0, if_true, rd_at a i h, rd_at b i hb2, wsucc h (show a.length ≤ 9223372036854775807 by omega)]
        rw [List.drop_eq_getElem_cons h, List.drop_eq_getElem_cons hb2, lexB]
        by_cases c : a[i] = b[i]
        · simp only [c, if_true]
          exact ih (i + 1) (by omega) (by omega)
        · simp only [c, if_false]
          exact ev_now fun _ => rfl
      · have hlt : ¬ (i : Int) < (a.length : Int) := by omega
        simp only [spec_l14Less.l0, hlt, if_false]
        refine ev_now fun _ => ?_
        rw [List.drop_of_length_le (by omega), List.drop_of_length_le (by omega)]
        rfl
    · have e3 : ¬ (a.length : Int) = (b.length : Int) := by omega
      simp only [e2, e3, if_false]
      refine ev_now fun _ => ?_
      congr 1
      apply decide_eq_decide.2
      omega
  · simp only [e, if_false]
    exact ev_now fun _ => rfl
theorem putTail (l : List S58) (w : List Int) (L : List (List Int)) (j m : Nat) (hj : j ≤ L.length) (e : insW (lessC l) w L = L.take j ++ w :: L.drop j) : (((L.map (toWay l)).take j ++ [toWay l w]) ++ (L.map (toWay l)).drop j).take m = ((insW (lessC l) w L).take m).map (toWay l) := by
  rw [e, List.map_take, List.map_append, List.map_cons, List.map_take, List.map_drop, List.append_assoc, List.singleton_append]
theorem l14Put_ev (l : List S58) (w : List Int) (L : List (List Int)) (m : Int) (hm : 1 ≤ m) (hw : w.length ≤ 1000) (hL : L.length ≤ 1000) (hLw : ∀ x ∈ L, x.length ≤ 1000) : Ev (fun k => spec_l14Put.f k (L.map (toWay l)) w (wcost l w 0) m) (((insW (lessC l) w L).take m.toNat).map (toWay l)) := by
  unfold spec_l14Put.f
  have hml : (L.map (toWay l)).length = L.length := List.length_map _
  have tail : ∀ j : Nat, j ≤ L.length → insW (lessC l) w L = L.take j ++ w :: L.drop j → ∀ Y : List S103, Y = ((L.map (toWay l)).take j ++ [toWay l w]) ++ (L.map (toWay l)).drop j → (if (Y.length : Int) > m then (if 0 ≤ m then (if m ≤ (Y.length : Int) then (some (Y.take m.toNat)) else none) else none) else (some Y)) = some (((insW (lessC l) w L).take m.toNat).map (toWay l)) := by
    intro j hj e Y hY
    rw [← putTail l w L j m.toNat hj e, ← hY]
    by_cases c : (Y.length : Int) > m
    · rw [if_pos c, if_pos (by omega), if_pos (by omega)]
    · rw [if_neg c, List.take_of_length_le (by omega)]
  refine ev_ind (fun k (j : Nat) => spec_l14Put.l0 k (L.map (toWay l)) m (j : Int) w (wcost l w 0)) (fun j => L.length - j) (fun j => j ≤ L.length ∧ ∀ i (h : i < L.length), i < j → lessC l w L[i] = false) (fun _ => ((insW (lessC l) w L).take m.toNat).map (toWay l)) ?_ 0 ⟨Nat.zero_le _, fun i _ h => absurd h (Nat.not_lt_zero _)⟩
  rintro j ⟨hj, hb⟩ ih
  have hjl : j ≤ (L.map (toWay l)).length := by rw [hml]; exact hj
  have t1 : ((L.map (toWay l)).take j).length = j := by rw [List.length_take, hml]; omega
  have t2 : ((L.map (toWay l)).drop j).length = L.length - j := by rw [List.length_drop, hml]
  by_cases h : j < L.length
  · have hlt : (j : Int) < (L.length : Int) := by omega
    have h0 : (0 : Int) ≤ (j : Int) := by omega
    have hle : (j : Int) ≤ (L.length : Int) := by omega
    have hat : rd_T103 (L.map (toWay l)) (j : Int) = toWay l L[j] := by rw [way_at _ j (by rw [hml]; exact h), List.getElem_map]
    simp only [spec_l14Put.l0, hml, hlt, h0, hle, if_true, hat, toWay, Option.bind_some, List.length_nil, Nat.zero_add, List.nil_append, Int.toNat_natCast, wsucc h (show L.length ≤ 9223372036854775807 by omega)]
    refine Ev.bind (l14Less_ev l w L[j] hw (hLw _ (List.getElem_mem h))) ?_
    cases c : lessC l w L[j] with
    | false =>
      simp only [Bool.false_eq_true, if_false]
      exact ih (j + 1) ⟨by omega, fun i hi hij => by
        by_cases e : i = j
        · subst e; exact c
        · exact hb i hi (by omega)⟩ (by omega)
    | true =>
      have e := insW_at (lt := lessC l) w L j hj hb (fun _ => c)
      have b1 : ((L.map (toWay l)).take j).length < 4398046511104 := by rw [t1]; omega
      have b2 : ((L.map (toWay l)).take j ++ [toWay l w]).length + ((L.map (toWay l)).drop j).length < 4398046511104 := by rw [List.length_append, t1, t2]; simp; omega
      have b0 : ((L.map (toWay l)).take j).length < 4398046511104 := b1
      have hk := tail j hj e _ rfl
      unfold toWay at b1 b2 hk ⊢
      simp only [if_true, b1, b2]
      exact ev_now fun _ => hk
  · have hlt : ¬ (j : Int) < (L.length : Int) := by omega
    have h0 : (0 : Int) ≤ (j : Int) := by omega
    have hle : (j : Int) ≤ (L.length : Int) := by omega
    have e := insW_at (lt := lessC l) w L j hj hb (fun hc => absurd hc h)
    have b1 : ((L.map (toWay l)).take j).length < 4398046511104 := by rw [t1]; omega
    have b2 : ((L.map (toWay l)).take j ++ [toWay l w]).length + ((L.map (toWay l)).drop j).length < 4398046511104 := by rw [List.length_append, t1, t2]; simp; omega
    have hk := tail j hj e _ rfl
    simp only [spec_l14Put.l0, hml, hlt, h0, hle, if_true, if_false, Option.bind_some, List.length_nil, Nat.zero_add, List.nil_append, Int.toNat_natCast]
    unfold toWay at b1 b2 hk ⊢
    simp only [if_true, b1, b2]
    exact ev_now fun _ => hk
/-! ### walks to no node twice -/
inductive SP (l : List S58) (tg : Int) : Int → List Int → List Int → Prop
  | nil {vis : List Int} : SP l tg tg vis []
  | cons {i : Nat} {at_ : Int} {vis e : List Int} : i < l.length → (rd_T58 l (i : Int)).f0 = at_ → at_ ≠ tg → (rd_T58 l (i : Int)).f1 ∉ vis → SP l tg (rd_T58 l (i : Int)).f1 ((rd_T58 l (i : Int)).f1 :: vis) e → SP l tg at_ vis ((i : Int) :: e)
theorem DV_sound (l : List S58) (tg : Int) : ∀ (m : Nat) (at_ : Int) (vis w d : List Int), d ∈ DV l tg m at_ vis w → ∃ e, d = w ++ e ∧ SP l tg at_ vis e
  | 0, _, _, _, d, hd => by simp [DV] at hd
  | m + 1, at_, vis, w, d, hd => by
    rw [DV] at hd
    split at hd
    · rename_i e
      rw [List.mem_singleton] at hd
      subst e
      exact ⟨[], by rw [List.append_nil]; exact hd, SP.nil⟩
    · rename_i e
      obtain ⟨i, hi, hd⟩ := List.mem_flatMap.1 hd
      split at hd
      · rename_i c
        obtain ⟨e2, h1, h2⟩ := DV_sound l tg m _ _ _ d hd
        exact ⟨(i : Int) :: e2, by rw [h1, List.append_assoc]; rfl, SP.cons (List.mem_range.1 hi) c.1 e c.2 h2⟩
      · cases hd
theorem DV_full {n : Int} {l : List S58} (hn : Net1 n l) (tg : Int) {at_ : Int} {vis e : List Int} (h : SP l tg at_ vis e) : ∀ (m : Nat) (w : List Int), vis.Nodup → (∀ v ∈ vis, 0 ≤ v ∧ v < (8 : Nat)) → vis.length + m = 9 → w ++ e ∈ DV l tg m at_ vis w := by
  induction h with
  | nil =>
    intro m w h1 h2 h3
    have := nodup_short 8 _ h1 h2
    obtain ⟨k, rfl⟩ : ∃ k, m = k + 1 := ⟨m - 1, by omega⟩
    rw [DV, if_pos rfl, List.append_nil]
    exact List.mem_singleton.2 rfl
  | @cons i at_ vis e hi h0 hne hv _ ih =>
    intro m w h1 h2 h3
    have := nodup_short 8 _ h1 h2
    obtain ⟨k, rfl⟩ : ∃ k, m = k + 1 := ⟨m - 1, by omega⟩
    rw [DV, if_neg hne]
    refine List.mem_flatMap.2 ⟨i, List.mem_range.2 hi, ?_⟩
    rw [if_pos ⟨h0, hv⟩]
    have hx := hn.ends _ (List.getElem_mem hi)
    rw [← arc_at l i hi] at hx
    obtain ⟨_, _, e3, e4, _⟩ := hx
    have hhi := hn.hi
    have := ih k (w ++ [(i : Int)]) (List.nodup_cons.2 ⟨hv, h1⟩) (fun v hv2 => by
      rw [List.mem_cons] at hv2
      rcases hv2 with rfl | hv2
      · exact ⟨e3, by omega⟩
      · exact h2 v hv2) (by rw [List.length_cons]; omega)
    rwa [List.append_assoc] at this
theorem DV_nodup (l : List S58) (tg : Int) : ∀ (m : Nat) (at_ : Int) (vis w : List Int), (DV l tg m at_ vis w).Nodup
  | 0, _, _, _ => by simp [DV]
  | m + 1, at_, vis, w => by
    rw [DV]
    split
    · simp
    · unfold List.Nodup
      rw [List.pairwise_flatMap]
      constructor
      · intro i _
        split
        · exact DV_nodup l tg m _ _ _
        · exact List.Pairwise.nil
      · refine List.Pairwise.imp ?_ List.nodup_range
        intro i j hij x hx y hy e
        subst e
        split at hx
        · split at hy
          · obtain ⟨e1, h1, _⟩ := DV_sound l tg m _ _ _ x hx
            obtain ⟨e2, h2, _⟩ := DV_sound l tg m _ _ _ x hy
            rw [h1, List.append_assoc, List.append_assoc] at h2
            have h3 := List.append_cancel_left h2
            rw [List.singleton_append, List.singleton_append, List.cons.injEq] at h3
            exact hij (by omega)
          · cases hy
        · cases hx
theorem someD_iff {n : Int} {l : List S58} (hn : Net1 n l) {a b : Int} (ha : 0 ≤ a ∧ a < n) (d : List Int) : d ∈ someD l a b ↔ SP l b a [a] d := by
  have hhi := hn.hi
  constructor
  · intro h
    obtain ⟨e, h1, h2⟩ := DV_sound l b 8 a [a] [] d h
    rw [List.nil_append] at h1
    subst h1
    exact h2
  · intro h
    have := DV_full hn b h 8 [] (by simp) (fun v hv => by rw [List.mem_singleton] at hv; subst hv; exact ⟨ha.1, by omega⟩) (by simp)
    rwa [List.nil_append] at this
theorem someL_mem {n : Int} {l : List S58} (hn : Net1 n l) {a b : Int} (ha : 0 ≤ a ∧ a < n) (d : List Int) : d ∈ someL l a b ↔ SP l b a [a] d := by
  rw [← someD_iff hn ha]
  exact (sortW_perm (lessC l) (someD l a b)).mem_iff
theorem someL_sorted (l : List S58) (a b : Int) : SortedW (lessC l) (someL l a b) := sortW_sorted (toW _) _
theorem someL_strict (l : List S58) (a b : Int) : (someL l a b).Pairwise fun x y => lessC l x y = true := by
  have h1 := someL_sorted l a b
  have h2 : (someL l a b).Nodup := (sortW_perm (lessC l) (someD l a b)).nodup_iff.2 (DV_nodup l b 8 a [a] [])
  unfold SortedW at h1
  unfold List.Nodup at h2
  refine List.Pairwise.imp ?_ (h1.and h2)
  intro x y h
  cases h3 : lessC l x y with
  | true => rfl
  | false => exact absurd ((toW _).tot x y h3 h.1) h.2
/-- How a walk to no node twice goes. -/
theorem SP.goes {l : List S58} {tg at_ : Int} {vis e : List Int} (h : SP l tg at_ vis e) : (∀ k ∈ e, 0 ≤ k ∧ k < (l.length : Int)) ∧ (vis.Nodup → (∀ v ∈ vis, 0 ≤ v ∧ v < (8 : Nat)) → (∀ x ∈ l, 0 ≤ x.f1 ∧ x.f1 < (8 : Nat)) → e.length + vis.length ≤ 8) := by
  induction h with
  | nil => exact ⟨by simp, fun h1 h2 _ => by have := nodup_short 8 _ h1 h2; simpa using this⟩
  | @cons i at_ vis e hi h0 hne hv _ ih =>
    refine ⟨fun k hk => ?_, fun h1 h2 h3 => ?_⟩
    · rw [List.mem_cons] at hk
      rcases hk with rfl | hk
      · omega
      · exact ih.1 k hk
    · have hx := h3 _ (List.getElem_mem hi)
      rw [← arc_at l i hi] at hx
      have := ih.2 (List.nodup_cons.2 ⟨hv, h1⟩) (fun v hv2 => by
        rw [List.mem_cons] at hv2
        rcases hv2 with rfl | hv2
        · exact hx
        · exact h2 v hv2) h3
      rw [List.length_cons] at this ⊢
      omega
theorem SP.len {n : Int} {l : List S58} (hn : Net1 n l) {a b : Int} (ha : 0 ≤ a ∧ a < n) {e : List Int} (h : SP l b a [a] e) : e.length ≤ 7 := by
  have hhi := hn.hi
  have := h.goes.2 (by simp) (fun v hv => by rw [List.mem_singleton] at hv; subst hv; exact ⟨ha.1, by omega⟩) (fun x hx => by obtain ⟨_, _, e3, e4, _⟩ := hn.ends x hx; exact ⟨e3, by omega⟩)
  simpa using this
/-! ### the best walks: the reference goes on from the end of a walk -/
theorem seen_back (seen : List Bool) (v : Int) (h0 : 0 ≤ v) (h1 : v < (seen.length : Int)) (h : rdOf false seen v = false) : (seen.set v.toNat true).set v.toNat false = seen := by
  rw [List.set_set]
  have hv : v.toNat < seen.length := by omega
  have e : seen[v.toNat] = false := by
    unfold rdOf at h
    rw [List.getD_eq_getElem?_getD, List.getElem?_eq_getElem hv] at h
    exact h
  rw [← e, List.set_getElem_self]
theorem seen_next {n : Int} {seen : List Bool} {vis : List Int} (hl : (seen.length : Int) = n) (h : ∀ v, 0 ≤ v → v < n → rdOf false seen v = decide (v ∈ vis)) {u : Int} (h0 : 0 ≤ u) (h1 : u < n) : ∀ v, 0 ≤ v → v < n → rdOf false (seen.set u.toNat true) v = decide (v ∈ u :: vis) := by
  intro v v0 v1
  have h2 := h v v0 v1
  unfold rdOf at h2 ⊢
  rw [List.getD_eq_getElem?_getD, List.getElem?_set]
  by_cases e : u = v
  · subst e
    rw [if_pos rfl, if_pos (by omega)]
    simp
  · rw [if_neg (by omega), ← List.getD_eq_getElem?_getD, h2]
    apply decide_eq_decide.2
    rw [List.mem_cons]
    constructor
    · intro a; exact .inr a
    · rintro (a | a)
      · exact absurd a.symm e
      · exact a
theorem fillW_sub {lt : List Int → List Int → Bool} {m : Nat} : ∀ (D L : List (List Int)), ∀ x ∈ fillW lt m L D, x ∈ L ∨ x ∈ D
  | [], L, x, hx => .inl hx
  | d :: D, L, x, hx => by
    unfold fillW at hx
    rw [List.foldl_cons] at hx
    rcases fillW_sub D _ x hx with h | h
    · have h2 := (insW_perm lt d L).subset (List.mem_of_mem_take h)
      rw [List.mem_cons] at h2
      rcases h2 with rfl | h2
      · exact .inr (by simp)
      · exact .inl h2
    · exact .inr (by simp [h])
theorem DV_short (l : List S58) (tg : Int) : ∀ (m : Nat) (at_ : Int) (vis w : List Int), ∀ d ∈ DV l tg m at_ vis w, d.length ≤ w.length + m
  | 0, _, _, _, d, hd => by simp [DV] at hd
  | m + 1, at_, vis, w, d, hd => by
    rw [DV] at hd
    split at hd
    · rw [List.mem_singleton] at hd
      subst hd
      omega
    · obtain ⟨i, _, hd⟩ := List.mem_flatMap.1 hd
      split at hd
      · have := DV_short l tg m _ _ _ d hd
        rw [List.length_append, List.length_singleton] at this
        omega
      · cases hd
theorem wcost_more {n : Int} {l : List S58} (hn : Net1 n l) {w e : List Int} (hw : ∀ k ∈ w, 0 ≤ k ∧ k < (l.length : Int)) (he : ∀ k ∈ e, 0 ≤ k ∧ k < (l.length : Int)) (hl : w.length ≤ 1000) (hl2 : e.length ≤ 1000) : wcost l w 0 ≤ wcost l (w ++ e) 0 := by
  rw [wcost_app]
  have h1 := wcost_rng hn w 0 hw (by omega) (by omega)
  exact (wcost_rng hn e _ he (by omega) (by omega)).1
theorem l14Go_ev {n : Int} {l : List S58} (hn : Net1 n l) (tg most : Int) (hm1 : 1 ≤ most) (hm6 : most ≤ 6) : ∀ (m : Nat) (at_ : Int) (vis : List Int) (seen : List Bool) (w : List Int) (L : List (List Int)), vis.Nodup → (∀ v ∈ vis, 0 ≤ v ∧ v < (8 : Nat)) → vis.length + m = 9 → (seen.length : Int) = n → (∀ v, 0 ≤ v → v < n → rdOf false seen v = decide (v ∈ vis)) → w.length + m ≤ 9 → (∀ k ∈ w, 0 ≤ k ∧ k < (l.length : Int)) → SortedW (lessC l) L → L.length ≤ most.toNat → (∀ x ∈ L, x.length ≤ 1000) →
    Ev (fun k => spec_l14Go.f k n l tg most at_ seen w (wcost l w 0) (L.map (toWay l))) ((fillW (lessC l) most.toNat L (DV l tg m at_ vis w)).map (toWay l), seen)
  | 0, at_, vis, seen, w, L, h1, h2, h3, _, _, _, _, _, _, _ => by have := nodup_short 8 vis h1 h2; omega
  | m + 1, at_, vis, seen, w, L, h1, h2, h3, h4, h5, h6, h7, h8, h9, h10 => by
    have hll := hn.len
    refine ev_shift ?_
    by_cases e : at_ = tg
    · rw [DV, if_pos e]
      have b1 : ([] : List Int).length + w.length < 17592186044416 := by simp; omega
      simp only [spec_l14Go.f, e, if_true, Option.bind_some, b1, List.nil_append]
      exact Ev.bind (l14Put_ev l w L most hm1 (by omega) (by omega) h10) (ev_now fun _ => rfl)
    rw [DV, if_neg e]
    simp only [spec_l14Go.f, e, if_false]
    rw [List.range_eq_range']
    obtain ⟨F, hF⟩ : ∃ F : Nat → List (List Int), F = fun (i : Nat) => if (rd_T58 l (i : Int)).f0 = at_ ∧ (rd_T58 l (i : Int)).f1 ∉ vis then DV l tg m (rd_T58 l (i : Int)).f1 ((rd_T58 l (i : Int)).f1 :: vis) (w ++ [(i : Int)]) else [] := ⟨_, rfl⟩
    rw [← hF]
    have := ev_ind (fun k (s : Nat × List (List Int)) => spec_l14Go.l0 k tg most at_ seen (s.2.map (toWay l)) (s.1 : Int) n l w (wcost l w 0)) (fun s => l.length - s.1) (fun s => s.1 ≤ l.length ∧ SortedW (lessC l) s.2 ∧ s.2.length ≤ most.toNat ∧ ∀ x ∈ s.2, x.length ≤ 1000) (fun s => ((fillW (lessC l) most.toNat s.2 ((List.range' s.1 (l.length - s.1)).flatMap F)).map (toWay l), seen)) ?_ (0, L) ⟨Nat.zero_le _, h8, h9, h10⟩
    · simpa using this
    rintro ⟨i, K⟩ ⟨hi, k1, k2, k3⟩ ih
    simp only at hi k1 k2 k3 ih ⊢
    by_cases h : i < l.length
    · have hlt : (i : Int) < (l.length : Int) := by omega
      have h0 : (0 : Int) ≤ (i : Int) := by omega
      obtain ⟨d, hd⟩ : ∃ d, l.length - i = d + 1 := ⟨l.length - i - 1, by omega⟩
      have hr : (List.range' i (l.length - i)).flatMap F = F i ++ (List.range' (i + 1) (l.length - (i + 1))).flatMap F := by
        rw [hd, List.range'_succ, List.flatMap_cons, show l.length - (i + 1) = d by omega]
      rw [hr, fillW_append]
      have hx := hn.ends _ (List.getElem_mem h)
      rw [← arc_at l i h] at hx
      have next : ∀ K2, K2 = fillW (lessC l) most.toNat K (F i) → Ev (fun k => spec_l14Go.l0 k tg most at_ seen (K2.map (toWay l)) (wrap64 ((i : Int) + 1)) n l w (wcost l w 0)) ((fillW (lessC l) most.toNat (fillW (lessC l) most.toNat K (F i)) ((List.range' (i + 1) (l.length - (i + 1))).flatMap F)).map (toWay l), seen) := by
        intro K2 hK2
        rw [← hK2, wsucc h (show l.length ≤ 9223372036854775807 by omega)]
        have ok := fillW_ok (toW _) (m := most.toNat) (F i) k1 k2
        refine ih (i + 1, K2) ⟨by simp; omega, by rw [hK2]; exact ok.1, by rw [hK2]; exact ok.2, fun x hx2 => ?_⟩ (by simp; omega)
        rw [hK2] at hx2
        rcases fillW_sub _ _ x hx2 with a | a
        · exact k3 x a
        · rw [hF] at a
          simp only at a
          split at a
          · have := DV_short l tg m _ _ _ x a
            rw [List.length_append, List.length_singleton] at this
            omega
          · cases a
      have skip : F i = [] → Ev (fun k => spec_l14Go.l0 k tg most at_ seen (K.map (toWay l)) (wrap64 ((i : Int) + 1)) n l w (wcost l w 0)) ((fillW (lessC l) most.toNat (fillW (lessC l) most.toNat K (F i)) ((List.range' (i + 1) (l.length - (i + 1))).flatMap F)).map (toWay l), seen) := fun z => next K (by rw [z]; rfl)
      have hFi : F i = if (rd_T58 l (i : Int)).f0 = at_ ∧ (rd_T58 l (i : Int)).f1 ∉ vis then DV l tg m (rd_T58 l (i : Int)).f1 ((rd_T58 l (i : Int)).f1 :: vis) (w ++ [(i : Int)]) else [] := by rw [hF]
      have hone := wcost_one l w (i : Int) 0
      have hKl : (K.map (toWay l)).length = K.length := List.length_map _
      simp only [spec_l14Go.l0, hlt, h0, if_true]
      generalize rd_T58 l (i : Int) = x at hx hFi hone ⊢
      obtain ⟨e1, e2, e3, e4, e5, e6, e7, _⟩ := hx
      by_cases c1 : x.f0 = at_
      · have g1 : x.f1 < (seen.length : Int) := by omega
        have hsv := h5 x.f1 e3 e4
        simp only [c1, if_true, e3, g1]
        by_cases c2 : x.f1 ∈ vis
        · have e8 : rdOf false seen x.f1 = true := by rw [hsv]; exact decide_eq_true c2
          simp only [e8, if_true]
          exact skip (by rw [hFi, if_neg (fun z => z.2 c2)])
        · have e8 : rdOf false seen x.f1 = false := by rw [hsv]; exact decide_eq_false c2
          rw [if_pos ⟨c1, c2⟩] at hFi
          simp only [e8, Bool.false_eq_true, if_false, hKl]
          have b1 : ([] : List Int).length + w.length < 17592186044416 := by simp; omega
          have b2 : w.length + [(i : Int)].length < 17592186044416 := by simp; omega
          have hwi : ∀ k ∈ w ++ [(i : Int)], 0 ≤ k ∧ k < (l.length : Int) := fun k hk => by
            rw [List.mem_append, List.mem_singleton] at hk
            rcases hk with hk | hk
            · exact h7 k hk
            · omega
          have hhi := hn.hi
          have rec_ : Ev (fun k => (spec_l14Go.f k n l tg most x.f1 (seen.set x.f1.toNat true) (w ++ [(i : Int)]) (wrap64 (wcost l w 0 + x.f2)) (K.map (toWay l))).bind fun bt => spec_l14Go.l0 k tg most at_ (bt.2.set x.f1.toNat false) bt.1 (wrap64 ((i : Int) + 1)) n l w (wcost l w 0)) ((fillW (lessC l) most.toNat (fillW (lessC l) most.toNat K (F i)) ((List.range' (i + 1) (l.length - (i + 1))).flatMap F)).map (toWay l), seen) := by
            rw [← hone]
            refine Ev.bind (l14Go_ev hn tg most hm1 hm6 m x.f1 (x.f1 :: vis) (seen.set x.f1.toNat true) (w ++ [(i : Int)]) K (List.nodup_cons.2 ⟨c2, h1⟩) (fun v hv => by
              rw [List.mem_cons] at hv
              rcases hv with rfl | hv
              · exact ⟨e3, by omega⟩
              · exact h2 v hv) (by rw [List.length_cons]; omega) (by rw [List.length_set]; exact h4) (seen_next h4 h5 e3 e4) (by rw [List.length_append, List.length_singleton]; omega) hwi k1 k2 k3) ?_
            simp only [seen_back seen x.f1 e3 g1 e8]
            exact next _ (by rw [hFi])
          by_cases c3 : (K.length : Int) = most
          · have q1 : wrap64 (most - 1) = ((most.toNat - 1 : Nat) : Int) := by rw [w_id (by omega) (by omega)]; omega
            have q2 : (0 : Int) ≤ ((most.toNat - 1 : Nat) : Int) := by omega
            have q3 : ((most.toNat - 1 : Nat) : Int) < (K.length : Int) := by omega
            have q4 : most.toNat - 1 < K.length := by omega
            have q5 : rd_T103 (K.map (toWay l)) ((most.toNat - 1 : Nat) : Int) = toWay l K[most.toNat - 1] := by rw [way_at _ _ (by rw [hKl]; exact q4), List.getElem_map]
            have q6 : (0 : Int) ≤ most - 1 := by omega
            simp only [c3, if_true, q1, q2, q5]
            have q7 : ((most.toNat - 1 : Nat) : Int) < most := by omega
            simp only [q7, if_true]
            by_cases c4 : wrap64 (wcost l w 0 + x.f2) > (toWay l K[most.toNat - 1]).f1
            · simp only [c4, if_true]
              refine next K ?_
              refine (fillW_full (toW _) (F i) k1 (by omega) (by omega) fun d hd => ?_).symm
              rw [hFi] at hd
              obtain ⟨e9, he9, hs9⟩ := DV_sound l tg m _ _ _ d hd
              have hle := DV_short l tg m _ _ _ d hd
              rw [List.length_append, List.length_singleton] at hle
              have hmore := wcost_more hn hwi hs9.goes.1 (by rw [List.length_append, List.length_singleton]; omega) (by
                have := congrArg List.length he9
                rw [List.length_append] at this
                omega)
              rw [← he9, hone] at hmore
              unfold toWay at c4
              simp only at c4
              unfold lessW
              have hne : wcost l K[most.toNat - 1] 0 < wcost l d 0 := Int.lt_of_lt_of_le c4 hmore
              rw [if_neg (fun z => absurd (show wcost l K[most.toNat - 1] 0 = wcost l d 0 from z) (by omega)), decide_eq_true_eq]
              exact hne
            · simp only [c4, if_false, Option.bind_some, b1, b2, if_true, List.nil_append]
              exact rec_
          · simp only [c3, if_false, Option.bind_some, b1, b2, if_true, List.nil_append]
            exact rec_
      · simp only [c1, if_false]
        exact skip (by rw [hFi, if_neg (fun z => c1 z.1)])
    · have hlt : ¬ (i : Int) < (l.length : Int) := by omega
      simp only [spec_l14Go.l0, hlt, if_false]
      refine ev_now fun _ => ?_
      rw [show l.length - i = 0 by omega]
      rfl
/-! ### the laws' own tests of lists -/
theorem ev_uniq {α : Type} {g : Nat → Option α} {a b : α} (h : Ev g a) (h' : Ev g b) : a = b := by
  obtain ⟨K, h⟩ := h
  obtain ⟨K', h'⟩ := h'
  have h1 := h (max K K') (by omega)
  rw [h' (max K K') (by omega)] at h1
  exact (Option.some.inj h1).symm
theorem wkInts_self (l : List Int) (hl : l.length ≤ 9223372036854775807) : Ev (fun k => laws_wkInts.f k l l) true := by
  unfold laws_wkInts.f
  simp only [if_true]
  refine ev_ind (fun k (i : Nat) => laws_wkInts.l0 k l l (i : Int)) (fun i => l.length - i) (fun i => i ≤ l.length) (fun _ => true) ?_ 0 (Nat.zero_le _)
  intro i hi ih
  by_cases h : i < l.length
  · have hlt : (i : Int) < (l.length : Int) := by omega
    have h0 : (0 : Int) ≤ (i : Int) := by omega
    simp only [laws_wkInts.l0, hlt, h0, if_true, wsucc h hl]
    exact ih (i + 1) (by omega) (by omega)
  · have hlt : ¬ (i : Int) < (l.length : Int) := by omega
    simp only [laws_wkInts.l0, hlt, if_false]
    exact ev_now fun _ => rfl
/-! ### the best walks: both tell the same -/
theorem l14Some_ev {n : Int} {l : List S58} (hn : Net1 n l) {a b m : Int} (ha : 0 ≤ a ∧ a < n) (hm1 : 1 ≤ m) (hm6 : m ≤ 6) : Ev (fun k => spec_l14Some.f k n l a b m) ((someL l a b).take m.toNat) := by
  have hlo := hn.lo
  have hhi := hn.hi
  unfold spec_l14Some.f
  have b1 : n.toNat ≤ 281474976710656 := by omega
  have b2 : (0 : Int) ≤ n := by omega
  have b3 : a < ((List.replicate n.toNat false).length : Int) := by rw [List.length_replicate]; omega
  simp only [b1, b2, b3, ha.1, if_true, Option.bind_some]
  have hs : ∀ v, 0 ≤ v → v < n → rdOf false ((List.replicate n.toNat false).set a.toNat true) v = decide (v ∈ [a]) := by
    refine seen_next (vis := []) (by rw [List.length_replicate]; omega) (fun v v0 v1 => ?_) ha.1 ha.2
    unfold rdOf
    rw [List.getD_eq_getElem?_getD, List.getElem?_replicate]
    split <;> simp
  have hg := l14Go_ev hn b m hm1 hm6 8 a [a] ((List.replicate n.toNat false).set a.toNat true) [] [] (by simp) (fun v hv => by rw [List.mem_singleton] at hv; subst hv; exact ⟨ha.1, by omega⟩) (by simp) (by rw [List.length_set, List.length_replicate]; omega) hs (by simp) (by simp) List.Pairwise.nil (Nat.zero_le _) (by simp)
  have hfill : fillW (lessC l) m.toNat [] (DV l b 8 a [a] []) = (someL l a b).take m.toNat := fillW_sort _ _
  rw [hfill] at hg
  refine Ev.bind hg ?_
  have hlen : ((someL l a b).take m.toNat).length ≤ 6 := by rw [List.length_take]; omega
  have hml : (((someL l a b).take m.toNat).map (toWay l)).length = ((someL l a b).take m.toNat).length := List.length_map _
  generalize (someL l a b).take m.toNat = K at hlen hml ⊢
  have := ev_ind (fun k (s : Nat × List (List Int)) => spec_l14Some.l0 k (K.map (toWay l)) s.2 (s.1 : Int)) (fun s => K.length - s.1) (fun s => s.1 ≤ K.length ∧ s.2.length ≤ s.1) (fun s => s.2 ++ K.drop s.1) ?_ (0, []) ⟨Nat.zero_le _, by simp⟩
  · simpa using this
  rintro ⟨i, x⟩ ⟨hi, hx⟩ ih
  simp only at hi hx ih ⊢
  by_cases h : i < K.length
  · have hlt : (i : Int) < (K.length : Int) := by omega
    have h0 : (0 : Int) ≤ (i : Int) := by omega
    have c1 : x.length < 5864062014805 := by omega
    have hat : rd_T103 (K.map (toWay l)) (i : Int) = toWay l K[i] := by rw [way_at _ i (by rw [hml]; exact h), List.getElem_map]
    simp only [spec_l14Some.l0, hml, hlt, h0, c1, if_true, hat, wsucc h (show K.length ≤ 9223372036854775807 by omega)]
    refine ev_at (ih (i + 1, x ++ [K[i]]) ⟨by simp; omega, by simp; omega⟩ (by simp; omega)) ?_
    rw [List.drop_eq_getElem_cons h, List.append_assoc]
    rfl
  · have hlt : ¬ (i : Int) < (K.length : Int) := by omega
    simp only [spec_l14Some.l0, hml, hlt, if_false]
    refine ev_now fun _ => ?_
    rw [List.drop_of_length_le (by omega), List.append_nil]
theorem someS_ok {n : Int} {l : List S58} (hok : netOkB n l = true) (hl : l.length ≤ 9223372036854775807) {a b m : Int} (ha : inB a 0 (wrap64 (n - 1)) = true) (hb : inB b 0 (wrap64 (n - 1)) = true) (hab : a ≠ b) (hm : inB m 1 6 = true) : Ev (fun k => spec_SomeWalks.f k n l a b m) ((someL l a b).take m.toNat) := by
  have hn := net1_of hok
  have hm2 := inB_iff.1 hm
  unfold spec_SomeWalks.f
  refine Ev.bind (l1Ok_ev n l hl) ?_
  simp only [hok, if_true, l1In_eq, Option.bind_some, ha, hb, hab, if_false, hm]
  exact Ev.bind (l14Some_ev hn (node_of hn ha) hm2.1 hm2.2) (ev_now fun _ => rfl)
theorem someS_bad {n : Int} {l : List S58} (hl : l.length ≤ 9223372036854775807) {a b m : Int} (h : ¬ (netOkB n l = true ∧ inB a 0 (wrap64 (n - 1)) = true ∧ inB b 0 (wrap64 (n - 1)) = true ∧ a ≠ b ∧ inB m 1 6 = true)) : Ev (fun k => spec_SomeWalks.f k n l a b m) [] := by
  unfold spec_SomeWalks.f
  refine Ev.bind (l1Ok_ev n l hl) ?_
  cases h1 : netOkB n l with
  | false => exact ev_now fun _ => rfl
  | true =>
  simp only [if_true, l1In_eq, Option.bind_some]
  cases h2 : inB a 0 (wrap64 (n - 1)) with
  | false => exact ev_now fun _ => rfl
  | true =>
  cases h3 : inB b 0 (wrap64 (n - 1)) with
  | false => exact ev_now fun _ => rfl
  | true =>
  by_cases e : a = b
  · simp only [e, if_true]; exact ev_now fun _ => rfl
  · simp only [e, if_true, if_false]
    cases h4 : inB m 1 6 with
    | false => exact ev_now fun _ => rfl
    | true => exact absurd ⟨h1, h2, h3, e, h4⟩ h
/-- What both tell. -/
theorem some_both (n : Int) (l : List S58) (hl : l.length ≤ 9223372036854775807) (a b m : Int) : ∃ K : List (List Int), impl_SomeWalks.f n l a b m = some K ∧ Ev (fun k => spec_SomeWalks.f k n l a b m) K ∧ K.length ≤ 6 ∧ (∀ x ∈ K, x.length ≤ 7) ∧ ((netOkB n l = true ∧ inB a 0 (wrap64 (n - 1)) = true ∧ inB b 0 (wrap64 (n - 1)) = true ∧ a ≠ b ∧ inB m 1 6 = true ∧ K = (someL l a b).take m.toNat) ∨ (¬ (netOkB n l = true ∧ inB a 0 (wrap64 (n - 1)) = true ∧ inB b 0 (wrap64 (n - 1)) = true ∧ a ≠ b ∧ inB m 1 6 = true) ∧ K = [])) := by
  by_cases h : netOkB n l = true ∧ inB a 0 (wrap64 (n - 1)) = true ∧ inB b 0 (wrap64 (n - 1)) = true ∧ a ≠ b ∧ inB m 1 6 = true
  · obtain ⟨h1, h2, h3, h4, h5⟩ := h
    have hn := net1_of h1
    have hm := inB_iff.1 h5
    refine ⟨_, someI_ok h1 h2 h3 h4 h5, someS_ok h1 hl h2 h3 h4 h5, by rw [List.length_take]; omega, fun x hx => ?_, .inl ⟨h1, h2, h3, h4, h5, rfl⟩⟩
    exact ((someL_mem hn (node_of hn h2) x).1 (List.mem_of_mem_take hx)).len hn (node_of hn h2)
  · exact ⟨[], someI_bad h, someS_bad hl h, by simp, by simp, .inr ⟨h, rfl⟩⟩
theorem wkGrid_self (K : List (List Int)) (hl : K.length ≤ 9223372036854775807) (hx : ∀ x ∈ K, x.length ≤ 9223372036854775807) : Ev (fun k => laws_wkGrid.f k K K) true := by
  unfold laws_wkGrid.f
  simp only [if_true]
  refine ev_ind (fun k (i : Nat) => laws_wkGrid.l0 k K K (i : Int)) (fun i => K.length - i) (fun i => i ≤ K.length) (fun _ => true) ?_ 0 (Nat.zero_le _)
  intro i hi ih
  by_cases h : i < K.length
  · have hlt : (i : Int) < (K.length : Int) := by omega
    have h0 : (0 : Int) ≤ (i : Int) := by omega
    have e : rd_L1 K (i : Int) = K[i] := by simp [rd_L1, h]
    simp only [laws_wkGrid.l0, hlt, h0, if_true, e, wsucc h hl]
    refine Ev.bind (wkInts_self _ (hx _ (List.getElem_mem h))) ?_
    simp only [if_true]
    exact ih (i + 1) (by omega) (by omega)
  · have hlt : ¬ (i : Int) < (K.length : Int) := by omega
    simp only [laws_wkGrid.l0, hlt, if_false]
    exact ev_now fun _ => rfl
theorem FnSomeFew : laws_FnSomeFew.Pure := by
  intro code _ _ hw
  refine Ev.rounds ?_
  unfold laws_FnSomeFew.f
  by_cases h0 : (code.length : Int) > 1048576
  · simp only [h0, if_true]; exact ev_now fun _ => rfl
  simp only [h0, if_false]
  obtain ⟨n, l, a, b, m, hd, hl, hm⟩ := drawSomeWalks_ex code hw
  refine Ev.bind hd ?_
  obtain ⟨K, e1, e2, k1, k2, k3⟩ := some_both n l (by omega) a b m
  obtain ⟨A, f1, _, a1, a2, a3⟩ := some_both n l (by omega) a b 6
  simp only [e1, Option.bind_some]
  have wk := wkGrid_self K (by omega) (fun x hx => by have := k2 x hx; omega)
  refine Ev.bind e2 (Ev.bind wk ?_)
  simp only [if_true, netOk_eq, Option.bind_some]
  have same : Ev (fun k => laws_FnSomeFew.j0 k a b m K true n l) true := by
    refine ev_shift ?_
    simp only [laws_FnSomeFew.j0, if_true]
    exact Ev.bind e2 (Ev.bind wk (ev_now fun _ => rfl))
  cases hok : netOkB n l with
  | false => simpa using same
  | true =>
    simp only [if_true]
    by_cases c : m < 1
    · simp only [c, decide_true]; exact same
    · simp only [c, decide_false]
      have hK : K = A.take m.toNat := by
        rcases k3 with ⟨h1, h2, h3, h4, h5, h6⟩ | ⟨h1, h2⟩
        · rcases a3 with ⟨_, _, _, _, _, g6⟩ | ⟨g1, _⟩
          · rw [h6, g6, List.take_take, Nat.min_eq_left (by omega)]
          · exact absurd ⟨h1, h2, h3, h4, by rfl⟩ g1
        · rcases a3 with ⟨g1, g2, g3, g4, _⟩ | ⟨_, g2⟩
          · exact absurd ⟨g1, g2, g3, g4, by rw [inB_iff]; omega⟩ h1
          · rw [h2, g2, List.take_nil]
      refine ev_shift ?_
      simp only [laws_FnSomeFew.j0, Bool.false_eq_true, if_false, f1, Option.bind_some]
      by_cases c2 : (A.length : Int) > m
      · have c3 : (0 : Int) ≤ m := by omega
        have c4 : m ≤ (A.length : Int) := by omega
        simp only [c2, c3, c4, if_true, ← hK]
        exact Ev.bind wk (ev_now fun _ => rfl)
      · have c3 : (0 : Int) ≤ (A.length : Int) := by omega
        have hK2 : K = A := by rw [hK, List.take_of_length_le (by omega)]
        rw [← hK2] at c2 c3 ⊢
        simp only [c2, c3, if_true, if_false, Int.le_refl, Int.toNat_natCast, List.take_length]
        exact Ev.bind wk (ev_now fun _ => rfl)
end Go.Proofs.Ytlgolgfcolnddaa.Pure
