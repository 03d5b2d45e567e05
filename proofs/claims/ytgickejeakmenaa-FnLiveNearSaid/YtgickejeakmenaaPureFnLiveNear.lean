/- The pure statement of FnLiveNear: of every drawn net with news and two nodes the program tells the same cost as the reference: that of the net as it is now, and not less than that of the net without news. No condition. -/
import Derived.Test.YtgickejeakmenaaFKinds
import Derived.Test.YtgickejeakmenaaFimplArc110
import Derived.Test.YtgickejeakmenaaFimplLiveNear
import Derived.Test.YtgickejeakmenaaFimplLiveNow
import Derived.Test.YtgickejeakmenaaFimplLiveOk
import Derived.Test.YtgickejeakmenaaFimplLivenow
import Derived.Test.YtgickejeakmenaaFimplMeas
import Derived.Test.YtgickejeakmenaaFimplNear
import Derived.Test.YtgickejeakmenaaFimplNearAll
import Derived.Test.YtgickejeakmenaaFimplNetOk
import Derived.Test.YtgickejeakmenaaFimplNetback
import Derived.Test.YtgickejeakmenaaFimplNethas
import Derived.Test.YtgickejeakmenaaFimplNettoward
import Derived.Test.YtgickejeakmenaaFimplnewsOk
import Derived.Test.YtgickejeakmenaaFimplnodesIn
import Derived.Test.YtgickejeakmenaaFimplwithin
import Derived.Test.YtgickejeakmenaaFlawsFnLiveNear
import Derived.Test.YtgickejeakmenaaFspecDrawLiveNear
import Derived.Test.YtgickejeakmenaaFspecLiveNear
import Derived.Test.YtgickejeakmenaaFspecLiveTell
import Derived.Test.YtgickejeakmenaaFspecl16Copy
import Derived.Test.YtgickejeakmenaaFspecl16Now
import Derived.Test.YtgickejeakmenaaFspecl16Ok
import Derived.Test.YtgickejeakmenaaFspecl1Copy
import Derived.Test.YtgickejeakmenaaFspecl1In
import Derived.Test.YtgickejeakmenaaFspecl1Ok
import Derived.Test.YtgickejeakmenaaFspecl30Live
import Derived.Test.YtgickejeakmenaaFspecl30Net
import Derived.Test.YtgickejeakmenaaFspecl30News
import Derived.Test.YtgickejeakmenaaFspecl30Node
import Derived.Test.YtgickejeakmenaaFspecl30Open
import Derived.Test.YtgickejeakmenaaFspecl30Rdone
import Derived.Test.YtgickejeakmenaaFspecl30Rdpick
import Derived.Test.YtgickejeakmenaaFspecl3All
import Derived.Test.YtgickejeakmenaaFtextcore
namespace Go.Proofs.Ytgickejeakmenaa.Pure
open Go.RowKit Go.Proofs.Ytgickejeakmenaa.F Go.Proofs.YtgickejeakmenaaW.PrintWords
set_option linter.unusedVariables false
set_option linter.unusedSimpArgs false
/-! ### rounds -/
theorem ev_shift {α : Type} {g : Nat → Option α} {r : α} (h : Ev (fun k => g (k + 1)) r) : Ev g r := by
  obtain ⟨K, h⟩ := h
  refine ⟨K + 1, fun k hk => ?_⟩
  obtain ⟨m, rfl⟩ : ∃ m, k = m + 1 := ⟨k - 1, by omega⟩
  exact h m (by omega)
theorem ev_ind {σ β : Type} (g : Nat → σ → Option β) (μ : σ → Nat) (Inv : σ → Prop) (r : σ → β)
    (h : ∀ s, Inv s → (∀ s', Inv s' → μ s' < μ s → Ev (fun k => g k s') (r s')) → Ev (fun k => g (k + 1) s) (r s)) : ∀ s, Inv s → Ev (fun k => g k s) (r s) := by
  have key : ∀ n s, μ s ≤ n → Inv s → Ev (fun k => g k s) (r s) := by
    intro n
    induction n with
    | zero => intro s hs hi; exact ev_shift (h s hi (fun s' _ hlt => absurd hlt (by omega)))
    | succ n ih => intro s hs hi; exact ev_shift (h s hi (fun s' hi' hlt => ih s' (by omega) hi'))
  exact fun s hi => key _ s (Nat.le_refl _) hi
theorem ev_now {α : Type} {g : Nat → Option α} {r : α} (h : ∀ k, g k = some r) : Ev g r := ⟨0, fun k _ => h k⟩
theorem ev_at {α : Type} {g : Nat → Option α} {r r' : α} (h : Ev g r) (e : r = r') : Ev g r' := e ▸ h
/-! ### numbers and lists -/
theorem wsucc {i n : Nat} (h : i < n) (hn : n ≤ 9223372036854775807) : wrap64 ((i : Int) + 1) = ((i + 1 : Nat) : Int) := by
  unfold wrap64; omega
theorem wpred {i : Nat} (h : 0 < i) (hi : i ≤ 9223372036854775807) : wrap64 ((i : Int) - 1) = ((i - 1 : Nat) : Int) := by
  unfold wrap64; omega
theorem w_id {n : Int} (h : -9223372036854775808 ≤ n) (h' : n ≤ 9223372036854775807) : wrap64 n = n := by unfold wrap64; omega
theorem rd_nat (l : List Int) (i : Nat) : rd l (i : Int) = l.getD i 0 := by simp [rd]
theorem rd_at (l : List Int) (i : Nat) (h : i < l.length) : rd l (i : Int) = l[i] := by simp [rd, h]
theorem arc_at (l : List S41) (i : Nat) (h : i < l.length) : rd_T41 l (i : Int) = l[i] := by simp [rd_T41, h]
theorem any_at {α : Type} (p : α → Bool) (l : List α) (i : Nat) (h : i < l.length) : (l.drop i).any p = (p l[i] || (l.drop (i + 1)).any p) := by
  rw [List.drop_eq_getElem_cons h, List.any_cons]
/-! ### is a net valid -/
theorem within_eq (a b c : Int) : impl_within.f a b c = some (inB a b c) := by
  unfold impl_within.f inB
  by_cases h : b ≤ a
  · rw [if_pos h]; simp [h]
  · rw [if_neg h]; simp [h]
theorem l1In_eq (a b c : Int) : spec_l1In.f a b c = some (inB a b c) := within_eq a b c
theorem arcBad_eq (n : Int) (x : S41) : arcBad n x = !(inB x.f0 0 (wrap64 (n - 1)) && (inB x.f1 0 (wrap64 (n - 1)) && (!(x.f0 == x.f1) && (inB x.f2 0 99 && (inB x.f3 0 99 && inB x.f4 0 9))))) := by
  unfold arcBad hasB
  cases h1 : inB x.f0 0 (wrap64 (n - 1)) <;> cases h2 : inB x.f1 0 (wrap64 (n - 1)) <;> simp [h1, h2, Bool.not_and]
theorem netOk_eq (n : Int) (l : List S41) : impl_NetOk.f n l = some (netOkB n l) := rfl
theorem l1Ok_loop (n : Int) (l : List S41) (hl : l.length ≤ 9223372036854775807) (i : Nat) (hi : i ≤ l.length) :
    Ev (fun k => spec_l1Ok.l0 k (i : Int) n l) (!((l.drop i).any (arcBad n)) && (inB n 1 8 && decide (l.length ≤ 16))) := by
  refine ev_ind (fun k (i : Nat) => spec_l1Ok.l0 k (i : Int) n l) (fun i => l.length - i) (fun i => i ≤ l.length) (fun i => !((l.drop i).any (arcBad n)) && (inB n 1 8 && decide (l.length ≤ 16))) ?_ i hi
  intro i hi ih
  by_cases h : i < l.length
  · have hlt : (i : Int) < (l.length : Int) := by omega
    have h0 : (0 : Int) ≤ (i : Int) := by omega
    simp only [spec_l1Ok.l0, hlt, h0, if_true, l1In_eq, Option.bind_some, arc_at l i h, wsucc h hl]
    rw [any_at _ _ _ h, arcBad_eq]
    have ih' := ih (i + 1) (by omega) (by omega)
    generalize (l.drop (i + 1)).any (arcBad n) = q at ih' ⊢
    generalize l[i] = x at ih' ⊢
    cases inB x.f0 0 (wrap64 (n - 1)) with
    | false => exact ev_now fun k => by simp
    | true =>
    cases inB x.f1 0 (wrap64 (n - 1)) with
    | false => exact ev_now fun k => by simp
    | true =>
    by_cases he : x.f0 = x.f1
    · exact ev_now fun k => by simp [he]
    · cases inB x.f2 0 99 with
      | false => exact ev_now fun k => by simp [he]
      | true =>
      cases inB x.f3 0 99 with
      | false => exact ev_now fun k => by simp [he]
      | true =>
      cases inB x.f4 0 9 with
      | false => exact ev_now fun k => by simp [he]
      | true =>
        have he' : (x.f0 == x.f1) = false := beq_eq_false_iff_ne.2 he
        simpa [he, he'] using ih'
  · have hlt : ¬ (i : Int) < (l.length : Int) := by omega
    have he : i = l.length := by omega
    simp only [spec_l1Ok.l0, hlt, if_false, l1In_eq, Option.bind_some]
    subst he
    refine ev_now fun k => ?_
    cases inB n 1 8 <;> simp
    omega
theorem l1Ok_ev (n : Int) (l : List S41) (hl : l.length ≤ 9223372036854775807) : Ev (fun k => spec_l1Ok.f k n l) (netOkB n l) := by
  refine ev_at (l1Ok_loop n l hl 0 (Nat.zero_le _)) ?_
  unfold netOkB
  rw [List.drop_zero]
  cases inB n 1 8 <;> cases decide (l.length ≤ 16) <;> cases l.any (arcBad n) <;> rfl
theorem netOk_len {n : Int} {l : List S41} (h : netOkB n l = true) : l.length ≤ 16 := by
  unfold netOkB at h
  simp only [Bool.and_eq_true, decide_eq_true_eq] at h
  exact h.2.1
theorem inB_iff {a b c : Int} : inB a b c = true ↔ b ≤ a ∧ a ≤ c := by unfold inB; rw [Bool.and_eq_true, decide_eq_true_eq, decide_eq_true_eq]
/-! ### draws: what they make is of some size, whatever it is -/
theorem xor_nn {x y : Int} (hx : 0 ≤ x) (hx2 : x < 1099511627776) (hy : 0 ≤ y) (hy2 : y < 1099511627776) : 0 ≤ Go.bits .xor .i64 x y := by
  obtain ⟨a, rfl⟩ := Int.eq_ofNat_of_zero_le hx
  obtain ⟨b, rfl⟩ := Int.eq_ofNat_of_zero_le hy
  have h1 : (BitVec.ofInt 64 (a : Int)).toNat = a := by
    rw [BitVec.toNat_ofInt]
    omega
  have h2 : (BitVec.ofInt 64 (b : Int)).toNat = b := by
    rw [BitVec.toNat_ofInt]
    omega
  have h3 : a ^^^ b < 2 ^ 40 := Nat.xor_lt_two_pow (by omega) (by omega)
  have h4 : Go.bits .xor .i64 (a : Int) (b : Int) = IntKind.i64.wrap ((a ^^^ b : Nat) : Int) := by
    unfold Go.bits
    show IntKind.i64.wrap ((BitVec.ofInt 64 (a : Int) ^^^ BitVec.ofInt 64 (b : Int)).toNat : Int) = _
    rw [BitVec.toNat_xor, h1, h2]
  rw [h4, IntKind.wrap_i64]
  omega
/-- The bytes of a reader. -/
def Bytes (b : List Int) : Prop := b.length ≤ 2000 ∧ ∀ x ∈ b, 0 ≤ x ∧ x ≤ 255
theorem Bytes.at {b : List Int} (hb : Bytes b) (i : Int) : 0 ≤ rd b i ∧ rd b i ≤ 255 := by
  unfold rd
  rw [List.getD_eq_getElem?_getD]
  cases h : b[i.toNat]? with
  | none => simp
  | some x => exact hb.2 x (List.mem_of_getElem? h)
theorem pick_ex {b : List Int} (hb : Bytes b) {p n : Int} (hp : 0 ≤ p) (hp2 : p ≤ 1000000) (hn : n ≤ 1000000) :
    ∃ v, Ev (fun k => spec_l30Rd_pick.f k b p n) (v, p + 1) ∧ 0 ≤ v ∧ (1 ≤ n → v < n) ∧ (n < 1 → v = 0) := by
  have hl := hb.1
  have w1 : wrap64 (p + 1) = p + 1 := w_id (by omega) (by omega)
  have w0 : wrap64 (p + 1 - 1) = p := by rw [w_id (by omega) (by omega)]; omega
  unfold spec_l30Rd_pick.f
  rw [w1]
  by_cases h1 : n < 1
  · refine ⟨0, ?_, Int.le_refl _, fun h => by omega, fun _ => rfl⟩
    simp only [h1, if_true]
    exact ev_shift (ev_now fun k => by simp only [spec_l30Rd_pick.j0, if_true])
  · simp only [h1, if_false]
    have hn0 : ¬ n = 0 := by omega
    by_cases h2 : b.length = 0
    · refine ⟨0, ?_, Int.le_refl _, fun h => by omega, fun h => by first | exact absurd h h1 | exact h.elim⟩
      have e : ((b.length : Int) == 0) = true := by rw [beq_iff_eq]; omega
      rw [e]
      exact ev_shift (ev_now fun k => by simp only [spec_l30Rd_pick.j0, if_true])
    · have e : ((b.length : Int) == 0) = false := by rw [beq_eq_false_iff_ne]; omega
      have hm0 : ¬ (b.length : Int) = 0 := by omega
      rw [e]
      by_cases h3 : p < (b.length : Int)
      · have hr := hb.at p
        have w2 : wrap64 (rd b p) = rd b p := w_id (by omega) (by omega)
        refine ⟨Int.tmod (rd b p) n, ?_, Int.tmod_nonneg _ hr.1, fun h => Int.tmod_lt_of_pos _ (by omega), fun h => by first | exact absurd h h1 | exact h.elim⟩
        exact ev_shift (ev_now fun k => by simp only [spec_l30Rd_pick.j0, Bool.false_eq_true, if_false, w0, h3, hp, hn0, if_true, w2])
      · have q1 := Int.tmod_nonneg (a := p) (b.length : Int) hp
        have q2 := Int.tmod_lt_of_pos p (show (0 : Int) < (b.length : Int) by omega)
        have w3 : wrap64 (wrap64 (p * 7) + 3) = p * 7 + 3 := by rw [w_id (n := p * 7) (by omega) (by omega), w_id (by omega) (by omega)]
        have q3 := Int.tmod_nonneg (a := p * 7 + 3) (b.length : Int) (by omega)
        have q4 := Int.tmod_lt_of_pos (p * 7 + 3) (show (0 : Int) < (b.length : Int) by omega)
        have q5 : 0 ≤ Int.tdiv p (b.length : Int) := Int.tdiv_nonneg hp (by omega)
        have q6 : Int.tdiv p (b.length : Int) ≤ p := Int.tdiv_le_self _ hp
        obtain ⟨d, hd⟩ : ∃ d, Int.tdiv p (b.length : Int) = d := ⟨_, rfl⟩
        rw [hd] at q5 q6
        have r1 := hb.at (Int.tmod p (b.length : Int))
        have r2 := hb.at (Int.tmod (p * 7 + 3) (b.length : Int))
        have wx : wrap64 (wrap64 (wrap64 (wrap64 (wrap64 (rd b (Int.tmod p (b.length : Int))) * 131) + wrap64 (wrap64 (rd b (Int.tmod (p * 7 + 3) (b.length : Int))) * 1117)) + wrap64 (p * 29)) + wrap64 (wrap64 d * 53)) = rd b (Int.tmod p (b.length : Int)) * 131 + rd b (Int.tmod (p * 7 + 3) (b.length : Int)) * 1117 + p * 29 + d * 53 := by
          generalize rd b (Int.tmod p (b.length : Int)) = x1 at r1 ⊢
          generalize rd b (Int.tmod (p * 7 + 3) (b.length : Int)) = x2 at r2 ⊢
          rw [w_id (n := x1) (by omega) (by omega), w_id (n := x2) (by omega) (by omega), w_id (n := x1 * 131) (by omega) (by omega), w_id (n := x2 * 1117) (by omega) (by omega), w_id (n := p * 29) (by omega) (by omega), w_id (n := d) (by omega) (by omega), w_id (n := d * 53) (by omega) (by omega), w_id (n := x1 * 131 + x2 * 1117) (by omega) (by omega), w_id (n := x1 * 131 + x2 * 1117 + p * 29) (by omega) (by omega), w_id (by omega) (by omega)]
        generalize hX : rd b (Int.tmod p (b.length : Int)) * 131 + rd b (Int.tmod (p * 7 + 3) (b.length : Int)) * 1117 + p * 29 + d * 53 = X at wx
        have x0 : 0 ≤ X := by omega
        have x1 : X < 1099511627776 := by omega
        have y0 : 0 ≤ Int.tdiv X 64 := Int.tdiv_nonneg x0 (by omega)
        have y1 : Int.tdiv X 64 ≤ X := Int.tdiv_le_self _ x0
        have wy : wrap64 (Int.tdiv X 64) = Int.tdiv X 64 := w_id (by omega) (by omega)
        refine ⟨Int.tmod (Go.bits .xor .i64 X (Int.tdiv X 64)) n, ?_, Int.tmod_nonneg _ (xor_nn x0 x1 y0 (by omega)), fun h => Int.tmod_lt_of_pos _ (by omega), fun h => by first | exact absurd h h1 | exact h.elim⟩
        exact ev_shift (ev_now fun k => by simp only [spec_l30Rd_pick.j0, Bool.false_eq_true, if_false, w0, h3, hm0, q1, q2, w3, q3, q4, hn0, if_true, hd, wx, wy])
theorem one_ex {b : List Int} (hb : Bytes b) {p : Int} (hp : 0 ≤ p) (hp2 : p ≤ 1000000) (l : List Int) (hl : 1 ≤ l.length) (hl2 : l.length ≤ 1000) :
    ∃ v, v ∈ l ∧ Ev (fun k => spec_l30Rd_one.f k b p l) (v, p + 1) := by
  obtain ⟨v, hv, h0, h1, _⟩ := pick_ex hb hp hp2 (n := (l.length : Int)) (by omega)
  have h1 := h1 (by omega)
  unfold spec_l30Rd_one.f
  obtain ⟨i, rfl⟩ := Int.eq_ofNat_of_zero_le h0
  have hi : i < l.length := by omega
  refine ⟨l[i], List.getElem_mem hi, Ev.bind hv ?_⟩
  simp only [h0, h1, if_true, rd_at l i hi]
  exact ev_now fun _ => rfl
theorem open_ex (l : List Int) (h : ∀ x ∈ l, (Lit.int .u8 x).wf = true) : ∃ b, Bytes b ∧ spec_l30Open.f l = some (b, 0) := by
  have hw : ∀ x ∈ l, 0 ≤ x ∧ x ≤ 255 := by
    intro x hx
    have := h x hx
    simp [Lit.wf, IntKind.min, IntKind.max, IntKind.signed, IntKind.bits] at this
    omega
  unfold spec_l30Open.f
  by_cases h1 : (l.length : Int) > 2000
  · have h2 : 2000 ≤ (l.length : Int) := by omega
    rw [if_pos h1, if_pos h2]
    exact ⟨_, ⟨by rw [List.length_take]; omega, fun x hx => hw x (List.mem_of_mem_take hx)⟩, rfl⟩
  · rw [if_neg h1]
    exact ⟨_, ⟨by omega, hw⟩, rfl⟩
/-! ### nets, nodes and walks that are drawn -/
theorem l30Net_loop {b : List Int} (hb : Bytes b) {n : Int} (hn : 2 ≤ n ∧ n ≤ 6) : ∀ (m : Nat) (l : List S41) (p : Int), l.length + m ≤ 13 → 0 ≤ p → p + 6 * m ≤ 100000 →
    ∃ l' q, Ev (fun k => spec_l30Net.l0 k (m : Int) b p n l) (n, l', q) ∧ l'.length ≤ 13 ∧ 0 ≤ q ∧ q ≤ p + 6 * m := by
  intro m
  induction m with
  | zero =>
    intro l p hl hp hq
    exact ⟨l, p, ev_shift (ev_now fun k => by simp [spec_l30Net.l0]), by omega, hp, by omega⟩
  | succ m ih =>
    intro l p hl hp hq
    obtain ⟨v1, e1, _⟩ := pick_ex hb hp (by omega) (n := n) (by omega)
    obtain ⟨v2, e2, _⟩ := pick_ex hb (p := p + 1) (by omega) (by omega) (n := n) (by omega)
    obtain ⟨v3, e3, _⟩ := pick_ex hb (p := p + 1 + 1) (by omega) (by omega) (n := 100) (by omega)
    obtain ⟨v4, _, e4⟩ := one_ex hb (p := p + 1 + 1 + 1) (by omega) (by omega) [0, 1, 2, 5, 9, v3] (by simp) (by simp)
    obtain ⟨v5, _, e5⟩ := one_ex hb (p := p + 1 + 1 + 1 + 1) (by omega) (by omega) [0, 0, 3, 8] (by simp) (by simp)
    obtain ⟨v6, e6, _⟩ := pick_ex hb (p := p + 1 + 1 + 1 + 1 + 1) (by omega) (by omega) (n := 10) (by omega)
    have hpos : ((m + 1 : Nat) : Int) > 0 := by omega
    have hw : wrap64 (((m + 1 : Nat) : Int) - 1) = (m : Int) := by rw [w_id (by omega) (by omega)]; omega
    have hlen : l.length < 3518437208883 := by omega
    have hn0 : ¬ n = 0 := by omega
    by_cases hv : v1 = v2
    · obtain ⟨l', q, he, h1, h2, h3⟩ := ih (l ++ [⟨v1, Int.tmod (wrap64 (v2 + 1)) n, v4, v5, v6⟩]) (p + 1 + 1 + 1 + 1 + 1 + 1) (by rw [List.length_append]; simp; omega) (by omega) (by omega)
      refine ⟨l', q, ev_shift ?_, h1, h2, by omega⟩
      simp only [spec_l30Net.l0, hpos, if_true]
      refine Ev.bind e1 (Ev.bind e2 (Ev.bind e3 (Ev.bind e4 (Ev.bind e5 (Ev.bind e6 ?_)))))
      simp only [hv, hn0, hlen, if_true, if_false, hw]
      rw [hv] at he
      exact he
    · obtain ⟨l', q, he, h1, h2, h3⟩ := ih (l ++ [⟨v1, v2, v4, v5, v6⟩]) (p + 1 + 1 + 1 + 1 + 1 + 1) (by rw [List.length_append]; simp; omega) (by omega) (by omega)
      refine ⟨l', q, ev_shift ?_, h1, h2, by omega⟩
      simp only [spec_l30Net.l0, hpos, if_true]
      refine Ev.bind e1 (Ev.bind e2 (Ev.bind e3 (Ev.bind e4 (Ev.bind e5 (Ev.bind e6 ?_)))))
      simp only [hv, hlen, if_true, if_false, hw]
      exact he
theorem l30Net_ex {b : List Int} (hb : Bytes b) {p : Int} (hp : 0 ≤ p) (hp2 : p ≤ 90000) :
    ∃ n l q, Ev (fun k => spec_l30Net.f k b p) (n, l, q) ∧ l.length ≤ 13 ∧ 0 ≤ q ∧ q ≤ p + 100 ∧ 2 ≤ n ∧ n ≤ 6 := by
  obtain ⟨v1, e1, h1, h1', _⟩ := pick_ex hb hp (by omega) (n := 5) (by omega)
  obtain ⟨v2, e2, h2, h2', _⟩ := pick_ex hb (p := p + 1) (by omega) (by omega) (n := 14) (by omega)
  have h1' := h1' (by omega)
  have h2' := h2' (by omega)
  obtain ⟨m, rfl⟩ := Int.eq_ofNat_of_zero_le h2
  have hw : wrap64 (2 + v1) = 2 + v1 := w_id (by omega) (by omega)
  obtain ⟨l, q, he, h3, h4, h5⟩ := l30Net_loop hb (n := 2 + v1) (by omega) m [] (p + 1 + 1) (by simp; omega) (by omega) (by omega)
  refine ⟨2 + v1, l, q, ?_, h3, h4, by omega, by omega, by omega⟩
  unfold spec_l30Net.f
  refine Ev.bind e1 (Ev.bind e2 ?_)
  rw [hw]
  exact he
/-! ### news in their places -/
theorem news_at (l : List S113) (i : Nat) (h : i < l.length) : rd_T113 l (i : Int) = l[i] := by simp [rd_T113, h]
/-! ### nets with news -/
def newsB (m : Int) (w : S113) : Bool := inB w.f0 1 999 && (inB w.f1 0 (wrap64 (m - 1)) && inB w.f2 (-1) 99)
def newsAt (m : Int) (w : List S113) (i : Nat) : Bool := newsB m (rd_T113 w (i : Int)) && (decide (i = 0) || decide ((rd_T113 w ((i - 1 : Nat) : Int)).f0 < (rd_T113 w (i : Int)).f0))
def liveB (n : Int) (l : List S41) (w : List S113) : Bool := (List.range' 0 w.length).all (newsAt l.length w) && (netOkB n l && decide (w.length ≤ 6))
theorem implNewsOk_eq (w : S113) (m : Int) : impl_newsOk.f w.f0 w.f1 w.f2 m = some (newsB m w) := by
  unfold impl_newsOk.f newsB
  simp only [within_eq, Option.bind_some]
  cases inB w.f0 1 999 <;> cases inB w.f1 0 (wrap64 (m - 1)) <;> simp
theorem range'_step (i n : Nat) (h : i < n) : List.range' i (n - i) = i :: List.range' (i + 1) (n - (i + 1)) := by
  rw [show n - i = (n - (i + 1)) + 1 by omega, List.range'_succ]
theorem implLiveOk_ev (n : Int) (l : List S41) (w : List S113) (hw : w.length ≤ 9223372036854775807) : Ev (fun k => impl_LiveOk.f k n l w) (liveB n l w) := by
  unfold impl_LiveOk.f
  refine ev_at (ev_ind (fun k (i : Nat) => impl_LiveOk.l0 k w (w.length : Int) (i : Int) n l w) (fun i => w.length - i) (fun i => i ≤ w.length) (fun i => (List.range' i (w.length - i)).all (newsAt l.length w) && (netOkB n l && decide (w.length ≤ 6))) ?_ 0 (Nat.zero_le _)) (by unfold liveB; rfl)
  intro i hi ih
  by_cases h : i < w.length
  · have hlt : (i : Int) < (w.length : Int) := by omega
    have h0 : (0 : Int) ≤ (i : Int) := by omega
    have ih' := ih (i + 1) (by omega) (by omega)
    simp only [impl_LiveOk.l0, hlt, h0, if_true, implNewsOk_eq, Option.bind_some, wsucc h hw]
    rw [range'_step i _ h, List.all_cons]
    generalize (List.range' (i + 1) (w.length - (i + 1))).all (newsAt l.length w) = q at ih' ⊢
    unfold newsAt
    cases newsB l.length (rd_T113 w (i : Int)) with
    | false => exact ev_now fun k => by simp
    | true =>
      by_cases hz : i = 0
      · have : ¬ (i : Int) > 0 := by omega
        simp only [this, if_false, if_true, hz, decide_true, Bool.true_or, Bool.true_and]
        subst hz
        simpa using ih'
      · have hp : (i : Int) > 0 := by omega
        have hw1 := wpred (show 0 < i by omega) (show i ≤ 9223372036854775807 by omega)
        have hp0 : (0 : Int) ≤ ((i - 1 : Nat) : Int) := by omega
        have hp1 : ((i - 1 : Nat) : Int) < (w.length : Int) := by omega
        simp only [hp, hw1, hp0, hp1, if_true, hz, decide_false, Bool.false_or, Bool.true_and]
        by_cases hc : (rd_T113 w ((i - 1 : Nat) : Int)).f0 < (rd_T113 w (i : Int)).f0
        · have hc' : ¬ (rd_T113 w ((i - 1 : Nat) : Int)).f0 ≥ (rd_T113 w (i : Int)).f0 := by omega
          simp only [hc, hc', if_false, decide_true, Bool.true_and]
          exact ih'
        · have hc' : (rd_T113 w ((i - 1 : Nat) : Int)).f0 ≥ (rd_T113 w (i : Int)).f0 := by omega
          simp only [hc, hc', if_true, decide_false, Bool.false_and]
          exact ev_now fun _ => rfl
  · have hlt : ¬ (i : Int) < (w.length : Int) := by omega
    have he : w.length - i = 0 := by omega
    simp only [impl_LiveOk.l0, hlt, if_false, netOk_eq, Option.bind_some, he, List.range'_zero, List.all_nil, Bool.true_and]
    refine ev_now fun k => ?_
    cases netOkB n l <;> simp
    omega
theorem l16Ok_ev (n : Int) (l : List S41) (w : List S113) (hl : l.length ≤ 9223372036854775807) (hw : w.length ≤ 9223372036854775807) : Ev (fun k => spec_l16Ok.f k n l w) (liveB n l w) := by
  unfold spec_l16Ok.f
  refine ev_at (ev_ind (fun k (i : Nat) => spec_l16Ok.l0 k (i : Int) n l w) (fun i => w.length - i) (fun i => i ≤ w.length) (fun i => (List.range' i (w.length - i)).all (newsAt l.length w) && (netOkB n l && decide (w.length ≤ 6))) ?_ 0 (Nat.zero_le _)) (by unfold liveB; rfl)
  intro i hi ih
  by_cases h : i < w.length
  · have hlt : (i : Int) < (w.length : Int) := by omega
    have h0 : (0 : Int) ≤ (i : Int) := by omega
    have ih' := ih (i + 1) (by omega) (by omega)
    simp only [spec_l16Ok.l0, hlt, h0, if_true, l1In_eq, Option.bind_some, wsucc h hw]
    rw [range'_step i _ h, List.all_cons]
    generalize (List.range' (i + 1) (w.length - (i + 1))).all (newsAt l.length w) = q at ih' ⊢
    unfold newsAt newsB
    cases inB (rd_T113 w (i : Int)).f0 1 999 with
    | false => exact ev_now fun k => by simp
    | true =>
    cases inB (rd_T113 w (i : Int)).f1 0 (wrap64 ((l.length : Int) - 1)) with
    | false => exact ev_now fun k => by simp
    | true =>
    cases inB (rd_T113 w (i : Int)).f2 (-1) 99 with
    | false => exact ev_now fun k => by simp
    | true =>
      by_cases hz : i = 0
      · have : ¬ (i : Int) > 0 := by omega
        simp only [this, if_false, if_true, hz, decide_true, Bool.true_or, Bool.true_and]
        subst hz
        simpa using ih'
      · have hp : (i : Int) > 0 := by omega
        have hw1 := wpred (show 0 < i by omega) (show i ≤ 9223372036854775807 by omega)
        have hp0 : (0 : Int) ≤ ((i - 1 : Nat) : Int) := by omega
        have hp1 : ((i - 1 : Nat) : Int) < (w.length : Int) := by omega
        simp only [hp, hw1, hp0, hp1, if_true, hz, decide_false, Bool.false_or, Bool.true_and]
        by_cases hc : (rd_T113 w ((i - 1 : Nat) : Int)).f0 < (rd_T113 w (i : Int)).f0
        · have hc' : ¬ (rd_T113 w (i : Int)).f0 ≤ (rd_T113 w ((i - 1 : Nat) : Int)).f0 := by omega
          simp only [hc, hc', if_false, decide_true, Bool.true_and]
          exact ih'
        · have hc' : (rd_T113 w (i : Int)).f0 ≤ (rd_T113 w ((i - 1 : Nat) : Int)).f0 := by omega
          simp only [hc, hc', if_true, decide_false, Bool.false_and]
          exact ev_now fun _ => rfl
  · have hlt : ¬ (i : Int) < (w.length : Int) := by omega
    have he : w.length - i = 0 := by omega
    simp only [spec_l16Ok.l0, hlt, if_false, he, List.range'_zero, List.all_nil, Bool.true_and]
    refine Ev.bind (l1Ok_ev n l hl) (ev_now fun k => ?_)
    cases netOkB n l <;> simp
    omega
/-- What liveB says. -/
theorem liveB_len {n : Int} {l : List S41} {w : List S113} (h : liveB n l w = true) : netOkB n l = true ∧ w.length ≤ 6 := by
  unfold liveB at h
  simp only [Bool.and_eq_true, decide_eq_true_eq] at h
  exact h.2
theorem liveB_at {n : Int} {l : List S41} {w : List S113} (h : liveB n l w = true) (i : Nat) (hi : i < w.length) : newsAt l.length w i = true := by
  unfold liveB at h
  simp only [Bool.and_eq_true, List.all_eq_true] at h
  exact h.1 i (by simp [List.mem_range']; omega)
theorem liveB_more {n : Int} {l : List S41} {w : List S113} (h : liveB n l w = true) : ∀ x ∈ w, newsB l.length x = true := by
  intro x hx
  obtain ⟨i, hi, rfl⟩ := List.getElem_of_mem hx
  have := liveB_at h i hi
  unfold newsAt at this
  rw [Bool.and_eq_true, news_at w i hi] at this
  exact this.1
/-- What news make of an arc of number k: shut, and what it costs. -/
def nowS (k : Int) : List S113 → Bool → Int → Bool × Int
  | [], s, c => (s, c)
  | w :: ws, s, c => if w.f1 = k then (if w.f2 < 0 then nowS k ws true c else nowS k ws s (wrap64 (c + w.f2))) else nowS k ws s c
def nowI (k : Int) : List S113 → Bool → Int → Bool × Int
  | [], s, c => (s, c)
  | w :: ws, s, c => if w.f1 = k then (if w.f2 = -1 then nowI k ws false c else if s = true then nowI k ws s (wrap64 (c + w.f2)) else nowI k ws s c) else nowI k ws s c
theorem nowI_false (k : Int) (ws : List S113) : ∀ c, (nowI k ws false c).1 = false := by
  induction ws with
  | nil => intro c; rfl
  | cons w ws ih => intro c; unfold nowI; split <;> (try split) <;> simp [ih]
theorem nowS_true (k : Int) (ws : List S113) : ∀ c, (nowS k ws true c).1 = true := by
  induction ws with
  | nil => intro c; rfl
  | cons w ws ih => intro c; unfold nowS; split <;> (try split) <;> simp [ih]
theorem now_same (k : Int) (ws : List S113) (h : ∀ x ∈ ws, -1 ≤ x.f2) : ∀ c, (nowI k ws true c).1 = !(nowS k ws false c).1 ∧ ((nowI k ws true c).1 = true → (nowI k ws true c).2 = (nowS k ws false c).2) := by
  induction ws with
  | nil => intro c; exact ⟨rfl, fun _ => rfl⟩
  | cons w ws ih =>
    intro c
    have hw := h w (by simp)
    have ih := ih fun x hx => h x (by simp [hx])
    unfold nowI nowS
    by_cases hk : w.f1 = k
    · by_cases hm : w.f2 < 0
      · have : w.f2 = -1 := by omega
        rw [if_pos hk, if_pos this, if_pos hk, if_pos hm]
        refine ⟨?_, fun z => ?_⟩
        · rw [nowI_false, nowS_true]; rfl
        · rw [nowI_false] at z; exact absurd z (by simp)
      · have : ¬ w.f2 = -1 := by omega
        simp only [hk, hm, this, if_true, if_false]
        exact ih _
    · simp only [hk, if_false]
      exact ih c
def nowA (w : List S113) (k : Int) (x : S41) : List S41 := if (nowS k w false x.f2).1 = true then [] else [⟨x.f0, x.f1, if (nowS k w false x.f2).2 > 99 then 99 else (nowS k w false x.f2).2, x.f3, x.f4⟩]
def nowL (w : List S113) : List S41 → Nat → List S41
  | [], _ => []
  | x :: xs, k => nowA w (k : Int) x ++ nowL w xs (k + 1)
theorem nowA_length (w : List S113) (k : Int) (x : S41) : (nowA w k x).length ≤ 1 := by unfold nowA; split <;> simp
theorem nowL_length (w : List S113) (l : List S41) : ∀ k, (nowL w l k).length ≤ l.length := by
  induction l with
  | nil => intro k; simp [nowL]
  | cons x xs ih => intro k; have := ih (k + 1); have := nowA_length w k x; simp [nowL]; omega
theorem l16Now_l1 (n : Int) (l : List S41) (w : List S113) (hw : w.length ≤ 9223372036854775807) (k : Int) (n' : Int) (out : List S41) (x : S41) (hout : out.length < 3518437208883)
    (R : Int × List S41) (hR : Ev (fun f => spec_l16Now.l0 f (wrap64 (k + 1)) n l w n' (out ++ nowA w k x)) R) :
    Ev (fun f => spec_l16Now.l1 f k false 0 n l w n' out x.f0 x.f1 x.f2 x.f3 x.f4) R := by
  refine ev_ind (fun f (s : Nat × Bool × Int) => spec_l16Now.l1 f k s.2.1 (s.1 : Int) n l w n' out x.f0 x.f1 s.2.2 x.f3 x.f4) (fun s => w.length - s.1) (fun s => s.1 ≤ w.length ∧ nowS k w false x.f2 = nowS k (w.drop s.1) s.2.1 s.2.2) (fun _ => R) ?_ (0, false, x.f2) ⟨Nat.zero_le _, by simp⟩
  rintro ⟨i, s, c⟩ ⟨hi, hs⟩ ih
  simp only at hi hs ih ⊢
  by_cases h : i < w.length
  · have hlt : (i : Int) < (w.length : Int) := by omega
    have h0 : (0 : Int) ≤ (i : Int) := by omega
    rw [List.drop_eq_getElem_cons h, nowS] at hs
    simp only [spec_l16Now.l1, hlt, h0, if_true, news_at w i h]
    by_cases hk : w[i].f1 = k
    · by_cases hm : w[i].f2 < 0
      · simp only [hk, hm, if_true, decide_true] at hs ⊢
        refine ev_shift ?_
        simp only [spec_l16Now.j2, if_true, wsucc h hw]
        exact ih (i + 1, true, c) ⟨by simp; omega, hs⟩ (by simp; omega)
      · simp only [hk, hm, if_true, if_false, decide_false] at hs ⊢
        refine ev_shift ?_
        simp only [spec_l16Now.j2, Bool.false_eq_true, if_false, if_true, hlt, h0, news_at w i h, hk, wsucc h hw]
        exact ih (i + 1, s, wrap64 (c + w[i].f2)) ⟨by simp; omega, hs⟩ (by simp; omega)
    · simp only [hk, if_false] at hs ⊢
      refine ev_shift ?_
      simp only [spec_l16Now.j2, Bool.false_eq_true, if_false, if_true, hlt, h0, news_at w i h, hk, wsucc h hw]
      exact ih (i + 1, s, c) ⟨by simp; omega, hs⟩ (by simp; omega)
  · have hlt : ¬ (i : Int) < (w.length : Int) := by omega
    rw [List.drop_of_length_le (by omega), nowS] at hs
    simp only [spec_l16Now.l1, hlt, if_false]
    unfold nowA at hR
    rw [hs] at hR
    simp only at hR
    by_cases hc : c > 99
    · cases s with
      | true => simpa [hc] using hR
      | false => simpa [hc, hout] using hR
    · cases s with
      | true => simpa [hc] using hR
      | false => simpa [hc, hout] using hR
theorem l16Now_ev (n : Int) (l : List S41) (w : List S113) (hl : l.length ≤ 1000) (hw : w.length ≤ 9223372036854775807) : Ev (fun k => spec_l16Now.f k n l w) (n, nowL w l 0) := by
  unfold spec_l16Now.f
  have := ev_ind (fun k (s : Nat × List S41) => spec_l16Now.l0 k (s.1 : Int) n l w n s.2) (fun s => l.length - s.1) (fun s => s.1 ≤ l.length ∧ s.2.length ≤ s.1) (fun s => (n, s.2 ++ nowL w (l.drop s.1) s.1)) ?_ (0, []) ⟨Nat.zero_le _, by simp⟩
  · simpa using this
  rintro ⟨i, x⟩ ⟨hi, hx⟩ ih
  simp only at hi hx ih ⊢
  by_cases h : i < l.length
  · have hlt : (i : Int) < (l.length : Int) := by omega
    have h0 : (0 : Int) ≤ (i : Int) := by omega
    simp only [spec_l16Now.l0, hlt, h0, if_true, arc_at l i h]
    refine l16Now_l1 n l w hw i n x l[i] (by omega) _ ?_
    rw [wsucc h (show l.length ≤ 9223372036854775807 by omega)]
    have ha := nowA_length w i l[i]
    refine ev_at (ih (i + 1, x ++ nowA w i l[i]) ⟨by simp; omega, by simp; omega⟩ (by simp; omega)) ?_
    rw [List.drop_eq_getElem_cons h, nowL, List.append_assoc]
  · have hlt : ¬ (i : Int) < (l.length : Int) := by omega
    simp only [spec_l16Now.l0, hlt, if_false]
    refine ev_now fun k => ?_
    rw [List.drop_of_length_le (by omega)]
    simp [nowL]
theorem now_l1 (n : Int) (l : List S41) (w : List S113) (hw : w.length ≤ 9223372036854775807) (hm : ∀ x ∈ w, -1 ≤ x.f2) (k : Int) (n' : Int) (out : List S41) (x : S41) (hout : out.length < 3518437208883)
    (R : Int × List S41) (hR : Ev (fun f => impl_Live_now.l0 f l (l.length : Int) (wrap64 (k + 1)) n l w n' (out ++ nowA w k x)) R) :
    Ev (fun f => impl_Live_now.l1 f k true l (l.length : Int) k w (w.length : Int) 0 n l w n' out x.f0 x.f1 x.f2 x.f3 x.f4) R := by
  refine ev_ind (fun f (s : Nat × Bool × Int) => impl_Live_now.l1 f k s.2.1 l (l.length : Int) k w (w.length : Int) (s.1 : Int) n l w n' out x.f0 x.f1 s.2.2 x.f3 x.f4) (fun s => w.length - s.1) (fun s => s.1 ≤ w.length ∧ nowI k w true x.f2 = nowI k (w.drop s.1) s.2.1 s.2.2) (fun _ => R) ?_ (0, true, x.f2) ⟨Nat.zero_le _, by simp⟩
  rintro ⟨i, s, c⟩ ⟨hi, hs⟩ ih
  simp only at hi hs ih ⊢
  by_cases h : i < w.length
  · have hlt : (i : Int) < (w.length : Int) := by omega
    have h0 : (0 : Int) ≤ (i : Int) := by omega
    rw [List.drop_eq_getElem_cons h, nowI] at hs
    simp only [impl_Live_now.l1, hlt, h0, if_true, news_at w i h]
    by_cases hk : w[i].f1 = k
    · simp only [hk, if_true] at hs ⊢
      refine ev_shift ?_
      by_cases hm : w[i].f2 = -1
      · simp only [hm, if_true] at hs
        simp only [impl_Live_now.j2, hm, beq_self_eq_true, if_true, wsucc h hw]
        exact ih (i + 1, false, c) ⟨by simp; omega, hs⟩ (by simp; omega)
      · have hm' : (w[i].f2 == -1) = false := beq_eq_false_iff_ne.2 hm
        simp only [hm, if_false] at hs
        simp only [impl_Live_now.j2, hm', Bool.false_eq_true, if_false, if_true, wsucc h hw]
        cases s with
        | true =>
          simp only [if_true] at hs ⊢
          exact ih (i + 1, true, wrap64 (c + w[i].f2)) ⟨by simp; omega, hs⟩ (by simp; omega)
        | false =>
          simp only [Bool.false_eq_true, if_false] at hs ⊢
          exact ih (i + 1, false, c) ⟨by simp; omega, hs⟩ (by simp; omega)
    · simp only [hk, if_false] at hs ⊢
      refine ev_shift ?_
      simp only [impl_Live_now.j2, Bool.false_eq_true, hk, if_false, wsucc h hw]
      exact ih (i + 1, s, c) ⟨by simp; omega, hs⟩ (by simp; omega)
  · have hlt : ¬ (i : Int) < (w.length : Int) := by omega
    rw [List.drop_of_length_le (by omega), nowI] at hs
    simp only [impl_Live_now.l1, hlt, if_false]
    obtain ⟨e1, e2⟩ := now_same k w hm x.f2
    rw [hs] at e1 e2
    simp only at e1 e2
    unfold nowA at hR
    cases s with
    | true =>
      have e1' : (nowS k w false x.f2).1 = false := by simpa using e1.symm
      rw [← e2 rfl] at hR
      simp only [e1', Bool.false_eq_true, if_false] at hR
      have hmn : mn c 99 = if c > 99 then 99 else c := by unfold mn; by_cases hq : c > 99 <;> simp [hq] <;> omega
      simpa [hout, hmn] using hR
    | false =>
      have e1' : (nowS k w false x.f2).1 = true := by simpa using e1.symm
      simpa [e1'] using hR
theorem now_ev (n : Int) (l : List S41) (w : List S113) (hl : l.length ≤ 1000) (hw : w.length ≤ 9223372036854775807) (hm : ∀ x ∈ w, -1 ≤ x.f2) : Ev (fun k => impl_Live_now.f k n l w) (n, nowL w l 0) := by
  unfold impl_Live_now.f
  simp only [show ((l.length : Int) : Int).toNat ≤ 7036874417766 by omega, if_true]
  have := ev_ind (fun k (s : Nat × List S41) => impl_Live_now.l0 k l (l.length : Int) (s.1 : Int) n l w n s.2) (fun s => l.length - s.1) (fun s => s.1 ≤ l.length ∧ s.2.length ≤ s.1) (fun s => (n, s.2 ++ nowL w (l.drop s.1) s.1)) ?_ (0, []) ⟨Nat.zero_le _, by simp⟩
  · simpa using this
  rintro ⟨i, x⟩ ⟨hi, hx⟩ ih
  simp only at hi hx ih ⊢
  by_cases h : i < l.length
  · have hlt : (i : Int) < (l.length : Int) := by omega
    have h0 : (0 : Int) ≤ (i : Int) := by omega
    simp only [impl_Live_now.l0, hlt, h0, if_true, arc_at l i h]
    refine now_l1 n l w hw hm i n x l[i] (by omega) _ ?_
    rw [wsucc h (show l.length ≤ 9223372036854775807 by omega)]
    have ha := nowA_length w i l[i]
    refine ev_at (ih (i + 1, x ++ nowA w i l[i]) ⟨by simp; omega, by simp; omega⟩ (by simp; omega)) ?_
    rw [List.drop_eq_getElem_cons h, nowL, List.append_assoc]
  · have hlt : ¬ (i : Int) < (l.length : Int) := by omega
    simp only [impl_Live_now.l0, hlt, if_false, impl_Arc_110.f, Option.bind_some]
    refine ev_now fun k => ?_
    rw [List.drop_of_length_le (by omega)]
    simp [nowL]
/-! ### news that are told -/
/-- News in their places, one more told: what has its number goes. -/
def tellS (x : S113) : List S113 → Bool → List S113
  | [], put => if put = true then [] else [x]
  | y :: ys, put => (if (!put && decide (y.f0 ≥ x.f0)) = true then [x] else []) ++ ((if y.f0 = x.f0 then [] else [y]) ++ tellS x ys (put || decide (y.f0 ≥ x.f0)))
theorem tellS_length (x : S113) : ∀ (w : List S113) (put : Bool), (tellS x w put).length ≤ w.length + (if put = true then 0 else 1) := by
  intro w
  induction w with
  | nil => intro put; cases put <;> simp [tellS]
  | cons y ys ih =>
    intro put
    have h := ih (put || decide (y.f0 ≥ x.f0))
    unfold tellS
    by_cases c : y.f0 ≥ x.f0
    · by_cases e : y.f0 = x.f0
      · cases put <;> simp [c, e] at h ⊢ <;> omega
      · cases put <;> simp [c, e] at h ⊢ <;> omega
    · have e : ¬ y.f0 = x.f0 := by omega
      cases put <;> simp [c, e] at h ⊢ <;> omega
theorem l16Copy_eq (n : Int) (l : List S41) (w : List S113) (hl : l.length ≤ 1000) (hw : w.length ≤ 1000) : spec_l16Copy.f n l w = some (n, l, w) := by
  have h1 : l.length < 3518437208883 := by omega
  have h2 : w.length < 5864062014805 := by omega
  unfold spec_l16Copy.f spec_l1Copy.f
  simp [h1, h2]
def tellV (n : Int) (l : List S41) (w W : List S113) : Int × List S41 × List S113 × Bool := if liveB n l W = true then (n, l, W, true) else (n, l, w, false)
theorem news_eta (x : S113) : (⟨x.f0, x.f1, x.f2⟩ : S113) = x := rfl
theorem specTell_loop (n : Int) (l : List S41) (w : List S113) (hl : l.length ≤ 1000) (hw : w.length ≤ 1000) (x : S113) :
    Ev (fun k => spec_LiveTell.l0 k false (0 : Nat) n l w x.f0 x.f1 x.f2 n l []) (tellV n l w (tellS x w false)) := by
  refine ev_at (ev_ind (fun k (s : Bool × Nat × List S113) => spec_LiveTell.l0 k s.1 (s.2.1 : Int) n l w x.f0 x.f1 x.f2 n l s.2.2) (fun s => w.length - s.2.1) (fun s => s.2.1 ≤ w.length ∧ s.2.2.length ≤ 2 * s.2.1) (fun s => tellV n l w (s.2.2 ++ tellS x (w.drop s.2.1) s.1)) ?_ (false, 0, []) ⟨Nat.zero_le _, by simp⟩) (by simp)
  rintro ⟨put, i, acc⟩ ⟨hi, ha⟩ ih
  simp only at hi ha ih ⊢
  by_cases h : i < w.length
  · have hlt : (i : Int) < (w.length : Int) := by omega
    have h0 : (0 : Int) ≤ (i : Int) := by omega
    have b1 : acc.length < 5864062014805 := by omega
    have b2 : (acc ++ [x]).length < 5864062014805 := by rw [List.length_append]; simp; omega
    have e1 := ih (true, i + 1, acc ++ [x]) ⟨by simp; omega, by simp; omega⟩ (by simp; omega)
    have e2 := ih (true, i + 1, acc ++ [x] ++ [w[i]]) ⟨by simp; omega, by simp; omega⟩ (by simp; omega)
    have e3 := ih (put, i + 1, acc) ⟨by simp; omega, by simp; omega⟩ (by simp; omega)
    have e4 := ih (put, i + 1, acc ++ [w[i]]) ⟨by simp; omega, by simp; omega⟩ (by simp; omega)
    simp only at e1 e2 e3 e4
    have hd : w.drop i = w[i] :: w.drop (i + 1) := List.drop_eq_getElem_cons h
    simp only [spec_LiveTell.l0, hlt, h0, if_true, news_at w i h]
    cases put with
    | true =>
      simp only [if_true]
      refine ev_shift ?_
      simp only [spec_LiveTell.j1, Bool.false_eq_true, if_false, h0, hlt, if_true, news_at w i h, b1, news_eta, wsucc h (show w.length ≤ 9223372036854775807 by omega)]
      rw [hd]
      by_cases e : w[i].f0 = x.f0
      · simp only [e, if_true]
        refine ev_at e3 ?_
        simp [tellS, e]
      · simp only [e, if_false]
        refine ev_at e4 ?_
        simp [tellS, e]
    | false =>
      simp only [Bool.false_eq_true, if_false]
      refine ev_shift ?_
      rw [hd]
      by_cases c : w[i].f0 ≥ x.f0
      · simp only [spec_LiveTell.j1, c, decide_true, if_true, h0, hlt, news_at w i h, b1, b2, news_eta, Option.bind_some, wsucc h (show w.length ≤ 9223372036854775807 by omega)]
        by_cases e : w[i].f0 = x.f0
        · simp only [e, if_true]
          refine ev_at e1 ?_
          simp [tellS, e]
        · simp only [e, if_false]
          refine ev_at e2 ?_
          simp [tellS, e, c]
      · have e : ¬ w[i].f0 = x.f0 := by omega
        simp only [spec_LiveTell.j1, c, decide_false, Bool.false_eq_true, if_false, h0, hlt, if_true, news_at w i h, b1, news_eta, e, wsucc h (show w.length ≤ 9223372036854775807 by omega)]
        refine ev_at e4 ?_
        simp [tellS, e, c]
  · have hlt : ¬ (i : Int) < (w.length : Int) := by omega
    have hd : w.drop i = [] := List.drop_of_length_le (by omega)
    have b1 : acc.length < 5864062014805 := by omega
    simp only [spec_LiveTell.l0, hlt, if_false]
    have key : ∀ W : List S113, W.length ≤ 9223372036854775807 → Ev (fun k => spec_LiveTell.j2 k n l w n l W) (tellV n l w W) := by
      intro W hW
      refine ev_shift ?_
      simp only [spec_LiveTell.j2]
      refine Ev.bind (l16Ok_ev n l W (by omega) hW) ?_
      unfold tellV
      cases liveB n l W with
      | true => simp only [if_true]; exact ev_now fun _ => rfl
      | false =>
        simp only [Bool.false_eq_true, if_false, l16Copy_eq n l w hl hw, Option.bind_some]
        exact ev_now fun _ => rfl
    rw [hd]
    cases put with
    | true =>
      simp only [if_true]
      refine ev_at (key acc (by omega)) ?_
      simp [tellS]
    | false =>
      simp only [Bool.false_eq_true, if_false, b1, if_true, news_eta]
      refine ev_at (key (acc ++ [x]) (by simp; omega)) ?_
      simp [tellS]
theorem specTell_ev (n : Int) (l : List S41) (w : List S113) (hl : l.length ≤ 9223372036854775807) (hw : w.length ≤ 9223372036854775807) (a b c : Int) :
    Ev (fun k => spec_LiveTell.f k n l w a b c) (if liveB n l w = true then tellV n l w (tellS ⟨a, b, c⟩ w false) else (0, [], [], false)) := by
  unfold spec_LiveTell.f
  refine Ev.bind (l16Ok_ev n l w hl hw) ?_
  cases hok : liveB n l w with
  | false => simp only [Bool.false_eq_true, if_false]; exact ev_now fun _ => rfl
  | true =>
    have h1 := liveB_len hok
    have h2 := netOk_len h1.1
    have h3 : l.length < 3518437208883 := by omega
    unfold spec_l1Copy.f
    simp only [if_true, Option.bind_some, List.length_nil, Nat.zero_add, h3, List.nil_append]
    exact specTell_loop n l w (by omega) (by omega) ⟨a, b, c⟩
/-! ### nets with news that are drawn -/
theorem l30News_ex {b : List Int} (hb : Bytes b) (n : Int) {l : List S41} (hl : l.length ≤ 1000) {p : Int} (hp : 0 ≤ p) (hp2 : p ≤ 90000) :
    ∃ a c d q, Ev (fun k => spec_l30News.f k b p n l) (a, c, d, q) ∧ 0 ≤ q ∧ q ≤ p + 10 := by
  have hw : wrap64 ((l.length : Int) + 1) = (l.length : Int) + 1 := w_id (by omega) (by omega)
  obtain ⟨v1, e1, _⟩ := pick_ex hb hp (by omega) (n := 6) (by omega)
  obtain ⟨v2, e2, _⟩ := pick_ex hb (p := p + 1) (by omega) (by omega) (n := (l.length : Int) + 1) (by omega)
  obtain ⟨v3, _, e3⟩ := one_ex hb (p := p + 1 + 1) (by omega) (by omega) [(-1), 0, 3, 9, 99] (by simp) (by simp)
  obtain ⟨v4, e4, _⟩ := pick_ex hb (p := p + 1 + 1 + 1) (by omega) (by omega) (n := 14) (by omega)
  unfold spec_l30News.f
  rw [hw]
  by_cases c : v4 = 0
  · obtain ⟨v5, _, e5⟩ := one_ex hb (p := p + 1 + 1 + 1 + 1) (by omega) (by omega) [0, 1000] (by simp) (by simp)
    refine ⟨v5, v2, v3, p + 1 + 1 + 1 + 1 + 1, Ev.bind e1 (Ev.bind e2 (Ev.bind e3 (Ev.bind e4 ?_))), by omega, by omega⟩
    simp only [c, if_true]
    exact Ev.bind e5 (ev_now fun _ => rfl)
  · refine ⟨wrap64 (1 + v1), v2, v3, p + 1 + 1 + 1 + 1, Ev.bind e1 (Ev.bind e2 (Ev.bind e3 (Ev.bind e4 ?_))), by omega, by omega⟩
    simp only [c, if_false]
    exact ev_now fun _ => rfl
theorem l30Live_end {b : List Int} (hb : Bytes b) (n : Int) {l : List S41} (hl : l.length ≤ 13) (w : List S113) (hw : w.length ≤ 20) {p : Int} (hp : 0 ≤ p) (hp2 : p ≤ 95000) :
    ∃ n' l' w' q, Ev (fun k => spec_l30Live.l0 k 0 b p n l w) (n', l', w', q) ∧ l'.length ≤ 13 ∧ w'.length ≤ 21 ∧ 0 ≤ q ∧ q ≤ p + 10 ∧ n' = n := by
  have z : ¬ (0 : Int) > 0 := by omega
  by_cases hz : (w.length : Int) > 0
  · obtain ⟨v1, e1, g0, g1, _⟩ := pick_ex hb hp (by omega) (n := (w.length : Int)) (by omega)
    have g1 := g1 (by omega)
    obtain ⟨v2, e2, _⟩ := pick_ex hb (p := p + 1) (by omega) (by omega) (n := 14) (by omega)
    by_cases c0 : v2 = 0
    · obtain ⟨v3, _, e3⟩ := one_ex hb (p := p + 1 + 1) (by omega) (by omega) [(-2), 100] (by simp) (by simp)
      refine ⟨n, l, w.set v1.toNat (⟨(rd_T113 w v1).f0, (rd_T113 w v1).f1, v3⟩ : S113), p + 1 + 1 + 1, ev_shift ?_, hl, by rw [List.length_set]; omega, by omega, by omega, rfl⟩
      simp only [spec_l30Live.l0, z, hz, if_true, if_false]
      refine Ev.bind e1 (Ev.bind e2 ?_)
      simp only [c0, if_true]
      refine Ev.bind e3 ?_
      simp only [g0, g1, if_true]
      rw [l16Copy_eq n l _ (by omega) (by rw [List.length_set]; omega)]
      exact ev_now fun _ => rfl
    · by_cases c1 : v2 = 1
      · refine ⟨n, l, w ++ [(⟨(rd_T113 w v1).f0, (rd_T113 w v1).f1, (rd_T113 w v1).f2⟩ : S113)], p + 1 + 1, ev_shift ?_, hl, by simp; omega, by omega, by omega, rfl⟩
        simp only [spec_l30Live.l0, z, hz, if_true, if_false]
        refine Ev.bind e1 (Ev.bind e2 ?_)
        have b1 : w.length < 5864062014805 := by omega
        simp only [c1, show ¬ (1 : Int) = 0 by omega, if_true, if_false, g0, g1, b1]
        rw [l16Copy_eq n l _ (by omega) (by simp; omega)]
        exact ev_now fun _ => rfl
      · refine ⟨n, l, w, p + 1 + 1, ev_shift ?_, hl, by omega, by omega, by omega, rfl⟩
        simp only [spec_l30Live.l0, z, hz, if_true, if_false]
        refine Ev.bind e1 (Ev.bind e2 ?_)
        simp only [c0, c1, if_false]
        rw [l16Copy_eq n l _ (by omega) (by omega)]
        exact ev_now fun _ => rfl
  · refine ⟨n, l, w, p, ev_shift ?_, hl, by omega, hp, by omega, rfl⟩
    simp only [spec_l30Live.l0, z, hz, if_false]
    rw [l16Copy_eq n l _ (by omega) (by omega)]
    exact ev_now fun _ => rfl
theorem l30Live_loop {b : List Int} (hb : Bytes b) : ∀ (m : Nat) (n : Int) (l : List S41) (w : List S113) (p : Int), l.length ≤ 13 → w.length + m ≤ 20 → 0 ≤ p → p + 10 * m ≤ 90000 → n ≤ 6 →
    ∃ n' l' w' q, Ev (fun k => spec_l30Live.l0 k (m : Int) b p n l w) (n', l', w', q) ∧ l'.length ≤ 13 ∧ w'.length ≤ 21 ∧ 0 ≤ q ∧ q ≤ p + 10 * m + 10 ∧ n' ≤ 6 := by
  intro m
  induction m with
  | zero =>
    intro n l w p h1 h2 h3 h4 h5
    obtain ⟨n', l', w', q, he, r1, r2, r3, r4, r5⟩ := l30Live_end hb n h1 w (by omega) h3 (by omega)
    exact ⟨n', l', w', q, he, r1, r2, r3, by omega, by omega⟩
  | succ m ih =>
    intro n l w p h1 h2 h3 h4 h5
    have hpos : ((m + 1 : Nat) : Int) > 0 := by omega
    have hw : wrap64 (((m + 1 : Nat) : Int) - 1) = (m : Int) := by rw [w_id (by omega) (by omega)]; omega
    obtain ⟨x, y, z, q1, e1, g0, g1⟩ := l30News_ex hb n (l := l) (by omega) h3 (by omega)
    have e2 := specTell_ev n l w (by omega) (by omega) x y z
    obtain ⟨R, hR, hlen⟩ : ∃ R, (if liveB n l w = true then tellV n l w (tellS ⟨x, y, z⟩ w false) else (0, [], [], false)) = R ∧ R.2.1.length ≤ 13 ∧ R.2.2.1.length ≤ w.length + 1 ∧ R.1 ≤ 6 := by
      refine ⟨_, rfl, ?_⟩
      have ht := tellS_length (⟨x, y, z⟩ : S113) w false
      simp only [Bool.false_eq_true, if_false] at ht
      unfold tellV
      split
      · split
        · exact ⟨h1, ht, h5⟩
        · exact ⟨h1, by simp, h5⟩
      · exact ⟨by simp, by simp, by simp⟩
    rw [hR] at e2
    obtain ⟨n', l', w', q, he, r1, r2, r3, r4, r5⟩ := ih R.1 R.2.1 R.2.2.1 q1 hlen.1 (by omega) g0 (by omega) hlen.2.2
    refine ⟨n', l', w', q, ev_shift ?_, r1, r2, r3, by omega, r5⟩
    simp only [spec_l30Live.l0, hpos, if_true, hw]
    exact Ev.bind e1 (Ev.bind e2 he)
theorem l30Live_ex {b : List Int} (hb : Bytes b) {p : Int} (hp : 0 ≤ p) (hp2 : p ≤ 80000) :
    ∃ n l w q, Ev (fun k => spec_l30Live.f k b p) (n, l, w, q) ∧ l.length ≤ 13 ∧ w.length ≤ 21 ∧ 0 ≤ q ∧ q ≤ p + 300 ∧ n ≤ 6 := by
  obtain ⟨n, l, q, he, h1, h2, h3, _, h6⟩ := l30Net_ex hb hp (by omega)
  obtain ⟨v, e1, g0, g1, _⟩ := pick_ex hb h2 (by omega) (n := 7) (by omega)
  have g1 := g1 (by omega)
  obtain ⟨m, rfl⟩ := Int.eq_ofNat_of_zero_le g0
  obtain ⟨n', l', w', q', he', r1, r2, r3, r4, r5⟩ := l30Live_loop hb m n l [] (q + 1) h1 (by simp; omega) (by omega) (by omega) h6
  refine ⟨n', l', w', q', ?_, r1, r2, r3, by omega, r5⟩
  unfold spec_l30Live.f
  exact Ev.bind he (Ev.bind e1 he')
/-! ### drawn nodes -/
theorem l30Node_ex {b : List Int} (hb : Bytes b) {p : Int} (hp : 0 ≤ p) (hp2 : p ≤ 90000) (n : Int) (hn : n ≤ 1000000) (l : List S41) :
    ∃ v q, Ev (fun k => spec_l30Node.f k b p n l) (v, q) ∧ 0 ≤ q ∧ q ≤ p + 10 := by
  obtain ⟨v1, e1, _⟩ := pick_ex hb hp (by omega) (n := 16) (by omega)
  unfold spec_l30Node.f
  by_cases c : v1 = 0
  · obtain ⟨v2, _, e2⟩ := one_ex hb (p := p + 1) (by omega) (by omega) [(-1), n] (by simp) (by simp)
    refine ⟨v2, p + 1 + 1, Ev.bind e1 ?_, by omega, by omega⟩
    simp only [c, if_true]
    exact Ev.bind e2 (ev_now fun _ => rfl)
  · obtain ⟨v2, e2, _⟩ := pick_ex hb (p := p + 1) (by omega) (by omega) (n := n) hn
    refine ⟨v2, p + 1 + 1, Ev.bind e1 ?_, by omega, by omega⟩
    simp only [c, if_false]
    exact Ev.bind e2 (ev_now fun _ => rfl)
/-! ### a valid net -/
/-- What a valid net is. -/
structure Net1 (n : Int) (l : List S41) : Prop where
  lo : 1 ≤ n
  hi : n ≤ 8
  len : l.length ≤ 16
  ends : ∀ x ∈ l, 0 ≤ x.f0 ∧ x.f0 < n ∧ 0 ≤ x.f1 ∧ x.f1 < n ∧ x.f0 ≠ x.f1 ∧ 0 ≤ x.f2 ∧ x.f2 ≤ 99 ∧ 0 ≤ x.f3 ∧ x.f3 ≤ 99 ∧ 0 ≤ x.f4 ∧ x.f4 ≤ 9
theorem net1_of {n : Int} {l : List S41} (h : netOkB n l = true) : Net1 n l := by
  unfold netOkB at h
  simp only [Bool.and_eq_true, decide_eq_true_eq, inB_iff, Bool.not_eq_true'] at h
  obtain ⟨⟨h1, h2⟩, h3, h4⟩ := h
  refine ⟨h1, h2, h3, fun x hx => ?_⟩
  have h5 : arcBad n x = false := by
    cases h6 : arcBad n x with
    | false => rfl
    | true => rw [List.any_eq_true.2 ⟨x, hx, h6⟩] at h4; cases h4
  rw [arcBad_eq] at h5
  simp only [Bool.not_eq_false', Bool.and_eq_true, inB_iff, Bool.not_eq_true', beq_eq_false_iff_ne] at h5
  rw [w_id (n := n - 1) (by omega) (by omega)] at h5
  obtain ⟨a, b, c, d, e, f⟩ := h5
  exact ⟨a.1, by omega, b.1, by omega, c, d.1, d.2, e.1, e.2, f.1, f.2⟩
theorem netOk_of {n : Int} {l : List S41} (hn : Net1 n l) : netOkB n l = true := by
  unfold netOkB
  have hlo := hn.lo
  have hhi := hn.hi
  have hl := hn.len
  simp only [Bool.and_eq_true, decide_eq_true_eq, inB_iff, Bool.not_eq_true']
  refine ⟨⟨hlo, hhi⟩, hl, ?_⟩
  rw [List.any_eq_false]
  intro x hx
  obtain ⟨h1, h2, h3, h4, h5, h6, h7, h8, h9, h10, h11⟩ := hn.ends x hx
  have : arcBad n x = false := by
    rw [arcBad_eq]
    simp only [Bool.not_eq_false', Bool.and_eq_true, inB_iff, Bool.not_eq_true', beq_eq_false_iff_ne]
    rw [w_id (n := n - 1) (by omega) (by omega)]
    exact ⟨⟨h1, by omega⟩, ⟨h3, by omega⟩, h5, ⟨h6, h7⟩, ⟨h8, h9⟩, h10, h11⟩
  rw [this]; exact Bool.false_ne_true
/-! ### what is near by news -/
theorem nowS_pos (k : Int) (ws : List S113) (h : ∀ x ∈ ws, x.f2 ≤ 99) : ∀ s c, 0 ≤ c → c + 99 * (ws.length : Int) ≤ 1000000 → 0 ≤ (nowS k ws s c).2 := by
  induction ws with
  | nil => intro s c h0 _; exact h0
  | cons w ws ih =>
    intro s c h0 hc
    have hw := h w (by simp)
    have ih := ih fun x hx => h x (by simp [hx])
    simp only [List.length_cons] at hc
    unfold nowS
    by_cases hk : w.f1 = k
    · rw [if_pos hk]
      by_cases hm : w.f2 < 0
      · rw [if_pos hm]; exact ih true c h0 (by omega)
      · rw [if_neg hm, w_id (n := c + w.f2) (by omega) (by omega)]
        exact ih s (c + w.f2) (by omega) (by omega)
    · rw [if_neg hk]; exact ih s c h0 (by omega)
theorem nowL_mem (w : List S113) (l : List S41) : ∀ k y, y ∈ nowL w l k → ∃ x ∈ l, ∃ k', y ∈ nowA w k' x := by
  induction l with
  | nil => intro k y h; simp [nowL] at h
  | cons x xs ih =>
    intro k y h
    simp only [nowL, List.mem_append] at h
    rcases h with h | h
    · exact ⟨x, by simp, _, h⟩
    · obtain ⟨z, hz, k', hk⟩ := ih _ _ h
      exact ⟨z, by simp [hz], k', hk⟩
theorem Net1.now {n : Int} {l : List S41} {w : List S113} (hn : Net1 n l) (hw : w.length ≤ 6) (h : ∀ x ∈ w, x.f2 ≤ 99) : Net1 n (nowL w l 0) := by
  refine ⟨hn.lo, hn.hi, Nat.le_trans (nowL_length w l 0) hn.len, fun y hy => ?_⟩
  obtain ⟨x, hx, k, hk⟩ := nowL_mem w l 0 y hy
  obtain ⟨e1, e2, e3, e4, e5, e6, e7, e8⟩ := hn.ends x hx
  have hp := nowS_pos k w h false x.f2 e6 (by omega)
  unfold nowA at hk
  split at hk
  · simp at hk
  · rw [List.mem_singleton] at hk
    subst hk
    refine ⟨e1, e2, e3, e4, e5, ?_, ?_, e8⟩
    · simp only; split <;> omega
    · simp only; split <;> omega
theorem newsB_less {m : Int} {x : S113} (h : newsB m x = true) : x.f2 ≤ 99 := by
  unfold newsB inB at h
  simp only [Bool.and_eq_true, decide_eq_true_eq] at h
  exact h.2.2.2
theorem newsB_more {m : Int} {x : S113} (h : newsB m x = true) : -1 ≤ x.f2 := by
  unfold newsB inB at h
  simp only [Bool.and_eq_true, decide_eq_true_eq] at h
  exact h.2.2.1
theorem live_net1 {n : Int} {l : List S41} {w : List S113} (h : liveB n l w = true) : Net1 n (nowL w l 0) :=
  (net1_of (liveB_len h).1).now (liveB_len h).2 fun x hx => newsB_less (liveB_more h x hx)
/-- What LiveNow tells. -/
def liveNowV (n : Int) (l : List S41) (w : List S113) : Int × List S41 := if liveB n l w = true then (n, nowL w l 0) else (0, [])
theorem liveNowV_len (n : Int) (l : List S41) (w : List S113) : (liveNowV n l w).2.length ≤ 16 := by
  unfold liveNowV
  split
  · rename_i h
    exact Nat.le_trans (nowL_length w l 0) (netOk_len (liveB_len h).1)
  · simp
theorem implLiveNow_ev (n : Int) (l : List S41) (w : List S113) (hw : w.length ≤ 9223372036854775807) : Ev (fun k => impl_LiveNow.f k n l w) (liveNowV n l w) := by
  unfold impl_LiveNow.f liveNowV
  refine Ev.bind (implLiveOk_ev n l w hw) ?_
  cases h : liveB n l w with
  | false => exact ev_now fun k => by simp
  | true =>
    simp only [if_true]
    exact Ev.bind (now_ev n l w (by have := netOk_len (liveB_len h).1; omega) hw fun x hx => newsB_more (liveB_more h x hx)) (ev_now fun _ => rfl)
/-! ### the least costs from all nodes to one -/
theorem ev_ex {σ β : Type} (g : Nat → σ → Option β) (μ : σ → Nat) (Inv : σ → Prop) (P : β → Prop)
    (h : ∀ s, Inv s → (∀ s', Inv s' → μ s' < μ s → ∃ r, P r ∧ Ev (fun k => g k s') r) → ∃ r, P r ∧ Ev (fun k => g (k + 1) s) r) : ∀ s, Inv s → ∃ r, P r ∧ Ev (fun k => g k s) r := by
  have key : ∀ n s, μ s ≤ n → Inv s → ∃ r, P r ∧ Ev (fun k => g k s) r := by
    intro n
    induction n with
    | zero => intro s hs hi; obtain ⟨r, hp, he⟩ := h s hi (fun s' _ hlt => absurd hlt (by omega)); exact ⟨r, hp, ev_shift he⟩
    | succ n ih => intro s hs hi; obtain ⟨r, hp, he⟩ := h s hi (fun s' hi' hlt => ih s' (by omega) hi'); exact ⟨r, hp, ev_shift he⟩
  exact fun s hi => key _ s (Nat.le_refl _) hi
theorem rdi_set (D : List Int) (i j : Int) (v : Int) (hi : 0 ≤ i) (hl : i < (D.length : Int)) (hj : 0 ≤ j) : rd (D.set i.toNat v) j = if i = j then v else rd D j := by
  unfold rd
  rw [List.getD_eq_getElem?_getD, List.getD_eq_getElem?_getD, List.getElem?_set]
  by_cases h : i = j
  · subst h; rw [if_pos rfl, if_pos rfl, if_pos (by omega)]; rfl
  · rw [if_neg h, if_neg (by omega)]
theorem rdm_set (D : List S108) (i j : Int) (v : S108) (hi : 0 ≤ i) (hl : i < (D.length : Int)) (hj : 0 ≤ j) : rd_T108 (D.set i.toNat v) j = if i = j then v else rd_T108 D j := by
  unfold rd_T108
  rw [List.getD_eq_getElem?_getD, List.getD_eq_getElem?_getD, List.getElem?_set]
  by_cases h : i = j
  · subst h; rw [if_pos rfl, if_pos rfl, if_pos (by omega)]; rfl
  · rw [if_neg h, if_neg (by omega)]
def sumI : List Int → Int
  | [] => 0
  | x :: xs => x + sumI xs
theorem sumI_set (L : List Int) : ∀ (i : Nat) (v : Int), i < L.length → sumI (L.set i v) = sumI L - L.getD i 0 + v := by
  induction L with
  | nil => intro i v h; exact absurd h (by simp)
  | cons x xs ih =>
    intro i v h
    cases i with
    | zero => simp [sumI]; omega
    | succ i => simp only [List.set_cons_succ, sumI, ih i v (by simpa using h), List.getD_cons_succ]; omega
theorem sumI_nonneg (L : List Int) (h : ∀ x ∈ L, 0 ≤ x) : 0 ≤ sumI L := by
  induction L with
  | nil => simp [sumI]
  | cons x xs ih => have := h x (by simp); have := ih fun y hy => h y (by simp [hy]); simp only [sumI]; omega
theorem sumI_le8 (L : List Int) (b : Int) (hb : 0 ≤ b) (hl : L.length ≤ 8) (h : ∀ x ∈ L, x ≤ b) : sumI L ≤ 8 * b := by
  have key : ∀ L : List Int, (∀ x ∈ L, x ≤ b) → sumI L ≤ (L.length : Int) * b := by
    intro L
    induction L with
    | nil => intro _; simp [sumI]
    | cons x xs ih =>
      intro h
      have h1 := h x (by simp)
      have h2 := ih fun y hy => h y (by simp [hy])
      simp only [sumI, List.length_cons, Int.natCast_add, Int.add_mul]
      omega
  have h1 := key L h
  have h2 : (L.length : Int) * b ≤ 8 * b := Int.mul_le_mul_of_nonneg_right (by omega) hb
  omega
/-- A list that has all numbers below k has so many. -/
theorem levels_len (k : Nat) : ∀ L : List Int, (∀ j : Nat, j < k → (j : Int) ∈ L) → k ≤ L.length := by
  induction k with
  | zero => intro L _; omega
  | succ k ih =>
    intro L h
    have h1 := h k (by omega)
    have h2 := ih (L.erase (k : Int)) fun j hj => (List.mem_erase_of_ne (by omega)).2 (h j (by omega))
    rw [List.length_erase_of_mem h1] at h2
    have : 0 < L.length := List.length_pos_of_mem h1
    omega
/-- A walk to node t, from a node: what it costs, and how many arcs. -/
inductive Way (l : List S41) (t : Int) : Int → Int → Nat → Prop
  | nil : Way l t t 0 0
  | cons {x : S41} {c : Int} {m : Nat} : x ∈ l → Way l t x.f1 c m → Way l t x.f0 (x.f2 + c) (m + 1)
theorem Way.node {n : Int} {l : List S41} (hn : Net1 n l) {t : Int} (ht : 0 ≤ t ∧ t < n) {v c : Int} {m : Nat} (h : Way l t v c m) : 0 ≤ v ∧ v < n := by
  cases h with
  | nil => exact ht
  | cons hx _ => have := hn.ends _ hx; exact ⟨this.1, this.2.1⟩
def cM (M : List S108) (v : Int) : Int := (rd_T108 M v).f0
def aM (M : List S108) (v : Int) : Int := (rd_T108 M v).f1
def sumC (M : List S108) : Int := sumI (M.map fun m => m.f0)
def sumA (M : List S108) : Int := sumI (M.map fun m => m.f1)
theorem cM_set (M : List S108) (i j a b : Int) (hi : 0 ≤ i) (hl : i < (M.length : Int)) (hj : 0 ≤ j) : cM (M.set i.toNat ⟨a, b⟩) j = if i = j then a else cM M j := by
  unfold cM; rw [rdm_set M i j _ hi hl hj]; split <;> rfl
theorem aM_set (M : List S108) (i j a b : Int) (hi : 0 ≤ i) (hl : i < (M.length : Int)) (hj : 0 ≤ j) : aM (M.set i.toNat ⟨a, b⟩) j = if i = j then b else aM M j := by
  unfold aM; rw [rdm_set M i j _ hi hl hj]; split <;> rfl
theorem cM_get (M : List S108) (i : Nat) (h : i < M.length) : cM M (i : Int) = M[i].f0 := by simp [cM, rd_T108, h]
theorem aM_get (M : List S108) (i : Nat) (h : i < M.length) : aM M (i : Int) = M[i].f1 := by simp [aM, rd_T108, h]
theorem sumC_set (M : List S108) (i a b : Int) (hi : 0 ≤ i) (hl : i < (M.length : Int)) : sumC (M.set i.toNat ⟨a, b⟩) = sumC M - cM M i + a := by
  obtain ⟨j, rfl⟩ : ∃ j : Nat, i = (j : Int) := ⟨i.toNat, by omega⟩
  unfold sumC
  rw [List.map_set, Int.toNat_natCast, sumI_set _ j _ (by rw [List.length_map]; omega), cM_get M j (by omega)]
  rw [List.getD_eq_getElem?_getD, List.getElem?_map, List.getElem?_eq_getElem (show j < M.length by omega)]
  rfl
theorem sumA_set (M : List S108) (i a b : Int) (hi : 0 ≤ i) (hl : i < (M.length : Int)) : sumA (M.set i.toNat ⟨a, b⟩) = sumA M - aM M i + b := by
  obtain ⟨j, rfl⟩ : ∃ j : Nat, i = (j : Int) := ⟨i.toNat, by omega⟩
  unfold sumA
  rw [List.map_set, Int.toNat_natCast, sumI_set _ j _ (by rw [List.length_map]; omega), aM_get M j (by omega)]
  rw [List.getD_eq_getElem?_getD, List.getElem?_map, List.getElem?_eq_getElem (show j < M.length by omega)]
  rfl
/-- What holds of the measures while they are made. -/
structure MInv (n : Int) (l : List S41) (t : Int) (M : List S108) : Prop where
  len : (M.length : Int) = n
  rng : ∀ v, 0 ≤ v → v < n → 0 ≤ cM M v ∧ cM M v ≤ 99999 ∧ 0 ≤ aM M v ∧ (cM M v = 99999 → aM M v = 0)
  tz : cM M t = 0 ∧ aM M t = 0
  way : ∀ v, 0 ≤ v → v < n → cM M v ≠ 99999 → Way l t v (cM M v) (aM M v).toNat
  par : ∀ v, 0 ≤ v → v < n → v ≠ t → cM M v ≠ 99999 → ∃ x ∈ l, x.f0 = v ∧ cM M x.f1 ≠ 99999 ∧ (cM M x.f1 + x.f2 < cM M v ∨ cM M x.f1 + x.f2 = cM M v ∧ aM M x.f1 + 1 ≤ aM M v)
  bnd : ∀ v, 0 ≤ v → v < n → aM M v + sumC M ≤ 799992
def pot (M : List S108) : Nat := (sumC M * 6399937 + sumA M).toNat
/-- An arc says that it can be nearer. -/
def Less (M : List S108) (x : S41) : Prop := cM M x.f1 + x.f2 < cM M x.f0 ∨ cM M x.f1 + x.f2 = cM M x.f0 ∧ aM M x.f1 + 1 < aM M x.f0
def Closed (l : List S41) (M : List S108) : Prop := ∀ x ∈ l, cM M x.f1 ≠ 99999 → ¬ Less M x
theorem MInv.sums {n : Int} {l : List S41} {t : Int} {M : List S108} (hn : Net1 n l) (h : MInv n l t M) : 0 ≤ sumC M ∧ 0 ≤ sumA M ∧ sumA M ≤ 6399936 := by
  have hl := h.len
  have hi := hn.hi
  have hc : ∀ x ∈ (M.map fun m => m.f0), 0 ≤ x := by
    intro x hx
    obtain ⟨m, hm, rfl⟩ := List.mem_map.1 hx
    obtain ⟨i, hi, rfl⟩ := List.getElem_of_mem hm
    have := h.rng i (by omega) (by omega)
    rw [cM_get M i hi] at this
    exact this.1
  have hC := sumI_nonneg _ hc
  have ha : ∀ x ∈ (M.map fun m => m.f1), 0 ≤ x ∧ x ≤ 799992 := by
    intro x hx
    obtain ⟨m, hm, rfl⟩ := List.mem_map.1 hx
    obtain ⟨i, hi, rfl⟩ := List.getElem_of_mem hm
    have h1 := h.rng i (by omega) (by omega)
    have h2 := h.bnd i (by omega) (by omega)
    rw [aM_get M i hi] at h1 h2
    unfold sumC at h2
    omega
  have h1 := sumI_nonneg _ fun x hx => (ha x hx).1
  have h2 := sumI_le8 _ 799992 (by omega) (by rw [List.length_map]; omega) fun x hx => (ha x hx).2
  exact ⟨hC, h1, by unfold sumA; omega⟩
set_option maxHeartbeats 4000000 in
theorem MInv.step {n : Int} {l : List S41} {t : Int} {M : List S108} (hn : Net1 n l) (h : MInv n l t M) {x : S41} (hx : x ∈ l) (hw : cM M x.f1 ≠ 99999) (hL : Less M x) :
    MInv n l t (M.set x.f0.toNat ⟨cM M x.f1 + x.f2, aM M x.f1 + 1⟩) ∧ pot (M.set x.f0.toNat ⟨cM M x.f1 + x.f2, aM M x.f1 + 1⟩) < pot M := by
  obtain ⟨e1, e2, e3, e4, e5, e6, e7, _⟩ := hn.ends x hx
  have hlen := h.len
  have hlt : x.f0 < (M.length : Int) := by omega
  have r0 := h.rng x.f0 e1 e2
  have r1 := h.rng x.f1 e3 e4
  have b0 := h.bnd x.f0 e1 e2
  have b1 := h.bnd x.f1 e3 e4
  have hc : ∀ j, 0 ≤ j → cM (M.set x.f0.toNat ⟨cM M x.f1 + x.f2, aM M x.f1 + 1⟩) j = if x.f0 = j then cM M x.f1 + x.f2 else cM M j := fun j hj => cM_set M x.f0 j _ _ e1 hlt hj
  have ha : ∀ j, 0 ≤ j → aM (M.set x.f0.toNat ⟨cM M x.f1 + x.f2, aM M x.f1 + 1⟩) j = if x.f0 = j then aM M x.f1 + 1 else aM M j := fun j hj => aM_set M x.f0 j _ _ e1 hlt hj
  have sC := sumC_set M x.f0 (cM M x.f1 + x.f2) (aM M x.f1 + 1) e1 hlt
  have sA := sumA_set M x.f0 (cM M x.f1 + x.f2) (aM M x.f1 + 1) e1 hlt
  obtain ⟨s1, s2, s3⟩ := h.sums hn
  unfold Less at hL
  have hz := h.tz
  have hut : x.f0 ≠ t := by
    intro e
    rw [e] at hL
    omega
  have hinv : MInv n l t (M.set x.f0.toNat ⟨cM M x.f1 + x.f2, aM M x.f1 + 1⟩) := by
    refine ⟨by rw [List.length_set]; exact hlen, ?_, ?_, ?_, ?_, ?_⟩
    · intro v v0 v1
      rw [hc v v0, ha v v0]
      have := h.rng v v0 v1
      split
      · omega
      · exact this
    · by_cases ht : 0 ≤ t
      · rw [hc t ht, ha t ht, if_neg hut, if_neg hut]; exact hz
      · have h1 : ∀ L : List S108, cM L t = cM L 0 ∧ aM L t = aM L 0 := by
          intro L
          have : t.toNat = (0 : Int).toNat := by omega
          unfold cM aM rd_T108
          rw [this]
          exact ⟨rfl, rfl⟩
        rw [(h1 _).1, (h1 _).2] at hz ⊢
        rw [hc 0 (by omega), ha 0 (by omega)]
        by_cases h2 : x.f0 = 0
        · rw [h2] at hL; omega
        · rw [if_neg h2, if_neg h2]; exact hz
    · intro v v0 v1
      rw [hc v v0, ha v v0]
      by_cases e : x.f0 = v
      · subst e
        rw [if_pos rfl, if_pos rfl]
        intro _
        have hw' := h.way x.f1 e3 e4 hw
        have hm : (aM M x.f1 + 1).toNat = (aM M x.f1).toNat + 1 := by omega
        rw [hm, Int.add_comm]
        exact Way.cons hx hw'
      · rw [if_neg e, if_neg e]; exact h.way v v0 v1
    · intro v v0 v1 vt
      rw [hc v v0, ha v v0]
      by_cases e : x.f0 = v
      · subst e
        rw [if_pos rfl, if_pos rfl]
        intro _
        refine ⟨x, hx, rfl, ?_, ?_⟩
        · rw [hc x.f1 e3, if_neg e5]; exact hw
        · rw [hc x.f1 e3, ha x.f1 e3, if_neg e5, if_neg e5]; omega
      · rw [if_neg e, if_neg e]
        intro hv
        obtain ⟨y, hy, y0, y1, y2⟩ := h.par v v0 v1 vt hv
        have ey := hn.ends y hy
        refine ⟨y, hy, y0, ?_, ?_⟩
        · rw [hc y.f1 ey.2.2.1]
          split
          · omega
          · exact y1
        · rw [hc y.f1 ey.2.2.1, ha y.f1 ey.2.2.1]
          by_cases e2 : x.f0 = y.f1
          · rw [if_pos e2, if_pos e2]; rw [← e2] at y2; omega
          · rw [if_neg e2, if_neg e2]; exact y2
    · intro v v0 v1
      rw [ha v v0, sC]
      have := h.bnd v v0 v1
      split <;> omega
  refine ⟨hinv, ?_⟩
  obtain ⟨t1, t2, t3⟩ := hinv.sums hn
  unfold pot
  rw [sC] at t1 ⊢
  rw [sA] at t2 t3 ⊢
  omega
/-- What the program's measures are at the end. -/
def Fin1 (n : Int) (l : List S41) (t : Int) (M : List S108) : Prop := MInv n l t M ∧ Closed l M
theorem less_eq (a b c d : Int) : impl_measure_less.f a b c d = some (decide (a < c ∨ a = c ∧ b < d)) := by
  unfold impl_measure_less.f
  by_cases h : a < c
  · rw [if_pos h]; simp [h]
  · by_cases h2 : a = c
    · subst h2; simp
    · rw [if_neg h, if_neg h2]; simp [h, h2]
set_option maxHeartbeats 4000000 in
theorem toward_loop {n : Int} {l : List S41} (hn : Net1 n l) {t : Int} : ∀ s : List S108 × Bool, (MInv n l t s.1 ∧ (s.2 = false → Closed l s.1)) → ∃ R, Fin1 n l t R ∧ Ev (fun k => impl_Net_toward.l0 k s.1 s.2 n l) R := by
  refine ev_ex (fun k (s : List S108 × Bool) => impl_Net_toward.l0 k s.1 s.2 n l) (fun s => pot s.1 * 2 + (if s.2 = true then 1 else 0)) (fun s => MInv n l t s.1 ∧ (s.2 = false → Closed l s.1)) (Fin1 n l t) ?_
  rintro ⟨M, b⟩ ⟨hM, hC⟩ ih
  simp only at hM hC ih ⊢
  have hll := hn.len
  cases b with
  | false => exact ⟨M, ⟨hM, hC rfl⟩, ev_now fun k => by simp [impl_Net_toward.l0]⟩
  | true =>
    simp only [impl_Net_toward.l0, if_true]
    have inner := ev_ex (fun k (s : Nat × List S108 × Bool) => impl_Net_toward.l1 k s.2.1 s.2.2 l (l.length : Int) (s.1 : Int) n l) (fun s => l.length - s.1)
      (fun s => s.1 ≤ l.length ∧ MInv n l t s.2.1 ∧ ((s.2.2 = false ∧ s.2.1 = M ∧ ∀ j, j < s.1 → ∀ hj : j < l.length, cM M l[j].f1 ≠ 99999 → ¬ Less M l[j]) ∨ (s.2.2 = true ∧ pot s.2.1 < pot M))) (Fin1 n l t) ?_ (0, M, false) ⟨Nat.zero_le _, hM, .inl ⟨rfl, rfl, fun j hj => absurd hj (Nat.not_lt_zero _)⟩⟩
    · exact inner
    rintro ⟨i, M1, b1⟩ ⟨hi, hM1, hb⟩ ih2
    simp only at hi hM1 hb ih2 ⊢
    by_cases h : i < l.length
    · have hlt : (i : Int) < (l.length : Int) := by omega
      have h0 : (0 : Int) ≤ (i : Int) := by omega
      have hxl : l[i] ∈ l := List.getElem_mem h
      obtain ⟨e1, e2, e3, e4, e5, e6, e7, _⟩ := hn.ends l[i] hxl
      have hlen := hM1.len
      have g1 : l[i].f1 < (M1.length : Int) := by omega
      have g0 : l[i].f0 < (M1.length : Int) := by omega
      simp only [impl_Net_toward.l1, hlt, h0, if_true, arc_at l i h, e1, e3, g0, g1, wsucc h (show l.length ≤ 9223372036854775807 by omega), less_eq, Option.bind_some]
      have r1 := hM1.rng l[i].f1 e3 e4
      have b1' := hM1.bnd l[i].f1 e3 e4
      have hs := hM1.sums hn
      by_cases hf : cM M1 l[i].f1 = 99999
      · have hf' : (rd_T108 M1 l[i].f1).f0 = 99999 := hf
        simp only [hf', if_true]
        refine ih2 (i + 1, M1, b1) ⟨by simp; omega, hM1, ?_⟩ (by simp; omega)
        rcases hb with ⟨q1, q2, q3⟩ | q
        · refine .inl ⟨q1, q2, fun j hj hjl hc => ?_⟩
          by_cases hji : j = i
          · subst hji; rw [← q2] at hc; exact absurd hf hc
          · exact q3 j (by simp at hj; omega) hjl hc
        · exact .inr q
      · have hf' : ¬ (rd_T108 M1 l[i].f1).f0 = 99999 := hf
        have w1 : wrap64 ((rd_T108 M1 l[i].f1).f0 + l[i].f2) = cM M1 l[i].f1 + l[i].f2 := by unfold cM at *; exact w_id (by omega) (by omega)
        have w2 : wrap64 ((rd_T108 M1 l[i].f1).f1 + 1) = aM M1 l[i].f1 + 1 := by unfold aM at *; exact w_id (by omega) (by omega)
        simp only [hf', if_false, w1, w2]
        by_cases hL : Less M1 l[i]
        · have hL' : (cM M1 l[i].f1 + l[i].f2 < (rd_T108 M1 l[i].f0).f0 ∨ cM M1 l[i].f1 + l[i].f2 = (rd_T108 M1 l[i].f0).f0 ∧ aM M1 l[i].f1 + 1 < (rd_T108 M1 l[i].f0).f1) := hL
          simp only [hL', decide_true, if_true]
          obtain ⟨hs1, hs2⟩ := hM1.step hn hxl hf hL
          refine ih2 (i + 1, _, true) ⟨by simp; omega, hs1, .inr ⟨rfl, ?_⟩⟩ (by simp; omega)
          rcases hb with ⟨_, q2, _⟩ | ⟨_, q⟩
          · rw [← q2]; exact hs2
          · exact Nat.lt_trans hs2 q
        · have hL' : ¬ (cM M1 l[i].f1 + l[i].f2 < (rd_T108 M1 l[i].f0).f0 ∨ cM M1 l[i].f1 + l[i].f2 = (rd_T108 M1 l[i].f0).f0 ∧ aM M1 l[i].f1 + 1 < (rd_T108 M1 l[i].f0).f1) := hL
          simp only [hL', decide_false, Bool.false_eq_true, if_false]
          refine ih2 (i + 1, M1, b1) ⟨by simp; omega, hM1, ?_⟩ (by simp; omega)
          rcases hb with ⟨q1, q2, q3⟩ | q
          · refine .inl ⟨q1, q2, fun j hj hjl hc => ?_⟩
            by_cases hji : j = i
            · subst hji; rw [← q2]; exact hL
            · exact q3 j (by simp at hj; omega) hjl hc
          · exact .inr q
    · have hlt : ¬ (i : Int) < (l.length : Int) := by omega
      simp only [impl_Net_toward.l1, hlt, if_false]
      rcases hb with ⟨q1, q2, q3⟩ | ⟨q1, q2⟩
      · subst q1
        refine ih (M1, false) ⟨hM1, fun _ x hx hc => ?_⟩ (by rw [q2]; simp)
        obtain ⟨j, hj, rfl⟩ := List.getElem_of_mem hx
        rw [q2] at hc ⊢
        exact q3 j (by omega) hj hc
      · subst q1
        exact ih (M1, true) ⟨hM1, fun h => by cases h⟩ (by simp; omega)
theorem minv_start {n : Int} {l : List S41} (hn : Net1 n l) {t : Int} (h0 : 0 ≤ t) (h1 : t < n) : MInv n l t ((List.replicate n.toNat (⟨99999, 0⟩ : S108)).set t.toNat ⟨0, 0⟩) := by
  have hlo := hn.lo
  have hhi := hn.hi
  have hll : ((List.replicate n.toNat (⟨99999, 0⟩ : S108)).length : Int) = n := by rw [List.length_replicate]; omega
  have hc : ∀ v, 0 ≤ v → v < n → cM ((List.replicate n.toNat (⟨99999, 0⟩ : S108)).set t.toNat ⟨0, 0⟩) v = if t = v then 0 else 99999 := by
    intro v v0 v1
    rw [cM_set _ t v _ _ h0 (by omega) v0]
    split
    · rfl
    · obtain ⟨j, rfl⟩ : ∃ j : Nat, v = (j : Int) := ⟨v.toNat, by omega⟩
      rw [cM_get _ j (by rw [List.length_replicate]; omega), List.getElem_replicate]
  have ha : ∀ v, 0 ≤ v → v < n → aM ((List.replicate n.toNat (⟨99999, 0⟩ : S108)).set t.toNat ⟨0, 0⟩) v = 0 := by
    intro v v0 v1
    rw [aM_set _ t v _ _ h0 (by omega) v0]
    split
    · rfl
    · obtain ⟨j, rfl⟩ : ∃ j : Nat, v = (j : Int) := ⟨v.toNat, by omega⟩
      rw [aM_get _ j (by rw [List.length_replicate]; omega), List.getElem_replicate]
  refine ⟨by rw [List.length_set]; exact hll, ?_, ?_, ?_, ?_, ?_⟩
  · intro v v0 v1
    rw [hc v v0 v1, ha v v0 v1]
    split <;> omega
  · rw [hc t h0 h1, ha t h0 h1, if_pos rfl]; exact ⟨rfl, rfl⟩
  · intro v v0 v1
    rw [hc v v0 v1, ha v v0 v1]
    split
    · rename_i e; subst e; intro _; exact Way.nil
    · intro h; exact absurd rfl h
  · intro v v0 v1 vt
    rw [hc v v0 v1, if_neg (Ne.symm vt)]
    intro h; exact absurd rfl h
  · intro v v0 v1
    rw [ha v v0 v1]
    have := sumI_le8 (((List.replicate n.toNat (⟨99999, 0⟩ : S108)).set t.toNat ⟨0, 0⟩).map fun m => m.f0) 99999 (by omega) (by rw [List.length_map, List.length_set, List.length_replicate]; omega) (by
      intro x hx
      obtain ⟨m, hm, rfl⟩ := List.mem_map.1 hx
      rcases List.mem_or_eq_of_mem_set hm with h | h
      · rw [List.eq_of_mem_replicate h]; exact Int.le_refl _
      · rw [h]; simp)
    unfold sumC
    omega
/-- No walk is nearer than the measures say. -/
theorem Fin1.low {n : Int} {l : List S41} (hn : Net1 n l) {t : Int} {M : List S108} (hM : Fin1 n l t M) {v c : Int} {m : Nat} (h : Way l t v c m) : cM M v < c ∨ (cM M v = c ∧ aM M v ≤ m) ∨ 99999 ≤ c := by
  induction h with
  | nil => rw [hM.1.tz.1, hM.1.tz.2]; exact .inr (.inl ⟨rfl, by omega⟩)
  | @cons x c m hx h ih =>
    obtain ⟨e1, e2, e3, e4, e5, e6, e7, _⟩ := hn.ends x hx
    have r0 := hM.1.rng x.f0 e1 e2
    by_cases hf : cM M x.f1 = 99999
    · rcases ih with ih | ih | ih <;> omega
    · have := hM.2 x hx hf
      unfold Less at this
      rcases ih with ih | ih | ih <;> omega
theorem Fin1.levels {n : Int} {l : List S41} (hn : Net1 n l) {t : Int} {M : List S108} (hM : Fin1 n l t M) (m : Nat) : ∀ v, 0 ≤ v → v < n → cM M v ≠ 99999 → aM M v = (m : Int) → ∀ j : Nat, j ≤ m → ∃ u, 0 ≤ u ∧ u < n ∧ aM M u = (j : Int) := by
  induction m with
  | zero => intro v v0 v1 _ hm j hj; exact ⟨v, v0, v1, by rw [hm]; omega⟩
  | succ m ih =>
    intro v v0 v1 hc hm j hj
    by_cases hj2 : j = m + 1
    · exact ⟨v, v0, v1, by rw [hm, hj2]⟩
    · have hvt : v ≠ t := by intro e; rw [e, hM.1.tz.2] at hm; omega
      obtain ⟨x, hx, x0, x1, x2⟩ := hM.1.par v v0 v1 hvt hc
      obtain ⟨e1, e2, e3, e4, e5, e6, e7, _⟩ := hn.ends x hx
      have := hM.2 x hx x1
      unfold Less at this
      rw [x0] at this
      exact ih x.f1 e3 e4 x1 (by omega) j (by omega)
theorem Fin1.few {n : Int} {l : List S41} (hn : Net1 n l) {t : Int} {M : List S108} (hM : Fin1 n l t M) {v : Int} (v0 : 0 ≤ v) (v1 : v < n) (hc : cM M v ≠ 99999) : aM M v + 1 ≤ n := by
  have hlen := hM.1.len
  have r := hM.1.rng v v0 v1
  have := levels_len ((aM M v).toNat + 1) (M.map fun m => m.f1) (by
    intro j hj
    obtain ⟨u, u0, u1, hu⟩ := hM.levels hn (aM M v).toNat v v0 v1 hc (by omega) j (by omega)
    obtain ⟨i, rfl⟩ : ∃ i : Nat, u = (i : Int) := ⟨u.toNat, by omega⟩
    rw [aM_get M i (by omega)] at hu
    rw [← hu]
    exact List.mem_map.2 ⟨M[i], List.getElem_mem _, rfl⟩)
  rw [List.length_map] at this
  omega
/-! ### the reference's least costs, and that both are the same -/
def revA (x : S41) : S41 := ⟨x.f1, x.f0, x.f2, x.f3, x.f4⟩
def backL (l : List S41) : List S41 := l.map revA
theorem backL_backL (l : List S41) : backL (backL l) = l := by
  unfold backL
  rw [List.map_map]
  have : revA ∘ revA = id := by funext x; rfl
  rw [this, List.map_id]
theorem backL_length (l : List S41) : (backL l).length = l.length := by unfold backL; rw [List.length_map]
theorem Net1.back {n : Int} {l : List S41} (hn : Net1 n l) : Net1 n (backL l) := by
  refine ⟨hn.lo, hn.hi, by rw [backL_length]; exact hn.len, fun x hx => ?_⟩
  obtain ⟨y, hy, rfl⟩ := List.mem_map.1 hx
  obtain ⟨a, b, c, d, e, f⟩ := hn.ends y hy
  exact ⟨c, d, a, b, fun z => e z.symm, f⟩
/-- What holds of the reference's costs while they are made. -/
structure SInv (n : Int) (l : List S41) (s : Int) (D : List Int) : Prop where
  len : (D.length : Int) = n
  rng : ∀ v, 0 ≤ v → v < n → 0 ≤ rd D v ∧ rd D v ≤ 99999
  sz : rd D s = 0
  way : ∀ v, 0 ≤ v → v < n → rd D v < 99999 → ∃ m, Way (backL l) s v (rd D v) m
def RInv (l : List S41) (s : Int) (D : List Int) (r : Nat) : Prop := ∀ v c m, Way (backL l) s v c m → m ≤ r → rd D v ≤ c
theorem SInv.step {n : Int} {l : List S41} {s : Int} {D : List Int} (hn : Net1 n l) (hs : 0 ≤ s ∧ s < n) (h : SInv n l s D) {y : S41} (hy : y ∈ l) (hf : rd D y.f0 < 99999) (hL : rd D y.f0 + y.f2 < rd D y.f1) :
    SInv n l s (D.set y.f1.toNat (rd D y.f0 + y.f2)) ∧ ∀ v, 0 ≤ v → v < n → rd (D.set y.f1.toNat (rd D y.f0 + y.f2)) v ≤ rd D v := by
  obtain ⟨e1, e2, e3, e4, e5, e6, e7, _⟩ := hn.ends y hy
  have hlen := h.len
  have hlt : y.f1 < (D.length : Int) := by omega
  have hc : ∀ j, 0 ≤ j → rd (D.set y.f1.toNat (rd D y.f0 + y.f2)) j = if y.f1 = j then rd D y.f0 + y.f2 else rd D j := fun j hj => rdi_set D y.f1 j _ e3 hlt hj
  have r0 := h.rng y.f0 e1 e2
  have r1 := h.rng y.f1 e3 e4
  have hys : y.f1 ≠ s := by intro e; rw [e, h.sz] at hL; omega
  refine ⟨⟨by rw [List.length_set]; exact hlen, ?_, ?_, ?_⟩, ?_⟩
  · intro v v0 v1
    rw [hc v v0]
    have := h.rng v v0 v1
    split <;> omega
  · rw [hc s hs.1, if_neg hys]; exact h.sz
  · intro v v0 v1
    rw [hc v v0]
    by_cases e : y.f1 = v
    · rw [if_pos e]
      intro _
      obtain ⟨m, hm⟩ := h.way y.f0 e1 e2 hf
      refine ⟨m + 1, ?_⟩
      have hx : revA y ∈ backL l := List.mem_map.2 ⟨y, hy, rfl⟩
      have := Way.cons (t := s) hx (show Way (backL l) s (revA y).f1 (rd D y.f0) m from hm)
      rw [Int.add_comm, ← e]
      exact this
    · rw [if_neg e]; exact h.way v v0 v1
  · intro v v0 v1
    rw [hc v v0]
    split
    · rename_i e; rw [← e]; omega
    · exact Int.le_refl _
theorem l3All_round {n : Int} {l : List S41} (hn : Net1 n l) {s : Int} (hs : 0 ≤ s ∧ s < n) (r : Nat) (D0 : List Int) (h0 : SInv n l s D0) (hR : RInv l s D0 r) (q : Int) (P : List Int → Prop)
    (next : ∀ D, SInv n l s D → RInv l s D (r + 1) → ∃ R, P R ∧ Ev (fun k => spec_l3All.l1 k D (wrap64 (q + 1)) n l) R) :
    ∃ R, P R ∧ Ev (fun k => spec_l3All.l2 k D0 q 0 n l) R := by
  have hll := hn.len
  refine ev_ex (fun k (x : Nat × List Int) => spec_l3All.l2 k x.2 q (x.1 : Int) n l) (fun x => l.length - x.1) (fun x => x.1 ≤ l.length ∧ SInv n l s x.2 ∧ (∀ v, 0 ≤ v → v < n → rd x.2 v ≤ rd D0 v) ∧ ∀ j, j < x.1 → ∀ hj : j < l.length, rd x.2 l[j].f1 ≤ rd D0 l[j].f0 + l[j].f2 ∨ 99999 ≤ rd D0 l[j].f0) P ?_ (0, D0) ⟨Nat.zero_le _, h0, fun _ _ _ => Int.le_refl _, fun j hj => absurd hj (Nat.not_lt_zero _)⟩
  rintro ⟨i, D⟩ ⟨hi, hD, hle, hj⟩ ih
  simp only at hi hD hle hj ih ⊢
  by_cases h : i < l.length
  · have hlt : (i : Int) < (l.length : Int) := by omega
    have h0' : (0 : Int) ≤ (i : Int) := by omega
    have hxl : l[i] ∈ l := List.getElem_mem h
    obtain ⟨e1, e2, e3, e4, e5, e6, e7, _⟩ := hn.ends l[i] hxl
    have hlen := hD.len
    have g0 : l[i].f0 < (D.length : Int) := by omega
    have g1 : l[i].f1 < (D.length : Int) := by omega
    have r0 := hD.rng l[i].f0 e1 e2
    have r1 := hD.rng l[i].f1 e3 e4
    have l0 := hle l[i].f0 e1 e2
    have l1 := hle l[i].f1 e3 e4
    have w1 : wrap64 (rd D l[i].f0 + l[i].f2) = rd D l[i].f0 + l[i].f2 := w_id (by omega) (by omega)
    simp only [spec_l3All.l2, hlt, h0', if_true, arc_at l i h, e1, e3, g0, g1, wsucc h (show l.length ≤ 9223372036854775807 by omega), w1]
    by_cases hf : rd D l[i].f0 < 99999
    · by_cases hL : rd D l[i].f0 + l[i].f2 < rd D l[i].f1
      · simp only [hf, hL, if_true]
        obtain ⟨s1, s2⟩ := hD.step hn hs hxl hf hL
        refine ih (i + 1, D.set l[i].f1.toNat (rd D l[i].f0 + l[i].f2)) ⟨by simp; omega, s1, fun v v0 v1 => Int.le_trans (s2 v v0 v1) (hle v v0 v1), ?_⟩ (by simp; omega)
        intro j hji hjl
        simp only at hji ⊢
        obtain ⟨_, _, j3, j4, _⟩ := hn.ends l[j] (List.getElem_mem hjl)
        by_cases hjj : j = i
        · subst hjj
          left
          rw [rdi_set D _ _ _ e3 g1 e3, if_pos rfl]
          omega
        · rcases hj j (by omega) hjl with z | z
          · exact .inl (Int.le_trans (s2 _ j3 j4) z)
          · exact .inr z
      · simp only [hf, hL, if_true, if_false]
        refine ih (i + 1, D) ⟨by simp; omega, hD, hle, ?_⟩ (by simp; omega)
        intro j hji hjl
        simp only at hji ⊢
        by_cases hjj : j = i
        · subst hjj; omega
        · exact hj j (by omega) hjl
    · simp only [hf, if_false]
      refine ih (i + 1, D) ⟨by simp; omega, hD, hle, ?_⟩ (by simp; omega)
      intro j hji hjl
      simp only at hji ⊢
      by_cases hjj : j = i
      · subst hjj; right; omega
      · exact hj j (by omega) hjl
  · have hlt : ¬ (i : Int) < (l.length : Int) := by omega
    simp only [spec_l3All.l2, hlt, if_false]
    refine next D hD ?_
    intro v c m hw hm
    cases hw with
    | nil => rw [hD.sz]; exact Int.le_refl _
    | @cons x c m hx hw =>
      obtain ⟨y, hy, rfl⟩ := List.mem_map.1 hx
      obtain ⟨j, hjl, rfl⟩ := List.getElem_of_mem hy
      have h1 := hR _ _ _ hw (by omega)
      obtain ⟨j1, j2, j3, j4, j5, j6, j7, _⟩ := hn.ends l[j] hy
      have r1 := hD.rng l[j].f1 j3 j4
      have h2 := hj j (by omega) hjl
      simp only [revA] at h1 ⊢
      omega
theorem l3All_fill {n : Int} {l : List S41} (hn : Net1 n l) {s : Int} (hs : 0 ≤ s ∧ s < n) (P : List Int → Prop)
    (next : ∀ D, SInv n l s D → RInv l s D 0 → ∃ R, P R ∧ Ev (fun k => spec_l3All.l1 k D 0 n l) R) : ∃ R, P R ∧ Ev (fun k => spec_l3All.f k n l s) R := by
  have hlo := hn.lo
  have hhi := hn.hi
  unfold spec_l3All.f
  have b1 : (0 : Int) ≤ n := by omega
  have b2 : n.toNat ≤ 35184372088832 := by omega
  simp only [b1, b2, if_true]
  refine ev_ex (fun k (x : Nat × List Int) => spec_l3All.l0 k s x.2 (x.1 : Int) n l) (fun x => n.toNat - x.1) (fun x => x.1 ≤ n.toNat ∧ (x.2.length : Int) = n ∧ ∀ j : Nat, j < x.1 → rd x.2 (j : Int) = 99999) P ?_ (0, List.replicate n.toNat 0) ⟨Nat.zero_le _, by rw [List.length_replicate]; omega, fun j hj => absurd hj (Nat.not_lt_zero _)⟩
  rintro ⟨i, D⟩ ⟨hi, hlen, hj⟩ ih
  simp only at hi hlen hj ih ⊢
  by_cases h : i < n.toNat
  · have hlt : (i : Int) < n := by omega
    have h0 : (0 : Int) ≤ (i : Int) := by omega
    have g : (i : Int) < (D.length : Int) := by omega
    simp only [spec_l3All.l0, hlt, h0, g, if_true, wsucc h (show n.toNat ≤ 9223372036854775807 by omega)]
    refine ih (i + 1, D.set (i : Int).toNat 99999) ⟨by simp; omega, by rw [List.length_set]; exact hlen, ?_⟩ (by simp; omega)
    intro j hji
    simp only at hji ⊢
    rw [rdi_set D _ _ _ h0 g (by omega)]
    by_cases e : (i : Int) = (j : Int)
    · rw [if_pos e]
    · rw [if_neg e]; exact hj j (by omega)
  · have hlt : ¬ (i : Int) < n := by omega
    have g : s < (D.length : Int) := by omega
    simp only [spec_l3All.l0, hlt, hs.1, g, if_false, if_true]
    have hc : ∀ j, 0 ≤ j → j < n → rd (D.set s.toNat 0) j = if s = j then 0 else 99999 := by
      intro j j0 j1
      rw [rdi_set D _ _ _ hs.1 g j0]
      split
      · rfl
      · obtain ⟨k, rfl⟩ : ∃ k : Nat, j = (k : Int) := ⟨j.toNat, by omega⟩
        exact hj k (by omega)
    refine next _ ⟨by rw [List.length_set]; exact hlen, ?_, ?_, ?_⟩ ?_
    · intro v v0 v1
      rw [hc v v0 v1]
      split <;> omega
    · rw [hc s hs.1 hs.2, if_pos rfl]
    · intro v v0 v1
      rw [hc v v0 v1]
      split
      · rename_i e; subst e; intro _; exact ⟨0, Way.nil⟩
      · intro h; omega
    · intro v c m hw hm
      cases hw with
      | nil => rw [hc s hs.1 hs.2, if_pos rfl]; exact Int.le_refl _
      | cons _ _ => omega
theorem l3All_ex {n : Int} {l : List S41} (hn : Net1 n l) {s : Int} (hs : 0 ≤ s ∧ s < n) : ∃ D, (SInv n l s D ∧ RInv l s D n.toNat) ∧ Ev (fun k => spec_l3All.f k n l s) D := by
  have hlo := hn.lo
  have hhi := hn.hi
  refine l3All_fill hn hs _ fun D hD hR => ?_
  refine ev_ex (fun k (x : Nat × List Int) => spec_l3All.l1 k x.2 (x.1 : Int) n l) (fun x => n.toNat - x.1) (fun x => x.1 ≤ n.toNat ∧ SInv n l s x.2 ∧ RInv l s x.2 x.1) _ ?_ (0, D) ⟨Nat.zero_le _, hD, hR⟩
  rintro ⟨r, D⟩ ⟨hr, hD, hR⟩ ih
  simp only at hr hD hR ih ⊢
  by_cases h : r < n.toNat
  · have hlt : (r : Int) < n := by omega
    simp only [spec_l3All.l1, hlt, if_true]
    refine l3All_round hn hs r D hD hR r _ fun D1 h1 h2 => ?_
    rw [wsucc h (show n.toNat ≤ 9223372036854775807 by omega)]
    exact ih (r + 1, D1) ⟨by simp; omega, h1, h2⟩ (by simp; omega)
  · have hlt : ¬ (r : Int) < n := by omega
    simp only [spec_l3All.l1, hlt, if_false]
    have : r = n.toNat := by omega
    rw [this] at hR
    exact ⟨D, ⟨hD, hR⟩, ev_now fun _ => rfl⟩
theorem costs_ev (M : List S108) (h : M.length ≤ 1000) : Ev (fun k => impl_costs.f k M) (M.map fun m => m.f0) := by
  unfold impl_costs.f
  have h1 : ((M.length : Int) : Int).toNat ≤ 35184372088832 := by omega
  simp only [h1, if_true]
  have := ev_ind (fun k (s : Nat × List Int) => impl_costs.l0 k s.2 M (M.length : Int) (s.1 : Int)) (fun s => M.length - s.1) (fun s => s.1 ≤ M.length ∧ s.2.length ≤ s.1) (fun s => s.2 ++ (M.drop s.1).map fun m => m.f0) ?_ (0, []) ⟨Nat.zero_le _, by simp⟩
  · simpa using this
  rintro ⟨i, x⟩ ⟨hi, hx⟩ ih
  simp only at hi hx ih ⊢
  by_cases h : i < M.length
  · have hlt : (i : Int) < (M.length : Int) := by omega
    have h0 : (0 : Int) ≤ (i : Int) := by omega
    have b1 : x.length < 17592186044416 := by omega
    simp only [impl_costs.l0, hlt, h0, b1, if_true, wsucc h (show M.length ≤ 9223372036854775807 by omega)]
    refine ev_at (ih (i + 1, x ++ [(rd_T108 M (i : Int)).f0]) ⟨by simp; omega, by simp; omega⟩ (by simp; omega)) ?_
    rw [List.drop_eq_getElem_cons h, List.map_cons, List.append_assoc]
    simp [rd_T108, h]
  · have hlt : ¬ (i : Int) < (M.length : Int) := by omega
    simp only [impl_costs.l0, hlt, if_false]
    refine ev_now fun k => ?_
    rw [List.drop_of_length_le (by omega)]
    simp
theorem back_ev (n : Int) (l : List S41) (hl : l.length ≤ 1000) : Ev (fun k => impl_Net_back.f k n l) (n, backL l) := by
  unfold impl_Net_back.f
  have h1 : ((l.length : Int) : Int).toNat ≤ 7036874417766 := by omega
  simp only [h1, if_true]
  have := ev_ind (fun k (s : Nat × List S41) => impl_Net_back.l0 k l (l.length : Int) (s.1 : Int) n s.2) (fun s => l.length - s.1) (fun s => s.1 ≤ l.length ∧ s.2.length ≤ s.1) (fun s => (n, s.2 ++ backL (l.drop s.1))) ?_ (0, []) ⟨Nat.zero_le _, by simp⟩
  · simpa using this
  rintro ⟨i, x⟩ ⟨hi, hx⟩ ih
  simp only at hi hx ih ⊢
  by_cases h : i < l.length
  · have hlt : (i : Int) < (l.length : Int) := by omega
    have h0 : (0 : Int) ≤ (i : Int) := by omega
    have b1 : x.length < 3518437208883 := by omega
    simp only [impl_Net_back.l0, hlt, h0, b1, if_true, wsucc h (show l.length ≤ 9223372036854775807 by omega), arc_at l i h]
    refine ev_at (ih (i + 1, x ++ [revA l[i]]) ⟨by simp; omega, by simp; omega⟩ (by simp; omega)) ?_
    rw [List.drop_eq_getElem_cons h, backL, backL, List.map_cons, List.append_assoc]
    rfl
  · have hlt : ¬ (i : Int) < (l.length : Int) := by omega
    simp only [impl_Net_back.l0, hlt, if_false]
    refine ev_now fun k => ?_
    rw [List.drop_of_length_le (by omega)]
    simp [backL]
/-- The least measures to a node: what the program makes. -/
theorem toward_ex {n : Int} {l : List S41} (hn : Net1 n l) {t : Int} (ht : 0 ≤ t ∧ t < n) : ∃ M, Fin1 n l t M ∧ Ev (fun k => impl_Net_toward.f k n l t) M := by
  have hlo := hn.lo
  have hhi := hn.hi
  unfold impl_Net_toward.f impl_measure.f
  have b : 0 ≤ n ∧ n ≤ 8 := by omega
  have g : t < ((n.toNat : Nat) : Int) := by omega
  simp only [b, and_self, if_true, Option.bind_some, ht.1, List.length_replicate, g]
  exact toward_loop hn ((List.replicate n.toNat (⟨99999, 0⟩ : S108)).set t.toNat ⟨0, 0⟩, true) ⟨minv_start hn ht.1 ht.2, fun h => by cases h⟩
/-- Both are the same: the costs of the program's measures on a net, and what the reference makes of the net turned round. -/
theorem near_same {n : Int} {l : List S41} (hn : Net1 n l) {t : Int} (ht : 0 ≤ t ∧ t < n) {M : List S108} (hM : Fin1 n l t M) {D : List Int} (hD : SInv n (backL l) t D) (hR : RInv (backL l) t D n.toNat) : (M.map fun m => m.f0) = D := by
  have hlo := hn.lo
  have l1 := hM.1.len
  have l2 := hD.len
  have key : ∀ v, 0 ≤ v → v < n → cM M v = rd D v := by
    intro v v0 v1
    have r1 := hM.1.rng v v0 v1
    have r2 := hD.rng v v0 v1
    have a1 : rd D v ≤ cM M v := by
      by_cases hf : cM M v = 99999
      · omega
      · have hw := hM.1.way v v0 v1 hf
        rw [← backL_backL l] at hw
        have := hM.few hn v0 v1 hf
        exact hR _ _ _ hw (by omega)
    have a2 : cM M v ≤ rd D v := by
      by_cases hf : rd D v < 99999
      · obtain ⟨m, hw⟩ := hD.way v v0 v1 hf
        rw [backL_backL] at hw
        have := hM.low hn hw
        omega
      · omega
    omega
  apply List.ext_getElem
  · rw [List.length_map]; omega
  · intro i h1 h2
    rw [List.length_map] at h1
    have := key i (by omega) (by omega)
    rw [cM_get M i h1, rd_at D i h2] at this
    rw [List.getElem_map]
    exact this
/-- What is true of the least costs from a node. -/
structure Dist (n : Int) (l : List S41) (s : Int) (D : List Int) : Prop where
  impl : Ev (fun k => impl_Net_from.f k n l s) D
  spec : Ev (fun k => spec_l3All.f k n l s) D
  inv : SInv n l s D
  low : ∀ v c m, Way (backL l) s v c m → rd D v ≤ c
theorem dist_ex {n : Int} {l : List S41} (hn : Net1 n l) {s : Int} (hs : 0 ≤ s ∧ s < n) : ∃ D, Dist n l s D := by
  obtain ⟨M, hM, he⟩ := toward_ex hn.back hs
  obtain ⟨D, ⟨hD, hR⟩, hd⟩ := l3All_ex hn hs
  have e : (M.map fun m => m.f0) = D := near_same hn.back hs hM (by rw [backL_backL]; exact hD) (by rw [backL_backL]; exact hR)
  have hlow : ∀ v c m, Way (backL l) s v c m → rd D v ≤ c := by
    intro v c m hw
    have hv := hw.node hn.back hs
    have h1 := hM.low hn.back hw
    have h2 := hM.1.rng v hv.1 hv.2
    have h3 : rd D v = cM M v := by
      have hl := hM.1.len
      obtain ⟨i, rfl⟩ : ∃ i : Nat, v = (i : Int) := ⟨v.toNat, by omega⟩
      rw [← e, cM_get M i (by omega), rd_at _ i (by rw [List.length_map]; omega), List.getElem_map]
    omega
  refine ⟨D, ?_, hd, hD, hlow⟩
  unfold impl_Net_from.f
  refine Ev.bind (back_ev n l (by have := hn.len; omega)) ?_
  refine Ev.bind he ?_
  refine Ev.bind (costs_ev M (by have := hM.1.len; have := hn.hi; omega)) (ev_now fun _ => by rw [e])

theorem Way.snoc {l : List S41} {t v c : Int} {m : Nat} (h : Way l t v c m) {x : S41} (hx : x ∈ l) (ht : x.f0 = t) : Way l x.f1 v (c + x.f2) (m + 1) := by
  induction h with
  | nil =>
    have := Way.cons (t := x.f1) hx (Way.nil (l := l))
    rw [ht] at this
    rw [Int.add_comm]
    exact this
  | @cons y c m hy _ ih =>
    have := Way.cons hy ih
    rw [show y.f2 + c + x.f2 = y.f2 + (c + x.f2) by omega]
    exact this
/-- A walk, gone the other way round. -/
theorem Way.rev {l : List S41} {t v c : Int} {m : Nat} (h : Way l t v c m) : Way (backL l) v t c m := by
  induction h with
  | nil => exact Way.nil
  | @cons x c m hx _ ih =>
    have hr : revA x ∈ backL l := List.mem_map.2 ⟨x, hx, rfl⟩
    have := ih.snoc hr rfl
    rw [Int.add_comm]
    exact this
theorem Dist.sym {n : Int} {l : List S41} {a b : Int} {D E : List Int} (ha : 0 ≤ a ∧ a < n) (hb : 0 ≤ b ∧ b < n) (hD : Dist n l a D) (hE : Dist n (backL l) b E) : rd D b = rd E a := by
  have r1 := hD.inv.rng b hb.1 hb.2
  have r2 := hE.inv.rng a ha.1 ha.2
  have h1 : rd E a ≤ rd D b := by
    by_cases h : rd D b < 99999
    · obtain ⟨m, hw⟩ := hD.inv.way b hb.1 hb.2 h
      exact hE.low _ _ _ hw.rev
    · omega
  have h2 : rd D b ≤ rd E a := by
    by_cases h : rd E a < 99999
    · obtain ⟨m, hw⟩ := hE.inv.way a ha.1 ha.2 h
      have := hw.rev
      rw [backL_backL] at this
      exact hD.low _ _ _ this
    · omega
  omega
open Classical in
/-- The least costs from a node, as a list. -/
noncomputable def distV (n : Int) (l : List S41) (s : Int) : List Int := if h : ∃ D, Dist n l s D then h.choose else []
theorem distV_is {n : Int} {l : List S41} (hn : Net1 n l) {s : Int} (hs : 0 ≤ s ∧ s < n) : Dist n l s (distV n l s) := by
  unfold distV
  rw [dif_pos (dist_ex hn hs)]
  exact (dist_ex hn hs).choose_spec
/-! ### nodes of a net, and what can be reached -/
theorem nodesIn_eq (n : Int) (l : List S41) (ns : List Int) : impl_nodesIn.f n l ns = some (netOkB n l && hasB n ns) := by
  unfold impl_nodesIn.f impl_Net_has.f
  rw [netOk_eq]
  cases netOkB n l <;> rfl
theorem hasB1 (n a : Int) : hasB n [a] = inB a 0 (wrap64 (n - 1)) := by unfold hasB; simp
theorem hasB2 (n a b : Int) : hasB n [a, b] = (inB a 0 (wrap64 (n - 1)) && inB b 0 (wrap64 (n - 1))) := by unfold hasB; simp
theorem hasB3 (n a b c : Int) : hasB n [a, b, c] = (inB a 0 (wrap64 (n - 1)) && (inB b 0 (wrap64 (n - 1)) && inB c 0 (wrap64 (n - 1)))) := by unfold hasB; simp
theorem node_of {n : Int} {l : List S41} (hn : Net1 n l) {a : Int} (h : inB a 0 (wrap64 (n - 1)) = true) : 0 ≤ a ∧ a < n := by
  have := hn.lo
  have := hn.hi
  rw [inB_iff, w_id (n := n - 1) (by omega) (by omega)] at h
  omega
/-! ### what is near by news -/
theorem liveNear_val (n : Int) (l : List S41) (w : List S113) (a b : Int) (hl : l.length ≤ 9223372036854775807) (hw : w.length ≤ 9223372036854775807) : ∃ v, (v = -1 ∨ liveB n l w = true ∧ inB a 0 (wrap64 (n - 1)) = true ∧ inB b 0 (wrap64 (n - 1)) = true ∧ v = rd (distV n (nowL w l 0) a) b) ∧ Ev (fun k => spec_LiveNear.f k n l w a b) v ∧ Ev (fun k => impl_LiveNear.f k n l w a b) v := by
  unfold impl_LiveNear.f spec_LiveNear.f impl_Net_has.f
  simp only [Option.bind_some, l1In_eq, hasB2]
  by_cases hok : liveB n l w = true ∧ inB a 0 (wrap64 (n - 1)) = true ∧ inB b 0 (wrap64 (n - 1)) = true
  · obtain ⟨hok, ha, hb⟩ := hok
    have h0 := net1_of (liveB_len hok).1
    have hll := h0.len
    have hn := live_net1 hok
    have na := node_of h0 ha
    have nb := node_of h0 hb
    have hD := distV_is hn na
    have hlen := hD.inv.len
    have g : b < ((distV n (nowL w l 0) a).length : Int) := by omega
    refine ⟨rd (distV n (nowL w l 0) a) b, .inr ⟨hok, ha, hb, rfl⟩, ?_, ?_⟩
    · refine Ev.bind (l16Ok_ev n l w hl hw) ?_
      simp only [hok, ha, hb, if_true, Bool.not_true]
      refine ev_shift ?_
      simp only [spec_LiveNear.j0, Bool.false_eq_true, if_false]
      refine Ev.bind (l16Now_ev n l w (by omega) hw) ?_
      refine Ev.bind hD.spec ?_
      simp only [nb.1, g, if_true]
      exact ev_now fun _ => rfl
    · refine Ev.bind (implLiveOk_ev n l w hw) ?_
      simp only [hok, ha, hb, if_true, Bool.and_self, Bool.not_true]
      refine ev_shift ?_
      simp only [impl_LiveNear.j0, Bool.false_eq_true, if_false]
      refine Ev.bind (now_ev n l w (by omega) hw fun x hx => newsB_more (liveB_more hok x hx)) ?_
      refine Ev.bind hD.impl ?_
      simp only [nb.1, g, if_true]
      exact ev_now fun _ => rfl
  · refine ⟨-1, .inl rfl, ?_, ?_⟩
    · refine Ev.bind (l16Ok_ev n l w hl hw) ?_
      refine ev_shift (ev_now fun k => ?_)
      cases q0 : liveB n l w with
      | false => simp [spec_LiveNear.j0]
      | true =>
      cases q1 : inB a 0 (wrap64 (n - 1)) with
      | false => simp [spec_LiveNear.j0]
      | true =>
      cases q2 : inB b 0 (wrap64 (n - 1)) with
      | false => simp [spec_LiveNear.j0]
      | true => exact absurd ⟨q0, q1, q2⟩ hok
    · refine Ev.bind (implLiveOk_ev n l w hw) ?_
      refine ev_shift (ev_now fun k => ?_)
      cases q0 : liveB n l w with
      | false => simp [impl_LiveNear.j0]
      | true =>
      cases q1 : inB a 0 (wrap64 (n - 1)) with
      | false => simp [impl_LiveNear.j0]
      | true =>
      cases q2 : inB b 0 (wrap64 (n - 1)) with
      | false => simp [impl_LiveNear.j0]
      | true => exact absurd ⟨q0, q1, q2⟩ hok
/-! ### what holds of least costs -/
theorem ev_one {α : Type} {g : Nat → Option α} {a b : α} (h : Ev g a) (h' : Ev g b) : a = b := by
  obtain ⟨K, h⟩ := h
  obtain ⟨K', h'⟩ := h'
  have h1 := h (max K K') (by omega)
  rw [h' (max K K') (by omega)] at h1
  exact (Option.some.inj h1).symm
theorem Way.trans {l : List S41} {t v u c c' : Int} {m m' : Nat} (h1 : Way l t v c m) (h2 : Way l v u c' m') : Way l t u (c' + c) (m' + m) := by
  induction h2 with
  | nil => simpa using h1
  | @cons x c' m' hx _ ih =>
    have := Way.cons hx ih
    rw [show x.f2 + c' + c = x.f2 + (c' + c) by omega, show m' + 1 + m = (m' + m) + 1 by omega]
    exact this
theorem Way.cost {n : Int} {l : List S41} (hn : Net1 n l) {t v c : Int} {m : Nat} (h : Way l t v c m) : 0 ≤ c ∧ c ≤ 99 * (m : Int) := by
  induction h with
  | nil => simp
  | @cons x c m hx _ ih =>
    obtain ⟨_, _, _, _, _, h1, h2, _⟩ := hn.ends _ hx
    omega
theorem Dist.meas {n : Int} {l : List S41} (hn : Net1 n l) {s : Int} (hs : 0 ≤ s ∧ s < n) {D : List Int} (hD : Dist n l s D) : ∃ M, Fin1 n (backL l) s M ∧ ∀ v, 0 ≤ v → v < n → cM M v = rd D v := by
  obtain ⟨M, hM, _⟩ := toward_ex hn.back hs
  obtain ⟨D', ⟨h1, h2⟩, hd⟩ := l3All_ex hn hs
  have e : (M.map fun m => m.f0) = D' := near_same hn.back hs hM (by rw [backL_backL]; exact h1) (by rw [backL_backL]; exact h2)
  have e2 : D' = D := ev_one hd hD.spec
  refine ⟨M, hM, fun v v0 v1 => ?_⟩
  have hl := hM.1.len
  obtain ⟨i, rfl⟩ : ∃ i : Nat, v = (i : Int) := ⟨v.toNat, by omega⟩
  rw [← e2, ← e, cM_get M i (by omega), rd_at _ i (by rw [List.length_map]; omega), List.getElem_map]
theorem Dist.small {n : Int} {l : List S41} (hn : Net1 n l) {s : Int} (hs : 0 ≤ s ∧ s < n) {D : List Int} (hD : Dist n l s D) {v : Int} (v0 : 0 ≤ v) (v1 : v < n) (h : rd D v < 99999) : rd D v ≤ 700 := by
  obtain ⟨M, hM, he⟩ := hD.meas hn hs
  have hhi := hn.hi
  have e := he v v0 v1
  have hc : cM M v ≠ 99999 := by omega
  have h1 := hM.few hn.back v0 v1 hc
  have h2 := (hM.1.way v v0 v1 hc).cost hn.back
  have h3 := hM.1.rng v v0 v1
  omega
theorem Dist.tri {n : Int} {l : List S41} {a k : Int} (hk : 0 ≤ k ∧ k < n) {A K : List Int} (hA : Dist n l a A) (hK : Dist n l k K) {v : Int} (v0 : 0 ≤ v) (v1 : v < n) (h1 : rd A k < 99999) (h2 : rd K v < 99999) : rd A v ≤ rd A k + rd K v := by
  obtain ⟨m1, w1⟩ := hA.inv.way k hk.1 hk.2 h1
  obtain ⟨m2, w2⟩ := hK.inv.way v v0 v1 h2
  have := hA.low _ _ _ (w1.trans w2)
  omega
theorem Dist.arc {n : Int} {l : List S41} (hn : Net1 n l) {a : Int} {D : List Int} (hD : Dist n l a D) {x : S41} (hx : x ∈ l) (h : rd D x.f0 < 99999) : rd D x.f1 ≤ rd D x.f0 + x.f2 := by
  obtain ⟨e1, e2, e3, e4, _⟩ := hn.ends x hx
  obtain ⟨m, hw⟩ := hD.inv.way x.f0 e1 e2 h
  have hx' : revA x ∈ backL l := List.mem_map.2 ⟨x, hx, rfl⟩
  have := hD.low _ _ _ (Way.cons (t := a) hx' (show Way (backL l) a (revA x).f1 (rd D x.f0) m from hw))
  simp only [revA] at this
  omega
theorem dist_one {n : Int} {l : List S41} {s : Int} {D E : List Int} (hD : Dist n l s D) (hE : Dist n l s E) : D = E := ev_one hD.spec hE.spec
theorem inB_node {n : Int} {l : List S41} (hn : Net1 n l) {a : Int} (h : 0 ≤ a ∧ a < n) : inB a 0 (wrap64 (n - 1)) = true := by
  have := hn.lo
  have := hn.hi
  rw [inB_iff, w_id (n := n - 1) (by omega) (by omega)]
  omega
/-! ### the least costs, as they are told -/
theorem nearAll_ev {n : Int} {l : List S41} (hok : netOkB n l = true) {a : Int} (ha : 0 ≤ a ∧ a < n) : Ev (fun k => impl_NearAll.f k n l a) (distV n l a) := by
  have hn := net1_of hok
  unfold impl_NearAll.f
  simp only [nodesIn_eq, Option.bind_some, hasB1, hok, inB_node hn ha, Bool.and_self, if_true]
  exact Ev.bind (distV_is hn ha).impl (ev_now fun _ => rfl)
theorem drawLiveNear_ex (c : List Int) (h : ∀ x ∈ c, (Lit.int .u8 x).wf = true) : ∃ n l w a b, Ev (fun k => spec_DrawLiveNear.f k c) (n, l, w, a, b) ∧ l.length ≤ 13 ∧ w.length ≤ 21 := by
  obtain ⟨y, hb, ho⟩ := open_ex c h
  obtain ⟨n, l, w, q, he, h1, h2, h3, h4, h5⟩ := l30Live_ex hb (p := 0) (by omega) (by omega)
  obtain ⟨a, q1, e1, g1, g2⟩ := l30Node_ex hb h3 (by omega) n (by omega) l
  obtain ⟨b, q2, e2, g3, g4⟩ := l30Node_ex hb g1 (by omega) n (by omega) l
  unfold spec_DrawLiveNear.f
  simp only [ho, Option.bind_some]
  exact ⟨n, l, w, a, b, Ev.bind he (Ev.bind e1 (Ev.bind e2 (ev_now fun _ => rfl))), h1, h2⟩
theorem nowS_ge (k : Int) (ws : List S113) (h : ∀ x ∈ ws, x.f2 ≤ 99) : ∀ s c, 0 ≤ c → c + 99 * (ws.length : Int) ≤ 1000000 → c ≤ (nowS k ws s c).2 := by
  induction ws with
  | nil => intro s c _ _; exact Int.le_refl _
  | cons w ws ih =>
    intro s c h0 hc
    have hw := h w (by simp)
    have ih := ih fun x hx => h x (by simp [hx])
    simp only [List.length_cons] at hc
    unfold nowS
    by_cases hk : w.f1 = k
    · rw [if_pos hk]
      by_cases hm : w.f2 < 0
      · rw [if_pos hm]; exact ih true c h0 (by omega)
      · rw [if_neg hm, w_id (n := c + w.f2) (by omega) (by omega)]
        have := ih s (c + w.f2) (by omega) (by omega)
        omega
    · rw [if_neg hk]; exact ih s c h0 (by omega)
theorem nowL_more {n : Int} {l : List S41} {w : List S113} (hn : Net1 n l) (hw : w.length ≤ 6) (h : ∀ x ∈ w, x.f2 ≤ 99) {y : S41} (hy : y ∈ nowL w l 0) : ∃ x ∈ l, x.f0 = y.f0 ∧ x.f1 = y.f1 ∧ x.f2 ≤ y.f2 := by
  obtain ⟨x, hx, k, hk⟩ := nowL_mem w l 0 y hy
  obtain ⟨_, _, _, _, _, e6, e7, _⟩ := hn.ends x hx
  have hp := nowS_ge k w h false x.f2 e6 (by omega)
  unfold nowA at hk
  split at hk
  · simp at hk
  · rw [List.mem_singleton] at hk
    subst hk
    refine ⟨x, hx, rfl, rfl, ?_⟩
    simp only
    split <;> omega
theorem nowL_way {n : Int} {l : List S41} {w : List S113} (hn : Net1 n l) (hw : w.length ≤ 6) (h : ∀ x ∈ w, x.f2 ≤ 99) {t v c : Int} {m : Nat} (hy : Way (backL (nowL w l 0)) t v c m) : ∃ c', c' ≤ c ∧ Way (backL l) t v c' m := by
  induction hy with
  | nil => exact ⟨0, Int.le_refl _, Way.nil⟩
  | @cons x c m hx _ ih =>
    obtain ⟨c', h1, h2⟩ := ih
    obtain ⟨y, hy, rfl⟩ := List.mem_map.1 hx
    obtain ⟨z, hz, z0, z1, z2⟩ := nowL_more hn hw h hy
    have hr : revA z ∈ backL l := List.mem_map.2 ⟨z, hz, rfl⟩
    refine ⟨z.f2 + c', by simp only [revA]; omega, ?_⟩
    have e1 : (revA y).f1 = (revA z).f1 := z0.symm
    have e0 : (revA y).f0 = (revA z).f0 := z1.symm
    rw [e1] at h2
    rw [e0]
    exact Way.cons hr h2
theorem FnLiveNear : laws_FnLiveNear.Pure := by
  intro c _ _ hc
  refine Ev.rounds ?_
  unfold laws_FnLiveNear.f
  by_cases h0 : (c.length : Int) > 1048576
  · simp only [h0, if_true]; exact ev_now fun _ => rfl
  simp only [h0, if_false]
  obtain ⟨n, l, w, a, b, he, hl, hw⟩ := drawLiveNear_ex c hc
  have hl9 : l.length ≤ 9223372036854775807 := by omega
  have hw9 : w.length ≤ 9223372036854775807 := by omega
  obtain ⟨v, hv, hs, hi⟩ := liveNear_val n l w a b hl9 hw9
  refine Ev.bind he (Ev.bind hi (Ev.bind hs ?_))
  simp only [if_true]
  refine ev_shift ?_
  rcases hv with rfl | ⟨hok, ha, hb, hv⟩
  · simp only [laws_FnLiveNear.j0, show ((-1 : Int) < 0) by omega, decide_true, if_true]
    exact Ev.bind hs (ev_now fun _ => by simp)
  · have hok1 := (liveB_len hok).1
    have hn := net1_of hok1
    have na := node_of hn ha
    have nb := node_of hn hb
    have hN := live_net1 hok
    have hD := distV_is hn na
    have hE := distV_is hN na
    have r1 := hE.inv.rng b nb.1 nb.2
    have r2 := hD.inv.rng b nb.1 nb.2
    have l1 := hE.inv.len
    have l2 := hD.inv.len
    have g1 : b < ((distV n (nowL w l 0) a).length : Int) := by omega
    have g2 : b < ((distV n l a).length : Int) := by omega
    have key : rd (distV n l a) b ≤ rd (distV n (nowL w l 0) a) b := by
      by_cases hf : rd (distV n (nowL w l 0) a) b < 99999
      · obtain ⟨m, hm⟩ := hE.inv.way b nb.1 nb.2 hf
        obtain ⟨c', h1, h2⟩ := nowL_way hn (liveB_len hok).2 (fun x hx => newsB_less (liveB_more hok x hx)) hm
        have := hD.low _ _ _ h2
        omega
      · omega
    have hneg : ¬ v < 0 := by omega
    have hV : liveNowV n l w = (n, nowL w l 0) := by unfold liveNowV; rw [if_pos hok]
    have hL := implLiveNow_ev n l w hw9
    rw [hV] at hL
    simp only [laws_FnLiveNear.j0, hneg, decide_false, Bool.false_eq_true, if_false]
    refine Ev.bind hL (Ev.bind (nearAll_ev (netOk_of hN) na) ?_)
    simp only [nb.1, g1, if_true, hv]
    refine Ev.bind (nearAll_ev hok1 na) ?_
    simp only [g2, if_true]
    exact ev_now fun _ => by simpa using key
end Go.Proofs.Ytgickejeakmenaa.Pure
