/- The pure statement of FnPairReal: of every drawn net and two nodes each of the pairs told is what a walk to no node twice costs and pays, where these are fewer than as many as may be told. No condition. -/
import Derived.Test.YtddkaiegnohkcaaFKinds
import Derived.Test.YtddkaiegnohkcaaFimplNetOk
import Derived.Test.YtddkaiegnohkcaaFimplNetcost
import Derived.Test.YtddkaiegnohkcaaFimplNethas
import Derived.Test.YtddkaiegnohkcaaFimplNetpairs
import Derived.Test.YtddkaiegnohkcaaFimplPair71
import Derived.Test.YtddkaiegnohkcaaFimplPairAll
import Derived.Test.YtddkaiegnohkcaaFimplSomeWalks
import Derived.Test.YtddkaiegnohkcaaFimplWalkCost
import Derived.Test.YtddkaiegnohkcaaFimplWalkOk
import Derived.Test.YtddkaiegnohkcaaFimplnodesIn
import Derived.Test.YtddkaiegnohkcaaFimplwithin
import Derived.Test.YtddkaiegnohkcaaFlawsFnPairReal
import Derived.Test.YtddkaiegnohkcaaFlawswkPairs
import Derived.Test.YtddkaiegnohkcaaFlawswkToll
import Derived.Test.YtddkaiegnohkcaaFspecDrawNearWalk
import Derived.Test.YtddkaiegnohkcaaFspecDrawPairAll
import Derived.Test.YtddkaiegnohkcaaFspecPairAll
import Derived.Test.YtddkaiegnohkcaaFspecl19All
import Derived.Test.YtddkaiegnohkcaaFspecl19Put
import Derived.Test.YtddkaiegnohkcaaFspecl1In
import Derived.Test.YtddkaiegnohkcaaFspecl1Ok
import Derived.Test.YtddkaiegnohkcaaFspecl30AnyNet
import Derived.Test.YtddkaiegnohkcaaFspecl30Net
import Derived.Test.YtddkaiegnohkcaaFspecl30Node
import Derived.Test.YtddkaiegnohkcaaFspecl30Open
import Derived.Test.YtddkaiegnohkcaaFspecl30Rdone
import Derived.Test.YtddkaiegnohkcaaFspecl30Rdpick
import Derived.Test.YtddkaiegnohkcaaFtextcore
import Derived.Test.YtddkaiegnohkcaaFtextfront
import Derived.Test.YtddkaiegnohkcaaFtextfrontw
import Derived.Test.YtddkaiegnohkcaaFtextpairsd
import Derived.Test.YtddkaiegnohkcaaFtextsomecmp
import Derived.Test.YtddkaiegnohkcaaFtextsomefol
import Derived.Test.YtddkaiegnohkcaaFtextsomeord
import Derived.Test.YtddkaiegnohkcaaFtextsomesimple
import Derived.Test.YtddkaiegnohkcaaFtextsomewalks
import Derived.Test.YtddkaiegnohkcaaFtextsortp
namespace Go.Proofs.Ytddkaiegnohkcaa.Pure
open Go.RowKit Go.Proofs.Ytddkaiegnohkcaa.F Go.Proofs.YtddkaiegnohkcaaW.PrintWords
set_option linter.unusedVariables false
set_option linter.unusedSimpArgs false
/-! ### rounds -/
theorem ev_shift {α : Type} {g : Nat → Option α} {r : α} (h : Ev (fun k => g (k + 1)) r) : Ev g r := by
  obtain ⟨K, h⟩ := h
  refine ⟨K + 1, fun k hk => ?_⟩
  obtain ⟨m, rfl⟩ : ∃ m, k = m + 1 := ⟨k - 1, by omega⟩
  exact h m (by omega)
theorem ev_ind {σ β : Type} (g : Nat → σ → Option β) (μ : σ → Nat) (Inv : σ → Prop) (r : σ → β)
    (h : ∀ s, Inv s → (∀ s', Inv s' → μ s' < μ s → Ev (fun k => g k s') (r s')) → Ev (fun k => g (k + 1) s) (r s)) : ∀ s, Inv s → Ev (fun k => g k s) (r s) := by
  have key : ∀ n s, μ s ≤ n → Inv s → Ev (fun k => g k s) (r s) := by
    intro n
    induction n with
    | zero => intro s hs hi; exact ev_shift (h s hi (fun s' _ hlt => absurd hlt (by omega)))
    | succ n ih => intro s hs hi; exact ev_shift (h s hi (fun s' hi' hlt => ih s' (by omega) hi'))
  exact fun s hi => key _ s (Nat.le_refl _) hi
theorem ev_now {α : Type} {g : Nat → Option α} {r : α} (h : ∀ k, g k = some r) : Ev g r := ⟨0, fun k _ => h k⟩
theorem ev_at {α : Type} {g : Nat → Option α} {r r' : α} (h : Ev g r) (e : r = r') : Ev g r' := e ▸ h
/-! ### numbers and lists -/
theorem wsucc {i n : Nat} (h : i < n) (hn : n ≤ 9223372036854775807) : wrap64 ((i : Int) + 1) = ((i + 1 : Nat) : Int) := by
  unfold wrap64; omega
theorem wpred {i : Nat} (h : 0 < i) (hi : i ≤ 9223372036854775807) : wrap64 ((i : Int) - 1) = ((i - 1 : Nat) : Int) := by
  unfold wrap64; omega
theorem w_id {n : Int} (h : -9223372036854775808 ≤ n) (h' : n ≤ 9223372036854775807) : wrap64 n = n := by unfold wrap64; omega
theorem rd_nat (l : List Int) (i : Nat) : rd l (i : Int) = l.getD i 0 := by simp [rd]
theorem rd_at (l : List Int) (i : Nat) (h : i < l.length) : rd l (i : Int) = l[i] := by simp [rd, h]
theorem arc_at (l : List S33) (i : Nat) (h : i < l.length) : rd_T33 l (i : Int) = l[i] := by simp [rd_T33, h]
theorem any_at {α : Type} (p : α → Bool) (l : List α) (i : Nat) (h : i < l.length) : (l.drop i).any p = (p l[i] || (l.drop (i + 1)).any p) := by
  rw [List.drop_eq_getElem_cons h, List.any_cons]
/-! ### is a net valid -/
theorem within_eq (a b c : Int) : impl_within.f a b c = some (inB a b c) := by
  unfold impl_within.f inB
  by_cases h : b ≤ a
  · rw [if_pos h]; simp [h]
  · rw [if_neg h]; simp [h]
theorem l1In_eq (a b c : Int) : spec_l1In.f a b c = some (inB a b c) := within_eq a b c
theorem arcBad_eq (n : Int) (x : S33) : arcBad n x = !(inB x.f0 0 (wrap64 (n - 1)) && (inB x.f1 0 (wrap64 (n - 1)) && (!(x.f0 == x.f1) && (inB x.f2 0 99 && (inB x.f3 0 99 && inB x.f4 0 9))))) := by
  unfold arcBad hasB
  cases h1 : inB x.f0 0 (wrap64 (n - 1)) <;> cases h2 : inB x.f1 0 (wrap64 (n - 1)) <;> simp [h1, h2, Bool.not_and]
theorem netOk_eq (n : Int) (l : List S33) : impl_NetOk.f n l = some (netOkB n l) := rfl
theorem l1Ok_loop (n : Int) (l : List S33) (hl : l.length ≤ 9223372036854775807) (i : Nat) (hi : i ≤ l.length) :
    Ev (fun k => spec_l1Ok.l0 k (i : Int) n l) (!((l.drop i).any (arcBad n)) && (inB n 1 8 && decide (l.length ≤ 16))) := by
  refine ev_ind (fun k (i : Nat) => spec_l1Ok.l0 k (i : Int) n l) (fun i => l.length - i) (fun i => i ≤ l.length) (fun i => !((l.drop i).any (arcBad n)) && (inB n 1 8 && decide (l.length ≤ 16))) ?_ i hi
  intro i hi ih
  by_cases h : i < l.length
  · have hlt : (i : Int) < (l.length : Int) := by omega
    have h0 : (0 : Int) ≤ (i : Int) := by omega
    simp only [spec_l1Ok.l0, hlt, h0, if_true, l1In_eq, Option.bind_some, arc_at l i h, wsucc h hl]
    rw [any_at _ _ _ h, arcBad_eq]
    have ih' := ih (i + 1) (by omega) (by omega)
    generalize (l.drop (i + 1)).any (arcBad n) = q at ih' ⊢
    generalize l[i] = x at ih' ⊢
    cases inB x.f0 0 (wrap64 (n - 1)) with
    | false => exact ev_now fun k => by simp
    | true =>
    cases inB x.f1 0 (wrap64 (n - 1)) with
    | false => exact ev_now fun k => by simp
    | true =>
    by_cases he : x.f0 = x.f1
    · exact ev_now fun k => by simp [he]
    · cases inB x.f2 0 99 with
      | false => exact ev_now fun k => by simp [he]
      | true =>
      cases inB x.f3 0 99 with
      | false => exact ev_now fun k => by simp [he]
      | true =>
      cases inB x.f4 0 9 with
      | false => exact ev_now fun k => by simp [he]
      | true =>
        have he' : (x.f0 == x.f1) = false := beq_eq_false_iff_ne.2 he
        simpa [he, he'] using ih'
  · have hlt : ¬ (i : Int) < (l.length : Int) := by omega
    have he : i = l.length := by omega
    simp only [spec_l1Ok.l0, hlt, if_false, l1In_eq, Option.bind_some]
    subst he
    refine ev_now fun k => ?_
    cases inB n 1 8 <;> simp
    omega
theorem l1Ok_ev (n : Int) (l : List S33) (hl : l.length ≤ 9223372036854775807) : Ev (fun k => spec_l1Ok.f k n l) (netOkB n l) := by
  refine ev_at (l1Ok_loop n l hl 0 (Nat.zero_le _)) ?_
  unfold netOkB
  rw [List.drop_zero]
  cases inB n 1 8 <;> cases decide (l.length ≤ 16) <;> cases l.any (arcBad n) <;> rfl
theorem netOk_len {n : Int} {l : List S33} (h : netOkB n l = true) : l.length ≤ 16 := by
  unfold netOkB at h
  simp only [Bool.and_eq_true, decide_eq_true_eq] at h
  exact h.2.1
theorem inB_iff {a b c : Int} : inB a b c = true ↔ b ≤ a ∧ a ≤ c := by unfold inB; rw [Bool.and_eq_true, decide_eq_true_eq, decide_eq_true_eq]
/-! ### draws: what they make is of some size, whatever it is -/
theorem xor_nn {x y : Int} (hx : 0 ≤ x) (hx2 : x < 1099511627776) (hy : 0 ≤ y) (hy2 : y < 1099511627776) : 0 ≤ Go.bits .xor .i64 x y := by
  obtain ⟨a, rfl⟩ := Int.eq_ofNat_of_zero_le hx
  obtain ⟨b, rfl⟩ := Int.eq_ofNat_of_zero_le hy
  have h1 : (BitVec.ofInt 64 (a : Int)).toNat = a := by
    rw [BitVec.toNat_ofInt]
    omega
  have h2 : (BitVec.ofInt 64 (b : Int)).toNat = b := by
    rw [BitVec.toNat_ofInt]
    omega
  have h3 : a ^^^ b < 2 ^ 40 := Nat.xor_lt_two_pow (by omega) (by omega)
  have h4 : Go.bits .xor .i64 (a : Int) (b : Int) = IntKind.i64.wrap ((a ^^^ b : Nat) : Int) := by
    unfold Go.bits
    show IntKind.i64.wrap ((BitVec.ofInt 64 (a : Int) ^^^ BitVec.ofInt 64 (b : Int)).toNat : Int) = _
    rw [BitVec.toNat_xor, h1, h2]
  rw [h4, IntKind.wrap_i64]
  omega
/-- The bytes of a reader. -/
def Bytes (b : List Int) : Prop := b.length ≤ 2000 ∧ ∀ x ∈ b, 0 ≤ x ∧ x ≤ 255
theorem Bytes.at {b : List Int} (hb : Bytes b) (i : Int) : 0 ≤ rd b i ∧ rd b i ≤ 255 := by
  unfold rd
  rw [List.getD_eq_getElem?_getD]
  cases h : b[i.toNat]? with
  | none => simp
  | some x => exact hb.2 x (List.mem_of_getElem? h)
theorem pick_ex {b : List Int} (hb : Bytes b) {p n : Int} (hp : 0 ≤ p) (hp2 : p ≤ 1000000) (hn : n ≤ 1000000) :
    ∃ v, Ev (fun k => spec_l30Rd_pick.f k b p n) (v, p + 1) ∧ 0 ≤ v ∧ (1 ≤ n → v < n) ∧ (n < 1 → v = 0) := by
  have hl := hb.1
  have w1 : wrap64 (p + 1) = p + 1 := w_id (by omega) (by omega)
  have w0 : wrap64 (p + 1 - 1) = p := by rw [w_id (by omega) (by omega)]; omega
  unfold spec_l30Rd_pick.f
  rw [w1]
  by_cases h1 : n < 1
  · refine ⟨0, ?_, Int.le_refl _, fun h => by omega, fun _ => rfl⟩
    simp only [h1, if_true]
    exact ev_shift (ev_now fun k => by simp only [spec_l30Rd_pick.j0, if_true])
  · simp only [h1, if_false]
    have hn0 : ¬ n = 0 := by omega
    by_cases h2 : b.length = 0
    · refine ⟨0, ?_, Int.le_refl _, fun h => by omega, fun h => by first | exact absurd h h1 | exact h.elim⟩
      have e : ((b.length : Int) == 0) = true := by rw [beq_iff_eq]; omega
      rw [e]
      exact ev_shift (ev_now fun k => by simp only [spec_l30Rd_pick.j0, if_true])
    · have e : ((b.length : Int) == 0) = false := by rw [beq_eq_false_iff_ne]; omega
      have hm0 : ¬ (b.length : Int) = 0 := by omega
      rw [e]
      by_cases h3 : p < (b.length : Int)
      · have hr := hb.at p
        have w2 : wrap64 (rd b p) = rd b p := w_id (by omega) (by omega)
        refine ⟨Int.tmod (rd b p) n, ?_, Int.tmod_nonneg _ hr.1, fun h => Int.tmod_lt_of_pos _ (by omega), fun h => by first | exact absurd h h1 | exact h.elim⟩
        exact ev_shift (ev_now fun k => by simp only [spec_l30Rd_pick.j0, Bool.false_eq_true, if_false, w0, h3, hp, hn0, if_true, w2])
      · have q1 := Int.tmod_nonneg (a := p) (b.length : Int) hp
        have q2 := Int.tmod_lt_of_pos p (show (0 : Int) < (b.length : Int) by omega)
        have w3 : wrap64 (wrap64 (p * 7) + 3) = p * 7 + 3 := by rw [w_id (n := p * 7) (by omega) (by omega), w_id (by omega) (by omega)]
        have q3 := Int.tmod_nonneg (a := p * 7 + 3) (b.length : Int) (by omega)
        have q4 := Int.tmod_lt_of_pos (p * 7 + 3) (show (0 : Int) < (b.length : Int) by omega)
        have q5 : 0 ≤ Int.tdiv p (b.length : Int) := Int.tdiv_nonneg hp (by omega)
        have q6 : Int.tdiv p (b.length : Int) ≤ p := Int.tdiv_le_self _ hp
        obtain ⟨d, hd⟩ : ∃ d, Int.tdiv p (b.length : Int) = d := ⟨_, rfl⟩
        rw [hd] at q5 q6
        have r1 := hb.at (Int.tmod p (b.length : Int))
        have r2 := hb.at (Int.tmod (p * 7 + 3) (b.length : Int))
        have wx : wrap64 (wrap64 (wrap64 (wrap64 (wrap64 (rd b (Int.tmod p (b.length : Int))) * 131) + wrap64 (wrap64 (rd b (Int.tmod (p * 7 + 3) (b.length : Int))) * 1117)) + wrap64 (p * 29)) + wrap64 (wrap64 d * 53)) = rd b (Int.tmod p (b.length : Int)) * 131 + rd b (Int.tmod (p * 7 + 3) (b.length : Int)) * 1117 + p * 29 + d * 53 := by
          generalize rd b (Int.tmod p (b.length : Int)) = x1 at r1 ⊢
          generalize rd b (Int.tmod (p * 7 + 3) (b.length : Int)) = x2 at r2 ⊢
          rw [w_id (n := x1) (by omega) (by omega), w_id (n := x2) (by omega) (by omega), w_id (n := x1 * 131) (by omega) (by omega), w_id (n := x2 * 1117) (by omega) (by omega), w_id (n := p * 29) (by omega) (by omega), w_id (n := d) (by omega) (by omega), w_id (n := d * 53) (by omega) (by omega), w_id (n := x1 * 131 + x2 * 1117) (by omega) (by omega), w_id (n := x1 * 131 + x2 * 1117 + p * 29) (by omega) (by omega), w_id (by omega) (by omega)]
        generalize hX : rd b (Int.tmod p (b.length : Int)) * 131 + rd b (Int.tmod (p * 7 + 3) (b.length : Int)) * 1117 + p * 29 + d * 53 = X at wx
        have x0 : 0 ≤ X := by omega
        have x1 : X < 1099511627776 := by omega
        have y0 : 0 ≤ Int.tdiv X 64 := Int.tdiv_nonneg x0 (by omega)
        have y1 : Int.tdiv X 64 ≤ X := Int.tdiv_le_self _ x0
        have wy : wrap64 (Int.tdiv X 64) = Int.tdiv X 64 := w_id (by omega) (by omega)
        refine ⟨Int.tmod (Go.bits .xor .i64 X (Int.tdiv X 64)) n, ?_, Int.tmod_nonneg _ (xor_nn x0 x1 y0 (by omega)), fun h => Int.tmod_lt_of_pos _ (by omega), fun h => by first | exact absurd h h1 | exact h.elim⟩
        exact ev_shift (ev_now fun k => by simp only [spec_l30Rd_pick.j0, Bool.false_eq_true, if_false, w0, h3, hm0, q1, q2, w3, q3, q4, hn0, if_true, hd, wx, wy])
theorem one_ex {b : List Int} (hb : Bytes b) {p : Int} (hp : 0 ≤ p) (hp2 : p ≤ 1000000) (l : List Int) (hl : 1 ≤ l.length) (hl2 : l.length ≤ 1000) :
    ∃ v, v ∈ l ∧ Ev (fun k => spec_l30Rd_one.f k b p l) (v, p + 1) := by
  obtain ⟨v, hv, h0, h1, _⟩ := pick_ex hb hp hp2 (n := (l.length : Int)) (by omega)
  have h1 := h1 (by omega)
  unfold spec_l30Rd_one.f
  obtain ⟨i, rfl⟩ := Int.eq_ofNat_of_zero_le h0
  have hi : i < l.length := by omega
  refine ⟨l[i], List.getElem_mem hi, Ev.bind hv ?_⟩
  simp only [h0, h1, if_true, rd_at l i hi]
  exact ev_now fun _ => rfl
theorem open_ex (l : List Int) (h : ∀ x ∈ l, (Lit.int .u8 x).wf = true) : ∃ b, Bytes b ∧ spec_l30Open.f l = some (b, 0) := by
  have hw : ∀ x ∈ l, 0 ≤ x ∧ x ≤ 255 := by
    intro x hx
    have := h x hx
    simp [Lit.wf, IntKind.min, IntKind.max, IntKind.signed, IntKind.bits] at this
    omega
  unfold spec_l30Open.f
  by_cases h1 : (l.length : Int) > 2000
  · have h2 : 2000 ≤ (l.length : Int) := by omega
    rw [if_pos h1, if_pos h2]
    exact ⟨_, ⟨by rw [List.length_take]; omega, fun x hx => hw x (List.mem_of_mem_take hx)⟩, rfl⟩
  · rw [if_neg h1]
    exact ⟨_, ⟨by omega, hw⟩, rfl⟩
/-! ### nets, nodes and walks that are drawn -/
theorem l30Net_loop {b : List Int} (hb : Bytes b) {n : Int} (hn : 2 ≤ n ∧ n ≤ 6) : ∀ (m : Nat) (l : List S33) (p : Int), l.length + m ≤ 13 → 0 ≤ p → p + 6 * m ≤ 100000 →
    ∃ l' q, Ev (fun k => spec_l30Net.l0 k (m : Int) b p n l) (n, l', q) ∧ l'.length ≤ 13 ∧ 0 ≤ q ∧ q ≤ p + 6 * m := by
  intro m
  induction m with
  | zero =>
    intro l p hl hp hq
    exact ⟨l, p, ev_shift (ev_now fun k => by simp [spec_l30Net.l0]), by omega, hp, by omega⟩
  | succ m ih =>
    intro l p hl hp hq
    obtain ⟨v1, e1, _⟩ := pick_ex hb hp (by omega) (n := n) (by omega)
    obtain ⟨v2, e2, _⟩ := pick_ex hb (p := p + 1) (by omega) (by omega) (n := n) (by omega)
    obtain ⟨v3, e3, _⟩ := pick_ex hb (p := p + 1 + 1) (by omega) (by omega) (n := 100) (by omega)
    obtain ⟨v4, _, e4⟩ := one_ex hb (p := p + 1 + 1 + 1) (by omega) (by omega) [0, 1, 2, 5, 9, v3] (by simp) (by simp)
    obtain ⟨v5, _, e5⟩ := one_ex hb (p := p + 1 + 1 + 1 + 1) (by omega) (by omega) [0, 0, 3, 8] (by simp) (by simp)
    obtain ⟨v6, e6, _⟩ := pick_ex hb (p := p + 1 + 1 + 1 + 1 + 1) (by omega) (by omega) (n := 10) (by omega)
    have hpos : ((m + 1 : Nat) : Int) > 0 := by omega
    have hw : wrap64 (((m + 1 : Nat) : Int) - 1) = (m : Int) := by rw [w_id (by omega) (by omega)]; omega
    have hlen : l.length < 3518437208883 := by omega
    have hn0 : ¬ n = 0 := by omega
    by_cases hv : v1 = v2
    · obtain ⟨l', q, he, h1, h2, h3⟩ := ih (l ++ [⟨v1, Int.tmod (wrap64 (v2 + 1)) n, v4, v5, v6⟩]) (p + 1 + 1 + 1 + 1 + 1 + 1) (by rw [List.length_append]; simp; omega) (by omega) (by omega)
      refine ⟨l', q, ev_shift ?_, h1, h2, by omega⟩
      simp only [spec_l30Net.l0, hpos, if_true]
      refine Ev.bind e1 (Ev.bind e2 (Ev.bind e3 (Ev.bind e4 (Ev.bind e5 (Ev.bind e6 ?_)))))
      simp only [hv, hn0, hlen, if_true, if_false, hw]
      rw [hv] at he
      exact he
    · obtain ⟨l', q, he, h1, h2, h3⟩ := ih (l ++ [⟨v1, v2, v4, v5, v6⟩]) (p + 1 + 1 + 1 + 1 + 1 + 1) (by rw [List.length_append]; simp; omega) (by omega) (by omega)
      refine ⟨l', q, ev_shift ?_, h1, h2, by omega⟩
      simp only [spec_l30Net.l0, hpos, if_true]
      refine Ev.bind e1 (Ev.bind e2 (Ev.bind e3 (Ev.bind e4 (Ev.bind e5 (Ev.bind e6 ?_)))))
      simp only [hv, hlen, if_true, if_false, hw]
      exact he
theorem l30Net_ex {b : List Int} (hb : Bytes b) {p : Int} (hp : 0 ≤ p) (hp2 : p ≤ 90000) :
    ∃ n l q, Ev (fun k => spec_l30Net.f k b p) (n, l, q) ∧ l.length ≤ 13 ∧ 0 ≤ q ∧ q ≤ p + 100 ∧ 2 ≤ n ∧ n ≤ 6 := by
  obtain ⟨v1, e1, h1, h1', _⟩ := pick_ex hb hp (by omega) (n := 5) (by omega)
  obtain ⟨v2, e2, h2, h2', _⟩ := pick_ex hb (p := p + 1) (by omega) (by omega) (n := 14) (by omega)
  have h1' := h1' (by omega)
  have h2' := h2' (by omega)
  obtain ⟨m, rfl⟩ := Int.eq_ofNat_of_zero_le h2
  have hw : wrap64 (2 + v1) = 2 + v1 := w_id (by omega) (by omega)
  obtain ⟨l, q, he, h3, h4, h5⟩ := l30Net_loop hb (n := 2 + v1) (by omega) m [] (p + 1 + 1) (by simp; omega) (by omega) (by omega)
  refine ⟨2 + v1, l, q, ?_, h3, h4, by omega, by omega, by omega⟩
  unfold spec_l30Net.f
  refine Ev.bind e1 (Ev.bind e2 ?_)
  rw [hw]
  exact he
/-! ### drawn nodes -/
theorem l30Node_ex {b : List Int} (hb : Bytes b) {p : Int} (hp : 0 ≤ p) (hp2 : p ≤ 90000) (n : Int) (hn : n ≤ 1000000) (l : List S33) :
    ∃ v q, Ev (fun k => spec_l30Node.f k b p n l) (v, q) ∧ 0 ≤ q ∧ q ≤ p + 10 := by
  obtain ⟨v1, e1, _⟩ := pick_ex hb hp (by omega) (n := 16) (by omega)
  unfold spec_l30Node.f
  by_cases c : v1 = 0
  · obtain ⟨v2, _, e2⟩ := one_ex hb (p := p + 1) (by omega) (by omega) [(-1), n] (by simp) (by simp)
    refine ⟨v2, p + 1 + 1, Ev.bind e1 ?_, by omega, by omega⟩
    simp only [c, if_true]
    exact Ev.bind e2 (ev_now fun _ => rfl)
  · obtain ⟨v2, e2, _⟩ := pick_ex hb (p := p + 1) (by omega) (by omega) (n := n) hn
    refine ⟨v2, p + 1 + 1, Ev.bind e1 ?_, by omega, by omega⟩
    simp only [c, if_false]
    exact Ev.bind e2 (ev_now fun _ => rfl)
/-! ### drawn nets, ok or not -/
theorem l30AnyNet_ex9 {b : List Int} (hb : Bytes b) {p : Int} (hp : 0 ≤ p) (hp2 : p ≤ 90000) :
    ∃ n l q, Ev (fun k => spec_l30AnyNet.f k b p) (n, l, q) ∧ l.length ≤ 13 ∧ 0 ≤ q ∧ q ≤ p + 200 ∧ n ≤ 9 := by
  obtain ⟨n, l, q, he, h1, h2, h3, h4, h5⟩ := l30Net_ex hb hp hp2
  unfold spec_l30AnyNet.f
  by_cases hl : (l.length : Int) > 0
  · obtain ⟨v1, e1, g1, g2, _⟩ := pick_ex hb h2 (by omega) (n := (l.length : Int)) (by omega)
    have g2 := g2 (by omega)
    obtain ⟨v2, e2, _⟩ := pick_ex hb (p := q + 1) (by omega) (by omega) (n := 16) (by omega)
    by_cases c0 : v2 = 0
    · obtain ⟨v3, _, e3⟩ := one_ex hb (p := q + 1 + 1) (by omega) (by omega) [(-1), 8, (rd_T33 l v1).f0] (by simp) (by simp)
      refine ⟨n, l.set v1.toNat (⟨(rd_T33 l v1).f0, v3, (rd_T33 l v1).f2, (rd_T33 l v1).f3, (rd_T33 l v1).f4⟩ : S33), q + 1 + 1 + 1, Ev.bind he ?_, ?_, ?_, ?_, ?_⟩
      · simp only [hl, if_true]
        refine Ev.bind e1 (Ev.bind e2 ?_)
        simp only [c0, if_true, g1, g2]
        exact Ev.bind e3 (ev_now fun _ => rfl)
      · rw [List.length_set]; exact h1
      · omega
      · omega
      · omega
    · by_cases c1 : v2 = 1
      · obtain ⟨v3, _, e3⟩ := one_ex hb (p := q + 1 + 1) (by omega) (by omega) [(-1), 100] (by simp) (by simp)
        refine ⟨n, l.set v1.toNat (⟨(rd_T33 l v1).f0, (rd_T33 l v1).f1, v3, (rd_T33 l v1).f3, (rd_T33 l v1).f4⟩ : S33), q + 1 + 1 + 1, Ev.bind he ?_, ?_, ?_, ?_, ?_⟩
        · simp only [hl, if_true]
          refine Ev.bind e1 (Ev.bind e2 ?_)
          simp only [c1, if_true, show ¬ (1 : Int) = 0 by omega, if_false]
          refine Ev.bind e3 ?_
          simp only [g1, g2, if_true]
          exact ev_now fun _ => rfl
        · rw [List.length_set]; exact h1
        · omega
        · omega
        · omega
      · by_cases c2 : v2 = 2
        · obtain ⟨v3, hv3, e3⟩ := one_ex hb (p := q + 1 + 1) (by omega) (by omega) [0, 1, 9, 8] (by simp) (by simp)
          refine ⟨v3, l, q + 1 + 1 + 1, Ev.bind he ?_, h1, by omega, by omega, by simp only [List.mem_cons, List.not_mem_nil, or_false] at hv3; omega⟩
          simp only [hl, if_true]
          refine Ev.bind e1 (Ev.bind e2 ?_)
          simp only [c2, if_true, show ¬ (2 : Int) = 0 by omega, show ¬ (2 : Int) = 1 by omega, if_false]
          exact Ev.bind e3 (ev_now fun _ => rfl)
        · refine ⟨n, l, q + 1 + 1, Ev.bind he ?_, h1, by omega, by omega, by omega⟩
          simp only [hl, if_true]
          refine Ev.bind e1 (Ev.bind e2 ?_)
          simp only [c0, c1, c2, if_false]
          exact ev_now fun _ => rfl
  · refine ⟨n, l, q, Ev.bind he ?_, h1, h2, by omega, by omega⟩
    simp only [hl, if_false]
    exact ev_now fun _ => rfl
theorem l30AnyNet_ex {b : List Int} (hb : Bytes b) {p : Int} (hp : 0 ≤ p) (hp2 : p ≤ 90000) :
    ∃ n l q, Ev (fun k => spec_l30AnyNet.f k b p) (n, l, q) ∧ l.length ≤ 13 ∧ 0 ≤ q ∧ q ≤ p + 200 ∧ n ≤ 1000000 := by
  obtain ⟨n, l, q, h1, h2, h3, h4, h5⟩ := l30AnyNet_ex9 hb hp hp2
  exact ⟨n, l, q, h1, h2, h3, h4, by omega⟩
theorem drawNearWalk_ex (c : List Int) (h : ∀ x ∈ c, (Lit.int .u8 x).wf = true) : ∃ n l a b, Ev (fun k => spec_DrawNearWalk.f k c) (n, l, a, b) ∧ l.length ≤ 13 := by
  obtain ⟨y, hb, ho⟩ := open_ex c h
  obtain ⟨n, l, q, he, h1, h2, h3, h4⟩ := l30AnyNet_ex hb (p := 0) (by omega) (by omega)
  obtain ⟨a, q1, e1, g1, g2⟩ := l30Node_ex hb h2 (by omega) n h4 l
  obtain ⟨b, q2, e2, g3, g4⟩ := l30Node_ex hb g1 (by omega) n h4 l
  unfold spec_DrawNearWalk.f
  simp only [ho, Option.bind_some]
  exact ⟨n, l, a, b, Ev.bind he (Ev.bind e1 (Ev.bind e2 (ev_now fun _ => rfl))), h1⟩
/-! ### a valid net -/
/-- What a valid net is. -/
structure Net1 (n : Int) (l : List S33) : Prop where
  lo : 1 ≤ n
  hi : n ≤ 8
  len : l.length ≤ 16
  ends : ∀ x ∈ l, 0 ≤ x.f0 ∧ x.f0 < n ∧ 0 ≤ x.f1 ∧ x.f1 < n ∧ x.f0 ≠ x.f1 ∧ 0 ≤ x.f2 ∧ x.f2 ≤ 99 ∧ 0 ≤ x.f3 ∧ x.f3 ≤ 99 ∧ 0 ≤ x.f4 ∧ x.f4 ≤ 9
theorem net1_of {n : Int} {l : List S33} (h : netOkB n l = true) : Net1 n l := by
  unfold netOkB at h
  simp only [Bool.and_eq_true, decide_eq_true_eq, inB_iff, Bool.not_eq_true'] at h
  obtain ⟨⟨h1, h2⟩, h3, h4⟩ := h
  refine ⟨h1, h2, h3, fun x hx => ?_⟩
  have h5 : arcBad n x = false := by
    cases h6 : arcBad n x with
    | false => rfl
    | true => rw [List.any_eq_true.2 ⟨x, hx, h6⟩] at h4; cases h4
  rw [arcBad_eq] at h5
  simp only [Bool.not_eq_false', Bool.and_eq_true, inB_iff, Bool.not_eq_true', beq_eq_false_iff_ne] at h5
  rw [w_id (n := n - 1) (by omega) (by omega)] at h5
  obtain ⟨a, b, c, d, e, f⟩ := h5
  exact ⟨a.1, by omega, b.1, by omega, c, d.1, d.2, e.1, e.2, f.1, f.2⟩
theorem netOk_of {n : Int} {l : List S33} (hn : Net1 n l) : netOkB n l = true := by
  unfold netOkB
  have hlo := hn.lo
  have hhi := hn.hi
  have hl := hn.len
  simp only [Bool.and_eq_true, decide_eq_true_eq, inB_iff, Bool.not_eq_true']
  refine ⟨⟨hlo, hhi⟩, hl, ?_⟩
  rw [List.any_eq_false]
  intro x hx
  obtain ⟨h1, h2, h3, h4, h5, h6, h7, h8, h9, h10, h11⟩ := hn.ends x hx
  have : arcBad n x = false := by
    rw [arcBad_eq]
    simp only [Bool.not_eq_false', Bool.and_eq_true, inB_iff, Bool.not_eq_true', beq_eq_false_iff_ne]
    rw [w_id (n := n - 1) (by omega) (by omega)]
    exact ⟨⟨h1, by omega⟩, ⟨h3, by omega⟩, h5, ⟨h6, h7⟩, ⟨h8, h9⟩, h10, h11⟩
  rw [this]; exact Bool.false_ne_true
/-! ### pairs of cost and toll: stairs, what is least in both, and walks -/
/-- The first costs less and has more toll. -/
def SR (p q : S35) : Prop := p.f0 < q.f0 ∧ q.f1 < p.f1
def leP (p q : S35) : Prop := p.f0 ≤ q.f0 ∧ p.f1 ≤ q.f1
def Stair (L : List S35) : Prop := L.Pairwise SR
theorem SR.trans {p q r : S35} (h1 : SR p q) (h2 : SR q r) : SR p r := ⟨by have := h1.1; have := h2.1; omega, by have := h1.2; have := h2.2; omega⟩
theorem stair_ext : ∀ L L' : List S35, Stair L → Stair L' → (∀ x, x ∈ L ↔ x ∈ L') → L = L'
  | [], [], _, _, _ => rfl
  | [], q :: r', _, _, h => absurd ((h q).2 (by simp)) (by simp)
  | p :: r, [], _, _, h => absurd ((h p).1 (by simp)) (by simp)
  | p :: r, q :: r', h1, h2, h => by
    unfold Stair at h1 h2
    rw [List.pairwise_cons] at h1 h2
    have e : p = q := by
      have hp := (h p).1 (by simp)
      have hq := (h q).2 (by simp)
      rw [List.mem_cons] at hp hq
      rcases hp with hp | hp
      · exact hp
      · rcases hq with hq | hq
        · exact hq.symm
        · have a := (h2.1 p hp).1
          have b := (h1.1 q hq).1
          omega
    subst e
    congr 1
    refine stair_ext r r' h1.2 h2.2 fun x => ?_
    constructor
    · intro hx
      have h3 := (h x).1 (by simp [hx])
      rw [List.mem_cons] at h3
      rcases h3 with rfl | h3
      · have := (h1.1 x hx).1; omega
      · exact h3
    · intro hx
      have h3 := (h x).2 (by simp [hx])
      rw [List.mem_cons] at h3
      rcases h3 with rfl | h3
      · have := (h2.1 x hx).1; omega
      · exact h3
/-- In a stair no two are one no worse than the other. -/
theorem stair_le {L : List S35} (h : Stair L) {p q : S35} (hp : p ∈ L) (hq : q ∈ L) (hle : leP p q) : p = q := by
  unfold Stair at h
  rw [List.pairwise_iff_getElem] at h
  obtain ⟨i, hi, rfl⟩ := List.getElem_of_mem hp
  obtain ⟨j, hj, rfl⟩ := List.getElem_of_mem hq
  rcases Nat.lt_trichotomy i j with c | c | c
  · have := (h i j hi hj c).2; have := hle.2; omega
  · subst c; rfl
  · have := (h j i hj hi c).1; have := hle.1; omega
theorem leP.trans {p q r : S35} (h1 : leP p q) (h2 : leP q r) : leP p r := ⟨Int.le_trans h1.1 h2.1, Int.le_trans h1.2 h2.2⟩
/-- Two stairs each of which has, for each of the other's, one that is no worse, are the same. -/
theorem stair_same {L L' : List S35} (h : Stair L) (h' : Stair L') (h1 : ∀ p ∈ L, ∃ q ∈ L', leP q p) (h2 : ∀ p ∈ L', ∃ q ∈ L, leP q p) : L = L' := by
  have key : ∀ {L L' : List S35}, Stair L → (∀ p ∈ L, ∃ q ∈ L', leP q p) → (∀ p ∈ L', ∃ q ∈ L, leP q p) → ∀ x, x ∈ L → x ∈ L' := by
    intro L L' h h1 h2 x hx
    obtain ⟨q, hq, hle⟩ := h1 x hx
    obtain ⟨r, hr, hle2⟩ := h2 q hq
    have e := stair_le h hr hx (hle2.trans hle)
    subst e
    have : q = r := by
      obtain ⟨q0, q1⟩ := q
      obtain ⟨r0, r1⟩ := r
      have a := hle.1; have b := hle.2; have c := hle2.1; have d := hle2.2
      simp only at a b c d
      rw [show q0 = r0 by omega, show q1 = r1 by omega]
    rw [← this]; exact hq
  exact stair_ext L L' h h' fun x => ⟨key h h1 h2 x, key h' h2 h1 x⟩
/-- L' is the stair of what is in L and A. -/
structure Join (L A L' : List S35) : Prop where
  stair : Stair L'
  sub : ∀ p ∈ L', p ∈ L ∨ p ∈ A
  low : ∀ p, p ∈ L ∨ p ∈ A → ∃ q ∈ L', leP q p
theorem leP.refl (p : S35) : leP p p := ⟨Int.le_refl _, Int.le_refl _⟩
theorem join_one {L A L' L'' : List S35} (h : Join L A L') (h' : Join L A L'') : L' = L'' :=
  stair_same h.stair h'.stair (fun p hp => h'.low p (h.sub p hp)) (fun p hp => h.low p (h'.sub p hp))
/-- A pair put among others that are a stair. -/
def insP (p : S35) : List S35 → Bool → List S35
  | [], put => if put = true then [] else [p]
  | q :: r, put => if q.f0 ≥ p.f0 ∧ q.f1 ≥ p.f1 then insP p r put else if put = false ∧ q.f0 > p.f0 then p :: q :: insP p r true else q :: insP p r put
theorem insP_true (p : S35) : ∀ L : List S35, (insP p L true).Sublist L := by
  intro L
  induction L with
  | nil => simp [insP]
  | cons q r ih =>
    unfold insP
    split
    · exact ih.cons q
    · simp only [Bool.true_eq_false, false_and, if_false]
      exact ih.cons_cons q
theorem insP_mem (p : S35) : ∀ (L : List S35) (put : Bool) (x : S35), x ∈ insP p L put → x ∈ L ∨ x = p := by
  intro L
  induction L with
  | nil => intro put x hx; unfold insP at hx; split at hx <;> simp_all
  | cons q r ih =>
    intro put x hx
    unfold insP at hx
    split at hx
    · rcases ih _ _ hx with h | h
      · exact .inl (by simp [h])
      · exact .inr h
    · split at hx
      · simp only [List.mem_cons] at hx
        rcases hx with h | h | h
        · exact .inr h
        · exact .inl (by simp [h])
        · rcases ih _ _ h with h | h
          · exact .inl (by simp [h])
          · exact .inr h
      · simp only [List.mem_cons] at hx
        rcases hx with h | h
        · exact .inl (by simp [h])
        · rcases ih _ _ h with h | h
          · exact .inl (by simp [h])
          · exact .inr h
theorem insP_kept (p : S35) : ∀ (L : List S35) (put : Bool) (x : S35), x ∈ L → ¬ (x.f0 ≥ p.f0 ∧ x.f1 ≥ p.f1) → x ∈ insP p L put := by
  intro L
  induction L with
  | nil => intro put x hx; cases hx
  | cons q r ih =>
    intro put x hx hn
    rw [List.mem_cons] at hx
    unfold insP
    split
    · rename_i c
      rcases hx with rfl | hx
      · exact absurd c hn
      · exact ih _ _ hx hn
    · split
      · rcases hx with rfl | hx
        · simp
        · simp [ih true x hx hn]
      · rcases hx with rfl | hx
        · simp
        · simp [ih put x hx hn]
theorem insP_self (p : S35) : ∀ (L : List S35), p ∈ insP p L false := by
  intro L
  induction L with
  | nil => simp [insP]
  | cons q r ih =>
    unfold insP
    split
    · exact ih
    · split
      · simp
      · simp [ih]
theorem insP_stair (p : S35) : ∀ L : List S35, Stair L → (∀ q ∈ L, ¬ leP q p) → Stair (insP p L false) := by
  intro L
  induction L with
  | nil => intro _ _; simp [insP, Stair]
  | cons q r ih =>
    intro h hn
    unfold Stair at h
    rw [List.pairwise_cons] at h
    have ih := ih h.2 fun x hx => hn x (by simp [hx])
    have hq := hn q (by simp)
    unfold leP at hq
    unfold insP
    split
    · exact ih
    · rename_i c1
      split
      · rename_i c2
        have hpq : SR p q := ⟨by omega, by omega⟩
        unfold Stair
        have hs : (q :: insP p r true).Sublist (q :: r) := (insP_true p r).cons_cons q
        have hall : ∀ x ∈ q :: r, SR p x := by
          intro x hx
          rw [List.mem_cons] at hx
          rcases hx with rfl | hx
          · exact hpq
          · exact hpq.trans (h.1 x hx)
        rw [List.pairwise_cons]
        exact ⟨fun x hx => hall x (hs.subset hx), List.Pairwise.sublist hs (List.pairwise_cons.2 h)⟩
      · rename_i c2
        have hqp : SR q p := by
          have : ¬ q.f0 > p.f0 := fun c => c2 ⟨rfl, c⟩
          exact ⟨by omega, by omega⟩
        unfold Stair
        rw [List.pairwise_cons]
        refine ⟨fun x hx => ?_, ih⟩
        rcases insP_mem p r false x hx with hx | rfl
        · exact h.1 x hx
        · exact hqp
/-- What l19Put tells. -/
def putP (L : List S35) (p : S35) : List S35 := if (L.any fun q => decide (q.f0 ≤ p.f0) && decide (q.f1 ≤ p.f1)) = true then L else insP p L false
theorem putP_join {L : List S35} (h : Stair L) (p : S35) : Join L [p] (putP L p) := by
  unfold putP
  split
  · rename_i c
    rw [List.any_eq_true] at c
    obtain ⟨q, hq, hle⟩ := c
    simp only [Bool.and_eq_true, decide_eq_true_eq] at hle
    refine ⟨h, fun x hx => .inl hx, fun x hx => ?_⟩
    rcases hx with hx | hx
    · exact ⟨x, hx, leP.refl x⟩
    · rw [List.mem_singleton] at hx
      subst hx
      exact ⟨q, hq, hle⟩
  · rename_i c
    have hn : ∀ q ∈ L, ¬ leP q p := by
      intro q hq hle
      apply c
      rw [List.any_eq_true]
      exact ⟨q, hq, by simp only [Bool.and_eq_true, decide_eq_true_eq]; exact hle⟩
    refine ⟨insP_stair p L h hn, fun x hx => ?_, fun x hx => ?_⟩
    · rcases insP_mem p L false x hx with hx | hx
      · exact .inl hx
      · exact .inr (by simp [hx])
    · rcases hx with hx | hx
      · by_cases c2 : x.f0 ≥ p.f0 ∧ x.f1 ≥ p.f1
        · exact ⟨p, insP_self p L, c2⟩
        · exact ⟨x, insP_kept p L false x hx c2, leP.refl x⟩
      · rw [List.mem_singleton] at hx
        subst hx
        exact ⟨x, insP_self x L, leP.refl x⟩
theorem join_trans {L A B L' L'' : List S35} (h1 : Join L A L') (h2 : Join L' B L'') : Join L (A ++ B) L'' := by
  refine ⟨h2.stair, fun p hp => ?_, fun p hp => ?_⟩
  · rcases h2.sub p hp with h | h
    · rcases h1.sub p h with h | h
      · exact .inl h
      · exact .inr (by simp [h])
    · exact .inr (by simp [h])
  · rw [List.mem_append] at hp
    have : (p ∈ L ∨ p ∈ A) ∨ p ∈ B := by
      rcases hp with h | h | h
      · exact .inl (.inl h)
      · exact .inl (.inr h)
      · exact .inr h
    rcases this with h | h
    · obtain ⟨q, hq, hle⟩ := h1.low p h
      obtain ⟨r, hr, hle2⟩ := h2.low q (.inl hq)
      exact ⟨r, hr, hle2.trans hle⟩
    · exact h2.low p (.inr h)
theorem join_nil {L : List S35} (h : Stair L) : Join L [] L := ⟨h, fun _ hp => .inl hp, fun p hp => by rcases hp with hp | hp; exact ⟨p, hp, leP.refl p⟩; cases hp⟩
/-- Of pairs by cost, then by toll: those with less toll than all ahead. -/
def keepP : List S35 → Option Int → List S35
  | [], _ => []
  | p :: r, none => p :: keepP r (some p.f1)
  | p :: r, some t => if p.f1 < t then p :: keepP r (some p.f1) else keepP r (some t)
def Lex (p q : S35) : Prop := p.f0 < q.f0 ∨ p.f0 = q.f0 ∧ p.f1 ≤ q.f1
theorem keepP_sub : ∀ (L : List S35) (b : Option Int) (x : S35), x ∈ keepP L b → x ∈ L ∧ ∀ t, b = some t → x.f1 < t := by
  intro L
  induction L with
  | nil => intro b x hx; simp [keepP] at hx
  | cons p r ih =>
    intro b x hx
    cases b with
    | none =>
      simp only [keepP, List.mem_cons] at hx
      refine ⟨?_, fun t ht => by cases ht⟩
      rcases hx with rfl | hx
      · simp
      · simp [(ih _ _ hx).1]
    | some t =>
      simp only [keepP] at hx
      split at hx
      · rename_i c
        rw [List.mem_cons] at hx
        rcases hx with rfl | hx
        · exact ⟨by simp, fun t' ht => by injection ht with ht; omega⟩
        · have := ih _ _ hx
          refine ⟨by simp [this.1], fun t' ht => ?_⟩
          have h2 := this.2 _ rfl
          injection ht with ht
          omega
      · have := ih _ _ hx
        exact ⟨by simp [this.1], this.2⟩
theorem keepP_stair : ∀ (L : List S35) (b : Option Int), L.Pairwise Lex → Stair (keepP L b) := by
  intro L
  induction L with
  | nil => intro b _; simp [keepP, Stair]
  | cons p r ih =>
    intro b h
    rw [List.pairwise_cons] at h
    have key : Stair (p :: keepP r (some p.f1)) := by
      unfold Stair
      rw [List.pairwise_cons]
      refine ⟨fun x hx => ?_, ih _ h.2⟩
      have h1 := keepP_sub r _ x hx
      have h2 := h.1 x h1.1
      have h3 := h1.2 _ rfl
      unfold Lex at h2
      exact ⟨by omega, h3⟩
    cases b with
    | none => exact key
    | some t =>
      simp only [keepP]
      split
      · exact key
      · exact ih _ h.2
theorem keepP_low : ∀ (L : List S35) (b : Option Int), L.Pairwise Lex → ∀ x ∈ L, (∃ q ∈ keepP L b, leP q x) ∨ ∃ t, b = some t ∧ t ≤ x.f1 := by
  intro L
  induction L with
  | nil => intro b _ x hx; cases hx
  | cons p r ih =>
    intro b h x hx
    rw [List.pairwise_cons] at h
    have key : ∃ q ∈ p :: keepP r (some p.f1), leP q x := by
      rw [List.mem_cons] at hx
      rcases hx with rfl | hx
      · exact ⟨x, by simp, leP.refl x⟩
      · rcases ih (some p.f1) h.2 x hx with ⟨q, hq, hle⟩ | ⟨t, ht, hle⟩
        · exact ⟨q, by simp [hq], hle⟩
        · injection ht with ht
          have := h.1 x hx
          unfold Lex at this
          exact ⟨p, by simp, by omega, by omega⟩
    cases b with
    | none => exact .inl key
    | some t =>
      simp only [keepP]
      split
      · exact .inl key
      · rename_i c
        rw [List.mem_cons] at hx
        rcases hx with rfl | hx
        · exact .inr ⟨t, rfl, by omega⟩
        · exact ih (some t) h.2 x hx
/-- What is kept of pairs put in order is their stair. -/
theorem keepP_join {L A S : List S35} (hS : S.Pairwise Lex) (hm : ∀ x, x ∈ S ↔ x ∈ L ∨ x ∈ A) : Join L A (keepP S none) := by
  refine ⟨keepP_stair S none hS, fun p hp => (hm p).1 (keepP_sub S none p hp).1, fun p hp => ?_⟩
  rcases keepP_low S none hS p ((hm p).2 hp) with h | ⟨t, ht, _⟩
  · exact h
  · cases ht
/-! walks, by cost and toll -/
/-- A walk from a node: what it costs, its toll, and how many arcs. -/
inductive Pays (l : List S33) (s : Int) : Int → Int → Int → Nat → Prop
  | nil : Pays l s s 0 0 0
  | snoc {x : S33} {c t : Int} {m : Nat} : Pays l s x.f0 c t m → x ∈ l → Pays l s x.f1 (c + x.f2) (t + x.f3) (m + 1)
/-- One that comes to no node twice: its nodes. -/
inductive Plain (l : List S33) (s : Int) : Int → Int → Int → List Int → Prop
  | nil : Plain l s s 0 0 [s]
  | snoc {x : S33} {c t : Int} {ns : List Int} : Plain l s x.f0 c t ns → x ∈ l → x.f1 ∉ ns → Plain l s x.f1 (c + x.f2) (t + x.f3) (x.f1 :: ns)
theorem Pays.rng {n : Int} {l : List S33} (hn : Net1 n l) {s v c t : Int} {m : Nat} (h : Pays l s v c t m) : 0 ≤ c ∧ c ≤ 99 * (m : Int) ∧ 0 ≤ t ∧ t ≤ 99 * (m : Int) := by
  induction h with
  | nil => simp
  | @snoc x c t m _ hx ih =>
    obtain ⟨_, _, _, _, _, h1, h2, h3, h4, _⟩ := hn.ends _ hx
    omega
theorem Plain.cut {n : Int} {l : List S33} (hn : Net1 n l) {s v c t : Int} {ns : List Int} (h : Plain l s v c t ns) : ∀ u ∈ ns, ∃ c' t' ns', Plain l s u c' t' ns' ∧ c' ≤ c ∧ t' ≤ t := by
  induction h with
  | nil => intro u hu; rw [List.mem_singleton] at hu; subst hu; exact ⟨0, 0, _, Plain.nil, Int.le_refl _, Int.le_refl _⟩
  | @snoc x c t ns hp hx hns ih =>
    intro u hu
    obtain ⟨_, _, _, _, _, h1, _, h3, _⟩ := hn.ends _ hx
    rw [List.mem_cons] at hu
    rcases hu with rfl | hu
    · exact ⟨_, _, _, Plain.snoc hp hx hns, Int.le_refl _, Int.le_refl _⟩
    · obtain ⟨c', t', ns', a, b, d⟩ := ih u hu
      exact ⟨c', t', ns', a, by omega, by omega⟩
theorem Pays.plain {n : Int} {l : List S33} (hn : Net1 n l) {s v c t : Int} {m : Nat} (h : Pays l s v c t m) : ∃ c' t' ns, Plain l s v c' t' ns ∧ c' ≤ c ∧ t' ≤ t := by
  induction h with
  | nil => exact ⟨0, 0, _, Plain.nil, Int.le_refl _, Int.le_refl _⟩
  | @snoc x c t m _ hx ih =>
    obtain ⟨c', t', ns, hp, h1, h2⟩ := ih
    by_cases hm : x.f1 ∈ ns
    · obtain ⟨_, _, _, _, _, g1, _, g3, _⟩ := hn.ends _ hx
      obtain ⟨c2, t2, ns2, hp2, h3, h4⟩ := hp.cut hn _ hm
      exact ⟨c2, t2, ns2, hp2, by omega, by omega⟩
    · exact ⟨_, _, _, Plain.snoc hp hx hm, by omega, by omega⟩
theorem nodup_len (k : Nat) : ∀ L : List Int, L.Nodup → (∀ x ∈ L, 0 ≤ x ∧ x < (k : Int)) → L.length ≤ k := by
  induction k with
  | zero =>
    intro L _ h
    cases L with
    | nil => simp
    | cons x r => have := h x (by simp); omega
  | succ k ih =>
    intro L hd h
    by_cases hk : (k : Int) ∈ L
    · have h1 := ih (L.erase (k : Int)) (hd.erase _) fun x hx => by
        have hx' := (hd.mem_erase_iff).1 hx
        have := h x hx'.2
        have := hx'.1
        omega
      rw [List.length_erase_of_mem hk] at h1
      omega
    · have := ih L hd fun x hx => by
        have h2 := h x hx
        have : x ≠ (k : Int) := fun e => hk (e ▸ hx)
        omega
      omega
theorem Plain.few {n : Int} {l : List S33} (hn : Net1 n l) {s v c t : Int} (hs : 0 ≤ s ∧ s < n) {ns : List Int} (h : Plain l s v c t ns) : ∃ m : Nat, m + 1 = ns.length ∧ ns.length ≤ n.toNat ∧ Pays l s v c t m := by
  have key : ns.Nodup ∧ (∀ x ∈ ns, 0 ≤ x ∧ x < n) ∧ ∃ m : Nat, m + 1 = ns.length ∧ Pays l s v c t m := by
    induction h with
    | nil => exact ⟨by simp, by intro x hx; rw [List.mem_singleton] at hx; subst hx; exact hs, 0, rfl, Pays.nil⟩
    | @snoc x c t ns _ hx hns ih =>
      obtain ⟨h1, h2, m, hm, hp⟩ := ih
      obtain ⟨_, _, e3, e4, _⟩ := hn.ends _ hx
      refine ⟨List.nodup_cons.2 ⟨hns, h1⟩, ?_, m + 1, by simp [hm], Pays.snoc hp hx⟩
      intro y hy
      rw [List.mem_cons] at hy
      rcases hy with rfl | hy
      · exact ⟨e3, e4⟩
      · exact h2 y hy
  obtain ⟨h1, h2, m, hm, hp⟩ := key
  have hlo := hn.lo
  exact ⟨m, hm, nodup_len n.toNat ns h1 (fun x hx => by have := h2 x hx; omega), hp⟩
/-- The pairs of all walks to a node, those alone that no other one is no worse than. -/
structure FinP (l : List S33) (s v : Int) (L : List S35) : Prop where
  stair : Stair L
  real : ∀ p ∈ L, ∃ m, Pays l s v p.f0 p.f1 m
  low : ∀ c t m, Pays l s v c t m → ∃ p ∈ L, p.f0 ≤ c ∧ p.f1 ≤ t
theorem fin_one {l : List S33} {s v : Int} {L L' : List S35} (h : FinP l s v L) (h' : FinP l s v L') : L = L' := by
  refine stair_same h.stair h'.stair (fun p hp => ?_) (fun p hp => ?_)
  · obtain ⟨m, hm⟩ := h.real p hp
    exact h'.low _ _ _ hm
  · obtain ⟨m, hm⟩ := h'.real p hp
    exact h.low _ _ _ hm
/-! ### rounds that end somewhere -/
theorem ev_ex {σ β : Type} (g : Nat → σ → Option β) (μ : σ → Nat) (Inv : σ → Prop) (P : β → Prop)
    (h : ∀ s, Inv s → (∀ s', Inv s' → μ s' < μ s → ∃ r, P r ∧ Ev (fun k => g k s') r) → ∃ r, P r ∧ Ev (fun k => g (k + 1) s) r) : ∀ s, Inv s → ∃ r, P r ∧ Ev (fun k => g k s) r := by
  have key : ∀ n s, μ s ≤ n → Inv s → ∃ r, P r ∧ Ev (fun k => g k s) r := by
    intro n
    induction n with
    | zero => intro s hs hi; obtain ⟨r, hp, he⟩ := h s hi (fun s' _ hlt => absurd hlt (by omega)); exact ⟨r, hp, ev_shift he⟩
    | succ n ih => intro s hs hi; obtain ⟨r, hp, he⟩ := h s hi (fun s' hi' hlt => ih s' (by omega) hi'); exact ⟨r, hp, ev_shift he⟩
  exact fun s hi => key _ s (Nat.le_refl _) hi
/-! ### rounds over arcs: pairs -/
theorem rdl_set (D : List (List S35)) (i j : Int) (v : List S35) (hi : 0 ≤ i) (hl : i < (D.length : Int)) (hj : 0 ≤ j) : rd_L3 (D.set i.toNat v) j = if i = j then v else rd_L3 D j := by
  unfold rd_L3
  rw [List.getD_eq_getElem?_getD, List.getElem?_set, List.getD_eq_getElem?_getD]
  by_cases e : i = j
  · subst e
    rw [if_pos rfl, if_pos rfl, if_pos (by omega)]
    rfl
  · rw [if_neg e, if_neg (by omega)]
/-- Pairs, one arc on. -/
def shiftP (x : S33) (L : List S35) : List S35 := L.map fun p => ⟨p.f0 + x.f2, p.f1 + x.f3⟩
structure PInv (n : Int) (l : List S33) (s : Int) (M : Nat) (d : List (List S35)) : Prop where
  len : (d.length : Int) = n
  stair : ∀ v, 0 ≤ v → v < n → Stair (rd_L3 d v)
  real : ∀ v, 0 ≤ v → v < n → ∀ p ∈ rd_L3 d v, ∃ m, m ≤ M ∧ Pays l s v p.f0 p.f1 m
def PCov (l : List S33) (s : Int) (r : Nat) (d : List (List S35)) : Prop := ∀ v c t m, Pays l s v c t m → m ≤ r → ∃ p ∈ rd_L3 d v, p.f0 ≤ c ∧ p.f1 ≤ t
/-- Nothing is lost. -/
def PLe (n : Int) (d d' : List (List S35)) : Prop := ∀ v, 0 ≤ v → v < n → ∀ p ∈ rd_L3 d v, ∃ q ∈ rd_L3 d' v, leP q p
theorem PLe.refl (n : Int) (d : List (List S35)) : PLe n d d := fun _ _ _ p hp => ⟨p, hp, leP.refl p⟩
theorem PLe.trans {n : Int} {d d' d'' : List (List S35)} (h1 : PLe n d d') (h2 : PLe n d' d'') : PLe n d d'' := fun v v0 v1 p hp => by
  obtain ⟨q, hq, hle⟩ := h1 v v0 v1 p hp
  obtain ⟨r, hr, hle2⟩ := h2 v v0 v1 q hq
  exact ⟨r, hr, hle2.trans hle⟩
/-- An arc is gone: from each pair at its first node one no worse at its second. -/
def PGone (x : S33) (d d' : List (List S35)) : Prop := ∀ p ∈ rd_L3 d x.f0, ∃ q ∈ rd_L3 d' x.f1, q.f0 ≤ p.f0 + x.f2 ∧ q.f1 ≤ p.f1 + x.f3
theorem PInv.relax {n : Int} {l : List S33} (hn : Net1 n l) {s : Int} {M : Nat} {d : List (List S35)} (h : PInv n l s M d) {y : S33} (hy : y ∈ l) {J : List S35} (hJ : Join (rd_L3 d y.f1) (shiftP y (rd_L3 d y.f0)) J) :
    PInv n l s (M + 1) (d.set y.f1.toNat J) ∧ PLe n d (d.set y.f1.toNat J) ∧ PGone y d (d.set y.f1.toNat J) := by
  obtain ⟨e1, e2, e3, e4, e5, _⟩ := hn.ends y hy
  have hl := h.len
  have hc : ∀ v, 0 ≤ v → rd_L3 (d.set y.f1.toNat J) v = if y.f1 = v then J else rd_L3 d v := fun v v0 => rdl_set d y.f1 v J e3 (by omega) v0
  refine ⟨⟨by rw [List.length_set]; exact hl, fun v v0 v1 => ?_, fun v v0 v1 p hp => ?_⟩, fun v v0 v1 p hp => ?_, fun p hp => ?_⟩
  · rw [hc v v0]
    split
    · exact hJ.stair
    · exact h.stair v v0 v1
  · rw [hc v v0] at hp
    by_cases e : y.f1 = v
    · rw [if_pos e] at hp
      subst e
      rcases hJ.sub p hp with hp | hp
      · obtain ⟨m, h1, h2⟩ := h.real _ e3 e4 p hp
        exact ⟨m, by omega, h2⟩
      · obtain ⟨q, hq, rfl⟩ := List.mem_map.1 hp
        obtain ⟨m, h1, h2⟩ := h.real _ e1 e2 q hq
        exact ⟨m + 1, by omega, Pays.snoc h2 hy⟩
    · rw [if_neg e] at hp
      obtain ⟨m, h1, h2⟩ := h.real v v0 v1 p hp
      exact ⟨m, by omega, h2⟩
  · rw [hc v v0]
    by_cases e : y.f1 = v
    · rw [if_pos e]
      subst e
      exact hJ.low p (.inl hp)
    · rw [if_neg e]
      exact ⟨p, hp, leP.refl p⟩
  · rw [hc _ e3, if_pos rfl]
    obtain ⟨q, hq, hle⟩ := hJ.low ⟨p.f0 + y.f2, p.f1 + y.f3⟩ (.inr (List.mem_map.2 ⟨p, hp, rfl⟩))
    exact ⟨q, hq, hle.1, hle.2⟩
theorem PGone.on {n : Int} {l : List S33} (hn : Net1 n l) {x : S33} (hx : x ∈ l) {d d' d'' : List (List S35)} (h : PGone x d d') (h2 : PLe n d' d'') : PGone x d d'' := fun p hp => by
  obtain ⟨_, _, e3, e4, _⟩ := hn.ends x hx
  obtain ⟨q, hq, a, b⟩ := h p hp
  obtain ⟨r, hr, hle⟩ := h2 _ e3 e4 q hq
  exact ⟨r, hr, Int.le_trans hle.1 a, Int.le_trans hle.2 b⟩
theorem PGone.of {n : Int} {l : List S33} (hn : Net1 n l) {x : S33} (hx : x ∈ l) {d0 d d' : List (List S35)} (h0 : PLe n d0 d) (h : PGone x d d') : PGone x d0 d' := fun p hp => by
  obtain ⟨e1, e2, _⟩ := hn.ends x hx
  obtain ⟨q, hq, hle⟩ := h0 _ e1 e2 p hp
  obtain ⟨r, hr, a, b⟩ := h q hq
  have := hle.1
  have := hle.2
  exact ⟨r, hr, by omega, by omega⟩
theorem Pays.node {n : Int} {l : List S33} (hn : Net1 n l) {s : Int} (hs : 0 ≤ s ∧ s < n) {v c t : Int} {m : Nat} (h : Pays l s v c t m) : 0 ≤ v ∧ v < n := by
  cases h with
  | nil => exact hs
  | snoc _ hx =>
    obtain ⟨_, _, e3, e4, _⟩ := hn.ends _ hx
    exact ⟨e3, e4⟩
theorem PCov.next {n : Int} {l : List S33} (hn : Net1 n l) {s : Int} (hs : 0 ≤ s ∧ s < n) {r : Nat} {d d' : List (List S35)} (h : PCov l s r d) (hle : PLe n d d') (hg : ∀ x ∈ l, PGone x d d') : PCov l s (r + 1) d' := by
  intro v c t m hp hm
  cases hp with
  | nil =>
    obtain ⟨p, hp, a, b⟩ := h _ _ _ _ Pays.nil (Nat.zero_le _)
    obtain ⟨q, hq, hl⟩ := hle _ hs.1 hs.2 p hp
    exact ⟨q, hq, Int.le_trans hl.1 a, Int.le_trans hl.2 b⟩
  | snoc h1 hx =>
    obtain ⟨p, hp, a, b⟩ := h _ _ _ _ h1 (by omega)
    obtain ⟨q, hq, a2, b2⟩ := hg _ hx p hp
    exact ⟨q, hq, by omega, by omega⟩
/-- Where no arc brings more, all walks are told. -/
theorem PCov.closed {l : List S33} {s : Int} {d : List (List S35)} (h : PCov l s 0 d) (hg : ∀ x ∈ l, PGone x d d) : ∀ r, PCov l s r d := by
  intro r v c t m hp _
  induction hp with
  | nil => exact h _ _ _ _ Pays.nil (Nat.le_refl _)
  | snoc h1 hx ih =>
    obtain ⟨p, hp, a, b⟩ := ih (by omega)
    obtain ⟨q, hq, a2, b2⟩ := hg _ hx p hp
    exact ⟨q, hq, by omega, by omega⟩
theorem PInv.fin {n : Int} {l : List S33} (hn : Net1 n l) {s : Int} (hs : 0 ≤ s ∧ s < n) {M : Nat} {d : List (List S35)} (h : PInv n l s M d) (hc : PCov l s n.toNat d) {v : Int} (v0 : 0 ≤ v) (v1 : v < n) : FinP l s v (rd_L3 d v) := by
  refine ⟨h.stair v v0 v1, fun p hp => ?_, fun c t m hp => ?_⟩
  · obtain ⟨m, _, hm⟩ := h.real v v0 v1 p hp
    exact ⟨m, hm⟩
  · obtain ⟨c', t', ns, h1, h2, h3⟩ := hp.plain hn
    obtain ⟨m', h4, h5, h6⟩ := h1.few hn hs
    obtain ⟨q, hq, a, b⟩ := hc _ _ _ _ h6 (by omega)
    exact ⟨q, hq, by omega, by omega⟩
/-- Where all is told an arc brings nothing. -/
theorem fin_still {n : Int} {l : List S33} {s : Int} {d : List (List S35)} {y : S33} (hy : y ∈ l) (h0 : FinP l s y.f0 (rd_L3 d y.f0)) (h1 : FinP l s y.f1 (rd_L3 d y.f1)) {J : List S35} (hJ : Join (rd_L3 d y.f1) (shiftP y (rd_L3 d y.f0)) J) : J = rd_L3 d y.f1 := by
  refine fin_one (l := l) (s := s) (v := y.f1) ⟨hJ.stair, fun p hp => ?_, fun c t m hp => ?_⟩ h1
  · rcases hJ.sub p hp with hp | hp
    · exact h1.real p hp
    · obtain ⟨q, hq, rfl⟩ := List.mem_map.1 hp
      obtain ⟨m, hm⟩ := h0.real q hq
      exact ⟨m + 1, Pays.snoc hm hy⟩
  · obtain ⟨p, hp, a, b⟩ := h1.low c t m hp
    obtain ⟨q, hq, hle⟩ := hJ.low p (.inl hp)
    exact ⟨q, hq, Int.le_trans hle.1 a, Int.le_trans hle.2 b⟩
/-- How long a stair is. -/
theorem stair_len : ∀ (L : List S35) (a : Int) (b : Int), Stair L → (∀ p ∈ L, a ≤ p.f0 ∧ p.f0 ≤ b) → a ≤ b + 1 → (L.length : Int) ≤ b - a + 1
  | [], a, b, _, _, h => by simp; omega
  | p :: r, a, b, hs, hb, _ => by
    unfold Stair at hs
    rw [List.pairwise_cons] at hs
    have hp := hb p (by simp)
    have := stair_len r (p.f0 + 1) b hs.2 (fun q hq => ⟨by have := (hs.1 q hq).1; omega, (hb q (by simp [hq])).2⟩) (by omega)
    rw [List.length_cons]
    omega
theorem PInv.sizes {n : Int} {l : List S33} (hn : Net1 n l) {s : Int} {M : Nat} {d : List (List S35)} (h : PInv n l s M d) (hM : M ≤ 1000) {v : Int} (v0 : 0 ≤ v) (v1 : v < n) : (rd_L3 d v).length ≤ 99001 ∧ ∀ p ∈ rd_L3 d v, 0 ≤ p.f0 ∧ p.f0 ≤ 99000 ∧ 0 ≤ p.f1 ∧ p.f1 ≤ 99000 := by
  have hb : ∀ p ∈ rd_L3 d v, 0 ≤ p.f0 ∧ p.f0 ≤ 99000 ∧ 0 ≤ p.f1 ∧ p.f1 ≤ 99000 := fun p hp => by
    obtain ⟨m, hm, hw⟩ := h.real v v0 v1 p hp
    have := hw.rng hn
    omega
  have := stair_len _ 0 99000 (h.stair v v0 v1) (fun p hp => ⟨(hb p hp).1, (hb p hp).2.1⟩) (by omega)
  exact ⟨by omega, hb⟩
theorem pinv_start {n : Int} {l : List S33} (hn : Net1 n l) {s : Int} (hs : 0 ≤ s ∧ s < n) : PInv n l s 0 ((List.replicate n.toNat ([] : List S35)).set s.toNat [⟨0, 0⟩]) ∧ PCov l s 0 ((List.replicate n.toNat ([] : List S35)).set s.toNat [⟨0, 0⟩]) := by
  have hl : ((List.replicate n.toNat ([] : List S35)).length : Int) = n := by rw [List.length_replicate]; omega
  have hc : ∀ v, 0 ≤ v → rd_L3 ((List.replicate n.toNat ([] : List S35)).set s.toNat [⟨0, 0⟩]) v = if s = v then [⟨0, 0⟩] else [] := fun v v0 => by
    rw [rdl_set _ s v _ hs.1 (by omega) v0]
    split
    · rfl
    · unfold rd_L3
      rw [List.getD_eq_getElem?_getD, List.getElem?_replicate]
      split <;> rfl
  refine ⟨⟨by rw [List.length_set]; exact hl, fun v v0 v1 => ?_, fun v v0 v1 p hp => ?_⟩, fun v c t m hp hm => ?_⟩
  · rw [hc v v0]
    split <;> simp [Stair]
  · rw [hc v v0] at hp
    split at hp
    · rename_i e
      rw [List.mem_singleton] at hp
      subst hp
      subst e
      exact ⟨0, Nat.le_refl _, Pays.nil⟩
    · cases hp
  · have hm0 : m = 0 := by omega
    subst hm0
    cases hp
    rw [hc s hs.1, if_pos rfl]
    exact ⟨_, List.mem_singleton.2 rfl, Int.le_refl _, Int.le_refl _⟩
/-- How large the pairs are that are told. -/
theorem FinP.size {n : Int} {l : List S33} (hn : Net1 n l) {s : Int} (hs : 0 ≤ s ∧ s < n) {v : Int} {L : List S35} (h : FinP l s v L) : L.length ≤ 694 ∧ ∀ p ∈ L, 0 ≤ p.f0 ∧ p.f0 ≤ 693 ∧ 0 ≤ p.f1 ∧ p.f1 ≤ 693 := by
  have hhi := hn.hi
  have hlo := hn.lo
  have hb : ∀ p ∈ L, 0 ≤ p.f0 ∧ p.f0 ≤ 693 ∧ 0 ≤ p.f1 ∧ p.f1 ≤ 693 := fun p hp => by
    obtain ⟨m, hm⟩ := h.real p hp
    obtain ⟨c', t', ns, h1, h2, h3⟩ := hm.plain hn
    obtain ⟨m', h4, h5, h6⟩ := h1.few hn hs
    obtain ⟨q, hq, a, b⟩ := h.low _ _ _ h6
    have e := stair_le h.stair hq hp ⟨by omega, by omega⟩
    rw [e] at a b
    have := h6.rng hn
    have := hm.rng hn
    omega
  have := stair_len L 0 693 h.stair (fun p hp => ⟨(hb p hp).1, (hb p hp).2.1⟩) (by omega)
  exact ⟨by omega, hb⟩
/-! ### the program's pairs -/
theorem rdP_eq (xs : List (List S35)) (i : Int) : rdP xs i = rd_L3 xs i := rfl
theorem sortPair_lex (l : List S35) : (sortPair l).Pairwise Lex := by
  unfold sortPair
  have h := List.pairwise_mergeSort (le := fun x y => !(ltOf cmpPair) y x) (fun a b c h1 h2 => by
    simp only [ltPair, Bool.not_eq_true', decide_eq_false_iff_not] at *
    omega) (fun a b => by
    simp only [ltPair, Bool.or_eq_true, Bool.not_eq_true', decide_eq_false_iff_not]
    omega) l
  refine h.imp ?_
  intro a b hab
  simp only [ltPair, Bool.not_eq_true', decide_eq_false_iff_not] at hab
  unfold Lex
  omega
theorem sortPair_mem (l : List S35) (x : S35) : x ∈ sortPair l ↔ x ∈ l := List.mem_mergeSort
theorem stairP_keep : ∀ (S o : List S35) (q : S35), stairP S (o ++ [q]) = o ++ [q] ++ keepP S (some q.f1)
  | [], o, q => by simp [stairP, keepP]
  | p :: r, o, q => by
    have e : rd_T35 (o ++ [q]) (((o ++ [q]).length - 1 : Nat) : Int) = q := by simp [rd_T35]
    rw [stairP, e, keepP]
    by_cases c : p.f1 < q.f1
    · rw [if_pos (.inr c), if_pos c, stairP_keep r (o ++ [q]) p]
      simp
    · rw [if_neg (by rintro (z | z); (simp at z); exact c z), if_neg c, stairP_keep r o q]
theorem stairP_none (S : List S35) : stairP S [] = keepP S none := by
  cases S with
  | nil => rfl
  | cons p r =>
    rw [stairP, if_pos (.inl rfl), stairP_keep r [] p, keepP]
    rfl
theorem front_join (L A : List S35) : Join L A (frontP (L ++ A)) := by
  unfold frontP
  rw [stairP_none]
  exact keepP_join (sortPair_lex _) fun x => by rw [sortPair_mem, List.mem_append]
/-! equal -/
def eqPB : List S35 → List S35 → Bool
  | [], [] => true
  | p :: r, q :: s => decide (p.f0 = q.f0) && (decide (p.f1 = q.f1) && eqPB r s)
  | [], _ :: _ => false
  | _ :: _, [] => false
theorem eqPB_iff : ∀ a b : List S35, eqPB a b = true ↔ a = b
  | [], [] => by simp [eqPB]
  | p :: r, q :: s => by
    obtain ⟨p0, p1⟩ := p
    obtain ⟨q0, q1⟩ := q
    rw [eqPB, Bool.and_eq_true, Bool.and_eq_true, decide_eq_true_eq, decide_eq_true_eq, eqPB_iff r s]
    constructor
    · rintro ⟨h1, h2, h3⟩; simp only at h1 h2; rw [h1, h2, h3]
    · intro h; injection h with h1 h2; injection h1 with h3 h4; exact ⟨h3, h4, h2⟩
  | [], _ :: _ => by simp [eqPB]
  | _ :: _, [] => by simp [eqPB]
theorem pair_at (l : List S35) (i : Nat) (h : i < l.length) : rd_T35 l (i : Int) = l[i] := by simp [rd_T35, h]
theorem eqP_ev (a b : List S35) (hl : a.length ≤ 9223372036854775807) : Ev (fun k => impl_Pair_71.f k a b) (eqPB a b) := by
  unfold impl_Pair_71.f
  by_cases e : (a.length : Int) = (b.length : Int)
  · simp only [e, if_true]
    rw [← e]
    have key : ∀ i : Nat, i ≤ a.length → Ev (fun k => impl_Pair_71.l0 k a b (a.length : Int) (i : Int)) (eqPB (a.drop i) (b.drop i)) := by
      refine ev_ind (fun k (i : Nat) => impl_Pair_71.l0 k a b (a.length : Int) (i : Int)) (fun i => a.length - i) (fun i => i ≤ a.length) (fun i => eqPB (a.drop i) (b.drop i)) ?_
      intro i hi ih
      by_cases h : i < a.length
      · have hb : i < b.length := by omega
        have hlt : (i : Int) < (a.length : Int) := by omega
        have hlt' : (i : Int) < (b.length : Int) := by omega
        have h0 : (0 : Int) ≤ (i : Int) := by omega
        simp only [impl_Pair_71.l0, hlt, hlt', h0, if_true, pair_at a i h, pair_at b i hb, wsucc h hl]
        rw [List.drop_eq_getElem_cons h, List.drop_eq_getElem_cons hb, eqPB]
        have ih := ih (i + 1) (by omega) (by omega)
        by_cases c0 : a[i].f0 = b[i].f0
        · by_cases c1 : a[i].f1 = b[i].f1
          · simpa [c0, c1] using ih
          · exact ev_now fun k => by simp [c0, c1]
        · exact ev_now fun k => by simp [c0]
      · have hlt : ¬ (i : Int) < (a.length : Int) := by omega
        simp only [impl_Pair_71.l0, hlt, if_false]
        rw [List.drop_of_length_le (by omega), List.drop_of_length_le (by omega), eqPB]
        exact ev_now fun _ => rfl
    exact key 0 (Nat.zero_le _)
  · simp only [e, if_false]
    refine ev_at (ev_now fun _ => rfl) ?_
    have : ¬ eqPB a b = true := fun h => by rw [eqPB_iff] at h; exact e (by rw [h])
    simpa using this
/-! one arc -/
theorem PInv.mono {n : Int} {l : List S33} {s : Int} {M M' : Nat} {d : List (List S35)} (h : PInv n l s M d) (hM : M ≤ M') : PInv n l s M' d := ⟨h.len, h.stair, fun v v0 v1 p hp => by obtain ⟨m, h1, h2⟩ := h.real v v0 v1 p hp; exact ⟨m, by omega, h2⟩⟩
theorem rel_join {n : Int} {l : List S33} (hn : Net1 n l) {s : Int} {M : Nat} {d : List (List S35)} (h : PInv n l s M d) (hM : M ≤ 1000) {y : S33} (hy : y ∈ l) : Join (rd_L3 d y.f1) (shiftP y (rd_L3 d y.f0)) (relP d y) := by
  obtain ⟨e1, e2, e3, e4, e5, g1, g2, g3, g4, _⟩ := hn.ends y hy
  have hs := (h.sizes hn hM e1 e2).2
  have e : (rdP d y.f0).map (shW y) = shiftP y (rd_L3 d y.f0) := by
    unfold shiftP
    refine List.map_congr_left fun p hp => ?_
    have := hs p hp
    unfold shW
    rw [w_id (n := p.f0 + y.f2) (by omega) (by omega), w_id (n := p.f1 + y.f3) (by omega) (by omega)]
  unfold relP
  rw [e]
  exact front_join _ _
theorem set_self (d : List (List S35)) (i : Int) : d.set i.toNat (rd_L3 d i) = d := by
  unfold rd_L3
  apply List.ext_getElem?
  intro j
  rw [List.getElem?_set]
  split
  · rename_i e
    subst e
    split
    · rename_i c
      rw [List.getD_eq_getElem?_getD, List.getElem?_eq_getElem c]
      rfl
    · rename_i c
      rw [List.getElem?_eq_none (by omega)]
  · rfl
theorem arcF_ev {n : Int} {l : List S33} (hn : Net1 n l) {s : Int} {M : Nat} {d : List (List S35)} (h : PInv n l s M d) (hM : M ≤ 900) {y : S33} (hy : y ∈ l) (ch : Bool) :
    ∃ c : Bool, Ev (fun k => arcF k d y ch) (d.set y.f1.toNat (relP d y), c) ∧ (c = false → ch = false ∧ relP d y = rd_L3 d y.f1) ∧ (relP d y = rd_L3 d y.f1 → c = ch) := by
  obtain ⟨e1, e2, e3, e4, e5, _⟩ := hn.ends y hy
  have hj := rel_join hn h (by omega) hy
  have hl := h.len
  have s0 := (h.sizes hn (by omega) e1 e2).1
  have s1 := (h.sizes hn (by omega) e3 e4).1
  have sJ : (relP d y).length ≤ 99001 := by
    have := ((h.relax hn hy hj).1.sizes hn (by omega) e3 e4).1
    rwa [rdl_set d y.f1 y.f1 _ e3 (by omega) e3, if_pos rfl] at this
  have hok : arcOkP d y := ⟨⟨e1, by omega⟩, ⟨e3, by omega⟩, by rw [rdP_eq, rdP_eq]; omega⟩
  have he := eqP_ev (relP d y) (rdP d y.f1) (by omega)
  cases hb : eqPB (relP d y) (rdP d y.f1) with
  | true =>
    rw [hb] at he
    have e := (eqPB_iff _ _).1 hb
    rw [rdP_eq] at e
    refine ⟨ch, ?_, fun hc => ⟨hc, e⟩, fun _ => rfl⟩
    unfold arcF
    simp only [if_pos hok]
    refine Ev.bind he (ev_now fun _ => ?_)
    rw [if_pos rfl, e, set_self]
  | false =>
    rw [hb] at he
    refine ⟨true, ?_, fun hc => (by cases hc), fun e => ?_⟩
    · unfold arcF
      simp only [if_pos hok]
      refine Ev.bind he (ev_now fun _ => ?_)
      rw [if_neg Bool.false_ne_true]
    · rw [(eqPB_iff _ _).2 (by rw [rdP_eq]; exact e)] at hb
      cases hb
theorem arcsF_ev {n : Int} {l : List S33} (hn : Net1 n l) {s : Int} : ∀ (r : List S33) (d : List (List S35)) (ch : Bool) (M : Nat), (∀ y ∈ r, y ∈ l) → PInv n l s M d → M + r.length ≤ 900 →
    ∃ (d' : List (List S35)) (c : Bool), Ev (fun k => arcsF k r (d, ch)) (d', c) ∧ PInv n l s (M + r.length) d' ∧ PLe n d d' ∧ (∀ x ∈ r, PGone x d d') ∧ (c = false → ch = false ∧ d' = d) ∧ ((∀ v, 0 ≤ v → v < n → FinP l s v (rd_L3 d v)) → d' = d ∧ c = ch)
  | [], d, ch, M, _, h, _ => ⟨d, ch, ev_now fun _ => rfl, h, PLe.refl n d, fun _ hx => by (cases hx), fun hc => ⟨hc, rfl⟩, fun _ => ⟨rfl, rfl⟩⟩
  | y :: r, d, ch, M, hr, h, hM => by
    rw [List.length_cons] at hM
    have hy := hr y (by simp)
    obtain ⟨c1, v1, f1, g1⟩ := arcF_ev hn h (by omega) hy ch
    have hj := rel_join hn h (by omega) hy
    obtain ⟨i1, p1, q1⟩ := h.relax hn hy hj
    obtain ⟨d2, c2, v2, i2, p2, q2, f2, g2⟩ := arcsF_ev hn r (d.set y.f1.toNat (relP d y)) c1 (M + 1) (fun x hx => hr x (by simp [hx])) i1 (by omega)
    refine ⟨d2, c2, ?_, by rw [List.length_cons, show M + (r.length + 1) = M + 1 + r.length by omega]; exact i2, p1.trans p2, fun x hx => ?_, fun hc => ?_, fun hf => ?_⟩
    · simp only [arcsF]
      exact Ev.bind v1 v2
    · rw [List.mem_cons] at hx
      rcases hx with rfl | hx
      · exact q1.on hn hy p2
      · exact PGone.of hn (hr x (by simp [hx])) p1 (q2 x hx)
    · obtain ⟨a, b⟩ := f2 hc
      obtain ⟨a2, b2⟩ := f1 a
      exact ⟨a2, by rw [b, b2, set_self]⟩
    · obtain ⟨e1, e2, e3, e4, _⟩ := hn.ends y hy
      have e := fin_still (n := n) hy (hf _ e1 e2) (hf _ e3 e4) hj
      have e' : d.set y.f1.toNat (relP d y) = d := by rw [e, set_self]
      obtain ⟨a, b⟩ := g2 (by rw [e']; exact hf)
      exact ⟨a.trans e', b.trans (g1 e)⟩
/-- All told. -/
structure FinAll (n : Int) (l : List S33) (s : Int) (d : List (List S35)) : Prop where
  len : (d.length : Int) = n
  fin : ∀ v, 0 ≤ v → v < n → FinP l s v (rd_L3 d v)
theorem roundsF_ev {n : Int} {l : List S33} (hn : Net1 n l) {s : Int} (hs : 0 ≤ s ∧ s < n) : ∀ (u r : Nat) (d : List (List S35)), r + u = n.toNat → PInv n l s (16 * r) d → PCov l s r d →
    ∃ d', FinAll n l s d' ∧ ∃ K, ∀ k, K ≤ k → ∀ q, u + 1 ≤ q → roundsF k l q d = some d' := by
  intro u
  induction u with
  | zero =>
    intro r d hr hi hc
    have hhi := hn.hi
    have hlo := hn.lo
    have hl := hn.len
    have hf : ∀ v, 0 ≤ v → v < n → FinP l s v (rd_L3 d v) := fun v v0 v1 => hi.fin hn hs (by rw [show n.toNat = r by omega]; exact hc) v0 v1
    obtain ⟨d', c, ⟨K, hK⟩, _, _, _, _, g⟩ := arcsF_ev hn l d false (16 * r) (fun _ h => h) hi (by omega)
    obtain ⟨rfl, rfl⟩ := g hf
    refine ⟨d', ⟨hi.len, hf⟩, K, fun k hk q hq => ?_⟩
    obtain ⟨q, rfl⟩ : ∃ m, q = m + 1 := ⟨q - 1, by omega⟩
    have e : arcsF k l (d', false) = some (d', false) := hK k hk
    rw [roundsF, e]
    rfl
  | succ u ih =>
    intro r d hr hi hc
    have hhi := hn.hi
    have hlo := hn.lo
    have hl := hn.len
    obtain ⟨d', c, ⟨K, hK⟩, i2, p2, q2, f2, _⟩ := arcsF_ev hn l d false (16 * r) (fun _ h => h) hi (by omega)
    cases c with
    | false =>
      obtain ⟨_, rfl⟩ := f2 rfl
      have hc0 : PCov l s 0 d' := fun v c t m hp hm => hc v c t m hp (by omega)
      refine ⟨d', ⟨hi.len, fun v v0 v1 => hi.fin hn hs (hc0.closed q2 n.toNat) v0 v1⟩, K, fun k hk q hq => ?_⟩
      obtain ⟨q, rfl⟩ : ∃ m, q = m + 1 := ⟨q - 1, by omega⟩
      have e : arcsF k l (d', false) = some (d', false) := hK k hk
      rw [roundsF, e]
      rfl
    | true =>
      obtain ⟨R, hR, K2, hK2⟩ := ih (r + 1) d' (by omega) (i2.mono (by omega)) (hc.next hn hs p2 q2)
      refine ⟨R, hR, max K K2, fun k hk q hq => ?_⟩
      obtain ⟨q, rfl⟩ : ∃ m, q = m + 1 := ⟨q - 1, by omega⟩
      have e : arcsF k l (d, false) = some (d', true) := hK k (by omega)
      rw [roundsF, e, Option.bind_some, if_pos rfl]
      exact hK2 k (by omega) q (by omega)
theorem pairs_ev {n : Int} {l : List S33} (hn : Net1 n l) {a b : Int} (ha : 0 ≤ a ∧ a < n) (hb : 0 ≤ b ∧ b < n) : ∃ L, FinP l a b L ∧ Ev (fun k => impl_Net_pairs.f k n l a b) L := by
  have hhi := hn.hi
  have hlo := hn.lo
  obtain ⟨i0, c0⟩ := pinv_start hn ha
  obtain ⟨d, hd, K, hK⟩ := roundsF_ev hn ha n.toNat 0 _ (by omega) i0 c0
  refine ⟨rd_L3 d b, hd.fin b hb.1 hb.2, max K (n.toNat + 1), fun k hk => ?_⟩
  have hdl := hd.len
  show pairsF k n l a b = _
  unfold pairsF
  rw [if_pos ⟨⟨hlo, by omega⟩, ha, hb⟩]
  have e := hK k (by omega) k (by omega)
  unfold startP
  rw [e, Option.bind_some, if_pos (by omega)]
  rfl
/-! ### a node's number -/
theorem node_of {n : Int} {l : List S33} (hn : Net1 n l) {a : Int} (h : inB a 0 (wrap64 (n - 1)) = true) : 0 ≤ a ∧ a < n := by
  have := hn.lo
  have := hn.hi
  rw [inB_iff, w_id (n := n - 1) (by omega) (by omega)] at h
  omega
/-! ### nodes of a net, and what can be reached -/
theorem nodesIn_eq (n : Int) (l : List S33) (ns : List Int) : impl_nodesIn.f n l ns = some (netOkB n l && hasB n ns) := by
  unfold impl_nodesIn.f impl_Net_has.f
  rw [netOk_eq]
  cases netOkB n l <;> rfl
theorem hasB1 (n a : Int) : hasB n [a] = inB a 0 (wrap64 (n - 1)) := by unfold hasB; simp
theorem hasB2 (n a b : Int) : hasB n [a, b] = (inB a 0 (wrap64 (n - 1)) && inB b 0 (wrap64 (n - 1))) := by unfold hasB; simp
theorem hasB3 (n a b c : Int) : hasB n [a, b, c] = (inB a 0 (wrap64 (n - 1)) && (inB b 0 (wrap64 (n - 1)) && inB c 0 (wrap64 (n - 1)))) := by unfold hasB; simp
/-! ### all pairs -/
theorem pairAllI_ok {n : Int} {l : List S33} (hok : netOkB n l = true) {a b : Int} (ha : inB a 0 (wrap64 (n - 1)) = true) (hb : inB b 0 (wrap64 (n - 1)) = true) {L : List S35} (h : Ev (fun k => impl_Net_pairs.f k n l a b) L) : Ev (fun k => impl_PairAll.f k n l a b) L := by
  unfold impl_PairAll.f
  simp only [nodesIn_eq, hasB2, Option.bind_some, hok, ha, hb, Bool.and_self, if_true]
  exact Ev.bind h (ev_now fun _ => rfl)
/-! ### the reference's pairs -/
theorem pairS_at (l : List S35) (i : Nat) (h : i < l.length) : rd_T35 l (i : Int) = l[i] := by simp [rd_T35, h]
theorem insP_drop (p : S35) (L : List S35) (i : Nat) (h : i < L.length) (put : Bool) : insP p (L.drop i) put = if L[i].f0 ≥ p.f0 ∧ L[i].f1 ≥ p.f1 then insP p (L.drop (i + 1)) put else if put = false ∧ L[i].f0 > p.f0 then p :: L[i] :: insP p (L.drop (i + 1)) true else L[i] :: insP p (L.drop (i + 1)) put := by
  rw [List.drop_eq_getElem_cons h, insP]
theorem put1_ev (L : List S35) (p0 p1 : Int) (hl : L.length ≤ 1000000) : ∀ s : Nat × List S35 × Bool, (s.1 ≤ L.length ∧ s.2.1.length ≤ 2 * s.1) → Ev (fun k => spec_l19Put.l1 k L s.2.1 s.2.2 (s.1 : Int) p0 p1) (s.2.1 ++ insP ⟨p0, p1⟩ (L.drop s.1) s.2.2) := by
  refine ev_ind (fun k (s : Nat × List S35 × Bool) => spec_l19Put.l1 k L s.2.1 s.2.2 (s.1 : Int) p0 p1) (fun s => L.length - s.1) (fun s => s.1 ≤ L.length ∧ s.2.1.length ≤ 2 * s.1) (fun s => s.2.1 ++ insP ⟨p0, p1⟩ (L.drop s.1) s.2.2) ?_
  rintro ⟨i, out, put⟩ ⟨hi, ho⟩ ih
  simp only at hi ho ih ⊢
  by_cases h : i < L.length
  · have hlt : (i : Int) < (L.length : Int) := by omega
    have h0 : (0 : Int) ≤ (i : Int) := by omega
    have hw := wsucc h (show L.length ≤ 9223372036854775807 by omega)
    have ho1 : out.length < 8796093022208 := by omega
    have ho2 : ∀ q : S35, (out ++ [q]).length < 8796093022208 := fun q => by simp; omega
    rw [insP_drop _ L i h put]
    have step : ∀ c : Bool, (c = true ↔ (L[i].f0 ≥ p0 ∧ L[i].f1 ≥ p1)) → Ev (fun k => spec_l19Put.j2 k L out put (i : Int) c p0 p1) (out ++ if L[i].f0 ≥ p0 ∧ L[i].f1 ≥ p1 then insP ⟨p0, p1⟩ (L.drop (i + 1)) put else if put = false ∧ L[i].f0 > p0 then ⟨p0, p1⟩ :: L[i] :: insP ⟨p0, p1⟩ (L.drop (i + 1)) true else L[i] :: insP ⟨p0, p1⟩ (L.drop (i + 1)) put) := by
      intro c hc
      refine ev_shift ?_
      cases c with
      | true =>
        rw [if_pos (hc.1 rfl)]
        simp only [spec_l19Put.j2, if_true, hw]
        exact ih (i + 1, out, put) ⟨by simp; omega, by simp; omega⟩ (by simp; omega)
      | false =>
        rw [if_neg (fun z => by have := hc.2 z; cases this)]
        cases put with
        | true =>
          simp only [spec_l19Put.j2, Bool.false_eq_true, Bool.true_eq_false, false_and, if_false, if_true, h0, hlt, ho1, hw, pairS_at L i h]
          refine ev_at (ih (i + 1, out ++ [L[i]], true) ⟨by simp; omega, by simp; omega⟩ (by simp; omega)) (by simp)
        | false =>
          by_cases c2 : L[i].f0 > p0
          · simp only [spec_l19Put.j2, Bool.false_eq_true, if_false, if_true, h0, hlt, ho1, ho2, hw, pairS_at L i h, c2, true_and, Option.bind_some]
            refine ev_at (ih (i + 1, out ++ [⟨p0, p1⟩] ++ [L[i]], true) ⟨by simp; omega, by simp; omega⟩ (by simp; omega)) (by simp)
          · simp only [spec_l19Put.j2, Bool.false_eq_true, if_false, if_true, h0, hlt, ho1, hw, pairS_at L i h, c2, and_false]
            refine ev_at (ih (i + 1, out ++ [L[i]], false) ⟨by simp; omega, by simp; omega⟩ (by simp; omega)) (by simp)
    by_cases c0 : L[i].f0 ≥ p0
    · simp only [spec_l19Put.l1, hlt, h0, if_true, pairS_at L i h, c0]
      refine ev_at (step _ ?_) (by simp only [c0])
      rw [decide_eq_true_eq]
      exact ⟨fun z => ⟨c0, z⟩, fun z => z.2⟩
    · simp only [spec_l19Put.l1, hlt, h0, if_true, pairS_at L i h, c0, if_false]
      refine ev_at (step _ ?_) (by simp only [c0])
      exact ⟨fun z => (by cases z), fun z => absurd z.1 c0⟩
  · have hlt : ¬ (i : Int) < (L.length : Int) := by omega
    simp only [spec_l19Put.l1, hlt, if_false]
    rw [List.drop_of_length_le (by omega), insP]
    cases put with
    | true => exact ev_now fun _ => by simp
    | false =>
      have ho1 : out.length < 8796093022208 := by omega
      exact ev_now fun _ => by simp [ho1]
theorem put_ev (L : List S35) (p0 p1 : Int) (hl : L.length ≤ 1000000) : Ev (fun k => spec_l19Put.f k L p0 p1) (putP L ⟨p0, p1⟩) := by
  unfold spec_l19Put.f
  have key : ∀ i : Nat, i ≤ L.length → Ev (fun k => spec_l19Put.l0 k L [] (i : Int) p0 p1) (if ((L.drop i).any fun q => decide (q.f0 ≤ p0) && decide (q.f1 ≤ p1)) = true then L else insP ⟨p0, p1⟩ L false) := by
    refine ev_ind (fun k (i : Nat) => spec_l19Put.l0 k L [] (i : Int) p0 p1) (fun i => L.length - i) (fun i => i ≤ L.length) (fun i => if ((L.drop i).any fun q => decide (q.f0 ≤ p0) && decide (q.f1 ≤ p1)) = true then L else insP ⟨p0, p1⟩ L false) ?_
    intro i hi ih
    by_cases h : i < L.length
    · have hlt : (i : Int) < (L.length : Int) := by omega
      have h0 : (0 : Int) ≤ (i : Int) := by omega
      have ih := ih (i + 1) (by omega) (by omega)
      simp only [spec_l19Put.l0, hlt, h0, if_true, pairS_at L i h, wsucc h (show L.length ≤ 9223372036854775807 by omega)]
      rw [any_at _ _ _ h]
      by_cases c0 : L[i].f0 ≤ p0
      · by_cases c1 : L[i].f1 ≤ p1
        · exact ev_now fun k => by simp [c0, c1]
        · simpa [c0, c1] using ih
      · simpa [c0] using ih
    · have hlt : ¬ (i : Int) < (L.length : Int) := by omega
      simp only [spec_l19Put.l0, hlt, if_false]
      rw [List.drop_of_length_le (by omega)]
      refine ev_at (put1_ev L p0 p1 hl (0, [], false) ⟨Nat.zero_le _, by simp⟩) ?_
      simp
  exact key 0 (Nat.zero_le _)
theorem set_selfS (d : List (List S35)) (i : Int) : d.set i.toNat (rd_L3 d i) = d := by
  unfold rd_L3
  apply List.ext_getElem?
  intro j
  rw [List.getElem?_set]
  split
  · rename_i e
    subst e
    split
    · rename_i c
      rw [List.getD_eq_getElem?_getD, List.getElem?_eq_getElem c]
      rfl
    · rename_i c
      rw [List.getElem?_eq_none (by omega)]
  · rfl
/-- All told. -/
structure FinAllS (n : Int) (l : List S33) (s : Int) (d : List (List S35)) : Prop where
  len : (d.length : Int) = n
  fin : ∀ v, 0 ≤ v → v < n → FinP l s v (rd_L3 d v)
theorem shift_take (y : S33) (L : List S35) (j : Nat) (h : j < L.length) : shiftP y (L.take (j + 1)) = shiftP y (L.take j) ++ [⟨L[j].f0 + y.f2, L[j].f1 + y.f3⟩] := by
  unfold shiftP
  rw [List.take_succ_eq_append_getElem h, List.map_append]
  rfl
theorem PInv.monoS {n : Int} {l : List S33} {s : Int} {M M' : Nat} {d : List (List S35)} (h : PInv n l s M d) (hM : M ≤ M') : PInv n l s M' d := ⟨h.len, h.stair, fun v v0 v1 p hp => by obtain ⟨m, h1, h2⟩ := h.real v v0 v1 p hp; exact ⟨m, by omega, h2⟩⟩
set_option maxHeartbeats 1000000 in
theorem l19All_loop {n : Int} {l : List S33} (hn : Net1 n l) {s : Int} (hs : 0 ≤ s ∧ s < n) : ∀ st : Nat × List (List S35), (st.1 ≤ n.toNat ∧ PInv n l s (16 * st.1) st.2 ∧ PCov l s st.1 st.2) → ∃ R, FinAllS n l s R ∧ Ev (fun k => spec_l19All.l0 k st.2 (st.1 : Int) n l) R := by
  have hhi := hn.hi
  have hlo := hn.lo
  have hll := hn.len
  refine ev_ex (fun k (st : Nat × List (List S35)) => spec_l19All.l0 k st.2 (st.1 : Int) n l) (fun st => n.toNat - st.1) (fun st => st.1 ≤ n.toNat ∧ PInv n l s (16 * st.1) st.2 ∧ PCov l s st.1 st.2) (FinAllS n l s) ?_
  rintro ⟨r, d⟩ ⟨hr, hi, hc⟩ ih
  simp only at hr hi hc ih ⊢
  by_cases h : r < n.toNat
  · have hlt : (r : Int) < n := by omega
    have hwr : wrap64 ((r : Int) + 1) = ((r + 1 : Nat) : Int) := by rw [w_id (by omega) (by omega)]; omega
    simp only [spec_l19All.l0, hlt, if_true]
    refine ev_ex (fun k (st : Nat × List (List S35)) => spec_l19All.l1 k st.2 (r : Int) (st.1 : Int) n l) (fun st => l.length - st.1) (fun st => st.1 ≤ l.length ∧ PInv n l s (16 * r + st.1) st.2 ∧ PLe n d st.2 ∧ ∀ j, j < st.1 → ∀ hj : j < l.length, PGone l[j] d st.2) (FinAllS n l s) ?_ (0, d) ⟨Nat.zero_le _, hi, PLe.refl n d, fun j hj => absurd hj (Nat.not_lt_zero _)⟩
    rintro ⟨i, d1⟩ ⟨hi1, hv1, hp1, hg1⟩ ih1
    simp only at hi1 hv1 hp1 hg1 ih1 ⊢
    by_cases h1 : i < l.length
    · have hlt1 : (i : Int) < (l.length : Int) := by omega
      have h01 : (0 : Int) ≤ (i : Int) := by omega
      have hw1 := wsucc h1 (show l.length ≤ 9223372036854775807 by omega)
      have hy : l[i] ∈ l := List.getElem_mem h1
      simp only [spec_l19All.l1, hlt1, h01, if_true, arc_at l i h1]
      have hg2 : ∀ j, j < i → ∀ hj : j < l.length, PGone l[j] d d1 := hg1
      have ih2 : ∀ J, Join (rd_L3 d1 l[i].f1) (shiftP l[i] (rd_L3 d1 l[i].f0)) J → ∃ R, FinAllS n l s R ∧ Ev (fun k => spec_l19All.l1 k (d1.set l[i].f1.toNat J) (r : Int) ((i + 1 : Nat) : Int) n l) R := by
        intro J hJ
        obtain ⟨a1, a2, a3⟩ := hv1.relax hn hy hJ
        refine ih1 (i + 1, d1.set l[i].f1.toNat J) ⟨by simp; omega, a1.monoS (by simp; omega), hp1.trans a2, fun j hj hjl => ?_⟩ (by simp; omega)
        by_cases e : j = i
        · subst e
          exact PGone.of hn hy hp1 a3
        · exact (hg2 j (by simp at hj; omega) hjl).on hn (List.getElem_mem hjl) a2
      clear ih1 hg1 hg2 ih
      generalize l[i] = y at hy ih2 ⊢
      obtain ⟨e1, e2, e3, e4, e5, g1, g2, g3, g4, _⟩ := hn.ends y hy
      obtain ⟨s0, b0⟩ := hv1.sizes hn (show 16 * r + i ≤ 1000 by omega) e1 e2
      obtain ⟨s1, b1⟩ := hv1.sizes hn (show 16 * r + i ≤ 1000 by omega) e3 e4
      have hl1 := hv1.len
      have hst := hv1.stair y.f1 e3 e4
      have inner := ev_ex (fun k (st : Nat × List S35) => spec_l19All.l2 k (d1.set y.f1.toNat st.2) (r : Int) (i : Int) (st.1 : Int) n l y.f0 y.f1 y.f2 y.f3 y.f4) (fun st => (rd_L3 d1 y.f0).length - st.1) (fun st => st.1 ≤ (rd_L3 d1 y.f0).length ∧ Join (rd_L3 d1 y.f1) (shiftP y ((rd_L3 d1 y.f0).take st.1)) st.2) (FinAllS n l s) ?_ (0, rd_L3 d1 y.f1) ⟨Nat.zero_le _, join_nil hst⟩
      · simp only [set_selfS] at inner
        exact inner
      rintro ⟨j, J⟩ ⟨hj, hJ⟩ ih3
      simp only at hj hJ ih3 ⊢
      have c1 : y.f0 < ((d1.set y.f1.toNat J).length : Int) := by rw [List.length_set]; omega
      have c2 : y.f1 < ((d1.set y.f1.toNat J).length : Int) := by rw [List.length_set]; omega
      have r0 : rd_L3 (d1.set y.f1.toNat J) y.f0 = rd_L3 d1 y.f0 := by rw [rdl_set d1 y.f1 y.f0 J e3 (by omega) e1, if_neg (Ne.symm e5)]
      have r1 : rd_L3 (d1.set y.f1.toNat J) y.f1 = J := by rw [rdl_set d1 y.f1 y.f1 J e3 (by omega) e3, if_pos rfl]
      have hset : ∀ Q : List S35, (d1.set y.f1.toNat J).set y.f1.toNat Q = d1.set y.f1.toNat Q := fun Q => by rw [List.set_set]
      generalize hF : rd_L3 d1 y.f0 = F at hj hJ ih3 r0 ih2 s0 b0
      by_cases h2 : j < F.length
      · have hlt2 : (j : Int) < (F.length : Int) := by omega
        have h02 : (0 : Int) ≤ (j : Int) := by omega
        have hb := b0 F[j] (List.getElem_mem h2)
        have hJb : J.length ≤ 1000000 := by
          have hm : ∀ p ∈ J, 0 ≤ p.f0 ∧ p.f0 ≤ 99099 := by
            intro p hp
            rcases hJ.sub p hp with hp | hp
            · have := b1 p hp; omega
            · unfold shiftP at hp
              obtain ⟨q, hq, rfl⟩ := List.mem_map.1 hp
              have := b0 q (List.mem_of_mem_take hq)
              simp only
              omega
          have := stair_len J 0 99099 hJ.stair hm (by omega)
          omega
        simp only [spec_l19All.l2, e1, e3, c1, c2, r0, r1, if_true, hlt2, h02, pairS_at F j h2, wsucc h2 (show F.length ≤ 9223372036854775807 by omega), w_id (n := F[j].f0 + y.f2) (by omega) (by omega), w_id (n := F[j].f1 + y.f3) (by omega) (by omega), hset]
        have hp := put_ev J (F[j].f0 + y.f2) (F[j].f1 + y.f3) hJb
        have hJ2 : Join (rd_L3 d1 y.f1) (shiftP y (F.take (j + 1))) (putP J ⟨F[j].f0 + y.f2, F[j].f1 + y.f3⟩) := by
          rw [shift_take y F j h2]
          exact join_trans hJ (putP_join hJ.stair _)
        obtain ⟨R, hR, hE⟩ := ih3 (j + 1, putP J ⟨F[j].f0 + y.f2, F[j].f1 + y.f3⟩) ⟨by simp; omega, hJ2⟩ (by simp; omega)
        exact ⟨R, hR, Ev.bind hp hE⟩
      · have hlt2 : ¬ (j : Int) < (F.length : Int) := by omega
        simp only [spec_l19All.l2, e1, c1, r0, if_true, hlt2, if_false, hw1]
        rw [List.take_of_length_le (by omega)] at hJ
        exact ih2 J hJ
    · have hlt1 : ¬ (i : Int) < (l.length : Int) := by omega
      simp only [spec_l19All.l1, hlt1, if_false, hwr]
      refine ih (r + 1, d1) ⟨by simp; omega, hv1.monoS (by simp; omega), hc.next hn hs hp1 fun x hx => ?_⟩ (by simp; omega)
      obtain ⟨j, hj, rfl⟩ := List.getElem_of_mem hx
      exact hg1 j (by omega) hj
  · have hlt : ¬ (r : Int) < n := by omega
    have hrn : r = n.toNat := by omega
    simp only [spec_l19All.l0, hlt, if_false]
    exact ⟨d, ⟨hi.len, fun v v0 v1 => hi.fin hn hs (by rw [← hrn]; exact hc) v0 v1⟩, ev_now fun _ => rfl⟩
theorem l19All_ev {n : Int} {l : List S33} (hn : Net1 n l) {s : Int} (hs : 0 ≤ s ∧ s < n) : ∃ R, FinAllS n l s R ∧ Ev (fun k => spec_l19All.f k n l s) R := by
  have hhi := hn.hi
  have hlo := hn.lo
  obtain ⟨i0, c0⟩ := pinv_start hn hs
  obtain ⟨R, hR, hE⟩ := l19All_loop hn hs (0, _) ⟨Nat.zero_le _, i0, c0⟩
  refine ⟨R, hR, ?_⟩
  have h0 : 0 ≤ n := by omega
  have h1 : n.toNat ≤ 11728124029610 := by omega
  have h2 : s < ((List.replicate n.toNat ([] : List S35)).length : Int) := by rw [List.length_replicate]; omega
  unfold spec_l19All.f
  simp only [h0, h1, if_true, Option.bind_some, hs.1, h2]
  exact hE
/-! ### all pairs, in both -/
theorem pairAll_ok {n : Int} {l : List S33} (hok : netOkB n l = true) {a b : Int} (ha : inB a 0 (wrap64 (n - 1)) = true) (hb : inB b 0 (wrap64 (n - 1)) = true) : ∃ L, FinP l a b L ∧ Ev (fun k => spec_PairAll.f k n l a b) L ∧ Ev (fun k => impl_PairAll.f k n l a b) L := by
  have hn := net1_of hok
  have hll := hn.len
  have ha' := node_of hn ha
  have hb' := node_of hn hb
  obtain ⟨R, hR, hE⟩ := l19All_ev hn ha'
  obtain ⟨L, hL, hP⟩ := pairs_ev hn ha' hb'
  have e : rd_L3 R b = L := fin_one (hR.fin b hb'.1 hb'.2) hL
  have hRl := hR.len
  have hb2 : b < (R.length : Int) := by omega
  have hsz := (hL.size hn ha').1
  refine ⟨L, hL, ?_, pairAllI_ok hok ha hb hP⟩
  unfold spec_PairAll.f
  simp only [l1In_eq, Option.bind_some, ha, hb, if_true]
  refine Ev.bind (l1Ok_ev n l (by omega)) ?_
  simp only [hok, if_true]
  refine Ev.bind hE ?_
  have h3 : ([] : List S35).length + L.length < 8796093022208 := by simp; omega
  simp only [hb'.1, hb2, if_true, e, h3, List.nil_append]
  exact ev_now fun _ => rfl
theorem pairAll_bad {n : Int} {l : List S33} (hl : l.length ≤ 9223372036854775807) {a b : Int} (h : (netOkB n l && (inB a 0 (wrap64 (n - 1)) && inB b 0 (wrap64 (n - 1)))) = false) : Ev (fun k => spec_PairAll.f k n l a b) [] ∧ Ev (fun k => impl_PairAll.f k n l a b) [] := by
  constructor
  · unfold spec_PairAll.f
    simp only [l1In_eq, Option.bind_some]
    refine Ev.bind (l1Ok_ev n l hl) ?_
    cases h1 : netOkB n l with
    | false => exact ev_now fun _ => rfl
    | true =>
    cases h2 : inB a 0 (wrap64 (n - 1)) with
    | false => exact ev_now fun _ => rfl
    | true =>
    cases h3 : inB b 0 (wrap64 (n - 1)) with
    | false => exact ev_now fun _ => rfl
    | true => rw [h1, h2, h3] at h; cases h
  · unfold impl_PairAll.f
    simp only [nodesIn_eq, hasB2, Option.bind_some, h, Bool.false_eq_true, if_false]
    exact ev_now fun _ => rfl
theorem wkPairs_ev (L : List S35) (hl : L.length ≤ 9223372036854775807) : Ev (fun k => laws_wkPairs.f k L L) true := by
  unfold laws_wkPairs.f
  simp only [if_true]
  refine ev_ind (fun k (i : Nat) => laws_wkPairs.l0 k L L (i : Int)) (fun i => L.length - i) (fun i => i ≤ L.length) (fun _ => true) ?_ 0 (Nat.zero_le _)
  intro i hi ih
  by_cases h : i < L.length
  · have hlt : (i : Int) < (L.length : Int) := by omega
    have h0 : (0 : Int) ≤ (i : Int) := by omega
    simp only [laws_wkPairs.l0, hlt, h0, if_true, wsucc h hl]
    simpa using ih (i + 1) (by omega) (by omega)
  · have hlt : ¬ (i : Int) < (L.length : Int) := by omega
    simp only [laws_wkPairs.l0, hlt, if_false]
    exact ev_now fun _ => rfl
/-! ### walks -/
theorem range_all (p : Nat → Bool) (i n : Nat) (h : i < n) : (List.range' i (n - i)).all p = (p i && (List.range' (i + 1) (n - (i + 1))).all p) := by
  obtain ⟨d, hd⟩ : ∃ d, n - i = d + 1 := ⟨n - i - 1, by omega⟩
  rw [hd, List.range'_succ, List.all_cons, show n - (i + 1) = d by omega]
theorem range_none (p : Nat → Bool) (n : Nat) : (List.range' n (n - n)).all p = true := by simp
/-- Is arc number i of a walk there, and does it begin where the one ahead ends. -/
def chk (l : List S33) (w : List Int) (i : Nat) : Bool := inB (w.getD i 0) 0 (wrap64 ((l.length : Int) - 1)) && (decide (i = 0) || (rd_T33 l (w.getD (i - 1) 0)).f1 == (rd_T33 l (w.getD i 0)).f0)
def chainB (l : List S33) (w : List Int) : Bool := (List.range' 0 w.length).all (chk l w)
def walkB (l : List S33) (w : List Int) : Bool := chainB l w && decide (w.length ≤ 20)
theorem arc_in {l : List S33} {x : Int} (hl : l.length ≤ 9223372036854775807) (h : inB x 0 (wrap64 ((l.length : Int) - 1)) = true) : 0 ≤ x ∧ x < (l.length : Int) := by
  rw [inB_iff, w_id (by omega) (by omega)] at h
  omega
theorem walkOk_loop (n : Int) (l : List S33) (w : List Int) (hl : l.length ≤ 9223372036854775807) (hw : w.length ≤ 9223372036854775807) :
    Ev (fun k => impl_WalkOk.l0 k w w (w.length : Int) (0 : Nat) n l) ((List.range' 0 (w.length - 0)).all (chk l w)) := by
  refine ev_ind (fun k (i : Nat) => impl_WalkOk.l0 k w w (w.length : Int) (i : Int) n l) (fun i => w.length - i) (fun i => i ≤ w.length ∧ ∀ j, j < i → inB (w.getD j 0) 0 (wrap64 ((l.length : Int) - 1)) = true) (fun i => (List.range' i (w.length - i)).all (chk l w)) ?_ 0 ⟨Nat.zero_le _, fun j hj => absurd hj (Nat.not_lt_zero _)⟩
  rintro i ⟨hi, hp⟩ ih
  by_cases h : i < w.length
  · have hlt : (i : Int) < (w.length : Int) := by omega
    have h0 : (0 : Int) ≤ (i : Int) := by omega
    rw [range_all _ _ _ h]
    simp only [impl_WalkOk.l0, hlt, h0, if_true, within_eq, Option.bind_some, wsucc h hw]
    have ih' := fun hin => ih (i + 1) ⟨by omega, hin⟩ (by omega)
    generalize (List.range' (i + 1) (w.length - (i + 1))).all (chk l w) = q at ih' ⊢
    unfold chk
    rw [rd_nat]
    cases hb : inB (w.getD i 0) 0 (wrap64 ((l.length : Int) - 1)) with
    | false => exact ev_now fun k => by simp
    | true =>
      have hin : ∀ j, j < i + 1 → inB (w.getD j 0) 0 (wrap64 ((l.length : Int) - 1)) = true := by
        intro j hj
        by_cases e : j = i
        · subst e; exact hb
        · exact hp j (by omega)
      obtain ⟨b0, b1⟩ := arc_in hl hb
      by_cases hi0 : i = 0
      · subst hi0
        have hn : ¬ ((0 : Nat) : Int) > 0 := by omega
        simp only [hn, if_true, if_false]
        simpa using ih' hin
      · have hn : ((i : Nat) : Int) > 0 := by omega
        have hp1 := hp (i - 1) (by omega)
        obtain ⟨c0, c1⟩ := arc_in hl hp1
        have hw1 : wrap64 ((i : Int) - 1) = ((i - 1 : Nat) : Int) := wpred (by omega) (by omega)
        have g0 : (0 : Int) ≤ ((i - 1 : Nat) : Int) := by omega
        have g1 : ((i - 1 : Nat) : Int) < (w.length : Int) := by omega
        simp only [hn, if_true, b0, b1, hw1, g0, g1, rd_nat, c0, c1, hi0, decide_false, Bool.false_or, Bool.true_and]
        by_cases he : (rd_T33 l (w.getD (i - 1) 0)).f1 = (rd_T33 l (w.getD i 0)).f0
        · simp only [he, if_true]
          simpa using ih' hin
        · have he' : ((rd_T33 l (w.getD (i - 1) 0)).f1 == (rd_T33 l (w.getD i 0)).f0) = false := beq_eq_false_iff_ne.2 he
          exact ev_now fun k => by simp only [he, he', if_false, Bool.false_and]
  · have hlt : ¬ (i : Int) < (w.length : Int) := by omega
    have he : i = w.length := by omega
    subst he
    simp only [impl_WalkOk.l0, hlt, if_false, range_none]
    exact ev_now fun k => rfl
theorem walkOk_ev (n : Int) (l : List S33) (w : List Int) (hl : l.length ≤ 9223372036854775807) (hw : w.length ≤ 9223372036854775807) : Ev (fun k => impl_WalkOk.f k n l w) (netOkB n l && walkB l w) := by
  unfold impl_WalkOk.f
  simp only [netOk_eq, Option.bind_some]
  cases netOkB n l with
  | false => exact ev_shift (ev_now fun k => by simp [impl_WalkOk.j0])
  | true =>
    simp only [if_true]
    refine ev_shift ?_
    unfold walkB chainB
    by_cases h : w.length ≤ 20
    · have h1 : ¬ decide ((w.length : Int) > 20) = true := by simp; omega
      simp only [impl_WalkOk.j0, h1, if_false]
      simpa [h] using walkOk_loop n l w hl hw
    · have h1 : decide ((w.length : Int) > 20) = true := by simp; omega
      simp only [impl_WalkOk.j0, h1, if_true]
      exact ev_now fun k => by simp [h]
theorem walkAt_in {l : List S33} {w : List Int} (hl : l.length ≤ 9223372036854775807) (h : walkB l w = true) (i : Nat) (hi : i < w.length) : 0 ≤ w[i] ∧ w[i] < (l.length : Int) := by
  unfold walkB chainB at h
  rw [Bool.and_eq_true, List.all_eq_true] at h
  have h1 := h.1 i (by rw [List.mem_range'_1]; omega)
  unfold chk at h1
  rw [Bool.and_eq_true] at h1
  have := arc_in hl h1.1
  rwa [List.getD_eq_getElem?_getD, List.getElem?_eq_getElem hi] at this
/-! ### what walks share -/
/-! ### what walks cost -/
def costS (l : List S33) : List Int → Int
  | [] => 0
  | x :: xs => (rd_T33 l x).f2 + costS l xs
/-! ### what a walk costs -/
theorem arc_cost {n : Int} {l : List S33} (hn : Net1 n l) {x : Int} (h0 : 0 ≤ x) (h1 : x < (l.length : Int)) : 0 ≤ (rd_T33 l x).f2 ∧ (rd_T33 l x).f2 ≤ 99 := by
  obtain ⟨j, rfl⟩ := Int.eq_ofNat_of_zero_le h0
  rw [arc_at l j (by omega)]
  obtain ⟨_, _, _, _, _, h2, h3, _⟩ := hn.ends _ (List.getElem_mem (show j < l.length by omega))
  exact ⟨h2, h3⟩
theorem costS_rng {n : Int} {l : List S33} (hn : Net1 n l) : ∀ a : List Int, (∀ x ∈ a, 0 ≤ x ∧ x < (l.length : Int)) → 0 ≤ costS l a ∧ costS l a ≤ 99 * (a.length : Int) := by
  intro a
  induction a with
  | nil => intro _; simp [costS]
  | cons x xs ih =>
    intro h
    have h1 := h x (by simp)
    have h2 := arc_cost hn h1.1 h1.2
    have h3 := ih fun y hy => h y (by simp [hy])
    simp only [costS, List.length_cons]
    omega
theorem walk_in {l : List S33} {w : List Int} (hl : l.length ≤ 9223372036854775807) (h : walkB l w = true) : ∀ x ∈ w, 0 ≤ x ∧ x < (l.length : Int) := by
  intro x hx
  obtain ⟨i, hi, rfl⟩ := List.getElem_of_mem hx
  exact walkAt_in hl h i hi
theorem walk_len {l : List S33} {w : List Int} (h : walkB l w = true) : w.length ≤ 20 := by
  unfold walkB at h
  simp only [Bool.and_eq_true, decide_eq_true_eq] at h
  exact h.2
theorem cost_ev {n : Int} {l : List S33} (hn : Net1 n l) (a : List Int) (ha : ∀ x ∈ a, 0 ≤ x ∧ x < (l.length : Int)) (hl : a.length ≤ 10000) : Ev (fun k => impl_Net_cost.f k n l a) (costS l a) := by
  unfold impl_Net_cost.f
  have hll := hn.len
  have := ev_ind (fun k (s : Nat × Int) => impl_Net_cost.l0 k s.2 a (a.length : Int) (s.1 : Int) n l) (fun s => a.length - s.1) (fun s => s.1 ≤ a.length ∧ 0 ≤ s.2 ∧ s.2 ≤ 99 * (s.1 : Int)) (fun s => s.2 + costS l (a.drop s.1)) ?_ (0, 0) ⟨Nat.zero_le _, by simp, by simp⟩
  · simpa using this
  rintro ⟨i, acc⟩ ⟨hi, h1, h2⟩ ih
  simp only at hi h1 h2 ih ⊢
  by_cases h : i < a.length
  · have hlt : (i : Int) < (a.length : Int) := by omega
    have h0 : (0 : Int) ≤ (i : Int) := by omega
    obtain ⟨b0, b1⟩ := ha _ (List.getElem_mem h)
    have hc := arc_cost hn b0 b1
    have hw : wrap64 (acc + (rd_T33 l a[i]).f2) = acc + (rd_T33 l a[i]).f2 := w_id (by omega) (by omega)
    simp only [impl_Net_cost.l0, hlt, h0, if_true, rd_at a i h, wsucc h (show a.length ≤ 9223372036854775807 by omega), b0, b1, hw]
    refine ev_at (ih (i + 1, acc + (rd_T33 l a[i]).f2) ⟨by simp; omega, by simp; omega, by simp; omega⟩ (by simp; omega)) ?_
    rw [List.drop_eq_getElem_cons h]
    simp only [costS]
    omega
  · have hlt : ¬ (i : Int) < (a.length : Int) := by omega
    simp only [impl_Net_cost.l0, hlt, if_false]
    refine ev_now fun k => ?_
    rw [List.drop_of_length_le (by omega)]
    simp [costS]
theorem walkCost_ev {n : Int} {l : List S33} (hok : netOkB n l = true) (a : List Int) (ha : walkB l a = true) : Ev (fun k => impl_WalkCost.f k n l a) (costS l a) := by
  have hn := net1_of hok
  have hll := hn.len
  have h20 := walk_len ha
  unfold impl_WalkCost.f
  refine Ev.bind (walkOk_ev n l a (by omega) (by omega)) ?_
  simp only [hok, ha, Bool.and_self, if_true]
  exact Ev.bind (cost_ev hn a (walk_in (by omega) ha) (by omega)) (ev_now fun _ => rfl)
theorem chainB_iff (l : List S33) (w : List Int) : chainB l w = true ↔ ∀ i, i < w.length → chk l w i = true := by
  unfold chainB
  rw [List.all_eq_true]
  constructor
  · intro h i hi; exact h i (by rw [List.mem_range'_1]; omega)
  · intro h i hi; rw [List.mem_range'_1] at hi; exact h i (by omega)
/-! ### all walks that come to no node twice, as they are met -/
def DV (l : List S33) (tg : Int) : Nat → Int → List Int → List Int → List (List Int)
  | 0, _, _, _ => []
  | m + 1, at_, vis, w => if at_ = tg then [w] else (List.range l.length).flatMap fun (i : Nat) => if (rd_T33 l (i : Int)).f0 = at_ ∧ (rd_T33 l (i : Int)).f1 ∉ vis then DV l tg m (rd_T33 l (i : Int)).f1 ((rd_T33 l (i : Int)).f1 :: vis) (w ++ [(i : Int)]) else []
theorem flatMap_len {α : Type} (b : Nat) (f : α → List (List Int)) : ∀ L : List α, (∀ x ∈ L, (f x).length ≤ b) → (L.flatMap f).length ≤ L.length * b
  | [], _ => by simp
  | x :: r, h => by
    rw [List.flatMap_cons, List.length_append, List.length_cons, Nat.add_mul, Nat.one_mul]
    have := flatMap_len b f r fun y hy => h y (by simp [hy])
    have := h x (by simp)
    omega
theorem DV_len (l : List S33) (hl : l.length ≤ 16) (tg : Int) : ∀ (m : Nat) (at_ : Int) (vis w : List Int), (DV l tg m at_ vis w).length ≤ 16 ^ m
  | 0, _, _, _ => by simp [DV]
  | m + 1, at_, vis, w => by
    rw [DV]
    have hp : 0 < 16 ^ m := Nat.pos_of_ne_zero (by simp)
    split
    · rw [Nat.pow_succ]; simp; omega
    · refine Nat.le_trans (flatMap_len (16 ^ m) _ _ fun i _ => ?_) ?_
      · split
        · exact DV_len l hl tg m _ _ _
        · exact Nat.zero_le _
      · rw [List.length_range, Nat.pow_succ, Nat.mul_comm (16 ^ m)]
        exact Nat.mul_le_mul_right _ hl
/-- A list of distinct small numbers is short. -/
theorem nodup_short : ∀ (b : Nat) (vis : List Int), vis.Nodup → (∀ v ∈ vis, 0 ≤ v ∧ v < (b : Int)) → vis.length ≤ b
  | 0, [], _, _ => Nat.le_refl _
  | 0, v :: r, _, h => by have := h v (by simp); omega
  | b + 1, vis, hn, h => by
    have h2 := nodup_short b (vis.erase (b : Int)) (hn.erase _) fun v hv => by
      have h3 := h v (List.mem_of_mem_erase hv)
      have h4 : v ≠ (b : Int) := fun e => by subst e; exact (hn.not_mem_erase) hv
      omega
    have h5 := List.length_erase (a := (b : Int)) (l := vis)
    rw [h5] at h2
    split at h2 <;> omega
def maskOk (s : Nat) (vis : List Int) : Prop := ∀ v : Nat, v < 8 → (s / 2 ^ v % 2 = 0 ↔ (v : Int) ∉ vis)
theorem mask_next {s : Nat} {vis : List Int} (h : maskOk s vis) {u : Int} (h0 : 0 ≤ u) : maskOk (s ||| 2 ^ u.toNat) (u :: vis) := by
  intro v hv
  have h1 := h v hv
  have e : ∀ x : Nat, x / 2 ^ v % 2 = 0 ↔ x.testBit v = false := fun x => by rw [Nat.testBit_eq_decide_div_mod_eq, decide_eq_false_iff_not]; omega
  rw [e] at h1 ⊢
  rw [Nat.testBit_or, Bool.or_eq_false_iff, h1, Nat.testBit_two_pow, decide_eq_false_iff_not, List.mem_cons]
  constructor
  · rintro ⟨a, b⟩ (c | c)
    · exact b (by omega)
    · exact a c
  · intro a
    exact ⟨fun c => a (.inr c), fun c => a (.inl (by omega))⟩
theorem loop_flat (G : Int → List (List Int) → Option (List (List Int))) (F : Nat → List (List Int)) (b B N : Nat) (hG : ∀ (i : Nat) (o : List (List Int)), i < N → o.length + b ≤ B → G (i : Int) o = some (o ++ F i)) (hF : ∀ i, (F i).length ≤ b) : ∀ (c i : Nat) (o : List (List Int)), i + c ≤ N → o.length + c * b ≤ B → loopS G c i o = some (o ++ ((List.range' i c).flatMap F))
  | 0, i, o, _, _ => by simp [loopS]
  | c + 1, i, o, hN, h => by
    rw [Nat.add_mul, Nat.one_mul] at h
    rw [loopS, hG i o (by omega) (by omega), Option.bind_some, loop_flat G F b B N hG hF c (i + 1) _ (by omega) (by rw [List.length_append]; have := hF i; omega), List.range'_succ, List.flatMap_cons, List.append_assoc]
theorem folF_eq {n : Int} {l : List S33} (hn : Net1 n l) (tg : Int) : ∀ (m : Nat) (at_ : Int) (vis : List Int) (s : Nat) (w : List Int) (out : List (List Int)), vis.Nodup → (∀ v ∈ vis, 0 ≤ v ∧ v < (8 : Nat)) → vis.length + m = 9 → maskOk s vis → out.length + 16 ^ m ≤ 100000000000 → folF l tg m at_ s w out = some (out ++ DV l tg m at_ vis w)
  | 0, at_, vis, s, w, out, h1, h2, h3, _, _ => by have := nodup_short 8 vis h1 h2; omega
  | m + 1, at_, vis, s, w, out, h1, h2, h3, h4, h5 => by
    rw [folF, DV]
    have hp : 0 < 16 ^ m := Nat.pos_of_ne_zero (by simp)
    rw [Nat.pow_succ] at h5
    by_cases e : at_ = tg
    · rw [if_pos e, if_pos e, if_pos (by omega)]
    · rw [if_neg e, if_neg e]
      have hl := hn.len
      have hm : l.length * 16 ^ m ≤ 16 * 16 ^ m := Nat.mul_le_mul_right _ hl
      rw [List.range_eq_range']
      refine loop_flat _ _ (16 ^ m) 100000000000 l.length (fun i o hi ho => ?_) (fun i => ?_) _ _ _ (by omega) (by omega)
      · have hx := hn.ends _ (List.getElem_mem hi)
        rw [← arc_at l i hi] at hx
        generalize rd_T33 l (i : Int) = x at hx ⊢
        obtain ⟨_, _, e3, e4, _⟩ := hx
        have hhi := hn.hi
        have hb := h4 x.f1.toNat (by omega)
        rw [Int.toNat_of_nonneg e3] at hb
        by_cases c : x.f0 = at_ ∧ x.f1 ∉ vis
        · rw [if_pos ⟨c.1, hb.2 c.2⟩, if_pos c]
          exact folF_eq hn tg m _ _ _ _ _ (List.nodup_cons.2 ⟨c.2, h1⟩) (fun v hv => by
            rw [List.mem_cons] at hv
            rcases hv with rfl | hv
            · exact ⟨e3, by omega⟩
            · exact h2 v hv) (by rw [List.length_cons]; omega) (mask_next h4 e3) ho
        · rw [if_neg (fun z => c ⟨z.1, hb.1 z.2⟩), if_neg c, List.append_nil]
      · split
        · exact DV_len l hl tg m _ _ _
        · exact Nat.zero_le _
/-! ### the best walks: what the program tells -/
def lessC (l : List S33) : List Int → List Int → Bool := lessW fun x => wcost l x 0
def someD (l : List S33) (a b : Int) : List (List Int) := DV l b 8 a [a] []
def someL (l : List S33) (a b : Int) : List (List Int) := sortW (lessC l) (someD l a b)
theorem DV_in (l : List S33) (tg : Int) : ∀ (m : Nat) (at_ : Int) (vis w : List Int), (∀ k ∈ w, 0 ≤ k ∧ k < (l.length : Int)) → ∀ d ∈ DV l tg m at_ vis w, ∀ k ∈ d, 0 ≤ k ∧ k < (l.length : Int)
  | 0, _, _, _, _, d, hd => by simp [DV] at hd
  | m + 1, at_, vis, w, hw, d, hd => by
    rw [DV] at hd
    split at hd
    · rw [List.mem_singleton] at hd
      subst hd
      exact hw
    · obtain ⟨i, hi, hd⟩ := List.mem_flatMap.1 hd
      split at hd
      · refine DV_in l tg m _ _ _ (fun k hk => ?_) d hd
        rw [List.mem_append, List.mem_singleton] at hk
        rw [List.mem_range] at hi
        rcases hk with hk | hk
        · exact hw k hk
        · omega
      · cases hd
theorem simF_eq {n : Int} {l : List S33} (hn : Net1 n l) {a : Int} (ha : 0 ≤ a ∧ a < n) (b : Int) : simF l a b = some (someL l a b) := by
  have hhi := hn.hi
  have hll := hn.len
  have h1 : (l.all fun x => decide (0 ≤ x.f1 ∧ x.f1 < 8)) = true := by
    rw [List.all_eq_true]
    intro x hx
    obtain ⟨_, _, e3, e4, _⟩ := hn.ends x hx
    exact decide_eq_true ⟨e3, by omega⟩
  have hm : maskOk (2 ^ a.toNat) [a] := by
    have h0 : maskOk 0 [] := fun v _ => by simp
    have := mask_next h0 ha.1
    rwa [Nat.zero_or] at this
  have hf := folF_eq hn b 8 a [a] (2 ^ a.toNat) [] [] (by simp) (fun v hv => by rw [List.mem_singleton] at hv; subst hv; exact ⟨ha.1, by omega⟩) (by simp) hm (by simp)
  have hlen := DV_len l hll b 8 a [a] []
  have h2 : ((DV l b 8 a [a] []).all fun w => w.all fun k => decide (0 ≤ k ∧ k < (l.length : Int))) = true := by
    rw [List.all_eq_true]
    intro w hw
    rw [List.all_eq_true]
    intro k hk
    exact decide_eq_true (DV_in l b 8 a [a] [] (by simp) w hw k hk)
  unfold simF
  rw [if_pos ⟨h1, by omega, ha.1, by omega⟩, hf, List.nil_append, Option.bind_some, if_pos ⟨h2, by omega⟩]
  rfl
theorem someI_ok {n : Int} {l : List S33} (hok : netOkB n l = true) {a b m : Int} (ha : inB a 0 (wrap64 (n - 1)) = true) (hb : inB b 0 (wrap64 (n - 1)) = true) (hab : a ≠ b) (hm : inB m 1 6 = true) : impl_SomeWalks.f n l a b m = some ((someL l a b).take m.toNat) := by
  have hn := net1_of hok
  have hm2 := inB_iff.1 hm
  unfold impl_SomeWalks.f swF
  rw [nodesIn_eq, hasB2, hok, ha, hb, Option.bind_some, if_pos (show (true && (true && true)) = true from rfl), if_neg hab, within_eq, Option.bind_some, hm, if_pos rfl, simF_eq hn (node_of hn ha), Option.bind_some, if_pos (by omega)]
theorem someI_bad {n : Int} {l : List S33} {a b m : Int} (h : ¬ (netOkB n l = true ∧ inB a 0 (wrap64 (n - 1)) = true ∧ inB b 0 (wrap64 (n - 1)) = true ∧ a ≠ b ∧ inB m 1 6 = true)) : impl_SomeWalks.f n l a b m = some [] := by
  unfold impl_SomeWalks.f swF
  rw [nodesIn_eq, hasB2, Option.bind_some]
  cases h1 : netOkB n l with
  | false => rfl
  | true =>
  cases h2 : inB a 0 (wrap64 (n - 1)) with
  | false => rfl
  | true =>
  cases h3 : inB b 0 (wrap64 (n - 1)) with
  | false => rfl
  | true =>
  rw [if_pos (show (true && (true && true)) = true from rfl)]
  by_cases e : a = b
  · rw [if_pos e]
  · rw [if_neg e, within_eq, Option.bind_some]
    cases h4 : inB m 1 6 with
    | false => rfl
    | true => exact absurd ⟨h1, h2, h3, e, h4⟩ h
/-! ### walks to no node twice -/
inductive SP (l : List S33) (tg : Int) : Int → List Int → List Int → Prop
  | nil {vis : List Int} : SP l tg tg vis []
  | cons {i : Nat} {at_ : Int} {vis e : List Int} : i < l.length → (rd_T33 l (i : Int)).f0 = at_ → at_ ≠ tg → (rd_T33 l (i : Int)).f1 ∉ vis → SP l tg (rd_T33 l (i : Int)).f1 ((rd_T33 l (i : Int)).f1 :: vis) e → SP l tg at_ vis ((i : Int) :: e)
theorem DV_sound (l : List S33) (tg : Int) : ∀ (m : Nat) (at_ : Int) (vis w d : List Int), d ∈ DV l tg m at_ vis w → ∃ e, d = w ++ e ∧ SP l tg at_ vis e
  | 0, _, _, _, d, hd => by simp [DV] at hd
  | m + 1, at_, vis, w, d, hd => by
    rw [DV] at hd
    split at hd
    · rename_i e
      rw [List.mem_singleton] at hd
      subst e
      exact ⟨[], by rw [List.append_nil]; exact hd, SP.nil⟩
    · rename_i e
      obtain ⟨i, hi, hd⟩ := List.mem_flatMap.1 hd
      split at hd
      · rename_i c
        obtain ⟨e2, h1, h2⟩ := DV_sound l tg m _ _ _ d hd
        exact ⟨(i : Int) :: e2, by rw [h1, List.append_assoc]; rfl, SP.cons (List.mem_range.1 hi) c.1 e c.2 h2⟩
      · cases hd
theorem DV_full {n : Int} {l : List S33} (hn : Net1 n l) (tg : Int) {at_ : Int} {vis e : List Int} (h : SP l tg at_ vis e) : ∀ (m : Nat) (w : List Int), vis.Nodup → (∀ v ∈ vis, 0 ≤ v ∧ v < (8 : Nat)) → vis.length + m = 9 → w ++ e ∈ DV l tg m at_ vis w := by
  induction h with
  | nil =>
    intro m w h1 h2 h3
    have := nodup_short 8 _ h1 h2
    obtain ⟨k, rfl⟩ : ∃ k, m = k + 1 := ⟨m - 1, by omega⟩
    rw [DV, if_pos rfl, List.append_nil]
    exact List.mem_singleton.2 rfl
  | @cons i at_ vis e hi h0 hne hv _ ih =>
    intro m w h1 h2 h3
    have := nodup_short 8 _ h1 h2
    obtain ⟨k, rfl⟩ : ∃ k, m = k + 1 := ⟨m - 1, by omega⟩
    rw [DV, if_neg hne]
    refine List.mem_flatMap.2 ⟨i, List.mem_range.2 hi, ?_⟩
    rw [if_pos ⟨h0, hv⟩]
    have hx := hn.ends _ (List.getElem_mem hi)
    rw [← arc_at l i hi] at hx
    obtain ⟨_, _, e3, e4, _⟩ := hx
    have hhi := hn.hi
    have := ih k (w ++ [(i : Int)]) (List.nodup_cons.2 ⟨hv, h1⟩) (fun v hv2 => by
      rw [List.mem_cons] at hv2
      rcases hv2 with rfl | hv2
      · exact ⟨e3, by omega⟩
      · exact h2 v hv2) (by rw [List.length_cons]; omega)
    rwa [List.append_assoc] at this
theorem DV_nodup (l : List S33) (tg : Int) : ∀ (m : Nat) (at_ : Int) (vis w : List Int), (DV l tg m at_ vis w).Nodup
  | 0, _, _, _ => by simp [DV]
  | m + 1, at_, vis, w => by
    rw [DV]
    split
    · simp
    · unfold List.Nodup
      rw [List.pairwise_flatMap]
      constructor
      · intro i _
        split
        · exact DV_nodup l tg m _ _ _
        · exact List.Pairwise.nil
      · refine List.Pairwise.imp ?_ List.nodup_range
        intro i j hij x hx y hy e
        subst e
        split at hx
        · split at hy
          · obtain ⟨e1, h1, _⟩ := DV_sound l tg m _ _ _ x hx
            obtain ⟨e2, h2, _⟩ := DV_sound l tg m _ _ _ x hy
            rw [h1, List.append_assoc, List.append_assoc] at h2
            have h3 := List.append_cancel_left h2
            rw [List.singleton_append, List.singleton_append, List.cons.injEq] at h3
            exact hij (by omega)
          · cases hy
        · cases hx
theorem someD_iff {n : Int} {l : List S33} (hn : Net1 n l) {a b : Int} (ha : 0 ≤ a ∧ a < n) (d : List Int) : d ∈ someD l a b ↔ SP l b a [a] d := by
  have hhi := hn.hi
  constructor
  · intro h
    obtain ⟨e, h1, h2⟩ := DV_sound l b 8 a [a] [] d h
    rw [List.nil_append] at h1
    subst h1
    exact h2
  · intro h
    have := DV_full hn b h 8 [] (by simp) (fun v hv => by rw [List.mem_singleton] at hv; subst hv; exact ⟨ha.1, by omega⟩) (by simp)
    rwa [List.nil_append] at this
theorem someL_mem {n : Int} {l : List S33} (hn : Net1 n l) {a b : Int} (ha : 0 ≤ a ∧ a < n) (d : List Int) : d ∈ someL l a b ↔ SP l b a [a] d := by
  rw [← someD_iff hn ha]
  exact (sortW_perm (lessC l) (someD l a b)).mem_iff
theorem someL_sorted (l : List S33) (a b : Int) : SortedW (lessC l) (someL l a b) := sortW_sorted (toW _) _
theorem someL_strict (l : List S33) (a b : Int) : (someL l a b).Pairwise fun x y => lessC l x y = true := by
  have h1 := someL_sorted l a b
  have h2 : (someL l a b).Nodup := (sortW_perm (lessC l) (someD l a b)).nodup_iff.2 (DV_nodup l b 8 a [a] [])
  unfold SortedW at h1
  unfold List.Nodup at h2
  refine List.Pairwise.imp ?_ (h1.and h2)
  intro x y h
  cases h3 : lessC l x y with
  | true => rfl
  | false => exact absurd ((toW _).tot x y h3 h.1) h.2
/-- How a walk to no node twice goes. -/
theorem SP.goes {l : List S33} {tg at_ : Int} {vis e : List Int} (h : SP l tg at_ vis e) : (∀ k ∈ e, 0 ≤ k ∧ k < (l.length : Int)) ∧ (vis.Nodup → (∀ v ∈ vis, 0 ≤ v ∧ v < (8 : Nat)) → (∀ x ∈ l, 0 ≤ x.f1 ∧ x.f1 < (8 : Nat)) → e.length + vis.length ≤ 8) := by
  induction h with
  | nil => exact ⟨by simp, fun h1 h2 _ => by have := nodup_short 8 _ h1 h2; simpa using this⟩
  | @cons i at_ vis e hi h0 hne hv _ ih =>
    refine ⟨fun k hk => ?_, fun h1 h2 h3 => ?_⟩
    · rw [List.mem_cons] at hk
      rcases hk with rfl | hk
      · omega
      · exact ih.1 k hk
    · have hx := h3 _ (List.getElem_mem hi)
      rw [← arc_at l i hi] at hx
      have := ih.2 (List.nodup_cons.2 ⟨hv, h1⟩) (fun v hv2 => by
        rw [List.mem_cons] at hv2
        rcases hv2 with rfl | hv2
        · exact hx
        · exact h2 v hv2) h3
      rw [List.length_cons] at this ⊢
      omega
theorem SP.len {n : Int} {l : List S33} (hn : Net1 n l) {a b : Int} (ha : 0 ≤ a ∧ a < n) {e : List Int} (h : SP l b a [a] e) : e.length ≤ 7 := by
  have hhi := hn.hi
  have := h.goes.2 (by simp) (fun v hv => by rw [List.mem_singleton] at hv; subst hv; exact ⟨ha.1, by omega⟩) (fun x hx => by obtain ⟨_, _, e3, e4, _⟩ := hn.ends x hx; exact ⟨e3, by omega⟩)
  simpa using this
def tollS (l : List S33) : List Int → Int
  | [] => 0
  | x :: xs => (rd_T33 l x).f3 + tollS l xs
theorem arc_toll {n : Int} {l : List S33} (hn : Net1 n l) {x : Int} (h0 : 0 ≤ x) (h1 : x < (l.length : Int)) : 0 ≤ (rd_T33 l x).f3 ∧ (rd_T33 l x).f3 ≤ 99 := by
  obtain ⟨j, rfl⟩ := Int.eq_ofNat_of_zero_le h0
  rw [arc_at l j (by omega)]
  obtain ⟨_, _, _, _, _, _, _, h2, h3, _⟩ := hn.ends _ (List.getElem_mem (show j < l.length by omega))
  exact ⟨h2, h3⟩
theorem toll_ev {n : Int} {l : List S33} (hn : Net1 n l) (a : List Int) (ha : ∀ x ∈ a, 0 ≤ x ∧ x < (l.length : Int)) (hl : a.length ≤ 10000) : Ev (fun k => laws_wkToll.f k n l a) (tollS l a) := by
  unfold laws_wkToll.f
  have hll := hn.len
  have := ev_ind (fun k (s : Nat × Int) => laws_wkToll.l0 k a s.2 (s.1 : Int) n l) (fun s => a.length - s.1) (fun s => s.1 ≤ a.length ∧ 0 ≤ s.2 ∧ s.2 ≤ 99 * (s.1 : Int)) (fun s => s.2 + tollS l (a.drop s.1)) ?_ (0, 0) ⟨Nat.zero_le _, by simp, by simp⟩
  · simpa using this
  rintro ⟨i, acc⟩ ⟨hi, h1, h2⟩ ih
  simp only at hi h1 h2 ih ⊢
  by_cases h : i < a.length
  · have hlt : (i : Int) < (a.length : Int) := by omega
    have h0 : (0 : Int) ≤ (i : Int) := by omega
    obtain ⟨b0, b1⟩ := ha _ (List.getElem_mem h)
    have hc := arc_toll hn b0 b1
    have hw : wrap64 (acc + (rd_T33 l a[i]).f3) = acc + (rd_T33 l a[i]).f3 := w_id (by omega) (by omega)
    simp only [laws_wkToll.l0, hlt, h0, if_true, rd_at a i h, wsucc h (show a.length ≤ 9223372036854775807 by omega), b0, b1, hw]
    refine ev_at (ih (i + 1, acc + (rd_T33 l a[i]).f3) ⟨by simp; omega, by simp; omega, by simp; omega⟩ (by simp; omega)) ?_
    rw [List.drop_eq_getElem_cons h]
    simp only [tollS]
    omega
  · have hlt : ¬ (i : Int) < (a.length : Int) := by omega
    simp only [laws_wkToll.l0, hlt, if_false]
    refine ev_now fun k => ?_
    rw [List.drop_of_length_le (by omega)]
    simp [tollS]
theorem sp_at {l : List S33} {tg at_ : Int} {vis e : List Int} (h : SP l tg at_ vis e) : ∀ i, i < e.length → (0 ≤ e.getD i 0 ∧ e.getD i 0 < (l.length : Int)) ∧ (i = 0 → (rd_T33 l (e.getD i 0)).f0 = at_) ∧ (i ≠ 0 → (rd_T33 l (e.getD i 0)).f0 = (rd_T33 l (e.getD (i - 1) 0)).f1) := by
  induction h with
  | nil => intro i hi; exact absurd hi (Nat.not_lt_zero _)
  | @cons j at_ vis e hj h0 hne hv h2 ih =>
    intro i hi
    cases i with
    | zero => exact ⟨⟨Int.natCast_nonneg _, Int.ofNat_lt.2 hj⟩, fun _ => h0, fun z => absurd rfl z⟩
    | succ i =>
      obtain ⟨g1, g2, g3⟩ := ih i (by simpa using hi)
      refine ⟨g1, fun z => absurd z (by omega), fun _ => ?_⟩
      cases i with
      | zero => exact g2 rfl
      | succ i => exact g3 (by omega)
theorem sp_walkB {l : List S33} (hl : l.length ≤ 1000) {tg at_ : Int} {vis e : List Int} (h : SP l tg at_ vis e) (h8 : e.length ≤ 8) : walkB l e = true := by
  unfold walkB
  rw [Bool.and_eq_true, decide_eq_true_eq, chainB_iff]
  refine ⟨fun i hi => ?_, by omega⟩
  obtain ⟨g1, g2, g3⟩ := sp_at h i hi
  unfold chk
  have e1 : inB (e.getD i 0) 0 (wrap64 ((l.length : Int) - 1)) = true := by rw [inB_iff, w_id (by omega) (by omega)]; omega
  rw [e1, Bool.true_and, Bool.or_eq_true, decide_eq_true_eq, beq_iff_eq]
  by_cases c : i = 0
  · exact .inl c
  · exact .inr (g3 c).symm
theorem Plain.last {l : List S33} {s v c t : Int} {ns : List Int} (h : Plain l s v c t ns) : v ∈ ns := by
  cases h with
  | nil => simp
  | snoc _ _ _ => simp
/-- What is walked to no node twice is told from its other end. -/
theorem Plain.sp {l : List S33} {s v c t : Int} {ns : List Int} (h : Plain l s v c t ns) : ∀ (tg : Int) (e : List Int), SP l tg v ns e → tg ∉ ns.tail → ∃ e', SP l tg s [s] e' ∧ costS l e' = c + costS l e ∧ tollS l e' = t + tollS l e := by
  induction h with
  | nil => intro tg e h _; exact ⟨e, h, (Int.zero_add _).symm, (Int.zero_add _).symm⟩
  | @snoc x c t ns hp hx hns ih =>
    intro tg e h ht
    rw [List.tail_cons] at ht
    obtain ⟨j, hj, rfl⟩ := List.getElem_of_mem hx
    have hr := arc_at l j hj
    rw [← hr] at h hns hp
    have hne : (rd_T33 l (j : Int)).f0 ≠ tg := fun z => ht (z ▸ hp.last)
    obtain ⟨e', h1, h2, h3⟩ := ih tg ((j : Int) :: e) (by rw [← hr]; exact SP.cons hj rfl hne hns h) (fun z => ht (List.mem_of_mem_tail z))
    refine ⟨e', h1, ?_, ?_⟩
    · rw [h2, costS, hr]; omega
    · rw [h3, tollS, hr]; omega
theorem Plain.real {l : List S33} {s v c t : Int} {ns : List Int} (h : Plain l s v c t ns) : ∃ e, SP l v s [s] e ∧ costS l e = c ∧ tollS l e = t := by
  have ht : v ∉ ns.tail := by
    cases h with
    | nil => simp
    | snoc _ _ hn => simpa using hn
  obtain ⟨e, h1, h2, h3⟩ := h.sp v [] SP.nil ht
  exact ⟨e, h1, by rw [h2, costS, Int.add_zero], by rw [h3, tollS, Int.add_zero]⟩
theorem finP_real {n : Int} {l : List S33} (hn : Net1 n l) {a b : Int} (ha : 0 ≤ a ∧ a < n) {L : List S35} (hL : FinP l a b L) {p : S35} (hp : p ∈ L) : ∃ e, SP l b a [a] e ∧ costS l e = p.f0 ∧ tollS l e = p.f1 := by
  obtain ⟨m, hm⟩ := hL.real p hp
  obtain ⟨c', t', ns, h1, h2, h3⟩ := hm.plain hn
  obtain ⟨m', _, _, hm'⟩ := h1.few hn ha
  obtain ⟨q, hq, q1, q2⟩ := hL.low _ _ _ hm'
  have e := stair_le hL.stair hq hp ⟨by omega, by omega⟩
  subst e
  obtain ⟨e, e1, e2, e3⟩ := h1.real
  exact ⟨e, e1, by omega, by omega⟩
theorem inB_nodeA {n : Int} {l : List S33} (hn : Net1 n l) {a : Int} (h : 0 ≤ a ∧ a < n) : inB a 0 (wrap64 (n - 1)) = true := by
  have := hn.lo
  have := hn.hi
  rw [inB_iff, w_id (n := n - 1) (by omega) (by omega)]
  omega
theorem pairReal_loop {n : Int} {l : List S33} (hok : netOkB n l = true) {a b : Int} (ha : 0 ≤ a ∧ a < n) {L : List S35} (hL : FinP l a b L) {K : List (List Int)} (hK : K = (someL l a b).take 6) (h6 : K.length ≠ 6) : Ev (fun k => laws_FnPairReal.l0 k L K 0 n l) true := by
  have hn := net1_of hok
  have hll := hn.len
  have hsz := hL.size hn ha
  have hKl : K.length ≤ 6 := by rw [hK, List.length_take]; omega
  have hsp : ∀ i (h : i < K.length), SP l b a [a] K[i] := fun i h => (someL_mem hn ha _).1 (List.mem_of_mem_take (by rw [← hK]; exact List.getElem_mem h))
  have hall : ∀ x, SP l b a [a] x → x ∈ K := by
    intro x hx
    have h1 := (someL_mem hn ha x).2 hx
    rw [hK, List.take_of_length_le]
    · exact h1
    · rw [hK, List.length_take] at h6; omega
  clear hK
  refine ev_ind (fun k (i : Nat) => laws_FnPairReal.l0 k L K (i : Int) n l) (fun i => L.length - i) (fun _ => True) (fun _ => true) ?_ 0 trivial
  intro i _ ih
  by_cases h : i < L.length
  · have hlt : (i : Int) < (L.length : Int) := by omega
    have h0 : (0 : Int) ≤ (i : Int) := by omega
    have e1 : rd_T35 L (i : Int) = L[i] := by simp [rd_T35, h]
    have hnext := ih (i + 1) trivial (by omega)
    obtain ⟨x, hx, hx1, hx2⟩ := finP_real hn ha hL (List.getElem_mem h)
    obtain ⟨j, hj, hjx⟩ := List.getElem_of_mem (hall x hx)
    simp only [laws_FnPairReal.l0, hlt, if_true]
    refine ev_ind (fun k (s : Nat × Bool) => laws_FnPairReal.l1 k L K (i : Int) s.2 (s.1 : Int) n l) (fun s => K.length - s.1) (fun s => s.1 ≤ j ∨ s.2 = true) (fun _ => true) ?_ (0, false) (.inl (Nat.zero_le _))
    rintro ⟨k, d⟩ hd ih2
    simp only at hd ih2 ⊢
    by_cases hk : k < K.length
    · have hlt2 : (k : Int) < (K.length : Int) := by omega
      have g0 : (0 : Int) ≤ (k : Int) := by omega
      have e2 : rd_L5 K (k : Int) = K[k] := by simp [rd_L5, hk]
      have hs := hsp k hk
      have hs7 := hs.len hn ha
      cases d with
      | true =>
        simp only [laws_FnPairReal.l1, hlt2, if_true, wsucc hk (show K.length ≤ 9223372036854775807 by omega)]
        exact ih2 (k + 1, true) (.inr rfl) (by simp; omega)
      | false =>
        have hkj : k ≤ j := by
          rcases hd with z | z
          · exact z
          · cases z
        simp only [laws_FnPairReal.l1, hlt2, g0, h0, hlt, e1, e2, if_true, Bool.false_eq_true, if_false, wsucc hk (show K.length ≤ 9223372036854775807 by omega)]
        refine Ev.bind (walkCost_ev hok K[k] (sp_walkB (by omega) hs (by omega))) ?_
        by_cases c1 : costS l K[k] = L[i].f0
        · simp only [c1, if_true]
          refine Ev.bind (toll_ev hn K[k] hs.goes.1 (by omega)) ?_
          refine ih2 (k + 1, tollS l K[k] == L[i].f1) ?_ (by simp; omega)
          by_cases e : k = j
          · subst e
            exact .inr (by rw [hjx, beq_iff_eq]; exact hx2)
          · exact .inl (by simp; omega)
        · simp only [c1, if_false]
          refine ih2 (k + 1, false) (.inl ?_) (by simp; omega)
          have : k ≠ j := fun e => by subst e; exact c1 (by rw [hjx]; exact hx1)
          simp; omega
    · have hlt2 : ¬ (k : Int) < (K.length : Int) := by omega
      have hd2 : d = true := by
        rcases hd with z | z
        · omega
        · exact z
      subst hd2
      simp only [laws_FnPairReal.l1, hlt2, if_true, if_false, wsucc h (show L.length ≤ 9223372036854775807 by omega)]
      exact hnext
  · have hlt : ¬ (i : Int) < (L.length : Int) := by omega
    simp only [laws_FnPairReal.l0, hlt, if_false]
    exact ev_now fun _ => rfl
theorem FnPairReal : laws_FnPairReal.Pure := by
  intro code _ _ hw
  refine Ev.rounds ?_
  unfold laws_FnPairReal.f
  by_cases h0 : (code.length : Int) > 1048576
  · simp only [h0, if_true]; exact ev_now fun _ => rfl
  simp only [h0, if_false]
  obtain ⟨n, l, a, b, hd0, hl⟩ := drawNearWalk_ex code hw
  have hd : Ev (fun k => spec_DrawPairAll.f k code) (n, l, a, b) := by
    unfold spec_DrawPairAll.f
    exact Ev.bind hd0 (ev_now fun _ => rfl)
  have hl2 : l.length ≤ 9223372036854775807 := by omega
  refine Ev.bind hd ?_
  have same : ∀ L, L.length ≤ 9223372036854775807 → Ev (fun k => spec_PairAll.f k n l a b) L → Ev (fun k => laws_FnPairReal.j0 k a b L true n l) true := by
    intro L hL v1
    refine ev_shift ?_
    simp only [laws_FnPairReal.j0, if_true]
    exact Ev.bind v1 (Ev.bind (wkPairs_ev L hL) (ev_now fun _ => rfl))
  cases h : (netOkB n l && (inB a 0 (wrap64 (n - 1)) && inB b 0 (wrap64 (n - 1)))) with
  | false =>
    obtain ⟨v1, v2⟩ := pairAll_bad hl2 h
    refine Ev.bind v2 (Ev.bind v1 (Ev.bind (wkPairs_ev [] (by simp)) ?_))
    simp only [if_true, List.length_nil, show ((0 : Nat) : Int) = 0 from rfl]
    exact same [] (by simp) v1
  | true =>
    simp only [Bool.and_eq_true] at h
    obtain ⟨hok, ha, hb⟩ := h
    have hn := net1_of hok
    have ha' := node_of hn ha
    obtain ⟨L, hL, v1, v2⟩ := pairAll_ok hok ha hb
    have hsz := hL.size hn ha'
    refine Ev.bind v2 (Ev.bind v1 (Ev.bind (wkPairs_ev L (by omega)) ?_))
    simp only [if_true]
    by_cases hz : (L.length : Int) = 0
    · simp only [hz, if_true]
      exact same L (by omega) v1
    · simp only [hz, if_false]
      by_cases hab : a = b
      · rw [beq_iff_eq.2 hab]
        exact same L (by omega) v1
      · rw [beq_eq_false_iff_ne.2 hab]
        refine ev_shift ?_
        simp only [laws_FnPairReal.j0, Bool.false_eq_true, if_false, someI_ok hok ha hb hab (m := 6) (by decide), Option.bind_some]
        by_cases c6 : (((someL l a b).take (6 : Int).toNat).length : Int) = 6
        · simp only [c6, if_true]; exact ev_now fun _ => rfl
        · simp only [c6, if_false]
          exact pairReal_loop hok ha' hL rfl (fun z => c6 (by rw [z]; rfl))
end Go.Proofs.Ytddkaiegnohkcaa.Pure
