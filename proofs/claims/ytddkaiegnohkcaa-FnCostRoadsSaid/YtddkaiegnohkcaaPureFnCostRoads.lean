/- The pure statement of FnCostRoads: of every drawn net, two nodes and two weights the program tells the same sum as the reference; for costs alone and for tolls alone it is a hundred times what the nearest costs in the net so priced. No condition. -/
import Derived.Test.YtddkaiegnohkcaaFKinds
import Derived.Test.YtddkaiegnohkcaaFimplArc90
import Derived.Test.YtddkaiegnohkcaaFimplArc91
import Derived.Test.YtddkaiegnohkcaaFimplCostNet
import Derived.Test.YtddkaiegnohkcaaFimplCostOf
import Derived.Test.YtddkaiegnohkcaaFimplMeas
import Derived.Test.YtddkaiegnohkcaaFimplNear
import Derived.Test.YtddkaiegnohkcaaFimplNearAll
import Derived.Test.YtddkaiegnohkcaaFimplNetOk
import Derived.Test.YtddkaiegnohkcaaFimplNetback
import Derived.Test.YtddkaiegnohkcaaFimplNethas
import Derived.Test.YtddkaiegnohkcaaFimplNetpairs
import Derived.Test.YtddkaiegnohkcaaFimplNetpriced
import Derived.Test.YtddkaiegnohkcaaFimplNettoward
import Derived.Test.YtddkaiegnohkcaaFimplPair71
import Derived.Test.YtddkaiegnohkcaaFimplPairSum
import Derived.Test.YtddkaiegnohkcaaFimplmetricOk
import Derived.Test.YtddkaiegnohkcaaFimplnodesIn
import Derived.Test.YtddkaiegnohkcaaFimplwithin
import Derived.Test.YtddkaiegnohkcaaFlawsFnCostRoads
import Derived.Test.YtddkaiegnohkcaaFspecDrawPairSum
import Derived.Test.YtddkaiegnohkcaaFspecPairSum
import Derived.Test.YtddkaiegnohkcaaFspecl19All
import Derived.Test.YtddkaiegnohkcaaFspecl19Put
import Derived.Test.YtddkaiegnohkcaaFspecl1In
import Derived.Test.YtddkaiegnohkcaaFspecl1Ok
import Derived.Test.YtddkaiegnohkcaaFspecl30AnyNet
import Derived.Test.YtddkaiegnohkcaaFspecl30Net
import Derived.Test.YtddkaiegnohkcaaFspecl30Node
import Derived.Test.YtddkaiegnohkcaaFspecl30Open
import Derived.Test.YtddkaiegnohkcaaFspecl30Rdone
import Derived.Test.YtddkaiegnohkcaaFspecl30Rdpick
import Derived.Test.YtddkaiegnohkcaaFtextcore
import Derived.Test.YtddkaiegnohkcaaFtextfront
import Derived.Test.YtddkaiegnohkcaaFtextfrontw
import Derived.Test.YtddkaiegnohkcaaFtextmetric
import Derived.Test.YtddkaiegnohkcaaFtextpairsd
import Derived.Test.YtddkaiegnohkcaaFtextsortp
namespace Go.Proofs.Ytddkaiegnohkcaa.Pure
open Go.RowKit Go.Proofs.Ytddkaiegnohkcaa.F Go.Proofs.YtddkaiegnohkcaaW.PrintWords
set_option linter.unusedVariables false
set_option linter.unusedSimpArgs false
/-! ### rounds -/
theorem ev_shift {α : Type} {g : Nat → Option α} {r : α} (h : Ev (fun k => g (k + 1)) r) : Ev g r := by
  obtain ⟨K, h⟩ := h
  refine ⟨K + 1, fun k hk => ?_⟩
  obtain ⟨m, rfl⟩ : ∃ m, k = m + 1 := ⟨k - 1, by omega⟩
  exact h m (by omega)
theorem ev_ind {σ β : Type} (g : Nat → σ → Option β) (μ : σ → Nat) (Inv : σ → Prop) (r : σ → β)
    (h : ∀ s, Inv s → (∀ s', Inv s' → μ s' < μ s → Ev (fun k => g k s') (r s')) → Ev (fun k => g (k + 1) s) (r s)) : ∀ s, Inv s → Ev (fun k => g k s) (r s) := by
  have key : ∀ n s, μ s ≤ n → Inv s → Ev (fun k => g k s) (r s) := by
    intro n
    induction n with
    | zero => intro s hs hi; exact ev_shift (h s hi (fun s' _ hlt => absurd hlt (by omega)))
    | succ n ih => intro s hs hi; exact ev_shift (h s hi (fun s' hi' hlt => ih s' (by omega) hi'))
  exact fun s hi => key _ s (Nat.le_refl _) hi
theorem ev_now {α : Type} {g : Nat → Option α} {r : α} (h : ∀ k, g k = some r) : Ev g r := ⟨0, fun k _ => h k⟩
theorem ev_at {α : Type} {g : Nat → Option α} {r r' : α} (h : Ev g r) (e : r = r') : Ev g r' := e ▸ h
/-! ### numbers and lists -/
theorem wsucc {i n : Nat} (h : i < n) (hn : n ≤ 9223372036854775807) : wrap64 ((i : Int) + 1) = ((i + 1 : Nat) : Int) := by
  unfold wrap64; omega
theorem wpred {i : Nat} (h : 0 < i) (hi : i ≤ 9223372036854775807) : wrap64 ((i : Int) - 1) = ((i - 1 : Nat) : Int) := by
  unfold wrap64; omega
theorem w_id {n : Int} (h : -9223372036854775808 ≤ n) (h' : n ≤ 9223372036854775807) : wrap64 n = n := by unfold wrap64; omega
theorem rd_nat (l : List Int) (i : Nat) : rd l (i : Int) = l.getD i 0 := by simp [rd]
theorem rd_at (l : List Int) (i : Nat) (h : i < l.length) : rd l (i : Int) = l[i] := by simp [rd, h]
theorem arc_at (l : List S33) (i : Nat) (h : i < l.length) : rd_T33 l (i : Int) = l[i] := by simp [rd_T33, h]
theorem any_at {α : Type} (p : α → Bool) (l : List α) (i : Nat) (h : i < l.length) : (l.drop i).any p = (p l[i] || (l.drop (i + 1)).any p) := by
  rw [List.drop_eq_getElem_cons h, List.any_cons]
/-! ### is a net valid -/
theorem within_eq (a b c : Int) : impl_within.f a b c = some (inB a b c) := by
  unfold impl_within.f inB
  by_cases h : b ≤ a
  · rw [if_pos h]; simp [h]
  · rw [if_neg h]; simp [h]
theorem l1In_eq (a b c : Int) : spec_l1In.f a b c = some (inB a b c) := within_eq a b c
theorem arcBad_eq (n : Int) (x : S33) : arcBad n x = !(inB x.f0 0 (wrap64 (n - 1)) && (inB x.f1 0 (wrap64 (n - 1)) && (!(x.f0 == x.f1) && (inB x.f2 0 99 && (inB x.f3 0 99 && inB x.f4 0 9))))) := by
  unfold arcBad hasB
  cases h1 : inB x.f0 0 (wrap64 (n - 1)) <;> cases h2 : inB x.f1 0 (wrap64 (n - 1)) <;> simp [h1, h2, Bool.not_and]
theorem netOk_eq (n : Int) (l : List S33) : impl_NetOk.f n l = some (netOkB n l) := rfl
theorem l1Ok_loop (n : Int) (l : List S33) (hl : l.length ≤ 9223372036854775807) (i : Nat) (hi : i ≤ l.length) :
    Ev (fun k => spec_l1Ok.l0 k (i : Int) n l) (!((l.drop i).any (arcBad n)) && (inB n 1 8 && decide (l.length ≤ 16))) := by
  refine ev_ind (fun k (i : Nat) => spec_l1Ok.l0 k (i : Int) n l) (fun i => l.length - i) (fun i => i ≤ l.length) (fun i => !((l.drop i).any (arcBad n)) && (inB n 1 8 && decide (l.length ≤ 16))) ?_ i hi
  intro i hi ih
  by_cases h : i < l.length
  · have hlt : (i : Int) < (l.length : Int) := by omega
    have h0 : (0 : Int) ≤ (i : Int) := by omega
    simp only [spec_l1Ok.l0, hlt, h0, if_true, l1In_eq, Option.bind_some, arc_at l i h, wsucc h hl]
    rw [any_at _ _ _ h, arcBad_eq]
    have ih' := ih (i + 1) (by omega) (by omega)
    generalize (l.drop (i + 1)).any (arcBad n) = q at ih' ⊢
    generalize l[i] = x at ih' ⊢
    cases inB x.f0 0 (wrap64 (n - 1)) with
    | false => exact ev_now fun k => by simp
    | true =>
    cases inB x.f1 0 (wrap64 (n - 1)) with
    | false => exact ev_now fun k => by simp
    | true =>
    by_cases he : x.f0 = x.f1
    · exact ev_now fun k => by simp [he]
    · cases inB x.f2 0 99 with
      | false => exact ev_now fun k => by simp [he]
      | true =>
      cases inB x.f3 0 99 with
      | false => exact ev_now fun k => by simp [he]
      | true =>
      cases inB x.f4 0 9 with
      | false => exact ev_now fun k => by simp [he]
      | true =>
        have he' : (x.f0 == x.f1) = false := beq_eq_false_iff_ne.2 he
        simpa [he, he'] using ih'
  · have hlt : ¬ (i : Int) < (l.length : Int) := by omega
    have he : i = l.length := by omega
    simp only [spec_l1Ok.l0, hlt, if_false, l1In_eq, Option.bind_some]
    subst he
    refine ev_now fun k => ?_
    cases inB n 1 8 <;> simp
    omega
theorem l1Ok_ev (n : Int) (l : List S33) (hl : l.length ≤ 9223372036854775807) : Ev (fun k => spec_l1Ok.f k n l) (netOkB n l) := by
  refine ev_at (l1Ok_loop n l hl 0 (Nat.zero_le _)) ?_
  unfold netOkB
  rw [List.drop_zero]
  cases inB n 1 8 <;> cases decide (l.length ≤ 16) <;> cases l.any (arcBad n) <;> rfl
theorem netOk_len {n : Int} {l : List S33} (h : netOkB n l = true) : l.length ≤ 16 := by
  unfold netOkB at h
  simp only [Bool.and_eq_true, decide_eq_true_eq] at h
  exact h.2.1
theorem inB_iff {a b c : Int} : inB a b c = true ↔ b ≤ a ∧ a ≤ c := by unfold inB; rw [Bool.and_eq_true, decide_eq_true_eq, decide_eq_true_eq]
/-! ### draws: what they make is of some size, whatever it is -/
theorem xor_nn {x y : Int} (hx : 0 ≤ x) (hx2 : x < 1099511627776) (hy : 0 ≤ y) (hy2 : y < 1099511627776) : 0 ≤ Go.bits .xor .i64 x y := by
  obtain ⟨a, rfl⟩ := Int.eq_ofNat_of_zero_le hx
  obtain ⟨b, rfl⟩ := Int.eq_ofNat_of_zero_le hy
  have h1 : (BitVec.ofInt 64 (a : Int)).toNat = a := by
    rw [BitVec.toNat_ofInt]
    omega
  have h2 : (BitVec.ofInt 64 (b : Int)).toNat = b := by
    rw [BitVec.toNat_ofInt]
    omega
  have h3 : a ^^^ b < 2 ^ 40 := Nat.xor_lt_two_pow (by omega) (by omega)
  have h4 : Go.bits .xor .i64 (a : Int) (b : Int) = IntKind.i64.wrap ((a ^^^ b : Nat) : Int) := by
    unfold Go.bits
    show IntKind.i64.wrap ((BitVec.ofInt 64 (a : Int) ^^^ BitVec.ofInt 64 (b : Int)).toNat : Int) = _
    rw [BitVec.toNat_xor, h1, h2]
  rw [h4, IntKind.wrap_i64]
  omega
/-- The bytes of a reader. -/
def Bytes (b : List Int) : Prop := b.length ≤ 2000 ∧ ∀ x ∈ b, 0 ≤ x ∧ x ≤ 255
theorem Bytes.at {b : List Int} (hb : Bytes b) (i : Int) : 0 ≤ rd b i ∧ rd b i ≤ 255 := by
  unfold rd
  rw [List.getD_eq_getElem?_getD]
  cases h : b[i.toNat]? with
  | none => simp
  | some x => exact hb.2 x (List.mem_of_getElem? h)
theorem pick_ex {b : List Int} (hb : Bytes b) {p n : Int} (hp : 0 ≤ p) (hp2 : p ≤ 1000000) (hn : n ≤ 1000000) :
    ∃ v, Ev (fun k => spec_l30Rd_pick.f k b p n) (v, p + 1) ∧ 0 ≤ v ∧ (1 ≤ n → v < n) ∧ (n < 1 → v = 0) := by
  have hl := hb.1
  have w1 : wrap64 (p + 1) = p + 1 := w_id (by omega) (by omega)
  have w0 : wrap64 (p + 1 - 1) = p := by rw [w_id (by omega) (by omega)]; omega
  unfold spec_l30Rd_pick.f
  rw [w1]
  by_cases h1 : n < 1
  · refine ⟨0, ?_, Int.le_refl _, fun h => by omega, fun _ => rfl⟩
    simp only [h1, if_true]
    exact ev_shift (ev_now fun k => by simp only [spec_l30Rd_pick.j0, if_true])
  · simp only [h1, if_false]
    have hn0 : ¬ n = 0 := by omega
    by_cases h2 : b.length = 0
    · refine ⟨0, ?_, Int.le_refl _, fun h => by omega, fun h => by first | exact absurd h h1 | exact h.elim⟩
      have e : ((b.length : Int) == 0) = true := by rw [beq_iff_eq]; omega
      rw [e]
      exact ev_shift (ev_now fun k => by simp only [spec_l30Rd_pick.j0, if_true])
    · have e : ((b.length : Int) == 0) = false := by rw [beq_eq_false_iff_ne]; omega
      have hm0 : ¬ (b.length : Int) = 0 := by omega
      rw [e]
      by_cases h3 : p < (b.length : Int)
      · have hr := hb.at p
        have w2 : wrap64 (rd b p) = rd b p := w_id (by omega) (by omega)
        refine ⟨Int.tmod (rd b p) n, ?_, Int.tmod_nonneg _ hr.1, fun h => Int.tmod_lt_of_pos _ (by omega), fun h => by first | exact absurd h h1 | exact h.elim⟩
        exact ev_shift (ev_now fun k => by simp only [spec_l30Rd_pick.j0, Bool.false_eq_true, if_false, w0, h3, hp, hn0, if_true, w2])
      · have q1 := Int.tmod_nonneg (a := p) (b.length : Int) hp
        have q2 := Int.tmod_lt_of_pos p (show (0 : Int) < (b.length : Int) by omega)
        have w3 : wrap64 (wrap64 (p * 7) + 3) = p * 7 + 3 := by rw [w_id (n := p * 7) (by omega) (by omega), w_id (by omega) (by omega)]
        have q3 := Int.tmod_nonneg (a := p * 7 + 3) (b.length : Int) (by omega)
        have q4 := Int.tmod_lt_of_pos (p * 7 + 3) (show (0 : Int) < (b.length : Int) by omega)
        have q5 : 0 ≤ Int.tdiv p (b.length : Int) := Int.tdiv_nonneg hp (by omega)
        have q6 : Int.tdiv p (b.length : Int) ≤ p := Int.tdiv_le_self _ hp
        obtain ⟨d, hd⟩ : ∃ d, Int.tdiv p (b.length : Int) = d := ⟨_, rfl⟩
        rw [hd] at q5 q6
        have r1 := hb.at (Int.tmod p (b.length : Int))
        have r2 := hb.at (Int.tmod (p * 7 + 3) (b.length : Int))
        have wx : wrap64 (wrap64 (wrap64 (wrap64 (wrap64 (rd b (Int.tmod p (b.length : Int))) * 131) + wrap64 (wrap64 (rd b (Int.tmod (p * 7 + 3) (b.length : Int))) * 1117)) + wrap64 (p * 29)) + wrap64 (wrap64 d * 53)) = rd b (Int.tmod p (b.length : Int)) * 131 + rd b (Int.tmod (p * 7 + 3) (b.length : Int)) * 1117 + p * 29 + d * 53 := by
          generalize rd b (Int.tmod p (b.length : Int)) = x1 at r1 ⊢
          generalize rd b (Int.tmod (p * 7 + 3) (b.length : Int)) = x2 at r2 ⊢
          rw [w_id (n := x1) (by omega) (by omega), w_id (n := x2) (by omega) (by omega), w_id (n := x1 * 131) (by omega) (by omega), w_id (n := x2 * 1117) (by omega) (by omega), w_id (n := p * 29) (by omega) (by omega), w_id (n := d) (by omega) (by omega), w_id (n := d * 53) (by omega) (by omega), w_id (n := x1 * 131 + x2 * 1117) (by omega) (by omega), w_id (n := x1 * 131 + x2 * 1117 + p * 29) (by omega) (by omega), w_id (by omega) (by omega)]
        generalize hX : rd b (Int.tmod p (b.length : Int)) * 131 + rd b (Int.tmod (p * 7 + 3) (b.length : Int)) * 1117 + p * 29 + d * 53 = X at wx
        have x0 : 0 ≤ X := by omega
        have x1 : X < 1099511627776 := by omega
        have y0 : 0 ≤ Int.tdiv X 64 := Int.tdiv_nonneg x0 (by omega)
        have y1 : Int.tdiv X 64 ≤ X := Int.tdiv_le_self _ x0
        have wy : wrap64 (Int.tdiv X 64) = Int.tdiv X 64 := w_id (by omega) (by omega)
        refine ⟨Int.tmod (Go.bits .xor .i64 X (Int.tdiv X 64)) n, ?_, Int.tmod_nonneg _ (xor_nn x0 x1 y0 (by omega)), fun h => Int.tmod_lt_of_pos _ (by omega), fun h => by first | exact absurd h h1 | exact h.elim⟩
        exact ev_shift (ev_now fun k => by simp only [spec_l30Rd_pick.j0, Bool.false_eq_true, if_false, w0, h3, hm0, q1, q2, w3, q3, q4, hn0, if_true, hd, wx, wy])
theorem one_ex {b : List Int} (hb : Bytes b) {p : Int} (hp : 0 ≤ p) (hp2 : p ≤ 1000000) (l : List Int) (hl : 1 ≤ l.length) (hl2 : l.length ≤ 1000) :
    ∃ v, v ∈ l ∧ Ev (fun k => spec_l30Rd_one.f k b p l) (v, p + 1) := by
  obtain ⟨v, hv, h0, h1, _⟩ := pick_ex hb hp hp2 (n := (l.length : Int)) (by omega)
  have h1 := h1 (by omega)
  unfold spec_l30Rd_one.f
  obtain ⟨i, rfl⟩ := Int.eq_ofNat_of_zero_le h0
  have hi : i < l.length := by omega
  refine ⟨l[i], List.getElem_mem hi, Ev.bind hv ?_⟩
  simp only [h0, h1, if_true, rd_at l i hi]
  exact ev_now fun _ => rfl
theorem open_ex (l : List Int) (h : ∀ x ∈ l, (Lit.int .u8 x).wf = true) : ∃ b, Bytes b ∧ spec_l30Open.f l = some (b, 0) := by
  have hw : ∀ x ∈ l, 0 ≤ x ∧ x ≤ 255 := by
    intro x hx
    have := h x hx
    simp [Lit.wf, IntKind.min, IntKind.max, IntKind.signed, IntKind.bits] at this
    omega
  unfold spec_l30Open.f
  by_cases h1 : (l.length : Int) > 2000
  · have h2 : 2000 ≤ (l.length : Int) := by omega
    rw [if_pos h1, if_pos h2]
    exact ⟨_, ⟨by rw [List.length_take]; omega, fun x hx => hw x (List.mem_of_mem_take hx)⟩, rfl⟩
  · rw [if_neg h1]
    exact ⟨_, ⟨by omega, hw⟩, rfl⟩
/-! ### nets, nodes and walks that are drawn -/
theorem l30Net_loop {b : List Int} (hb : Bytes b) {n : Int} (hn : 2 ≤ n ∧ n ≤ 6) : ∀ (m : Nat) (l : List S33) (p : Int), l.length + m ≤ 13 → 0 ≤ p → p + 6 * m ≤ 100000 →
    ∃ l' q, Ev (fun k => spec_l30Net.l0 k (m : Int) b p n l) (n, l', q) ∧ l'.length ≤ 13 ∧ 0 ≤ q ∧ q ≤ p + 6 * m := by
  intro m
  induction m with
  | zero =>
    intro l p hl hp hq
    exact ⟨l, p, ev_shift (ev_now fun k => by simp [spec_l30Net.l0]), by omega, hp, by omega⟩
  | succ m ih =>
    intro l p hl hp hq
    obtain ⟨v1, e1, _⟩ := pick_ex hb hp (by omega) (n := n) (by omega)
    obtain ⟨v2, e2, _⟩ := pick_ex hb (p := p + 1) (by omega) (by omega) (n := n) (by omega)
    obtain ⟨v3, e3, _⟩ := pick_ex hb (p := p + 1 + 1) (by omega) (by omega) (n := 100) (by omega)
    obtain ⟨v4, _, e4⟩ := one_ex hb (p := p + 1 + 1 + 1) (by omega) (by omega) [0, 1, 2, 5, 9, v3] (by simp) (by simp)
    obtain ⟨v5, _, e5⟩ := one_ex hb (p := p + 1 + 1 + 1 + 1) (by omega) (by omega) [0, 0, 3, 8] (by simp) (by simp)
    obtain ⟨v6, e6, _⟩ := pick_ex hb (p := p + 1 + 1 + 1 + 1 + 1) (by omega) (by omega) (n := 10) (by omega)
    have hpos : ((m + 1 : Nat) : Int) > 0 := by omega
    have hw : wrap64 (((m + 1 : Nat) : Int) - 1) = (m : Int) := by rw [w_id (by omega) (by omega)]; omega
    have hlen : l.length < 3518437208883 := by omega
    have hn0 : ¬ n = 0 := by omega
    by_cases hv : v1 = v2
    · obtain ⟨l', q, he, h1, h2, h3⟩ := ih (l ++ [⟨v1, Int.tmod (wrap64 (v2 + 1)) n, v4, v5, v6⟩]) (p + 1 + 1 + 1 + 1 + 1 + 1) (by rw [List.length_append]; simp; omega) (by omega) (by omega)
      refine ⟨l', q, ev_shift ?_, h1, h2, by omega⟩
      simp only [spec_l30Net.l0, hpos, if_true]
      refine Ev.bind e1 (Ev.bind e2 (Ev.bind e3 (Ev.bind e4 (Ev.bind e5 (Ev.bind e6 ?_)))))
      simp only [hv, hn0, hlen, if_true, if_false, hw]
      rw [hv] at he
      exact he
    · obtain ⟨l', q, he, h1, h2, h3⟩ := ih (l ++ [⟨v1, v2, v4, v5, v6⟩]) (p + 1 + 1 + 1 + 1 + 1 + 1) (by rw [List.length_append]; simp; omega) (by omega) (by omega)
      refine ⟨l', q, ev_shift ?_, h1, h2, by omega⟩
      simp only [spec_l30Net.l0, hpos, if_true]
      refine Ev.bind e1 (Ev.bind e2 (Ev.bind e3 (Ev.bind e4 (Ev.bind e5 (Ev.bind e6 ?_)))))
      simp only [hv, hlen, if_true, if_false, hw]
      exact he
theorem l30Net_ex {b : List Int} (hb : Bytes b) {p : Int} (hp : 0 ≤ p) (hp2 : p ≤ 90000) :
    ∃ n l q, Ev (fun k => spec_l30Net.f k b p) (n, l, q) ∧ l.length ≤ 13 ∧ 0 ≤ q ∧ q ≤ p + 100 ∧ 2 ≤ n ∧ n ≤ 6 := by
  obtain ⟨v1, e1, h1, h1', _⟩ := pick_ex hb hp (by omega) (n := 5) (by omega)
  obtain ⟨v2, e2, h2, h2', _⟩ := pick_ex hb (p := p + 1) (by omega) (by omega) (n := 14) (by omega)
  have h1' := h1' (by omega)
  have h2' := h2' (by omega)
  obtain ⟨m, rfl⟩ := Int.eq_ofNat_of_zero_le h2
  have hw : wrap64 (2 + v1) = 2 + v1 := w_id (by omega) (by omega)
  obtain ⟨l, q, he, h3, h4, h5⟩ := l30Net_loop hb (n := 2 + v1) (by omega) m [] (p + 1 + 1) (by simp; omega) (by omega) (by omega)
  refine ⟨2 + v1, l, q, ?_, h3, h4, by omega, by omega, by omega⟩
  unfold spec_l30Net.f
  refine Ev.bind e1 (Ev.bind e2 ?_)
  rw [hw]
  exact he
/-! ### drawn nodes -/
theorem l30Node_ex {b : List Int} (hb : Bytes b) {p : Int} (hp : 0 ≤ p) (hp2 : p ≤ 90000) (n : Int) (hn : n ≤ 1000000) (l : List S33) :
    ∃ v q, Ev (fun k => spec_l30Node.f k b p n l) (v, q) ∧ 0 ≤ q ∧ q ≤ p + 10 := by
  obtain ⟨v1, e1, _⟩ := pick_ex hb hp (by omega) (n := 16) (by omega)
  unfold spec_l30Node.f
  by_cases c : v1 = 0
  · obtain ⟨v2, _, e2⟩ := one_ex hb (p := p + 1) (by omega) (by omega) [(-1), n] (by simp) (by simp)
    refine ⟨v2, p + 1 + 1, Ev.bind e1 ?_, by omega, by omega⟩
    simp only [c, if_true]
    exact Ev.bind e2 (ev_now fun _ => rfl)
  · obtain ⟨v2, e2, _⟩ := pick_ex hb (p := p + 1) (by omega) (by omega) (n := n) hn
    refine ⟨v2, p + 1 + 1, Ev.bind e1 ?_, by omega, by omega⟩
    simp only [c, if_false]
    exact Ev.bind e2 (ev_now fun _ => rfl)
/-! ### drawn nets, ok or not -/
theorem l30AnyNet_ex9 {b : List Int} (hb : Bytes b) {p : Int} (hp : 0 ≤ p) (hp2 : p ≤ 90000) :
    ∃ n l q, Ev (fun k => spec_l30AnyNet.f k b p) (n, l, q) ∧ l.length ≤ 13 ∧ 0 ≤ q ∧ q ≤ p + 200 ∧ n ≤ 9 := by
  obtain ⟨n, l, q, he, h1, h2, h3, h4, h5⟩ := l30Net_ex hb hp hp2
  unfold spec_l30AnyNet.f
  by_cases hl : (l.length : Int) > 0
  · obtain ⟨v1, e1, g1, g2, _⟩ := pick_ex hb h2 (by omega) (n := (l.length : Int)) (by omega)
    have g2 := g2 (by omega)
    obtain ⟨v2, e2, _⟩ := pick_ex hb (p := q + 1) (by omega) (by omega) (n := 16) (by omega)
    by_cases c0 : v2 = 0
    · obtain ⟨v3, _, e3⟩ := one_ex hb (p := q + 1 + 1) (by omega) (by omega) [(-1), 8, (rd_T33 l v1).f0] (by simp) (by simp)
      refine ⟨n, l.set v1.toNat (⟨(rd_T33 l v1).f0, v3, (rd_T33 l v1).f2, (rd_T33 l v1).f3, (rd_T33 l v1).f4⟩ : S33), q + 1 + 1 + 1, Ev.bind he ?_, ?_, ?_, ?_, ?_⟩
      · simp only [hl, if_true]
        refine Ev.bind e1 (Ev.bind e2 ?_)
        simp only [c0, if_true, g1, g2]
        exact Ev.bind e3 (ev_now fun _ => rfl)
      · rw [List.length_set]; exact h1
      · omega
      · omega
      · omega
    · by_cases c1 : v2 = 1
      · obtain ⟨v3, _, e3⟩ := one_ex hb (p := q + 1 + 1) (by omega) (by omega) [(-1), 100] (by simp) (by simp)
        refine ⟨n, l.set v1.toNat (⟨(rd_T33 l v1).f0, (rd_T33 l v1).f1, v3, (rd_T33 l v1).f3, (rd_T33 l v1).f4⟩ : S33), q + 1 + 1 + 1, Ev.bind he ?_, ?_, ?_, ?_, ?_⟩
        · simp only [hl, if_true]
          refine Ev.bind e1 (Ev.bind e2 ?_)
          simp only [c1, if_true, show ¬ (1 : Int) = 0 by omega, if_false]
          refine Ev.bind e3 ?_
          simp only [g1, g2, if_true]
          exact ev_now fun _ => rfl
        · rw [List.length_set]; exact h1
        · omega
        · omega
        · omega
      · by_cases c2 : v2 = 2
        · obtain ⟨v3, hv3, e3⟩ := one_ex hb (p := q + 1 + 1) (by omega) (by omega) [0, 1, 9, 8] (by simp) (by simp)
          refine ⟨v3, l, q + 1 + 1 + 1, Ev.bind he ?_, h1, by omega, by omega, by simp only [List.mem_cons, List.not_mem_nil, or_false] at hv3; omega⟩
          simp only [hl, if_true]
          refine Ev.bind e1 (Ev.bind e2 ?_)
          simp only [c2, if_true, show ¬ (2 : Int) = 0 by omega, show ¬ (2 : Int) = 1 by omega, if_false]
          exact Ev.bind e3 (ev_now fun _ => rfl)
        · refine ⟨n, l, q + 1 + 1, Ev.bind he ?_, h1, by omega, by omega, by omega⟩
          simp only [hl, if_true]
          refine Ev.bind e1 (Ev.bind e2 ?_)
          simp only [c0, c1, c2, if_false]
          exact ev_now fun _ => rfl
  · refine ⟨n, l, q, Ev.bind he ?_, h1, h2, by omega, by omega⟩
    simp only [hl, if_false]
    exact ev_now fun _ => rfl
theorem l30AnyNet_ex {b : List Int} (hb : Bytes b) {p : Int} (hp : 0 ≤ p) (hp2 : p ≤ 90000) :
    ∃ n l q, Ev (fun k => spec_l30AnyNet.f k b p) (n, l, q) ∧ l.length ≤ 13 ∧ 0 ≤ q ∧ q ≤ p + 200 ∧ n ≤ 1000000 := by
  obtain ⟨n, l, q, h1, h2, h3, h4, h5⟩ := l30AnyNet_ex9 hb hp hp2
  exact ⟨n, l, q, h1, h2, h3, h4, by omega⟩
theorem drawPairSum_ex (c : List Int) (h : ∀ x ∈ c, (Lit.int .u8 x).wf = true) : ∃ n l a b d e, Ev (fun k => spec_DrawPairSum.f k c) (n, l, a, b, d, e) ∧ l.length ≤ 13 ∧ (d = 100 ∨ d = 50 ∨ d = 0 ∨ d = 101) ∧ (e = 0 ∨ e = 100 ∨ e = 30) := by
  obtain ⟨y, hb, ho⟩ := open_ex c h
  obtain ⟨n, l, q, he, h1, h2, h3, h4⟩ := l30AnyNet_ex hb (p := 0) (by omega) (by omega)
  obtain ⟨a, q1, e1, g1, g2⟩ := l30Node_ex hb h2 (by omega) n h4 l
  obtain ⟨b, q2, e2, g3, g4⟩ := l30Node_ex hb g1 (by omega) n h4 l
  obtain ⟨d, hd, e3⟩ := one_ex hb (p := q2) g3 (by omega) [100, 50, 0, 101] (by simp) (by simp)
  obtain ⟨e, hee, e4⟩ := one_ex hb (p := q2 + 1) (by omega) (by omega) [0, 100, 30] (by simp) (by simp)
  unfold spec_DrawPairSum.f
  simp only [ho, Option.bind_some]
  refine ⟨n, l, a, b, d, e, Ev.bind he (Ev.bind e1 (Ev.bind e2 (Ev.bind e3 (Ev.bind e4 (ev_now fun _ => rfl))))), h1, ?_, ?_⟩
  · simpa using hd
  · simpa using hee
/-! ### a valid net -/
/-- What a valid net is. -/
structure Net1 (n : Int) (l : List S33) : Prop where
  lo : 1 ≤ n
  hi : n ≤ 8
  len : l.length ≤ 16
  ends : ∀ x ∈ l, 0 ≤ x.f0 ∧ x.f0 < n ∧ 0 ≤ x.f1 ∧ x.f1 < n ∧ x.f0 ≠ x.f1 ∧ 0 ≤ x.f2 ∧ x.f2 ≤ 99 ∧ 0 ≤ x.f3 ∧ x.f3 ≤ 99 ∧ 0 ≤ x.f4 ∧ x.f4 ≤ 9
theorem net1_of {n : Int} {l : List S33} (h : netOkB n l = true) : Net1 n l := by
  unfold netOkB at h
  simp only [Bool.and_eq_true, decide_eq_true_eq, inB_iff, Bool.not_eq_true'] at h
  obtain ⟨⟨h1, h2⟩, h3, h4⟩ := h
  refine ⟨h1, h2, h3, fun x hx => ?_⟩
  have h5 : arcBad n x = false := by
    cases h6 : arcBad n x with
    | false => rfl
    | true => rw [List.any_eq_true.2 ⟨x, hx, h6⟩] at h4; cases h4
  rw [arcBad_eq] at h5
  simp only [Bool.not_eq_false', Bool.and_eq_true, inB_iff, Bool.not_eq_true', beq_eq_false_iff_ne] at h5
  rw [w_id (n := n - 1) (by omega) (by omega)] at h5
  obtain ⟨a, b, c, d, e, f⟩ := h5
  exact ⟨a.1, by omega, b.1, by omega, c, d.1, d.2, e.1, e.2, f.1, f.2⟩
theorem netOk_of {n : Int} {l : List S33} (hn : Net1 n l) : netOkB n l = true := by
  unfold netOkB
  have hlo := hn.lo
  have hhi := hn.hi
  have hl := hn.len
  simp only [Bool.and_eq_true, decide_eq_true_eq, inB_iff, Bool.not_eq_true']
  refine ⟨⟨hlo, hhi⟩, hl, ?_⟩
  rw [List.any_eq_false]
  intro x hx
  obtain ⟨h1, h2, h3, h4, h5, h6, h7, h8, h9, h10, h11⟩ := hn.ends x hx
  have : arcBad n x = false := by
    rw [arcBad_eq]
    simp only [Bool.not_eq_false', Bool.and_eq_true, inB_iff, Bool.not_eq_true', beq_eq_false_iff_ne]
    rw [w_id (n := n - 1) (by omega) (by omega)]
    exact ⟨⟨h1, by omega⟩, ⟨h3, by omega⟩, h5, ⟨h6, h7⟩, ⟨h8, h9⟩, h10, h11⟩
  rw [this]; exact Bool.false_ne_true
/-! ### pairs of cost and toll: stairs, what is least in both, and walks -/
/-- The first costs less and has more toll. -/
def SR (p q : S35) : Prop := p.f0 < q.f0 ∧ q.f1 < p.f1
def leP (p q : S35) : Prop := p.f0 ≤ q.f0 ∧ p.f1 ≤ q.f1
def Stair (L : List S35) : Prop := L.Pairwise SR
theorem SR.trans {p q r : S35} (h1 : SR p q) (h2 : SR q r) : SR p r := ⟨by have := h1.1; have := h2.1; omega, by have := h1.2; have := h2.2; omega⟩
theorem stair_ext : ∀ L L' : List S35, Stair L → Stair L' → (∀ x, x ∈ L ↔ x ∈ L') → L = L'
  | [], [], _, _, _ => rfl
  | [], q :: r', _, _, h => absurd ((h q).2 (by simp)) (by simp)
  | p :: r, [], _, _, h => absurd ((h p).1 (by simp)) (by simp)
  | p :: r, q :: r', h1, h2, h => by
    unfold Stair at h1 h2
    rw [List.pairwise_cons] at h1 h2
    have e : p = q := by
      have hp := (h p).1 (by simp)
      have hq := (h q).2 (by simp)
      rw [List.mem_cons] at hp hq
      rcases hp with hp | hp
      · exact hp
      · rcases hq with hq | hq
        · exact hq.symm
        · have a := (h2.1 p hp).1
          have b := (h1.1 q hq).1
          omega
    subst e
    congr 1
    refine stair_ext r r' h1.2 h2.2 fun x => ?_
    constructor
    · intro hx
      have h3 := (h x).1 (by simp [hx])
      rw [List.mem_cons] at h3
      rcases h3 with rfl | h3
      · have := (h1.1 x hx).1; omega
      · exact h3
    · intro hx
      have h3 := (h x).2 (by simp [hx])
      rw [List.mem_cons] at h3
      rcases h3 with rfl | h3
      · have := (h2.1 x hx).1; omega
      · exact h3
/-- In a stair no two are one no worse than the other. -/
theorem stair_le {L : List S35} (h : Stair L) {p q : S35} (hp : p ∈ L) (hq : q ∈ L) (hle : leP p q) : p = q := by
  unfold Stair at h
  rw [List.pairwise_iff_getElem] at h
  obtain ⟨i, hi, rfl⟩ := List.getElem_of_mem hp
  obtain ⟨j, hj, rfl⟩ := List.getElem_of_mem hq
  rcases Nat.lt_trichotomy i j with c | c | c
  · have := (h i j hi hj c).2; have := hle.2; omega
  · subst c; rfl
  · have := (h j i hj hi c).1; have := hle.1; omega
theorem leP.trans {p q r : S35} (h1 : leP p q) (h2 : leP q r) : leP p r := ⟨Int.le_trans h1.1 h2.1, Int.le_trans h1.2 h2.2⟩
/-- Two stairs each of which has, for each of the other's, one that is no worse, are the same. -/
theorem stair_same {L L' : List S35} (h : Stair L) (h' : Stair L') (h1 : ∀ p ∈ L, ∃ q ∈ L', leP q p) (h2 : ∀ p ∈ L', ∃ q ∈ L, leP q p) : L = L' := by
  have key : ∀ {L L' : List S35}, Stair L → (∀ p ∈ L, ∃ q ∈ L', leP q p) → (∀ p ∈ L', ∃ q ∈ L, leP q p) → ∀ x, x ∈ L → x ∈ L' := by
    intro L L' h h1 h2 x hx
    obtain ⟨q, hq, hle⟩ := h1 x hx
    obtain ⟨r, hr, hle2⟩ := h2 q hq
    have e := stair_le h hr hx (hle2.trans hle)
    subst e
    have : q = r := by
      obtain ⟨q0, q1⟩ := q
      obtain ⟨r0, r1⟩ := r
      have a := hle.1; have b := hle.2; have c := hle2.1; have d := hle2.2
      simp only at a b c d
      rw [show q0 = r0 by omega, show q1 = r1 by omega]
    rw [← this]; exact hq
  exact stair_ext L L' h h' fun x => ⟨key h h1 h2 x, key h' h2 h1 x⟩
/-- L' is the stair of what is in L and A. -/
structure Join (L A L' : List S35) : Prop where
  stair : Stair L'
  sub : ∀ p ∈ L', p ∈ L ∨ p ∈ A
  low : ∀ p, p ∈ L ∨ p ∈ A → ∃ q ∈ L', leP q p
theorem leP.refl (p : S35) : leP p p := ⟨Int.le_refl _, Int.le_refl _⟩
theorem join_one {L A L' L'' : List S35} (h : Join L A L') (h' : Join L A L'') : L' = L'' :=
  stair_same h.stair h'.stair (fun p hp => h'.low p (h.sub p hp)) (fun p hp => h.low p (h'.sub p hp))
/-- A pair put among others that are a stair. -/
def insP (p : S35) : List S35 → Bool → List S35
  | [], put => if put = true then [] else [p]
  | q :: r, put => if q.f0 ≥ p.f0 ∧ q.f1 ≥ p.f1 then insP p r put else if put = false ∧ q.f0 > p.f0 then p :: q :: insP p r true else q :: insP p r put
theorem insP_true (p : S35) : ∀ L : List S35, (insP p L true).Sublist L := by
  intro L
  induction L with
  | nil => simp [insP]
  | cons q r ih =>
    unfold insP
    split
    · exact ih.cons q
    · simp only [Bool.true_eq_false, false_and, if_false]
      exact ih.cons_cons q
theorem insP_mem (p : S35) : ∀ (L : List S35) (put : Bool) (x : S35), x ∈ insP p L put → x ∈ L ∨ x = p := by
  intro L
  induction L with
  | nil => intro put x hx; unfold insP at hx; split at hx <;> simp_all
  | cons q r ih =>
    intro put x hx
    unfold insP at hx
    split at hx
    · rcases ih _ _ hx with h | h
      · exact .inl (by simp [h])
      · exact .inr h
    · split at hx
      · simp only [List.mem_cons] at hx
        rcases hx with h | h | h
        · exact .inr h
        · exact .inl (by simp [h])
        · rcases ih _ _ h with h | h
          · exact .inl (by simp [h])
          · exact .inr h
      · simp only [List.mem_cons] at hx
        rcases hx with h | h
        · exact .inl (by simp [h])
        · rcases ih _ _ h with h | h
          · exact .inl (by simp [h])
          · exact .inr h
theorem insP_kept (p : S35) : ∀ (L : List S35) (put : Bool) (x : S35), x ∈ L → ¬ (x.f0 ≥ p.f0 ∧ x.f1 ≥ p.f1) → x ∈ insP p L put := by
  intro L
  induction L with
  | nil => intro put x hx; cases hx
  | cons q r ih =>
    intro put x hx hn
    rw [List.mem_cons] at hx
    unfold insP
    split
    · rename_i c
      rcases hx with rfl | hx
      · exact absurd c hn
      · exact ih _ _ hx hn
    · split
      · rcases hx with rfl | hx
        · simp
        · simp [ih true x hx hn]
      · rcases hx with rfl | hx
        · simp
        · simp [ih put x hx hn]
theorem insP_self (p : S35) : ∀ (L : List S35), p ∈ insP p L false := by
  intro L
  induction L with
  | nil => simp [insP]
  | cons q r ih =>
    unfold insP
    split
    · exact ih
    · split
      · simp
      · simp [ih]
theorem insP_stair (p : S35) : ∀ L : List S35, Stair L → (∀ q ∈ L, ¬ leP q p) → Stair (insP p L false) := by
  intro L
  induction L with
  | nil => intro _ _; simp [insP, Stair]
  | cons q r ih =>
    intro h hn
    unfold Stair at h
    rw [List.pairwise_cons] at h
    have ih := ih h.2 fun x hx => hn x (by simp [hx])
    have hq := hn q (by simp)
    unfold leP at hq
    unfold insP
    split
    · exact ih
    · rename_i c1
      split
      · rename_i c2
        have hpq : SR p q := ⟨by omega, by omega⟩
        unfold Stair
        have hs : (q :: insP p r true).Sublist (q :: r) := (insP_true p r).cons_cons q
        have hall : ∀ x ∈ q :: r, SR p x := by
          intro x hx
          rw [List.mem_cons] at hx
          rcases hx with rfl | hx
          · exact hpq
          · exact hpq.trans (h.1 x hx)
        rw [List.pairwise_cons]
        exact ⟨fun x hx => hall x (hs.subset hx), List.Pairwise.sublist hs (List.pairwise_cons.2 h)⟩
      · rename_i c2
        have hqp : SR q p := by
          have : ¬ q.f0 > p.f0 := fun c => c2 ⟨rfl, c⟩
          exact ⟨by omega, by omega⟩
        unfold Stair
        rw [List.pairwise_cons]
        refine ⟨fun x hx => ?_, ih⟩
        rcases insP_mem p r false x hx with hx | rfl
        · exact h.1 x hx
        · exact hqp
/-- What l19Put tells. -/
def putP (L : List S35) (p : S35) : List S35 := if (L.any fun q => decide (q.f0 ≤ p.f0) && decide (q.f1 ≤ p.f1)) = true then L else insP p L false
theorem putP_join {L : List S35} (h : Stair L) (p : S35) : Join L [p] (putP L p) := by
  unfold putP
  split
  · rename_i c
    rw [List.any_eq_true] at c
    obtain ⟨q, hq, hle⟩ := c
    simp only [Bool.and_eq_true, decide_eq_true_eq] at hle
    refine ⟨h, fun x hx => .inl hx, fun x hx => ?_⟩
    rcases hx with hx | hx
    · exact ⟨x, hx, leP.refl x⟩
    · rw [List.mem_singleton] at hx
      subst hx
      exact ⟨q, hq, hle⟩
  · rename_i c
    have hn : ∀ q ∈ L, ¬ leP q p := by
      intro q hq hle
      apply c
      rw [List.any_eq_true]
      exact ⟨q, hq, by simp only [Bool.and_eq_true, decide_eq_true_eq]; exact hle⟩
    refine ⟨insP_stair p L h hn, fun x hx => ?_, fun x hx => ?_⟩
    · rcases insP_mem p L false x hx with hx | hx
      · exact .inl hx
      · exact .inr (by simp [hx])
    · rcases hx with hx | hx
      · by_cases c2 : x.f0 ≥ p.f0 ∧ x.f1 ≥ p.f1
        · exact ⟨p, insP_self p L, c2⟩
        · exact ⟨x, insP_kept p L false x hx c2, leP.refl x⟩
      · rw [List.mem_singleton] at hx
        subst hx
        exact ⟨x, insP_self x L, leP.refl x⟩
theorem join_trans {L A B L' L'' : List S35} (h1 : Join L A L') (h2 : Join L' B L'') : Join L (A ++ B) L'' := by
  refine ⟨h2.stair, fun p hp => ?_, fun p hp => ?_⟩
  · rcases h2.sub p hp with h | h
    · rcases h1.sub p h with h | h
      · exact .inl h
      · exact .inr (by simp [h])
    · exact .inr (by simp [h])
  · rw [List.mem_append] at hp
    have : (p ∈ L ∨ p ∈ A) ∨ p ∈ B := by
      rcases hp with h | h | h
      · exact .inl (.inl h)
      · exact .inl (.inr h)
      · exact .inr h
    rcases this with h | h
    · obtain ⟨q, hq, hle⟩ := h1.low p h
      obtain ⟨r, hr, hle2⟩ := h2.low q (.inl hq)
      exact ⟨r, hr, hle2.trans hle⟩
    · exact h2.low p (.inr h)
theorem join_nil {L : List S35} (h : Stair L) : Join L [] L := ⟨h, fun _ hp => .inl hp, fun p hp => by rcases hp with hp | hp; exact ⟨p, hp, leP.refl p⟩; cases hp⟩
/-- Of pairs by cost, then by toll: those with less toll than all ahead. -/
def keepP : List S35 → Option Int → List S35
  | [], _ => []
  | p :: r, none => p :: keepP r (some p.f1)
  | p :: r, some t => if p.f1 < t then p :: keepP r (some p.f1) else keepP r (some t)
def Lex (p q : S35) : Prop := p.f0 < q.f0 ∨ p.f0 = q.f0 ∧ p.f1 ≤ q.f1
theorem keepP_sub : ∀ (L : List S35) (b : Option Int) (x : S35), x ∈ keepP L b → x ∈ L ∧ ∀ t, b = some t → x.f1 < t := by
  intro L
  induction L with
  | nil => intro b x hx; simp [keepP] at hx
  | cons p r ih =>
    intro b x hx
    cases b with
    | none =>
      simp only [keepP, List.mem_cons] at hx
      refine ⟨?_, fun t ht => by cases ht⟩
      rcases hx with rfl | hx
      · simp
      · simp [(ih _ _ hx).1]
    | some t =>
      simp only [keepP] at hx
      split at hx
      · rename_i c
        rw [List.mem_cons] at hx
        rcases hx with rfl | hx
        · exact ⟨by simp, fun t' ht => by injection ht with ht; omega⟩
        · have := ih _ _ hx
          refine ⟨by simp [this.1], fun t' ht => ?_⟩
          have h2 := this.2 _ rfl
          injection ht with ht
          omega
      · have := ih _ _ hx
        exact ⟨by simp [this.1], this.2⟩
theorem keepP_stair : ∀ (L : List S35) (b : Option Int), L.Pairwise Lex → Stair (keepP L b) := by
  intro L
  induction L with
  | nil => intro b _; simp [keepP, Stair]
  | cons p r ih =>
    intro b h
    rw [List.pairwise_cons] at h
    have key : Stair (p :: keepP r (some p.f1)) := by
      unfold Stair
      rw [List.pairwise_cons]
      refine ⟨fun x hx => ?_, ih _ h.2⟩
      have h1 := keepP_sub r _ x hx
      have h2 := h.1 x h1.1
      have h3 := h1.2 _ rfl
      unfold Lex at h2
      exact ⟨by omega, h3⟩
    cases b with
    | none => exact key
    | some t =>
      simp only [keepP]
      split
      · exact key
      · exact ih _ h.2
theorem keepP_low : ∀ (L : List S35) (b : Option Int), L.Pairwise Lex → ∀ x ∈ L, (∃ q ∈ keepP L b, leP q x) ∨ ∃ t, b = some t ∧ t ≤ x.f1 := by
  intro L
  induction L with
  | nil => intro b _ x hx; cases hx
  | cons p r ih =>
    intro b h x hx
    rw [List.pairwise_cons] at h
    have key : ∃ q ∈ p :: keepP r (some p.f1), leP q x := by
      rw [List.mem_cons] at hx
      rcases hx with rfl | hx
      · exact ⟨x, by simp, leP.refl x⟩
      · rcases ih (some p.f1) h.2 x hx with ⟨q, hq, hle⟩ | ⟨t, ht, hle⟩
        · exact ⟨q, by simp [hq], hle⟩
        · injection ht with ht
          have := h.1 x hx
          unfold Lex at this
          exact ⟨p, by simp, by omega, by omega⟩
    cases b with
    | none => exact .inl key
    | some t =>
      simp only [keepP]
      split
      · exact .inl key
      · rename_i c
        rw [List.mem_cons] at hx
        rcases hx with rfl | hx
        · exact .inr ⟨t, rfl, by omega⟩
        · exact ih (some t) h.2 x hx
/-- What is kept of pairs put in order is their stair. -/
theorem keepP_join {L A S : List S35} (hS : S.Pairwise Lex) (hm : ∀ x, x ∈ S ↔ x ∈ L ∨ x ∈ A) : Join L A (keepP S none) := by
  refine ⟨keepP_stair S none hS, fun p hp => (hm p).1 (keepP_sub S none p hp).1, fun p hp => ?_⟩
  rcases keepP_low S none hS p ((hm p).2 hp) with h | ⟨t, ht, _⟩
  · exact h
  · cases ht
/-! walks, by cost and toll -/
/-- A walk from a node: what it costs, its toll, and how many arcs. -/
inductive Pays (l : List S33) (s : Int) : Int → Int → Int → Nat → Prop
  | nil : Pays l s s 0 0 0
  | snoc {x : S33} {c t : Int} {m : Nat} : Pays l s x.f0 c t m → x ∈ l → Pays l s x.f1 (c + x.f2) (t + x.f3) (m + 1)
/-- One that comes to no node twice: its nodes. -/
inductive Plain (l : List S33) (s : Int) : Int → Int → Int → List Int → Prop
  | nil : Plain l s s 0 0 [s]
  | snoc {x : S33} {c t : Int} {ns : List Int} : Plain l s x.f0 c t ns → x ∈ l → x.f1 ∉ ns → Plain l s x.f1 (c + x.f2) (t + x.f3) (x.f1 :: ns)
theorem Pays.rng {n : Int} {l : List S33} (hn : Net1 n l) {s v c t : Int} {m : Nat} (h : Pays l s v c t m) : 0 ≤ c ∧ c ≤ 99 * (m : Int) ∧ 0 ≤ t ∧ t ≤ 99 * (m : Int) := by
  induction h with
  | nil => simp
  | @snoc x c t m _ hx ih =>
    obtain ⟨_, _, _, _, _, h1, h2, h3, h4, _⟩ := hn.ends _ hx
    omega
theorem Plain.cut {n : Int} {l : List S33} (hn : Net1 n l) {s v c t : Int} {ns : List Int} (h : Plain l s v c t ns) : ∀ u ∈ ns, ∃ c' t' ns', Plain l s u c' t' ns' ∧ c' ≤ c ∧ t' ≤ t := by
  induction h with
  | nil => intro u hu; rw [List.mem_singleton] at hu; subst hu; exact ⟨0, 0, _, Plain.nil, Int.le_refl _, Int.le_refl _⟩
  | @snoc x c t ns hp hx hns ih =>
    intro u hu
    obtain ⟨_, _, _, _, _, h1, _, h3, _⟩ := hn.ends _ hx
    rw [List.mem_cons] at hu
    rcases hu with rfl | hu
    · exact ⟨_, _, _, Plain.snoc hp hx hns, Int.le_refl _, Int.le_refl _⟩
    · obtain ⟨c', t', ns', a, b, d⟩ := ih u hu
      exact ⟨c', t', ns', a, by omega, by omega⟩
theorem Pays.plain {n : Int} {l : List S33} (hn : Net1 n l) {s v c t : Int} {m : Nat} (h : Pays l s v c t m) : ∃ c' t' ns, Plain l s v c' t' ns ∧ c' ≤ c ∧ t' ≤ t := by
  induction h with
  | nil => exact ⟨0, 0, _, Plain.nil, Int.le_refl _, Int.le_refl _⟩
  | @snoc x c t m _ hx ih =>
    obtain ⟨c', t', ns, hp, h1, h2⟩ := ih
    by_cases hm : x.f1 ∈ ns
    · obtain ⟨_, _, _, _, _, g1, _, g3, _⟩ := hn.ends _ hx
      obtain ⟨c2, t2, ns2, hp2, h3, h4⟩ := hp.cut hn _ hm
      exact ⟨c2, t2, ns2, hp2, by omega, by omega⟩
    · exact ⟨_, _, _, Plain.snoc hp hx hm, by omega, by omega⟩
theorem nodup_len (k : Nat) : ∀ L : List Int, L.Nodup → (∀ x ∈ L, 0 ≤ x ∧ x < (k : Int)) → L.length ≤ k := by
  induction k with
  | zero =>
    intro L _ h
    cases L with
    | nil => simp
    | cons x r => have := h x (by simp); omega
  | succ k ih =>
    intro L hd h
    by_cases hk : (k : Int) ∈ L
    · have h1 := ih (L.erase (k : Int)) (hd.erase _) fun x hx => by
        have hx' := (hd.mem_erase_iff).1 hx
        have := h x hx'.2
        have := hx'.1
        omega
      rw [List.length_erase_of_mem hk] at h1
      omega
    · have := ih L hd fun x hx => by
        have h2 := h x hx
        have : x ≠ (k : Int) := fun e => hk (e ▸ hx)
        omega
      omega
theorem Plain.few {n : Int} {l : List S33} (hn : Net1 n l) {s v c t : Int} (hs : 0 ≤ s ∧ s < n) {ns : List Int} (h : Plain l s v c t ns) : ∃ m : Nat, m + 1 = ns.length ∧ ns.length ≤ n.toNat ∧ Pays l s v c t m := by
  have key : ns.Nodup ∧ (∀ x ∈ ns, 0 ≤ x ∧ x < n) ∧ ∃ m : Nat, m + 1 = ns.length ∧ Pays l s v c t m := by
    induction h with
    | nil => exact ⟨by simp, by intro x hx; rw [List.mem_singleton] at hx; subst hx; exact hs, 0, rfl, Pays.nil⟩
    | @snoc x c t ns _ hx hns ih =>
      obtain ⟨h1, h2, m, hm, hp⟩ := ih
      obtain ⟨_, _, e3, e4, _⟩ := hn.ends _ hx
      refine ⟨List.nodup_cons.2 ⟨hns, h1⟩, ?_, m + 1, by simp [hm], Pays.snoc hp hx⟩
      intro y hy
      rw [List.mem_cons] at hy
      rcases hy with rfl | hy
      · exact ⟨e3, e4⟩
      · exact h2 y hy
  obtain ⟨h1, h2, m, hm, hp⟩ := key
  have hlo := hn.lo
  exact ⟨m, hm, nodup_len n.toNat ns h1 (fun x hx => by have := h2 x hx; omega), hp⟩
/-- The pairs of all walks to a node, those alone that no other one is no worse than. -/
structure FinP (l : List S33) (s v : Int) (L : List S35) : Prop where
  stair : Stair L
  real : ∀ p ∈ L, ∃ m, Pays l s v p.f0 p.f1 m
  low : ∀ c t m, Pays l s v c t m → ∃ p ∈ L, p.f0 ≤ c ∧ p.f1 ≤ t
theorem fin_one {l : List S33} {s v : Int} {L L' : List S35} (h : FinP l s v L) (h' : FinP l s v L') : L = L' := by
  refine stair_same h.stair h'.stair (fun p hp => ?_) (fun p hp => ?_)
  · obtain ⟨m, hm⟩ := h.real p hp
    exact h'.low _ _ _ hm
  · obtain ⟨m, hm⟩ := h'.real p hp
    exact h.low _ _ _ hm
/-! ### rounds that end somewhere -/
theorem ev_ex {σ β : Type} (g : Nat → σ → Option β) (μ : σ → Nat) (Inv : σ → Prop) (P : β → Prop)
    (h : ∀ s, Inv s → (∀ s', Inv s' → μ s' < μ s → ∃ r, P r ∧ Ev (fun k => g k s') r) → ∃ r, P r ∧ Ev (fun k => g (k + 1) s) r) : ∀ s, Inv s → ∃ r, P r ∧ Ev (fun k => g k s) r := by
  have key : ∀ n s, μ s ≤ n → Inv s → ∃ r, P r ∧ Ev (fun k => g k s) r := by
    intro n
    induction n with
    | zero => intro s hs hi; obtain ⟨r, hp, he⟩ := h s hi (fun s' _ hlt => absurd hlt (by omega)); exact ⟨r, hp, ev_shift he⟩
    | succ n ih => intro s hs hi; obtain ⟨r, hp, he⟩ := h s hi (fun s' hi' hlt => ih s' (by omega) hi'); exact ⟨r, hp, ev_shift he⟩
  exact fun s hi => key _ s (Nat.le_refl _) hi
/-! ### rounds over arcs: pairs -/
theorem rdl_set (D : List (List S35)) (i j : Int) (v : List S35) (hi : 0 ≤ i) (hl : i < (D.length : Int)) (hj : 0 ≤ j) : rd_L5 (D.set i.toNat v) j = if i = j then v else rd_L5 D j := by
  unfold rd_L5
  rw [List.getD_eq_getElem?_getD, List.getElem?_set, List.getD_eq_getElem?_getD]
  by_cases e : i = j
  · subst e
    rw [if_pos rfl, if_pos rfl, if_pos (by omega)]
    rfl
  · rw [if_neg e, if_neg (by omega)]
/-- Pairs, one arc on. -/
def shiftP (x : S33) (L : List S35) : List S35 := L.map fun p => ⟨p.f0 + x.f2, p.f1 + x.f3⟩
structure PInv (n : Int) (l : List S33) (s : Int) (M : Nat) (d : List (List S35)) : Prop where
  len : (d.length : Int) = n
  stair : ∀ v, 0 ≤ v → v < n → Stair (rd_L5 d v)
  real : ∀ v, 0 ≤ v → v < n → ∀ p ∈ rd_L5 d v, ∃ m, m ≤ M ∧ Pays l s v p.f0 p.f1 m
def PCov (l : List S33) (s : Int) (r : Nat) (d : List (List S35)) : Prop := ∀ v c t m, Pays l s v c t m → m ≤ r → ∃ p ∈ rd_L5 d v, p.f0 ≤ c ∧ p.f1 ≤ t
/-- Nothing is lost. -/
def PLe (n : Int) (d d' : List (List S35)) : Prop := ∀ v, 0 ≤ v → v < n → ∀ p ∈ rd_L5 d v, ∃ q ∈ rd_L5 d' v, leP q p
theorem PLe.refl (n : Int) (d : List (List S35)) : PLe n d d := fun _ _ _ p hp => ⟨p, hp, leP.refl p⟩
theorem PLe.trans {n : Int} {d d' d'' : List (List S35)} (h1 : PLe n d d') (h2 : PLe n d' d'') : PLe n d d'' := fun v v0 v1 p hp => by
  obtain ⟨q, hq, hle⟩ := h1 v v0 v1 p hp
  obtain ⟨r, hr, hle2⟩ := h2 v v0 v1 q hq
  exact ⟨r, hr, hle2.trans hle⟩
/-- An arc is gone: from each pair at its first node one no worse at its second. -/
def PGone (x : S33) (d d' : List (List S35)) : Prop := ∀ p ∈ rd_L5 d x.f0, ∃ q ∈ rd_L5 d' x.f1, q.f0 ≤ p.f0 + x.f2 ∧ q.f1 ≤ p.f1 + x.f3
theorem PInv.relax {n : Int} {l : List S33} (hn : Net1 n l) {s : Int} {M : Nat} {d : List (List S35)} (h : PInv n l s M d) {y : S33} (hy : y ∈ l) {J : List S35} (hJ : Join (rd_L5 d y.f1) (shiftP y (rd_L5 d y.f0)) J) :
    PInv n l s (M + 1) (d.set y.f1.toNat J) ∧ PLe n d (d.set y.f1.toNat J) ∧ PGone y d (d.set y.f1.toNat J) := by
  obtain ⟨e1, e2, e3, e4, e5, _⟩ := hn.ends y hy
  have hl := h.len
  have hc : ∀ v, 0 ≤ v → rd_L5 (d.set y.f1.toNat J) v = if y.f1 = v then J else rd_L5 d v := fun v v0 => rdl_set d y.f1 v J e3 (by omega) v0
  refine ⟨⟨by rw [List.length_set]; exact hl, fun v v0 v1 => ?_, fun v v0 v1 p hp => ?_⟩, fun v v0 v1 p hp => ?_, fun p hp => ?_⟩
  · rw [hc v v0]
    split
    · exact hJ.stair
    · exact h.stair v v0 v1
  · rw [hc v v0] at hp
    by_cases e : y.f1 = v
    · rw [if_pos e] at hp
      subst e
      rcases hJ.sub p hp with hp | hp
      · obtain ⟨m, h1, h2⟩ := h.real _ e3 e4 p hp
        exact ⟨m, by omega, h2⟩
      · obtain ⟨q, hq, rfl⟩ := List.mem_map.1 hp
        obtain ⟨m, h1, h2⟩ := h.real _ e1 e2 q hq
        exact ⟨m + 1, by omega, Pays.snoc h2 hy⟩
    · rw [if_neg e] at hp
      obtain ⟨m, h1, h2⟩ := h.real v v0 v1 p hp
      exact ⟨m, by omega, h2⟩
  · rw [hc v v0]
    by_cases e : y.f1 = v
    · rw [if_pos e]
      subst e
      exact hJ.low p (.inl hp)
    · rw [if_neg e]
      exact ⟨p, hp, leP.refl p⟩
  · rw [hc _ e3, if_pos rfl]
    obtain ⟨q, hq, hle⟩ := hJ.low ⟨p.f0 + y.f2, p.f1 + y.f3⟩ (.inr (List.mem_map.2 ⟨p, hp, rfl⟩))
    exact ⟨q, hq, hle.1, hle.2⟩
theorem PGone.on {n : Int} {l : List S33} (hn : Net1 n l) {x : S33} (hx : x ∈ l) {d d' d'' : List (List S35)} (h : PGone x d d') (h2 : PLe n d' d'') : PGone x d d'' := fun p hp => by
  obtain ⟨_, _, e3, e4, _⟩ := hn.ends x hx
  obtain ⟨q, hq, a, b⟩ := h p hp
  obtain ⟨r, hr, hle⟩ := h2 _ e3 e4 q hq
  exact ⟨r, hr, Int.le_trans hle.1 a, Int.le_trans hle.2 b⟩
theorem PGone.of {n : Int} {l : List S33} (hn : Net1 n l) {x : S33} (hx : x ∈ l) {d0 d d' : List (List S35)} (h0 : PLe n d0 d) (h : PGone x d d') : PGone x d0 d' := fun p hp => by
  obtain ⟨e1, e2, _⟩ := hn.ends x hx
  obtain ⟨q, hq, hle⟩ := h0 _ e1 e2 p hp
  obtain ⟨r, hr, a, b⟩ := h q hq
  have := hle.1
  have := hle.2
  exact ⟨r, hr, by omega, by omega⟩
theorem Pays.node {n : Int} {l : List S33} (hn : Net1 n l) {s : Int} (hs : 0 ≤ s ∧ s < n) {v c t : Int} {m : Nat} (h : Pays l s v c t m) : 0 ≤ v ∧ v < n := by
  cases h with
  | nil => exact hs
  | snoc _ hx =>
    obtain ⟨_, _, e3, e4, _⟩ := hn.ends _ hx
    exact ⟨e3, e4⟩
theorem PCov.next {n : Int} {l : List S33} (hn : Net1 n l) {s : Int} (hs : 0 ≤ s ∧ s < n) {r : Nat} {d d' : List (List S35)} (h : PCov l s r d) (hle : PLe n d d') (hg : ∀ x ∈ l, PGone x d d') : PCov l s (r + 1) d' := by
  intro v c t m hp hm
  cases hp with
  | nil =>
    obtain ⟨p, hp, a, b⟩ := h _ _ _ _ Pays.nil (Nat.zero_le _)
    obtain ⟨q, hq, hl⟩ := hle _ hs.1 hs.2 p hp
    exact ⟨q, hq, Int.le_trans hl.1 a, Int.le_trans hl.2 b⟩
  | snoc h1 hx =>
    obtain ⟨p, hp, a, b⟩ := h _ _ _ _ h1 (by omega)
    obtain ⟨q, hq, a2, b2⟩ := hg _ hx p hp
    exact ⟨q, hq, by omega, by omega⟩
/-- Where no arc brings more, all walks are told. -/
theorem PCov.closed {l : List S33} {s : Int} {d : List (List S35)} (h : PCov l s 0 d) (hg : ∀ x ∈ l, PGone x d d) : ∀ r, PCov l s r d := by
  intro r v c t m hp _
  induction hp with
  | nil => exact h _ _ _ _ Pays.nil (Nat.le_refl _)
  | snoc h1 hx ih =>
    obtain ⟨p, hp, a, b⟩ := ih (by omega)
    obtain ⟨q, hq, a2, b2⟩ := hg _ hx p hp
    exact ⟨q, hq, by omega, by omega⟩
theorem PInv.fin {n : Int} {l : List S33} (hn : Net1 n l) {s : Int} (hs : 0 ≤ s ∧ s < n) {M : Nat} {d : List (List S35)} (h : PInv n l s M d) (hc : PCov l s n.toNat d) {v : Int} (v0 : 0 ≤ v) (v1 : v < n) : FinP l s v (rd_L5 d v) := by
  refine ⟨h.stair v v0 v1, fun p hp => ?_, fun c t m hp => ?_⟩
  · obtain ⟨m, _, hm⟩ := h.real v v0 v1 p hp
    exact ⟨m, hm⟩
  · obtain ⟨c', t', ns, h1, h2, h3⟩ := hp.plain hn
    obtain ⟨m', h4, h5, h6⟩ := h1.few hn hs
    obtain ⟨q, hq, a, b⟩ := hc _ _ _ _ h6 (by omega)
    exact ⟨q, hq, by omega, by omega⟩
/-- Where all is told an arc brings nothing. -/
theorem fin_still {n : Int} {l : List S33} {s : Int} {d : List (List S35)} {y : S33} (hy : y ∈ l) (h0 : FinP l s y.f0 (rd_L5 d y.f0)) (h1 : FinP l s y.f1 (rd_L5 d y.f1)) {J : List S35} (hJ : Join (rd_L5 d y.f1) (shiftP y (rd_L5 d y.f0)) J) : J = rd_L5 d y.f1 := by
  refine fin_one (l := l) (s := s) (v := y.f1) ⟨hJ.stair, fun p hp => ?_, fun c t m hp => ?_⟩ h1
  · rcases hJ.sub p hp with hp | hp
    · exact h1.real p hp
    · obtain ⟨q, hq, rfl⟩ := List.mem_map.1 hp
      obtain ⟨m, hm⟩ := h0.real q hq
      exact ⟨m + 1, Pays.snoc hm hy⟩
  · obtain ⟨p, hp, a, b⟩ := h1.low c t m hp
    obtain ⟨q, hq, hle⟩ := hJ.low p (.inl hp)
    exact ⟨q, hq, Int.le_trans hle.1 a, Int.le_trans hle.2 b⟩
/-- How long a stair is. -/
theorem stair_len : ∀ (L : List S35) (a : Int) (b : Int), Stair L → (∀ p ∈ L, a ≤ p.f0 ∧ p.f0 ≤ b) → a ≤ b + 1 → (L.length : Int) ≤ b - a + 1
  | [], a, b, _, _, h => by simp; omega
  | p :: r, a, b, hs, hb, _ => by
    unfold Stair at hs
    rw [List.pairwise_cons] at hs
    have hp := hb p (by simp)
    have := stair_len r (p.f0 + 1) b hs.2 (fun q hq => ⟨by have := (hs.1 q hq).1; omega, (hb q (by simp [hq])).2⟩) (by omega)
    rw [List.length_cons]
    omega
theorem PInv.sizes {n : Int} {l : List S33} (hn : Net1 n l) {s : Int} {M : Nat} {d : List (List S35)} (h : PInv n l s M d) (hM : M ≤ 1000) {v : Int} (v0 : 0 ≤ v) (v1 : v < n) : (rd_L5 d v).length ≤ 99001 ∧ ∀ p ∈ rd_L5 d v, 0 ≤ p.f0 ∧ p.f0 ≤ 99000 ∧ 0 ≤ p.f1 ∧ p.f1 ≤ 99000 := by
  have hb : ∀ p ∈ rd_L5 d v, 0 ≤ p.f0 ∧ p.f0 ≤ 99000 ∧ 0 ≤ p.f1 ∧ p.f1 ≤ 99000 := fun p hp => by
    obtain ⟨m, hm, hw⟩ := h.real v v0 v1 p hp
    have := hw.rng hn
    omega
  have := stair_len _ 0 99000 (h.stair v v0 v1) (fun p hp => ⟨(hb p hp).1, (hb p hp).2.1⟩) (by omega)
  exact ⟨by omega, hb⟩
theorem pinv_start {n : Int} {l : List S33} (hn : Net1 n l) {s : Int} (hs : 0 ≤ s ∧ s < n) : PInv n l s 0 ((List.replicate n.toNat ([] : List S35)).set s.toNat [⟨0, 0⟩]) ∧ PCov l s 0 ((List.replicate n.toNat ([] : List S35)).set s.toNat [⟨0, 0⟩]) := by
  have hl : ((List.replicate n.toNat ([] : List S35)).length : Int) = n := by rw [List.length_replicate]; omega
  have hc : ∀ v, 0 ≤ v → rd_L5 ((List.replicate n.toNat ([] : List S35)).set s.toNat [⟨0, 0⟩]) v = if s = v then [⟨0, 0⟩] else [] := fun v v0 => by
    rw [rdl_set _ s v _ hs.1 (by omega) v0]
    split
    · rfl
    · unfold rd_L5
      rw [List.getD_eq_getElem?_getD, List.getElem?_replicate]
      split <;> rfl
  refine ⟨⟨by rw [List.length_set]; exact hl, fun v v0 v1 => ?_, fun v v0 v1 p hp => ?_⟩, fun v c t m hp hm => ?_⟩
  · rw [hc v v0]
    split <;> simp [Stair]
  · rw [hc v v0] at hp
    split at hp
    · rename_i e
      rw [List.mem_singleton] at hp
      subst hp
      subst e
      exact ⟨0, Nat.le_refl _, Pays.nil⟩
    · cases hp
  · have hm0 : m = 0 := by omega
    subst hm0
    cases hp
    rw [hc s hs.1, if_pos rfl]
    exact ⟨_, List.mem_singleton.2 rfl, Int.le_refl _, Int.le_refl _⟩
/-- How large the pairs are that are told. -/
theorem FinP.size {n : Int} {l : List S33} (hn : Net1 n l) {s : Int} (hs : 0 ≤ s ∧ s < n) {v : Int} {L : List S35} (h : FinP l s v L) : L.length ≤ 694 ∧ ∀ p ∈ L, 0 ≤ p.f0 ∧ p.f0 ≤ 693 ∧ 0 ≤ p.f1 ∧ p.f1 ≤ 693 := by
  have hhi := hn.hi
  have hlo := hn.lo
  have hb : ∀ p ∈ L, 0 ≤ p.f0 ∧ p.f0 ≤ 693 ∧ 0 ≤ p.f1 ∧ p.f1 ≤ 693 := fun p hp => by
    obtain ⟨m, hm⟩ := h.real p hp
    obtain ⟨c', t', ns, h1, h2, h3⟩ := hm.plain hn
    obtain ⟨m', h4, h5, h6⟩ := h1.few hn hs
    obtain ⟨q, hq, a, b⟩ := h.low _ _ _ h6
    have e := stair_le h.stair hq hp ⟨by omega, by omega⟩
    rw [e] at a b
    have := h6.rng hn
    have := hm.rng hn
    omega
  have := stair_len L 0 693 h.stair (fun p hp => ⟨(hb p hp).1, (hb p hp).2.1⟩) (by omega)
  exact ⟨by omega, hb⟩
/-! ### the program's pairs -/
theorem rdP_eq (xs : List (List S35)) (i : Int) : rdP xs i = rd_L5 xs i := rfl
theorem sortPair_lex (l : List S35) : (sortPair l).Pairwise Lex := by
  unfold sortPair
  have h := List.pairwise_mergeSort (le := fun x y => !(ltOf cmpPair) y x) (fun a b c h1 h2 => by
    simp only [ltPair, Bool.not_eq_true', decide_eq_false_iff_not] at *
    omega) (fun a b => by
    simp only [ltPair, Bool.or_eq_true, Bool.not_eq_true', decide_eq_false_iff_not]
    omega) l
  refine h.imp ?_
  intro a b hab
  simp only [ltPair, Bool.not_eq_true', decide_eq_false_iff_not] at hab
  unfold Lex
  omega
theorem sortPair_mem (l : List S35) (x : S35) : x ∈ sortPair l ↔ x ∈ l := List.mem_mergeSort
theorem stairP_keep : ∀ (S o : List S35) (q : S35), stairP S (o ++ [q]) = o ++ [q] ++ keepP S (some q.f1)
  | [], o, q => by simp [stairP, keepP]
  | p :: r, o, q => by
    have e : rd_T35 (o ++ [q]) (((o ++ [q]).length - 1 : Nat) : Int) = q := by simp [rd_T35]
    rw [stairP, e, keepP]
    by_cases c : p.f1 < q.f1
    · rw [if_pos (.inr c), if_pos c, stairP_keep r (o ++ [q]) p]
      simp
    · rw [if_neg (by rintro (z | z); (simp at z); exact c z), if_neg c, stairP_keep r o q]
theorem stairP_none (S : List S35) : stairP S [] = keepP S none := by
  cases S with
  | nil => rfl
  | cons p r =>
    rw [stairP, if_pos (.inl rfl), stairP_keep r [] p, keepP]
    rfl
theorem front_join (L A : List S35) : Join L A (frontP (L ++ A)) := by
  unfold frontP
  rw [stairP_none]
  exact keepP_join (sortPair_lex _) fun x => by rw [sortPair_mem, List.mem_append]
/-! equal -/
def eqPB : List S35 → List S35 → Bool
  | [], [] => true
  | p :: r, q :: s => decide (p.f0 = q.f0) && (decide (p.f1 = q.f1) && eqPB r s)
  | [], _ :: _ => false
  | _ :: _, [] => false
theorem eqPB_iff : ∀ a b : List S35, eqPB a b = true ↔ a = b
  | [], [] => by simp [eqPB]
  | p :: r, q :: s => by
    obtain ⟨p0, p1⟩ := p
    obtain ⟨q0, q1⟩ := q
    rw [eqPB, Bool.and_eq_true, Bool.and_eq_true, decide_eq_true_eq, decide_eq_true_eq, eqPB_iff r s]
    constructor
    · rintro ⟨h1, h2, h3⟩; simp only at h1 h2; rw [h1, h2, h3]
    · intro h; injection h with h1 h2; injection h1 with h3 h4; exact ⟨h3, h4, h2⟩
  | [], _ :: _ => by simp [eqPB]
  | _ :: _, [] => by simp [eqPB]
theorem pair_at (l : List S35) (i : Nat) (h : i < l.length) : rd_T35 l (i : Int) = l[i] := by simp [rd_T35, h]
theorem eqP_ev (a b : List S35) (hl : a.length ≤ 9223372036854775807) : Ev (fun k => impl_Pair_71.f k a b) (eqPB a b) := by
  unfold impl_Pair_71.f
  by_cases e : (a.length : Int) = (b.length : Int)
  · simp only [e, if_true]
    rw [← e]
    have key : ∀ i : Nat, i ≤ a.length → Ev (fun k => impl_Pair_71.l0 k a b (a.length : Int) (i : Int)) (eqPB (a.drop i) (b.drop i)) := by
      refine ev_ind (fun k (i : Nat) => impl_Pair_71.l0 k a b (a.length : Int) (i : Int)) (fun i => a.length - i) (fun i => i ≤ a.length) (fun i => eqPB (a.drop i) (b.drop i)) ?_
      intro i hi ih
      by_cases h : i < a.length
      · have hb : i < b.length := by omega
        have hlt : (i : Int) < (a.length : Int) := by omega
        have hlt' : (i : Int) < (b.length : Int) := by omega
        have h0 : (0 : Int) ≤ (i : Int) := by omega
        simp only [impl_Pair_71.l0, hlt, hlt', h0, if_true, pair_at a i h, pair_at b i hb, wsucc h hl]
        rw [List.drop_eq_getElem_cons h, List.drop_eq_getElem_cons hb, eqPB]
        have ih := ih (i + 1) (by omega) (by omega)
        by_cases c0 : a[i].f0 = b[i].f0
        · by_cases c1 : a[i].f1 = b[i].f1
          · simpa [c0, c1] using ih
          · exact ev_now fun k => by simp [c0, c1]
        · exact ev_now fun k => by simp [c0]
      · have hlt : ¬ (i : Int) < (a.length : Int) := by omega
        simp only [impl_Pair_71.l0, hlt, if_false]
        rw [List.drop_of_length_le (by omega), List.drop_of_length_le (by omega), eqPB]
        exact ev_now fun _ => rfl
    exact key 0 (Nat.zero_le _)
  · simp only [e, if_false]
    refine ev_at (ev_now fun _ => rfl) ?_
    have : ¬ eqPB a b = true := fun h => by rw [eqPB_iff] at h; exact e (by rw [h])
    simpa using this
/-! one arc -/
theorem PInv.mono {n : Int} {l : List S33} {s : Int} {M M' : Nat} {d : List (List S35)} (h : PInv n l s M d) (hM : M ≤ M') : PInv n l s M' d := ⟨h.len, h.stair, fun v v0 v1 p hp => by obtain ⟨m, h1, h2⟩ := h.real v v0 v1 p hp; exact ⟨m, by omega, h2⟩⟩
theorem rel_join {n : Int} {l : List S33} (hn : Net1 n l) {s : Int} {M : Nat} {d : List (List S35)} (h : PInv n l s M d) (hM : M ≤ 1000) {y : S33} (hy : y ∈ l) : Join (rd_L5 d y.f1) (shiftP y (rd_L5 d y.f0)) (relP d y) := by
  obtain ⟨e1, e2, e3, e4, e5, g1, g2, g3, g4, _⟩ := hn.ends y hy
  have hs := (h.sizes hn hM e1 e2).2
  have e : (rdP d y.f0).map (shW y) = shiftP y (rd_L5 d y.f0) := by
    unfold shiftP
    refine List.map_congr_left fun p hp => ?_
    have := hs p hp
    unfold shW
    rw [w_id (n := p.f0 + y.f2) (by omega) (by omega), w_id (n := p.f1 + y.f3) (by omega) (by omega)]
  unfold relP
  rw [e]
  exact front_join _ _
theorem set_self (d : List (List S35)) (i : Int) : d.set i.toNat (rd_L5 d i) = d := by
  unfold rd_L5
  apply List.ext_getElem?
  intro j
  rw [List.getElem?_set]
  split
  · rename_i e
    subst e
    split
    · rename_i c
      rw [List.getD_eq_getElem?_getD, List.getElem?_eq_getElem c]
      rfl
    · rename_i c
      rw [List.getElem?_eq_none (by omega)]
  · rfl
theorem arcF_ev {n : Int} {l : List S33} (hn : Net1 n l) {s : Int} {M : Nat} {d : List (List S35)} (h : PInv n l s M d) (hM : M ≤ 900) {y : S33} (hy : y ∈ l) (ch : Bool) :
    ∃ c : Bool, Ev (fun k => arcF k d y ch) (d.set y.f1.toNat (relP d y), c) ∧ (c = false → ch = false ∧ relP d y = rd_L5 d y.f1) ∧ (relP d y = rd_L5 d y.f1 → c = ch) := by
  obtain ⟨e1, e2, e3, e4, e5, _⟩ := hn.ends y hy
  have hj := rel_join hn h (by omega) hy
  have hl := h.len
  have s0 := (h.sizes hn (by omega) e1 e2).1
  have s1 := (h.sizes hn (by omega) e3 e4).1
  have sJ : (relP d y).length ≤ 99001 := by
    have := ((h.relax hn hy hj).1.sizes hn (by omega) e3 e4).1
    rwa [rdl_set d y.f1 y.f1 _ e3 (by omega) e3, if_pos rfl] at this
  have hok : arcOkP d y := ⟨⟨e1, by omega⟩, ⟨e3, by omega⟩, by rw [rdP_eq, rdP_eq]; omega⟩
  have he := eqP_ev (relP d y) (rdP d y.f1) (by omega)
  cases hb : eqPB (relP d y) (rdP d y.f1) with
  | true =>
    rw [hb] at he
    have e := (eqPB_iff _ _).1 hb
    rw [rdP_eq] at e
    refine ⟨ch, ?_, fun hc => ⟨hc, e⟩, fun _ => rfl⟩
    unfold arcF
    simp only [if_pos hok]
    refine Ev.bind he (ev_now fun _ => ?_)
    rw [if_pos rfl, e, set_self]
  | false =>
    rw [hb] at he
    refine ⟨true, ?_, fun hc => (by cases hc), fun e => ?_⟩
    · unfold arcF
      simp only [if_pos hok]
      refine Ev.bind he (ev_now fun _ => ?_)
      rw [if_neg Bool.false_ne_true]
    · rw [(eqPB_iff _ _).2 (by rw [rdP_eq]; exact e)] at hb
      cases hb
theorem arcsF_ev {n : Int} {l : List S33} (hn : Net1 n l) {s : Int} : ∀ (r : List S33) (d : List (List S35)) (ch : Bool) (M : Nat), (∀ y ∈ r, y ∈ l) → PInv n l s M d → M + r.length ≤ 900 →
    ∃ (d' : List (List S35)) (c : Bool), Ev (fun k => arcsF k r (d, ch)) (d', c) ∧ PInv n l s (M + r.length) d' ∧ PLe n d d' ∧ (∀ x ∈ r, PGone x d d') ∧ (c = false → ch = false ∧ d' = d) ∧ ((∀ v, 0 ≤ v → v < n → FinP l s v (rd_L5 d v)) → d' = d ∧ c = ch)
  | [], d, ch, M, _, h, _ => ⟨d, ch, ev_now fun _ => rfl, h, PLe.refl n d, fun _ hx => by (cases hx), fun hc => ⟨hc, rfl⟩, fun _ => ⟨rfl, rfl⟩⟩
  | y :: r, d, ch, M, hr, h, hM => by
    rw [List.length_cons] at hM
    have hy := hr y (by simp)
    obtain ⟨c1, v1, f1, g1⟩ := arcF_ev hn h (by omega) hy ch
    have hj := rel_join hn h (by omega) hy
    obtain ⟨i1, p1, q1⟩ := h.relax hn hy hj
    obtain ⟨d2, c2, v2, i2, p2, q2, f2, g2⟩ := arcsF_ev hn r (d.set y.f1.toNat (relP d y)) c1 (M + 1) (fun x hx => hr x (by simp [hx])) i1 (by omega)
    refine ⟨d2, c2, ?_, by rw [List.length_cons, show M + (r.length + 1) = M + 1 + r.length by omega]; exact i2, p1.trans p2, fun x hx => ?_, fun hc => ?_, fun hf => ?_⟩
    · simp only [arcsF]
      exact Ev.bind v1 v2
    · rw [List.mem_cons] at hx
      rcases hx with rfl | hx
      · exact q1.on hn hy p2
      · exact PGone.of hn (hr x (by simp [hx])) p1 (q2 x hx)
    · obtain ⟨a, b⟩ := f2 hc
      obtain ⟨a2, b2⟩ := f1 a
      exact ⟨a2, by rw [b, b2, set_self]⟩
    · obtain ⟨e1, e2, e3, e4, _⟩ := hn.ends y hy
      have e := fin_still (n := n) hy (hf _ e1 e2) (hf _ e3 e4) hj
      have e' : d.set y.f1.toNat (relP d y) = d := by rw [e, set_self]
      obtain ⟨a, b⟩ := g2 (by rw [e']; exact hf)
      exact ⟨a.trans e', b.trans (g1 e)⟩
/-- All told. -/
structure FinAll (n : Int) (l : List S33) (s : Int) (d : List (List S35)) : Prop where
  len : (d.length : Int) = n
  fin : ∀ v, 0 ≤ v → v < n → FinP l s v (rd_L5 d v)
theorem roundsF_ev {n : Int} {l : List S33} (hn : Net1 n l) {s : Int} (hs : 0 ≤ s ∧ s < n) : ∀ (u r : Nat) (d : List (List S35)), r + u = n.toNat → PInv n l s (16 * r) d → PCov l s r d →
    ∃ d', FinAll n l s d' ∧ ∃ K, ∀ k, K ≤ k → ∀ q, u + 1 ≤ q → roundsF k l q d = some d' := by
  intro u
  induction u with
  | zero =>
    intro r d hr hi hc
    have hhi := hn.hi
    have hlo := hn.lo
    have hl := hn.len
    have hf : ∀ v, 0 ≤ v → v < n → FinP l s v (rd_L5 d v) := fun v v0 v1 => hi.fin hn hs (by rw [show n.toNat = r by omega]; exact hc) v0 v1
    obtain ⟨d', c, ⟨K, hK⟩, _, _, _, _, g⟩ := arcsF_ev hn l d false (16 * r) (fun _ h => h) hi (by omega)
    obtain ⟨rfl, rfl⟩ := g hf
    refine ⟨d', ⟨hi.len, hf⟩, K, fun k hk q hq => ?_⟩
    obtain ⟨q, rfl⟩ : ∃ m, q = m + 1 := ⟨q - 1, by omega⟩
    have e : arcsF k l (d', false) = some (d', false) := hK k hk
    rw [roundsF, e]
    rfl
  | succ u ih =>
    intro r d hr hi hc
    have hhi := hn.hi
    have hlo := hn.lo
    have hl := hn.len
    obtain ⟨d', c, ⟨K, hK⟩, i2, p2, q2, f2, _⟩ := arcsF_ev hn l d false (16 * r) (fun _ h => h) hi (by omega)
    cases c with
    | false =>
      obtain ⟨_, rfl⟩ := f2 rfl
      have hc0 : PCov l s 0 d' := fun v c t m hp hm => hc v c t m hp (by omega)
      refine ⟨d', ⟨hi.len, fun v v0 v1 => hi.fin hn hs (hc0.closed q2 n.toNat) v0 v1⟩, K, fun k hk q hq => ?_⟩
      obtain ⟨q, rfl⟩ : ∃ m, q = m + 1 := ⟨q - 1, by omega⟩
      have e : arcsF k l (d', false) = some (d', false) := hK k hk
      rw [roundsF, e]
      rfl
    | true =>
      obtain ⟨R, hR, K2, hK2⟩ := ih (r + 1) d' (by omega) (i2.mono (by omega)) (hc.next hn hs p2 q2)
      refine ⟨R, hR, max K K2, fun k hk q hq => ?_⟩
      obtain ⟨q, rfl⟩ : ∃ m, q = m + 1 := ⟨q - 1, by omega⟩
      have e : arcsF k l (d, false) = some (d', true) := hK k (by omega)
      rw [roundsF, e, Option.bind_some, if_pos rfl]
      exact hK2 k (by omega) q (by omega)
theorem pairs_ev {n : Int} {l : List S33} (hn : Net1 n l) {a b : Int} (ha : 0 ≤ a ∧ a < n) (hb : 0 ≤ b ∧ b < n) : ∃ L, FinP l a b L ∧ Ev (fun k => impl_Net_pairs.f k n l a b) L := by
  have hhi := hn.hi
  have hlo := hn.lo
  obtain ⟨i0, c0⟩ := pinv_start hn ha
  obtain ⟨d, hd, K, hK⟩ := roundsF_ev hn ha n.toNat 0 _ (by omega) i0 c0
  refine ⟨rd_L5 d b, hd.fin b hb.1 hb.2, max K (n.toNat + 1), fun k hk => ?_⟩
  have hdl := hd.len
  show pairsF k n l a b = _
  unfold pairsF
  rw [if_pos ⟨⟨hlo, by omega⟩, ha, hb⟩]
  have e := hK k (by omega) k (by omega)
  unfold startP
  rw [e, Option.bind_some, if_pos (by omega)]
  rfl
/-! ### the reference's pairs -/
theorem pairS_at (l : List S35) (i : Nat) (h : i < l.length) : rd_T35 l (i : Int) = l[i] := by simp [rd_T35, h]
theorem insP_drop (p : S35) (L : List S35) (i : Nat) (h : i < L.length) (put : Bool) : insP p (L.drop i) put = if L[i].f0 ≥ p.f0 ∧ L[i].f1 ≥ p.f1 then insP p (L.drop (i + 1)) put else if put = false ∧ L[i].f0 > p.f0 then p :: L[i] :: insP p (L.drop (i + 1)) true else L[i] :: insP p (L.drop (i + 1)) put := by
  rw [List.drop_eq_getElem_cons h, insP]
theorem put1_ev (L : List S35) (p0 p1 : Int) (hl : L.length ≤ 1000000) : ∀ s : Nat × List S35 × Bool, (s.1 ≤ L.length ∧ s.2.1.length ≤ 2 * s.1) → Ev (fun k => spec_l19Put.l1 k L s.2.1 s.2.2 (s.1 : Int) p0 p1) (s.2.1 ++ insP ⟨p0, p1⟩ (L.drop s.1) s.2.2) := by
  refine ev_ind (fun k (s : Nat × List S35 × Bool) => spec_l19Put.l1 k L s.2.1 s.2.2 (s.1 : Int) p0 p1) (fun s => L.length - s.1) (fun s => s.1 ≤ L.length ∧ s.2.1.length ≤ 2 * s.1) (fun s => s.2.1 ++ insP ⟨p0, p1⟩ (L.drop s.1) s.2.2) ?_
  rintro ⟨i, out, put⟩ ⟨hi, ho⟩ ih
  simp only at hi ho ih ⊢
  by_cases h : i < L.length
  · have hlt : (i : Int) < (L.length : Int) := by omega
    have h0 : (0 : Int) ≤ (i : Int) := by omega
    have hw := wsucc h (show L.length ≤ 9223372036854775807 by omega)
    have ho1 : out.length < 8796093022208 := by omega
    have ho2 : ∀ q : S35, (out ++ [q]).length < 8796093022208 := fun q => by simp; omega
    rw [insP_drop _ L i h put]
    have step : ∀ c : Bool, (c = true ↔ (L[i].f0 ≥ p0 ∧ L[i].f1 ≥ p1)) → Ev (fun k => spec_l19Put.j2 k L out put (i : Int) c p0 p1) (out ++ if L[i].f0 ≥ p0 ∧ L[i].f1 ≥ p1 then insP ⟨p0, p1⟩ (L.drop (i + 1)) put else if put = false ∧ L[i].f0 > p0 then ⟨p0, p1⟩ :: L[i] :: insP ⟨p0, p1⟩ (L.drop (i + 1)) true else L[i] :: insP ⟨p0, p1⟩ (L.drop (i + 1)) put) := by
      intro c hc
      refine ev_shift ?_
      cases c with
      | true =>
        rw [if_pos (hc.1 rfl)]
        simp only [spec_l19Put.j2, if_true, hw]
        exact ih (i + 1, out, put) ⟨by simp; omega, by simp; omega⟩ (by simp; omega)
      | false =>
        rw [if_neg (fun z => by have := hc.2 z; cases this)]
        cases put with
        | true =>
          simp only [spec_l19Put.j2, Bool.false_eq_true, Bool.true_eq_false, false_and, if_false, if_true, h0, hlt, ho1, hw, pairS_at L i h]
          refine ev_at (ih (i + 1, out ++ [L[i]], true) ⟨by simp; omega, by simp; omega⟩ (by simp; omega)) (by simp)
        | false =>
          by_cases c2 : L[i].f0 > p0
          · simp only [spec_l19Put.j2, Bool.false_eq_true, if_false, if_true, h0, hlt, ho1, ho2, hw, pairS_at L i h, c2, true_and, Option.bind_some]
            refine ev_at (ih (i + 1, out ++ [⟨p0, p1⟩] ++ [L[i]], true) ⟨by simp; omega, by simp; omega⟩ (by simp; omega)) (by simp)
          · simp only [spec_l19Put.j2, Bool.false_eq_true, if_false, if_true, h0, hlt, ho1, hw, pairS_at L i h, c2, and_false]
            refine ev_at (ih (i + 1, out ++ [L[i]], false) ⟨by simp; omega, by simp; omega⟩ (by simp; omega)) (by simp)
    by_cases c0 : L[i].f0 ≥ p0
    · simp only [spec_l19Put.l1, hlt, h0, if_true, pairS_at L i h, c0]
      refine ev_at (step _ ?_) (by simp only [c0])
      rw [decide_eq_true_eq]
      exact ⟨fun z => ⟨c0, z⟩, fun z => z.2⟩
    · simp only [spec_l19Put.l1, hlt, h0, if_true, pairS_at L i h, c0, if_false]
      refine ev_at (step _ ?_) (by simp only [c0])
      exact ⟨fun z => (by cases z), fun z => absurd z.1 c0⟩
  · have hlt : ¬ (i : Int) < (L.length : Int) := by omega
    simp only [spec_l19Put.l1, hlt, if_false]
    rw [List.drop_of_length_le (by omega), insP]
    cases put with
    | true => exact ev_now fun _ => by simp
    | false =>
      have ho1 : out.length < 8796093022208 := by omega
      exact ev_now fun _ => by simp [ho1]
theorem put_ev (L : List S35) (p0 p1 : Int) (hl : L.length ≤ 1000000) : Ev (fun k => spec_l19Put.f k L p0 p1) (putP L ⟨p0, p1⟩) := by
  unfold spec_l19Put.f
  have key : ∀ i : Nat, i ≤ L.length → Ev (fun k => spec_l19Put.l0 k L [] (i : Int) p0 p1) (if ((L.drop i).any fun q => decide (q.f0 ≤ p0) && decide (q.f1 ≤ p1)) = true then L else insP ⟨p0, p1⟩ L false) := by
    refine ev_ind (fun k (i : Nat) => spec_l19Put.l0 k L [] (i : Int) p0 p1) (fun i => L.length - i) (fun i => i ≤ L.length) (fun i => if ((L.drop i).any fun q => decide (q.f0 ≤ p0) && decide (q.f1 ≤ p1)) = true then L else insP ⟨p0, p1⟩ L false) ?_
    intro i hi ih
    by_cases h : i < L.length
    · have hlt : (i : Int) < (L.length : Int) := by omega
      have h0 : (0 : Int) ≤ (i : Int) := by omega
      have ih := ih (i + 1) (by omega) (by omega)
      simp only [spec_l19Put.l0, hlt, h0, if_true, pairS_at L i h, wsucc h (show L.length ≤ 9223372036854775807 by omega)]
      rw [any_at _ _ _ h]
      by_cases c0 : L[i].f0 ≤ p0
      · by_cases c1 : L[i].f1 ≤ p1
        · exact ev_now fun k => by simp [c0, c1]
        · simpa [c0, c1] using ih
      · simpa [c0] using ih
    · have hlt : ¬ (i : Int) < (L.length : Int) := by omega
      simp only [spec_l19Put.l0, hlt, if_false]
      rw [List.drop_of_length_le (by omega)]
      refine ev_at (put1_ev L p0 p1 hl (0, [], false) ⟨Nat.zero_le _, by simp⟩) ?_
      simp
  exact key 0 (Nat.zero_le _)
theorem set_selfS (d : List (List S35)) (i : Int) : d.set i.toNat (rd_L5 d i) = d := by
  unfold rd_L5
  apply List.ext_getElem?
  intro j
  rw [List.getElem?_set]
  split
  · rename_i e
    subst e
    split
    · rename_i c
      rw [List.getD_eq_getElem?_getD, List.getElem?_eq_getElem c]
      rfl
    · rename_i c
      rw [List.getElem?_eq_none (by omega)]
  · rfl
/-- All told. -/
structure FinAllS (n : Int) (l : List S33) (s : Int) (d : List (List S35)) : Prop where
  len : (d.length : Int) = n
  fin : ∀ v, 0 ≤ v → v < n → FinP l s v (rd_L5 d v)
theorem shift_take (y : S33) (L : List S35) (j : Nat) (h : j < L.length) : shiftP y (L.take (j + 1)) = shiftP y (L.take j) ++ [⟨L[j].f0 + y.f2, L[j].f1 + y.f3⟩] := by
  unfold shiftP
  rw [List.take_succ_eq_append_getElem h, List.map_append]
  rfl
theorem PInv.monoS {n : Int} {l : List S33} {s : Int} {M M' : Nat} {d : List (List S35)} (h : PInv n l s M d) (hM : M ≤ M') : PInv n l s M' d := ⟨h.len, h.stair, fun v v0 v1 p hp => by obtain ⟨m, h1, h2⟩ := h.real v v0 v1 p hp; exact ⟨m, by omega, h2⟩⟩
set_option maxHeartbeats 1000000 in
theorem l19All_loop {n : Int} {l : List S33} (hn : Net1 n l) {s : Int} (hs : 0 ≤ s ∧ s < n) : ∀ st : Nat × List (List S35), (st.1 ≤ n.toNat ∧ PInv n l s (16 * st.1) st.2 ∧ PCov l s st.1 st.2) → ∃ R, FinAllS n l s R ∧ Ev (fun k => spec_l19All.l0 k st.2 (st.1 : Int) n l) R := by
  have hhi := hn.hi
  have hlo := hn.lo
  have hll := hn.len
  refine ev_ex (fun k (st : Nat × List (List S35)) => spec_l19All.l0 k st.2 (st.1 : Int) n l) (fun st => n.toNat - st.1) (fun st => st.1 ≤ n.toNat ∧ PInv n l s (16 * st.1) st.2 ∧ PCov l s st.1 st.2) (FinAllS n l s) ?_
  rintro ⟨r, d⟩ ⟨hr, hi, hc⟩ ih
  simp only at hr hi hc ih ⊢
  by_cases h : r < n.toNat
  · have hlt : (r : Int) < n := by omega
    have hwr : wrap64 ((r : Int) + 1) = ((r + 1 : Nat) : Int) := by rw [w_id (by omega) (by omega)]; omega
    simp only [spec_l19All.l0, hlt, if_true]
    refine ev_ex (fun k (st : Nat × List (List S35)) => spec_l19All.l1 k st.2 (r : Int) (st.1 : Int) n l) (fun st => l.length - st.1) (fun st => st.1 ≤ l.length ∧ PInv n l s (16 * r + st.1) st.2 ∧ PLe n d st.2 ∧ ∀ j, j < st.1 → ∀ hj : j < l.length, PGone l[j] d st.2) (FinAllS n l s) ?_ (0, d) ⟨Nat.zero_le _, hi, PLe.refl n d, fun j hj => absurd hj (Nat.not_lt_zero _)⟩
    rintro ⟨i, d1⟩ ⟨hi1, hv1, hp1, hg1⟩ ih1
    simp only at hi1 hv1 hp1 hg1 ih1 ⊢
    by_cases h1 : i < l.length
    · have hlt1 : (i : Int) < (l.length : Int) := by omega
      have h01 : (0 : Int) ≤ (i : Int) := by omega
      have hw1 := wsucc h1 (show l.length ≤ 9223372036854775807 by omega)
      have hy : l[i] ∈ l := List.getElem_mem h1
      simp only [spec_l19All.l1, hlt1, h01, if_true, arc_at l i h1]
      have hg2 : ∀ j, j < i → ∀ hj : j < l.length, PGone l[j] d d1 := hg1
      have ih2 : ∀ J, Join (rd_L5 d1 l[i].f1) (shiftP l[i] (rd_L5 d1 l[i].f0)) J → ∃ R, FinAllS n l s R ∧ Ev (fun k => spec_l19All.l1 k (d1.set l[i].f1.toNat J) (r : Int) ((i + 1 : Nat) : Int) n l) R := by
        intro J hJ
        obtain ⟨a1, a2, a3⟩ := hv1.relax hn hy hJ
        refine ih1 (i + 1, d1.set l[i].f1.toNat J) ⟨by simp; omega, a1.monoS (by simp; omega), hp1.trans a2, fun j hj hjl => ?_⟩ (by simp; omega)
        by_cases e : j = i
        · subst e
          exact PGone.of hn hy hp1 a3
        · exact (hg2 j (by simp at hj; omega) hjl).on hn (List.getElem_mem hjl) a2
      clear ih1 hg1 hg2 ih
      generalize l[i] = y at hy ih2 ⊢
      obtain ⟨e1, e2, e3, e4, e5, g1, g2, g3, g4, _⟩ := hn.ends y hy
      obtain ⟨s0, b0⟩ := hv1.sizes hn (show 16 * r + i ≤ 1000 by omega) e1 e2
      obtain ⟨s1, b1⟩ := hv1.sizes hn (show 16 * r + i ≤ 1000 by omega) e3 e4
      have hl1 := hv1.len
      have hst := hv1.stair y.f1 e3 e4
      have inner := ev_ex (fun k (st : Nat × List S35) => spec_l19All.l2 k (d1.set y.f1.toNat st.2) (r : Int) (i : Int) (st.1 : Int) n l y.f0 y.f1 y.f2 y.f3 y.f4) (fun st => (rd_L5 d1 y.f0).length - st.1) (fun st => st.1 ≤ (rd_L5 d1 y.f0).length ∧ Join (rd_L5 d1 y.f1) (shiftP y ((rd_L5 d1 y.f0).take st.1)) st.2) (FinAllS n l s) ?_ (0, rd_L5 d1 y.f1) ⟨Nat.zero_le _, join_nil hst⟩
      · simp only [set_selfS] at inner
        exact inner
      rintro ⟨j, J⟩ ⟨hj, hJ⟩ ih3
      simp only at hj hJ ih3 ⊢
      have c1 : y.f0 < ((d1.set y.f1.toNat J).length : Int) := by rw [List.length_set]; omega
      have c2 : y.f1 < ((d1.set y.f1.toNat J).length : Int) := by rw [List.length_set]; omega
      have r0 : rd_L5 (d1.set y.f1.toNat J) y.f0 = rd_L5 d1 y.f0 := by rw [rdl_set d1 y.f1 y.f0 J e3 (by omega) e1, if_neg (Ne.symm e5)]
      have r1 : rd_L5 (d1.set y.f1.toNat J) y.f1 = J := by rw [rdl_set d1 y.f1 y.f1 J e3 (by omega) e3, if_pos rfl]
      have hset : ∀ Q : List S35, (d1.set y.f1.toNat J).set y.f1.toNat Q = d1.set y.f1.toNat Q := fun Q => by rw [List.set_set]
      generalize hF : rd_L5 d1 y.f0 = F at hj hJ ih3 r0 ih2 s0 b0
      by_cases h2 : j < F.length
      · have hlt2 : (j : Int) < (F.length : Int) := by omega
        have h02 : (0 : Int) ≤ (j : Int) := by omega
        have hb := b0 F[j] (List.getElem_mem h2)
        have hJb : J.length ≤ 1000000 := by
          have hm : ∀ p ∈ J, 0 ≤ p.f0 ∧ p.f0 ≤ 99099 := by
            intro p hp
            rcases hJ.sub p hp with hp | hp
            · have := b1 p hp; omega
            · unfold shiftP at hp
              obtain ⟨q, hq, rfl⟩ := List.mem_map.1 hp
              have := b0 q (List.mem_of_mem_take hq)
              simp only
              omega
          have := stair_len J 0 99099 hJ.stair hm (by omega)
          omega
        simp only [spec_l19All.l2, e1, e3, c1, c2, r0, r1, if_true, hlt2, h02, pairS_at F j h2, wsucc h2 (show F.length ≤ 9223372036854775807 by omega), w_id (n := F[j].f0 + y.f2) (by omega) (by omega), w_id (n := F[j].f1 + y.f3) (by omega) (by omega), hset]
        have hp := put_ev J (F[j].f0 + y.f2) (F[j].f1 + y.f3) hJb
        have hJ2 : Join (rd_L5 d1 y.f1) (shiftP y (F.take (j + 1))) (putP J ⟨F[j].f0 + y.f2, F[j].f1 + y.f3⟩) := by
          rw [shift_take y F j h2]
          exact join_trans hJ (putP_join hJ.stair _)
        obtain ⟨R, hR, hE⟩ := ih3 (j + 1, putP J ⟨F[j].f0 + y.f2, F[j].f1 + y.f3⟩) ⟨by simp; omega, hJ2⟩ (by simp; omega)
        exact ⟨R, hR, Ev.bind hp hE⟩
      · have hlt2 : ¬ (j : Int) < (F.length : Int) := by omega
        simp only [spec_l19All.l2, e1, c1, r0, if_true, hlt2, if_false, hw1]
        rw [List.take_of_length_le (by omega)] at hJ
        exact ih2 J hJ
    · have hlt1 : ¬ (i : Int) < (l.length : Int) := by omega
      simp only [spec_l19All.l1, hlt1, if_false, hwr]
      refine ih (r + 1, d1) ⟨by simp; omega, hv1.monoS (by simp; omega), hc.next hn hs hp1 fun x hx => ?_⟩ (by simp; omega)
      obtain ⟨j, hj, rfl⟩ := List.getElem_of_mem hx
      exact hg1 j (by omega) hj
  · have hlt : ¬ (r : Int) < n := by omega
    have hrn : r = n.toNat := by omega
    simp only [spec_l19All.l0, hlt, if_false]
    exact ⟨d, ⟨hi.len, fun v v0 v1 => hi.fin hn hs (by rw [← hrn]; exact hc) v0 v1⟩, ev_now fun _ => rfl⟩
theorem l19All_ev {n : Int} {l : List S33} (hn : Net1 n l) {s : Int} (hs : 0 ≤ s ∧ s < n) : ∃ R, FinAllS n l s R ∧ Ev (fun k => spec_l19All.f k n l s) R := by
  have hhi := hn.hi
  have hlo := hn.lo
  obtain ⟨i0, c0⟩ := pinv_start hn hs
  obtain ⟨R, hR, hE⟩ := l19All_loop hn hs (0, _) ⟨Nat.zero_le _, i0, c0⟩
  refine ⟨R, hR, ?_⟩
  have h0 : 0 ≤ n := by omega
  have h1 : n.toNat ≤ 11728124029610 := by omega
  have h2 : s < ((List.replicate n.toNat ([] : List S35)).length : Int) := by rw [List.length_replicate]; omega
  unfold spec_l19All.f
  simp only [h0, h1, if_true, Option.bind_some, hs.1, h2]
  exact hE
/-! ### a node's number -/
theorem node_of {n : Int} {l : List S33} (hn : Net1 n l) {a : Int} (h : inB a 0 (wrap64 (n - 1)) = true) : 0 ≤ a ∧ a < n := by
  have := hn.lo
  have := hn.hi
  rw [inB_iff, w_id (n := n - 1) (by omega) (by omega)] at h
  omega
/-! ### nodes of a net, and what can be reached -/
theorem nodesIn_eq (n : Int) (l : List S33) (ns : List Int) : impl_nodesIn.f n l ns = some (netOkB n l && hasB n ns) := by
  unfold impl_nodesIn.f impl_Net_has.f
  rw [netOk_eq]
  cases netOkB n l <;> rfl
theorem hasB1 (n a : Int) : hasB n [a] = inB a 0 (wrap64 (n - 1)) := by unfold hasB; simp
theorem hasB2 (n a b : Int) : hasB n [a, b] = (inB a 0 (wrap64 (n - 1)) && inB b 0 (wrap64 (n - 1))) := by unfold hasB; simp
theorem hasB3 (n a b c : Int) : hasB n [a, b, c] = (inB a 0 (wrap64 (n - 1)) && (inB b 0 (wrap64 (n - 1)) && inB c 0 (wrap64 (n - 1)))) := by unfold hasB; simp
/-! ### the least weighted sum -/
def wP (c t : Int) (p : S35) : Int := p.f0 * c + p.f1 * t
/-- The least of the first ones. -/
def BestS (c t : Int) (L : List S35) (i : Nat) (b : Int) : Prop := (i = 0 ∧ b = -1) ∨ (0 ≤ b ∧ (∃ j, j < i ∧ ∃ h : j < L.length, b = wP c t L[j]) ∧ ∀ j, j < i → ∀ h : j < L.length, b ≤ wP c t L[j])
theorem pairV_at (l : List S35) (i : Nat) (h : i < l.length) : rd_T35 l (i : Int) = l[i] := by simp [rd_T35, h]
theorem prod_rng {x c : Int} (h0 : 0 ≤ x) (h1 : x ≤ 693) (h2 : 0 ≤ c) (h3 : c ≤ 100) : 0 ≤ x * c ∧ x * c ≤ 69300 := by
  have a := Int.mul_nonneg h0 h2
  have b : x * c ≤ 693 * 100 := Int.mul_le_mul h1 h3 h2 (by omega)
  exact ⟨a, by omega⟩
theorem wP_rng {c t : Int} (hc : 0 ≤ c ∧ c ≤ 100) (ht : 0 ≤ t ∧ t ≤ 100) {p : S35} (hp : 0 ≤ p.f0 ∧ p.f0 ≤ 693 ∧ 0 ≤ p.f1 ∧ p.f1 ≤ 693) : 0 ≤ wP c t p ∧ wrap64 (wrap64 (p.f0 * c) + wrap64 (p.f1 * t)) = wP c t p := by
  have a := prod_rng hp.1 hp.2.1 hc.1 hc.2
  have b := prod_rng hp.2.2.1 hp.2.2.2 ht.1 ht.2
  unfold wP
  generalize p.f0 * c = x at a ⊢
  generalize p.f1 * t = y at b ⊢
  rw [w_id (n := x) (by omega) (by omega), w_id (n := y) (by omega) (by omega), w_id (by omega) (by omega)]
  exact ⟨by omega, rfl⟩
theorem sumS_ex {c t : Int} (hc : 0 ≤ c ∧ c ≤ 100) (ht : 0 ≤ t ∧ t ≤ 100) (L : List S35) (hl : L.length ≤ 9223372036854775807) (hb : ∀ p ∈ L, 0 ≤ p.f0 ∧ p.f0 ≤ 693 ∧ 0 ≤ p.f1 ∧ p.f1 ≤ 693) : ∃ r, BestS c t L L.length r ∧ Ev (fun k => spec_PairSum.l0 k c t (-1) L 0) r := by
  refine ev_ex (fun k (s : Nat × Int) => spec_PairSum.l0 k c t s.2 L (s.1 : Int)) (fun s => L.length - s.1) (fun s => s.1 ≤ L.length ∧ BestS c t L s.1 s.2) (BestS c t L L.length) ?_ (0, -1) ⟨Nat.zero_le _, .inl ⟨rfl, rfl⟩⟩
  rintro ⟨i, b⟩ ⟨hi, hB⟩ ih
  simp only at hi hB ih ⊢
  by_cases h : i < L.length
  · have hlt : (i : Int) < (L.length : Int) := by omega
    have h0 : (0 : Int) ≤ (i : Int) := by omega
    obtain ⟨w0, w1⟩ := wP_rng hc ht (hb _ (List.getElem_mem h))
    simp only [spec_PairSum.l0, hlt, h0, if_true, wsucc h hl, pairV_at L i h, w1]
    have new : (∀ j, j < i → ∀ h : j < L.length, wP c t L[i] ≤ wP c t L[j]) → BestS c t L (i + 1) (wP c t L[i]) := fun hm => .inr ⟨w0, ⟨i, by omega, h, rfl⟩, fun j hj h2 => by
      by_cases e : j = i
      · subst e; exact Int.le_refl _
      · exact hm j (by omega) h2⟩
    rcases hB with ⟨rfl, rfl⟩ | ⟨b0, ⟨j, hj, hjl, e⟩, hm⟩
    · simp only [show (-1 : Int) < 0 by omega, if_true]
      exact ih (0 + 1, _) ⟨by simp; omega, new fun j hj => absurd hj (Nat.not_lt_zero _)⟩ (by simp; omega)
    · simp only [show ¬ b < 0 by omega, if_false]
      by_cases c1 : wP c t L[i] < b
      · simp only [c1, if_true]
        exact ih (i + 1, _) ⟨by simp; omega, new fun j hj h2 => by have := hm j hj h2; omega⟩ (by simp; omega)
      · simp only [c1, if_false]
        exact ih (i + 1, b) ⟨by simp; omega, .inr ⟨b0, ⟨j, by simp; omega, hjl, e⟩, fun j2 hj2 h2 => by
          by_cases e2 : j2 = i
          · subst e2; omega
          · exact hm j2 (by simp at hj2; omega) h2⟩⟩ (by simp; omega)
  · have hlt : ¬ (i : Int) < (L.length : Int) := by omega
    simp only [spec_PairSum.l0, hlt, if_false]
    have e : i = L.length := by omega
    exact ⟨b, e ▸ hB, ev_now fun _ => rfl⟩
theorem psumV_same (x3 x4 : Int) (L : List S35) : ∀ (k : Nat) (b i : Int), impl_PairSum.l0 k x3 x4 b L (L.length : Int) i = spec_PairSum.l0 k x3 x4 b L i := by
  intro k
  induction k with
  | zero => intro b i; rfl
  | succ k ih =>
    intro b i
    rw [impl_PairSum.l0, spec_PairSum.l0]
    by_cases h : i < (L.length : Int)
    · simp only [h, if_true, ih]
    · simp only [h, if_false]
theorem pairSum_ok {n : Int} {l : List S33} (hok : netOkB n l = true) {a b : Int} (ha : inB a 0 (wrap64 (n - 1)) = true) (hb : inB b 0 (wrap64 (n - 1)) = true) : ∃ L, FinP l a b L ∧ Ev (fun k => impl_Net_pairs.f k n l a b) L ∧ ∀ c t, inB c 0 100 = true → inB t 0 100 = true → ∃ r, BestS c t L L.length r ∧ Ev (fun k => spec_PairSum.f k n l a b c t) r ∧ Ev (fun k => impl_PairSum.f k n l a b c t) r := by
  have hn := net1_of hok
  have hll := hn.len
  have ha' := node_of hn ha
  have hb' := node_of hn hb
  obtain ⟨R, hR, hE⟩ := l19All_ev hn ha'
  obtain ⟨L, hL, hP⟩ := pairs_ev hn ha' hb'
  have e : rd_L5 R b = L := fin_one (hR.fin b hb'.1 hb'.2) hL
  have hRl := hR.len
  have hb2 : b < (R.length : Int) := by omega
  have hsz := hL.size hn ha'
  refine ⟨L, hL, hP, fun c t hc ht => ?_⟩
  obtain ⟨r, hr, he⟩ := sumS_ex (inB_iff.1 hc) (inB_iff.1 ht) L (by omega) hsz.2
  refine ⟨r, hr, ?_, ?_⟩
  · unfold spec_PairSum.f
    simp only [l1In_eq, Option.bind_some, ha, hb, hc, ht, if_true, Bool.not_true]
    refine Ev.bind (l1Ok_ev n l (by omega)) ?_
    simp only [hok, if_true]
    refine ev_shift ?_
    simp only [spec_PairSum.j0, Bool.false_eq_true, if_false]
    refine Ev.bind hE ?_
    simp only [hb'.1, hb2, if_true, e]
    exact he
  · unfold impl_PairSum.f
    simp only [nodesIn_eq, hasB2, within_eq, Option.bind_some, hok, ha, hb, hc, ht, Bool.and_self, if_true, Bool.not_true]
    refine ev_shift ?_
    simp only [impl_PairSum.j0, Bool.false_eq_true, if_false]
    refine Ev.bind hP ?_
    simp only [psumV_same]
    exact he
theorem pairSum_bad {n : Int} {l : List S33} (hl : l.length ≤ 9223372036854775807) {a b c t : Int} (h : (netOkB n l && (inB a 0 (wrap64 (n - 1)) && (inB b 0 (wrap64 (n - 1)) && (inB c 0 100 && inB t 0 100)))) = false) : Ev (fun k => spec_PairSum.f k n l a b c t) (-1) ∧ Ev (fun k => impl_PairSum.f k n l a b c t) (-1) := by
  have hj : Ev (fun k => spec_PairSum.j0 k a b c t (-1) true n l) (-1) := by
    refine ev_shift ?_
    simp only [spec_PairSum.j0, if_true]
    exact ev_now fun _ => rfl
  have hj2 : Ev (fun k => impl_PairSum.j0 k a b c t true n l) (-1) := by
    refine ev_shift ?_
    simp only [impl_PairSum.j0, if_true]
    exact ev_now fun _ => rfl
  constructor
  · unfold spec_PairSum.f
    simp only [l1In_eq, Option.bind_some]
    refine Ev.bind (l1Ok_ev n l hl) ?_
    cases h1 : netOkB n l with
    | false => simpa using hj
    | true =>
    cases h2 : inB a 0 (wrap64 (n - 1)) with
    | false => simpa using hj
    | true =>
    cases h3 : inB b 0 (wrap64 (n - 1)) with
    | false => simpa using hj
    | true =>
    cases h4 : inB c 0 100 with
    | false => simpa using hj
    | true =>
    cases h5 : inB t 0 100 with
    | false => simpa using hj
    | true => rw [h1, h2, h3, h4, h5] at h; cases h
  · unfold impl_PairSum.f
    simp only [nodesIn_eq, hasB2, within_eq, Option.bind_some]
    cases h1 : netOkB n l with
    | false => simpa using hj2
    | true =>
    cases h2 : inB a 0 (wrap64 (n - 1)) with
    | false => simpa using hj2
    | true =>
    cases h3 : inB b 0 (wrap64 (n - 1)) with
    | false => simpa using hj2
    | true =>
    cases h4 : inB c 0 100 with
    | false => simpa using hj2
    | true =>
    cases h5 : inB t 0 100 with
    | false => simpa using hj2
    | true => rw [h1, h2, h3, h4, h5] at h; cases h
/-! ### the least costs from all nodes to one -/
theorem rdi_set (D : List Int) (i j : Int) (v : Int) (hi : 0 ≤ i) (hl : i < (D.length : Int)) (hj : 0 ≤ j) : rd (D.set i.toNat v) j = if i = j then v else rd D j := by
  unfold rd
  rw [List.getD_eq_getElem?_getD, List.getD_eq_getElem?_getD, List.getElem?_set]
  by_cases h : i = j
  · subst h; rw [if_pos rfl, if_pos rfl, if_pos (by omega)]; rfl
  · rw [if_neg h, if_neg (by omega)]
theorem rdm_set (D : List S116) (i j : Int) (v : S116) (hi : 0 ≤ i) (hl : i < (D.length : Int)) (hj : 0 ≤ j) : rd_T116 (D.set i.toNat v) j = if i = j then v else rd_T116 D j := by
  unfold rd_T116
  rw [List.getD_eq_getElem?_getD, List.getD_eq_getElem?_getD, List.getElem?_set]
  by_cases h : i = j
  · subst h; rw [if_pos rfl, if_pos rfl, if_pos (by omega)]; rfl
  · rw [if_neg h, if_neg (by omega)]
def sumI : List Int → Int
  | [] => 0
  | x :: xs => x + sumI xs
theorem sumI_set (L : List Int) : ∀ (i : Nat) (v : Int), i < L.length → sumI (L.set i v) = sumI L - L.getD i 0 + v := by
  induction L with
  | nil => intro i v h; exact absurd h (by simp)
  | cons x xs ih =>
    intro i v h
    cases i with
    | zero => simp [sumI]; omega
    | succ i => simp only [List.set_cons_succ, sumI, ih i v (by simpa using h), List.getD_cons_succ]; omega
theorem sumI_nonneg (L : List Int) (h : ∀ x ∈ L, 0 ≤ x) : 0 ≤ sumI L := by
  induction L with
  | nil => simp [sumI]
  | cons x xs ih => have := h x (by simp); have := ih fun y hy => h y (by simp [hy]); simp only [sumI]; omega
theorem sumI_le8 (L : List Int) (b : Int) (hb : 0 ≤ b) (hl : L.length ≤ 8) (h : ∀ x ∈ L, x ≤ b) : sumI L ≤ 8 * b := by
  have key : ∀ L : List Int, (∀ x ∈ L, x ≤ b) → sumI L ≤ (L.length : Int) * b := by
    intro L
    induction L with
    | nil => intro _; simp [sumI]
    | cons x xs ih =>
      intro h
      have h1 := h x (by simp)
      have h2 := ih fun y hy => h y (by simp [hy])
      simp only [sumI, List.length_cons, Int.natCast_add, Int.add_mul]
      omega
  have h1 := key L h
  have h2 : (L.length : Int) * b ≤ 8 * b := Int.mul_le_mul_of_nonneg_right (by omega) hb
  omega
/-- A list that has all numbers below k has so many. -/
theorem levels_len (k : Nat) : ∀ L : List Int, (∀ j : Nat, j < k → (j : Int) ∈ L) → k ≤ L.length := by
  induction k with
  | zero => intro L _; omega
  | succ k ih =>
    intro L h
    have h1 := h k (by omega)
    have h2 := ih (L.erase (k : Int)) fun j hj => (List.mem_erase_of_ne (by omega)).2 (h j (by omega))
    rw [List.length_erase_of_mem h1] at h2
    have : 0 < L.length := List.length_pos_of_mem h1
    omega
/-- A walk to node t, from a node: what it costs, and how many arcs. -/
inductive Way (l : List S33) (t : Int) : Int → Int → Nat → Prop
  | nil : Way l t t 0 0
  | cons {x : S33} {c : Int} {m : Nat} : x ∈ l → Way l t x.f1 c m → Way l t x.f0 (x.f2 + c) (m + 1)
theorem Way.node {n : Int} {l : List S33} (hn : Net1 n l) {t : Int} (ht : 0 ≤ t ∧ t < n) {v c : Int} {m : Nat} (h : Way l t v c m) : 0 ≤ v ∧ v < n := by
  cases h with
  | nil => exact ht
  | cons hx _ => have := hn.ends _ hx; exact ⟨this.1, this.2.1⟩
def cM (M : List S116) (v : Int) : Int := (rd_T116 M v).f0
def aM (M : List S116) (v : Int) : Int := (rd_T116 M v).f1
def sumC (M : List S116) : Int := sumI (M.map fun m => m.f0)
def sumA (M : List S116) : Int := sumI (M.map fun m => m.f1)
theorem cM_set (M : List S116) (i j a b : Int) (hi : 0 ≤ i) (hl : i < (M.length : Int)) (hj : 0 ≤ j) : cM (M.set i.toNat ⟨a, b⟩) j = if i = j then a else cM M j := by
  unfold cM; rw [rdm_set M i j _ hi hl hj]; split <;> rfl
theorem aM_set (M : List S116) (i j a b : Int) (hi : 0 ≤ i) (hl : i < (M.length : Int)) (hj : 0 ≤ j) : aM (M.set i.toNat ⟨a, b⟩) j = if i = j then b else aM M j := by
  unfold aM; rw [rdm_set M i j _ hi hl hj]; split <;> rfl
theorem cM_get (M : List S116) (i : Nat) (h : i < M.length) : cM M (i : Int) = M[i].f0 := by simp [cM, rd_T116, h]
theorem aM_get (M : List S116) (i : Nat) (h : i < M.length) : aM M (i : Int) = M[i].f1 := by simp [aM, rd_T116, h]
theorem sumC_set (M : List S116) (i a b : Int) (hi : 0 ≤ i) (hl : i < (M.length : Int)) : sumC (M.set i.toNat ⟨a, b⟩) = sumC M - cM M i + a := by
  obtain ⟨j, rfl⟩ : ∃ j : Nat, i = (j : Int) := ⟨i.toNat, by omega⟩
  unfold sumC
  rw [List.map_set, Int.toNat_natCast, sumI_set _ j _ (by rw [List.length_map]; omega), cM_get M j (by omega)]
  rw [List.getD_eq_getElem?_getD, List.getElem?_map, List.getElem?_eq_getElem (show j < M.length by omega)]
  rfl
theorem sumA_set (M : List S116) (i a b : Int) (hi : 0 ≤ i) (hl : i < (M.length : Int)) : sumA (M.set i.toNat ⟨a, b⟩) = sumA M - aM M i + b := by
  obtain ⟨j, rfl⟩ : ∃ j : Nat, i = (j : Int) := ⟨i.toNat, by omega⟩
  unfold sumA
  rw [List.map_set, Int.toNat_natCast, sumI_set _ j _ (by rw [List.length_map]; omega), aM_get M j (by omega)]
  rw [List.getD_eq_getElem?_getD, List.getElem?_map, List.getElem?_eq_getElem (show j < M.length by omega)]
  rfl
/-- What holds of the measures while they are made. -/
structure MInv (n : Int) (l : List S33) (t : Int) (M : List S116) : Prop where
  len : (M.length : Int) = n
  rng : ∀ v, 0 ≤ v → v < n → 0 ≤ cM M v ∧ cM M v ≤ 99999 ∧ 0 ≤ aM M v ∧ (cM M v = 99999 → aM M v = 0)
  tz : cM M t = 0 ∧ aM M t = 0
  way : ∀ v, 0 ≤ v → v < n → cM M v ≠ 99999 → Way l t v (cM M v) (aM M v).toNat
  par : ∀ v, 0 ≤ v → v < n → v ≠ t → cM M v ≠ 99999 → ∃ x ∈ l, x.f0 = v ∧ cM M x.f1 ≠ 99999 ∧ (cM M x.f1 + x.f2 < cM M v ∨ cM M x.f1 + x.f2 = cM M v ∧ aM M x.f1 + 1 ≤ aM M v)
  bnd : ∀ v, 0 ≤ v → v < n → aM M v + sumC M ≤ 799992
def pot (M : List S116) : Nat := (sumC M * 6399937 + sumA M).toNat
/-- An arc says that it can be nearer. -/
def Less (M : List S116) (x : S33) : Prop := cM M x.f1 + x.f2 < cM M x.f0 ∨ cM M x.f1 + x.f2 = cM M x.f0 ∧ aM M x.f1 + 1 < aM M x.f0
def Closed (l : List S33) (M : List S116) : Prop := ∀ x ∈ l, cM M x.f1 ≠ 99999 → ¬ Less M x
theorem MInv.sums {n : Int} {l : List S33} {t : Int} {M : List S116} (hn : Net1 n l) (h : MInv n l t M) : 0 ≤ sumC M ∧ 0 ≤ sumA M ∧ sumA M ≤ 6399936 := by
  have hl := h.len
  have hi := hn.hi
  have hc : ∀ x ∈ (M.map fun m => m.f0), 0 ≤ x := by
    intro x hx
    obtain ⟨m, hm, rfl⟩ := List.mem_map.1 hx
    obtain ⟨i, hi, rfl⟩ := List.getElem_of_mem hm
    have := h.rng i (by omega) (by omega)
    rw [cM_get M i hi] at this
    exact this.1
  have hC := sumI_nonneg _ hc
  have ha : ∀ x ∈ (M.map fun m => m.f1), 0 ≤ x ∧ x ≤ 799992 := by
    intro x hx
    obtain ⟨m, hm, rfl⟩ := List.mem_map.1 hx
    obtain ⟨i, hi, rfl⟩ := List.getElem_of_mem hm
    have h1 := h.rng i (by omega) (by omega)
    have h2 := h.bnd i (by omega) (by omega)
    rw [aM_get M i hi] at h1 h2
    unfold sumC at h2
    omega
  have h1 := sumI_nonneg _ fun x hx => (ha x hx).1
  have h2 := sumI_le8 _ 799992 (by omega) (by rw [List.length_map]; omega) fun x hx => (ha x hx).2
  exact ⟨hC, h1, by unfold sumA; omega⟩
set_option maxHeartbeats 4000000 in
theorem MInv.step {n : Int} {l : List S33} {t : Int} {M : List S116} (hn : Net1 n l) (h : MInv n l t M) {x : S33} (hx : x ∈ l) (hw : cM M x.f1 ≠ 99999) (hL : Less M x) :
    MInv n l t (M.set x.f0.toNat ⟨cM M x.f1 + x.f2, aM M x.f1 + 1⟩) ∧ pot (M.set x.f0.toNat ⟨cM M x.f1 + x.f2, aM M x.f1 + 1⟩) < pot M := by
  obtain ⟨e1, e2, e3, e4, e5, e6, e7, _⟩ := hn.ends x hx
  have hlen := h.len
  have hlt : x.f0 < (M.length : Int) := by omega
  have r0 := h.rng x.f0 e1 e2
  have r1 := h.rng x.f1 e3 e4
  have b0 := h.bnd x.f0 e1 e2
  have b1 := h.bnd x.f1 e3 e4
  have hc : ∀ j, 0 ≤ j → cM (M.set x.f0.toNat ⟨cM M x.f1 + x.f2, aM M x.f1 + 1⟩) j = if x.f0 = j then cM M x.f1 + x.f2 else cM M j := fun j hj => cM_set M x.f0 j _ _ e1 hlt hj
  have ha : ∀ j, 0 ≤ j → aM (M.set x.f0.toNat ⟨cM M x.f1 + x.f2, aM M x.f1 + 1⟩) j = if x.f0 = j then aM M x.f1 + 1 else aM M j := fun j hj => aM_set M x.f0 j _ _ e1 hlt hj
  have sC := sumC_set M x.f0 (cM M x.f1 + x.f2) (aM M x.f1 + 1) e1 hlt
  have sA := sumA_set M x.f0 (cM M x.f1 + x.f2) (aM M x.f1 + 1) e1 hlt
  obtain ⟨s1, s2, s3⟩ := h.sums hn
  unfold Less at hL
  have hz := h.tz
  have hut : x.f0 ≠ t := by
    intro e
    rw [e] at hL
    omega
  have hinv : MInv n l t (M.set x.f0.toNat ⟨cM M x.f1 + x.f2, aM M x.f1 + 1⟩) := by
    refine ⟨by rw [List.length_set]; exact hlen, ?_, ?_, ?_, ?_, ?_⟩
    · intro v v0 v1
      rw [hc v v0, ha v v0]
      have := h.rng v v0 v1
      split
      · omega
      · exact this
    · by_cases ht : 0 ≤ t
      · rw [hc t ht, ha t ht, if_neg hut, if_neg hut]; exact hz
      · have h1 : ∀ L : List S116, cM L t = cM L 0 ∧ aM L t = aM L 0 := by
          intro L
          have : t.toNat = (0 : Int).toNat := by omega
          unfold cM aM rd_T116
          rw [this]
          exact ⟨rfl, rfl⟩
        rw [(h1 _).1, (h1 _).2] at hz ⊢
        rw [hc 0 (by omega), ha 0 (by omega)]
        by_cases h2 : x.f0 = 0
        · rw [h2] at hL; omega
        · rw [if_neg h2, if_neg h2]; exact hz
    · intro v v0 v1
      rw [hc v v0, ha v v0]
      by_cases e : x.f0 = v
      · subst e
        rw [if_pos rfl, if_pos rfl]
        intro _
        have hw' := h.way x.f1 e3 e4 hw
        have hm : (aM M x.f1 + 1).toNat = (aM M x.f1).toNat + 1 := by omega
        rw [hm, Int.add_comm]
        exact Way.cons hx hw'
      · rw [if_neg e, if_neg e]; exact h.way v v0 v1
    · intro v v0 v1 vt
      rw [hc v v0, ha v v0]
      by_cases e : x.f0 = v
      · subst e
        rw [if_pos rfl, if_pos rfl]
        intro _
        refine ⟨x, hx, rfl, ?_, ?_⟩
        · rw [hc x.f1 e3, if_neg e5]; exact hw
        · rw [hc x.f1 e3, ha x.f1 e3, if_neg e5, if_neg e5]; omega
      · rw [if_neg e, if_neg e]
        intro hv
        obtain ⟨y, hy, y0, y1, y2⟩ := h.par v v0 v1 vt hv
        have ey := hn.ends y hy
        refine ⟨y, hy, y0, ?_, ?_⟩
        · rw [hc y.f1 ey.2.2.1]
          split
          · omega
          · exact y1
        · rw [hc y.f1 ey.2.2.1, ha y.f1 ey.2.2.1]
          by_cases e2 : x.f0 = y.f1
          · rw [if_pos e2, if_pos e2]; rw [← e2] at y2; omega
          · rw [if_neg e2, if_neg e2]; exact y2
    · intro v v0 v1
      rw [ha v v0, sC]
      have := h.bnd v v0 v1
      split <;> omega
  refine ⟨hinv, ?_⟩
  obtain ⟨t1, t2, t3⟩ := hinv.sums hn
  unfold pot
  rw [sC] at t1 ⊢
  rw [sA] at t2 t3 ⊢
  omega
/-- What the program's measures are at the end. -/
def Fin1 (n : Int) (l : List S33) (t : Int) (M : List S116) : Prop := MInv n l t M ∧ Closed l M
theorem less_eq (a b c d : Int) : impl_measure_less.f a b c d = some (decide (a < c ∨ a = c ∧ b < d)) := by
  unfold impl_measure_less.f
  by_cases h : a < c
  · rw [if_pos h]; simp [h]
  · by_cases h2 : a = c
    · subst h2; simp
    · rw [if_neg h, if_neg h2]; simp [h, h2]
set_option maxHeartbeats 4000000 in
theorem toward_loop {n : Int} {l : List S33} (hn : Net1 n l) {t : Int} : ∀ s : List S116 × Bool, (MInv n l t s.1 ∧ (s.2 = false → Closed l s.1)) → ∃ R, Fin1 n l t R ∧ Ev (fun k => impl_Net_toward.l0 k s.1 s.2 n l) R := by
  refine ev_ex (fun k (s : List S116 × Bool) => impl_Net_toward.l0 k s.1 s.2 n l) (fun s => pot s.1 * 2 + (if s.2 = true then 1 else 0)) (fun s => MInv n l t s.1 ∧ (s.2 = false → Closed l s.1)) (Fin1 n l t) ?_
  rintro ⟨M, b⟩ ⟨hM, hC⟩ ih
  simp only at hM hC ih ⊢
  have hll := hn.len
  cases b with
  | false => exact ⟨M, ⟨hM, hC rfl⟩, ev_now fun k => by simp [impl_Net_toward.l0]⟩
  | true =>
    simp only [impl_Net_toward.l0, if_true]
    have inner := ev_ex (fun k (s : Nat × List S116 × Bool) => impl_Net_toward.l1 k s.2.1 s.2.2 l (l.length : Int) (s.1 : Int) n l) (fun s => l.length - s.1)
      (fun s => s.1 ≤ l.length ∧ MInv n l t s.2.1 ∧ ((s.2.2 = false ∧ s.2.1 = M ∧ ∀ j, j < s.1 → ∀ hj : j < l.length, cM M l[j].f1 ≠ 99999 → ¬ Less M l[j]) ∨ (s.2.2 = true ∧ pot s.2.1 < pot M))) (Fin1 n l t) ?_ (0, M, false) ⟨Nat.zero_le _, hM, .inl ⟨rfl, rfl, fun j hj => absurd hj (Nat.not_lt_zero _)⟩⟩
    · exact inner
    rintro ⟨i, M1, b1⟩ ⟨hi, hM1, hb⟩ ih2
    simp only at hi hM1 hb ih2 ⊢
    by_cases h : i < l.length
    · have hlt : (i : Int) < (l.length : Int) := by omega
      have h0 : (0 : Int) ≤ (i : Int) := by omega
      have hxl : l[i] ∈ l := List.getElem_mem h
      obtain ⟨e1, e2, e3, e4, e5, e6, e7, _⟩ := hn.ends l[i] hxl
      have hlen := hM1.len
      have g1 : l[i].f1 < (M1.length : Int) := by omega
      have g0 : l[i].f0 < (M1.length : Int) := by omega
      simp only [impl_Net_toward.l1, hlt, h0, if_true, arc_at l i h, e1, e3, g0, g1, wsucc h (show l.length ≤ 9223372036854775807 by omega), less_eq, Option.bind_some]
      have r1 := hM1.rng l[i].f1 e3 e4
      have b1' := hM1.bnd l[i].f1 e3 e4
      have hs := hM1.sums hn
      by_cases hf : cM M1 l[i].f1 = 99999
      · have hf' : (rd_T116 M1 l[i].f1).f0 = 99999 := hf
        simp only [hf', if_true]
        refine ih2 (i + 1, M1, b1) ⟨by simp; omega, hM1, ?_⟩ (by simp; omega)
        rcases hb with ⟨q1, q2, q3⟩ | q
        · refine .inl ⟨q1, q2, fun j hj hjl hc => ?_⟩
          by_cases hji : j = i
          · subst hji; rw [← q2] at hc; exact absurd hf hc
          · exact q3 j (by simp at hj; omega) hjl hc
        · exact .inr q
      · have hf' : ¬ (rd_T116 M1 l[i].f1).f0 = 99999 := hf
        have w1 : wrap64 ((rd_T116 M1 l[i].f1).f0 + l[i].f2) = cM M1 l[i].f1 + l[i].f2 := by unfold cM at *; exact w_id (by omega) (by omega)
        have w2 : wrap64 ((rd_T116 M1 l[i].f1).f1 + 1) = aM M1 l[i].f1 + 1 := by unfold aM at *; exact w_id (by omega) (by omega)
        simp only [hf', if_false, w1, w2]
        by_cases hL : Less M1 l[i]
        · have hL' : (cM M1 l[i].f1 + l[i].f2 < (rd_T116 M1 l[i].f0).f0 ∨ cM M1 l[i].f1 + l[i].f2 = (rd_T116 M1 l[i].f0).f0 ∧ aM M1 l[i].f1 + 1 < (rd_T116 M1 l[i].f0).f1) := hL
          simp only [hL', decide_true, if_true]
          obtain ⟨hs1, hs2⟩ := hM1.step hn hxl hf hL
          refine ih2 (i + 1, _, true) ⟨by simp; omega, hs1, .inr ⟨rfl, ?_⟩⟩ (by simp; omega)
          rcases hb with ⟨_, q2, _⟩ | ⟨_, q⟩
          · rw [← q2]; exact hs2
          · exact Nat.lt_trans hs2 q
        · have hL' : ¬ (cM M1 l[i].f1 + l[i].f2 < (rd_T116 M1 l[i].f0).f0 ∨ cM M1 l[i].f1 + l[i].f2 = (rd_T116 M1 l[i].f0).f0 ∧ aM M1 l[i].f1 + 1 < (rd_T116 M1 l[i].f0).f1) := hL
          simp only [hL', decide_false, Bool.false_eq_true, if_false]
          refine ih2 (i + 1, M1, b1) ⟨by simp; omega, hM1, ?_⟩ (by simp; omega)
          rcases hb with ⟨q1, q2, q3⟩ | q
          · refine .inl ⟨q1, q2, fun j hj hjl hc => ?_⟩
            by_cases hji : j = i
            · subst hji; rw [← q2]; exact hL
            · exact q3 j (by simp at hj; omega) hjl hc
          · exact .inr q
    · have hlt : ¬ (i : Int) < (l.length : Int) := by omega
      simp only [impl_Net_toward.l1, hlt, if_false]
      rcases hb with ⟨q1, q2, q3⟩ | ⟨q1, q2⟩
      · subst q1
        refine ih (M1, false) ⟨hM1, fun _ x hx hc => ?_⟩ (by rw [q2]; simp)
        obtain ⟨j, hj, rfl⟩ := List.getElem_of_mem hx
        rw [q2] at hc ⊢
        exact q3 j (by omega) hj hc
      · subst q1
        exact ih (M1, true) ⟨hM1, fun h => by cases h⟩ (by simp; omega)
theorem minv_start {n : Int} {l : List S33} (hn : Net1 n l) {t : Int} (h0 : 0 ≤ t) (h1 : t < n) : MInv n l t ((List.replicate n.toNat (⟨99999, 0⟩ : S116)).set t.toNat ⟨0, 0⟩) := by
  have hlo := hn.lo
  have hhi := hn.hi
  have hll : ((List.replicate n.toNat (⟨99999, 0⟩ : S116)).length : Int) = n := by rw [List.length_replicate]; omega
  have hc : ∀ v, 0 ≤ v → v < n → cM ((List.replicate n.toNat (⟨99999, 0⟩ : S116)).set t.toNat ⟨0, 0⟩) v = if t = v then 0 else 99999 := by
    intro v v0 v1
    rw [cM_set _ t v _ _ h0 (by omega) v0]
    split
    · rfl
    · obtain ⟨j, rfl⟩ : ∃ j : Nat, v = (j : Int) := ⟨v.toNat, by omega⟩
      rw [cM_get _ j (by rw [List.length_replicate]; omega), List.getElem_replicate]
  have ha : ∀ v, 0 ≤ v → v < n → aM ((List.replicate n.toNat (⟨99999, 0⟩ : S116)).set t.toNat ⟨0, 0⟩) v = 0 := by
    intro v v0 v1
    rw [aM_set _ t v _ _ h0 (by omega) v0]
    split
    · rfl
    · obtain ⟨j, rfl⟩ : ∃ j : Nat, v = (j : Int) := ⟨v.toNat, by omega⟩
      rw [aM_get _ j (by rw [List.length_replicate]; omega), List.getElem_replicate]
  refine ⟨by rw [List.length_set]; exact hll, ?_, ?_, ?_, ?_, ?_⟩
  · intro v v0 v1
    rw [hc v v0 v1, ha v v0 v1]
    split <;> omega
  · rw [hc t h0 h1, ha t h0 h1, if_pos rfl]; exact ⟨rfl, rfl⟩
  · intro v v0 v1
    rw [hc v v0 v1, ha v v0 v1]
    split
    · rename_i e; subst e; intro _; exact Way.nil
    · intro h; exact absurd rfl h
  · intro v v0 v1 vt
    rw [hc v v0 v1, if_neg (Ne.symm vt)]
    intro h; exact absurd rfl h
  · intro v v0 v1
    rw [ha v v0 v1]
    have := sumI_le8 (((List.replicate n.toNat (⟨99999, 0⟩ : S116)).set t.toNat ⟨0, 0⟩).map fun m => m.f0) 99999 (by omega) (by rw [List.length_map, List.length_set, List.length_replicate]; omega) (by
      intro x hx
      obtain ⟨m, hm, rfl⟩ := List.mem_map.1 hx
      rcases List.mem_or_eq_of_mem_set hm with h | h
      · rw [List.eq_of_mem_replicate h]; exact Int.le_refl _
      · rw [h]; simp)
    unfold sumC
    omega
/-- No walk is nearer than the measures say. -/
theorem Fin1.low {n : Int} {l : List S33} (hn : Net1 n l) {t : Int} {M : List S116} (hM : Fin1 n l t M) {v c : Int} {m : Nat} (h : Way l t v c m) : cM M v < c ∨ (cM M v = c ∧ aM M v ≤ m) ∨ 99999 ≤ c := by
  induction h with
  | nil => rw [hM.1.tz.1, hM.1.tz.2]; exact .inr (.inl ⟨rfl, by omega⟩)
  | @cons x c m hx h ih =>
    obtain ⟨e1, e2, e3, e4, e5, e6, e7, _⟩ := hn.ends x hx
    have r0 := hM.1.rng x.f0 e1 e2
    by_cases hf : cM M x.f1 = 99999
    · rcases ih with ih | ih | ih <;> omega
    · have := hM.2 x hx hf
      unfold Less at this
      rcases ih with ih | ih | ih <;> omega
theorem Fin1.levels {n : Int} {l : List S33} (hn : Net1 n l) {t : Int} {M : List S116} (hM : Fin1 n l t M) (m : Nat) : ∀ v, 0 ≤ v → v < n → cM M v ≠ 99999 → aM M v = (m : Int) → ∀ j : Nat, j ≤ m → ∃ u, 0 ≤ u ∧ u < n ∧ aM M u = (j : Int) := by
  induction m with
  | zero => intro v v0 v1 _ hm j hj; exact ⟨v, v0, v1, by rw [hm]; omega⟩
  | succ m ih =>
    intro v v0 v1 hc hm j hj
    by_cases hj2 : j = m + 1
    · exact ⟨v, v0, v1, by rw [hm, hj2]⟩
    · have hvt : v ≠ t := by intro e; rw [e, hM.1.tz.2] at hm; omega
      obtain ⟨x, hx, x0, x1, x2⟩ := hM.1.par v v0 v1 hvt hc
      obtain ⟨e1, e2, e3, e4, e5, e6, e7, _⟩ := hn.ends x hx
      have := hM.2 x hx x1
      unfold Less at this
      rw [x0] at this
      exact ih x.f1 e3 e4 x1 (by omega) j (by omega)
theorem Fin1.few {n : Int} {l : List S33} (hn : Net1 n l) {t : Int} {M : List S116} (hM : Fin1 n l t M) {v : Int} (v0 : 0 ≤ v) (v1 : v < n) (hc : cM M v ≠ 99999) : aM M v + 1 ≤ n := by
  have hlen := hM.1.len
  have r := hM.1.rng v v0 v1
  have := levels_len ((aM M v).toNat + 1) (M.map fun m => m.f1) (by
    intro j hj
    obtain ⟨u, u0, u1, hu⟩ := hM.levels hn (aM M v).toNat v v0 v1 hc (by omega) j (by omega)
    obtain ⟨i, rfl⟩ : ∃ i : Nat, u = (i : Int) := ⟨u.toNat, by omega⟩
    rw [aM_get M i (by omega)] at hu
    rw [← hu]
    exact List.mem_map.2 ⟨M[i], List.getElem_mem _, rfl⟩)
  rw [List.length_map] at this
  omega
/-! ### least costs: what the program makes -/
def revA (x : S33) : S33 := ⟨x.f1, x.f0, x.f2, x.f3, x.f4⟩
def backL (l : List S33) : List S33 := l.map revA
theorem backL_backL (l : List S33) : backL (backL l) = l := by
  unfold backL
  rw [List.map_map]
  have : revA ∘ revA = id := by funext x; rfl
  rw [this, List.map_id]
theorem backL_length (l : List S33) : (backL l).length = l.length := by unfold backL; rw [List.length_map]
theorem Net1.back {n : Int} {l : List S33} (hn : Net1 n l) : Net1 n (backL l) := by
  refine ⟨hn.lo, hn.hi, by rw [backL_length]; exact hn.len, fun x hx => ?_⟩
  obtain ⟨y, hy, rfl⟩ := List.mem_map.1 hx
  obtain ⟨a, b, c, d, e, f⟩ := hn.ends y hy
  exact ⟨c, d, a, b, fun z => e z.symm, f⟩
theorem costs_ev (M : List S116) (h : M.length ≤ 1000) : Ev (fun k => impl_costs.f k M) (M.map fun m => m.f0) := by
  unfold impl_costs.f
  have h1 : ((M.length : Int) : Int).toNat ≤ 35184372088832 := by omega
  simp only [h1, if_true]
  have := ev_ind (fun k (s : Nat × List Int) => impl_costs.l0 k s.2 M (M.length : Int) (s.1 : Int)) (fun s => M.length - s.1) (fun s => s.1 ≤ M.length ∧ s.2.length ≤ s.1) (fun s => s.2 ++ (M.drop s.1).map fun m => m.f0) ?_ (0, []) ⟨Nat.zero_le _, by simp⟩
  · simpa using this
  rintro ⟨i, x⟩ ⟨hi, hx⟩ ih
  simp only at hi hx ih ⊢
  by_cases h : i < M.length
  · have hlt : (i : Int) < (M.length : Int) := by omega
    have h0 : (0 : Int) ≤ (i : Int) := by omega
    have b1 : x.length < 17592186044416 := by omega
    simp only [impl_costs.l0, hlt, h0, b1, if_true, wsucc h (show M.length ≤ 9223372036854775807 by omega)]
    refine ev_at (ih (i + 1, x ++ [(rd_T116 M (i : Int)).f0]) ⟨by simp; omega, by simp; omega⟩ (by simp; omega)) ?_
    rw [List.drop_eq_getElem_cons h, List.map_cons, List.append_assoc]
    simp [rd_T116, h]
  · have hlt : ¬ (i : Int) < (M.length : Int) := by omega
    simp only [impl_costs.l0, hlt, if_false]
    refine ev_now fun k => ?_
    rw [List.drop_of_length_le (by omega)]
    simp
theorem back_ev (n : Int) (l : List S33) (hl : l.length ≤ 1000) : Ev (fun k => impl_Net_back.f k n l) (n, backL l) := by
  unfold impl_Net_back.f
  have h1 : ((l.length : Int) : Int).toNat ≤ 7036874417766 := by omega
  simp only [h1, if_true]
  have := ev_ind (fun k (s : Nat × List S33) => impl_Net_back.l0 k l (l.length : Int) (s.1 : Int) n s.2) (fun s => l.length - s.1) (fun s => s.1 ≤ l.length ∧ s.2.length ≤ s.1) (fun s => (n, s.2 ++ backL (l.drop s.1))) ?_ (0, []) ⟨Nat.zero_le _, by simp⟩
  · simpa using this
  rintro ⟨i, x⟩ ⟨hi, hx⟩ ih
  simp only at hi hx ih ⊢
  by_cases h : i < l.length
  · have hlt : (i : Int) < (l.length : Int) := by omega
    have h0 : (0 : Int) ≤ (i : Int) := by omega
    have b1 : x.length < 3518437208883 := by omega
    simp only [impl_Net_back.l0, hlt, h0, b1, if_true, wsucc h (show l.length ≤ 9223372036854775807 by omega), arc_at l i h]
    refine ev_at (ih (i + 1, x ++ [revA l[i]]) ⟨by simp; omega, by simp; omega⟩ (by simp; omega)) ?_
    rw [List.drop_eq_getElem_cons h, backL, backL, List.map_cons, List.append_assoc]
    rfl
  · have hlt : ¬ (i : Int) < (l.length : Int) := by omega
    simp only [impl_Net_back.l0, hlt, if_false]
    refine ev_now fun k => ?_
    rw [List.drop_of_length_le (by omega)]
    simp [backL]
/-- The least measures to a node: what the program makes. -/
theorem toward_ex {n : Int} {l : List S33} (hn : Net1 n l) {t : Int} (ht : 0 ≤ t ∧ t < n) : ∃ M, Fin1 n l t M ∧ Ev (fun k => impl_Net_toward.f k n l t) M := by
  have hlo := hn.lo
  have hhi := hn.hi
  unfold impl_Net_toward.f impl_measure.f
  have b : 0 ≤ n ∧ n ≤ 8 := by omega
  have g : t < ((n.toNat : Nat) : Int) := by omega
  simp only [b, and_self, if_true, Option.bind_some, ht.1, List.length_replicate, g]
  exact toward_loop hn ((List.replicate n.toNat (⟨99999, 0⟩ : S116)).set t.toNat ⟨0, 0⟩, true) ⟨minv_start hn ht.1 ht.2, fun h => by cases h⟩
theorem Way.snoc {l : List S33} {t v c : Int} {m : Nat} (h : Way l t v c m) {x : S33} (hx : x ∈ l) (ht : x.f0 = t) : Way l x.f1 v (c + x.f2) (m + 1) := by
  induction h with
  | nil =>
    have := Way.cons (t := x.f1) hx (Way.nil (l := l))
    rw [ht] at this
    rw [Int.add_comm]
    exact this
  | @cons y c m hy _ ih =>
    have := Way.cons hy ih
    rw [show y.f2 + c + x.f2 = y.f2 + (c + x.f2) by omega]
    exact this
/-- A walk, gone the other way round. -/
theorem Way.rev {l : List S33} {t v c : Int} {m : Nat} (h : Way l t v c m) : Way (backL l) v t c m := by
  induction h with
  | nil => exact Way.nil
  | @cons x c m hx _ ih =>
    have hr : revA x ∈ backL l := List.mem_map.2 ⟨x, hx, rfl⟩
    have := ih.snoc hr rfl
    rw [Int.add_comm]
    exact this
/-! ### the least costs that the program tells -/
structure FromD (n : Int) (l : List S33) (s : Int) (D : List Int) : Prop where
  len : (D.length : Int) = n
  rng : ∀ v, 0 ≤ v → v < n → 0 ≤ rd D v ∧ rd D v ≤ 99999
  way : ∀ v, 0 ≤ v → v < n → rd D v ≠ 99999 → ∃ m, Way (backL l) s v (rd D v) m
  low : ∀ v c m, Way (backL l) s v c m → rd D v ≤ c ∨ 99999 ≤ c
theorem inB_nodeF {n : Int} {l : List S33} (hn : Net1 n l) {a : Int} (h : 0 ≤ a ∧ a < n) : inB a 0 (wrap64 (n - 1)) = true := by
  have := hn.lo
  have := hn.hi
  rw [inB_iff, w_id (n := n - 1) (by omega) (by omega)]
  omega
theorem from_ex {n : Int} {l : List S33} (hn : Net1 n l) {s : Int} (hs : 0 ≤ s ∧ s < n) : ∃ D, FromD n l s D ∧ Ev (fun k => impl_Net_from.f k n l s) D := by
  obtain ⟨M, hM, he⟩ := toward_ex hn.back hs
  have hl := hM.1.len
  have e : ∀ v, 0 ≤ v → v < n → rd (M.map fun m => m.f0) v = cM M v := by
    intro v v0 v1
    obtain ⟨i, rfl⟩ := Int.eq_ofNat_of_zero_le v0
    rw [cM_get M i (by omega), rd_at _ i (by rw [List.length_map]; omega), List.getElem_map]
  refine ⟨M.map fun m => m.f0, ⟨by rw [List.length_map]; exact hl, fun v v0 v1 => ?_, fun v v0 v1 h => ?_, fun v c m hw => ?_⟩, ?_⟩
  · rw [e v v0 v1]
    have := hM.1.rng v v0 v1
    exact ⟨this.1, this.2.1⟩
  · rw [e v v0 v1] at h ⊢
    exact ⟨_, hM.1.way v v0 v1 h⟩
  · have hv := hw.node hn.back hs
    rw [e v hv.1 hv.2]
    have := hM.low hn.back hw
    omega
  · unfold impl_Net_from.f
    refine Ev.bind (back_ev n l (by have := hn.len; omega)) ?_
    refine Ev.bind he ?_
    exact Ev.bind (costs_ev M (by have := hn.hi; omega)) (ev_now fun _ => rfl)
theorem nearAllI_ev {n : Int} {l : List S33} (hok : netOkB n l = true) {a : Int} (ha : 0 ≤ a ∧ a < n) : ∃ D, FromD n l a D ∧ Ev (fun k => impl_NearAll.f k n l a) D := by
  have hn := net1_of hok
  obtain ⟨D, hD, he⟩ := from_ex hn ha
  refine ⟨D, hD, ?_⟩
  unfold impl_NearAll.f
  simp only [nodesIn_eq, Option.bind_some, hasB1, hok, inB_nodeF hn ha, Bool.and_self, if_true]
  exact Ev.bind he (ev_now fun _ => rfl)
/-! ### the cheapest pair costs what is the nearest -/
theorem pays_way {l : List S33} {s v c t : Int} {m : Nat} (h : Pays l s v c t m) : Way (backL l) s v c m := by
  induction h with
  | nil => exact Way.nil
  | @snoc x c t m _ hx ih =>
    have hr : revA x ∈ backL l := List.mem_map.2 ⟨x, hx, rfl⟩
    have := Way.cons (t := s) hr (show Way (backL l) s (revA x).f1 c m from ih)
    rw [Int.add_comm]
    exact this
theorem way_pays {l : List S33} {s v c : Int} {m : Nat} (h : Way (backL l) s v c m) : ∃ t, Pays l s v c t m := by
  induction h with
  | nil => exact ⟨0, Pays.nil⟩
  | @cons x c m hx _ ih =>
    obtain ⟨y, hy, rfl⟩ := List.mem_map.1 hx
    obtain ⟨t, ht⟩ := ih
    have := Pays.snoc (x := y) ht hy
    refine ⟨t + y.f3, ?_⟩
    rw [Int.add_comm]
    exact this
theorem head_dist {n : Int} {l : List S33} (hn : Net1 n l) {a b : Int} (ha : 0 ≤ a ∧ a < n) (hb : 0 ≤ b ∧ b < n) {L : List S35} (hL : FinP l a b L) {D : List Int} (hD : FromD n l a D) : (L = [] ∧ rd D b = 99999) ∨ ∃ p r, L = p :: r ∧ rd D b = p.f0 := by
  have hsz := hL.size hn ha
  cases L with
  | nil =>
    refine .inl ⟨rfl, ?_⟩
    by_cases h : rd D b = 99999
    · exact h
    · obtain ⟨m, hw⟩ := hD.way b hb.1 hb.2 h
      obtain ⟨t, ht⟩ := way_pays hw
      obtain ⟨p, hp, _⟩ := hL.low _ _ _ ht
      cases hp
  | cons p r =>
    refine .inr ⟨p, r, rfl, ?_⟩
    have h0 := hsz.2 p (by simp)
    obtain ⟨m, hm⟩ := hL.real p (by simp)
    have h1 := hD.low _ _ _ (pays_way hm)
    have h2 : rd D b ≠ 99999 := by omega
    obtain ⟨m2, hw⟩ := hD.way b hb.1 hb.2 h2
    obtain ⟨t, ht⟩ := way_pays hw
    obtain ⟨q, hq, a1, a2⟩ := hL.low _ _ _ ht
    have hs := hL.stair
    unfold Stair at hs
    rw [List.pairwise_cons] at hs
    rw [List.mem_cons] at hq
    rcases hq with rfl | hq
    · omega
    · have := (hs.1 q hq).1
      omega
/-! ### a net with other costs -/
def mixA (c t : Int) (x : S33) : Int := mn (wrap64 (Int.tdiv (wrap64 (wrap64 (x.f2 * c) + wrap64 (x.f3 * t))) 100)) 99
def mixL (c t : Int) (l : List S33) : List Int := l.map (mixA c t)
def pricedA (c t : Int) (x : S33) : S33 := ⟨x.f0, x.f1, mixA c t x, x.f3, x.f4⟩
def pricedL (c t : Int) (l : List S33) : List S33 := l.map (pricedA c t)
theorem prodM_rng {x c : Int} (h0 : 0 ≤ x) (h1 : x ≤ 99) (h2 : 0 ≤ c) (h3 : c ≤ 100) : 0 ≤ x * c ∧ x * c ≤ 9900 := by
  have a := Int.mul_nonneg h0 h2
  have b : x * c ≤ 99 * 100 := Int.mul_le_mul h1 h3 h2 (by omega)
  exact ⟨a, by omega⟩
theorem mix_rng {c t : Int} (hc : 0 ≤ c ∧ c ≤ 100) (ht : 0 ≤ t ∧ t ≤ 100) {x : S33} (h2 : 0 ≤ x.f2 ∧ x.f2 ≤ 99) (h3 : 0 ≤ x.f3 ∧ x.f3 ≤ 99) : 0 ≤ mixA c t x ∧ mixA c t x ≤ 99 := by
  have a := prodM_rng h2.1 h2.2 hc.1 hc.2
  have b := prodM_rng h3.1 h3.2 ht.1 ht.2
  unfold mixA mn
  generalize x.f2 * c = p at a ⊢
  generalize x.f3 * t = q at b ⊢
  rw [w_id (n := p) (by omega) (by omega), w_id (n := q) (by omega) (by omega), w_id (n := p + q) (by omega) (by omega), Int.tdiv_eq_ediv_of_nonneg (by omega), w_id (by omega) (by omega)]
  split <;> omega
theorem mix_toll {x : S33} (h3 : 0 ≤ x.f3 ∧ x.f3 ≤ 99) : mixA 0 100 x = x.f3 := by
  unfold mixA mn
  rw [Int.mul_zero, w_id (n := 0) (by omega) (by omega), w_id (n := x.f3 * 100) (by omega) (by omega), w_id (n := 0 + x.f3 * 100) (by omega) (by omega), Int.tdiv_eq_ediv_of_nonneg (by omega), w_id (by omega) (by omega)]
  split <;> omega
theorem mix_cost {x : S33} (h2 : 0 ≤ x.f2 ∧ x.f2 ≤ 99) : mixA 100 0 x = x.f2 := by
  unfold mixA mn
  rw [Int.mul_zero, w_id (n := 0) (by omega) (by omega), w_id (n := x.f2 * 100) (by omega) (by omega), w_id (n := x.f2 * 100 + 0) (by omega) (by omega), Int.tdiv_eq_ediv_of_nonneg (by omega), w_id (by omega) (by omega)]
  split <;> omega
theorem priced_net1 {n : Int} {l : List S33} (hn : Net1 n l) {c t : Int} (hc : 0 ≤ c ∧ c ≤ 100) (ht : 0 ≤ t ∧ t ≤ 100) : Net1 n (pricedL c t l) := by
  refine ⟨hn.lo, hn.hi, by unfold pricedL; rw [List.length_map]; exact hn.len, fun y hy => ?_⟩
  obtain ⟨x, hx, rfl⟩ := List.mem_map.1 hy
  obtain ⟨e1, e2, e3, e4, e5, e6, e7, e8, e9, e10, e11⟩ := hn.ends x hx
  have hm := mix_rng hc ht ⟨e6, e7⟩ ⟨e8, e9⟩
  exact ⟨e1, e2, e3, e4, e5, hm.1, hm.2, e8, e9, e10, e11⟩
theorem costOf_ev {n : Int} {l : List S33} (hok : netOkB n l = true) {c t : Int} (hc : inB c 0 100 = true) (ht : inB t 0 100 = true) : Ev (fun k => impl_CostOf.f k n l c t) (mixL c t l) := by
  have hll := netOk_len hok
  unfold impl_CostOf.f
  simp only [netOk_eq, within_eq, Option.bind_some, hok, hc, ht, if_true, Bool.not_true]
  refine ev_shift ?_
  have h1 : ((l.length : Int) : Int).toNat ≤ 35184372088832 := by omega
  simp only [impl_CostOf.j0, Bool.false_eq_true, if_false, h1, if_true]
  have := ev_ind (fun k (s : Nat × List Int) => impl_CostOf.l0 k c t s.2 l (l.length : Int) (s.1 : Int)) (fun s => l.length - s.1) (fun s => s.1 ≤ l.length ∧ s.2.length ≤ s.1) (fun s => s.2 ++ mixL c t (l.drop s.1)) ?_ (0, []) ⟨Nat.zero_le _, by simp⟩
  · simpa using this
  rintro ⟨i, x⟩ ⟨hi, hx⟩ ih
  simp only at hi hx ih ⊢
  by_cases h : i < l.length
  · have hlt : (i : Int) < (l.length : Int) := by omega
    have h0 : (0 : Int) ≤ (i : Int) := by omega
    have b1 : x.length < 17592186044416 := by omega
    simp only [impl_CostOf.l0, hlt, h0, b1, if_true, wsucc h (show l.length ≤ 9223372036854775807 by omega), arc_at l i h]
    refine ev_at (ih (i + 1, x ++ [mixA c t l[i]]) ⟨by simp; omega, by simp; omega⟩ (by simp; omega)) ?_
    rw [List.drop_eq_getElem_cons h, mixL, mixL, List.map_cons, List.append_assoc]
    rfl
  · have hlt : ¬ (i : Int) < (l.length : Int) := by omega
    simp only [impl_CostOf.l0, hlt, if_false]
    refine ev_now fun k => ?_
    rw [List.drop_of_length_le (by omega)]
    simp [mixL]
theorem set_nextP {α : Type} (x : List α) (i : Nat) (v : α) (h : i < x.length) : (x.set i v).take (i + 1) = x.take i ++ [v] := by
  rw [List.take_succ_eq_append_getElem (by rw [List.length_set]; exact h), List.take_set_of_le (Nat.le_refl _), List.getElem_set_self]
theorem costNet_ev {n : Int} {l : List S33} (hok : netOkB n l = true) {c t : Int} (hc : inB c 0 100 = true) (ht : inB t 0 100 = true) : Ev (fun k => impl_CostNet.f k n l (mixL c t l)) (n, pricedL c t l, true) := by
  have hll := netOk_len hok
  have hn := net1_of hok
  have hml : (mixL c t l).length = l.length := by unfold mixL; rw [List.length_map]
  have hm : metricB n l (mixL c t l) = true := by
    unfold metricB
    rw [hok, hml, decide_eq_true rfl, Bool.true_and, Bool.true_and, Bool.not_eq_true', List.any_eq_false]
    intro v hv
    obtain ⟨x, hx, rfl⟩ := List.mem_map.1 hv
    obtain ⟨e1, e2, e3, e4, e5, e6, e7, e8, e9, e10, e11⟩ := hn.ends x hx
    have := mix_rng (inB_iff.1 hc) (inB_iff.1 ht) ⟨e6, e7⟩ ⟨e8, e9⟩
    rw [inB_iff.2 this]
    exact Bool.false_ne_true
  unfold impl_CostNet.f impl_metricOk.f
  simp only [Option.bind_some, hm, if_true]
  have hp : Ev (fun k => impl_Net_priced.f k n l (mixL c t l)) (n, pricedL c t l) := by
    unfold impl_Net_priced.f impl_Arc_91.f impl_Arc_90.f
    have b1 : l.length < 3518437208883 := by omega
    simp only [b1, if_true, Option.bind_some, hml]
    have := ev_ind (fun k (s : Nat × List S33) => impl_Net_priced.l0 k (mixL c t l) (l.length : Int) (s.1 : Int) n s.2) (fun s => l.length - s.1) (fun s => s.1 ≤ l.length ∧ s.2.length = l.length ∧ s.2.drop s.1 = l.drop s.1) (fun s => (n, s.2.take s.1 ++ pricedL c t (l.drop s.1))) ?_ (0, l) ⟨Nat.zero_le _, rfl, rfl⟩
    · simpa using this
    rintro ⟨i, x⟩ ⟨hi, hx, hd⟩ ih
    simp only at hi hx hd ih ⊢
    by_cases h : i < l.length
    · have hlt : (i : Int) < (l.length : Int) := by omega
      have h0 : (0 : Int) ≤ (i : Int) := by omega
      have hix : i < x.length := by omega
      have h2 : (i : Int) < ((mixL c t l).length : Int) := by omega
      have h3 : (i : Int) < (x.length : Int) := by omega
      have hmi : rd (mixL c t l) (i : Int) = mixA c t l[i] := by rw [rd_at _ i (by omega)]; unfold mixL; rw [List.getElem_map]
      rw [List.drop_eq_getElem_cons h, List.drop_eq_getElem_cons hix, List.cons.injEq] at hd
      simp only [impl_Net_priced.l0, hlt, h0, h2, h3, if_true, wsucc h (show l.length ≤ 9223372036854775807 by omega), arc_at x i hix, hd.1, hmi, Int.toNat_natCast]
      refine ev_at (ih (i + 1, x.set i (pricedA c t l[i])) ⟨by simp; omega, by simp [hx], ?_⟩ (by simp; omega)) ?_
      · simp only
        rw [List.drop_set_of_lt (by omega)]
        exact hd.2
      · simp only
        rw [set_nextP x i _ hix, List.drop_eq_getElem_cons h, pricedL, pricedL, List.map_cons, List.append_assoc]
        rfl
    · have hlt : ¬ (i : Int) < (l.length : Int) := by omega
      simp only [impl_Net_priced.l0, hlt, if_false]
      refine ev_now fun k => ?_
      rw [List.drop_of_length_le (by omega), List.take_of_length_le (by omega)]
      simp [pricedL]
  exact Ev.bind hp (ev_now fun _ => rfl)
/-! ### tolls as costs -/
theorem pays_toll {l : List S33} (hl : ∀ x ∈ l, 0 ≤ x.f3 ∧ x.f3 ≤ 99) {s v c t : Int} {m : Nat} (h : Pays l s v c t m) : Way (backL (pricedL 0 100 l)) s v t m := by
  induction h with
  | nil => exact Way.nil
  | @snoc x c t m _ hx ih =>
    have hr : revA (pricedA 0 100 x) ∈ backL (pricedL 0 100 l) := List.mem_map.2 ⟨_, List.mem_map.2 ⟨x, hx, rfl⟩, rfl⟩
    have := Way.cons (t := s) hr (show Way (backL (pricedL 0 100 l)) s (revA (pricedA 0 100 x)).f1 t m from ih)
    have e : (revA (pricedA 0 100 x)).f2 = x.f3 := mix_toll (hl x hx)
    rw [e] at this
    rw [Int.add_comm]
    exact this
theorem toll_pays {l : List S33} (hl : ∀ x ∈ l, 0 ≤ x.f3 ∧ x.f3 ≤ 99) {s v t : Int} {m : Nat} (h : Way (backL (pricedL 0 100 l)) s v t m) : ∃ c, Pays l s v c t m := by
  induction h with
  | nil => exact ⟨0, Pays.nil⟩
  | @cons y c m hy _ ih =>
    obtain ⟨z, hz, rfl⟩ := List.mem_map.1 hy
    obtain ⟨x, hx, rfl⟩ := List.mem_map.1 hz
    obtain ⟨d, hd⟩ := ih
    have := Pays.snoc (x := x) hd hx
    refine ⟨d + x.f2, ?_⟩
    have e : (revA (pricedA 0 100 x)).f2 = x.f3 := mix_toll (hl x hx)
    rw [e, Int.add_comm x.f3]
    exact this
theorem stair_last : ∀ {L : List S35}, Stair L → ∀ i (h : i < L.length), ∀ q ∈ L, i = L.length - 1 → L[i].f1 ≤ q.f1 := by
  intro L hs i h q hq hi
  obtain ⟨j, hj, rfl⟩ := List.getElem_of_mem hq
  unfold Stair at hs
  rw [List.pairwise_iff_getElem] at hs
  by_cases e : j = i
  · subst e; exact Int.le_refl _
  · have := (hs j i hj h (by omega)).2
    omega
theorem last_dist {n : Int} {l : List S33} (hn : Net1 n l) {a b : Int} (ha : 0 ≤ a ∧ a < n) (hb : 0 ≤ b ∧ b < n) {L : List S35} (hL : FinP l a b L) {D : List Int} (hD : FromD n (pricedL 0 100 l) a D) : (L = [] ∧ rd D b = 99999) ∨ ∃ h : L.length - 1 < L.length, rd D b = L[L.length - 1].f1 := by
  have hsz := hL.size hn ha
  have hl : ∀ x ∈ l, 0 ≤ x.f3 ∧ x.f3 ≤ 99 := fun x hx => by
    obtain ⟨e1, e2, e3, e4, e5, e6, e7, e8, e9, e10, e11⟩ := hn.ends x hx
    exact ⟨e8, e9⟩
  by_cases hz : L = []
  · refine .inl ⟨hz, ?_⟩
    subst hz
    by_cases h : rd D b = 99999
    · exact h
    · obtain ⟨m, hw⟩ := hD.way b hb.1 hb.2 h
      obtain ⟨c, hc⟩ := toll_pays hl hw
      obtain ⟨p, hp, _⟩ := hL.low _ _ _ hc
      cases hp
  · have hlen : L.length - 1 < L.length := by
      have : L.length ≠ 0 := fun e => hz (List.eq_nil_of_length_eq_zero e)
      omega
    refine .inr ⟨hlen, ?_⟩
    have hm := List.getElem_mem hlen
    have h0 := hsz.2 _ hm
    have hlast := stair_last hL.stair (L.length - 1) hlen
    obtain ⟨m, hw⟩ := hL.real _ hm
    generalize L[L.length - 1] = p at h0 hw hlast ⊢
    have h1 := hD.low _ _ _ (pays_toll hl hw)
    have h2 : rd D b ≠ 99999 := by omega
    obtain ⟨m2, hw2⟩ := hD.way b hb.1 hb.2 h2
    obtain ⟨c, hc⟩ := toll_pays hl hw2
    obtain ⟨q, hq, a1, a2⟩ := hL.low _ _ _ hc
    have := hlast q hq rfl
    omega
theorem hundred_inR : inB 100 0 100 = true ∧ inB 0 0 100 = true := by rw [inB_iff, inB_iff]; omega
theorem priced_id {n : Int} {l : List S33} (hn : Net1 n l) : pricedL 100 0 l = l := by
  unfold pricedL
  refine (List.map_congr_left fun x hx => ?_).trans (List.map_id l)
  obtain ⟨e1, e2, e3, e4, e5, e6, e7, e8, e9, e10, e11⟩ := hn.ends x hx
  unfold pricedA
  rw [mix_cost ⟨e6, e7⟩]
  rfl
theorem roadsLaw {n : Int} {l : List S33} (hok : netOkB n l = true) {a b : Int} (ha : 0 ≤ a ∧ a < n) (hb : 0 ≤ b ∧ b < n) {c t : Int} (hct : (c = 100 ∧ t = 0) ∨ (c = 0 ∧ t = 100)) {L : List S35} (hL : FinP l a b L) {r : Int} (h0 : 0 ≤ r) (hr : BestS c t L L.length r) : Ev (fun k => laws_FnCostRoads.j0 k a b c t r false n l) true := by
  have hn := net1_of hok
  have hsz := hL.size hn ha
  have hc : inB c 0 100 = true := by rw [inB_iff]; omega
  have ht : inB t 0 100 = true := by rw [inB_iff]; omega
  have hn2 := priced_net1 hn (inB_iff.1 hc) (inB_iff.1 ht)
  obtain ⟨E, hE, hN2⟩ := nearAllI_ev (netOk_of hn2) ha
  have hEl := hE.len
  have d3 : b < (E.length : Int) := by omega
  refine ev_shift ?_
  simp only [laws_FnCostRoads.j0, Bool.false_eq_true, if_false]
  refine Ev.bind (costOf_ev hok hc ht) (Ev.bind (costNet_ev hok hc ht) (Ev.bind hN2 ?_))
  simp only [hb.1, d3, if_true]
  have hrng := hE.rng b hb.1 hb.2
  have hw : wrap64 (100 * rd E b) = 100 * rd E b := w_id (by omega) (by omega)
  rw [hw]
  have key : r = 100 * rd E b := by
    rcases hr with ⟨_, hr2⟩ | ⟨_, ⟨j, hj, hj2, hr3⟩, hm⟩
    · omega
    · rcases hct with ⟨rfl, rfl⟩ | ⟨rfl, rfl⟩
      · rw [priced_id hn] at hE
        rcases head_dist hn ha hb hL hE with ⟨h1, h2⟩ | ⟨p, q, h1, h2⟩
        · rw [h1] at hj2; exact absurd hj2 (Nat.not_lt_zero _)
        · have hs := hL.stair
          have hp0 : 0 < L.length := by rw [h1]; simp
          have e0 : L[0] = p := by simp [h1]
          have hm0 := hm 0 hp0 hp0
          unfold Stair at hs
          rw [List.pairwise_iff_getElem] at hs
          have hle : p.f0 ≤ L[j].f0 := by
            by_cases e : j = 0
            · subst e; rw [e0]; exact Int.le_refl _
            · have := (hs 0 j hp0 hj2 (by omega)).1
              rw [e0] at this
              omega
          rw [e0] at hm0
          unfold wP at hr3 hm0
          rw [Int.mul_zero] at hr3 hm0
          omega
      · rcases last_dist hn ha hb hL hE with ⟨h1, h2⟩ | ⟨h1, h2⟩
        · rw [h1] at hj2; exact absurd hj2 (Nat.not_lt_zero _)
        · have hm0 := hm (L.length - 1) h1 h1
          have hle := stair_last hL.stair (L.length - 1) h1 L[j] (List.getElem_mem hj2) rfl
          unfold wP at hr3 hm0
          rw [Int.mul_zero] at hr3 hm0
          omega
  rw [key]
  exact ev_now fun _ => by simp
theorem FnCostRoads : laws_FnCostRoads.Pure := by
  intro code _ _ hw
  refine Ev.rounds ?_
  unfold laws_FnCostRoads.f
  by_cases h0 : (code.length : Int) > 1048576
  · simp only [h0, if_true]; exact ev_now fun _ => rfl
  simp only [h0, if_false]
  obtain ⟨n, l, a, b, c, t, hd, hl, hc, ht⟩ := drawPairSum_ex code hw
  have hl2 : l.length ≤ 9223372036854775807 := by omega
  refine Ev.bind hd ?_
  cases h : (netOkB n l && (inB a 0 (wrap64 (n - 1)) && (inB b 0 (wrap64 (n - 1)) && (inB c 0 100 && inB t 0 100)))) with
  | false =>
    obtain ⟨v1, v2⟩ := pairSum_bad hl2 h
    refine Ev.bind v2 (Ev.bind v1 ?_)
    simp only [if_true, show ((-1 : Int) < 0) by omega]
    refine ev_shift ?_
    simp only [laws_FnCostRoads.j0, if_true]
    exact Ev.bind v1 (ev_now fun _ => by simp)
  | true =>
    simp only [Bool.and_eq_true] at h
    obtain ⟨hok, ha, hb, hci, hti⟩ := h
    have hn := net1_of hok
    obtain ⟨L, hL, hP, hS⟩ := pairSum_ok hok ha hb
    obtain ⟨r, hr, v1, v2⟩ := hS c t hci hti
    refine Ev.bind v2 (Ev.bind v1 ?_)
    simp only [if_true]
    have same : Ev (fun k => laws_FnCostRoads.j0 k a b c t r true n l) true := by
      refine ev_shift ?_
      simp only [laws_FnCostRoads.j0, if_true]
      exact Ev.bind v1 (ev_now fun _ => by simp)
    by_cases hneg : r < 0
    · simp only [hneg, if_true]; exact same
    · simp only [hneg, if_false]
      have w1 : wrap64 (c + t) = c + t := w_id (by omega) (by omega)
      rw [w1]
      by_cases hs : c + t = 100
      · simp only [hs, if_true]
        have hct : (c = 100 ∧ t = 0) ∨ (c = 0 ∧ t = 100) := by omega
        have hz : (wrap64 (c * t) != 0) = false := by
          rcases hct with ⟨rfl, rfl⟩ | ⟨rfl, rfl⟩
          · rw [Int.mul_zero, w_id (by omega) (by omega)]; rfl
          · rw [Int.zero_mul, w_id (by omega) (by omega)]; rfl
        rw [hz]
        exact roadsLaw hok (node_of hn ha) (node_of hn hb) hct hL (by omega) hr
      · simp only [hs, if_false]; exact same
end Go.Proofs.Ytddkaiegnohkcaa.Pure
