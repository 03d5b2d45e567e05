/- The pure statement of FnLiveTell: of every drawn net with news and one more the program tells the same as the reference: what is told is there, in the place of what had its number, and all else; told again nothing changes. No condition. -/
import Derived.Test.YtbcedkcjodokkaaFKinds
import Derived.Test.YtbcedkcjodokkaaFimplArc31
import Derived.Test.YtbcedkcjodokkaaFimplArc32
import Derived.Test.YtbcedkcjodokkaaFimplLiveOk
import Derived.Test.YtbcedkcjodokkaaFimplLiveTell
import Derived.Test.YtbcedkcjodokkaaFimplLivecopied
import Derived.Test.YtbcedkcjodokkaaFimplLivefind
import Derived.Test.YtbcedkcjodokkaaFimplNetOk
import Derived.Test.YtbcedkcjodokkaaFimplNews19
import Derived.Test.YtbcedkcjodokkaaFimplNews20
import Derived.Test.YtbcedkcjodokkaaFimplNews33
import Derived.Test.YtbcedkcjodokkaaFimplnewsOk
import Derived.Test.YtbcedkcjodokkaaFimplwithin
import Derived.Test.YtbcedkcjodokkaaFlawsFnLiveTell
import Derived.Test.YtbcedkcjodokkaaFlawswkLive
import Derived.Test.YtbcedkcjodokkaaFspecDrawLiveTell
import Derived.Test.YtbcedkcjodokkaaFspecLiveTell
import Derived.Test.YtbcedkcjodokkaaFspecl16Copy
import Derived.Test.YtbcedkcjodokkaaFspecl16Ok
import Derived.Test.YtbcedkcjodokkaaFspecl1Copy
import Derived.Test.YtbcedkcjodokkaaFspecl1In
import Derived.Test.YtbcedkcjodokkaaFspecl1Ok
import Derived.Test.YtbcedkcjodokkaaFspecl30Live
import Derived.Test.YtbcedkcjodokkaaFspecl30Net
import Derived.Test.YtbcedkcjodokkaaFspecl30News
import Derived.Test.YtbcedkcjodokkaaFspecl30Open
import Derived.Test.YtbcedkcjodokkaaFspecl30Rdone
import Derived.Test.YtbcedkcjodokkaaFspecl30Rdpick
import Derived.Test.YtbcedkcjodokkaaFtextcore
import Derived.Test.YtbcedkcjodokkaaFtextfind
import Derived.Test.YtbcedkcjodokkaaFwkNet
namespace Go.Proofs.Ytbcedkcjodokkaa.Pure
open Go.RowKit Go.Proofs.Ytbcedkcjodokkaa.F Go.Proofs.YtbcedkcjodokkaaW.PrintWords
set_option linter.unusedVariables false
set_option linter.unusedSimpArgs false
/-! ### rounds -/
theorem ev_shift {α : Type} {g : Nat → Option α} {r : α} (h : Ev (fun k => g (k + 1)) r) : Ev g r := by
  obtain ⟨K, h⟩ := h
  refine ⟨K + 1, fun k hk => ?_⟩
  obtain ⟨m, rfl⟩ : ∃ m, k = m + 1 := ⟨k - 1, by omega⟩
  exact h m (by omega)
theorem ev_ind {σ β : Type} (g : Nat → σ → Option β) (μ : σ → Nat) (Inv : σ → Prop) (r : σ → β)
    (h : ∀ s, Inv s → (∀ s', Inv s' → μ s' < μ s → Ev (fun k => g k s') (r s')) → Ev (fun k => g (k + 1) s) (r s)) : ∀ s, Inv s → Ev (fun k => g k s) (r s) := by
  have key : ∀ n s, μ s ≤ n → Inv s → Ev (fun k => g k s) (r s) := by
    intro n
    induction n with
    | zero => intro s hs hi; exact ev_shift (h s hi (fun s' _ hlt => absurd hlt (by omega)))
    | succ n ih => intro s hs hi; exact ev_shift (h s hi (fun s' hi' hlt => ih s' (by omega) hi'))
  exact fun s hi => key _ s (Nat.le_refl _) hi
theorem ev_now {α : Type} {g : Nat → Option α} {r : α} (h : ∀ k, g k = some r) : Ev g r := ⟨0, fun k _ => h k⟩
theorem ev_at {α : Type} {g : Nat → Option α} {r r' : α} (h : Ev g r) (e : r = r') : Ev g r' := e ▸ h
/-! ### numbers and lists -/
theorem wsucc {i n : Nat} (h : i < n) (hn : n ≤ 9223372036854775807) : wrap64 ((i : Int) + 1) = ((i + 1 : Nat) : Int) := by
  unfold wrap64; omega
theorem wpred {i : Nat} (h : 0 < i) (hi : i ≤ 9223372036854775807) : wrap64 ((i : Int) - 1) = ((i - 1 : Nat) : Int) := by
  unfold wrap64; omega
theorem w_id {n : Int} (h : -9223372036854775808 ≤ n) (h' : n ≤ 9223372036854775807) : wrap64 n = n := by unfold wrap64; omega
theorem rd_nat (l : List Int) (i : Nat) : rd l (i : Int) = l.getD i 0 := by simp [rd]
theorem rd_at (l : List Int) (i : Nat) (h : i < l.length) : rd l (i : Int) = l[i] := by simp [rd, h]
theorem arc_at (l : List S65) (i : Nat) (h : i < l.length) : rd_T65 l (i : Int) = l[i] := by simp [rd_T65, h]
theorem any_at {α : Type} (p : α → Bool) (l : List α) (i : Nat) (h : i < l.length) : (l.drop i).any p = (p l[i] || (l.drop (i + 1)).any p) := by
  rw [List.drop_eq_getElem_cons h, List.any_cons]
/-! ### is a net valid -/
theorem within_eq (a b c : Int) : impl_within.f a b c = some (inB a b c) := by
  unfold impl_within.f inB
  by_cases h : b ≤ a
  · rw [if_pos h]; simp [h]
  · rw [if_neg h]; simp [h]
theorem l1In_eq (a b c : Int) : spec_l1In.f a b c = some (inB a b c) := within_eq a b c
theorem arcBad_eq (n : Int) (x : S65) : arcBad n x = !(inB x.f0 0 (wrap64 (n - 1)) && (inB x.f1 0 (wrap64 (n - 1)) && (!(x.f0 == x.f1) && (inB x.f2 0 99 && (inB x.f3 0 99 && inB x.f4 0 9))))) := by
  unfold arcBad hasB
  cases h1 : inB x.f0 0 (wrap64 (n - 1)) <;> cases h2 : inB x.f1 0 (wrap64 (n - 1)) <;> simp [h1, h2, Bool.not_and]
theorem netOk_eq (n : Int) (l : List S65) : impl_NetOk.f n l = some (netOkB n l) := rfl
theorem l1Ok_loop (n : Int) (l : List S65) (hl : l.length ≤ 9223372036854775807) (i : Nat) (hi : i ≤ l.length) :
    Ev (fun k => spec_l1Ok.l0 k (i : Int) n l) (!((l.drop i).any (arcBad n)) && (inB n 1 8 && decide (l.length ≤ 16))) := by
  refine ev_ind (fun k (i : Nat) => spec_l1Ok.l0 k (i : Int) n l) (fun i => l.length - i) (fun i => i ≤ l.length) (fun i => !((l.drop i).any (arcBad n)) && (inB n 1 8 && decide (l.length ≤ 16))) ?_ i hi
  intro i hi ih
  by_cases h : i < l.length
  · have hlt : (i : Int) < (l.length : Int) := by omega
    have h0 : (0 : Int) ≤ (i : Int) := by omega
    simp only [spec_l1Ok.l0, hlt, h0, if_true, l1In_eq, Option.bind_some, arc_at l i h, wsucc h hl]
    rw [any_at _ _ _ h, arcBad_eq]
    have ih' := ih (i + 1) (by omega) (by omega)
    generalize (l.drop (i + 1)).any (arcBad n) = q at ih' ⊢
    generalize l[i] = x at ih' ⊢
    cases inB x.f0 0 (wrap64 (n - 1)) with
    | false => exact ev_now fun k => by simp
    | true =>
    cases inB x.f1 0 (wrap64 (n - 1)) with
    | false => exact ev_now fun k => by simp
    | true =>
    by_cases he : x.f0 = x.f1
    · exact ev_now fun k => by simp [he]
    · cases inB x.f2 0 99 with
      | false => exact ev_now fun k => by simp [he]
      | true =>
      cases inB x.f3 0 99 with
      | false => exact ev_now fun k => by simp [he]
      | true =>
      cases inB x.f4 0 9 with
      | false => exact ev_now fun k => by simp [he]
      | true =>
        have he' : (x.f0 == x.f1) = false := beq_eq_false_iff_ne.2 he
        simpa [he, he'] using ih'
  · have hlt : ¬ (i : Int) < (l.length : Int) := by omega
    have he : i = l.length := by omega
    simp only [spec_l1Ok.l0, hlt, if_false, l1In_eq, Option.bind_some]
    subst he
    refine ev_now fun k => ?_
    cases inB n 1 8 <;> simp
    omega
theorem l1Ok_ev (n : Int) (l : List S65) (hl : l.length ≤ 9223372036854775807) : Ev (fun k => spec_l1Ok.f k n l) (netOkB n l) := by
  refine ev_at (l1Ok_loop n l hl 0 (Nat.zero_le _)) ?_
  unfold netOkB
  rw [List.drop_zero]
  cases inB n 1 8 <;> cases decide (l.length ≤ 16) <;> cases l.any (arcBad n) <;> rfl
theorem netOk_len {n : Int} {l : List S65} (h : netOkB n l = true) : l.length ≤ 16 := by
  unfold netOkB at h
  simp only [Bool.and_eq_true, decide_eq_true_eq] at h
  exact h.2.1
theorem inB_iff {a b c : Int} : inB a b c = true ↔ b ≤ a ∧ a ≤ c := by unfold inB; rw [Bool.and_eq_true, decide_eq_true_eq, decide_eq_true_eq]
/-! ### draws: what they make is of some size, whatever it is -/
theorem xor_nn {x y : Int} (hx : 0 ≤ x) (hx2 : x < 1099511627776) (hy : 0 ≤ y) (hy2 : y < 1099511627776) : 0 ≤ Go.bits .xor .i64 x y := by
  obtain ⟨a, rfl⟩ := Int.eq_ofNat_of_zero_le hx
  obtain ⟨b, rfl⟩ := Int.eq_ofNat_of_zero_le hy
  have h1 : (BitVec.ofInt 64 (a : Int)).toNat = a := by
    rw [BitVec.toNat_ofInt]
    omega
  have h2 : (BitVec.ofInt 64 (b : Int)).toNat = b := by
    rw [BitVec.toNat_ofInt]
    omega
  have h3 : a ^^^ b < 2 ^ 40 := Nat.xor_lt_two_pow (by omega) (by omega)
  have h4 : Go.bits .xor .i64 (a : Int) (b : Int) = IntKind.i64.wrap ((a ^^^ b : Nat) : Int) := by
    unfold Go.bits
    show IntKind.i64.wrap ((BitVec.ofInt 64 (a : Int) ^^^ BitVec.ofInt 64 (b : Int)).toNat : Int) = _
    rw [BitVec.toNat_xor, h1, h2]
  rw [h4, IntKind.wrap_i64]
  omega
/-- The bytes of a reader. -/
def Bytes (b : List Int) : Prop := b.length ≤ 2000 ∧ ∀ x ∈ b, 0 ≤ x ∧ x ≤ 255
theorem Bytes.at {b : List Int} (hb : Bytes b) (i : Int) : 0 ≤ rd b i ∧ rd b i ≤ 255 := by
  unfold rd
  rw [List.getD_eq_getElem?_getD]
  cases h : b[i.toNat]? with
  | none => simp
  | some x => exact hb.2 x (List.mem_of_getElem? h)
theorem pick_ex {b : List Int} (hb : Bytes b) {p n : Int} (hp : 0 ≤ p) (hp2 : p ≤ 1000000) (hn : n ≤ 1000000) :
    ∃ v, Ev (fun k => spec_l30Rd_pick.f k b p n) (v, p + 1) ∧ 0 ≤ v ∧ (1 ≤ n → v < n) ∧ (n < 1 → v = 0) := by
  have hl := hb.1
  have w1 : wrap64 (p + 1) = p + 1 := w_id (by omega) (by omega)
  have w0 : wrap64 (p + 1 - 1) = p := by rw [w_id (by omega) (by omega)]; omega
  unfold spec_l30Rd_pick.f
  rw [w1]
  by_cases h1 : n < 1
  · refine ⟨0, ?_, Int.le_refl _, fun h => by omega, fun _ => rfl⟩
    simp only [h1, if_true]
    exact ev_shift (ev_now fun k => by simp only [spec_l30Rd_pick.j0, if_true])
  · simp only [h1, if_false]
    have hn0 : ¬ n = 0 := by omega
    by_cases h2 : b.length = 0
    · refine ⟨0, ?_, Int.le_refl _, fun h => by omega, fun h => by first | exact absurd h h1 | exact h.elim⟩
      have e : ((b.length : Int) == 0) = true := by rw [beq_iff_eq]; omega
      rw [e]
      exact ev_shift (ev_now fun k => by simp only [spec_l30Rd_pick.j0, if_true])
    · have e : ((b.length : Int) == 0) = false := by rw [beq_eq_false_iff_ne]; omega
      have hm0 : ¬ (b.length : Int) = 0 := by omega
      rw [e]
      by_cases h3 : p < (b.length : Int)
      · have hr := hb.at p
        have w2 : wrap64 (rd b p) = rd b p := w_id (by omega) (by omega)
        refine ⟨Int.tmod (rd b p) n, ?_, Int.tmod_nonneg _ hr.1, fun h => Int.tmod_lt_of_pos _ (by omega), fun h => by first | exact absurd h h1 | exact h.elim⟩
        exact ev_shift (ev_now fun k => by simp only [spec_l30Rd_pick.j0, Bool.false_eq_true, if_false, w0, h3, hp, hn0, if_true, w2])
      · have q1 := Int.tmod_nonneg (a := p) (b.length : Int) hp
        have q2 := Int.tmod_lt_of_pos p (show (0 : Int) < (b.length : Int) by omega)
        have w3 : wrap64 (wrap64 (p * 7) + 3) = p * 7 + 3 := by rw [w_id (n := p * 7) (by omega) (by omega), w_id (by omega) (by omega)]
        have q3 := Int.tmod_nonneg (a := p * 7 + 3) (b.length : Int) (by omega)
        have q4 := Int.tmod_lt_of_pos (p * 7 + 3) (show (0 : Int) < (b.length : Int) by omega)
        have q5 : 0 ≤ Int.tdiv p (b.length : Int) := Int.tdiv_nonneg hp (by omega)
        have q6 : Int.tdiv p (b.length : Int) ≤ p := Int.tdiv_le_self _ hp
        obtain ⟨d, hd⟩ : ∃ d, Int.tdiv p (b.length : Int) = d := ⟨_, rfl⟩
        rw [hd] at q5 q6
        have r1 := hb.at (Int.tmod p (b.length : Int))
        have r2 := hb.at (Int.tmod (p * 7 + 3) (b.length : Int))
        have wx : wrap64 (wrap64 (wrap64 (wrap64 (wrap64 (rd b (Int.tmod p (b.length : Int))) * 131) + wrap64 (wrap64 (rd b (Int.tmod (p * 7 + 3) (b.length : Int))) * 1117)) + wrap64 (p * 29)) + wrap64 (wrap64 d * 53)) = rd b (Int.tmod p (b.length : Int)) * 131 + rd b (Int.tmod (p * 7 + 3) (b.length : Int)) * 1117 + p * 29 + d * 53 := by
          generalize rd b (Int.tmod p (b.length : Int)) = x1 at r1 ⊢
          generalize rd b (Int.tmod (p * 7 + 3) (b.length : Int)) = x2 at r2 ⊢
          rw [w_id (n := x1) (by omega) (by omega), w_id (n := x2) (by omega) (by omega), w_id (n := x1 * 131) (by omega) (by omega), w_id (n := x2 * 1117) (by omega) (by omega), w_id (n := p * 29) (by omega) (by omega), w_id (n := d) (by omega) (by omega), w_id (n := d * 53) (by omega) (by omega), w_id (n := x1 * 131 + x2 * 1117) (by omega) (by omega), w_id (n := x1 * 131 + x2 * 1117 + p * 29) (by omega) (by omega), w_id (by omega) (by omega)]
        generalize hX : rd b (Int.tmod p (b.length : Int)) * 131 + rd b (Int.tmod (p * 7 + 3) (b.length : Int)) * 1117 + p * 29 + d * 53 = X at wx
        have x0 : 0 ≤ X := by omega
        have x1 : X < 1099511627776 := by omega
        have y0 : 0 ≤ Int.tdiv X 64 := Int.tdiv_nonneg x0 (by omega)
        have y1 : Int.tdiv X 64 ≤ X := Int.tdiv_le_self _ x0
        have wy : wrap64 (Int.tdiv X 64) = Int.tdiv X 64 := w_id (by omega) (by omega)
        refine ⟨Int.tmod (Go.bits .xor .i64 X (Int.tdiv X 64)) n, ?_, Int.tmod_nonneg _ (xor_nn x0 x1 y0 (by omega)), fun h => Int.tmod_lt_of_pos _ (by omega), fun h => by first | exact absurd h h1 | exact h.elim⟩
        exact ev_shift (ev_now fun k => by simp only [spec_l30Rd_pick.j0, Bool.false_eq_true, if_false, w0, h3, hm0, q1, q2, w3, q3, q4, hn0, if_true, hd, wx, wy])
theorem one_ex {b : List Int} (hb : Bytes b) {p : Int} (hp : 0 ≤ p) (hp2 : p ≤ 1000000) (l : List Int) (hl : 1 ≤ l.length) (hl2 : l.length ≤ 1000) :
    ∃ v, v ∈ l ∧ Ev (fun k => spec_l30Rd_one.f k b p l) (v, p + 1) := by
  obtain ⟨v, hv, h0, h1, _⟩ := pick_ex hb hp hp2 (n := (l.length : Int)) (by omega)
  have h1 := h1 (by omega)
  unfold spec_l30Rd_one.f
  obtain ⟨i, rfl⟩ := Int.eq_ofNat_of_zero_le h0
  have hi : i < l.length := by omega
  refine ⟨l[i], List.getElem_mem hi, Ev.bind hv ?_⟩
  simp only [h0, h1, if_true, rd_at l i hi]
  exact ev_now fun _ => rfl
theorem open_ex (l : List Int) (h : ∀ x ∈ l, (Lit.int .u8 x).wf = true) : ∃ b, Bytes b ∧ spec_l30Open.f l = some (b, 0) := by
  have hw : ∀ x ∈ l, 0 ≤ x ∧ x ≤ 255 := by
    intro x hx
    have := h x hx
    simp [Lit.wf, IntKind.min, IntKind.max, IntKind.signed, IntKind.bits] at this
    omega
  unfold spec_l30Open.f
  by_cases h1 : (l.length : Int) > 2000
  · have h2 : 2000 ≤ (l.length : Int) := by omega
    rw [if_pos h1, if_pos h2]
    exact ⟨_, ⟨by rw [List.length_take]; omega, fun x hx => hw x (List.mem_of_mem_take hx)⟩, rfl⟩
  · rw [if_neg h1]
    exact ⟨_, ⟨by omega, hw⟩, rfl⟩
/-! ### nets, nodes and walks that are drawn -/
theorem l30Net_loop {b : List Int} (hb : Bytes b) {n : Int} (hn : 2 ≤ n ∧ n ≤ 6) : ∀ (m : Nat) (l : List S65) (p : Int), l.length + m ≤ 13 → 0 ≤ p → p + 6 * m ≤ 100000 →
    ∃ l' q, Ev (fun k => spec_l30Net.l0 k (m : Int) b p n l) (n, l', q) ∧ l'.length ≤ 13 ∧ 0 ≤ q ∧ q ≤ p + 6 * m := by
  intro m
  induction m with
  | zero =>
    intro l p hl hp hq
    exact ⟨l, p, ev_shift (ev_now fun k => by simp [spec_l30Net.l0]), by omega, hp, by omega⟩
  | succ m ih =>
    intro l p hl hp hq
    obtain ⟨v1, e1, _⟩ := pick_ex hb hp (by omega) (n := n) (by omega)
    obtain ⟨v2, e2, _⟩ := pick_ex hb (p := p + 1) (by omega) (by omega) (n := n) (by omega)
    obtain ⟨v3, e3, _⟩ := pick_ex hb (p := p + 1 + 1) (by omega) (by omega) (n := 100) (by omega)
    obtain ⟨v4, _, e4⟩ := one_ex hb (p := p + 1 + 1 + 1) (by omega) (by omega) [0, 1, 2, 5, 9, v3] (by simp) (by simp)
    obtain ⟨v5, _, e5⟩ := one_ex hb (p := p + 1 + 1 + 1 + 1) (by omega) (by omega) [0, 0, 3, 8] (by simp) (by simp)
    obtain ⟨v6, e6, _⟩ := pick_ex hb (p := p + 1 + 1 + 1 + 1 + 1) (by omega) (by omega) (n := 10) (by omega)
    have hpos : ((m + 1 : Nat) : Int) > 0 := by omega
    have hw : wrap64 (((m + 1 : Nat) : Int) - 1) = (m : Int) := by rw [w_id (by omega) (by omega)]; omega
    have hlen : l.length < 3518437208883 := by omega
    have hn0 : ¬ n = 0 := by omega
    by_cases hv : v1 = v2
    · obtain ⟨l', q, he, h1, h2, h3⟩ := ih (l ++ [⟨v1, Int.tmod (wrap64 (v2 + 1)) n, v4, v5, v6⟩]) (p + 1 + 1 + 1 + 1 + 1 + 1) (by rw [List.length_append]; simp; omega) (by omega) (by omega)
      refine ⟨l', q, ev_shift ?_, h1, h2, by omega⟩
      simp only [spec_l30Net.l0, hpos, if_true]
      refine Ev.bind e1 (Ev.bind e2 (Ev.bind e3 (Ev.bind e4 (Ev.bind e5 (Ev.bind e6 ?_)))))
      simp only [hv, hn0, hlen, if_true, if_false, hw]
      rw [hv] at he
      exact he
    · obtain ⟨l', q, he, h1, h2, h3⟩ := ih (l ++ [⟨v1, v2, v4, v5, v6⟩]) (p + 1 + 1 + 1 + 1 + 1 + 1) (by rw [List.length_append]; simp; omega) (by omega) (by omega)
      refine ⟨l', q, ev_shift ?_, h1, h2, by omega⟩
      simp only [spec_l30Net.l0, hpos, if_true]
      refine Ev.bind e1 (Ev.bind e2 (Ev.bind e3 (Ev.bind e4 (Ev.bind e5 (Ev.bind e6 ?_)))))
      simp only [hv, hlen, if_true, if_false, hw]
      exact he
theorem l30Net_ex {b : List Int} (hb : Bytes b) {p : Int} (hp : 0 ≤ p) (hp2 : p ≤ 90000) :
    ∃ n l q, Ev (fun k => spec_l30Net.f k b p) (n, l, q) ∧ l.length ≤ 13 ∧ 0 ≤ q ∧ q ≤ p + 100 ∧ 2 ≤ n ∧ n ≤ 6 := by
  obtain ⟨v1, e1, h1, h1', _⟩ := pick_ex hb hp (by omega) (n := 5) (by omega)
  obtain ⟨v2, e2, h2, h2', _⟩ := pick_ex hb (p := p + 1) (by omega) (by omega) (n := 14) (by omega)
  have h1' := h1' (by omega)
  have h2' := h2' (by omega)
  obtain ⟨m, rfl⟩ := Int.eq_ofNat_of_zero_le h2
  have hw : wrap64 (2 + v1) = 2 + v1 := w_id (by omega) (by omega)
  obtain ⟨l, q, he, h3, h4, h5⟩ := l30Net_loop hb (n := 2 + v1) (by omega) m [] (p + 1 + 1) (by simp; omega) (by omega) (by omega)
  refine ⟨2 + v1, l, q, ?_, h3, h4, by omega, by omega, by omega⟩
  unfold spec_l30Net.f
  refine Ev.bind e1 (Ev.bind e2 ?_)
  rw [hw]
  exact he
/-! ### news in their places -/
theorem news_at (l : List S30) (i : Nat) (h : i < l.length) : rd_T30 l (i : Int) = l[i] := by simp [rd_T30, h]
/-! ### nets with news -/
def newsB (m : Int) (w : S30) : Bool := inB w.f0 1 999 && (inB w.f1 0 (wrap64 (m - 1)) && inB w.f2 (-1) 99)
def newsAt (m : Int) (w : List S30) (i : Nat) : Bool := newsB m (rd_T30 w (i : Int)) && (decide (i = 0) || decide ((rd_T30 w ((i - 1 : Nat) : Int)).f0 < (rd_T30 w (i : Int)).f0))
def liveB (n : Int) (l : List S65) (w : List S30) : Bool := (List.range' 0 w.length).all (newsAt l.length w) && (netOkB n l && decide (w.length ≤ 6))
theorem implNewsOk_eq (w : S30) (m : Int) : impl_newsOk.f w.f0 w.f1 w.f2 m = some (newsB m w) := by
  unfold impl_newsOk.f newsB
  simp only [within_eq, Option.bind_some]
  cases inB w.f0 1 999 <;> cases inB w.f1 0 (wrap64 (m - 1)) <;> simp
theorem range'_step (i n : Nat) (h : i < n) : List.range' i (n - i) = i :: List.range' (i + 1) (n - (i + 1)) := by
  rw [show n - i = (n - (i + 1)) + 1 by omega, List.range'_succ]
theorem implLiveOk_ev (n : Int) (l : List S65) (w : List S30) (hw : w.length ≤ 9223372036854775807) : Ev (fun k => impl_LiveOk.f k n l w) (liveB n l w) := by
  unfold impl_LiveOk.f
  refine ev_at (ev_ind (fun k (i : Nat) => impl_LiveOk.l0 k w (w.length : Int) (i : Int) n l w) (fun i => w.length - i) (fun i => i ≤ w.length) (fun i => (List.range' i (w.length - i)).all (newsAt l.length w) && (netOkB n l && decide (w.length ≤ 6))) ?_ 0 (Nat.zero_le _)) (by unfold liveB; rfl)
  intro i hi ih
  by_cases h : i < w.length
  · have hlt : (i : Int) < (w.length : Int) := by omega
    have h0 : (0 : Int) ≤ (i : Int) := by omega
    have ih' := ih (i + 1) (by omega) (by omega)
    simp only [impl_LiveOk.l0, hlt, h0, if_true, implNewsOk_eq, Option.bind_some, wsucc h hw]
    rw [range'_step i _ h, List.all_cons]
    generalize (List.range' (i + 1) (w.length - (i + 1))).all (newsAt l.length w) = q at ih' ⊢
    unfold newsAt
    cases newsB l.length (rd_T30 w (i : Int)) with
    | false => exact ev_now fun k => by simp
    | true =>
      by_cases hz : i = 0
      · have : ¬ (i : Int) > 0 := by omega
        simp only [this, if_false, if_true, hz, decide_true, Bool.true_or, Bool.true_and]
        subst hz
        simpa using ih'
      · have hp : (i : Int) > 0 := by omega
        have hw1 := wpred (show 0 < i by omega) (show i ≤ 9223372036854775807 by omega)
        have hp0 : (0 : Int) ≤ ((i - 1 : Nat) : Int) := by omega
        have hp1 : ((i - 1 : Nat) : Int) < (w.length : Int) := by omega
        simp only [hp, hw1, hp0, hp1, if_true, hz, decide_false, Bool.false_or, Bool.true_and]
        by_cases hc : (rd_T30 w ((i - 1 : Nat) : Int)).f0 < (rd_T30 w (i : Int)).f0
        · have hc' : ¬ (rd_T30 w ((i - 1 : Nat) : Int)).f0 ≥ (rd_T30 w (i : Int)).f0 := by omega
          simp only [hc, hc', if_false, decide_true, Bool.true_and]
          exact ih'
        · have hc' : (rd_T30 w ((i - 1 : Nat) : Int)).f0 ≥ (rd_T30 w (i : Int)).f0 := by omega
          simp only [hc, hc', if_true, decide_false, Bool.false_and]
          exact ev_now fun _ => rfl
  · have hlt : ¬ (i : Int) < (w.length : Int) := by omega
    have he : w.length - i = 0 := by omega
    simp only [impl_LiveOk.l0, hlt, if_false, netOk_eq, Option.bind_some, he, List.range'_zero, List.all_nil, Bool.true_and]
    refine ev_now fun k => ?_
    cases netOkB n l <;> simp
    omega
theorem l16Ok_ev (n : Int) (l : List S65) (w : List S30) (hl : l.length ≤ 9223372036854775807) (hw : w.length ≤ 9223372036854775807) : Ev (fun k => spec_l16Ok.f k n l w) (liveB n l w) := by
  unfold spec_l16Ok.f
  refine ev_at (ev_ind (fun k (i : Nat) => spec_l16Ok.l0 k (i : Int) n l w) (fun i => w.length - i) (fun i => i ≤ w.length) (fun i => (List.range' i (w.length - i)).all (newsAt l.length w) && (netOkB n l && decide (w.length ≤ 6))) ?_ 0 (Nat.zero_le _)) (by unfold liveB; rfl)
  intro i hi ih
  by_cases h : i < w.length
  · have hlt : (i : Int) < (w.length : Int) := by omega
    have h0 : (0 : Int) ≤ (i : Int) := by omega
    have ih' := ih (i + 1) (by omega) (by omega)
    simp only [spec_l16Ok.l0, hlt, h0, if_true, l1In_eq, Option.bind_some, wsucc h hw]
    rw [range'_step i _ h, List.all_cons]
    generalize (List.range' (i + 1) (w.length - (i + 1))).all (newsAt l.length w) = q at ih' ⊢
    unfold newsAt newsB
    cases inB (rd_T30 w (i : Int)).f0 1 999 with
    | false => exact ev_now fun k => by simp
    | true =>
    cases inB (rd_T30 w (i : Int)).f1 0 (wrap64 ((l.length : Int) - 1)) with
    | false => exact ev_now fun k => by simp
    | true =>
    cases inB (rd_T30 w (i : Int)).f2 (-1) 99 with
    | false => exact ev_now fun k => by simp
    | true =>
      by_cases hz : i = 0
      · have : ¬ (i : Int) > 0 := by omega
        simp only [this, if_false, if_true, hz, decide_true, Bool.true_or, Bool.true_and]
        subst hz
        simpa using ih'
      · have hp : (i : Int) > 0 := by omega
        have hw1 := wpred (show 0 < i by omega) (show i ≤ 9223372036854775807 by omega)
        have hp0 : (0 : Int) ≤ ((i - 1 : Nat) : Int) := by omega
        have hp1 : ((i - 1 : Nat) : Int) < (w.length : Int) := by omega
        simp only [hp, hw1, hp0, hp1, if_true, hz, decide_false, Bool.false_or, Bool.true_and]
        by_cases hc : (rd_T30 w ((i - 1 : Nat) : Int)).f0 < (rd_T30 w (i : Int)).f0
        · have hc' : ¬ (rd_T30 w (i : Int)).f0 ≤ (rd_T30 w ((i - 1 : Nat) : Int)).f0 := by omega
          simp only [hc, hc', if_false, decide_true, Bool.true_and]
          exact ih'
        · have hc' : (rd_T30 w (i : Int)).f0 ≤ (rd_T30 w ((i - 1 : Nat) : Int)).f0 := by omega
          simp only [hc, hc', if_true, decide_false, Bool.false_and]
          exact ev_now fun _ => rfl
  · have hlt : ¬ (i : Int) < (w.length : Int) := by omega
    have he : w.length - i = 0 := by omega
    simp only [spec_l16Ok.l0, hlt, if_false, he, List.range'_zero, List.all_nil, Bool.true_and]
    refine Ev.bind (l1Ok_ev n l hl) (ev_now fun k => ?_)
    cases netOkB n l <;> simp
    omega
/-- What liveB says. -/
theorem liveB_len {n : Int} {l : List S65} {w : List S30} (h : liveB n l w = true) : netOkB n l = true ∧ w.length ≤ 6 := by
  unfold liveB at h
  simp only [Bool.and_eq_true, decide_eq_true_eq] at h
  exact h.2
theorem liveB_at {n : Int} {l : List S65} {w : List S30} (h : liveB n l w = true) (i : Nat) (hi : i < w.length) : newsAt l.length w i = true := by
  unfold liveB at h
  simp only [Bool.and_eq_true, List.all_eq_true] at h
  exact h.1 i (by simp [List.mem_range']; omega)
theorem liveB_more {n : Int} {l : List S65} {w : List S30} (h : liveB n l w = true) : ∀ x ∈ w, newsB l.length x = true := by
  intro x hx
  obtain ⟨i, hi, rfl⟩ := List.getElem_of_mem hx
  have := liveB_at h i hi
  unfold newsAt at this
  rw [Bool.and_eq_true, news_at w i hi] at this
  exact this.1
/-! ### news that are told -/
/-- News in their places, one more told: what has its number goes. -/
def tellS (x : S30) : List S30 → Bool → List S30
  | [], put => if put = true then [] else [x]
  | y :: ys, put => (if (!put && decide (y.f0 ≥ x.f0)) = true then [x] else []) ++ ((if y.f0 = x.f0 then [] else [y]) ++ tellS x ys (put || decide (y.f0 ≥ x.f0)))
theorem tellS_length (x : S30) : ∀ (w : List S30) (put : Bool), (tellS x w put).length ≤ w.length + (if put = true then 0 else 1) := by
  intro w
  induction w with
  | nil => intro put; cases put <;> simp [tellS]
  | cons y ys ih =>
    intro put
    have h := ih (put || decide (y.f0 ≥ x.f0))
    unfold tellS
    by_cases c : y.f0 ≥ x.f0
    · by_cases e : y.f0 = x.f0
      · cases put <;> simp [c, e] at h ⊢ <;> omega
      · cases put <;> simp [c, e] at h ⊢ <;> omega
    · have e : ¬ y.f0 = x.f0 := by omega
      cases put <;> simp [c, e] at h ⊢ <;> omega
theorem l16Copy_eq (n : Int) (l : List S65) (w : List S30) (hl : l.length ≤ 1000) (hw : w.length ≤ 1000) : spec_l16Copy.f n l w = some (n, l, w) := by
  have h1 : l.length < 3518437208883 := by omega
  have h2 : w.length < 5864062014805 := by omega
  unfold spec_l16Copy.f spec_l1Copy.f
  simp [h1, h2]
def tellV (n : Int) (l : List S65) (w W : List S30) : Int × List S65 × List S30 × Bool := if liveB n l W = true then (n, l, W, true) else (n, l, w, false)
theorem newsT_eta (x : S30) : (⟨x.f0, x.f1, x.f2⟩ : S30) = x := rfl
theorem specTell_loop (n : Int) (l : List S65) (w : List S30) (hl : l.length ≤ 1000) (hw : w.length ≤ 1000) (x : S30) :
    Ev (fun k => spec_LiveTell.l0 k false (0 : Nat) n l w x.f0 x.f1 x.f2 n l []) (tellV n l w (tellS x w false)) := by
  refine ev_at (ev_ind (fun k (s : Bool × Nat × List S30) => spec_LiveTell.l0 k s.1 (s.2.1 : Int) n l w x.f0 x.f1 x.f2 n l s.2.2) (fun s => w.length - s.2.1) (fun s => s.2.1 ≤ w.length ∧ s.2.2.length ≤ 2 * s.2.1) (fun s => tellV n l w (s.2.2 ++ tellS x (w.drop s.2.1) s.1)) ?_ (false, 0, []) ⟨Nat.zero_le _, by simp⟩) (by simp)
  rintro ⟨put, i, acc⟩ ⟨hi, ha⟩ ih
  simp only at hi ha ih ⊢
  by_cases h : i < w.length
  · have hlt : (i : Int) < (w.length : Int) := by omega
    have h0 : (0 : Int) ≤ (i : Int) := by omega
    have b1 : acc.length < 5864062014805 := by omega
    have b2 : (acc ++ [x]).length < 5864062014805 := by rw [List.length_append]; simp; omega
    have e1 := ih (true, i + 1, acc ++ [x]) ⟨by simp; omega, by simp; omega⟩ (by simp; omega)
    have e2 := ih (true, i + 1, acc ++ [x] ++ [w[i]]) ⟨by simp; omega, by simp; omega⟩ (by simp; omega)
    have e3 := ih (put, i + 1, acc) ⟨by simp; omega, by simp; omega⟩ (by simp; omega)
    have e4 := ih (put, i + 1, acc ++ [w[i]]) ⟨by simp; omega, by simp; omega⟩ (by simp; omega)
    simp only at e1 e2 e3 e4
    have hd : w.drop i = w[i] :: w.drop (i + 1) := List.drop_eq_getElem_cons h
    simp only [spec_LiveTell.l0, hlt, h0, if_true, news_at w i h]
    cases put with
    | true =>
      simp only [if_true]
      refine ev_shift ?_
      simp only [spec_LiveTell.j1, Bool.false_eq_true, if_false, h0, hlt, if_true, news_at w i h, b1, newsT_eta, wsucc h (show w.length ≤ 9223372036854775807 by omega)]
      rw [hd]
      by_cases e : w[i].f0 = x.f0
      · simp only [e, if_true]
        refine ev_at e3 ?_
        simp [tellS, e]
      · simp only [e, if_false]
        refine ev_at e4 ?_
        simp [tellS, e]
    | false =>
      simp only [Bool.false_eq_true, if_false]
      refine ev_shift ?_
      rw [hd]
      by_cases c : w[i].f0 ≥ x.f0
      · simp only [spec_LiveTell.j1, c, decide_true, if_true, h0, hlt, news_at w i h, b1, b2, newsT_eta, Option.bind_some, wsucc h (show w.length ≤ 9223372036854775807 by omega)]
        by_cases e : w[i].f0 = x.f0
        · simp only [e, if_true]
          refine ev_at e1 ?_
          simp [tellS, e]
        · simp only [e, if_false]
          refine ev_at e2 ?_
          simp [tellS, e, c]
      · have e : ¬ w[i].f0 = x.f0 := by omega
        simp only [spec_LiveTell.j1, c, decide_false, Bool.false_eq_true, if_false, h0, hlt, if_true, news_at w i h, b1, newsT_eta, e, wsucc h (show w.length ≤ 9223372036854775807 by omega)]
        refine ev_at e4 ?_
        simp [tellS, e, c]
  · have hlt : ¬ (i : Int) < (w.length : Int) := by omega
    have hd : w.drop i = [] := List.drop_of_length_le (by omega)
    have b1 : acc.length < 5864062014805 := by omega
    simp only [spec_LiveTell.l0, hlt, if_false]
    have key : ∀ W : List S30, W.length ≤ 9223372036854775807 → Ev (fun k => spec_LiveTell.j2 k n l w n l W) (tellV n l w W) := by
      intro W hW
      refine ev_shift ?_
      simp only [spec_LiveTell.j2]
      refine Ev.bind (l16Ok_ev n l W (by omega) hW) ?_
      unfold tellV
      cases liveB n l W with
      | true => simp only [if_true]; exact ev_now fun _ => rfl
      | false =>
        simp only [Bool.false_eq_true, if_false, l16Copy_eq n l w hl hw, Option.bind_some]
        exact ev_now fun _ => rfl
    rw [hd]
    cases put with
    | true =>
      simp only [if_true]
      refine ev_at (key acc (by omega)) ?_
      simp [tellS]
    | false =>
      simp only [Bool.false_eq_true, if_false, b1, if_true, newsT_eta]
      refine ev_at (key (acc ++ [x]) (by simp; omega)) ?_
      simp [tellS]
theorem specTell_ev (n : Int) (l : List S65) (w : List S30) (hl : l.length ≤ 9223372036854775807) (hw : w.length ≤ 9223372036854775807) (a b c : Int) :
    Ev (fun k => spec_LiveTell.f k n l w a b c) (if liveB n l w = true then tellV n l w (tellS ⟨a, b, c⟩ w false) else (0, [], [], false)) := by
  unfold spec_LiveTell.f
  refine Ev.bind (l16Ok_ev n l w hl hw) ?_
  cases hok : liveB n l w with
  | false => simp only [Bool.false_eq_true, if_false]; exact ev_now fun _ => rfl
  | true =>
    have h1 := liveB_len hok
    have h2 := netOk_len h1.1
    have h3 : l.length < 3518437208883 := by omega
    unfold spec_l1Copy.f
    simp only [if_true, Option.bind_some, List.length_nil, Nat.zero_add, h3, List.nil_append]
    exact specTell_loop n l w (by omega) (by omega) ⟨a, b, c⟩
/-! ### nets with news that are drawn -/
theorem l30News_ex {b : List Int} (hb : Bytes b) (n : Int) {l : List S65} (hl : l.length ≤ 1000) {p : Int} (hp : 0 ≤ p) (hp2 : p ≤ 90000) :
    ∃ a c d q, Ev (fun k => spec_l30News.f k b p n l) (a, c, d, q) ∧ 0 ≤ q ∧ q ≤ p + 10 := by
  have hw : wrap64 ((l.length : Int) + 1) = (l.length : Int) + 1 := w_id (by omega) (by omega)
  obtain ⟨v1, e1, _⟩ := pick_ex hb hp (by omega) (n := 6) (by omega)
  obtain ⟨v2, e2, _⟩ := pick_ex hb (p := p + 1) (by omega) (by omega) (n := (l.length : Int) + 1) (by omega)
  obtain ⟨v3, _, e3⟩ := one_ex hb (p := p + 1 + 1) (by omega) (by omega) [(-1), 0, 3, 9, 99] (by simp) (by simp)
  obtain ⟨v4, e4, _⟩ := pick_ex hb (p := p + 1 + 1 + 1) (by omega) (by omega) (n := 14) (by omega)
  unfold spec_l30News.f
  rw [hw]
  by_cases c : v4 = 0
  · obtain ⟨v5, _, e5⟩ := one_ex hb (p := p + 1 + 1 + 1 + 1) (by omega) (by omega) [0, 1000] (by simp) (by simp)
    refine ⟨v5, v2, v3, p + 1 + 1 + 1 + 1 + 1, Ev.bind e1 (Ev.bind e2 (Ev.bind e3 (Ev.bind e4 ?_))), by omega, by omega⟩
    simp only [c, if_true]
    exact Ev.bind e5 (ev_now fun _ => rfl)
  · refine ⟨wrap64 (1 + v1), v2, v3, p + 1 + 1 + 1 + 1, Ev.bind e1 (Ev.bind e2 (Ev.bind e3 (Ev.bind e4 ?_))), by omega, by omega⟩
    simp only [c, if_false]
    exact ev_now fun _ => rfl
theorem l30Live_end {b : List Int} (hb : Bytes b) (n : Int) {l : List S65} (hl : l.length ≤ 13) (w : List S30) (hw : w.length ≤ 20) {p : Int} (hp : 0 ≤ p) (hp2 : p ≤ 95000) :
    ∃ n' l' w' q, Ev (fun k => spec_l30Live.l0 k 0 b p n l w) (n', l', w', q) ∧ l'.length ≤ 13 ∧ w'.length ≤ 21 ∧ 0 ≤ q ∧ q ≤ p + 10 ∧ n' = n := by
  have z : ¬ (0 : Int) > 0 := by omega
  by_cases hz : (w.length : Int) > 0
  · obtain ⟨v1, e1, g0, g1, _⟩ := pick_ex hb hp (by omega) (n := (w.length : Int)) (by omega)
    have g1 := g1 (by omega)
    obtain ⟨v2, e2, _⟩ := pick_ex hb (p := p + 1) (by omega) (by omega) (n := 14) (by omega)
    by_cases c0 : v2 = 0
    · obtain ⟨v3, _, e3⟩ := one_ex hb (p := p + 1 + 1) (by omega) (by omega) [(-2), 100] (by simp) (by simp)
      refine ⟨n, l, w.set v1.toNat (⟨(rd_T30 w v1).f0, (rd_T30 w v1).f1, v3⟩ : S30), p + 1 + 1 + 1, ev_shift ?_, hl, by rw [List.length_set]; omega, by omega, by omega, rfl⟩
      simp only [spec_l30Live.l0, z, hz, if_true, if_false]
      refine Ev.bind e1 (Ev.bind e2 ?_)
      simp only [c0, if_true]
      refine Ev.bind e3 ?_
      simp only [g0, g1, if_true]
      rw [l16Copy_eq n l _ (by omega) (by rw [List.length_set]; omega)]
      exact ev_now fun _ => rfl
    · by_cases c1 : v2 = 1
      · refine ⟨n, l, w ++ [(⟨(rd_T30 w v1).f0, (rd_T30 w v1).f1, (rd_T30 w v1).f2⟩ : S30)], p + 1 + 1, ev_shift ?_, hl, by simp; omega, by omega, by omega, rfl⟩
        simp only [spec_l30Live.l0, z, hz, if_true, if_false]
        refine Ev.bind e1 (Ev.bind e2 ?_)
        have b1 : w.length < 5864062014805 := by omega
        simp only [c1, show ¬ (1 : Int) = 0 by omega, if_true, if_false, g0, g1, b1]
        rw [l16Copy_eq n l _ (by omega) (by simp; omega)]
        exact ev_now fun _ => rfl
      · refine ⟨n, l, w, p + 1 + 1, ev_shift ?_, hl, by omega, by omega, by omega, rfl⟩
        simp only [spec_l30Live.l0, z, hz, if_true, if_false]
        refine Ev.bind e1 (Ev.bind e2 ?_)
        simp only [c0, c1, if_false]
        rw [l16Copy_eq n l _ (by omega) (by omega)]
        exact ev_now fun _ => rfl
  · refine ⟨n, l, w, p, ev_shift ?_, hl, by omega, hp, by omega, rfl⟩
    simp only [spec_l30Live.l0, z, hz, if_false]
    rw [l16Copy_eq n l _ (by omega) (by omega)]
    exact ev_now fun _ => rfl
theorem l30Live_loop {b : List Int} (hb : Bytes b) : ∀ (m : Nat) (n : Int) (l : List S65) (w : List S30) (p : Int), l.length ≤ 13 → w.length + m ≤ 20 → 0 ≤ p → p + 10 * m ≤ 90000 → n ≤ 6 →
    ∃ n' l' w' q, Ev (fun k => spec_l30Live.l0 k (m : Int) b p n l w) (n', l', w', q) ∧ l'.length ≤ 13 ∧ w'.length ≤ 21 ∧ 0 ≤ q ∧ q ≤ p + 10 * m + 10 ∧ n' ≤ 6 := by
  intro m
  induction m with
  | zero =>
    intro n l w p h1 h2 h3 h4 h5
    obtain ⟨n', l', w', q, he, r1, r2, r3, r4, r5⟩ := l30Live_end hb n h1 w (by omega) h3 (by omega)
    exact ⟨n', l', w', q, he, r1, r2, r3, by omega, by omega⟩
  | succ m ih =>
    intro n l w p h1 h2 h3 h4 h5
    have hpos : ((m + 1 : Nat) : Int) > 0 := by omega
    have hw : wrap64 (((m + 1 : Nat) : Int) - 1) = (m : Int) := by rw [w_id (by omega) (by omega)]; omega
    obtain ⟨x, y, z, q1, e1, g0, g1⟩ := l30News_ex hb n (l := l) (by omega) h3 (by omega)
    have e2 := specTell_ev n l w (by omega) (by omega) x y z
    obtain ⟨R, hR, hlen⟩ : ∃ R, (if liveB n l w = true then tellV n l w (tellS ⟨x, y, z⟩ w false) else (0, [], [], false)) = R ∧ R.2.1.length ≤ 13 ∧ R.2.2.1.length ≤ w.length + 1 ∧ R.1 ≤ 6 := by
      refine ⟨_, rfl, ?_⟩
      have ht := tellS_length (⟨x, y, z⟩ : S30) w false
      simp only [Bool.false_eq_true, if_false] at ht
      unfold tellV
      split
      · split
        · exact ⟨h1, ht, h5⟩
        · exact ⟨h1, by simp, h5⟩
      · exact ⟨by simp, by simp, by simp⟩
    rw [hR] at e2
    obtain ⟨n', l', w', q, he, r1, r2, r3, r4, r5⟩ := ih R.1 R.2.1 R.2.2.1 q1 hlen.1 (by omega) g0 (by omega) hlen.2.2
    refine ⟨n', l', w', q, ev_shift ?_, r1, r2, r3, by omega, r5⟩
    simp only [spec_l30Live.l0, hpos, if_true, hw]
    exact Ev.bind e1 (Ev.bind e2 he)
theorem l30Live_ex {b : List Int} (hb : Bytes b) {p : Int} (hp : 0 ≤ p) (hp2 : p ≤ 80000) :
    ∃ n l w q, Ev (fun k => spec_l30Live.f k b p) (n, l, w, q) ∧ l.length ≤ 13 ∧ w.length ≤ 21 ∧ 0 ≤ q ∧ q ≤ p + 300 ∧ n ≤ 6 := by
  obtain ⟨n, l, q, he, h1, h2, h3, _, h6⟩ := l30Net_ex hb hp (by omega)
  obtain ⟨v, e1, g0, g1, _⟩ := pick_ex hb h2 (by omega) (n := 7) (by omega)
  have g1 := g1 (by omega)
  obtain ⟨m, rfl⟩ := Int.eq_ofNat_of_zero_le g0
  obtain ⟨n', l', w', q', he', r1, r2, r3, r4, r5⟩ := l30Live_loop hb m n l [] (q + 1) h1 (by simp; omega) (by omega) (by omega) h6
  refine ⟨n', l', w', q', ?_, r1, r2, r3, by omega, r5⟩
  unfold spec_l30Live.f
  exact Ev.bind he (Ev.bind e1 he')
/-! ### news in order, and their places -/
theorem upB_cons {x : S30} {xs : List S30} : upB (x :: xs) = true ↔ (∀ y ∈ xs, x.f0 < y.f0) ∧ upB xs = true := by
  show ((xs.all fun y => decide (x.f0 < y.f0)) && upB xs) = true ↔ _
  rw [Bool.and_eq_true, List.all_eq_true]
  simp only [decide_eq_true_eq]
theorem upB_next : ∀ (w : List S30), (∀ i (h : i + 1 < w.length), (w[i]'(by omega)).f0 < w[i + 1].f0) → upB w = true
  | [], _ => rfl
  | [x], _ => rfl
  | x :: y :: ys, h => by
    have ih := upB_next (y :: ys) (fun i hi => h (i + 1) (by simpa using hi))
    have h0 : x.f0 < y.f0 := by simpa using h 0 (by simp)
    rw [upB_cons]
    refine ⟨fun z hz => ?_, ih⟩
    rw [List.mem_cons] at hz
    rcases hz with rfl | hz
    · exact h0
    · exact Int.lt_trans h0 ((upB_cons.1 ih).1 z hz)
theorem live_up {n : Int} {l : List S65} {w : List S30} (h : liveB n l w = true) : upB w = true := by
  refine upB_next w fun i hi => ?_
  have h1 := liveB_at h (i + 1) hi
  unfold newsAt at h1
  rw [Bool.and_eq_true, Bool.or_eq_true, decide_eq_true_eq, decide_eq_true_eq, Nat.add_sub_cancel] at h1
  rcases h1.2 with h2 | h2
  · omega
  · rwa [news_at w (i + 1) hi, news_at w i (by omega)] at h2
theorem find_eq {n : Int} {l : List S65} {w : List S30} (h : liveB n l w = true) (id : Int) : impl_Live_find.f n l w id = some (((findP id w : Nat) : Int), thereB id w) := by
  unfold impl_Live_find.f
  rw [if_pos ⟨live_up h, by have := (liveB_len h).2; omega⟩]
theorem findP_cons (id : Int) (x : S30) (xs : List S30) : findP id (x :: xs) = if x.f0 < id then findP id xs + 1 else 0 := rfl
theorem there_cons (id : Int) (x : S30) (xs : List S30) : thereB id (x :: xs) = if x.f0 < id then thereB id xs else decide (x.f0 = id) := by
  unfold thereB
  rw [findP_cons]
  by_cases c : x.f0 < id
  · rw [if_pos c, if_pos c]
    have e : decide (findP id xs + 1 < (x :: xs).length) = decide (findP id xs < xs.length) := by simp
    rw [e]
    rfl
  · rw [if_neg c, if_neg c]
    have e : decide (0 < (x :: xs).length) = true := by simp
    rw [e, Bool.true_and]
    rfl
theorem there_over (id : Int) : ∀ (w : List S30), upB w = true → (thereB id w = true → findP id w < w.length ∧ (w.filter fun y => decide (¬ y.f0 = id)) = w.take (findP id w) ++ w.drop (findP id w + 1)) ∧ (thereB id w = false → (w.filter fun y => decide (¬ y.f0 = id)) = w)
  | [], _ => ⟨fun h => absurd h (by simp [thereB]), fun _ => rfl⟩
  | x :: xs, hu => by
    obtain ⟨h1, h2⟩ := upB_cons.1 hu
    obtain ⟨i1, i2⟩ := there_over id xs h2
    rw [there_cons, findP_cons]
    by_cases c : x.f0 < id
    · have hne : ¬ x.f0 = id := by omega
      rw [if_pos c, if_pos c, List.filter_cons, if_pos (by simpa using hne)]
      refine ⟨fun h => ?_, fun h => by rw [i2 h]⟩
      obtain ⟨j1, j2⟩ := i1 h
      refine ⟨by simp; omega, ?_⟩
      rw [j2]
      rfl
    · have hk : ¬ x.f0 < id → (xs.filter fun y => decide (¬ y.f0 = id)) = xs := fun _ => List.filter_eq_self.2 fun y hy => by
        have := h1 y hy
        simp only [decide_eq_true_eq]
        omega
      rw [if_neg c, if_neg c, List.filter_cons, hk c]
      by_cases e : x.f0 = id
      · refine ⟨fun _ => ⟨by simp, ?_⟩, fun h => absurd h (by simp [e])⟩
        rw [if_neg (by simp [e])]
        rfl
      · refine ⟨fun h => absurd h (by simp [e]), fun _ => ?_⟩
        rw [if_pos (by simpa using e)]
theorem findP_le' (id : Int) : ∀ w, findP id w ≤ w.length
  | [] => Nat.le_refl _
  | x :: xs => by
    rw [findP_cons]
    have := findP_le' id xs
    split <;> simp <;> omega
/-! ### a valid net -/
/-- What a valid net is. -/
structure Net1 (n : Int) (l : List S65) : Prop where
  lo : 1 ≤ n
  hi : n ≤ 8
  len : l.length ≤ 16
  ends : ∀ x ∈ l, 0 ≤ x.f0 ∧ x.f0 < n ∧ 0 ≤ x.f1 ∧ x.f1 < n ∧ x.f0 ≠ x.f1 ∧ 0 ≤ x.f2 ∧ x.f2 ≤ 99 ∧ 0 ≤ x.f3 ∧ x.f3 ≤ 99 ∧ 0 ≤ x.f4 ∧ x.f4 ≤ 9
theorem net1_of {n : Int} {l : List S65} (h : netOkB n l = true) : Net1 n l := by
  unfold netOkB at h
  simp only [Bool.and_eq_true, decide_eq_true_eq, inB_iff, Bool.not_eq_true'] at h
  obtain ⟨⟨h1, h2⟩, h3, h4⟩ := h
  refine ⟨h1, h2, h3, fun x hx => ?_⟩
  have h5 : arcBad n x = false := by
    cases h6 : arcBad n x with
    | false => rfl
    | true => rw [List.any_eq_true.2 ⟨x, hx, h6⟩] at h4; cases h4
  rw [arcBad_eq] at h5
  simp only [Bool.not_eq_false', Bool.and_eq_true, inB_iff, Bool.not_eq_true', beq_eq_false_iff_ne] at h5
  rw [w_id (n := n - 1) (by omega) (by omega)] at h5
  obtain ⟨a, b, c, d, e, f⟩ := h5
  exact ⟨a.1, by omega, b.1, by omega, c, d.1, d.2, e.1, e.2, f.1, f.2⟩
theorem netOk_of {n : Int} {l : List S65} (hn : Net1 n l) : netOkB n l = true := by
  unfold netOkB
  have hlo := hn.lo
  have hhi := hn.hi
  have hl := hn.len
  simp only [Bool.and_eq_true, decide_eq_true_eq, inB_iff, Bool.not_eq_true']
  refine ⟨⟨hlo, hhi⟩, hl, ?_⟩
  rw [List.any_eq_false]
  intro x hx
  obtain ⟨h1, h2, h3, h4, h5, h6, h7, h8, h9, h10, h11⟩ := hn.ends x hx
  have : arcBad n x = false := by
    rw [arcBad_eq]
    simp only [Bool.not_eq_false', Bool.and_eq_true, inB_iff, Bool.not_eq_true', beq_eq_false_iff_ne]
    rw [w_id (n := n - 1) (by omega) (by omega)]
    exact ⟨⟨h1, by omega⟩, ⟨h3, by omega⟩, h5, ⟨h6, h7⟩, ⟨h8, h9⟩, h10, h11⟩
  rw [this]; exact Bool.false_ne_true
/-! ### a net with news, copied -/
theorem copied_eq {n : Int} {l : List S65} {w : List S30} (h : liveB n l w = true) : impl_Live_copied.f n l w = some (n, l, w) := by
  have h1 := (net1_of (liveB_len h).1).len
  have h2 := (liveB_len h).2
  unfold impl_Live_copied.f impl_Arc_32.f impl_Arc_31.f impl_News_33.f impl_News_19.f
  rw [if_pos (by omega), if_pos (by omega)]
  rfl
/-! ### news that are told: the program's -/
theorem tellS_true (x : S30) : ∀ (w : List S30), (∀ y ∈ w, ¬ y.f0 = x.f0) → tellS x w true = w
  | [], _ => rfl
  | y :: ys, h => by
    have h0 := h y (by simp)
    have ih := tellS_true x ys fun z hz => h z (by simp [hz])
    unfold tellS
    rw [if_neg h0, Bool.true_or, ih]
    rfl
theorem tellS_eq (x : S30) : ∀ (w : List S30), upB w = true → tellS x w false = (if thereB x.f0 w = true then w.set (findP x.f0 w) x else w.take (findP x.f0 w) ++ x :: w.drop (findP x.f0 w))
  | [], _ => by
    have : thereB x.f0 [] = false := by simp [thereB]
    rw [this]
    rfl
  | y :: ys, hu => by
    obtain ⟨h1, h2⟩ := upB_cons.1 hu
    have ih := tellS_eq x ys h2
    rw [there_cons, findP_cons]
    unfold tellS
    by_cases c : y.f0 < x.f0
    · have c2 : decide (y.f0 ≥ x.f0) = false := decide_eq_false (by omega)
      have c3 : ¬ y.f0 = x.f0 := by omega
      rw [if_pos c, if_pos c, c2, if_neg c3, Bool.false_or, ih]
      by_cases t : thereB x.f0 ys = true
      · rw [if_pos t, if_pos t]; rfl
      · rw [if_neg t, if_neg t]; rfl
    · have c2 : decide (y.f0 ≥ x.f0) = true := decide_eq_true (by omega)
      have c4 : tellS x ys true = ys := tellS_true x ys fun z hz => by have := h1 z hz; omega
      rw [if_neg c, if_neg c, c2, Bool.false_or, c4]
      by_cases e : y.f0 = x.f0
      · rw [if_pos e, if_pos (show decide (y.f0 = x.f0) = true from decide_eq_true e)]; rfl
      · rw [if_neg e, if_neg (show ¬ decide (y.f0 = x.f0) = true by simpa using e)]; rfl
theorem there_lt {id : Int} {w : List S30} (h : thereB id w = true) : findP id w < w.length := by
  unfold thereB at h
  rw [Bool.and_eq_true, decide_eq_true_eq] at h
  exact h.1
theorem implTell_j0 (n : Int) (l : List S65) (w W : List S30) (hok : liveB n l w = true) (hW : W.length ≤ 9223372036854775807) : Ev (fun k => impl_LiveTell.j0 k n l w n l W) (tellV n l w W) := by
  refine ev_shift ?_
  simp only [impl_LiveTell.j0]
  refine Ev.bind (implLiveOk_ev n l W hW) ?_
  unfold tellV
  cases liveB n l W with
  | true => simp only [if_true]; exact ev_now fun _ => rfl
  | false =>
    simp only [Bool.false_eq_true, if_false, copied_eq hok, Option.bind_some]
    exact ev_now fun _ => rfl
theorem implTell_ev (n : Int) (l : List S65) (w : List S30) (hw : w.length ≤ 9223372036854775807) (a b c : Int) :
    Ev (fun k => impl_LiveTell.f k n l w a b c) (if liveB n l w = true then tellV n l w (tellS ⟨a, b, c⟩ w false) else (0, [], [], false)) := by
  unfold impl_LiveTell.f
  refine Ev.bind (implLiveOk_ev n l w hw) ?_
  cases hok : liveB n l w with
  | false => simp only [Bool.false_eq_true, if_false]; exact ev_now fun _ => rfl
  | true =>
    have h6 := (liveB_len hok).2
    have hp := findP_le' a w
    simp only [if_true, copied_eq hok, find_eq hok, Option.bind_some]
    rw [tellS_eq ⟨a, b, c⟩ w (live_up hok)]
    simp only
    cases ht : thereB a w with
    | true =>
      have hlt := there_lt ht
      have g0 : (0 : Int) ≤ ((findP a w : Nat) : Int) := by omega
      have g1 : ((findP a w : Nat) : Int) < (w.length : Int) := by omega
      simp only [if_true, g0, g1, Int.toNat_natCast]
      exact implTell_j0 n l w _ hok (by rw [List.length_set]; exact hw)
    | false =>
      have g0 : (0 : Int) ≤ ((findP a w : Nat) : Int) := by omega
      have g1 : ((findP a w : Nat) : Int) ≤ (w.length : Int) := by omega
      unfold impl_News_20.f impl_News_19.f
      simp only [Bool.false_eq_true, if_false]
      rw [if_pos ⟨g0, g1, by omega⟩, Int.toNat_natCast]
      exact implTell_j0 n l w _ hok (by rw [List.length_append, List.length_cons, List.length_take, List.length_drop]; omega)
/-! ### news that are told, in any order -/
theorem news_eta' (x : S30) : (⟨x.f0, x.f1, x.f2⟩ : S30) = x := rfl
def insS (x : S30) : List S30 → List S30
  | [] => [x]
  | y :: ys => if y.f0 < x.f0 then y :: insS x ys else if y.f0 = x.f0 then x :: ys else x :: y :: ys
theorem ins_lt {x y : S30} (ys : List S30) (h : y.f0 < x.f0) : insS x (y :: ys) = y :: insS x ys := by
  show (if y.f0 < x.f0 then y :: insS x ys else if y.f0 = x.f0 then x :: ys else x :: y :: ys) = _
  rw [if_pos h]
theorem ins_eq {x y : S30} (ys : List S30) (h : y.f0 = x.f0) : insS x (y :: ys) = x :: ys := by
  show (if y.f0 < x.f0 then y :: insS x ys else if y.f0 = x.f0 then x :: ys else x :: y :: ys) = _
  rw [if_neg (by omega), if_pos h]
theorem ins_gt {x y : S30} (ys : List S30) (h : x.f0 < y.f0) : insS x (y :: ys) = x :: y :: ys := by
  show (if y.f0 < x.f0 then y :: insS x ys else if y.f0 = x.f0 then x :: ys else x :: y :: ys) = _
  rw [if_neg (by omega), if_neg (by omega)]
theorem tellS_ins (x : S30) : ∀ (w : List S30), upB w = true → tellS x w false = insS x w
  | [], _ => rfl
  | y :: ys, hu => by
    obtain ⟨h1, h2⟩ := upB_cons.1 hu
    have ih := tellS_ins x ys h2
    have u : tellS x (y :: ys) false = (if (!false && decide (y.f0 ≥ x.f0)) = true then [x] else []) ++ ((if y.f0 = x.f0 then [] else [y]) ++ tellS x ys (false || decide (y.f0 ≥ x.f0))) := rfl
    rw [u]
    by_cases c : y.f0 < x.f0
    · have c2 : decide (y.f0 ≥ x.f0) = false := decide_eq_false (by omega)
      have c3 : ¬ y.f0 = x.f0 := by omega
      rw [c2, if_neg c3, Bool.false_or, ih, ins_lt ys c]
      rfl
    · have c2 : decide (y.f0 ≥ x.f0) = true := decide_eq_true (by omega)
      have c4 : tellS x ys true = ys := tellS_true x ys fun z hz => by have := h1 z hz; omega
      rw [c2, Bool.false_or, c4]
      by_cases e : y.f0 = x.f0
      · rw [if_pos e, ins_eq ys e]; rfl
      · rw [if_neg e, ins_gt ys (by omega)]; rfl
theorem ins_comm (x v : S30) (h : ¬ v.f0 = x.f0) : ∀ w, insS v (insS x w) = insS x (insS v w)
  | [] => by
    show insS v [x] = insS x [v]
    by_cases c : x.f0 < v.f0
    · rw [ins_lt _ c, ins_gt _ c]; rfl
    · rw [ins_gt _ (by omega), ins_lt _ (by omega)]; rfl
  | y :: ys => by
    have ih := ins_comm x v h ys
    by_cases c : y.f0 < x.f0
    · rw [ins_lt ys c]
      by_cases d : y.f0 < v.f0
      · rw [ins_lt _ d, ins_lt ys d, ins_lt _ c, ih]
      · by_cases e : y.f0 = v.f0
        · rw [ins_eq _ e, ins_eq ys e, ins_lt _ (by omega)]
        · rw [ins_gt _ (by omega), ins_gt ys (by omega), ins_lt _ (by omega), ins_lt _ c]
    · by_cases c2 : y.f0 = x.f0
      · rw [ins_eq ys c2]
        by_cases d : y.f0 < v.f0
        · rw [ins_lt _ (by omega), ins_lt ys d, ins_eq _ c2]
        · rw [ins_gt _ (by omega), ins_gt ys (by omega), ins_lt _ (by omega), ins_eq _ c2]
      · rw [ins_gt ys (by omega)]
        by_cases d : y.f0 < v.f0
        · rw [ins_lt _ (by omega), ins_lt _ d, ins_gt _ (by omega)]
        · by_cases e : y.f0 = v.f0
          · rw [ins_lt _ (by omega), ins_eq _ e, ins_gt _ (by omega)]
          · rw [ins_gt ys (by omega)]
            by_cases q : x.f0 < v.f0
            · rw [ins_lt _ q, ins_gt ys (by omega), ins_gt _ q]
            · rw [ins_gt _ (by omega), ins_lt _ (by omega), ins_gt ys (by omega)]
theorem ins_mem (x : S30) : ∀ w, x ∈ insS x w
  | [] => List.mem_singleton.2 rfl
  | y :: ys => by
    by_cases c : y.f0 < x.f0
    · rw [ins_lt ys c]; exact List.mem_cons_of_mem _ (ins_mem x ys)
    · by_cases e : y.f0 = x.f0
      · rw [ins_eq ys e]; exact List.mem_cons_self
      · rw [ins_gt ys (by omega)]; exact List.mem_cons_self
theorem ins_self (x : S30) : ∀ w, upB w = true → x ∈ w → insS x w = w
  | [], _, h => by cases h
  | y :: ys, hu, h => by
    obtain ⟨h1, h2⟩ := upB_cons.1 hu
    rw [List.mem_cons] at h
    rcases h with rfl | h
    · exact ins_eq ys rfl
    · rw [ins_lt ys (h1 x h), ins_self x ys h2 h]
def othS (id : Int) (w : List S30) : List S30 := w.filter fun y => decide (¬ y.f0 = id)
theorem oth_pos {id : Int} {y : S30} (ys : List S30) (h : ¬ y.f0 = id) : othS id (y :: ys) = y :: othS id ys := by
  unfold othS
  rw [List.filter_cons, if_pos (by simpa using h)]
theorem oth_neg {id : Int} {y : S30} (ys : List S30) (h : y.f0 = id) : othS id (y :: ys) = othS id ys := by
  unfold othS
  rw [List.filter_cons, if_neg (by simpa using h)]
theorem oth_all {id : Int} {ys : List S30} (h : ∀ y ∈ ys, id < y.f0) : othS id ys = ys := List.filter_eq_self.2 fun y hy => by
  have := h y hy
  simp only [decide_eq_true_eq]
  omega
theorem ins_over (x : S30) : ∀ w, upB w = true → x ∈ w → insS x (othS x.f0 w) = w
  | [], _, h => by cases h
  | y :: ys, hu, h => by
    obtain ⟨h1, h2⟩ := upB_cons.1 hu
    rw [List.mem_cons] at h
    rcases h with rfl | h
    · rw [oth_neg ys rfl, oth_all h1]
      cases ys with
      | nil => rfl
      | cons z zs => exact ins_gt zs (h1 z (by simp))
    · have := h1 x h
      rw [oth_pos ys (by omega), ins_lt _ this, ins_over x ys h2 h]
theorem oth_len {x : S30} : ∀ w, upB w = true → x ∈ w → (othS x.f0 w).length + 1 = w.length
  | [], _, h => by cases h
  | y :: ys, hu, h => by
    obtain ⟨h1, h2⟩ := upB_cons.1 hu
    rw [List.mem_cons] at h
    rcases h with rfl | h
    · rw [oth_neg ys rfl, oth_all h1]; rfl
    · have := h1 x h
      rw [oth_pos ys (by omega), List.length_cons, List.length_cons, oth_len ys h2 h]
theorem oth_up (id : Int) : ∀ w, upB w = true → upB (othS id w) = true
  | [], _ => rfl
  | y :: ys, hu => by
    obtain ⟨h1, h2⟩ := upB_cons.1 hu
    by_cases c : y.f0 = id
    · rw [oth_neg ys c]; exact oth_up id ys h2
    · rw [oth_pos ys c, upB_cons]
      exact ⟨fun z hz => h1 z (List.mem_filter.1 hz).1, oth_up id ys h2⟩
theorem upB_at : ∀ (w : List S30), upB w = true → ∀ i (h : i + 1 < w.length), (w[i]'(by omega)).f0 < w[i + 1].f0
  | [], _, i, h => by simp at h
  | [x], _, i, h => by simp at h
  | x :: y :: ys, hu, i, h => by
    obtain ⟨h1, h2⟩ := upB_cons.1 hu
    cases i with
    | zero => exact h1 y (by simp)
    | succ i => exact upB_at (y :: ys) h2 i (by simpa using h)
theorem live_of {n : Int} {l : List S65} {w : List S30} (h1 : netOkB n l = true) (h2 : w.length ≤ 6) (h3 : ∀ x ∈ w, newsB l.length x = true) (h4 : upB w = true) : liveB n l w = true := by
  unfold liveB
  rw [h1, decide_eq_true h2, Bool.true_and, Bool.and_true, List.all_eq_true]
  intro i hi
  have hi' : i < w.length := by rw [List.mem_range'_1] at hi; omega
  unfold newsAt
  rw [Bool.and_eq_true, Bool.or_eq_true, decide_eq_true_eq, decide_eq_true_eq, news_at w i hi']
  refine ⟨h3 _ (List.getElem_mem hi'), ?_⟩
  by_cases c : i = 0
  · exact .inl c
  · refine .inr ?_
    obtain ⟨j, rfl⟩ : ∃ j, i = j + 1 := ⟨i - 1, by omega⟩
    rw [Nat.add_sub_cancel, news_at w j (by omega)]
    exact upB_at w h4 j hi'
/-! ### nets with news, and one more that is told -/
theorem drawLiveTell_ex (c : List Int) (h : ∀ x ∈ c, (Lit.int .u8 x).wf = true) : ∃ n l w a b d, Ev (fun k => spec_DrawLiveTell.f k c) (n, l, w, a, b, d) ∧ l.length ≤ 13 ∧ w.length ≤ 21 := by
  obtain ⟨y, hb, ho⟩ := open_ex c h
  obtain ⟨n, l, w, q, he, h1, h2, h3, h4, _⟩ := l30Live_ex hb (p := 0) (by omega) (by omega)
  obtain ⟨a, b, d, q1, e1, _⟩ := l30News_ex hb n (l := l) (by omega) h3 (by omega)
  unfold spec_DrawLiveTell.f
  simp only [ho, Option.bind_some]
  exact ⟨n, l, w, a, b, d, Ev.bind he (Ev.bind e1 (ev_now fun _ => rfl)), h1, h2⟩
def tellW (n : Int) (l : List S65) (w : List S30) (x : S30) : Int × List S65 × List S30 × Bool := if liveB n l w = true then tellV n l w (tellS x w false) else (0, [], [], false)
theorem tellW_live {n : Int} {l : List S65} {w : List S30} (h : liveB n l w = true) (x : S30) : tellW n l w x = (n, l, if liveB n l (insS x w) = true then insS x w else w, liveB n l (insS x w)) := by
  unfold tellW
  rw [if_pos h, tellS_ins x w (live_up h)]
  unfold tellV
  cases liveB n l (insS x w) <;> rfl
theorem tellW_len {n : Int} {l : List S65} {w : List S30} (x : S30) : (tellW n l w x).2.1.length ≤ 16 ∧ (tellW n l w x).2.2.1.length ≤ 6 := by
  cases h : liveB n l w with
  | false =>
    have e : tellW n l w x = (0, [], [], false) := by unfold tellW; rw [h]; rfl
    rw [e]
    simp
  | true =>
    rw [tellW_live h]
    refine ⟨(net1_of (liveB_len h).1).len, ?_⟩
    simp only
    split
    · rename_i h2
      exact (liveB_len h2).2
    · exact (liveB_len h).2
/-! ### the laws' own tests of what is the same -/
theorem wkNet_self (n : Int) (l : List S65) (hl : l.length ≤ 9223372036854775807) : Ev (fun k => laws_wkNet.f k n l n l) true := by
  unfold laws_wkNet.f
  simp only [if_true]
  refine ev_shift ?_
  have e : (((l.length : Int) != (l.length : Int)) = true) = False := by simp
  simp only [laws_wkNet.j0, e, if_false]
  refine ev_ind (fun k (i : Nat) => laws_wkNet.l0 k (i : Int) n l n l) (fun i => l.length - i) (fun i => i ≤ l.length) (fun _ => true) ?_ 0 (Nat.zero_le _)
  intro i hi ih
  by_cases h : i < l.length
  · have hlt : (i : Int) < (l.length : Int) := by omega
    have h0 : (0 : Int) ≤ (i : Int) := by omega
    simp only [laws_wkNet.l0, hlt, h0, if_true, beq_self_eq_true, Bool.not_true, Bool.or_self, Bool.false_eq_true, if_false, wsucc h hl]
    exact ih (i + 1) (by omega) (by omega)
  · have hlt : ¬ (i : Int) < (l.length : Int) := by omega
    simp only [laws_wkNet.l0, hlt, if_false]
    exact ev_now fun _ => rfl
/-! ### nets with news, compared -/
theorem wkLive_self (n : Int) (l : List S65) (w : List S30) (hl : l.length ≤ 9223372036854775807) (hw : w.length ≤ 9223372036854775807) : Ev (fun k => laws_wkLive.f k n l w n l w) true := by
  unfold laws_wkLive.f
  refine Ev.bind (wkNet_self n l hl) ?_
  simp only [if_true, bne_self_eq_false]
  refine ev_shift ?_
  simp only [laws_wkLive.j0, Bool.false_eq_true, if_false]
  refine ev_ind (fun k (i : Nat) => laws_wkLive.l0 k (i : Int) n l w n l w) (fun i => w.length - i) (fun i => i ≤ w.length) (fun _ => true) ?_ 0 (Nat.zero_le _)
  intro i hi ih
  by_cases h : i < w.length
  · have hlt : (i : Int) < (w.length : Int) := by omega
    have h0 : (0 : Int) ≤ (i : Int) := by omega
    simp only [laws_wkLive.l0, hlt, h0, if_true, beq_self_eq_true, Bool.not_true, Bool.or_self, Bool.false_eq_true, if_false, wsucc h hw]
    exact ih (i + 1) (by omega) (by omega)
  · have hlt : ¬ (i : Int) < (w.length : Int) := by omega
    simp only [laws_wkLive.l0, hlt, if_false]
    exact ev_now fun _ => rfl
def eqN (y z : S30) : Bool := y.f0 == z.f0 && (y.f1 == z.f1 && y.f2 == z.f2)
theorem eqN_self (y : S30) : eqN y y = true := by unfold eqN; simp
theorem eqN_ne {y z : S30} (h : ¬ y.f0 = z.f0) : eqN y z = false := by
  unfold eqN
  rw [beq_eq_false_iff_ne.2 h, Bool.false_and]
/-- How often one of the news of another number is among news. -/
def cN (a : Int) (w : List S30) (y : S30) : Nat := if y.f0 = a then 0 else (w.filter (eqN y)).length
theorem eqN_one {y : S30} : ∀ w, upB w = true → y ∈ w → (w.filter (eqN y)).length = 1
  | [], _, h => by cases h
  | z :: zs, hu, h => by
    obtain ⟨h1, h2⟩ := upB_cons.1 hu
    rw [List.mem_cons] at h
    rcases h with rfl | h
    · have : zs.filter (eqN y) = [] := List.filter_eq_nil_iff.2 fun q hq => by
        have := h1 q hq
        rw [eqN_ne (by omega)]
        exact Bool.false_ne_true
      rw [List.filter_cons, if_pos (eqN_self y), this]
      rfl
    · have := h1 y h
      rw [List.filter_cons, if_neg (by rw [eqN_ne (by omega)]; exact Bool.false_ne_true)]
      exact eqN_one zs h2 h
theorem ins_sub {x y : S30} : ∀ w, y ∈ insS x w → y = x ∨ y ∈ w
  | [], h => .inl (List.mem_singleton.1 h)
  | z :: zs, h => by
    by_cases c : z.f0 < x.f0
    · rw [ins_lt zs c, List.mem_cons] at h
      rcases h with rfl | h
      · exact .inr List.mem_cons_self
      · rcases ins_sub zs h with h | h
        · exact .inl h
        · exact .inr (List.mem_cons_of_mem _ h)
    · by_cases e : z.f0 = x.f0
      · rw [ins_eq zs e, List.mem_cons] at h
        rcases h with h | h
        · exact .inl h
        · exact .inr (List.mem_cons_of_mem _ h)
      · rw [ins_gt zs (by omega), List.mem_cons] at h
        rcases h with h | h
        · exact .inl h
        · exact .inr h
def sumN (a : Int) (w : List S30) : List S30 → Nat
  | [] => 0
  | y :: ys => cN a w y + sumN a w ys
theorem sumN_is (a : Int) (w : List S30) : ∀ W : List S30, (∀ y ∈ W, ¬ y.f0 = a → cN a w y = 1) → sumN a w W = (othS a W).length
  | [], _ => rfl
  | y :: ys, h => by
    have ih := sumN_is a w ys fun z hz => h z (List.mem_cons_of_mem _ hz)
    show cN a w y + sumN a w ys = _
    by_cases c : y.f0 = a
    · have e : cN a w y = 0 := by unfold cN; rw [if_pos c]
      rw [e, ih, oth_neg ys c, Nat.zero_add]
    · rw [h y List.mem_cons_self c, ih, oth_pos ys c, List.length_cons, Nat.add_comm]
theorem cN_le (a : Int) (w : List S30) (y : S30) : cN a w y ≤ w.length := by
  unfold cN
  split
  · omega
  · exact List.length_filter_le _ _
theorem tell_inner (n : Int) (l : List S65) (w W : List S30) (a b d : Int) (hw : w.length ≤ 6) (i : Nat) (hi : i < W.length) (q : Bool) (o : Nat) (ho : o ≤ 100) (R : Bool)
    (next : Ev (fun k => laws_FnLiveTell.l0 k q ((o + cN a w W[i] : Nat) : Int) (wrap64 ((i : Int) + 1)) n l w a b d n l W) R) : Ev (fun k => laws_FnLiveTell.l1 k q (o : Int) (i : Int) 0 n l w a b d n l W) R := by
  have i0 : (0 : Int) ≤ (i : Int) := by omega
  have i1 : (i : Int) < (W.length : Int) := by omega
  refine ev_ind (fun k (s : Nat × Nat) => laws_FnLiveTell.l1 k q (s.2 : Int) (i : Int) (s.1 : Int) n l w a b d n l W) (fun s => w.length - s.1) (fun s => s.1 ≤ w.length ∧ s.2 ≤ 100 + s.1 ∧ s.2 + cN a (w.drop s.1) W[i] = o + cN a w W[i]) (fun _ => R) ?_ (0, o) ⟨Nat.zero_le _, by simpa using ho, by simp⟩
  rintro ⟨j, p⟩ ⟨hj, hp, hs⟩ ih
  simp only at hj hp hs ih ⊢
  by_cases h : j < w.length
  · have hlt : (j : Int) < (w.length : Int) := by omega
    have j0 : (0 : Int) ≤ (j : Int) := by omega
    rw [List.drop_eq_getElem_cons h] at hs
    have e1 : (W[i].f0 == w[j].f0 && (W[i].f1 == w[j].f1 && W[i].f2 == w[j].f2)) = eqN W[i] w[j] := rfl
    simp only [laws_FnLiveTell.l1, hlt, j0, i0, i1, if_true, news_at W i hi, news_at w j h, e1, wsucc h (show w.length ≤ 9223372036854775807 by omega)]
    unfold cN at hs ih
    by_cases c : W[i].f0 = a
    · simp only [c, if_true] at hs ih ⊢
      cases eqN W[i] w[j] with
      | true => simp only [if_true]; exact ih (j + 1, p) ⟨by simp; omega, by simp; omega, hs⟩ (by simp; omega)
      | false => simp only [Bool.false_eq_true, if_false]; exact ih (j + 1, p) ⟨by simp; omega, by simp; omega, hs⟩ (by simp; omega)
    · simp only [c, if_false] at hs ih ⊢
      rw [List.filter_cons] at hs
      cases e : eqN W[i] w[j] with
      | true =>
        rw [e, if_pos rfl, List.length_cons] at hs
        have hp1 : wrap64 ((p : Int) + 1) = ((p + 1 : Nat) : Int) := by rw [w_id (by omega) (by omega)]; omega
        simp only [if_true, hp1]
        exact ih (j + 1, p + 1) ⟨by simp; omega, by simp; omega, by simp only; omega⟩ (by simp; omega)
      | false =>
        rw [e, if_neg Bool.false_ne_true] at hs
        simp only [Bool.false_eq_true, if_false]
        exact ih (j + 1, p) ⟨by simp; omega, by simp; omega, hs⟩ (by simp; omega)
  · have hlt : ¬ (j : Int) < (w.length : Int) := by omega
    rw [List.drop_of_length_le (by omega)] at hs
    have e0 : cN a [] W[i] = 0 := by unfold cN; split <;> rfl
    rw [e0, Nat.add_zero] at hs
    simp only [laws_FnLiveTell.l1, hlt, if_false]
    rw [hs]
    exact next
theorem FnLiveTell : laws_FnLiveTell.Pure := by
  intro c _ _ hc
  refine Ev.rounds ?_
  unfold laws_FnLiveTell.f
  by_cases h0 : (c.length : Int) > 1048576
  · simp only [h0, if_true]; exact ev_now fun _ => rfl
  simp only [h0, if_false]
  obtain ⟨n, l, w, a, b, d, he, hl, hw⟩ := drawLiveTell_ex c hc
  have hl9 : l.length ≤ 9223372036854775807 := by omega
  have hw9 : w.length ≤ 9223372036854775807 := by omega
  have hs : Ev (fun k => spec_LiveTell.f k n l w a b d) (tellW n l w ⟨a, b, d⟩) := specTell_ev n l w hl9 hw9 a b d
  have hi : Ev (fun k => impl_LiveTell.f k n l w a b d) (tellW n l w ⟨a, b, d⟩) := implTell_ev n l w hw9 a b d
  have hL := tellW_len (n := n) (l := l) (w := w) ⟨a, b, d⟩
  have hself := wkLive_self (tellW n l w ⟨a, b, d⟩).1 (tellW n l w ⟨a, b, d⟩).2.1 (tellW n l w ⟨a, b, d⟩).2.2.1 (by omega) (by omega)
  have hok := implLiveOk_ev n l w hw9
  refine Ev.bind he (Ev.bind hi (Ev.bind hs ?_))
  simp only [bne_self_eq_false, Bool.false_eq_true, if_false]
  refine Ev.bind hself ?_
  simp only [if_true]
  refine Ev.bind hok (ev_shift ?_)
  cases hv : liveB n l w with
  | false =>
    simp only [laws_FnLiveTell.j0, Bool.not_false, if_true, beq_self_eq_true]
    exact Ev.bind hself (ev_now fun _ => rfl)
  | true =>
    have eW := tellW_live hv ⟨a, b, d⟩
    simp only [laws_FnLiveTell.j0, Bool.not_true, Bool.false_eq_true, if_false]
    cases h1v : liveB n l (insS ⟨a, b, d⟩ w) with
    | false =>
      rw [h1v, if_neg Bool.false_ne_true] at eW
      simp only [eW, Bool.false_eq_true, if_false]
      exact Ev.bind (wkLive_self n l w hl9 hw9) (ev_now fun _ => rfl)
    | true =>
      rw [h1v, if_pos rfl] at eW
      simp only [eW, if_true]
      have hu := live_up hv
      have hU := live_up h1v
      have h6 := (liveB_len hv).2
      have hW6 := (liveB_len h1v).2
      have hxm := ins_mem ⟨a, b, d⟩ w
      have hsub := fun y => @ins_sub ⟨a, b, d⟩ y w
      have hins := ins_self ⟨a, b, d⟩ _ hU hxm
      have hlen : (othS a (insS ⟨a, b, d⟩ w)).length + 1 = (insS ⟨a, b, d⟩ w).length := oth_len (x := ⟨a, b, d⟩) _ hU hxm
      have eAg := tellW_live h1v ⟨a, b, d⟩
      rw [hins, h1v, if_pos rfl] at eAg
      have hAg : Ev (fun k => impl_LiveTell.f k n l (insS ⟨a, b, d⟩ w) a b d) (n, l, insS ⟨a, b, d⟩ w, true) := by rw [← eAg]; exact implTell_ev n l _ (by omega) a b d
      have hokW := implLiveOk_ev n l (insS ⟨a, b, d⟩ w) (by omega)
      rw [h1v] at hokW
      generalize insS ⟨a, b, d⟩ w = W at hU hW6 hxm hsub hlen hAg hokW
      have hone : ∀ y ∈ W, ¬ y.f0 = a → cN a w y = 1 := by
        intro y hy hya
        unfold cN
        rw [if_neg hya]
        rcases hsub y hy with rfl | h
        · exact absurd rfl hya
        · exact eqN_one w hu h
      have hsum := sumN_is a w W hone
      refine ev_ind (fun k (i : Nat) => laws_FnLiveTell.l0 k ((W.take i).any fun y => eqN y ⟨a, b, d⟩) ((sumN a w (W.take i) : Nat) : Int) (i : Int) n l w a b d n l W) (fun i => W.length - i) (fun i => i ≤ W.length) (fun _ => true) ?_ 0 (Nat.zero_le _)
      intro i hi1 ih
      by_cases h : i < W.length
      · have hlt : (i : Int) < (W.length : Int) := by omega
        have i0 : (0 : Int) ≤ (i : Int) := by omega
        have next := ih (i + 1) (by omega) (by omega)
        have etk : W.take (i + 1) = W.take i ++ [W[i]] := List.take_succ_eq_append_getElem h
        have sapp : ∀ A B, sumN a w (A ++ B) = sumN a w A + sumN a w B := by
          intro A B
          induction A with
          | nil => simp [sumN]
          | cons z zs ihz => simp only [List.cons_append, sumN, ihz]; omega
        have sle : ∀ A : List S30, sumN a w A ≤ 6 * A.length := by
          intro A
          induction A with
          | nil => simp [sumN]
          | cons z zs ihz => have := cN_le a w z; simp only [sumN, List.length_cons]; omega
        have s1 := sle (W.take i)
        rw [List.length_take] at s1
        have e1 : sumN a w (W.take (i + 1)) = sumN a w (W.take i) + cN a w W[i] := by rw [etk, sapp]; simp [sumN]
        have e2 : ((W.take (i + 1)).any fun y => eqN y ⟨a, b, d⟩) = (((W.take i).any fun y => eqN y ⟨a, b, d⟩) || eqN W[i] ⟨a, b, d⟩) := by rw [etk, List.any_append]; simp
        rw [e1, e2] at next
        have e3 : (W[i].f0 == a && (W[i].f1 == b && W[i].f2 == d)) = eqN W[i] ⟨a, b, d⟩ := rfl
        simp only [laws_FnLiveTell.l0, hlt, if_true, i0, news_at W i h, e3]
        have inner := fun q R hn => tell_inner n l w W a b d h6 i h q (sumN a w (W.take i)) (by omega) R hn
        rw [wsucc h (show W.length ≤ 9223372036854775807 by omega)] at inner
        cases q : (W.take i).any fun y => eqN y ⟨a, b, d⟩ with
        | true =>
          rw [q, Bool.true_or] at next
          simp only [if_true]
          refine ev_shift ?_
          simp only [laws_FnLiveTell.j2]
          exact inner true true next
        | false =>
          rw [q, Bool.false_or] at next
          simp only [Bool.false_eq_true, if_false]
          refine ev_shift ?_
          simp only [laws_FnLiveTell.j2]
          exact inner _ true next
      · have hlt : ¬ (i : Int) < (W.length : Int) := by omega
        have etk : W.take i = W := List.take_of_length_le (by omega)
        have q1 : ((W.take i).any fun y => eqN y ⟨a, b, d⟩) = true := by
          rw [etk, List.any_eq_true]
          exact ⟨_, hxm, eqN_self _⟩
        have q2 : ((sumN a w (W.take i) : Nat) : Int) = wrap64 ((W.length : Int) - 1) := by
          rw [etk, hsum, w_id (by omega) (by omega)]
          omega
        simp only [laws_FnLiveTell.l0, hlt, if_false]
        refine Ev.bind hAg (Ev.bind hokW ?_)
        simp only [if_true, q1, if_pos q2]
        exact Ev.bind (wkLive_self n l W hl9 (by omega)) (ev_now fun _ => rfl)
end Go.Proofs.Ytbcedkcjodokkaa.Pure
