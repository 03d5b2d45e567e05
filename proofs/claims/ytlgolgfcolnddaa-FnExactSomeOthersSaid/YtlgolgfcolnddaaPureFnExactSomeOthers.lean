/- The pure statement of FnExactSomeOthers: on all arguments the reference and the program tell the same walks, in memory of their own. No condition. -/
import Derived.Test.YtlgolgfcolnddaaFKinds
import Derived.Test.YtlgolgfcolnddaaFimplNetOk
import Derived.Test.YtlgolgfcolnddaaFimplNethas
import Derived.Test.YtlgolgfcolnddaaFimplSomeOthers
import Derived.Test.YtlgolgfcolnddaaFimplSomeWalks
import Derived.Test.YtlgolgfcolnddaaFimplnodesIn
import Derived.Test.YtlgolgfcolnddaaFimplwithin
import Derived.Test.YtlgolgfcolnddaaFlawsFnExactSomeOthers
import Derived.Test.YtlgolgfcolnddaaFlawsInt
import Derived.Test.YtlgolgfcolnddaaFlawsMarkInt
import Derived.Test.YtlgolgfcolnddaaFlawsNet
import Derived.Test.YtlgolgfcolnddaaFlawseqIntSS
import Derived.Test.YtlgolgfcolnddaaFlawsheldIntSS
import Derived.Test.YtlgolgfcolnddaaFspecSomeOthers
import Derived.Test.YtlgolgfcolnddaaFspecl12In
import Derived.Test.YtlgolgfcolnddaaFspecl14Go
import Derived.Test.YtlgolgfcolnddaaFspecl14Less
import Derived.Test.YtlgolgfcolnddaaFspecl14Put
import Derived.Test.YtlgolgfcolnddaaFspecl14Share
import Derived.Test.YtlgolgfcolnddaaFspecl14Some
import Derived.Test.YtlgolgfcolnddaaFspecl1In
import Derived.Test.YtlgolgfcolnddaaFspecl1Ok
import Derived.Test.YtlgolgfcolnddaaFspecl2Cost
import Derived.Test.YtlgolgfcolnddaaFtextcore
import Derived.Test.YtlgolgfcolnddaaFtextmarkrows
import Derived.Test.YtlgolgfcolnddaaFtextmarkss
import Derived.Test.YtlgolgfcolnddaaFtextothclose
import Derived.Test.YtlgolgfcolnddaaFtextothshare
import Derived.Test.YtlgolgfcolnddaaFtextothwalk
import Derived.Test.YtlgolgfcolnddaaFtextsomecmp
import Derived.Test.YtlgolgfcolnddaaFtextsomefol
import Derived.Test.YtlgolgfcolnddaaFtextsomeord
import Derived.Test.YtlgolgfcolnddaaFtextsomesimple
import Derived.Test.YtlgolgfcolnddaaFtextsomewalks
namespace Go.Proofs.Ytlgolgfcolnddaa.Pure
open Go.RowKit Go.Proofs.Ytlgolgfcolnddaa.F Go.Proofs.YtlgolgfcolnddaaW.PrintWords
set_option linter.unusedVariables false
set_option linter.unusedSimpArgs false
/-! ### rounds -/
theorem ev_shift {α : Type} {g : Nat → Option α} {r : α} (h : Ev (fun k => g (k + 1)) r) : Ev g r := by
  obtain ⟨K, h⟩ := h
  refine ⟨K + 1, fun k hk => ?_⟩
  obtain ⟨m, rfl⟩ : ∃ m, k = m + 1 := ⟨k - 1, by omega⟩
  exact h m (by omega)
theorem ev_ind {σ β : Type} (g : Nat → σ → Option β) (μ : σ → Nat) (Inv : σ → Prop) (r : σ → β)
    (h : ∀ s, Inv s → (∀ s', Inv s' → μ s' < μ s → Ev (fun k => g k s') (r s')) → Ev (fun k => g (k + 1) s) (r s)) : ∀ s, Inv s → Ev (fun k => g k s) (r s) := by
  have key : ∀ n s, μ s ≤ n → Inv s → Ev (fun k => g k s) (r s) := by
    intro n
    induction n with
    | zero => intro s hs hi; exact ev_shift (h s hi (fun s' _ hlt => absurd hlt (by omega)))
    | succ n ih => intro s hs hi; exact ev_shift (h s hi (fun s' hi' hlt => ih s' (by omega) hi'))
  exact fun s hi => key _ s (Nat.le_refl _) hi
theorem ev_now {α : Type} {g : Nat → Option α} {r : α} (h : ∀ k, g k = some r) : Ev g r := ⟨0, fun k _ => h k⟩
theorem ev_at {α : Type} {g : Nat → Option α} {r r' : α} (h : Ev g r) (e : r = r') : Ev g r' := e ▸ h
/-! ### numbers and lists -/
theorem wsucc {i n : Nat} (h : i < n) (hn : n ≤ 9223372036854775807) : wrap64 ((i : Int) + 1) = ((i + 1 : Nat) : Int) := by
  unfold wrap64; omega
theorem wpred {i : Nat} (h : 0 < i) (hi : i ≤ 9223372036854775807) : wrap64 ((i : Int) - 1) = ((i - 1 : Nat) : Int) := by
  unfold wrap64; omega
theorem w_id {n : Int} (h : -9223372036854775808 ≤ n) (h' : n ≤ 9223372036854775807) : wrap64 n = n := by unfold wrap64; omega
theorem rd_nat (l : List Int) (i : Nat) : rd l (i : Int) = l.getD i 0 := by simp [rd]
theorem rd_at (l : List Int) (i : Nat) (h : i < l.length) : rd l (i : Int) = l[i] := by simp [rd, h]
theorem arc_at (l : List S58) (i : Nat) (h : i < l.length) : rd_T58 l (i : Int) = l[i] := by simp [rd_T58, h]
theorem any_at {α : Type} (p : α → Bool) (l : List α) (i : Nat) (h : i < l.length) : (l.drop i).any p = (p l[i] || (l.drop (i + 1)).any p) := by
  rw [List.drop_eq_getElem_cons h, List.any_cons]
/-! ### is a net valid -/
theorem within_eq (a b c : Int) : impl_within.f a b c = some (inB a b c) := by
  unfold impl_within.f inB
  by_cases h : b ≤ a
  · rw [if_pos h]; simp [h]
  · rw [if_neg h]; simp [h]
theorem l1In_eq (a b c : Int) : spec_l1In.f a b c = some (inB a b c) := within_eq a b c
theorem arcBad_eq (n : Int) (x : S58) : arcBad n x = !(inB x.f0 0 (wrap64 (n - 1)) && (inB x.f1 0 (wrap64 (n - 1)) && (!(x.f0 == x.f1) && (inB x.f2 0 99 && (inB x.f3 0 99 && inB x.f4 0 9))))) := by
  unfold arcBad hasB
  cases h1 : inB x.f0 0 (wrap64 (n - 1)) <;> cases h2 : inB x.f1 0 (wrap64 (n - 1)) <;> simp [h1, h2, Bool.not_and]
theorem netOk_eq (n : Int) (l : List S58) : impl_NetOk.f n l = some (netOkB n l) := rfl
theorem l1Ok_loop (n : Int) (l : List S58) (hl : l.length ≤ 9223372036854775807) (i : Nat) (hi : i ≤ l.length) :
    Ev (fun k => spec_l1Ok.l0 k (i : Int) n l) (!((l.drop i).any (arcBad n)) && (inB n 1 8 && decide (l.length ≤ 16))) := by
  refine ev_ind (fun k (i : Nat) => spec_l1Ok.l0 k (i : Int) n l) (fun i => l.length - i) (fun i => i ≤ l.length) (fun i => !((l.drop i).any (arcBad n)) && (inB n 1 8 && decide (l.length ≤ 16))) ?_ i hi
  intro i hi ih
  by_cases h : i < l.length
  · have hlt : (i : Int) < (l.length : Int) := by omega
    have h0 : (0 : Int) ≤ (i : Int) := by omega
    simp only [spec_l1Ok.l0, hlt, h0, if_true, l1In_eq, Option.bind_some, arc_at l i h, wsucc h hl]
    rw [any_at _ _ _ h, arcBad_eq]
    have ih' := ih (i + 1) (by omega) (by omega)
    generalize (l.drop (i + 1)).any (arcBad n) = q at ih' ⊢
    generalize l[i] = x at ih' ⊢
    cases inB x.f0 0 (wrap64 (n - 1)) with
    | false => exact ev_now fun k => by simp
    | true =>
    cases inB x.f1 0 (wrap64 (n - 1)) with
    | false => exact ev_now fun k => by simp
    | true =>
    by_cases he : x.f0 = x.f1
    · exact ev_now fun k => by simp [he]
    · cases inB x.f2 0 99 with
      | false => exact ev_now fun k => by simp [he]
      | true =>
      cases inB x.f3 0 99 with
      | false => exact ev_now fun k => by simp [he]
      | true =>
      cases inB x.f4 0 9 with
      | false => exact ev_now fun k => by simp [he]
      | true =>
        have he' : (x.f0 == x.f1) = false := beq_eq_false_iff_ne.2 he
        simpa [he, he'] using ih'
  · have hlt : ¬ (i : Int) < (l.length : Int) := by omega
    have he : i = l.length := by omega
    simp only [spec_l1Ok.l0, hlt, if_false, l1In_eq, Option.bind_some]
    subst he
    refine ev_now fun k => ?_
    cases inB n 1 8 <;> simp
    omega
theorem l1Ok_ev (n : Int) (l : List S58) (hl : l.length ≤ 9223372036854775807) : Ev (fun k => spec_l1Ok.f k n l) (netOkB n l) := by
  refine ev_at (l1Ok_loop n l hl 0 (Nat.zero_le _)) ?_
  unfold netOkB
  rw [List.drop_zero]
  cases inB n 1 8 <;> cases decide (l.length ≤ 16) <;> cases l.any (arcBad n) <;> rfl
theorem netOk_len {n : Int} {l : List S58} (h : netOkB n l = true) : l.length ≤ 16 := by
  unfold netOkB at h
  simp only [Bool.and_eq_true, decide_eq_true_eq] at h
  exact h.2.1
theorem inB_iff {a b c : Int} : inB a b c = true ↔ b ≤ a ∧ a ≤ c := by unfold inB; rw [Bool.and_eq_true, decide_eq_true_eq, decide_eq_true_eq]
/-! ### a valid net -/
/-- What a valid net is. -/
structure Net1 (n : Int) (l : List S58) : Prop where
  lo : 1 ≤ n
  hi : n ≤ 8
  len : l.length ≤ 16
  ends : ∀ x ∈ l, 0 ≤ x.f0 ∧ x.f0 < n ∧ 0 ≤ x.f1 ∧ x.f1 < n ∧ x.f0 ≠ x.f1 ∧ 0 ≤ x.f2 ∧ x.f2 ≤ 99 ∧ 0 ≤ x.f3 ∧ x.f3 ≤ 99 ∧ 0 ≤ x.f4 ∧ x.f4 ≤ 9
theorem net1_of {n : Int} {l : List S58} (h : netOkB n l = true) : Net1 n l := by
  unfold netOkB at h
  simp only [Bool.and_eq_true, decide_eq_true_eq, inB_iff, Bool.not_eq_true'] at h
  obtain ⟨⟨h1, h2⟩, h3, h4⟩ := h
  refine ⟨h1, h2, h3, fun x hx => ?_⟩
  have h5 : arcBad n x = false := by
    cases h6 : arcBad n x with
    | false => rfl
    | true => rw [List.any_eq_true.2 ⟨x, hx, h6⟩] at h4; cases h4
  rw [arcBad_eq] at h5
  simp only [Bool.not_eq_false', Bool.and_eq_true, inB_iff, Bool.not_eq_true', beq_eq_false_iff_ne] at h5
  rw [w_id (n := n - 1) (by omega) (by omega)] at h5
  obtain ⟨a, b, c, d, e, f⟩ := h5
  exact ⟨a.1, by omega, b.1, by omega, c, d.1, d.2, e.1, e.2, f.1, f.2⟩
theorem netOk_of {n : Int} {l : List S58} (hn : Net1 n l) : netOkB n l = true := by
  unfold netOkB
  have hlo := hn.lo
  have hhi := hn.hi
  have hl := hn.len
  simp only [Bool.and_eq_true, decide_eq_true_eq, inB_iff, Bool.not_eq_true']
  refine ⟨⟨hlo, hhi⟩, hl, ?_⟩
  rw [List.any_eq_false]
  intro x hx
  obtain ⟨h1, h2, h3, h4, h5, h6, h7, h8, h9, h10, h11⟩ := hn.ends x hx
  have : arcBad n x = false := by
    rw [arcBad_eq]
    simp only [Bool.not_eq_false', Bool.and_eq_true, inB_iff, Bool.not_eq_true', beq_eq_false_iff_ne]
    rw [w_id (n := n - 1) (by omega) (by omega)]
    exact ⟨⟨h1, by omega⟩, ⟨h3, by omega⟩, h5, ⟨h6, h7⟩, ⟨h8, h9⟩, h10, h11⟩
  rw [this]; exact Bool.false_ne_true
/-! ### all walks that come to no node twice, as they are met -/
def DV (l : List S58) (tg : Int) : Nat → Int → List Int → List Int → List (List Int)
  | 0, _, _, _ => []
  | m + 1, at_, vis, w => if at_ = tg then [w] else (List.range l.length).flatMap fun (i : Nat) => if (rd_T58 l (i : Int)).f0 = at_ ∧ (rd_T58 l (i : Int)).f1 ∉ vis then DV l tg m (rd_T58 l (i : Int)).f1 ((rd_T58 l (i : Int)).f1 :: vis) (w ++ [(i : Int)]) else []
theorem flatMap_len {α : Type} (b : Nat) (f : α → List (List Int)) : ∀ L : List α, (∀ x ∈ L, (f x).length ≤ b) → (L.flatMap f).length ≤ L.length * b
  | [], _ => by simp
  | x :: r, h => by
    rw [List.flatMap_cons, List.length_append, List.length_cons, Nat.add_mul, Nat.one_mul]
    have := flatMap_len b f r fun y hy => h y (by simp [hy])
    have := h x (by simp)
    omega
theorem DV_len (l : List S58) (hl : l.length ≤ 16) (tg : Int) : ∀ (m : Nat) (at_ : Int) (vis w : List Int), (DV l tg m at_ vis w).length ≤ 16 ^ m
  | 0, _, _, _ => by simp [DV]
  | m + 1, at_, vis, w => by
    rw [DV]
    have hp : 0 < 16 ^ m := Nat.pos_of_ne_zero (by simp)
    split
    · rw [Nat.pow_succ]; simp; omega
    · refine Nat.le_trans (flatMap_len (16 ^ m) _ _ fun i _ => ?_) ?_
      · split
        · exact DV_len l hl tg m _ _ _
        · exact Nat.zero_le _
      · rw [List.length_range, Nat.pow_succ, Nat.mul_comm (16 ^ m)]
        exact Nat.mul_le_mul_right _ hl
/-- A list of distinct small numbers is short. -/
theorem nodup_short : ∀ (b : Nat) (vis : List Int), vis.Nodup → (∀ v ∈ vis, 0 ≤ v ∧ v < (b : Int)) → vis.length ≤ b
  | 0, [], _, _ => Nat.le_refl _
  | 0, v :: r, _, h => by have := h v (by simp); omega
  | b + 1, vis, hn, h => by
    have h2 := nodup_short b (vis.erase (b : Int)) (hn.erase _) fun v hv => by
      have h3 := h v (List.mem_of_mem_erase hv)
      have h4 : v ≠ (b : Int) := fun e => by subst e; exact (hn.not_mem_erase) hv
      omega
    have h5 := List.length_erase (a := (b : Int)) (l := vis)
    rw [h5] at h2
    split at h2 <;> omega
def maskOk (s : Nat) (vis : List Int) : Prop := ∀ v : Nat, v < 8 → (s / 2 ^ v % 2 = 0 ↔ (v : Int) ∉ vis)
theorem mask_next {s : Nat} {vis : List Int} (h : maskOk s vis) {u : Int} (h0 : 0 ≤ u) : maskOk (s ||| 2 ^ u.toNat) (u :: vis) := by
  intro v hv
  have h1 := h v hv
  have e : ∀ x : Nat, x / 2 ^ v % 2 = 0 ↔ x.testBit v = false := fun x => by rw [Nat.testBit_eq_decide_div_mod_eq, decide_eq_false_iff_not]; omega
  rw [e] at h1 ⊢
  rw [Nat.testBit_or, Bool.or_eq_false_iff, h1, Nat.testBit_two_pow, decide_eq_false_iff_not, List.mem_cons]
  constructor
  · rintro ⟨a, b⟩ (c | c)
    · exact b (by omega)
    · exact a c
  · intro a
    exact ⟨fun c => a (.inr c), fun c => a (.inl (by omega))⟩
theorem loop_flat (G : Int → List (List Int) → Option (List (List Int))) (F : Nat → List (List Int)) (b B N : Nat) (hG : ∀ (i : Nat) (o : List (List Int)), i < N → o.length + b ≤ B → G (i : Int) o = some (o ++ F i)) (hF : ∀ i, (F i).length ≤ b) : ∀ (c i : Nat) (o : List (List Int)), i + c ≤ N → o.length + c * b ≤ B → loopS G c i o = some (o ++ ((List.range' i c).flatMap F))
  | 0, i, o, _, _ => by simp [loopS]
  | c + 1, i, o, hN, h => by
    rw [Nat.add_mul, Nat.one_mul] at h
    rw [loopS, hG i o (by omega) (by omega), Option.bind_some, loop_flat G F b B N hG hF c (i + 1) _ (by omega) (by rw [List.length_append]; have := hF i; omega), List.range'_succ, List.flatMap_cons, List.append_assoc]
theorem folF_eq {n : Int} {l : List S58} (hn : Net1 n l) (tg : Int) : ∀ (m : Nat) (at_ : Int) (vis : List Int) (s : Nat) (w : List Int) (out : List (List Int)), vis.Nodup → (∀ v ∈ vis, 0 ≤ v ∧ v < (8 : Nat)) → vis.length + m = 9 → maskOk s vis → out.length + 16 ^ m ≤ 100000000000 → folF l tg m at_ s w out = some (out ++ DV l tg m at_ vis w)
  | 0, at_, vis, s, w, out, h1, h2, h3, _, _ => by have := nodup_short 8 vis h1 h2; omega
  | m + 1, at_, vis, s, w, out, h1, h2, h3, h4, h5 => by
    rw [folF, DV]
    have hp : 0 < 16 ^ m := Nat.pos_of_ne_zero (by simp)
    rw [Nat.pow_succ] at h5
    by_cases e : at_ = tg
    · rw [if_pos e, if_pos e, if_pos (by omega)]
    · rw [if_neg e, if_neg e]
      have hl := hn.len
      have hm : l.length * 16 ^ m ≤ 16 * 16 ^ m := Nat.mul_le_mul_right _ hl
      rw [List.range_eq_range']
      refine loop_flat _ _ (16 ^ m) 100000000000 l.length (fun i o hi ho => ?_) (fun i => ?_) _ _ _ (by omega) (by omega)
      · have hx := hn.ends _ (List.getElem_mem hi)
        rw [← arc_at l i hi] at hx
        generalize rd_T58 l (i : Int) = x at hx ⊢
        obtain ⟨_, _, e3, e4, _⟩ := hx
        have hhi := hn.hi
        have hb := h4 x.f1.toNat (by omega)
        rw [Int.toNat_of_nonneg e3] at hb
        by_cases c : x.f0 = at_ ∧ x.f1 ∉ vis
        · rw [if_pos ⟨c.1, hb.2 c.2⟩, if_pos c]
          exact folF_eq hn tg m _ _ _ _ _ (List.nodup_cons.2 ⟨c.2, h1⟩) (fun v hv => by
            rw [List.mem_cons] at hv
            rcases hv with rfl | hv
            · exact ⟨e3, by omega⟩
            · exact h2 v hv) (by rw [List.length_cons]; omega) (mask_next h4 e3) ho
        · rw [if_neg (fun z => c ⟨z.1, hb.1 z.2⟩), if_neg c, List.append_nil]
      · split
        · exact DV_len l hl tg m _ _ _
        · exact Nat.zero_le _
/-! ### a node's number -/
theorem node_of {n : Int} {l : List S58} (hn : Net1 n l) {a : Int} (h : inB a 0 (wrap64 (n - 1)) = true) : 0 ≤ a ∧ a < n := by
  have := hn.lo
  have := hn.hi
  rw [inB_iff, w_id (n := n - 1) (by omega) (by omega)] at h
  omega
/-! ### nodes of a net, and what can be reached -/
theorem nodesIn_eq (n : Int) (l : List S58) (ns : List Int) : impl_nodesIn.f n l ns = some (netOkB n l && hasB n ns) := by
  unfold impl_nodesIn.f impl_Net_has.f
  rw [netOk_eq]
  cases netOkB n l <;> rfl
theorem hasB1 (n a : Int) : hasB n [a] = inB a 0 (wrap64 (n - 1)) := by unfold hasB; simp
theorem hasB2 (n a b : Int) : hasB n [a, b] = (inB a 0 (wrap64 (n - 1)) && inB b 0 (wrap64 (n - 1))) := by unfold hasB; simp
theorem hasB3 (n a b c : Int) : hasB n [a, b, c] = (inB a 0 (wrap64 (n - 1)) && (inB b 0 (wrap64 (n - 1)) && inB c 0 (wrap64 (n - 1)))) := by unfold hasB; simp
/-! ### the best walks: what the program tells -/
def lessC (l : List S58) : List Int → List Int → Bool := lessW fun x => wcost l x 0
def someD (l : List S58) (a b : Int) : List (List Int) := DV l b 8 a [a] []
def someL (l : List S58) (a b : Int) : List (List Int) := sortW (lessC l) (someD l a b)
theorem DV_in (l : List S58) (tg : Int) : ∀ (m : Nat) (at_ : Int) (vis w : List Int), (∀ k ∈ w, 0 ≤ k ∧ k < (l.length : Int)) → ∀ d ∈ DV l tg m at_ vis w, ∀ k ∈ d, 0 ≤ k ∧ k < (l.length : Int)
  | 0, _, _, _, _, d, hd => by simp [DV] at hd
  | m + 1, at_, vis, w, hw, d, hd => by
    rw [DV] at hd
    split at hd
    · rw [List.mem_singleton] at hd
      subst hd
      exact hw
    · obtain ⟨i, hi, hd⟩ := List.mem_flatMap.1 hd
      split at hd
      · refine DV_in l tg m _ _ _ (fun k hk => ?_) d hd
        rw [List.mem_append, List.mem_singleton] at hk
        rw [List.mem_range] at hi
        rcases hk with hk | hk
        · exact hw k hk
        · omega
      · cases hd
theorem simF_eq {n : Int} {l : List S58} (hn : Net1 n l) {a : Int} (ha : 0 ≤ a ∧ a < n) (b : Int) : simF l a b = some (someL l a b) := by
  have hhi := hn.hi
  have hll := hn.len
  have h1 : (l.all fun x => decide (0 ≤ x.f1 ∧ x.f1 < 8)) = true := by
    rw [List.all_eq_true]
    intro x hx
    obtain ⟨_, _, e3, e4, _⟩ := hn.ends x hx
    exact decide_eq_true ⟨e3, by omega⟩
  have hm : maskOk (2 ^ a.toNat) [a] := by
    have h0 : maskOk 0 [] := fun v _ => by simp
    have := mask_next h0 ha.1
    rwa [Nat.zero_or] at this
  have hf := folF_eq hn b 8 a [a] (2 ^ a.toNat) [] [] (by simp) (fun v hv => by rw [List.mem_singleton] at hv; subst hv; exact ⟨ha.1, by omega⟩) (by simp) hm (by simp)
  have hlen := DV_len l hll b 8 a [a] []
  have h2 : ((DV l b 8 a [a] []).all fun w => w.all fun k => decide (0 ≤ k ∧ k < (l.length : Int))) = true := by
    rw [List.all_eq_true]
    intro w hw
    rw [List.all_eq_true]
    intro k hk
    exact decide_eq_true (DV_in l b 8 a [a] [] (by simp) w hw k hk)
  unfold simF
  rw [if_pos ⟨h1, by omega, ha.1, by omega⟩, hf, List.nil_append, Option.bind_some, if_pos ⟨h2, by omega⟩]
  rfl
theorem someI_ok {n : Int} {l : List S58} (hok : netOkB n l = true) {a b m : Int} (ha : inB a 0 (wrap64 (n - 1)) = true) (hb : inB b 0 (wrap64 (n - 1)) = true) (hab : a ≠ b) (hm : inB m 1 6 = true) : impl_SomeWalks.f n l a b m = some ((someL l a b).take m.toNat) := by
  have hn := net1_of hok
  have hm2 := inB_iff.1 hm
  unfold impl_SomeWalks.f swF
  rw [nodesIn_eq, hasB2, hok, ha, hb, Option.bind_some, if_pos (show (true && (true && true)) = true from rfl), if_neg hab, within_eq, Option.bind_some, hm, if_pos rfl, simF_eq hn (node_of hn ha), Option.bind_some, if_pos (by omega)]
theorem someI_bad {n : Int} {l : List S58} {a b m : Int} (h : ¬ (netOkB n l = true ∧ inB a 0 (wrap64 (n - 1)) = true ∧ inB b 0 (wrap64 (n - 1)) = true ∧ a ≠ b ∧ inB m 1 6 = true)) : impl_SomeWalks.f n l a b m = some [] := by
  unfold impl_SomeWalks.f swF
  rw [nodesIn_eq, hasB2, Option.bind_some]
  cases h1 : netOkB n l with
  | false => rfl
  | true =>
  cases h2 : inB a 0 (wrap64 (n - 1)) with
  | false => rfl
  | true =>
  cases h3 : inB b 0 (wrap64 (n - 1)) with
  | false => rfl
  | true =>
  rw [if_pos (show (true && (true && true)) = true from rfl)]
  by_cases e : a = b
  · rw [if_pos e]
  · rw [if_neg e, within_eq, Option.bind_some]
    cases h4 : inB m 1 6 with
    | false => rfl
    | true => exact absurd ⟨h1, h2, h3, e, h4⟩ h
/-! ### so many of the best, put in one by one -/
def fillW (lt : List Int → List Int → Bool) (m : Nat) (L D : List (List Int)) : List (List Int) := D.foldl (fun L w => (insW lt w L).take m) L
theorem insW_take {lt : List Int → List Int → Bool} (w : List Int) : ∀ (m : Nat) (L : List (List Int)), (insW lt w (L.take m)).take m = (insW lt w L).take m
  | 0, L => by rw [List.take_zero, List.take_zero]
  | m + 1, [] => by rw [List.take_nil]
  | m + 1, e :: r => by
    rw [List.take_succ_cons, insW, insW]
    split
    · rw [List.take_succ_cons, List.take_succ_cons]
      congr 1
      cases m with
      | zero => rw [List.take_zero, List.take_zero]
      | succ m => rw [List.take_succ_cons, List.take_succ_cons, List.take_take, Nat.min_eq_left (by omega)]
    · rw [List.take_succ_cons, List.take_succ_cons, insW_take w m r]
theorem fillW_take {lt : List Int → List Int → Bool} (m : Nat) : ∀ (D L : List (List Int)), fillW lt m (L.take m) D = (D.foldl (fun L w => insW lt w L) L).take m
  | [], L => rfl
  | d :: D, L => by
    unfold fillW
    rw [List.foldl_cons, List.foldl_cons, insW_take]
    exact fillW_take m D _
theorem fillW_sort {lt : List Int → List Int → Bool} (m : Nat) (D : List (List Int)) : fillW lt m [] D = (sortW lt D).take m := by
  have := fillW_take (lt := lt) m D []
  rwa [List.take_nil] at this
theorem fillW_append {lt : List Int → List Int → Bool} (m : Nat) (L D E : List (List Int)) : fillW lt m L (D ++ E) = fillW lt m (fillW lt m L D) E := by unfold fillW; rw [List.foldl_append]
theorem insW_end {lt : List Int → List Int → Bool} (w : List Int) : ∀ L : List (List Int), (∀ e ∈ L, lt w e = false) → insW lt w L = L ++ [w]
  | [], _ => rfl
  | e :: r, h => by rw [insW, if_neg (by rw [h e (by simp)]; exact Bool.false_ne_true), insW_end w r fun x hx => h x (by simp [hx]), List.cons_append]
theorem sorted_take {lt : List Int → List Int → Bool} {L : List (List Int)} (h : SortedW lt L) (m : Nat) : SortedW lt (L.take m) := List.Pairwise.sublist (List.take_sublist m L) h
theorem fillW_ok {lt : List Int → List Int → Bool} (h : TO lt) {m : Nat} : ∀ (D : List (List Int)) {L : List (List Int)}, SortedW lt L → L.length ≤ m → SortedW lt (fillW lt m L D) ∧ (fillW lt m L D).length ≤ m
  | [], _, hs, hl => ⟨hs, hl⟩
  | d :: D, L, hs, hl => by
    unfold fillW
    rw [List.foldl_cons]
    exact fillW_ok h D (sorted_take (insW_sorted h d hs) m) (by rw [List.length_take]; omega)
/-- What is behind the last of so many changes nothing. -/
theorem fillW_full {lt : List Int → List Int → Bool} (h : TO lt) {m : Nat} : ∀ (D : List (List Int)) {L : List (List Int)}, SortedW lt L → (hl : L.length = m) → (hm : 0 < m) → (∀ d ∈ D, lt (L[m - 1]'(by omega)) d = true) → fillW lt m L D = L
  | [], _, _, _, _, _ => rfl
  | d :: D, L, hs, hl, hm, hd => by
    unfold fillW
    rw [List.foldl_cons]
    have e : (insW lt d L).take m = L := by
      rw [insW_end d L, List.take_left' hl]
      intro e he
      obtain ⟨j, hj, rfl⟩ := List.getElem_of_mem he
      have h1 := h.asym (hd d (by simp))
      by_cases e2 : j = m - 1
      · subst e2; exact h1
      · have h2 := List.pairwise_iff_getElem.1 hs j (m - 1) hj (by omega) (by omega)
        exact h.nlt h1 h2
    rw [e]
    exact fillW_full h D hs hl hm fun x hx => hd x (by simp [hx])
/-- Where one is put. -/
theorem insW_at {lt : List Int → List Int → Bool} (w : List Int) : ∀ (L : List (List Int)) (j : Nat), j ≤ L.length → (∀ i (h : i < L.length), i < j → lt w L[i] = false) → (∀ h : j < L.length, lt w L[j] = true) → insW lt w L = L.take j ++ w :: L.drop j
  | [], j, hj, _, _ => by
    have : j = 0 := by simpa using hj
    subst this
    rfl
  | e :: r, 0, _, _, h2 => by rw [insW, if_pos (show lt w e = true from h2 (by simp))]; rfl
  | e :: r, j + 1, hj, h1, h2 => by
    rw [insW, if_neg (by rw [show lt w e = false from h1 0 (by simp) (by omega)]; exact Bool.false_ne_true), List.take_succ_cons, List.drop_succ_cons, List.cons_append]
    congr 1
    exact insW_at w r j (by simpa using hj) (fun i h hi => h1 (i + 1) (by simpa using h) (by omega)) (fun h => h2 (by simpa using h))
/-! ### the best walks: what the reference tells -/
def toWay (l : List S58) (w : List Int) : S103 := ⟨w, wcost l w 0⟩
theorem wcost_app (l : List S58) : ∀ (u e : List Int) (s : Int), wcost l (u ++ e) s = wcost l e (wcost l u s)
  | [], e, s => rfl
  | x :: u, e, s => by rw [List.cons_append, wcost, wcost, wcost_app l u e]
theorem wcost_one (l : List S58) (u : List Int) (i s : Int) : wcost l (u ++ [i]) s = wrap64 (wcost l u s + (rd_T58 l i).f2) := by rw [wcost_app, wcost, wcost]
theorem wcost_rng {n : Int} {l : List S58} (hn : Net1 n l) : ∀ (e : List Int) (s : Int), (∀ k ∈ e, 0 ≤ k ∧ k < (l.length : Int)) → 0 ≤ s → s + 99 * (e.length : Int) ≤ 1000000000 → s ≤ wcost l e s ∧ wcost l e s ≤ s + 99 * (e.length : Int)
  | [], s, _, _, _ => by simp [wcost]
  | x :: r, s, h, h0, h1 => by
    rw [List.length_cons] at h1 ⊢
    obtain ⟨a, b⟩ := h x (by simp)
    obtain ⟨j, rfl⟩ := Int.eq_ofNat_of_zero_le a
    obtain ⟨_, _, _, _, _, e6, e7, _⟩ := hn.ends _ (List.getElem_mem (show j < l.length by omega))
    rw [← arc_at l j (by omega)] at e6 e7
    rw [wcost, w_id (by omega) (by omega)]
    have := wcost_rng hn r (s + (rd_T58 l (j : Int)).f2) (fun k hk => h k (by simp [hk])) (by omega) (by omega)
    omega
theorem way_at (L : List S103) (i : Nat) (h : i < L.length) : rd_T103 L (i : Int) = L[i] := by simp [rd_T103, h]
theorem l14Less_ev (l : List S58) (a b : List Int) (ha : a.length ≤ 1000) (hb : b.length ≤ 1000) : Ev (fun k => spec_l14Less.f k a (wcost l a 0) b (wcost l b 0)) (lessC l a b) := by
  unfold spec_l14Less.f lessC lessW
  by_cases e : wcost l a 0 = wcost l b 0
  · simp only [e, if_true]
    by_cases e2 : a.length = b.length
    · have e3 : (a.length : Int) = (b.length : Int) := by omega
      simp only [e2, if_true]
      have := ev_ind (fun k (i : Nat) => spec_l14Less.l0 k (i : Int) a (wcost l b 0) b (wcost l b 0)) (fun i => a.length - i) (fun i => i ≤ a.length) (fun i => lexB (a.drop i) (b.drop i)) ?_ 0 (Nat.zero_le _)
      · simpa using this
      intro i hi ih
      by_cases h : i < a.length
      · have hlt : (i : Int) < (a.length : Int) := by omega
        have hlt2 : (i : Int) < (b.length : Int) := by omega
        have h0 : (0 : Int) ≤ (i : Int) := by omega
        have hb2 : i < b.length := by omega
        simp only [spec_l14Less.l0, hlt, hlt2, h0, if_true, rd_at a i h, rd_at b i hb2, wsucc h (show a.length ≤ 9223372036854775807 by omega)]
        rw [List.drop_eq_getElem_cons h, List.drop_eq_getElem_cons hb2, lexB]
        by_cases c : a[i] = b[i]
        · simp only [c, if_true]
          exact ih (i + 1) (by omega) (by omega)
        · simp only [c, if_false]
          exact ev_now fun _ => rfl
      · have hlt : ¬ (i : Int) < (a.length : Int) := by omega
        simp only [spec_l14Less.l0, hlt, if_false]
        refine ev_now fun _ => ?_
        rw [List.drop_of_length_le (by omega), List.drop_of_length_le (by omega)]
        rfl
    · have e3 : ¬ (a.length : Int) = (b.length : Int) := by omega
      simp only [e2, e3, if_false]
      refine ev_now fun _ => ?_
      congr 1
      apply decide_eq_decide.2
      omega
  · simp only [e, if_false]
    exact ev_now fun _ => rfl
theorem putTail (l : List S58) (w : List Int) (L : List (List Int)) (j m : Nat) (hj : j ≤ L.length) (e : insW (lessC l) w L = L.take j ++ w :: L.drop j) : (((L.map (toWay l)).take j ++ [toWay l w]) ++ (L.map (toWay l)).drop j).take m = ((insW (lessC l) w L).take m).map (toWay l) := by
  rw [e, List.map_take, List.map_append, List.map_cons, List.map_take, List.map_drop, List.append_assoc, List.singleton_append]
theorem l14Put_ev (l : List S58) (w : List Int) (L : List (List Int)) (m : Int) (hm : 1 ≤ m) (hw : w.length ≤ 1000) (hL : L.length ≤ 1000) (hLw : ∀ x ∈ L, x.length ≤ 1000) : Ev (fun k => spec_l14Put.f k (L.map (toWay l)) w (wcost l w 0) m) (((insW (lessC l) w L).take m.toNat).map (toWay l)) := by
  unfold spec_l14Put.f
  have hml : (L.map (toWay l)).length = L.length := List.length_map _
  have tail : ∀ j : Nat, j ≤ L.length → insW (lessC l) w L = L.take j ++ w :: L.drop j → ∀ Y : List S103, Y = ((L.map (toWay l)).take j ++ [toWay l w]) ++ (L.map (toWay l)).drop j → (if (Y.length : Int) > m then (if 0 ≤ m then (if m ≤ (Y.length : Int) then (some (Y.take m.toNat)) else none) else none) else (some Y)) = some (((insW (lessC l) w L).take m.toNat).map (toWay l)) := by
    intro j hj e Y hY
    rw [← putTail l w L j m.toNat hj e, ← hY]
    by_cases c : (Y.length : Int) > m
    · rw [if_pos c, if_pos (by omega), if_pos (by omega)]
    · rw [if_neg c, List.take_of_length_le (by omega)]
  refine ev_ind (fun k (j : Nat) => spec_l14Put.l0 k (L.map (toWay l)) m (j : Int) w (wcost l w 0)) (fun j => L.length - j) (fun j => j ≤ L.length ∧ ∀ i (h : i < L.length), i < j → lessC l w L[i] = false) (fun _ => ((insW (lessC l) w L).take m.toNat).map (toWay l)) ?_ 0 ⟨Nat.zero_le _, fun i _ h => absurd h (Nat.not_lt_zero _)⟩
  rintro j ⟨hj, hb⟩ ih
  have hjl : j ≤ (L.map (toWay l)).length := by rw [hml]; exact hj
  have t1 : ((L.map (toWay l)).take j).length = j := by rw [List.length_take, hml]; omega
  have t2 : ((L.map (toWay l)).drop j).length = L.length - j := by rw [List.length_drop, hml]
  by_cases h : j < L.length
  · have hlt : (j : Int) < (L.length : Int) := by omega
    have h0 : (0 : Int) ≤ (j : Int) := by omega
    have hle : (j : Int) ≤ (L.length : Int) := by omega
    have hat : rd_T103 (L.map (toWay l)) (j : Int) = toWay l L[j] := by rw [way_at _ j (by rw [hml]; exact h), List.getElem_map]
    simp only [spec_l14Put.l0, hml, hlt, h0, hle, if_true, hat, toWay, Option.bind_some, List.length_nil, Nat.zero_add, List.nil_append, Int.toNat_natCast, wsucc h (show L.length ≤ 9223372036854775807 by omega)]
    refine Ev.bind (l14Less_ev l w L[j] hw (hLw _ (List.getElem_mem h))) ?_
    cases c : lessC l w L[j] with
    | false =>
      simp only [Bool.false_eq_true, if_false]
      exact ih (j + 1) ⟨by omega, fun i hi hij => by
        by_cases e : i = j
        · subst e; exact c
        · exact hb i hi (by omega)⟩ (by omega)
    | true =>
      have e := insW_at (lt := lessC l) w L j hj hb (fun _ => c)
      have b1 : ((L.map (toWay l)).take j).length < 4398046511104 := by rw [t1]; omega
      have b2 : ((L.map (toWay l)).take j ++ [toWay l w]).length + ((L.map (toWay l)).drop j).length < 4398046511104 := by rw [List.length_append, t1, t2]; simp; omega
      have b0 : ((L.map (toWay l)).take j).length < 4398046511104 := b1
      have hk := tail j hj e _ rfl
      unfold toWay at b1 b2 hk ⊢
      simp only [if_true, b1, b2]
      exact ev_now fun _ => hk
  · have hlt : ¬ (j : Int) < (L.length : Int) := by omega
    have h0 : (0 : Int) ≤ (j : Int) := by omega
    have hle : (j : Int) ≤ (L.length : Int) := by omega
    have e := insW_at (lt := lessC l) w L j hj hb (fun hc => absurd hc h)
    have b1 : ((L.map (toWay l)).take j).length < 4398046511104 := by rw [t1]; omega
    have b2 : ((L.map (toWay l)).take j ++ [toWay l w]).length + ((L.map (toWay l)).drop j).length < 4398046511104 := by rw [List.length_append, t1, t2]; simp; omega
    have hk := tail j hj e _ rfl
    simp only [spec_l14Put.l0, hml, hlt, h0, hle, if_true, if_false, Option.bind_some, List.length_nil, Nat.zero_add, List.nil_append, Int.toNat_natCast]
    unfold toWay at b1 b2 hk ⊢
    simp only [if_true, b1, b2]
    exact ev_now fun _ => hk
/-! ### walks to no node twice -/
inductive SP (l : List S58) (tg : Int) : Int → List Int → List Int → Prop
  | nil {vis : List Int} : SP l tg tg vis []
  | cons {i : Nat} {at_ : Int} {vis e : List Int} : i < l.length → (rd_T58 l (i : Int)).f0 = at_ → at_ ≠ tg → (rd_T58 l (i : Int)).f1 ∉ vis → SP l tg (rd_T58 l (i : Int)).f1 ((rd_T58 l (i : Int)).f1 :: vis) e → SP l tg at_ vis ((i : Int) :: e)
theorem DV_sound (l : List S58) (tg : Int) : ∀ (m : Nat) (at_ : Int) (vis w d : List Int), d ∈ DV l tg m at_ vis w → ∃ e, d = w ++ e ∧ SP l tg at_ vis e
  | 0, _, _, _, d, hd => by simp [DV] at hd
  | m + 1, at_, vis, w, d, hd => by
    rw [DV] at hd
    split at hd
    · rename_i e
      rw [List.mem_singleton] at hd
      subst e
      exact ⟨[], by rw [List.append_nil]; exact hd, SP.nil⟩
    · rename_i e
      obtain ⟨i, hi, hd⟩ := List.mem_flatMap.1 hd
      split at hd
      · rename_i c
        obtain ⟨e2, h1, h2⟩ := DV_sound l tg m _ _ _ d hd
        exact ⟨(i : Int) :: e2, by rw [h1, List.append_assoc]; rfl, SP.cons (List.mem_range.1 hi) c.1 e c.2 h2⟩
      · cases hd
theorem DV_full {n : Int} {l : List S58} (hn : Net1 n l) (tg : Int) {at_ : Int} {vis e : List Int} (h : SP l tg at_ vis e) : ∀ (m : Nat) (w : List Int), vis.Nodup → (∀ v ∈ vis, 0 ≤ v ∧ v < (8 : Nat)) → vis.length + m = 9 → w ++ e ∈ DV l tg m at_ vis w := by
  induction h with
  | nil =>
    intro m w h1 h2 h3
    have := nodup_short 8 _ h1 h2
    obtain ⟨k, rfl⟩ : ∃ k, m = k + 1 := ⟨m - 1, by omega⟩
    rw [DV, if_pos rfl, List.append_nil]
    exact List.mem_singleton.2 rfl
  | @cons i at_ vis e hi h0 hne hv _ ih =>
    intro m w h1 h2 h3
    have := nodup_short 8 _ h1 h2
    obtain ⟨k, rfl⟩ : ∃ k, m = k + 1 := ⟨m - 1, by omega⟩
    rw [DV, if_neg hne]
    refine List.mem_flatMap.2 ⟨i, List.mem_range.2 hi, ?_⟩
    rw [if_pos ⟨h0, hv⟩]
    have hx := hn.ends _ (List.getElem_mem hi)
    rw [← arc_at l i hi] at hx
    obtain ⟨_, _, e3, e4, _⟩ := hx
    have hhi := hn.hi
    have := ih k (w ++ [(i : Int)]) (List.nodup_cons.2 ⟨hv, h1⟩) (fun v hv2 => by
      rw [List.mem_cons] at hv2
      rcases hv2 with rfl | hv2
      · exact ⟨e3, by omega⟩
      · exact h2 v hv2) (by rw [List.length_cons]; omega)
    rwa [List.append_assoc] at this
theorem DV_nodup (l : List S58) (tg : Int) : ∀ (m : Nat) (at_ : Int) (vis w : List Int), (DV l tg m at_ vis w).Nodup
  | 0, _, _, _ => by simp [DV]
  | m + 1, at_, vis, w => by
    rw [DV]
    split
    · simp
    · unfold List.Nodup
      rw [List.pairwise_flatMap]
      constructor
      · intro i _
        split
        · exact DV_nodup l tg m _ _ _
        · exact List.Pairwise.nil
      · refine List.Pairwise.imp ?_ List.nodup_range
        intro i j hij x hx y hy e
        subst e
        split at hx
        · split at hy
          · obtain ⟨e1, h1, _⟩ := DV_sound l tg m _ _ _ x hx
            obtain ⟨e2, h2, _⟩ := DV_sound l tg m _ _ _ x hy
            rw [h1, List.append_assoc, List.append_assoc] at h2
            have h3 := List.append_cancel_left h2
            rw [List.singleton_append, List.singleton_append, List.cons.injEq] at h3
            exact hij (by omega)
          · cases hy
        · cases hx
theorem someD_iff {n : Int} {l : List S58} (hn : Net1 n l) {a b : Int} (ha : 0 ≤ a ∧ a < n) (d : List Int) : d ∈ someD l a b ↔ SP l b a [a] d := by
  have hhi := hn.hi
  constructor
  · intro h
    obtain ⟨e, h1, h2⟩ := DV_sound l b 8 a [a] [] d h
    rw [List.nil_append] at h1
    subst h1
    exact h2
  · intro h
    have := DV_full hn b h 8 [] (by simp) (fun v hv => by rw [List.mem_singleton] at hv; subst hv; exact ⟨ha.1, by omega⟩) (by simp)
    rwa [List.nil_append] at this
theorem someL_mem {n : Int} {l : List S58} (hn : Net1 n l) {a b : Int} (ha : 0 ≤ a ∧ a < n) (d : List Int) : d ∈ someL l a b ↔ SP l b a [a] d := by
  rw [← someD_iff hn ha]
  exact (sortW_perm (lessC l) (someD l a b)).mem_iff
theorem someL_sorted (l : List S58) (a b : Int) : SortedW (lessC l) (someL l a b) := sortW_sorted (toW _) _
theorem someL_strict (l : List S58) (a b : Int) : (someL l a b).Pairwise fun x y => lessC l x y = true := by
  have h1 := someL_sorted l a b
  have h2 : (someL l a b).Nodup := (sortW_perm (lessC l) (someD l a b)).nodup_iff.2 (DV_nodup l b 8 a [a] [])
  unfold SortedW at h1
  unfold List.Nodup at h2
  refine List.Pairwise.imp ?_ (h1.and h2)
  intro x y h
  cases h3 : lessC l x y with
  | true => rfl
  | false => exact absurd ((toW _).tot x y h3 h.1) h.2
/-- How a walk to no node twice goes. -/
theorem SP.goes {l : List S58} {tg at_ : Int} {vis e : List Int} (h : SP l tg at_ vis e) : (∀ k ∈ e, 0 ≤ k ∧ k < (l.length : Int)) ∧ (vis.Nodup → (∀ v ∈ vis, 0 ≤ v ∧ v < (8 : Nat)) → (∀ x ∈ l, 0 ≤ x.f1 ∧ x.f1 < (8 : Nat)) → e.length + vis.length ≤ 8) := by
  induction h with
  | nil => exact ⟨by simp, fun h1 h2 _ => by have := nodup_short 8 _ h1 h2; simpa using this⟩
  | @cons i at_ vis e hi h0 hne hv _ ih =>
    refine ⟨fun k hk => ?_, fun h1 h2 h3 => ?_⟩
    · rw [List.mem_cons] at hk
      rcases hk with rfl | hk
      · omega
      · exact ih.1 k hk
    · have hx := h3 _ (List.getElem_mem hi)
      rw [← arc_at l i hi] at hx
      have := ih.2 (List.nodup_cons.2 ⟨hv, h1⟩) (fun v hv2 => by
        rw [List.mem_cons] at hv2
        rcases hv2 with rfl | hv2
        · exact hx
        · exact h2 v hv2) h3
      rw [List.length_cons] at this ⊢
      omega
theorem SP.len {n : Int} {l : List S58} (hn : Net1 n l) {a b : Int} (ha : 0 ≤ a ∧ a < n) {e : List Int} (h : SP l b a [a] e) : e.length ≤ 7 := by
  have hhi := hn.hi
  have := h.goes.2 (by simp) (fun v hv => by rw [List.mem_singleton] at hv; subst hv; exact ⟨ha.1, by omega⟩) (fun x hx => by obtain ⟨_, _, e3, e4, _⟩ := hn.ends x hx; exact ⟨e3, by omega⟩)
  simpa using this
/-! ### the best walks: the reference goes on from the end of a walk -/
theorem seen_back (seen : List Bool) (v : Int) (h0 : 0 ≤ v) (h1 : v < (seen.length : Int)) (h : rdOf false seen v = false) : (seen.set v.toNat true).set v.toNat false = seen := by
  rw [List.set_set]
  have hv : v.toNat < seen.length := by omega
  have e : seen[v.toNat] = false := by
    unfold rdOf at h
    rw [List.getD_eq_getElem?_getD, List.getElem?_eq_getElem hv] at h
    exact h
  rw [← e, List.set_getElem_self]
theorem seen_next {n : Int} {seen : List Bool} {vis : List Int} (hl : (seen.length : Int) = n) (h : ∀ v, 0 ≤ v → v < n → rdOf false seen v = decide (v ∈ vis)) {u : Int} (h0 : 0 ≤ u) (h1 : u < n) : ∀ v, 0 ≤ v → v < n → rdOf false (seen.set u.toNat true) v = decide (v ∈ u :: vis) := by
  intro v v0 v1
  have h2 := h v v0 v1
  unfold rdOf at h2 ⊢
  rw [List.getD_eq_getElem?_getD, List.getElem?_set]
  by_cases e : u = v
  · subst e
    rw [if_pos rfl, if_pos (by omega)]
    simp
  · rw [if_neg (by omega), ← List.getD_eq_getElem?_getD, h2]
    apply decide_eq_decide.2
    rw [List.mem_cons]
    constructor
    · intro a; exact .inr a
    · rintro (a | a)
      · exact absurd a.symm e
      · exact a
theorem fillW_sub {lt : List Int → List Int → Bool} {m : Nat} : ∀ (D L : List (List Int)), ∀ x ∈ fillW lt m L D, x ∈ L ∨ x ∈ D
  | [], L, x, hx => .inl hx
  | d :: D, L, x, hx => by
    unfold fillW at hx
    rw [List.foldl_cons] at hx
    rcases fillW_sub D _ x hx with h | h
    · have h2 := (insW_perm lt d L).subset (List.mem_of_mem_take h)
      rw [List.mem_cons] at h2
      rcases h2 with rfl | h2
      · exact .inr (by simp)
      · exact .inl h2
    · exact .inr (by simp [h])
theorem DV_short (l : List S58) (tg : Int) : ∀ (m : Nat) (at_ : Int) (vis w : List Int), ∀ d ∈ DV l tg m at_ vis w, d.length ≤ w.length + m
  | 0, _, _, _, d, hd => by simp [DV] at hd
  | m + 1, at_, vis, w, d, hd => by
    rw [DV] at hd
    split at hd
    · rw [List.mem_singleton] at hd
      subst hd
      omega
    · obtain ⟨i, _, hd⟩ := List.mem_flatMap.1 hd
      split at hd
      · have := DV_short l tg m _ _ _ d hd
        rw [List.length_append, List.length_singleton] at this
        omega
      · cases hd
theorem wcost_more {n : Int} {l : List S58} (hn : Net1 n l) {w e : List Int} (hw : ∀ k ∈ w, 0 ≤ k ∧ k < (l.length : Int)) (he : ∀ k ∈ e, 0 ≤ k ∧ k < (l.length : Int)) (hl : w.length ≤ 1000) (hl2 : e.length ≤ 1000) : wcost l w 0 ≤ wcost l (w ++ e) 0 := by
  rw [wcost_app]
  have h1 := wcost_rng hn w 0 hw (by omega) (by omega)
  exact (wcost_rng hn e _ he (by omega) (by omega)).1
theorem l14Go_ev {n : Int} {l : List S58} (hn : Net1 n l) (tg most : Int) (hm1 : 1 ≤ most) (hm6 : most ≤ 6) : ∀ (m : Nat) (at_ : Int) (vis : List Int) (seen : List Bool) (w : List Int) (L : List (List Int)), vis.Nodup → (∀ v ∈ vis, 0 ≤ v ∧ v < (8 : Nat)) → vis.length + m = 9 → (seen.length : Int) = n → (∀ v, 0 ≤ v → v < n → rdOf false seen v = decide (v ∈ vis)) → w.length + m ≤ 9 → (∀ k ∈ w, 0 ≤ k ∧ k < (l.length : Int)) → SortedW (lessC l) L → L.length ≤ most.toNat → (∀ x ∈ L, x.length ≤ 1000) →
    Ev (fun k => spec_l14Go.f k n l tg most at_ seen w (wcost l w 0) (L.map (toWay l))) ((fillW (lessC l) most.toNat L (DV l tg m at_ vis w)).map (toWay l), seen)
  | 0, at_, vis, seen, w, L, h1, h2, h3, _, _, _, _, _, _, _ => by have := nodup_short 8 vis h1 h2; omega
  | m + 1, at_, vis, seen, w, L, h1, h2, h3, h4, h5, h6, h7, h8, h9, h10 => by
    have hll := hn.len
    refine ev_shift ?_
    by_cases e : at_ = tg
    · rw [DV, if_pos e]
      have b1 : ([] : List Int).length + w.length < 17592186044416 := by simp; omega
      simp only [spec_l14Go.f, e, if_true, Option.bind_some, b1, List.nil_append]
      exact Ev.bind (l14Put_ev l w L most hm1 (by omega) (by omega) h10) (ev_now fun _ => rfl)
    rw [DV, if_neg e]
    simp only [spec_l14Go.f, e, if_false]
    rw [List.range_eq_range']
    obtain ⟨F, hF⟩ : ∃ F : Nat → List (List Int), F = fun (i : Nat) => if (rd_T58 l (i : Int)).f0 = at_ ∧ (rd_T58 l (i : Int)).f1 ∉ vis then DV l tg m (rd_T58 l (i : Int)).f1 ((rd_T58 l (i : Int)).f1 :: vis) (w ++ [(i : Int)]) else [] := ⟨_, rfl⟩
    rw [← hF]
    have := ev_ind (fun k (s : Nat × List (List Int)) => spec_l14Go.l0 k tg most at_ seen (s.2.map (toWay l)) (s.1 : Int) n l w (wcost l w 0)) (fun s => l.length - s.1) (fun s => s.1 ≤ l.length ∧ SortedW (lessC l) s.2 ∧ s.2.length ≤ most.toNat ∧ ∀ x ∈ s.2, x.length ≤ 1000) (fun s => ((fillW (lessC l) most.toNat s.2 ((List.range' s.1 (l.length - s.1)).flatMap F)).map (toWay l), seen)) ?_ (0, L) ⟨Nat.zero_le _, h8, h9, h10⟩
    · simpa using this
    rintro ⟨i, K⟩ ⟨hi, k1, k2, k3⟩ ih
    simp only at hi k1 k2 k3 ih ⊢
    by_cases h : i < l.length
    · have hlt : (i : Int) < (l.length : Int) := by omega
      have h0 : (0 : Int) ≤ (i : Int) := by omega
      obtain ⟨d, hd⟩ : ∃ d, l.length - i = d + 1 := ⟨l.length - i - 1, by omega⟩
      have hr : (List.range' i (l.length - i)).flatMap F = F i ++ (List.range' (i + 1) (l.length - (i + 1))).flatMap F := by
        rw [hd, List.range'_succ, List.flatMap_cons, show l.length - (i + 1) = d by omega]
      rw [hr, fillW_append]
      have hx := hn.ends _ (List.getElem_mem h)
      rw [← arc_at l i h] at hx
      have next : ∀ K2, K2 = fillW (lessC l) most.toNat K (F i) → Ev (fun k => spec_l14Go.l0 k tg most at_ seen (K2.map (toWay l)) (wrap64 ((i : Int) + 1)) n l w (wcost l w 0)) ((fillW (lessC l) most.toNat (fillW (lessC l) most.toNat K (F i)) ((List.range' (i + 1) (l.length - (i + 1))).flatMap F)).map (toWay l), seen) := by
        intro K2 hK2
        rw [← hK2, wsucc h (show l.length ≤ 9223372036854775807 by omega)]
        have ok := fillW_ok (toW _) (m := most.toNat) (F i) k1 k2
        refine ih (i + 1, K2) ⟨by simp; omega, by rw [hK2]; exact ok.1, by rw [hK2]; exact ok.2, fun x hx2 => ?_⟩ (by simp; omega)
        rw [hK2] at hx2
        rcases fillW_sub _ _ x hx2 with a | a
        · exact k3 x a
        · rw [hF] at a
          simp only at a
          split at a
          · have := DV_short l tg m _ _ _ x a
            rw [List.length_append, List.length_singleton] at this
            omega
          · cases a
      have skip : F i = [] → Ev (fun k => spec_l14Go.l0 k tg most at_ seen (K.map (toWay l)) (wrap64 ((i : Int) + 1)) n l w (wcost l w 0)) ((fillW (lessC l) most.toNat (fillW (lessC l) most.toNat K (F i)) ((List.range' (i + 1) (l.length - (i + 1))).flatMap F)).map (toWay l), seen) := fun z => next K (by rw [z]; rfl)
      have hFi : F i = if (rd_T58 l (i : Int)).f0 = at_ ∧ (rd_T58 l (i : Int)).f1 ∉ vis then DV l tg m (rd_T58 l (i : Int)).f1 ((rd_T58 l (i : Int)).f1 :: vis) (w ++ [(i : Int)]) else [] := by rw [hF]
      have hone := wcost_one l w (i : Int) 0
      have hKl : (K.map (toWay l)).length = K.length := List.length_map _
      simp only [spec_l14Go.l0, hlt, h0, if_true]
      generalize rd_T58 l (i : Int) = x at hx hFi hone ⊢
      obtain ⟨e1, e2, e3, e4, e5, e6, e7, _⟩ := hx
      by_cases c1 : x.f0 = at_
      · have g1 : x.f1 < (seen.length : Int) := by omega
        have hsv := h5 x.f1 e3 e4
        simp only [c1, if_true, e3, g1]
        by_cases c2 : x.f1 ∈ vis
        · have e8 : rdOf false seen x.f1 = true := by rw [hsv]; exact decide_eq_true c2
          simp only [e8, if_true]
          exact skip (by rw [hFi, if_neg (fun z => z.2 c2)])
        · have e8 : rdOf false seen x.f1 = false := by rw [hsv]; exact decide_eq_false c2
          rw [if_pos ⟨c1, c2⟩] at hFi
          simp only [e8, Bool.false_eq_true, if_false, hKl]
          have b1 : ([] : List Int).length + w.length < 17592186044416 := by simp; omega
          have b2 : w.length + [(i : Int)].length < 17592186044416 := by simp; omega
          have hwi : ∀ k ∈ w ++ [(i : Int)], 0 ≤ k ∧ k < (l.length : Int) := fun k hk => by
            rw [List.mem_append, List.mem_singleton] at hk
            rcases hk with hk | hk
            · exact h7 k hk
            · omega
          have hhi := hn.hi
          have rec_ : Ev (fun k => (spec_l14Go.f k n l tg most x.f1 (seen.set x.f1.toNat true) (w ++ [(i : Int)]) (wrap64 (wcost l w 0 + x.f2)) (K.map (toWay l))).bind fun bt => spec_l14Go.l0 k tg most at_ (bt.2.set x.f1.toNat false) bt.1 (wrap64 ((i : Int) + 1)) n l w (wcost l w 0)) ((fillW (lessC l) most.toNat (fillW (lessC l) most.toNat K (F i)) ((List.range' (i + 1) (l.length - (i + 1))).flatMap F)).map (toWay l), seen) := by
            rw [← hone]
            refine Ev.bind (l14Go_ev hn tg most hm1 hm6 m x.f1 (x.f1 :: vis) (seen.set x.f1.toNat true) (w ++ [(i : Int)]) K (List.nodup_cons.2 ⟨c2, h1⟩) (fun v hv => by
              rw [List.mem_cons] at hv
              rcases hv with rfl | hv
              · exact ⟨e3, by omega⟩
              · exact h2 v hv) (by rw [List.length_cons]; omega) (by rw [List.length_set]; exact h4) (seen_next h4 h5 e3 e4) (by rw [List.length_append, List.length_singleton]; omega) hwi k1 k2 k3) ?_
            simp only [seen_back seen x.f1 e3 g1 e8]
            exact next _ (by rw [hFi])
          by_cases c3 : (K.length : Int) = most
          · have q1 : wrap64 (most - 1) = ((most.toNat - 1 : Nat) : Int) := by rw [w_id (by omega) (by omega)]; omega
            have q2 : (0 : Int) ≤ ((most.toNat - 1 : Nat) : Int) := by omega
            have q3 : ((most.toNat - 1 : Nat) : Int) < (K.length : Int) := by omega
            have q4 : most.toNat - 1 < K.length := by omega
            have q5 : rd_T103 (K.map (toWay l)) ((most.toNat - 1 : Nat) : Int) = toWay l K[most.toNat - 1] := by rw [way_at _ _ (by rw [hKl]; exact q4), List.getElem_map]
            have q6 : (0 : Int) ≤ most - 1 := by omega
            simp only [c3, if_true, q1, q2, q5]
            have q7 : ((most.toNat - 1 : Nat) : Int) < most := by omega
            simp only [q7, if_true]
            by_cases c4 : wrap64 (wcost l w 0 + x.f2) > (toWay l K[most.toNat - 1]).f1
            · simp only [c4, if_true]
              refine next K ?_
              refine (fillW_full (toW _) (F i) k1 (by omega) (by omega) fun d hd => ?_).symm
              rw [hFi] at hd
              obtain ⟨e9, he9, hs9⟩ := DV_sound l tg m _ _ _ d hd
              have hle := DV_short l tg m _ _ _ d hd
              rw [List.length_append, List.length_singleton] at hle
              have hmore := wcost_more hn hwi hs9.goes.1 (by rw [List.length_append, List.length_singleton]; omega) (by
                have := congrArg List.length he9
                rw [List.length_append] at this
                omega)
              rw [← he9, hone] at hmore
              unfold toWay at c4
              simp only at c4
              unfold lessW
              have hne : wcost l K[most.toNat - 1] 0 < wcost l d 0 := Int.lt_of_lt_of_le c4 hmore
              rw [if_neg (fun z => absurd (show wcost l K[most.toNat - 1] 0 = wcost l d 0 from z) (by omega)), decide_eq_true_eq]
              exact hne
            · simp only [c4, if_false, Option.bind_some, b1, b2, if_true, List.nil_append]
              exact rec_
          · simp only [c3, if_false, Option.bind_some, b1, b2, if_true, List.nil_append]
            exact rec_
      · simp only [c1, if_false]
        exact skip (by rw [hFi, if_neg (fun z => c1 z.1)])
    · have hlt : ¬ (i : Int) < (l.length : Int) := by omega
      simp only [spec_l14Go.l0, hlt, if_false]
      refine ev_now fun _ => ?_
      rw [show l.length - i = 0 by omega]
      rfl
/-! ### the best walks, by the reference -/
theorem l14Some_ev {n : Int} {l : List S58} (hn : Net1 n l) {a b m : Int} (ha : 0 ≤ a ∧ a < n) (hm1 : 1 ≤ m) (hm6 : m ≤ 6) : Ev (fun k => spec_l14Some.f k n l a b m) ((someL l a b).take m.toNat) := by
  have hlo := hn.lo
  have hhi := hn.hi
  unfold spec_l14Some.f
  have b1 : n.toNat ≤ 281474976710656 := by omega
  have b2 : (0 : Int) ≤ n := by omega
  have b3 : a < ((List.replicate n.toNat false).length : Int) := by rw [List.length_replicate]; omega
  simp only [b1, b2, b3, ha.1, if_true, Option.bind_some]
  have hs : ∀ v, 0 ≤ v → v < n → rdOf false ((List.replicate n.toNat false).set a.toNat true) v = decide (v ∈ [a]) := by
    refine seen_next (vis := []) (by rw [List.length_replicate]; omega) (fun v v0 v1 => ?_) ha.1 ha.2
    unfold rdOf
    rw [List.getD_eq_getElem?_getD, List.getElem?_replicate]
    split <;> simp
  have hg := l14Go_ev hn b m hm1 hm6 8 a [a] ((List.replicate n.toNat false).set a.toNat true) [] [] (by simp) (fun v hv => by rw [List.mem_singleton] at hv; subst hv; exact ⟨ha.1, by omega⟩) (by simp) (by rw [List.length_set, List.length_replicate]; omega) hs (by simp) (by simp) List.Pairwise.nil (Nat.zero_le _) (by simp)
  have hfill : fillW (lessC l) m.toNat [] (DV l b 8 a [a] []) = (someL l a b).take m.toNat := fillW_sort _ _
  rw [hfill] at hg
  refine Ev.bind hg ?_
  have hlen : ((someL l a b).take m.toNat).length ≤ 6 := by rw [List.length_take]; omega
  have hml : (((someL l a b).take m.toNat).map (toWay l)).length = ((someL l a b).take m.toNat).length := List.length_map _
  generalize (someL l a b).take m.toNat = K at hlen hml ⊢
  have := ev_ind (fun k (s : Nat × List (List Int)) => spec_l14Some.l0 k (K.map (toWay l)) s.2 (s.1 : Int)) (fun s => K.length - s.1) (fun s => s.1 ≤ K.length ∧ s.2.length ≤ s.1) (fun s => s.2 ++ K.drop s.1) ?_ (0, []) ⟨Nat.zero_le _, by simp⟩
  · simpa using this
  rintro ⟨i, x⟩ ⟨hi, hx⟩ ih
  simp only at hi hx ih ⊢
  by_cases h : i < K.length
  · have hlt : (i : Int) < (K.length : Int) := by omega
    have h0 : (0 : Int) ≤ (i : Int) := by omega
    have c1 : x.length < 5864062014805 := by omega
    have hat : rd_T103 (K.map (toWay l)) (i : Int) = toWay l K[i] := by rw [way_at _ i (by rw [hml]; exact h), List.getElem_map]
    simp only [spec_l14Some.l0, hml, hlt, h0, c1, if_true, hat, wsucc h (show K.length ≤ 9223372036854775807 by omega)]
    refine ev_at (ih (i + 1, x ++ [K[i]]) ⟨by simp; omega, by simp; omega⟩ (by simp; omega)) ?_
    rw [List.drop_eq_getElem_cons h, List.append_assoc]
    rfl
  · have hlt : ¬ (i : Int) < (K.length : Int) := by omega
    simp only [spec_l14Some.l0, hml, hlt, if_false]
    refine ev_now fun _ => ?_
    rw [List.drop_of_length_le (by omega), List.append_nil]
/-! ### is a number among others, by the reference -/
theorem l12In_ev (l : List Int) (x : Int) (hl : l.length ≤ 9223372036854775807) : Ev (fun k => spec_l12In.f k l x) (l.contains x) := by
  unfold spec_l12In.f
  have := ev_ind (fun k (i : Nat) => spec_l12In.l0 k l x (i : Int)) (fun i => l.length - i) (fun i => i ≤ l.length) (fun i => (l.drop i).contains x) ?_ 0 (Nat.zero_le _)
  · simpa using this
  intro i hi ih
  by_cases h : i < l.length
  · have hlt : (i : Int) < (l.length : Int) := by omega
    have h0 : (0 : Int) ≤ (i : Int) := by omega
    simp only [spec_l12In.l0, hlt, h0, if_true, rd_at l i h, wsucc h hl]
    rw [List.drop_eq_getElem_cons h, List.contains_cons]
    by_cases he : l[i] = x
    · exact ev_now fun k => by simp [he]
    · have he' : (x == l[i]) = false := beq_eq_false_iff_ne.2 (fun e => he e.symm)
      simp only [he, if_false, he', Bool.false_or]
      exact ih (i + 1) (by omega) (by omega)
  · have hlt : ¬ (i : Int) < (l.length : Int) := by omega
    simp only [spec_l12In.l0, hlt, if_false]
    rw [List.drop_of_length_le (by omega)]
    exact ev_now fun k => rfl
/-! ### what two walks share, by the reference -/
/-- The cost of the arcs of the first that are among the second, added up as the machine adds. -/
def shareFrom (l : List S58) (b : List Int) : List Int → Int → Int
  | [], acc => acc
  | x :: xs, acc => shareFrom l b xs (if b.contains x then wrap64 (acc + (rd_T58 l x).f2) else acc)
theorem l14Share_ev (n : Int) (l : List S58) (a b : List Int) (hl : l.length ≤ 9223372036854775807) (ha : a.length ≤ 9223372036854775807) (hb : b.length ≤ 9223372036854775807) (hin : ∀ (i : Nat) (hi : i < a.length), 0 ≤ a[i] ∧ a[i] < (l.length : Int)) :
    Ev (fun k => spec_l14Share.f k n l a b) (shareFrom l b a 0) := by
  unfold spec_l14Share.f
  have := ev_ind (fun k (s : Nat × Int) => spec_l14Share.l0 k a b s.2 (s.1 : Int) n l) (fun s => a.length - s.1) (fun s => s.1 ≤ a.length) (fun s => shareFrom l b (a.drop s.1) s.2) ?_ (0, 0) (Nat.zero_le _)
  · simpa using this
  rintro ⟨i, acc⟩ hi ih
  simp only at hi ih ⊢
  by_cases h : i < a.length
  · have hlt : (i : Int) < (a.length : Int) := by omega
    have h0 : (0 : Int) ≤ (i : Int) := by omega
    obtain ⟨b0, b1⟩ := hin i h
    simp only [spec_l14Share.l0, hlt, h0, if_true, rd_at a i h, wsucc h ha, b0, b1]
    refine Ev.bind (l12In_ev b a[i] hb) ?_
    rw [List.drop_eq_getElem_cons h]
    unfold shareFrom
    by_cases hc : b.contains a[i] = true
    · simp only [hc, if_true]
      exact ih (i + 1, wrap64 (acc + (rd_T58 l a[i]).f2)) (by simp; omega) (by simp; omega)
    · simp only [hc, if_false]
      exact ih (i + 1, acc) (by simp; omega) (by simp; omega)
  · have hlt : ¬ (i : Int) < (a.length : Int) := by omega
    simp only [spec_l14Share.l0, hlt, if_false]
    rw [List.drop_of_length_le (by omega)]
    exact ev_now fun k => rfl
/-! ### the best walk and others: both tell the same -/
theorem wshare_from (l : List S58) (b : List Int) : ∀ (a : List Int) (s : Int), wshare l b a s = shareFrom l b a s
  | [], _ => rfl
  | k :: r, s => by
    rw [wshare, shareFrom, wshare_from l b r, List.contains_eq_any_beq]
theorem l2Cost_ev (n : Int) (l : List S58) (a : List Int) (ha : a.length ≤ 1000) (hin : ∀ k ∈ a, 0 ≤ k ∧ k < (l.length : Int)) : Ev (fun k => spec_l2Cost.f k n l a) (wcost l a 0) := by
  unfold spec_l2Cost.f
  have := ev_ind (fun k (s : Nat × Int) => spec_l2Cost.l0 k a s.2 (s.1 : Int) n l) (fun s => a.length - s.1) (fun s => s.1 ≤ a.length) (fun s => wcost l (a.drop s.1) s.2) ?_ (0, 0) (Nat.zero_le _)
  · simpa using this
  rintro ⟨i, acc⟩ hi ih
  simp only at hi ih ⊢
  by_cases h : i < a.length
  · have hlt : (i : Int) < (a.length : Int) := by omega
    have h0 : (0 : Int) ≤ (i : Int) := by omega
    obtain ⟨b0, b1⟩ := hin _ (List.getElem_mem h)
    simp only [spec_l2Cost.l0, hlt, h0, if_true, rd_at a i h, wsucc h (show a.length ≤ 9223372036854775807 by omega), b0, b1]
    rw [wcost_at l a i h, rd_at a i h]
    exact ih (i + 1, wrap64 (acc + (rd_T58 l a[i]).f2)) (by simp; omega) (by simp; omega)
  · have hlt : ¬ (i : Int) < (a.length : Int) := by omega
    simp only [spec_l2Cost.l0, hlt, if_false]
    rw [List.drop_of_length_le (by omega)]
    exact ev_now fun k => rfl
theorem bT {a b : Bool} (h : (a && !b) = true) (c : Bool) : (a && !(b || c)) = !c := by cases a <;> cases b <;> simp_all
theorem bF {a b : Bool} (h : (a && !b) = false) (c : Bool) : (a && !(b || c)) = false := by cases a <;> cases b <;> simp_all
theorem alikeB_from (l : List S58) (x : List Int) (first share : Int) (y : List Int) : decide (wrap64 (shareFrom l y x 0 * 100) ≤ wrap64 (first * share)) = !alikeB l x first share y := by
  unfold alikeB
  rw [wshare_from]
  generalize wrap64 (shareFrom l y x 0 * 100) = p
  generalize wrap64 (first * share) = q
  by_cases h : p ≤ q
  · rw [decide_eq_true h, decide_eq_false (by omega)]; rfl
  · rw [decide_eq_false h, decide_eq_true (by omega)]; rfl
theorem othL_len (l : List S58) (longer share first : Int) (A : List (List Int)) : ∀ i, i ≤ A.length → (othL l longer share first (A.take i)).length ≤ i
  | 0, _ => by simp [othL]
  | i + 1, h => by
    have := othL_len l longer share first A i (by omega)
    rw [othL_take l longer share first A i (by omega)]
    split
    · rw [List.length_append, List.length_singleton]; omega
    · omega
theorem othL_in (l : List S58) (longer share first : Int) (A : List (List Int)) : ∀ i, i ≤ A.length → ∀ x ∈ othL l longer share first (A.take i), x ∈ A
  | 0, _, x, hx => by simp [othL] at hx
  | i + 1, h, x, hx => by
    rw [othL_take l longer share first A i (by omega)] at hx
    split at hx
    · rw [List.mem_append, List.mem_singleton] at hx
      rcases hx with hx | rfl
      · exact othL_in l longer share first A i (by omega) x hx
      · exact List.getElem_mem _
    · exact othL_in l longer share first A i (by omega) x hx
/-- The best walks, as they are told. -/
def bestA (l : List S58) (a b : Int) : List (List Int) := (someL l a b).take 6
def goodO (n : Int) (l : List S58) (a b longer share : Int) : Prop := netOkB n l = true ∧ inB a 0 (wrap64 (n - 1)) = true ∧ inB b 0 (wrap64 (n - 1)) = true ∧ a ≠ b ∧ inB longer 0 200 = true ∧ inB share 0 100 = true
def othA (l : List S58) (a b longer share : Int) : List (List Int) := othL l longer share (wcost l ((bestA l a b).getD 0 []) 0) (bestA l a b)
theorem bestA_ok {n : Int} {l : List S58} (hn : Net1 n l) {a b : Int} (ha : 0 ≤ a ∧ a < n) : (bestA l a b).length ≤ 6 ∧ ∀ x ∈ bestA l a b, SP l b a [a] x ∧ x.length ≤ 7 ∧ ∀ k ∈ x, 0 ≤ k ∧ k < (l.length : Int) := by
  refine ⟨by unfold bestA; rw [List.length_take]; omega, fun x hx => ?_⟩
  have hs := (someL_mem hn ha x).1 (List.mem_of_mem_take hx)
  exact ⟨hs, hs.len hn ha, hs.goes.1⟩
theorem othI_ok {n : Int} {l : List S58} {a b longer share : Int} (h : goodO n l a b longer share) : impl_SomeOthers.f n l a b longer share = some (othA l a b longer share) := by
  obtain ⟨h1, h2, h3, h4, h5, h6⟩ := h
  have hn := net1_of h1
  obtain ⟨hl, hx⟩ := bestA_ok hn (node_of hn h2) (b := b)
  have hs : swF n l a b 6 = some (bestA l a b) := someI_ok h1 h2 h3 h4 (by rw [inB_iff]; omega)
  unfold impl_SomeOthers.f soF othA
  rw [within_eq, h5, within_eq, h6]
  simp only [Option.bind_some, if_true, hs]
  rw [if_pos ⟨List.all_eq_true.2 fun x hxm => List.all_eq_true.2 fun k hk => decide_eq_true ((hx x hxm).2.2 k hk), by omega⟩]
theorem othI_bad {n : Int} {l : List S58} {a b longer share : Int} (h : ¬ goodO n l a b longer share) : impl_SomeOthers.f n l a b longer share = some [] := by
  unfold impl_SomeOthers.f soF
  rw [within_eq]
  cases h5 : inB longer 0 200 with
  | false => rfl
  | true =>
  rw [within_eq]
  cases h6 : inB share 0 100 with
  | false => rfl
  | true =>
    have hs : swF n l a b 6 = some [] := someI_bad fun g => h ⟨g.1, g.2.1, g.2.2.1, g.2.2.2.1, h5, h6⟩
    simp only [Option.bind_some, if_true, hs]
    rfl
theorem othS_loop {n : Int} {l : List S58} {longer share : Int} (A : List (List Int)) (hA : A.length ≤ 6) (hx : ∀ x ∈ A, x.length ≤ 7 ∧ ∀ k ∈ x, 0 ≤ k ∧ k < (l.length : Int)) (hll : l.length ≤ 9223372036854775807) :
    Ev (fun k => spec_SomeOthers.l0 k longer share [] A 0 n l) (othL l longer share (wcost l (A.getD 0 []) 0) A) := by
  generalize hfc : wcost l (A.getD 0 []) 0 = fc
  have := ev_ind (fun k (i : Nat) => spec_SomeOthers.l0 k longer share (othL l longer share fc (A.take i)) A (i : Int) n l) (fun i => A.length - i) (fun i => i ≤ A.length) (fun _ => othL l longer share fc A) ?_ 0 (Nat.zero_le _)
  · simpa [othL] using this
  intro i hi ih
  by_cases h : i < A.length
  · have hlt : (i : Int) < (A.length : Int) := by omega
    have h0 : (0 : Int) ≤ (i : Int) := by omega
    have hp : (0 : Int) < (A.length : Int) := by omega
    have e0 : rd_L3 A 0 = A.getD 0 [] := by simp [rd_L3]
    have e1 : rd_L3 A (i : Int) = A[i] := by simp [rd_L3, h]
    have g0 : A.getD 0 [] = A[0] := by simp [show 0 < A.length by omega]
    obtain ⟨x0, x1⟩ := hx A[0] (List.getElem_mem (by omega))
    obtain ⟨y0, y1⟩ := hx A[i] (List.getElem_mem h)
    have c0 := l2Cost_ev n l A[0] (by omega) x1
    rw [← g0, hfc] at c0
    have c1 := l2Cost_ev n l A[i] (by omega) y1
    have hol := othL_len l longer share fc A i hi
    have hoi := othL_in l longer share fc A i hi
    have NX := ih (i + 1) (by omega) (by omega)
    rw [othL_take l longer share fc A i h] at NX
    unfold othOk at NX
    simp only [spec_SomeOthers.l0, hlt, hp, h0, if_true, e0, e1]
    refine Ev.bind c0 (Ev.bind c1 ?_)
    generalize decide (wrap64 (wcost l A[i] 0 * 100) ≤ wrap64 (fc * wrap64 (100 + longer))) = ok0 at NX ⊢
    generalize othL l longer share fc (A.take i) = out at NX hol hoi ⊢
    have key := ev_ind (fun k (j : Nat) => spec_SomeOthers.l1 k longer share out A (i : Int) fc (ok0 && !((out.take j).any (alikeB l A[i] fc share))) (j : Int) n l) (fun j => out.length - j) (fun j => j ≤ out.length) (fun _ => othL l longer share fc A) ?_ 0 (Nat.zero_le _)
    · simpa using key
    intro j hj ihj
    by_cases g : j < out.length
    · have glt : (j : Int) < (out.length : Int) := by omega
      have gj : (0 : Int) ≤ (j : Int) := by omega
      have ej : rd_L3 out (j : Int) = out[j] := by simp [rd_L3, g]
      obtain ⟨z0, _⟩ := hx out[j] (hoi _ (List.getElem_mem g))
      have next := ihj (j + 1) (by omega) (by omega)
      have et : (out.take (j + 1)).any (alikeB l A[i] fc share) = ((out.take j).any (alikeB l A[i] fc share) || alikeB l A[i] fc share out[j]) := by rw [List.take_succ_eq_append_getElem g, List.any_append]; simp
      rw [et] at next
      simp only [spec_SomeOthers.l1, glt, if_true, h0, hlt, gj, e1, ej, wsucc g (show out.length ≤ 9223372036854775807 by omega)]
      cases hq : (ok0 && !((out.take j).any (alikeB l A[i] fc share))) with
      | false =>
        simp only [Bool.false_eq_true, if_false]
        rwa [bF hq] at next
      | true =>
        simp only [if_true]
        refine Ev.bind (l14Share_ev n l A[i] out[j] hll (by omega) (by omega) (fun q hq => y1 _ (List.getElem_mem hq))) ?_
        rw [alikeB_from]
        rwa [bT hq] at next
    · have glt : ¬ (j : Int) < (out.length : Int) := by omega
      have ejl : out.take j = out := List.take_of_length_le (by omega)
      have lim : out.length < 5864062014805 := by omega
      simp only [spec_SomeOthers.l1, glt, if_false, h0, hlt, if_true, e1, lim, ejl, wsucc h (show A.length ≤ 9223372036854775807 by omega)]
      cases hq : (ok0 && !(out.any (alikeB l A[i] fc share))) with
      | false =>
        rw [hq] at NX
        simp only [Bool.false_eq_true, if_false] at NX ⊢
        exact NX
      | true =>
        rw [hq] at NX
        simp only [if_true] at NX ⊢
        exact NX
  · have hlt : ¬ (i : Int) < (A.length : Int) := by omega
    simp only [spec_SomeOthers.l0, hlt, if_false]
    rw [List.take_of_length_le (by omega)]
    exact ev_now fun _ => rfl
theorem othS_ok {n : Int} {l : List S58} (hll : l.length ≤ 9223372036854775807) {a b longer share : Int} (h : goodO n l a b longer share) : Ev (fun k => spec_SomeOthers.f k n l a b longer share) (othA l a b longer share) := by
  obtain ⟨h1, h2, h3, h4, h5, h6⟩ := h
  have hn := net1_of h1
  obtain ⟨hl, hx⟩ := bestA_ok hn (node_of hn h2) (b := b)
  unfold spec_SomeOthers.f
  simp only [Option.bind_some]
  refine Ev.bind (l1Ok_ev n l hll) ?_
  simp only [h1, if_true, l1In_eq, Option.bind_some, h2, h3, h4, if_false, h5, h6, Bool.not_true]
  refine ev_shift ?_
  simp only [spec_SomeOthers.j0, Bool.false_eq_true, if_false]
  refine Ev.bind (l14Some_ev hn (node_of hn h2) (by omega) (by omega)) ?_
  exact othS_loop (bestA l a b) hl (fun x hxm => ⟨(hx x hxm).2.1, (hx x hxm).2.2⟩) hll
theorem othS_bad {n : Int} {l : List S58} (hll : l.length ≤ 9223372036854775807) {a b longer share : Int} (h : ¬ goodO n l a b longer share) : Ev (fun k => spec_SomeOthers.f k n l a b longer share) [] := by
  have hj : Ev (fun k => spec_SomeOthers.j0 k a b longer share [] true n l) [] := ev_shift (ev_now fun k => by simp only [spec_SomeOthers.j0, if_true])
  unfold spec_SomeOthers.f
  simp only [Option.bind_some]
  refine Ev.bind (l1Ok_ev n l hll) ?_
  cases h1 : netOkB n l with
  | false => simpa using hj
  | true =>
  simp only [if_true, l1In_eq, Option.bind_some]
  cases h2 : inB a 0 (wrap64 (n - 1)) with
  | false => simpa using hj
  | true =>
  simp only [if_true]
  cases h3 : inB b 0 (wrap64 (n - 1)) with
  | false => simpa using hj
  | true =>
  simp only [if_true]
  by_cases e : a = b
  · simp only [e, if_true]
    simpa [e] using hj
  · simp only [e, if_false]
    cases h5 : inB longer 0 200 with
    | false => simpa using hj
    | true =>
    simp only [if_true]
    cases h6 : inB share 0 100 with
    | false => simpa using hj
    | true => exact absurd ⟨h1, h2, h3, e, h5, h6⟩ h
/-- What both tell. -/
theorem others_both (n : Int) (l : List S58) (hll : l.length ≤ 9223372036854775807) (a b longer share : Int) : ∃ K : List (List Int), impl_SomeOthers.f n l a b longer share = some K ∧ Ev (fun k => spec_SomeOthers.f k n l a b longer share) K ∧ K.length ≤ 6 ∧ (∀ x ∈ K, x.length ≤ 7) ∧ ((goodO n l a b longer share ∧ K = othA l a b longer share) ∨ K = []) := by
  by_cases h : goodO n l a b longer share
  · have hn := net1_of h.1
    obtain ⟨hl, hx⟩ := bestA_ok hn (node_of hn h.2.1) (b := b)
    have h1 := othL_len l longer share (wcost l ((bestA l a b).getD 0 []) 0) (bestA l a b) (bestA l a b).length (Nat.le_refl _)
    have h2 := othL_in l longer share (wcost l ((bestA l a b).getD 0 []) 0) (bestA l a b) (bestA l a b).length (Nat.le_refl _)
    rw [List.take_length] at h1 h2
    exact ⟨_, othI_ok h, othS_ok hll h, Nat.le_trans h1 hl, fun x hxm => (hx x (h2 x hxm)).2.1, .inl ⟨h, rfl⟩⟩
  · exact ⟨[], othI_bad h, othS_bad hll h, by simp, by simp, .inr rfl⟩
/-! ### a row is itself -/
theorem eqIntS_self (l : List Int) (hl : l.length ≤ 9223372036854775807) : Ev (fun k => laws_eqIntS.f k l l) true := by
  unfold laws_eqIntS.f
  simp only [if_true]
  refine ev_ind (fun k (i : Nat) => laws_eqIntS.l0 k l l (i : Int)) (fun i => l.length - i) (fun i => i ≤ l.length) (fun _ => true) ?_ 0 (Nat.zero_le _)
  intro i hi ih
  by_cases h : i < l.length
  · have hlt : (i : Int) < (l.length : Int) := by omega
    have h0 : (0 : Int) ≤ (i : Int) := by omega
    simp only [laws_eqIntS.l0, hlt, h0, if_true, wsucc h hl]
    exact ih (i + 1) (by omega) (by omega)
  · have hlt : ¬ (i : Int) < (l.length : Int) := by omega
    simp only [laws_eqIntS.l0, hlt, if_false]
    exact ev_now fun _ => rfl
/-! ### a grid is itself -/
theorem rowS_at (s : List (List Int)) (i : Nat) (h : i < s.length) : rd_L3 s (i : Int) = s[i] := by simp [rd_L3, h]
theorem eqIntSS_self (s : List (List Int)) (hs : s.length ≤ 9223372036854775807) (hr : ∀ x ∈ s, x.length ≤ 9223372036854775807) : Ev (fun k => laws_eqIntSS.f k s s) true := by
  unfold laws_eqIntSS.f
  simp only [if_true]
  refine ev_ind (fun k (i : Nat) => laws_eqIntSS.l0 k s s (i : Int)) (fun i => s.length - i) (fun i => i ≤ s.length) (fun _ => true) ?_ 0 (Nat.zero_le _)
  intro i hi ih
  by_cases h : i < s.length
  · have hlt : (i : Int) < (s.length : Int) := by omega
    have h0 : (0 : Int) ≤ (i : Int) := by omega
    simp only [laws_eqIntSS.l0, hlt, h0, if_true, wsucc h hs, rowS_at s i h]
    refine Ev.bind (eqIntS_self s[i] (hr _ (List.getElem_mem h))) ?_
    simp only [if_true]
    exact ih (i + 1) (by omega) (by omega)
  · have hlt : ¬ (i : Int) < (s.length : Int) := by omega
    simp only [laws_eqIntSS.l0, hlt, if_false]
    exact ev_now fun _ => rfl
/-! ### the laws' own helpers: what they copy is the same, what is the same is equal -/
theorem arc118_at (l : List S109) (i : Nat) (h : i < l.length) : rd_T109 l (i : Int) = l[i] := by simp [rd_T109, h]
def arcOf (x : S109) : S58 := ⟨x.f0, x.f1, x.f2, x.f3, x.f4⟩
theorem set_next {α : Type} (f : Nat → α) (m i : Nat) (l : List α) (hl : l.length = m) (hi : i < m) (h : ∀ j, j < i → l[j]? = some (f j)) : ∀ j, j < i + 1 → (l.set i (f i))[j]? = some (f j) := by
  intro j hj
  rw [List.getElem?_set]
  by_cases e : i = j
  · subst e; rw [if_pos rfl, if_pos (by omega)]
  · rw [if_neg e]; exact h j (by omega)
theorem toArcS_loop (l : List S109) (hl : l.length ≤ 9223372036854775807) (i : Nat) (acc : List S58) (hi : i ≤ l.length) (ha : acc.length = l.length) (hp : ∀ j, j < i → acc[j]? = (l.map arcOf)[j]?) :
    Ev (fun k => laws_toArcS.l0 k l acc (i : Int)) (l.map arcOf) := by
  refine ev_ind (fun k (s : Nat × List S58) => laws_toArcS.l0 k l s.2 (s.1 : Int)) (fun s => l.length - s.1) (fun s => s.1 ≤ l.length ∧ s.2.length = l.length ∧ ∀ j, j < s.1 → s.2[j]? = (l.map arcOf)[j]?) (fun _ => l.map arcOf) ?_ (i, acc) ⟨hi, ha, hp⟩
  rintro ⟨i, acc⟩ ⟨hi, ha, hp⟩ ih
  simp only at hi ha hp ih ⊢
  by_cases h : i < l.length
  · have hlt : (i : Int) < (l.length : Int) := by omega
    have hlt' : (i : Int) < (acc.length : Int) := by omega
    have h0 : (0 : Int) ≤ (i : Int) := by omega
    simp only [laws_toArcS.l0, hlt, hlt', h0, if_true, laws_toArc.f, Option.bind_some, arc118_at l i h, wsucc h hl, Int.toNat_natCast]
    refine ih (i + 1, acc.set i (arcOf l[i])) ⟨by simp; omega, by simp [ha], ?_⟩ (by simp; omega)
    intro j hj
    simp only at hj ⊢
    rw [List.getElem?_set]
    by_cases e : i = j
    · subst e
      rw [if_pos rfl, if_pos (by omega)]
      simp [h]
    · rw [if_neg e]; exact hp j (by omega)
  · have hlt : ¬ (i : Int) < (l.length : Int) := by omega
    simp only [laws_toArcS.l0, hlt, if_false]
    refine ev_now fun k => ?_
    congr 1
    apply List.ext_getElem?
    intro j
    by_cases hj : j < l.length
    · exact hp j (by omega)
    · rw [List.getElem?_eq_none (by omega), List.getElem?_eq_none (by simp; omega)]
theorem toNet_ev (n : Int) (l : List S109) (hl : l.length ≤ 1048576) : Ev (fun k => laws_toNet.f k n l) (n, l.map arcOf) := by
  unfold laws_toNet.f
  refine Ev.bind (a := l.map arcOf) ?_ (ev_now fun _ => rfl)
  unfold laws_toArcS.f
  have h0 : (0 : Int) ≤ (l.length : Int) := by omega
  have h1 : ((l.length : Int) : Int).toNat ≤ 7036874417766 := by omega
  simp only [h0, h1, if_true]
  exact toArcS_loop l (by omega) 0 _ (Nat.zero_le _) (by simp) (fun j hj => absurd hj (Nat.not_lt_zero _))
theorem szNet_eq (n : Int) (l : List S109) (hl : l.length ≤ 9223372036854775807) : laws_szNet.f n l 1048576 = some (if l.length ≤ 1048576 then 1048576 - (l.length : Int) else -1) := by
  unfold laws_szNet.f laws_szArcS.f
  rw [w_id (n := 1048576 - (l.length : Int)) (by omega) (by omega)]
  by_cases h : l.length ≤ 1048576
  · rw [if_neg (by omega)]
    simp only [Option.bind_some]
    rw [if_neg (by omega), if_pos h]
  · rw [if_pos (by omega)]
    simp only [Option.bind_some]
    rw [if_pos (by omega), if_neg h]
theorem eqArc_self (x : S58) : laws_eqArc.f x.f0 x.f1 x.f2 x.f3 x.f4 x.f0 x.f1 x.f2 x.f3 x.f4 = some true := by simp [laws_eqArc.f]
theorem eqArcS_self (l : List S58) (hl : l.length ≤ 9223372036854775807) : Ev (fun k => laws_eqArcS.f k l l) true := by
  unfold laws_eqArcS.f
  simp only [if_true]
  refine ev_ind (fun k (i : Nat) => laws_eqArcS.l0 k l l (i : Int)) (fun i => l.length - i) (fun i => i ≤ l.length) (fun _ => true) ?_ 0 (Nat.zero_le _)
  intro i hi ih
  by_cases h : i < l.length
  · have hlt : (i : Int) < (l.length : Int) := by omega
    have h0 : (0 : Int) ≤ (i : Int) := by omega
    simp only [laws_eqArcS.l0, hlt, h0, if_true, eqArc_self, Option.bind_some, wsucc h hl]
    exact ih (i + 1) (by omega) (by omega)
  · have hlt : ¬ (i : Int) < (l.length : Int) := by omega
    simp only [laws_eqArcS.l0, hlt, if_false]
    exact ev_now fun _ => rfl
theorem eqNet_self (n : Int) (l : List S58) (hl : l.length ≤ 9223372036854775807) : Ev (fun k => laws_eqNet.f k n l n l) true := by
  unfold laws_eqNet.f
  simp only [if_true]
  exact Ev.bind (eqArcS_self l hl) (ev_now fun _ => by simp)
/-! ### marks: what a law writes into memory, and looks for again -/
theorem arc_eta (x : S58) : (⟨x.f0, x.f1, x.f2, x.f3, x.f4⟩ : S58) = x := rfl
theorem rd_set (l : List S58) (i : Nat) (v : S58) (h : i < l.length) : rd_T58 (l.set i v) (i : Int) = v := by simp [rd_T58, h]
theorem take_set_next {α : Type} (l : List α) (i : Nat) (v : α) (h : i < l.length) : (l.set i v).take (i + 1) = l.take i ++ [v] := by
  rw [List.take_succ_eq_append_getElem (by simpa using h), List.getElem_set_self, List.take_set_of_le (Nat.le_refl _)]
def nx (a : Int) : Int := wrap64 (a + 1)
def markA (a : Int) : S58 := ⟨a, nx a, nx (nx a), nx (nx (nx a)), nx (nx (nx (nx a)))⟩
def endA : Nat → Int → Int
  | 0, a => a
  | n + 1, a => endA n (nx (nx (nx (nx (nx a)))))
def marksA : Nat → Int → List S58
  | 0, _ => []
  | n + 1, a => markA a :: marksA n (nx (nx (nx (nx (nx a)))))
theorem nx_small {a : Int} (h : 0 ≤ a) (h' : a ≤ 1000000000000) : nx a = a + 1 := by unfold nx wrap64; omega
theorem endA_pos (n : Nat) : ∀ a : Int, 0 ≤ a → a + 5 * (n : Int) ≤ 1000000000 → 0 ≤ endA n a ∧ endA n a = a + 5 * (n : Int) := by
  induction n with
  | zero => intro a h _; exact ⟨h, by simp [endA]⟩
  | succ n ih =>
    intro a h h'
    unfold endA
    rw [nx_small (a := a) (by omega) (by omega), nx_small (a := a + 1) (by omega) (by omega), nx_small (a := a + 1 + 1) (by omega) (by omega), nx_small (a := a + 1 + 1 + 1) (by omega) (by omega), nx_small (a := a + 1 + 1 + 1 + 1) (by omega) (by omega)]
    have := ih (a + 1 + 1 + 1 + 1 + 1) (by omega) (by omega)
    omega
theorem marksA_length (n : Nat) : ∀ a, (marksA n a).length = n := by
  induction n with
  | zero => intro a; rfl
  | succ n ih => intro a; simp [marksA, ih]
theorem markArcS_ev (l : List S58) (a : Int) (hl : l.length ≤ 9223372036854775807) : Ev (fun k => laws_markArcS.f k l a) (endA l.length a, marksA l.length a) := by
  unfold laws_markArcS.f
  have := ev_ind (fun k (s : Nat × List S58 × Int) => laws_markArcS.l0 k s.2.1 s.2.2 (s.1 : Int)) (fun s => l.length - s.1) (fun s => s.1 ≤ l.length ∧ s.2.1.length = l.length) (fun s => (endA (l.length - s.1) s.2.2, s.2.1.take s.1 ++ marksA (l.length - s.1) s.2.2)) ?_ (0, l, a) ⟨Nat.zero_le _, rfl⟩
  · simpa using this
  rintro ⟨i, x, a⟩ ⟨hi, hx⟩ ih
  simp only at hi hx ih ⊢
  by_cases h : i < l.length
  · have hlt : (i : Int) < (x.length : Int) := by omega
    have h0 : (0 : Int) ≤ (i : Int) := by omega
    have hix : i < x.length := by omega
    simp only [laws_markArcS.l0, hlt, h0, if_true, Option.bind_some, Int.toNat_natCast, rd_set, hix, List.length_set, List.set_set, wsucc h hl]
    refine ev_at (ih (i + 1, x.set i (markA a), nx (nx (nx (nx (nx a))))) ⟨by simp; omega, by simp [hx]⟩ (by simp; omega)) ?_
    obtain ⟨d, hd⟩ : ∃ d, l.length - i = d + 1 := ⟨l.length - i - 1, by omega⟩
    simp only [show l.length - (i + 1) = d by omega, hd, endA, marksA, take_set_next _ _ _ hix, List.append_assoc, List.singleton_append]
  · have hlt : ¬ (i : Int) < (x.length : Int) := by omega
    simp only [laws_markArcS.l0, hlt, if_false]
    refine ev_now fun k => ?_
    rw [show l.length - i = 0 by omega, List.take_of_length_le (by omega)]
    simp [endA, marksA]
theorem markNet_ev (n : Int) (l : List S58) (a : Int) (hl : l.length ≤ 9223372036854775807) : Ev (fun k => laws_markNet.f k n l a) (endA l.length a, marksA l.length a) := by
  unfold laws_markNet.f
  exact Ev.bind (markArcS_ev l a hl) (ev_now fun _ => rfl)
/-! ### marks, held -/
def endI : Nat → Int → Int
  | 0, a => a
  | n + 1, a => endI n (nx a)
def marksI : Nat → Int → List Int
  | 0, _ => []
  | n + 1, a => a :: marksI n (nx a)
theorem marksI_length (n : Nat) : ∀ a, (marksI n a).length = n := by
  induction n with
  | zero => intro a; rfl
  | succ n ih => intro a; simp [marksI, ih]
theorem endI_pos (n : Nat) : ∀ a : Int, 0 ≤ a → a + (n : Int) ≤ 1000000000 → 0 ≤ endI n a ∧ endI n a = a + (n : Int) := by
  induction n with
  | zero => intro a h _; exact ⟨h, by simp [endI]⟩
  | succ n ih =>
    intro a h h'
    unfold endI
    rw [nx_small (a := a) (by omega) (by omega)]
    have := ih (a + 1) (by omega) (by omega)
    omega
theorem heldIntS_ev (n : Nat) (a : Int) (hl : n ≤ 9223372036854775807) : Ev (fun k => laws_heldIntS.f k (marksI n a) a) (endI n a) := by
  unfold laws_heldIntS.f
  have := ev_ind (fun k (s : Nat × Int) => laws_heldIntS.l0 k (marksI n a) s.2 (s.1 : Int)) (fun s => n - s.1) (fun s => s.1 ≤ n ∧ (marksI n a).drop s.1 = marksI (n - s.1) s.2) (fun s => endI (n - s.1) s.2) ?_ (0, a) ⟨Nat.zero_le _, by simp⟩
  · simpa using this
  rintro ⟨i, b⟩ ⟨hi, hx⟩ ih
  simp only at hi hx ih ⊢
  have hlen := marksI_length n a
  by_cases h : i < n
  · have hlt : (i : Int) < ((marksI n a).length : Int) := by omega
    have h0 : (0 : Int) ≤ (i : Int) := by omega
    obtain ⟨d, hd⟩ : ∃ d, n - i = d + 1 := ⟨n - i - 1, by omega⟩
    rw [hd, marksI, List.drop_eq_getElem_cons (by omega), List.cons.injEq] at hx
    have hr : rd (marksI n a) (i : Int) = b := by rw [rd_at _ _ (by omega)]; exact hx.1
    simp only [laws_heldIntS.l0, hlt, h0, if_true, hr, wsucc h hl]
    refine ev_at (g := fun k => laws_heldIntS.l0 k (marksI n a) (nx b) ((i + 1 : Nat) : Int)) (ih (i + 1, nx b) ⟨by simp; omega, ?_⟩ (by simp; omega)) ?_ |> fun z => by simpa [nx] using z
    · simp only
      rw [show n - (i + 1) = d by omega]
      exact hx.2
    · rw [show n - (i + 1) = d by omega, hd, endI]
  · have hlt : ¬ (i : Int) < ((marksI n a).length : Int) := by omega
    simp only [laws_heldIntS.l0, hlt, if_false]
    refine ev_now fun k => ?_
    rw [show n - i = 0 by omega, endI]
/-! ### the number behind marks -/
theorem mkI_val : ∀ (n : Nat) (a : Int), 0 ≤ a → a + n ≤ 4000000000000000000 → mkI n a = a + n
  | 0, a, _, _ => by simp [mkI]
  | n + 1, a, h0, h1 => by
    rw [mkI, mkI_val n a h0 (by omega), w_id (by omega) (by omega)]
    omega
theorem mkSS_pos : ∀ (l : List (List Int)) (a : Int), 0 ≤ a → (∀ x ∈ l, x.length ≤ 1048576) → a + 1048576 * (l.length : Int) ≤ 4000000000000000000 → 0 ≤ mkSS l a
  | [], a, h, _, _ => h
  | x :: l, a, h, hx, hb => by
    have h1 := hx x (by simp)
    rw [List.length_cons] at hb
    show 0 ≤ mkSS l (mkI x.length a)
    rw [mkI_val x.length a h (by omega)]
    exact mkSS_pos l _ (by omega) (fun y hy => hx y (by simp [hy])) (by omega)
/-! ### marks in a grid, held -/
theorem mkI_shift (a : Int) : ∀ n : Nat, mkI n (nx a) = mkI (n + 1) a
  | 0 => rfl
  | n + 1 => by rw [mkI, mkI_shift a n, mkI]; rfl
theorem mkRow_cons (a : Int) : ∀ n : Nat, mkRow (n + 1) a = a :: mkRow n (nx a)
  | 0 => rfl
  | n + 1 => by rw [mkRow, mkRow_cons a n, mkRow, mkI_shift]; rfl
theorem marksI_mk : ∀ (n : Nat) (a : Int), marksI n a = mkRow n a
  | 0, _ => rfl
  | n + 1, a => by rw [marksI, marksI_mk n, mkRow_cons]
theorem endI_mk : ∀ (n : Nat) (a : Int), endI n a = mkI n a
  | 0, _ => rfl
  | n + 1, a => by rw [endI, endI_mk n, mkI_shift]
theorem mkSS_le : ∀ (l : List (List Int)) (a : Int), 0 ≤ a → (∀ x ∈ l, x.length ≤ 1000) → a + 1000 * (l.length : Int) ≤ 1000000000 → 0 ≤ mkSS l a ∧ mkSS l a ≤ a + 1000 * (l.length : Int)
  | [], a, h, _, _ => by simp [mkSS]; omega
  | x :: l, a, h, hx, hb => by
    have h1 := hx x (by simp)
    rw [List.length_cons] at hb ⊢
    have h2 := mkSS_le l (mkI x.length a) (by rw [mkI_val x.length a h (by omega)]; omega) (fun y hy => hx y (by simp [hy])) (by rw [mkI_val x.length a h (by omega)]; omega)
    rw [mkI_val x.length a h (by omega)] at h2
    have e : mkSS (x :: l) a = mkSS l (mkI x.length a) := rfl
    rw [e, mkI_val x.length a h (by omega)]
    omega
theorem heldRows_ev (K : List (List Int)) (hl : K.length ≤ 1000) (hx : ∀ x ∈ K, x.length ≤ 1000) : Ev (fun k => laws_heldIntSS.f k (mkRows K 1) 1) (mkSS K 1) := by
  have hml := mkRows_length K 1
  unfold laws_heldIntSS.f
  have := ev_ind (fun k (i : Nat) => laws_heldIntSS.l0 k (mkRows K 1) (mkSS (K.take i) 1) (i : Int)) (fun i => K.length - i) (fun i => i ≤ K.length) (fun _ => mkSS K 1) ?_ 0 (Nat.zero_le _)
  · simpa [mkSS] using this
  intro i hi ih
  by_cases h : i < K.length
  · have hlt : (i : Int) < ((mkRows K 1).length : Int) := by omega
    have h0 : (0 : Int) ≤ (i : Int) := by omega
    have e1 : rd_L3 (mkRows K 1) (i : Int) = mkRow K[i].length (mkSS (K.take i) 1) := by
      rw [← mkRows_at K 1 i h]
      simp [rd_L3, hml, h]
    have hb := mkSS_le (K.take i) 1 (by omega) (fun x hxm => hx x (List.mem_of_mem_take hxm)) (by rw [List.length_take]; omega)
    have hxi := hx K[i] (List.getElem_mem h)
    have hle : (K.take i).length ≤ 1000 := by rw [List.length_take]; omega
    have next := ih (i + 1) (by omega) (by omega)
    rw [mkSS_take K 1 i h] at next
    have ev := heldIntS_ev K[i].length (mkSS (K.take i) 1) (by omega)
    rw [marksI_mk, endI_mk] at ev
    have hv := mkI_val K[i].length (mkSS (K.take i) 1) hb.1 (by omega)
    have hn : ¬ mkI K[i].length (mkSS (K.take i) 1) < 0 := by omega
    simp only [laws_heldIntSS.l0, hlt, h0, if_true, e1, wsucc (show i < (mkRows K 1).length by omega) (show (mkRows K 1).length ≤ 9223372036854775807 by omega)]
    refine Ev.bind ev ?_
    simp only [hn, if_false]
    exact next
  · have hlt : ¬ (i : Int) < ((mkRows K 1).length : Int) := by omega
    simp only [laws_heldIntSS.l0, hlt, if_false]
    rw [List.take_of_length_le (by omega)]
    exact ev_now fun _ => rfl
theorem FnExactSomeOthers : laws_FnExactSomeOthers.Pure := by
  intro n l a b m s _ hl _ _ _ _
  refine Ev.rounds ?_
  unfold laws_FnExactSomeOthers.f
  simp only [szNet_eq n l hl.1, Option.bind_some]
  by_cases h3 : l.length ≤ 1048576
  · have h4 : ¬ (1048576 - (l.length : Int) < 0) := by omega
    simp only [h3, h4, if_true, if_false]
    have hml : (l.map arcOf).length = l.length := List.length_map ..
    have hlm : (l.map arcOf).length ≤ 9223372036854775807 := by omega
    obtain ⟨K, e1, e2, k1, k2, _⟩ := others_both n (l.map arcOf) hlm a b m s
    have hex := endA_pos (l.map arcOf).length 1 (by omega) (by omega)
    have hb := mkSS_le K 1 (by omega) (fun x hx => by have := k2 x hx; omega) (by omega)
    have hall : ((true : Bool) = true ∧ (true : Bool) = true) ∧ 0 ≤ endA (l.map arcOf).length 1 ∧ 0 ≤ mkSS K 1 ∧ mkSS K 1 = mkSS K 1 ∧ K.length ≤ 1048576 ∧ ∀ x ∈ K, x.length ≤ 1048576 := ⟨⟨rfl, rfl⟩, hex.1, hb.1, rfl, by omega, fun x hx => by have := k2 x hx; omega⟩
    refine Ev.bind (toNet_ev n l h3) ?_
    refine Ev.bind e2 ?_
    simp only [e1, Option.bind_some]
    refine Ev.bind (eqIntSS_self K (by omega) (fun x hx => by have := k2 x hx; omega)) ?_
    refine Ev.bind (eqNet_self _ _ hlm) ?_
    refine Ev.bind (markNet_ev _ _ _ hlm) ?_
    refine Ev.bind (heldRows_ev K (by omega) (fun x hx => by have := k2 x hx; omega)) ?_
    exact ev_now fun _ => if_pos hall
  · have h4 : ((-1 : Int) < 0) := by omega
    simp only [h3, h4, if_true, if_false]
    exact ev_now fun _ => rfl
end Go.Proofs.Ytlgolgfcolnddaa.Pure
