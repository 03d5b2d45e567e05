/- The pure statement of FnReachParts: of every drawn net the program tells of each node the least one of its kind: two have the same one just if they reach each other; turned round it is the same. No condition. -/
import Derived.Test.YthgihpbpebbebaaPureDrawNet
import Derived.Test.YthgihpbpebbebaaPureWkInts
import Derived.Test.YthgihpbpebbebaaPureParts
import Derived.Test.YthgihpbpebbebaaPureNearTo
import Derived.Test.YthgihpbpebbebaaFKinds
import Derived.Test.YthgihpbpebbebaaFimplNetBack
import Derived.Test.YthgihpbpebbebaaFlawsFnReachParts
import Derived.Test.YthgihpbpebbebaaFspecDrawReachParts
import Derived.Test.YthgihpbpebbebaaFtextcore
namespace Go.Proofs.Ythgihpbpebbebaa.Pure
open Go.RowKit Go.Proofs.Ythgihpbpebbebaa.F Go.Proofs.YthgihpbpebbebaaW.PrintWords
set_option linter.unusedVariables false
set_option linter.unusedSimpArgs false
theorem drawReachParts_ex (c : List Int) (h : ∀ x ∈ c, (Lit.int .u8 x).wf = true) : ∃ n l, Ev (fun k => spec_DrawReachParts.f k c) (n, l) ∧ l.length ≤ 13 := by
  obtain ⟨b, hb, ho⟩ := open_ex c h
  obtain ⟨n, l, q, he, h1, _⟩ := l30AnyNet_ex hb (p := 0) (by omega) (by omega)
  unfold spec_DrawReachParts.f
  simp only [ho, Option.bind_some]
  exact ⟨n, l, Ev.bind he (ev_now fun _ => rfl), h1⟩
theorem least_spec (P : Nat → Bool) : ∀ k u m, u ≤ m → m < u + k → P m = true → P (least P k u) = true ∧ u ≤ least P k u ∧ least P k u ≤ m := by
  intro k
  induction k with
  | zero => intro u m h1 h2; omega
  | succ k ih =>
    intro u m h1 h2 hm
    unfold least
    by_cases hu : P u = true
    · rw [if_pos hu]; exact ⟨hu, Nat.le_refl _, h1⟩
    · rw [if_neg hu]
      have hne : u ≠ m := by intro e; rw [e] at hu; exact hu hm
      have := ih (u + 1) m (by omega) (by omega) hm
      exact ⟨this.1, by omega, this.2.2⟩
theorem least_congr (P Q : Nat → Bool) : ∀ k u, (∀ i, u ≤ i → i < u + k → P i = Q i) → least P k u = least Q k u := by
  intro k
  induction k with
  | zero => intro u _; rfl
  | succ k ih =>
    intro u h
    unfold least
    rw [h u (Nat.le_refl _) (by omega), ih (u + 1) fun i h1 h2 => h i (by omega) (by omega)]
theorem bothB_sym (n : Int) (l : List S31) (i q : Nat) : bothB n l i q = bothB n l q i := by unfold bothB; rw [Bool.and_comm]
theorem bothB_trans {n : Int} {l : List S31} (hn : Net1 n l) {i q r : Nat} (hi : i < n.toNat) (hq : q < n.toNat) (hr : r < n.toNat) (h1 : bothB n l i q = true) (h2 : bothB n l q r = true) : bothB n l i r = true := by
  have Di := distV_is hn (s := (i : Int)) (by omega)
  have Dq := distV_is hn (s := (q : Int)) (by omega)
  have Dr := distV_is hn (s := (r : Int)) (by omega)
  unfold bothB at h1 h2 ⊢
  simp only [Bool.and_eq_true, decide_eq_true_eq] at h1 h2 ⊢
  have a1 := Di.tri (by omega) Dq (v := (r : Int)) (by omega) (by omega) h1.1 h2.1
  have a2 := Dr.tri (by omega) Dq (v := (i : Int)) (by omega) (by omega) h2.2 h1.2
  have b1 := Di.small hn (by omega) (v := (q : Int)) (by omega) (by omega) h1.1
  have b2 := Dq.small hn (by omega) (v := (r : Int)) (by omega) (by omega) h2.1
  have b3 := Dr.small hn (by omega) (v := (q : Int)) (by omega) (by omega) h2.2
  have b4 := Dq.small hn (by omega) (v := (i : Int)) (by omega) (by omega) h1.2
  omega
/-- The least node of a node's kind. -/
noncomputable def lowB (n : Int) (l : List S31) (i : Nat) : Nat := least (bothB n l i) n.toNat 0
theorem lowB_is {n : Int} {l : List S31} (hn : Net1 n l) {i : Nat} (hi : i < n.toNat) : bothB n l i (lowB n l i) = true ∧ lowB n l i ≤ i := by
  have := least_spec (bothB n l i) n.toNat 0 i (Nat.zero_le _) (by omega) (bothB_self hn i hi)
  exact ⟨this.1, this.2.2⟩
theorem lowB_iff {n : Int} {l : List S31} (hn : Net1 n l) {i k : Nat} (hi : i < n.toNat) (hk : k < n.toNat) : lowB n l i = lowB n l k ↔ bothB n l i k = true := by
  obtain ⟨a1, a2⟩ := lowB_is hn hi
  obtain ⟨b1, b2⟩ := lowB_is hn hk
  constructor
  · intro h
    rw [← h, bothB_sym] at b1
    exact bothB_trans hn hi (show lowB n l i < n.toNat by omega) hk a1 b1
  · intro h
    have c1 : bothB n l i (lowB n l k) = true := bothB_trans hn hi hk (by omega) h b1
    have c2 : bothB n l k (lowB n l i) = true := bothB_trans hn hk hi (by omega) (by rw [bothB_sym]; exact h) a1
    have d1 := (least_spec (bothB n l i) n.toNat 0 _ (Nat.zero_le _) (show lowB n l k < 0 + n.toNat by omega) c1).2.2
    have d2 := (least_spec (bothB n l k) n.toNat 0 _ (Nat.zero_le _) (show lowB n l i < 0 + n.toNat by omega) c2).2.2
    unfold lowB at d1 d2 ⊢
    omega
theorem partsV_length (n : Int) (l : List S31) : (partsV n l).length = n.toNat := by unfold partsV; rw [List.length_map, List.length_range]
theorem partsV_at (n : Int) (l : List S31) (i : Nat) (hi : i < n.toNat) : rd (partsV n l) (i : Int) = (lowB n l i : Int) := by
  rw [rd_at _ i (by rw [partsV_length]; exact hi)]
  unfold partsV lowB
  rw [List.getElem_map, List.getElem_range]
theorem partsV_back {n : Int} {l : List S31} (hn : Net1 n l) : partsV n (backL l) = partsV n l := by
  unfold partsV
  refine List.map_congr_left fun i hi => ?_
  rw [List.mem_range] at hi
  rw [least_congr _ (bothB n l i)]
  intro q _ hq
  have e1 := (distV_is hn (s := (q : Int)) (by omega)).sym (by omega) (by omega) (distV_is hn.back (s := (i : Int)) (by omega))
  have e2 := (distV_is hn (s := (i : Int)) (by omega)).sym (by omega) (by omega) (distV_is hn.back (s := (q : Int)) (by omega))
  unfold bothB
  rw [← e1, ← e2, Bool.and_comm]
theorem FnReachParts : laws_FnReachParts.Pure := by
  intro c _ _ hc
  refine Ev.rounds ?_
  unfold laws_FnReachParts.f
  by_cases h0 : (c.length : Int) > 1048576
  · simp only [h0, if_true]; exact ev_now fun _ => rfl
  simp only [h0, if_false]
  obtain ⟨n, l, he, hl⟩ := drawReachParts_ex c hc
  have hl9 : l.length ≤ 9223372036854775807 := by omega
  refine Ev.bind he (Ev.bind (implParts_ev n l) (Ev.bind (specParts_ev n l hl9) ?_))
  cases hok : netOkB n l with
  | false =>
    simp only [Bool.false_eq_true, if_false]
    refine Ev.bind (wkInts_self _ (by simp)) ?_
    simp only [if_true]
    refine ev_shift ?_
    have e : ((([] : List Int).length : Int) == 0) = true := rfl
    simp only [laws_FnReachParts.j0, e, if_true]
    refine Ev.bind (specParts_ev n l hl9) ?_
    simp only [hok, Bool.false_eq_true, if_false]
    exact Ev.bind (wkInts_self _ (by simp)) (ev_now fun _ => rfl)
  | true =>
    have hn := net1_of hok
    have hlo := hn.lo
    have hhi := hn.hi
    have hV := partsV_length n l
    simp only [if_true]
    refine Ev.bind (wkInts_self _ (by omega)) ?_
    simp only [if_true]
    refine ev_shift ?_
    have e : (((partsV n l).length : Int) == 0) = false := by rw [beq_eq_false_iff_ne]; omega
    simp only [laws_FnReachParts.j0, e, Bool.false_eq_true, if_false]
    refine ev_ind (fun k (i : Nat) => laws_FnReachParts.l0 k (partsV n l) (i : Int) n l) (fun i => n.toNat - i) (fun i => i ≤ n.toNat) (fun _ => true) ?_ 0 (Nat.zero_le _)
    intro i hi ih
    by_cases h : i < n.toNat
    · have hlt : (i : Int) < n := by omega
      have hi2 : 0 ≤ (i : Int) ∧ (i : Int) < n := by omega
      have next := ih (i + 1) (by omega) (by omega)
      simp only [laws_FnReachParts.l0, hlt, if_true]
      refine Ev.bind (nearAll_ev hok hi2) (Ev.bind (nearTo_ev hok hi2) ?_)
      have D1 := distV_is hn hi2
      have E1 := distV_is hn.back hi2
      have n1 := D1.inv.len
      have n2 := E1.inv.len
      have g0 : (0 : Int) ≤ (i : Int) := by omega
      have g1 : (i : Int) < ((partsV n l).length : Int) := by omega
      refine ev_ind (fun k (q : Nat) => laws_FnReachParts.l1 k (partsV n l) (i : Int) (distV n l (i : Int)) (distV n (backL l) (i : Int)) (q : Int) n l) (fun q => n.toNat - q) (fun q => q ≤ n.toNat) (fun _ => true) ?_ 0 (Nat.zero_le _)
      intro q hq ih2
      by_cases h2 : q < n.toNat
      · have hlt2 : (q : Int) < n := by omega
        have f0 : (0 : Int) ≤ (q : Int) := by omega
        have f1 : (q : Int) < ((partsV n l).length : Int) := by omega
        have f2 : (q : Int) < ((distV n l (i : Int)).length : Int) := by omega
        have f3 : (q : Int) < ((distV n (backL l) (i : Int)).length : Int) := by omega
        have next2 := ih2 (q + 1) (by omega) (by omega)
        have es := (distV_is hn (s := (q : Int)) (by omega)).sym (by omega) (by omega) E1
        have key : ((lowB n l i : Int) == (lowB n l q : Int)) = (decide (rd (distV n l (i : Int)) (q : Int) < 99999) && decide (rd (distV n (backL l) (i : Int)) (q : Int) < 99999)) := by
          rw [← es]
          have := lowB_iff hn h h2
          show _ = bothB n l i q
          cases hb : bothB n l i q with
          | true => rw [this.2 hb]; exact beq_self_eq_true _
          | false =>
            rw [beq_eq_false_iff_ne]
            intro e
            have e' : lowB n l i = lowB n l q := by omega
            rw [this.1 e'] at hb
            cases hb
        simp only [laws_FnReachParts.l1, hlt2, g0, g1, f0, f1, f2, f3, if_true, partsV_at n l i h, partsV_at n l q h2, key, wsucc h2 (show n.toNat ≤ 9223372036854775807 by omega)]
        by_cases c1 : rd (distV n l (i : Int)) (q : Int) < 99999
        · simp only [c1, decide_true, Bool.true_and, bne_self_eq_false, Bool.false_eq_true, if_true, if_false]
          exact next2
        · simp only [c1, decide_false, Bool.false_and, bne_self_eq_false, Bool.false_eq_true, if_false]
          exact next2
      · have hlt2 : ¬ (q : Int) < n := by omega
        have b := lowB_is hn h
        have z1 : ¬ (lowB n l i : Int) > (i : Int) := by omega
        have z2 : (0 : Int) ≤ (lowB n l i : Int) := by omega
        have z3 : (lowB n l i : Int) < ((partsV n l).length : Int) := by omega
        have z4 : lowB n l (lowB n l i) = lowB n l i := ((lowB_iff hn h (show lowB n l i < n.toNat by omega)).2 b.1).symm
        simp only [laws_FnReachParts.l1, hlt2, if_false, g0, g1, if_true, partsV_at n l i h, z1, z2, z3, partsV_at n l (lowB n l i) (show lowB n l i < n.toNat by omega), z4, wsucc h (show n.toNat ≤ 9223372036854775807 by omega)]
        exact next
    · have hlt : ¬ (i : Int) < n := by omega
      have hb := netOk_of hn.back
      have hll := hn.len
      simp only [laws_FnReachParts.l0, hlt, if_false]
      have hback : Ev (fun k => impl_NetBack.f k n l) (n, backL l) := by
        unfold impl_NetBack.f
        simp only [netOk_eq, hok, Option.bind_some, if_true]
        exact Ev.bind (back_ev n l (by omega)) (ev_now fun _ => rfl)
      refine Ev.bind hback (Ev.bind (implParts_ev n (backL l)) ?_)
      simp only [hb, if_true]
      rw [partsV_back hn]
      exact Ev.bind (wkInts_self _ (by omega)) (ev_now fun _ => rfl)
end Go.Proofs.Ythgihpbpebbebaa.Pure
