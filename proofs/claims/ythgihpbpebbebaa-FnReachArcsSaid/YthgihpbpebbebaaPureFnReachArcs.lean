/- The pure statement of FnReachArcs: of every drawn net, node and cost the program tells of each arc how far it is gone, and what is gone to its end leads to a node that is reached. No condition. -/
import Derived.Test.YthgihpbpebbebaaPureDrawNet
import Derived.Test.YthgihpbpebbebaaPureWkInts
import Derived.Test.YthgihpbpebbebaaPureReachInI
import Derived.Test.YthgihpbpebbebaaPureReachArcs
import Derived.Test.YthgihpbpebbebaaFKinds
import Derived.Test.YthgihpbpebbebaaFlawsFnReachArcs
import Derived.Test.YthgihpbpebbebaaFspecDrawReachArcs
import Derived.Test.YthgihpbpebbebaaFspecDrawReachIn
import Derived.Test.YthgihpbpebbebaaFtextcore
namespace Go.Proofs.Ythgihpbpebbebaa.Pure
open Go.RowKit Go.Proofs.Ythgihpbpebbebaa.F Go.Proofs.YthgihpbpebbebaaW.PrintWords
set_option linter.unusedVariables false
set_option linter.unusedSimpArgs false
theorem drawReachIn_ex (c : List Int) (h : ∀ x ∈ c, (Lit.int .u8 x).wf = true) : ∃ n l a m, Ev (fun k => spec_DrawReachIn.f k c) (n, l, a, m) ∧ l.length ≤ 13 ∧ m ∈ ([0, 3, 10, 50, (-1), 999] : List Int) := by
  obtain ⟨b, hb, ho⟩ := open_ex c h
  obtain ⟨n, l, q, he, h1, h2, h3, h4⟩ := l30AnyNet_ex hb (p := 0) (by omega) (by omega)
  obtain ⟨v, q2, e, g1, g2⟩ := l30Node_ex hb h2 (by omega) n h4 l
  obtain ⟨m, hm, e2⟩ := one_ex hb g1 (by omega) [0, 3, 10, 50, (-1), 999] (by simp) (by simp)
  unfold spec_DrawReachIn.f
  simp only [ho, Option.bind_some]
  exact ⟨n, l, v, m, Ev.bind he (Ev.bind e (Ev.bind e2 (ev_now fun _ => rfl))), h1, hm⟩
theorem drawReachArcs_ex (c : List Int) (h : ∀ x ∈ c, (Lit.int .u8 x).wf = true) : ∃ n l a m, Ev (fun k => spec_DrawReachArcs.f k c) (n, l, a, m) ∧ l.length ≤ 13 ∧ m ∈ ([0, 3, 10, 50, (-1), 999] : List Int) := by
  obtain ⟨n, l, a, m, he, h1, h2⟩ := drawReachIn_ex c h
  exact ⟨n, l, a, m, Ev.bind he (ev_now fun _ => rfl), h1, h2⟩
theorem inL_mem (m : Int) : ∀ (D : List Int) (i v : Nat), (v : Int) ∈ inL m D i ↔ i ≤ v ∧ v - i < D.length ∧ rd D ((v - i : Nat) : Int) < 99999 ∧ rd D ((v - i : Nat) : Int) ≤ m := by
  intro D
  induction D with
  | nil => intro i v; simp [inL]
  | cons d ds ih =>
    intro i v
    have hrd : ∀ j : Nat, rd (d :: ds) ((j + 1 : Nat) : Int) = rd ds (j : Int) := fun j => by simp [rd]
    have h0 : rd (d :: ds) ((0 : Nat) : Int) = d := by simp [rd]
    by_cases e : v = i
    · subst e
      rw [Nat.sub_self, h0, inL]
      by_cases c : d < 99999 ∧ d ≤ m
      · rw [if_pos c]; simp [c]
      · rw [if_neg c, ih]
        constructor
        · intro h; omega
        · intro h; exact absurd h.2.2 c
    · by_cases hv : i < v
      · obtain ⟨j, rfl⟩ : ∃ j, v = i + 1 + j := ⟨v - i - 1, by omega⟩
        have e1 : i + 1 + j - i = j + 1 := by omega
        have e2 : i + 1 + j - (i + 1) = j := by omega
        rw [e1, hrd, inL]
        have key := ih (i + 1) (i + 1 + j)
        rw [e2] at key
        split
        · rw [List.mem_cons, key]
          simp only [List.length_cons]
          constructor
          · rintro (h | h)
            · omega
            · exact ⟨by omega, by omega, h.2.2⟩
          · intro h; exact .inr ⟨by omega, by omega, h.2.2⟩
        · rw [key]
          simp only [List.length_cons]
          constructor
          · intro h; exact ⟨by omega, by omega, h.2.2⟩
          · intro h; exact ⟨by omega, by omega, h.2.2⟩
      · have key := ih (i + 1) v
        constructor
        · intro h
          rw [inL] at h
          split at h
          · rw [List.mem_cons] at h
            rcases h with h | h
            · omega
            · have := key.1 h; omega
          · have := key.1 h; omega
        · intro h; omega
theorem Dist.edge {n : Int} {l : List S31} (hn : Net1 n l) {a : Int} {D : List Int} (hD : Dist n l a D) {x : S31} (hx : x ∈ l) (h : rd D x.f0 < 99999) : rd D x.f1 ≤ rd D x.f0 + x.f2 := by
  obtain ⟨e1, e2, e3, e4, _⟩ := hn.ends x hx
  obtain ⟨m, hw⟩ := hD.inv.way x.f0 e1 e2 h
  have hx' : revA x ∈ backL l := List.mem_map.2 ⟨x, hx, rfl⟩
  have := hD.low _ _ _ (Way.cons (t := a) hx' (show Way (backL l) a (revA x).f1 (rd D x.f0) m from hw))
  simp only [revA] at this
  omega
theorem FnReachArcs : laws_FnReachArcs.Pure := by
  intro c _ _ hc
  refine Ev.rounds ?_
  unfold laws_FnReachArcs.f
  by_cases h0 : (c.length : Int) > 1048576
  · simp only [h0, if_true]; exact ev_now fun _ => rfl
  · simp only [h0, if_false]
    obtain ⟨n, l, a, m, he, hl, hm⟩ := drawReachArcs_ex c hc
    obtain ⟨V, ⟨hV, hs⟩, hi⟩ := reachArcs_val n l a m (by omega)
    have hVl := hV.1
    refine Ev.bind he (Ev.bind hi (Ev.bind hs (Ev.bind (wkInts_self V (by omega)) ?_)))
    simp only [if_true]
    refine ev_shift ?_
    simp only [laws_FnReachArcs.j0]
    by_cases hz : V.length = 0
    · have e : ((V.length : Int) == 0) = true := by rw [beq_iff_eq]; omega
      simp only [e, if_true]
      exact Ev.bind hs (Ev.bind (wkInts_self V (by omega)) (ev_now fun _ => rfl))
    · have e : ((V.length : Int) == 0) = false := by rw [beq_eq_false_iff_ne]; omega
      simp only [e, Bool.false_eq_true, if_false]
      have hok : (netOkB n l && inB a 0 (wrap64 (n - 1))) = true := by
        cases h : (netOkB n l && inB a 0 (wrap64 (n - 1))) with
        | true => rfl
        | false => rw [hV.2.2 h] at hz; exact absurd rfl hz
      obtain ⟨D, hD, rfl⟩ := hV.2.1 hok
      obtain ⟨I, hI, hIe⟩ := reachInI_val n l a m
      obtain ⟨D', hD', rfl⟩ := hI.2.1 hok
      obtain rfl := ev_uniq hD.spec hD'.spec
      have hIl := hI.1
      rw [Bool.and_eq_true] at hok
      have hn := net1_of hok.1
      have hhi := hn.hi
      have hlen := hD.inv.len
      have hmm : -1 ≤ m ∧ m ≤ 999 := by
        simp only [List.mem_cons, List.not_mem_nil, or_false] at hm
        omega
      refine Ev.bind hIe ?_
      have hin : ∀ v : Int, 0 ≤ v → v < n → ((inL m D 0).contains v = true ↔ rd D v < 99999 ∧ rd D v ≤ m) := by
        intro v v0 v1
        obtain ⟨j, rfl⟩ := Int.eq_ofNat_of_zero_le v0
        rw [List.contains_iff_mem, inL_mem]
        simp only [Nat.sub_zero, Nat.zero_le, true_and]
        constructor
        · intro h; exact h.2
        · intro h; exact ⟨by omega, h⟩
      refine ev_ind (fun k (i : Nat) => laws_FnReachArcs.l0 k (l.map (farA m D)) (inL m D 0) (i : Int) n l) (fun i => l.length - i) (fun i => i ≤ l.length) (fun _ => true) ?_ 0 (Nat.zero_le _)
      intro i hi ih
      by_cases h : i < l.length
      · have hlt : (i : Int) < (l.length : Int) := by omega
        have hlt2 : (i : Int) < ((l.map (farA m D)).length : Int) := by rw [List.length_map]; omega
        have hi0 : (0 : Int) ≤ (i : Int) := by omega
        have next := ih (i + 1) (by omega) (by omega)
        have hx := List.getElem_mem h
        obtain ⟨e1, e2, e3, e4, e5, e6, e7, _⟩ := hn.ends l[i] hx
        have hv : rd (l.map (farA m D)) (i : Int) = farA m D l[i] := by rw [rd_at _ i (by rw [List.length_map]; exact h), List.getElem_map]
        have r0 := hD.inv.rng _ e1 e2
        have r1 := hD.inv.rng _ e3 e4
        have ed := hD.edge hn hx
        simp only [laws_FnReachArcs.l0, hlt, hlt2, hi0, if_true, arc_at l i h, wsucc h (show l.length ≤ 9223372036854775807 by omega), hv]
        refine Ev.bind (wkIn_ev _ _ (by omega)) ?_
        by_cases hr : rd D l[i].f0 < 99999 ∧ rd D l[i].f0 ≤ m
        · have hc0 : (inL m D 0).contains l[i].f0 = true := (hin _ e1 e2).2 hr
          have hf : farA m D l[i] = mn l[i].f2 (m - rd D l[i].f0) := by unfold farA; rw [if_pos hr, w_id (by omega) (by omega)]
          have hge : farA m D l[i] ≥ 0 := by rw [hf]; unfold mn; split <;> omega
          have hle : ¬ farA m D l[i] > l[i].f2 := by rw [hf]; unfold mn; split <;> omega
          simp only [hc0, hge, decide_true, bne_self_eq_false, Bool.false_eq_true, if_false, hle]
          by_cases hq : farA m D l[i] = l[i].f2
          · simp only [hq, if_true]
            have hto : rd D l[i].f1 < 99999 ∧ rd D l[i].f1 ≤ m := by
              have h1 := ed hr.1
              rw [hf] at hq
              have : l[i].f2 ≤ m - rd D l[i].f0 := by unfold mn at hq; split at hq <;> omega
              omega
            refine Ev.bind (wkIn_ev _ _ (by omega)) ?_
            have hc1 : (inL m D 0).contains l[i].f1 = true := (hin _ e3 e4).2 hto
            simp only [hc1, if_true]
            exact next
          · simp only [hq, if_false]
            exact next
        · have hc0 : (inL m D 0).contains l[i].f0 = false := by
            cases hb : (inL m D 0).contains l[i].f0 with
            | false => rfl
            | true => exact absurd ((hin _ e1 e2).1 hb) hr
          have hf : farA m D l[i] = -1 := by unfold farA; rw [if_neg hr]
          have hge : ¬ (-1 : Int) ≥ 0 := by omega
          have hle : ¬ (-1 : Int) > l[i].f2 := by omega
          have hq : ¬ (-1 : Int) = l[i].f2 := by omega
          simp only [hf, hc0, hge, decide_false, bne_self_eq_false, Bool.false_eq_true, if_false, hle, hq]
          exact next
      · have hlt2 : ¬ (i : Int) < ((l.map (farA m D)).length : Int) := by rw [List.length_map]; omega
        simp only [laws_FnReachArcs.l0, hlt2, if_false]
        refine ev_now fun k => ?_
        rw [List.length_map]
        simp
end Go.Proofs.Ythgihpbpebbebaa.Pure
