import Derived.Test.YthgihpbpebbebaaPureTable
import Derived.Test.YthgihpbpebbebaaFKinds
import Derived.Test.YthgihpbpebbebaaFimplReachParts
import Derived.Test.YthgihpbpebbebaaFspecReachParts
import Derived.Test.YthgihpbpebbebaaFspecl1Back
import Derived.Test.YthgihpbpebbebaaFtextcore
namespace Go.Proofs.Ythgihpbpebbebaa.Pure
open Go.RowKit Go.Proofs.Ythgihpbpebbebaa.F Go.Proofs.YthgihpbpebbebaaW.PrintWords
set_option linter.unusedVariables false
set_option linter.unusedSimpArgs false
/-! ### parts -/
/-- The first number from u on of which P is true, of the next so many. -/
def least (P : Nat → Bool) : Nat → Nat → Nat
  | 0, u => u
  | k + 1, u => if P u = true then u else least P k (u + 1)
theorem l1Back_ev (n : Int) (l : List S31) (hl : l.length ≤ 1000) : Ev (fun k => spec_l1Back.f k n l) (n, backL l) := by
  unfold spec_l1Back.f
  have := ev_ind (fun k (s : Nat × List S31) => spec_l1Back.l0 k (s.1 : Int) n l n s.2) (fun s => l.length - s.1) (fun s => s.1 ≤ l.length ∧ s.2.length ≤ s.1) (fun s => (n, s.2 ++ backL (l.drop s.1))) ?_ (0, []) ⟨Nat.zero_le _, by simp⟩
  · simpa using this
  rintro ⟨i, x⟩ ⟨hi, hx⟩ ih
  simp only at hi hx ih ⊢
  by_cases h : i < l.length
  · have hlt : (i : Int) < (l.length : Int) := by omega
    have h0 : (0 : Int) ≤ (i : Int) := by omega
    have b1 : x.length < 3518437208883 := by omega
    simp only [spec_l1Back.l0, hlt, h0, b1, if_true, wsucc h (show l.length ≤ 9223372036854775807 by omega), arc_at l i h]
    refine ev_at (ih (i + 1, x ++ [revA l[i]]) ⟨by simp; omega, by simp; omega⟩ (by simp; omega)) ?_
    rw [List.drop_eq_getElem_cons h, backL, backL, List.map_cons, List.append_assoc]
    rfl
  · have hlt : ¬ (i : Int) < (l.length : Int) := by omega
    simp only [spec_l1Back.l0, hlt, if_false]
    refine ev_now fun k => ?_
    rw [List.drop_of_length_le (by omega)]
    simp [backL]
/-- Whether two nodes reach each other. -/
noncomputable def bothB (n : Int) (l : List S31) (i q : Nat) : Bool := decide (rd (distV n l (i : Int)) (q : Int) < 99999) && decide (rd (distV n l (q : Int)) (i : Int) < 99999)
theorem bothB_self {n : Int} {l : List S31} (hn : Net1 n l) (i : Nat) (h : i < n.toNat) : bothB n l i i = true := by
  have hD := distV_is hn (s := (i : Int)) (by omega)
  unfold bothB
  rw [hD.inv.sz]
  decide
noncomputable def partsV (n : Int) (l : List S31) : List Int := (List.range n.toNat).map fun i => ((least (bothB n l i) n.toNat 0 : Nat) : Int)
theorem least_eq (P : Nat → Bool) (k u : Nat) (m : Nat) (hm : u ≤ m) (hP : P m = true) : ∀ k', m - u < k → m - u < k' → least P k u = least P k' u := by
  induction k generalizing u with
  | zero => intro k' h; omega
  | succ k ih =>
    intro k' h h'
    obtain ⟨q, rfl⟩ : ∃ q, k' = q + 1 := ⟨k' - 1, by omega⟩
    unfold least
    by_cases hu : P u = true
    · rw [if_pos hu, if_pos hu]
    · rw [if_neg hu, if_neg hu]
      have : u ≠ m := by intro e; rw [e] at hu; exact hu hP
      exact ih (u + 1) (by omega) q (by omega) (by omega)
theorem implParts_l1 {n : Int} {l : List S31} (hn : Net1 n l) (out : List Int) (hout : out.length < 17592186044416) (i : Nat) (hi : i < n.toNat) (R : List Int)
    (hR : Ev (fun k => impl_ReachParts.l0 k (tableV n l) (out ++ [((least (bothB n l i) n.toNat 0 : Nat) : Int)]) n (wrap64 ((i : Int) + 1))) R) :
    Ev (fun k => impl_ReachParts.l1 k (tableV n l) out (i : Int) 0 n (i : Int)) R := by
  have hlo := hn.lo
  have hhi := hn.hi
  refine ev_ind (fun k (u : Nat) => impl_ReachParts.l1 k (tableV n l) out (i : Int) (u : Int) n (i : Int)) (fun u => i - u) (fun u => u ≤ i ∧ least (bothB n l i) n.toNat 0 = least (bothB n l i) (n.toNat - u) u) (fun _ => R) ?_ 0 ⟨Nat.zero_le _, rfl⟩
  intro u ⟨hu, he⟩ ih
  have Di := distV_is hn (s := (i : Int)) (by omega)
  have Du := distV_is hn (s := (u : Int)) (by omega)
  have li := Di.inv.len
  have lu := Du.inv.len
  have ri := Di.inv.rng (u : Int) (by omega) (by omega)
  have ru := Du.inv.rng (i : Int) (by omega) (by omega)
  have g0 : (0 : Int) ≤ (u : Int) := by omega
  have g1 : (u : Int) < ((tableV n l).length : Int) := by rw [tableV_length]; omega
  have g2 : (0 : Int) ≤ (i : Int) := by omega
  have g3 : (i : Int) < ((distV n l (u : Int)).length : Int) := by omega
  have g4 : (i : Int) < ((tableV n l).length : Int) := by rw [tableV_length]; omega
  have g5 : (u : Int) < ((distV n l (i : Int)).length : Int) := by omega
  simp only [impl_ReachParts.l1, g0, g1, g2, g3, g4, g5, if_true, tableV_at n l u (by omega), tableV_at n l i hi, hout]
  obtain ⟨d, hd⟩ : ∃ d, n.toNat - u = d + 1 := ⟨n.toNat - u - 1, by omega⟩
  rw [hd, least] at he
  by_cases c : bothB n l i u = true
  · rw [if_pos c] at he
    rw [he] at hR
    unfold bothB at c
    simp only [Bool.and_eq_true, decide_eq_true_eq] at c
    have c1 : ¬ rd (distV n l (u : Int)) (i : Int) = 99999 := by omega
    have c2 : ¬ rd (distV n l (i : Int)) (u : Int) = 99999 := by omega
    simp only [c1, c2, if_false]
    exact hR
  · rw [if_neg c] at he
    have hui : u ≠ i := by intro e; rw [e] at c; exact c (bothB_self hn i hi)
    have next := ih (u + 1) ⟨by omega, by rw [he]; congr 1; omega⟩ (by omega)
    unfold bothB at c
    simp only [Bool.and_eq_true, decide_eq_true_eq] at c
    by_cases c1 : rd (distV n l (u : Int)) (i : Int) = 99999
    · simp only [c1, if_true, wsucc (show u < n.toNat by omega) (show n.toNat ≤ 9223372036854775807 by omega)]
      exact next
    · have c2 : rd (distV n l (i : Int)) (u : Int) = 99999 := by omega
      simp only [c1, c2, if_true, if_false, wsucc (show u < n.toNat by omega) (show n.toNat ≤ 9223372036854775807 by omega)]
      exact next
theorem implParts_ev (n : Int) (l : List S31) : Ev (fun k => impl_ReachParts.f k n l) (if netOkB n l = true then partsV n l else []) := by
  unfold impl_ReachParts.f
  simp only [netOk_eq, Option.bind_some]
  cases hok : netOkB n l with
  | false => exact ev_now fun k => by simp
  | true =>
    have hn := net1_of hok
    have hlo := hn.lo
    have hhi := hn.hi
    simp only [if_true]
    refine Ev.bind (table_ev hn) ?_
    have b0 : (0 : Int) ≤ n := by omega
    have b1 : n.toNat ≤ 35184372088832 := by omega
    simp only [b0, b1, if_true]
    refine ev_at (ev_ind (fun k (i : Nat) => impl_ReachParts.l0 k (tableV n l) ((List.range i).map fun i => ((least (bothB n l i) n.toNat 0 : Nat) : Int)) n (i : Int)) (fun i => n.toNat - i) (fun i => i ≤ n.toNat) (fun _ => partsV n l) ?_ 0 (Nat.zero_le _)) rfl
    intro i hi ih
    by_cases h : i < n.toNat
    · have hlt : (i : Int) < n := by omega
      simp only [impl_ReachParts.l0, hlt, if_true]
      refine implParts_l1 hn _ (by rw [List.length_map, List.length_range]; omega) i h _ ?_
      have := ih (i + 1) (by omega) (by omega)
      rw [List.range_succ, List.map_append] at this
      rw [wsucc h (show n.toNat ≤ 9223372036854775807 by omega)]
      exact this
    · have hlt : ¬ (i : Int) < n := by omega
      simp only [impl_ReachParts.l0, hlt, if_false]
      refine ev_now fun k => ?_
      rw [show i = n.toNat by omega]
      rfl
theorem specParts_l1 {n : Int} {l : List S31} (hn : Net1 n l) (out : List Int) (hout : out.length < 17592186044416) (i : Nat) (hi : i < n.toNat) (E : List Int) (hE : Dist n (backL l) (i : Int) E) (R : List Int)
    (hR : Ev (fun k => spec_ReachParts.l0 k (out ++ [((least (bothB n l i) n.toNat 0 : Nat) : Int)]) (wrap64 ((i : Int) + 1)) n l) R) :
    Ev (fun k => spec_ReachParts.l1 k out (i : Int) (distV n l (i : Int)) E 0 n l) R := by
  have hlo := hn.lo
  have hhi := hn.hi
  refine ev_ind (fun k (u : Nat) => spec_ReachParts.l1 k out (i : Int) (distV n l (i : Int)) E (u : Int) n l) (fun u => i - u) (fun u => u ≤ i ∧ least (bothB n l i) n.toNat 0 = least (bothB n l i) (n.toNat - u) u) (fun _ => R) ?_ 0 ⟨Nat.zero_le _, rfl⟩
  intro u ⟨hu, he⟩ ih
  have Di := distV_is hn (s := (i : Int)) (by omega)
  have Du := distV_is hn (s := (u : Int)) (by omega)
  have hs := Du.sym (show 0 ≤ (u : Int) ∧ (u : Int) < n by omega) (show 0 ≤ (i : Int) ∧ (i : Int) < n by omega) hE
  have li := Di.inv.len
  have le := hE.inv.len
  have g0 : (0 : Int) ≤ (u : Int) := by omega
  have g1 : (u : Int) < n := by omega
  have g2 : (u : Int) < ((distV n l (i : Int)).length : Int) := by omega
  have g3 : (u : Int) < (E.length : Int) := by omega
  simp only [spec_ReachParts.l1, g0, g1, g2, g3, if_true, hout]
  obtain ⟨d, hd⟩ : ∃ d, n.toNat - u = d + 1 := ⟨n.toNat - u - 1, by omega⟩
  rw [hd, least] at he
  by_cases c : bothB n l i u = true
  · rw [if_pos c] at he
    rw [he] at hR
    unfold bothB at c
    simp only [Bool.and_eq_true, decide_eq_true_eq] at c
    have c1 : rd E (u : Int) < 99999 := by omega
    simp only [c.1, c1, if_true]
    exact hR
  · rw [if_neg c] at he
    have hui : u ≠ i := by intro e; rw [e] at c; exact c (bothB_self hn i hi)
    have next := ih (u + 1) ⟨by omega, by rw [he]; congr 1; omega⟩ (by omega)
    unfold bothB at c
    simp only [Bool.and_eq_true, decide_eq_true_eq] at c
    by_cases c1 : rd (distV n l (i : Int)) (u : Int) < 99999
    · have c2 : ¬ rd E (u : Int) < 99999 := by omega
      simp only [c1, c2, if_true, if_false, wsucc (show u < n.toNat by omega) (show n.toNat ≤ 9223372036854775807 by omega)]
      exact next
    · simp only [c1, if_false, wsucc (show u < n.toNat by omega) (show n.toNat ≤ 9223372036854775807 by omega)]
      exact next
theorem specParts_ev (n : Int) (l : List S31) (hl : l.length ≤ 9223372036854775807) : Ev (fun k => spec_ReachParts.f k n l) (if netOkB n l = true then partsV n l else []) := by
  unfold spec_ReachParts.f
  refine Ev.bind (l1Ok_ev n l hl) ?_
  cases hok : netOkB n l with
  | false => exact ev_now fun k => by simp
  | true =>
    have hn := net1_of hok
    have hlo := hn.lo
    have hhi := hn.hi
    have hll := hn.len
    simp only [if_true]
    refine ev_at (ev_ind (fun k (i : Nat) => spec_ReachParts.l0 k ((List.range i).map fun i => ((least (bothB n l i) n.toNat 0 : Nat) : Int)) (i : Int) n l) (fun i => n.toNat - i) (fun i => i ≤ n.toNat) (fun _ => partsV n l) ?_ 0 (Nat.zero_le _)) rfl
    intro i hi ih
    by_cases h : i < n.toNat
    · have hlt : (i : Int) < n := by omega
      have hi2 : 0 ≤ (i : Int) ∧ (i : Int) < n := by omega
      simp only [spec_ReachParts.l0, hlt, if_true]
      refine Ev.bind (distV_is hn hi2).spec ?_
      refine Ev.bind (l1Back_ev n l (by omega)) ?_
      refine Ev.bind (distV_is hn.back hi2).spec ?_
      refine specParts_l1 hn _ (by rw [List.length_map, List.length_range]; omega) i h _ (distV_is hn.back hi2) _ ?_
      have := ih (i + 1) (by omega) (by omega)
      rw [List.range_succ, List.map_append] at this
      rw [wsucc h (show n.toNat ≤ 9223372036854775807 by omega)]
      exact this
    · have hlt : ¬ (i : Int) < n := by omega
      simp only [spec_ReachParts.l0, hlt, if_false]
      refine ev_now fun k => ?_
      rw [show i = n.toNat by omega]
      rfl
end Go.Proofs.Ythgihpbpebbebaa.Pure
