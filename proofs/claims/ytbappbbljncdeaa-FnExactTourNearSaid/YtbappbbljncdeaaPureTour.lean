import Derived.Test.YtbappbbljncdeaaPureTable
import Derived.Test.YtbappbbljncdeaaPureNodes
import Derived.Test.YtbappbbljncdeaaPureContains
import Derived.Test.YtbappbbljncdeaaFKinds
import Derived.Test.YtbappbbljncdeaaFimplstopsOk
import Derived.Test.YtbappbbljncdeaaFspecl17Stops
import Derived.Test.YtbappbbljncdeaaFtextcore
namespace Go.Proofs.Ytbappbbljncdeaa.Pure
open Go.RowKit Go.Proofs.Ytbappbbljncdeaa.F Go.Proofs.YtbappbbljncdeaaW.PrintWords
set_option linter.unusedVariables false
set_option linter.unusedSimpArgs false
/-! ### tours -/
def nodeB (n v : Int) : Bool := inB v 0 (wrap64 (n - 1))
def freshAt (s : List Int) (i : Nat) : Bool := !(s.take i).contains (s.getD i 0)
def stopsB (n : Int) (l : List S100) (s : List Int) : Bool := netOkB n l && ((List.range' 0 s.length).all (fun i => nodeB n (s.getD i 0) && freshAt s i) && inB (s.length : Int) 1 5)
theorem rd_getD (s : List Int) (i : Nat) : rd s (i : Int) = s.getD i 0 := by unfold rd; rw [Int.toNat_natCast]
theorem rangeAll_step (p : Nat → Bool) (i n : Nat) (h : i < n) : (List.range' i (n - i)).all p = (p i && (List.range' (i + 1) (n - (i + 1))).all p) := by
  rw [show n - i = (n - (i + 1)) + 1 by omega, List.range'_succ, List.all_cons]
theorem l17Stops_ev (n : Int) (l : List S100) (s : List Int) (hs : s.length ≤ 9223372036854775807) : Ev (fun k => spec_l17Stops.f k n l s) ((List.range' 0 s.length).all (fun i => nodeB n (s.getD i 0) && freshAt s i) && inB (s.length : Int) 1 5) := by
  unfold spec_l17Stops.f
  refine ev_at (ev_ind (fun k (i : Nat) => spec_l17Stops.l0 k s (i : Int) n l) (fun i => s.length - i) (fun i => i ≤ s.length) (fun i => (List.range' i (s.length - i)).all (fun i => nodeB n (s.getD i 0) && freshAt s i) && inB (s.length : Int) 1 5) ?_ 0 (Nat.zero_le _)) rfl
  intro i hi ih
  by_cases h : i < s.length
  · have hlt : (i : Int) < (s.length : Int) := by omega
    have hle : (i : Int) ≤ (s.length : Int) := by omega
    have h0 : (0 : Int) ≤ (i : Int) := by omega
    have next := ih (i + 1) (by omega) (by omega)
    simp only [spec_l17Stops.l0, hlt, hle, h0, if_true, l1In_eq, Option.bind_some, wsucc h hs, Int.toNat_natCast, rd_getD]
    rw [rangeAll_step _ i _ h]
    generalize (List.range' (i + 1) (s.length - (i + 1))).all (fun i => nodeB n (s.getD i 0) && freshAt s i) = q at next ⊢
    unfold nodeB freshAt
    cases inB (s.getD i 0) 0 (wrap64 (n - 1)) with
    | false => exact ev_now fun k => by simp
    | true =>
      simp only [if_true]
      refine Ev.bind (l12In_ev (s.take i) (s.getD i 0) (by rw [List.length_take]; omega)) ?_
      cases (s.take i).contains (s.getD i 0) with
      | true => exact ev_now fun k => by simp
      | false => simpa using next
  · have hlt : ¬ (i : Int) < (s.length : Int) := by omega
    simp only [spec_l17Stops.l0, hlt, if_false, l1In_eq, Option.bind_some]
    refine ev_now fun k => ?_
    rw [show s.length - i = 0 by omega]
    rfl
theorem hasB_all (n : Int) (s : List Int) : hasB n s = (List.range' 0 s.length).all (fun i => nodeB n (s.getD i 0)) := by
  rw [Bool.eq_iff_iff]
  unfold hasB nodeB
  rw [Bool.not_eq_true', List.all_eq_true]
  constructor
  · intro h i hi
    have hi' : i < s.length := by simpa [List.mem_range'] using hi
    cases h2 : inB (s.getD i 0) 0 (wrap64 (n - 1)) with
    | true => rfl
    | false =>
      have : s.any (fun v => !inB v 0 (wrap64 (n - 1))) = true := List.any_eq_true.2 ⟨s[i], List.getElem_mem hi', by
        have e : s.getD i 0 = s[i] := by simp [hi']
        rw [e] at h2
        rw [h2]; rfl⟩
      rw [this] at h; cases h
  · intro h
    cases h2 : s.any (fun v => !inB v 0 (wrap64 (n - 1))) with
    | false => rfl
    | true =>
      obtain ⟨v, hv, hb⟩ := List.any_eq_true.1 h2
      obtain ⟨i, hi, rfl⟩ := List.getElem_of_mem hv
      have := h i (by simp [List.mem_range']; omega)
      have e : s.getD i 0 = s[i] := by simp [hi]
      rw [e] at this
      rw [this] at hb
      cases hb
theorem stopsOk_ev (n : Int) (l : List S100) (s : List Int) (hs : s.length ≤ 9223372036854775807) : Ev (fun k => impl_stopsOk.f k n l s) (stopsB n l s) := by
  unfold impl_stopsOk.f
  refine ev_at (ev_ind (fun k (i : Nat) => impl_stopsOk.l0 k s s (s.length : Int) (i : Int) n l) (fun i => s.length - i) (fun i => i ≤ s.length) (fun i => (List.range' i (s.length - i)).all (freshAt s) && (inB (s.length : Int) 1 5 && (netOkB n l && hasB n s))) ?_ 0 (Nat.zero_le _)) ?_
  · intro i hi ih
    by_cases h : i < s.length
    · have hlt : (i : Int) < (s.length : Int) := by omega
      have hle : (i : Int) ≤ (s.length : Int) := by omega
      have h0 : (0 : Int) ≤ (i : Int) := by omega
      have next := ih (i + 1) (by omega) (by omega)
      simp only [impl_stopsOk.l0, hlt, hle, h0, if_true, wsucc h hs, Int.toNat_natCast, rd_getD]
      rw [rangeAll_step _ i _ h]
      generalize (List.range' (i + 1) (s.length - (i + 1))).all (freshAt s) = q at next ⊢
      unfold freshAt
      refine Ev.bind (contains_ev (s.take i) (s.getD i 0) (by rw [List.length_take]; omega)) ?_
      cases (s.take i).contains (s.getD i 0) with
      | true => exact ev_now fun k => by simp
      | false => simpa using next
    · have hlt : ¬ (i : Int) < (s.length : Int) := by omega
      simp only [impl_stopsOk.l0, hlt, if_false, within_eq, nodesIn_eq, Option.bind_some]
      refine ev_now fun k => ?_
      rw [show s.length - i = 0 by omega]
      cases inB (s.length : Int) 1 5 <;> simp
  · unfold stopsB
    rw [hasB_all, Nat.sub_zero]
    have e : (List.range' 0 s.length).all (fun i => nodeB n (s.getD i 0) && freshAt s i) = ((List.range' 0 s.length).all (fun i => nodeB n (s.getD i 0)) && (List.range' 0 s.length).all (freshAt s)) := by
      rw [Bool.eq_iff_iff, Bool.and_eq_true, List.all_eq_true, List.all_eq_true, List.all_eq_true]
      constructor
      · intro h; exact ⟨fun i hi => (Bool.and_eq_true _ _ ▸ h i hi).1, fun i hi => (Bool.and_eq_true _ _ ▸ h i hi).2⟩
      · intro h i hi; rw [Bool.and_eq_true]; exact ⟨h.1 i hi, h.2 i hi⟩
    rw [e]
    generalize (List.range' 0 s.length).all (fun i => nodeB n (s.getD i 0)) = x
    generalize (List.range' 0 s.length).all (freshAt s) = y
    cases x <;> cases y <;> cases netOkB n l <;> cases inB (s.length : Int) 1 5 <;> rfl
theorem stops_of {n : Int} {l : List S100} {s : List Int} (h : stopsB n l s = true) : Net1 n l ∧ s.length ≤ 5 ∧ 1 ≤ s.length ∧ ∀ i : Nat, i < s.length → 0 ≤ rd s (i : Int) ∧ rd s (i : Int) < n := by
  unfold stopsB at h
  simp only [Bool.and_eq_true, inB_iff, List.all_eq_true] at h
  have hn := net1_of h.1
  refine ⟨hn, by omega, by omega, fun i hi => ?_⟩
  have := (h.2.1 i (by simp [List.mem_range']; omega)).1
  rw [rd_getD]
  exact node_of hn this
end Go.Proofs.Ytbappbbljncdeaa.Pure
