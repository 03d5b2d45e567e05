import Derived.Test.YtbappbbljncdeaaPureLoadNear
import Derived.Test.YtbappbbljncdeaaFKinds
import Derived.Test.YtbappbbljncdeaaFimplLoadAll
import Derived.Test.YtbappbbljncdeaaFimplNetloads
import Derived.Test.YtbappbbljncdeaaFslicesClipintint
import Derived.Test.YtbappbbljncdeaaFslicesRepeatintint
import Derived.Test.YtbappbbljncdeaaFspecLoadAll
import Derived.Test.YtbappbbljncdeaaFspecl18Most
import Derived.Test.YtbappbbljncdeaaFtextcore
namespace Go.Proofs.Ytbappbbljncdeaa.Pure
open Go.RowKit Go.Proofs.Ytbappbbljncdeaa.F Go.Proofs.YtbappbbljncdeaaW.PrintWords
set_option linter.unusedVariables false
set_option linter.unusedSimpArgs false
/-! ### the most that may go -/
/-- The last number below m of which P is true, or -1. -/
def lastL (P : Nat → Bool) : Nat → Int
  | 0 => -1
  | m + 1 => if P m = true then (m : Int) else lastL P m
noncomputable def mayB (n : Int) (l : List S100) (a : Int) (v load : Nat) : Bool := decide (rd (distV n (loadL l (load : Int)) a) (v : Int) < 99999)
noncomputable def loadsV (n : Int) (l : List S100) (a : Int) : List Int := (List.range n.toNat).map fun v => lastL (mayB n l a v) 10
theorem set_map_range (m i : Nat) (f g : Nat → Int) (hi : i < m) (hg : ∀ j, j ≠ i → f j = g j) : ((List.range m).map f).set i (g i) = (List.range m).map g := by
  apply List.ext_getElem?
  intro j
  rw [List.getElem?_set, List.length_map, List.length_range, List.getElem?_map, List.getElem?_map]
  by_cases e : i = j
  · subst e
    rw [if_pos rfl, if_pos hi, List.getElem?_range hi]
    rfl
  · rw [if_neg e]
    cases h : (List.range m)[j]? with
    | none => rfl
    | some x =>
      have hx : x = j := by
        obtain ⟨h1, h2⟩ := List.getElem?_eq_some_iff.1 h
        rw [List.getElem_range] at h2
        exact h2.symm
      subst hx
      simp only [Option.map_some]
      rw [hg x (fun z => e z.symm)]
theorem loads_l1 {n : Int} {l : List S100} (hn : Net1 n l) {a : Int} (ha : 0 ≤ a ∧ a < n) (m : Nat) (R : List Int)
    (hR : Ev (fun k => impl_Net_loads.l0 k a ((List.range n.toNat).map fun v => lastL (mayB n l a v) (m + 1)) (wrap64 ((m : Int) + 1)) n l) R) :
    Ev (fun k => impl_Net_loads.l1 k a ((List.range n.toNat).map fun v => lastL (mayB n l a v) m) (m : Int) (m : Int) (distV n (loadL l (m : Int)) a) ((distV n (loadL l (m : Int)) a).length : Int) 0 n l) R := by
  have hhi := hn.hi
  have hD := distV_is (hn.load (m : Int)) ha
  have hlen := hD.inv.len
  refine ev_ind (fun k (j : Nat) => impl_Net_loads.l1 k a ((List.range n.toNat).map fun v => lastL (mayB n l a v) (if v < j then m + 1 else m)) (m : Int) (m : Int) (distV n (loadL l (m : Int)) a) ((distV n (loadL l (m : Int)) a).length : Int) (j : Int) n l) (fun j => n.toNat - j) (fun j => j ≤ n.toNat) (fun _ => R) ?_ 0 (Nat.zero_le _)
  intro j hj ih
  by_cases h : j < n.toNat
  · have hlt : (j : Int) < ((distV n (loadL l (m : Int)) a).length : Int) := by omega
    have h0 : (0 : Int) ≤ (j : Int) := by omega
    have hr := hD.inv.rng (j : Int) (by omega) (by omega)
    have g : (j : Int) < (((List.range n.toNat).map fun v => lastL (mayB n l a v) (if v < j then m + 1 else m)).length : Int) := by rw [List.length_map, List.length_range]; omega
    have next := ih (j + 1) (by omega) (by omega)
    simp only [impl_Net_loads.l1, hlt, h0, g, if_true, wsucc h (show n.toNat ≤ 9223372036854775807 by omega), Int.toNat_natCast]
    by_cases c : rd (distV n (loadL l (m : Int)) a) (j : Int) = 99999
    · simp only [c, if_true]
      have e : ((List.range n.toNat).map fun v => lastL (mayB n l a v) (if v < j + 1 then m + 1 else m)) = (List.range n.toNat).map fun v => lastL (mayB n l a v) (if v < j then m + 1 else m) := by
        apply List.map_congr_left
        intro v _
        by_cases e : v = j
        · subst e
          rw [if_pos (by omega), if_neg (by omega), lastL]
          have : ¬ mayB n l a v m = true := by unfold mayB; rw [c]; decide
          rw [if_neg this]
        · by_cases e2 : v < j
          · rw [if_pos (by omega), if_pos e2]
          · rw [if_neg (by omega), if_neg e2]
      rw [e] at next
      exact next
    · simp only [c, if_false]
      have hm : mayB n l a j m = true := by unfold mayB; rw [decide_eq_true_eq]; omega
      have e := set_map_range n.toNat j (fun v => lastL (mayB n l a v) (if v < j then m + 1 else m)) (fun v => lastL (mayB n l a v) (if v < j + 1 then m + 1 else m)) h (fun v hv => by
        by_cases e2 : v < j
        · rw [if_pos e2, if_pos (by omega)]
        · rw [if_neg e2, if_neg (by omega)])
      simp only [show j < j + 1 by omega, if_true, lastL, hm] at e
      rw [e]
      exact next
  · have hlt : ¬ (j : Int) < ((distV n (loadL l (m : Int)) a).length : Int) := by omega
    simp only [impl_Net_loads.l1, hlt, if_false]
    have e : ((List.range n.toNat).map fun v => lastL (mayB n l a v) (if v < j then m + 1 else m)) = (List.range n.toNat).map fun v => lastL (mayB n l a v) (m + 1) := by
      apply List.map_congr_left
      intro v hv
      rw [List.mem_range] at hv
      rw [if_pos (by omega)]
    rw [e]
    exact hR
theorem loads_ev {n : Int} {l : List S100} (hn : Net1 n l) {a : Int} (ha : 0 ≤ a ∧ a < n) : Ev (fun k => impl_Net_loads.f k n l a) (loadsV n l a) := by
  have hlo := hn.lo
  have hhi := hn.hi
  have hll := hn.len
  unfold impl_Net_loads.f slices_Repeat_int_int.f
  have b : 0 ≤ n ∧ n ≤ 8 := by omega
  simp only [b, and_self, if_true, Option.bind_some]
  have e0 : List.replicate n.toNat (-1 : Int) = (List.range n.toNat).map fun v => lastL (mayB n l a v) 0 := by
    apply List.ext_getElem
    · simp
    · intro i h1 h2; simp [lastL]
  rw [e0]
  refine ev_ind (fun k (m : Nat) => impl_Net_loads.l0 k a ((List.range n.toNat).map fun v => lastL (mayB n l a v) m) (m : Int) n l) (fun m => 10 - m) (fun m => m ≤ 10) (fun _ => loadsV n l a) ?_ 0 (Nat.zero_le _)
  intro m hm ih
  by_cases h : m < 10
  · have hlt : (m : Int) < 10 := by omega
    simp only [impl_Net_loads.l0, hlt, if_true]
    refine Ev.bind (loaded_ev n l (m : Int) (by omega)) ?_
    refine Ev.bind (distV_is (hn.load (m : Int)) ha).impl ?_
    refine loads_l1 hn ha m _ ?_
    rw [wsucc h (show 10 ≤ 9223372036854775807 by omega)]
    exact ih (m + 1) (by omega) (by omega)
  · have hlt : ¬ (m : Int) < 10 := by omega
    simp only [impl_Net_loads.l0, hlt, if_false, slices_Clip_int_int.f, Option.bind_some]
    refine ev_now fun k => ?_
    rw [show m = 10 by omega]
    rfl
theorem most_l1 {n : Int} {l : List S100} (hn : Net1 n l) {a : Int} (ha : 0 ≤ a ∧ a < n) (i : Nat) (hi : i < n.toNat) (out : List Int) (hout : out.length = n.toNat) (R : List Int)
    (hR : Ev (fun k => spec_l18Most.l0 k a (out.set i (lastL (mayB n l a i) 10)) (wrap64 ((i : Int) + 1)) n l) R) :
    Ev (fun k => spec_l18Most.l1 k a (out.set i (-1)) (i : Int) 0 n l) R := by
  have hhi := hn.hi
  have hll := hn.len
  refine ev_ind (fun k (m : Nat) => spec_l18Most.l1 k a (out.set i (lastL (mayB n l a i) m)) (i : Int) (m : Int) n l) (fun m => 10 - m) (fun m => m ≤ 10) (fun _ => R) ?_ 0 (Nat.zero_le _)
  intro m hm ih
  by_cases h : m < 10
  · have hlt : (m : Int) ≤ 9 := by omega
    have hD := distV_is (hn.load (m : Int)) ha
    have hlen := hD.inv.len
    have h0 : (0 : Int) ≤ (i : Int) := by omega
    have g1 : (i : Int) < ((distV n (loadL l (m : Int)) a).length : Int) := by omega
    have g2 : (i : Int) < ((out.set i (lastL (mayB n l a i) m)).length : Int) := by rw [List.length_set]; omega
    have next := ih (m + 1) (by omega) (by omega)
    simp only [spec_l18Most.l1, hlt, if_true]
    refine Ev.bind (l18For_ev n l (m : Int) (by omega)) ?_
    refine Ev.bind hD.spec ?_
    simp only [h0, g1, g2, if_true, wsucc h (show 10 ≤ 9223372036854775807 by omega), Int.toNat_natCast, List.set_set]
    rw [lastL] at next
    by_cases c : rd (distV n (loadL l (m : Int)) a) (i : Int) < 99999
    · have hc : mayB n l a i m = true := by unfold mayB; rw [decide_eq_true_eq]; exact c
      rw [if_pos hc] at next
      simp only [c, if_true]
      exact next
    · have hc : ¬ mayB n l a i m = true := by unfold mayB; rw [decide_eq_true_eq]; exact c
      rw [if_neg hc] at next
      simp only [c, if_false]
      exact next
  · have hlt : ¬ (m : Int) ≤ 9 := by omega
    simp only [spec_l18Most.l1, hlt, if_false]
    rw [show m = 10 by omega]
    exact hR
theorem l18Most_ev {n : Int} {l : List S100} (hn : Net1 n l) {a : Int} (ha : 0 ≤ a ∧ a < n) : Ev (fun k => spec_l18Most.f k n l a) (loadsV n l a) := by
  have hlo := hn.lo
  have hhi := hn.hi
  unfold spec_l18Most.f
  have b0 : (0 : Int) ≤ n := by omega
  have b1 : n.toNat ≤ 35184372088832 := by omega
  simp only [b0, b1, if_true]
  have e0 : List.replicate n.toNat (0 : Int) = (List.range n.toNat).map fun v => if v < 0 then lastL (mayB n l a v) 10 else 0 := by
    apply List.ext_getElem
    · simp
    · intro i h1 h2; simp
  rw [e0]
  refine ev_ind (fun k (i : Nat) => spec_l18Most.l0 k a ((List.range n.toNat).map fun v => if v < i then lastL (mayB n l a v) 10 else 0) (i : Int) n l) (fun i => n.toNat - i) (fun i => i ≤ n.toNat) (fun _ => loadsV n l a) ?_ 0 (Nat.zero_le _)
  intro i hi ih
  by_cases h : i < n.toNat
  · have hlt : (i : Int) < n := by omega
    have h0 : (0 : Int) ≤ (i : Int) := by omega
    have g : (i : Int) < (((List.range n.toNat).map fun v => if v < i then lastL (mayB n l a v) 10 else 0).length : Int) := by rw [List.length_map, List.length_range]; omega
    simp only [spec_l18Most.l0, hlt, h0, g, if_true, Int.toNat_natCast]
    refine most_l1 hn ha i h _ (by rw [List.length_map, List.length_range]) _ ?_
    have e := set_map_range n.toNat i (fun v => if v < i then lastL (mayB n l a v) 10 else 0) (fun v => if v < i + 1 then lastL (mayB n l a v) 10 else 0) h (fun v hv => by
      by_cases e2 : v < i
      · rw [if_pos e2, if_pos (by omega)]
      · rw [if_neg e2, if_neg (by omega)])
    simp only [show i < i + 1 by omega, if_true] at e
    rw [e, wsucc h (show n.toNat ≤ 9223372036854775807 by omega)]
    exact ih (i + 1) (by omega) (by omega)
  · have hlt : ¬ (i : Int) < n := by omega
    simp only [spec_l18Most.l0, hlt, if_false]
    refine ev_now fun k => ?_
    unfold loadsV
    congr 1
    apply List.map_congr_left
    intro v hv
    rw [List.mem_range] at hv
    rw [if_pos (by omega)]
theorem loadAll_ex (n : Int) (l : List S100) (a : Int) (hl : l.length ≤ 9223372036854775807) : ∃ V, (V.length ≤ 8 ∧ Ev (fun k => spec_LoadAll.f k n l a) V) ∧ Ev (fun k => impl_LoadAll.f k n l a) V := by
  unfold impl_LoadAll.f spec_LoadAll.f
  simp only [nodesIn_eq, Option.bind_some, l1In_eq, hasB1]
  cases hok : netOkB n l with
  | false =>
    refine ⟨[], ⟨by simp, ?_⟩, ev_now fun k => by simp⟩
    refine Ev.bind (l1Ok_ev n l hl) ?_
    simp only [hok, Bool.false_eq_true, if_false]
    exact ev_now fun k => rfl
  | true =>
    have hn := net1_of hok
    have hhi := hn.hi
    cases ha : inB a 0 (wrap64 (n - 1)) with
    | false =>
      refine ⟨[], ⟨by simp, ?_⟩, ev_now fun k => by simp⟩
      refine Ev.bind (l1Ok_ev n l hl) ?_
      simp only [hok, if_true]
      exact ev_now fun k => by simp
    | true =>
      have na := node_of hn ha
      refine ⟨loadsV n l a, ⟨by unfold loadsV; rw [List.length_map, List.length_range]; omega, ?_⟩, ?_⟩
      · refine Ev.bind (l1Ok_ev n l hl) ?_
        simp only [hok, if_true]
        exact Ev.bind (l18Most_ev hn na) (ev_now fun _ => rfl)
      · simp only [Bool.and_self, if_true]
        exact Ev.bind (loads_ev hn na) (ev_now fun _ => rfl)
end Go.Proofs.Ytbappbbljncdeaa.Pure
