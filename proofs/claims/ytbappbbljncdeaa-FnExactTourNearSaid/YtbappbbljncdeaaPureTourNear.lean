import Derived.Test.YtbappbbljncdeaaPureTour
import Derived.Test.YtbappbbljncdeaaFKinds
import Derived.Test.YtbappbbljncdeaaFimplTourNear
import Derived.Test.YtbappbbljncdeaaFslicesClipintint
import Derived.Test.YtbappbbljncdeaaFslicesCloneintint
import Derived.Test.YtbappbbljncdeaaFspecTourNear
import Derived.Test.YtbappbbljncdeaaFtextcore
namespace Go.Proofs.Ytbappbbljncdeaa.Pure
open Go.RowKit Go.Proofs.Ytbappbbljncdeaa.F Go.Proofs.YtbappbbljncdeaaW.PrintWords
set_option linter.unusedVariables false
set_option linter.unusedSimpArgs false
/-! ### the nearest next -/
/-- The nearest of some that are not out yet, the first of those. -/
def nextN (D out : List Int) : List Int → Int → Int → Int × Int
  | [], node, least => (node, least)
  | v :: vs, node, least => if out.contains v = true then nextN D out vs node least else if rd D v < least then nextN D out vs v (rd D v) else nextN D out vs node least
theorem nextN_spec (D out : List Int) : ∀ (L : List Int) (node least : Int), ((nextN D out L node least).1 = node ∧ (nextN D out L node least).2 = least ∨ (nextN D out L node least).1 ∈ L ∧ out.contains (nextN D out L node least).1 = false ∧ (nextN D out L node least).2 = rd D (nextN D out L node least).1) ∧ (nextN D out L node least).2 ≤ least ∧ ∀ v ∈ L, out.contains v = false → (nextN D out L node least).2 ≤ rd D v := by
  intro L
  induction L with
  | nil => intro node least; exact ⟨.inl ⟨rfl, rfl⟩, Int.le_refl _, fun v hv => by cases hv⟩
  | cons x xs ih =>
    intro node least
    unfold nextN
    by_cases c : out.contains x = true
    · rw [if_pos c]
      obtain ⟨h1, h2, h3⟩ := ih node least
      refine ⟨?_, h2, fun v hv hc => ?_⟩
      · rcases h1 with h1 | ⟨h1, h1'⟩
        · exact .inl h1
        · exact .inr ⟨List.mem_cons_of_mem _ h1, h1'⟩
      · rw [List.mem_cons] at hv
        rcases hv with rfl | hv
        · rw [c] at hc; cases hc
        · exact h3 v hv hc
    · rw [if_neg c]
      by_cases d : rd D x < least
      · rw [if_pos d]
        obtain ⟨h1, h2, h3⟩ := ih x (rd D x)
        refine ⟨.inr ?_, by omega, fun v hv hc => ?_⟩
        · rcases h1 with ⟨h1, h1'⟩ | ⟨h1, h1'⟩
          · rw [h1, h1']; exact ⟨by simp, by simpa using c, rfl⟩
          · exact ⟨List.mem_cons_of_mem _ h1, h1'⟩
        · rw [List.mem_cons] at hv
          rcases hv with rfl | hv
          · exact h2
          · exact h3 v hv hc
      · rw [if_neg d]
        obtain ⟨h1, h2, h3⟩ := ih node least
        refine ⟨?_, h2, fun v hv hc => ?_⟩
        · rcases h1 with h1 | ⟨h1, h1'⟩
          · exact .inl h1
          · exact .inr ⟨List.mem_cons_of_mem _ h1, h1'⟩
        · rw [List.mem_cons] at hv
          rcases hv with rfl | hv
          · omega
          · exact h3 v hv hc
/-- The tour on from some stops. -/
noncomputable def tourN (n : Int) (l : List S100) (s : List Int) : Nat → List Int → List Int
  | 0, out => out
  | k + 1, out => if (nextN (distV n l (rd out ((out.length - 1 : Nat) : Int))) out s (-1) 99999).1 < 0 then [] else tourN n l s k (out ++ [(nextN (distV n l (rd out ((out.length - 1 : Nat) : Int))) out s (-1) 99999).1])
theorem nextN_node {n : Int} {D out s : List Int} (hs : ∀ x ∈ s, 0 ≤ x ∧ x < n) (h : ¬ (nextN D out s (-1) 99999).1 < 0) : (nextN D out s (-1) 99999).1 ∈ s ∧ out.contains (nextN D out s (-1) 99999).1 = false ∧ (nextN D out s (-1) 99999).2 = rd D (nextN D out s (-1) 99999).1 := by
  rcases (nextN_spec D out s (-1) 99999).1 with h1 | h1
  · omega
  · exact h1
theorem implNear_l1 {n : Int} {l : List S100} (hn : Net1 n l) (s out : List Int) (hs : ∀ x ∈ s, 0 ≤ x ∧ x < n) (hsl : s.length ≤ 1000) (ho : ∀ x ∈ out, 0 ≤ x ∧ x < n) (ho1 : 1 ≤ out.length) (hol : out.length ≤ 1000) (R : List Int)
    (h0 : (nextN (distV n l (rd out ((out.length - 1 : Nat) : Int))) out s (-1) 99999).1 < 0 → R = [])
    (h1 : ¬ (nextN (distV n l (rd out ((out.length - 1 : Nat) : Int))) out s (-1) 99999).1 < 0 → Ev (fun k => impl_TourNear.l0 k s (tableV n l) (out ++ [(nextN (distV n l (rd out ((out.length - 1 : Nat) : Int))) out s (-1) 99999).1])) R) :
    Ev (fun k => impl_TourNear.l1 k s (tableV n l) out (-1) 99999 s (s.length : Int) 0) R := by
  have hlo := hn.lo
  have hhi := hn.hi
  have hlast : rd out ((out.length - 1 : Nat) : Int) ∈ out := by
    rw [rd_at out _ (by omega)]; exact List.getElem_mem _
  obtain ⟨p0, p1⟩ := ho _ hlast
  have w1 : wrap64 ((out.length : Int) - 1) = ((out.length - 1 : Nat) : Int) := wpred (by omega) (by omega)
  have b0 : (0 : Int) ≤ ((out.length - 1 : Nat) : Int) := by omega
  have b1 : ((out.length - 1 : Nat) : Int) < (out.length : Int) := by omega
  obtain ⟨a, hza⟩ := Int.eq_ofNat_of_zero_le p0
  rw [hza] at p0 p1 h0 h1
  have hD := distV_is hn (s := (a : Int)) ⟨p0, p1⟩
  have hlen := hD.inv.len
  have g1 : (a : Int) < ((tableV n l).length : Int) := by rw [tableV_length]; omega
  have ht := tableV_at n l a (by omega)
  generalize distV n l (a : Int) = D at hD hlen ht h0 h1
  refine ev_ind (fun k (x : Nat × Int × Int) => impl_TourNear.l1 k s (tableV n l) out x.2.1 x.2.2 s (s.length : Int) (x.1 : Int)) (fun x => s.length - x.1) (fun x => x.1 ≤ s.length ∧ nextN D out s (-1) 99999 = nextN D out (s.drop x.1) x.2.1 x.2.2) (fun _ => R) ?_ (0, -1, 99999) ⟨Nat.zero_le _, by simp⟩
  rintro ⟨i, node, least⟩ ⟨hi, he⟩ ih
  simp only at hi he ih ⊢
  by_cases h : i < s.length
  · have hlt : (i : Int) < (s.length : Int) := by omega
    have hi0 : (0 : Int) ≤ (i : Int) := by omega
    obtain ⟨q0, q1⟩ := hs _ (List.getElem_mem h)
    have q2 : s[i] < (D.length : Int) := by omega
    rw [List.drop_eq_getElem_cons h, nextN] at he
    simp only [impl_TourNear.l1, hlt, hi0, if_true, w1, b0, b1, hza, p0, g1, rd_at s i h, q0, ht, q2, wsucc h (show s.length ≤ 9223372036854775807 by omega)]
    refine Ev.bind (contains_ev out s[i] (by omega)) ?_
    by_cases c : out.contains s[i] = true
    · simp only [c, if_true] at he ⊢
      exact ih (i + 1, node, least) ⟨by simp; omega, he⟩ (by simp; omega)
    · simp only [c, Bool.false_eq_true, if_false] at he ⊢
      by_cases d : rd D s[i] < least
      · simp only [d, if_true] at he ⊢
        exact ih (i + 1, s[i], rd D s[i]) ⟨by simp; omega, he⟩ (by simp; omega)
      · simp only [d, if_false] at he ⊢
        exact ih (i + 1, node, least) ⟨by simp; omega, he⟩ (by simp; omega)
  · have hlt : ¬ (i : Int) < (s.length : Int) := by omega
    rw [List.drop_of_length_le (by omega), nextN] at he
    rw [he] at h0 h1
    simp only at h0 h1
    have b2 : out.length < 17592186044416 := by omega
    simp only [impl_TourNear.l1, hlt, if_false, b2, if_true]
    by_cases c : node < 0
    · simp only [c, if_true]
      rw [h0 c]
      exact ev_now fun _ => rfl
    · simp only [c, if_false]
      exact h1 c
theorem specNear_l1 {n : Int} {l : List S100} (s out D : List Int) (hs : ∀ x ∈ s, 0 ≤ x ∧ x < n) (hD : (D.length : Int) = n) (hsl : s.length ≤ 1000) (hol : out.length ≤ 1000) (R : List Int)
    (h0 : (nextN D out s (-1) 99999).1 < 0 → R = [])
    (h1 : ¬ (nextN D out s (-1) 99999).1 < 0 → Ev (fun k => spec_TourNear.l0 k s (out ++ [(nextN D out s (-1) 99999).1]) n l) R) :
    Ev (fun k => spec_TourNear.l1 k s out D 99999 (-1) 0 n l) R := by
  refine ev_ind (fun k (x : Nat × Int × Int) => spec_TourNear.l1 k s out D x.2.2 x.2.1 (x.1 : Int) n l) (fun x => s.length - x.1) (fun x => x.1 ≤ s.length ∧ nextN D out s (-1) 99999 = nextN D out (s.drop x.1) x.2.1 x.2.2) (fun _ => R) ?_ (0, -1, 99999) ⟨Nat.zero_le _, by simp⟩
  rintro ⟨i, node, least⟩ ⟨hi, he⟩ ih
  simp only at hi he ih ⊢
  by_cases h : i < s.length
  · have hlt : (i : Int) < (s.length : Int) := by omega
    have hi0 : (0 : Int) ≤ (i : Int) := by omega
    obtain ⟨q0, q1⟩ := hs _ (List.getElem_mem h)
    have q2 : s[i] < (D.length : Int) := by omega
    rw [List.drop_eq_getElem_cons h, nextN] at he
    simp only [spec_TourNear.l1, hlt, hi0, if_true, rd_at s i h, q0, q2, wsucc h (show s.length ≤ 9223372036854775807 by omega)]
    refine Ev.bind (l12In_ev out s[i] (by omega)) ?_
    by_cases c : out.contains s[i] = true
    · simp only [c, if_true] at he ⊢
      exact ih (i + 1, node, least) ⟨by simp; omega, he⟩ (by simp; omega)
    · simp only [c, Bool.false_eq_true, if_false] at he ⊢
      by_cases d : rd D s[i] < least
      · simp only [d, if_true] at he ⊢
        exact ih (i + 1, s[i], rd D s[i]) ⟨by simp; omega, he⟩ (by simp; omega)
      · simp only [d, if_false] at he ⊢
        exact ih (i + 1, node, least) ⟨by simp; omega, he⟩ (by simp; omega)
  · have hlt : ¬ (i : Int) < (s.length : Int) := by omega
    rw [List.drop_of_length_le (by omega), nextN] at he
    rw [he] at h0 h1
    simp only at h0 h1
    have b2 : out.length < 17592186044416 := by omega
    simp only [spec_TourNear.l1, hlt, if_false, b2, if_true]
    by_cases c : node < 0
    · simp only [c, if_true]
      rw [h0 c]
      exact ev_now fun _ => rfl
    · simp only [c, if_false]
      exact h1 c
theorem near_loops {n : Int} {l : List S100} (hn : Net1 n l) (s : List Int) (hs : ∀ x ∈ s, 0 ≤ x ∧ x < n) (hsl : s.length ≤ 1000) : ∀ (k : Nat) (out : List Int), k = s.length - out.length → (∀ x ∈ out, 0 ≤ x ∧ x < n) → 1 ≤ out.length → out.length ≤ s.length →
    Ev (fun f => impl_TourNear.l0 f s (tableV n l) out) (tourN n l s k out) ∧ Ev (fun f => spec_TourNear.l0 f s out n l) (tourN n l s k out) := by
  intro k
  induction k with
  | zero =>
    intro out hk ho h1 h2
    have hlt : ¬ (out.length : Int) < (s.length : Int) := by omega
    refine ⟨ev_shift (ev_now fun f => ?_), ev_shift (ev_now fun f => ?_)⟩
    · simp only [impl_TourNear.l0, hlt, if_false, slices_Clip_int_int.f, Option.bind_some, tourN]
    · simp only [spec_TourNear.l0, hlt, if_false, tourN]
  | succ k ih =>
    intro out hk ho h1 h2
    have hlt : (out.length : Int) < (s.length : Int) := by omega
    have hlast : rd out ((out.length - 1 : Nat) : Int) ∈ out := by
      rw [rd_at out _ (by omega)]; exact List.getElem_mem _
    have hz := ho _ hlast
    have hD := distV_is hn hz
    have w1 : wrap64 ((out.length : Int) - 1) = ((out.length - 1 : Nat) : Int) := wpred (by omega) (by omega)
    have b0 : (0 : Int) ≤ ((out.length - 1 : Nat) : Int) := by omega
    have b1 : ((out.length - 1 : Nat) : Int) < (out.length : Int) := by omega
    have nx : ∀ c : ¬ (nextN (distV n l (rd out ((out.length - 1 : Nat) : Int))) out s (-1) 99999).1 < 0, _ := fun c => ih (out ++ [(nextN (distV n l (rd out ((out.length - 1 : Nat) : Int))) out s (-1) 99999).1]) (by simp; omega) (by
      intro x hx
      simp only [List.mem_append, List.mem_singleton] at hx
      rcases hx with hx | rfl
      · exact ho x hx
      · exact hs _ (nextN_node hs c).1) (by simp) (by simp; omega)
    refine ⟨ev_shift ?_, ev_shift ?_⟩
    · simp only [impl_TourNear.l0, hlt, if_true]
      refine implNear_l1 hn s out hs hsl ho h1 (by omega) _ (fun c => ?_) (fun c => ?_)
      · rw [tourN, if_pos c]
      · rw [tourN, if_neg c]; exact (nx c).1
    · simp only [spec_TourNear.l0, hlt, if_true, w1, b0, b1]
      refine Ev.bind hD.spec ?_
      refine specNear_l1 s out _ hs hD.inv.len hsl (by omega) _ (fun c => ?_) (fun c => ?_)
      · rw [tourN, if_pos c]
      · rw [tourN, if_neg c]; exact (nx c).2
theorem stops_mem {n : Int} {l : List S100} {s : List Int} (h : stopsB n l s = true) : ∀ x ∈ s, 0 ≤ x ∧ x < n := by
  intro x hx
  obtain ⟨i, hi, rfl⟩ := List.getElem_of_mem hx
  have := (stops_of h).2.2.2 i hi
  rwa [rd_at s i hi] at this
theorem tourNear_val (n : Int) (l : List S100) (s : List Int) (hl : l.length ≤ 9223372036854775807) (hs : s.length ≤ 9223372036854775807) : Ev (fun k => spec_TourNear.f k n l s) (if stopsB n l s = true then tourN n l s (s.length - 1) (s.take 1) else []) ∧ Ev (fun k => impl_TourNear.f k n l s) (if stopsB n l s = true then tourN n l s (s.length - 1) (s.take 1) else []) := by
  unfold impl_TourNear.f spec_TourNear.f
  cases h : stopsB n l s with
  | true =>
    obtain ⟨hn, h5, h1, hin⟩ := stops_of h
    have hm := stops_mem h
    have hl1 : (s.take 1).length = 1 := by rw [List.length_take]; omega
    obtain ⟨v2, v1⟩ := near_loops hn s hm (by omega) (s.length - 1) (s.take 1) (by omega) (fun x hx => hm x (List.mem_of_mem_take hx)) (by omega) (by omega)
    have h' := h
    unfold stopsB at h'
    rw [Bool.and_eq_true] at h'
    have g1 : 1 ≤ (s.length : Int) := by omega
    have g0 : 0 < (s.length : Int) := by omega
    have et : s.take 1 = [rd s 0] := by
      cases s with
      | nil => simp at h1
      | cons x xs => simp [rd]
    simp only [if_true]
    refine ⟨?_, ?_⟩
    · refine Ev.bind (l1Ok_ev n l hl) ?_
      simp only [h'.1, if_true]
      refine Ev.bind (l17Stops_ev n l s hs) ?_
      simp only [h'.2, Bool.not_true]
      refine ev_shift ?_
      simp only [spec_TourNear.j0, Bool.false_eq_true, if_false, g0, if_true]
      rw [et] at v1
      rw [et]
      exact v1
    · refine Ev.bind (stopsOk_ev n l s hs) ?_
      simp only [h, if_true, g1]
      refine Ev.bind (table_ev hn) ?_
      have hc : (s.take 1).length < 17592186044416 := by omega
      simp only [slices_Clone_int_int.f, hc, if_true, Option.bind_some]
      exact v2
  | false =>
    simp only [Bool.false_eq_true, if_false]
    refine ⟨?_, ?_⟩
    · refine Ev.bind (l1Ok_ev n l hl) ?_
      unfold stopsB at h
      cases h0 : netOkB n l with
      | false =>
        simp only [Bool.false_eq_true, if_false]
        exact ev_shift (ev_now fun k => by simp only [spec_TourNear.j0, if_true])
      | true =>
        rw [h0, Bool.true_and] at h
        simp only [if_true]
        refine Ev.bind (l17Stops_ev n l s hs) ?_
        rw [h]
        exact ev_shift (ev_now fun k => by simp only [spec_TourNear.j0, Bool.not_false, if_true])
    · refine Ev.bind (stopsOk_ev n l s hs) ?_
      rw [h]
      exact ev_now fun k => by simp
theorem tourN_length (n : Int) (l : List S100) (s : List Int) : ∀ (k : Nat) (out : List Int), (tourN n l s k out).length ≤ out.length + k := by
  intro k
  induction k with
  | zero => intro out; simp [tourN]
  | succ k ih =>
    intro out
    unfold tourN
    split
    · simp
    · have := ih (out ++ [(nextN (distV n l (rd out ((out.length - 1 : Nat) : Int))) out s (-1) 99999).1])
      simp at this
      omega
theorem tourNear_ex (n : Int) (l : List S100) (s : List Int) (hl : l.length ≤ 9223372036854775807) (hs : s.length ≤ 9223372036854775807) : ∃ V, (V.length ≤ 5 ∧ Ev (fun k => spec_TourNear.f k n l s) V) ∧ Ev (fun k => impl_TourNear.f k n l s) V := by
  obtain ⟨h1, h2⟩ := tourNear_val n l s hl hs
  refine ⟨_, ⟨?_, h1⟩, h2⟩
  split
  · rename_i h
    have h5 := (stops_of h).2.1
    have h3 := (stops_of h).2.2.1
    have := tourN_length n l s (s.length - 1) (s.take 1)
    rw [List.length_take] at this
    omega
  · simp
end Go.Proofs.Ytbappbbljncdeaa.Pure
