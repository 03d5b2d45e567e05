/- The pure statement of FnLoadNet: on every drawn net and load the program tells the net that is left, of all arcs just those that bear so much. No condition. -/
import Derived.Test.YthgihpbpebbebaaPureDrawNet
import Derived.Test.YthgihpbpebbebaaPureWkNet
import Derived.Test.YthgihpbpebbebaaPureLoadNet
import Derived.Test.YthgihpbpebbebaaPureNear
import Derived.Test.YthgihpbpebbebaaFKinds
import Derived.Test.YthgihpbpebbebaaFlawsFnLoadNet
import Derived.Test.YthgihpbpebbebaaFspecDrawLoadNet
import Derived.Test.YthgihpbpebbebaaFtextcore
namespace Go.Proofs.Ythgihpbpebbebaa.Pure
open Go.RowKit Go.Proofs.Ythgihpbpebbebaa.F Go.Proofs.YthgihpbpebbebaaW.PrintWords
set_option linter.unusedVariables false
set_option linter.unusedSimpArgs false
theorem drawLoadNet_ex (c : List Int) (h : ∀ x ∈ c, (Lit.int .u8 x).wf = true) : ∃ n l v, Ev (fun k => spec_DrawLoadNet.f k c) (n, l, v) ∧ l.length ≤ 13 := by
  obtain ⟨b, hb, ho⟩ := open_ex c h
  obtain ⟨n, l, q, he, h1, h2, h3, _⟩ := l30AnyNet_ex hb (p := 0) (by omega) (by omega)
  obtain ⟨v, e, _⟩ := pick_ex hb h2 (by omega) (n := 12) (by omega)
  unfold spec_DrawLoadNet.f
  simp only [ho, Option.bind_some]
  exact ⟨n, l, wrap64 (v - 1), Ev.bind he (Ev.bind e (ev_now fun _ => rfl)), h1⟩
theorem loadL_le (l : List S31) (a : Int) : loadL (loadL l a) a = loadL l a := by
  unfold loadL
  rw [List.filter_filter]
  simp
theorem loadL_zero {n : Int} {l : List S31} (hn : Net1 n l) : loadL l 0 = l := by
  unfold loadL
  rw [List.filter_eq_self]
  intro x hx
  obtain ⟨_, _, _, _, _, _, _, _, _, h, _⟩ := hn.ends x hx
  simpa using h
theorem netOk_load {n : Int} {l : List S31} (h : netOkB n l = true) (a : Int) : netOkB n (loadL l a) = true := by
  unfold netOkB at h ⊢
  simp only [Bool.and_eq_true, decide_eq_true_eq, Bool.not_eq_true'] at h ⊢
  refine ⟨h.1, Nat.le_trans (loadL_length l a) h.2.1, ?_⟩
  rw [List.any_eq_false] at h ⊢
  intro x hx
  exact h.2.2 x (List.mem_filter.1 hx).1
theorem FnLoadNet : laws_FnLoadNet.Pure := by
  intro c _ _ hc
  refine Ev.rounds ?_
  unfold laws_FnLoadNet.f
  by_cases h0 : (c.length : Int) > 1048576
  · simp only [h0, if_true]; exact ev_now fun _ => rfl
  · simp only [h0, if_false]
    obtain ⟨n, l, a, he, hl⟩ := drawLoadNet_ex c hc
    have hv := loadNetV_len n l a
    refine Ev.bind he (Ev.bind (implLoadNet_ev n l a) (Ev.bind (specLoadNet_ev n l a (by omega)) ?_))
    refine Ev.bind (wkNet_self _ _ (by omega)) ?_
    simp only [if_true]
    refine ev_shift ?_
    simp only [laws_FnLoadNet.j0]
    by_cases hz : (loadNetV n l a).1 = 0
    · have e : ((loadNetV n l a).1 == 0) = true := beq_iff_eq.2 hz
      simp only [e, if_true]
      refine Ev.bind (specLoadNet_ev n l a (by omega)) ?_
      exact Ev.bind (wkNet_self _ _ (by omega)) (ev_now fun _ => rfl)
    · have e : ((loadNetV n l a).1 == 0) = false := beq_eq_false_iff_ne.2 hz
      simp only [e, Bool.false_eq_true, if_false]
      have hok : (netOkB n l && inB a 0 9) = true := by
        cases h : (netOkB n l && inB a 0 9) with
        | true => rfl
        | false => unfold loadNetV at hz; rw [h] at hz; exact absurd rfl hz
      have hval : loadNetV n l a = (n, loadL l a) := by unfold loadNetV; rw [if_pos hok]
      rw [Bool.and_eq_true] at hok
      have hn := net1_of hok.1
      rw [hval]
      simp only
      have key := ev_ind (fun k (i : Nat) => laws_FnLoadNet.l0 k a (((loadL (l.take i) a).length : Nat) : Int) (i : Int) n l n (loadL l a)) (fun i => l.length - i) (fun i => i ≤ l.length) (fun _ => true) ?_ 0 (Nat.zero_le _)
      · exact key
      intro i hi ih
      by_cases h : i < l.length
      · have hlt : (i : Int) < (l.length : Int) := by omega
        have hi0 : (0 : Int) ≤ (i : Int) := by omega
        have next := ih (i + 1) (by omega) (by omega)
        have htk : l.take (i + 1) = l.take i ++ [l[i]] := by rw [List.take_succ_eq_append_getElem h]
        have hsp : loadL l a = loadL (l.take i) a ++ loadL (l.drop i) a := by
          unfold loadL
          rw [← List.filter_append, List.take_append_drop]
        simp only [laws_FnLoadNet.l0, hlt, hi0, if_true, arc_at l i h, wsucc h (show l.length ≤ 9223372036854775807 by omega)]
        by_cases hb : l[i].f4 ≥ a
        · have hd : loadL (l.drop i) a = l[i] :: loadL (l.drop (i + 1)) a := by
            unfold loadL
            rw [List.drop_eq_getElem_cons h, List.filter_cons, if_pos (by simpa using hb)]
          have hlen : (loadL (l.take i) a).length < (loadL l a).length := by rw [hsp, hd]; simp
          have hat : (loadL l a)[(loadL (l.take i) a).length]'hlen = l[i] := by
            have : (loadL l a)[(loadL (l.take i) a).length]? = some l[i] := by rw [hsp, hd]; simp
            exact (List.getElem?_eq_some_iff.1 this).2
          have c1 : ¬ (((loadL (l.take i) a).length : Nat) : Int) ≥ ((loadL l a).length : Int) := by omega
          have c2 : (0 : Int) ≤ (((loadL (l.take i) a).length : Nat) : Int) := by omega
          have c3 : (((loadL (l.take i) a).length : Nat) : Int) < ((loadL l a).length : Int) := by omega
          have hnx : (loadL (l.take (i + 1)) a).length = (loadL (l.take i) a).length + 1 := by
            rw [htk]; unfold loadL; rw [List.filter_append, List.length_append]; simp [hb]
          have hle := loadL_length l a
          rw [hnx] at next
          simp only [hb, if_true, c1, if_false, c2, c3, arc_at (loadL l a) _ hlen, hat, beq_self_eq_true, Bool.not_true, Bool.or_self, Bool.false_eq_true, wsucc hlen (show (loadL l a).length ≤ 9223372036854775807 by omega)]
          exact next
        · have hnx : (loadL (l.take (i + 1)) a).length = (loadL (l.take i) a).length := by
            rw [htk]; unfold loadL; rw [List.filter_append, List.length_append]; simp [hb]
          rw [hnx] at next
          simp only [hb, if_false]
          exact next
      · have hlt : ¬ (i : Int) < (l.length : Int) := by omega
        have hal : l.take i = l := List.take_of_length_le (by omega)
        have hok2 := netOk_load hok.1 a
        have v1 : loadNetV n (loadL l a) a = (n, loadL l a) := by unfold loadNetV; rw [hok2, hok.2, loadL_le]; rfl
        have v2 : loadNetV n l 0 = (n, l) := by unfold loadNetV; rw [hok.1, loadL_zero hn]; rfl
        simp only [laws_FnLoadNet.l0, hlt, if_false, netOk_eq, hok2, Option.bind_some, if_true, hal]
        refine Ev.bind (implLoadNet_ev n (loadL l a) a) ?_
        rw [v1]
        refine Ev.bind (wkNet_self n (loadL l a) (by have := loadL_length l a; omega)) ?_
        simp only [if_true]
        refine Ev.bind (implLoadNet_ev n l 0) ?_
        rw [v2]
        exact Ev.bind (wkNet_self n l (by omega)) (ev_now fun _ => rfl)
end Go.Proofs.Ythgihpbpebbebaa.Pure
