import Derived.Test.YtbappbbljncdeaaPureLive
import Derived.Test.YtbappbbljncdeaaPureNodes
import Derived.Test.YtbappbbljncdeaaFKinds
import Derived.Test.YtbappbbljncdeaaFtextcore
namespace Go.Proofs.Ytbappbbljncdeaa.Pure
open Go.RowKit Go.Proofs.Ytbappbbljncdeaa.F Go.Proofs.YtbappbbljncdeaaW.PrintWords
set_option linter.unusedVariables false
set_option linter.unusedSimpArgs false
/-! ### what is near by news -/
theorem nowS_pos (k : Int) (ws : List S70) (h : ∀ x ∈ ws, x.f2 ≤ 99) : ∀ s c, 0 ≤ c → c + 99 * (ws.length : Int) ≤ 1000000 → 0 ≤ (nowS k ws s c).2 := by
  induction ws with
  | nil => intro s c h0 _; exact h0
  | cons w ws ih =>
    intro s c h0 hc
    have hw := h w (by simp)
    have ih := ih fun x hx => h x (by simp [hx])
    simp only [List.length_cons] at hc
    unfold nowS
    by_cases hk : w.f1 = k
    · rw [if_pos hk]
      by_cases hm : w.f2 < 0
      · rw [if_pos hm]; exact ih true c h0 (by omega)
      · rw [if_neg hm, w_id (n := c + w.f2) (by omega) (by omega)]
        exact ih s (c + w.f2) (by omega) (by omega)
    · rw [if_neg hk]; exact ih s c h0 (by omega)
theorem nowL_mem (w : List S70) (l : List S100) : ∀ k y, y ∈ nowL w l k → ∃ x ∈ l, ∃ k', y ∈ nowA w k' x := by
  induction l with
  | nil => intro k y h; simp [nowL] at h
  | cons x xs ih =>
    intro k y h
    simp only [nowL, List.mem_append] at h
    rcases h with h | h
    · exact ⟨x, by simp, _, h⟩
    · obtain ⟨z, hz, k', hk⟩ := ih _ _ h
      exact ⟨z, by simp [hz], k', hk⟩
theorem Net1.now {n : Int} {l : List S100} {w : List S70} (hn : Net1 n l) (hw : w.length ≤ 6) (h : ∀ x ∈ w, x.f2 ≤ 99) : Net1 n (nowL w l 0) := by
  refine ⟨hn.lo, hn.hi, Nat.le_trans (nowL_length w l 0) hn.len, fun y hy => ?_⟩
  obtain ⟨x, hx, k, hk⟩ := nowL_mem w l 0 y hy
  obtain ⟨e1, e2, e3, e4, e5, e6, e7, e8⟩ := hn.ends x hx
  have hp := nowS_pos k w h false x.f2 e6 (by omega)
  unfold nowA at hk
  split at hk
  · simp at hk
  · rw [List.mem_singleton] at hk
    subst hk
    refine ⟨e1, e2, e3, e4, e5, ?_, ?_, e8⟩
    · simp only; split <;> omega
    · simp only; split <;> omega
theorem newsB_less {m : Int} {x : S70} (h : newsB m x = true) : x.f2 ≤ 99 := by
  unfold newsB inB at h
  simp only [Bool.and_eq_true, decide_eq_true_eq] at h
  exact h.2.2.2
theorem newsB_more {m : Int} {x : S70} (h : newsB m x = true) : -1 ≤ x.f2 := by
  unfold newsB inB at h
  simp only [Bool.and_eq_true, decide_eq_true_eq] at h
  exact h.2.2.1
theorem live_net1 {n : Int} {l : List S100} {w : List S70} (h : liveB n l w = true) : Net1 n (nowL w l 0) :=
  (net1_of (liveB_len h).1).now (liveB_len h).2 fun x hx => newsB_less (liveB_more h x hx)
end Go.Proofs.Ytbappbbljncdeaa.Pure
