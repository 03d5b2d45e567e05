-- Printed by wip/px/px.py of this claim's repository (the kit's printer, extended there). Lean checks it.
import Derived.Test.YtbcedkcjodokkaaFKinds
namespace Go.Proofs.Ytbcedkcjodokkaa.F
open Go.RowKit Go.Proofs.YtbcedkcjodokkaaW.PrintWords Go.Proofs.YtbcedkcjodokkaaW.PrintLast Go.Proofs.YtbcedkcjodokkaaW.PrintMore
attribute [local go_sem] max2_int min2_int max_two min_two max_three min_three max_four min_four   -- for this text's walks alone
set_option linter.unusedVariables false
set_option linter.unusedSimpArgs false

/-! ### text news -/
/-- The cells of one of the news. -/
def nwC (x : S30) : List Value := [.int .i64 x.f0, .int .i64 x.f1, .int .i64 x.f2]
/-- The cells of news. -/
def nwCs : List S30 → List Value
  | [] => []
  | x :: xs => nwC x ++ nwCs xs
theorem nwCs_len : ∀ l, (nwCs l).length = l.length * 3
  | [] => rfl
  | x :: xs => by rw [nwCs, List.length_append, nwCs_len xs, List.length_cons]; simp only [nwC, List.length_cons, List.length_nil]; omega
theorem nwCs_append : ∀ a b, nwCs (a ++ b) = nwCs a ++ nwCs b
  | [], b => rfl
  | x :: xs, b => by rw [List.cons_append, nwCs, nwCs, nwCs_append xs b, List.append_assoc]
theorem nwCs_take (l : List S30) (i : Nat) : (nwCs l).take (i * 3) = nwCs (l.take i) := by
  by_cases h : i ≤ l.length
  · have e := nwCs_append (l.take i) (l.drop i)
    rw [List.take_append_drop] at e
    rw [e]
    exact List.take_left' (by rw [nwCs_len, List.length_take]; omega)
  · rw [List.take_of_length_le (by rw [nwCs_len]; omega), List.take_of_length_le (by omega)]
theorem nwCs_drop (l : List S30) (i : Nat) : (nwCs l).drop (i * 3) = nwCs (l.drop i) := by
  by_cases h : i ≤ l.length
  · have e := nwCs_append (l.take i) (l.drop i)
    rw [List.take_append_drop] at e
    rw [e]
    exact List.drop_left' (by rw [nwCs_len, List.length_take]; omega)
  · rw [List.drop_of_length_le (by rw [nwCs_len]; omega), List.drop_of_length_le (by omega)]; rfl
theorem nwCs_one : ∀ l, ∀ u ∈ nwCs l, u.oneCell' = true
  | [], u, h => by cases h
  | x :: xs, u, h => by
    rw [nwCs, List.mem_append] at h
    rcases h with h | h
    · simp only [nwC, List.mem_cons, List.not_mem_nil, or_false] at h
      rcases h with rfl | rfl | rfl <;> rfl
    · exact nwCs_one xs u h
theorem nwCs_get (l : List S30) (j : Nat) (h : j < l.length) : ((nwCs l).drop (j * 3)).take 3 = nwC l[j] := by
  rw [nwCs_drop, List.drop_eq_getElem_cons h, nwCs]
  rfl
theorem reps_nw (w : World) (base : Nat) (ok : Nat → Prop) (l : List S30) : Reps (k30.M w base ok) 3 l (nwCs l) := by
  refine ⟨nwCs_len l, fun j p hj => ?_⟩
  obtain ⟨h, rfl⟩ := List.getElem?_eq_some_iff.1 hj
  rw [nwCs_get l j h]
  exact k30_mkM w base ok _
theorem nw_reps {w : World} {base : Nat} {ok : Nat → Prop} : ∀ (l : List S30) (inner : List Value), Reps (k30.M w base ok) 3 l inner → inner = nwCs l := by
  intro l
  induction l with
  | nil => intro inner h; exact List.length_eq_zero_iff.1 (by simpa using h.1)
  | cons x xs ih =>
    intro inner h
    have h0 := k30_openM (h.2 0 x rfl)
    rw [Nat.zero_mul, List.drop_zero] at h0
    have h1 : Reps (k30.M w base ok) 3 xs (inner.drop 3) := by
      refine ⟨by rw [List.length_drop, h.1, List.length_cons]; omega, fun j p hj => ?_⟩
      have := h.2 (j + 1) p (by simpa using hj)
      rw [List.drop_drop, show 3 + j * 3 = (j + 1) * 3 by omega]
      exact this
    have h2 := ih _ h1
    rw [nwCs, ← h2, nwC, ← h0, List.take_append_drop]
theorem R_to {w : World} {base : Nat} {ok : Nat → Prop} {v : Value} {l : List S30} (h : Kd.R k30 30 w base ok v l) : (∀ k, v.ownBlock = some k → ok k) ∧ w.pwRow base 30 3 v l.length (nwCs l) := by
  obtain ⟨h0, inner, ho, hr⟩ := h
  have := nw_reps l inner hr
  subst this
  exact ⟨h0, ho⟩
theorem R_fro {w : World} {base : Nat} {ok : Nat → Prop} {v : Value} {l : List S30} (h0 : ∀ k, v.ownBlock = some k → ok k) (ho : w.pwRow base 30 3 v l.length (nwCs l)) : Kd.R k30 30 w base ok v l := ⟨h0, _, ho, reps_nw _ _ _ _⟩
/-- A row of news: nil, or a block of the call's own. -/
theorem R_nw {w : World} {base : Nat} {ok : Nat → Prop} {v : Value} {l : List S30} (h : Kd.R k30 30 w base ok v l) : (v = .slice none 0 0 ∧ l = []) ∨ ∃ g cap cur, v = .slice (some ⟨g, 0, none⟩) l.length cap ∧ ok g ∧ base ≤ g ∧ g < w.heap.size ∧ w.heap[g]? = some (.cells cur 30 (0, 0)) ∧ l.length ≤ cap ∧ cap ≤ maxLen ∧ cap * 3 ≤ cur.size ∧ cur.toList.take (l.length * 3) = nwCs l := by
  obtain ⟨h0, h1, h2⟩ := R_to h
  rcases h2 with ⟨e, h2⟩ | ⟨g, cap, cur, e, hb, hh, r⟩
  · exact .inl ⟨e, List.length_eq_zero_iff.1 h2⟩
  · exact .inr ⟨g, cap, cur, e, h0 g (by rw [e]; simp [Value.ownBlock]), hb, (Array.getElem?_eq_some_iff.1 hh).1, hh, r⟩
theorem R_over {w : World} {base : Nat} {ok : Nat → Prop} {l : List S30} {g cap : Nat} {cur : Array Value} (hg : ok g) (hb : base ≤ g) (hh : w.heap[g]? = some (.cells cur 30 (0, 0))) (hl : l.length ≤ cap) (hm : cap ≤ maxLen) (hc : cap * 3 ≤ cur.size) (ht : cur.toList.take (l.length * 3) = nwCs l) : Kd.R k30 30 w base ok (.slice (some ⟨g, 0, none⟩) l.length cap) l := by
  refine R_fro (fun k hk => ?_) ⟨nwCs_len l, .inr ⟨g, cap, cur, rfl, hb, hh, hl, hm, hc, ht⟩⟩
  have : g = k := by simpa [Value.ownBlock] using hk
  subst this
  exact hg
/-- Cells that are laid over a row, one after another. -/
theorem over_row {w0 w : World} {g o t : Nat} {cur : Array Value} (vs : List Value) (hg : w.heap[g]? = some (.cells cur t (0, 0))) (hfit : o + vs.length ≤ cur.size) (hb : w0.heap.size ≤ g) (hB : Below w0.heap.size w0 w) :
    ∃ cur', (w.setCells g o vs).heap[g]? = some (.cells cur' t (0, 0)) ∧ cur'.size = cur.size ∧ cur'.toList = cur.toList.take o ++ vs ++ cur.toList.drop (o + vs.length) ∧ Below w0.heap.size w0 (w.setCells g o vs) := by
  obtain ⟨cur', h1, h2, h3⟩ := setCells_row vs o w cur hg hfit
  obtain ⟨s1, s2, s3, s4⟩ := setCells_same g vs o w
  exact ⟨cur', h1, h2, h3, hB.trans ⟨s1, s2, s3, by rw [s4]; exact Nat.le_refl _, fun k hk => setCells_far vs o k (by omega)⟩⟩
theorem kept_over {w W : World} {g : Nat} {S : Nat → Prop} (h : Kept w W S) (hg : S g ∨ w.heap.size ≤ g) (vs : List Value) (o : Nat) : Kept w (W.setCells g o vs) S := by
  refine ⟨by rw [(setCells_same g vs o W).2.2.2]; exact h.1, fun i hi hn => ?_⟩
  rw [setCells_far vs o i ?_]
  · exact h.2 i hi hn
  · rintro rfl
    rcases hg with hg | hg
    · exact hn hg
    · omega

end Go.Proofs.Ytbcedkcjodokkaa.F
