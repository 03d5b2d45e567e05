-- Printed by this claim's repository's tools (px.py, pgo.py, pack.py), one text behind the other. Lean checks it.
import Derived.Test.YtlgolgfcolnddaaFKindsPFnSomeOthers
import Derived.StillTailTactics
import Derived.Shelf.SlSortCmp.QuietGrown
import Derived.Sort.Grow
import Derived.Lib.SliceRun
import Derived.Shelf.SlSortCmp.NoneTotal
import Derived.Test.YtlgolgfcolnddaaPFnSomeOthers0
namespace Go.Proofs.Ytlgolgfcolnddaa.F
open Go.RowKit Go.Proofs.YtlgolgfcolnddaaW.PrintWords Go.Proofs.YtlgolgfcolnddaaW.PrintLast Go.Proofs.YtlgolgfcolnddaaW.PrintMore
attribute [local go_sem] qQe qQd qQi qQh qZk qZl qQc qQb
set_option linter.unusedVariables false
set_option linter.unusedSimpArgs false
/-! ### text quiettail -/
/-! A region that draws its order, whose first operations are quiet in a class of worlds and whose others come one behind the other (the kit's StillTail over the kit's class of worlds). -/
section
variable {P : Program} {ops : Array Oper} {md : Region.Mode} {C : World → Prop}
def wpAnyLQ (P : Program) (md : Region.Mode) (ops : Array Oper) (C : World → Prop) (n : Nat) (L : Array Bool → Act → Prop) : Nat → Array Bool → Act → Prop
  | 0, listed, a => L listed a
  | f + 1, listed, a => Region.ready md ops listed ≠ [] ∧ ∀ i ∈ Region.ready md ops listed, i < n ∧ qOp P ops C i (wpAnyLQ P md ops C n L f (listed.setIfInBounds i true)) a
theorem wpAnyLQ_head {n g : Nat} {L : Array Bool → Act → Prop} {Q' : Exit → Act → World → Prop} (hL : ∀ listed a w, C w → L listed a → wpAny P md ops Q' g listed a w) :
    ∀ (f : Nat) (listed : Array Bool) (a : Act) (w : World), C w → wpAnyLQ P md ops C n L f listed a → wpAny P md ops Q' (f + g) listed a w
  | 0, listed, a, w, hw, h => by rw [Nat.zero_add]; exact hL _ _ _ hw h
  | f + 1, listed, a, w, hw, h => by
    rw [show f + 1 + g = (f + g) + 1 by omega]
    exact ⟨fun h0 => absurd h0 h.1, fun i hi => wpOp_of_qOp hw (fun a' w' hw' h' => wpAnyLQ_head hL f _ a' w' hw' h') (h.2 i hi).2⟩
theorem wpAnyLQ_first {n i : Nat} {oi : Oper} {v : Value} {L : Array Bool → Act → Prop} (hi : ops[i]? = some oi) (hsel : ∀ (j : Nat) (o : Oper) cs b, ops[j]? = some o → o.op ≠ .select cs b)
    (hs : Region.sinkB md ops n = true) (hc : Region.chainB md ops n = true) (hn : n < ops.size) (hin : i < n)
    (hdone : ∀ listed a, L listed a → ∀ j ∈ Region.ready md ops listed, n ≤ j) :
    ∀ (f : Nat) (listed : Array Bool) (a : Act), HeadInv md ops n listed →
      (∀ j oj, ops[j]? = some oj → j ≠ i → listed.getD j true = false → (∀ e ∈ oj.after, Region.binds md e = true → e.on ≠ i) → oi.apart ops oj = true) →
      i ∈ Region.ready md ops listed → YieldsIn P ops C oi v a →
      wpAnyLQ P md ops C n L f (listed.setIfInBounds i true) (a.put oi.dst v) → wpAnyLQ P md ops C n L (f + 1) listed a := by
  intro f
  induction f with
  | zero =>
    intro listed a inv _ hr hy H
    have hun := (mem_ready.1 hr).1
    refine ⟨fun h => (by rw [h] at hr; cases hr), fun j hj => ?_⟩
    have hjn : j < n := by
      rcases Nat.lt_or_ge j n with h | h
      · exact h
      · exact absurd hj (tail_waits hs hc hn inv _ i rfl hin hun j h)
    refine ⟨hjn, ?_⟩
    by_cases hji : j = i
    · subst hji; exact hy.qOp hi H
    · have := hdone _ _ H j (ready_mono hj hji)
      omega
  | succ f ih =>
    intro listed a inv hfree hr hy H
    have hun := (mem_ready.1 hr).1
    refine ⟨fun h => (by rw [h] at hr; cases hr), fun j hj => ?_⟩
    have hjn : j < n := by
      rcases Nat.lt_or_ge j n with h | h
      · exact h
      · exact absurd hj (tail_waits hs hc hn inv _ i rfl hin hun j h)
    refine ⟨hjn, ?_⟩
    by_cases hji : j = i
    · subst hji; exact hy.qOp hi H
    · have h1 := (H.2 j (ready_mono hj hji)).2
      obtain ⟨hjun, oj, hoj, hall⟩ := mem_ready.1 hj
      have hnot : ∀ e ∈ oj.after, Region.binds md e = true → e.on ≠ i := fun e he hb heq => by
        have h1 := hall e he hb
        rw [heq, getD_both hun] at h1
        cases h1
      have h2 := qOp_put hoj (hfree j oj hoj hji hjun hnot) (fun cs b => hsel i oi cs b hi) (fun cs b => hsel j oj cs b hoj) hy h1
      have hfree' : ∀ k ok, ops[k]? = some ok → k ≠ i → (listed.setIfInBounds j true).getD k true = false →
          (∀ e ∈ ok.after, Region.binds md e = true → e.on ≠ i) → oi.apart ops ok = true := fun k ok hk hki hun hno => by
        refine hfree k ok hk hki ?_ hno
        by_cases hjk : j = k
        · subst hjk; exact hjun
        · rw [getD_set_ne true hjk] at hun; exact hun
      refine qOp_mono (fun a' h3 => ih (listed.setIfInBounds j true) a' (inv.set hj hjn) hfree' (ready_mono hr (Ne.symm hji)) h3.1 ?_) h2
      rw [Array.setIfInBounds_comm _ _ hji]
      exact h3.2
theorem wpAnyLQ_lex {n g : Nat} {Lq : Act → Prop} (hsel : Region.noSelect ops = true) (hs : Region.sinkB md ops n = true) (hc : Region.chainB md ops n = true) (hn : n < ops.size) :
    ∀ (l : List Oper) (k : Nat) (listed : Array Bool) (a : Act), (∀ j, j < l.length → l[j]? = ops[k + j]?) → k + l.length = n → HeadInv md ops n listed →
    Region.lexHead md ops g l.length k listed = true → wpQuiet P ops C Lq l a →
    wpAnyLQ P md ops C n (fun listed' a' => Region.seqB md ops g n listed' = true ∧ Lq a') l.length listed a
  | [], k, listed, a, _, hk, _, hB, h => by
    have : k = n := by simpa using hk
    subst this
    exact ⟨by simpa [Region.lexHead] using hB, h⟩
  | o :: l, k, listed, a, hl, hk, inv, hB, h => by
    have h0 : ops[k]? = some o := by simpa using (hl 0 (by simp)).symm
    simp only [List.length_cons, Region.lexHead, Bool.and_eq_true] at hB
    obtain ⟨⟨hr, hf⟩, hB'⟩ := hB
    have hkn : k < n := by simp only [List.length_cons] at hk; omega
    have hr' : k ∈ Region.ready md ops listed := by simpa using hr
    have hst : qOp P ops C k (wpQuiet P ops C Lq l) a := by unfold qOp; simp only [h0]; exact h
    obtain ⟨v, hy, hK⟩ := yieldsIn_of_qOp h0 hst
    exact wpAnyLQ_first h0 (Region.noSelect_spec hsel) hs hc hn hkn (fun listed' a' hL => seqB_ready hL.1) l.length listed a inv (Region.free_spec h0 hf) hr' hy
      (wpAnyLQ_lex hsel hs hc hn l (k + 1) _ _ (fun j hj => by have := hl (j + 1) (by simp; omega); simpa [Nat.add_assoc, Nat.add_comm 1 j] using this) (by simp only [List.length_cons] at hk; omega) (inv.set hr' hkn) hB' hK)
theorem wp_region_quiet_tail {id : Nat} {Q : Exit → Act → World → Prop} {a : Act} {w : World} {l : List Oper} (n : Nat) (hm : P.follows .mixedOrders = true) (hB : Region.lexTailB .any l.toArray n = true) (hC : C { w with drawn := w.drawn + 1 })
    (h : wpQuiet P l.toArray C (fun a' => ∀ w', C w' → wpList P l.toArray Q (l.drop n) a' w') (l.take n) a) : (Code.region id l.toArray true).wp P Q a w := by
  simp only [Region.lexTailB, Bool.and_eq_true, decide_eq_true_eq] at hB
  obtain ⟨⟨⟨⟨hsel, hn⟩, hs⟩, hc⟩, hlex⟩ := hB
  have hn' : n < l.length := by simpa using hn
  have htl : (l.take n).length = n := by simp; omega
  have hdl : (l.drop n).length = l.toArray.size - n := by simp
  have aa : HeadInv .any l.toArray n (Array.replicate l.toArray.size false) :=
    ⟨by simp, fun j oj _ hl => (by rw [getD_replicate_false] at hl; cases hl), fun t _ ht => getD_in (by simpa using ht) (getD_replicate_false _ _)⟩
  have H := wpAnyLQ_lex (md := .any) (g := l.toArray.size - n) hsel hs hc hn (l.take n) 0 _ a (fun j hj => by
    have hj' : j < n := by rw [htl] at hj; exact hj
    simp [hj']) (by simpa using htl) aa (by rw [htl]; exact hlex) h
  refine wp_region_any hm ?_
  have := wpAnyLQ_head (Q' := Q) (g := l.toArray.size - n) (fun listed a' w' hw' hL => by
    have := wpAny_of_seq (md := .any) (Q' := Q) (l.drop n) n listed a' w' (fun j => by simp [List.getElem?_drop]) (by rw [hdl]; exact hL.1) (hL.2 w' hw')
    rwa [hdl] at this) _ _ _ _ hC H
  rw [htl, show n + (l.toArray.size - n) = l.toArray.size by omega] at this
  exact this
end
/-! ### text someord -/
/-- The first list comes ahead of the second one, number by number. -/
def lexB : List Int → List Int → Bool
  | [], [] => false
  | [], _ :: _ => true
  | _ :: _, [] => false
  | x :: a, y :: b => if x = y then lexB a b else decide (x < y)
/-- By what it costs, by how many arcs, then by the arcs. -/
def qWg (c : List Int → Int) (a b : List Int) : Bool := if c a = c b then (if a.length = b.length then lexB a b else decide (a.length < b.length)) else decide (c a < c b)
theorem lexB_irr : ∀ a, lexB a a = false
  | [] => rfl
  | x :: a => by rw [lexB, if_pos rfl]; exact lexB_irr a
theorem lexB_trans : ∀ a b c, lexB a b = true → lexB b c = true → lexB a c = true
  | [], [], _, h, _ => by cases h
  | [], _ :: _, [], _, h => by cases h
  | [], _ :: _, _ :: _, _, _ => rfl
  | _ :: _, [], _, h, _ => by cases h
  | _ :: _, _ :: _, [], _, h => by cases h
  | x :: a, y :: b, z :: c, h1, h2 => by
    rw [lexB] at *
    by_cases e : x = y
    · rw [if_pos e] at h1
      by_cases f : y = z
      · rw [if_pos f] at h2
        rw [if_pos (e.trans f)]
        exact lexB_trans a b c h1 h2
      · rw [if_neg f, decide_eq_true_eq] at h2
        rw [if_neg (by omega), decide_eq_true_eq]
        omega
    · rw [if_neg e, decide_eq_true_eq] at h1
      by_cases f : y = z
      · rw [if_neg (by omega), decide_eq_true_eq]; omega
      · rw [if_neg f, decide_eq_true_eq] at h2
        rw [if_neg (by omega), decide_eq_true_eq]
        omega
theorem lexB_tot : ∀ a b, lexB a b = false → lexB b a = false → a = b
  | [], [], _, _ => rfl
  | [], _ :: _, h, _ => by cases h
  | _ :: _, [], _, h => by cases h
  | x :: a, y :: b, h1, h2 => by
    rw [lexB] at *
    by_cases e : x = y
    · rw [if_pos e] at h1
      rw [if_pos e.symm] at h2
      rw [e, lexB_tot a b h1 h2]
    · rw [if_neg e, decide_eq_false_iff_not] at h1
      rw [if_neg (fun z => e z.symm), decide_eq_false_iff_not] at h2
      omega
/-- A strict order in which no two tie. -/
structure TO {α : Type} (lt : α → α → Bool) : Prop where
  irr : ∀ a, lt a a = false
  trans : ∀ a b c, lt a b = true → lt b c = true → lt a c = true
  tot : ∀ a b, lt a b = false → lt b a = false → a = b
theorem toW (c : List Int → Int) : TO (qWg c) := by
  refine ⟨fun a => ?_, fun a b d h1 h2 => ?_, fun a b h1 h2 => ?_⟩
  · unfold qWg
    rw [if_pos rfl, if_pos rfl]
    exact lexB_irr a
  · unfold qWg at *
    by_cases e : c a = c b
    · rw [if_pos e] at h1
      by_cases f : c b = c d
      · rw [if_pos f] at h2
        rw [if_pos (e.trans f)]
        by_cases e1 : a.length = b.length
        · rw [if_pos e1] at h1
          by_cases f1 : b.length = d.length
          · rw [if_pos f1] at h2
            rw [if_pos (e1.trans f1)]
            exact lexB_trans _ _ _ h1 h2
          · rw [if_neg f1, decide_eq_true_eq] at h2
            rw [if_neg (by omega), decide_eq_true_eq]
            omega
        · rw [if_neg e1, decide_eq_true_eq] at h1
          by_cases f1 : b.length = d.length
          · rw [if_neg (by omega), decide_eq_true_eq]; omega
          · rw [if_neg f1, decide_eq_true_eq] at h2
            rw [if_neg (by omega), decide_eq_true_eq]
            omega
      · rw [if_neg f, decide_eq_true_eq] at h2
        rw [if_neg (by omega), decide_eq_true_eq]
        omega
    · rw [if_neg e, decide_eq_true_eq] at h1
      by_cases f : c b = c d
      · rw [if_neg (by omega), decide_eq_true_eq]; omega
      · rw [if_neg f, decide_eq_true_eq] at h2
        rw [if_neg (by omega), decide_eq_true_eq]
        omega
  · unfold qWg at *
    by_cases e : c a = c b
    · rw [if_pos e] at h1
      rw [if_pos e.symm] at h2
      by_cases e1 : a.length = b.length
      · rw [if_pos e1] at h1
        rw [if_pos e1.symm] at h2
        exact lexB_tot _ _ h1 h2
      · rw [if_neg e1, decide_eq_false_iff_not] at h1
        rw [if_neg (fun z => e1 z.symm), decide_eq_false_iff_not] at h2
        omega
    · rw [if_neg e, decide_eq_false_iff_not] at h1
      rw [if_neg (fun z => e z.symm), decide_eq_false_iff_not] at h2
      omega
theorem TO.nlt {α : Type} {lt : α → α → Bool} (h : TO lt) {a b c : α} (h1 : lt a b = false) (h2 : lt b c = false) : lt a c = false := by
  cases h3 : lt a c with
  | false => rfl
  | true =>
    cases h4 : lt b a with
    | true => rw [h.trans b a c h4 h3] at h2; cases h2
    | false => rw [h.tot a b h1 h4, h2] at h3; cases h3
theorem TO.asym {α : Type} {lt : α → α → Bool} (h : TO lt) {a b : α} (h1 : lt a b = true) : lt b a = false := by
  cases h2 : lt b a with
  | false => rfl
  | true => have := h.trans a b a h1 h2; rw [h.irr] at this; cases this
/-- None behind is ahead of one in front. -/
def qJj {α : Type} (lt : α → α → Bool) (L : List α) : Prop := L.Pairwise fun a b => lt b a = false
theorem sorted_one {α : Type} {lt : α → α → Bool} (h : TO lt) : ∀ {L L' : List α}, L.Perm L' → qJj lt L → qJj lt L' → L = L'
  | [], L', hp, _, _ => (List.nil_perm.1 hp).symm
  | a :: r, [], hp, _, _ => by have := hp.length_eq; simp at this
  | a :: r, b :: s, hp, h1, h2 => by
    unfold qJj at h1 h2
    rw [List.pairwise_cons] at h1 h2
    have e : a = b := by
      have ha : a ∈ b :: s := hp.subset (by simp)
      have hb : b ∈ a :: r := hp.symm.subset (by simp)
      rw [List.mem_cons] at ha hb
      rcases ha with ha | ha
      · exact ha
      · rcases hb with hb | hb
        · exact hb.symm
        · exact h.tot _ _ (h2.1 a ha) (h1.1 b hb)
    subst e
    rw [sorted_one h (List.perm_cons a |>.1 hp) h1.2 h2.2]
/-- One is put among others. -/
def insW {α : Type} (lt : α → α → Bool) (w : α) : List α → List α
  | [] => [w]
  | e :: r => if lt w e = true then w :: e :: r else e :: insW lt w r
theorem qWc {α : Type} (lt : α → α → Bool) (w : α) : ∀ L : List α, (insW lt w L).Perm (w :: L)
  | [] => List.Perm.refl _
  | e :: r => by
    rw [insW]
    split
    · exact List.Perm.refl _
    · exact (List.Perm.cons e (qWc lt w r)).trans (List.Perm.swap w e r)
theorem qKj {α : Type} {lt : α → α → Bool} (h : TO lt) (w : α) : ∀ {L : List α}, qJj lt L → qJj lt (insW lt w L)
  | [], _ => by rw [insW]; exact List.pairwise_singleton _ _
  | e :: r, hs => by
    rw [insW]
    unfold qJj at hs
    rw [List.pairwise_cons] at hs
    split
    · rename_i hl
      refine List.pairwise_cons.2 ⟨fun x hx => ?_, List.pairwise_cons.2 hs⟩
      rw [List.mem_cons] at hx
      rcases hx with rfl | hx
      · exact h.asym hl
      · exact h.nlt (hs.1 x hx) (h.asym hl)
    · rename_i hl
      refine List.pairwise_cons.2 ⟨fun x hx => ?_, qKj h w hs.2⟩
      have hx := (qWc lt w r).subset hx
      rw [List.mem_cons] at hx
      rcases hx with rfl | hx
      · exact Bool.eq_false_iff.2 hl
      · exact hs.1 x hx
/-- In order. -/
def jQb {α : Type} (lt : α → α → Bool) (D : List α) : List α := D.foldl (fun L w => insW lt w L) []
theorem fold_perm {α : Type} (lt : α → α → Bool) : ∀ (D L : List α), (D.foldl (fun L w => insW lt w L) L).Perm (D ++ L)
  | [], L => List.Perm.refl _
  | d :: D, L => by
    rw [List.foldl_cons, List.cons_append]
    refine (fold_perm lt D _).trans ?_
    refine ((qWc lt d L).append_left D).trans ?_
    exact List.perm_middle
theorem fold_sorted {α : Type} {lt : α → α → Bool} (h : TO lt) : ∀ (D : List α) {L : List α}, qJj lt L → qJj lt (D.foldl (fun L w => insW lt w L) L)
  | [], _, hs => hs
  | d :: D, _, hs => by rw [List.foldl_cons]; exact fold_sorted h D (qKj h d hs)
theorem qYf {α : Type} (lt : α → α → Bool) (D : List α) : (jQb lt D).Perm D := by
  have := fold_perm lt D []
  rwa [List.append_nil] at this
theorem sortW_sorted {α : Type} {lt : α → α → Bool} (h : TO lt) (D : List α) : qJj lt (jQb lt D) := fold_sorted h D List.Pairwise.nil
theorem sortW_one {α : Type} {lt : α → α → Bool} (h : TO lt) {D L : List α} (hp : L.Perm D) (hs : qJj lt L) : L = jQb lt D := sorted_one h (hp.trans (qYf lt D).symm) hs (sortW_sorted h D)
/-! ### text somecmp -/
theorem isNaNS_any (x : Int) (w : World) : Calls Try.prog 117 #[.int .i64 x] w fun e w' => e = .returned (.bool false) ∧ w' = w := by
  go_enter Try.func117, Try.ntmps117
  go_wp2
  go_ret
  simp
/-- As cmp.Compare says it. -/
def cmpS (x y : Int) : Int := if x < y then -1 else if y < x then 1 else 0
set_option maxHeartbeats 2000000 in
set_option maxRecDepth 100000 in
theorem compareS_any (x y : Int) (w : World) : Calls Try.prog 97 #[.int .i64 x, .int .i64 y] w fun e w' => e = .returned (.int .i64 (cmpS x y)) ∧ w' = w := by
  have HX := Aside0.mk (isNaNS_any x w)
  have HY := Aside0.mk (isNaNS_any y w)
  unfold cmpS
  by_cases h1 : x < y
  · rw [if_pos h1]
    go_enter Try.func97, Try.ntmps97
    go_wp2_with (first | (go_at_call 117; refine HX.out.mono ?_; rintro e w' ⟨rfl, rfl⟩) | (go_at_call 117; refine HY.out.mono ?_; rintro e w' ⟨rfl, rfl⟩))
    go_ret
    exact ⟨rfl, rfl⟩
  · by_cases h2 : y < x
    · rw [if_neg h1, if_pos h2]
      go_enter Try.func97, Try.ntmps97
      go_wp2_with (first | (go_at_call 117; refine HX.out.mono ?_; rintro e w' ⟨rfl, rfl⟩) | (go_at_call 117; refine HY.out.mono ?_; rintro e w' ⟨rfl, rfl⟩))
      go_ret
      exact ⟨rfl, rfl⟩
    · rw [if_neg h1, if_neg h2]
      go_enter Try.func97, Try.ntmps97
      go_wp2_with (first | (go_at_call 117; refine HX.out.mono ?_; rintro e w' ⟨rfl, rfl⟩) | (go_at_call 117; refine HY.out.mono ?_; rintro e w' ⟨rfl, rfl⟩))
      go_ret
      exact ⟨rfl, rfl⟩
/-- The first of three that is not zero. -/
def orS (a b c : Int) : Int := if a = 0 then (if b = 0 then c else b) else a
set_option maxHeartbeats 2000000 in
set_option maxRecDepth 100000 in
theorem orS_any (a b c : Int) (g : Nat) (w : World) (h0 : w.cell? ⟨g, 0, none⟩ = some (.int .i64 a)) (h1 : w.cell? ⟨g, 1, none⟩ = some (.int .i64 b)) (h2 : w.cell? ⟨g, 2, none⟩ = some (.int .i64 c)) : Calls Try.prog 96 #[.slice (some ⟨g, 0, none⟩) 3 3] w fun e w' => e = .returned (.int .i64 (orS a b c)) ∧ w' = w := by
  have H0 := Aside0.mk h0
  have H1 := Aside0.mk h1
  have H2 := Aside0.mk h2
  clear h0 h1 h2
  go_enter Try.func96, Try.ntmps96
  go_wp2
  go_loopg [5, 8] 3 (fun kx _ s8 wr => wr = w ∧ ((s8 = .int .i64 0 ∧ 3 ≤ kx) ∨ (s8 = .int .i64 1 ∧ 2 ≤ kx ∧ a = 0) ∨ (s8 = .int .i64 2 ∧ 1 ≤ kx ∧ a = 0 ∧ b = 0) ∨ (s8 = .int .i64 3 ∧ a = 0 ∧ b = 0 ∧ c = 0)))
  case atStart => exact ⟨rfl, .inl ⟨rfl, Nat.le_refl _⟩⟩
  case round =>
    obtain ⟨rfl, ⟨rfl, hk⟩ | ⟨rfl, hk, ha⟩ | ⟨rfl, hk, ha, hb⟩ | ⟨rfl, ha, hb, hc⟩⟩ := hrel
    · have h0 := H0.out
      by_cases ha : a = 0
      · have h2 : (a != 0) = false := by rw [ha]; rfl
        go_wp2
        go_roundg 2
        case measure => omega
        case rel => exact ⟨rfl, .inr (.inl ⟨by go_num, Nat.le_refl _, ha⟩)⟩
      · have h2 : (a != 0) = true := bne_iff_ne.2 ha
        go_wp2
        go_ret
        exact ⟨by unfold orS; rw [if_neg ha]; rfl, rfl⟩
    · have h1 := H1.out
      by_cases hb : b = 0
      · have h2 : (b != 0) = false := by rw [hb]; rfl
        go_wp2
        go_roundg 1
        case measure => omega
        case rel => exact ⟨rfl, .inr (.inr (.inl ⟨by go_num, Nat.le_refl _, ha, hb⟩))⟩
      · have h2 : (b != 0) = true := bne_iff_ne.2 hb
        go_wp2
        go_ret
        exact ⟨by unfold orS; rw [if_pos ha, if_neg hb]; rfl, rfl⟩
    · have h1 := H2.out
      by_cases hc : c = 0
      · have h2 : (c != 0) = false := by rw [hc]; rfl
        go_wp2
        go_roundg 0
        case measure => omega
        case rel => exact ⟨rfl, .inr (.inr (.inr ⟨by go_num, ha, hb, hc⟩))⟩
      · have h2 : (c != 0) = true := bne_iff_ne.2 hc
        go_wp2
        go_ret
        exact ⟨by unfold orS; rw [if_pos ha, if_pos hb]; rfl, rfl⟩
    · go_wp2
      go_ret
      exact ⟨by unfold orS; rw [if_pos ha, if_pos hb, hc]; rfl, rfl⟩
/-- As slices.Compare says it. -/
def cmpL : List Int → List Int → Int
  | [], [] => 0
  | [], _ :: _ => -1
  | _ :: _, [] => 1
  | x :: a, y :: b => if x = y then cmpL a b else cmpS x y
theorem cmpL_at (a b : List Int) (i : Nat) (h : i < a.length) (h2 : i < b.length) : cmpL (a.drop i) (b.drop i) = if cmpS a[i] b[i] = 0 then cmpL (a.drop (i + 1)) (b.drop (i + 1)) else cmpS a[i] b[i] := by
  rw [List.drop_eq_getElem_cons h, List.drop_eq_getElem_cons h2, cmpL]
  by_cases e : a[i] = b[i]
  · rw [if_pos e, if_pos (by unfold cmpS; rw [e]; simp)]
  · rw [if_neg e, if_neg (by unfold cmpS; split <;> (try split) <;> omega)]
theorem jQf : ∀ a b, (cmpL a b < 0 ↔ lexB a b = true)
  | [], [] => by rw [cmpL, lexB]; simp
  | [], _ :: _ => by rw [cmpL, lexB]; simp
  | _ :: _, [] => by rw [cmpL, lexB]; simp
  | x :: a, y :: b => by
    rw [cmpL, lexB]
    by_cases e : x = y
    · rw [if_pos e, if_pos e]; exact jQf a b
    · rw [if_neg e, if_neg e, decide_eq_true_eq]; unfold cmpS; split <;> (try split) <;> omega
theorem clipS_any (A : Option Addr) (n c : Nat) (h : n ≤ c) (w : World) : Calls Try.prog 60 #[.slice A n c] w fun e w' => e = .returned (.slice A n n) ∧ w' = w := by
  obtain ⟨i0, hi0, _⟩ := Option.map_eq_some_iff.1 qYj
  have hcut := jQe 28 33 Try.underlying28 hi0 A n c h
  clear hi0
  go_enter Try.func60, Try.ntmps60
  go_wp2
  go_ret
  exact ⟨rfl, rfl⟩
set_option maxHeartbeats 2000000 in
set_option maxRecDepth 100000 in
theorem compareL_any (A B : Option Addr) (ca cb : Nat) (a b : List Int) (w : World) (hA : Kd.C (Kd.int .i64) w A a.length a) (hca : a.length ≤ ca) (hB : Kd.C (Kd.int .i64) w B b.length b) (hcb : b.length ≤ cb) :
    Calls Try.prog 98 #[.slice A a.length ca, .slice B b.length cb] w fun e w' => e = .returned (.int .i64 (cmpL a b)) ∧ w' = w := by
  have HA := Aside0.mk hA
  have HB := Aside0.mk hB
  have CC := Aside0.mk (fun x y => compareS_any x y w)
  have la := hA.2.1
  have lb := hB.2.1
  have ml : maxLen ≤ 9223372036854775807 := by decide
  clear hA hB
  go_enter Try.func98, Try.ntmps98
  go_wp2
  go_loopg [11] a.length (fun kx s11 wr => ∃ (i : Nat), s11 = .int .i64 (i : Int) ∧ wr = w ∧ i ≤ a.length ∧ a.length - i ≤ kx ∧ i ≤ b.length ∧ Aside0 (cmpL (a.drop i) (b.drop i) = cmpL a b))
  case atStart => exact ⟨0, rfl, rfl, Nat.zero_le _, by omega, Nat.zero_le _, ⟨by simp⟩⟩
  case round =>
    obtain ⟨i, rfl, rfl, hi, hg, hib, HS⟩ := hrel
    have z : (0 : Int) ≤ (i : Int) := by omega
    by_cases hlt : i < a.length
    · have hltz : (i : Int) < (a.length : Int) := by omega
      obtain ⟨ad, ea, q0⟩ := Kd.at_int HA.out (i : Int) z (by omega)
      cases ea
      rw [Int.toNat_natCast] at q0
      have r0 : rd a (i : Int) = a[i] := by simp [rd, hlt]
      rw [r0] at q0
      by_cases hlb : i < b.length
      · have hg2 : ¬ (i : Int) ≥ (b.length : Int) := by omega
        have hlz : (i : Int) < (b.length : Int) := by omega
        obtain ⟨bd, eb, q1⟩ := Kd.at_int HB.out (i : Int) z (by omega)
        cases eb
        rw [Int.toNat_natCast] at q1
        have r1 : rd b (i : Int) = b[i] := by simp [rd, hlb]
        rw [r1] at q1
        have HE := Aside0.mk ((cmpL_at a b i hlt hlb).symm.trans HS.out)
        generalize a[i] = x at q0 HE
        generalize b[i] = y at q1 HE
        have C1 := Aside0.mk (CC.out x y)
        generalize cmpS x y = c at C1 HE
        by_cases hc : c = 0
        · have hc2 : (c != 0) = false := by rw [hc]; rfl
          have HN := Aside0.mk (by have := HE.out; rwa [if_pos hc] at this : cmpL (a.drop (i + 1)) (b.drop (i + 1)) = cmpL a b)
          clear HS HE
          go_wp2_with (go_at_call 97; refine C1.out.mono ?_; rintro e w' ⟨rfl, rfl⟩)
          go_roundg (a.length - (i + 1))
          case measure => omega
          case rel => exact ⟨i + 1, by go_num, rfl, hlt, Nat.le_refl _, hlb, HN⟩
        · have hc2 : (c != 0) = true := bne_iff_ne.2 hc
          have HN := Aside0.mk (by have := HE.out; rwa [if_neg hc] at this : c = cmpL a b)
          clear HS HE
          go_wp2_with (go_at_call 97; refine C1.out.mono ?_; rintro e w' ⟨rfl, rfl⟩)
          go_ret
          exact ⟨by rw [HN.out]; rfl, rfl⟩
      · have hg2 : (i : Int) ≥ (b.length : Int) := by omega
        have HN := Aside0.mk (by have := HS.out; rw [List.drop_eq_getElem_cons hlt, List.drop_of_length_le (show b.length ≤ i by omega), cmpL] at this; exact this : 1 = cmpL a b)
        clear HS
        go_wp2
        go_ret
        exact ⟨by rw [← HN.out]; rfl, rfl⟩
    · have hltz : ¬ (i : Int) < (a.length : Int) := by omega
      have hia : i = a.length := by omega
      by_cases hlb : (a.length : Int) < (b.length : Int)
      · have HN := Aside0.mk (by have := HS.out; rw [List.drop_of_length_le (show a.length ≤ i by omega), List.drop_eq_getElem_cons (show i < b.length by omega), cmpL] at this; exact this : -1 = cmpL a b)
        clear HS
        go_wp2
        go_ret
        exact ⟨by rw [← HN.out]; rfl, rfl⟩
      · have HN := Aside0.mk (by have := HS.out; rw [List.drop_of_length_le (show a.length ≤ i by omega), List.drop_of_length_le (show b.length ≤ i by omega), cmpL] at this; exact this : 0 = cmpL a b)
        clear HS
        go_wp2
        go_ret
        exact ⟨by rw [← HN.out]; rfl, rfl⟩
/-- What arcs cost, behind what was counted. -/
def wcost (l : List S58) : List Int → Int → Int
  | [], s => s
  | k :: r, s => wcost l r (wrap64 (s + (qZa l k).f2))
theorem wcost_at (l : List S58) (a : List Int) (i : Nat) (h : i < a.length) (s : Int) : wcost l (a.drop i) s = wcost l (a.drop (i + 1)) (wrap64 (s + (qZa l (rd a (i : Int))).f2)) := by
  have e : rd a (i : Int) = a[i] := by simp [rd, h]
  rw [List.drop_eq_getElem_cons h, wcost, e]
set_option maxHeartbeats 2000000 in
set_option maxRecDepth 100000 in
theorem jZg (n : Int) (A0 : Option Addr) (c0 : Nat) (l : List S58) (A : Option Addr) (ca : Nat) (a : List Int) (w : World) (hr0 : Kd.C k58 w A0 l.length l) (hA : Kd.C (Kd.int .i64) w A a.length a) (hin : ∀ k ∈ a, 0 ≤ k ∧ k < (l.length : Int)) :
    Calls Try.prog 49 #[.agg #[.int .i64 n, .slice A0 l.length c0], .slice A a.length ca] w fun e w' => e = .returned (.int .i64 (wcost l a 0)) ∧ w' = w.alloc (.cells #[.int .i64 n, .slice A0 l.length c0] 25) := by
  have hu := Try.underlying25
  have la := hA.2.1
  have ml : maxLen ≤ 9223372036854775807 := by decide
  obtain ⟨W, hW⟩ : ∃ W, W = w.alloc (.cells #[.int .i64 n, .slice A0 l.length c0] 25) := ⟨_, rfl⟩
  have hB : Below w.heap.size w W := by rw [hW]; exact qZn (Below.refl _ _) _
  have b1 : W.heap[w.heap.size]? = some (.cells #[.int .i64 n, .slice A0 l.length c0] 25 (0, 0)) := by rw [hW]; exact qXo w _
  have x0 : W.cell? ⟨w.heap.size, 0, none⟩ = some (.int .i64 n) := (qZb b1 0).trans rfl
  have x1 : W.cell? ⟨w.heap.size, 1, none⟩ = some (.slice A0 l.length c0) := (qZb b1 1).trans rfl
  have HA := Aside0.mk (Kd.C_below hA hB)
  have HR := Aside0.mk (Kd.C_below hr0 hB)
  have HIN := Aside0.mk hin
  clear hA hr0 hB b1 hin
  go_enter Try.func49, Try.ntmps49
  go_wp2
  rw [← hW]
  have HW := Aside0.mk hW
  clear hW
  go_loopg [5, 10] a.length (fun kx s5 s10 wr => ∃ (i : Nat) (s : Int), s5 = .int .i64 s ∧ s10 = .int .i64 (i : Int) ∧ wr = W ∧ i ≤ a.length ∧ a.length - i ≤ kx ∧ Aside0 (wcost l (a.drop i) s = wcost l a 0))
  case atStart => exact ⟨0, 0, rfl, rfl, rfl, Nat.zero_le _, by omega, ⟨by simp⟩⟩
  case round =>
    obtain ⟨i, s, rfl, rfl, rfl, hi, hg, HS⟩ := hrel
    have z : (0 : Int) ≤ (i : Int) := by omega
    by_cases hlt : i < a.length
    · have hltz : (i : Int) < (a.length : Int) := by omega
      obtain ⟨ad, ea, q0⟩ := Kd.at_int HA.out (i : Int) z (by omega)
      cases ea
      rw [Int.toNat_natCast] at q0
      have hm : 0 ≤ rd a (i : Int) ∧ rd a (i : Int) < (l.length : Int) := HIN.out _ (by simp [rd, hlt])
      have HN := Aside0.mk ((wcost_at l a i hlt s).symm.trans HS.out)
      generalize rd a (i : Int) = k at q0 hm HN
      obtain ⟨p0, p1⟩ := hm
      obtain ⟨bd, eb, y0, y1, y2, y3, y4⟩ := qJk HR.out k p0 p1
      cases eb
      clear HS
      go_wp2
      go_roundg (a.length - (i + 1))
      case measure => omega
      case rel => exact ⟨i + 1, _, rfl, by go_num, rfl, hlt, Nat.le_refl _, HN⟩
    · have hltz : ¬ (i : Int) < (a.length : Int) := by omega
      have HN := Aside0.mk (by have := HS.out; rw [List.drop_of_length_le (show a.length ≤ i by omega), wcost] at this; exact this : s = wcost l a 0)
      clear HS
      go_wp2
      go_ret
      exact ⟨by rw [← HN.out]; rfl, HW.out⟩
/-- By cost, by how many arcs, then by the arcs. -/
def cmpW (l : List S58) (a b : List Int) : Int := orS (cmpS (wcost l a 0) (wcost l b 0)) (cmpS (a.length : Int) (b.length : Int)) (cmpL a b)
set_option maxHeartbeats 2000000 in
set_option maxRecDepth 100000 in
theorem closeS_any (n : Int) (A0 : Option Addr) (c0 : Nat) (l : List S58) (gn : Nat) (A B : Option Addr) (ca cb : Nat) (a b : List Int) (W : World) (hn : W.heap[gn]? = some (.cells #[.int .i64 n, .slice A0 l.length c0] 25 (0, 0))) (hr0 : Kd.C k58 W A0 l.length l) (hA : Kd.C (Kd.int .i64) W A a.length a) (hca : a.length ≤ ca) (hia : ∀ k ∈ a, 0 ≤ k ∧ k < (l.length : Int)) (hB : Kd.C (Kd.int .i64) W B b.length b) (hcb : b.length ≤ cb) (hib : ∀ k ∈ b, 0 ≤ k ∧ k < (l.length : Int)) :
    Calls Try.prog 95 #[.slice A a.length ca, .slice B b.length cb, .pointer (some ⟨gn, 0, none⟩)] W fun e w' => e = .returned (.int .i64 (cmpW l a b)) ∧ ∃ q os', w' = Go.Sort.grow (W.drewN q) os' := by
  have bel : ∀ m os, Below W.heap.size W (Go.Sort.grow (W.drewN m) os) := fun m os => ⟨rfl, rfl, rfl, by simp [Go.Sort.grow], fun k hk => by simp [Go.Sort.grow, World.drewN, Array.getElem?_append, hk]⟩
  have hu := Try.underlying25
  have gl := qZh hn
  have x0 : ∀ m os, (Go.Sort.grow (W.drewN m) os).cell? ⟨gn, 0, none⟩ = some (.int .i64 n) := fun m os => ((bel m os).cell gl).trans ((qZb hn 0).trans rfl)
  have x1 : ∀ m os, (Go.Sort.grow (W.drewN m) os).cell? ⟨gn, 1, none⟩ = some (.slice A0 l.length c0) := fun m os => ((bel m os).cell gl).trans ((qZb hn 1).trans rfl)
  have K1 := Aside0.mk (fun (p : GrownBy) => (jZg n A0 c0 l A ca a (Go.Sort.grow (W.drewN p.n) p.os) (Kd.C_below hr0 (bel _ _)) (Kd.C_below hA (bel _ _)) hia).mono (R' := fun e w' => e = .returned (.int .i64 (wcost l a 0)) ∧ ∃ p : GrownBy, w' = Go.Sort.grow (W.drewN p.n) p.os) fun e w' h => ⟨h.1, ⟨p.n, p.os ++ #[.cells #[.int .i64 n, .slice A0 l.length c0] 25]⟩, h.2.trans (by rw [Go.Sort.alloc_eq_grow, Go.Sort.grow_grow])⟩)
  have K2 := Aside0.mk (fun (p : GrownBy) => (jZg n A0 c0 l B cb b (Go.Sort.grow (W.drewN p.n) p.os) (Kd.C_below hr0 (bel _ _)) (Kd.C_below hB (bel _ _)) hib).mono (R' := fun e w' => e = .returned (.int .i64 (wcost l b 0)) ∧ ∃ p : GrownBy, w' = Go.Sort.grow (W.drewN p.n) p.os) fun e w' h => ⟨h.1, ⟨p.n, p.os ++ #[.cells #[.int .i64 n, .slice A0 l.length c0] 25]⟩, h.2.trans (by rw [Go.Sort.alloc_eq_grow, Go.Sort.grow_grow])⟩)
  have K3 := Aside0.mk (fun (x y : Int) (p : GrownBy) => (compareS_any x y (Go.Sort.grow (W.drewN p.n) p.os)).mono (R' := fun e w' => e = .returned (.int .i64 (cmpS x y)) ∧ ∃ p : GrownBy, w' = Go.Sort.grow (W.drewN p.n) p.os) fun e w' h => ⟨h.1, p, h.2⟩)
  have K4 := Aside0.mk (fun (p : GrownBy) => (compareL_any A B ca cb a b (Go.Sort.grow (W.drewN p.n) p.os) (Kd.C_below hA (bel _ _)) hca (Kd.C_below hB (bel _ _)) hcb).mono (R' := fun e w' => e = .returned (.int .i64 (cmpL a b)) ∧ ∃ p : GrownBy, w' = Go.Sort.grow (W.drewN p.n) p.os) fun e w' h => ⟨h.1, p, h.2⟩)
  have OO := Aside0.mk (fun (x y z : Int) (g : Nat) (V : World) (h : V.heap[g]? = some (.cells #[.int .i64 x, .int .i64 y, .int .i64 z] 3 (0, 0))) => orS_any x y z g V ((qZb h 0).trans rfl) ((qZb h 1).trans rfl) ((qZb h 2).trans rfl))
  clear bel hn hr0 hA hB hia hib
  go_enter Try.func95, Try.ntmps95
  go_wp2
  refine wp_region_quiet_tail (C := fun w' => ∃ p : GrownBy, w' = Go.Sort.grow (W.drewN p.n) p.os) 15 (by kernel_rfl) (by kernel_rfl) ⟨⟨1, #[]⟩, by rw [Go.Sort.grow_empty]; rfl⟩ ?_
  simp only [List.take_succ_cons, List.take_zero, List.drop_succ_cons, List.drop_zero]
  iterate 2 (quiet_step (fail))
  quiet_step (exact K1.out _)
  iterate 2 (quiet_step (fail))
  quiet_step (exact K2.out _)
  quiet_step (exact K3.out _ _ _)
  iterate 4 (quiet_step (fail))
  quiet_step (exact K3.out _ _ _)
  iterate 2 (quiet_step (fail))
  quiet_step (exact K4.out _)
  refine wpQuiet_nil ?_
  rintro w' ⟨⟨nq, osq⟩, rfl⟩
  clear x0 x1 K1 K2 K3 K4
  obtain ⟨V, hV⟩ : ∃ V, V = Go.Sort.grow (W.drewN nq) osq := ⟨_, rfl⟩
  show wpList _ _ _ _ _ (Go.Sort.grow (W.drewN nq) osq)
  rw [← hV]
  have HV := Aside0.mk hV
  clear hV
  have OR := Aside0.mk (OO.out (cmpS (wcost l a 0) (wcost l b 0)) (cmpS (a.length : Int) (b.length : Int)) (cmpL a b) V.heap.size (V.alloc (.cells #[.int .i64 (cmpS (wcost l a 0) (wcost l b 0)), .int .i64 (cmpS (a.length : Int) (b.length : Int)), .int .i64 (cmpL a b)] 3)) (qXo V _))
  go_wp2_with (go_at_call 96; refine OR.out.mono ?_; rintro e w' ⟨rfl, rfl⟩)
  go_ret
  refine ⟨rfl, nq, osq ++ #[.cells #[.int .i64 (cmpS (wcost l a 0) (wcost l b 0)), .int .i64 (cmpS (a.length : Int) (b.length : Int)), .int .i64 (cmpL a b)] 3], ?_⟩
  rw [HV.out, Go.Sort.alloc_eq_grow, Go.Sort.grow_grow]
/-! ### text somefol -/
def loopS {β : Type} (g : Int → β → Option β) : Nat → Nat → β → Option β
  | 0, _, st => some st
  | c + 1, i, st => (g (i : Int) st).bind fun s => loopS g c (i + 1) s
/-- All walks that go on so, to no node twice. -/
def folF (l : List S58) (tg : Int) : Nat → Int → Nat → List Int → List (List Int) → Option (List (List Int))
  | 0, at_, s, w, out => if at_ = tg then (if out.length < 1000000000000 then some (out ++ [w]) else none) else none
  | m + 1, at_, s, w, out => if at_ = tg then (if out.length < 1000000000000 then some (out ++ [w]) else none) else loopS (fun i o => if (qZa l i).f0 = at_ ∧ s / 2 ^ (qZa l i).f1.toNat % 2 = 0 then folF l tg m (qZa l i).f1 (s ||| 2 ^ (qZa l i).f1.toNat) (w ++ [i]) o else some o) l.length 0 out
theorem bitsAnd1 (n : Nat) (h : n < 9223372036854775808) : bits .and .i64 (n : Int) 1 = ((n % 2 : Nat) : Int) := by
  have e : (BitVec.ofInt 64 (n : Int) &&& BitVec.ofInt 64 1).toNat = n % 2 := by
    rw [BitVec.toNat_and]
    have e1 : (BitVec.ofInt 64 (n : Int)).toNat = n := by rw [BitVec.toNat_ofInt]; omega
    have e2 : (BitVec.ofInt 64 1).toNat = 1 := by decide
    rw [e1, e2, Nat.and_one_is_mod]
  show IntKind.i64.wrap ((BitVec.ofInt 64 (n : Int) &&& BitVec.ofInt 64 1).toNat : Int) = _
  rw [e, IntKind.wrap_i64]
  omega
theorem bitsOr (a b : Nat) (h : a < 256) (h2 : b < 256) : bits .or .i64 (a : Int) (b : Int) = ((a ||| b : Nat) : Int) := by
  have e : (BitVec.ofInt 64 (a : Int) ||| BitVec.ofInt 64 (b : Int)).toNat = a ||| b := by
    rw [BitVec.toNat_or]
    have e1 : (BitVec.ofInt 64 (a : Int)).toNat = a := by rw [BitVec.toNat_ofInt]; omega
    have e2 : (BitVec.ofInt 64 (b : Int)).toNat = b := by rw [BitVec.toNat_ofInt]; omega
    rw [e1, e2]
  have h3 : a ||| b < 2 ^ 8 := Nat.or_lt_two_pow (by omega) (by omega)
  show IntKind.i64.wrap ((BitVec.ofInt 64 (a : Int) ||| BitVec.ofInt 64 (b : Int)).toNat : Int) = _
  rw [e, IntKind.wrap_i64]
  omega
/-- What holds while walks are followed. -/
structure FolI (w2 : World) (gto gout gwk gn gf : Nat) (tg : Int) (nb : Array Value) (W : World) (wv ov : Value) (w : List Int) (out : List (List Int)) : Prop where
  below : Below w2.heap.size w2 W
  tgt : W.heap[gto]? = some (.cells #[.int .i64 tg] 3 (0, 0))
  net : W.heap[gn]? = some (.cells nb 25 (0, 0))
  fol : ∃ T, W.heap[gf]? = some (.cells #[.func (.func 92) #[] #[.pointer (some ⟨gto, 0, none⟩), .pointer (some ⟨gout, 0, none⟩), .pointer (some ⟨gwk, 0, none⟩), .pointer (some ⟨gn, 0, none⟩), .pointer (some ⟨gf, 0, none⟩)]] T (0, 0))
  wk : W.heap[gwk]? = some (.cells #[wv] 33 (0, 0))
  ot : W.heap[gout]? = some (.cells #[ov] 28 (0, 0))
  rw : Kd.R (Kd.int .i64) 3 W w2.heap.size (fun k => ¬ (k = gto ∨ k = gout ∨ k = gwk ∨ k = gn ∨ k = gf)) wv w
  so : Kd.S (Kd.slice 3 (Kd.int .i64)) 33 W w2.heap.size (fun k => ¬ (k = gto ∨ k = gout ∨ k = gwk ∨ k = gn ∨ k = gf) ∧ some k ≠ wv.ownBlock) ov out
theorem FolI.next {w2 : World} {gto gout gwk gn gf : Nat} {tg : Int} {nb : Array Value} {W W' : World} {wv ov : Value} {w : List Int} {out : List (List Int)} (h : FolI w2 gto gout gwk gn gf tg nb W wv ov w out) (hb : Below W.heap.size W W') : FolI w2 gto gout gwk gn gf tg nb W' wv ov w out := by
  obtain ⟨h1, h2, h3, ⟨T, h4⟩, h5, h6, h7, h8⟩ := h
  exact ⟨h1.trans (hb.mono h1.size), (hb.block _ (qZh h2)).trans h2, (hb.block _ (qZh h3)).trans h3, ⟨T, (hb.block _ (qZh h4)).trans h4⟩, (hb.block _ (qZh h5)).trans h5, (hb.block _ (qZh h6)).trans h6, Kd.R_below h7 hb, Kd.S_below h8 hb⟩
/-- The boxes are five, and new. -/
structure Apart5 (b gto gout gwk gn gf : Nat) : Prop where
  o1 : gout ≠ gto
  o2 : gout ≠ gwk
  o3 : gout ≠ gn
  o4 : gout ≠ gf
  k1 : gwk ≠ gto
  k2 : gwk ≠ gn
  k3 : gwk ≠ gf
  bo : b ≤ gout
  bk : b ≤ gwk
theorem FolI.putOut {w2 : World} {gto gout gwk gn gf : Nat} {tg : Int} {nb : Array Value} {W w3 : World} {wv ov v3 : Value} {w : List Int} {out out' : List (List Int)} (ha : Apart5 w2.heap.size gto gout gwk gn gf) (h : FolI w2 gto gout gwk gn gf tg nb W wv ov w out) (hg : W.grownBy w3 ov.ownBlock) (hb : Below w2.heap.size w2 w3)
    (hs : Kd.S (Kd.slice 3 (Kd.int .i64)) 33 w3 w2.heap.size (fun k => ¬ (k = gto ∨ k = gout ∨ k = gwk ∨ k = gn ∨ k = gf) ∧ some k ≠ wv.ownBlock) v3 out') : FolI w2 gto gout gwk gn gf tg nb (w3.setCell ⟨gout, 0, none⟩ v3) wv v3 w out' := by
  obtain ⟨h1, h2, h3, ⟨T, h4⟩, h5, h6, h7, h8⟩ := h
  have own := (Kd.S_R h8).1
  have keep : ∀ g o, (g = gto ∨ g = gout ∨ g = gwk ∨ g = gn ∨ g = gf) → W.heap[g]? = some o → w3.heap[g]? = some o := fun g o hx hh => (hg.block g (qZh hh) (fun e => (own g e.symm).1 hx)).trans hh
  have r2 := Kd.R_far (p := ⟨gout, 0, none⟩) (Kd.R_grown2 h7 rfl hg (fun k e => (own k e).2)) (fun k hk e => hk (.inr (.inl e))) v3
  have s2 := Kd.S_far (p := ⟨gout, 0, none⟩) hs (fun k hk e => hk.1 (.inr (.inl e))) v3
  exact ⟨below_set hb ha.bo, blk_far (keep _ _ (.inl rfl) h2) ha.o1.symm _, blk_far (keep _ _ (.inr (.inr (.inr (.inl rfl)))) h3) ha.o3.symm _, ⟨T, blk_far (keep _ _ (.inr (.inr (.inr (.inr rfl)))) h4) ha.o4.symm _⟩, blk_far (keep _ _ (.inr (.inr (.inl rfl))) h5) ha.o2.symm _, blk_set (keep _ _ (.inr (.inl rfl)) h6) 0 _, r2, s2⟩
theorem FolI.putWalk {w2 : World} {gto gout gwk gn gf : Nat} {tg : Int} {nb : Array Value} {W w3 : World} {wv ov v3 : Value} {w w' : List Int} {out : List (List Int)} (ha : Apart5 w2.heap.size gto gout gwk gn gf) (h : FolI w2 gto gout gwk gn gf tg nb W wv ov w out) (hg : W.grownBy w3 wv.ownBlock) (hb : Below w2.heap.size w2 w3)
    (hr : Kd.R (Kd.int .i64) 3 w3 w2.heap.size (fun k => ¬ (k = gto ∨ k = gout ∨ k = gwk ∨ k = gn ∨ k = gf)) v3 w') (hat : v3.ownBlock = wv.ownBlock ∨ ∃ b, v3.ownBlock = some b ∧ W.heap.size ≤ b) : FolI w2 gto gout gwk gn gf tg nb (w3.setCell ⟨gwk, 0, none⟩ v3) v3 ov w' out := by
  obtain ⟨h1, h2, h3, ⟨T, h4⟩, h5, h6, h7, h8⟩ := h
  have own := h7.1
  have keep : ∀ g o, (g = gto ∨ g = gout ∨ g = gwk ∨ g = gn ∨ g = gf) → W.heap[g]? = some o → w3.heap[g]? = some o := fun g o hx hh => (hg.block g (qZh hh) (fun e => own g e.symm hx)).trans hh
  have r2 := Kd.R_far (p := ⟨gwk, 0, none⟩) hr (fun k hk e => hk (.inr (.inr (.inl e)))) v3
  have s1 := Kd.S_grown (Kd.S_bound h8) hg (fun k hk => hk.1.2)
  have s2 := Kd.S_far (p := ⟨gwk, 0, none⟩) (Kd.S_mono (ok' := fun k => ¬ (k = gto ∨ k = gout ∨ k = gwk ∨ k = gn ∨ k = gf) ∧ some k ≠ v3.ownBlock) s1 (fun k hk => ⟨hk.1.1, fun e => by
    rcases hat with e2 | ⟨b, e2, hb2⟩
    · exact hk.1.2 (e.trans e2)
    · have e3 := e.trans e2
      injection e3 with e3
      have := hk.2.2.1
      omega⟩)) (fun k hk e => hk.1 (.inr (.inr (.inl e)))) v3
  exact ⟨below_set hb ha.bk, blk_far (keep _ _ (.inl rfl) h2) ha.k1.symm _, blk_far (keep _ _ (.inr (.inr (.inr (.inl rfl)))) h3) ha.k2.symm _, ⟨T, blk_far (keep _ _ (.inr (.inr (.inr (.inr rfl)))) h4) ha.k3.symm _⟩, blk_set (keep _ _ (.inr (.inr (.inl rfl))) h5) 0 _, blk_far (keep _ _ (.inr (.inl rfl)) h6) ha.o2 _, r2, s2⟩
/-! ### slices_Clone_int_int: function 81 -/
set_option maxHeartbeats 2000000 in
set_option maxRecDepth 100000 in
theorem clone_int (A0 : Option Addr) (c0 : Nat) (l0 : List (Int)) (w : World) (hr0 : Kd.C (Kd.int .i64) w A0 l0.length l0) (hc0 : l0.length ≤ c0) (hlim : l0.length < 17592186044416) :
  Calls Try.prog 81 #[.slice A0 l0.length c0] w fun e w' => ∃ v0_ : Value, e = .returned (v0_) ∧ Kd.R (Kd.int .i64) 3 w' w.heap.size (fun _ => True) v0_ l0 ∧ Below w.heap.size w w' := by
 have q22 : ∀ (w : World) (a : Option Addr) (n c n' c' : Nat), (binOp .eql 33 (.slice a n c) (.slice none n' c')).run Try.prog w = .ok (.bool a.isNone) w := fun w a n c n' c' => Lib.run_eql_slice_nil w _ _ a n c n' c' Try.underlying33
 have HR0 := ak hr0
 have HC0 := ak hc0
 have HLM := ak hlim
 have HB := ak (Below.refl w.heap.size w)
 cases A0 with
 | none =>
  have hl : l0 = [] := by
   cases l0 with
   | nil => rfl
   | cons x xs => obtain ⟨a, ha, _⟩ := hr0.2.2 (by simp); cases ha
  subst hl
  clear hr0 hc0 hlim
  go_enter Try.func81, Try.ntmps81
  go_wp2
  go_ret
  exact ⟨_, rfl, Kd.R_nil _ _ _ _ _, HB.out⟩
 | some ad =>
  clear hr0 hc0 hlim
  go_enter Try.func81, Try.ntmps81
  go_wp2_with (first | ((with_reducible refine gate_dst (N := 5) rfl ?_); refine Kd.R_lit (Kd.int .i64) _ 3 ?hg (N := 5) ?hd (xs := ([] : List (Int))) (inner := []) (ok := fun _ => True) (okp := fun _ => True) ?hr ?hp (fun _ hk => hk) trivial (Below.refl _ _) (Nat.le_refl _) (by simp) ?_; (case hd => rfl); (case hg => rfl); (case hr => (go_simp; done)); (case hp => exact (Reps.none _ _)); intro v1 w1 ho1 hb hg_ hnew_; clear hg_ hnew_; have HO1 := ak (Kd.R_lower ho1 (qZc (bl HB))); replace HB := ak (qZd (bl HB) hb); clear hb ho1) | ((with_reducible refine gate_builtin (b := .append) (xs := #[.tmp 5, .tmp 6]) rfl ?_); at_builtin; refine Kd.R_append_rows (Kd.int .i64) (w0 := w) w.heap.size rfl (.tmp 5) (.tmp 6) 33 3 (.int .i64 0) 8 rfl Try.underlying33 qYd rfl (by decide) (by omega) _ ([] : List (Int)) l0 _ _ _ (fun _ => True) (fun _ => False) rfl rfl ?aO ?aR (fun _ _ h => h) (fun _ h => h.elim) ?aF ?aB ?aS ?aL ?_; (case aR => exact (Kd.C_below HR0.out HB.out)); (case aB => exact (bl HB)); (case aF => exact (fun _ _ => trivial)); (case aO => exact (rk HO1)); (case aS => exact (qZc (bl HB))); (case aL => have := HLM.out; simp only [List.length_nil, Nat.zero_add]; omega); intro v2 w2 ho hb hg hat; have n1_ := ak hb; have n2_ := ak ho; clear HB; clear HO1; have HB := n1_; have HO2 := n2_; clear n1_ n2_; clear ho hb hg hat))
  go_ret
  exact ⟨_, rfl, HO2.out, HB.out⟩
def slices_Clone_int_int.f (l0 : List (Int)) : Option (List (Int)) := if l0.length < 17592186044416 then some l0 else none
theorem slices_Clone_int_int.calls (A0 : Option Addr) (c0 : Nat) (l0 : List (Int)) (r : List (Int)) (w : World) (hr0 : Kd.C (Kd.int .i64) w A0 l0.length l0) (hc0 : l0.length ≤ c0) (h : slices_Clone_int_int.f l0 = some r) :
  Calls Try.prog 81 #[.slice A0 l0.length c0] w fun e w' => ∃ v0_ : Value, e = .returned (v0_) ∧ Kd.R (Kd.int .i64) 3 w' w.heap.size (fun _ => True) v0_ r ∧ Below w.heap.size w w' := by
 unfold slices_Clone_int_int.f at h
 by_cases hl : l0.length < 17592186044416
 rotate_left
 ·rw [if_neg hl] at h
  cases h
 rw [if_pos hl] at h
 obtain rfl := Option.some.inj h
 exact clone_int A0 c0 l0 w hr0 hc0 hl
/-! ### text somefolend -/
theorem mask_lt (s v : Nat) (hs : s < 256) (hv : v < 8) : s ||| 2 ^ v < 256 := by
  have p1 : 2 ^ v ≤ 2 ^ 7 := Nat.pow_le_pow_right (by decide) (by omega)
  have p2 : s ||| 2 ^ v < 2 ^ 8 := Nat.or_lt_two_pow (by omega) (by omega)
  omega
theorem mask_or (s : Nat) (hs : s < 256) (v : Int) (h : v < 8) : bits .or .i64 (s : Int) (wrap64 (2 ^ v.toNat)) = ((s ||| 2 ^ v.toNat : Nat) : Int) := by
  have p1 : 2 ^ v.toNat ≤ 2 ^ 7 := Nat.pow_le_pow_right (by decide) (by omega)
  have e3 : wrap64 (2 ^ v.toNat) = ((2 ^ v.toNat : Nat) : Int) := by
    rw [show (2 : Int) ^ v.toNat = ((2 ^ v.toNat : Nat) : Int) by push_cast; rfl]
    generalize 2 ^ v.toNat = q at p1 ⊢
    unfold wrap64
    omega
  rw [e3]
  exact bitsOr _ _ hs (by omega)
theorem clipI_any (A : Option Addr) (n c : Nat) (h : n ≤ c) (w : World) : Calls Try.prog 93 #[.slice A n c] w fun e w' => e = .returned (.slice A n n) ∧ w' = w := by
  obtain ⟨i0, hi0, _⟩ := Option.map_eq_some_iff.1 qYd
  have hcut := jQe 33 3 Try.underlying33 hi0 A n c h
  clear hi0
  go_enter Try.func93, Try.ntmps93
  go_wp2
  go_ret
  exact ⟨rfl, rfl⟩
set_option maxHeartbeats 4000000 in
set_option maxRecDepth 100000 in
theorem follow_end (w2 : World) (gto gout gwk gn gf : Nat) (ha : Apart5 w2.heap.size gto gout gwk gn gf) (tg : Int) (nb : Array Value) (s : Int) (W : World) (wv ov : Value) (w : List Int) (out : List (List Int)) (hI : FolI w2 gto gout gwk gn gf tg nb W wv ov w out) (hl : out.length < 1000000000000) (hwl : w.length ≤ 1000) :
    Calls Try.prog 92 #[.int .i64 tg, .int .i64 s, .pointer (some ⟨gto, 0, none⟩), .pointer (some ⟨gout, 0, none⟩), .pointer (some ⟨gwk, 0, none⟩), .pointer (some ⟨gn, 0, none⟩), .pointer (some ⟨gf, 0, none⟩)] W fun e w' => e = .returned (.tuple #[]) ∧ ∃ wv' ov', FolI w2 gto gout gwk gn gf tg nb w' wv' ov' w (out ++ [w]) := by
  obtain ⟨Aw, cw, rfl, hcw, hCw⟩ := Kd.R_reads hI.rw
  have t1 : ∀ W1, Below W.heap.size W W1 → W1.cell? ⟨gto, 0, none⟩ = some (.int .i64 tg) ∧ W1.cell? ⟨gout, 0, none⟩ = some ov ∧ W1.frozen? ⟨gout, 0, none⟩ = false ∧ gout < W1.heap.size := fun W1 hb => ⟨((qZb ((hb.block _ (qZh hI.tgt)).trans hI.tgt) 0).trans rfl), ((qZb ((hb.block _ (qZh hI.ot)).trans hI.ot) 0).trans rfl), qQm ((hb.block _ (qZh hI.ot)).trans hI.ot) 0, Nat.lt_of_lt_of_le (qZh hI.ot) hb.size⟩
  have x1 := (t1 W (Below.refl _ _)).1
  have x2 := (t1 W (Below.refl _ _)).2.1
  have x3 : W.cell? ⟨gwk, 0, none⟩ = some (.slice Aw w.length cw) := (qZb hI.wk 0).trans rfl
  have T1 := Aside0.mk t1
  have HI := Aside0.mk hI
  have CL := Aside0.mk (fun (W1 : World) (hb : Below W.heap.size W W1) => slices_Clone_int_int.calls Aw cw w w W1 (Kd.C_below hCw hb) hcw (by unfold slices_Clone_int_int.f; rw [if_pos (by omega)]))
  have CP := Aside0.mk (fun (A1 : Option Addr) (c1 : Nat) (h : w.length ≤ c1) (W1 : World) => clipI_any A1 w.length c1 h W1)
  have AP := Aside0.mk (fun (w1 : World) (A1 : Option Addr) (c1 : Nat) (hb : Below W.heap.size W w1) (hr : Kd.R (Kd.int .i64) 3 w1 W.heap.size (fun _ => True) (.slice A1 w.length c1) w) => (by
    have hI1 := hI.next hb
    have own := (Kd.S_R hI.so).1
    have hw2 := hI.below.size
    have hr2 : Kd.R (Kd.int .i64) 3 w1 w2.heap.size (fun k => W.heap.size ≤ k) (.slice A1 w.length w.length) w := Kd.R_lower (Kd.R_mono (Kd.R_bound (Kd.R_clip hr)) (fun k hk => hk.2.1)) hw2
    refine ⟨⟨_, rfl, hr2⟩, fun k hk => ⟨⟨?_, fun e => ?_⟩, fun e => ?_⟩, fun k hk => ⟨?_, fun e => ?_⟩, Kd.S_mono (Kd.S_below (Kd.S_bound hI.so) hb) (fun k hk => ⟨hk.1, by have := hk.2.2.1; omega⟩), hI1.below, Nat.le_trans hw2 hb.size⟩
    · have a1 := qZh hI.tgt; have a2 := qZh hI.ot; have a3 := qZh hI.wk; have a4 := qZh hI.net; obtain ⟨T, h5⟩ := hI.fol; have a5 := qZh h5; omega
    · have := Kd.R_lt hI.rw k e.symm; omega
    · have := Kd.R_lt (Kd.S_R hI.so) k e.symm; omega
    · have a0 := hb.size; have a1 := qZh hI.tgt; have a2 := qZh hI.ot; have a3 := qZh hI.wk; have a4 := qZh hI.net; obtain ⟨T, h5⟩ := hI.fol; have a5 := qZh h5; omega
    · have := Kd.R_lt hI.rw k e.symm; have := hb.size; omega : (∃ v, [Value.slice A1 w.length w.length] = [v] ∧ Kd.R (Kd.int .i64) 3 w1 w2.heap.size (fun k => W.heap.size ≤ k) v w) ∧ (∀ k, W.heap.size ≤ k → (¬ (k = gto ∨ k = gout ∨ k = gwk ∨ k = gn ∨ k = gf) ∧ some k ≠ (Value.slice Aw w.length cw).ownBlock) ∧ some k ≠ ov.ownBlock) ∧ (∀ k, w1.heap.size ≤ k → ¬ (k = gto ∨ k = gout ∨ k = gwk ∨ k = gn ∨ k = gf) ∧ some k ≠ (Value.slice Aw w.length cw).ownBlock) ∧ Kd.S (Kd.slice 3 (Kd.int .i64)) 33 w1 w2.heap.size (fun k => (¬ (k = gto ∨ k = gout ∨ k = gwk ∨ k = gn ∨ k = gf) ∧ some k ≠ (Value.slice Aw w.length cw).ownBlock) ∧ ¬ W.heap.size ≤ k) ov out ∧ Below w2.heap.size w2 w1 ∧ w2.heap.size ≤ w1.heap.size))
  have GO := Aside0.mk (fun (w1 w3 : World) (hb : Below W.heap.size W w1) (hg : w1.grownBy w3 ov.ownBlock) => ((hg.block gout (qZh (hI.next hb).ot) (fun e => ((Kd.S_R hI.so).1 gout e.symm).1 (.inr (.inl rfl)))).trans (hI.next hb).ot : w3.heap[gout]? = some (.cells #[ov] 28 (0, 0))))
  have e0 : (tg == tg) = true := beq_iff_eq.2 rfl
  have LL := Aside0.mk (show (out.length + 1) * 24 ≤ 140737488355328 by omega)
  have HA5 := Aside0.mk ha
  clear t1 hI hCw ha
  go_enter Try.func92, Try.ntmps92
  go_wp2
  go_region_law (first | (go_simp; go_at_call 81; refine (CL.out _ (qJl (Below.refl _ _))).mono ?_; rintro e w1 ⟨v1, rfl, hr1, hb1⟩; obtain ⟨A1, c1, rfl, hc1, _⟩ := Kd.R_reads hr1; have HB1 := Aside0.mk (show Below W.heap.size W w1 from (qJl (Below.refl _ _)).trans hb1); have y1 := (T1.out w1 HB1.out).2.1; have y2 := (T1.out w1 HB1.out).2.2.1; have y3 := (T1.out w1 HB1.out).2.2.2; have HR1 := Aside0.mk hr1; have HC1 := Aside0.mk hc1; have AX := Aside0.mk (AP.out w1 A1 c1 HB1.out hr1); clear hr1 hb1 hc1) | (go_simp; go_at_call 93; refine (CP.out A1 c1 HC1.out _).mono ?_; rintro e w' ⟨rfl, hw'⟩; have hw2 := hw'.symm; clear hw'; subst hw2) | (refine Kd.S_append_step (Kd.slice 3 (Kd.int .i64)) (w0 := w2) w2.heap.size rfl (.tmp 14) (.tmp 18) 28 33 (.slice none 0 0) 24 rfl Try.underlying28 qYj rfl (by decide) (by decide) ov out w [.slice A1 w.length w.length] _ (fun k => W.heap.size ≤ k) rfl rfl AX.out.1 AX.out.2.1 AX.out.2.2.1 AX.out.2.2.2.1 AX.out.2.2.2.2.1 AX.out.2.2.2.2.2 LL.out ?_; intro v3 w3 hs3 hb3 hg3 _; obtain ⟨A3, c3, rfl⟩ := Kd.S_slice hs3; have z1 := GO.out w1 w3 HB1.out hg3; have z2 := (qZb z1 0).trans rfl; have z3 := qQm z1 0; clear z1; have HS3 := Aside0.mk hs3; have HB3 := Aside0.mk hb3; have HG3 := Aside0.mk hg3; clear hs3 hb3 hg3))
  all_goals
    go_wp2
    refine bodyPost_ret (results_none rfl _ _ _) rfl ?_
    have hs4 := HS3.out
    rw [List.length_append, List.length_singleton] at hs4
    exact ⟨rfl, _, _, FolI.putOut HA5.out (HI.out.next HB1.out) HG3.out HB3.out hs4⟩
/-! ### text somefolall -/
set_option maxHeartbeats 4000000 in
set_option maxRecDepth 100000 in
theorem follow_any (l : List S58) (A0 : Option Addr) (c0 : Nat) (n : Int) (hl8 : ∀ x ∈ l, 0 ≤ x.f1 ∧ x.f1 < 8) (w2 : World) (hr0 : Kd.C k58 w2 A0 l.length l) (hll : l.length ≤ 1000) (gto gout gwk gn gf : Nat) (ha : Apart5 w2.heap.size gto gout gwk gn gf) (tg : Int) :
    ∀ (m : Nat) (at_ : Int) (s : Nat) (W : World) (wv ov : Value) (w : List Int) (out out' : List (List Int)), w.length + m ≤ 1000 → s < 256 → FolI w2 gto gout gwk gn gf tg #[.int .i64 n, .slice A0 l.length c0] W wv ov w out → folF l tg m at_ s w out = some out' →
    Calls Try.prog 92 #[.int .i64 at_, .int .i64 (s : Int), .pointer (some ⟨gto, 0, none⟩), .pointer (some ⟨gout, 0, none⟩), .pointer (some ⟨gwk, 0, none⟩), .pointer (some ⟨gn, 0, none⟩), .pointer (some ⟨gf, 0, none⟩)] W fun e w' => e = .returned (.tuple #[]) ∧ ∃ wv' ov', FolI w2 gto gout gwk gn gf tg #[.int .i64 n, .slice A0 l.length c0] w' wv' ov' w out' := by
  intro m
  have fin : ∀ (s : Nat) (W : World) (wv ov : Value) (w : List Int) (out out' : List (List Int)), w.length ≤ 1000 → FolI w2 gto gout gwk gn gf tg #[.int .i64 n, .slice A0 l.length c0] W wv ov w out → (if out.length < 1000000000000 then some (out ++ [w]) else none) = some out' →
    Calls Try.prog 92 #[.int .i64 tg, .int .i64 (s : Int), .pointer (some ⟨gto, 0, none⟩), .pointer (some ⟨gout, 0, none⟩), .pointer (some ⟨gwk, 0, none⟩), .pointer (some ⟨gn, 0, none⟩), .pointer (some ⟨gf, 0, none⟩)] W fun e w' => e = .returned (.tuple #[]) ∧ ∃ wv' ov', FolI w2 gto gout gwk gn gf tg #[.int .i64 n, .slice A0 l.length c0] w' wv' ov' w out' := by
    intro s W wv ov w out out' hw hI h
    by_cases hlt : out.length < 1000000000000
    · rw [if_pos hlt] at h
      obtain rfl := Option.some.inj h
      exact follow_end w2 gto gout gwk gn gf ha tg _ s W wv ov w out hI hlt hw
    · rw [if_neg hlt] at h; cases h
  induction m with
  | zero =>
    intro at_ s W wv ov w out out' hm hs hI h
    rw [folF] at h
    by_cases he : at_ = tg
    · rw [if_pos he] at h
      subst he
      exact fin s W wv ov w out out' (by omega) hI h
    · rw [if_neg he] at h; cases h
  | succ m ih =>
    intro at_ s W wv ov w out out' hm hs hI h
    rw [folF] at h
    by_cases he : at_ = tg
    · rw [if_pos he] at h
      subst he
      exact fin s W wv ov w out out' (by omega) hI h
    rw [if_neg he] at h
    obtain ⟨G, hG⟩ : ∃ G, G = (fun (i : Int) (o : List (List Int)) => if (qZa l i).f0 = at_ ∧ s / 2 ^ (qZa l i).f1.toNat % 2 = 0 then folF l tg m (qZa l i).f1 (s ||| 2 ^ (qZa l i).f1.toNat) (w ++ [i]) o else some o) := ⟨_, rfl⟩
    have e0 : (at_ == tg) = false := beq_eq_false_iff_ne.2 he
    have x1 : W.cell? ⟨gto, 0, none⟩ = some (.int .i64 tg) := (qZb hI.tgt 0).trans rfl
    have x2 : W.cell? ⟨gn, 1, none⟩ = some (.slice A0 l.length c0) := (qZb hI.net 1).trans rfl
    have hu := Try.underlying25
    have HI := Aside0.mk hI
    have HG := Aside0.mk hG
    have H := Aside0.mk (show loopS G l.length 0 out = some out' by rw [hG]; exact h)
    have IH := Aside0.mk ih
    have HR := Aside0.mk hr0
    have HA5 := Aside0.mk ha
    have H8 := Aside0.mk hl8
    clear hI h ih hr0 hG ha hl8 fin he
    go_enter Try.func92, Try.ntmps92
    go_wp2
    go_loopg [23] l.length (fun kx s23 wr => ∃ (i : Nat) (o1 : List (List Int)), s23 = .int .i64 i ∧ i ≤ l.length ∧ l.length - i ≤ kx ∧ Aside0 (∃ wv1 ov1, FolI w2 gto gout gwk gn gf tg #[.int .i64 n, .slice A0 l.length c0] wr wv1 ov1 w o1) ∧ Aside0 (loopS G (l.length - i) i o1 = some out'))
    case atStart => exact ⟨0, out, rfl, Nat.zero_le _, by omega, ⟨_, _, HI.out⟩, H⟩
    case round =>
      clear HI H x1 x2
      obtain ⟨i, o1, rfl, hi, hg, KI, H⟩ := hrel
      obtain ⟨wv1, ov1, hI⟩ := KI.out
      by_cases hlt : i < l.length
      · have hltz : (i : Int) < (l.length : Int) := by omega
        have z0 : (0 : Int) ≤ (i : Int) := by omega
        obtain ⟨d, hd⟩ : ∃ d, l.length - i = d + 1 := ⟨l.length - i - 1, by omega⟩
        have h := H.out
        rw [hd] at h
        obtain ⟨o2, h1, h2⟩ := Option.bind_eq_some_iff.mp (show (G (i : Int) o1).bind (fun s => loopS G d (i + 1) s) = some out' from h)
        rw [HG.out] at h1
        change (ite _ _ _) = some o2 at h1
        have NX := Aside0.mk (show loopS G (l.length - (i + 1)) (i + 1) o2 = some out' by rw [show l.length - (i + 1) = d by omega]; exact h2)
        clear h h2 H hd
        obtain ⟨ad, ea, q0, q1, q2, q3, q4⟩ := qJk (Kd.C_below HR.out hI.below) (i : Int) z0 hltz
        cases ea
        rw [Int.toNat_natCast] at q0 q1 q2 q3 q4
        have hv : 0 ≤ (qZa l (i : Int)).f1 ∧ (qZa l (i : Int)).f1 < 8 := H8.out _ (by simp [qZa, hlt])
        generalize hx : qZa l (i : Int) = x at q0 q1 q2 q3 q4 hv h1
        obtain ⟨v0, v1⟩ := hv
        have H1 := Aside0.mk h1
        have HI := Aside0.mk hI
        clear h1 hI
        by_cases c1 : x.f0 = at_
        · have c1b : (x.f0 == at_) = true := beq_iff_eq.2 c1
          have e1 : ((s : Int) / 2 ^ x.f1.toNat) = ((s / 2 ^ x.f1.toNat : Nat) : Int) := by push_cast; rfl
          have e2 : bits .and .i64 ((s : Int) / 2 ^ x.f1.toNat) 1 = ((s / 2 ^ x.f1.toNat % 2 : Nat) : Int) := by rw [e1]; exact bitsAnd1 _ (Nat.lt_of_le_of_lt (Nat.div_le_self _ _) (by omega))
          by_cases c2 : s / 2 ^ x.f1.toNat % 2 = 0
          · have c2b : (bits .and .i64 ((s : Int) / 2 ^ x.f1.toNat) 1 == 0) = true := by rw [e2, c2]; rfl
            have H2 := Aside0.mk (by have := H1.out; rwa [if_pos ⟨c1, c2⟩] at this : folF l tg m x.f1 (s ||| 2 ^ x.f1.toNat) (w ++ [(i : Int)]) o1 = some o2)
            clear e1 e2 H1 c2
            obtain ⟨V, hV⟩ : ∃ V, V = wr.alloc (.cells #[.int .i64 at_, .int .i64 x.f1, .int .i64 x.f2, .int .i64 x.f3, .int .i64 x.f4] 58) := ⟨_, rfl⟩
            have hB : Below wr.heap.size wr V := by rw [hV]; exact qZn (Below.refl _ _) _
            have hIV := HI.out.next hB
            have bx : V.heap[wr.heap.size]? = some (.cells #[.int .i64 at_, .int .i64 x.f1, .int .i64 x.f2, .int .i64 x.f3, .int .i64 x.f4] 58 (0, 0)) := by rw [hV]; exact qXo wr _
            obtain ⟨Aw, cw, hwv, hcw, _⟩ := Kd.R_reads hIV.rw
            subst hwv
            have xw : wr.cell? ⟨gwk, 0, none⟩ = some (.slice Aw w.length cw) := (qZb HI.out.wk 0).trans rfl
            have lw : gwk < wr.heap.size := qZh HI.out.wk
            have hwl : w.length < 1000 := by omega
            have HIV := Aside0.mk hIV
            have BX := Aside0.mk bx
            have AP := Aside0.mk (fun (w3 : World) (v3 : Value) (hg : V.grownBy w3 (Value.slice Aw w.length cw).ownBlock) (hb : Below w2.heap.size w2 w3) (hr : Kd.R (Kd.int .i64) 3 w3 w2.heap.size (fun k => ¬ (k = gto ∨ k = gout ∨ k = gwk ∨ k = gn ∨ k = gf)) v3 (w ++ [(i : Int)])) (hat : v3.ownBlock = (Value.slice Aw w.length cw).ownBlock ∨ ∃ b, v3.ownBlock = some b ∧ V.heap.size ≤ b) => (by
              have hs := FolI.putWalk HA5.out hIV hg hb hr hat
              obtain ⟨T, hf⟩ := hs.fol
              have own := hIV.rw.1
              have kb : w3.heap[wr.heap.size]? = some (.cells #[.int .i64 at_, .int .i64 x.f1, .int .i64 x.f2, .int .i64 x.f3, .int .i64 x.f4] 58 (0, 0)) := (hg.block _ (qZh bx) (fun e => by have := Kd.R_lt HI.out.rw _ e.symm; omega)).trans bx
              have kw : w3.heap[gwk]? = some (.cells #[Value.slice Aw w.length cw] 33 (0, 0)) := (hg.block _ (qZh hIV.wk) (fun e => own _ e.symm (.inr (.inr (.inl rfl))))).trans hIV.wk
              exact ⟨hs, (qZb hf 0).trans rfl, (qZb (blk_far kb (by show wr.heap.size ≠ gwk; omega) v3) 1).trans rfl, (qZb kw 0).trans rfl, qQm kw 0⟩ : FolI w2 gto gout gwk gn gf tg #[.int .i64 n, .slice (some ad) l.length c0] (w3.setCell ⟨gwk, 0, none⟩ v3) v3 ov1 (w ++ [(i : Int)]) o1 ∧ (w3.setCell ⟨gwk, 0, none⟩ v3).cell? ⟨gf, 0, none⟩ = some (.func (.func 92) #[] #[.pointer (some ⟨gto, 0, none⟩), .pointer (some ⟨gout, 0, none⟩), .pointer (some ⟨gwk, 0, none⟩), .pointer (some ⟨gn, 0, none⟩), .pointer (some ⟨gf, 0, none⟩)]) ∧ (w3.setCell ⟨gwk, 0, none⟩ v3).cell? ⟨wr.heap.size, 1, none⟩ = some (.int .i64 x.f1) ∧ w3.cell? ⟨gwk, 0, none⟩ = some (.slice Aw w.length cw) ∧ w3.frozen? ⟨gwk, 0, none⟩ = false))
            have FR := Aside0.mk (fun (k : Nat) (hk : V.heap.size ≤ k) => (by
              have a1 := qZh hIV.tgt; have a2 := qZh hIV.ot; have a3 := qZh hIV.wk; have a4 := qZh hIV.net; obtain ⟨T, h5⟩ := hIV.fol; have a5 := qZh h5; omega : ¬ (k = gto ∨ k = gout ∨ k = gwk ∨ k = gn ∨ k = gf)))
            have HVS := Aside0.mk hV
            clear hIV bx hB hV
            go_wp2_with (((with_reducible refine gate_builtin (b := .append) (xs := #[.tmp 40, .tmp 42]) rfl ?_); at_builtin; rw [← HVS.out]; refine Kd.R_append (Kd.int .i64) (w0 := w2) w2.heap.size rfl (.tmp 40) (.tmp 42) 33 3 (.int .i64 0) 8 rfl Try.underlying33 qYd rfl (by decide) (by omega) (.slice Aw w.length cw) w (i : Int) [.int .i64 (i : Int)] (fun k => ¬ (k = gto ∨ k = gout ∨ k = gwk ∨ k = gn ∨ k = gf)) (fun _ => False) rfl ?hx rfl (fun _ hk => hk.elim) FR.out HIV.out.rw HIV.out.below ?aS (by omega) ?_; (case hx => (rw [HVS.out]; show Value.slice (some ⟨wr.heap.size + 1, 0, none⟩) 1 1 = _; simp)); (case aS => exact HIV.out.below.size); intro v3 w3 ho hb hg hat; obtain ⟨A3, c3, e3, _, _⟩ := Kd.R_reads ho; rw [List.length_append, List.length_singleton] at e3; subst e3; have AX := Aside0.mk (AP.out w3 _ hg hb ho hat); obtain ⟨_, y1, y2, y3, y4⟩ := AX.out; clear ho hb hg hat))
            clear xw lw y3 y4 AP FR
            obtain ⟨Wn, hWn⟩ : ∃ Wn, Wn = w3.setCell ⟨gwk, 0, none⟩ (.slice A3 (w.length + 1) c3) := ⟨_, rfl⟩
            have HIN := Aside0.mk (show FolI w2 gto gout gwk gn gf tg #[.int .i64 n, .slice (some ad) l.length c0] Wn (.slice A3 (w.length + 1) c3) ov1 (w ++ [(i : Int)]) o1 by rw [hWn]; exact AX.out.1)
            rw [← hWn] at y1 y2 ⊢
            clear hWn AX HIV BX HVS
            refine wp_region_still_tail 8 (by kernel_rfl) (by kernel_rfl) ?_
            simp only [List.take_succ_cons, List.take_zero, List.drop_succ_cons, List.drop_zero]
            show wpStill _ _ (World.drew _) (fun a' => wpList _ _ _ _ a' (World.drew _)) _ _
            iterate 8 still_step
            refine wpStill_nil ?_
            clear y1 y2
            have eb := mask_or s hs x.f1 v1
            have REC := Aside0.mk (IH.out x.f1 (s ||| 2 ^ x.f1.toNat) Wn.drew _ _ (w ++ [(i : Int)]) o1 o2 (by rw [List.length_append, List.length_singleton]; omega) (mask_lt s _ hs (by omega)) (HIN.out.next (qJl (Below.refl _ _))) H2.out)
            rw [← eb] at REC
            clear eb H2 HIN
            obtain ⟨i0, hi0, _⟩ := Option.map_eq_some_iff.1 qYd
            have CUT := Aside0.mk (fun (A2 : Option Addr) (c2 : Nat) (h : w.length + 1 ≤ c2) => qYk 33 3 .i64 Try.underlying33 hi0 A2 (w.length + 1) c2 (w.length : Int) (by omega) (by omega) h)
            clear hi0
            have wl : wrap64 (((w.length + 1 : Nat) : Int) - 1) = (w.length : Int) := by unfold wrap64; omega
            go_wp2_with ((go_at_call 92; refine REC.out.mono ?_; rintro e w4 ⟨rfl, wv4, ov4, hI4⟩; obtain ⟨A4, c4, e4, hc4, _⟩ := Kd.R_reads hI4.rw; rw [List.length_append, List.length_singleton] at e4 hc4; subst e4; have z1 : w4.cell? ⟨gwk, 0, none⟩ = some (.slice A4 (w.length + 1) c4) := (qZb hI4.wk 0).trans rfl; have z2 := qQm hI4.wk 0; have z3 := CUT.out A4 c4 hc4; have HI4 := Aside0.mk hI4; clear hI4))
            go_roundg (l.length - (i + 1))
            case measure => omega
            case rel =>
              refine ⟨i + 1, o2, by go_num, hlt, Nat.le_refl _, ⟨_, _, FolI.putWalk HA5.out HI4.out (World.grownBy.refl _ _) HI4.out.below ?_ (.inl (by cases A4 <;> rfl))⟩, NX⟩
              have h5 := Kd.R_take (m := w.length) HI4.out.rw (by rw [List.length_append]; omega)
              rw [List.take_left' rfl] at h5
              exact h5
          · have c2b : (bits .and .i64 ((s : Int) / 2 ^ x.f1.toNat) 1 == 0) = false := by rw [e2]; exact beq_eq_false_iff_ne.2 (by omega)
            clear e1 e2
            have H2 := Aside0.mk (by have := H1.out; rw [if_neg (fun z => c2 z.2)] at this; exact Option.some.inj this : o1 = o2)
            clear c2 H1
            go_wp2
            go_roundg (l.length - (i + 1))
            case measure => omega
            case rel => exact ⟨i + 1, o2, by go_num, hlt, Nat.le_refl _, ⟨_, _, H2.out ▸ HI.out.next (qZn (Below.refl _ _) _)⟩, NX⟩
        · have c1b : (x.f0 == at_) = false := beq_eq_false_iff_ne.2 c1
          have H2 := Aside0.mk (by have := H1.out; rw [if_neg (fun z => c1 z.1)] at this; exact Option.some.inj this : o1 = o2)
          clear H1
          go_wp2
          go_roundg (l.length - (i + 1))
          case measure => omega
          case rel => exact ⟨i + 1, o2, by go_num, hlt, Nat.le_refl _, ⟨_, _, H2.out ▸ HI.out.next (qZn (Below.refl _ _) _)⟩, NX⟩
      · have hltz : ¬ (i : Int) < (l.length : Int) := by omega
        have h := H.out
        rw [show l.length - i = 0 by omega] at h
        have h := Option.some.inj h
        have HI := Aside0.mk (h ▸ hI)
        clear hI h H KI
        go_wp2
        refine bodyPost_end (results_none rfl _ _ _) rfl ?_
        exact ⟨rfl, _, _, HI.out⟩
/-! ### text laysorts -/
open Go.Shelf
def sortS_ren : Go.Shelf.Ren := ⟨fun | 6 => 94 | 15 => 116 | 14 => 115 | 28 => 136 | 29 => 137 | 20 => 128 | 21 => 129 | 22 => 130 | 23 => 131 | 24 => 132 | 25 => 133 | 26 => 134 | 27 => 135 | 46 => 138 | 47 => 139 | 48 => 140 | 49 => 141 | 50 => 142 | 57 => 143 | n => n, fun | 22 => 28 | 24 => 33 | 25 => 72 | 3 => 3 | 39 => 122 | 0 => 0 | 53 => 134 | 55 => 137 | 4 => 4 | 46 => 143 | 45 => 142 | 50 => 147 | 5 => 5 | 9 => 9 | 66 => 151 | 70 => 155 | 76 => 157 | 77 => 158 | n => n, fun | n => n⟩
theorem sortS_lay : Go.Proofs.SlLaysF.n6 Try.prog sortS_ren := {
  mixed := by kernel_rfl
  f6 := ⟨Try.f94.name, by decide, Try.func94.trans (congrArg some (by kernel_rfl))⟩
  f14 := ⟨Try.f115.name, by decide, Try.func115.trans (congrArg some (by kernel_rfl))⟩
  f15 := Try.func116.trans (congrArg some (by kernel_rfl))
  f20 := ⟨Try.f128.name, by decide, Try.func128.trans (congrArg some (by kernel_rfl))⟩
  f21 := ⟨Try.f129.name, by decide, Try.func129.trans (congrArg some (by kernel_rfl))⟩
  f22 := ⟨Try.f130.name, by decide, Try.func130.trans (congrArg some (by kernel_rfl))⟩
  f23 := ⟨Try.f131.name, by decide, Try.func131.trans (congrArg some (by kernel_rfl))⟩
  f24 := ⟨Try.f132.name, by decide, Try.func132.trans (congrArg some (by kernel_rfl))⟩
  f25 := ⟨Try.f133.name, by decide, Try.func133.trans (congrArg some (by kernel_rfl))⟩
  f26 := ⟨Try.f134.name, by decide, Try.func134.trans (congrArg some (by kernel_rfl))⟩
  f27 := ⟨Try.f135.name, by decide, Try.func135.trans (congrArg some (by kernel_rfl))⟩
  f28 := Try.func136.trans (congrArg some (by kernel_rfl))
  f29 := Try.func137.trans (congrArg some (by kernel_rfl))
  f46 := ⟨Try.f138.name, by decide, Try.func138.trans (congrArg some (by kernel_rfl))⟩
  f47 := Try.func139.trans (congrArg some (by kernel_rfl))
  f48 := Try.func140.trans (congrArg some (by kernel_rfl))
  f49 := ⟨Try.f141.name, by decide, Try.func141.trans (congrArg some (by kernel_rfl))⟩
  f50 := ⟨Try.f142.name, by decide, Try.func142.trans (congrArg some (by kernel_rfl))⟩
  f57 := ⟨Try.f143.name, by decide, Try.func143.trans (congrArg some (by kernel_rfl))⟩
  t0 := Try.underlying0
  a0 := Try.isAgg0
  z0 := Try.sizeOf0
  v0 := Try.zeroValue0
  t3 := Try.underlying3
  a3 := Try.isAgg3
  z3 := Try.sizeOf3
  v3 := Try.zeroValue3
  t4 := Try.underlying4
  a4 := Try.isAgg4
  z4 := Try.sizeOf4
  v4 := Try.zeroValue4
  t5 := Try.underlying5
  a5 := Try.isAgg5
  z5 := Try.sizeOf5
  v5 := Try.zeroValue5
  t9 := Try.underlying9
  a9 := Try.isAgg9
  z9 := Try.sizeOf9
  v9 := Try.zeroValue9
  t22 := Try.underlying28
  a22 := Try.isAgg28
  z22 := Try.sizeOf28
  v22 := Try.zeroValue28
  a24 := Try.isAgg33
  z24 := Try.sizeOf33
  t25 := Try.underlying72
  a25 := Try.isAgg72
  z25 := Try.sizeOf72
  v25 := Try.zeroValue72
  t39 := Try.underlying122
  a39 := Try.isAgg122
  z39 := Try.sizeOf122
  v39 := Try.zeroValue122
  t45 := Try.underlying142
  a45 := Try.isAgg142
  z45 := Try.sizeOf142
  v45 := Try.zeroValue142
  t46 := Try.underlying143
  a46 := Try.isAgg143
  z46 := Try.sizeOf143
  v46 := Try.zeroValue143
  t50 := Try.underlying147
  a50 := Try.isAgg147
  z50 := Try.sizeOf147
  v50 := Try.zeroValue147
  t53 := Try.underlying134
  a53 := Try.isAgg134
  z53 := Try.sizeOf134
  v53 := Try.zeroValue134
  t55 := Try.underlying137
  a55 := Try.isAgg137
  z55 := Try.sizeOf137
  v55 := Try.zeroValue137
  t66 := Try.underlying151
  a66 := Try.isAgg151
  z66 := Try.sizeOf151
  v66 := Try.zeroValue151
  t70 := Try.underlying155
  a70 := Try.isAgg155
  z70 := Try.sizeOf155
  v70 := Try.zeroValue155
  t76 := Try.underlying157
  a76 := Try.isAgg157
  z76 := Try.sizeOf157
  v76 := Try.zeroValue157
  t77 := Try.underlying158
  a77 := Try.isAgg158
  z77 := Try.sizeOf158
  v77 := Try.zeroValue158 }
/-! ### text somesort -/
theorem cmpS_sgn (x y : Int) : (cmpS x y < 0 ↔ x < y) ∧ (cmpS x y = 0 ↔ x = y) := by
  unfold cmpS
  split
  · constructor <;> constructor <;> intro <;> omega
  · split
    · constructor <;> constructor <;> intro <;> omega
    · constructor <;> constructor <;> intro <;> omega
theorem cmpW_lt (l : List S58) (a b : List Int) : ltOf (cmpW l) a b = qWg (fun x => wcost l x 0) a b := by
  unfold ltOf cmpW orS qWg
  obtain ⟨p1, p2⟩ := cmpS_sgn (wcost l a 0) (wcost l b 0)
  obtain ⟨q1, q2⟩ := cmpS_sgn (a.length : Int) (b.length : Int)
  by_cases h : cmpS (wcost l a 0) (wcost l b 0) = 0
  · rw [if_pos h, if_pos (p2.1 h)]
    by_cases h2 : cmpS (a.length : Int) (b.length : Int) = 0
    · rw [if_pos h2, if_pos (by have := q2.1 h2; omega)]
      by_cases h3 : lexB a b = true
      · rw [h3]; exact decide_eq_true ((jQf a b).2 h3)
      · rw [Bool.eq_false_iff.2 h3]; exact decide_eq_false (fun z => h3 ((jQf a b).1 z))
    · rw [if_neg h2, if_neg (fun z => h2 (q2.2 (by omega)))]
      apply decide_eq_decide.2
      rw [q1]
      omega
  · rw [if_neg h, if_neg (fun z => h (p2.2 z))]
    apply decide_eq_decide.2
    exact p1
theorem swoW {α : Type} (f : α → List Int) (l : List S58) : Go.Sort.SWO (ltOf fun x y => cmpW l (f x) (f y)) := by
  have e : ∀ x y, (ltOf fun x y => cmpW l (f x) (f y)) x y = qWg (fun x => wcost l x 0) (f x) (f y) := fun x y => cmpW_lt l (f x) (f y)
  have h := toW (fun x => wcost l x 0)
  exact ⟨fun x => by rw [e]; exact h.irr _, fun x y z h1 h2 => by rw [e] at *; exact h.trans _ _ _ h1 h2, fun x y z h1 h2 => by rw [e] at *; exact h.nlt h1 h2⟩
/-- The row's value, element by element. -/
theorem S_vals {W : World} {base : Nat} {ok : Nat → Prop} {ov : Value} {out : List (List Int)} (hp : 0 < out.length) (h : Kd.S (Kd.slice 3 (Kd.int .i64)) 33 W base ok ov out) :
    ∃ (g cap : Nat) (cur : Array Value) (inner : List Value) (f : Nat → Nat), ov = .slice (some ⟨g, 0, none⟩) out.length cap ∧ base ≤ g ∧ W.heap[g]? = some (.cells cur 33 (0, 0)) ∧ out.length ≤ cap ∧ cap ≤ maxLen ∧ cap ≤ cur.size ∧ ok g ∧ cur.toList.take out.length = inner ∧ inner.length = out.length ∧
      ∀ j (hj : j < out.length), ∃ v, inner[j]? = some v ∧ Kd.R (Kd.int .i64) 3 W base (fun k => (ok k ∧ some k ≠ ov.ownBlock) ∧ f k = j) v out[j] := by
  obtain ⟨f, h0, inner, ⟨hlen, hrow⟩, hr⟩ := h
  rw [List.length_zipIdx] at hlen hrow
  rcases hrow with ⟨_, hz⟩ | ⟨g, cap, cur, rfl, hg, hh, hnc, hcm, hcs, ht⟩
  · omega
  have hsz : (Kd.tag f (Kd.slice 3 (Kd.int .i64))).sz = 1 := rfl
  rw [hsz, Nat.mul_one] at hcs ht hlen
  refine ⟨g, cap, cur, inner, f, rfl, hg, hh, hnc, hcm, hcs, h0 g rfl, ht, hlen, fun j hj => ?_⟩
  have hz : out.zipIdx[j]? = some (out[j], j) := Kd.zip_at (List.getElem?_eq_getElem hj)
  obtain ⟨v, hv, hR⟩ := hr.2 j (out[j], j) hz
  refine ⟨v, ?_, hR⟩
  rw [hsz, Nat.mul_one] at hv
  have := congrArg (fun x => x[0]?) hv
  simpa using this
set_option maxHeartbeats 2000000 in
theorem sortS_any (n : Int) (A0 : Option Addr) (c0 : Nat) (l : List S58) (gn : Nat) (w2 W : World) (ok : Nat → Prop) (ov : Value) (out : List (List Int)) (hr0 : Kd.C k58 w2 A0 l.length l) (hB : Below w2.heap.size w2 W) (hn : W.heap[gn]? = some (.cells #[.int .i64 n, .slice A0 l.length c0] 25 (0, 0))) (hok : ∀ k, ok k → k ≠ gn) (hS : Kd.S (Kd.slice 3 (Kd.int .i64)) 33 W w2.heap.size ok ov out) (hin : ∀ w ∈ out, ∀ k ∈ w, 0 ≤ k ∧ k < (l.length : Int)) (hlim : out.length < 4611686018427387904) :
    Calls Try.prog 94 #[ov, .func (.func 95) #[] #[.pointer (some ⟨gn, 0, none⟩)]] W fun e w' => e = .returned (.tuple #[]) ∧ Below w2.heap.size w2 w' ∧ Kd.S (Kd.slice 3 (Kd.int .i64)) 33 w' w2.heap.size ok ov (jQb (qWg fun x => wcost l x 0) out) ∧ ∀ k, k < W.heap.size → ¬ ok k → w'.heap[k]? = W.heap[k]? := by
  by_cases hp : 0 < out.length
  · obtain ⟨g, cap, cur, inner, f, rfl, hg, hh, hnc, hcm, hcs, hokg, ht, hil, hrow⟩ := S_vals hp hS
    have hgl := qZh hh
    have hl := hn
    let enc : Fin out.length → Value := fun i => inner[i.1]'(by rw [hil]; exact i.2)
    let cf : Fin out.length → Fin out.length → Int := fun i j => cmpW l out[i.1] out[j.1]
    have henc : ∀ i : Fin out.length, inner[i.1]? = some (enc i) := fun i => List.getElem?_eq_getElem _
    have hrw : ∀ i : Fin out.length, Kd.R (Kd.int .i64) 3 W w2.heap.size (fun k => (ok k ∧ k ≠ g) ∧ f k = i.1) (enc i) out[i.1] := fun i => by
      obtain ⟨v, hv, hR⟩ := hrow i.1 i.2
      rw [henc i] at hv
      obtain rfl := Option.some.inj hv
      exact Kd.R_mono hR (fun k hk => ⟨⟨hk.1.1, fun e => hk.1.2 (by rw [e]; rfl)⟩, hk.2⟩)
    have h1 : OneCell enc := fun i => by obtain ⟨A, c, e⟩ := Kd.R_slice (hrw i); rw [e]; rfl
    letI : Inhabited (Fin out.length) := ⟨⟨0, hp⟩⟩
    let d : Array (Fin out.length) := (List.finRange out.length).toArray
    have hds : d.size = out.length := by simp [d]
    have hdg : ∀ j (hj : j < out.length), d[j]! = ⟨j, hj⟩ := fun j hj => by rw [getElem!_pos d j (by rw [hds]; exact hj)]; simp [d]
    have hother : ∀ (m : Nat) (dk : Array (Fin out.length)) (os : Array Obj) (k : Nat), k < W.heap.size → k ≠ g → (sortWorld enc W g 0 m dk os).heap[k]? = W.heap[k]? := fun m dk os k hk hne => by
      unfold sortWorld Go.Sort.putRow Go.Sort.mapBlock
      rw [Go.Sort.heap_grow_old _ _ (by simpa [Go.Sort.ahead] using hk)]
      simp only [Go.Sort.ahead, Array.getElem?_modify]
      rw [if_neg (Ne.symm hne)]
    have hsize : ∀ (m : Nat) (dk : Array (Fin out.length)) (os : Array Obj), W.heap.size ≤ (sortWorld enc W g 0 m dk os).heap.size := fun m dk os => by
      unfold sortWorld Go.Sort.putRow Go.Sort.mapBlock Go.Sort.grow Go.Sort.ahead
      simp
    have hbel : ∀ (m : Nat) (dk : Array (Fin out.length)) (os : Array Obj), Below w2.heap.size w2 (sortWorld enc W g 0 m dk os) := fun m dk os => ⟨hB.os, hB.tape, hB.output, Nat.le_trans hB.size (hsize m dk os), fun k hk => (hother m dk os k (Nat.lt_of_lt_of_le hk hB.size) (by omega)).trans (hB.block k hk)⟩
    have hrowV : ∀ (m : Nat) (dk : Array (Fin out.length)) (os : Array Obj) (i : Fin out.length), Kd.R (Kd.int .i64) 3 (sortWorld enc W g 0 m dk os) w2.heap.size (fun k => (ok k ∧ k ≠ g) ∧ f k = i.1) (enc i) out[i.1] := fun m dk os i => Kd.R_step (hrw i) (fun k hk hlt => hother m dk os k hlt hk.1.2)
    have hcmp : CmpLays1 Try.prog 95 #[.pointer (some ⟨gn, 0, none⟩)] enc cf g 0 d.size W := fun m os dk _ x y => by
      obtain ⟨Ax, cx, ex, hcx, hCx⟩ := Kd.R_reads (hrowV m dk os x)
      obtain ⟨Ay, cy, ey, hcy, hCy⟩ := Kd.R_reads (hrowV m dk os y)
      have hgn : (sortWorld enc W g 0 m dk os).heap[gn]? = some (.cells #[.int .i64 n, .slice A0 l.length c0] 25 (0, 0)) := (hother m dk os gn (qZh hn) (fun e => hok g hokg e.symm)).trans hn
      have := closeS_any n A0 c0 l gn Ax Ay cx cy out[x.1] out[y.1] _ hgn (Kd.C_below hr0 (hbel m dk os)) hCx hcx (hin _ (List.getElem_mem x.2)) hCy hcy (hin _ (List.getElem_mem y.2))
      show Calls _ _ #[enc x, enc y, .pointer (some ⟨gn, 0, none⟩)] _ _
      rw [ex, ey]
      exact this
    have hH : Go.Sort.Holds enc W g 0 d := fun j hj => by
      have hj2 : j < out.length := by rw [← hds]; exact hj
      refine ⟨?_, qQm hh _⟩
      rw [hdg j hj2, Nat.zero_add]
      refine (qZb hh j).trans ?_
      rw [← henc ⟨j, hj2⟩, ← ht, List.getElem?_take, if_pos hj2, Array.getElem?_toList]
    have eg : ∀ args w, (callFunc 95 args).run Try.prog w = .ok (.enter 95 args) w := enters_of Try.func95 (by kernel_rfl) rfl
    have hcon := Any.slices_SortFunc sortS_lay enc h1 cf (swoW (fun i : Fin out.length => out[i.1]) l) 95 #[.pointer (some ⟨gn, 0, none⟩)] g 0 cap d W eg hcmp hH hgl (by rw [hds]; exact hlim)
    rw [hds] at hcon
    refine Calls.mono hcon ?_
    rintro e w' ⟨rfl, d', m, os, hperm, hsort, rfl⟩
    refine ⟨rfl, hbel m d' os, ?_, fun k hk hnk => hother m d' os k hk (fun e => hnk (by rw [e]; exact hokg))⟩
    have ab : d'.size = out.length := hperm.1.trans hds
    have hpl : d'.toList.Perm d.toList := by
      have := hperm.2.2
      rwa [Array.extract_eq_self_of_le (by omega), Array.extract_eq_self_of_le (by omega)] at this
    have hdl : d.toList = List.finRange out.length := rfl
    have hmap : (List.finRange out.length).map (fun i : Fin out.length => out[i.1]) = out := by
      apply List.ext_getElem
      · simp
      · intro i h1 h2; simp
    have hout : d'.toList.map (fun i : Fin out.length => out[i.1]) = jQb (qWg fun x => wcost l x 0) out := by
      refine sortW_one (toW _) ?_ ?_
      · have := hpl.map (fun i : Fin out.length => out[i.1])
        rwa [hdl, hmap] at this
      · unfold qJj
        rw [List.pairwise_map, List.pairwise_iff_getElem]
        intro i j hi hj hij
        have hi2 : i < d'.size := by simpa using hi
        have hj2 : j < d'.size := by simpa using hj
        have := hsort i j (Nat.zero_le _) hij (by rw [← ab]; exact hj2)
        rw [getElem!_pos d' j hj2, getElem!_pos d' i hi2] at this
        have h3 := cmpW_lt l out[(d'[j]).1] out[(d'[i]).1]
        have ei : d'.toList[i] = d'[i] := Array.getElem_toList hi2
        have ej : d'.toList[j] = d'[j] := Array.getElem_toList hj2
        rw [ei, ej, ← h3]
        exact this
    rw [← hout]
    have hblock : (sortWorld enc W g 0 m d' os).heap[g]? = some (.cells (Go.Sort.putCells enc 0 d' cur) 33 (0, 0)) := by
      unfold sortWorld Go.Sort.putRow Go.Sort.mapBlock
      rw [Go.Sort.heap_grow_old _ _ (by simpa [Go.Sort.ahead] using hgl)]
      simp only [Go.Sort.ahead, Array.getElem?_modify, if_true]
      rw [hh]
      rfl
    have hnd : d'.toList.Nodup := hpl.nodup_iff.2 (by rw [hdl]; exact List.nodup_finRange _)
    have hpc : (Go.Sort.putCells enc 0 d' cur).toList.length = cur.size := by simp [Go.Sort.putCells]
    have inj : ∀ (i j : Nat) (hi : i < d'.size) (hj : j < d'.size), (d'[i]).1 = (d'[j]).1 → i = j := fun i j hi hj e => by
      have e2 : d'[i] = d'[j] := Fin.ext e
      have hp2 := List.pairwise_iff_getElem.1 hnd
      rcases Nat.lt_trichotomy i j with c | c | c
      · exact absurd (by rw [Array.getElem_toList hi, Array.getElem_toList hj]; exact e2) (hp2 i j (by simpa using hi) (by simpa using hj) c)
      · exact c
      · exact absurd (by rw [Array.getElem_toList hi, Array.getElem_toList hj]; exact e2.symm) (hp2 j i (by simpa using hj) (by simpa using hi) c)
    have aa : (d'.toList.map (fun i : Fin out.length => out[i.1])).length = out.length := by rw [List.length_map, Array.length_toList, ab]
    have hcell : ∀ j (hj : j < d'.size), ((Go.Sort.putCells enc 0 d' cur).toList.take out.length)[j]? = some (enc d'[j]) := fun j hj => by
      have hj1 : j < out.length := by omega
      have hj2 : j < cur.size := by omega
      rw [List.getElem?_take, if_pos hj1, Array.getElem?_toList, Array.getElem?_eq_getElem (by simp [Go.Sort.putCells]; exact hj2)]
      simp only [Go.Sort.putCells, Array.getElem_mapIdx, Nat.zero_le, Nat.zero_add, true_and, hj, if_true, Nat.sub_zero]
      rw [getElem!_pos d' j hj]
    refine ⟨fun k => open Classical in if h : ∃ j, ∃ hj : j < d'.size, (d'[j]).1 = f k then h.choose else 0, fun k hk => ?_, (Go.Sort.putCells enc 0 d' cur).toList.take out.length, ⟨?_, .inr ⟨g, cap, Go.Sort.putCells enc 0 d' cur, ?_, hg, hblock, ?_, hcm, ?_, ?_⟩⟩, ?_, ?_⟩
    · have : g = k := by simpa [Value.ownBlock] using hk
      rw [← this]; exact hokg
    · rw [List.length_zipIdx, aa, List.length_take, hpc]
      show min out.length cur.size = out.length * 1
      omega
    · rw [List.length_zipIdx, aa]
    · rw [List.length_zipIdx, aa]; exact hnc
    · simp only [Go.Sort.putCells, Array.size_mapIdx]
      show cap * 1 ≤ cur.size
      omega
    · rw [List.length_zipIdx, aa]
      show (Go.Sort.putCells enc 0 d' cur).toList.take (out.length * 1) = _
      rw [Nat.mul_one]
    · rw [List.length_zipIdx, aa, List.length_take, hpc]
      show min out.length cur.size = out.length * 1
      omega
    · intro j p hj
      rw [List.getElem?_zipIdx, Nat.zero_add] at hj
      obtain ⟨x, hx, rfl⟩ := Option.map_eq_some_iff.1 hj
      obtain ⟨hjl, hjx⟩ := List.getElem?_eq_some_iff.1 hx
      have hj2 : j < d'.size := by rw [ab]; rw [aa] at hjl; exact hjl
      have ex : x = out[(d'[j]).1] := by rw [← hjx, List.getElem_map, Array.getElem_toList hj2]
      refine ⟨enc d'[j], ?_, ?_⟩
      · show (((Go.Sort.putCells enc 0 d' cur).toList.take out.length).drop (j * 1)).take 1 = _
        rw [Nat.mul_one]
        apply List.ext_getElem?
        intro i
        rw [List.getElem?_take]
        match i with
        | 0 => rw [if_pos (by omega), List.getElem?_drop, Nat.add_zero, hcell j hj2]; rfl
        | i + 1 => rw [if_neg (by omega)]; rfl
      · rw [ex]
        refine Kd.R_mono (hrowV m d' os d'[j]) (fun k hk => ⟨⟨hk.1.1, fun e => hk.1.2 (by simpa [Value.ownBlock] using e)⟩, ?_⟩)
        have h : ∃ j, ∃ hj : j < d'.size, (d'[j]).1 = f k := ⟨j, hj2, hk.2.symm⟩
        refine (dif_pos h).trans ?_
        obtain ⟨h5, h6⟩ := h.choose_spec
        exact inj _ _ h5 hj2 (h6.trans hk.2)
  · have hz : out = [] := List.eq_nil_of_length_eq_zero (by omega)
    subst hz
    obtain ⟨A, c, rfl⟩ := Kd.S_slice hS
    have hcon := AnyF.slices_SortFunc_none { sortS_lay with } A c (.func (.func 95) #[] #[.pointer (some ⟨gn, 0, none⟩)]) W
    refine Calls.mono hcon ?_
    rintro e w' ⟨rfl, rfl⟩
    exact ⟨rfl, hB, hS, fun _ _ _ => rfl⟩
/-! ### text somesimple -/
/-- All walks from a node to another one that come to no node twice, in order. -/
def simF (l : List S58) (a b : Int) : Option (List (List Int)) := if (l.all fun x => decide (0 ≤ x.f1 ∧ x.f1 < 8)) = true ∧ l.length ≤ 1000 ∧ 0 ≤ a ∧ a < 8 then (folF l b 8 a (2 ^ a.toNat) [] []).bind fun o => if (o.all fun w => w.all fun k => decide (0 ≤ k ∧ k < (l.length : Int))) = true ∧ o.length < 4611686018427387904 then some (jQb (qWg fun x => wcost l x 0) o) else none else none
theorem R_empty {α : Type} {d : Kd α} {e : Nat} {W : World} {base : Nat} {ok : Nat → Prop} {g : Nat} (hb : base ≤ g) (hh : W.heap[g]? = some (.cells #[] e (0, 0))) (hok : ok g) : d.R e W base ok (.slice (some ⟨g, 0, none⟩) 0 0) [] := by
  refine ⟨fun k hk => ?_, [], ⟨by simp, .inr ⟨g, 0, #[], rfl, hb, hh, Nat.le_refl _, by decide, by simp, by simp⟩⟩, Reps.none _ _⟩
  have : g = k := by simpa [Value.ownBlock] using hk
  rw [← this]; exact hok
set_option maxHeartbeats 4000000 in
set_option maxRecDepth 100000 in
theorem simple_any (n : Int) (A0 : Option Addr) (c0 : Nat) (l : List S58) (a b : Int) (r : List (List Int)) (w : World) (hr0 : Kd.C k58 w A0 l.length l) (h : simF l a b = some r) :
    Calls Try.prog 59 #[.agg #[.int .i64 n, .slice A0 l.length c0], .int .i64 a, .int .i64 b] w fun e w' => ∃ v0_ : Value, e = .returned v0_ ∧ Kd.S (Kd.slice 3 (Kd.int .i64)) 33 w' w.heap.size (fun _ => True) v0_ r ∧ Below w.heap.size w w' := by
  unfold simF at h
  by_cases hok : (l.all fun x => decide (0 ≤ x.f1 ∧ x.f1 < 8)) = true ∧ l.length ≤ 1000 ∧ 0 ≤ a ∧ a < 8
  rotate_left
  · rw [if_neg hok] at h; cases h
  rw [if_pos hok] at h
  obtain ⟨o, ho, h⟩ := Option.bind_eq_some_iff.mp h
  by_cases hin : (o.all fun w => w.all fun k => decide (0 ≤ k ∧ k < (l.length : Int))) = true ∧ o.length < 4611686018427387904
  rotate_left
  · rw [if_neg hin] at h; cases h
  rw [if_pos hin] at h
  obtain rfl := Option.some.inj h
  obtain ⟨h8, hll, ha0, ha8⟩ := hok
  obtain ⟨hin, hol⟩ := hin
  have hl8 : ∀ x ∈ l, 0 ≤ x.f1 ∧ x.f1 < 8 := fun x hx => of_decide_eq_true (List.all_eq_true.1 h8 x hx)
  have aa : ∀ w ∈ o, ∀ k ∈ w, 0 ≤ k ∧ k < (l.length : Int) := fun w hw k hk => of_decide_eq_true (List.all_eq_true.1 (List.all_eq_true.1 hin w hw) k hk)
  have hu := Try.underlying25
  have hst : ∀ (a : Addr) (cs : Array Value) (m : Mode) (W : World), Sem.run Try.prog (store a (.func (.func 92) #[] cs) m) W = stored Try.prog W a (.func (.func 92) #[] cs) m := fun a cs m W => run_store _ W a _ m rfl
  have HR := Aside0.mk hr0
  have HIN := Aside0.mk aa
  have FO := Aside0.mk (fun (W : World) (wv ov : Value) (hI : FolI w (w.heap.size + 1) (w.heap.size + 1 + 1 + 1) (w.heap.size + 1 + 1 + 1 + 1 + 1) w.heap.size (w.heap.size + 1 + 1 + 1 + 1 + 1 + 1) b #[.int .i64 n, .slice A0 l.length c0] W wv ov [] []) => follow_any l A0 c0 n hl8 w hr0 hll _ _ _ _ _ ⟨by omega, by omega, by omega, by omega, by omega, by omega, by omega, by omega, by omega⟩ b 8 a (2 ^ a.toNat) W wv ov [] [] o (by simp) (by have := Nat.pow_le_pow_right (n := 2) (by decide) (show a.toNat ≤ 7 by omega); omega) hI ho)
  obtain ⟨WB, hWB⟩ : ∃ WB, WB = (((((((w.alloc (.cells #[.int .i64 n, .slice A0 l.length c0] 25)).alloc (.cells #[.int .i64 b] 3)).alloc (.cells #[] 33)).alloc (.cells #[.slice (some ⟨w.heap.size + 1 + 1, 0, none⟩) 0 0] 28)).alloc (.cells #[] 3)).alloc (.cells #[.slice (some ⟨w.heap.size + 1 + 1 + 1 + 1, 0, none⟩) 0 0] 33)).alloc (.cells #[.func (.func 92) #[] #[.pointer (some ⟨w.heap.size + 1, 0, none⟩), .pointer (some ⟨w.heap.size + 1 + 1 + 1, 0, none⟩), .pointer (some ⟨w.heap.size + 1 + 1 + 1 + 1 + 1, 0, none⟩), .pointer (some ⟨w.heap.size, 0, none⟩), .pointer (some ⟨w.heap.size + 1 + 1 + 1 + 1 + 1 + 1, 0, none⟩)]] 104)) := ⟨_, rfl⟩
  have nw : ∀ (V : World) (o : Obj) (k : Nat), V.heap.size = k → (V.alloc o).heap[k]? = some o := fun V o k e => by subst e; exact heap_alloc_new V o
  have hI0 : FolI w (w.heap.size + 1) (w.heap.size + 1 + 1 + 1) (w.heap.size + 1 + 1 + 1 + 1 + 1) w.heap.size (w.heap.size + 1 + 1 + 1 + 1 + 1 + 1) b #[.int .i64 n, .slice A0 l.length c0] WB (.slice (some ⟨w.heap.size + 1 + 1 + 1 + 1, 0, none⟩) 0 0) (.slice (some ⟨w.heap.size + 1 + 1, 0, none⟩) 0 0) [] [] := by
    have e2 : WB.heap[w.heap.size + 1 + 1]? = some (.cells #[] 33 (0, 0)) := by rw [hWB]; exact qQn (qQn (qQn (qQn (nw _ _ _ (by simp)) _) _) _) _
    have e4 : WB.heap[w.heap.size + 1 + 1 + 1 + 1]? = some (.cells #[] 3 (0, 0)) := by rw [hWB]; exact qQn (qQn (nw _ _ _ (by simp)) _) _
    refine ⟨?_, ?_, ?_, ⟨104, ?_⟩, ?_, ?_, R_empty (by omega) e4 (by omega), ⟨fun _ => 0, R_empty (by omega) e2 ⟨by omega, fun e => ?_⟩⟩⟩
    · rw [hWB]; exact qZn (qZn (qZn (qZn (qZn (qZn (qZn (Below.refl _ _) _) _) _) _) _) _) _
    · rw [hWB]; exact qQn (qQn (qQn (qQn (qQn (nw _ _ _ (by simp)) _) _) _) _) _
    · rw [hWB]; exact qQn (qQn (qQn (qQn (qQn (qQn (nw _ _ _ rfl) _) _) _) _) _) _
    · rw [hWB]; exact nw _ _ _ (by simp)
    · rw [hWB]; exact qQn (nw _ _ _ (by simp)) _
    · rw [hWB]; exact qQn (qQn (qQn (nw _ _ _ (by simp)) _) _) _
    · have e : w.heap.size + 1 + 1 = w.heap.size + 1 + 1 + 1 + 1 := Option.some.inj e
      omega
  have x1 : WB.cell? ⟨w.heap.size + 1 + 1 + 1 + 1 + 1 + 1, 0, none⟩ = some (.func (.func 92) #[] #[.pointer (some ⟨w.heap.size + 1, 0, none⟩), .pointer (some ⟨w.heap.size + 1 + 1 + 1, 0, none⟩), .pointer (some ⟨w.heap.size + 1 + 1 + 1 + 1 + 1, 0, none⟩), .pointer (some ⟨w.heap.size, 0, none⟩), .pointer (some ⟨w.heap.size + 1 + 1 + 1 + 1 + 1 + 1, 0, none⟩)]) := by
    obtain ⟨T, hf⟩ := hI0.fol
    exact (qZb hf 0).trans rfl
  have FD := Aside0.mk (FO.out WB.drew _ _ (hI0.next (qJl (Below.refl _ _))))
  have sh : wrap64 (2 ^ a.toNat) = ((2 ^ a.toNat : Nat) : Int) := by
    have p1 : 2 ^ a.toNat ≤ 2 ^ 7 := Nat.pow_le_pow_right (by decide) (by omega)
    rw [show (2 : Int) ^ a.toNat = ((2 ^ a.toNat : Nat) : Int) by push_cast; rfl]
    generalize 2 ^ a.toNat = q at p1 ⊢
    unfold wrap64
    omega
  rw [← sh] at FD
  have SO := Aside0.mk (fun (W : World) (wv ov : Value) (hI : FolI w (w.heap.size + 1) (w.heap.size + 1 + 1 + 1) (w.heap.size + 1 + 1 + 1 + 1 + 1) w.heap.size (w.heap.size + 1 + 1 + 1 + 1 + 1 + 1) b #[.int .i64 n, .slice A0 l.length c0] W wv ov [] o) => (sortS_any n A0 c0 l w.heap.size w W _ ov o HR.out hI.below hI.net (fun k hk e => hk.1 (.inr (.inr (.inr (.inl e))))) hI.so HIN.out hol).mono (R' := fun e w' => e = .returned (.tuple #[]) ∧ Below w.heap.size w w' ∧ Kd.S (Kd.slice 3 (Kd.int .i64)) 33 w' w.heap.size (fun _ => True) ov (jQb (qWg fun x => wcost l x 0) o) ∧ w'.cell? ⟨w.heap.size + 1 + 1 + 1, 0, none⟩ = some ov) fun e w' ⟨h1, h2, h3, h4⟩ => ⟨h1, h2, Kd.S_mono h3 (fun _ _ => trivial), (qZb ((h4 _ (qZh hI.ot) (fun z => z.1 (.inr (.inl rfl)))).trans hI.ot) 0).trans rfl⟩)
  clear hr0 hin aa h8 hl8 ho nw hI0 FO sh
  go_enter Try.func59, Try.ntmps59
  go_wp2
  rw [← hWB]
  clear hWB hst
  refine wp_region_still_tail 4 (by kernel_rfl) (by kernel_rfl) ?_
  simp only [List.take_succ_cons, List.take_zero, List.drop_succ_cons, List.drop_zero]
  show wpStill _ _ (World.drew _) (fun a' => wpList _ _ _ _ a' (World.drew _)) _ _
  iterate 4 still_step
  refine wpStill_nil ?_
  clear x1
  go_wp2_with (first | (go_at_call 92; refine FD.out.mono ?_; rintro e w4 ⟨rfl, wv4, ov4, hI4⟩; have z1 : w4.cell? ⟨w.heap.size + 1 + 1 + 1, 0, none⟩ = some ov4 := (qZb hI4.ot 0).trans rfl; have SD := Aside0.mk (SO.out w4 wv4 ov4 hI4); clear hI4) | (go_at_call 94; refine SD.out.mono ?_; rintro e w5 ⟨rfl, hb5, hs5, z5⟩; have HB5 := Aside0.mk hb5; have HS5 := Aside0.mk hs5; clear hb5 hs5))
  go_ret
  exact ⟨_, rfl, HS5.out, HB5.out⟩
/-! ### text somewalks -/
/-- The first of all walks that come to no node twice. -/
def swF (n : Int) (l : List S58) (a b most : Int) : Option (List (List Int)) := (impl_nodesIn.f n l [a, b]).bind fun ok => if ok = true then (if a = b then some [] else (impl_within.f most 1 6).bind fun t => if t = true then (simF l a b).bind fun o => (if 0 ≤ most then some (o.take most.toNat) else none) else some []) else some []
theorem R_two (w : World) (a b : Int) (base : Nat) (hb : base ≤ w.heap.size) : Kd.R (Kd.int .i64) 3 (w.alloc (.cells #[.int .i64 a, .int .i64 b] 3)) base (fun _ => True) (.slice (some ⟨w.heap.size, 0, none⟩) 2 2) [a, b] := by
  refine ⟨fun k hk => trivial, OwnRow.lit (ps := [a, b]) (inner := [.int .i64 a, .int .i64 b]) w base ⟨rfl, fun j p hj => ?_⟩ hb (by simp)⟩
  obtain ⟨h, rfl⟩ := List.getElem?_eq_some_iff.1 hj
  match j, h with
  | 0, _ => rfl
  | 1, _ => rfl
set_option maxHeartbeats 4000000 in
set_option maxRecDepth 100000 in
theorem someWalks_any (n : Int) (A0 : Option Addr) (c0 : Nat) (l : List S58) (a b most : Int) (r : List (List Int)) (w : World) (hr0 : Kd.C k58 w A0 l.length l) (hc0 : l.length ≤ c0) (h : swF n l a b most = some r) :
    Calls Try.prog 15 #[.agg #[.int .i64 n, .slice A0 l.length c0], .int .i64 a, .int .i64 b, .int .i64 most] w fun e w' => ∃ v0_ : Value, e = .returned v0_ ∧ Kd.S (Kd.slice 3 (Kd.int .i64)) 33 w' w.heap.size (fun _ => True) v0_ r ∧ Below w.heap.size w w' := by
  have hu := Try.underlying25
  unfold swF at h
  obtain ⟨ok, hok, h⟩ := Option.bind_eq_some_iff.mp h
  obtain ⟨WA, hWA⟩ : ∃ WA, WA = w.alloc (.cells #[.int .i64 n, .slice A0 l.length c0] 25) := ⟨_, rfl⟩
  have bA : Below w.heap.size w WA := by rw [hWA]; exact qZn (Below.refl _ _) _
  have sA : WA.heap.size = w.heap.size + 1 := by rw [hWA]; simp
  have f1 : WA.heap[w.heap.size]? = some (.cells #[.int .i64 n, .slice A0 l.length c0] 25 (0, 0)) := by rw [hWA]; exact qXo w _
  have y0 : WA.cell? ⟨w.heap.size, 0, none⟩ = some (.int .i64 n) := (qZb f1 0).trans rfl
  have y1 : WA.cell? ⟨w.heap.size, 1, none⟩ = some (.slice A0 l.length c0) := (qZb f1 1).trans rfl
  have bB : Below w.heap.size w (WA.alloc (.cells #[.int .i64 a, .int .i64 b] 3)) := qZn bA _
  obtain ⟨A2, c2, e2, hc2, hC2⟩ := Kd.R_reads (R_two WA a b WA.heap.size (Nat.le_refl _))
  have NI0 := impl_nodesIn.calls n A0 c0 l A2 c2 [a, b] ok (WA.alloc (.cells #[.int .i64 a, .int .i64 b] 3)) (Kd.C_below hr0 bB) hc0 hC2 hc2 hok
  rw [← e2] at NI0
  have NI := Aside0.mk (NI0.mono (R' := fun e w' => e = .returned (.bool ok) ∧ Below WA.heap.size WA w' ∧ Below w.heap.size w w') fun e w' h => ⟨h.1, (qZn (Below.refl _ _) _).trans (h.2.mono (by simp)), bB.trans (h.2.mono bB.size)⟩)
  have F := Aside0.mk (fun (w1 : World) (hb : Below (w.heap.size + 1) WA w1) => (⟨(qZb ((hb.block _ (Nat.lt_succ_self _)).trans f1) 0).trans rfl, (qZb ((hb.block _ (Nat.lt_succ_self _)).trans f1) 1).trans rfl⟩ : w1.cell? ⟨w.heap.size, 0, none⟩ = some (.int .i64 n) ∧ w1.cell? ⟨w.heap.size, 1, none⟩ = some (.slice A0 l.length c0)))
  have WI := Aside0.mk (fun (t : Bool) (h : impl_within.f most 1 6 = some t) (W : World) => impl_within.calls most 1 6 t W h)
  have SF_ := Aside0.mk (fun (o : List (List Int)) (h : simF l a b = some o) (W : World) (hb : Below w.heap.size w W) => simple_any n A0 c0 l a b o W (Kd.C_below hr0 hb) h)
  clear f1 bA bB NI0 e2 hc2 hC2 hr0 hok
  rw [sA] at NI
  have CP := Aside0.mk (fun (A1 : Option Addr) (n1 c1 : Nat) (h : n1 ≤ c1) (W1 : World) => clipS_any A1 n1 c1 h W1)
  obtain ⟨i0, hi0, _⟩ := Option.map_eq_some_iff.1 qYj
  have CUT := Aside0.mk (fun (A2 : Option Addr) (n2 c2 : Nat) (j : Int) (h0 : 0 ≤ j) (hm : j ≤ n2) (hc : n2 ≤ c2) => qYk 28 33 .i64 Try.underlying28 hi0 A2 n2 c2 j h0 hm hc)
  clear hi0
  cases ok with
  | false =>
    rw [if_neg Bool.false_ne_true] at h
    obtain rfl := Option.some.inj h
    go_enter Try.func15, Try.ntmps15
    go_wp2_with ((rw [← hWA]; go_at_call 58; refine NI.out.mono ?_; rintro e w1 ⟨rfl, hb1, hb0⟩; obtain ⟨z0, z1⟩ := F.out w1 hb1; have HB0 := Aside0.mk hb0; clear hb1 hb0))
    go_ret
    exact ⟨_, rfl, Kd.S_nil _ _ _ _ _, HB0.out⟩
  | true =>
    rw [if_pos rfl] at h
    by_cases hab : a = b
    · rw [if_pos hab] at h
      obtain rfl := Option.some.inj h
      subst hab
      have aa : (a == a) = true := beq_iff_eq.2 rfl
      go_enter Try.func15, Try.ntmps15
      go_wp2_with ((rw [← hWA]; go_at_call 58; refine NI.out.mono ?_; rintro e w1 ⟨rfl, hb1, hb0⟩; obtain ⟨z0, z1⟩ := F.out w1 hb1; have HB0 := Aside0.mk hb0; clear hb1 hb0))
      go_ret
      exact ⟨_, rfl, Kd.S_nil _ _ _ _ _, HB0.out⟩
    rw [if_neg hab] at h
    have aa : (a == b) = false := beq_eq_false_iff_ne.2 hab
    obtain ⟨t, ht, h⟩ := Option.bind_eq_some_iff.mp h
    have WT := Aside0.mk (WI.out t ht)
    clear WI ht
    cases t with
    | false =>
      rw [if_neg Bool.false_ne_true] at h
      obtain rfl := Option.some.inj h
      go_enter Try.func15, Try.ntmps15
      go_wp2_with (first | (rw [← hWA]; go_at_call 58; refine NI.out.mono ?_; rintro e w1 ⟨rfl, hb1, hb0⟩; obtain ⟨z0, z1⟩ := F.out w1 hb1; have HB0 := Aside0.mk hb0; clear hb1 hb0) | (go_at_call 48; refine (WT.out _).mono ?_; rintro e w' ⟨rfl, ⟨nd, rfl⟩⟩))
      go_ret
      exact ⟨_, rfl, Kd.S_nil _ _ _ _ _, HB0.out.trans (qQo (Below.refl _ _) _)⟩
    | true =>
      rw [if_pos rfl] at h
      obtain ⟨o, ho, h⟩ := Option.bind_eq_some_iff.mp h
      by_cases hm0 : 0 ≤ most
      · rw [if_pos hm0] at h
        obtain rfl := Option.some.inj h
        have SO := Aside0.mk (SF_.out o ho)
        clear SF_ ho h
        by_cases hlt : (o.length : Int) < most
        · have er : o.take most.toNat = o := List.take_of_length_le (by omega)
          rw [er]
          go_enter Try.func15, Try.ntmps15
          go_wp2_with (first | (rw [← hWA]; go_at_call 58; refine NI.out.mono ?_; rintro e w1 ⟨rfl, hb1, hb0⟩; obtain ⟨z0, z1⟩ := F.out w1 hb1; have HB0 := Aside0.mk hb0; clear hb1 hb0) | (go_at_call 48; refine (WT.out _).mono ?_; rintro e w' ⟨rfl, ⟨nd, rfl⟩⟩; have HB2 := Aside0.mk (HB0.out.trans (qQo (Below.refl _ _) nd))) | (go_at_call 59; refine (SO.out _ HB2.out).mono ?_; rintro e w3 ⟨v3, rfl, hs3, hb3⟩; obtain ⟨A3, c3, rfl, hc3, _⟩ := Kd.S_reads hs3; have hcut := CUT.out A3 o.length c3 (o.length : Int) (by omega) (by omega) hc3; rw [Int.toNat_natCast] at hcut; have HS3 := Aside0.mk (Kd.S_clip hs3); have HB3 := Aside0.mk hb3; have HC3 := Aside0.mk (CP.out A3 o.length c3 hc3); clear hs3 hb3) | (go_at_call 60; refine (HC3.out _).mono ?_; rintro e w' ⟨rfl, rfl⟩))
          go_ret
          exact ⟨_, rfl, Kd.S_lower HS3.out HB2.out.size, HB2.out.trans (HB3.out.mono HB2.out.size)⟩
        · have hml : most.toNat ≤ o.length := by omega
          have hmi : (most.toNat : Int) = most := by omega
          go_enter Try.func15, Try.ntmps15
          go_wp2_with (first | (rw [← hWA]; go_at_call 58; refine NI.out.mono ?_; rintro e w1 ⟨rfl, hb1, hb0⟩; obtain ⟨z0, z1⟩ := F.out w1 hb1; have HB0 := Aside0.mk hb0; clear hb1 hb0) | (go_at_call 48; refine (WT.out _).mono ?_; rintro e w' ⟨rfl, ⟨nd, rfl⟩⟩; have HB2 := Aside0.mk (HB0.out.trans (qQo (Below.refl _ _) nd))) | (go_at_call 59; refine (SO.out _ HB2.out).mono ?_; rintro e w3 ⟨v3, rfl, hs3, hb3⟩; obtain ⟨A3, c3, rfl, hc3, _⟩ := Kd.S_reads hs3; have hcut := CUT.out A3 o.length c3 most hm0 (by omega) hc3; have HS3 := Aside0.mk (Kd.S_clip (Kd.S_take (m := most.toNat) hs3 hml)); have HB3 := Aside0.mk hb3; have HC3 := Aside0.mk (CP.out A3 most.toNat c3 (by omega)); clear hs3 hb3) | (go_at_call 60; refine (HC3.out _).mono ?_; rintro e w' ⟨rfl, rfl⟩))
          go_ret
          have hs := HS3.out
          rw [List.length_take, Nat.min_eq_left hml] at hs
          exact ⟨_, rfl, Kd.S_lower hs HB2.out.size, HB2.out.trans (HB3.out.mono HB2.out.size)⟩
      · rw [if_neg hm0] at h; cases h
/-! ### impl_SomeWalks: function 15 -/
def impl_SomeWalks.f (ab : Int) (aa : List (S58)) (a1 : Int) (a2 : Int) (a3 : Int) : Option (List (List Int)) := swF ab aa a1 a2 a3
theorem impl_SomeWalks.calls (ab : Int) (ac : Option Addr) (ad : Nat) (aa : List (S58)) (a1 : Int) (a2 : Int) (a3 : Int) (r : List (List Int)) (w : World) (ae : Kd.C k58 w ac aa.length aa) (af : aa.length ≤ ad) (h : impl_SomeWalks.f ab aa a1 a2 a3 = some r) :
  Calls Try.prog 15 #[.agg #[.int .i64 ab, .slice ac aa.length ad], .int .i64 a1, .int .i64 a2, .int .i64 a3] w fun e w' => ∃ v0_ : Value, e = .returned (v0_) ∧ Kd.S (Kd.slice 3 (Kd.int .i64)) 33 w' w.heap.size (fun _ => True) v0_ r ∧ Below w.heap.size w w' := by
 exact someWalks_any ab ac ad aa a1 a2 a3 r w ae af h
end Go.Proofs.Ytlgolgfcolnddaa.F
