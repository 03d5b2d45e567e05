-- Printed by wip/px/px.py of this claim's repository (the kit's printer, extended there). Lean checks it.
import Derived.Test.YtlgolgfcolnddaaFKinds
namespace Go.Proofs.Ytlgolgfcolnddaa.F
open Go.RowKit Go.Proofs.YtlgolgfcolnddaaW.PrintWords Go.Proofs.YtlgolgfcolnddaaW.PrintLast Go.Proofs.YtlgolgfcolnddaaW.PrintMore
attribute [local go_sem] max2_int min2_int max_two min_two max_three min_three max_four min_four   -- for this text's walks alone
set_option linter.unusedVariables false
set_option linter.unusedSimpArgs false

/-! ### text someord -/
/-- The first list comes ahead of the second one, number by number. -/
def lexB : List Int → List Int → Bool
  | [], [] => false
  | [], _ :: _ => true
  | _ :: _, [] => false
  | x :: a, y :: b => if x = y then lexB a b else decide (x < y)
/-- By what it costs, by how many arcs, then by the arcs. -/
def lessW (c : List Int → Int) (a b : List Int) : Bool := if c a = c b then (if a.length = b.length then lexB a b else decide (a.length < b.length)) else decide (c a < c b)
theorem lexB_irr : ∀ a, lexB a a = false
  | [] => rfl
  | x :: a => by rw [lexB, if_pos rfl]; exact lexB_irr a
theorem lexB_trans : ∀ a b c, lexB a b = true → lexB b c = true → lexB a c = true
  | [], [], _, h, _ => by cases h
  | [], _ :: _, [], _, h => by cases h
  | [], _ :: _, _ :: _, _, _ => rfl
  | _ :: _, [], _, h, _ => by cases h
  | _ :: _, _ :: _, [], _, h => by cases h
  | x :: a, y :: b, z :: c, h1, h2 => by
    rw [lexB] at *
    by_cases e : x = y
    · rw [if_pos e] at h1
      by_cases f : y = z
      · rw [if_pos f] at h2
        rw [if_pos (e.trans f)]
        exact lexB_trans a b c h1 h2
      · rw [if_neg f, decide_eq_true_eq] at h2
        rw [if_neg (by omega), decide_eq_true_eq]
        omega
    · rw [if_neg e, decide_eq_true_eq] at h1
      by_cases f : y = z
      · rw [if_neg (by omega), decide_eq_true_eq]; omega
      · rw [if_neg f, decide_eq_true_eq] at h2
        rw [if_neg (by omega), decide_eq_true_eq]
        omega
theorem lexB_tot : ∀ a b, lexB a b = false → lexB b a = false → a = b
  | [], [], _, _ => rfl
  | [], _ :: _, h, _ => by cases h
  | _ :: _, [], _, h => by cases h
  | x :: a, y :: b, h1, h2 => by
    rw [lexB] at *
    by_cases e : x = y
    · rw [if_pos e] at h1
      rw [if_pos e.symm] at h2
      rw [e, lexB_tot a b h1 h2]
    · rw [if_neg e, decide_eq_false_iff_not] at h1
      rw [if_neg (fun z => e z.symm), decide_eq_false_iff_not] at h2
      omega
/-- A strict order in which no two tie. -/
structure TO {α : Type} (lt : α → α → Bool) : Prop where
  irr : ∀ a, lt a a = false
  trans : ∀ a b c, lt a b = true → lt b c = true → lt a c = true
  tot : ∀ a b, lt a b = false → lt b a = false → a = b
theorem toW (c : List Int → Int) : TO (lessW c) := by
  refine ⟨fun a => ?_, fun a b d h1 h2 => ?_, fun a b h1 h2 => ?_⟩
  · unfold lessW
    rw [if_pos rfl, if_pos rfl]
    exact lexB_irr a
  · unfold lessW at *
    by_cases e : c a = c b
    · rw [if_pos e] at h1
      by_cases f : c b = c d
      · rw [if_pos f] at h2
        rw [if_pos (e.trans f)]
        by_cases e1 : a.length = b.length
        · rw [if_pos e1] at h1
          by_cases f1 : b.length = d.length
          · rw [if_pos f1] at h2
            rw [if_pos (e1.trans f1)]
            exact lexB_trans _ _ _ h1 h2
          · rw [if_neg f1, decide_eq_true_eq] at h2
            rw [if_neg (by omega), decide_eq_true_eq]
            omega
        · rw [if_neg e1, decide_eq_true_eq] at h1
          by_cases f1 : b.length = d.length
          · rw [if_neg (by omega), decide_eq_true_eq]; omega
          · rw [if_neg f1, decide_eq_true_eq] at h2
            rw [if_neg (by omega), decide_eq_true_eq]
            omega
      · rw [if_neg f, decide_eq_true_eq] at h2
        rw [if_neg (by omega), decide_eq_true_eq]
        omega
    · rw [if_neg e, decide_eq_true_eq] at h1
      by_cases f : c b = c d
      · rw [if_neg (by omega), decide_eq_true_eq]; omega
      · rw [if_neg f, decide_eq_true_eq] at h2
        rw [if_neg (by omega), decide_eq_true_eq]
        omega
  · unfold lessW at *
    by_cases e : c a = c b
    · rw [if_pos e] at h1
      rw [if_pos e.symm] at h2
      by_cases e1 : a.length = b.length
      · rw [if_pos e1] at h1
        rw [if_pos e1.symm] at h2
        exact lexB_tot _ _ h1 h2
      · rw [if_neg e1, decide_eq_false_iff_not] at h1
        rw [if_neg (fun z => e1 z.symm), decide_eq_false_iff_not] at h2
        omega
    · rw [if_neg e, decide_eq_false_iff_not] at h1
      rw [if_neg (fun z => e z.symm), decide_eq_false_iff_not] at h2
      omega
theorem TO.nlt {α : Type} {lt : α → α → Bool} (h : TO lt) {a b c : α} (h1 : lt a b = false) (h2 : lt b c = false) : lt a c = false := by
  cases h3 : lt a c with
  | false => rfl
  | true =>
    cases h4 : lt b a with
    | true => rw [h.trans b a c h4 h3] at h2; cases h2
    | false => rw [h.tot a b h1 h4, h2] at h3; cases h3
theorem TO.asym {α : Type} {lt : α → α → Bool} (h : TO lt) {a b : α} (h1 : lt a b = true) : lt b a = false := by
  cases h2 : lt b a with
  | false => rfl
  | true => have := h.trans a b a h1 h2; rw [h.irr] at this; cases this
/-- None behind is ahead of one in front. -/
def SortedW {α : Type} (lt : α → α → Bool) (L : List α) : Prop := L.Pairwise fun a b => lt b a = false
theorem sorted_one {α : Type} {lt : α → α → Bool} (h : TO lt) : ∀ {L L' : List α}, L.Perm L' → SortedW lt L → SortedW lt L' → L = L'
  | [], L', hp, _, _ => (List.nil_perm.1 hp).symm
  | a :: r, [], hp, _, _ => by have := hp.length_eq; simp at this
  | a :: r, b :: s, hp, h1, h2 => by
    unfold SortedW at h1 h2
    rw [List.pairwise_cons] at h1 h2
    have e : a = b := by
      have ha : a ∈ b :: s := hp.subset (by simp)
      have hb : b ∈ a :: r := hp.symm.subset (by simp)
      rw [List.mem_cons] at ha hb
      rcases ha with ha | ha
      · exact ha
      · rcases hb with hb | hb
        · exact hb.symm
        · exact h.tot _ _ (h2.1 a ha) (h1.1 b hb)
    subst e
    rw [sorted_one h (List.perm_cons a |>.1 hp) h1.2 h2.2]
/-- One is put among others. -/
def insW {α : Type} (lt : α → α → Bool) (w : α) : List α → List α
  | [] => [w]
  | e :: r => if lt w e = true then w :: e :: r else e :: insW lt w r
theorem insW_perm {α : Type} (lt : α → α → Bool) (w : α) : ∀ L : List α, (insW lt w L).Perm (w :: L)
  | [] => List.Perm.refl _
  | e :: r => by
    rw [insW]
    split
    · exact List.Perm.refl _
    · exact (List.Perm.cons e (insW_perm lt w r)).trans (List.Perm.swap w e r)
theorem insW_sorted {α : Type} {lt : α → α → Bool} (h : TO lt) (w : α) : ∀ {L : List α}, SortedW lt L → SortedW lt (insW lt w L)
  | [], _ => by rw [insW]; exact List.pairwise_singleton _ _
  | e :: r, hs => by
    rw [insW]
    unfold SortedW at hs
    rw [List.pairwise_cons] at hs
    split
    · rename_i hl
      refine List.pairwise_cons.2 ⟨fun x hx => ?_, List.pairwise_cons.2 hs⟩
      rw [List.mem_cons] at hx
      rcases hx with rfl | hx
      · exact h.asym hl
      · exact h.nlt (hs.1 x hx) (h.asym hl)
    · rename_i hl
      refine List.pairwise_cons.2 ⟨fun x hx => ?_, insW_sorted h w hs.2⟩
      have hx := (insW_perm lt w r).subset hx
      rw [List.mem_cons] at hx
      rcases hx with rfl | hx
      · exact Bool.eq_false_iff.2 hl
      · exact hs.1 x hx
/-- In order. -/
def sortW {α : Type} (lt : α → α → Bool) (D : List α) : List α := D.foldl (fun L w => insW lt w L) []
theorem fold_perm {α : Type} (lt : α → α → Bool) : ∀ (D L : List α), (D.foldl (fun L w => insW lt w L) L).Perm (D ++ L)
  | [], L => List.Perm.refl _
  | d :: D, L => by
    rw [List.foldl_cons, List.cons_append]
    refine (fold_perm lt D _).trans ?_
    refine ((insW_perm lt d L).append_left D).trans ?_
    exact List.perm_middle
theorem fold_sorted {α : Type} {lt : α → α → Bool} (h : TO lt) : ∀ (D : List α) {L : List α}, SortedW lt L → SortedW lt (D.foldl (fun L w => insW lt w L) L)
  | [], _, hs => hs
  | d :: D, _, hs => by rw [List.foldl_cons]; exact fold_sorted h D (insW_sorted h d hs)
theorem sortW_perm {α : Type} (lt : α → α → Bool) (D : List α) : (sortW lt D).Perm D := by
  have := fold_perm lt D []
  rwa [List.append_nil] at this
theorem sortW_sorted {α : Type} {lt : α → α → Bool} (h : TO lt) (D : List α) : SortedW lt (sortW lt D) := fold_sorted h D List.Pairwise.nil
theorem sortW_one {α : Type} {lt : α → α → Bool} (h : TO lt) {D L : List α} (hp : L.Perm D) (hs : SortedW lt L) : L = sortW lt D := sorted_one h (hp.trans (sortW_perm lt D).symm) hs (sortW_sorted h D)

end Go.Proofs.Ytlgolgfcolnddaa.F
