import Derived.Test.YtlgolgfcolnddaaAExt
import Derived.Deep.Slices
import Derived.Deep.Fields
import Derived.ChangeSame
import Derived.ChangeArms
import Derived.WideShapes
import Derived.DataReads
import Derived.ChangeOld
import Derived.SizedLaws
/-! What is read of an argument, as a value of a kind: Opens. -/
namespace Go.Proofs.YtlgolgfcolnddaaW.PrintWords
set_option linter.unusedVariables false
open Go.ChangeShapes Go.WideShapes Go.RowKit Go.Deep
section
variable {H : Type} {enc : TypeId × Value → H} {P : Program} {w : World} {base : Nat} {spare : Nat → Bool} {held : Bool}
/-- Cells that read as data of type t are of kind d, and good. -/
def Opens {H : Type} (enc : TypeId × Value → H) (P : Program) (w : World) (base : Nat) (spare : Nat → Bool) (held : Bool) (t : TypeId) {α : Type} (d : Kd α) (good : α → Prop) : Prop :=
  ∀ (fuel : Nat) (cs : List Value) (x : DataW H × List MemPlace), DataW.trod enc P w base spare held fuel t cs = some x → ∃ a : α, d.K w a cs ∧ good a
theorem opens_int {t : TypeId} {k : IntKind} (ht : P.underlying t = some (.int k)) : Opens enc P w base spare held t (Kd.int k) (fun n => (Lit.int k n).wf = true) := by
  intro fuel cs x h
  obtain ⟨n, rfl, _, hw⟩ := DataW.trod_int ht h
  exact ⟨n, rfl, hw⟩
theorem opens_bool {t : TypeId} (ht : P.underlying t = some .bool) : Opens enc P w base spare held t Kd.bool (fun _ => True) := by
  intro fuel cs x h
  obtain ⟨b, rfl, _⟩ := DataW.trod_bool ht h
  exact ⟨b, rfl, trivial⟩
theorem opens_slice {α : Type} {d : Kd α} {good : α → Prop} {t e : TypeId} (ht : P.underlying t = some (.slice e)) (hsz : P.cellsOf e = d.sz) (he : Opens enc P w base spare held e d good) :
    Opens enc P w base spare held t (Kd.slice e d) (fun l => l.length ≤ 9223372036854775807 ∧ ∀ x ∈ l, good x) := by
  intro fuel cs x h
  rcases open_slice ht h with ⟨rfl, _⟩ | ⟨a, len, cap, m, n, D, Pl, rfl, hb, hl, hm, hmm, _, hi⟩
  · exact ⟨[], ⟨none, 0, rfl, Nat.le_refl _, rfl, by simp, fun hp => absurd hp (Nat.lt_irrefl _)⟩, by simp, fun x hx => by cases hx⟩
  · have hle : len ≤ m := by rw [hmm]; split <;> omega
    have hmax : len ≤ 9223372036854775807 := by simp only [maxLen] at hm; omega
    have hex : ∀ i : Fin len, ∃ p : α, good p ∧ ∃ c, c.length = d.sz ∧ d.K w p c ∧ ∀ j u, c[j]? = some u → w.cell? (a.add (i.1 * d.sz + j)) = some u := by
      intro i
      obtain ⟨cs', hc, ht'⟩ := hi i.1 (by omega)
      rw [hsz] at hc
      obtain ⟨p, hK, hg⟩ := he _ _ _ ht'
      obtain ⟨_, hcl, hat⟩ := World.cells?_some hc
      refine ⟨p, hg, cs', hcl, hK, fun j u hu => ?_⟩
      have hj : j < d.sz := by rw [← hcl]; exact (List.getElem?_eq_some_iff.1 hu).1
      rw [← Go.Deep.add_add, hat j hj]
      exact hu
    refine ⟨List.ofFn (fun i => Classical.choose (hex i)), ⟨some a, cap, by rw [List.length_ofFn], by rw [List.length_ofFn]; exact hl, ?_⟩, by rw [List.length_ofFn]; exact hmax, fun x hx => ?_⟩
    · refine ⟨rfl, by rw [List.length_ofFn]; exact hmax, fun _ => ⟨a, rfl, fun j p hj => ?_⟩⟩
      rw [List.getElem?_ofFn] at hj
      split at hj
      · rename_i hjl
        injection hj with hj
        subst hj
        exact (Classical.choose_spec (hex ⟨j, hjl⟩)).2
      · cases hj
    · obtain ⟨i, rfl⟩ := List.mem_ofFn.1 hx
      exact (Classical.choose_spec (hex i)).1
/-- The fields from number i on, whose cells begin at off. -/
def Fits {H : Type} (enc : TypeId × Value → H) (P : Program) (w : World) (base : Nat) (spare : Nat → Bool) (held : Bool) (fs : Array Field) (total i off : Nat) {α : Type} (d : Kd α) (good : α → Prop) : Prop :=
  ∀ (cs : List Value) (n : Nat) (xs : List (DataW H × List MemPlace)), cs.length = total → xs.length = fs.size → (∀ (j : Nat) (f : Field), fs[j]? = some f → DataW.trod enc P w base spare held n f.type ((cs.drop f.offset).take (P.cellsOf f.type)) = xs[j]?) → ∃ a : α, d.K w a (cs.drop off) ∧ good a
theorem fits_last {fs : Array Field} {total i off : Nat} {α : Type} {d : Kd α} {good : α → Prop} (f : Field) (hf : fs[i]? = some f) (ho : f.offset = off) (hs : off + P.cellsOf f.type = total) (h : Opens enc P w base spare held f.type d good) :
    Fits enc P w base spare held fs total i off d good := by
  intro cs n xs hl hx hg
  have h1 := hg i f hf
  have hi : i < xs.length := by rw [hx]; exact (Array.getElem?_eq_some_iff.1 hf).1
  rw [List.getElem?_eq_getElem hi, ho, List.take_of_length_le (by rw [List.length_drop]; omega)] at h1
  exact h _ _ _ h1
theorem fits_cons {fs : Array Field} {total i off off' : Nat} {α β : Type} {d : Kd α} {d' : Kd β} {good : α → Prop} {good' : β → Prop} (f : Field) (hf : fs[i]? = some f) (ho : f.offset = off) (hs : off + P.cellsOf f.type = off') (h : Opens enc P w base spare held f.type d good) (hr : Fits enc P w base spare held fs total (i + 1) off' d' good') :
    Fits enc P w base spare held fs total i off (Kd.pair d d') (fun x => good x.1 ∧ good' x.2) := by
  intro cs n xs hl hx hg
  have h1 := hg i f hf
  have hi : i < xs.length := by rw [hx]; exact (Array.getElem?_eq_some_iff.1 hf).1
  rw [List.getElem?_eq_getElem hi, ho] at h1
  obtain ⟨p, hK, hp⟩ := h _ _ _ h1
  obtain ⟨q, hK', hq⟩ := hr cs n xs hl hx hg
  refine ⟨(p, q), ⟨_, _, ?_, hK, hK'⟩, hp, hq⟩
  rw [← hs, ← List.drop_drop, List.take_append_drop]
theorem opens_struct {t : TypeId} {fs : Array Field} {total : Nat} {α : Type} {d : Kd α} {good : α → Prop} (ht : P.underlying t = some (.struct fs)) (hC : P.cellsOf t = total) (h : Fits enc P w base spare held fs total 0 0 d good) :
    Opens enc P w base spare held t d good := by
  intro fuel cs x hx
  obtain ⟨xs, n, _, _, hcl, hxl, hg⟩ := DataW.trod_struct ht hx
  have := h cs n xs (hcl.trans hC) hxl hg
  rwa [List.drop_zero] at this
theorem opens_iso {t : TypeId} {α β : Type} {d : Kd α} {good : α → Prop} (f : β → α) (g : α → β) (hfg : ∀ a, f (g a) = a) (h : Opens enc P w base spare held t d good) : Opens enc P w base spare held t (Kd.iso d f) (fun x => good (f x)) := by
  intro fuel cs x hx
  obtain ⟨a, hK, ha⟩ := h _ _ _ hx
  exact ⟨g a, by show d.K w (f (g a)) cs; rw [hfg]; exact hK, by show good (f (g a)); rw [hfg]; exact ha⟩
end
end Go.Proofs.YtlgolgfcolnddaaW.PrintWords
