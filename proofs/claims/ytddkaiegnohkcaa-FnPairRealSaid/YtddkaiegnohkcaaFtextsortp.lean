-- Printed by wip/px/px.py of this claim's repository (the kit's printer, extended there). Lean checks it.
import Derived.Test.YtddkaiegnohkcaaFKinds
import Derived.Shelf.SlSortCmp.NoneTotal
import Derived.Sort.Grow
import Derived.Test.YtddkaiegnohkcaaFtextfront
import Derived.Test.YtddkaiegnohkcaaFtextlaysort
namespace Go.Proofs.Ytddkaiegnohkcaa.F
open Go.RowKit Go.Proofs.YtddkaiegnohkcaaW.PrintWords Go.Proofs.YtddkaiegnohkcaaW.PrintLast Go.Proofs.YtddkaiegnohkcaaW.PrintMore
attribute [local go_sem] max2_int min2_int max_two min_two max_three min_three max_four min_four   -- for this text's walks alone
set_option linter.unusedVariables false
set_option linter.unusedSimpArgs false

/-! ### text sortp -/
instance inhPair : Inhabited S35 := ⟨z35⟩
theorem encPair_one (x : S35) : ∀ v ∈ encPair x, v.oneCell' = true := by
  intro v hv
  simp [encPair] at hv
  rcases hv with rfl | rfl <;> rfl
theorem put_pair (cur : Array Value) (d : Array S35) (j : Nat) (hj : j < d.size) (hc : d.size * 2 ≤ cur.size) : (((Go.Sort.putCells id 0 (Go.Sort.flatK encPair 2 d) cur).toList.take (d.size * 2)).drop (j * 2)).take 2 = encPair d[j]! := by
  have hl : (Go.Sort.putCells id 0 (Go.Sort.flatK encPair 2 d) cur).size = cur.size := by simp [Go.Sort.putCells]
  have key : ∀ i : Nat, i < 2 → (Go.Sort.putCells id 0 (Go.Sort.flatK encPair 2 d) cur).toList[j * 2 + i]? = some ((encPair d[j]!)[i]!) := fun i hi => by
    have h1 : j * 2 + i < cur.size := by omega
    have h2 : j * 2 + i < d.size * 2 := by omega
    have e := Go.Sort.get_flatK encPair 2 d (j * 2 + i) h2
    rw [show (j * 2 + i) / 2 = j by omega, show (j * 2 + i) % 2 = i by omega] at e
    rw [Array.getElem?_toList, Array.getElem?_eq_getElem (by rw [hl]; exact h1)]
    simp only [Go.Sort.putCells, Array.getElem_mapIdx, Nat.zero_le, Nat.zero_add, true_and, Go.Sort.size_flatK, h2, if_true, Nat.sub_zero, id_eq]
    rw [e]
  apply List.ext_getElem?
  intro i
  rw [List.getElem?_take]
  by_cases hi : i < 2
  · rw [if_pos hi, List.getElem?_drop, List.getElem?_take, if_pos (by omega), key i hi]
    match i, hi with
    | 0, _ => rfl
    | 1, _ => rfl
  · rw [if_neg hi]
    exact (List.getElem?_eq_none (by simp [encPair]; omega)).symm
theorem cmpP_lt (x y : Int) : (cmpP x y < 0 ↔ x < y) ∧ (cmpP x y = 0 ↔ x = y) := by
  unfold cmpP
  split
  · constructor <;> constructor <;> intro <;> omega
  · split
    · constructor <;> constructor <;> intro <;> omega
    · constructor <;> constructor <;> intro <;> omega
theorem ltPair (x y : S35) : ltOf cmpPair x y = decide (x.f0 < y.f0 ∨ x.f0 = y.f0 ∧ x.f1 < y.f1) := by
  unfold ltOf cmpPair orP
  obtain ⟨a, b⟩ := cmpP_lt x.f0 y.f0
  obtain ⟨c, d⟩ := cmpP_lt x.f1 y.f1
  apply decide_eq_decide.2
  by_cases h : cmpP x.f0 y.f0 = 0
  · rw [if_pos h, c]
    have := b.1 h
    constructor
    · intro h1; exact .inr ⟨this, h1⟩
    · rintro (h1 | h1)
      · omega
      · exact h1.2
  · rw [if_neg h, a]
    constructor
    · intro h1; exact .inl h1
    · rintro (h1 | h1)
      · exact h1
      · exact absurd (b.2 h1.1) h
theorem swoPair : Go.Sort.SWO (ltOf cmpPair) := ⟨fun x => by rw [ltPair]; simp, fun x y z h1 h2 => by rw [ltPair, decide_eq_true_eq] at *; omega, fun x y z h1 h2 => by rw [ltPair, decide_eq_false_iff_not] at *; omega⟩
theorem totPair (x y : S35) (h1 : ltOf cmpPair x y = false) (h2 : ltOf cmpPair y x = false) : x = y := by
  rw [ltPair, decide_eq_false_iff_not] at h1 h2
  cases x
  cases y
  simp only at h1 h2
  congr 1 <;> omega
/-- Pairs by cost, then by toll. -/
def sortPair (l : List S35) : List S35 := l.mergeSort fun x y => !(ltOf cmpPair) y x
theorem sortPair_length (l : List S35) : (sortPair l).length = l.length := List.length_mergeSort l
set_option maxHeartbeats 1000000 in
theorem sortPair_any (P0_ : Nat → Prop) (v : Value) (l0 : List S35) (w0 w : World) (hB : Below w0.heap.size w0 w) (ho : Kd.R k35 35 w w0.heap.size P0_ v l0) (hlim : l0.length ≤ 1000000) :
    Calls Try.prog 92 #[v, .func (.func 93) #[] #[]] w fun e w' => e = .returned (.tuple #[]) ∧ Kd.R k35 35 w' w0.heap.size P0_ v (sortPair l0) ∧ Below w0.heap.size w0 w' ∧ Kept w w' P0_ := by
  by_cases hp : 0 < l0.length
  · obtain ⟨h0, inner, ⟨hlen, hrow⟩, hr⟩ := ho
    rcases hrow with ⟨_, hz⟩ | ⟨g, cap, cur, rfl, hg, hh, hnc, hcm, hcs, ht⟩
    · omega
    have hsz : (Kd.sz k35) = 2 := rfl
    rw [hsz] at hcs ht hlen hr
    have hcur : l0.length * 2 ≤ cur.size := Nat.le_trans (Nat.mul_le_mul_right _ hnc) hcs
    have hgl := blk_lt hh
    have hcell : ∀ j : Nat, j < l0.length → ∀ i : Nat, i < 2 → w.cell? ⟨g, j * 2 + i, none⟩ = some ((encPair (l0.toArray)[j]!)[i]!) := fun j hj i hi => by
      have h1 := hr.2 j l0[j] (List.getElem?_eq_getElem hj)
      have h2 := k35_openM h1
      have e : (l0.toArray)[j]! = l0[j] := by simp [hj]
      rw [e]
      have h3 : cur.toList[j * 2 + i]? = some ((encPair l0[j])[i]!) := by
        have h4 : ((inner.drop (j * 2)).take 2)[i]? = some ((encPair l0[j])[i]!) := by
          rw [h2]
          match i, hi with
          | 0, _ => rfl
          | 1, _ => rfl
        rw [List.getElem?_take, if_pos hi, List.getElem?_drop, ← ht, List.getElem?_take, if_pos (by omega)] at h4
        exact h4
      rw [Array.getElem?_toList] at h3
      exact (blk_cell hh _).trans h3
    have hH : Go.Sort.HoldsK encPair 2 w g 0 l0.toArray := fun t ht2 => by
      rw [Go.Sort.size_flatK] at ht2
      have ht3 : t < l0.length * 2 := by simpa using ht2
      rw [Go.Sort.get_flatK encPair 2 l0.toArray t ht2, Nat.zero_add]
      refine ⟨?_, blk_frozen hh t⟩
      have := hcell (t / 2) (by omega) (t % 2) (by omega)
      rw [show t / 2 * 2 + t % 2 = t by omega] at this
      exact this
    have eg : ∀ args w, (callFunc 93 args).run Try.prog w = .ok (.enter 93 args) w := enters_of Try.func93 (by kernel_rfl) rfl
    have hcon := AnyQ.slices_SortFunc_total sortP_lay 2 Try.isAgg35 Try.sizeOf35 encPair (fun _ => rfl) encPair_one cmpPair swoPair 93 #[] g 0 cap l0.toArray w eg (fun _ _ _ _ x y => closeP_any x y _) hH hgl (by simp; omega) totPair
    have hs : l0.toArray.size = l0.length := by simp
    rw [hs] at hcon
    refine Calls.mono hcon ?_
    rintro e w' ⟨rfl, n, os, rfl⟩
    obtain ⟨d', hd'⟩ : ∃ d', d' = (sortPair l0).toArray := ⟨_, rfl⟩
    have hdl : d'.size = l0.length := by rw [hd']; simp [sortPair_length]
    have hw : sortWorldK encPair 2 w g 0 n (l0.toArray.toList.mergeSort fun x y => !(ltOf cmpPair) y x).toArray os = sortWorldK encPair 2 w g 0 n d' os := by rw [hd']; rfl
    rw [hw]
    have hother : ∀ k, k < w.heap.size → k ≠ g → (sortWorldK encPair 2 w g 0 n d' os).heap[k]? = w.heap[k]? := fun k hk hne => by
      unfold sortWorldK Go.Sort.putRowK Go.Sort.putRow Go.Sort.mapBlock
      rw [Go.Sort.heap_grow_old _ _ (by simpa [Go.Sort.ahead] using hk)]
      simp only [Go.Sort.ahead, Array.getElem?_modify]
      rw [if_neg (Ne.symm hne)]
    have hsize : w.heap.size ≤ (sortWorldK encPair 2 w g 0 n d' os).heap.size := by
      unfold sortWorldK Go.Sort.putRowK Go.Sort.putRow Go.Sort.mapBlock Go.Sort.grow Go.Sort.ahead
      simp
    have hblock : (sortWorldK encPair 2 w g 0 n d' os).heap[g]? = some (.cells (Go.Sort.putCells id 0 (Go.Sort.flatK encPair 2 d') cur) 35 (0, 0)) := by
      unfold sortWorldK Go.Sort.putRowK Go.Sort.putRow Go.Sort.mapBlock
      rw [Go.Sort.heap_grow_old _ _ (by simpa [Go.Sort.ahead] using hgl)]
      simp only [Go.Sort.ahead, Array.getElem?_modify, if_true]
      rw [hh]
      rfl
    have hP : P0_ g := h0 g rfl
    have hpl : (Go.Sort.putCells id 0 (Go.Sort.flatK encPair 2 d') cur).toList.length = cur.size := by simp [Go.Sort.putCells]
    refine ⟨rfl, ⟨h0, _, ⟨?_, .inr ⟨g, cap, _, by rw [sortPair_length], hg, hblock, by rw [sortPair_length]; exact hnc, hcm, ?_, rfl⟩⟩, ?_, fun j p hj => ?_⟩, ⟨hB.os, hB.tape, hB.output, Nat.le_trans hB.size hsize, fun k hk => (hother k (Nat.lt_of_lt_of_le hk hB.size) (by omega)).trans (hB.block k hk)⟩, hsize, fun k hk hn => hother k hk (fun e => hn (by rw [e]; exact hP))⟩
    · rw [hsz, sortPair_length, List.length_take, hpl]
      omega
    · rw [hsz]
      simp only [Go.Sort.putCells, Array.size_mapIdx]
      exact hcs
    · rw [hsz, sortPair_length, List.length_take, hpl]
      omega
    · obtain ⟨hj1, hj2⟩ := List.getElem?_eq_some_iff.1 hj
      rw [hsz, sortPair_length]
      have := put_pair cur d' j (by rw [hdl, ← sortPair_length l0]; exact hj1) (by rw [hdl]; exact hcur)
      rw [hdl] at this
      rw [this]
      have e : d'[j]! = p := by rw [hd', ← hj2]; simp [hj1]
      rw [e]
      exact k35_mkM _ _ _ p
  · have hn : l0 = [] := List.eq_nil_of_length_eq_zero (by omega)
    subst hn
    obtain ⟨A, c, rfl, _, _⟩ := Kd.R_reads ho
    have hcon := AnyF.slices_SortFunc_none sortP_lay A c (.func (.func 93) #[] #[]) w
    refine Calls.mono hcon ?_
    rintro e w' ⟨rfl, rfl⟩
    exact ⟨rfl, by have e : sortPair [] = [] := List.mergeSort_nil; rw [e]; exact ho, hB, Kept.refl _ _⟩

end Go.Proofs.Ytddkaiegnohkcaa.F
