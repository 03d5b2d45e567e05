-- Printed by wip/px/px.py of this claim's repository (the kit's printer, extended there). Lean checks it.
import Derived.Test.YtlgolgfcolnddaaFKinds
import Derived.Shelf.SlSortCmp.NoneTotal
import Derived.Sort.Grow
import Derived.Test.YtlgolgfcolnddaaFtextsomeord
import Derived.Test.YtlgolgfcolnddaaFtextsomecmp
import Derived.Test.YtlgolgfcolnddaaFtextlaysorts
namespace Go.Proofs.Ytlgolgfcolnddaa.F
open Go.RowKit Go.Proofs.YtlgolgfcolnddaaW.PrintWords Go.Proofs.YtlgolgfcolnddaaW.PrintLast Go.Proofs.YtlgolgfcolnddaaW.PrintMore
attribute [local go_sem] max2_int min2_int max_two min_two max_three min_three max_four min_four   -- for this text's walks alone
set_option linter.unusedVariables false
set_option linter.unusedSimpArgs false

/-! ### text somesort -/
theorem cmpS_sgn (x y : Int) : (cmpS x y < 0 ↔ x < y) ∧ (cmpS x y = 0 ↔ x = y) := by
  unfold cmpS
  split
  · constructor <;> constructor <;> intro <;> omega
  · split
    · constructor <;> constructor <;> intro <;> omega
    · constructor <;> constructor <;> intro <;> omega
theorem cmpW_lt (l : List S58) (a b : List Int) : ltOf (cmpW l) a b = lessW (fun x => wcost l x 0) a b := by
  unfold ltOf cmpW orS lessW
  obtain ⟨p1, p2⟩ := cmpS_sgn (wcost l a 0) (wcost l b 0)
  obtain ⟨q1, q2⟩ := cmpS_sgn (a.length : Int) (b.length : Int)
  by_cases h : cmpS (wcost l a 0) (wcost l b 0) = 0
  · rw [if_pos h, if_pos (p2.1 h)]
    by_cases h2 : cmpS (a.length : Int) (b.length : Int) = 0
    · rw [if_pos h2, if_pos (by have := q2.1 h2; omega)]
      by_cases h3 : lexB a b = true
      · rw [h3]; exact decide_eq_true ((cmpL_neg a b).2 h3)
      · rw [Bool.eq_false_iff.2 h3]; exact decide_eq_false (fun z => h3 ((cmpL_neg a b).1 z))
    · rw [if_neg h2, if_neg (fun z => h2 (q2.2 (by omega)))]
      apply decide_eq_decide.2
      rw [q1]
      omega
  · rw [if_neg h, if_neg (fun z => h (p2.2 z))]
    apply decide_eq_decide.2
    exact p1
theorem swoW {α : Type} (f : α → List Int) (l : List S58) : Go.Sort.SWO (ltOf fun x y => cmpW l (f x) (f y)) := by
  have e : ∀ x y, (ltOf fun x y => cmpW l (f x) (f y)) x y = lessW (fun x => wcost l x 0) (f x) (f y) := fun x y => cmpW_lt l (f x) (f y)
  have h := toW (fun x => wcost l x 0)
  exact ⟨fun x => by rw [e]; exact h.irr _, fun x y z h1 h2 => by rw [e] at *; exact h.trans _ _ _ h1 h2, fun x y z h1 h2 => by rw [e] at *; exact h.nlt h1 h2⟩
/-- The row's value, element by element. -/
theorem S_vals {W : World} {base : Nat} {ok : Nat → Prop} {ov : Value} {out : List (List Int)} (hp : 0 < out.length) (h : Kd.S (Kd.slice 3 (Kd.int .i64)) 33 W base ok ov out) :
    ∃ (g cap : Nat) (cur : Array Value) (inner : List Value) (f : Nat → Nat), ov = .slice (some ⟨g, 0, none⟩) out.length cap ∧ base ≤ g ∧ W.heap[g]? = some (.cells cur 33 (0, 0)) ∧ out.length ≤ cap ∧ cap ≤ maxLen ∧ cap ≤ cur.size ∧ ok g ∧ cur.toList.take out.length = inner ∧ inner.length = out.length ∧
      ∀ j (hj : j < out.length), ∃ v, inner[j]? = some v ∧ Kd.R (Kd.int .i64) 3 W base (fun k => (ok k ∧ some k ≠ ov.ownBlock) ∧ f k = j) v out[j] := by
  obtain ⟨f, h0, inner, ⟨hlen, hrow⟩, hr⟩ := h
  rw [List.length_zipIdx] at hlen hrow
  rcases hrow with ⟨_, hz⟩ | ⟨g, cap, cur, rfl, hg, hh, hnc, hcm, hcs, ht⟩
  · omega
  have hsz : (Kd.tag f (Kd.slice 3 (Kd.int .i64))).sz = 1 := rfl
  rw [hsz, Nat.mul_one] at hcs ht hlen
  refine ⟨g, cap, cur, inner, f, rfl, hg, hh, hnc, hcm, hcs, h0 g rfl, ht, hlen, fun j hj => ?_⟩
  have hz : out.zipIdx[j]? = some (out[j], j) := Kd.zip_at (List.getElem?_eq_getElem hj)
  obtain ⟨v, hv, hR⟩ := hr.2 j (out[j], j) hz
  refine ⟨v, ?_, hR⟩
  rw [hsz, Nat.mul_one] at hv
  have := congrArg (fun x => x[0]?) hv
  simpa using this
set_option maxHeartbeats 2000000 in
theorem sortS_any (n : Int) (A0 : Option Addr) (c0 : Nat) (l : List S58) (gn : Nat) (w2 W : World) (ok : Nat → Prop) (ov : Value) (out : List (List Int)) (hr0 : Kd.C k58 w2 A0 l.length l) (hB : Below w2.heap.size w2 W) (hn : W.heap[gn]? = some (.cells #[.int .i64 n, .slice A0 l.length c0] 25 (0, 0))) (hok : ∀ k, ok k → k ≠ gn) (hS : Kd.S (Kd.slice 3 (Kd.int .i64)) 33 W w2.heap.size ok ov out) (hin : ∀ w ∈ out, ∀ k ∈ w, 0 ≤ k ∧ k < (l.length : Int)) (hlim : out.length < 4611686018427387904) :
    Calls Try.prog 94 #[ov, .func (.func 95) #[] #[.pointer (some ⟨gn, 0, none⟩)]] W fun e w' => e = .returned (.tuple #[]) ∧ Below w2.heap.size w2 w' ∧ Kd.S (Kd.slice 3 (Kd.int .i64)) 33 w' w2.heap.size ok ov (sortW (lessW fun x => wcost l x 0) out) ∧ ∀ k, k < W.heap.size → ¬ ok k → w'.heap[k]? = W.heap[k]? := by
  by_cases hp : 0 < out.length
  · obtain ⟨g, cap, cur, inner, f, rfl, hg, hh, hnc, hcm, hcs, hokg, ht, hil, hrow⟩ := S_vals hp hS
    have hgl := blk_lt hh
    have hl := hn
    let enc : Fin out.length → Value := fun i => inner[i.1]'(by rw [hil]; exact i.2)
    let cf : Fin out.length → Fin out.length → Int := fun i j => cmpW l out[i.1] out[j.1]
    have henc : ∀ i : Fin out.length, inner[i.1]? = some (enc i) := fun i => List.getElem?_eq_getElem _
    have hrw : ∀ i : Fin out.length, Kd.R (Kd.int .i64) 3 W w2.heap.size (fun k => (ok k ∧ k ≠ g) ∧ f k = i.1) (enc i) out[i.1] := fun i => by
      obtain ⟨v, hv, hR⟩ := hrow i.1 i.2
      rw [henc i] at hv
      obtain rfl := Option.some.inj hv
      exact Kd.R_mono hR (fun k hk => ⟨⟨hk.1.1, fun e => hk.1.2 (by rw [e]; rfl)⟩, hk.2⟩)
    have h1 : OneCell enc := fun i => by obtain ⟨A, c, e⟩ := Kd.R_slice (hrw i); rw [e]; rfl
    letI : Inhabited (Fin out.length) := ⟨⟨0, hp⟩⟩
    let d : Array (Fin out.length) := (List.finRange out.length).toArray
    have hds : d.size = out.length := by simp [d]
    have hdg : ∀ j (hj : j < out.length), d[j]! = ⟨j, hj⟩ := fun j hj => by rw [getElem!_pos d j (by rw [hds]; exact hj)]; simp [d]
    have hother : ∀ (m : Nat) (dk : Array (Fin out.length)) (os : Array Obj) (k : Nat), k < W.heap.size → k ≠ g → (sortWorld enc W g 0 m dk os).heap[k]? = W.heap[k]? := fun m dk os k hk hne => by
      unfold sortWorld Go.Sort.putRow Go.Sort.mapBlock
      rw [Go.Sort.heap_grow_old _ _ (by simpa [Go.Sort.ahead] using hk)]
      simp only [Go.Sort.ahead, Array.getElem?_modify]
      rw [if_neg (Ne.symm hne)]
    have hsize : ∀ (m : Nat) (dk : Array (Fin out.length)) (os : Array Obj), W.heap.size ≤ (sortWorld enc W g 0 m dk os).heap.size := fun m dk os => by
      unfold sortWorld Go.Sort.putRow Go.Sort.mapBlock Go.Sort.grow Go.Sort.ahead
      simp
    have hbel : ∀ (m : Nat) (dk : Array (Fin out.length)) (os : Array Obj), Below w2.heap.size w2 (sortWorld enc W g 0 m dk os) := fun m dk os => ⟨hB.os, hB.tape, hB.output, Nat.le_trans hB.size (hsize m dk os), fun k hk => (hother m dk os k (Nat.lt_of_lt_of_le hk hB.size) (by omega)).trans (hB.block k hk)⟩
    have hrowV : ∀ (m : Nat) (dk : Array (Fin out.length)) (os : Array Obj) (i : Fin out.length), Kd.R (Kd.int .i64) 3 (sortWorld enc W g 0 m dk os) w2.heap.size (fun k => (ok k ∧ k ≠ g) ∧ f k = i.1) (enc i) out[i.1] := fun m dk os i => Kd.R_step (hrw i) (fun k hk hlt => hother m dk os k hlt hk.1.2)
    have hcmp : CmpLays1 Try.prog 95 #[.pointer (some ⟨gn, 0, none⟩)] enc cf g 0 d.size W := fun m os dk _ x y => by
      obtain ⟨Ax, cx, ex, hcx, hCx⟩ := Kd.R_reads (hrowV m dk os x)
      obtain ⟨Ay, cy, ey, hcy, hCy⟩ := Kd.R_reads (hrowV m dk os y)
      have hgn : (sortWorld enc W g 0 m dk os).heap[gn]? = some (.cells #[.int .i64 n, .slice A0 l.length c0] 25 (0, 0)) := (hother m dk os gn (blk_lt hn) (fun e => hok g hokg e.symm)).trans hn
      have := closeS_any n A0 c0 l gn Ax Ay cx cy out[x.1] out[y.1] _ hgn (Kd.C_below hr0 (hbel m dk os)) hCx hcx (hin _ (List.getElem_mem x.2)) hCy hcy (hin _ (List.getElem_mem y.2))
      show Calls _ _ #[enc x, enc y, .pointer (some ⟨gn, 0, none⟩)] _ _
      rw [ex, ey]
      exact this
    have hH : Go.Sort.Holds enc W g 0 d := fun j hj => by
      have hj2 : j < out.length := by rw [← hds]; exact hj
      refine ⟨?_, blk_frozen hh _⟩
      rw [hdg j hj2, Nat.zero_add]
      refine (blk_cell hh j).trans ?_
      rw [← henc ⟨j, hj2⟩, ← ht, List.getElem?_take, if_pos hj2, Array.getElem?_toList]
    have eg : ∀ args w, (callFunc 95 args).run Try.prog w = .ok (.enter 95 args) w := enters_of Try.func95 (by kernel_rfl) rfl
    have hcon := Any.slices_SortFunc sortS_lay enc h1 cf (swoW (fun i : Fin out.length => out[i.1]) l) 95 #[.pointer (some ⟨gn, 0, none⟩)] g 0 cap d W eg hcmp hH hgl (by rw [hds]; exact hlim)
    rw [hds] at hcon
    refine Calls.mono hcon ?_
    rintro e w' ⟨rfl, d', m, os, hperm, hsort, rfl⟩
    refine ⟨rfl, hbel m d' os, ?_, fun k hk hnk => hother m d' os k hk (fun e => hnk (by rw [e]; exact hokg))⟩
    have hds2 : d'.size = out.length := hperm.1.trans hds
    have hpl : d'.toList.Perm d.toList := by
      have := hperm.2.2
      rwa [Array.extract_eq_self_of_le (by omega), Array.extract_eq_self_of_le (by omega)] at this
    have hdl : d.toList = List.finRange out.length := rfl
    have hmap : (List.finRange out.length).map (fun i : Fin out.length => out[i.1]) = out := by
      apply List.ext_getElem
      · simp
      · intro i h1 h2; simp
    have hout : d'.toList.map (fun i : Fin out.length => out[i.1]) = sortW (lessW fun x => wcost l x 0) out := by
      refine sortW_one (toW _) ?_ ?_
      · have := hpl.map (fun i : Fin out.length => out[i.1])
        rwa [hdl, hmap] at this
      · unfold SortedW
        rw [List.pairwise_map, List.pairwise_iff_getElem]
        intro i j hi hj hij
        have hi2 : i < d'.size := by simpa using hi
        have hj2 : j < d'.size := by simpa using hj
        have := hsort i j (Nat.zero_le _) hij (by rw [← hds2]; exact hj2)
        rw [getElem!_pos d' j hj2, getElem!_pos d' i hi2] at this
        have h3 := cmpW_lt l out[(d'[j]).1] out[(d'[i]).1]
        have ei : d'.toList[i] = d'[i] := Array.getElem_toList hi2
        have ej : d'.toList[j] = d'[j] := Array.getElem_toList hj2
        rw [ei, ej, ← h3]
        exact this
    rw [← hout]
    have hblock : (sortWorld enc W g 0 m d' os).heap[g]? = some (.cells (Go.Sort.putCells enc 0 d' cur) 33 (0, 0)) := by
      unfold sortWorld Go.Sort.putRow Go.Sort.mapBlock
      rw [Go.Sort.heap_grow_old _ _ (by simpa [Go.Sort.ahead] using hgl)]
      simp only [Go.Sort.ahead, Array.getElem?_modify, if_true]
      rw [hh]
      rfl
    have hnd : d'.toList.Nodup := hpl.nodup_iff.2 (by rw [hdl]; exact List.nodup_finRange _)
    have hpc : (Go.Sort.putCells enc 0 d' cur).toList.length = cur.size := by simp [Go.Sort.putCells]
    have inj : ∀ (i j : Nat) (hi : i < d'.size) (hj : j < d'.size), (d'[i]).1 = (d'[j]).1 → i = j := fun i j hi hj e => by
      have e2 : d'[i] = d'[j] := Fin.ext e
      have hp2 := List.pairwise_iff_getElem.1 hnd
      rcases Nat.lt_trichotomy i j with c | c | c
      · exact absurd (by rw [Array.getElem_toList hi, Array.getElem_toList hj]; exact e2) (hp2 i j (by simpa using hi) (by simpa using hj) c)
      · exact c
      · exact absurd (by rw [Array.getElem_toList hi, Array.getElem_toList hj]; exact e2.symm) (hp2 j i (by simpa using hj) (by simpa using hi) c)
    have hlen2 : (d'.toList.map (fun i : Fin out.length => out[i.1])).length = out.length := by rw [List.length_map, Array.length_toList, hds2]
    have hcell : ∀ j (hj : j < d'.size), ((Go.Sort.putCells enc 0 d' cur).toList.take out.length)[j]? = some (enc d'[j]) := fun j hj => by
      have hj1 : j < out.length := by omega
      have hj2 : j < cur.size := by omega
      rw [List.getElem?_take, if_pos hj1, Array.getElem?_toList, Array.getElem?_eq_getElem (by simp [Go.Sort.putCells]; exact hj2)]
      simp only [Go.Sort.putCells, Array.getElem_mapIdx, Nat.zero_le, Nat.zero_add, true_and, hj, if_true, Nat.sub_zero]
      rw [getElem!_pos d' j hj]
    refine ⟨fun k => open Classical in if h : ∃ j, ∃ hj : j < d'.size, (d'[j]).1 = f k then h.choose else 0, fun k hk => ?_, (Go.Sort.putCells enc 0 d' cur).toList.take out.length, ⟨?_, .inr ⟨g, cap, Go.Sort.putCells enc 0 d' cur, ?_, hg, hblock, ?_, hcm, ?_, ?_⟩⟩, ?_, ?_⟩
    · have : g = k := by simpa [Value.ownBlock] using hk
      rw [← this]; exact hokg
    · rw [List.length_zipIdx, hlen2, List.length_take, hpc]
      show min out.length cur.size = out.length * 1
      omega
    · rw [List.length_zipIdx, hlen2]
    · rw [List.length_zipIdx, hlen2]; exact hnc
    · simp only [Go.Sort.putCells, Array.size_mapIdx]
      show cap * 1 ≤ cur.size
      omega
    · rw [List.length_zipIdx, hlen2]
      show (Go.Sort.putCells enc 0 d' cur).toList.take (out.length * 1) = _
      rw [Nat.mul_one]
    · rw [List.length_zipIdx, hlen2, List.length_take, hpc]
      show min out.length cur.size = out.length * 1
      omega
    · intro j p hj
      rw [List.getElem?_zipIdx, Nat.zero_add] at hj
      obtain ⟨x, hx, rfl⟩ := Option.map_eq_some_iff.1 hj
      obtain ⟨hjl, hjx⟩ := List.getElem?_eq_some_iff.1 hx
      have hj2 : j < d'.size := by rw [hds2]; rw [hlen2] at hjl; exact hjl
      have ex : x = out[(d'[j]).1] := by rw [← hjx, List.getElem_map, Array.getElem_toList hj2]
      refine ⟨enc d'[j], ?_, ?_⟩
      · show (((Go.Sort.putCells enc 0 d' cur).toList.take out.length).drop (j * 1)).take 1 = _
        rw [Nat.mul_one]
        apply List.ext_getElem?
        intro i
        rw [List.getElem?_take]
        match i with
        | 0 => rw [if_pos (by omega), List.getElem?_drop, Nat.add_zero, hcell j hj2]; rfl
        | i + 1 => rw [if_neg (by omega)]; rfl
      · rw [ex]
        refine Kd.R_mono (hrowV m d' os d'[j]) (fun k hk => ⟨⟨hk.1.1, fun e => hk.1.2 (by simpa [Value.ownBlock] using e)⟩, ?_⟩)
        have h : ∃ j, ∃ hj : j < d'.size, (d'[j]).1 = f k := ⟨j, hj2, hk.2.symm⟩
        refine (dif_pos h).trans ?_
        obtain ⟨h5, h6⟩ := h.choose_spec
        exact inj _ _ h5 hj2 (h6.trans hk.2)
  · have hz : out = [] := List.eq_nil_of_length_eq_zero (by omega)
    subst hz
    obtain ⟨A, c, rfl⟩ := Kd.S_slice hS
    have hcon := AnyF.slices_SortFunc_none { sortS_lay with } A c (.func (.func 95) #[] #[.pointer (some ⟨gn, 0, none⟩)]) W
    refine Calls.mono hcon ?_
    rintro e w' ⟨rfl, rfl⟩
    exact ⟨rfl, hB, hS, fun _ _ _ => rfl⟩

end Go.Proofs.Ytlgolgfcolnddaa.F
