-- Printed by wip/px/px.py of this claim's repository (the kit's printer, extended there). Lean checks it.
import Derived.Test.YtlgolgfcolnddaaFKinds
import Derived.Test.YtlgolgfcolnddaaFtextmarkss
namespace Go.Proofs.Ytlgolgfcolnddaa.F
open Go.RowKit Go.Proofs.YtlgolgfcolnddaaW.PrintWords Go.Proofs.YtlgolgfcolnddaaW.PrintLast Go.Proofs.YtlgolgfcolnddaaW.PrintMore
attribute [local go_sem] max2_int min2_int max_two min_two max_three min_three max_four min_four   -- for this text's walks alone
set_option linter.unusedVariables false
set_option linter.unusedSimpArgs false

/-! ### text markrows -/
/-- n marks. -/
def mkRow : Nat → Int → List Int
  | 0, _ => []
  | n + 1, a => mkRow n a ++ [mkI n a]
theorem mkRow_length : ∀ (n : Nat) (a : Int), (mkRow n a).length = n
  | 0, _ => rfl
  | n + 1, a => by rw [mkRow, List.length_append, mkRow_length n a]; rfl
theorem mkRow_put (l : List Int) (a : Int) (i : Nat) (h : i < l.length) : (mkRow i a ++ l.drop i).set i (mkI i a) = mkRow (i + 1) a ++ l.drop (i + 1) := by
  have e := mkRow_length i a
  rw [List.set_append_right _ _ (by omega), e, Nat.sub_self, List.drop_eq_getElem_cons h, List.set_cons_zero, mkRow, List.append_assoc]
  rfl
/-- A grid, marked. -/
def mkRows (l : List (List Int)) (a : Int) : List (List Int) := (List.range l.length).map fun i => mkRow (l.getD i []).length (mkSS (l.take i) a)
theorem mkRows_length (l : List (List Int)) (a : Int) : (mkRows l a).length = l.length := by simp [mkRows]
theorem mkRows_at (l : List (List Int)) (a : Int) (i : Nat) (h : i < l.length) : (mkRows l a)[i]'(by rw [mkRows_length]; exact h) = mkRow l[i].length (mkSS (l.take i) a) := by simp [mkRows, h]
theorem mkRows_put (l : List (List Int)) (a : Int) (i : Nat) (h : i < l.length) : ((mkRows l a).take i ++ l.drop i).set i (mkRow l[i].length (mkSS (l.take i) a)) = (mkRows l a).take (i + 1) ++ l.drop (i + 1) := by
  have hl := mkRows_length l a
  have e : ((mkRows l a).take i).length = i := by rw [List.length_take, hl]; omega
  rw [List.set_append_right _ _ (by omega), e, Nat.sub_self, List.drop_eq_getElem_cons h, List.set_cons_zero, List.take_succ_eq_append_getElem (by omega), mkRows_at l a i h, List.append_assoc]
  rfl
set_option maxHeartbeats 2000000 in
set_option maxRecDepth 100000 in
theorem markI_own (g c : Nat) (l : List Int) (a : Int) (w0 w : World) (base : Nat) (ok : Nat → Prop) (hg0 : w0.heap.size ≤ g) (hl : l.length ≤ 1048576) (hw : Below w0.heap.size w0 w) (hR : (Kd.int .i64).R 3 w base ok (.slice (some ⟨g, 0, none⟩) l.length c) l) :
    Calls Try.prog 42 #[.slice (some ⟨g, 0, none⟩) l.length c, .int .i64 a] w fun e w' => e = .returned (.int .i64 (mkI l.length a)) ∧ (Kd.int .i64).R 3 w' base ok (.slice (some ⟨g, 0, none⟩) l.length c) (mkRow l.length a) ∧ Below w0.heap.size w0 w' ∧ Kept w w' (fun k => k = g) := by
  have HR := Aside0.mk hR
  have HW := Aside0.mk hw
  have HG := Aside0.mk hg0
  clear hR hw hg0
  go_enter Try.func42, Try.ntmps42
  go_wp2
  go_loopg [1, 5] l.length (fun kx s1 s5 wr => ∃ i : Nat, i ≤ l.length ∧ l.length - i ≤ kx ∧ s1 = .int .i64 (mkI i a) ∧ s5 = .int .i64 (i : Int) ∧ Aside0 (Below w0.heap.size w0 wr) ∧ Aside0 (Kept w wr (fun k => k = g)) ∧ Aside0 ((Kd.int .i64).R 3 wr base ok (.slice (some ⟨g, 0, none⟩) l.length c) (mkRow i a ++ l.drop i)))
  case atStart => exact ⟨0, Nat.zero_le _, by omega, rfl, rfl, HW, ⟨Kept.refl _ _⟩, HR⟩
  case round =>
    obtain ⟨i, hi, hg, rfl, rfl, BW, KW, RW⟩ := hrel
    by_cases hlt : i < l.length
    · have hltz : (i : Int) < (l.length : Int) := by omega
      obtain ⟨y1, y2⟩ := Kd.R_celln (0 : Int) RW.out (i : Int) (by omega) hltz
      rw [Int.toNat_natCast] at y1 y2
      generalize rdOf 0 (mkRow i a ++ l.drop i) (i : Int) = z at y1
      have NB := Aside0.mk (below_set BW.out HG.out : Below w0.heap.size w0 (wr.setCell ⟨g, i, none⟩ (.int .i64 (mkI i a))))
      have NK := Aside0.mk (Kept.setCell (p := ⟨g, i, none⟩) KW.out (.inl rfl) (.int .i64 (mkI i a)))
      have NR := Aside0.mk (by
        have h := Kd.R_putn RW.out (i : Int) (mkI i a)
        rw [Int.toNat_natCast, mkRow_put l a i hlt] at h
        exact h : (Kd.int .i64).R 3 (wr.setCell ⟨g, i, none⟩ (.int .i64 (mkI i a))) base ok (.slice (some ⟨g, 0, none⟩) l.length c) (mkRow (i + 1) a ++ l.drop (i + 1)))
      go_wp2
      go_roundg (l.length - (i + 1))
      case measure => omega
      case rel => exact ⟨i + 1, hlt, Nat.le_refl _, rfl, by go_num, NB, NK, NR⟩
    · have hltz : ¬ (i : Int) < (l.length : Int) := by omega
      have hk : i = l.length := by omega
      have HK := Aside0.mk hk
      clear hk
      go_wp2
      go_ret
      have hr := RW.out
      rw [HK.out, List.drop_length, List.append_nil] at hr
      exact ⟨by rw [← HK.out]; rfl, hr, BW.out, KW.out⟩
theorem markI_row (v : Value) (l : List Int) (a : Int) (w0 w : World) (base : Nat) (ok : Nat → Prop) (hok : ∀ k, ok k → w0.heap.size ≤ k) (hl : l.length ≤ 1048576) (hw : Below w0.heap.size w0 w) (hR : (Kd.int .i64).R 3 w base ok v l) :
    Calls Try.prog 42 #[v, .int .i64 a] w fun e w' => e = .returned (.int .i64 (mkI l.length a)) ∧ (Kd.int .i64).R 3 w' base ok v (mkRow l.length a) ∧ Below w0.heap.size w0 w' ∧ Kept w w' (fun k => some k = v.ownBlock) := by
  by_cases h0 : 0 < l.length
  · obtain ⟨g, c, rfl, _⟩ := Kd.R_form hR h0
    refine (markI_own g c l a w0 w base ok (hok g (hR.1 g (by simp [Value.ownBlock]))) hl hw hR).mono fun e w' h => ⟨h.1, h.2.1, h.2.2.1, h.2.2.2.mono fun k hk => ?_⟩
    show some k = some g
    rw [hk]
  · have e : l = [] := List.eq_nil_of_length_eq_zero (by omega)
    subst e
    obtain ⟨A, c, rfl, _⟩ := Kd.R_reads hR
    have HR := Aside0.mk hR
    have HW := Aside0.mk hw
    clear hR hw hok
    go_enter Try.func42, Try.ntmps42
    go_wp2
    go_loopg [1, 5] 0 (fun kx s1 s5 wr => s1 = .int .i64 a ∧ s5 = .int .i64 0 ∧ wr = w)
    case atStart => exact ⟨rfl, rfl, rfl⟩
    case round =>
      obtain ⟨rfl, rfl, rfl⟩ := hrel
      go_wp2
      go_ret
      exact ⟨rfl, HR.out, HW.out, Kept.refl _ _⟩
/-- Row j of a grid of one's own, and what becomes of the grid where that row is written. -/
theorem tag_at {f : Nat → Nat} {W : World} {base : Nat} {ok : Nat → Prop} {v : Value} {xs : List (List Int)} (h : (Kd.tag f (Kd.slice 3 (Kd.int .i64))).R 33 W base ok v xs.zipIdx) (j : Nat) (hj : j < xs.length) :
    ∃ g c vj, v = .slice (some ⟨g, 0, none⟩) xs.length c ∧ W.cell? ⟨g, j, none⟩ = some vj ∧ (Kd.int .i64).R 3 W base (fun k => (ok k ∧ some k ≠ v.ownBlock) ∧ f k = j) vj xs[j] ∧
      ∀ (W1 : World) (y : List Int) (S : Nat → Prop), Kept W W1 S → (∀ k, S k → (ok k ∧ some k ≠ v.ownBlock) ∧ f k = j) → (Kd.int .i64).R 3 W1 base (fun k => (ok k ∧ some k ≠ v.ownBlock) ∧ f k = j) vj y → (Kd.tag f (Kd.slice 3 (Kd.int .i64))).R 33 W1 base ok v (xs.set j y).zipIdx := by
  obtain ⟨h0, inner, ho, hr⟩ := h
  rw [List.length_zipIdx] at ho
  have hil : inner.length = xs.length := by have := hr.1; rw [List.length_zipIdx] at this; rw [this]; show xs.length * 1 = _; omega
  obtain ⟨g, c, rfl, hb, hlt⟩ := ho.form (by omega)
  have e1 : ∀ q (hq : q < inner.length), (inner.drop (q * 1)).take 1 = [inner[q]] := fun q hq => by rw [Nat.mul_one, List.drop_eq_getElem_cons hq]; rfl
  have hM := hr.2 j (xs[j], j) (Kd.zip_at (by simp [hj]))
  obtain ⟨vj, hv, hRj⟩ := hM
  have ej : inner[j]'(by omega) = vj := by
    have h2 : (inner.drop (j * 1)).take 1 = [vj] := hv
    rw [e1 j (by omega)] at h2
    exact (List.cons.inj h2).1
  refine ⟨g, c, vj, rfl, ?_, hRj, fun W1 y S hk hS hy => ?_⟩
  · rw [ho.cellAt j (by show j < xs.length * 1; omega)]
    simp [← ej, hil, hj]
  · have hkt : W1.heap[g]? = W.heap[g]? := hk.2 g hlt (fun hs => (hS g hs).1.2 (by simp [Value.ownBlock]))
    refine ⟨h0, inner, ?_, ?_⟩
    · rw [List.length_zipIdx, List.length_set]
      exact own_move ho (fun k hk2 => by
        have : g = k := by simpa [Value.ownBlock] using hk2
        rw [← this]; exact hkt)
    · refine ⟨by rw [List.length_zipIdx, List.length_set]; have := hr.1; rwa [List.length_zipIdx] at this, fun q p hq => ?_⟩
      rw [List.getElem?_zipIdx, Nat.zero_add] at hq
      obtain ⟨x, hx, rfl⟩ := Option.map_eq_some_iff.1 hq
      rw [List.getElem?_set] at hx
      by_cases e : j = q
      · subst e
        rw [if_pos rfl, if_pos hj] at hx
        obtain rfl := Option.some.inj hx
        exact ⟨vj, by show (inner.drop (j * 1)).take 1 = [vj]; rw [e1 j (by omega), ej], hy⟩
      · rw [if_neg e] at hx
        have h2 := hr.2 q (x, q) (Kd.zip_at hx)
        exact Kd.M_kept (d := Kd.slice 3 (Kd.int .i64)) h2 hk (fun k hk2 hs => e ((hS k hs).2.symm.trans hk2.2))
set_option maxHeartbeats 2000000 in
set_option maxRecDepth 100000 in
theorem markRows_any (v : Value) (l0 : List (List Int)) (a1 : Int) (w0 w : World) (base : Nat) (ok : Nat → Prop) (hok : ∀ k, ok k → w0.heap.size ≤ k) (hB : Below w0.heap.size w0 w) (ho0 : Kd.S (Kd.slice 3 (Kd.int .i64)) 33 w base ok v l0) (h1 : l0.length ≤ 1048576) (h2 : ∀ x ∈ l0, x.length ≤ 1048576) :
    Calls Try.prog 24 #[v, .int .i64 a1] w fun e w' => e = .returned (.int .i64 (mkSS l0 a1)) ∧ Kd.S (Kd.slice 3 (Kd.int .i64)) 33 w' base ok v (mkRows l0 a1) ∧ Below w0.heap.size w0 w' ∧ Kept w w' ok := by
  obtain ⟨f, hf⟩ := ho0
  obtain ⟨A, c, rfl, hc, _⟩ := Kd.S_reads (⟨f, hf⟩ : Kd.S (Kd.slice 3 (Kd.int .i64)) 33 w base ok v l0)
  have HO := Aside0.mk hf
  have HB := Aside0.mk hB
  have H2 := Aside0.mk h2
  have HK := Aside0.mk hok
  clear hf hB h2 hok
  go_enter Try.func24, Try.ntmps24
  go_wp2
  go_loopg [1, 5] l0.length (fun kx s1 s5 wr => ∃ i : Nat, i ≤ l0.length ∧ l0.length - i ≤ kx ∧ s1 = .int .i64 (mkSS (l0.take i) a1) ∧ s5 = .int .i64 (i : Int) ∧ Aside0 (Below w0.heap.size w0 wr) ∧ Aside0 (Kept w wr ok) ∧ Aside0 ((Kd.tag f (Kd.slice 3 (Kd.int .i64))).R 33 wr base ok (.slice A l0.length c) ((mkRows l0 a1).take i ++ l0.drop i).zipIdx))
  case atStart => exact ⟨0, Nat.zero_le _, by omega, rfl, rfl, HB, ⟨Kept.refl _ _⟩, HO⟩
  case round =>
    obtain ⟨i, hi, hg, rfl, rfl, BW, KW, RW⟩ := hrel
    have hml := mkRows_length l0 a1
    have hxl : ((mkRows l0 a1).take i ++ l0.drop i).length = l0.length := by rw [List.length_append, List.length_take, List.length_drop, hml]; omega
    by_cases hlt : i < l0.length
    · have hltz : (i : Int) < (l0.length : Int) := by omega
      obtain ⟨g, c', vj, ev, hcell, hRj, hput⟩ := tag_at RW.out i (by omega)
      injection ev with ev1 ev2 ev3
      subst ev1
      subst ev3
      clear ev2
      have exj : ((mkRows l0 a1).take i ++ l0.drop i)[i]'(by omega) = l0[i] := by
        have e : ((mkRows l0 a1).take i).length = i := by rw [List.length_take, hml]; omega
        simp only [List.getElem_append_right (Nat.le_of_eq e), e, Nat.sub_self, List.getElem_drop, Nat.add_zero]
      rw [exj] at hRj
      have MW := Aside0.mk (markI_row vj l0[i] (mkSS (l0.take i) a1) w0 wr base _ (fun k hk => HK.out k hk.1.1) (H2.out _ (List.getElem_mem hlt)) BW.out hRj)
      have PUT := Aside0.mk (fun (W1 : World) (hk : Kept wr W1 (fun k => some k = vj.ownBlock)) (hy : (Kd.int .i64).R 3 W1 base (fun k => (ok k ∧ some k ≠ (Value.slice (some ⟨g, 0, none⟩) l0.length c).ownBlock) ∧ f k = i) vj (mkRow l0[i].length (mkSS (l0.take i) a1))) => (by
        have h := hput W1 _ _ hk (fun k hs => hRj.1 k hs.symm) hy
        rw [mkRows_put l0 a1 i hlt] at h
        exact h : (Kd.tag f (Kd.slice 3 (Kd.int .i64))).R 33 W1 base ok (.slice (some ⟨g, 0, none⟩) l0.length c) ((mkRows l0 a1).take (i + 1) ++ l0.drop (i + 1)).zipIdx))
      have KS := Aside0.mk (fun (k : Nat) (hs : some k = vj.ownBlock) => (hRj.1 k hs.symm).1.1)
      have ES := Aside0.mk (mkSS_take l0 a1 i hlt)
      obtain ⟨Aj, cj, hvj, hcj, _⟩ := Kd.R_reads hRj
      subst hvj
      clear hput hRj exj hml hxl
      go_wp2_with (go_at_call 42; refine MW.out.mono ?_; rintro e w' ⟨rfl, hr', hb', hk'⟩; have NR := Aside0.mk (PUT.out w' hk' hr'); have NB := Aside0.mk hb'; have NK := Aside0.mk (KW.out.then_ hk' (fun k hs => .inl (KS.out k hs))); clear hr' hb' hk')
      go_roundg (l0.length - (i + 1))
      case measure => omega
      case rel => exact ⟨i + 1, hlt, Nat.le_refl _, by rw [ES.out], by go_num, NB, NK, NR⟩
    · have hltz : ¬ (i : Int) < (l0.length : Int) := by omega
      have hk : i = l0.length := by omega
      have HK := Aside0.mk hk
      clear hk
      go_wp2
      go_ret
      have hr := RW.out
      rw [HK.out, List.drop_length, List.append_nil, List.take_of_length_le (by omega)] at hr
      exact ⟨by rw [HK.out, List.take_length]; rfl, ⟨f, hr⟩, BW.out, KW.out⟩

end Go.Proofs.Ytlgolgfcolnddaa.F
