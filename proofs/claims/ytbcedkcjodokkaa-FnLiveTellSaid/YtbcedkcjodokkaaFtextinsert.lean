-- Printed by wip/px/px.py of this claim's repository (the kit's printer, extended there). Lean checks it.
import Derived.Test.YtbcedkcjodokkaaFKinds
import Derived.Test.YtbcedkcjodokkaaFtextnews
import Derived.Test.YtbcedkcjodokkaaFtextcopy
namespace Go.Proofs.Ytbcedkcjodokkaa.F
open Go.RowKit Go.Proofs.YtbcedkcjodokkaaW.PrintWords Go.Proofs.YtbcedkcjodokkaaW.PrintLast Go.Proofs.YtbcedkcjodokkaaW.PrintMore
attribute [local go_sem] max2_int min2_int max_two min_two max_three min_three max_four min_four   -- for this text's walks alone
set_option linter.unusedVariables false
set_option linter.unusedSimpArgs false

/-! ### text insert -/
theorem ins_list (l : List S30) (x : S30) (i : Nat) (hi : i ≤ l.length) (L R : List Value) (h : L = nwCs (l.take i) ++ nwC x ++ nwCs (l.drop i) ++ R) : L.take ((l.take i ++ x :: l.drop i).length * 3) = nwCs (l.take i ++ x :: l.drop i) := by
  have e : nwCs (l.take i ++ x :: l.drop i) = nwCs (l.take i) ++ nwC x ++ nwCs (l.drop i) := by rw [nwCs_append, nwCs, List.append_assoc]
  rw [h, ← e]
  exact List.take_left' (nwCs_len _)
theorem ins_shift (l : List S30) (x : S30) (i : Nat) (hi : i < l.length) (L0 L1 L2 : List Value) (h0 : L0.take (l.length * 3) = nwCs l) (hl : (l.length + 1) * 3 ≤ L0.length) (h1 : L1 = L0.take ((i + 1) * 3) ++ nwCs (l.drop i) ++ L0.drop ((i + 1) * 3 + (nwCs (l.drop i)).length)) (h2 : L2 = L1.take (i * 3) ++ nwC x ++ L1.drop (i * 3 + (nwC x).length)) : L2.take ((l.take i ++ x :: l.drop i).length * 3) = nwCs (l.take i ++ x :: l.drop i) := by
  have a1 : (L0.take ((i + 1) * 3)).length = (i + 1) * 3 := by rw [List.length_take]; omega
  have a2 : (nwC x).length = 3 := rfl
  refine ins_list l x i (by omega) L2 (L0.drop ((i + 1) * 3 + (nwCs (l.drop i)).length)) ?_
  rw [h2, h1, List.append_assoc (L0.take _), List.take_append_of_le_length (by omega), List.take_take, Nat.min_eq_left (by omega), a2, show i * 3 + 3 = (i + 1) * 3 by omega, List.drop_left' a1, ← nwCs_take, ← h0, List.take_take, Nat.min_eq_left (by omega)]
  simp only [List.append_assoc]
theorem ins_new (l : List S30) (x : S30) (i : Nat) (hi : i < l.length) (L0 L1 L2 : List Value) (h0 : L0.take (i * 3) = nwCs (l.take i)) (hl : (l.length + 1) * 3 ≤ L0.length) (h1 : L1 = L0.take (i * 3) ++ nwC x ++ L0.drop (i * 3 + (nwC x).length)) (h2 : L2 = L1.take ((i + 1) * 3) ++ nwCs (l.drop i) ++ L1.drop ((i + 1) * 3 + (nwCs (l.drop i)).length)) : L2.take ((l.take i ++ x :: l.drop i).length * 3) = nwCs (l.take i ++ x :: l.drop i) := by
  have a1 : (L0.take (i * 3) ++ nwC x).length = (i + 1) * 3 := by rw [List.length_append, List.length_take, show (nwC x).length = 3 from rfl]; omega
  refine ins_list l x i (by omega) L2 (L1.drop ((i + 1) * 3 + (nwCs (l.drop i)).length)) ?_
  rw [h2]
  congr 2
  rw [h1, List.take_left' a1, h0]
theorem copy_news (w : World) (ty b o dLen dCap : Nat) (a : Addr) (sLen sCap : Nat) (cs : List Value) (cur : Array Value) (hh : w.heap[b]? = some (.cells cur 30 (0, 0))) (hf : o + cs.length ≤ cur.size) (hn : cs.length = Nat.min sLen dLen * 3)
    (hsrc : ∀ j v, cs[j]? = some v → w.cell? (a.add j) = some v) (h1 : ∀ v ∈ cs, v.oneCell' = true) :
    (Builtin.copy_ #[26, 26] ty #[.slice (some ⟨b, o, none⟩) dLen dCap, .slice (some a) sLen sCap]).run Try.prog w = .ok (goInt (Nat.min sLen dLen)) (w.setCells b o cs) := by
  obtain ⟨i0, hi0, _, hz1, _⟩ := info_parts info30
  refine run_copy_sz w _ _ ty 30 3 b o dLen dCap a sLen sCap cs Try.underlying26 (by rw [hi0]; simp [hz1]) hn hsrc (fun j hj => ?_) (fun j _ => blk_frozen hh _) h1
  rw [cell_of_row w b _ cur _ (0, 0) hh, Array.getElem?_eq_getElem (by omega)]
  rfl
theorem cells_row (w : World) (g k : Nat) (cur : Array Value) (hh : w.heap[g]? = some (.cells cur 30 (0, 0))) (vs : List Value) (h : ∀ j v, vs[j]? = some v → cur.toList[k + j]? = some v) : ∀ j v, vs[j]? = some v → w.cell? ((⟨g, k, none⟩ : Addr).add j) = some v := fun j v hj => by
  rw [Addr.add_lit, cell_of_row w g _ cur _ (0, 0) hh, ← Array.getElem?_toList]
  exact h j v hj
theorem insert_end (P0 P2 : Nat → Prop) (u u2 : Value) (l : List S30) (x : S30) (w0 w : World) (hB : Below w0.heap.size w0 w) (ho0 : Kd.R k30 30 w w0.heap.size P0 u l) (ho2 : Kd.R k30 30 w w0.heap.size P2 u2 [x]) (h6 : l.length ≤ 1000) :
    Calls Try.prog 20 #[u, .int .i64 (l.length : Int), u2] w fun e w' => ∃ v0_ : Value, e = .returned v0_ ∧ Kd.R k30 30 w' w0.heap.size (fun k_ => (P0 k_ ∨ P2 k_) ∨ w.heap.size ≤ k_) v0_ (l ++ [x]) ∧ Below w0.heap.size w0 w' ∧ Kept w w' (fun k_ => P0 k_ ∨ P2 k_) := by
  have hC : ∃ g2 c, u2 = .slice (some ⟨g2, 0, none⟩) 1 c ∧ 1 ≤ c ∧ c ≤ 9223372036854775807 ∧ Kd.C k30 w (some ⟨g2, 0, none⟩) 1 [x] := by
    obtain ⟨A, c, hu, hlc, hC⟩ := Kd.R_reads ho2
    rcases R_nw ho2 with ⟨_, e⟩ | ⟨g, cap, cur, e, _, _, _, _, hn, hm, _, _⟩
    · cases e
    · rw [e] at hu
      injection hu with hu1 hu2 hu3
      subst hu1
      exact ⟨g, cap, e, hn, by simpa [maxLen] using hm, hC⟩
  obtain ⟨g2, c, hu, hlc, hc63, hC⟩ := hC
  have HO := Aside0.mk (Kd.R_mono ho0 (ok' := fun k_ => (P0 k_ ∨ P2 k_) ∨ w.heap.size ≤ k_) (fun k hk => .inl (.inl hk)))
  have HP := Aside0.mk ho0.1
  have HC := Aside0.mk hC
  have HB := Aside0.mk hB
  have H6 := Aside0.mk h6
  have hle : l.length ≤ 9223372036854775807 := by omega
  rcases R_nw ho0 with ⟨e, e2⟩ | ⟨g, cap, cur, e, _, _, _, _, hn, hm, _, _⟩
  · clear ho0 ho2 hC hB
    subst hu e e2
    go_enter Try.func20, Try.ntmps20
    go_wp2_with ((with_reducible refine gate_builtin (b := .append) (xs := #[.tmp 23, .tmp 24]) rfl ?_); at_builtin; refine Kd.R_append_rows k30 (w0 := w0) w0.heap.size rfl (.tmp 23) (.tmp 24) 26 30 (.agg #[.int .i64 0, .int .i64 0, .int .i64 0]) 24 rfl Try.underlying26 info30 rfl (by decide) (by omega) _ [] [x] _ _ _ (fun k_ => (P0 k_ ∨ P2 k_) ∨ w.heap.size ≤ k_) (fun _ => False) rfl rfl ?aO ?aR (fun _ _ h => h) (fun _ h => h.elim) ?aF ?aB ?aS ?aL ?_; (case aR => exact HC.out); (case aB => exact HB.out); (case aF => exact (fun _ h => .inr h)); (case aO => exact HO.out); (case aS => exact HB.out.size); (case aL => have := H6.out; (try simp only [List.length_nil]); omega); intro v2 w2 ho hb hg hat; have n1_ := Aside0.mk hb; have n2_ := Aside0.mk ho; have n3_ := Aside0.mk (Kept.of_grown (S := fun k_ => P0 k_ ∨ P2 k_) hg (Kept.refl w _) (fun k hk => .inl (.inl (HP.out k hk)))); clear ho hb hg hat)
    go_ret
    exact ⟨_, rfl, n2_.out, n1_.out, n3_.out⟩
  · have hm' : cap ≤ 9223372036854775807 := by simpa [maxLen] using hm
    clear ho0 ho2 hC hB
    subst hu e
    by_cases hq : cap = l.length
    · subst hq
      go_enter Try.func20, Try.ntmps20
      go_wp2_with ((with_reducible refine gate_builtin (b := .append) (xs := #[.tmp 23, .tmp 24]) rfl ?_); at_builtin; refine Kd.R_append_rows k30 (w0 := w0) w0.heap.size rfl (.tmp 23) (.tmp 24) 26 30 (.agg #[.int .i64 0, .int .i64 0, .int .i64 0]) 24 rfl Try.underlying26 info30 rfl (by decide) (by omega) _ l [x] _ _ _ (fun k_ => (P0 k_ ∨ P2 k_) ∨ w.heap.size ≤ k_) (fun _ => False) rfl rfl ?aO ?aR (fun _ _ h => h) (fun _ h => h.elim) ?aF ?aB ?aS ?aL ?_; (case aR => exact HC.out); (case aB => exact HB.out); (case aF => exact (fun _ h => .inr h)); (case aO => exact HO.out); (case aS => exact HB.out.size); (case aL => have := H6.out; (try simp only [List.length_nil]); omega); intro v2 w2 ho hb hg hat; have n1_ := Aside0.mk hb; have n2_ := Aside0.mk ho; have n3_ := Aside0.mk (Kept.of_grown (S := fun k_ => P0 k_ ∨ P2 k_) hg (Kept.refl w _) (fun k hk => .inl (.inl (HP.out k hk)))); clear ho hb hg hat)
      go_ret
      exact ⟨_, rfl, n2_.out, n1_.out, n3_.out⟩
    · have hq' : ¬ ((cap : Int) = (l.length : Int)) := by omega
      go_enter Try.func20, Try.ntmps20
      go_wp2_with ((with_reducible refine gate_builtin (b := .append) (xs := #[.tmp 23, .tmp 24]) rfl ?_); at_builtin; refine Kd.R_append_rows k30 (w0 := w0) w0.heap.size rfl (.tmp 23) (.tmp 24) 26 30 (.agg #[.int .i64 0, .int .i64 0, .int .i64 0]) 24 rfl Try.underlying26 info30 rfl (by decide) (by omega) _ l [x] _ _ _ (fun k_ => (P0 k_ ∨ P2 k_) ∨ w.heap.size ≤ k_) (fun _ => False) rfl rfl ?aO ?aR (fun _ _ h => h) (fun _ h => h.elim) ?aF ?aB ?aS ?aL ?_; (case aR => exact HC.out); (case aB => exact HB.out); (case aF => exact (fun _ h => .inr h)); (case aO => exact HO.out); (case aS => exact HB.out.size); (case aL => have := H6.out; (try simp only [List.length_nil]); omega); intro v2 w2 ho hb hg hat; have n1_ := Aside0.mk hb; have n2_ := Aside0.mk ho; have n3_ := Aside0.mk (Kept.of_grown (S := fun k_ => P0 k_ ∨ P2 k_) hg (Kept.refl w _) (fun k hk => .inl (.inl (HP.out k hk)))); clear ho hb hg hat)
      go_ret
      exact ⟨_, rfl, n2_.out, n1_.out, n3_.out⟩
set_option maxHeartbeats 4000000 in
set_option maxRecDepth 100000 in
theorem insert_room (P0 P2 : Nat → Prop) (l : List S30) (x : S30) (i : Nat) (hi : i < l.length) (h6 : l.length ≤ 1000) (w0 w : World) (hB : Below w0.heap.size w0 w) (g cap : Nat) (cur : Array Value) (hP : P0 g) (hb : w0.heap.size ≤ g) (hh : w.heap[g]? = some (.cells cur 30 (0, 0))) (hn : l.length + 1 ≤ cap) (hm : cap ≤ maxLen) (hc : cap * 3 ≤ cur.size) (ht : cur.toList.take (l.length * 3) = nwCs l)
    (g2 c2 : Nat) (cur2 : Array Value) (hne : g2 ≠ g) (hh2 : w.heap[g2]? = some (.cells cur2 30 (0, 0))) (hc2 : 3 ≤ cur2.size) (hc63 : c2 ≤ 9223372036854775807) (h1c : 1 ≤ c2) (ht2 : cur2.toList.take 3 = nwC x) :
    Calls Try.prog 20 #[.slice (some ⟨g, 0, none⟩) l.length cap, .int .i64 (i : Int), .slice (some ⟨g2, 0, none⟩) 1 c2] w fun e w' => ∃ v0_ : Value, e = .returned v0_ ∧ Kd.R k30 30 w' w0.heap.size (fun k_ => (P0 k_ ∨ P2 k_) ∨ w.heap.size ≤ k_) v0_ (l.take i ++ x :: l.drop i) ∧ Below w0.heap.size w0 w' ∧ Kept w w' (fun k_ => P0 k_ ∨ P2 k_) := by
  have hm' : cap ≤ 9223372036854775807 := by simpa [maxLen] using hm
  have hov : ∀ lb cb, (callFunc 37 #[.slice (some ⟨g2, 0, none⟩) 1 c2, .slice (some ⟨g, (i + 1) * 3, none⟩) lb cb]).run Try.prog w = .ok (.value (.bool false)) w := fun lb cb => by
    rw [run_callFunc_extern Try.func37 (by kernel_rfl) (by kernel_rfl) (by kernel_rfl) (e := Extern.SlicesOverlaps.overlaps #[26, 26] #[4]) (by kernel_rfl),
      Lib.run_overlaps_apart w 26 4 30 Try.underlying26 3 Try.sizeOf30 ⟨g2, 0, none⟩ ⟨g, (i + 1) * 3, none⟩ 1 c2 lb cb hne 30 30 cur2.size cur.size (by simp [World.shape?, hh2]) (by simp [World.shape?, hh]) (by omega) (blk_frozen hh2 _) (blk_frozen hh2 _)]
    rfl
  have dl : (nwCs (l.drop i)).length = (l.length - i) * 3 := by rw [nwCs_len, List.length_drop]
  have xl : (nwC x).length = 3 := rfl
  obtain ⟨W1, hW1⟩ : ∃ W1, W1 = w.drew.setCells g ((i + 1) * 3) (nwCs (l.drop i)) := ⟨_, rfl⟩
  obtain ⟨cur1, q1, q2, q3, q4⟩ := over_row (w0 := w0) (w := w.drew) (o := (i + 1) * 3) (nwCs (l.drop i)) hh (by rw [dl]; omega) hb hB.drew
  rw [← hW1] at q1 q4
  have q5 : W1.heap[g2]? = some (.cells cur2 30 (0, 0)) := by rw [hW1, setCells_far _ _ g2 hne]; exact hh2
  have K1 : Kept w W1 (fun k_ => P0 k_ ∨ P2 k_) := by rw [hW1]; exact kept_over (Kept.drew (Kept.refl w _)) (.inl (.inl hP)) _ _
  have hcp1 : ∀ ty, (Builtin.copy_ #[26, 26] ty #[.slice (some ⟨g, (i + 1) * 3, none⟩) (l.length + 1 - (i + 1)) (cap - (i + 1)), .slice (some ⟨g, i * 3, none⟩) (l.length + 1 - i) (cap - i)]).run Try.prog w.drew = .ok (goInt (Nat.min (l.length + 1 - i) (l.length + 1 - (i + 1)))) W1 := fun ty => by
    rw [hW1]
    refine copy_news w.drew ty g ((i + 1) * 3) _ _ ⟨g, i * 3, none⟩ _ _ (nwCs (l.drop i)) cur hh (by rw [dl]; omega) (by rw [dl]; simp only [Nat.min_def]; split <;> omega) (cells_row w.drew g (i * 3) cur hh _ (fun j v hj => ?_)) (nwCs_one _)
    rw [← nwCs_drop, ← ht, List.getElem?_drop, List.getElem?_take] at hj
    split at hj
    · exact hj
    · cases hj
  obtain ⟨W2, hW2⟩ : ∃ W2, W2 = W1.setCells g (i * 3) (nwC x) := ⟨_, rfl⟩
  obtain ⟨cur3, p1, p2, p3, p4⟩ := over_row (w0 := w0) (w := W1) (o := i * 3) (nwC x) q1 (by rw [xl, q2]; omega) hb q4
  have K2 : Kept w W2 (fun k_ => P0 k_ ∨ P2 k_) := by rw [hW2]; exact kept_over K1 (.inl (.inl hP)) _ _
  rw [← hW2] at p1 p4
  have hcp2 : ∀ ty, (Builtin.copy_ #[26, 26] ty #[.slice (some ⟨g, i * 3, none⟩) (l.length + 1 - i) (cap - i), .slice (some ⟨g2, 0, none⟩) 1 c2]).run Try.prog W1 = .ok (goInt (Nat.min 1 (l.length + 1 - i))) W2 := fun ty => by
    rw [hW2]
    refine copy_news W1 ty g (i * 3) _ _ ⟨g2, 0, none⟩ _ _ (nwC x) cur1 q1 (by rw [xl, q2]; omega) (by rw [xl]; simp only [Nat.min_def]; split <;> omega) (cells_row W1 g2 0 cur2 q5 _ (fun j v hj => ?_)) (fun v hv => nwCs_one [x] v (by rw [nwCs, nwCs, List.append_nil]; exact hv))
    rw [← ht2, List.getElem?_take] at hj
    split at hj
    · rw [Nat.zero_add]; exact hj
    · cases hj
  have e1 : (l.take i ++ x :: l.drop i).length = l.length + 1 := by rw [List.length_append, List.length_cons, List.length_take, List.length_drop]; omega
  have z1 : (l.length + 1) * 3 ≤ cur.toList.length := by
    have : cur.toList.length = cur.size := Array.length_toList
    omega
  have hR : Kd.R k30 30 W2 w0.heap.size (fun k_ => (P0 k_ ∨ P2 k_) ∨ w.heap.size ≤ k_) (.slice (some ⟨g, 0, none⟩) (l.length + 1) cap) (l.take i ++ x :: l.drop i) := by
    have := R_over (w := W2) (base := w0.heap.size) (ok := fun k_ => (P0 k_ ∨ P2 k_) ∨ w.heap.size ≤ k_) (l := l.take i ++ x :: l.drop i) (g := g) (cap := cap) (cur := cur3) (.inl (.inl hP)) hb p1 (by rw [e1]; exact hn) hm (by rw [p2, q2]; exact hc) (ins_shift l x i hi cur.toList cur1.toList cur3.toList ht z1 q3 p3)
    rwa [e1] at this
  have HRR := Aside0.mk hR
  have HB2 := Aside0.mk p4
  have HK2 := Aside0.mk K2
  have HCP1 := Aside0.mk hcp1
  have HCP2 := Aside0.mk hcp2
  have hx1 : ¬ (1 : Int) = 0 := by omega
  have hx2 : ¬ (i : Int) = (l.length : Int) := by omega
  have hx3 : ¬ (cap : Int) < (l.length : Int) + 1 := by omega
  have hx4 : (i : Int) ≤ (l.length : Int) := by omega
  have hx5 : ¬ cap = i := by omega
  have hx6 : ¬ cap = i + 1 := by omega
  have hx7 : (l.length : Int) + 1 ≤ (cap : Int) := by omega
  have hx8 : (i : Int) + 1 ≤ (l.length : Int) + 1 := by omega
  have hx9 : (i : Int) ≤ (l.length : Int) + 1 := by omega
  have hw1 : IntKind.i64.wrap ((i : Int) + 1) = (i : Int) + 1 := by rw [IntKind.wrap_i64]; omega
  have hw2 : (0 : Int) ≤ (i : Int) + 1 := by omega
  have hw3 : ((i : Int) + 1).toNat = i + 1 := by omega
  clear hcp1 hcp2 hR K1 K2 p1 p2 p3 p4 q1 q2 q3 q4 q5 hW1 hW2 hh hh2 ht ht2 e1 hc hc2 hB hb hP dl xl hm hne
  go_enter Try.func20, Try.ntmps20
  go_wp2_with (simp only [hov])
  go_region_law (refine step_copy_run rfl _ _ 26 26 rfl (.slice (some ⟨g, (i + 1) * 3, none⟩) (l.length + 1 - (i + 1)) (cap - (i + 1))) (.slice (some ⟨g, i * 3, none⟩) (l.length + 1 - i) (cap - i)) _ (by simp [Act.eval, Act.put]) (by simp [Act.eval, Act.put]) W1 (HCP1.out _) ?_)
  have hcp2 := HCP2.out
  go_wp2
  go_ret
  exact ⟨_, rfl, HRR.out, HB2.out, HK2.out⟩
set_option maxHeartbeats 4000000 in
set_option maxRecDepth 100000 in
theorem insert_grow (P0 P2 : Nat → Prop) (l : List S30) (x : S30) (i : Nat) (hi : i < l.length) (h6 : l.length ≤ 1000) (w0 w : World) (hB : Below w0.heap.size w0 w) (g : Nat) (cur : Array Value) (hg : g < w.heap.size) (hh : w.heap[g]? = some (.cells cur 30 (0, 0))) (ht : cur.toList.take (l.length * 3) = nwCs l)
    (g2 c2 : Nat) (cur2 : Array Value) (hg2 : g2 < w.heap.size) (hh2 : w.heap[g2]? = some (.cells cur2 30 (0, 0))) (hc63 : c2 ≤ 9223372036854775807) (h1c : 1 ≤ c2) (ht2 : cur2.toList.take 3 = nwC x) :
    Calls Try.prog 20 #[.slice (some ⟨g, 0, none⟩) l.length l.length, .int .i64 (i : Int), .slice (some ⟨g2, 0, none⟩) 1 c2] w fun e w' => ∃ v0_ : Value, e = .returned v0_ ∧ Kd.R k30 30 w' w0.heap.size (fun k_ => (P0 k_ ∨ P2 k_) ∨ w.heap.size ≤ k_) v0_ (l.take i ++ x :: l.drop i) ∧ Below w0.heap.size w0 w' ∧ Kept w w' (fun k_ => P0 k_ ∨ P2 k_) := by
  obtain ⟨i0, hi0, hz0, hz1, hz2⟩ := info_parts info30
  have tl : (nwCs (l.take i)).length = i * 3 := by rw [nwCs_len, List.length_take]; omega
  have dl : (nwCs (l.drop i)).length = (l.length - i) * 3 := by rw [nwCs_len, List.length_drop]
  have xl : (nwC x).length = 3 := rfl
  have hold : (Builtin.firstCells i0.size i (.slice (some ⟨g, 0, none⟩) i l.length)).run Try.prog w.drew = .ok (nwCs (l.take i)).toArray w.drew := by
    rw [hz1]
    refine run_firstCells_some w.drew 3 i ⟨g, 0, none⟩ i l.length (nwCs (l.take i)) tl (cells_row w.drew g 0 cur hh _ (fun j v hj => ?_))
    rw [← nwCs_take, ← ht, List.take_take, Nat.min_eq_left (by omega), List.getElem?_take] at hj
    split at hj
    · rw [Nat.zero_add]; exact hj
    · cases hj
  obtain ⟨G, hG⟩ : ∃ G, G = grownCap w (i + (l.length + 1 - i)) l.length 30 := ⟨_, rfl⟩
  have hGn : l.length + 1 ≤ G := by have := grownCap_ge w (i + (l.length + 1 - i)) l.length 30; omega
  have hGm : G ≤ maxLen := by rw [hG]; exact grownCap_le_maxLen w _ _ _ (by unfold maxLen; omega)
  have hG63 : G ≤ 9223372036854775807 := by simpa [maxLen] using hGm
  obtain ⟨ROW, hROW⟩ : ∃ ROW : Array Value, ROW = (nwCs (l.take i)).toArray ++ Builtin.zeroCells (Value.agg #[.int .i64 0, .int .i64 0, .int .i64 0]).cells (l.length + 1 - i) ++ Builtin.zeroCells (Value.agg #[.int .i64 0, .int .i64 0, .int .i64 0]).cells (G - (i + (l.length + 1 - i))) := ⟨_, rfl⟩
  have hrz0 : ∀ ty, _ := fun ty => Lib.run_append_grow_zeros w 26 3 ty 30 i0 _ .i64 .i64 Try.underlying26 Try.underlying3 hi0 hz0 (some ⟨g, 0, none⟩) i l.length (nwCs (l.take i)) hold (l.length + 1 - i) (by omega) (by omega) (by omega) (by omega) (by rw [hz2]; omega) (by rw [hz2]; exact growslice_fits (by omega) (by omega))
  rw [← hG] at hrz0
  rw [← hROW] at hrz0
  have hkk : ((l.length : Int) + 1 - (i : Int)) = ((l.length + 1 - i : Nat) : Int) := by omega
  have hik : i + (l.length + 1 - i) = l.length + 1 := by omega
  rw [hik] at hrz0
  obtain ⟨W1, hW1⟩ : ∃ W1, W1 = w.drew.alloc (.cells ROW 30) := ⟨_, rfl⟩
  rw [← hW1] at hrz0
  have hrz : ∀ ty, (Builtin.append_ #[26, 3] ty #[.slice (some ⟨g, 0, none⟩) i l.length, .int .i64 ((l.length : Int) + 1 - (i : Int))]).run Try.prog w = .ok (.slice (some ⟨w.heap.size, 0, none⟩) (l.length + 1) G) W1 := fun ty => by rw [hkk]; exact hrz0 ty
  have hRs : ROW.size = G * 3 := by
    rw [hROW, Array.size_append, Array.size_append]
    simp [Builtin.zeroCells, Value.cells, tl]
    omega
  have hRt : ROW.toList.take (i * 3) = nwCs (l.take i) := by
    rw [hROW, Array.toList_append, Array.toList_append, List.append_assoc]
    exact List.take_left' tl
  have hh1 : W1.heap[w.heap.size]? = some (.cells ROW 30 (0, 0)) := by rw [hW1]; exact blk_new w.drew _
  have B1 : Below w.heap.size w W1 := by rw [hW1]; exact below_alloc (below_drew (Below.refl _ _)) _
  obtain ⟨W2, hW2⟩ : ∃ W2, W2 = W1.setCells w.heap.size (i * 3) (nwC x) := ⟨_, rfl⟩
  obtain ⟨cur1, q1, q2, q3, q4⟩ := over_row (w0 := w) (w := W1) (o := i * 3) (nwC x) hh1 (by rw [xl, hRs]; omega) (Nat.le_refl _) B1
  rw [← hW2] at q1 q4
  obtain ⟨W3, hW3⟩ : ∃ W3, W3 = W2.drew.setCells w.heap.size ((i + 1) * 3) (nwCs (l.drop i)) := ⟨_, rfl⟩
  obtain ⟨cur3, p1, p2, p3, p4⟩ := over_row (w0 := w) (w := W2.drew) (o := (i + 1) * 3) (nwCs (l.drop i)) q1 (by rw [dl, q2, hRs]; omega) (Nat.le_refl _) (below_drew q4)
  rw [← hW3] at p1 p4
  have hcp1 : ∀ ty, (Builtin.copy_ #[26, 26] ty #[.slice (some ⟨w.heap.size, i * 3, none⟩) (l.length + 1 - i) (G - i), .slice (some ⟨g2, 0, none⟩) 1 c2]).run Try.prog W1 = .ok (goInt (Nat.min 1 (l.length + 1 - i))) W2 := fun ty => by
    rw [hW2]
    refine copy_news W1 ty w.heap.size (i * 3) _ _ ⟨g2, 0, none⟩ _ _ (nwC x) ROW hh1 (by rw [xl, hRs]; omega) (by rw [xl]; simp only [Nat.min_def]; split <;> omega) (cells_row W1 g2 0 cur2 ((B1.block g2 hg2).trans hh2) _ (fun j v hj => ?_)) (fun v hv => nwCs_one [x] v (by rw [nwCs, nwCs, List.append_nil]; exact hv))
    rw [← ht2, List.getElem?_take] at hj
    split at hj
    · rw [Nat.zero_add]; exact hj
    · cases hj
  have hcp2 : ∀ ty, (Builtin.copy_ #[26, 26] ty #[.slice (some ⟨w.heap.size, (i + 1) * 3, none⟩) (l.length + 1 - (i + 1)) (G - (i + 1)), .slice (some ⟨g, i * 3, none⟩) (l.length - i) (l.length - i)]).run Try.prog W2.drew = .ok (goInt (Nat.min (l.length - i) (l.length + 1 - (i + 1)))) W3 := fun ty => by
    rw [hW3]
    refine copy_news W2.drew ty w.heap.size ((i + 1) * 3) _ _ ⟨g, i * 3, none⟩ _ _ (nwCs (l.drop i)) cur1 q1 (by rw [dl, q2, hRs]; omega) (by rw [dl]; simp only [Nat.min_def]; split <;> omega) (cells_row W2.drew g (i * 3) cur ((q4.block g hg).trans hh) _ (fun j v hj => ?_)) (nwCs_one _)
    rw [← nwCs_drop, ← ht, List.getElem?_drop, List.getElem?_take] at hj
    split at hj
    · exact hj
    · cases hj
  have e1 : (l.take i ++ x :: l.drop i).length = l.length + 1 := by rw [List.length_append, List.length_cons, List.length_take, List.length_drop]; omega
  have z1 : (l.length + 1) * 3 ≤ ROW.toList.length := by
    have : ROW.toList.length = ROW.size := Array.length_toList
    omega
  have hR : Kd.R k30 30 W3 w0.heap.size (fun k_ => (P0 k_ ∨ P2 k_) ∨ w.heap.size ≤ k_) (.slice (some ⟨w.heap.size, 0, none⟩) (l.length + 1) G) (l.take i ++ x :: l.drop i) := by
    have := R_over (w := W3) (base := w0.heap.size) (ok := fun k_ => (P0 k_ ∨ P2 k_) ∨ w.heap.size ≤ k_) (l := l.take i ++ x :: l.drop i) (g := w.heap.size) (cap := G) (cur := cur3) (.inr (Nat.le_refl _)) hB.size p1 (by rw [e1]; exact hGn) hGm (by rw [p2, q2, hRs]; exact Nat.le_refl _) (ins_new l x i hi ROW.toList cur1.toList cur3.toList hRt z1 q3 p3)
    rwa [e1] at this
  have HRR := Aside0.mk hR
  have HB2 := Aside0.mk (hB.trans (p4.mono hB.size))
  have HK2 := Aside0.mk (Kept.of_below p4 (fun k_ => P0 k_ ∨ P2 k_))
  have HCP1 := Aside0.mk hcp1
  have HCP2 := Aside0.mk hcp2
  have HRZ := Aside0.mk hrz
  have hx1 : ¬ (1 : Int) = 0 := by omega
  have hx2 : ¬ (i : Int) = (l.length : Int) := by omega
  have hx3 : (l.length : Int) < (l.length : Int) + 1 := by omega
  have hx4 : (i : Int) ≤ (l.length : Int) := by omega
  have hx5 : ¬ l.length = i := by omega
  have hx6 : ¬ G = i + 1 := by omega
  have hx7 : ¬ G = i := by omega
  have hx8 : (i : Int) + 1 ≤ (l.length : Int) + 1 := by omega
  have hx9 : (i : Int) ≤ (l.length : Int) + 1 := by omega
  have hw1 : IntKind.i64.wrap ((i : Int) + 1) = (i : Int) + 1 := by rw [IntKind.wrap_i64]; omega
  have hw2 : (0 : Int) ≤ (i : Int) + 1 := by omega
  have hw3 : ((i : Int) + 1).toNat = i + 1 := by omega
  have hle : l.length ≤ 9223372036854775807 := by omega
  clear hcp1 hcp2 hR p1 p2 p3 p4 q1 q2 q3 q4 hW1 hW2 hW3 hh hh1 hh2 ht ht2 e1 hB dl xl tl hRs hRt hROW hold hrz hrz0 z1 hik hkk hG B1 hGm hg hg2
  go_enter Try.func20, Try.ntmps20
  go_wp2_with (at_builtin; refine Lib.wpList_append_run _ rfl _ _ _ _ rfl _ _ rfl rfl _ _ (HRZ.out _) ?_; have hcp1 := HCP1.out)
  go_region_law (refine step_copy_run rfl _ _ 26 26 rfl (.slice (some ⟨w.heap.size, (i + 1) * 3, none⟩) (l.length + 1 - (i + 1)) (G - (i + 1))) (.slice (some ⟨g, i * 3, none⟩) (l.length - i) (l.length - i)) _ (by simp [Act.eval, Act.put]) (by simp [Act.eval, Act.put]) W3 (HCP2.out _) ?_)
  go_wp2
  go_ret
  exact ⟨_, rfl, HRR.out, HB2.out, HK2.out⟩
theorem insert_any (P0 P2 : Nat → Prop) (u u2 : Value) (l : List S30) (x : S30) (i : Nat) (hi : i ≤ l.length) (h6 : l.length ≤ 1000) (w0 w : World) (hB : Below w0.heap.size w0 w) (ho0 : Kd.R k30 30 w w0.heap.size P0 u l) (hp : ∀ k, P0 k → ¬ P2 k) (ho2 : Kd.R k30 30 w w0.heap.size P2 u2 [x]) :
    Calls Try.prog 20 #[u, .int .i64 (i : Int), u2] w fun e w' => ∃ v0_ : Value, e = .returned v0_ ∧ Kd.R k30 30 w' w0.heap.size (fun k_ => (P0 k_ ∨ P2 k_) ∨ w.heap.size ≤ k_) v0_ (l.take i ++ x :: l.drop i) ∧ Below w0.heap.size w0 w' ∧ Kept w w' (fun k_ => P0 k_ ∨ P2 k_) := by
  by_cases he : i = l.length
  · subst he
    have := insert_end P0 P2 u u2 l x w0 w hB ho0 ho2 h6
    rw [List.take_length, List.drop_length]
    exact this
  have hlt : i < l.length := by omega
  rcases R_nw ho0 with ⟨_, e⟩ | ⟨g, cap, cur, e, hP, hb, hg, hh, hn, hm, hc, ht⟩
  · subst e; exact absurd hlt (Nat.not_lt_zero _)
  rcases R_nw ho2 with ⟨_, e2⟩ | ⟨g2, c2, cur2, e2, hP2, _, hg2, hh2, hn2, hm2, hc2, ht2⟩
  · cases e2
  subst e e2
  have hne : g2 ≠ g := by rintro rfl; exact hp _ hP hP2
  have ht2' : cur2.toList.take 3 = nwC x := by
    rw [show nwCs [x] = nwC x from by rw [nwCs, nwCs, List.append_nil]] at ht2
    exact ht2
  have hn2' : 1 ≤ c2 := hn2
  by_cases hr : l.length + 1 ≤ cap
  · exact insert_room P0 P2 l x i hlt h6 w0 w hB g cap cur hP hb hh hr hm hc ht g2 c2 cur2 hne hh2 (by omega) (by simpa [maxLen] using hm2) hn2' ht2'
  · obtain rfl : cap = l.length := by omega
    exact insert_grow P0 P2 l x i hlt h6 w0 w hB g cur hg hh ht g2 c2 cur2 hg2 hh2 (by simpa [maxLen] using hm2) hn2' ht2'

end Go.Proofs.Ytbcedkcjodokkaa.F
