-- Printed by wip/px/px.py of this claim's repository (the kit's printer, extended there). Lean checks it.
import Derived.Test.YtbcedkcjodokkaaFKinds
import Derived.Test.YtbcedkcjodokkaaFtextnews
namespace Go.Proofs.Ytbcedkcjodokkaa.F
open Go.RowKit Go.Proofs.YtbcedkcjodokkaaW.PrintWords Go.Proofs.YtbcedkcjodokkaaW.PrintLast Go.Proofs.YtbcedkcjodokkaaW.PrintMore
attribute [local go_sem] max2_int min2_int max_two min_two max_three min_three max_four min_four   -- for this text's walks alone
set_option linter.unusedVariables false
set_option linter.unusedSimpArgs false

/-! ### text delete -/
theorem clear_news (w : World) (ty g o c : Nat) (cur : Array Value) (hh : w.heap[g]? = some (.cells cur 30 (0, 0))) (hf : o + 3 ≤ cur.size) :
    (Builtin.clear_ #[26] ty #[.slice (some ⟨g, o, none⟩) 1 c]).run Try.prog w = .ok (.tuple #[]) (w.setCells g o (nwC z30)) := by
  have hst := run_storeCells_cells (P := Try.prog) g o (nwC z30) 0 w (fun j hj => by rw [cell_of_row w g _ cur _ (0, 0) hh, Array.getElem?_eq_getElem (by simp [nwC] at hj; omega)]; rfl) (fun j _ => blk_frozen hh _) (fun v hv => nwCs_one [z30] v (by rw [nwCs, nwCs, List.append_nil]; exact hv))
  have hz : ∀ w : World, (zeroValue 30).run Try.prog w = .ok (.agg #[.int .i64 0, .int .i64 0, .int .i64 0]) w := Try.zeroValue30
  simp only [Nat.add_zero] at hst
  simp [Builtin.clear_, run_underlying Try.underlying26, hz, Builtin.zeroCells, Value.cells]
  change (Sem.run Try.prog (storeCells ⟨g, o, none⟩ (nwC z30)) w).andThen _ = _
  rw [hst]
  rfl
theorem wpList_clear_run {P : Program} {w : World} {ops : Array Oper} {rest : List Oper} {o : Oper} {a : Act} {Q : Exit → Act → World → Prop} (hgd : o.guard = none) (s : Operand) (t : TypeId)
    (ho : o.op = .call { callee := .builtin .clear, args := #[s], argTypes := #[t] }) (x v : Value) (hs : a.eval s = x) (w1 : World) (hrun : (Builtin.clear_ #[t] o.type #[x]).run P w = .ok v w1)
    (h : wpList P ops Q rest (a.put o.dst v) w1) : wpList P ops Q (o :: rest) a w := by
  refine wpList_plain hgd fun K hK => ?_
  unfold Oper.wp execOp
  simp only [ho, resolve, invoke, builtin, Sem.run_bind, Sem.run_pure, Result.andThen_ok, List.map_toArray, List.map_cons, List.map_nil, hs, hrun]
  exact hK _ _ h
set_option maxHeartbeats 4000000 in
set_option maxRecDepth 100000 in
theorem delete_any (P0 : Nat → Prop) (u : Value) (l : List S30) (i : Nat) (w0 w : World) (hB : Below w0.heap.size w0 w) (ho0 : Kd.R k30 30 w w0.heap.size P0 u l) (hi : i < l.length) :
    Calls Try.prog 28 #[u, .int .i64 i, .int .i64 ((i : Int) + 1)] w fun e w' => ∃ v0_ : Value, e = .returned v0_ ∧ Kd.R k30 30 w' w0.heap.size (fun k_ => P0 k_ ∨ w.heap.size ≤ k_) v0_ (l.take i ++ l.drop (i + 1)) ∧ Below w0.heap.size w0 w' ∧ Kept w w' (fun k_ => P0 k_) := by
  rcases R_nw ho0 with ⟨_, e⟩ | ⟨g, cap, cur, e, hP, hb, hg, hh, hn, hm, hc, ht⟩
  · rw [e] at hi; exact absurd hi (Nat.not_lt_zero _)
  subst e
  clear ho0
  obtain ⟨n, hnl⟩ : ∃ n, n = l.length := ⟨_, rfl⟩
  rw [← hnl] at hn ht hi ⊢
  have hm' : cap ≤ 9223372036854775807 := by simpa [maxLen] using hm
  obtain ⟨news, hnews⟩ : ∃ news, news = (nwCs l).drop ((i + 1) * 3) := ⟨_, rfl⟩
  have hlen : news.length = (n - (i + 1)) * 3 := by rw [hnews, List.length_drop, nwCs_len, ← hnl, Nat.sub_mul]
  have hone : ∀ v ∈ news, v.oneCell' = true := by rw [hnews, nwCs_drop]; exact nwCs_one _
  have hcell : ∀ j, j < n * 3 → w.cell? ⟨g, j, none⟩ = (nwCs l)[j]? := fun j hj => by
    rw [cell_of_row w g _ cur _ (0, 0) hh, ← ht, List.getElem?_take, if_pos hj, Array.getElem?_toList]
  obtain ⟨i0, hi0, hz0, hz1, hz2⟩ := info_parts info30
  obtain ⟨A, hA, hsrc⟩ : ∃ A : Addr, (if cap = i + 1 then some (⟨g, 0, none⟩ : Addr) else some ⟨g, (i + 1) * 3, none⟩) = some A ∧ Hid (∀ t v, news[t]? = some v → w.cell? (A.add t) = some v) := by
    by_cases h : cap = i + 1
    · refine ⟨⟨g, 0, none⟩, by simp [h], Lib.hid fun t v hv => ?_⟩
      have : news.length = 0 := by rw [hlen]; omega
      rw [List.length_eq_zero_iff.1 this] at hv
      cases hv
    · refine ⟨⟨g, (i + 1) * 3, none⟩, by simp [h], Lib.hid fun t v hv => ?_⟩
      have htl : t < (n - (i + 1)) * 3 := by
        have := (List.getElem?_eq_some_iff.1 hv).1
        rwa [hlen] at this
      rw [hnews, List.getElem?_drop] at hv
      rw [Addr.add_lit, hcell _ (by omega)]
      exact hv
  have s1 := Lib.hid hlen
  have s2 := Lib.hid hone
  have s3 : Hid (∀ t, t < news.length → (w.cell? ⟨g, 0 + i * 3 + t, none⟩).isSome = true ∧ w.frozen? ⟨g, 0 + i * 3 + t, none⟩ = false) := Lib.hid fun t htl => by
    rw [hlen] at htl
    refine ⟨?_, blk_frozen hh _⟩
    rw [cell_of_row w g _ cur _ (0, 0) hh, Array.getElem?_eq_getElem (by omega)]
    rfl
  obtain ⟨W1, hW1⟩ : ∃ W1, W1 = w.drew.setCells g (0 + i * 3) news := ⟨_, rfl⟩
  obtain ⟨cur1, q1, q2, q3, q4⟩ := over_row (w0 := w0) (w := w.drew) (o := 0 + i * 3) news hh (by rw [hlen]; omega) hb (hB.drew)
  rw [← hW1] at q1 q4
  obtain ⟨cur2, p1, p2, p3, p4⟩ := over_row (w0 := w0) (w := W1) (o := (n - 1) * 3) (nwC z30) q1 (by rw [q2]; simp only [nwC, List.length_cons, List.length_nil]; omega) hb q4
  have hcl := fun ty c => clear_news W1 ty g ((n - 1) * 3) c cur1 q1 (by rw [q2]; omega)
  have K1 : Kept w W1 (fun k_ => P0 k_) := by rw [hW1]; exact kept_over (Kept.drew (Kept.refl w _)) (.inl hP) news _
  have K2 := kept_over K1 (.inl hP) (nwC z30) ((n - 1) * 3)
  have hR : Kd.R k30 30 (W1.setCells g ((n - 1) * 3) (nwC z30)) w0.heap.size (fun k_ => P0 k_ ∨ w.heap.size ≤ k_) (.slice (some ⟨g, 0, none⟩) (n - 1) cap) (l.take i ++ l.drop (i + 1)) := by
    have e1 : (l.take i ++ l.drop (i + 1)).length = n - 1 := by rw [List.length_append, List.length_take, List.length_drop, ← hnl]; omega
    have := R_over (w := W1.setCells g ((n - 1) * 3) (nwC z30)) (base := w0.heap.size) (ok := fun k_ => P0 k_ ∨ w.heap.size ≤ k_) (l := l.take i ++ l.drop (i + 1)) (g := g) (cap := cap) (cur := cur2) (.inl hP) hb p1 (by rw [e1]; omega) hm (by rw [p2, q2]; exact hc) (by
      rw [e1, p3, List.append_assoc, List.take_append_of_le_length (by rw [List.length_take, Array.length_toList, q2]; omega), List.take_take, Nat.min_self, q3]
      have e2 : (cur.toList.take (0 + i * 3) ++ news).length = (n - 1) * 3 := by rw [List.length_append, List.length_take, Array.length_toList, hlen]; omega
      rw [List.take_left' e2, hnews, nwCs_drop, nwCs_append]
      congr 1
      rw [← nwCs_take, ← ht, List.take_take, Nat.zero_add]
      congr 1
      omega)
    rw [e1] at this
    exact this
  have HRR := Aside0.mk hR
  have HB2 := Aside0.mk p4
  have HK2 := Aside0.mk K2
  have HW := Lib.hid hW1
  have HCL := Aside0.mk hcl
  clear hW1 q1 q3 q4 p1 p3 p4 K1 K2 hR hcl hcell hone hlen hnews ht hB hP hh q2 p2
  subst hnl
  have hic : i ≤ cap := by omega
  have hjc : i + 1 ≤ cap := by omega
  have hne : ¬ (i : Int) = (i : Int) + 1 := by omega
  have hx1 : 0 ≤ (i : Int) + 1 := by omega
  have hx2 : (i : Int) + 1 ≤ (l.length : Int) := by omega
  go_enter Try.func28, Try.ntmps28
  go_wp2_with fail
  go_region_law (refine step_append_room rfl (.tmp 22) (.tmp 25) 26 rfl 30 i0 3 Try.underlying26 hi0 hz1 g 0 i cap (by simp [Act.eval, Act.put]) A (l.length - (i + 1)) (cap - (i + 1)) news (by simp [Act.eval, Act.put]) s1.out hsrc.out s2.out (by omega) s3.out ?_; rw [← HW.out])
  have he1 : i + (l.length - (i + 1)) = l.length - 1 := by omega
  have he2 : l.length - (l.length - 1) = 1 := by omega
  have hcl : ∀ ty, (Builtin.clear_ #[26] ty #[.slice (some ⟨g, (i + (l.length - (i + 1))) * 3, none⟩) (l.length - (i + (l.length - (i + 1)))) (cap - (i + (l.length - (i + 1))))]).run Try.prog W1 = .ok (.tuple #[]) (W1.setCells g ((l.length - 1) * 3) (nwC z30)) := fun ty => by rw [he1, he2]; exact HCL.out ty _
  have HE1 := Lib.hid he1
  clear he1 he2 HCL HW
  go_wp2
  go_ret
  exact ⟨_, rfl, by rw [HE1.out]; exact HRR.out, HB2.out, HK2.out⟩

end Go.Proofs.Ytbcedkcjodokkaa.F
