-- Printed by wip/px/px.py of this claim's repository (the kit's printer, extended there). Lean checks it.
import Derived.Test.YtlgolgfcolnddaaFKinds
namespace Go.Proofs.Ytlgolgfcolnddaa.F
open Go.RowKit Go.Proofs.YtlgolgfcolnddaaW.PrintWords Go.Proofs.YtlgolgfcolnddaaW.PrintLast Go.Proofs.YtlgolgfcolnddaaW.PrintMore
attribute [local go_sem] max2_int min2_int max_two min_two max_three min_three max_four min_four   -- for this text's walks alone
set_option linter.unusedVariables false
set_option linter.unusedSimpArgs false

/-! ### text copy -/
/-- copy, elements of sz cells. -/
theorem run_copy_sz {P : Program} (w : World) (dT sT ty elem : TypeId) (sz b o dLen dCap : Nat) (a : Addr) (sLen sCap : Nat) (cs : List Value)
    (hu : P.underlying dT = some (.slice elem)) (hs : (P.info? elem).map (·.size) = some sz) (hn : cs.length = Nat.min sLen dLen * sz)
    (hsrc : ∀ j v, cs[j]? = some v → w.cell? (a.add j) = some v) (hc : ∀ j, j < cs.length → (w.cell? ⟨b, o + j, none⟩).isSome = true) (hf : ∀ j, j < cs.length → w.frozen? ⟨b, o + j, none⟩ = false) (h1 : ∀ v ∈ cs, v.oneCell' = true) :
    (Builtin.copy_ #[dT, sT] ty #[.slice (some ⟨b, o, none⟩) dLen dCap, .slice (some a) sLen sCap]).run P w = .ok (goInt (Nat.min sLen dLen)) (w.setCells b o cs) := by
  have hl := run_loadCells_list (P := P) w a cs hsrc
  have hst := run_storeCells_cells (P := P) b o cs 0 w (by simpa using hc) (by simpa using hf) h1
  cases hq : P.info? elem with
  | none => simp [hq] at hs
  | some i =>
    have hi : i.size = sz := by simpa [hq] using hs
    simp [Builtin.copy_, run_underlying hu, Builtin.lenOf, Builtin.firstCells, sizeOf, typeInfo, hq, hi, ← hn, hl, hst]
theorem run_copy_zero {P : Program} (w : World) (dT sT ty elem : TypeId) (sz : Nat) (d a : Option Addr) (dLen dCap sLen sCap : Nat) (hu : P.underlying dT = some (.slice elem)) (hs : (P.info? elem).map (·.size) = some sz) (hn : Nat.min sLen dLen = 0) :
    (Builtin.copy_ #[dT, sT] ty #[.slice d dLen dCap, .slice a sLen sCap]).run P w = .ok (goInt 0) w := by
  cases hq : P.info? elem with
  | none => simp [hq] at hs
  | some i =>
    have hl : ∀ (x : Addr), (loadCells x 0).run P w = .ok #[] w := fun x => by simpa using run_loadCells_list (P := P) w x [] (by simp)
    cases d <;> cases a <;> simp [Builtin.copy_, run_underlying hu, Builtin.lenOf, Builtin.firstCells, sizeOf, typeInfo, hq, hn, storeCells, hl]
theorem wpList_copy_run {P : Program} {w : World} {ops : Array Oper} {rest : List Oper} {o : Oper} {a : Act} {Q : Exit → Act → World → Prop} (hgd : o.guard = none) (d s : Operand) (dT sT : TypeId)
    (ho : o.op = .call { callee := .builtin .copy, args := #[d, s], argTypes := #[dT, sT] }) (x y v : Value) (hd : a.eval d = x) (hs : a.eval s = y) (w1 : World) (hrun : (Builtin.copy_ #[dT, sT] o.type #[x, y]).run P w = .ok v w1)
    (h : wpList P ops Q rest (a.put o.dst v) w1) : wpList P ops Q (o :: rest) a w := by
  refine wpList_plain hgd fun K hK => ?_
  unfold Oper.wp execOp
  simp only [ho, resolve, invoke, builtin, Sem.run_bind, Sem.run_pure, Result.andThen_ok, List.map_toArray, List.map_cons, List.map_nil, hd, hs, hrun]
  exact hK _ _ h
theorem step_copy_run {P : Program} {ops : Array Oper} {o : Oper} {a : Act} {w : World} {K : Act → World → Prop} {Q : Exit → Act → World → Prop} {E : Prop} (hgd : o.guard = none) (d s : Operand) (dT sT : TypeId)
    (ho : o.op = .call { callee := .builtin .copy, args := #[d, s], argTypes := #[dT, sT] }) (x y v : Value) (hd : a.eval d = x) (hs : a.eval s = y) (w1 : World) (hrun : (Builtin.copy_ #[dT, sT] o.type #[x, y]).run P w = .ok v w1)
    (h : K (a.put o.dst v) w1) : if Region.wanted o (yielded ops a.tmps) = true then Oper.wp P o a w K Q else E := by
  have hw : Region.wanted o (yielded ops a.tmps) = true := by simp [Region.wanted, hgd]
  rw [if_pos hw]
  unfold Oper.wp execOp
  simp only [ho, resolve, invoke, builtin, Sem.run_bind, Sem.run_pure, Result.andThen_ok, List.map_toArray, List.map_cons, List.map_nil, hd, hs, hrun]
  exact h
/-- m elements of which the first j are e, the others z. -/
def part (e z : List Value) (m j : Nat) : List Value := (List.replicate j e).flatten ++ (List.replicate (m - j) z).flatten
theorem flat_len (e : List Value) (n : Nat) : (List.replicate n e).flatten.length = n * e.length := by simp [List.length_flatten]
theorem flat_add (e : List Value) (a b : Nat) : (List.replicate (a + b) e).flatten = (List.replicate a e).flatten ++ (List.replicate b e).flatten := by
  rw [← List.replicate_append_replicate, List.flatten_append]
theorem part_len (e z : List Value) (sz m j : Nat) (he : e.length = sz) (hz : z.length = sz) (hj : j ≤ m) : (part e z m j).length = m * sz := by
  unfold part
  rw [List.length_append, flat_len, flat_len, he, hz, ← Nat.add_mul]
  congr 1
  omega
theorem part_take (e z : List Value) (sz m j k : Nat) (he : e.length = sz) (hk : k ≤ j) : (part e z m j).take (k * sz) = (List.replicate k e).flatten := by
  unfold part
  obtain ⟨d, rfl⟩ : ∃ d, j = k + d := ⟨j - k, by omega⟩
  rw [flat_add, List.append_assoc]
  exact List.take_left' (by rw [flat_len, he])
theorem part_next (e z : List Value) (sz m j k : Nat) (he : e.length = sz) (hz : z.length = sz) (hk : j + k ≤ m) :
    (part e z m j).take (j * sz) ++ (List.replicate k e).flatten ++ (part e z m j).drop (j * sz + k * sz) = part e z m (j + k) := by
  rw [part_take e z sz m j j he (Nat.le_refl _)]
  unfold part
  rw [flat_add e j k]
  congr 1
  have h1 : m - j = k + (m - (j + k)) := by omega
  rw [h1, flat_add z k, ← List.append_assoc]
  rw [← List.drop_drop, List.append_assoc, List.drop_left' (by rw [flat_len, he]), List.drop_left' (by rw [flat_len, hz])]
/-- A run of cells copied over a part of a block. -/
theorem copy_over {P : Program} (W w0 : World) (B g : Nat) (dT ty elem sz : Nat) (t : TypeId) (cur cs : List Value) (hg : W.heap[g]? = some (.cells cur.toArray t (0, 0))) (o dLen dCap : Nat) (a : Addr) (sLen sCap : Nat)
    (hu : P.underlying dT = some (.slice elem)) (hs : (P.info? elem).map (·.size) = some sz) (hn : cs.length = Nat.min sLen dLen * sz) (hfit : o + cs.length ≤ cur.length)
    (hsrc : ∀ j v, cs[j]? = some v → W.cell? (a.add j) = some v) (h1 : ∀ v ∈ cs, v.oneCell' = true) (hb : Below B w0 W) (hB : B ≤ g) :
    ∃ w1, (Builtin.copy_ #[dT, dT] ty #[.slice (some ⟨g, o, none⟩) dLen dCap, .slice (some a) sLen sCap]).run P W = .ok (goInt (Nat.min sLen dLen)) w1 ∧ w1.heap[g]? = some (.cells (cur.take o ++ cs ++ cur.drop (o + cs.length)).toArray t (0, 0)) ∧ Below B w0 w1 := by
  have hr := run_copy_sz (P := P) W dT dT ty elem sz g o dLen dCap a sLen sCap cs hu hs hn hsrc (fun j hj => by rw [cell_of_row W g _ cur.toArray t (0, 0) hg]; simp; omega) (fun j _ => blk_frozen hg _) h1
  obtain ⟨cur', h3, h4, h5⟩ := setCells_row cs o W cur.toArray hg (by simpa using hfit)
  obtain ⟨s1, s2, s3, s4⟩ := setCells_same g cs o W
  refine ⟨_, hr, ?_, hb.trans ⟨s1, s2, s3, by rw [s4]; exact Nat.le_refl _, fun k hk => ?_⟩⟩
  · rw [h3]
    congr 2
    rw [← h5]
  · exact setCells_far cs _ k (by omega)

end Go.Proofs.Ytlgolgfcolnddaa.F
