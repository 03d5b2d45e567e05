-- Printed by this claim's repository's tools (px.py, pgo.py, pack.py), one text behind the other. Lean checks it.
import Derived.Test.YtlgolgfcolnddaaFKindsPFnSomeWalks
import Derived.Test.YtlgolgfcolnddaaPFnSomeWalks0
namespace Go.Proofs.Ytlgolgfcolnddaa.F
open Go.RowKit Go.Proofs.YtlgolgfcolnddaaW.PrintWords Go.Proofs.YtlgolgfcolnddaaW.PrintLast Go.Proofs.YtlgolgfcolnddaaW.PrintMore
attribute [local go_sem] qQb qQc qQk qQj qZn qZo qQd qQe
set_option linter.unusedVariables false
set_option linter.unusedSimpArgs false
/-! ### bits_Mul32: function 125 -/
def bits_Mul32.f (a0 : Int) (a1 : Int) : Option (Int × Int) := some (((IntKind.u64.wrap ((IntKind.u64.wrap (a0)) * (IntKind.u64.wrap (a1)))) / 4294967296) % 4294967296, (IntKind.u64.wrap ((IntKind.u64.wrap (a0)) * (IntKind.u64.wrap (a1)))) % 4294967296)
set_option maxHeartbeats 8000000 in
set_option maxRecDepth 100000 in
theorem bits_Mul32.calls (a0 : Int) (a1 : Int) (r1 : Int) (r2 : Int) (w : World) (h : bits_Mul32.f a0 a1 = some (r1, r2)) :
  Calls Try.prog 125 #[.int .u32 a0, .int .u32 a1] w fun e w' => e = .returned (.tuple #[.int .u32 r1, .int .u32 r2]) ∧ Drawn0 w w' := by
 have H : (some (((IntKind.u64.wrap ((IntKind.u64.wrap (a0)) * (IntKind.u64.wrap (a1)))) / 4294967296) % 4294967296, (IntKind.u64.wrap ((IntKind.u64.wrap (a0)) * (IntKind.u64.wrap (a1)))) % 4294967296)) = some (r1, r2) := h
 clear h
 simp only [Option.some.injEq, Prod.mk.injEq] at H
 obtain ⟨rfl, rfl⟩ := H
 go_enter Try.func125, Try.ntmps125
 go_wp2
 go_ret2
 exact ⟨by rfl, by repeat (exact Drawn0.refl _)⟩

/-! ### bits_Mul64: function 126 -/
def bits_Mul64.f (a0 : Int) (a1 : Int) : Option (Int × Int) := some (IntKind.u64.wrap ((IntKind.u64.wrap ((IntKind.u64.wrap ((a0 / 4294967296) * (a1 / 4294967296))) + ((IntKind.u64.wrap ((IntKind.u64.wrap ((a0 / 4294967296) * (Go.bits .and .u64 a1 4294967295))) + ((IntKind.u64.wrap ((Go.bits .and .u64 a0 4294967295) * (Go.bits .and .u64 a1 4294967295))) / 4294967296))) / 4294967296))) + ((IntKind.u64.wrap ((Go.bits .and .u64 (IntKind.u64.wrap ((IntKind.u64.wrap ((a0 / 4294967296) * (Go.bits .and .u64 a1 4294967295))) + ((IntKind.u64.wrap ((Go.bits .and .u64 a0 4294967295) * (Go.bits .and .u64 a1 4294967295))) / 4294967296))) 4294967295) + (IntKind.u64.wrap ((Go.bits .and .u64 a0 4294967295) * (a1 / 4294967296))))) / 4294967296)), IntKind.u64.wrap (a0 * a1))
set_option maxHeartbeats 8000000 in
set_option maxRecDepth 100000 in
theorem bits_Mul64.calls (a0 : Int) (a1 : Int) (r1 : Int) (r2 : Int) (w : World) (h : bits_Mul64.f a0 a1 = some (r1, r2)) :
  Calls Try.prog 126 #[.int .u64 a0, .int .u64 a1] w fun e w' => e = .returned (.tuple #[.int .u64 r1, .int .u64 r2]) ∧ Drawn0 w w' := by
 have H : (some (IntKind.u64.wrap ((IntKind.u64.wrap ((IntKind.u64.wrap ((a0 / 4294967296) * (a1 / 4294967296))) + ((IntKind.u64.wrap ((IntKind.u64.wrap ((a0 / 4294967296) * (Go.bits .and .u64 a1 4294967295))) + ((IntKind.u64.wrap ((Go.bits .and .u64 a0 4294967295) * (Go.bits .and .u64 a1 4294967295))) / 4294967296))) / 4294967296))) + ((IntKind.u64.wrap ((Go.bits .and .u64 (IntKind.u64.wrap ((IntKind.u64.wrap ((a0 / 4294967296) * (Go.bits .and .u64 a1 4294967295))) + ((IntKind.u64.wrap ((Go.bits .and .u64 a0 4294967295) * (Go.bits .and .u64 a1 4294967295))) / 4294967296))) 4294967295) + (IntKind.u64.wrap ((Go.bits .and .u64 a0 4294967295) * (a1 / 4294967296))))) / 4294967296)), IntKind.u64.wrap (a0 * a1))) = some (r1, r2) := h
 clear h
 simp only [Option.some.injEq, Prod.mk.injEq] at H
 obtain ⟨rfl, rfl⟩ := H
 go_enter Try.func126, Try.ntmps126
 go_wp2
 go_ret2
 exact ⟨by rfl, by repeat (exact Drawn0.refl _)⟩

/-! ### bits_Mul: function 113 -/
def bits_Mul.f (a0 : Int) (a1 : Int) : Option (Int × Int) := (bits_Mul64.f a0 a1).bind fun aa => (some (aa.1, aa.2))
set_option maxHeartbeats 8000000 in
set_option maxRecDepth 100000 in
theorem bits_Mul.calls (a0 : Int) (a1 : Int) (r1 : Int) (r2 : Int) (w : World) (h : bits_Mul.f a0 a1 = some (r1, r2)) :
  Calls Try.prog 113 #[.int .u64 a0, .int .u64 a1] w fun e w' => e = .returned (.tuple #[.int .u64 r1, .int .u64 r2]) ∧ Drawn0 w w' := by
 have H : ((bits_Mul64.f a0 a1).bind fun aa => (some (aa.1, aa.2))) = some (r1, r2) := h
 clear h
 replace H := Option.bind_eq_some_iff.mp H
 obtain ⟨⟨ab, ac⟩, A30, H⟩ := H
 have A3 := ak A30
 clear A30
 simp only [Option.some.injEq, Prod.mk.injEq] at H
 obtain ⟨rfl, rfl⟩ := H
 go_enter Try.func113, Try.ntmps113
 go_wp2_with (((with_reducible refine gate_callee (f := 126) rfl ?_); refine qQi (some 25) rfl rfl Try.func126 (by kernel_rfl) rfl #[.int .u64 a0, .int .u64 a1] rfl (by (try simp only [List.map_toArray, List.map_cons, List.map_nil]); rfl) ?_; (with_reducible refine (bits_Mul64.calls a0 a1 ab ac _ A3.out).mono ?_); rintro e w' ⟨rfl, ⟨nd, rfl⟩⟩; refine ⟨_, rfl, ?_⟩))
 go_ret2
 exact ⟨by rfl, by repeat (first | exact Drawn0.refl _ | apply Drawn0.step)⟩
/-! ### text copy -/
/-- copy, elements of sz cells. -/
theorem run_copy_sz {P : Program} (w : World) (dT sT ty elem : TypeId) (sz b o dLen dCap : Nat) (a : Addr) (sLen sCap : Nat) (cs : List Value)
    (hu : P.underlying dT = some (.slice elem)) (hs : (P.info? elem).map (·.size) = some sz) (hn : cs.length = Nat.min sLen dLen * sz)
    (hsrc : ∀ j v, cs[j]? = some v → w.cell? (a.add j) = some v) (hc : ∀ j, j < cs.length → (w.cell? ⟨b, o + j, none⟩).isSome = true) (hf : ∀ j, j < cs.length → w.frozen? ⟨b, o + j, none⟩ = false) (h1 : ∀ v ∈ cs, v.oneCell' = true) :
    (Builtin.copy_ #[dT, sT] ty #[.slice (some ⟨b, o, none⟩) dLen dCap, .slice (some a) sLen sCap]).run P w = .ok (goInt (Nat.min sLen dLen)) (w.setCells b o cs) := by
  have hl := run_loadCells_list (P := P) w a cs hsrc
  have hst := run_storeCells_cells (P := P) b o cs 0 w (by simpa using hc) (by simpa using hf) h1
  cases hq : P.info? elem with
  | none => simp [hq] at hs
  | some i =>
    have hi : i.size = sz := by simpa [hq] using hs
    simp [Builtin.copy_, run_underlying hu, Builtin.lenOf, Builtin.firstCells, sizeOf, typeInfo, hq, hi, ← hn, hl, hst]
theorem step_copy_run {P : Program} {ops : Array Oper} {o : Oper} {a : Act} {w : World} {K : Act → World → Prop} {Q : Exit → Act → World → Prop} {E : Prop} (hgd : o.guard = none) (d s : Operand) (dT sT : TypeId)
    (ho : o.op = .call { callee := .builtin .copy, args := #[d, s], argTypes := #[dT, sT] }) (x y v : Value) (hd : a.eval d = x) (hs : a.eval s = y) (w1 : World) (hrun : (Builtin.copy_ #[dT, sT] o.type #[x, y]).run P w = .ok v w1)
    (h : K (a.put o.dst v) w1) : if Region.wanted o (yielded ops a.tmps) = true then Oper.wp P o a w K Q else E := by
  have hw : Region.wanted o (yielded ops a.tmps) = true := by simp [Region.wanted, hgd]
  rw [if_pos hw]
  unfold Oper.wp execOp
  simp only [ho, resolve, invoke, builtin, Sem.run_bind, Sem.run_pure, Result.andThen_ok, List.map_toArray, List.map_cons, List.map_nil, hd, hs, hrun]
  exact h
/-- m elements of which the first j are e, the others z. -/
def part (e z : List Value) (m j : Nat) : List Value := (List.replicate j e).flatten ++ (List.replicate (m - j) z).flatten
theorem qXk (e : List Value) (n : Nat) : (List.replicate n e).flatten.length = n * e.length := by simp [List.length_flatten]
theorem qKa (e : List Value) (a b : Nat) : (List.replicate (a + b) e).flatten = (List.replicate a e).flatten ++ (List.replicate b e).flatten := by
  rw [← List.replicate_append_replicate, List.flatten_append]
theorem jZn (e z : List Value) (sz m j : Nat) (he : e.length = sz) (hz : z.length = sz) (hj : j ≤ m) : (part e z m j).length = m * sz := by
  unfold part
  rw [List.length_append, qXk, qXk, he, hz, ← Nat.add_mul]
  congr 1
  omega
theorem part_take (e z : List Value) (sz m j k : Nat) (he : e.length = sz) (hk : k ≤ j) : (part e z m j).take (k * sz) = (List.replicate k e).flatten := by
  unfold part
  obtain ⟨d, rfl⟩ : ∃ d, j = k + d := ⟨j - k, by omega⟩
  rw [qKa, List.append_assoc]
  exact List.take_left' (by rw [qXk, he])
theorem part_next (e z : List Value) (sz m j k : Nat) (he : e.length = sz) (hz : z.length = sz) (hk : j + k ≤ m) :
    (part e z m j).take (j * sz) ++ (List.replicate k e).flatten ++ (part e z m j).drop (j * sz + k * sz) = part e z m (j + k) := by
  rw [part_take e z sz m j j he (Nat.le_refl _)]
  unfold part
  rw [qKa e j k]
  congr 1
  have h1 : m - j = k + (m - (j + k)) := by omega
  rw [h1, qKa z k, ← List.append_assoc]
  rw [← List.drop_drop, List.append_assoc, List.drop_left' (by rw [qXk, he]), List.drop_left' (by rw [qXk, hz])]
/-- A run of cells copied over a part of a block. -/
theorem copy_over {P : Program} (W w0 : World) (B g : Nat) (dT ty elem sz : Nat) (t : TypeId) (cur cs : List Value) (hg : W.heap[g]? = some (.cells cur.toArray t (0, 0))) (o dLen dCap : Nat) (a : Addr) (sLen sCap : Nat)
    (hu : P.underlying dT = some (.slice elem)) (hs : (P.info? elem).map (·.size) = some sz) (hn : cs.length = Nat.min sLen dLen * sz) (hfit : o + cs.length ≤ cur.length)
    (hsrc : ∀ j v, cs[j]? = some v → W.cell? (a.add j) = some v) (h1 : ∀ v ∈ cs, v.oneCell' = true) (hb : Below B w0 W) (hB : B ≤ g) :
    ∃ w1, (Builtin.copy_ #[dT, dT] ty #[.slice (some ⟨g, o, none⟩) dLen dCap, .slice (some a) sLen sCap]).run P W = .ok (goInt (Nat.min sLen dLen)) w1 ∧ w1.heap[g]? = some (.cells (cur.take o ++ cs ++ cur.drop (o + cs.length)).toArray t (0, 0)) ∧ Below B w0 w1 := by
  have hr := run_copy_sz (P := P) W dT dT ty elem sz g o dLen dCap a sLen sCap cs hu hs hn hsrc (fun j hj => by rw [cell_of_row W g _ cur.toArray t (0, 0) hg]; simp; omega) (fun j _ => qQn hg _) h1
  obtain ⟨cur', h3, h4, h5⟩ := qVn cs o W cur.toArray hg (by simpa using hfit)
  obtain ⟨s1, s2, s3, s4⟩ := qVj g cs o W
  refine ⟨_, hr, ?_, hb.trans ⟨s1, s2, s3, by rw [s4]; exact Nat.le_refl _, fun k hk => ?_⟩⟩
  · rw [h3]
    congr 2
    rw [← h5]
  · exact setCells_far cs _ k (by omega)
/-! ### text repeatmeasure -/
def mcells (x : S114) : List Value := [.int .i64 x.f0, .int .i64 x.f1]
def zcells114 : List Value := [.int .i64 0, .int .i64 0]
theorem info114' : (Try.prog.info? 114).map (fun i => (i.zero, i.size, i.bytes)) = some (some (.agg #[(.int .i64 0), (.int .i64 0)]), 2, 16) := by kernel_rfl
theorem made_part (e : List Value) (m : Nat) : (madeCells #[Value.int .i64 0, .int .i64 0] (m * 2)) = (part e zcells114 m 0).toArray := by
  unfold part zcells114
  apply Array.ext'
  simp only [List.replicate_zero, List.flatten_nil, List.nil_append, Nat.sub_zero]
  induction m with
  | zero => simp [madeCells]
  | succ m ih =>
    have h : (madeCells #[Value.int .i64 0, .int .i64 0] ((m + 1) * 2)).toList = (madeCells #[Value.int .i64 0, .int .i64 0] (m * 2)).toList ++ [.int .i64 0, .int .i64 0] := by
      simp only [madeCells]
      rw [show (m + 1) * 2 = m * 2 + 1 + 1 by omega, Array.range_succ, Array.range_succ]
      simp
    rw [h, ih, qKa]
    simp
/-- The row that a full block is. -/
theorem full_R {W : World} {B g m : Nat} (x : S114) (ht : W.heap[g]? = some (.cells (part (mcells x) zcells114 m m).toArray 114 (0, 0))) (hB : B ≤ g) (hm : m ≤ 9223372036854775807) :
    Kd.R k114 114 W B (fun _ => True) (.slice (some ⟨g, 0, none⟩) m m) (List.replicate m x) := by
  have hl : (part (mcells x) zcells114 m m).length = m * 2 := jZn _ _ 2 m m rfl rfl (Nat.le_refl _)
  refine ⟨fun _ _ => trivial, part (mcells x) zcells114 m m, ?_, ?_, fun j p hj => ?_⟩
  · rw [List.length_replicate]
    exact ⟨hl, .inr ⟨g, m, _, rfl, hB, ht, Nat.le_refl _, by simp only [maxLen]; omega, by rw [List.size_toArray]; show m * 2 ≤ _; rw [hl]; exact Nat.le_refl _, by show List.take (m * 2) _ = _; rw [← hl]; simp⟩⟩
  · rw [List.length_replicate]; exact hl
  · obtain ⟨hjl, hp⟩ := List.getElem?_eq_some_iff.1 hj
    rw [List.length_replicate] at hjl
    rw [List.getElem_replicate] at hp
    subst hp
    have h1 : ((part (mcells x) zcells114 m m).drop (j * 2)).take 2 = mcells x := by
      unfold part
      rw [Nat.sub_self, List.replicate_zero, List.flatten_nil, List.append_nil]
      obtain ⟨d, rfl⟩ : ∃ d, m = j + (1 + d) := ⟨m - j - 1, by omega⟩
      rw [qKa, List.drop_left' (by rw [qXk]; rfl), qKa]
      exact List.take_left' (by rw [qXk]; rfl)
    show k114.M W B _ x (((part (mcells x) zcells114 m m).drop (j * 2)).take 2)
    rw [h1]
    exact qYh _ _ _ x
theorem mul_one' (m : Nat) (hm : m ≤ 8) (w : World) : Calls Try.prog 113 #[.int .u64 1, .int .u64 m] w fun e w' => e = .returned (.tuple #[.int .u64 0, .int .u64 m]) ∧ Drawn0 w w' := by
  have h : bits_Mul.f 1 m = some (0, (m : Int)) := by
    rcases m with _ | _ | _ | _ | _ | _ | _ | _ | _ | m <;> first | rfl | omega
  refine (bits_Mul.calls 1 m 0 m w h).mono ?_
  rintro e w' ⟨rfl, hd⟩
  exact ⟨rfl, hd⟩
set_option maxHeartbeats 1000000 in
set_option maxRecDepth 100000 in
theorem repeat_any (x : S114) (A0 : Option Addr) (c0 : Nat) (m : Nat) (hm : m ≤ 8) (w : World) (hr0 : Kd.C k114 w A0 [x].length [x]) :
    Calls Try.prog 118 #[.slice A0 1 c0, .int .i64 m] w fun e w' => ∃ v, e = .returned v ∧ Kd.R k114 114 w' w.heap.size (fun _ => True) v (List.replicate m x) ∧ Below w.heap.size w w' := by
  obtain ⟨ad, ea, h0, h1⟩ := qXo hr0 0 (by omega) (by simp)
  cases ea
  simp only [Int.toNat_zero, Nat.zero_mul] at h0 h1
  have hx : qZf [x] 0 = x := rfl
  rw [hx] at h0 h1
  clear hr0 hx
  have hsrc : ∀ j v, (mcells x)[j]? = some v → w.cell? (ad.add j) = some v := by
    intro j v hv
    match j, hv with
    | 0, hv => simp [mcells] at hv; subst hv; exact h0
    | 1, hv => simp [mcells] at hv; subst hv; rw [← add_field _ _ 1 (by omega)] at h1; exact h1
    | j + 2, hv => simp [mcells] at hv
  have hu := Try.underlying111
  have hmul := fun w => mul_one' m hm w
  have hmi : (m : Int) ≤ 8 := by omega
  have ac : (0 : Int) ≤ m := by omega
  have hneg : decide ((m : Int) < 0) = false := decide_eq_false (by omega)
  have hbig : decide (9223372036854775807 < (m : Int)) = false := decide_eq_false (by omega)
  have hmk : ∀ W : World, (Instr.makeSlice 111 (.int .i64 (m : Int)) (.int .i64 (m : Int))).run Try.prog W = .ok (.slice (some ⟨W.heap.size, 0, none⟩) m m) (W.alloc (.cells (part (mcells x) zcells114 m 0).toArray 114)) := by
    intro W
    obtain ⟨i0, hi, hz0, hz1, hz2⟩ := info_parts info114'
    have hr := run_make (P := Try.prog) W 111 114 i0 _ Try.underlying111 hi hz0 .i64 .i64 (m : Int) (m : Int) (by omega) (by omega) (by rw [hz2]; omega) (by omega)
    rw [hr, hz1]
    simp only [Int.toNat_natCast, Value.cells]
    rw [made_part (mcells x) m]
  have hs_ : (Try.prog.info? 114).map (·.size) = some 2 := by
    obtain ⟨i0, hi, hz0, hz1, hz2⟩ := info_parts info114'
    simp [hi, hz1]
  have h1c : ∀ v ∈ mcells x, v.oneCell' = true := by intro v hv; simp [mcells] at hv; rcases hv with rfl | rfl <;> rfl
  obtain ⟨k0, hmin⟩ : ∃ k0, Nat.min 1 m = k0 := ⟨_, rfl⟩
  have hk0 : k0 ≤ 1 := by rw [← hmin]; exact Nat.min_le_left _ _
  have hk0m : k0 ≤ m := by rw [← hmin]; exact Nat.min_le_right _ _
  have ab : 1 ≤ m → 1 ≤ k0 := fun h => by rw [← hmin]; exact Nat.le_min.2 ⟨Nat.le_refl _, h⟩
  have aa : (List.replicate k0 (mcells x)).flatten.length = k0 * 2 := qXk _ _
  have hfc : ∀ (j : Nat) (v : Value), (List.replicate k0 (mcells x)).flatten[j]? = some v → (mcells x)[j]? = some v := by
    intro j v hv
    rcases k0 with _ | _ | k0
    · simp at hv
    · simpa using hv
    · omega
  have hf1 : ∀ v ∈ (List.replicate k0 (mcells x)).flatten, v ∈ mcells x := by
    intro v hv
    rw [List.mem_flatten] at hv
    obtain ⟨l, hl, hv⟩ := hv
    rw [List.eq_of_mem_replicate hl] at hv
    exact hv
  have hp0 : (part (mcells x) zcells114 m 0).length = m * 2 := jZn _ _ 2 m 0 rfl rfl (Nat.zero_le _)
  have HC : Aside0 (∀ nd : Nat, ∃ w1, (Builtin.copy_ #[111, 111] 3 #[.slice (some ⟨w.heap.size, 0, none⟩) m m, .slice (some ad) 1 c0]).run Try.prog ((w.drewN nd).alloc (.cells (part (mcells x) zcells114 m 0).toArray 114)) = .ok (.int .i64 k0) w1 ∧ w1.heap[w.heap.size]? = some (.cells (part (mcells x) zcells114 m k0).toArray 114 (0, 0)) ∧ Below w.heap.size w w1) := ⟨fun nd => by
    obtain ⟨w1, hr, hg, hb⟩ := copy_over (P := Try.prog) ((w.drewN nd).alloc (.cells (part (mcells x) zcells114 m 0).toArray 114)) w w.heap.size w.heap.size 111 3 114 2 114 (part (mcells x) zcells114 m 0) (List.replicate k0 (mcells x)).flatten (by have := heap_alloc_new (w.drewN nd) (.cells (part (mcells x) zcells114 m 0).toArray 114); simpa using this) 0 m m ad 1 c0 Try.underlying111 hs_
      (by rw [hmin, aa]) (by rw [hp0, aa]; omega) (fun j v hv => by have h3 := hsrc j v (hfc j v hv); exact (Below.cell (qZl (qJb (Below.refl _ w) nd) _) (World.block_lt_of_cell? w _ h3)).trans h3) (fun v hv => h1c v (hf1 v hv)) (qZl (qJb (Below.refl _ w) nd) _) (Nat.le_refl _)
    refine ⟨w1, ?_, ?_, hb⟩
    · rw [hr, hmin]; rfl
    · rw [hg]
      have := part_next (mcells x) zcells114 2 m 0 k0 rfl rfl (by omega)
      rw [aa]
      simpa using this⟩
  have HS := Aside0.mk hs_
  have HP := Aside0.mk h1c
  clear hsrc hs_ h1c hp0 h0 h1 hmin aa hfc hf1
  go_enter Try.func118, Try.ntmps118
  go_wp2_with (go_at_call 113; refine (hmul _).mono ?_; rintro e w' ⟨rfl, hd⟩; obtain ⟨nd, rfl⟩ := hd.out; obtain ⟨w1, hr1, hg1, hb1⟩ := HC.out nd; have HR1 := Aside0.mk hr1; have HG1 := Aside0.mk hg1; have HB1 := Aside0.mk hb1; clear hr1 hg1 hb1 hd HC)
  rw [HR1.out]
  go_wp2
  go_loopg [8] m (fun gg s8 wr => ∃ j : Nat, (1 ≤ m → 1 ≤ j) ∧ j ≤ m ∧ m - j ≤ gg ∧ s8 = .int .i64 j ∧ Aside0 (wr.heap[w.heap.size]? = some (.cells (part (mcells x) zcells114 m j).toArray 114 (0, 0))) ∧ Aside0 (Below w.heap.size w wr))
  case atStart => exact ⟨k0, ab, hk0m, by omega, rfl, HG1, HB1⟩
  case round =>
    obtain ⟨j, hj1, hjm, hgg, rfl, HG, HB⟩ := hrel
    clear HG1 HB1 HR1 hmk
    by_cases hlt : j < m
    · have hjm' : (j : Int) < (m : Int) := by omega
      have hne : ¬ m = j := by omega
      obtain ⟨k, hk⟩ : ∃ k, k = Nat.min j (m - j) := ⟨_, rfl⟩
      have hkj : k ≤ j := by rw [hk]; exact Nat.min_le_left _ _
      have hkm : j + k ≤ m := by have : k ≤ m - j := by (rw [hk]; exact Nat.min_le_right _ _)
                                 omega
      have hk1 : 1 ≤ k := by rw [hk]; exact Nat.le_min.2 ⟨hj1 (by omega), by omega⟩
      have hpl : (part (mcells x) zcells114 m j).length = m * 2 := jZn _ _ 2 m j rfl rfl hjm
      have hfl : (List.replicate k (mcells x)).flatten.length = k * 2 := qXk _ _
      obtain ⟨w1, hr1, hg1, hb1⟩ := copy_over (P := Try.prog) wr.drew w w.heap.size w.heap.size 111 3 114 2 114 (part (mcells x) zcells114 m j) (List.replicate k (mcells x)).flatten HG.out (j * 2) (m - j) (m - j) ⟨w.heap.size, 0, none⟩ j m Try.underlying111 HS.out
        (by rw [hfl, hk]) (by rw [hpl, hfl]; omega)
        (fun i v hv => by
          have h2 := qZb (w := wr.drew) HG.out i
          rw [add_at, Nat.zero_add, h2]
          rw [← part_take (mcells x) zcells114 2 m j k rfl hkj, List.getElem?_take] at hv
          split at hv
          · simpa using hv
          · cases hv)
        (fun v hv => by
          rw [List.mem_flatten] at hv
          obtain ⟨l, hl, hv⟩ := hv
          rw [List.eq_of_mem_replicate hl] at hv
          exact HP.out v hv) (qJp HB.out) (Nat.le_refl _)
      rw [hfl, part_next (mcells x) zcells114 2 m j k rfl rfl hkm] at hg1
      rw [← hk] at hr1
      have HR1 := Aside0.mk hr1
      have HG1 := Aside0.mk hg1
      have HB1 := Aside0.mk hb1
      clear hr1 hg1 hb1 hk hpl hfl HG HB
      have hkk : 0 ≤ (k : Int) := by omega
      have hkm' : (j : Int) + (k : Int) ≤ 8 := by omega
      go_wp2
      go_region_law (refine step_copy_run rfl (Operand.tmp 41) (Operand.tmp 44) 111 111 rfl (.slice (some ⟨w.heap.size, j * 2, none⟩) (m - j) (m - j)) (.slice (some ⟨w.heap.size, 0, none⟩) j m) (.int .i64 k) ?hd ?hs w1 HR1.out ?_; (case hd => go_simp); (case hs => go_simp))
      go_wp2
      go_roundg (m - (j + k))
      case measure => omega
      case rel => exact ⟨j + k, fun _ => by omega, hkm, by omega, by rw [show IntKind.i64.wrap ((j : Int) + (k : Int)) = ((j + k : Nat) : Int) from by rw [IntKind.wrap_i64]; omega], HG1, HB1⟩
    · have hjm' : ¬ (j : Int) < (m : Int) := by omega
      have hje : j = m := by omega
      have HJ := Lib.hid hje
      clear hje
      go_wp2
      go_ret
      exact ⟨_, rfl, full_R x (by have := HG.out; rw [HJ.out] at this; exact this) (Nat.le_refl _) (by omega), HB.out⟩
/-! ### impl_measure: function 118 -/
def impl_measure.f (l0 : List (S114)) (a1 : Int) : Option (List (S114)) :=
 match l0 with
 | [x] => if 0 ≤ a1 ∧ a1 ≤ 8 then some (List.replicate a1.toNat x) else none
 | _ => none
theorem impl_measure.calls (A0 : Option Addr) (c0 : Nat) (l0 : List (S114)) (a1 : Int) (r : List (S114)) (w : World) (hr0 : Kd.C k114 w A0 l0.length l0) (hc0 : l0.length ≤ c0) (h : impl_measure.f l0 a1 = some r) :
  Calls Try.prog 118 #[.slice A0 l0.length c0, .int .i64 a1] w fun e w' => ∃ v0_ : Value, e = .returned (v0_) ∧ Kd.R k114 114 w' w.heap.size (fun _ => True) v0_ r ∧ Below w.heap.size w w' := by
 match l0, hr0, h with
 | [x], hr0, h =>
  unfold impl_measure.f at h
  simp only at h
  by_cases ha : 0 ≤ a1 ∧ a1 ≤ 8
  rotate_left
  ·rw [if_neg ha] at h
   cases h
  rw [if_pos ha] at h
  obtain rfl := Option.some.inj h
  obtain ⟨m, rfl⟩ := Int.eq_ofNat_of_zero_le ha.1
  rw [Int.toNat_natCast]
  exact repeat_any x A0 c0 m (by omega) w hr0
 | [], _, h => cases h
 | _ :: _ :: _, _, h => cases h

/-! ### impl_measure_less: function 119 -/
def impl_measure_less.f (af : Int) (aj : Int) (ag : Int) (al : Int) : Option (Bool) := if af < ag then (some true) else (if af = ag then (some (decide (aj < al))) else (some false))
set_option maxHeartbeats 8000000 in
set_option maxRecDepth 100000 in
theorem impl_measure_less.calls (af : Int) (aj : Int) (ag : Int) (al : Int) (r : Bool) (w : World) (h : impl_measure_less.f af aj ag al = some r) :
  Calls Try.prog 119 #[.agg #[.int .i64 af, .int .i64 aj], .agg #[.int .i64 ag, .int .i64 al]] w fun e w' => e = .returned (.bool r) ∧ Below w.heap.size w w' := by
 have aQ := Try.underlying114
 have HB := ak (Below.refl w.heap.size w)
 have H : (if af < ag then (some true) else (if af = ag then (some (decide (aj < al))) else (some false))) = some r := h
 clear h
 by_cases c3 : af < ag
 ·rw [if_pos c3] at H
  have c3b0 : decide (af < ag) = true := decide_eq_true c3
  clear c3
  obtain rfl := Option.some.inj H
  go_enter Try.func119, Try.ntmps119
  go_wp2_with (first | ((with_reducible refine gate_dst (N := 2) rfl ?_); refine qZh ?hg (N := 2) ?hd (cs := #[.int .i64 af, .int .i64 aj]) (t := 114) ?hr ?_; (case hd => rfl); (case hg => rfl); (case hr => (go_simp; done)); intro ab hg w4 hbox hb; have aa := ak (hbox); have an := ak ((by rw [hg]; exact (qZc (bl HB)) : w.heap.size ≤ ab)); have ac := ak ((by rw [hg]; exact (qZc (bl HB)) : w.heap.size ≤ ab)); replace HB := ak (qZd (bl HB) hb); clear hb hbox hg) | ((with_reducible refine gate_dst (N := 3) rfl ?_); refine qZh ?hg (N := 3) ?hd (cs := #[.int .i64 ag, .int .i64 al]) (t := 114) ?hr ?_; (case hd => rfl); (case hg => rfl); (case hr => (go_simp; done)); intro ad hg w5 hbox hb; have ae := ak (hbox); have ao := ak ((by rw [hg]; exact (qZc (bl1 HB ac)) : w.heap.size ≤ ad)); have am := ak ((by rw [hg]; exact (qZc (bl1 HB ac)) : w.heap.size ≤ ad)); replace HB := ak (qZd (bl1 HB ac) hb); have ah := ak ((by rw [hg]; exact Nat.ne_of_lt (qZk (bk aa)) : ab ≠ ad)); have ai := ak ((by rw [hg]; exact Nat.ne_of_gt (qZk (bk aa)) : ad ≠ ab)); replace aa := ak (qZe (bk aa) hb); clear hb hbox hg; have aV := ah.out; have aW := ai.out; have aH := bc w5 aa 0 (.int .i64 af) rfl; have aI := bc w5 aa 1 (.int .i64 aj) rfl; have aJ := fz aa 0; have aK := fz aa 1; have aL := bc w5 ae 0 (.int .i64 ag) rfl; have aN := bc w5 ae 1 (.int .i64 al) rfl; have aO := fz ae 0; have aP := fz ae 1))
  go_ret
  exact ⟨by rfl, bl2 HB ac am⟩
 rw [if_neg c3] at H
 have c3b0 : decide (af < ag) = false := decide_eq_false c3
 clear c3
 by_cases c9 : af = ag
 rotate_left
 ·rw [if_neg c9] at H
  have c9b0 : (af == ag) = false := beq_eq_false_iff_ne.mpr c9
  have c9b1 : (af != ag) = true := bne_iff_ne.mpr c9
  obtain rfl := Option.some.inj H
  go_enter Try.func119, Try.ntmps119
  go_wp2_with (first | ((with_reducible refine gate_dst (N := 2) rfl ?_); refine qZh ?hg (N := 2) ?hd (cs := #[.int .i64 af, .int .i64 aj]) (t := 114) ?hr ?_; (case hd => rfl); (case hg => rfl); (case hr => (go_simp; done)); intro ab hg w15 hbox hb; have aa := ak (hbox); have an := ak ((by rw [hg]; exact (qZc (bl HB)) : w.heap.size ≤ ab)); have ac := ak ((by rw [hg]; exact (qZc (bl HB)) : w.heap.size ≤ ab)); replace HB := ak (qZd (bl HB) hb); clear hb hbox hg) | ((with_reducible refine gate_dst (N := 3) rfl ?_); refine qZh ?hg (N := 3) ?hd (cs := #[.int .i64 ag, .int .i64 al]) (t := 114) ?hr ?_; (case hd => rfl); (case hg => rfl); (case hr => (go_simp; done)); intro ad hg w16 hbox hb; have ae := ak (hbox); have ao := ak ((by rw [hg]; exact (qZc (bl1 HB ac)) : w.heap.size ≤ ad)); have am := ak ((by rw [hg]; exact (qZc (bl1 HB ac)) : w.heap.size ≤ ad)); replace HB := ak (qZd (bl1 HB ac) hb); have ah := ak ((by rw [hg]; exact Nat.ne_of_lt (qZk (bk aa)) : ab ≠ ad)); have ai := ak ((by rw [hg]; exact Nat.ne_of_gt (qZk (bk aa)) : ad ≠ ab)); replace aa := ak (qZe (bk aa) hb); clear hb hbox hg; have aR := ah.out; have aS := ai.out; have ap := bc w16 aa 0 (.int .i64 af) rfl; have aq := bc w16 aa 1 (.int .i64 aj) rfl; have ar := fz aa 0; have au := fz aa 1; have av := bc w16 ae 0 (.int .i64 ag) rfl; have aw := bc w16 ae 1 (.int .i64 al) rfl; have ax := fz ae 0; have ay := fz ae 1))
  go_ret
  exact ⟨by rfl, bl2 HB ac am⟩
 rw [if_pos c9] at H
 have c9b0 : (af == ag) = true := beq_iff_eq.mpr c9
 have c9b1 : (af != ag) = false := bne_eq_false_iff_eq.mpr c9
 clear c9
 obtain rfl := Option.some.inj H
 go_enter Try.func119, Try.ntmps119
 go_wp2_with (first | ((with_reducible refine gate_dst (N := 2) rfl ?_); refine qZh ?hg (N := 2) ?hd (cs := #[.int .i64 af, .int .i64 aj]) (t := 114) ?hr ?_; (case hd => rfl); (case hg => rfl); (case hr => (go_simp; done)); intro ab hg w10 hbox hb; have aa := ak (hbox); have an := ak ((by rw [hg]; exact (qZc (bl HB)) : w.heap.size ≤ ab)); have ac := ak ((by rw [hg]; exact (qZc (bl HB)) : w.heap.size ≤ ab)); replace HB := ak (qZd (bl HB) hb); clear hb hbox hg) | ((with_reducible refine gate_dst (N := 3) rfl ?_); refine qZh ?hg (N := 3) ?hd (cs := #[.int .i64 ag, .int .i64 al]) (t := 114) ?hr ?_; (case hd => rfl); (case hg => rfl); (case hr => (go_simp; done)); intro ad hg w11 hbox hb; have ae := ak (hbox); have ao := ak ((by rw [hg]; exact (qZc (bl1 HB ac)) : w.heap.size ≤ ad)); have am := ak ((by rw [hg]; exact (qZc (bl1 HB ac)) : w.heap.size ≤ ad)); replace HB := ak (qZd (bl1 HB ac) hb); have ah := ak ((by rw [hg]; exact Nat.ne_of_lt (qZk (bk aa)) : ab ≠ ad)); have ai := ak ((by rw [hg]; exact Nat.ne_of_gt (qZk (bk aa)) : ad ≠ ab)); replace aa := ak (qZe (bk aa) hb); clear hb hbox hg; have aT := ah.out; have aU := ai.out; have az := bc w11 aa 0 (.int .i64 af) rfl; have aA := bc w11 aa 1 (.int .i64 aj) rfl; have aB := fz aa 0; have aC := fz aa 1; have aD := bc w11 ae 0 (.int .i64 ag) rfl; have aE := bc w11 ae 1 (.int .i64 al) rfl; have aF := fz ae 0; have aG := fz ae 1))
 go_ret
 exact ⟨by rfl, bl2 HB ac am⟩
/-! ### impl_Net_toward: function 101 -/
mutual
def impl_Net_toward.l0 : Nat → List (S114) → Bool → Int → List (S58) → Option ((List (S114)))
 | 0, _, _, _, _ => none
 | k + 1, x5, x6, aR, aC => if x6 = true then (impl_Net_toward.l1 k x5 false aC (aC.length : Int) 0 aR aC) else (some x5)
def impl_Net_toward.l1 : Nat → List (S114) → Bool → List (S58) → Int → Int → Int → List (S58) → Option ((List (S114)))
 | 0, _, _, _, _, _, _, _ => none
 | k + 1, x5, x6, x21, x22, x23, aR, aC => if x23 < x22 then (if 0 ≤ x23 then (if x23 < (x21.length : Int) then (if 0 ≤ ((qZa x21 x23).f1) then (if ((qZa x21 x23).f1) < (x5.length : Int) then (if ((qZf x5 ((qZa x21 x23).f1)).f0) = 99999 then (impl_Net_toward.l1 k x5 x6 x21 x22 (wrap64 (x23 + 1)) aR aC) else (if 0 ≤ ((qZa x21 x23).f0) then (if ((qZa x21 x23).f0) < (x5.length : Int) then ((impl_measure_less.f (wrap64 (((qZf x5 ((qZa x21 x23).f1)).f0) + ((qZa x21 x23).f2))) (wrap64 (((qZf x5 ((qZa x21 x23).f1)).f1) + 1)) ((qZf x5 ((qZa x21 x23).f0)).f0) ((qZf x5 ((qZa x21 x23).f0)).f1)).bind fun bS => (if bS = true then (impl_Net_toward.l1 k (x5.set (((qZa x21 x23).f0) : Int).toNat (⟨wrap64 (((qZf x5 ((qZa x21 x23).f1)).f0) + ((qZa x21 x23).f2)), wrap64 (((qZf x5 ((qZa x21 x23).f1)).f1) + 1)⟩ : S114)) true x21 x22 (wrap64 (x23 + 1)) aR aC) else (impl_Net_toward.l1 k x5 x6 x21 x22 (wrap64 (x23 + 1)) aR aC))) else (none)) else (none))) else (none)) else (none)) else (none)) else (none)) else (impl_Net_toward.l0 k x5 x6 aR aC)
end
def impl_Net_toward.f (k : Nat) (ar : Int) (ab : List (S58)) (a1 : Int) : Option ((List (S114))) := (impl_measure.f (([(⟨99999, 0⟩ : S114)] : List (S114))) ar).bind fun aA => (if 0 ≤ a1 then (if a1 < (aA.length : Int) then (impl_Net_toward.l0 k (aA.set (a1 : Int).toNat (⟨0, 0⟩ : S114)) true ar ab) else (none)) else (none))
theorem impl_Net_toward.mono_l : ∀ k, (∀ y0 y1 y2 y3, LeO (impl_Net_toward.l0 k y0 y1 y2 y3) (impl_Net_toward.l0 (k + 1) y0 y1 y2 y3)) ∧ (∀ y0 y1 y2 y3 y4 y5 y6, LeO (impl_Net_toward.l1 k y0 y1 y2 y3 y4 y5 y6) (impl_Net_toward.l1 (k + 1) y0 y1 y2 y3 y4 y5 y6))
 | 0 => ⟨fun _ _ _ _ r h => by simp [impl_Net_toward.l0] at h, fun _ _ _ _ _ _ _ r h => by simp [impl_Net_toward.l1] at h⟩
 | k + 1 => by
  obtain ⟨ih0, ih1⟩ := impl_Net_toward.mono_l k
  refine ⟨?_, ?_⟩
  ·intro y0 y1 y2 y3
   unfold impl_Net_toward.l0
   repeat' first | (with_reducible exact ih1 _ _ _ _ _ _ _) | (with_reducible exact LeO.refl _) | (with_reducible refine LeO.ite ?_ ?_)
  ·intro y0 y1 y2 y3 y4 y5 y6
   unfold impl_Net_toward.l1
   repeat' first | (with_reducible exact ih0 _ _ _ _) | (with_reducible exact ih1 _ _ _ _ _ _ _) | (with_reducible exact LeO.refl _) | (with_reducible refine LeO.ite ?_ ?_) | (with_reducible refine LeO.bind ?_ (fun _ => ?_))
theorem impl_Net_toward.mono : ∀ a0 a1 a2 k, LeO (impl_Net_toward.f k a0 a1 a2) (impl_Net_toward.f (k + 1) a0 a1 a2) := by
 intro a0 a1 a2 k
 obtain ⟨ih0, ih1⟩ := impl_Net_toward.mono_l k
 unfold impl_Net_toward.f
 repeat' first | (with_reducible exact ih0 _ _ _ _) | (with_reducible exact LeO.refl _) | (with_reducible refine LeO.ite ?_ ?_) | (with_reducible refine LeO.bind ?_ (fun _ => ?_))
set_option maxHeartbeats 8000000 in
set_option maxRecDepth 100000 in
theorem impl_Net_toward.calls (k : Nat) (ar : Int) (ba : Option Addr) (aQ : Nat) (ab : List (S58)) (a1 : Int) (r : List (S114)) (w : World) (bK : Kd.C k58 w ba ab.length ab) (bL : ab.length ≤ aQ) (h : impl_Net_toward.f k ar ab a1 = some r) :
  Calls Try.prog 101 #[.agg #[.int .i64 ar, .slice ba ab.length aQ], .int .i64 a1] w fun e w' => ∃ v0_ : Value, e = .returned (v0_) ∧ Kd.R k114 114 w' w.heap.size (fun _ => True) v0_ r ∧ Below w.heap.size w w' := by
 have ex := Try.underlying25
 have ea := Try.underlying114
 have ey := Try.underlying58
 have bq := ak bK
 have eb := ak bL
 clear bK bL
 have HB := ak (Below.refl w.heap.size w)
 have H : ((impl_measure.f (([(⟨99999, 0⟩ : S114)] : List (S114))) ar).bind fun aA => (if 0 ≤ a1 then (if a1 < (aA.length : Int) then (impl_Net_toward.l0 k (aA.set (a1 : Int).toNat (⟨0, 0⟩ : S114)) true ar ab) else (none)) else (none))) = some r := h
 clear h
 obtain ⟨bo, br⟩ : ∃ y_ : List (S114), y_ = (([(⟨99999, 0⟩ : S114)] : List (S114))) := ⟨_, rfl⟩
 replace H : ((impl_measure.f bo ar).bind fun aA => (if 0 ≤ a1 then (if a1 < (aA.length : Int) then (impl_Net_toward.l0 k (aA.set (a1 : Int).toNat (⟨0, 0⟩ : S114)) true ar ab) else (none)) else (none))) = some r := by (rw [br]; with_reducible exact H)
 have ci := ak br
 clear br
 replace H := Option.bind_eq_some_iff.mp H
 obtain ⟨aA, A30, H⟩ := H
 have A3 := ak A30
 clear A30
 by_cases c4 : 0 ≤ a1
 rotate_left
 ·rw [if_neg c4] at H
  exact absurd H (by simp)
 rw [if_pos c4] at H
 have c4b0 : decide (0 ≤ a1) = true := decide_eq_true c4
 clear c4
 by_cases c5 : a1 < (aA.length : Int)
 rotate_left
 ·rw [if_neg c5] at H
  exact absurd H (by simp)
 rw [if_pos c5] at H
 have c5b0 : decide (a1 < (aA.length : Int)) = true := decide_eq_true c5
 clear c5
 obtain ⟨bT, bs⟩ : ∃ y_ : List (S114), y_ = (aA.set (a1 : Int).toNat (⟨0, 0⟩ : S114)) := ⟨_, rfl⟩
 replace H : (impl_Net_toward.l0 k bT true ar ab) = some r := by (rw [bs]; with_reducible exact H)
 have cj := ak bs
 clear bs
 have H' := ak H
 clear H
 go_enter Try.func101, Try.ntmps101
 go_wp2_with (first | ((with_reducible refine gate_dst (N := 2) rfl ?_); refine qZh ?hg (N := 2) ?hd (cs := #[.int .i64 ar, .slice ba ab.length aQ]) (t := 25) ?hr ?_; (case hd => rfl); (case hg => rfl); (case hr => (go_simp; done)); intro aq hg w7 hbox hb; have ah := ak (hbox); have ec := ak ((by rw [hg]; exact (qZc (bl HB)) : w.heap.size ≤ aq)); have ao := ak ((by rw [hg]; exact (qZc (bl HB)) : w.heap.size ≤ aq)); replace HB := ak (qZd (bl HB) hb); clear hb hbox hg) | ((with_reducible refine gate_dst (N := 11) rfl ?_); refine Kd.R_lit k114 _ 114 ?hg (N := 11) ?hd (xs := ([(⟨99999, 0⟩ : S114)] : List (S114))) (inner := [.int .i64 99999, .int .i64 0]) (ok := fun _ => True) (okp := fun _ => True) ?hr ?hp (fun _ hk => hk) trivial (Below.refl _ _) (Nat.le_refl _) (by simp) ?_; (case hd => rfl); (case hg => rfl); (case hr => (go_simp; done)); (case hp => exact (Reps.c2 (show Kd.M k114 _ _ _ (⟨99999, 0⟩ : S114) [.int .i64 99999, .int .i64 0] from (qYh _ _ _ (⟨99999, 0⟩ : S114) )) (Reps.none _ _))); intro ez w8 ho9 hb hg_ hnew_; clear hg_ hnew_; (rw [← ci.out] at ho9); have aU := ak (Kd.R_lower ho9 (qZc (bl1 HB ao))); replace ah := ak (qZe (bk ah) hb); replace HB := ak (qZd (bl1 HB ao) hb); clear hb ho9; have bg := bc w8 ah 0 (.int .i64 ar) rfl; have bh := bc w8 ah 1 (.slice ba ab.length aQ) rfl; have bi := fz ah 0; have bj := fz ah 1; obtain ⟨bD, bE, dU⟩ := Kd.R_slice aU.out; subst dU) | ((with_reducible refine gate_callee (f := 118) rfl ?_); refine qQi (some 14) rfl rfl Try.func118 (by kernel_rfl) rfl #[.slice bD bo.length bE, .int .i64 ar] rfl (by (try simp only [List.map_toArray, List.map_cons, List.map_nil]); rfl) ?_; (with_reducible refine (impl_measure.calls _ _ bo ar aA _ ?side1 ?side2 A3.out).mono ?_); (case side1 => repeat (exact (Kd.R_reads' aU.out).2.2)); (case side2 => exact (Kd.R_reads' aU.out).2.1); rintro e w12 ⟨eA, rfl, ho0, hb⟩; refine ⟨_, rfl, ?_⟩; have aS := ak (Kd.R_lower (Kd.R_new' ho0 (Kd.R_lt (rk aU))) (qZc (bl1 HB ao))); replace aU := ak (Kd.R_elder' (rk aU) (Kd.R_base ho0) hb); replace ah := ak (qZe (bk ah) hb); replace HB := ak (qZd (bl1 HB ao) hb); (try clear hb); (try clear hb2); (try clear hk); (try clear hi); (try clear ho0); have p6 : 0 ≤ (a1 : Int) := oT (by (with_reducible assumption)); have q6 : (a1 : Int) < ((aA.length : Int) : Int) := oT (by (with_reducible assumption)); obtain ⟨go6, co6, eo6, gb6, gl6, cl6, HG6⟩ := Kd.R_form aS.out (by omega); (cases eo6); have GB6 := ak gb6; have GG6 := ak HG6; clear gb6 gl6 HG6; obtain ⟨ce6, dV, hM6, bU, bV⟩ := Kd.R_elem aS.out z114 (a1 : Int) p6 q6; obtain rfl := qKb hM6; have bM : w12.cell? ⟨go6, (a1 : Int).toNat * 2, none⟩ = some (.int .i64 ((qZf aA a1).f0)) := bU 0 _ rfl; have bN : w12.cell? ⟨go6, (a1 : Int).toNat * 2 + 1, none⟩ = some (.int .i64 ((qZf aA a1).f1)) := bU 1 _ rfl; have ed : w12.frozen? ⟨go6, (a1 : Int).toNat * 2, none⟩ = false := bV 0; have ee : w12.frozen? ⟨go6, (a1 : Int).toNat * 2 + 1, none⟩ = false := bV 1; clear dV bU bV hM6; replace p6 := eq_true p6; replace q6 := eq_true q6; have n_ := ak (Kd.R_mono (ok' := (fun k_ => some k_ ≠ (.slice bD bo.length bE : Value).ownBlock)) aS.out (fun k_ hk => hk.2)); clear aS; have aS := n_; clear n_; have ck := ak (show Kd.R k114 114 w12 w.heap.size (fun k_ => some k_ ≠ (.slice bD bo.length bE : Value).ownBlock) (.slice (some ⟨go6, 0, none⟩) aA.length co6) aA from (rk aS)); obtain ⟨eB, bO, cl, bm, bt⟩ := Kd.R_elem ck.out z114 (a1 : Int) (oT (by (with_reducible assumption))) (by have h_ : (a1 : Int) < ((aA.length : Int) : Int) := oT (by (with_reducible assumption)); exact h_); obtain rfl := qKb cl; have bW := Kd.R_seg ck.out (a1 : Int) (oT (by (with_reducible assumption))) (by have h_ : (a1 : Int) < ((aA.length : Int) : Int) := oT (by (with_reducible assumption)); exact h_) (seg := [.int .i64 0, .int .i64 0]) (j := 0) bO bm (show 2 ≤ 2 from by decide) (x' := (⟨0, 0⟩ : S114)) (qYh _ _ _ (⟨0, 0⟩ : S114) ) (fun _ hk => hk); have bb := bm 0 _ rfl; (try simp only [show (k114).sz = 2 from rfl, Nat.mul_one, Nat.add_zero] at bb); have bX := bt 0; (try simp only [show (k114).sz = 2 from rfl, Nat.mul_one, Nat.add_zero] at bX); have bd := bm 1 _ rfl; (try simp only [show (k114).sz = 2 from rfl, Nat.mul_one, Nat.add_zero] at bd); have bY := bt 1; (try simp only [show (k114).sz = 2 from rfl, Nat.mul_one, Nat.add_zero] at bY); clear bO bm bt cl) | ((with_reducible refine gate_store (t := 114) (p := 18) rfl ?_); refine qXd (t := 114) (p := 18) (v := ?vo_w14) (w1 := ((w12.setCell ⟨go6, (a1 : Int).toNat * 2, none⟩ (.int .i64 0)).setCell ⟨go6, (a1 : Int).toNat * 2 + 1, none⟩ (.int .i64 0))) ?hg ?ho ?hn ?hr ?_; (case ho => rfl); (case hg => rfl); (case hn => rfl); (case hr => (go_simp; done)); intro w14 hw; have hg : w12.grownBy w14 (some go6) := (by rw [hw]; exact bW.2); have hp_ : Kd.R k114 114 w14 w.heap.size (fun k_ => some k_ ≠ (.slice bD bo.length bE : Value).ownBlock) (.slice (some ⟨go6, 0, none⟩) aA.length co6) bT := (by rw [hw, cj.out]; exact bW.1); clear bW; replace ah := ak (qZj (bk ah) hg (Kd.R_ne aS.out ah.out (by decide))); replace aU := ak (Kd.R_after (v := (.slice (some ⟨go6, 0, none⟩) aA.length co6)) (v1 := (.slice (some ⟨go6, 0, none⟩) aA.length co6)) (ok := (fun _ => True)) (rk aU) hg (.inl rfl)); replace aS := ak (hp_); replace HB := ak ((by rw [hw]; exact below_set (below_set (HB.out) GB6.out) GB6.out : Below w.heap.size w w14)); clear hg hw hp_))
 go_loopg [6] k (fun kq v6 w' => ∃ (bu : List (S114)) (bF : Bool), v6 = .bool bF ∧ Aside0 (impl_Net_toward.l0 kq bu bF ar ab = some r) ∧ Aside0 (kq ≤ k) ∧ Aside0 (Kd.R k114 114 w' w.heap.size (fun _ => True) (.slice (some ⟨go6, 0, none⟩) aA.length co6) bu) ∧ Aside0 (w'.heap[aq]? = some (.cells #[.int .i64 ar, (.slice ba ab.length aQ)] 25 (0, 0))) ∧ Aside0 (Below w.heap.size w w'))
 case atStart => exact ⟨(bT), (true), (by rfl), H', ⟨Nat.le_refl _⟩, ⟨by exact Kd.R_mono aS.out (fun _ hk => trivial)⟩, ⟨bk ah⟩, ⟨bl1 HB ao⟩⟩
 clear H'
 try clear c1
 try clear hx1
 try clear c2
 try clear p2
 try clear c4
 try clear c4b0
 try clear c5
 try clear c5b0
 try clear c6
 try clear p6
 try clear q6
 try clear hx6
 try clear hf6
 try clear c10
 try clear c11
 try clear c13
 try clear hx13
 try clear hf13
 try clear bg
 try clear bh
 try clear bi
 try clear bj
 try clear bb
 try clear bd
 try clear bM
 try clear bN
 try clear p6
 try clear q6
 obtain ⟨bu, bF, rfl, HA, HK1, am, ah, HB⟩ := hrel
 have aD := (Kd.R_reads' am.out).1
 rw [aD] at am
 (try simp only [aD])
 (try simp only [aD] at ah)
 cases gk with
 | zero => exact absurd HA.out (by simp [impl_Net_toward.l0])
 | succ k1 =>
  have H := HA.out
  clear HA
  simp only [impl_Net_toward.l0] at H
  by_cases c15 : bF = true
  rotate_left
  ·replace c15 := Bool.eq_false_iff.mpr c15
   subst c15
   rw [if_neg (show ¬ (false = true) by decide)] at H
   obtain rfl := Option.some.inj H
   go_wp2
   go_ret
   exact ⟨_, by rfl, rk am, bl1 HB ao⟩
  subst c15
  rw [if_pos rfl] at H
  have H' := ak H
  clear H
  have bG := bc wr ah 0 (.int .i64 ar) rfl
  have bH := bc wr ah 1 (.slice ba ab.length aQ) rfl
  have bI := fz ah 0
  have bJ := fz ah 1
  go_wp2
  go_loopg [6, 23] k1 (fun kq v6 v23 w' => ∃ (ag : List (S114)) (bp : Bool) (aa : Int), v6 = .bool bp ∧ v23 = .int .i64 aa ∧ Aside0 (impl_Net_toward.l1 kq ag bp ab (ab.length : Int) aa ar ab = some r) ∧ Aside0 (kq ≤ k1) ∧ Aside0 (Kd.R k114 114 w' w.heap.size (fun _ => True) (.slice (some ⟨go6, 0, none⟩) bu.length co6) ag) ∧ Aside0 (w'.heap[aq]? = some (.cells #[.int .i64 ar, (.slice ba ab.length aQ)] 25 (0, 0))) ∧ Aside0 (Below w.heap.size w w'))
  case atStart => exact ⟨(bu), (false), (0), (by rfl), (by rfl), H', ⟨Nat.le_refl _⟩, ⟨by (try simp only [aD]); exact am.out⟩, ⟨by (try simp only [aD]); exact ah.out⟩, ⟨bl1 HB ao⟩⟩
  clear H'
  try clear c1
  try clear hx1
  try clear c2
  try clear p2
  try clear c4
  try clear c4b0
  try clear c5
  try clear c5b0
  try clear c6
  try clear p6
  try clear q6
  try clear hx6
  try clear hf6
  try clear c10
  try clear c11
  try clear c13
  try clear hx13
  try clear hf13
  try clear c15
  try clear bg
  try clear bh
  try clear bG
  try clear bH
  try clear bi
  try clear bj
  try clear bI
  try clear bJ
  try clear bb
  try clear bd
  try clear bM
  try clear bN
  try clear p2
  try clear p6
  try clear q6
  obtain ⟨ag, bp, aa, rfl, rfl, HA, HK2, am, ah, HB⟩ := hrel
  have aB := (Kd.R_reads' am.out).1
  rw [aB] at am
  (try simp only [aB])
  (try simp only [aB] at ah)
  cases gk with
  | zero => exact absurd HA.out (by simp [impl_Net_toward.l1])
  | succ k2 =>
   have H := HA.out
   clear HA
   simp only [impl_Net_toward.l1] at H
   by_cases c17 : aa < (ab.length : Int)
   rotate_left
   ·rw [if_neg c17] at H
    have c17b0 : decide (aa < (ab.length : Int)) = false := decide_eq_false c17
    clear c17
    have H' := ak H
    clear H
    go_wp2
    (try simp only [← aD, ← aB])
    go_roundg k2
    case measure => have := HK1.out; have := HK2.out; omega
    case rel => exact ⟨(ag), (bp), (by rfl), H', ⟨by have := HK1.out; have := HK2.out; omega⟩, ⟨by (try simp only [aD]); (try simp only [aB]); exact am.out⟩, ⟨by (try simp only [aD]); (try simp only [aB]); exact ah.out⟩, ⟨bl1 HB ao⟩⟩
   rw [if_pos c17] at H
   have c17b0 : decide (aa < (ab.length : Int)) = true := decide_eq_true c17
   clear c17
   by_cases c18 : 0 ≤ aa
   rotate_left
   ·rw [if_neg c18] at H
    exact absurd H (by simp)
   rw [if_pos c18] at H
   have c18b0 : decide (0 ≤ aa) = true := decide_eq_true c18
   clear c18
   by_cases c19 : aa < (ab.length : Int)
   rotate_left
   ·rw [if_neg c19] at H
    exact absurd H (by simp)
   rw [if_pos c19] at H
   have c19b0 : decide (aa < (ab.length : Int)) = true := decide_eq_true c19
   clear c19
   by_cases c20 : 0 ≤ ((qZa ab aa).f1)
   rotate_left
   ·rw [if_neg c20] at H
    exact absurd H (by simp)
   rw [if_pos c20] at H
   have c20b0 : decide (0 ≤ ((qZa ab aa).f1)) = true := decide_eq_true c20
   clear c20
   by_cases c21 : ((qZa ab aa).f1) < (ag.length : Int)
   rotate_left
   ·rw [if_neg c21] at H
    exact absurd H (by simp)
   rw [if_pos c21] at H
   have c21b0 : decide (((qZa ab aa).f1) < (ag.length : Int)) = true := decide_eq_true c21
   clear c21
   by_cases c22 : ((qZf ag ((qZa ab aa).f1)).f0) = 99999
   ·rw [if_pos c22] at H
    have c22b0 : (((qZf ag ((qZa ab aa).f1)).f0) == 99999) = true := beq_iff_eq.mpr c22
    have c22b1 : (((qZf ag ((qZa ab aa).f1)).f0) != 99999) = false := bne_eq_false_iff_eq.mpr c22
    clear c22
    have H' := ak H
    clear H
    have aV : 0 ≤ (aa : Int) := oT (by (with_reducible assumption))
    have aW : aa < (ab.length : Int) := oT (by (with_reducible assumption))
    obtain ⟨aJ, bv, aE, aF, aG, aH, aI⟩ := qJi bq.out aa aV aW
    cases bv
    replace aE := hcb HB.out aE
    replace aF := hcb HB.out aF
    replace aG := hcb HB.out aG
    replace aH := hcb HB.out aH
    replace aI := hcb HB.out aI
    replace aV := eq_true aV
    replace aW := eq_true aW
    go_wp2_with (first | ((with_reducible refine gate_dst (N := 8) rfl ?_); refine qZh ?hg (N := 8) ?hd (cs := #[.int .i64 0, .int .i64 0, .int .i64 0, .int .i64 0, .int .i64 0]) (t := 58) ?hr ?_; (case hd => rfl); (case hg => rfl); (case hr => (go_simp; done)); intro ae hg w23 hbox hb; replace am := ak (Kd.R_below (rk am) hb); have ac := ak (hbox); have bP := ak ((by rw [hg]; exact (qZc (bl1 HB ao)) : w.heap.size ≤ ae)); have az := ak ((by rw [hg]; exact (qZc (bl1 HB ao)) : w.heap.size ≤ ae)); replace HB := ak (qZd (bl1 HB ao) hb); have ad := ak ((by rw [hg]; exact Nat.ne_of_lt (qZk (bk ah)) : aq ≠ ae)); have aK := ak ((by rw [hg]; exact Nat.ne_of_gt (qZk (bk ah)) : ae ≠ aq)); replace ah := ak (qZe (bk ah) hb); clear hb hbox hg; have ef := aK.out; have eg := ad.out; have ct := bc w23 ac 0 (.int .i64 0) rfl; have cu := bc w23 ac 1 (.int .i64 0) rfl; have cv := bc w23 ac 2 (.int .i64 0) rfl; have cw := bc w23 ac 3 (.int .i64 0) rfl; have cx := bc w23 ac 4 (.int .i64 0) rfl; have cy := fz ac 0; have cz := fz ac 1; have cA := fz ac 2; have cB := fz ac 3; have cC := fz ac 4; have aX : 0 ≤ (((qZa ab aa).f1) : Int) := oT (by (with_reducible assumption)); have aY : ((qZa ab aa).f1) < (ag.length : Int) := oT (by (with_reducible assumption)); obtain ⟨aZ, bw, ai, aj⟩ := qXo (Kd.R_reads' am.out).2.2 ((qZa ab aa).f1) aX aY; obtain rfl : (⟨go6, 0, none⟩ : Addr) = aZ := (by injection bw); (simp only [qJf] at ai); (simp only [qJf] at aj); have au : (⟨go6, 0, none⟩ : Addr).block ≠ ae := Kd.own_blk (Kd.R_ne am.out ac.out (by decide)); have av : (⟨go6, 0, none⟩ : Addr).block ≠ ae := Kd.own_blk (Kd.R_ne am.out ac.out (by decide)); have aw : (⟨go6, 0, none⟩ : Addr).block ≠ ae := Kd.own_blk (Kd.R_ne am.out ac.out (by decide)); have ax : (⟨go6, 0, none⟩ : Addr).block ≠ ae := Kd.own_blk (Kd.R_ne am.out ac.out (by decide)); have ay : (⟨go6, 0, none⟩ : Addr).block ≠ ae := Kd.own_blk (Kd.R_ne am.out ac.out (by decide)); replace ai := (qQa (p := ⟨ae, 0, none⟩) (by exact au) (.int .i64 ((qZa ab aa).f0))).trans ai; replace aj := (qQa (p := ⟨ae, 0, none⟩) (by exact au) (.int .i64 ((qZa ab aa).f0))).trans aj; replace ai := (qQa (p := ⟨ae, 1, none⟩) (by exact av) (.int .i64 ((qZa ab aa).f1))).trans ai; replace aj := (qQa (p := ⟨ae, 1, none⟩) (by exact av) (.int .i64 ((qZa ab aa).f1))).trans aj; replace ai := (qQa (p := ⟨ae, 2, none⟩) (by exact aw) (.int .i64 ((qZa ab aa).f2))).trans ai; replace aj := (qQa (p := ⟨ae, 2, none⟩) (by exact aw) (.int .i64 ((qZa ab aa).f2))).trans aj; replace ai := (qQa (p := ⟨ae, 3, none⟩) (by exact ax) (.int .i64 ((qZa ab aa).f3))).trans ai; replace aj := (qQa (p := ⟨ae, 3, none⟩) (by exact ax) (.int .i64 ((qZa ab aa).f3))).trans aj; replace ai := (qQa (p := ⟨ae, 4, none⟩) (by exact ay) (.int .i64 ((qZa ab aa).f4))).trans ai; replace aj := (qQa (p := ⟨ae, 4, none⟩) (by exact ay) (.int .i64 ((qZa ab aa).f4))).trans aj; clear au; clear av; clear aw; clear ax; clear ay; replace aX := eq_true aX; replace aY := eq_true aY) | ((with_reducible refine gate_dst (N := 9) rfl ?_); refine qZh ?hg (N := 9) ?hd (cs := #[.int .i64 0, .int .i64 0]) (t := 114) ?hr ?_; (case hd => rfl); (case hg => rfl); (case hr => (go_simp; done)); intro af hg w26 hbox hb; replace am := ak (Kd.R_below (Kd.R_elderB (by exact (Kd.R_mono (Kd.R_far (p := ⟨ae, 4, none⟩) (Kd.R_far (p := ⟨ae, 3, none⟩) (Kd.R_far (p := ⟨ae, 2, none⟩) (Kd.R_far (p := ⟨ae, 1, none⟩) (Kd.R_far (p := ⟨ae, 0, none⟩) (Kd.R_types am.out ac.out (by decide)) (fun _ hk => hk.2) (.int .i64 ((qZa ab aa).f0))) (fun _ hk => hk.2) (.int .i64 ((qZa ab aa).f1))) (fun _ hk => hk.2) (.int .i64 ((qZa ab aa).f2))) (fun _ hk => hk.2) (.int .i64 ((qZa ab aa).f3))) (fun _ hk => hk.2) (.int .i64 ((qZa ab aa).f4))) (fun _ h_ => h_.1))) af (Nat.le_of_eq hg.symm)) hb); have al := ak (hbox); have bQ := ak ((by rw [hg]; exact (qZc (bl2 HB ao az)) : w.heap.size ≤ af)); have aT := ak ((by rw [hg]; exact (qZc (bl2 HB ao az)) : w.heap.size ≤ af)); replace HB := ak (qZd (bl2 HB ao az) hb); have an := ak ((by rw [hg]; exact Nat.ne_of_lt (qZk (g := aq) (o := .cells #[.int .i64 ar, .slice (some aJ) ab.length aQ] 25 (0, 0)) (by refine blk_far ?_ ad.out _; refine blk_far ?_ ad.out _; refine blk_far ?_ ad.out _; refine blk_far ?_ ad.out _; refine blk_far ?_ ad.out _; exact ah.out)) : aq ≠ af)); have aL := ak ((by rw [hg]; exact Nat.ne_of_gt (qZk (g := aq) (o := .cells #[.int .i64 ar, .slice (some aJ) ab.length aQ] 25 (0, 0)) (by refine blk_far ?_ ad.out _; refine blk_far ?_ ad.out _; refine blk_far ?_ ad.out _; refine blk_far ?_ ad.out _; refine blk_far ?_ ad.out _; exact ah.out)) : af ≠ aq)); replace ah := ak (qZe (g := aq) (o := .cells #[.int .i64 ar, .slice (some aJ) ab.length aQ] 25 (0, 0)) (by refine blk_far ?_ ad.out _; refine blk_far ?_ ad.out _; refine blk_far ?_ ad.out _; refine blk_far ?_ ad.out _; refine blk_far ?_ ad.out _; exact ah.out) hb); have ap := ak ((by rw [hg]; exact Nat.ne_of_lt (qZk (g := ae) (o := .cells #[.int .i64 ((qZa ab aa).f0), .int .i64 ((qZa ab aa).f1), .int .i64 ((qZa ab aa).f2), .int .i64 ((qZa ab aa).f3), .int .i64 ((qZa ab aa).f4)] 58 (0, 0)) (by refine qZg (cs := #[.int .i64 ((qZa ab aa).f0), .int .i64 ((qZa ab aa).f1), .int .i64 ((qZa ab aa).f2), .int .i64 ((qZa ab aa).f3), .int .i64 0]) ?_ 4 _ rfl; refine qZg (cs := #[.int .i64 ((qZa ab aa).f0), .int .i64 ((qZa ab aa).f1), .int .i64 ((qZa ab aa).f2), .int .i64 0, .int .i64 0]) ?_ 3 _ rfl; refine qZg (cs := #[.int .i64 ((qZa ab aa).f0), .int .i64 ((qZa ab aa).f1), .int .i64 0, .int .i64 0, .int .i64 0]) ?_ 2 _ rfl; refine qZg (cs := #[.int .i64 ((qZa ab aa).f0), .int .i64 0, .int .i64 0, .int .i64 0, .int .i64 0]) ?_ 1 _ rfl; refine qZg (cs := #[.int .i64 0, .int .i64 0, .int .i64 0, .int .i64 0, .int .i64 0]) ?_ 0 _ rfl; exact ac.out)) : ae ≠ af)); have aN := ak ((by rw [hg]; exact Nat.ne_of_gt (qZk (g := ae) (o := .cells #[.int .i64 ((qZa ab aa).f0), .int .i64 ((qZa ab aa).f1), .int .i64 ((qZa ab aa).f2), .int .i64 ((qZa ab aa).f3), .int .i64 ((qZa ab aa).f4)] 58 (0, 0)) (by refine qZg (cs := #[.int .i64 ((qZa ab aa).f0), .int .i64 ((qZa ab aa).f1), .int .i64 ((qZa ab aa).f2), .int .i64 ((qZa ab aa).f3), .int .i64 0]) ?_ 4 _ rfl; refine qZg (cs := #[.int .i64 ((qZa ab aa).f0), .int .i64 ((qZa ab aa).f1), .int .i64 ((qZa ab aa).f2), .int .i64 0, .int .i64 0]) ?_ 3 _ rfl; refine qZg (cs := #[.int .i64 ((qZa ab aa).f0), .int .i64 ((qZa ab aa).f1), .int .i64 0, .int .i64 0, .int .i64 0]) ?_ 2 _ rfl; refine qZg (cs := #[.int .i64 ((qZa ab aa).f0), .int .i64 0, .int .i64 0, .int .i64 0, .int .i64 0]) ?_ 1 _ rfl; refine qZg (cs := #[.int .i64 0, .int .i64 0, .int .i64 0, .int .i64 0, .int .i64 0]) ?_ 0 _ rfl; exact ac.out)) : af ≠ ae)); replace ac := ak (qZe (g := ae) (o := .cells #[.int .i64 ((qZa ab aa).f0), .int .i64 ((qZa ab aa).f1), .int .i64 ((qZa ab aa).f2), .int .i64 ((qZa ab aa).f3), .int .i64 ((qZa ab aa).f4)] 58 (0, 0)) (by refine qZg (cs := #[.int .i64 ((qZa ab aa).f0), .int .i64 ((qZa ab aa).f1), .int .i64 ((qZa ab aa).f2), .int .i64 ((qZa ab aa).f3), .int .i64 0]) ?_ 4 _ rfl; refine qZg (cs := #[.int .i64 ((qZa ab aa).f0), .int .i64 ((qZa ab aa).f1), .int .i64 ((qZa ab aa).f2), .int .i64 0, .int .i64 0]) ?_ 3 _ rfl; refine qZg (cs := #[.int .i64 ((qZa ab aa).f0), .int .i64 ((qZa ab aa).f1), .int .i64 0, .int .i64 0, .int .i64 0]) ?_ 2 _ rfl; refine qZg (cs := #[.int .i64 ((qZa ab aa).f0), .int .i64 0, .int .i64 0, .int .i64 0, .int .i64 0]) ?_ 1 _ rfl; refine qZg (cs := #[.int .i64 0, .int .i64 0, .int .i64 0, .int .i64 0, .int .i64 0]) ?_ 0 _ rfl; exact ac.out) hb); clear hb hbox hg; have eh := aL.out; have ei := an.out; have ej := aN.out; have ek := ap.out; have cD := bc w26 al 0 (.int .i64 0) rfl; have cE := bc w26 al 1 (.int .i64 0) rfl; have cF := fz al 0; have cG := fz al 1))
    (try simp only [← aB])
    go_roundg k2
    case measure => have := HK1.out; have := HK2.out; omega
    case rel => exact ⟨(ag), (bp), (wrap64 (aa + 1)), (by rfl), (by rfl), H', ⟨by have := HK1.out; have := HK2.out; omega⟩, ⟨by (try simp only [aD]); (try simp only [aB]); exact Kd.R_mono (Kd.R_far (p := ⟨af, 1, none⟩) (Kd.R_far (p := ⟨af, 0, none⟩) (Kd.R_mono am.out (fun k_ hk => (⟨hk, hk.2⟩ : _ ∧ k_ ≠ af))) (fun _ hk => hk.2) (.int .i64 ((qZf ag ((qZa ab aa).f1)).f0))) (fun _ hk => hk.2) (.int .i64 ((qZf ag ((qZa ab aa).f1)).f1))) (fun _ hk => trivial)⟩, ⟨by (try simp only [aD]); (try simp only [aB]); refine blk_far ?_ an.out _; refine blk_far ?_ an.out _; exact ah.out⟩, ⟨bl3 HB ao az aT⟩⟩
   rw [if_neg c22] at H
   have c22b0 : (((qZf ag ((qZa ab aa).f1)).f0) == 99999) = false := beq_eq_false_iff_ne.mpr c22
   have c22b1 : (((qZf ag ((qZa ab aa).f1)).f0) != 99999) = true := bne_iff_ne.mpr c22
   by_cases c30 : 0 ≤ ((qZa ab aa).f0)
   rotate_left
   ·rw [if_neg c30] at H
    exact absurd H (by simp)
   rw [if_pos c30] at H
   have c30b0 : decide (0 ≤ ((qZa ab aa).f0)) = true := decide_eq_true c30
   clear c30
   by_cases c31 : ((qZa ab aa).f0) < (ag.length : Int)
   rotate_left
   ·rw [if_neg c31] at H
    exact absurd H (by simp)
   rw [if_pos c31] at H
   have c31b0 : decide (((qZa ab aa).f0) < (ag.length : Int)) = true := decide_eq_true c31
   clear c31
   replace H := Option.bind_eq_some_iff.mp H
   obtain ⟨bS, cm, H⟩ := H
   have A32 := ak cm
   clear cm
   by_cases c33 : bS = true
   rotate_left
   ·replace c33 := Bool.eq_false_iff.mpr c33
    subst c33
    rw [if_neg (show ¬ (false = true) by decide)] at H
    have H' := ak H
    clear H
    have aV : 0 ≤ (aa : Int) := oT (by (with_reducible assumption))
    have aW : aa < (ab.length : Int) := oT (by (with_reducible assumption))
    obtain ⟨aJ, bv, aE, aF, aG, aH, aI⟩ := qJi bq.out aa aV aW
    cases bv
    replace aE := hcb HB.out aE
    replace aF := hcb HB.out aF
    replace aG := hcb HB.out aG
    replace aH := hcb HB.out aH
    replace aI := hcb HB.out aI
    replace aV := eq_true aV
    replace aW := eq_true aW
    try go_wp2_with (first | ((with_reducible refine gate_dst (N := 8) rfl ?_); refine qZh ?hg (N := 8) ?hd (cs := #[.int .i64 0, .int .i64 0, .int .i64 0, .int .i64 0, .int .i64 0]) (t := 58) ?hr ?_; (case hd => rfl); (case hg => rfl); (case hr => (go_simp; done)); intro ae hg w50 hbox hb; replace am := ak (Kd.R_below (rk am) hb); have ac := ak (hbox); have bP := ak ((by rw [hg]; exact (qZc (bl1 HB ao)) : w.heap.size ≤ ae)); have az := ak ((by rw [hg]; exact (qZc (bl1 HB ao)) : w.heap.size ≤ ae)); replace HB := ak (qZd (bl1 HB ao) hb); have ad := ak ((by rw [hg]; exact Nat.ne_of_lt (qZk (bk ah)) : aq ≠ ae)); have aK := ak ((by rw [hg]; exact Nat.ne_of_gt (qZk (bk ah)) : ae ≠ aq)); replace ah := ak (qZe (bk ah) hb); clear hb hbox hg; have el := aK.out; have em := ad.out; have cH := bc w50 ac 0 (.int .i64 0) rfl; have cI := bc w50 ac 1 (.int .i64 0) rfl; have cJ := bc w50 ac 2 (.int .i64 0) rfl; have cK := bc w50 ac 3 (.int .i64 0) rfl; have cL := bc w50 ac 4 (.int .i64 0) rfl; have cN := fz ac 0; have cO := fz ac 1; have cP := fz ac 2; have cQ := fz ac 3; have cR := fz ac 4; have aX : 0 ≤ (((qZa ab aa).f1) : Int) := oT (by (with_reducible assumption)); have aY : ((qZa ab aa).f1) < (ag.length : Int) := oT (by (with_reducible assumption)); obtain ⟨aZ, bw, ai, aj⟩ := qXo (Kd.R_reads' am.out).2.2 ((qZa ab aa).f1) aX aY; obtain rfl : (⟨go6, 0, none⟩ : Addr) = aZ := (by injection bw); (simp only [qJf] at ai); (simp only [qJf] at aj); have au : (⟨go6, 0, none⟩ : Addr).block ≠ ae := Kd.own_blk (Kd.R_ne am.out ac.out (by decide)); have av : (⟨go6, 0, none⟩ : Addr).block ≠ ae := Kd.own_blk (Kd.R_ne am.out ac.out (by decide)); have aw : (⟨go6, 0, none⟩ : Addr).block ≠ ae := Kd.own_blk (Kd.R_ne am.out ac.out (by decide)); have ax : (⟨go6, 0, none⟩ : Addr).block ≠ ae := Kd.own_blk (Kd.R_ne am.out ac.out (by decide)); have ay : (⟨go6, 0, none⟩ : Addr).block ≠ ae := Kd.own_blk (Kd.R_ne am.out ac.out (by decide)); replace ai := (qQa (p := ⟨ae, 0, none⟩) (by exact au) (.int .i64 ((qZa ab aa).f0))).trans ai; replace aj := (qQa (p := ⟨ae, 0, none⟩) (by exact au) (.int .i64 ((qZa ab aa).f0))).trans aj; replace ai := (qQa (p := ⟨ae, 1, none⟩) (by exact av) (.int .i64 ((qZa ab aa).f1))).trans ai; replace aj := (qQa (p := ⟨ae, 1, none⟩) (by exact av) (.int .i64 ((qZa ab aa).f1))).trans aj; replace ai := (qQa (p := ⟨ae, 2, none⟩) (by exact aw) (.int .i64 ((qZa ab aa).f2))).trans ai; replace aj := (qQa (p := ⟨ae, 2, none⟩) (by exact aw) (.int .i64 ((qZa ab aa).f2))).trans aj; replace ai := (qQa (p := ⟨ae, 3, none⟩) (by exact ax) (.int .i64 ((qZa ab aa).f3))).trans ai; replace aj := (qQa (p := ⟨ae, 3, none⟩) (by exact ax) (.int .i64 ((qZa ab aa).f3))).trans aj; replace ai := (qQa (p := ⟨ae, 4, none⟩) (by exact ay) (.int .i64 ((qZa ab aa).f4))).trans ai; replace aj := (qQa (p := ⟨ae, 4, none⟩) (by exact ay) (.int .i64 ((qZa ab aa).f4))).trans aj; clear au; clear av; clear aw; clear ax; clear ay; replace aX := eq_true aX; replace aY := eq_true aY) | ((with_reducible refine gate_dst (N := 9) rfl ?_); refine qZh ?hg (N := 9) ?hd (cs := #[.int .i64 0, .int .i64 0]) (t := 114) ?hr ?_; (case hd => rfl); (case hg => rfl); (case hr => (go_simp; done)); intro af hg w53 hbox hb; replace am := ak (Kd.R_below (Kd.R_elderB (by exact (Kd.R_mono (Kd.R_far (p := ⟨ae, 4, none⟩) (Kd.R_far (p := ⟨ae, 3, none⟩) (Kd.R_far (p := ⟨ae, 2, none⟩) (Kd.R_far (p := ⟨ae, 1, none⟩) (Kd.R_far (p := ⟨ae, 0, none⟩) (Kd.R_types am.out ac.out (by decide)) (fun _ hk => hk.2) (.int .i64 ((qZa ab aa).f0))) (fun _ hk => hk.2) (.int .i64 ((qZa ab aa).f1))) (fun _ hk => hk.2) (.int .i64 ((qZa ab aa).f2))) (fun _ hk => hk.2) (.int .i64 ((qZa ab aa).f3))) (fun _ hk => hk.2) (.int .i64 ((qZa ab aa).f4))) (fun _ h_ => h_.1))) af (Nat.le_of_eq hg.symm)) hb); have al := ak (hbox); have bQ := ak ((by rw [hg]; exact (qZc (bl2 HB ao az)) : w.heap.size ≤ af)); have aT := ak ((by rw [hg]; exact (qZc (bl2 HB ao az)) : w.heap.size ≤ af)); replace HB := ak (qZd (bl2 HB ao az) hb); have an := ak ((by rw [hg]; exact Nat.ne_of_lt (qZk (g := aq) (o := .cells #[.int .i64 ar, .slice (some aJ) ab.length aQ] 25 (0, 0)) (by refine blk_far ?_ ad.out _; refine blk_far ?_ ad.out _; refine blk_far ?_ ad.out _; refine blk_far ?_ ad.out _; refine blk_far ?_ ad.out _; exact ah.out)) : aq ≠ af)); have aL := ak ((by rw [hg]; exact Nat.ne_of_gt (qZk (g := aq) (o := .cells #[.int .i64 ar, .slice (some aJ) ab.length aQ] 25 (0, 0)) (by refine blk_far ?_ ad.out _; refine blk_far ?_ ad.out _; refine blk_far ?_ ad.out _; refine blk_far ?_ ad.out _; refine blk_far ?_ ad.out _; exact ah.out)) : af ≠ aq)); replace ah := ak (qZe (g := aq) (o := .cells #[.int .i64 ar, .slice (some aJ) ab.length aQ] 25 (0, 0)) (by refine blk_far ?_ ad.out _; refine blk_far ?_ ad.out _; refine blk_far ?_ ad.out _; refine blk_far ?_ ad.out _; refine blk_far ?_ ad.out _; exact ah.out) hb); have ap := ak ((by rw [hg]; exact Nat.ne_of_lt (qZk (g := ae) (o := .cells #[.int .i64 ((qZa ab aa).f0), .int .i64 ((qZa ab aa).f1), .int .i64 ((qZa ab aa).f2), .int .i64 ((qZa ab aa).f3), .int .i64 ((qZa ab aa).f4)] 58 (0, 0)) (by refine qZg (cs := #[.int .i64 ((qZa ab aa).f0), .int .i64 ((qZa ab aa).f1), .int .i64 ((qZa ab aa).f2), .int .i64 ((qZa ab aa).f3), .int .i64 0]) ?_ 4 _ rfl; refine qZg (cs := #[.int .i64 ((qZa ab aa).f0), .int .i64 ((qZa ab aa).f1), .int .i64 ((qZa ab aa).f2), .int .i64 0, .int .i64 0]) ?_ 3 _ rfl; refine qZg (cs := #[.int .i64 ((qZa ab aa).f0), .int .i64 ((qZa ab aa).f1), .int .i64 0, .int .i64 0, .int .i64 0]) ?_ 2 _ rfl; refine qZg (cs := #[.int .i64 ((qZa ab aa).f0), .int .i64 0, .int .i64 0, .int .i64 0, .int .i64 0]) ?_ 1 _ rfl; refine qZg (cs := #[.int .i64 0, .int .i64 0, .int .i64 0, .int .i64 0, .int .i64 0]) ?_ 0 _ rfl; exact ac.out)) : ae ≠ af)); have aN := ak ((by rw [hg]; exact Nat.ne_of_gt (qZk (g := ae) (o := .cells #[.int .i64 ((qZa ab aa).f0), .int .i64 ((qZa ab aa).f1), .int .i64 ((qZa ab aa).f2), .int .i64 ((qZa ab aa).f3), .int .i64 ((qZa ab aa).f4)] 58 (0, 0)) (by refine qZg (cs := #[.int .i64 ((qZa ab aa).f0), .int .i64 ((qZa ab aa).f1), .int .i64 ((qZa ab aa).f2), .int .i64 ((qZa ab aa).f3), .int .i64 0]) ?_ 4 _ rfl; refine qZg (cs := #[.int .i64 ((qZa ab aa).f0), .int .i64 ((qZa ab aa).f1), .int .i64 ((qZa ab aa).f2), .int .i64 0, .int .i64 0]) ?_ 3 _ rfl; refine qZg (cs := #[.int .i64 ((qZa ab aa).f0), .int .i64 ((qZa ab aa).f1), .int .i64 0, .int .i64 0, .int .i64 0]) ?_ 2 _ rfl; refine qZg (cs := #[.int .i64 ((qZa ab aa).f0), .int .i64 0, .int .i64 0, .int .i64 0, .int .i64 0]) ?_ 1 _ rfl; refine qZg (cs := #[.int .i64 0, .int .i64 0, .int .i64 0, .int .i64 0, .int .i64 0]) ?_ 0 _ rfl; exact ac.out)) : af ≠ ae)); replace ac := ak (qZe (g := ae) (o := .cells #[.int .i64 ((qZa ab aa).f0), .int .i64 ((qZa ab aa).f1), .int .i64 ((qZa ab aa).f2), .int .i64 ((qZa ab aa).f3), .int .i64 ((qZa ab aa).f4)] 58 (0, 0)) (by refine qZg (cs := #[.int .i64 ((qZa ab aa).f0), .int .i64 ((qZa ab aa).f1), .int .i64 ((qZa ab aa).f2), .int .i64 ((qZa ab aa).f3), .int .i64 0]) ?_ 4 _ rfl; refine qZg (cs := #[.int .i64 ((qZa ab aa).f0), .int .i64 ((qZa ab aa).f1), .int .i64 ((qZa ab aa).f2), .int .i64 0, .int .i64 0]) ?_ 3 _ rfl; refine qZg (cs := #[.int .i64 ((qZa ab aa).f0), .int .i64 ((qZa ab aa).f1), .int .i64 0, .int .i64 0, .int .i64 0]) ?_ 2 _ rfl; refine qZg (cs := #[.int .i64 ((qZa ab aa).f0), .int .i64 0, .int .i64 0, .int .i64 0, .int .i64 0]) ?_ 1 _ rfl; refine qZg (cs := #[.int .i64 0, .int .i64 0, .int .i64 0, .int .i64 0, .int .i64 0]) ?_ 0 _ rfl; exact ac.out) hb); clear hb hbox hg; have en := aL.out; have eo := an.out; have ep := aN.out; have eq := ap.out; have cS := bc w53 al 0 (.int .i64 0) rfl; have cT := bc w53 al 1 (.int .i64 0) rfl; have cU := fz al 0; have cV := fz al 1; have cW := bc w53 ac 0 (.int .i64 ((qZa ab aa).f0)) rfl; have cX := bc w53 ac 1 (.int .i64 ((qZa ab aa).f1)) rfl; have cY := bc w53 ac 2 (.int .i64 ((qZa ab aa).f2)) rfl; have cZ := bc w53 ac 3 (.int .i64 ((qZa ab aa).f3)) rfl; have da := bc w53 ac 4 (.int .i64 ((qZa ab aa).f4)) rfl; have db := fz ac 0; have dc := fz ac 1; have dd := fz ac 2; have de := fz ac 3; have df := fz ac 4))
    have n0_ : Aside0 (Kd.R k114 114 ((((w53.setCell ⟨af, 0, none⟩ (.int .i64 ((qZf ag ((qZa ab aa).f1)).f0))).setCell ⟨af, 1, none⟩ (.int .i64 ((qZf ag ((qZa ab aa).f1)).f1))).setCell ⟨af, 0, none⟩ (.int .i64 (wrap64 (((qZf ag ((qZa ab aa).f1)).f0) + ((qZa ab aa).f2))))).setCell ⟨af, 1, none⟩ (.int .i64 (wrap64 (((qZf ag ((qZa ab aa).f1)).f1) + 1)))) w.heap.size (fun k_ => k_ ≠ af) (.slice (some ⟨go6, 0, none⟩) ag.length co6) ag) := ⟨by exact Kd.R_mono (Kd.R_far (p := ⟨af, 1, none⟩) (Kd.R_far (p := ⟨af, 0, none⟩) (Kd.R_far (p := ⟨af, 1, none⟩) (Kd.R_far (p := ⟨af, 0, none⟩) (Kd.R_mono am.out (fun k_ hk => (⟨hk, hk.2⟩ : _ ∧ k_ ≠ af))) (fun _ hk => hk.2) (.int .i64 ((qZf ag ((qZa ab aa).f1)).f0))) (fun _ hk => hk.2) (.int .i64 ((qZf ag ((qZa ab aa).f1)).f1))) (fun _ hk => hk.2) (.int .i64 (wrap64 (((qZf ag ((qZa ab aa).f1)).f0) + ((qZa ab aa).f2))))) (fun _ hk => hk.2) (.int .i64 (wrap64 (((qZf ag ((qZa ab aa).f1)).f1) + 1)))) (fun _ hk => hk.1.2)⟩
    have n1_ : Aside0 (((((w53.setCell ⟨af, 0, none⟩ (.int .i64 ((qZf ag ((qZa ab aa).f1)).f0))).setCell ⟨af, 1, none⟩ (.int .i64 ((qZf ag ((qZa ab aa).f1)).f1))).setCell ⟨af, 0, none⟩ (.int .i64 (wrap64 (((qZf ag ((qZa ab aa).f1)).f0) + ((qZa ab aa).f2))))).setCell ⟨af, 1, none⟩ (.int .i64 (wrap64 (((qZf ag ((qZa ab aa).f1)).f1) + 1)))).heap[aq]? = some (.cells #[.int .i64 ar, .slice (some aJ) ab.length aQ] 25 (0, 0))) := ⟨by refine blk_far ?_ an.out _; refine blk_far ?_ an.out _; refine blk_far ?_ an.out _; refine blk_far ?_ an.out _; exact ah.out⟩
    have n2_ : Aside0 (((((w53.setCell ⟨af, 0, none⟩ (.int .i64 ((qZf ag ((qZa ab aa).f1)).f0))).setCell ⟨af, 1, none⟩ (.int .i64 ((qZf ag ((qZa ab aa).f1)).f1))).setCell ⟨af, 0, none⟩ (.int .i64 (wrap64 (((qZf ag ((qZa ab aa).f1)).f0) + ((qZa ab aa).f2))))).setCell ⟨af, 1, none⟩ (.int .i64 (wrap64 (((qZf ag ((qZa ab aa).f1)).f1) + 1)))).heap[ae]? = some (.cells #[.int .i64 ((qZa ab aa).f0), .int .i64 ((qZa ab aa).f1), .int .i64 ((qZa ab aa).f2), .int .i64 ((qZa ab aa).f3), .int .i64 ((qZa ab aa).f4)] 58 (0, 0))) := ⟨by refine blk_far ?_ ap.out _; refine blk_far ?_ ap.out _; refine blk_far ?_ ap.out _; refine blk_far ?_ ap.out _; exact ac.out⟩
    have n3_ : Aside0 (((((w53.setCell ⟨af, 0, none⟩ (.int .i64 ((qZf ag ((qZa ab aa).f1)).f0))).setCell ⟨af, 1, none⟩ (.int .i64 ((qZf ag ((qZa ab aa).f1)).f1))).setCell ⟨af, 0, none⟩ (.int .i64 (wrap64 (((qZf ag ((qZa ab aa).f1)).f0) + ((qZa ab aa).f2))))).setCell ⟨af, 1, none⟩ (.int .i64 (wrap64 (((qZf ag ((qZa ab aa).f1)).f1) + 1)))).heap[af]? = some (.cells #[.int .i64 (wrap64 (((qZf ag ((qZa ab aa).f1)).f0) + ((qZa ab aa).f2))), .int .i64 (wrap64 (((qZf ag ((qZa ab aa).f1)).f1) + 1))] 114 (0, 0))) := ⟨by refine qZg (cs := #[.int .i64 (wrap64 (((qZf ag ((qZa ab aa).f1)).f0) + ((qZa ab aa).f2))), .int .i64 ((qZf ag ((qZa ab aa).f1)).f1)]) ?_ 1 _ rfl; refine qZg (cs := #[.int .i64 ((qZf ag ((qZa ab aa).f1)).f0), .int .i64 ((qZf ag ((qZa ab aa).f1)).f1)]) ?_ 0 _ rfl; refine qZg (cs := #[.int .i64 ((qZf ag ((qZa ab aa).f1)).f0), .int .i64 0]) ?_ 1 _ rfl; refine qZg (cs := #[.int .i64 0, .int .i64 0]) ?_ 0 _ rfl; exact al.out⟩
    have n4_ : Aside0 (Below w.heap.size w ((((w53.setCell ⟨af, 0, none⟩ (.int .i64 ((qZf ag ((qZa ab aa).f1)).f0))).setCell ⟨af, 1, none⟩ (.int .i64 ((qZf ag ((qZa ab aa).f1)).f1))).setCell ⟨af, 0, none⟩ (.int .i64 (wrap64 (((qZf ag ((qZa ab aa).f1)).f0) + ((qZa ab aa).f2))))).setCell ⟨af, 1, none⟩ (.int .i64 (wrap64 (((qZf ag ((qZa ab aa).f1)).f1) + 1))))) := ⟨bl3 HB ao az aT⟩
    (try clear am)
    (try clear ah)
    (try clear ac)
    (try clear al)
    (try clear HB)
    generalize ((((w53.setCell ⟨af, 0, none⟩ (.int .i64 ((qZf ag ((qZa ab aa).f1)).f0))).setCell ⟨af, 1, none⟩ (.int .i64 ((qZf ag ((qZa ab aa).f1)).f1))).setCell ⟨af, 0, none⟩ (.int .i64 (wrap64 (((qZf ag ((qZa ab aa).f1)).f0) + ((qZa ab aa).f2))))).setCell ⟨af, 1, none⟩ (.int .i64 (wrap64 (((qZf ag ((qZa ab aa).f1)).f1) + 1)))) = w58 at n0_ n1_ n2_ n3_ n4_ ⊢
    have am := n0_
    have ah := n1_
    have ac := n2_
    have al := n3_
    have HB := n4_
    clear n0_ n1_ n2_ n3_ n4_
    replace am := ak (Kd.R_drew am.out)
    replace ah := ak (qZp ah.out)
    replace ac := ak (qZp ac.out)
    replace al := ak (qZp al.out)
    replace HB := ak (qQg HB.out)
    have be : 0 ≤ (((qZa ab aa).f0) : Int) := oT (by (with_reducible assumption))
    have bf : ((qZa ab aa).f0) < (ag.length : Int) := oT (by (with_reducible assumption))
    obtain ⟨bx, bZ, aO, aP⟩ := qXo (Kd.R_reads' am.out).2.2 ((qZa ab aa).f0) be bf
    obtain rfl : (⟨go6, 0, none⟩ : Addr) = bx := (by injection bZ)
    (simp only [qJf] at aO)
    (simp only [qJf] at aP)
    replace be := eq_true be
    replace bf := eq_true bf
    refine qJj (n := 7) (S := fun w' => w'.cell? ⟨af, 0, none⟩ = some (.int .i64 (wrap64 (((qZf ag ((qZa ab aa).f1)).f0) + ((qZa ab aa).f2)))) ∧ w'.cell? ⟨af, 1, none⟩ = some (.int .i64 (wrap64 (((qZf ag ((qZa ab aa).f1)).f1) + 1))) ∧ w'.cell? ⟨ae, 0, none⟩ = some (.int .i64 ((qZa ab aa).f0)) ∧ w'.cell? ⟨ae, 1, none⟩ = some (.int .i64 ((qZa ab aa).f1)) ∧ w'.cell? ⟨ae, 2, none⟩ = some (.int .i64 ((qZa ab aa).f2)) ∧ w'.cell? ⟨ae, 3, none⟩ = some (.int .i64 ((qZa ab aa).f3)) ∧ w'.cell? ⟨ae, 4, none⟩ = some (.int .i64 ((qZa ab aa).f4)) ∧ w'.cell? ⟨go6, (((qZa ab aa).f0)).toNat * 2, none⟩ = some (.int .i64 ((qZf ag ((qZa ab aa).f0)).f0)) ∧ w'.cell? ⟨go6, (((qZa ab aa).f0)).toNat * 2 + 1, none⟩ = some (.int .i64 ((qZf ag ((qZa ab aa).f0)).f1))) (ds := []) #[false, false, false, false, false, false, false] (by kernel_rfl) rfl (by kernel_rfl) ⟨(qZb al.out 0).trans rfl, (qZb al.out 1).trans rfl, (qZb ac.out 0).trans rfl, (qZb ac.out 1).trans rfl, (qZb ac.out 2).trans rfl, (qZb ac.out 3).trans rfl, (qZb ac.out 4).trans rfl, aO, aP⟩ (fun hHeld => ?_)
    generalize w58.drew = w59 at am ah ac al HB aO aP hHeld ⊢
    refine qZm (i := 1) (N := some 45) (v := ?_) (a' := ?_) #[false, true, false, false, false, false, false] rfl rfl (by kernel_rfl) (fun _ _ _ h => h) (Or.inl ⟨by rfl, ?_⟩) ?_ ?_
    rotate_left
    ·intro w'
     go_simp
     with_reducible rfl
    rotate_left
    ·simp only [SX]
     rfl
    refine qZm (i := 2) (N := some 46) (v := ?_) (a' := ?_) #[false, true, true, false, false, false, false] rfl rfl (by kernel_rfl) (fun _ _ _ h => h) (Or.inl ⟨by rfl, ?_⟩) ?_ ?_
    rotate_left
    ·intro w'
     go_simp
     with_reducible rfl
    rotate_left
    ·simp only [SX]
     rfl
    refine take_ (i := 0) (N := some 44) (v := ?_) (a' := ?_) #[true, true, true, false, false, false, false] rfl rfl (by kernel_rfl) (fun _ _ _ h => h) (Or.inl ⟨by rfl, ?_⟩) hHeld ?_ ?_
    rotate_left
    ·rintro w' ⟨s0, s1, s2, s3, s4, s5, s6, s7, s8⟩
     go_simp
     with_reducible rfl
    rotate_left
    ·simp only [SX]
     rfl
    refine take_ (i := 3) (N := some 47) (v := ?_) (a' := ?_) #[true, true, true, true, false, false, false] rfl rfl (by kernel_rfl) (fun _ _ _ h => h) (Or.inl ⟨by rfl, ?_⟩) hHeld ?_ ?_
    rotate_left
    ·rintro w' ⟨s0, s1, s2, s3, s4, s5, s6, s7, s8⟩
     go_simp
     with_reducible rfl
    rotate_left
    ·simp only [SX]
     rfl
    refine qZm (i := 4) (N := some 48) (v := ?_) (a' := ?_) #[true, true, true, true, true, false, false] rfl rfl (by kernel_rfl) (fun _ _ _ h => h) (Or.inl ⟨by rfl, ?_⟩) ?_ ?_
    rotate_left
    ·intro w'
     go_simp
     with_reducible rfl
    rotate_left
    ·simp only [SX]
     rfl
    refine take_ (i := 5) (N := some 49) (v := ?_) (a' := ?_) #[true, true, true, true, true, true, false] rfl rfl (by kernel_rfl) (fun _ _ _ h => h) (Or.inl ⟨by rfl, ?_⟩) hHeld ?_ ?_
    rotate_left
    ·rintro w' ⟨s0, s1, s2, s3, s4, s5, s6, s7, s8⟩
     go_simp
     with_reducible rfl
    rotate_left
    ·simp only [SX]
     rfl
    refine one_ (i := 6) (N := some 50) #[true, true, true, true, true, true, true] rfl rfl (by kernel_rfl) (by decide) (fun K hK => ?_)
    refine qXc Try.func119 (by kernel_rfl) rfl #[.agg #[.int .i64 (wrap64 (((qZf ag ((qZa ab aa).f1)).f0) + ((qZa ab aa).f2))), .int .i64 (wrap64 (((qZf ag ((qZa ab aa).f1)).f1) + 1))], .agg #[.int .i64 ((qZf ag ((qZa ab aa).f0)).f0), .int .i64 ((qZf ag ((qZa ab aa).f0)).f1)]] (by rfl) rfl rfl (by (try simp only [List.map_toArray, List.map_cons, List.map_nil]); rfl) ?_
    with_reducible refine (impl_measure_less.calls (wrap64 (((qZf ag ((qZa ab aa).f1)).f0) + ((qZa ab aa).f2))) (wrap64 (((qZf ag ((qZa ab aa).f1)).f1) + 1)) ((qZf ag ((qZa ab aa).f0)).f0) ((qZf ag ((qZa ab aa).f0)).f1) false _ A32.out).mono ?_
    rintro e w60 ⟨rfl, hb⟩
    have ca := (hb.cell (World.block_lt_of_cell? _ _ (hHeld.2.2.2.2.2.2.2.1))).trans (hHeld.2.2.2.2.2.2.2.1)
    have cb := (hb.cell (World.block_lt_of_cell? _ _ (hHeld.2.2.2.2.2.2.2.2))).trans (hHeld.2.2.2.2.2.2.2.2)
    refine ⟨_, rfl, ?_⟩
    replace am := ak (Kd.R_below (rk am) hb)
    replace ah := ak (qZe (bk ah) hb)
    replace ac := ak (qZe (bk ac) hb)
    replace al := ak (qZe (bk al) hb)
    replace HB := ak (qZd (bl3 HB ao az aT) hb)
    (try clear hb)
    (try clear hb2)
    (try clear hk)
    (try clear hi)
    refine hK.out _ _ ⟨(qZb al.out 0).trans rfl, (qZb al.out 1).trans rfl, (qZb ac.out 0).trans rfl, (qZb ac.out 1).trans rfl, (qZb ac.out 2).trans rfl, (qZb ac.out 3).trans rfl, (qZb ac.out 4).trans rfl, ca, cb⟩ (fun hHeld => ?_)
    clear hK K
    refine qJd (a' := ?_) ?_ ?_
    rotate_left
    ·show Act.put _ (some 50) _ = _
     simp only [SX]
     rfl
    refine qXe (by kernel_rfl) ?_
    try go_wp2
    (try simp only [← aB])
    go_roundg k2
    case measure => have := HK1.out; have := HK2.out; omega
    case rel => exact ⟨(ag), (bp), (wrap64 (aa + 1)), (by rfl), (by rfl), H', ⟨by have := HK1.out; have := HK2.out; omega⟩, ⟨by (try simp only [aD]); (try simp only [aB]); exact Kd.R_mono am.out (fun _ hk => trivial)⟩, ⟨by (try simp only [aD]); (try simp only [aB]); exact ah.out⟩, ⟨bl3 HB ao az aT⟩⟩
   subst c33
   rw [if_pos rfl] at H
   obtain ⟨cc, bz⟩ : ∃ y_ : List (S114), y_ = (ag.set (((qZa ab aa).f0) : Int).toNat (⟨wrap64 (((qZf ag ((qZa ab aa).f1)).f0) + ((qZa ab aa).f2)), wrap64 (((qZf ag ((qZa ab aa).f1)).f1) + 1)⟩ : S114)) := ⟨_, rfl⟩
   replace H : (impl_Net_toward.l1 k2 cc true ab (ab.length : Int) (wrap64 (aa + 1)) ar ab) = some r := by (rw [bz]; with_reducible exact H)
   have cn := ak bz
   clear bz
   have H' := ak H
   clear H
   have aV : 0 ≤ (aa : Int) := oT (by (with_reducible assumption))
   have aW : aa < (ab.length : Int) := oT (by (with_reducible assumption))
   obtain ⟨aJ, bv, aE, aF, aG, aH, aI⟩ := qJi bq.out aa aV aW
   cases bv
   replace aE := hcb HB.out aE
   replace aF := hcb HB.out aF
   replace aG := hcb HB.out aG
   replace aH := hcb HB.out aH
   replace aI := hcb HB.out aI
   replace aV := eq_true aV
   replace aW := eq_true aW
   try go_wp2_with (first | ((with_reducible refine gate_dst (N := 8) rfl ?_); refine qZh ?hg (N := 8) ?hd (cs := #[.int .i64 0, .int .i64 0, .int .i64 0, .int .i64 0, .int .i64 0]) (t := 58) ?hr ?_; (case hd => rfl); (case hg => rfl); (case hr => (go_simp; done)); intro ae hg w35 hbox hb; replace am := ak (Kd.R_below (rk am) hb); have ac := ak (hbox); have bP := ak ((by rw [hg]; exact (qZc (bl1 HB ao)) : w.heap.size ≤ ae)); have az := ak ((by rw [hg]; exact (qZc (bl1 HB ao)) : w.heap.size ≤ ae)); replace HB := ak (qZd (bl1 HB ao) hb); have ad := ak ((by rw [hg]; exact Nat.ne_of_lt (qZk (bk ah)) : aq ≠ ae)); have aK := ak ((by rw [hg]; exact Nat.ne_of_gt (qZk (bk ah)) : ae ≠ aq)); replace ah := ak (qZe (bk ah) hb); clear hb hbox hg; have er := aK.out; have es := ad.out; have dg := bc w35 ac 0 (.int .i64 0) rfl; have dh := bc w35 ac 1 (.int .i64 0) rfl; have di := bc w35 ac 2 (.int .i64 0) rfl; have dj := bc w35 ac 3 (.int .i64 0) rfl; have dk := bc w35 ac 4 (.int .i64 0) rfl; have dl := fz ac 0; have dm := fz ac 1; have dn := fz ac 2; have dp := fz ac 3; have dq := fz ac 4; have aX : 0 ≤ (((qZa ab aa).f1) : Int) := oT (by (with_reducible assumption)); have aY : ((qZa ab aa).f1) < (ag.length : Int) := oT (by (with_reducible assumption)); obtain ⟨aZ, bw, ai, aj⟩ := qXo (Kd.R_reads' am.out).2.2 ((qZa ab aa).f1) aX aY; obtain rfl : (⟨go6, 0, none⟩ : Addr) = aZ := (by injection bw); (simp only [qJf] at ai); (simp only [qJf] at aj); have au : (⟨go6, 0, none⟩ : Addr).block ≠ ae := Kd.own_blk (Kd.R_ne am.out ac.out (by decide)); have av : (⟨go6, 0, none⟩ : Addr).block ≠ ae := Kd.own_blk (Kd.R_ne am.out ac.out (by decide)); have aw : (⟨go6, 0, none⟩ : Addr).block ≠ ae := Kd.own_blk (Kd.R_ne am.out ac.out (by decide)); have ax : (⟨go6, 0, none⟩ : Addr).block ≠ ae := Kd.own_blk (Kd.R_ne am.out ac.out (by decide)); have ay : (⟨go6, 0, none⟩ : Addr).block ≠ ae := Kd.own_blk (Kd.R_ne am.out ac.out (by decide)); replace ai := (qQa (p := ⟨ae, 0, none⟩) (by exact au) (.int .i64 ((qZa ab aa).f0))).trans ai; replace aj := (qQa (p := ⟨ae, 0, none⟩) (by exact au) (.int .i64 ((qZa ab aa).f0))).trans aj; replace ai := (qQa (p := ⟨ae, 1, none⟩) (by exact av) (.int .i64 ((qZa ab aa).f1))).trans ai; replace aj := (qQa (p := ⟨ae, 1, none⟩) (by exact av) (.int .i64 ((qZa ab aa).f1))).trans aj; replace ai := (qQa (p := ⟨ae, 2, none⟩) (by exact aw) (.int .i64 ((qZa ab aa).f2))).trans ai; replace aj := (qQa (p := ⟨ae, 2, none⟩) (by exact aw) (.int .i64 ((qZa ab aa).f2))).trans aj; replace ai := (qQa (p := ⟨ae, 3, none⟩) (by exact ax) (.int .i64 ((qZa ab aa).f3))).trans ai; replace aj := (qQa (p := ⟨ae, 3, none⟩) (by exact ax) (.int .i64 ((qZa ab aa).f3))).trans aj; replace ai := (qQa (p := ⟨ae, 4, none⟩) (by exact ay) (.int .i64 ((qZa ab aa).f4))).trans ai; replace aj := (qQa (p := ⟨ae, 4, none⟩) (by exact ay) (.int .i64 ((qZa ab aa).f4))).trans aj; clear au; clear av; clear aw; clear ax; clear ay; replace aX := eq_true aX; replace aY := eq_true aY) | ((with_reducible refine gate_dst (N := 9) rfl ?_); refine qZh ?hg (N := 9) ?hd (cs := #[.int .i64 0, .int .i64 0]) (t := 114) ?hr ?_; (case hd => rfl); (case hg => rfl); (case hr => (go_simp; done)); intro af hg w38 hbox hb; replace am := ak (Kd.R_below (Kd.R_elderB (by exact (Kd.R_mono (Kd.R_far (p := ⟨ae, 4, none⟩) (Kd.R_far (p := ⟨ae, 3, none⟩) (Kd.R_far (p := ⟨ae, 2, none⟩) (Kd.R_far (p := ⟨ae, 1, none⟩) (Kd.R_far (p := ⟨ae, 0, none⟩) (Kd.R_types am.out ac.out (by decide)) (fun _ hk => hk.2) (.int .i64 ((qZa ab aa).f0))) (fun _ hk => hk.2) (.int .i64 ((qZa ab aa).f1))) (fun _ hk => hk.2) (.int .i64 ((qZa ab aa).f2))) (fun _ hk => hk.2) (.int .i64 ((qZa ab aa).f3))) (fun _ hk => hk.2) (.int .i64 ((qZa ab aa).f4))) (fun _ h_ => h_.1))) af (Nat.le_of_eq hg.symm)) hb); have al := ak (hbox); have bQ := ak ((by rw [hg]; exact (qZc (bl2 HB ao az)) : w.heap.size ≤ af)); have aT := ak ((by rw [hg]; exact (qZc (bl2 HB ao az)) : w.heap.size ≤ af)); replace HB := ak (qZd (bl2 HB ao az) hb); have an := ak ((by rw [hg]; exact Nat.ne_of_lt (qZk (g := aq) (o := .cells #[.int .i64 ar, .slice (some aJ) ab.length aQ] 25 (0, 0)) (by refine blk_far ?_ ad.out _; refine blk_far ?_ ad.out _; refine blk_far ?_ ad.out _; refine blk_far ?_ ad.out _; refine blk_far ?_ ad.out _; exact ah.out)) : aq ≠ af)); have aL := ak ((by rw [hg]; exact Nat.ne_of_gt (qZk (g := aq) (o := .cells #[.int .i64 ar, .slice (some aJ) ab.length aQ] 25 (0, 0)) (by refine blk_far ?_ ad.out _; refine blk_far ?_ ad.out _; refine blk_far ?_ ad.out _; refine blk_far ?_ ad.out _; refine blk_far ?_ ad.out _; exact ah.out)) : af ≠ aq)); replace ah := ak (qZe (g := aq) (o := .cells #[.int .i64 ar, .slice (some aJ) ab.length aQ] 25 (0, 0)) (by refine blk_far ?_ ad.out _; refine blk_far ?_ ad.out _; refine blk_far ?_ ad.out _; refine blk_far ?_ ad.out _; refine blk_far ?_ ad.out _; exact ah.out) hb); have ap := ak ((by rw [hg]; exact Nat.ne_of_lt (qZk (g := ae) (o := .cells #[.int .i64 ((qZa ab aa).f0), .int .i64 ((qZa ab aa).f1), .int .i64 ((qZa ab aa).f2), .int .i64 ((qZa ab aa).f3), .int .i64 ((qZa ab aa).f4)] 58 (0, 0)) (by refine qZg (cs := #[.int .i64 ((qZa ab aa).f0), .int .i64 ((qZa ab aa).f1), .int .i64 ((qZa ab aa).f2), .int .i64 ((qZa ab aa).f3), .int .i64 0]) ?_ 4 _ rfl; refine qZg (cs := #[.int .i64 ((qZa ab aa).f0), .int .i64 ((qZa ab aa).f1), .int .i64 ((qZa ab aa).f2), .int .i64 0, .int .i64 0]) ?_ 3 _ rfl; refine qZg (cs := #[.int .i64 ((qZa ab aa).f0), .int .i64 ((qZa ab aa).f1), .int .i64 0, .int .i64 0, .int .i64 0]) ?_ 2 _ rfl; refine qZg (cs := #[.int .i64 ((qZa ab aa).f0), .int .i64 0, .int .i64 0, .int .i64 0, .int .i64 0]) ?_ 1 _ rfl; refine qZg (cs := #[.int .i64 0, .int .i64 0, .int .i64 0, .int .i64 0, .int .i64 0]) ?_ 0 _ rfl; exact ac.out)) : ae ≠ af)); have aN := ak ((by rw [hg]; exact Nat.ne_of_gt (qZk (g := ae) (o := .cells #[.int .i64 ((qZa ab aa).f0), .int .i64 ((qZa ab aa).f1), .int .i64 ((qZa ab aa).f2), .int .i64 ((qZa ab aa).f3), .int .i64 ((qZa ab aa).f4)] 58 (0, 0)) (by refine qZg (cs := #[.int .i64 ((qZa ab aa).f0), .int .i64 ((qZa ab aa).f1), .int .i64 ((qZa ab aa).f2), .int .i64 ((qZa ab aa).f3), .int .i64 0]) ?_ 4 _ rfl; refine qZg (cs := #[.int .i64 ((qZa ab aa).f0), .int .i64 ((qZa ab aa).f1), .int .i64 ((qZa ab aa).f2), .int .i64 0, .int .i64 0]) ?_ 3 _ rfl; refine qZg (cs := #[.int .i64 ((qZa ab aa).f0), .int .i64 ((qZa ab aa).f1), .int .i64 0, .int .i64 0, .int .i64 0]) ?_ 2 _ rfl; refine qZg (cs := #[.int .i64 ((qZa ab aa).f0), .int .i64 0, .int .i64 0, .int .i64 0, .int .i64 0]) ?_ 1 _ rfl; refine qZg (cs := #[.int .i64 0, .int .i64 0, .int .i64 0, .int .i64 0, .int .i64 0]) ?_ 0 _ rfl; exact ac.out)) : af ≠ ae)); replace ac := ak (qZe (g := ae) (o := .cells #[.int .i64 ((qZa ab aa).f0), .int .i64 ((qZa ab aa).f1), .int .i64 ((qZa ab aa).f2), .int .i64 ((qZa ab aa).f3), .int .i64 ((qZa ab aa).f4)] 58 (0, 0)) (by refine qZg (cs := #[.int .i64 ((qZa ab aa).f0), .int .i64 ((qZa ab aa).f1), .int .i64 ((qZa ab aa).f2), .int .i64 ((qZa ab aa).f3), .int .i64 0]) ?_ 4 _ rfl; refine qZg (cs := #[.int .i64 ((qZa ab aa).f0), .int .i64 ((qZa ab aa).f1), .int .i64 ((qZa ab aa).f2), .int .i64 0, .int .i64 0]) ?_ 3 _ rfl; refine qZg (cs := #[.int .i64 ((qZa ab aa).f0), .int .i64 ((qZa ab aa).f1), .int .i64 0, .int .i64 0, .int .i64 0]) ?_ 2 _ rfl; refine qZg (cs := #[.int .i64 ((qZa ab aa).f0), .int .i64 0, .int .i64 0, .int .i64 0, .int .i64 0]) ?_ 1 _ rfl; refine qZg (cs := #[.int .i64 0, .int .i64 0, .int .i64 0, .int .i64 0, .int .i64 0]) ?_ 0 _ rfl; exact ac.out) hb); clear hb hbox hg; have et := aL.out; have eu := an.out; have ev := aN.out; have ew := ap.out; have dr := bc w38 al 0 (.int .i64 0) rfl; have dt := bc w38 al 1 (.int .i64 0) rfl; have du := fz al 0; have dv := fz al 1; have dw := bc w38 ac 0 (.int .i64 ((qZa ab aa).f0)) rfl; have dx := bc w38 ac 1 (.int .i64 ((qZa ab aa).f1)) rfl; have dy := bc w38 ac 2 (.int .i64 ((qZa ab aa).f2)) rfl; have dz := bc w38 ac 3 (.int .i64 ((qZa ab aa).f3)) rfl; have dA := bc w38 ac 4 (.int .i64 ((qZa ab aa).f4)) rfl; have dB := fz ac 0; have dC := fz ac 1; have dD := fz ac 2; have dE := fz ac 3; have dF := fz ac 4))
   have n0_ : Aside0 (Kd.R k114 114 ((((w38.setCell ⟨af, 0, none⟩ (.int .i64 ((qZf ag ((qZa ab aa).f1)).f0))).setCell ⟨af, 1, none⟩ (.int .i64 ((qZf ag ((qZa ab aa).f1)).f1))).setCell ⟨af, 0, none⟩ (.int .i64 (wrap64 (((qZf ag ((qZa ab aa).f1)).f0) + ((qZa ab aa).f2))))).setCell ⟨af, 1, none⟩ (.int .i64 (wrap64 (((qZf ag ((qZa ab aa).f1)).f1) + 1)))) w.heap.size (fun k_ => k_ ≠ af) (.slice (some ⟨go6, 0, none⟩) ag.length co6) ag) := ⟨by exact Kd.R_mono (Kd.R_far (p := ⟨af, 1, none⟩) (Kd.R_far (p := ⟨af, 0, none⟩) (Kd.R_far (p := ⟨af, 1, none⟩) (Kd.R_far (p := ⟨af, 0, none⟩) (Kd.R_mono am.out (fun k_ hk => (⟨hk, hk.2⟩ : _ ∧ k_ ≠ af))) (fun _ hk => hk.2) (.int .i64 ((qZf ag ((qZa ab aa).f1)).f0))) (fun _ hk => hk.2) (.int .i64 ((qZf ag ((qZa ab aa).f1)).f1))) (fun _ hk => hk.2) (.int .i64 (wrap64 (((qZf ag ((qZa ab aa).f1)).f0) + ((qZa ab aa).f2))))) (fun _ hk => hk.2) (.int .i64 (wrap64 (((qZf ag ((qZa ab aa).f1)).f1) + 1)))) (fun _ hk => hk.1.2)⟩
   have n1_ : Aside0 (((((w38.setCell ⟨af, 0, none⟩ (.int .i64 ((qZf ag ((qZa ab aa).f1)).f0))).setCell ⟨af, 1, none⟩ (.int .i64 ((qZf ag ((qZa ab aa).f1)).f1))).setCell ⟨af, 0, none⟩ (.int .i64 (wrap64 (((qZf ag ((qZa ab aa).f1)).f0) + ((qZa ab aa).f2))))).setCell ⟨af, 1, none⟩ (.int .i64 (wrap64 (((qZf ag ((qZa ab aa).f1)).f1) + 1)))).heap[aq]? = some (.cells #[.int .i64 ar, .slice (some aJ) ab.length aQ] 25 (0, 0))) := ⟨by refine blk_far ?_ an.out _; refine blk_far ?_ an.out _; refine blk_far ?_ an.out _; refine blk_far ?_ an.out _; exact ah.out⟩
   have n2_ : Aside0 (((((w38.setCell ⟨af, 0, none⟩ (.int .i64 ((qZf ag ((qZa ab aa).f1)).f0))).setCell ⟨af, 1, none⟩ (.int .i64 ((qZf ag ((qZa ab aa).f1)).f1))).setCell ⟨af, 0, none⟩ (.int .i64 (wrap64 (((qZf ag ((qZa ab aa).f1)).f0) + ((qZa ab aa).f2))))).setCell ⟨af, 1, none⟩ (.int .i64 (wrap64 (((qZf ag ((qZa ab aa).f1)).f1) + 1)))).heap[ae]? = some (.cells #[.int .i64 ((qZa ab aa).f0), .int .i64 ((qZa ab aa).f1), .int .i64 ((qZa ab aa).f2), .int .i64 ((qZa ab aa).f3), .int .i64 ((qZa ab aa).f4)] 58 (0, 0))) := ⟨by refine blk_far ?_ ap.out _; refine blk_far ?_ ap.out _; refine blk_far ?_ ap.out _; refine blk_far ?_ ap.out _; exact ac.out⟩
   have n3_ : Aside0 (((((w38.setCell ⟨af, 0, none⟩ (.int .i64 ((qZf ag ((qZa ab aa).f1)).f0))).setCell ⟨af, 1, none⟩ (.int .i64 ((qZf ag ((qZa ab aa).f1)).f1))).setCell ⟨af, 0, none⟩ (.int .i64 (wrap64 (((qZf ag ((qZa ab aa).f1)).f0) + ((qZa ab aa).f2))))).setCell ⟨af, 1, none⟩ (.int .i64 (wrap64 (((qZf ag ((qZa ab aa).f1)).f1) + 1)))).heap[af]? = some (.cells #[.int .i64 (wrap64 (((qZf ag ((qZa ab aa).f1)).f0) + ((qZa ab aa).f2))), .int .i64 (wrap64 (((qZf ag ((qZa ab aa).f1)).f1) + 1))] 114 (0, 0))) := ⟨by refine qZg (cs := #[.int .i64 (wrap64 (((qZf ag ((qZa ab aa).f1)).f0) + ((qZa ab aa).f2))), .int .i64 ((qZf ag ((qZa ab aa).f1)).f1)]) ?_ 1 _ rfl; refine qZg (cs := #[.int .i64 ((qZf ag ((qZa ab aa).f1)).f0), .int .i64 ((qZf ag ((qZa ab aa).f1)).f1)]) ?_ 0 _ rfl; refine qZg (cs := #[.int .i64 ((qZf ag ((qZa ab aa).f1)).f0), .int .i64 0]) ?_ 1 _ rfl; refine qZg (cs := #[.int .i64 0, .int .i64 0]) ?_ 0 _ rfl; exact al.out⟩
   have n4_ : Aside0 (Below w.heap.size w ((((w38.setCell ⟨af, 0, none⟩ (.int .i64 ((qZf ag ((qZa ab aa).f1)).f0))).setCell ⟨af, 1, none⟩ (.int .i64 ((qZf ag ((qZa ab aa).f1)).f1))).setCell ⟨af, 0, none⟩ (.int .i64 (wrap64 (((qZf ag ((qZa ab aa).f1)).f0) + ((qZa ab aa).f2))))).setCell ⟨af, 1, none⟩ (.int .i64 (wrap64 (((qZf ag ((qZa ab aa).f1)).f1) + 1))))) := ⟨bl3 HB ao az aT⟩
   (try clear am)
   (try clear ah)
   (try clear ac)
   (try clear al)
   (try clear HB)
   generalize ((((w38.setCell ⟨af, 0, none⟩ (.int .i64 ((qZf ag ((qZa ab aa).f1)).f0))).setCell ⟨af, 1, none⟩ (.int .i64 ((qZf ag ((qZa ab aa).f1)).f1))).setCell ⟨af, 0, none⟩ (.int .i64 (wrap64 (((qZf ag ((qZa ab aa).f1)).f0) + ((qZa ab aa).f2))))).setCell ⟨af, 1, none⟩ (.int .i64 (wrap64 (((qZf ag ((qZa ab aa).f1)).f1) + 1)))) = w43 at n0_ n1_ n2_ n3_ n4_ ⊢
   have am := n0_
   have ah := n1_
   have ac := n2_
   have al := n3_
   have HB := n4_
   clear n0_ n1_ n2_ n3_ n4_
   replace am := ak (Kd.R_drew am.out)
   replace ah := ak (qZp ah.out)
   replace ac := ak (qZp ac.out)
   replace al := ak (qZp al.out)
   replace HB := ak (qQg HB.out)
   have be : 0 ≤ (((qZa ab aa).f0) : Int) := oT (by (with_reducible assumption))
   have bf : ((qZa ab aa).f0) < (ag.length : Int) := oT (by (with_reducible assumption))
   obtain ⟨bx, bZ, aO, aP⟩ := qXo (Kd.R_reads' am.out).2.2 ((qZa ab aa).f0) be bf
   obtain rfl : (⟨go6, 0, none⟩ : Addr) = bx := (by injection bZ)
   (simp only [qJf] at aO)
   (simp only [qJf] at aP)
   replace be := eq_true be
   replace bf := eq_true bf
   refine qJj (n := 7) (S := fun w' => w'.cell? ⟨af, 0, none⟩ = some (.int .i64 (wrap64 (((qZf ag ((qZa ab aa).f1)).f0) + ((qZa ab aa).f2)))) ∧ w'.cell? ⟨af, 1, none⟩ = some (.int .i64 (wrap64 (((qZf ag ((qZa ab aa).f1)).f1) + 1))) ∧ w'.cell? ⟨ae, 0, none⟩ = some (.int .i64 ((qZa ab aa).f0)) ∧ w'.cell? ⟨ae, 1, none⟩ = some (.int .i64 ((qZa ab aa).f1)) ∧ w'.cell? ⟨ae, 2, none⟩ = some (.int .i64 ((qZa ab aa).f2)) ∧ w'.cell? ⟨ae, 3, none⟩ = some (.int .i64 ((qZa ab aa).f3)) ∧ w'.cell? ⟨ae, 4, none⟩ = some (.int .i64 ((qZa ab aa).f4)) ∧ w'.cell? ⟨go6, (((qZa ab aa).f0)).toNat * 2, none⟩ = some (.int .i64 ((qZf ag ((qZa ab aa).f0)).f0)) ∧ w'.cell? ⟨go6, (((qZa ab aa).f0)).toNat * 2 + 1, none⟩ = some (.int .i64 ((qZf ag ((qZa ab aa).f0)).f1))) (ds := []) #[false, false, false, false, false, false, false] (by kernel_rfl) rfl (by kernel_rfl) ⟨(qZb al.out 0).trans rfl, (qZb al.out 1).trans rfl, (qZb ac.out 0).trans rfl, (qZb ac.out 1).trans rfl, (qZb ac.out 2).trans rfl, (qZb ac.out 3).trans rfl, (qZb ac.out 4).trans rfl, aO, aP⟩ (fun hHeld => ?_)
   generalize w43.drew = w44 at am ah ac al HB aO aP hHeld ⊢
   refine qZm (i := 1) (N := some 45) (v := ?_) (a' := ?_) #[false, true, false, false, false, false, false] rfl rfl (by kernel_rfl) (fun _ _ _ h => h) (Or.inl ⟨by rfl, ?_⟩) ?_ ?_
   rotate_left
   ·intro w'
    go_simp
    with_reducible rfl
   rotate_left
   ·simp only [SX]
    rfl
   refine qZm (i := 2) (N := some 46) (v := ?_) (a' := ?_) #[false, true, true, false, false, false, false] rfl rfl (by kernel_rfl) (fun _ _ _ h => h) (Or.inl ⟨by rfl, ?_⟩) ?_ ?_
   rotate_left
   ·intro w'
    go_simp
    with_reducible rfl
   rotate_left
   ·simp only [SX]
    rfl
   refine take_ (i := 0) (N := some 44) (v := ?_) (a' := ?_) #[true, true, true, false, false, false, false] rfl rfl (by kernel_rfl) (fun _ _ _ h => h) (Or.inl ⟨by rfl, ?_⟩) hHeld ?_ ?_
   rotate_left
   ·rintro w' ⟨s0, s1, s2, s3, s4, s5, s6, s7, s8⟩
    go_simp
    with_reducible rfl
   rotate_left
   ·simp only [SX]
    rfl
   refine take_ (i := 3) (N := some 47) (v := ?_) (a' := ?_) #[true, true, true, true, false, false, false] rfl rfl (by kernel_rfl) (fun _ _ _ h => h) (Or.inl ⟨by rfl, ?_⟩) hHeld ?_ ?_
   rotate_left
   ·rintro w' ⟨s0, s1, s2, s3, s4, s5, s6, s7, s8⟩
    go_simp
    with_reducible rfl
   rotate_left
   ·simp only [SX]
    rfl
   refine qZm (i := 4) (N := some 48) (v := ?_) (a' := ?_) #[true, true, true, true, true, false, false] rfl rfl (by kernel_rfl) (fun _ _ _ h => h) (Or.inl ⟨by rfl, ?_⟩) ?_ ?_
   rotate_left
   ·intro w'
    go_simp
    with_reducible rfl
   rotate_left
   ·simp only [SX]
    rfl
   refine take_ (i := 5) (N := some 49) (v := ?_) (a' := ?_) #[true, true, true, true, true, true, false] rfl rfl (by kernel_rfl) (fun _ _ _ h => h) (Or.inl ⟨by rfl, ?_⟩) hHeld ?_ ?_
   rotate_left
   ·rintro w' ⟨s0, s1, s2, s3, s4, s5, s6, s7, s8⟩
    go_simp
    with_reducible rfl
   rotate_left
   ·simp only [SX]
    rfl
   refine one_ (i := 6) (N := some 50) #[true, true, true, true, true, true, true] rfl rfl (by kernel_rfl) (by decide) (fun K hK => ?_)
   refine qXc Try.func119 (by kernel_rfl) rfl #[.agg #[.int .i64 (wrap64 (((qZf ag ((qZa ab aa).f1)).f0) + ((qZa ab aa).f2))), .int .i64 (wrap64 (((qZf ag ((qZa ab aa).f1)).f1) + 1))], .agg #[.int .i64 ((qZf ag ((qZa ab aa).f0)).f0), .int .i64 ((qZf ag ((qZa ab aa).f0)).f1)]] (by rfl) rfl rfl (by (try simp only [List.map_toArray, List.map_cons, List.map_nil]); rfl) ?_
   with_reducible refine (impl_measure_less.calls (wrap64 (((qZf ag ((qZa ab aa).f1)).f0) + ((qZa ab aa).f2))) (wrap64 (((qZf ag ((qZa ab aa).f1)).f1) + 1)) ((qZf ag ((qZa ab aa).f0)).f0) ((qZf ag ((qZa ab aa).f0)).f1) true _ A32.out).mono ?_
   rintro e w45 ⟨rfl, hb⟩
   have ca := (hb.cell (World.block_lt_of_cell? _ _ (hHeld.2.2.2.2.2.2.2.1))).trans (hHeld.2.2.2.2.2.2.2.1)
   have cb := (hb.cell (World.block_lt_of_cell? _ _ (hHeld.2.2.2.2.2.2.2.2))).trans (hHeld.2.2.2.2.2.2.2.2)
   refine ⟨_, rfl, ?_⟩
   replace am := ak (Kd.R_below (rk am) hb)
   replace ah := ak (qZe (bk ah) hb)
   replace ac := ak (qZe (bk ac) hb)
   replace al := ak (qZe (bk al) hb)
   replace HB := ak (qZd (bl3 HB ao az aT) hb)
   (try clear hb)
   (try clear hb2)
   (try clear hk)
   (try clear hi)
   refine hK.out _ _ ⟨(qZb al.out 0).trans rfl, (qZb al.out 1).trans rfl, (qZb ac.out 0).trans rfl, (qZb ac.out 1).trans rfl, (qZb ac.out 2).trans rfl, (qZb ac.out 3).trans rfl, (qZb ac.out 4).trans rfl, ca, cb⟩ (fun hHeld => ?_)
   clear hK K
   refine qJd (a' := ?_) ?_ ?_
   rotate_left
   ·show Act.put _ (some 50) _ = _
    simp only [SX]
    rfl
   refine qXe (by kernel_rfl) ?_
   have dG := bc w45 ac 0 (.int .i64 ((qZa ab aa).f0)) rfl
   have dH := bc w45 ac 1 (.int .i64 ((qZa ab aa).f1)) rfl
   have dI := bc w45 ac 2 (.int .i64 ((qZa ab aa).f2)) rfl
   have dJ := bc w45 ac 3 (.int .i64 ((qZa ab aa).f3)) rfl
   have dK := bc w45 ac 4 (.int .i64 ((qZa ab aa).f4)) rfl
   have dL := fz ac 0
   have dM := fz ac 1
   have dN := fz ac 2
   have dO := fz ac 3
   have dP := fz ac 4
   have dQ := bc w45 al 0 (.int .i64 (wrap64 (((qZf ag ((qZa ab aa).f1)).f0) + ((qZa ab aa).f2)))) rfl
   have dR := bc w45 al 1 (.int .i64 (wrap64 (((qZf ag ((qZa ab aa).f1)).f1) + 1))) rfl
   have dS := fz al 0
   have dT := fz al 1
   have p34 : 0 ≤ (((qZa ab aa).f0) : Int) := oT (by (with_reducible assumption))
   have q34 : (((qZa ab aa).f0) : Int) < ((ag.length : Int) : Int) := oT (by (with_reducible assumption))
   obtain ⟨eC, co, cp, bA, bB⟩ := Kd.R_elem am.out z114 (((qZa ab aa).f0) : Int) p34 q34
   obtain rfl := qKb cp
   have dW : w45.cell? ⟨go6, (((qZa ab aa).f0) : Int).toNat * 2, none⟩ = some (.int .i64 ((qZf ag ((qZa ab aa).f0)).f0)) := bA 0 _ rfl
   have dX : w45.cell? ⟨go6, (((qZa ab aa).f0) : Int).toNat * 2 + 1, none⟩ = some (.int .i64 ((qZf ag ((qZa ab aa).f0)).f1)) := bA 1 _ rfl
   have dY : w45.frozen? ⟨go6, (((qZa ab aa).f0) : Int).toNat * 2, none⟩ = false := bB 0
   have dZ : w45.frozen? ⟨go6, (((qZa ab aa).f0) : Int).toNat * 2 + 1, none⟩ = false := bB 1
   clear co bA bB cp
   replace p34 := eq_true p34
   replace q34 := eq_true q34
   have cq := ak (show Kd.R k114 114 w45 w.heap.size (fun k_ => k_ ≠ af) (.slice (some ⟨go6, 0, none⟩) ag.length co6) ag from (rk am))
   obtain ⟨eD, bR, cr, bn, bC⟩ := Kd.R_elem cq.out z114 (((qZa ab aa).f0) : Int) (oT (by (with_reducible assumption))) (by have h_ : (((qZa ab aa).f0) : Int) < ((ag.length : Int) : Int) := oT (by (with_reducible assumption)); exact h_)
   obtain rfl := qKb cr
   have cd := Kd.R_seg cq.out (((qZa ab aa).f0) : Int) (oT (by (with_reducible assumption))) (by have h_ : (((qZa ab aa).f0) : Int) < ((ag.length : Int) : Int) := oT (by (with_reducible assumption)); exact h_) (seg := [.int .i64 (wrap64 (((qZf ag ((qZa ab aa).f1)).f0) + ((qZa ab aa).f2))), .int .i64 (wrap64 (((qZf ag ((qZa ab aa).f1)).f1) + 1))]) (j := 0) bR bn (show 2 ≤ 2 from by decide) (x' := (⟨wrap64 (((qZf ag ((qZa ab aa).f1)).f0) + ((qZa ab aa).f2)), wrap64 (((qZf ag ((qZa ab aa).f1)).f1) + 1)⟩ : S114)) (qYh _ _ _ (⟨wrap64 (((qZf ag ((qZa ab aa).f1)).f0) + ((qZa ab aa).f2)), wrap64 (((qZf ag ((qZa ab aa).f1)).f1) + 1)⟩ : S114) ) (fun _ hk => hk)
   have ce := bn 0 _ rfl
   (try simp only [show (k114).sz = 2 from rfl, Nat.mul_one, Nat.add_zero] at ce)
   have cf := bC 0
   (try simp only [show (k114).sz = 2 from rfl, Nat.mul_one, Nat.add_zero] at cf)
   have cg := bn 1 _ rfl
   (try simp only [show (k114).sz = 2 from rfl, Nat.mul_one, Nat.add_zero] at cg)
   have ch := bC 1
   (try simp only [show (k114).sz = 2 from rfl, Nat.mul_one, Nat.add_zero] at ch)
   clear bR bn bC cr
   try go_wp2_with (((with_reducible refine gate_store (t := 114) (p := 55) rfl ?_); refine qXd (t := 114) (p := 55) (v := ?vo_w49) (w1 := ((w45.setCell ⟨go6, (((qZa ab aa).f0) : Int).toNat * 2, none⟩ (.int .i64 (wrap64 (((qZf ag ((qZa ab aa).f1)).f0) + ((qZa ab aa).f2))))).setCell ⟨go6, (((qZa ab aa).f0) : Int).toNat * 2 + 1, none⟩ (.int .i64 (wrap64 (((qZf ag ((qZa ab aa).f1)).f1) + 1))))) ?hg ?ho ?hn ?hr ?_; (case ho => rfl); (case hg => rfl); (case hn => rfl); (case hr => (go_simp; done)); intro w49 hw; have hg : w45.grownBy w49 (some go6) := (by rw [hw]; exact cd.2); have hp_ : Kd.R k114 114 w49 w.heap.size (fun k_ => k_ ≠ af) (.slice (some ⟨go6, 0, none⟩) ag.length co6) cc := (by rw [hw, cn.out]; exact cd.1); clear cd; replace ah := ak (qZj (bk ah) hg (Kd.R_ne am.out ah.out (by decide))); replace ac := ak (qZj (bk ac) hg (Kd.R_ne am.out ac.out (by decide))); replace al := ak (qZj (bk al) hg (Kd.R_away am.out (fun _ hk => hk))); replace am := ak (hp_); replace HB := ak ((by rw [hw]; exact below_set (below_set (HB.out) GB6.out) GB6.out : Below w.heap.size w w49)); clear hg hw hp_))
   (try simp only [← aB])
   go_roundg k2
   case measure => have := HK1.out; have := HK2.out; omega
   case rel => exact ⟨(cc), (true), (wrap64 (aa + 1)), (by rfl), (by rfl), H', ⟨by have := HK1.out; have := HK2.out; omega⟩, ⟨by (try simp only [aD]); (try simp only [aB]); exact Kd.R_mono am.out (fun _ hk => trivial)⟩, ⟨by (try simp only [aD]); (try simp only [aB]); exact ah.out⟩, ⟨bl3 HB ao az aT⟩⟩
/-! ### text first -/
/-- Does an arc begin a best way on from a node. -/
def goodM (M : List S114) (v : Int) (x : S58) : Bool := (x.f0 == v) && (!((qZf M x.f1).f0 == 99999) && ((wrap64 ((qZf M x.f1).f0 + x.f2) == (qZf M v).f0) && (wrap64 ((qZf M x.f1).f1 + 1) == (qZf M v).f1)))
set_option maxHeartbeats 4000000 in
set_option maxRecDepth 100000 in
theorem firstArc1_any (M : List S114) (A0 : Option Addr) (c0 : Nat) (v c a : Int) (B1 B2 B3 : Nat) (w : World) (hM : Kd.C k114 w A0 M.length M)
    (hb1 : w.heap[B1]? = some (.cells #[.slice A0 M.length c0] 111 (0, 0))) (hb2 : w.heap[B2]? = some (.cells #[.int .i64 v] 3 (0, 0))) (hb3 : w.heap[B3]? = some (.cells #[.int .i64 c, .int .i64 a] 114 (0, 0))) :
    ∀ (W : World) (x : S58), 0 ≤ x.f1 → x.f1 < (M.length : Int) → Below w.heap.size w W → Calls Try.prog 120 (#[.agg #[.int .i64 x.f0, .int .i64 x.f1, .int .i64 x.f2, .int .i64 x.f3, .int .i64 x.f4]] ++ #[.pointer (some ⟨B1, 0, none⟩), .pointer (some ⟨B2, 0, none⟩), .pointer (some ⟨B3, 0, none⟩)]) W fun e w' => e = .returned (.bool ((x.f0 == v) && (!((qZf M x.f1).f0 == 99999) && ((wrap64 ((qZf M x.f1).f0 + x.f2) == c) && (wrap64 ((qZf M x.f1).f1 + 1) == a))))) ∧ Below w.heap.size w w' := by
  intro W x x0 x1 hB
  have k1 : W.cell? ⟨B1, 0, none⟩ = some (.slice A0 M.length c0) := by
    have h1 : w.cell? ⟨B1, 0, none⟩ = some (.slice A0 M.length c0) := (qZb hb1 0).trans rfl
    exact (hB.cell (World.block_lt_of_cell? w _ h1)).trans h1
  have k2 : W.cell? ⟨B2, 0, none⟩ = some (.int .i64 v) := by
    have h1 : w.cell? ⟨B2, 0, none⟩ = some (.int .i64 v) := (qZb hb2 0).trans rfl
    exact (hB.cell (World.block_lt_of_cell? w _ h1)).trans h1
  have k3 : W.cell? ⟨B3, 0, none⟩ = some (.int .i64 c) := by
    have h1 : w.cell? ⟨B3, 0, none⟩ = some (.int .i64 c) := (qZb hb3 0).trans rfl
    exact (hB.cell (World.block_lt_of_cell? w _ h1)).trans h1
  have k4 : W.cell? ⟨B3, 1, none⟩ = some (.int .i64 a) := by
    have h1 : w.cell? ⟨B3, 1, none⟩ = some (.int .i64 a) := (qZb hb3 1).trans rfl
    exact (hB.cell (World.block_lt_of_cell? w _ h1)).trans h1
  obtain ⟨ad, ea, m0, m1⟩ := qXo hM x.f1 x0 x1
  replace m0 := (hB.cell (World.block_lt_of_cell? w _ m0)).trans m0
  replace m1 := (hB.cell (World.block_lt_of_cell? w _ m1)).trans m1
  cases ea
  have b1 : B1 < W.heap.size := World.block_lt_of_cell? W _ k1
  have b2 : B2 < W.heap.size := World.block_lt_of_cell? W _ k2
  have b3 : B3 < W.heap.size := World.block_lt_of_cell? W _ k3
  have b4 := World.block_lt_of_cell? W _ m0
  have n1 : B1 ≠ W.heap.size := by omega
  have n2 : B2 ≠ W.heap.size := by omega
  have n3 : B3 ≠ W.heap.size := by omega
  have n1' : B1 ≠ W.heap.size + 1 := by omega
  have n2' : B2 ≠ W.heap.size + 1 := by omega
  have n3' : B3 ≠ W.heap.size + 1 := by omega
  have HBB := Aside0.mk hB
  clear hB hb1 hb2 hb3 hM
  obtain ⟨y0, y1, y2, y3, y4⟩ := x
  simp only at x0 x1 m0 m1 ⊢
  generalize (qZf M y1).f0 = p at *
  generalize (qZf M y1).f1 = q at *
  show Calls Try.prog 120 #[.agg #[.int .i64 y0, .int .i64 y1, .int .i64 y2, .int .i64 y3, .int .i64 y4], .pointer (some ⟨B1, 0, none⟩), .pointer (some ⟨B2, 0, none⟩), .pointer (some ⟨B3, 0, none⟩)] W _
  have hsz : w.heap.size ≤ W.heap.size := HBB.out.size
  by_cases e1 : y0 = v
  · have f1 : (y0 == v) = true := beq_iff_eq.2 e1
    by_cases e2 : p = 99999
    · have f2 : (p == 99999) = true := beq_iff_eq.2 e2
      have f2' : (p != 99999) = false := by rw [bne, f2]; rfl
      go_enter Try.func120, Try.ntmps120
      go_wp2
      go_ret
      exact ⟨by simp [f1, f2], by repeat (first | exact HBB.out | apply qZl)⟩
    · have f2 : (p == 99999) = false := beq_eq_false_iff_ne.2 e2
      have f2' : (p != 99999) = true := by rw [bne, f2]; rfl
      by_cases e3 : wrap64 (p + y2) = c
      · by_cases e4 : wrap64 (q + 1) = a
        · go_enter Try.func120, Try.ntmps120
          go_wp2
          go_ret
          exact ⟨by simp [f1, f2, e3, e4], by repeat (first | exact HBB.out | apply qZl)⟩
        · go_enter Try.func120, Try.ntmps120
          go_wp2
          go_ret
          exact ⟨by simp [f1, f2, e3, e4], by repeat (first | exact HBB.out | apply qZl)⟩
      · go_enter Try.func120, Try.ntmps120
        go_wp2
        go_ret
        exact ⟨by simp [f1, f2, e3], by repeat (first | exact HBB.out | apply qZl)⟩
  · have f1 : (y0 == v) = false := beq_eq_false_iff_ne.2 e1
    go_enter Try.func120, Try.ntmps120
    go_wp2
    go_ret
    exact ⟨by simp [f1], by repeat (first | exact HBB.out | apply qZl)⟩
set_option maxHeartbeats 2000000 in
set_option maxRecDepth 100000 in
theorem indexFunc_arcM (p : S58 → Bool) (g : Nat) (lb : Array Value) (eg : ∀ args w, (callFunc g args).run Try.prog w = .ok (.enter g args) w) (A0 : Option Addr) (c0 : Nat) (l0 : List S58) (w : World)
    (hp : ∀ (W : World) (x : S58), x ∈ l0 → Below w.heap.size w W → Calls Try.prog g (#[.agg #[.int .i64 x.f0, .int .i64 x.f1, .int .i64 x.f2, .int .i64 x.f3, .int .i64 x.f4]] ++ lb) W fun e w' => e = .returned (.bool (p x)) ∧ Below w.heap.size w w')
    (hr0 : Kd.C k58 w A0 l0.length l0) :
    Calls Try.prog 103 #[.slice A0 l0.length c0, .func (.func g) #[] lb] w fun e w' => e = .returned (.int .i64 (idxP p l0)) ∧ Below w.heap.size w w' := by
  have HR0 := Aside0.mk hr0
  have hbig : l0.length ≤ 9223372036854775807 := by
    have := hr0.2.1
    omega
  clear hr0
  go_enter Try.func103, Try.ntmps103
  go_wp2
  go_loopg [5, 8] l0.length (fun gg _ s8 wr => ∃ kk : Nat, kk ≤ l0.length ∧ l0.length - kk ≤ gg ∧ s8 = .int .i64 kk ∧ Aside0 (Below w.heap.size w wr) ∧ Aside0 (∀ j, j < kk → p (l0.getD j z58) = false))
  case atStart => exact ⟨0, Nat.zero_le _, by omega, rfl, ⟨Below.refl _ w⟩, ⟨fun j hj => absurd hj (Nat.not_lt_zero _)⟩⟩
  case round =>
    obtain ⟨kk, hkk, hg, rfl, BW, HA⟩ := hrel
    by_cases hlt : kk < l0.length
    · have hltz : (kk : Int) < (l0.length : Int) := by omega
      obtain ⟨ad, ea, h0, h1, h2, h3, h4⟩ := qJi HR0.out (kk : Int) (by omega) (by omega)
      have hmem : qZa l0 kk ∈ l0 := by
        unfold qZa
        rw [Int.toNat_natCast, List.getD_eq_getElem?_getD, List.getElem?_eq_getElem hlt]
        exact List.getElem_mem hlt
      have hcall := hp wr (qZa l0 kk) hmem BW.out
      have HE : Hid (l0.getD kk z58 = qZa l0 kk) := Lib.hid (by unfold qZa; rw [Int.toNat_natCast])
      clear hp hmem
      cases ea
      simp only [Int.toNat_natCast] at h0 h1 h2 h3 h4
      replace h0 := (BW.out.cell (World.block_lt_of_cell? w _ h0)).trans h0
      replace h1 := (BW.out.cell (World.block_lt_of_cell? w _ h1)).trans h1
      replace h2 := (BW.out.cell (World.block_lt_of_cell? w _ h2)).trans h2
      replace h3 := (BW.out.cell (World.block_lt_of_cell? w _ h3)).trans h3
      replace h4 := (BW.out.cell (World.block_lt_of_cell? w _ h4)).trans h4
      generalize qZa l0 kk = y at *
      cases hq : p y with
      | true =>
        rw [hq] at hcall
        have HQ := Lib.hid hq
        clear hq
        go_wp2_with (go_at_fn g; refine hcall.mono ?_; rintro e w' ⟨rfl, hb'⟩)
        go_ret
        refine ⟨?_, hb'⟩
        rw [jQf p l0 z58 kk hlt (by rw [HE.out]; exact HQ.out) HA.out]
        rfl
      | false =>
        rw [hq] at hcall
        have HQ := Lib.hid hq
        clear hq
        go_wp2_with (go_at_fn g; refine hcall.mono ?_; rintro e w' ⟨rfl, hb'⟩)
        go_roundg (l0.length - (kk + 1))
        case measure => omega
        case rel =>
          refine ⟨kk + 1, by omega, by omega, by go_num, ⟨hb'⟩, ⟨fun j hj => ?_⟩⟩
          by_cases e : j = kk
          · subst e
            rw [HE.out]; exact HQ.out
          · exact HA.out j (by omega)
    · have hltz : ¬ (kk : Int) < (l0.length : Int) := by omega
      have hk : kk = l0.length := by omega
      go_wp2
      go_ret
      refine ⟨?_, BW.out⟩
      rw [jZa p l0 z58 (by rw [← hk]; exact HA.out)]
      rfl
/-- Does firstArc stay in its rows. -/
def qYm (l : List S58) (M : List S114) (v : Int) : Bool := (decide (0 ≤ v) && decide (v < (M.length : Int))) && l.all fun x => decide (0 ≤ x.f1) && decide (x.f1 < (M.length : Int))
set_option maxHeartbeats 4000000 in
set_option maxRecDepth 100000 in
theorem firstArc_any (n : Int) (A0 : Option Addr) (c0 : Nat) (l0 : List S58) (A1 : Option Addr) (c1 : Nat) (M : List S114) (v : Int) (w : World) (hr0 : Kd.C k58 w A0 l0.length l0) (hr1 : Kd.C k114 w A1 M.length M) (hok : qYm l0 M v = true) :
    Calls Try.prog 102 #[.agg #[.int .i64 n, .slice A0 l0.length c0], .slice A1 M.length c1, .int .i64 v] w fun e w' => e = .returned (.int .i64 (idxP (goodM M v) l0)) ∧ Below w.heap.size w w' := by
  have hu := Try.underlying25
  unfold qYm at hok
  simp only [Bool.and_eq_true, decide_eq_true_eq, List.all_eq_true] at hok
  obtain ⟨⟨v0, v1⟩, hin⟩ := hok
  have eg : ∀ args w, (callFunc 120 args).run Try.prog w = .ok (.enter 120 args) w := enters_of Try.func120 (by kernel_rfl) rfl
  obtain ⟨ad, ea, m0, m1⟩ := qXo hr1 v v0 v1
  have key : ∀ W : World, Below w.heap.size w W → W.heap[w.heap.size + 1]? = some (.cells #[.slice A1 M.length c1] 111 (0, 0)) → W.heap[w.heap.size + 2]? = some (.cells #[.int .i64 v] 3 (0, 0)) → W.heap[w.heap.size + 3]? = some (.cells #[.int .i64 (qZf M v).f0, .int .i64 (qZf M v).f1] 114 (0, 0)) →
      Calls Try.prog 103 #[.slice A0 l0.length c0, .func (.func 120) #[] #[.pointer (some ⟨w.heap.size + 1, 0, none⟩), .pointer (some ⟨w.heap.size + 2, 0, none⟩), .pointer (some ⟨w.heap.size + 3, 0, none⟩)]] W fun e w' => e = .returned (.int .i64 (idxP (goodM M v) l0)) ∧ Below W.heap.size W w' := by
    intro W hB hb1 hb2 hb3
    have hM := Kd.C_below hr1 hB
    exact indexFunc_arcM (goodM M v) 120 _ eg A0 c0 l0 W (fun W' x hx hB' => firstArc1_any M A1 c1 v _ _ _ _ _ W hM hb1 hb2 hb3 W' x (hin x hx).1 (hin x hx).2 hB') (Kd.C_below hr0 hB)
  have KEY := Aside0.mk key
  clear key eg hin hr0 hr1
  cases ea
  have b4 := World.block_lt_of_cell? w _ m0
  have b5 : (ad.add (v.toNat * 2)).block < w.heap.size + 1 := by omega
  have b6 : (ad.add (v.toNat * 2)).block < w.heap.size + 1 + 1 := by omega
  have b7 : (ad.add (v.toNat * 2)).block < w.heap.size + 2 := by omega
  have d4 : (ad.add (v.toNat * 2)).block ≠ w.heap.size := by omega
  have d5 : (ad.add (v.toNat * 2)).block ≠ w.heap.size + 1 := by omega
  have d7 : (ad.add (v.toNat * 2)).block ≠ w.heap.size + 2 := by omega
  generalize (qZf M v).f0 = p at *
  generalize (qZf M v).f1 = q at *
  generalize idxP (goodM M v) l0 = r at *
  go_enter Try.func102, Try.ntmps102
  have W4 : Below w.heap.size w ((((w.alloc (.cells #[.int .i64 n, .slice A0 l0.length c0] 25)).alloc (.cells #[.slice (some ad) M.length c1] 111)).alloc (.cells #[.int .i64 v] 3)).alloc (.cells #[.int .i64 p, .int .i64 q] 114)) := qZl (qZl (qZl (qZl (Below.refl _ _) _) _) _) _
  have H4 := Aside0.mk W4
  clear W4
  go_wp2_with (go_at_call 103; refine (KEY.out _ H4.out (qQl (qQl (by have := heap_alloc_new (w.alloc (.cells #[.int .i64 n, .slice A0 l0.length c0] 25)) (.cells #[.slice (some ad) M.length c1] 111); simpa using this) _) _) (qQl (by have := heap_alloc_new ((w.alloc (.cells #[.int .i64 n, .slice A0 l0.length c0] 25)).alloc (.cells #[.slice (some ad) M.length c1] 111)) (.cells #[.int .i64 v] 3); simpa using this) _) (by have := heap_alloc_new (((w.alloc (.cells #[.int .i64 n, .slice A0 l0.length c0] 25)).alloc (.cells #[.slice (some ad) M.length c1] 111)).alloc (.cells #[.int .i64 v] 3)) (.cells #[.int .i64 p, .int .i64 q] 114); simpa using this)).mono ?_; rintro e w' ⟨rfl, hb'⟩)
  go_ret
  exact ⟨rfl, H4.out.trans (hb'.mono (by simp; omega))⟩
/-! ### impl_Net_firstArc: function 102 -/
def impl_Net_firstArc.f (ab : Int) (aa : List (S58)) (l1 : List (S114)) (a2 : Int) : Option (Int) := if qYm aa l1 a2 = true then some (idxP (goodM l1 a2) aa) else none
theorem impl_Net_firstArc.calls (ab : Int) (ac : Option Addr) (ad : Nat) (aa : List (S58)) (A1 : Option Addr) (c1 : Nat) (l1 : List (S114)) (a2 : Int) (r : Int) (w : World) (ae : Kd.C k58 w ac aa.length aa) (af : aa.length ≤ ad) (hr1 : Kd.C k114 w A1 l1.length l1) (hc1 : l1.length ≤ c1) (h : impl_Net_firstArc.f ab aa l1 a2 = some r) :
  Calls Try.prog 102 #[.agg #[.int .i64 ab, .slice ac aa.length ad], .slice A1 l1.length c1, .int .i64 a2] w fun e w' => e = .returned (.int .i64 r) ∧ Below w.heap.size w w' := by
 unfold impl_Net_firstArc.f at h
 by_cases hok : qYm aa l1 a2 = true
 rotate_left
 ·rw [if_neg hok] at h
  cases h
 rw [if_pos hok] at h
 obtain rfl := Option.some.inj h
 exact firstArc_any ab ac ad aa A1 c1 l1 a2 w ae hr1 hok
/-! ### impl_Net_best: function 67 -/
def impl_Net_best.l0 : Nat → Int → Int → List (S114) → List Int → Int → List (S58) → Option (List Int × Bool)
 | 0, _, _, _, _, _, _ => none
 | k + 1, x1, x2, x8, x9, ar, aj => if x1 = x2 then (some (x9, true)) else ((impl_Net_firstArc.f ar aj x8 x1).bind fun af => (if x9.length < 17592186044416 then (if 0 ≤ af then (if af < (aj.length : Int) then (impl_Net_best.l0 k ((qZa aj af).f1) x2 x8 (x9 ++ [af]) ar aj) else (none)) else (none)) else (none)))
def impl_Net_best.f (k : Nat) (ad : Int) (ac : List (S58)) (a1 : Int) (a2 : Int) : Option (List Int × Bool) := (impl_Net_toward.f k ad ac a2).bind fun ab => (if 0 ≤ a1 then (if a1 < (ab.length : Int) then (if ((qZf ab a1).f0) = 99999 then (some (([] : List Int), false)) else (if 0 ≤ ((qZf ab a1).f1) then (if ((qZf ab a1).f1 : Int).toNat ≤ 35184372088832 then (impl_Net_best.l0 k a1 a2 ab (([] : List Int)) ad ac) else (none)) else (none))) else (none)) else (none))
theorem impl_Net_best.mono_l : ∀ k, (∀ y0 y1 y2 y3 y4 y5, LeO (impl_Net_best.l0 k y0 y1 y2 y3 y4 y5) (impl_Net_best.l0 (k + 1) y0 y1 y2 y3 y4 y5))
 | 0 => fun _ _ _ _ _ _ r h => by simp [impl_Net_best.l0] at h
 | k + 1 => by
  have ih0 := impl_Net_best.mono_l k
  ·intro y0 y1 y2 y3 y4 y5
   unfold impl_Net_best.l0
   repeat' first | (with_reducible exact ih0 _ _ _ _ _ _) | (with_reducible exact LeO.refl _) | (with_reducible refine LeO.ite ?_ ?_) | (with_reducible refine LeO.bind ?_ (fun _ => ?_))
theorem impl_Net_best.mono : ∀ a0 a1 a2 a3 k, LeO (impl_Net_best.f k a0 a1 a2 a3) (impl_Net_best.f (k + 1) a0 a1 a2 a3) := by
 intro a0 a1 a2 a3 k
 have ih0 := impl_Net_best.mono_l k
 unfold impl_Net_best.f
 repeat' first | (with_reducible exact ih0 _ _ _ _ _ _) | (with_reducible exact impl_Net_toward.mono _ _ _ _) | (with_reducible exact LeO.refl _) | (with_reducible refine LeO.ite ?_ ?_) | (with_reducible refine LeO.bind ?_ (fun _ => ?_))
set_option maxHeartbeats 8000000 in
set_option maxRecDepth 100000 in
theorem impl_Net_best.calls (k : Nat) (ad : Int) (ah : Option Addr) (ai : Nat) (ac : List (S58)) (a1 : Int) (a2 : Int) (r1 : List Int) (r2 : Bool) (w : World) (aW : Kd.C k58 w ah ac.length ac) (aX : ac.length ≤ ai) (h : impl_Net_best.f k ad ac a1 a2 = some (r1, r2)) :
  Calls Try.prog 67 #[.agg #[.int .i64 ad, .slice ah ac.length ai], .int .i64 a1, .int .i64 a2] w fun e w' => ∃ v0_ : Value, e = .returned (.tuple #[v0_, .bool r2]) ∧ Kd.R (Kd.int .i64) 3 w' w.heap.size (fun _ => True) v0_ r1 ∧ Below w.heap.size w w' := by
 have bJ := Try.underlying25
 have au := ak aW
 have aG := ak aX
 clear aW aX
 have HB := ak (Below.refl w.heap.size w)
 have H : ((impl_Net_toward.f k ad ac a2).bind fun ab => (if 0 ≤ a1 then (if a1 < (ab.length : Int) then (if ((qZf ab a1).f0) = 99999 then (some (([] : List Int), false)) else (if 0 ≤ ((qZf ab a1).f1) then (if ((qZf ab a1).f1 : Int).toNat ≤ 35184372088832 then (impl_Net_best.l0 k a1 a2 ab (([] : List Int)) ad ac) else (none)) else (none))) else (none)) else (none))) = some (r1, r2) := h
 clear h
 replace H := Option.bind_eq_some_iff.mp H
 obtain ⟨ab, A40, H⟩ := H
 have A4 := ak A40
 clear A40
 by_cases c5 : 0 ≤ a1
 rotate_left
 ·rw [if_neg c5] at H
  exact absurd H (by simp)
 rw [if_pos c5] at H
 have c5b0 : decide (0 ≤ a1) = true := decide_eq_true c5
 clear c5
 by_cases c6 : a1 < (ab.length : Int)
 rotate_left
 ·rw [if_neg c6] at H
  exact absurd H (by simp)
 rw [if_pos c6] at H
 have c6b0 : decide (a1 < (ab.length : Int)) = true := decide_eq_true c6
 clear c6
 by_cases c7 : ((qZf ab a1).f0) = 99999
 ·rw [if_pos c7] at H
  have c7b0 : (((qZf ab a1).f0) == 99999) = true := beq_iff_eq.mpr c7
  have c7b1 : (((qZf ab a1).f0) != 99999) = false := bne_eq_false_iff_eq.mpr c7
  clear c7
  simp only [Option.some.injEq, Prod.mk.injEq] at H
  obtain ⟨rfl, rfl⟩ := H
  go_enter Try.func67, Try.ntmps67
  go_wp2_with (first | ((with_reducible refine gate_dst (N := 3) rfl ?_); refine qZh ?hg (N := 3) ?hd (cs := #[.int .i64 ad, .slice ah ac.length ai]) (t := 25) ?hr ?_; (case hd => rfl); (case hg => rfl); (case hr => (go_simp; done)); intro am hg w8 hbox hb; have aa := ak (hbox); have bh := ak ((by rw [hg]; exact (qZc (bl HB)) : w.heap.size ≤ am)); have ae := ak ((by rw [hg]; exact (qZc (bl HB)) : w.heap.size ≤ am)); replace HB := ak (qZd (bl HB) hb); clear hb hbox hg; have aY := bc w8 aa 0 (.int .i64 ad) rfl; have aZ := bc w8 aa 1 (.slice ah ac.length ai) rfl; have ba := fz aa 0; have bb := fz aa 1) | ((with_reducible refine gate_callee (f := 101) rfl ?_); refine qQi (some 13) rfl rfl Try.func101 (by kernel_rfl) rfl #[.agg #[.int .i64 ad, .slice ah ac.length ai], .int .i64 a2] rfl (by (try simp only [List.map_toArray, List.map_cons, List.map_nil]); rfl) ?_; (with_reducible refine (impl_Net_toward.calls k ad _ _ ac a2 ab _ ?side1 ?side2 A4.out).mono ?_); (case side1 => repeat (exact (Kd.C_below au.out HB.out))); (case side2 => exact aG.out); rintro e w10 ⟨bD, rfl, ho0, hb⟩; refine ⟨_, rfl, ?_⟩; have ag := ak (Kd.R_lower ho0 (qZc (bl1 HB ae))); replace aa := ak (qZe (bk aa) hb); replace HB := ak (qZd (bl1 HB ae) hb); (try clear hb); (try clear hb2); (try clear hk); (try clear hi); (try clear ho0); obtain ⟨bK, bL, bE⟩ := Kd.R_slice ag.out; subst bE; have an : 0 ≤ (a1 : Int) := oT (by (with_reducible assumption)); have ao : a1 < (ab.length : Int) := oT (by (with_reducible assumption)); obtain ⟨av, bd, aw, ax⟩ := qXo (Kd.R_reads' ag.out).2.2 a1 an ao; cases bd; replace an := eq_true an; replace ao := eq_true ao))
  go_ret2
  exact ⟨_, by rfl, by exact Kd.R_nil _ _ _ _ _, bl1 HB ae⟩
 rw [if_neg c7] at H
 have c7b0 : (((qZf ab a1).f0) == 99999) = false := beq_eq_false_iff_ne.mpr c7
 have c7b1 : (((qZf ab a1).f0) != 99999) = true := bne_iff_ne.mpr c7
 by_cases c12 : 0 ≤ ((qZf ab a1).f1)
 rotate_left
 ·rw [if_neg c12] at H
  exact absurd H (by simp)
 rw [if_pos c12] at H
 have c12b0 := eq_true c12
 have c12b1 : decide (0 ≤ ((qZf ab a1).f1)) = true := decide_eq_true c12
 clear c12
 by_cases c13 : ((qZf ab a1).f1 : Int).toNat ≤ 35184372088832
 rotate_left
 ·rw [if_neg c13] at H
  exact absurd H (by simp)
 rw [if_pos c13] at H
 have c13b0 := eq_true c13
 have c13b1 : decide (((qZf ab a1).f1 : Int).toNat ≤ 35184372088832) = true := decide_eq_true c13
 clear c13
 obtain ⟨bi, aH⟩ : ∃ y_ : List Int, y_ = (([] : List Int)) := ⟨_, rfl⟩
 replace H : (impl_Net_best.l0 k a1 a2 ab bi ad ac) = some (r1, r2) := by (rw [aH]; with_reducible exact H)
 have bj := ak aH
 clear aH
 have H' := ak H
 clear H
 go_enter Try.func67, Try.ntmps67
 go_wp2_with (first | ((with_reducible refine gate_dst (N := 3) rfl ?_); refine qZh ?hg (N := 3) ?hd (cs := #[.int .i64 ad, .slice ah ac.length ai]) (t := 25) ?hr ?_; (case hd => rfl); (case hg => rfl); (case hr => (go_simp; done)); intro am hg w14 hbox hb; have aa := ak (hbox); have bh := ak ((by rw [hg]; exact (qZc (bl HB)) : w.heap.size ≤ am)); have ae := ak ((by rw [hg]; exact (qZc (bl HB)) : w.heap.size ≤ am)); replace HB := ak (qZd (bl HB) hb); clear hb hbox hg; have aJ := bc w14 aa 0 (.int .i64 ad) rfl; have aK := bc w14 aa 1 (.slice ah ac.length ai) rfl; have aN := fz aa 0; have aQ := fz aa 1) | ((with_reducible refine gate_callee (f := 101) rfl ?_); refine qQi (some 13) rfl rfl Try.func101 (by kernel_rfl) rfl #[.agg #[.int .i64 ad, .slice ah ac.length ai], .int .i64 a2] rfl (by (try simp only [List.map_toArray, List.map_cons, List.map_nil]); rfl) ?_; (with_reducible refine (impl_Net_toward.calls k ad _ _ ac a2 ab _ ?side1 ?side2 A4.out).mono ?_); (case side1 => repeat (exact (Kd.C_below au.out HB.out))); (case side2 => exact aG.out); rintro e w16 ⟨bD, rfl, ho0, hb⟩; refine ⟨_, rfl, ?_⟩; have ag := ak (Kd.R_lower ho0 (qZc (bl1 HB ae))); replace aa := ak (qZe (bk aa) hb); replace HB := ak (qZd (bl1 HB ae) hb); (try clear hb); (try clear hb2); (try clear hk); (try clear hi); (try clear ho0); obtain ⟨bM, bm, bF⟩ := Kd.R_slice ag.out; subst bF; have an : 0 ≤ (a1 : Int) := oT (by (with_reducible assumption)); have ao : a1 < (ab.length : Int) := oT (by (with_reducible assumption)); obtain ⟨av, bd, aw, ax⟩ := qXo (Kd.R_reads' ag.out).2.2 a1 an ao; cases bd; replace an := eq_true an; replace ao := eq_true ao; have aR : 0 ≤ (a1 : Int) := oT (by (with_reducible assumption)); have aT : a1 < (ab.length : Int) := oT (by (with_reducible assumption)); obtain ⟨bn, bG, aU, aV⟩ := qXo (Kd.R_reads' ag.out).2.2 a1 aR aT; obtain rfl : av = bn := (by injection bG); replace aR := eq_true aR; replace aT := eq_true aT) | ((with_reducible refine gate_dst (N := 25) rfl ?_); refine Kd.R_make0 (Kd.int .i64) _ 3 rfl (N := 25) rfl 33 _ _ rfl ((qZf ab a1).f1) rfl rfl Try.underlying33 (.int .i64 0) 8 qVg (by decide) (ok := fun _ => True) trivial (oT (by (with_reducible assumption))) (Nat.le_trans (Nat.mul_le_mul_right _ (oT (by (with_reducible assumption)) : ((qZf ab a1).f1).toNat ≤ 35184372088832)) (by omega)) (Below.refl _ _) (Nat.le_refl _) ?_; intro bN w18 be hb hg_ hnew_; clear hg_ hnew_; (rw [← bj.out] at be); replace ag := ak (Kd.R_below (rk ag) hb); have bo := ak (Kd.R_lower be (qZc (bl1 HB ae))); replace aa := ak (qZe (bk aa) hb); replace HB := ak (qZd (bl1 HB ae) hb); clear hb be))
 go_loopg [1, 9] k (fun kq v1 v9 w' => ∃ (al : Int) (aE : List Int), v1 = .int .i64 al ∧ Aside0 (impl_Net_best.l0 kq al a2 ab aE ad ac = some (r1, r2)) ∧ Aside0 (kq ≤ k) ∧ Aside0 (Kd.R k114 114 w' w.heap.size (fun _ => True) (.slice (some av) ab.length bm) ab) ∧ Aside0 (Kd.R (Kd.int .i64) 3 w' w.heap.size (fun _ => True) v9 aE) ∧ Aside0 (w'.heap[am]? = some (.cells #[.int .i64 ad, (.slice ah ac.length ai)] 25 (0, 0))) ∧ Aside0 (Below w.heap.size w w'))
 case atStart => exact ⟨(a1), (bi), (by rfl), H', ⟨Nat.le_refl _⟩, ⟨rk ag⟩, ⟨rk bo⟩, ⟨bk aa⟩, ⟨bl1 HB ae⟩⟩
 clear H'
 try clear c1
 try clear p2
 try clear p4
 try clear q4
 try clear hx4
 try clear c5
 try clear c5b0
 try clear c6
 try clear c6b0
 try clear c7
 try clear c7b0
 try clear c7b1
 try clear c10
 try clear c12
 try clear c12b0
 try clear c12b1
 try clear c13
 try clear c13b0
 try clear c13b1
 try clear aJ
 try clear aK
 try clear aY
 try clear aZ
 try clear aN
 try clear aQ
 try clear ba
 try clear bb
 try clear aw
 try clear ax
 try clear aU
 try clear aV
 try clear an
 try clear aR
 try clear ao
 try clear aT
 obtain ⟨al, aE, rfl, HA, HK1, ap, aq, aa, HB⟩ := hrel
 cases gk with
 | zero => exact absurd HA.out (by simp [impl_Net_best.l0])
 | succ k1 =>
  have H := HA.out
  clear HA
  simp only [impl_Net_best.l0] at H
  by_cases c20 : al = a2
  ·rw [if_pos c20] at H
   have c20b0 : (al == a2) = true := beq_iff_eq.mpr c20
   have c20b1 : (al != a2) = false := bne_eq_false_iff_eq.mpr c20
   clear c20
   simp only [Option.some.injEq, Prod.mk.injEq] at H
   obtain ⟨rfl, rfl⟩ := H
   go_wp2
   go_ret2
   exact ⟨_, by rfl, rk aq, bl1 HB ae⟩
  rw [if_neg c20] at H
  have c20b0 : (al == a2) = false := beq_eq_false_iff_ne.mpr c20
  have c20b1 : (al != a2) = true := bne_iff_ne.mpr c20
  replace H := Option.bind_eq_some_iff.mp H
  obtain ⟨af, bp, H⟩ := H
  have A21 := ak bp
  clear bp
  by_cases c22 : aE.length < 17592186044416
  rotate_left
  ·rw [if_neg c22] at H
   exact absurd H (by simp)
  rw [if_pos c22] at H
  have bq := ak c22
  clear c22
  obtain ⟨br, aI⟩ : ∃ y_ : List Int, y_ = (aE ++ [af]) := ⟨_, rfl⟩
  replace H : (if 0 ≤ af then (if af < (ac.length : Int) then (impl_Net_best.l0 k1 ((qZa ac af).f1) a2 ab br ad ac) else (none)) else (none)) = some (r1, r2) := by (rw [aI]; with_reducible exact H)
  have bs := ak aI
  clear aI
  by_cases c23 : 0 ≤ af
  rotate_left
  ·rw [if_neg c23] at H
   exact absurd H (by simp)
  rw [if_pos c23] at H
  have c23b0 : decide (0 ≤ af) = true := decide_eq_true c23
  clear c23
  by_cases c24 : af < (ac.length : Int)
  rotate_left
  ·rw [if_neg c24] at H
   exact absurd H (by simp)
  rw [if_pos c24] at H
  have c24b0 : decide (af < (ac.length : Int)) = true := decide_eq_true c24
  clear c24
  have H' := ak H
  clear H
  have bu := bc wr aa 0 (.int .i64 ad) rfl
  have bv := bc wr aa 1 (.slice ah ac.length ai) rfl
  have bw := fz aa 0
  have bx := fz aa 1
  go_wp2_with (first | ((with_reducible refine gate_callee (f := 102) rfl ?_); refine qQi (some 32) rfl rfl Try.func102 (by kernel_rfl) rfl #[.agg #[.int .i64 ad, .slice ah ac.length ai], .slice (some av) ab.length bm, .int .i64 al] rfl (by (try simp only [List.map_toArray, List.map_cons, List.map_nil]); rfl) ?_; (with_reducible refine (impl_Net_firstArc.calls ad _ _ ac _ _ ab al af _ ?side1 ?side2 ?side3 ?side4 A21.out).mono ?_); (case side1 => repeat (exact (Kd.C_below au.out HB.out))); (case side2 => exact aG.out); (case side3 => repeat (exact (Kd.R_reads' ap.out).2.2)); (case side4 => exact (Kd.R_reads' ap.out).2.1); rintro e w26 ⟨rfl, hb⟩; refine ⟨_, rfl, ?_⟩; replace ap := ak (Kd.R_below (rk ap) hb); replace aq := ak (Kd.R_below (rk aq) hb); replace aa := ak (qZe (bk aa) hb); replace HB := ak (qZd (bl1 HB ae) hb); (try clear hb); (try clear hb2); (try clear hk); (try clear hi)) | ((with_reducible refine gate_builtin (b := .append) (xs := #[.tmp 33, .tmp 35]) rfl ?_); at_builtin; refine Kd.R_append (Kd.int .i64) (w0 := w) w.heap.size rfl (.tmp 33) (.tmp 35) 33 3 (.int .i64 0) 8 rfl Try.underlying33 qVg rfl (by decide) (by omega) u9 aE af [.int .i64 af] (fun _ => True) (fun _ => False) rfl rfl ?aP (fun _ hk => hk.elim) ?aF ?aO ?aB ?aS ?aL ?_; (case aP => exact rfl); (case aB => exact (bl1 HB ae)); (case aF => exact (fun _ _ => trivial)); (case aO => exact (rk aq)); (case aS => exact (qZc (bl1 HB ae))); (case aL => have := bq.out; omega); intro bO w27 ho hb hg hat; rw [← bs.out] at ho; have n0_ := ak (Kd.R_over' (rk ap) (Kd.R_typed (rk aq)) (by decide) hg); have n1_ := ak (qZj (bk aa) hg (Kd.R_ne aq.out aa.out (by decide))); have n2_ := ak (hb); have n3_ := ak (ho); clear ap; clear aa; clear HB; clear aq; have ap := n0_; have aa := n1_; have HB := n2_; have bt := n3_; clear n0_ n1_ n2_ n3_; clear ho hb hg hat; have bz := bc w27 aa 0 (.int .i64 ad) rfl; have bA := bc w27 aa 1 (.slice ah ac.length ai) rfl; have bB := fz aa 0; have bC := fz aa 1; have bf : 0 ≤ (af : Int) := oT (by (with_reducible assumption)); have bg : af < (ac.length : Int) := oT (by (with_reducible assumption)); obtain ⟨bI, bH, ay, az, aA, aC, aD⟩ := qJi au.out af bf bg; cases bH; replace ay := hcb HB.out ay; replace az := hcb HB.out az; replace aA := hcb HB.out aA; replace aC := hcb HB.out aC; replace aD := hcb HB.out aD; replace bf := eq_true bf; replace bg := eq_true bg))
  go_roundg k1
  case measure => have := HK1.out; omega
  case rel => exact ⟨((qZa ac af).f1), (br), (by rfl), H', ⟨by have := HK1.out; omega⟩, ⟨rk ap⟩, ⟨rk bt⟩, ⟨bk aa⟩, ⟨bl1 HB ae⟩⟩
/-! ### impl_NearWalk: function 31 -/
def impl_NearWalk.f (k : Nat) (ad : Int) (ab : List (S58)) (a1 : Int) (a2 : Int) : Option (List Int × Bool) := (impl_nodesIn.f ad ab (([a1, a2] : List Int))).bind fun aj => (if aj = true then ((impl_Net_best.f k ad ab a1 a2).bind fun af => (some (af.1, af.2))) else (some (([] : List Int), false)))
theorem impl_NearWalk.mono : ∀ a0 a1 a2 a3 k, LeO (impl_NearWalk.f k a0 a1 a2 a3) (impl_NearWalk.f (k + 1) a0 a1 a2 a3) := by
 intro a0 a1 a2 a3 k
 unfold impl_NearWalk.f
 repeat' first | (with_reducible exact impl_Net_best.mono _ _ _ _ _) | (with_reducible exact LeO.refl _) | (with_reducible refine LeO.ite ?_ ?_) | (with_reducible refine LeO.bind ?_ (fun _ => ?_))
set_option maxHeartbeats 8000000 in
set_option maxRecDepth 100000 in
theorem impl_NearWalk.calls (k : Nat) (ad : Int) (ag : Option Addr) (ah : Nat) (ab : List (S58)) (a1 : Int) (a2 : Int) (r1 : List Int) (r2 : Bool) (w : World) (ap : Kd.C k58 w ag ab.length ab) (aq : ab.length ≤ ah) (h : impl_NearWalk.f k ad ab a1 a2 = some (r1, r2)) :
  Calls Try.prog 31 #[.agg #[.int .i64 ad, .slice ag ab.length ah], .int .i64 a1, .int .i64 a2] w fun e w' => ∃ v0_ : Value, e = .returned (.tuple #[v0_, .bool r2]) ∧ Kd.R (Kd.int .i64) 3 w' w.heap.size (fun _ => True) v0_ r1 ∧ Below w.heap.size w w' := by
 have aU := Try.underlying25
 have al := ak ap
 have am := ak aq
 clear ap aq
 have HB := ak (Below.refl w.heap.size w)
 have H : ((impl_nodesIn.f ad ab (([a1, a2] : List Int))).bind fun aj => (if aj = true then ((impl_Net_best.f k ad ab a1 a2).bind fun af => (some (af.1, af.2))) else (some (([] : List Int), false)))) = some (r1, r2) := h
 clear h
 obtain ⟨an, ao⟩ : ∃ y_ : List Int, y_ = (([a1, a2] : List Int)) := ⟨_, rfl⟩
 replace H : ((impl_nodesIn.f ad ab an).bind fun aj => (if aj = true then ((impl_Net_best.f k ad ab a1 a2).bind fun af => (some (af.1, af.2))) else (some (([] : List Int), false)))) = some (r1, r2) := by (rw [ao]; with_reducible exact H)
 have ar := ak ao
 clear ao
 replace H := Option.bind_eq_some_iff.mp H
 obtain ⟨aj, A40, H⟩ := H
 have A4 := ak A40
 clear A40
 by_cases c5 : aj = true
 rotate_left
 ·replace c5 := Bool.eq_false_iff.mpr c5
  subst c5
  rw [if_neg (show ¬ (false = true) by decide)] at H
  simp only [Option.some.injEq, Prod.mk.injEq] at H
  obtain ⟨rfl, rfl⟩ := H
  go_enter Try.func31, Try.ntmps31
  go_wp2_with (first | ((with_reducible refine gate_dst (N := 3) rfl ?_); refine qZh ?hg (N := 3) ?hd (cs := #[.int .i64 ad, .slice ag ab.length ah]) (t := 25) ?hr ?_; (case hd => rfl); (case hg => rfl); (case hr => (go_simp; done)); intro ai hg w15 hbox hb; have aa := ak (hbox); have aw := ak ((by rw [hg]; exact (qZc (bl HB)) : w.heap.size ≤ ai)); have ae := ak ((by rw [hg]; exact (qZc (bl HB)) : w.heap.size ≤ ai)); replace HB := ak (qZd (bl HB) hb); clear hb hbox hg; have ay := bc w15 aa 0 (.int .i64 ad) rfl; have az := bc w15 aa 1 (.slice ag ab.length ah) rfl; have aA := fz aa 0; have aB := fz aa 1) | ((with_reducible refine gate_dst (N := 11) rfl ?_); refine Kd.R_lit (Kd.int .i64) _ 3 ?hg (N := 11) ?hd (xs := ([a1, a2] : List Int)) (inner := [.int .i64 a1, .int .i64 a2]) (ok := fun _ => True) (okp := fun _ => True) ?hr ?hp (fun _ hk => hk) trivial (Below.refl _ _) (Nat.le_refl _) (by simp) ?_; (case hd => rfl); (case hg => rfl); (case hr => (go_simp; done)); (case hp => exact (Reps.one (show Kd.M (Kd.int .i64) _ _ _ a1 [.int .i64 a1] from rfl) (Reps.one (show Kd.M (Kd.int .i64) _ _ _ a2 [.int .i64 a2] from rfl) (Reps.none _ _)))); intro aG w17 au hb hg_ hnew_; clear hg_ hnew_; (rw [← ar.out] at au); have ac := ak (Kd.R_lower au (qZc (bl1 HB ae))); replace aa := ak (qZe (bk aa) hb); replace HB := ak (qZd (bl1 HB ae) hb); clear hb au; obtain ⟨aH, aI, aJ⟩ := Kd.R_slice ac.out; subst aJ) | ((with_reducible refine gate_callee (f := 58) rfl ?_); refine qQi (some 12) rfl rfl Try.func58 (by kernel_rfl) rfl #[.agg #[.int .i64 ad, .slice ag ab.length ah], .slice aH an.length aI] rfl (by (try simp only [List.map_toArray, List.map_cons, List.map_nil]); rfl) ?_; (with_reducible refine (impl_nodesIn.calls ad _ _ ab _ _ an false _ ?side1 ?side2 ?side3 ?side4 A4.out).mono ?_); (case side1 => repeat (exact (Kd.C_below al.out HB.out))); (case side2 => exact am.out); (case side3 => repeat (exact (Kd.R_reads' ac.out).2.2)); (case side4 => exact (Kd.R_reads' ac.out).2.1); rintro e w20 ⟨rfl, hb⟩; refine ⟨_, rfl, ?_⟩; replace ac := ak (Kd.R_below (rk ac) hb); replace aa := ak (qZe (bk aa) hb); replace HB := ak (qZd (bl1 HB ae) hb); (try clear hb); (try clear hb2); (try clear hk); (try clear hi)))
  go_ret2
  exact ⟨_, by rfl, by exact Kd.R_nil _ _ _ _ _, bl1 HB ae⟩
 subst c5
 rw [if_pos rfl] at H
 replace H := Option.bind_eq_some_iff.mp H
 obtain ⟨⟨aK, aL⟩, A60, H⟩ := H
 have A6 := ak A60
 clear A60
 simp only [Option.some.injEq, Prod.mk.injEq] at H
 obtain ⟨rfl, rfl⟩ := H
 go_enter Try.func31, Try.ntmps31
 go_wp2_with (first | ((with_reducible refine gate_dst (N := 3) rfl ?_); refine qZh ?hg (N := 3) ?hd (cs := #[.int .i64 ad, .slice ag ab.length ah]) (t := 25) ?hr ?_; (case hd => rfl); (case hg => rfl); (case hr => (go_simp; done)); intro ai hg w7 hbox hb; have aa := ak (hbox); have aw := ak ((by rw [hg]; exact (qZc (bl HB)) : w.heap.size ≤ ai)); have ae := ak ((by rw [hg]; exact (qZc (bl HB)) : w.heap.size ≤ ai)); replace HB := ak (qZd (bl HB) hb); clear hb hbox hg; have aN := bc w7 aa 0 (.int .i64 ad) rfl; have aO := bc w7 aa 1 (.slice ag ab.length ah) rfl; have aP := fz aa 0; have aQ := fz aa 1) | ((with_reducible refine gate_dst (N := 11) rfl ?_); refine Kd.R_lit (Kd.int .i64) _ 3 ?hg (N := 11) ?hd (xs := ([a1, a2] : List Int)) (inner := [.int .i64 a1, .int .i64 a2]) (ok := fun _ => True) (okp := fun _ => True) ?hr ?hp (fun _ hk => hk) trivial (Below.refl _ _) (Nat.le_refl _) (by simp) ?_; (case hd => rfl); (case hg => rfl); (case hr => (go_simp; done)); (case hp => exact (Reps.one (show Kd.M (Kd.int .i64) _ _ _ a1 [.int .i64 a1] from rfl) (Reps.one (show Kd.M (Kd.int .i64) _ _ _ a2 [.int .i64 a2] from rfl) (Reps.none _ _)))); intro aG w9 av hb hg_ hnew_; clear hg_ hnew_; (rw [← ar.out] at av); have ac := ak (Kd.R_lower av (qZc (bl1 HB ae))); replace aa := ak (qZe (bk aa) hb); replace HB := ak (qZd (bl1 HB ae) hb); clear hb av; obtain ⟨aR, aS, aT⟩ := Kd.R_slice ac.out; subst aT) | ((with_reducible refine gate_callee (f := 58) rfl ?_); refine qQi (some 12) rfl rfl Try.func58 (by kernel_rfl) rfl #[.agg #[.int .i64 ad, .slice ag ab.length ah], .slice aR an.length aS] rfl (by (try simp only [List.map_toArray, List.map_cons, List.map_nil]); rfl) ?_; (with_reducible refine (impl_nodesIn.calls ad _ _ ab _ _ an true _ ?side1 ?side2 ?side3 ?side4 A4.out).mono ?_); (case side1 => repeat (exact (Kd.C_below al.out HB.out))); (case side2 => exact am.out); (case side3 => repeat (exact (Kd.R_reads' ac.out).2.2)); (case side4 => exact (Kd.R_reads' ac.out).2.1); rintro e w12 ⟨rfl, hb⟩; refine ⟨_, rfl, ?_⟩; replace ac := ak (Kd.R_below (rk ac) hb); replace aa := ak (qZe (bk aa) hb); replace HB := ak (qZd (bl1 HB ae) hb); (try clear hb); (try clear hb2); (try clear hk); (try clear hi); have aC := bc w12 aa 0 (.int .i64 ad) rfl; have aD := bc w12 aa 1 (.slice ag ab.length ah) rfl; have aE := fz aa 0; have aF := fz aa 1) | ((with_reducible refine gate_callee (f := 67) rfl ?_); refine qQi (some 17) rfl rfl Try.func67 (by kernel_rfl) rfl #[.agg #[.int .i64 ad, .slice ag ab.length ah], .int .i64 a1, .int .i64 a2] rfl (by (try simp only [List.map_toArray, List.map_cons, List.map_nil]); rfl) ?_; (with_reducible refine (impl_Net_best.calls k ad _ _ ab a1 a2 aK aL _ ?side1 ?side2 A6.out).mono ?_); (case side1 => repeat (exact (Kd.C_below al.out HB.out))); (case side2 => exact am.out); rintro e w14 ⟨aV, rfl, ho0, hb⟩; refine ⟨_, rfl, ?_⟩; have ax := ak (Kd.R_lower (Kd.R_new' ho0 (Kd.R_lt (rk ac))) (qZc (bl1 HB ae))); replace ac := ak (Kd.R_elder' (rk ac) (Kd.R_base ho0) hb); replace aa := ak (qZe (bk aa) hb); replace HB := ak (qZd (bl1 HB ae) hb); (try clear hb); (try clear hb2); (try clear hk); (try clear hi); (try clear ho0)))
 go_ret2
 exact ⟨_, by rfl, by exact Kd.R_mono ax.out (fun _ hk => trivial), bl1 HB ae⟩
end Go.Proofs.Ytlgolgfcolnddaa.F
