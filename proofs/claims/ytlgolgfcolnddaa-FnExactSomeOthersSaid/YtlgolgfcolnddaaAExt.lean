import Derived.Test.YtlgolgfcolnddaaAInvWordsMoreSized
namespace Go.Proofs.YtlgolgfcolnddaaW.PrintWords
open Go.RowKit
theorem own_clip {w : World} {base n c size : Nat} {e : TypeId} {A : Option Addr} {xs : List Value} (h : w.pwRow base e size (.slice A n c) n xs) : w.pwRow base e size (.slice A n n) n xs := by
  obtain ⟨h1, h2⟩ := h
  refine ⟨h1, ?_⟩
  rcases h2 with ⟨he, h0⟩ | ⟨g, cap, cur, he, hb, hh, hnc, hcm, hcs, ht⟩
  · injection he with ha _ _
    subst ha
    subst h0
    exact .inl ⟨rfl, rfl⟩
  · injection he with ha _ _
    subst ha
    exact .inr ⟨g, n, cur, rfl, hb, hh, Nat.le_refl _, Nat.le_trans hnc hcm, Nat.le_trans (Nat.mul_le_mul_right _ hnc) hcs, ht⟩
theorem hcb {w w1 : World} {a : Addr} {v : Value} (hb : Below w.heap.size w w1) (h : w.cell? a = some v) : w1.cell? a = some v := (hb.cell (World.block_lt_of_cell? w _ h)).trans h
theorem ownBlock_clip (A : Option Addr) (n c c' : Nat) : (Value.slice A n c).ownBlock = (Value.slice A n c').ownBlock := by cases A <;> rfl
section
variable {P : Program}
theorem cut_clip (t e : TypeId) {i : TypeInfo} (ht : P.underlying t = some (.slice e)) (hi : P.info? e = some i) (A : Option Addr) (n c : Nat) (hc : n ≤ c) :
    ∀ W : World, (Instr.slice t (.slice A n c) none (some (.int .i64 n)) (some (.int .i64 n))).run P W = .ok (.slice A n n) W := by
  intro W
  have hel : P.elem t = e := by simp [Program.elem, ht]
  have hu : P.underlying t = some (.slice (P.elem t)) := by rw [hel]; exact ht
  have ha : (A.map fun x => x.add 0) = A := by cases A <;> simp [Addr.add]
  rw [run_slice_hm W t A n c hu .i64 .i64 (n : Int) (n : Int) (by omega) (by omega) (by omega), hel]
  simp [sizeOf, typeInfo, hi, sliced, Result.andThen, ha]
end
namespace Kd
section
variable {α : Type} {d : Kd α} {e n c : Nat} {w : World} {base : Nat} {ok : Nat → Prop} {A : Option Addr} {xs : List α}
theorem R_clip (h : d.R e w base ok (.slice A n c) xs) : d.R e w base ok (.slice A xs.length xs.length) xs := by
  obtain ⟨h0, inner, ho, hr⟩ := h
  have hn : n = xs.length := by
    obtain ⟨A', c', he⟩ := own_slice ho
    injection he
  subst hn
  exact ⟨fun k hk => h0 k (by rw [ownBlock_clip A _ c xs.length]; exact hk), inner, own_clip ho, by rw [ownBlock_clip A _ xs.length c]; exact hr⟩
theorem S_clip (h : S d e w base ok (.slice A n c) xs) : S d e w base ok (.slice A xs.length xs.length) xs := by
  obtain ⟨f, h⟩ := h
  have h2 := R_clip h
  rw [List.length_zipIdx] at h2
  exact ⟨f, h2⟩
end
section
variable {P : Program} {ops : Array Oper} {rest : List Oper} {o : Oper} {a : Act} {Q' : Exit → Act → World → Prop} {Kc : Act → World → Prop} {α : Type} {W : World}
theorem made0_run (d : Kd α) (e : Nat) (t : TypeId) (n : Int) (ht : P.underlying t = some (.slice e)) (z : Value) (bytes : Nat) (hinfo : (P.info? e).map (fun i => (i.zero, i.size, i.bytes)) = some (some z, d.sz, bytes)) (hb0 : 0 < bytes)
    (h0 : 0 ≤ n) (hl : n.toNat * bytes ≤ 281474976710656) :
    (Instr.makeSlice t (.int .i64 0) (.int .i64 n)).run P W = .ok (.slice (some ⟨W.heap.size, 0, none⟩) 0 n.toNat) (W.alloc (.cells (madeCells z.cells (n.toNat * d.sz)) e)) ∧ n.toNat ≤ 281474976710656 := by
  obtain ⟨m, rfl⟩ := Int.eq_ofNat_of_zero_le h0
  simp only [Int.toNat_natCast] at hl ⊢
  obtain ⟨i0, hi, hzz⟩ := Option.map_eq_some_iff.1 hinfo
  simp only [Prod.mk.injEq] at hzz
  obtain ⟨hz0, hz1, hz2⟩ := hzz
  have hm : m ≤ 281474976710656 := Nat.le_trans (Nat.le_mul_of_pos_right _ hb0) hl
  have hr := run_make (P := P) W t e i0 z ht hi hz0 .i64 .i64 0 (m : Int) (by omega) (by omega)
    (by
      have h3 : ((i0.bytes * m : Nat) : Int) ≤ 281474976710656 := by rw [hz2, Nat.mul_comm]; omega
      rwa [Int.natCast_mul] at h3) (by omega)
  simp only [Int.toNat_natCast, Int.toNat_zero] at hr
  rw [hz1] at hr
  exact ⟨hr, hm⟩
theorem made0_R (d : Kd α) {base e : Nat} {ok : Nat → Prop} (z : Value) (m : Nat) (hm : m ≤ 281474976710656) (hfresh : ok W.heap.size) (hbase : base ≤ W.heap.size) :
    d.R e (W.alloc (.cells (madeCells z.cells (m * d.sz)) e)) base ok (.slice (some ⟨W.heap.size, 0, none⟩) 0 m) [] := by
  refine ⟨fun k hk => ?_, [], ?_, ⟨by simp, fun j p hj => by simp at hj⟩⟩
  · have : W.heap.size = k := by simpa [Value.ownBlock] using hk
    subst this
    exact hfresh
  · exact World.pwRow_made W _ m hbase (by simp only [maxLen]; omega) (size_madeCells _ _)
theorem R_make0 (d : Kd α) {w0 : World} (base e : Nat) (hgd : o.guard = none) {N : Tmp} (_hd : o.dst = some N) (t : TypeId) (x y : Operand) (ho : o.op = .makeSlice t x y) (n : Int) (hx : a.eval x = .int .i64 0) (hy : a.eval y = .int .i64 n)
    (ht : P.underlying t = some (.slice e)) (z : Value) (bytes : Nat) (hinfo : (P.info? e).map (fun i => (i.zero, i.size, i.bytes)) = some (some z, d.sz, bytes)) (hb0 : 0 < bytes)
    {ok : Nat → Prop} (hfresh : ok W.heap.size) (h0 : 0 ≤ n) (hl : n.toNat * bytes ≤ 281474976710656) (HB : Below base w0 W) (hbase : base ≤ W.heap.size)
    (h : ∀ v1 w1, d.R e w1 base ok v1 [] → Below base w0 w1 → W.grownBy w1 none → (∃ b, v1.ownBlock = some b ∧ W.heap.size ≤ b) → wpList P ops Q' rest (a.put o.dst v1) w1) : wpList P ops Q' (o :: rest) a W := by
  obtain ⟨hr, hm⟩ := made0_run (W := W) d e t n ht z bytes hinfo hb0 h0 hl
  refine event_run hgd (v := .slice (some ⟨W.heap.size, 0, none⟩) 0 n.toNat) (w1 := W.alloc (.cells (madeCells z.cells (n.toNat * d.sz)) e)) (by simp [execOp, ho, hx, hy, hr]) ?_
  exact h _ _ (made0_R d z _ hm hfresh hbase) (HB.alloc hbase _) (World.grownBy_alloc W _ none) ⟨W.heap.size, by simp [Value.ownBlock], Nat.le_refl _⟩
end
end Kd
def ms (n b : Nat) : Array Bool := ((List.range n).map fun i => b.testBit i).toArray
structure Bk (g : Nat) (o : Obj) (w0 w : World) : Prop where mk :: (out : w0.heap[g]? = some o → w.heap[g]? = some o)
theorem Bk.r {g : Nat} {o : Obj} {w : World} : Bk g o w w := ⟨id⟩
theorem Bk.n {g : Nat} {o : Obj} {w0 w : World} (h : Bk g o w0 w) (m : Nat) : Bk g o w0 (w.drewN m) := ⟨fun b => blk_drewN (h.out b) m⟩
theorem Bk.d {g : Nat} {o : Obj} {w0 w : World} (h : Bk g o w0 w) : Bk g o w0 w.drew := ⟨fun b => blk_drew (h.out b)⟩
theorem Bk.a {g : Nat} {o : Obj} {w0 w : World} (h : Bk g o w0 w) (x : Obj) : Bk g o w0 (w.alloc x) := ⟨fun b => blk_alloc (h.out b) x⟩
theorem bk {g : Nat} {o : Obj} {w0 w : World} (b : Aside0 (w0.heap[g]? = some o)) (h : Bk g o w0 w := by repeat (first | (with_reducible first | exact Bk.r | refine Bk.n ?_ _ | refine Bk.d ?_ | refine Bk.a ?_ _) | exact Bk.r)) : w.heap[g]? = some o := h.out b.out
structure Bl (G : List Nat) (w0 w1 w : World) : Prop where mk :: (out : (∀ g, g ∈ G → w0.heap.size ≤ g) → Below w0.heap.size w0 w1 → Below w0.heap.size w0 w)
theorem Bl.r {G : List Nat} {w0 w : World} : Bl G w0 w w := ⟨fun _ b => b⟩
theorem Bl.n {G : List Nat} {w0 w1 w : World} (h : Bl G w0 w1 w) (m : Nat) : Bl G w0 w1 (w.drewN m) := ⟨fun g b => pw_below_drewN (h.out g b) m⟩
theorem Bl.d {G : List Nat} {w0 w1 w : World} (h : Bl G w0 w1 w) : Bl G w0 w1 w.drew := ⟨fun g b => below_drew1 (h.out g b)⟩
theorem Bl.a {G : List Nat} {w0 w1 w : World} (h : Bl G w0 w1 w) (x : Obj) : Bl G w0 w1 (w.alloc x) := ⟨fun g b => below_alloc (h.out g b) x⟩
theorem Bl.s {G : List Nat} {w0 w1 w : World} {g j : Nat} {v : Value} (h : Bl G w0 w1 w) (hg : g ∈ G) : Bl G w0 w1 (w.setCell ⟨g, j, none⟩ v) := ⟨fun i b => below_set (h.out i b) (i g hg)⟩
theorem bl {w0 w1 w : World} (b : Aside0 (Below w0.heap.size w0 w1)) (h : Bl [] w0 w1 w := by repeat (first | (with_reducible first | exact Bl.r | refine Bl.n ?_ _ | refine Bl.d ?_ | refine Bl.a ?_ _) | exact Bl.r)) : Below w0.heap.size w0 w := h.out (fun _ h => nomatch h) b.out
theorem Aside0.two {p q : Prop} (a : Aside0 p) (b : Aside0 q) : Aside0 (p ∧ q) := ⟨a.out, b.out⟩
theorem bl1 {w0 w1 w : World} {g1 : Nat} (b : Aside0 (Below w0.heap.size w0 w1)) (G1 : Aside0 (w0.heap.size ≤ g1)) (h : Bl [g1] w0 w1 w := by repeat (first | (with_reducible first | exact Bl.r | refine Bl.n ?_ _ | refine Bl.d ?_ | refine Bl.a ?_ _ | refine Bl.s ?_ List.mem_cons_self) | exact Bl.r)) : Below w0.heap.size w0 w := h.out (by simpa using G1.out) b.out
theorem bl2 {w0 w1 w : World} {g1 g2 : Nat} (b : Aside0 (Below w0.heap.size w0 w1)) (G1 : Aside0 (w0.heap.size ≤ g1)) (G2 : Aside0 (w0.heap.size ≤ g2)) (h : Bl [g1, g2] w0 w1 w := by repeat (first | (with_reducible first | exact Bl.r | refine Bl.n ?_ _ | refine Bl.d ?_ | refine Bl.a ?_ _ | refine Bl.s ?_ List.mem_cons_self | refine Bl.s ?_ (List.mem_cons_of_mem _ List.mem_cons_self)) | exact Bl.r)) : Below w0.heap.size w0 w := h.out (by simpa using ⟨G1.out, G2.out⟩) b.out
theorem bl3 {w0 w1 w : World} {g1 g2 g3 : Nat} (b : Aside0 (Below w0.heap.size w0 w1)) (G1 : Aside0 (w0.heap.size ≤ g1)) (G2 : Aside0 (w0.heap.size ≤ g2)) (G3 : Aside0 (w0.heap.size ≤ g3)) (h : Bl [g1, g2, g3] w0 w1 w := by repeat (first | (with_reducible first | exact Bl.r | refine Bl.n ?_ _ | refine Bl.d ?_ | refine Bl.a ?_ _ | refine Bl.s ?_ List.mem_cons_self | refine Bl.s ?_ (List.mem_cons_of_mem _ List.mem_cons_self) | refine Bl.s ?_ (List.mem_cons_of_mem _ (List.mem_cons_of_mem _ List.mem_cons_self))) | exact Bl.r)) : Below w0.heap.size w0 w := h.out (by simpa using ⟨G1.out, G2.out, G3.out⟩) b.out
section
variable {α : Type} {κ : Kd α} {e : Nat} {base : Nat} {ok : Nat → Prop} {v : Value} {xs : List α}
structure Rk (κ : Kd α) (e : Nat) (base : Nat) (ok : Nat → Prop) (v : Value) (xs : List α) (w0 w : World) : Prop where mk :: (out : κ.R e w0 base ok v xs → κ.R e w base ok v xs)
theorem Rk.r {w : World} : Rk κ e base ok v xs w w := ⟨id⟩
theorem Rk.n {w0 w : World} (h : Rk κ e base ok v xs w0 w) (m : Nat) : Rk κ e base ok v xs w0 (w.drewN m) := ⟨fun b => Kd.R_drewN (h.out b) m⟩
theorem Rk.d {w0 w : World} (h : Rk κ e base ok v xs w0 w) : Rk κ e base ok v xs w0 w.drew := ⟨fun b => Kd.R_drew (h.out b)⟩
theorem Rk.a {w0 w : World} (h : Rk κ e base ok v xs w0 w) (x : Obj) : Rk κ e base ok v xs w0 (w.alloc x) := ⟨fun b => Kd.R_alloc (h.out b) x⟩
theorem rk {w0 w : World} (b : Aside0 (κ.R e w0 base ok v xs)) (h : Rk κ e base ok v xs w0 w := by repeat (first | (with_reducible first | exact Rk.r | refine Rk.n ?_ _ | refine Rk.d ?_ | refine Rk.a ?_ _) | exact Rk.r)) : κ.R e w base ok v xs := h.out b.out
end
theorem sA {α : Type} {xs : List α} {i : Nat} {a : α} : xs.toArray.setIfInBounds i a = (xs.set i a).toArray := List.setIfInBounds_toArray ..
theorem sB {α : Type} {x y : α} {xs : List α} : (x :: xs).set 0 y = y :: xs := rfl
theorem sC {α : Type} {x y : α} {xs : List α} {n : Nat} : (x :: xs).set (n + 1) y = x :: xs.set n y := rfl
theorem oT {p : Prop} [Decidable p] (h : decide p = true) : p := of_decide_eq_true h
end Go.Proofs.YtlgolgfcolnddaaW.PrintWords
set_option linter.unusedVariables false
namespace Go.Proofs.YtlgolgfcolnddaaW.PrintLast
open Go.Proofs.YtlgolgfcolnddaaW.PrintWords
def chainNum (m0 x y : Nat) (T : List Nat) (s : Nat) (b c : Bool) : Nat := m0 + ((T.take s).map (2 ^ ·)).sum + (if b then 2 ^ x else 0) + (if c then 2 ^ y else 0)
def chainOk (TT : List (List Nat × List Nat)) (n m0 x y xs : Nat) (T : List Nat) (s : Nat) (b c : Bool) : Bool :=
  let l := (ms n (chainNum m0 x y T s b c)).toList
  let r := readyT TT l
  !r.isEmpty && r.all fun i =>
    (decide (s < T.length) && (i == T.getD s 0) && (s != xs || b) && (l.set i true == (ms n (chainNum m0 x y T (s + 1) b c)).toList)) ||
    (!b && i == x && (l.set i true == (ms n (chainNum m0 x y T s true c)).toList)) ||
    (!c && i == y && (l.set i true == (ms n (chainNum m0 x y T s b true)).toList))
def chainB (TT : List (List Nat × List Nat)) (n m0 x y xs : Nat) (T : List Nat) : Bool :=
  (List.range (T.length + 1)).all fun s => [false, true].all fun b => [false, true].all fun c => !(decide (s ≤ xs) || b) || (s == T.length && b && c) || chainOk TT n m0 x y xs T s b c
section
variable {P : Program} {ops : Array Oper} {Q : Exit → Act → World → Prop} {md : Region.Mode} {S : World → Prop} {TT : Bool × List (List Nat × List Nat)}
end
section
variable {P : Program} {ops : Array Oper} {Q : Exit → Act → World → Prop} {md : Region.Mode} {S : World → Prop} {ds : List Nat}
theorem pu (i N : Nat) {oi : Oper} {T : Bool × List (List Nat × List Nat)} {fuel : Nat} {l : Array Bool} {a : Act} {w : World} (v : Value) (l' : Array Bool) (hi : ops[i]? = some oi) (hN : oi.dst = some N) (hT : Aside0 (rtab md ops = T)) (hc : anyT T l.toList l'.toList i = true)
    (hQ : ∀ c a w, Q (.panic c) (a.put oi.dst v) w → Q (.panic c) a w) (hg : Region.wanted oi (yielded ops a.tmps) = true) (hy : ∀ w, (execOp a.eval oi).run P w = .ok (.value v) w) (a' : Act) (ha : a.put (some N) v = a')
    (h : wpAnyLast P md ops Q S ds fuel l' a' w) : wpAnyLast P md ops Q S ds (fuel + 1) l a w := pure_ l' hi hN (any_of hT.out hc) hQ (.inl ⟨hg, hy⟩) ha h
theorem tk (i N : Nat) {oi : Oper} {T : Bool × List (List Nat × List Nat)} {B : List Nat} {fuel : Nat} {l : Array Bool} {a : Act} {w : World} (v : Value) (l' : Array Bool) (hi : ops[i]? = some oi) (hN : oi.dst = some N) (hT : Aside0 (rtab md ops = T)) (hB : Aside0 (waitsOk T.2 B = true)) (hc : takeW T B ds l.toList l'.toList i = true)
    (hQ : ∀ c a w, Q (.panic c) (a.put oi.dst v) w → Q (.panic c) a w) (hg : Region.wanted oi (yielded ops a.tmps) = true) (hy : ∀ w, S w → (execOp a.eval oi).run P w = .ok (.value v) w) (hS : S w) (a' : Act) (ha : a.put (some N) v = a')
    (h : wpAnyLast P md ops Q S ds fuel l' a' w) : wpAnyLast P md ops Q S ds (fuel + 1) l a w := take_ l' hi hN (take_ofW hT.out hB.out hc) hQ (.inl ⟨hg, hy⟩) hS ha h
end
theorem bc (w : World) {g : Nat} {t : TypeId} {cs : Array Value} (h : Aside0 (w.heap[g]? = some (.cells cs t (0, 0)))) (i : Nat) (v : Value) (e : cs[i]? = some v) : w.cell? ⟨g, i, none⟩ = some v := (blk_cell h.out i).trans e
theorem fz {w : World} {g : Nat} {t : TypeId} {cs : Array Value} (h : Aside0 (w.heap[g]? = some (.cells cs t (0, 0)))) (i : Nat) : w.frozen? ⟨g, i, none⟩ = false := blk_frozen h.out i
theorem SX : (∀ (a : Act) (d : Tmp) (v : Value), a.put (some d) v = { a with tmps := a.tmps.setIfInBounds d v }) ∧ (∀ (a : Act) (v : Value), a.put none v = a) ∧ (∀ {α : Type} {xs : List α} {i : Nat} {a : α}, xs.toArray.setIfInBounds i a = (xs.set i a).toArray) ∧ (∀ {α : Type} {x y : α} {xs : List α}, (x :: xs).set 0 y = y :: xs) ∧ (∀ {α : Type} {x y : α} {xs : List α} {n : Nat}, (x :: xs).set (n + 1) y = x :: xs.set n y) ∧ (∀ n : Int, IntKind.i64.wrap n = Go.RowKit.wrap64 n) ∧ (∀ n : Int, IntKind.i32.wrap n = Go.RowKit.wrap32 n) := ⟨fun _ _ _ => rfl, fun _ _ => rfl, sA, sB, sC, i64_w, i32_w⟩
theorem ak {p : Prop} (h : p) : Aside0 p := ⟨h⟩
end Go.Proofs.YtlgolgfcolnddaaW.PrintLast
