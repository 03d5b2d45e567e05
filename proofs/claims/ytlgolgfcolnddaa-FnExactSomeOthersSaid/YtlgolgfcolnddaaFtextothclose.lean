-- Printed by wip/px/px.py of this claim's repository (the kit's printer, extended there). Lean checks it.
import Derived.Test.YtlgolgfcolnddaaFKinds
import Derived.Deep.QuietTactic
import Derived.Test.YtlgolgfcolnddaaFtextothshare
namespace Go.Proofs.Ytlgolgfcolnddaa.F
open Go.RowKit Go.Proofs.YtlgolgfcolnddaaW.PrintWords Go.Proofs.YtlgolgfcolnddaaW.PrintLast Go.Proofs.YtlgolgfcolnddaaW.PrintMore
attribute [local go_sem] max2_int min2_int max_two min_two max_three min_three max_four min_four   -- for this text's walks alone
set_option linter.unusedVariables false
set_option linter.unusedSimpArgs false

/-! ### text othclose -/
/-! A region that draws its order, whose operations only read and whose callees make memory of their own: walked once. -/
structure BelowBy (W : World) where
  w : World
  h : Below W.heap.size W w
instance BelowBy.some_ (W : World) : Nonempty (BelowBy W) := ⟨⟨W, Below.refl _ W⟩⟩
theorem BelowBy.cell {W : World} (p : BelowBy W) {a : Addr} {v : Value} (h : W.cell? a = some v) : p.w.cell? a = some v := (p.h.cell (World.block_lt_of_cell? W _ h)).trans h
theorem wp_region_quiet_below {P : Program} {id : Nat} {Q : Exit → Act → World → Prop} {a : Act} {w : World} {l : List Oper} (hm : P.follows .mixedOrders = true) (hB : Region.lexB .any l.toArray = true)
    (h : wpQuiet P l.toArray (fun w' => ∃ p : BelowBy w, w' = p.w) (fun a' => ∀ w', (∃ p : BelowBy w, w' = p.w) → Q .normal a' w') l a) : (Code.region id l.toArray true).wp P Q a w :=
  wp_region_quiet (C := fun w' => ∃ p : BelowBy w, w' = p.w) hm hB ⟨⟨_, below_drew (Below.refl _ w)⟩, rfl⟩ (by simpa using h)
theorem Calls.below_of {P : Program} {f : FuncId} {args : Array Value} {W : World} (p : BelowBy W) {v : Value} (h : Calls P f args p.w fun e w' => e = .returned v ∧ Below p.w.heap.size p.w w') : Calls P f args p.w fun e w' => e = .returned v ∧ ∃ q : BelowBy W, w' = q.w :=
  h.mono fun _ w' ⟨he, hb⟩ => ⟨he, ⟨w', p.h.trans (hb.mono p.h.size)⟩, rfl⟩
/-- Does a walk share more than it may with one that was told. -/
def alikeB (l : List S58) (x : List Int) (first share : Int) (y : List Int) : Bool := decide (wrap64 (first * share) < wrap64 (wshare l y x 0 * 100))
set_option maxHeartbeats 2000000 in
set_option maxRecDepth 100000 in
theorem closeA_any (n : Int) (A0 : Option Addr) (c0 : Nat) (l : List S58) (gn gw gf gs : Nat) (Aw : Option Addr) (cw : Nat) (x : List Int) (first share : Int) (w : World)
    (hn : w.heap[gn]? = some (.cells #[.int .i64 n, .slice A0 l.length c0] 25 (0, 0))) (hw : w.heap[gw]? = some (.cells #[.slice Aw x.length cw] 33 (0, 0))) (hf : w.heap[gf]? = some (.cells #[.int .i64 first] 3 (0, 0))) (hs : w.heap[gs]? = some (.cells #[.int .i64 share] 3 (0, 0)))
    (hr0 : Kd.C k58 w A0 l.length l) (hx : Kd.C (Kd.int .i64) w Aw x.length x) (hin : ∀ k ∈ x, 0 ≤ k ∧ k < (l.length : Int)) :
    ∀ (W : World) (A : Option Addr) (c : Nat) (y : List Int), Below w.heap.size w W → Kd.C (Kd.int .i64) W A y.length y → y.length ≤ c → Calls Try.prog 50 (#[.slice A y.length c] ++ #[.pointer (some ⟨gn, 0, none⟩), .pointer (some ⟨gw, 0, none⟩), .pointer (some ⟨gf, 0, none⟩), .pointer (some ⟨gs, 0, none⟩)]) W fun e w' => e = .returned (.bool (alikeB l x first share y)) ∧ Below w.heap.size w w' := by
  intro W A c y hB hC hc
  have ce : ∀ (p : BelowBy W) (g t : Nat) (cs : Array Value), w.heap[g]? = some (.cells cs t (0, 0)) → p.w.heap[g]? = some (.cells cs t (0, 0)) := fun p g t cs h => (p.h.block _ (Nat.lt_of_lt_of_le (blk_lt h) hB.size)).trans ((hB.block _ (blk_lt h)).trans h)
  have x0 : ∀ p : BelowBy W, p.w.cell? ⟨gn, 0, none⟩ = some (.int .i64 n) := fun p => (blk_cell (ce p _ _ _ hn) 0).trans rfl
  have x1 : ∀ p : BelowBy W, p.w.cell? ⟨gn, 1, none⟩ = some (.slice A0 l.length c0) := fun p => (blk_cell (ce p _ _ _ hn) 1).trans rfl
  have x2 : ∀ p : BelowBy W, p.w.cell? ⟨gw, 0, none⟩ = some (.slice Aw x.length cw) := fun p => (blk_cell (ce p _ _ _ hw) 0).trans rfl
  have x3 : ∀ p : BelowBy W, p.w.cell? ⟨gf, 0, none⟩ = some (.int .i64 first) := fun p => (blk_cell (ce p _ _ _ hf) 0).trans rfl
  have x4 : ∀ p : BelowBy W, p.w.cell? ⟨gs, 0, none⟩ = some (.int .i64 share) := fun p => (blk_cell (ce p _ _ _ hs) 0).trans rfl
  have hu := Try.underlying25
  have K1 := Aside0.mk (fun (p : BelowBy W) => Calls.below_of p ((shareS_any n A0 c0 l Aw A cw c x y p.w (Kd.C_below (Kd.C_below hr0 hB) p.h) (Kd.C_below (Kd.C_below hx hB) p.h) (Kd.C_below hC p.h) hin).mono fun e w' h => ⟨h.1, by rw [h.2]; exact below_alloc (Below.refl _ _) _⟩))
  have HB := Aside0.mk hB
  show Calls Try.prog 50 #[.slice A y.length c, .pointer (some ⟨gn, 0, none⟩), .pointer (some ⟨gw, 0, none⟩), .pointer (some ⟨gf, 0, none⟩), .pointer (some ⟨gs, 0, none⟩)] W _
  unfold alikeB
  generalize wshare l y x 0 = q at K1 ⊢
  clear hB hC hn hw hf hs hr0 hx hin ce
  go_enter Try.func50, Try.ntmps50
  go_wp2
  refine wp_region_quiet_below (by kernel_rfl) (by kernel_rfl) ?_
  iterate 3 (quiet_step (fail))
  quiet_step (exact K1.out _)
  iterate 6 (quiet_step (fail))
  refine wpQuiet_nil ?_
  rintro w' ⟨p, rfl⟩
  go_wp2
  go_ret
  exact ⟨by rw [← i64_w, ← i64_w]; rfl, HB.out.trans (p.h.mono HB.out.size)⟩

end Go.Proofs.Ytlgolgfcolnddaa.F
