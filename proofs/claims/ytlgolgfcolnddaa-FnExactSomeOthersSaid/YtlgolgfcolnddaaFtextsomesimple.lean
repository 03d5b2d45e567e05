-- Printed by wip/px/px.py of this claim's repository (the kit's printer, extended there). Lean checks it.
import Derived.Test.YtlgolgfcolnddaaFKinds
import Derived.StillTailTactics
import Derived.Test.YtlgolgfcolnddaaFtextsomeord
import Derived.Test.YtlgolgfcolnddaaFtextsomecmp
import Derived.Test.YtlgolgfcolnddaaFtextsomefol
import Derived.Test.YtlgolgfcolnddaaFtextsomefolall
import Derived.Test.YtlgolgfcolnddaaFtextsomesort
namespace Go.Proofs.Ytlgolgfcolnddaa.F
open Go.RowKit Go.Proofs.YtlgolgfcolnddaaW.PrintWords Go.Proofs.YtlgolgfcolnddaaW.PrintLast Go.Proofs.YtlgolgfcolnddaaW.PrintMore
attribute [local go_sem] max2_int min2_int max_two min_two max_three min_three max_four min_four   -- for this text's walks alone
set_option linter.unusedVariables false
set_option linter.unusedSimpArgs false

/-! ### text somesimple -/
/-- All walks from a node to another one that come to no node twice, in order. -/
def simF (l : List S58) (a b : Int) : Option (List (List Int)) := if (l.all fun x => decide (0 ≤ x.f1 ∧ x.f1 < 8)) = true ∧ l.length ≤ 1000 ∧ 0 ≤ a ∧ a < 8 then (folF l b 8 a (2 ^ a.toNat) [] []).bind fun o => if (o.all fun w => w.all fun k => decide (0 ≤ k ∧ k < (l.length : Int))) = true ∧ o.length < 4611686018427387904 then some (sortW (lessW fun x => wcost l x 0) o) else none else none
theorem R_empty {α : Type} {d : Kd α} {e : Nat} {W : World} {base : Nat} {ok : Nat → Prop} {g : Nat} (hb : base ≤ g) (hh : W.heap[g]? = some (.cells #[] e (0, 0))) (hok : ok g) : d.R e W base ok (.slice (some ⟨g, 0, none⟩) 0 0) [] := by
  refine ⟨fun k hk => ?_, [], ⟨by simp, .inr ⟨g, 0, #[], rfl, hb, hh, Nat.le_refl _, by decide, by simp, by simp⟩⟩, Reps.none _ _⟩
  have : g = k := by simpa [Value.ownBlock] using hk
  rw [← this]; exact hok
set_option maxHeartbeats 4000000 in
set_option maxRecDepth 100000 in
theorem simple_any (n : Int) (A0 : Option Addr) (c0 : Nat) (l : List S58) (a b : Int) (r : List (List Int)) (w : World) (hr0 : Kd.C k58 w A0 l.length l) (h : simF l a b = some r) :
    Calls Try.prog 59 #[.agg #[.int .i64 n, .slice A0 l.length c0], .int .i64 a, .int .i64 b] w fun e w' => ∃ v0_ : Value, e = .returned v0_ ∧ Kd.S (Kd.slice 3 (Kd.int .i64)) 33 w' w.heap.size (fun _ => True) v0_ r ∧ Below w.heap.size w w' := by
  unfold simF at h
  by_cases hok : (l.all fun x => decide (0 ≤ x.f1 ∧ x.f1 < 8)) = true ∧ l.length ≤ 1000 ∧ 0 ≤ a ∧ a < 8
  rotate_left
  · rw [if_neg hok] at h; cases h
  rw [if_pos hok] at h
  obtain ⟨o, ho, h⟩ := Option.bind_eq_some_iff.mp h
  by_cases hin : (o.all fun w => w.all fun k => decide (0 ≤ k ∧ k < (l.length : Int))) = true ∧ o.length < 4611686018427387904
  rotate_left
  · rw [if_neg hin] at h; cases h
  rw [if_pos hin] at h
  obtain rfl := Option.some.inj h
  obtain ⟨h8, hll, ha0, ha8⟩ := hok
  obtain ⟨hin, hol⟩ := hin
  have hl8 : ∀ x ∈ l, 0 ≤ x.f1 ∧ x.f1 < 8 := fun x hx => of_decide_eq_true (List.all_eq_true.1 h8 x hx)
  have hin2 : ∀ w ∈ o, ∀ k ∈ w, 0 ≤ k ∧ k < (l.length : Int) := fun w hw k hk => of_decide_eq_true (List.all_eq_true.1 (List.all_eq_true.1 hin w hw) k hk)
  have hu := Try.underlying25
  have hst : ∀ (a : Addr) (cs : Array Value) (m : Mode) (W : World), Sem.run Try.prog (store a (.func (.func 92) #[] cs) m) W = stored Try.prog W a (.func (.func 92) #[] cs) m := fun a cs m W => run_store _ W a _ m rfl
  have HR := Aside0.mk hr0
  have HIN := Aside0.mk hin2
  have FO := Aside0.mk (fun (W : World) (wv ov : Value) (hI : FolI w (w.heap.size + 1) (w.heap.size + 1 + 1 + 1) (w.heap.size + 1 + 1 + 1 + 1 + 1) w.heap.size (w.heap.size + 1 + 1 + 1 + 1 + 1 + 1) b #[.int .i64 n, .slice A0 l.length c0] W wv ov [] []) => follow_any l A0 c0 n hl8 w hr0 hll _ _ _ _ _ ⟨by omega, by omega, by omega, by omega, by omega, by omega, by omega, by omega, by omega⟩ b 8 a (2 ^ a.toNat) W wv ov [] [] o (by simp) (by have := Nat.pow_le_pow_right (n := 2) (by decide) (show a.toNat ≤ 7 by omega); omega) hI ho)
  obtain ⟨WB, hWB⟩ : ∃ WB, WB = (((((((w.alloc (.cells #[.int .i64 n, .slice A0 l.length c0] 25)).alloc (.cells #[.int .i64 b] 3)).alloc (.cells #[] 33)).alloc (.cells #[.slice (some ⟨w.heap.size + 1 + 1, 0, none⟩) 0 0] 28)).alloc (.cells #[] 3)).alloc (.cells #[.slice (some ⟨w.heap.size + 1 + 1 + 1 + 1, 0, none⟩) 0 0] 33)).alloc (.cells #[.func (.func 92) #[] #[.pointer (some ⟨w.heap.size + 1, 0, none⟩), .pointer (some ⟨w.heap.size + 1 + 1 + 1, 0, none⟩), .pointer (some ⟨w.heap.size + 1 + 1 + 1 + 1 + 1, 0, none⟩), .pointer (some ⟨w.heap.size, 0, none⟩), .pointer (some ⟨w.heap.size + 1 + 1 + 1 + 1 + 1 + 1, 0, none⟩)]] 104)) := ⟨_, rfl⟩
  have nw : ∀ (V : World) (o : Obj) (k : Nat), V.heap.size = k → (V.alloc o).heap[k]? = some o := fun V o k e => by subst e; exact heap_alloc_new V o
  have hI0 : FolI w (w.heap.size + 1) (w.heap.size + 1 + 1 + 1) (w.heap.size + 1 + 1 + 1 + 1 + 1) w.heap.size (w.heap.size + 1 + 1 + 1 + 1 + 1 + 1) b #[.int .i64 n, .slice A0 l.length c0] WB (.slice (some ⟨w.heap.size + 1 + 1 + 1 + 1, 0, none⟩) 0 0) (.slice (some ⟨w.heap.size + 1 + 1, 0, none⟩) 0 0) [] [] := by
    have e2 : WB.heap[w.heap.size + 1 + 1]? = some (.cells #[] 33 (0, 0)) := by rw [hWB]; exact blk_alloc (blk_alloc (blk_alloc (blk_alloc (nw _ _ _ (by simp)) _) _) _) _
    have e4 : WB.heap[w.heap.size + 1 + 1 + 1 + 1]? = some (.cells #[] 3 (0, 0)) := by rw [hWB]; exact blk_alloc (blk_alloc (nw _ _ _ (by simp)) _) _
    refine ⟨?_, ?_, ?_, ⟨104, ?_⟩, ?_, ?_, R_empty (by omega) e4 (by omega), ⟨fun _ => 0, R_empty (by omega) e2 ⟨by omega, fun e => ?_⟩⟩⟩
    · rw [hWB]; exact below_alloc (below_alloc (below_alloc (below_alloc (below_alloc (below_alloc (below_alloc (Below.refl _ _) _) _) _) _) _) _) _
    · rw [hWB]; exact blk_alloc (blk_alloc (blk_alloc (blk_alloc (blk_alloc (nw _ _ _ (by simp)) _) _) _) _) _
    · rw [hWB]; exact blk_alloc (blk_alloc (blk_alloc (blk_alloc (blk_alloc (blk_alloc (nw _ _ _ rfl) _) _) _) _) _) _
    · rw [hWB]; exact nw _ _ _ (by simp)
    · rw [hWB]; exact blk_alloc (nw _ _ _ (by simp)) _
    · rw [hWB]; exact blk_alloc (blk_alloc (blk_alloc (nw _ _ _ (by simp)) _) _) _
    · have e : w.heap.size + 1 + 1 = w.heap.size + 1 + 1 + 1 + 1 := Option.some.inj e
      omega
  have x1 : WB.cell? ⟨w.heap.size + 1 + 1 + 1 + 1 + 1 + 1, 0, none⟩ = some (.func (.func 92) #[] #[.pointer (some ⟨w.heap.size + 1, 0, none⟩), .pointer (some ⟨w.heap.size + 1 + 1 + 1, 0, none⟩), .pointer (some ⟨w.heap.size + 1 + 1 + 1 + 1 + 1, 0, none⟩), .pointer (some ⟨w.heap.size, 0, none⟩), .pointer (some ⟨w.heap.size + 1 + 1 + 1 + 1 + 1 + 1, 0, none⟩)]) := by
    obtain ⟨T, hf⟩ := hI0.fol
    exact (blk_cell hf 0).trans rfl
  have FD := Aside0.mk (FO.out WB.drew _ _ (hI0.next (below_drew (Below.refl _ _))))
  have sh : wrap64 (2 ^ a.toNat) = ((2 ^ a.toNat : Nat) : Int) := by
    have p1 : 2 ^ a.toNat ≤ 2 ^ 7 := Nat.pow_le_pow_right (by decide) (by omega)
    rw [show (2 : Int) ^ a.toNat = ((2 ^ a.toNat : Nat) : Int) by push_cast; rfl]
    generalize 2 ^ a.toNat = q at p1 ⊢
    unfold wrap64
    omega
  rw [← sh] at FD
  have SO := Aside0.mk (fun (W : World) (wv ov : Value) (hI : FolI w (w.heap.size + 1) (w.heap.size + 1 + 1 + 1) (w.heap.size + 1 + 1 + 1 + 1 + 1) w.heap.size (w.heap.size + 1 + 1 + 1 + 1 + 1 + 1) b #[.int .i64 n, .slice A0 l.length c0] W wv ov [] o) => (sortS_any n A0 c0 l w.heap.size w W _ ov o HR.out hI.below hI.net (fun k hk e => hk.1 (.inr (.inr (.inr (.inl e))))) hI.so HIN.out hol).mono (R' := fun e w' => e = .returned (.tuple #[]) ∧ Below w.heap.size w w' ∧ Kd.S (Kd.slice 3 (Kd.int .i64)) 33 w' w.heap.size (fun _ => True) ov (sortW (lessW fun x => wcost l x 0) o) ∧ w'.cell? ⟨w.heap.size + 1 + 1 + 1, 0, none⟩ = some ov) fun e w' ⟨h1, h2, h3, h4⟩ => ⟨h1, h2, Kd.S_mono h3 (fun _ _ => trivial), (blk_cell ((h4 _ (blk_lt hI.ot) (fun z => z.1 (.inr (.inl rfl)))).trans hI.ot) 0).trans rfl⟩)
  clear hr0 hin hin2 h8 hl8 ho nw hI0 FO sh
  go_enter Try.func59, Try.ntmps59
  go_wp2
  rw [← hWB]
  clear hWB hst
  refine wp_region_still_tail 4 (by kernel_rfl) (by kernel_rfl) ?_
  simp only [List.take_succ_cons, List.take_zero, List.drop_succ_cons, List.drop_zero]
  show wpStill _ _ (World.drew _) (fun a' => wpList _ _ _ _ a' (World.drew _)) _ _
  iterate 4 still_step
  refine wpStill_nil ?_
  clear x1
  go_wp2_with (first
    | (go_at_call 92; refine FD.out.mono ?_; rintro e w4 ⟨rfl, wv4, ov4, hI4⟩; have z1 : w4.cell? ⟨w.heap.size + 1 + 1 + 1, 0, none⟩ = some ov4 := (blk_cell hI4.ot 0).trans rfl; have SD := Aside0.mk (SO.out w4 wv4 ov4 hI4); clear hI4)
    | (go_at_call 94; refine SD.out.mono ?_; rintro e w5 ⟨rfl, hb5, hs5, z5⟩; have HB5 := Aside0.mk hb5; have HS5 := Aside0.mk hs5; clear hb5 hs5))
  go_ret
  exact ⟨_, rfl, HS5.out, HB5.out⟩

end Go.Proofs.Ytlgolgfcolnddaa.F
