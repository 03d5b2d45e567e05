-- Printed by wip/px/px.py of this claim's repository (the kit's printer, extended there). Lean checks it.
import Derived.Test.YtlgolgfcolnddaaFKinds
namespace Go.Proofs.Ytlgolgfcolnddaa.F
open Go.RowKit Go.Proofs.YtlgolgfcolnddaaW.PrintWords Go.Proofs.YtlgolgfcolnddaaW.PrintLast Go.Proofs.YtlgolgfcolnddaaW.PrintMore
attribute [local go_sem] max2_int min2_int max_two min_two max_three min_three max_four min_four   -- for this text's walks alone
set_option linter.unusedVariables false
set_option linter.unusedSimpArgs false

/-! ### text somefol -/
def loopS {β : Type} (g : Int → β → Option β) : Nat → Nat → β → Option β
  | 0, _, st => some st
  | c + 1, i, st => (g (i : Int) st).bind fun s => loopS g c (i + 1) s
/-- All walks that go on so, to no node twice. -/
def folF (l : List S58) (tg : Int) : Nat → Int → Nat → List Int → List (List Int) → Option (List (List Int))
  | 0, at_, s, w, out => if at_ = tg then (if out.length < 1000000000000 then some (out ++ [w]) else none) else none
  | m + 1, at_, s, w, out => if at_ = tg then (if out.length < 1000000000000 then some (out ++ [w]) else none) else loopS (fun i o => if (rd_T58 l i).f0 = at_ ∧ s / 2 ^ (rd_T58 l i).f1.toNat % 2 = 0 then folF l tg m (rd_T58 l i).f1 (s ||| 2 ^ (rd_T58 l i).f1.toNat) (w ++ [i]) o else some o) l.length 0 out
theorem bitsAnd1 (n : Nat) (h : n < 9223372036854775808) : bits .and .i64 (n : Int) 1 = ((n % 2 : Nat) : Int) := by
  have e : (BitVec.ofInt 64 (n : Int) &&& BitVec.ofInt 64 1).toNat = n % 2 := by
    rw [BitVec.toNat_and]
    have e1 : (BitVec.ofInt 64 (n : Int)).toNat = n := by rw [BitVec.toNat_ofInt]; omega
    have e2 : (BitVec.ofInt 64 1).toNat = 1 := by decide
    rw [e1, e2, Nat.and_one_is_mod]
  show IntKind.i64.wrap ((BitVec.ofInt 64 (n : Int) &&& BitVec.ofInt 64 1).toNat : Int) = _
  rw [e, IntKind.wrap_i64]
  omega
theorem bitsOr (a b : Nat) (h : a < 256) (h2 : b < 256) : bits .or .i64 (a : Int) (b : Int) = ((a ||| b : Nat) : Int) := by
  have e : (BitVec.ofInt 64 (a : Int) ||| BitVec.ofInt 64 (b : Int)).toNat = a ||| b := by
    rw [BitVec.toNat_or]
    have e1 : (BitVec.ofInt 64 (a : Int)).toNat = a := by rw [BitVec.toNat_ofInt]; omega
    have e2 : (BitVec.ofInt 64 (b : Int)).toNat = b := by rw [BitVec.toNat_ofInt]; omega
    rw [e1, e2]
  have h3 : a ||| b < 2 ^ 8 := Nat.or_lt_two_pow (by omega) (by omega)
  show IntKind.i64.wrap ((BitVec.ofInt 64 (a : Int) ||| BitVec.ofInt 64 (b : Int)).toNat : Int) = _
  rw [e, IntKind.wrap_i64]
  omega
/-- What holds while walks are followed. -/
structure FolI (w2 : World) (gto gout gwk gn gf : Nat) (tg : Int) (nb : Array Value) (W : World) (wv ov : Value) (w : List Int) (out : List (List Int)) : Prop where
  below : Below w2.heap.size w2 W
  tgt : W.heap[gto]? = some (.cells #[.int .i64 tg] 3 (0, 0))
  net : W.heap[gn]? = some (.cells nb 25 (0, 0))
  fol : ∃ T, W.heap[gf]? = some (.cells #[.func (.func 92) #[] #[.pointer (some ⟨gto, 0, none⟩), .pointer (some ⟨gout, 0, none⟩), .pointer (some ⟨gwk, 0, none⟩), .pointer (some ⟨gn, 0, none⟩), .pointer (some ⟨gf, 0, none⟩)]] T (0, 0))
  wk : W.heap[gwk]? = some (.cells #[wv] 33 (0, 0))
  ot : W.heap[gout]? = some (.cells #[ov] 28 (0, 0))
  rw : Kd.R (Kd.int .i64) 3 W w2.heap.size (fun k => ¬ (k = gto ∨ k = gout ∨ k = gwk ∨ k = gn ∨ k = gf)) wv w
  so : Kd.S (Kd.slice 3 (Kd.int .i64)) 33 W w2.heap.size (fun k => ¬ (k = gto ∨ k = gout ∨ k = gwk ∨ k = gn ∨ k = gf) ∧ some k ≠ wv.ownBlock) ov out
theorem FolI.next {w2 : World} {gto gout gwk gn gf : Nat} {tg : Int} {nb : Array Value} {W W' : World} {wv ov : Value} {w : List Int} {out : List (List Int)} (h : FolI w2 gto gout gwk gn gf tg nb W wv ov w out) (hb : Below W.heap.size W W') : FolI w2 gto gout gwk gn gf tg nb W' wv ov w out := by
  obtain ⟨h1, h2, h3, ⟨T, h4⟩, h5, h6, h7, h8⟩ := h
  exact ⟨h1.trans (hb.mono h1.size), (hb.block _ (blk_lt h2)).trans h2, (hb.block _ (blk_lt h3)).trans h3, ⟨T, (hb.block _ (blk_lt h4)).trans h4⟩, (hb.block _ (blk_lt h5)).trans h5, (hb.block _ (blk_lt h6)).trans h6, Kd.R_below h7 hb, Kd.S_below h8 hb⟩
/-- The boxes are five, and new. -/
structure Apart5 (b gto gout gwk gn gf : Nat) : Prop where
  o1 : gout ≠ gto
  o2 : gout ≠ gwk
  o3 : gout ≠ gn
  o4 : gout ≠ gf
  k1 : gwk ≠ gto
  k2 : gwk ≠ gn
  k3 : gwk ≠ gf
  bo : b ≤ gout
  bk : b ≤ gwk
theorem FolI.putOut {w2 : World} {gto gout gwk gn gf : Nat} {tg : Int} {nb : Array Value} {W w3 : World} {wv ov v3 : Value} {w : List Int} {out out' : List (List Int)} (ha : Apart5 w2.heap.size gto gout gwk gn gf) (h : FolI w2 gto gout gwk gn gf tg nb W wv ov w out) (hg : W.grownBy w3 ov.ownBlock) (hb : Below w2.heap.size w2 w3)
    (hs : Kd.S (Kd.slice 3 (Kd.int .i64)) 33 w3 w2.heap.size (fun k => ¬ (k = gto ∨ k = gout ∨ k = gwk ∨ k = gn ∨ k = gf) ∧ some k ≠ wv.ownBlock) v3 out') : FolI w2 gto gout gwk gn gf tg nb (w3.setCell ⟨gout, 0, none⟩ v3) wv v3 w out' := by
  obtain ⟨h1, h2, h3, ⟨T, h4⟩, h5, h6, h7, h8⟩ := h
  have own := (Kd.S_R h8).1
  have keep : ∀ g o, (g = gto ∨ g = gout ∨ g = gwk ∨ g = gn ∨ g = gf) → W.heap[g]? = some o → w3.heap[g]? = some o := fun g o hx hh => (hg.block g (blk_lt hh) (fun e => (own g e.symm).1 hx)).trans hh
  have r2 := Kd.R_far (p := ⟨gout, 0, none⟩) (Kd.R_grown2 h7 rfl hg (fun k e => (own k e).2)) (fun k hk e => hk (.inr (.inl e))) v3
  have s2 := Kd.S_far (p := ⟨gout, 0, none⟩) hs (fun k hk e => hk.1 (.inr (.inl e))) v3
  exact ⟨below_set hb ha.bo, blk_far (keep _ _ (.inl rfl) h2) ha.o1.symm _, blk_far (keep _ _ (.inr (.inr (.inr (.inl rfl)))) h3) ha.o3.symm _, ⟨T, blk_far (keep _ _ (.inr (.inr (.inr (.inr rfl)))) h4) ha.o4.symm _⟩, blk_far (keep _ _ (.inr (.inr (.inl rfl))) h5) ha.o2.symm _, blk_set (keep _ _ (.inr (.inl rfl)) h6) 0 _, r2, s2⟩
theorem FolI.putWalk {w2 : World} {gto gout gwk gn gf : Nat} {tg : Int} {nb : Array Value} {W w3 : World} {wv ov v3 : Value} {w w' : List Int} {out : List (List Int)} (ha : Apart5 w2.heap.size gto gout gwk gn gf) (h : FolI w2 gto gout gwk gn gf tg nb W wv ov w out) (hg : W.grownBy w3 wv.ownBlock) (hb : Below w2.heap.size w2 w3)
    (hr : Kd.R (Kd.int .i64) 3 w3 w2.heap.size (fun k => ¬ (k = gto ∨ k = gout ∨ k = gwk ∨ k = gn ∨ k = gf)) v3 w') (hat : v3.ownBlock = wv.ownBlock ∨ ∃ b, v3.ownBlock = some b ∧ W.heap.size ≤ b) : FolI w2 gto gout gwk gn gf tg nb (w3.setCell ⟨gwk, 0, none⟩ v3) v3 ov w' out := by
  obtain ⟨h1, h2, h3, ⟨T, h4⟩, h5, h6, h7, h8⟩ := h
  have own := h7.1
  have keep : ∀ g o, (g = gto ∨ g = gout ∨ g = gwk ∨ g = gn ∨ g = gf) → W.heap[g]? = some o → w3.heap[g]? = some o := fun g o hx hh => (hg.block g (blk_lt hh) (fun e => own g e.symm hx)).trans hh
  have r2 := Kd.R_far (p := ⟨gwk, 0, none⟩) hr (fun k hk e => hk (.inr (.inr (.inl e)))) v3
  have s1 := Kd.S_grown (Kd.S_bound h8) hg (fun k hk => hk.1.2)
  have s2 := Kd.S_far (p := ⟨gwk, 0, none⟩) (Kd.S_mono (ok' := fun k => ¬ (k = gto ∨ k = gout ∨ k = gwk ∨ k = gn ∨ k = gf) ∧ some k ≠ v3.ownBlock) s1 (fun k hk => ⟨hk.1.1, fun e => by
    rcases hat with e2 | ⟨b, e2, hb2⟩
    · exact hk.1.2 (e.trans e2)
    · have e3 := e.trans e2
      injection e3 with e3
      have := hk.2.2.1
      omega⟩)) (fun k hk e => hk.1 (.inr (.inr (.inl e)))) v3
  exact ⟨below_set hb ha.bk, blk_far (keep _ _ (.inl rfl) h2) ha.k1.symm _, blk_far (keep _ _ (.inr (.inr (.inr (.inl rfl)))) h3) ha.k2.symm _, ⟨T, blk_far (keep _ _ (.inr (.inr (.inr (.inr rfl)))) h4) ha.k3.symm _⟩, blk_set (keep _ _ (.inr (.inr (.inl rfl))) h5) 0 _, blk_far (keep _ _ (.inr (.inl rfl)) h6) ha.o2 _, r2, s2⟩

end Go.Proofs.Ytlgolgfcolnddaa.F
