-- Printed by wip/px/px.py of this claim's repository (the kit's printer, extended there). Lean checks it.
import Derived.Test.YtlgolgfcolnddaaFKinds
namespace Go.Proofs.Ytlgolgfcolnddaa.F
open Go.RowKit Go.Proofs.YtlgolgfcolnddaaW.PrintWords Go.Proofs.YtlgolgfcolnddaaW.PrintLast Go.Proofs.YtlgolgfcolnddaaW.PrintMore
attribute [local go_sem] max2_int min2_int max_two min_two max_three min_three max_four min_four   -- for this text's walks alone
set_option linter.unusedVariables false
set_option linter.unusedSimpArgs false

/-! ### text markss -/
/-- The number behind n marks. -/
def mkI : Nat → Int → Int
  | 0, a => a
  | n + 1, a => wrap64 (mkI n a + 1)
def mkSS (l : List (List Int)) (a : Int) : Int := l.foldl (fun x r => mkI r.length x) a
theorem mkSS_take (l : List (List Int)) (a : Int) (i : Nat) (h : i < l.length) : mkSS (l.take (i + 1)) a = mkI l[i].length (mkSS (l.take i) a) := by
  unfold mkSS
  rw [List.take_succ_eq_append_getElem h, List.foldl_append]
  rfl
/-- A number stands there. -/
def IntAt (w : World) (p : Addr) : Prop := (∃ x, w.cell? p = some (.int .i64 x)) ∧ w.frozen? p = false
def Ints (w W : World) : Prop := ∀ p, IntAt w p → IntAt W p
theorem intAt_set {W : World} {p q : Addr} (h : IntAt W p) (x : Int) : IntAt (W.setCell q (.int .i64 x)) p := by
  obtain ⟨⟨m, hm⟩, hf⟩ := h
  refine ⟨?_, (World.frozen?_setCell W q p _).trans hf⟩
  by_cases e : q = p
  · subst e
    exact ⟨x, World.cell?_setCell_same _ _ _ hm⟩
  · exact ⟨m, (World.cell?_setCell_other _ _ _ _ e).trans hm⟩
/-- A block of one of these types. -/
def TyIn (E : List Nat) (w : World) (k : Nat) : Prop := ∃ q, q ∈ E ∧ ∃ cells, w.heap[k]? = some (.cells cells q (0, 0))
theorem TyIn.no {E : List Nat} {w : World} {g t : Nat} {cells : Array Value} (h : TyIn E w g) (hb : w.heap[g]? = some (.cells cells t (0, 0))) (ht : ¬ t ∈ E) : False := by
  obtain ⟨q, hq, c, hc⟩ := h
  rw [hb] at hc
  injection hc with hc
  injection hc with _ hc
  exact ht (hc ▸ hq)
section
variable {α : Type} {d : Kd α} {e base : Nat} {w w1 : World} {ok okS T : Nat → Prop} {E : List Nat} {v : Value} {xs : List α}
theorem markOwn (h : Kd.S d e w base ok v xs) : d.R e w base (fun k => ok k ∧ TyIn (e :: d.E) w k) v xs := Kd.R_mono (Kd.R_bound (Kd.S_R h)) (fun _ hk => ⟨hk.1, hk.2.2.2⟩)
/-- Rows of other types stay. -/
theorem R_keptT (h : d.R e w base ok v xs) (hk : Kept w w1 (fun k => okS k ∧ TyIn E w k)) (hd : ∀ q, q ∈ e :: d.E → ¬ q ∈ E) : d.R e w1 base ok v xs :=
  Kd.R_mono (Kd.R_kept (Kd.R_bound h) hk (fun k ho hs => by
    obtain ⟨_, _, _, q, hq, c, hc⟩ := ho
    exact hs.2.no hc (hd q hq))) (fun _ hk => hk.1)
/-- A row that leads to nothing, and is none of them, stays. -/
theorem R_keptI (h : d.R e w base ok v xs) (hE : d.E = []) (hk : Kept w w1 (fun k => okS k ∧ T k)) (hn : ∀ k, okS k → some k ≠ v.ownBlock) : d.R e w1 base ok v xs :=
  Kd.R_mono (Kd.R_kept (Kd.R_tight hE h) hk (fun k ho hs => hn k hs.1 ho)) (fun k hk => h.1 k hk.symm)
end
set_option maxHeartbeats 2000000 in
set_option maxRecDepth 100000 in
theorem markI_weak (B : Nat → Prop) (w0 : World) (hB0 : ∀ k, B k → w0.heap.size ≤ k) (A : Option Addr) (n c : Nat) (a : Int) (w : World) (hn : n ≤ 1048576) (hw : Below w0.heap.size w0 w) (hA : 0 < n → ∃ g, A = some ⟨g, 0, none⟩ ∧ B g ∧ ∀ j : Nat, j < n → IntAt w ⟨g, j, none⟩) :
    Calls Try.prog 42 #[.slice A n c, .int .i64 a] w fun e w' => e = .returned (.int .i64 (mkI n a)) ∧ Below w0.heap.size w0 w' ∧ Kept w w' B ∧ Ints w w' := by
  have HA := Aside0.mk hA
  have HW := Aside0.mk hw
  clear hA hw
  go_enter Try.func42, Try.ntmps42
  go_wp2
  go_loopg [1, 5] n (fun kx s1 s5 wr => ∃ i : Nat, i ≤ n ∧ n - i ≤ kx ∧ s1 = .int .i64 (mkI i a) ∧ s5 = .int .i64 (i : Int) ∧ Aside0 (Below w0.heap.size w0 wr) ∧ Aside0 (Kept w wr B) ∧ Aside0 (Ints w wr))
  case atStart => exact ⟨0, Nat.zero_le _, by omega, rfl, rfl, HW, ⟨Kept.refl _ _⟩, ⟨fun p h => h⟩⟩
  case round =>
    obtain ⟨i, hi, hg, rfl, rfl, BW, KW, IW⟩ := hrel
    by_cases hlt : i < n
    · have hltz : (i : Int) < (n : Int) := by omega
      obtain ⟨g, rfl, hb, hc⟩ := HA.out (by omega)
      obtain ⟨⟨x, y1⟩, y2⟩ := IW.out _ (hc i hlt)
      have NB := Aside0.mk (below_set BW.out (hB0 g hb) : Below w0.heap.size w0 (wr.setCell ⟨g, i, none⟩ (.int .i64 (mkI i a))))
      have NK := Aside0.mk (Kept.setCell (p := ⟨g, i, none⟩) KW.out (.inl hb) (.int .i64 (mkI i a)))
      have NI := Aside0.mk (fun p h => intAt_set (IW.out p h) (mkI i a) : Ints w (wr.setCell ⟨g, i, none⟩ (.int .i64 (mkI i a))))
      clear HA hc hb
      go_wp2
      go_roundg (n - (i + 1))
      case measure => omega
      case rel => exact ⟨i + 1, hlt, Nat.le_refl _, rfl, by go_num, NB, NK, NI⟩
    · have hltz : ¬ (i : Int) < (n : Int) := by omega
      have hk : i = n := by omega
      have HK := Aside0.mk hk
      clear hk
      go_wp2
      go_ret
      exact ⟨by rw [← HK.out]; rfl, BW.out, KW.out, IW.out⟩
set_option maxHeartbeats 2000000 in
set_option maxRecDepth 100000 in
theorem markSS_any (P0_ : Nat → Prop) (u9000_ : Value) (l0 : List (List Int)) (a1 : Int) (w0 w : World) (hB : Below w0.heap.size w0 w) (ho0 : Kd.R (Kd.slice 3 (Kd.int .i64)) 33 w w0.heap.size P0_ u9000_ l0) (h1 : l0.length ≤ 1048576) (h2 : ∀ x ∈ l0, x.length ≤ 1048576) :
    Calls Try.prog 24 #[u9000_, .int .i64 a1] w fun e w' => e = .returned (.int .i64 (mkSS l0 a1)) ∧ Below w0.heap.size w0 w' ∧ Kept w w' (fun k_ => P0_ k_) := by
  obtain ⟨A, c, rfl, hc, _⟩ := Kd.R_reads ho0
  have HO := Aside0.mk ho0
  have HB := Aside0.mk hB
  have H2 := Aside0.mk h2
  clear ho0 hB h2
  go_enter Try.func24, Try.ntmps24
  go_wp2
  go_loopg [1, 5] l0.length (fun kx s1 s5 wr => ∃ i : Nat, i ≤ l0.length ∧ l0.length - i ≤ kx ∧ s1 = .int .i64 (mkSS (l0.take i) a1) ∧ s5 = .int .i64 (i : Int) ∧ Aside0 (Below w0.heap.size w0 wr) ∧ Aside0 (Kept w wr (fun k => (P0_ k ∧ w0.heap.size ≤ k) ∧ some k ≠ (Value.slice A l0.length c).ownBlock)) ∧ Aside0 (Ints w wr))
  case atStart => exact ⟨0, Nat.zero_le _, by omega, rfl, rfl, HB, ⟨Kept.refl _ _⟩, ⟨fun p h => h⟩⟩
  case round =>
    obtain ⟨i, hi, hg, rfl, rfl, BW, KW, IW⟩ := hrel
    by_cases hlt : i < l0.length
    · have hltz : (i : Int) < (l0.length : Int) := by omega
      obtain ⟨g, cap, ev, hg1, hg2, _⟩ := Kd.R_form HO.out (by omega)
      injection ev with ev1 ev2 ev3
      subst ev1
      subst ev3
      obtain ⟨cs, _, hM, hcs, _⟩ := Kd.R_elem HO.out ([] : List Int) (i : Int) (Int.natCast_nonneg _) hltz
      obtain ⟨v, rfl, hR⟩ := hM
      have hcell := hcs 0 v rfl
      rw [Int.toNat_natCast] at hR hcell
      have e1 : i * (Kd.slice 3 (Kd.int .i64)).sz + 0 = i := by show i * 1 + 0 = i; omega
      rw [e1] at hcell
      have eg : l0.getD i [] = l0[i] := by simp [hlt]
      rw [eg] at hR
      obtain ⟨Ai, ci, rfl, hci, _⟩ := Kd.R_reads hR
      have hgw : wr.heap[g]? = w.heap[g]? := KW.out.2 g hg2 (fun hk => hk.2 rfl)
      have hcell2 : wr.cell? ⟨g, i, none⟩ = some (.slice Ai l0[i].length ci) := by
        have : w.cell? ⟨g, i, none⟩ = some (.slice Ai l0[i].length ci) := hcell
        simpa [World.cell?, hgw] using this
      have hR2 := Kd.R_bound hR
      have MW := Aside0.mk (markI_weak (fun k => (P0_ k ∧ w0.heap.size ≤ k) ∧ some k ≠ (Value.slice (some ⟨g, 0, none⟩) l0.length c).ownBlock) w0 (fun k hk => hk.1.2) Ai l0[i].length ci (mkSS (l0.take i) a1) wr (H2.out _ (List.getElem_mem hlt)) BW.out (fun hp => by
        obtain ⟨b, cb, eb, hb1, hb2, _⟩ := Kd.R_form hR2 hp
        injection eb with eb1 eb2 eb3
        subst eb1
        subst eb3
        have hok := hR2.1 b rfl
        refine ⟨b, rfl, ⟨⟨hok.1.1, hok.2.1⟩, fun e => hok.1.2 (by simpa [Value.ownBlock] using e)⟩, fun j hj => IW.out _ ?_⟩
        obtain ⟨z1, z2⟩ := Kd.R_celln (0 : Int) hR (j : Int) (Int.natCast_nonneg _) (by omega)
        rw [Int.toNat_natCast] at z1 z2
        exact ⟨⟨_, z1⟩, z2⟩))
      have ES := Aside0.mk (mkSS_take l0 a1 i hlt)
      clear hR hR2 hcell hgw hcs
      go_wp2_with (go_at_call 42; refine MW.out.mono ?_; rintro e w' ⟨rfl, hb', hk', hi'⟩; have NB := Aside0.mk hb'; have NK := Aside0.mk (KW.out.then_ hk' (fun k hk => .inl hk)); have NI := Aside0.mk (fun p h => hi' p (IW.out p h) : Ints w w'); clear hb' hk' hi')
      go_roundg (l0.length - (i + 1))
      case measure => omega
      case rel => exact ⟨i + 1, hlt, Nat.le_refl _, by rw [ES.out], by go_num, NB, NK, NI⟩
    · have hltz : ¬ (i : Int) < (l0.length : Int) := by omega
      have hk : i = l0.length := by omega
      have HK := Aside0.mk hk
      clear hk
      go_wp2
      go_ret
      exact ⟨by rw [HK.out, List.take_length]; rfl, BW.out, KW.out.mono (fun k hk => hk.1.1)⟩

end Go.Proofs.Ytlgolgfcolnddaa.F
