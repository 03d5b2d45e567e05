-- Printed by this claim's repository's tools (px.py, pgo.py, pack.py), one text behind the other. Lean checks it.
import Derived.Test.YtlgolgfcolnddaaFKindsPFnSomeOthers
import Derived.Test.YtlgolgfcolnddaaPFnSomeOthers0
import Derived.Deep.QuietTactic
import Derived.Test.YtlgolgfcolnddaaPFnSomeOthers1
namespace Go.Proofs.Ytlgolgfcolnddaa.F
open Go.RowKit Go.Proofs.YtlgolgfcolnddaaW.PrintWords Go.Proofs.YtlgolgfcolnddaaW.PrintLast Go.Proofs.YtlgolgfcolnddaaW.PrintMore
attribute [local go_sem] qQe qQd qQi qQh qZk qZl qQc qQb
set_option linter.unusedVariables false
set_option linter.unusedSimpArgs false
/-! ### text rowfunc -/
def rdR (xs : List (List Int)) (i : Int) : List Int := xs.getD i.toNat []
theorem at_R {w : World} {A : Option Addr} {n : Nat} {xs : List (List Int)} (h : Kd.C (Kd.slice 3 (Kd.int .i64)) w A n xs) (i : Int) (h0 : 0 ≤ i) (h1 : i < n) : ∃ ad A0 c0, A = some ad ∧ w.cell? (ad.add i.toNat) = some (.slice A0 (rdR xs i).length c0) ∧ (rdR xs i).length ≤ c0 ∧ (Kd.int .i64).C w A0 (rdR xs i).length (rdR xs i) := by
 obtain ⟨ad, c, e, _, hK, hc0⟩ := Kd.C_get h ([] : List Int) i h0 h1
 have hc : ∀ j u, c[j]? = some u → w.cell? (ad.add (i.toNat * 1 + j)) = some u := hc0
 obtain ⟨A0, c0, rfl, l0, g0⟩ := hK
 exact ⟨ad, A0, c0, e, by have hq := hc 0 _ rfl; rwa [Nat.mul_one, Nat.add_zero] at hq, l0, g0⟩

set_option maxHeartbeats 2000000 in
set_option maxRecDepth 100000 in
theorem indexFunc_row (p : List Int → Bool) (g : Nat) (lb : Array Value) (eg : ∀ args w, (callFunc g args).run Try.prog w = .ok (.enter g args) w) (A0 : Option Addr) (c0 : Nat) (l0 : List (List Int)) (w : World)
    (hp : ∀ (W : World) (A : Option Addr) (c : Nat) (x : List Int), Below w.heap.size w W → Kd.C (Kd.int .i64) W A x.length x → x.length ≤ c → Calls Try.prog g (#[.slice A x.length c] ++ lb) W fun e w' => e = .returned (.bool (p x)) ∧ Below w.heap.size w w')
    (hr0 : Kd.C (Kd.slice 3 (Kd.int .i64)) w A0 l0.length l0) :
    Calls Try.prog 89 #[.slice A0 l0.length c0, .func (.func g) #[] lb] w fun e w' => e = .returned (.int .i64 (idxP p l0)) ∧ Below w.heap.size w w' := by
  have HR0 := Aside0.mk hr0
  have hbig : l0.length ≤ 9223372036854775807 := by
    have := hr0.2.1
    omega
  clear hr0
  go_enter Try.func89, Try.ntmps89
  go_wp2
  go_loopg [5, 8] l0.length (fun gg _ s8 wr => ∃ kk : Nat, kk ≤ l0.length ∧ l0.length - kk ≤ gg ∧ s8 = .int .i64 kk ∧ Aside0 (Below w.heap.size w wr) ∧ Aside0 (∀ j, j < kk → p (l0.getD j []) = false))
  case atStart => exact ⟨0, Nat.zero_le _, by omega, rfl, ⟨Below.refl _ w⟩, ⟨fun j hj => absurd hj (Nat.not_lt_zero _)⟩⟩
  case round =>
    obtain ⟨kk, hkk, hg, rfl, BW, HA⟩ := hrel
    by_cases hlt : kk < l0.length
    · have hltz : (kk : Int) < (l0.length : Int) := by omega
      obtain ⟨ad, A1, c1, ea, h0, hc1, hC1⟩ := at_R HR0.out (kk : Int) (by omega) (by omega)
      have hcall := hp wr A1 c1 (rdR l0 kk) BW.out (Kd.C_below hC1 BW.out) hc1
      clear hC1
      have HE : Hid (l0.getD kk [] = rdR l0 kk) := Lib.hid (by unfold rdR; rw [Int.toNat_natCast])
      clear hp
      cases ea
      simp only [Int.toNat_natCast] at h0
      replace h0 := (BW.out.cell (World.block_lt_of_cell? w _ h0)).trans h0
      generalize rdR l0 kk = y at *
      cases hq : p y with
      | true =>
        rw [hq] at hcall
        have HQ := Lib.hid hq
        clear hq
        go_wp2_with (go_at_fn g; refine hcall.mono ?_; rintro e w' ⟨rfl, hb'⟩)
        go_ret
        refine ⟨?_, hb'⟩
        rw [qYo p l0 [] kk hlt (by rw [HE.out]; exact HQ.out) HA.out]
        rfl
      | false =>
        rw [hq] at hcall
        have HQ := Lib.hid hq
        clear hq
        go_wp2_with (go_at_fn g; refine hcall.mono ?_; rintro e w' ⟨rfl, hb'⟩)
        go_roundg (l0.length - (kk + 1))
        case measure => omega
        case rel =>
          refine ⟨kk + 1, by omega, by omega, by go_num, ⟨hb'⟩, ⟨fun j hj => ?_⟩⟩
          by_cases e : j = kk
          · subst e
            rw [HE.out]; exact HQ.out
          · exact HA.out j (by omega)
    · have hltz : ¬ (kk : Int) < (l0.length : Int) := by omega
      have hk : kk = l0.length := by omega
      go_wp2
      go_ret
      refine ⟨?_, BW.out⟩
      rw [qWe p l0 [] (by rw [← hk]; exact HA.out)]
      rfl
set_option maxHeartbeats 1000000 in
set_option maxRecDepth 100000 in
theorem containsFunc_row (p : List Int → Bool) (g : Nat) (lb : Array Value) (eg : ∀ args w, (callFunc g args).run Try.prog w = .ok (.enter g args) w) (A0 : Option Addr) (c0 : Nat) (l0 : List (List Int)) (w : World)
    (hp : ∀ (W : World) (A : Option Addr) (c : Nat) (x : List Int), Below w.heap.size w W → Kd.C (Kd.int .i64) W A x.length x → x.length ≤ c → Calls Try.prog g (#[.slice A x.length c] ++ lb) W fun e w' => e = .returned (.bool (p x)) ∧ Below w.heap.size w w')
    (hr0 : Kd.C (Kd.slice 3 (Kd.int .i64)) w A0 l0.length l0) :
    Calls Try.prog 52 #[.slice A0 l0.length c0, .func (.func g) #[] lb] w fun e w' => e = .returned (.bool (l0.any p)) ∧ Below w.heap.size w w' := by
  rw [← jZa]
  have hcall := indexFunc_row p g lb eg A0 c0 l0 w hp hr0
  clear hp hr0
  generalize idxP p l0 = r at hcall ⊢
  go_enter Try.func52, Try.ntmps52
  go_wp2_with (go_at_call 89; refine hcall.mono ?_; rintro e w' ⟨rfl, hb'⟩)
  go_ret
  exact ⟨rfl, hb'⟩
/-! ### text othshare -/
set_option maxHeartbeats 2000000 in
set_option maxRecDepth 100000 in
theorem indexI_any (A : Option Addr) (c : Nat) (l : List Int) (x : Int) (w : World) (hA : Kd.C (Kd.int .i64) w A l.length l) :
    Calls Try.prog 85 #[.slice A l.length c, .int .i64 x] w fun e w' => e = .returned (.int .i64 (idxP (fun y => x == y) l)) ∧ w' = w := by
  have HA := Aside0.mk hA
  have la := hA.2.1
  have ml : maxLen ≤ 9223372036854775807 := by decide
  clear hA
  go_enter Try.func85, Try.ntmps85
  go_wp2
  go_loopg [5, 8] l.length (fun kx _ s8 wr => ∃ i : Nat, s8 = .int .i64 (i : Int) ∧ wr = w ∧ i ≤ l.length ∧ l.length - i ≤ kx ∧ Aside0 (∀ j, j < i → (x == l.getD j 0) = false))
  case atStart => exact ⟨0, rfl, rfl, Nat.zero_le _, by omega, ⟨fun j hj => absurd hj (Nat.not_lt_zero _)⟩⟩
  case round =>
    obtain ⟨i, rfl, rfl, hi, hg, HS⟩ := hrel
    have z : (0 : Int) ≤ (i : Int) := by omega
    by_cases hlt : i < l.length
    · have hltz : (i : Int) < (l.length : Int) := by omega
      obtain ⟨ad, ea, q0⟩ := Kd.at_int HA.out (i : Int) z (by omega)
      cases ea
      rw [Int.toNat_natCast] at q0
      have HE := Aside0.mk (by simp [rd] : l.getD i 0 = rd l (i : Int))
      generalize rd l (i : Int) = y at q0 HE
      by_cases hy : x = y
      · have hb : (x == y) = true := beq_iff_eq.2 hy
        have HN := Aside0.mk (qYo (fun y => x == y) l 0 i hlt (by rw [HE.out]; exact hb) HS.out)
        clear HS HE hy
        go_wp2
        go_ret
        exact ⟨by rw [HN.out]; rfl, rfl⟩
      · have hb : (x == y) = false := beq_eq_false_iff_ne.2 hy
        have HN := Aside0.mk (by
          intro j hj
          by_cases e : j = i
          · subst e; rw [HE.out]; exact hb
          · exact HS.out j (by omega) : ∀ j, j < i + 1 → (x == l.getD j 0) = false)
        clear HS HE hy
        go_wp2
        go_roundg (l.length - (i + 1))
        case measure => omega
        case rel => exact ⟨i + 1, by go_num, rfl, hlt, Nat.le_refl _, HN⟩
    · have hltz : ¬ (i : Int) < (l.length : Int) := by omega
      have HN := Aside0.mk (qWe (fun y => x == y) l 0 (fun j hj => HS.out j (by omega)))
      clear HS
      go_wp2
      go_ret
      exact ⟨by rw [HN.out]; rfl, rfl⟩
set_option maxHeartbeats 1000000 in
theorem containsI_any (A : Option Addr) (c : Nat) (l : List Int) (x : Int) (w : World) (hA : Kd.C (Kd.int .i64) w A l.length l) :
    Calls Try.prog 88 #[.slice A l.length c, .int .i64 x] w fun e w' => e = .returned (.bool (l.any fun y => x == y)) ∧ w' = w := by
  rw [← jZa]
  have hcall := indexI_any A c l x w hA
  clear hA
  generalize idxP (fun y => x == y) l = r at hcall ⊢
  go_enter Try.func88, Try.ntmps88
  go_wp2_with (go_at_call 85; refine hcall.mono ?_; rintro e w' ⟨rfl, rfl⟩)
  go_ret
  exact ⟨rfl, rfl⟩
/-- What those arcs cost that are among others, behind what was counted. -/
def wshare (l : List S58) (b : List Int) : List Int → Int → Int
  | [], s => s
  | k :: r, s => wshare l b r (if (b.any fun y => k == y) = true then wrap64 (s + (qZa l k).f2) else s)
theorem wshare_at (l : List S58) (b a : List Int) (i : Nat) (h : i < a.length) (s : Int) : wshare l b (a.drop i) s = wshare l b (a.drop (i + 1)) (if (b.any fun y => rd a (i : Int) == y) = true then wrap64 (s + (qZa l (rd a (i : Int))).f2) else s) := by
  have e : rd a (i : Int) = a[i] := by simp [rd, h]
  rw [List.drop_eq_getElem_cons h, wshare, e]
set_option maxHeartbeats 2000000 in
set_option maxRecDepth 100000 in
theorem shareS_any (n : Int) (A0 : Option Addr) (c0 : Nat) (l : List S58) (A B : Option Addr) (ca cb : Nat) (a b : List Int) (w : World) (hr0 : Kd.C k58 w A0 l.length l) (hA : Kd.C (Kd.int .i64) w A a.length a) (hB : Kd.C (Kd.int .i64) w B b.length b) (hin : ∀ k ∈ a, 0 ≤ k ∧ k < (l.length : Int)) :
    Calls Try.prog 51 #[.agg #[.int .i64 n, .slice A0 l.length c0], .slice A a.length ca, .slice B b.length cb] w fun e w' => e = .returned (.int .i64 (wshare l b a 0)) ∧ w' = w.alloc (.cells #[.int .i64 n, .slice A0 l.length c0] 25) := by
  have hu := Try.underlying25
  have la := hA.2.1
  have ml : maxLen ≤ 9223372036854775807 := by decide
  obtain ⟨W, hW⟩ : ∃ W, W = w.alloc (.cells #[.int .i64 n, .slice A0 l.length c0] 25) := ⟨_, rfl⟩
  have hBl : Below w.heap.size w W := by rw [hW]; exact qZn (Below.refl _ _) _
  have b1 : W.heap[w.heap.size]? = some (.cells #[.int .i64 n, .slice A0 l.length c0] 25 (0, 0)) := by rw [hW]; exact qXo w _
  have x0 : W.cell? ⟨w.heap.size, 0, none⟩ = some (.int .i64 n) := (qZb b1 0).trans rfl
  have x1 : W.cell? ⟨w.heap.size, 1, none⟩ = some (.slice A0 l.length c0) := (qZb b1 1).trans rfl
  have HA := Aside0.mk (Kd.C_below hA hBl)
  have HR := Aside0.mk (Kd.C_below hr0 hBl)
  have CT := Aside0.mk (fun (x : Int) => containsI_any B cb b x W (Kd.C_below hB hBl))
  have HIN := Aside0.mk hin
  clear hA hB hr0 hBl b1 hin
  go_enter Try.func51, Try.ntmps51
  go_wp2
  rw [← hW]
  have HW := Aside0.mk hW
  clear hW
  go_loopg [7, 9, 12] a.length (fun kx s7 _ s12 wr => ∃ (i : Nat) (s : Int), s7 = .int .i64 s ∧ s12 = .int .i64 (i : Int) ∧ wr = W ∧ i ≤ a.length ∧ a.length - i ≤ kx ∧ Aside0 (wshare l b (a.drop i) s = wshare l b a 0))
  case atStart => exact ⟨0, 0, rfl, rfl, rfl, Nat.zero_le _, by omega, ⟨by simp⟩⟩
  case round =>
    obtain ⟨i, s, rfl, rfl, rfl, hi, hg, HS⟩ := hrel
    have z : (0 : Int) ≤ (i : Int) := by omega
    by_cases hlt : i < a.length
    · have hltz : (i : Int) < (a.length : Int) := by omega
      obtain ⟨ad, ea, q0⟩ := Kd.at_int HA.out (i : Int) z (by omega)
      cases ea
      rw [Int.toNat_natCast] at q0
      have hm : 0 ≤ rd a (i : Int) ∧ rd a (i : Int) < (l.length : Int) := HIN.out _ (by simp [rd, hlt])
      have HN := Aside0.mk ((wshare_at l b a i hlt s).symm.trans HS.out)
      generalize rd a (i : Int) = k at q0 hm HN
      obtain ⟨p0, p1⟩ := hm
      have C1 := Aside0.mk (CT.out k)
      clear HS
      cases hq : b.any fun y => k == y with
      | true =>
        rw [hq] at C1 HN
        rw [if_pos rfl] at HN
        clear hq
        obtain ⟨bd, eb, y0, y1, y2, y3, y4⟩ := qJk HR.out k p0 p1
        cases eb
        go_wp2_with (go_at_call 88; refine C1.out.mono ?_; rintro e w' ⟨rfl, rfl⟩)
        go_roundg (a.length - (i + 1))
        case measure => omega
        case rel => exact ⟨i + 1, _, rfl, by go_num, rfl, hlt, Nat.le_refl _, HN⟩
      | false =>
        rw [hq] at C1 HN
        rw [if_neg Bool.false_ne_true] at HN
        clear hq
        go_wp2_with (go_at_call 88; refine C1.out.mono ?_; rintro e w' ⟨rfl, rfl⟩)
        go_roundg (a.length - (i + 1))
        case measure => omega
        case rel => exact ⟨i + 1, _, rfl, by go_num, rfl, hlt, Nat.le_refl _, HN⟩
    · have hltz : ¬ (i : Int) < (a.length : Int) := by omega
      have HN := Aside0.mk (by have := HS.out; rw [List.drop_of_length_le (show a.length ≤ i by omega), wshare] at this; exact this : s = wshare l b a 0)
      clear HS
      go_wp2
      go_ret
      exact ⟨by rw [← HN.out]; rfl, HW.out⟩
/-! ### text othclose -/
/-! A region that draws its order, whose operations only read and whose callees make memory of their own: walked once. -/
structure BelowBy (W : World) where
  w : World
  h : Below W.heap.size W w
instance BelowBy.some_ (W : World) : Nonempty (BelowBy W) := ⟨⟨W, Below.refl _ W⟩⟩
theorem BelowBy.cell {W : World} (p : BelowBy W) {a : Addr} {v : Value} (h : W.cell? a = some v) : p.w.cell? a = some v := (p.h.cell (World.block_lt_of_cell? W _ h)).trans h
theorem qJi {P : Program} {id : Nat} {Q : Exit → Act → World → Prop} {a : Act} {w : World} {l : List Oper} (hm : P.follows .mixedOrders = true) (hB : Region.lexB .any l.toArray = true)
    (h : wpQuiet P l.toArray (fun w' => ∃ p : BelowBy w, w' = p.w) (fun a' => ∀ w', (∃ p : BelowBy w, w' = p.w) → Q .normal a' w') l a) : (Code.region id l.toArray true).wp P Q a w :=
  wp_region_quiet (C := fun w' => ∃ p : BelowBy w, w' = p.w) hm hB ⟨⟨_, qJl (Below.refl _ w)⟩, rfl⟩ (by simpa using h)
theorem Calls.below_of {P : Program} {f : FuncId} {args : Array Value} {W : World} (p : BelowBy W) {v : Value} (h : Calls P f args p.w fun e w' => e = .returned v ∧ Below p.w.heap.size p.w w') : Calls P f args p.w fun e w' => e = .returned v ∧ ∃ q : BelowBy W, w' = q.w :=
  h.mono fun _ w' ⟨he, hb⟩ => ⟨he, ⟨w', p.h.trans (hb.mono p.h.size)⟩, rfl⟩
/-- Does a walk share more than it may with one that was told. -/
def alikeB (l : List S58) (x : List Int) (first share : Int) (y : List Int) : Bool := decide (wrap64 (first * share) < wrap64 (wshare l y x 0 * 100))
set_option maxHeartbeats 2000000 in
set_option maxRecDepth 100000 in
theorem closeA_any (n : Int) (A0 : Option Addr) (c0 : Nat) (l : List S58) (gn gw gf gs : Nat) (Aw : Option Addr) (cw : Nat) (x : List Int) (first share : Int) (w : World)
    (hn : w.heap[gn]? = some (.cells #[.int .i64 n, .slice A0 l.length c0] 25 (0, 0))) (hw : w.heap[gw]? = some (.cells #[.slice Aw x.length cw] 33 (0, 0))) (hf : w.heap[gf]? = some (.cells #[.int .i64 first] 3 (0, 0))) (hs : w.heap[gs]? = some (.cells #[.int .i64 share] 3 (0, 0)))
    (hr0 : Kd.C k58 w A0 l.length l) (hx : Kd.C (Kd.int .i64) w Aw x.length x) (hin : ∀ k ∈ x, 0 ≤ k ∧ k < (l.length : Int)) :
    ∀ (W : World) (A : Option Addr) (c : Nat) (y : List Int), Below w.heap.size w W → Kd.C (Kd.int .i64) W A y.length y → y.length ≤ c → Calls Try.prog 50 (#[.slice A y.length c] ++ #[.pointer (some ⟨gn, 0, none⟩), .pointer (some ⟨gw, 0, none⟩), .pointer (some ⟨gf, 0, none⟩), .pointer (some ⟨gs, 0, none⟩)]) W fun e w' => e = .returned (.bool (alikeB l x first share y)) ∧ Below w.heap.size w w' := by
  intro W A c y hB hC hc
  have ce : ∀ (p : BelowBy W) (g t : Nat) (cs : Array Value), w.heap[g]? = some (.cells cs t (0, 0)) → p.w.heap[g]? = some (.cells cs t (0, 0)) := fun p g t cs h => (p.h.block _ (Nat.lt_of_lt_of_le (qZh h) hB.size)).trans ((hB.block _ (qZh h)).trans h)
  have x0 : ∀ p : BelowBy W, p.w.cell? ⟨gn, 0, none⟩ = some (.int .i64 n) := fun p => (qZb (ce p _ _ _ hn) 0).trans rfl
  have x1 : ∀ p : BelowBy W, p.w.cell? ⟨gn, 1, none⟩ = some (.slice A0 l.length c0) := fun p => (qZb (ce p _ _ _ hn) 1).trans rfl
  have x2 : ∀ p : BelowBy W, p.w.cell? ⟨gw, 0, none⟩ = some (.slice Aw x.length cw) := fun p => (qZb (ce p _ _ _ hw) 0).trans rfl
  have x3 : ∀ p : BelowBy W, p.w.cell? ⟨gf, 0, none⟩ = some (.int .i64 first) := fun p => (qZb (ce p _ _ _ hf) 0).trans rfl
  have x4 : ∀ p : BelowBy W, p.w.cell? ⟨gs, 0, none⟩ = some (.int .i64 share) := fun p => (qZb (ce p _ _ _ hs) 0).trans rfl
  have hu := Try.underlying25
  have K1 := Aside0.mk (fun (p : BelowBy W) => Calls.below_of p ((shareS_any n A0 c0 l Aw A cw c x y p.w (Kd.C_below (Kd.C_below hr0 hB) p.h) (Kd.C_below (Kd.C_below hx hB) p.h) (Kd.C_below hC p.h) hin).mono fun e w' h => ⟨h.1, by rw [h.2]; exact qZn (Below.refl _ _) _⟩))
  have HB := Aside0.mk hB
  show Calls Try.prog 50 #[.slice A y.length c, .pointer (some ⟨gn, 0, none⟩), .pointer (some ⟨gw, 0, none⟩), .pointer (some ⟨gf, 0, none⟩), .pointer (some ⟨gs, 0, none⟩)] W _
  unfold alikeB
  generalize wshare l y x 0 = q at K1 ⊢
  clear hB hC hn hw hf hs hr0 hx hin ce
  go_enter Try.func50, Try.ntmps50
  go_wp2
  refine qJi (by kernel_rfl) (by kernel_rfl) ?_
  iterate 3 (quiet_step (fail))
  quiet_step (exact K1.out _)
  iterate 6 (quiet_step (fail))
  refine wpQuiet_nil ?_
  rintro w' ⟨p, rfl⟩
  go_wp2
  go_ret
  exact ⟨by rw [← qVp, ← qVp]; rfl, HB.out.trans (p.h.mono HB.out.size)⟩
/-! ### text othpick -/
/-- What an elder grid's cells are, and what they lead to. -/
structure Grid (W : World) (base : Nat) (v : Value) (xs : List (List Int)) (f : Nat → Nat) (enc : Nat → Value) : Prop where
  len : ∃ A c, v = .slice A xs.length c ∧ xs.length ≤ c
  at_ : ∀ (j : Nat) (x : List Int), xs[j]? = some x → (∃ g c, v = .slice (some ⟨g, 0, none⟩) xs.length c ∧ W.cell? ⟨g, j, none⟩ = some (enc j)) ∧ (Kd.slice 3 (Kd.int .i64)).M W base (fun k => k < W.heap.size ∧ f k = j) x [enc j]
theorem grid_open {W : World} {base : Nat} {v : Value} {xs : List (List Int)} (h : Kd.S (Kd.slice 3 (Kd.int .i64)) 33 W base (fun _ => True) v xs) : ∃ (f : Nat → Nat) (enc : Nat → Value), (∀ i, (enc i).oneCell' = true) ∧ Grid W base v xs f enc := by
  obtain ⟨A, c, rfl, hc, _⟩ := Kd.S_reads h
  obtain ⟨f, h0, inner, ho, hr⟩ := Kd.S_bound h
  have hl : inner.length = xs.length := by have := hr.1; rw [List.length_zipIdx] at this; rw [this]; show xs.length * 1 = _; omega
  have hM : ∀ (j : Nat) (x : List Int) (hj : j < inner.length), xs[j]? = some x → (Kd.slice 3 (Kd.int .i64)).M W base (fun k => k < W.heap.size ∧ f k = j) x [inner[j]] := fun j x hj hx => by
    have h1 := hr.2 j (x, j) (Kd.zip_at hx)
    have e1 : (inner.drop (j * 1)).take 1 = [inner[j]] := by rw [Nat.mul_one, List.drop_eq_getElem_cons hj]; rfl
    rw [show (Kd.tag f (Kd.slice 3 (Kd.int .i64))).sz = 1 from rfl, e1] at h1
    exact Kd.M_mono _ (fun k hk => ⟨hk.1.1.2.2.1, hk.2⟩) h1
  refine ⟨f, fun i => inner.getD i (.slice none 0 0), fun i => ?_, ⟨A, c, rfl, hc⟩, fun j x hx => ?_⟩
  · by_cases hi : i < inner.length
    · have h1 := hM i xs[i] hi (by simp [← hl, hi])
      have := Kd.K_one _ (Kd.K_of_M _ h1) inner[i] (by simp)
      simpa [List.getD_eq_getElem?_getD, hi] using this
    · simp [List.getD_eq_getElem?_getD, List.getElem?_eq_none (Nat.le_of_not_lt hi)]
      rfl
  · obtain ⟨hj, _⟩ := List.getElem?_eq_some_iff.1 hx
    have e1 : inner.getD j (.slice none 0 0) = inner[j] := by simp [List.getD_eq_getElem?_getD, hl, hj]
    rw [e1]
    refine ⟨?_, hM j x (by omega) hx⟩
    obtain ⟨g, cap, he, hb, hlt⟩ := ho.form (by rw [List.length_zipIdx]; omega)
    injection he with h1 h2 h3
    subst h1
    refine ⟨g, c, rfl, ?_⟩
    rw [List.length_zipIdx] at ho
    rw [ho.cellAt j (by show j < xs.length * 1; omega)]
    simp [hl, hj]
theorem Grid.below {W W1 : World} {base : Nat} {v : Value} {xs : List (List Int)} {f : Nat → Nat} {enc : Nat → Value} (h : Grid W base v xs f enc) (hb : Below W.heap.size W W1) : ∀ (j : Nat) (x : List Int), xs[j]? = some x → (∃ g c, v = .slice (some ⟨g, 0, none⟩) xs.length c ∧ W1.cell? ⟨g, j, none⟩ = some (enc j)) ∧ (Kd.slice 3 (Kd.int .i64)).M W1 base (fun k => k < W.heap.size ∧ f k = j) x [enc j] := fun j x hx => by
  obtain ⟨⟨g, c, e, hg⟩, hM⟩ := h.at_ j x hx
  exact ⟨⟨g, c, e, (hb.cell (World.block_lt_of_cell? W _ hg)).trans hg⟩, Kd.M_below hM hb⟩
/-- A row of such cells reads as a grid. -/
theorem Grid.picked {W W1 : World} {base b2 : Nat} {v : Value} {xs : List (List Int)} {f : Nat → Nat} {enc : Nat → Value} {h1 : ∀ i, (enc i).oneCell' = true} {ok : Nat → Prop} (h : Grid W base v xs f enc) (hb : Below W.heap.size W W1) {ids : List Nat} (hi : ∀ i ∈ ids, i < xs.length) {A : Option Addr} {n c : Nat} (ho : (Kd.scalar enc h1).R 33 W1 b2 ok (.slice A n c) ids) :
    Kd.C (Kd.slice 3 (Kd.int .i64)) W1 A ids.length (ids.map fun i => xs.getD i []) := by
  obtain ⟨hn, hc, hl, hm, hp⟩ := Kd.R_reads' ho
  refine ⟨by simp, hm, fun hpos => ?_⟩
  obtain ⟨ad, ea, hcell⟩ := hp hpos
  refine ⟨ad, ea, fun j p hj => ?_⟩
  rw [List.getElem?_map] at hj
  obtain ⟨i, hij, rfl⟩ := Option.map_eq_some_iff.1 hj
  obtain ⟨cs, hcl, hK, hcc⟩ := hcell j i hij
  have hil := hi i (List.mem_of_getElem? hij)
  obtain ⟨_, hM⟩ := h.below hb i xs[i] (by simp [hil])
  have e2 : cs = [enc i] := hK
  subst e2
  refine ⟨[enc i], rfl, ?_, hcc⟩
  have e3 : xs.getD i [] = xs[i] := by simp [hil]
  rw [e3]
  exact Kd.K_of_M _ hM
/-- A row of some of a grid's cells, each once, is a grid. -/
theorem Grid.pick {W W1 : World} {base : Nat} {v vo : Value} {xs : List (List Int)} {f : Nat → Nat} {enc : Nat → Value} {h1 : ∀ i, (enc i).oneCell' = true} (h : Grid W base v xs f enc) (hb : Below W.heap.size W W1) {ids : List Nat} (hi : ∀ i ∈ ids, i < xs.length) (hd : ids.Nodup) (ho : (Kd.scalar enc h1).R 33 W1 base (fun k => W.heap.size ≤ k) vo ids) :
    Kd.S (Kd.slice 3 (Kd.int .i64)) 33 W1 base (fun _ => True) vo (ids.map fun i => xs.getD i []) := by
  obtain ⟨h0, inner, ho, hr⟩ := ho
  refine ⟨fun k => ids.idxOf (f k), fun _ _ => trivial, inner, by rw [List.length_zipIdx, List.length_map]; exact ho, ?_, ?_⟩
  · rw [List.length_zipIdx, List.length_map]; exact hr.1
  · intro j p hj
    rw [List.getElem?_zipIdx, List.getElem?_map] at hj
    obtain ⟨x, hx, rfl⟩ := Option.map_eq_some_iff.1 hj
    obtain ⟨i, hij, rfl⟩ := Option.map_eq_some_iff.1 hx
    have hil := hi i (List.mem_of_getElem? hij)
    obtain ⟨_, hM⟩ := h.below hb i xs[i] (by simp [hil])
    have e3 : xs.getD i [] = xs[i] := by simp [hil]
    have e2 : (inner.drop (j * 1)).take 1 = [enc i] := hr.2 j i hij
    show (Kd.slice 3 (Kd.int .i64)).M W1 base _ (xs.getD i []) ((inner.drop (j * 1)).take 1)
    rw [e2, e3]
    obtain ⟨hjl, hje⟩ := List.getElem?_eq_some_iff.1 hij
    refine Kd.M_mono _ (fun k hk => ⟨⟨trivial, fun e => ?_⟩, ?_⟩) hM
    · have := h0 k e.symm
      omega
    · show ids.idxOf (f k) = 0 + j
      rw [hk.2, ← hje, Nat.zero_add]
      exact hd.idxOf_getElem j hjl
/-! ### text othwalk -/
/-- Is a walk told: it is not too long, and shares not too much with any that is told. -/
def othOk (l : List S58) (longer share first : Int) (out : List (List Int)) (x : List Int) : Bool := decide (wrap64 (wcost l x 0 * 100) ≤ wrap64 (first * wrap64 (100 + longer))) && !(out.any (alikeB l x first share))
def othL (l : List S58) (longer share first : Int) (ws : List (List Int)) : List (List Int) := ws.foldl (fun out x => if othOk l longer share first out x = true then out ++ [x] else out) []
/-- The best walk, and others. -/
def soF (n : Int) (l : List S58) (a b longer share : Int) : Option (List (List Int)) := (impl_within.f longer 0 200).bind fun t => if t = true then (impl_within.f share 0 100).bind fun t2 => if t2 = true then (swF n l a b 6).bind fun all => if (all.all fun x => x.all fun k => decide (0 ≤ k ∧ k < (l.length : Int))) = true ∧ all.length ≤ 1000 then some (othL l longer share (wcost l (all.getD 0 []) 0) all) else none else some [] else some []
structure Picks (all : List (List Int)) (i : Nat) (ids : List Nat) (out : List (List Int)) : Prop where
  lt : ∀ k ∈ ids, k < i
  le : ids.length ≤ i
  nd : ids.Nodup
  eq : ids.map (fun k => all.getD k []) = out
theorem Picks.skip {all : List (List Int)} {i : Nat} {ids : List Nat} {out : List (List Int)} (h : Picks all i ids out) : Picks all (i + 1) ids out := ⟨fun k hk => by have := h.lt k hk; omega, Nat.le_succ_of_le h.le, h.nd, h.eq⟩
theorem Picks.take {all : List (List Int)} {i : Nat} {ids : List Nat} {out : List (List Int)} (h : Picks all i ids out) : Picks all (i + 1) (ids ++ [i]) (out ++ [all.getD i []]) :=
  ⟨fun k hk => by
    rw [List.mem_append, List.mem_singleton] at hk
    rcases hk with hk | hk
    · have := h.lt k hk; omega
    · omega, by rw [List.length_append, List.length_singleton]; exact Nat.succ_le_succ h.le, List.nodup_append.2 ⟨h.nd, by simp, fun a ha b hb => by have := h.lt a ha; rw [List.mem_singleton] at hb; omega⟩, by rw [List.map_append, h.eq]; rfl⟩
theorem qVd (l : List S58) (longer share first : Int) (ws : List (List Int)) (i : Nat) (h : i < ws.length) : othL l longer share first (ws.take (i + 1)) = if othOk l longer share first (othL l longer share first (ws.take i)) ws[i] = true then othL l longer share first (ws.take i) ++ [ws[i]] else othL l longer share first (ws.take i) := by
  unfold othL
  rw [List.take_succ_eq_append_getElem h, List.foldl_append]
  rfl
set_option maxHeartbeats 4000000 in
set_option maxRecDepth 100000 in
theorem someOthers_any (n : Int) (A0 : Option Addr) (c0 : Nat) (l : List S58) (a b longer share : Int) (r : List (List Int)) (w : World) (hr0 : Kd.C k58 w A0 l.length l) (hc0 : l.length ≤ c0) (h : soF n l a b longer share = some r) :
    Calls Try.prog 12 #[.agg #[.int .i64 n, .slice A0 l.length c0], .int .i64 a, .int .i64 b, .int .i64 longer, .int .i64 share] w fun e w' => ∃ v0_ : Value, e = .returned v0_ ∧ Kd.S (Kd.slice 3 (Kd.int .i64)) 33 w' w.heap.size (fun _ => True) v0_ r ∧ Below w.heap.size w w' := by
  have hu := Try.underlying25
  unfold soF at h
  replace h := Option.bind_eq_some_iff.mp h
  obtain ⟨t, ht, h⟩ := h
  obtain ⟨WA, hWA⟩ : ∃ WA, WA = (w.alloc (.cells #[.int .i64 n, .slice A0 l.length c0] 25)).alloc (.cells #[.int .i64 share] 3) := ⟨_, rfl⟩
  have bA : Below w.heap.size w WA := by rw [hWA]; exact qZn (qZn (Below.refl _ _) _) _
  have sA : WA.heap.size = w.heap.size + 1 + 1 := by rw [hWA]; simp
  have f1 : WA.heap[w.heap.size]? = some (.cells #[.int .i64 n, .slice A0 l.length c0] 25 (0, 0)) := by rw [hWA]; exact qQn (qXo w _) _
  have f2 : WA.heap[w.heap.size + 1]? = some (.cells #[.int .i64 share] 3 (0, 0)) := by rw [hWA]; have := heap_alloc_new (w.alloc (.cells #[.int .i64 n, .slice A0 l.length c0] 25)) (.cells #[.int .i64 share] 3); simpa using this
  have WI := Aside0.mk (fun (x c : Int) (t : Bool) (h : impl_within.f x 0 c = some t) (W : World) => impl_within.calls x 0 c t W h)
  have F := Aside0.mk (fun (w1 : World) (hb : Below WA.heap.size WA w1) => (⟨(hb.block _ (qZh f1)).trans f1, (hb.block _ (qZh f2)).trans f2⟩ : w1.heap[w.heap.size]? = some (.cells #[.int .i64 n, .slice A0 l.length c0] 25 (0, 0)) ∧ w1.heap[w.heap.size + 1]? = some (.cells #[.int .i64 share] 3 (0, 0))))
  have y0 : WA.cell? ⟨w.heap.size, 0, none⟩ = some (.int .i64 n) := (qZb f1 0).trans rfl
  have y1 : WA.cell? ⟨w.heap.size, 1, none⟩ = some (.slice A0 l.length c0) := (qZb f1 1).trans rfl
  have y2 : WA.cell? ⟨w.heap.size + 1, 0, none⟩ = some (.int .i64 share) := (qZb f2 0).trans rfl
  have HA := Aside0.mk bA
  have HR := Aside0.mk hr0
  have W1 := Aside0.mk (fun W => WI.out longer 200 t ht W)
  clear f1 f2 bA hr0 ht
  cases t with
  | false =>
    rw [if_neg Bool.false_ne_true] at h
    obtain rfl := Option.some.inj h
    go_enter Try.func12, Try.ntmps12
    go_wp2_with ((rw [← hWA]; clear hWA; go_at_call 48; refine (W1.out _).mono ?_; rintro e w' ⟨rfl, ⟨nd, rfl⟩⟩))
    go_ret
    exact ⟨_, rfl, Kd.S_nil _ _ _ _ _, HA.out.trans (qQo (Below.refl _ _) _)⟩
  | true =>
    rw [if_pos rfl] at h
    replace h := Option.bind_eq_some_iff.mp h
    obtain ⟨t2, ht2, h⟩ := h
    have W2 := Aside0.mk (fun W => WI.out share 100 t2 ht2 W)
    clear ht2
    cases t2 with
    | false =>
      rw [if_neg Bool.false_ne_true] at h
      obtain rfl := Option.some.inj h
      go_enter Try.func12, Try.ntmps12
      go_wp2_with (first | (rw [← hWA]; clear hWA; go_at_call 48; refine (W1.out _).mono ?_; rintro e w' ⟨rfl, ⟨nd, rfl⟩⟩) | (go_at_call 48; refine (W2.out _).mono ?_; rintro e w' ⟨rfl, ⟨nd2, rfl⟩⟩))
      go_ret
      exact ⟨_, rfl, Kd.S_nil _ _ _ _ _, HA.out.trans (qQo (Below.refl _ _) _)⟩
    | true =>
      rw [if_pos rfl] at h
      replace h := Option.bind_eq_some_iff.mp h
      obtain ⟨all, hall, h⟩ := h
      by_cases hok : (all.all fun x => x.all fun k => decide (0 ≤ k ∧ k < (l.length : Int))) = true ∧ all.length ≤ 1000
      rotate_left
      · rw [if_neg hok] at h; cases h
      rw [if_pos hok] at h
      have HE := Aside0.mk (Option.some.inj h)
      obtain ⟨hin, hlen⟩ := hok
      have HIN := Aside0.mk (fun (x : List Int) (hx : x ∈ all) (k : Int) (hk : k ∈ x) => of_decide_eq_true (List.all_eq_true.1 (List.all_eq_true.1 hin x hx) k hk))
      have SW := Aside0.mk (fun (W : World) (hb : Below w.heap.size w W) => someWalks_any n A0 c0 l a b 6 all W (Kd.C_below HR.out hb) hc0 hall)
      clear h hin hall
      generalize hfc : wcost l (all.getD 0 []) 0 = fc at HE
      have HF := Aside0.mk hfc
      clear hfc
      go_enter Try.func12, Try.ntmps12
      go_wp2_with (first | (rw [← hWA]; clear hWA; go_at_call 48; refine (W1.out _).mono ?_; rintro e w' ⟨rfl, ⟨nd, rfl⟩⟩) | (go_at_call 48; refine (W2.out _).mono ?_; rintro e w' ⟨rfl, ⟨nd2, rfl⟩⟩; have HD := Aside0.mk (qQo (Below.refl WA.heap.size WA) (nd + nd2)); have HD2 := Aside0.mk (HA.out.trans (HD.out.mono HA.out.size))) | (go_at_call 15; refine (SW.out _ HD2.out).mono ?_; rintro e w3 ⟨v3, rfl, hs3, hb3⟩; have HB3 := Aside0.mk (HD.out.trans (hb3.mono HD.out.size)); obtain ⟨f, enc, h1, hG⟩ := grid_open hs3; obtain ⟨Aa, ca, rfl, hca⟩ := hG.len; have HG := Aside0.mk hG; have LE3 := Aside0.mk hb3.size; clear hs3 hb3 hG) | ((with_reducible refine gate_dst (N := 31) rfl ?_); refine Kd.R_make0 (Kd.scalar enc h1) (w0 := w3) w3.heap.size 33 rfl (N := 31) rfl 28 _ _ rfl (all.length : Int) rfl rfl Try.underlying28 (.slice none 0 0) 24 qYj (by decide) (ok := fun k => w3.heap.size ≤ k) (Nat.le_refl _) (by omega) (by omega) (Below.refl _ _) (Nat.le_refl _) ?_; intro vo w4 ho hb4 _ _; have HO := Aside0.mk ho; have HB4 := Aside0.mk hb4; clear ho hb4))
      clear y0 y1 y2 sA W1 W2 SW WI
      go_loopg [12, 34] all.length (fun kx s12 s34 wr => ∃ (i : Nat) (ids : List Nat), s34 = .int .i64 (i : Int) ∧ i ≤ all.length ∧ all.length - i ≤ kx ∧ Aside0 (Below w3.heap.size w3 wr) ∧ Aside0 ((Kd.scalar enc h1).R 33 wr w3.heap.size (fun k => w3.heap.size ≤ k) s12 ids) ∧ Aside0 (Picks all i ids (othL l longer share fc (all.take i))))
      case atStart => exact ⟨0, [], rfl, Nat.zero_le _, by omega, HB4, HO, ⟨⟨by simp, by simp, by simp, rfl⟩⟩⟩
      case round =>
        clear HO HB4
        obtain ⟨i, ids, rfl, hi, hg, HB, HO, HP⟩ := hrel
        by_cases hlt : i < all.length
        · have hltz : (i : Int) < (all.length : Int) := by omega
          have z0 : (0 : Int) ≤ (i : Int) := by omega
          obtain ⟨⟨g, c, e, hgc⟩, v, hv, hRx⟩ := HG.out.below HB.out i all[i] (by simp [hlt])
          injection e with e1 e2 e3
          subst e1
          subst e3
          obtain ⟨Ax, cx, rfl, hcx, hCx⟩ := Kd.R_reads hRx
          injection hv with hv
          obtain ⟨⟨g', c', e', hg0⟩, v', hv', hRy⟩ := HG.out.below HB.out 0 all[0] (by simp)
          injection e' with e1 e2 e3
          injection e1 with e1
          injection e1 with e1
          subst e1
          subst e3
          obtain ⟨Ay, cy, rfl, hcy, hCy⟩ := Kd.R_reads hRy
          injection hv' with hv'
          rw [hv] at hgc
          rw [hv'] at hg0
          obtain ⟨Ao, co, rfl, hco, _⟩ := Kd.R_reads HO.out
          have HV := Aside0.mk hv
          have HXC := Aside0.mk hCx
          have HYC := Aside0.mk hCy
          have HXI := Aside0.mk (HIN.out all[i] (List.getElem_mem hlt))
          have HYI := Aside0.mk (HIN.out all[0] (List.getElem_mem (by omega)))
          have HFY := Aside0.mk (by have := HF.out; rwa [show all.getD 0 [] = all[0] by simp [show 0 < all.length by omega]] at this : wcost l all[0] 0 = fc)
          have HT := Aside0.mk (qVd l longer share fc all i hlt)
          have HGI := Aside0.mk (by simp [hlt] : all.getD i [] = all[i])
          clear hv hv' e2 hRx hRy hCx hCy
          generalize all[i] = x at *
          generalize all[0] = y at *
          go_wp2
          obtain ⟨V, hV⟩ : ∃ V, V = wr.alloc (.cells #[.slice Ax x.length cx] 33) := ⟨_, rfl⟩
          rw [← hV]
          have bV : Below wr.heap.size wr V := by rw [hV]; exact qZn (Below.refl _ _) _
          have bw : V.heap[wr.heap.size]? = some (.cells #[.slice Ax x.length cx] 33 (0, 0)) := by rw [hV]; exact qXo wr _
          have b3V : Below w3.heap.size w3 V := HB.out.trans (bV.mono HB.out.size)
          have bAV : Below WA.heap.size WA V := HB3.out.trans (b3V.mono HB3.out.size)
          obtain ⟨fn, fs⟩ := F.out V bAV
          have g0V : V.cell? ⟨g, 0, none⟩ = some (.slice Ay y.length cy) := (bV.cell (World.block_lt_of_cell? wr _ hg0)).trans hg0
          have XF := Aside0.mk (fun (w' : World) (hb : Below V.heap.size V w') => (⟨(qZb ((hb.block _ (qZh fn)).trans fn) 0).trans rfl, (qZb ((hb.block _ (qZh fn)).trans fn) 1).trans rfl, (hb.cell (World.block_lt_of_cell? V _ g0V)).trans g0V⟩ : w'.cell? ⟨w.heap.size, 0, none⟩ = some (.int .i64 n) ∧ w'.cell? ⟨w.heap.size, 1, none⟩ = some (.slice A0 l.length c0) ∧ w'.cell? ⟨g, 0, none⟩ = some (.slice Ay y.length cy)))
          have CO := Aside0.mk (fun (Az : Option Addr) (cz : Nat) (z : List Int) (w' : World) (hb : Below V.heap.size V w') (hz : Kd.C (Kd.int .i64) wr Az z.length z) (hzi : ∀ k ∈ z, 0 ≤ k ∧ k < (l.length : Int)) => (jZg n A0 c0 l Az cz z w' (Kd.C_below HR.out (HA.out.trans ((bAV.trans (hb.mono bAV.size)).mono HA.out.size))) (Kd.C_below hz (bV.trans (hb.mono bV.size))) hzi).mono (R' := fun e w'' => e = .returned (.int .i64 (wcost l z 0)) ∧ Below w'.heap.size w' w'') fun e w'' h => ⟨h.1, by rw [h.2]; exact qZn (Below.refl _ _) _⟩)
          have C1 := Aside0.mk (fun (w' : World) (hb : Below V.heap.size V w') => CO.out Ay cy y w' hb HYC.out HYI.out)
          rw [HFY.out] at C1
          have h0l : 0 < all.length := by omega
          have HBV := Aside0.mk bV
          have HB3V := Aside0.mk b3V
          have HFN := Aside0.mk fn
          have HFS := Aside0.mk fs
          have HBW := Aside0.mk bw
          clear hV bw b3V bAV fn fs g0V bV hgc hg0
          refine qJd (n := 7) (S := fun w' => Below V.heap.size V w') (ds := []) (ms 7 0) (by kernel_rfl) rfl (by kernel_rfl) (qJl (Below.refl _ _)) (fun hHeld => ?_)
          generalize V.drew = V1 at hHeld ⊢
          refine take_ (i := 0) (N := some 38) (v := ?_) (a' := ?_) (ms 7 1) rfl rfl (by kernel_rfl) (fun _ _ _ h => h) (Or.inl ⟨by rfl, ?_⟩) hHeld ?_ ?_
          rotate_left
          · intro w' hS
            obtain ⟨s0, s1, s2⟩ := XF.out w' hS
            go_simp
            with_reducible rfl
          rotate_left
          · simp only [SX]
            rfl
          refine take_ (i := 1) (N := some 39) (v := ?_) (a' := ?_) (ms 7 3) rfl rfl (by kernel_rfl) (fun _ _ _ h => h) (Or.inl ⟨by rfl, ?_⟩) hHeld ?_ ?_
          rotate_left
          · intro w' hS
            go_simp
            with_reducible rfl
          rotate_left
          · simp only [SX]
            rfl
          refine take_ (i := 2) (N := some 40) (v := ?_) (a' := ?_) (ms 7 7) rfl rfl (by kernel_rfl) (fun _ _ _ h => h) (Or.inl ⟨by rfl, ?_⟩) hHeld ?_ ?_
          rotate_left
          · intro w' hS
            go_simp
            with_reducible rfl
          rotate_left
          · simp only [SX]
            rfl
          refine take_ (i := 3) (N := some 41) (v := ?_) (a' := ?_) (ms 7 15) rfl rfl (by kernel_rfl) (fun _ _ _ h => h) (Or.inl ⟨by rfl, ?_⟩) hHeld ?_ ?_
          rotate_left
          · intro w' hS
            obtain ⟨s0, s1, s2⟩ := XF.out w' hS
            go_simp
            with_reducible rfl
          rotate_left
          · simp only [SX]
            rfl
          refine join_ (σ := Nat) 1 (ms 7 63) (fun gb => [(42, .int .i64 fc), (15, .pointer (some ⟨gb, 0, none⟩))]) (fun gb w' => Below V.heap.size V w' ∧ V.heap.size ≤ gb ∧ ∃ z, w'.heap[gb]? = some (.cells #[.int .i64 z] 3 (0, 0))) (fun gb w5 hF => ?_) (fun hcont => ?_)
          rotate_left
          · refine two_ (i := 4) (j := 5) (ms 7 31) (ms 7 47) rfl rfl rfl rfl (by kernel_rfl) (by decide) (by decide) (fun K hK => ?_) (fun K hK => ?_)
            · refine qXg Try.func49 (by kernel_rfl) rfl #[.agg #[.int .i64 n, .slice A0 l.length c0], .slice Ay y.length cy] (by rfl) rfl rfl (by (try simp only [List.map_toArray, List.map_cons, List.map_nil]); rfl) ?_
              refine (C1.out _ hHeld).mono ?_
              rintro e w6 ⟨rfl, hb6⟩
              refine ⟨_, rfl, ?_⟩
              have hS6 : Below V.heap.size V w6 := hHeld.trans (hb6.mono hHeld.size)
              refine hK.out _ _ hS6 (fun _ => ?_)
              clear hK K hHeld hb6
              refine one_ (i := 5) (N := some 15) (ms 7 63) rfl rfl (by kernel_rfl) (by decide) (fun K hK => ?_)
              refine qYl (v := .pointer (some ⟨w6.heap.size, 0, none⟩)) (w1 := w6.alloc (.cells #[.int .i64 0] 3)) (by rfl) rfl (by go_simp) ?_
              have hS7 := qZn hS6 (.cells #[.int .i64 0] 3)
              refine hK.out _ _ hS7 (fun _ => ?_)
              exact hcont w6.heap.size _ ⟨hS7, hS6.size, 0, qXo w6 _⟩
            · refine qYl (v := .pointer (some ⟨V1.heap.size, 0, none⟩)) (w1 := V1.alloc (.cells #[.int .i64 0] 3)) (by rfl) rfl (by go_simp) ?_
              have hS7 := qZn hHeld (.cells #[.int .i64 0] 3)
              refine hK.out _ _ hS7 (fun _ => ?_)
              clear hK K
              refine one_ (i := 4) (N := some 42) (ms 7 63) rfl rfl (by kernel_rfl) (by decide) (fun K hK => ?_)
              refine qXg Try.func49 (by kernel_rfl) rfl #[.agg #[.int .i64 n, .slice A0 l.length c0], .slice Ay y.length cy] (by rfl) rfl rfl (by (try simp only [List.map_toArray, List.map_cons, List.map_nil]); rfl) ?_
              refine (C1.out _ hS7).mono ?_
              rintro e w6 ⟨rfl, hb6⟩
              refine ⟨_, rfl, ?_⟩
              have hS6 : Below V.heap.size V w6 := hS7.trans (hb6.mono hS7.size)
              refine hK.out _ _ hS6 (fun _ => ?_)
              refine qJc ?_ (hcont V1.heap.size _ ⟨hS6, hHeld.size, 0, (hb6.block _ (qZh (qXo V1 _))).trans (qXo V1 _)⟩)
              simp only [putAll, SX]
              rfl
          obtain ⟨hb5, hgb, z, hz⟩ := hF
          refine qJc (a' := ?_) ?_ ?_
          rotate_left
          · simp only [putAll, SX]
            rfl
          have y0 : w5.cell? ⟨gb, 0, none⟩ = some (.int .i64 z) := (qZb hz 0).trans rfl
          have y1 := qQm hz 0
          refine one_ (i := 6) (N := none) (ms 7 127) rfl rfl (by kernel_rfl) (by decide) (fun K hK => ?_)
          refine skip_ (w1 := w5.setCell ⟨gb, 0, none⟩ (.int .i64 fc)) (by rfl) rfl (by go_simp) ?_
          refine hK.out _ _ (below_set hb5 hgb) (fun _ => ?_)
          clear hK K y0 y1
          refine qXc (by kernel_rfl) ?_
          obtain ⟨W6, hW6⟩ : ∃ W6, W6 = w5.setCell ⟨gb, 0, none⟩ (.int .i64 fc) := ⟨_, rfl⟩
          have b6 : Below V.heap.size V W6 := by rw [hW6]; exact below_set hb5 hgb
          have f6 : W6.heap[gb]? = some (.cells #[.int .i64 fc] 3 (0, 0)) := by rw [hW6]; exact blk_set hz 0 _
          rw [← hW6]
          clear hW6 hb5 hz hHeld XF C1
          have w6 : W6.heap[wr.heap.size]? = some (.cells #[.slice Ax x.length cx] 33 (0, 0)) := (b6.block _ (qZh HBW.out)).trans HBW.out
          have n6 : W6.heap[w.heap.size]? = some (.cells #[.int .i64 n, .slice A0 l.length c0] 25 (0, 0)) := (b6.block _ (qZh HFN.out)).trans HFN.out
          have s6 : W6.heap[w.heap.size + 1]? = some (.cells #[.int .i64 share] 3 (0, 0)) := (b6.block _ (qZh HFS.out)).trans HFS.out
          have br6 : Below wr.heap.size wr W6 := HBV.out.trans (b6.mono HBV.out.size)
          have b36 : Below w3.heap.size w3 W6 := HB.out.trans (br6.mono HB.out.size)
          have HO6 := Aside0.mk (Kd.R_below HO.out br6)
          have x0 : ∀ p : BelowBy W6, p.w.cell? ⟨w.heap.size, 0, none⟩ = some (.int .i64 n) := fun p => (qZb ((p.h.block _ (qZh n6)).trans n6) 0).trans rfl
          have x1 : ∀ p : BelowBy W6, p.w.cell? ⟨w.heap.size, 1, none⟩ = some (.slice A0 l.length c0) := fun p => (qZb ((p.h.block _ (qZh n6)).trans n6) 1).trans rfl
          have x2 : ∀ p : BelowBy W6, p.w.cell? ⟨wr.heap.size, 0, none⟩ = some (.slice Ax x.length cx) := fun p => (qZb ((p.h.block _ (qZh w6)).trans w6) 0).trans rfl
          have x3 : ∀ p : BelowBy W6, p.w.cell? ⟨gb, 0, none⟩ = some (.int .i64 fc) := fun p => (qZb ((p.h.block _ (qZh f6)).trans f6) 0).trans rfl
          have eg : ∀ args w, (callFunc 50 args).run Try.prog w = .ok (.enter 50 args) w := enters_of Try.func50 (by kernel_rfl) rfl
          have hr6 : Kd.C k58 W6 A0 l.length l := Kd.C_below HR.out (HA.out.trans ((HB3.out.trans (b36.mono HB3.out.size)).mono HA.out.size))
          have K1 := Aside0.mk (fun (p : BelowBy W6) => Calls.below_of p (CO.out Ax cx x p.w (b6.trans (p.h.mono b6.size)) HXC.out HXI.out))
          have K2 := Aside0.mk (fun (p : BelowBy W6) => (by
            have hc := containsFunc_row (alikeB l x fc share) 50 #[.pointer (some ⟨w.heap.size, 0, none⟩), .pointer (some ⟨wr.heap.size, 0, none⟩), .pointer (some ⟨gb, 0, none⟩), .pointer (some ⟨w.heap.size + 1, 0, none⟩)] eg Ao co (ids.map fun i => all.getD i []) p.w (closeA_any n A0 c0 l w.heap.size wr.heap.size gb (w.heap.size + 1) Ax cx x fc share p.w ((p.h.block _ (qZh n6)).trans n6) ((p.h.block _ (qZh w6)).trans w6) ((p.h.block _ (qZh f6)).trans f6) ((p.h.block _ (qZh s6)).trans s6) (Kd.C_below hr6 p.h) (Kd.C_below HXC.out (br6.trans (p.h.mono br6.size))) HXI.out) (by rw [List.length_map]; exact HG.out.picked (b36.trans (p.h.mono b36.size)) (fun k hk => Nat.lt_trans (HP.out.lt k hk) hlt) (Kd.R_below HO6.out p.h))
            rw [List.length_map, HP.out.eq] at hc
            exact Calls.below_of p hc : Calls Try.prog 52 #[.slice Ao ids.length co, .func (.func 50) #[] #[.pointer (some ⟨w.heap.size, 0, none⟩), .pointer (some ⟨wr.heap.size, 0, none⟩), .pointer (some ⟨gb, 0, none⟩), .pointer (some ⟨w.heap.size + 1, 0, none⟩)]] p.w fun e w' => e = .returned (.bool ((othL l longer share fc (all.take i)).any (alikeB l x fc share))) ∧ ∃ q : BelowBy W6, w' = q.w))
          have HB6 := Aside0.mk b6
          have aa := Aside0.mk b36
          have ab := Aside0.mk br6
          have HW6 := Aside0.mk w6
          clear b6 f6 w6 n6 s6 br6 b36 eg hr6 CO
          unfold othOk at HT
          generalize wcost l x 0 = q at K1 HT
          generalize (othL l longer share fc (all.take i)).any (alikeB l x fc share) = q2 at K2 HT
          by_cases c1 : wrap64 (q * 100) ≤ wrap64 (fc * wrap64 (100 + longer))
          · have d1 : decide (IntKind.i64.wrap (q * 100) ≤ IntKind.i64.wrap (fc * IntKind.i64.wrap (100 + longer))) = true := by rw [qVp, qVp, qVp]; exact decide_eq_true c1
            rw [decide_eq_true c1, Bool.true_and] at HT
            clear c1
            cases q2 with
            | false =>
              have HT2 := Aside0.mk (by have := HT.out; rwa [if_pos (show (!false) = true by decide)] at this : othL l longer share fc (all.take (i + 1)) = othL l longer share fc (all.take i) ++ [x])
              clear HT
              go_wp2
              refine qJi (by kernel_rfl) (by kernel_rfl) ?_
              iterate 2 (quiet_step (fail))
              quiet_step (exact K1.out _)
              iterate 9 (quiet_step (fail))
              quiet_step (exact K2.out _)
              iterate 2 (quiet_step (fail))
              refine wpQuiet_nil ?_
              rintro w' ⟨p, rfl⟩
              obtain ⟨W7, hW7⟩ : ∃ W7, W7 = p.w := ⟨_, rfl⟩
              have xw : W7.cell? ⟨wr.heap.size, 0, none⟩ = some (.slice Ax x.length cx) := by rw [hW7]; exact x2 p
              have hb7 : Below W6.heap.size W6 W7 := by rw [hW7]; exact p.h
              rw [← hW7]
              clear hW7 x0 x1 x2 x3 K1 K2 d1
              have HO7 := Aside0.mk (Kd.R_below HO6.out hb7)
              have HB7 := Aside0.mk (aa.out.trans (hb7.mono aa.out.size))
              have MX := Aside0.mk (show [Value.slice Ax x.length cx] = [enc i] by rw [HV.out])
              have hil : ids.length ≤ 1000 := Nat.le_trans HP.out.le (by omega)
              clear hb7
              go_wp2_with (((with_reducible refine gate_builtin (b := .append) (xs := #[.tmp 59, .tmp 61]) rfl ?_); at_builtin; refine Kd.R_append (Kd.scalar enc h1) (w0 := w3) w3.heap.size rfl (.tmp 59) (.tmp 61) 28 33 (.slice none 0 0) 24 rfl Try.underlying28 qYj rfl Nat.one_pos (by decide) (.slice Ao ids.length co) ids i [.slice Ax x.length cx] (fun k => w3.heap.size ≤ k) (fun _ => False) rfl ?hx MX.out (fun _ hk => hk.elim) (fun _ hk => Nat.le_trans HB7.out.size hk) HO7.out HB7.out HB7.out.size (by omega) ?_; (case hx => rfl); intro v8 w8 ho hb _ _; have HO8 := Aside0.mk ho; have HB8 := Aside0.mk hb; clear ho hb))
              go_roundg (all.length - (i + 1))
              case measure => omega
              case rel => exact ⟨i + 1, ids ++ [i], by go_num, hlt, Nat.le_refl _, HB8, HO8, ⟨by rw [HT2.out, ← HGI.out]; exact HP.out.take⟩⟩
            | true =>
              have HT2 := Aside0.mk (by have := HT.out; rwa [if_neg (show ¬ (!true) = true by decide)] at this : othL l longer share fc (all.take (i + 1)) = othL l longer share fc (all.take i))
              clear HT
              go_wp2
              refine qJi (by kernel_rfl) (by kernel_rfl) ?_
              iterate 2 (quiet_step (fail))
              quiet_step (exact K1.out _)
              iterate 9 (quiet_step (fail))
              quiet_step (exact K2.out _)
              iterate 2 (quiet_step (fail))
              refine wpQuiet_nil ?_
              rintro w' ⟨p, rfl⟩
              obtain ⟨W7, hW7⟩ : ∃ W7, W7 = p.w := ⟨_, rfl⟩
              have hb7 : Below W6.heap.size W6 W7 := by rw [hW7]; exact p.h
              rw [← hW7]
              clear hW7 x0 x1 x2 x3 K1 K2 d1
              have HO7 := Aside0.mk (Kd.R_below HO6.out hb7)
              have HB7 := Aside0.mk (aa.out.trans (hb7.mono aa.out.size))
              clear hb7
              go_wp2
              go_roundg (all.length - (i + 1))
              case measure => omega
              case rel => exact ⟨i + 1, ids, by go_num, hlt, Nat.le_refl _, HB7, HO7, ⟨by rw [HT2.out]; exact HP.out.skip⟩⟩
          · have d1 : decide (IntKind.i64.wrap (q * 100) ≤ IntKind.i64.wrap (fc * IntKind.i64.wrap (100 + longer))) = false := by rw [qVp, qVp, qVp]; exact decide_eq_false c1
            rw [decide_eq_false c1, Bool.false_and] at HT
            have HT2 := Aside0.mk (by have := HT.out; rwa [if_neg Bool.false_ne_true] at this : othL l longer share fc (all.take (i + 1)) = othL l longer share fc (all.take i))
            clear HT c1
            go_wp2
            refine qJi (by kernel_rfl) (by kernel_rfl) ?_
            iterate 2 (quiet_step (fail))
            quiet_step (exact K1.out _)
            iterate 12 (quiet_step (fail))
            refine wpQuiet_nil ?_
            rintro w' ⟨p, rfl⟩
            obtain ⟨W7, hW7⟩ : ∃ W7, W7 = p.w := ⟨_, rfl⟩
            have hb7 : Below W6.heap.size W6 W7 := by rw [hW7]; exact p.h
            rw [← hW7]
            clear hW7 x0 x1 x2 x3 K1 K2 d1
            have HO7 := Aside0.mk (Kd.R_below HO6.out hb7)
            have HB7 := Aside0.mk (aa.out.trans (hb7.mono aa.out.size))
            clear hb7
            go_wp2
            go_roundg (all.length - (i + 1))
            case measure => omega
            case rel => exact ⟨i + 1, ids, by go_num, hlt, Nat.le_refl _, HB7, HO7, ⟨by rw [HT2.out]; exact HP.out.skip⟩⟩
        · have hltz : ¬ (i : Int) < (all.length : Int) := by omega
          have hia : i = all.length := by omega
          have HX := Aside0.mk (by have := HE.out; have h2 := HP.out.eq; rw [hia, List.take_length, this] at h2; exact h2 : ids.map (fun k => all.getD k []) = r)
          obtain ⟨Ao, co, rfl, hco, _⟩ := Kd.R_reads HO.out
          obtain ⟨i0, hi0, _⟩ := Option.map_eq_some_iff.1 qYj
          have hcut := jQe 28 33 Try.underlying28 hi0 Ao ids.length co hco
          have HIA := Aside0.mk hia
          clear hi0 hia
          go_wp2
          go_ret
          have hs := HG.out.pick HB.out (fun k hk => by have := HP.out.lt k hk; have := HIA.out; omega) HP.out.nd (Kd.R_lower (Kd.R_clip HO.out) LE3.out)
          rw [HX.out] at hs
          have b1 := HA.out.trans ((HB3.out.trans (HB.out.mono HB3.out.size)).mono HA.out.size)
          exact ⟨_, rfl, Kd.S_lower hs (Nat.le_trans HA.out.size (Nat.le_refl _)), b1⟩
/-! ### impl_SomeOthers: function 12 -/
def impl_SomeOthers.f (ab : Int) (aa : List (S58)) (a1 : Int) (a2 : Int) (a3 : Int) (a4 : Int) : Option (List (List Int)) := soF ab aa a1 a2 a3 a4
theorem impl_SomeOthers.calls (ab : Int) (ac : Option Addr) (ad : Nat) (aa : List (S58)) (a1 : Int) (a2 : Int) (a3 : Int) (a4 : Int) (r : List (List Int)) (w : World) (ae : Kd.C k58 w ac aa.length aa) (af : aa.length ≤ ad) (h : impl_SomeOthers.f ab aa a1 a2 a3 a4 = some r) :
  Calls Try.prog 12 #[.agg #[.int .i64 ab, .slice ac aa.length ad], .int .i64 a1, .int .i64 a2, .int .i64 a3, .int .i64 a4] w fun e w' => ∃ v0_ : Value, e = .returned (v0_) ∧ Kd.S (Kd.slice 3 (Kd.int .i64)) 33 w' w.heap.size (fun _ => True) v0_ r ∧ Below w.heap.size w w' := by
 exact someOthers_any ab ac ad aa a1 a2 a3 a4 r w ae af h
end Go.Proofs.Ytlgolgfcolnddaa.F
