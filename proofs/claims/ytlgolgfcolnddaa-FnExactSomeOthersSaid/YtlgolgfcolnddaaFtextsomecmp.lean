-- Printed by wip/px/px.py of this claim's repository (the kit's printer, extended there). Lean checks it.
import Derived.Test.YtlgolgfcolnddaaFKinds
import Derived.Shelf.SlSortCmp.QuietGrown
import Derived.Sort.Grow
import Derived.Test.YtlgolgfcolnddaaFtextquiettail
import Derived.Test.YtlgolgfcolnddaaFtextsomeord
namespace Go.Proofs.Ytlgolgfcolnddaa.F
open Go.RowKit Go.Proofs.YtlgolgfcolnddaaW.PrintWords Go.Proofs.YtlgolgfcolnddaaW.PrintLast Go.Proofs.YtlgolgfcolnddaaW.PrintMore
attribute [local go_sem] max2_int min2_int max_two min_two max_three min_three max_four min_four   -- for this text's walks alone
set_option linter.unusedVariables false
set_option linter.unusedSimpArgs false

/-! ### text somecmp -/
theorem isNaNS_any (x : Int) (w : World) : Calls Try.prog 117 #[.int .i64 x] w fun e w' => e = .returned (.bool false) ∧ w' = w := by
  go_enter Try.func117, Try.ntmps117
  go_wp2
  go_ret
  simp
/-- As cmp.Compare says it. -/
def cmpS (x y : Int) : Int := if x < y then -1 else if y < x then 1 else 0
set_option maxHeartbeats 2000000 in
set_option maxRecDepth 100000 in
theorem compareS_any (x y : Int) (w : World) : Calls Try.prog 97 #[.int .i64 x, .int .i64 y] w fun e w' => e = .returned (.int .i64 (cmpS x y)) ∧ w' = w := by
  have HX := Aside0.mk (isNaNS_any x w)
  have HY := Aside0.mk (isNaNS_any y w)
  unfold cmpS
  by_cases h1 : x < y
  · rw [if_pos h1]
    go_enter Try.func97, Try.ntmps97
    go_wp2_with (first | (go_at_call 117; refine HX.out.mono ?_; rintro e w' ⟨rfl, rfl⟩) | (go_at_call 117; refine HY.out.mono ?_; rintro e w' ⟨rfl, rfl⟩))
    go_ret
    exact ⟨rfl, rfl⟩
  · by_cases h2 : y < x
    · rw [if_neg h1, if_pos h2]
      go_enter Try.func97, Try.ntmps97
      go_wp2_with (first | (go_at_call 117; refine HX.out.mono ?_; rintro e w' ⟨rfl, rfl⟩) | (go_at_call 117; refine HY.out.mono ?_; rintro e w' ⟨rfl, rfl⟩))
      go_ret
      exact ⟨rfl, rfl⟩
    · rw [if_neg h1, if_neg h2]
      go_enter Try.func97, Try.ntmps97
      go_wp2_with (first | (go_at_call 117; refine HX.out.mono ?_; rintro e w' ⟨rfl, rfl⟩) | (go_at_call 117; refine HY.out.mono ?_; rintro e w' ⟨rfl, rfl⟩))
      go_ret
      exact ⟨rfl, rfl⟩
/-- The first of three that is not zero. -/
def orS (a b c : Int) : Int := if a = 0 then (if b = 0 then c else b) else a
set_option maxHeartbeats 2000000 in
set_option maxRecDepth 100000 in
theorem orS_any (a b c : Int) (g : Nat) (w : World) (h0 : w.cell? ⟨g, 0, none⟩ = some (.int .i64 a)) (h1 : w.cell? ⟨g, 1, none⟩ = some (.int .i64 b)) (h2 : w.cell? ⟨g, 2, none⟩ = some (.int .i64 c)) : Calls Try.prog 96 #[.slice (some ⟨g, 0, none⟩) 3 3] w fun e w' => e = .returned (.int .i64 (orS a b c)) ∧ w' = w := by
  have H0 := Aside0.mk h0
  have H1 := Aside0.mk h1
  have H2 := Aside0.mk h2
  clear h0 h1 h2
  go_enter Try.func96, Try.ntmps96
  go_wp2
  go_loopg [5, 8] 3 (fun kx _ s8 wr => wr = w ∧ ((s8 = .int .i64 0 ∧ 3 ≤ kx) ∨ (s8 = .int .i64 1 ∧ 2 ≤ kx ∧ a = 0) ∨ (s8 = .int .i64 2 ∧ 1 ≤ kx ∧ a = 0 ∧ b = 0) ∨ (s8 = .int .i64 3 ∧ a = 0 ∧ b = 0 ∧ c = 0)))
  case atStart => exact ⟨rfl, .inl ⟨rfl, Nat.le_refl _⟩⟩
  case round =>
    obtain ⟨rfl, ⟨rfl, hk⟩ | ⟨rfl, hk, ha⟩ | ⟨rfl, hk, ha, hb⟩ | ⟨rfl, ha, hb, hc⟩⟩ := hrel
    · have h0 := H0.out
      by_cases ha : a = 0
      · have h2 : (a != 0) = false := by rw [ha]; rfl
        go_wp2
        go_roundg 2
        case measure => omega
        case rel => exact ⟨rfl, .inr (.inl ⟨by go_num, Nat.le_refl _, ha⟩)⟩
      · have h2 : (a != 0) = true := bne_iff_ne.2 ha
        go_wp2
        go_ret
        exact ⟨by unfold orS; rw [if_neg ha]; rfl, rfl⟩
    · have h1 := H1.out
      by_cases hb : b = 0
      · have h2 : (b != 0) = false := by rw [hb]; rfl
        go_wp2
        go_roundg 1
        case measure => omega
        case rel => exact ⟨rfl, .inr (.inr (.inl ⟨by go_num, Nat.le_refl _, ha, hb⟩))⟩
      · have h2 : (b != 0) = true := bne_iff_ne.2 hb
        go_wp2
        go_ret
        exact ⟨by unfold orS; rw [if_pos ha, if_neg hb]; rfl, rfl⟩
    · have h1 := H2.out
      by_cases hc : c = 0
      · have h2 : (c != 0) = false := by rw [hc]; rfl
        go_wp2
        go_roundg 0
        case measure => omega
        case rel => exact ⟨rfl, .inr (.inr (.inr ⟨by go_num, ha, hb, hc⟩))⟩
      · have h2 : (c != 0) = true := bne_iff_ne.2 hc
        go_wp2
        go_ret
        exact ⟨by unfold orS; rw [if_pos ha, if_pos hb]; rfl, rfl⟩
    · go_wp2
      go_ret
      exact ⟨by unfold orS; rw [if_pos ha, if_pos hb, hc]; rfl, rfl⟩
/-- As slices.Compare says it. -/
def cmpL : List Int → List Int → Int
  | [], [] => 0
  | [], _ :: _ => -1
  | _ :: _, [] => 1
  | x :: a, y :: b => if x = y then cmpL a b else cmpS x y
theorem cmpL_at (a b : List Int) (i : Nat) (h : i < a.length) (h2 : i < b.length) : cmpL (a.drop i) (b.drop i) = if cmpS a[i] b[i] = 0 then cmpL (a.drop (i + 1)) (b.drop (i + 1)) else cmpS a[i] b[i] := by
  rw [List.drop_eq_getElem_cons h, List.drop_eq_getElem_cons h2, cmpL]
  by_cases e : a[i] = b[i]
  · rw [if_pos e, if_pos (by unfold cmpS; rw [e]; simp)]
  · rw [if_neg e, if_neg (by unfold cmpS; split <;> (try split) <;> omega)]
theorem cmpL_neg : ∀ a b, (cmpL a b < 0 ↔ lexB a b = true)
  | [], [] => by rw [cmpL, lexB]; simp
  | [], _ :: _ => by rw [cmpL, lexB]; simp
  | _ :: _, [] => by rw [cmpL, lexB]; simp
  | x :: a, y :: b => by
    rw [cmpL, lexB]
    by_cases e : x = y
    · rw [if_pos e, if_pos e]; exact cmpL_neg a b
    · rw [if_neg e, if_neg e, decide_eq_true_eq]; unfold cmpS; split <;> (try split) <;> omega
theorem clipS_any (A : Option Addr) (n c : Nat) (h : n ≤ c) (w : World) : Calls Try.prog 60 #[.slice A n c] w fun e w' => e = .returned (.slice A n n) ∧ w' = w := by
  obtain ⟨i0, hi0, _⟩ := Option.map_eq_some_iff.1 info33
  have hcut := cut_clip 28 33 Try.underlying28 hi0 A n c h
  clear hi0
  go_enter Try.func60, Try.ntmps60
  go_wp2
  go_ret
  exact ⟨rfl, rfl⟩
set_option maxHeartbeats 2000000 in
set_option maxRecDepth 100000 in
theorem compareL_any (A B : Option Addr) (ca cb : Nat) (a b : List Int) (w : World) (hA : Kd.C (Kd.int .i64) w A a.length a) (hca : a.length ≤ ca) (hB : Kd.C (Kd.int .i64) w B b.length b) (hcb : b.length ≤ cb) :
    Calls Try.prog 98 #[.slice A a.length ca, .slice B b.length cb] w fun e w' => e = .returned (.int .i64 (cmpL a b)) ∧ w' = w := by
  have HA := Aside0.mk hA
  have HB := Aside0.mk hB
  have CC := Aside0.mk (fun x y => compareS_any x y w)
  have la := hA.2.1
  have lb := hB.2.1
  have ml : maxLen ≤ 9223372036854775807 := by decide
  clear hA hB
  go_enter Try.func98, Try.ntmps98
  go_wp2
  go_loopg [11] a.length (fun kx s11 wr => ∃ (i : Nat), s11 = .int .i64 (i : Int) ∧ wr = w ∧ i ≤ a.length ∧ a.length - i ≤ kx ∧ i ≤ b.length ∧ Aside0 (cmpL (a.drop i) (b.drop i) = cmpL a b))
  case atStart => exact ⟨0, rfl, rfl, Nat.zero_le _, by omega, Nat.zero_le _, ⟨by simp⟩⟩
  case round =>
    obtain ⟨i, rfl, rfl, hi, hg, hib, HS⟩ := hrel
    have z : (0 : Int) ≤ (i : Int) := by omega
    by_cases hlt : i < a.length
    · have hltz : (i : Int) < (a.length : Int) := by omega
      obtain ⟨ad, ea, q0⟩ := Kd.at_int HA.out (i : Int) z (by omega)
      cases ea
      rw [Int.toNat_natCast] at q0
      have r0 : rd a (i : Int) = a[i] := by simp [rd, hlt]
      rw [r0] at q0
      by_cases hlb : i < b.length
      · have hg2 : ¬ (i : Int) ≥ (b.length : Int) := by omega
        have hlz : (i : Int) < (b.length : Int) := by omega
        obtain ⟨bd, eb, q1⟩ := Kd.at_int HB.out (i : Int) z (by omega)
        cases eb
        rw [Int.toNat_natCast] at q1
        have r1 : rd b (i : Int) = b[i] := by simp [rd, hlb]
        rw [r1] at q1
        have HE := Aside0.mk ((cmpL_at a b i hlt hlb).symm.trans HS.out)
        generalize a[i] = x at q0 HE
        generalize b[i] = y at q1 HE
        have C1 := Aside0.mk (CC.out x y)
        generalize cmpS x y = c at C1 HE
        by_cases hc : c = 0
        · have hc2 : (c != 0) = false := by rw [hc]; rfl
          have HN := Aside0.mk (by have := HE.out; rwa [if_pos hc] at this : cmpL (a.drop (i + 1)) (b.drop (i + 1)) = cmpL a b)
          clear HS HE
          go_wp2_with (go_at_call 97; refine C1.out.mono ?_; rintro e w' ⟨rfl, rfl⟩)
          go_roundg (a.length - (i + 1))
          case measure => omega
          case rel => exact ⟨i + 1, by go_num, rfl, hlt, Nat.le_refl _, hlb, HN⟩
        · have hc2 : (c != 0) = true := bne_iff_ne.2 hc
          have HN := Aside0.mk (by have := HE.out; rwa [if_neg hc] at this : c = cmpL a b)
          clear HS HE
          go_wp2_with (go_at_call 97; refine C1.out.mono ?_; rintro e w' ⟨rfl, rfl⟩)
          go_ret
          exact ⟨by rw [HN.out]; rfl, rfl⟩
      · have hg2 : (i : Int) ≥ (b.length : Int) := by omega
        have HN := Aside0.mk (by have := HS.out; rw [List.drop_eq_getElem_cons hlt, List.drop_of_length_le (show b.length ≤ i by omega), cmpL] at this; exact this : 1 = cmpL a b)
        clear HS
        go_wp2
        go_ret
        exact ⟨by rw [← HN.out]; rfl, rfl⟩
    · have hltz : ¬ (i : Int) < (a.length : Int) := by omega
      have hia : i = a.length := by omega
      by_cases hlb : (a.length : Int) < (b.length : Int)
      · have HN := Aside0.mk (by have := HS.out; rw [List.drop_of_length_le (show a.length ≤ i by omega), List.drop_eq_getElem_cons (show i < b.length by omega), cmpL] at this; exact this : -1 = cmpL a b)
        clear HS
        go_wp2
        go_ret
        exact ⟨by rw [← HN.out]; rfl, rfl⟩
      · have HN := Aside0.mk (by have := HS.out; rw [List.drop_of_length_le (show a.length ≤ i by omega), List.drop_of_length_le (show b.length ≤ i by omega), cmpL] at this; exact this : 0 = cmpL a b)
        clear HS
        go_wp2
        go_ret
        exact ⟨by rw [← HN.out]; rfl, rfl⟩
/-- What arcs cost, behind what was counted. -/
def wcost (l : List S58) : List Int → Int → Int
  | [], s => s
  | k :: r, s => wcost l r (wrap64 (s + (rd_T58 l k).f2))
theorem wcost_at (l : List S58) (a : List Int) (i : Nat) (h : i < a.length) (s : Int) : wcost l (a.drop i) s = wcost l (a.drop (i + 1)) (wrap64 (s + (rd_T58 l (rd a (i : Int))).f2)) := by
  have e : rd a (i : Int) = a[i] := by simp [rd, h]
  rw [List.drop_eq_getElem_cons h, wcost, e]
set_option maxHeartbeats 2000000 in
set_option maxRecDepth 100000 in
theorem costS_any (n : Int) (A0 : Option Addr) (c0 : Nat) (l : List S58) (A : Option Addr) (ca : Nat) (a : List Int) (w : World) (hr0 : Kd.C k58 w A0 l.length l) (hA : Kd.C (Kd.int .i64) w A a.length a) (hin : ∀ k ∈ a, 0 ≤ k ∧ k < (l.length : Int)) :
    Calls Try.prog 49 #[.agg #[.int .i64 n, .slice A0 l.length c0], .slice A a.length ca] w fun e w' => e = .returned (.int .i64 (wcost l a 0)) ∧ w' = w.alloc (.cells #[.int .i64 n, .slice A0 l.length c0] 25) := by
  have hu := Try.underlying25
  have la := hA.2.1
  have ml : maxLen ≤ 9223372036854775807 := by decide
  obtain ⟨W, hW⟩ : ∃ W, W = w.alloc (.cells #[.int .i64 n, .slice A0 l.length c0] 25) := ⟨_, rfl⟩
  have hB : Below w.heap.size w W := by rw [hW]; exact below_alloc (Below.refl _ _) _
  have b1 : W.heap[w.heap.size]? = some (.cells #[.int .i64 n, .slice A0 l.length c0] 25 (0, 0)) := by rw [hW]; exact blk_new w _
  have x0 : W.cell? ⟨w.heap.size, 0, none⟩ = some (.int .i64 n) := (blk_cell b1 0).trans rfl
  have x1 : W.cell? ⟨w.heap.size, 1, none⟩ = some (.slice A0 l.length c0) := (blk_cell b1 1).trans rfl
  have HA := Aside0.mk (Kd.C_below hA hB)
  have HR := Aside0.mk (Kd.C_below hr0 hB)
  have HIN := Aside0.mk hin
  clear hA hr0 hB b1 hin
  go_enter Try.func49, Try.ntmps49
  go_wp2
  rw [← hW]
  have HW := Aside0.mk hW
  clear hW
  go_loopg [5, 10] a.length (fun kx s5 s10 wr => ∃ (i : Nat) (s : Int), s5 = .int .i64 s ∧ s10 = .int .i64 (i : Int) ∧ wr = W ∧ i ≤ a.length ∧ a.length - i ≤ kx ∧ Aside0 (wcost l (a.drop i) s = wcost l a 0))
  case atStart => exact ⟨0, 0, rfl, rfl, rfl, Nat.zero_le _, by omega, ⟨by simp⟩⟩
  case round =>
    obtain ⟨i, s, rfl, rfl, rfl, hi, hg, HS⟩ := hrel
    have z : (0 : Int) ≤ (i : Int) := by omega
    by_cases hlt : i < a.length
    · have hltz : (i : Int) < (a.length : Int) := by omega
      obtain ⟨ad, ea, q0⟩ := Kd.at_int HA.out (i : Int) z (by omega)
      cases ea
      rw [Int.toNat_natCast] at q0
      have hm : 0 ≤ rd a (i : Int) ∧ rd a (i : Int) < (l.length : Int) := HIN.out _ (by simp [rd, hlt])
      have HN := Aside0.mk ((wcost_at l a i hlt s).symm.trans HS.out)
      generalize rd a (i : Int) = k at q0 hm HN
      obtain ⟨p0, p1⟩ := hm
      obtain ⟨bd, eb, y0, y1, y2, y3, y4⟩ := at_T58 HR.out k p0 p1
      cases eb
      clear HS
      go_wp2
      go_roundg (a.length - (i + 1))
      case measure => omega
      case rel => exact ⟨i + 1, _, rfl, by go_num, rfl, hlt, Nat.le_refl _, HN⟩
    · have hltz : ¬ (i : Int) < (a.length : Int) := by omega
      have HN := Aside0.mk (by have := HS.out; rw [List.drop_of_length_le (show a.length ≤ i by omega), wcost] at this; exact this : s = wcost l a 0)
      clear HS
      go_wp2
      go_ret
      exact ⟨by rw [← HN.out]; rfl, HW.out⟩
/-- By cost, by how many arcs, then by the arcs. -/
def cmpW (l : List S58) (a b : List Int) : Int := orS (cmpS (wcost l a 0) (wcost l b 0)) (cmpS (a.length : Int) (b.length : Int)) (cmpL a b)
set_option maxHeartbeats 2000000 in
set_option maxRecDepth 100000 in
theorem closeS_any (n : Int) (A0 : Option Addr) (c0 : Nat) (l : List S58) (gn : Nat) (A B : Option Addr) (ca cb : Nat) (a b : List Int) (W : World) (hn : W.heap[gn]? = some (.cells #[.int .i64 n, .slice A0 l.length c0] 25 (0, 0))) (hr0 : Kd.C k58 W A0 l.length l) (hA : Kd.C (Kd.int .i64) W A a.length a) (hca : a.length ≤ ca) (hia : ∀ k ∈ a, 0 ≤ k ∧ k < (l.length : Int)) (hB : Kd.C (Kd.int .i64) W B b.length b) (hcb : b.length ≤ cb) (hib : ∀ k ∈ b, 0 ≤ k ∧ k < (l.length : Int)) :
    Calls Try.prog 95 #[.slice A a.length ca, .slice B b.length cb, .pointer (some ⟨gn, 0, none⟩)] W fun e w' => e = .returned (.int .i64 (cmpW l a b)) ∧ ∃ q os', w' = Go.Sort.grow (W.drewN q) os' := by
  have bel : ∀ m os, Below W.heap.size W (Go.Sort.grow (W.drewN m) os) := fun m os => ⟨rfl, rfl, rfl, by simp [Go.Sort.grow], fun k hk => by simp [Go.Sort.grow, World.drewN, Array.getElem?_append, hk]⟩
  have hu := Try.underlying25
  have gl := blk_lt hn
  have x0 : ∀ m os, (Go.Sort.grow (W.drewN m) os).cell? ⟨gn, 0, none⟩ = some (.int .i64 n) := fun m os => ((bel m os).cell gl).trans ((blk_cell hn 0).trans rfl)
  have x1 : ∀ m os, (Go.Sort.grow (W.drewN m) os).cell? ⟨gn, 1, none⟩ = some (.slice A0 l.length c0) := fun m os => ((bel m os).cell gl).trans ((blk_cell hn 1).trans rfl)
  have K1 := Aside0.mk (fun (p : GrownBy) => (costS_any n A0 c0 l A ca a (Go.Sort.grow (W.drewN p.n) p.os) (Kd.C_below hr0 (bel _ _)) (Kd.C_below hA (bel _ _)) hia).mono (R' := fun e w' => e = .returned (.int .i64 (wcost l a 0)) ∧ ∃ p : GrownBy, w' = Go.Sort.grow (W.drewN p.n) p.os) fun e w' h => ⟨h.1, ⟨p.n, p.os ++ #[.cells #[.int .i64 n, .slice A0 l.length c0] 25]⟩, h.2.trans (by rw [Go.Sort.alloc_eq_grow, Go.Sort.grow_grow])⟩)
  have K2 := Aside0.mk (fun (p : GrownBy) => (costS_any n A0 c0 l B cb b (Go.Sort.grow (W.drewN p.n) p.os) (Kd.C_below hr0 (bel _ _)) (Kd.C_below hB (bel _ _)) hib).mono (R' := fun e w' => e = .returned (.int .i64 (wcost l b 0)) ∧ ∃ p : GrownBy, w' = Go.Sort.grow (W.drewN p.n) p.os) fun e w' h => ⟨h.1, ⟨p.n, p.os ++ #[.cells #[.int .i64 n, .slice A0 l.length c0] 25]⟩, h.2.trans (by rw [Go.Sort.alloc_eq_grow, Go.Sort.grow_grow])⟩)
  have K3 := Aside0.mk (fun (x y : Int) (p : GrownBy) => (compareS_any x y (Go.Sort.grow (W.drewN p.n) p.os)).mono (R' := fun e w' => e = .returned (.int .i64 (cmpS x y)) ∧ ∃ p : GrownBy, w' = Go.Sort.grow (W.drewN p.n) p.os) fun e w' h => ⟨h.1, p, h.2⟩)
  have K4 := Aside0.mk (fun (p : GrownBy) => (compareL_any A B ca cb a b (Go.Sort.grow (W.drewN p.n) p.os) (Kd.C_below hA (bel _ _)) hca (Kd.C_below hB (bel _ _)) hcb).mono (R' := fun e w' => e = .returned (.int .i64 (cmpL a b)) ∧ ∃ p : GrownBy, w' = Go.Sort.grow (W.drewN p.n) p.os) fun e w' h => ⟨h.1, p, h.2⟩)
  have OO := Aside0.mk (fun (x y z : Int) (g : Nat) (V : World) (h : V.heap[g]? = some (.cells #[.int .i64 x, .int .i64 y, .int .i64 z] 3 (0, 0))) => orS_any x y z g V ((blk_cell h 0).trans rfl) ((blk_cell h 1).trans rfl) ((blk_cell h 2).trans rfl))
  clear bel hn hr0 hA hB hia hib
  go_enter Try.func95, Try.ntmps95
  go_wp2
  refine wp_region_quiet_tail (C := fun w' => ∃ p : GrownBy, w' = Go.Sort.grow (W.drewN p.n) p.os) 15 (by kernel_rfl) (by kernel_rfl) ⟨⟨1, #[]⟩, by rw [Go.Sort.grow_empty]; rfl⟩ ?_
  simp only [List.take_succ_cons, List.take_zero, List.drop_succ_cons, List.drop_zero]
  iterate 2 (quiet_step (fail))
  quiet_step (exact K1.out _)
  iterate 2 (quiet_step (fail))
  quiet_step (exact K2.out _)
  quiet_step (exact K3.out _ _ _)
  iterate 4 (quiet_step (fail))
  quiet_step (exact K3.out _ _ _)
  iterate 2 (quiet_step (fail))
  quiet_step (exact K4.out _)
  refine wpQuiet_nil ?_
  rintro w' ⟨⟨nq, osq⟩, rfl⟩
  clear x0 x1 K1 K2 K3 K4
  obtain ⟨V, hV⟩ : ∃ V, V = Go.Sort.grow (W.drewN nq) osq := ⟨_, rfl⟩
  show wpList _ _ _ _ _ (Go.Sort.grow (W.drewN nq) osq)
  rw [← hV]
  have HV := Aside0.mk hV
  clear hV
  have OR := Aside0.mk (OO.out (cmpS (wcost l a 0) (wcost l b 0)) (cmpS (a.length : Int) (b.length : Int)) (cmpL a b) V.heap.size (V.alloc (.cells #[.int .i64 (cmpS (wcost l a 0) (wcost l b 0)), .int .i64 (cmpS (a.length : Int) (b.length : Int)), .int .i64 (cmpL a b)] 3)) (blk_new V _))
  go_wp2_with (go_at_call 96; refine OR.out.mono ?_; rintro e w' ⟨rfl, rfl⟩)
  go_ret
  refine ⟨rfl, nq, osq ++ #[.cells #[.int .i64 (cmpS (wcost l a 0) (wcost l b 0)), .int .i64 (cmpS (a.length : Int) (b.length : Int)), .int .i64 (cmpL a b)] 3], ?_⟩
  rw [HV.out, Go.Sort.alloc_eq_grow, Go.Sort.grow_grow]

end Go.Proofs.Ytlgolgfcolnddaa.F
