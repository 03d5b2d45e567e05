-- Printed by wip/px/px.py of this claim's repository (the kit's printer, extended there). Lean checks it.
import Derived.Test.YtlgolgfcolnddaaFKinds
import Derived.Test.YtlgolgfcolnddaaFtextcore
namespace Go.Proofs.Ytlgolgfcolnddaa.F
open Go.RowKit Go.Proofs.YtlgolgfcolnddaaW.PrintWords Go.Proofs.YtlgolgfcolnddaaW.PrintLast Go.Proofs.YtlgolgfcolnddaaW.PrintMore
attribute [local go_sem] max2_int min2_int max_two min_two max_three min_three max_four min_four   -- for this text's walks alone
set_option linter.unusedVariables false
set_option linter.unusedSimpArgs false

/-! ### text othshare -/
set_option maxHeartbeats 2000000 in
set_option maxRecDepth 100000 in
theorem indexI_any (A : Option Addr) (c : Nat) (l : List Int) (x : Int) (w : World) (hA : Kd.C (Kd.int .i64) w A l.length l) :
    Calls Try.prog 85 #[.slice A l.length c, .int .i64 x] w fun e w' => e = .returned (.int .i64 (idxP (fun y => x == y) l)) ∧ w' = w := by
  have HA := Aside0.mk hA
  have la := hA.2.1
  have ml : maxLen ≤ 9223372036854775807 := by decide
  clear hA
  go_enter Try.func85, Try.ntmps85
  go_wp2
  go_loopg [5, 8] l.length (fun kx _ s8 wr => ∃ i : Nat, s8 = .int .i64 (i : Int) ∧ wr = w ∧ i ≤ l.length ∧ l.length - i ≤ kx ∧ Aside0 (∀ j, j < i → (x == l.getD j 0) = false))
  case atStart => exact ⟨0, rfl, rfl, Nat.zero_le _, by omega, ⟨fun j hj => absurd hj (Nat.not_lt_zero _)⟩⟩
  case round =>
    obtain ⟨i, rfl, rfl, hi, hg, HS⟩ := hrel
    have z : (0 : Int) ≤ (i : Int) := by omega
    by_cases hlt : i < l.length
    · have hltz : (i : Int) < (l.length : Int) := by omega
      obtain ⟨ad, ea, q0⟩ := Kd.at_int HA.out (i : Int) z (by omega)
      cases ea
      rw [Int.toNat_natCast] at q0
      have HE := Aside0.mk (by simp [rd] : l.getD i 0 = rd l (i : Int))
      generalize rd l (i : Int) = y at q0 HE
      by_cases hy : x = y
      · have hb : (x == y) = true := beq_iff_eq.2 hy
        have HN := Aside0.mk (idxP_hit (fun y => x == y) l 0 i hlt (by rw [HE.out]; exact hb) HS.out)
        clear HS HE hy
        go_wp2
        go_ret
        exact ⟨by rw [HN.out]; rfl, rfl⟩
      · have hb : (x == y) = false := beq_eq_false_iff_ne.2 hy
        have HN := Aside0.mk (by
          intro j hj
          by_cases e : j = i
          · subst e; rw [HE.out]; exact hb
          · exact HS.out j (by omega) : ∀ j, j < i + 1 → (x == l.getD j 0) = false)
        clear HS HE hy
        go_wp2
        go_roundg (l.length - (i + 1))
        case measure => omega
        case rel => exact ⟨i + 1, by go_num, rfl, hlt, Nat.le_refl _, HN⟩
    · have hltz : ¬ (i : Int) < (l.length : Int) := by omega
      have HN := Aside0.mk (idxP_miss (fun y => x == y) l 0 (fun j hj => HS.out j (by omega)))
      clear HS
      go_wp2
      go_ret
      exact ⟨by rw [HN.out]; rfl, rfl⟩
set_option maxHeartbeats 1000000 in
theorem containsI_any (A : Option Addr) (c : Nat) (l : List Int) (x : Int) (w : World) (hA : Kd.C (Kd.int .i64) w A l.length l) :
    Calls Try.prog 88 #[.slice A l.length c, .int .i64 x] w fun e w' => e = .returned (.bool (l.any fun y => x == y)) ∧ w' = w := by
  rw [← idxP_any]
  have hcall := indexI_any A c l x w hA
  clear hA
  generalize idxP (fun y => x == y) l = r at hcall ⊢
  go_enter Try.func88, Try.ntmps88
  go_wp2_with (go_at_call 85; refine hcall.mono ?_; rintro e w' ⟨rfl, rfl⟩)
  go_ret
  exact ⟨rfl, rfl⟩
/-- What those arcs cost that are among others, behind what was counted. -/
def wshare (l : List S58) (b : List Int) : List Int → Int → Int
  | [], s => s
  | k :: r, s => wshare l b r (if (b.any fun y => k == y) = true then wrap64 (s + (rd_T58 l k).f2) else s)
theorem wshare_at (l : List S58) (b a : List Int) (i : Nat) (h : i < a.length) (s : Int) : wshare l b (a.drop i) s = wshare l b (a.drop (i + 1)) (if (b.any fun y => rd a (i : Int) == y) = true then wrap64 (s + (rd_T58 l (rd a (i : Int))).f2) else s) := by
  have e : rd a (i : Int) = a[i] := by simp [rd, h]
  rw [List.drop_eq_getElem_cons h, wshare, e]
set_option maxHeartbeats 2000000 in
set_option maxRecDepth 100000 in
theorem shareS_any (n : Int) (A0 : Option Addr) (c0 : Nat) (l : List S58) (A B : Option Addr) (ca cb : Nat) (a b : List Int) (w : World) (hr0 : Kd.C k58 w A0 l.length l) (hA : Kd.C (Kd.int .i64) w A a.length a) (hB : Kd.C (Kd.int .i64) w B b.length b) (hin : ∀ k ∈ a, 0 ≤ k ∧ k < (l.length : Int)) :
    Calls Try.prog 51 #[.agg #[.int .i64 n, .slice A0 l.length c0], .slice A a.length ca, .slice B b.length cb] w fun e w' => e = .returned (.int .i64 (wshare l b a 0)) ∧ w' = w.alloc (.cells #[.int .i64 n, .slice A0 l.length c0] 25) := by
  have hu := Try.underlying25
  have la := hA.2.1
  have ml : maxLen ≤ 9223372036854775807 := by decide
  obtain ⟨W, hW⟩ : ∃ W, W = w.alloc (.cells #[.int .i64 n, .slice A0 l.length c0] 25) := ⟨_, rfl⟩
  have hBl : Below w.heap.size w W := by rw [hW]; exact below_alloc (Below.refl _ _) _
  have b1 : W.heap[w.heap.size]? = some (.cells #[.int .i64 n, .slice A0 l.length c0] 25 (0, 0)) := by rw [hW]; exact blk_new w _
  have x0 : W.cell? ⟨w.heap.size, 0, none⟩ = some (.int .i64 n) := (blk_cell b1 0).trans rfl
  have x1 : W.cell? ⟨w.heap.size, 1, none⟩ = some (.slice A0 l.length c0) := (blk_cell b1 1).trans rfl
  have HA := Aside0.mk (Kd.C_below hA hBl)
  have HR := Aside0.mk (Kd.C_below hr0 hBl)
  have CT := Aside0.mk (fun (x : Int) => containsI_any B cb b x W (Kd.C_below hB hBl))
  have HIN := Aside0.mk hin
  clear hA hB hr0 hBl b1 hin
  go_enter Try.func51, Try.ntmps51
  go_wp2
  rw [← hW]
  have HW := Aside0.mk hW
  clear hW
  go_loopg [7, 9, 12] a.length (fun kx s7 _ s12 wr => ∃ (i : Nat) (s : Int), s7 = .int .i64 s ∧ s12 = .int .i64 (i : Int) ∧ wr = W ∧ i ≤ a.length ∧ a.length - i ≤ kx ∧ Aside0 (wshare l b (a.drop i) s = wshare l b a 0))
  case atStart => exact ⟨0, 0, rfl, rfl, rfl, Nat.zero_le _, by omega, ⟨by simp⟩⟩
  case round =>
    obtain ⟨i, s, rfl, rfl, rfl, hi, hg, HS⟩ := hrel
    have z : (0 : Int) ≤ (i : Int) := by omega
    by_cases hlt : i < a.length
    · have hltz : (i : Int) < (a.length : Int) := by omega
      obtain ⟨ad, ea, q0⟩ := Kd.at_int HA.out (i : Int) z (by omega)
      cases ea
      rw [Int.toNat_natCast] at q0
      have hm : 0 ≤ rd a (i : Int) ∧ rd a (i : Int) < (l.length : Int) := HIN.out _ (by simp [rd, hlt])
      have HN := Aside0.mk ((wshare_at l b a i hlt s).symm.trans HS.out)
      generalize rd a (i : Int) = k at q0 hm HN
      obtain ⟨p0, p1⟩ := hm
      have C1 := Aside0.mk (CT.out k)
      clear HS
      cases hq : b.any fun y => k == y with
      | true =>
        rw [hq] at C1 HN
        rw [if_pos rfl] at HN
        clear hq
        obtain ⟨bd, eb, y0, y1, y2, y3, y4⟩ := at_T58 HR.out k p0 p1
        cases eb
        go_wp2_with (go_at_call 88; refine C1.out.mono ?_; rintro e w' ⟨rfl, rfl⟩)
        go_roundg (a.length - (i + 1))
        case measure => omega
        case rel => exact ⟨i + 1, _, rfl, by go_num, rfl, hlt, Nat.le_refl _, HN⟩
      | false =>
        rw [hq] at C1 HN
        rw [if_neg Bool.false_ne_true] at HN
        clear hq
        go_wp2_with (go_at_call 88; refine C1.out.mono ?_; rintro e w' ⟨rfl, rfl⟩)
        go_roundg (a.length - (i + 1))
        case measure => omega
        case rel => exact ⟨i + 1, _, rfl, by go_num, rfl, hlt, Nat.le_refl _, HN⟩
    · have hltz : ¬ (i : Int) < (a.length : Int) := by omega
      have HN := Aside0.mk (by have := HS.out; rw [List.drop_of_length_le (show a.length ≤ i by omega), wshare] at this; exact this : s = wshare l b a 0)
      clear HS
      go_wp2
      go_ret
      exact ⟨by rw [← HN.out]; rfl, HW.out⟩

end Go.Proofs.Ytlgolgfcolnddaa.F
