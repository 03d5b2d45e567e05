-- Printed by wip/px/px.py of this claim's repository (the kit's printer, extended there). Lean checks it.
import Derived.Test.YtbcedkcjodokkaaFKinds
namespace Go.Proofs.Ytbcedkcjodokkaa.F
open Go.RowKit Go.Proofs.YtbcedkcjodokkaaW.PrintWords Go.Proofs.YtbcedkcjodokkaaW.PrintLast Go.Proofs.YtbcedkcjodokkaaW.PrintMore
attribute [local go_sem] max2_int min2_int max_two min_two max_three min_three max_four min_four   -- for this text's walks alone
set_option linter.unusedVariables false
set_option linter.unusedSimpArgs false

/-! ### text find -/
theorem isNaN_any (x : Int) (w : World) : Calls Try.prog 46 #[.int .i64 x] w fun e w' => e = .returned (.bool false) ∧ w' = w := by
  go_enter Try.func46, Try.ntmps46
  go_wp2
  go_ret
  simp
/-- As cmp.Compare says it. -/
def cmpI (x y : Int) : Int := if x < y then -1 else if y < x then 1 else 0
set_option maxHeartbeats 2000000 in
set_option maxRecDepth 100000 in
theorem compare_any (x y : Int) (w : World) : Calls Try.prog 36 #[.int .i64 x, .int .i64 y] w fun e w' => e = .returned (.int .i64 (cmpI x y)) ∧ w' = w := by
  have HX := Aside0.mk (isNaN_any x w)
  have HY := Aside0.mk (isNaN_any y w)
  unfold cmpI
  by_cases h1 : x < y
  · rw [if_pos h1]
    go_enter Try.func36, Try.ntmps36
    go_wp2_with (first | (go_at_call 46; refine HX.out.mono ?_; rintro e w' ⟨rfl, rfl⟩) | (go_at_call 46; refine HY.out.mono ?_; rintro e w' ⟨rfl, rfl⟩))
    go_ret
    exact ⟨rfl, rfl⟩
  · by_cases h2 : y < x
    · rw [if_neg h1, if_pos h2]
      go_enter Try.func36, Try.ntmps36
      go_wp2_with (first | (go_at_call 46; refine HX.out.mono ?_; rintro e w' ⟨rfl, rfl⟩) | (go_at_call 46; refine HY.out.mono ?_; rintro e w' ⟨rfl, rfl⟩))
      go_ret
      exact ⟨rfl, rfl⟩
    · rw [if_neg h1, if_neg h2]
      go_enter Try.func36, Try.ntmps36
      go_wp2_with (first | (go_at_call 46; refine HX.out.mono ?_; rintro e w' ⟨rfl, rfl⟩) | (go_at_call 46; refine HY.out.mono ?_; rintro e w' ⟨rfl, rfl⟩))
      go_ret
      exact ⟨rfl, rfl⟩
theorem find1_any (x : S30) (id : Int) (w : World) : Calls Try.prog 35 #[.agg #[.int .i64 x.f0, .int .i64 x.f1, .int .i64 x.f2], .int .i64 id] w fun e w' => e = .returned (.int .i64 (cmpI x.f0 id)) ∧ Below w.heap.size w w' := by
  have HC := Aside0.mk (fun W => compare_any x.f0 id W)
  have HB := Aside0.mk (Below.refl w.heap.size w)
  go_enter Try.func35, Try.ntmps35
  go_wp2_with (go_at_call 36; refine (HC.out _).mono ?_; rintro e w' ⟨rfl, rfl⟩)
  go_ret
  exact ⟨rfl, by repeat (first | exact HB.out | apply below_alloc)⟩
/-- At how many news the number lies behind: the place of a number. -/
def findP (id : Int) : List S30 → Nat
  | [] => 0
  | x :: xs => if x.f0 < id then findP id xs + 1 else 0
theorem findP_is (id : Int) : ∀ (l : List S30) (k : Nat), k ≤ l.length → (∀ j, j < k → (l.getD j z30).f0 < id) → (k < l.length → ¬ (l.getD k z30).f0 < id) → findP id l = k
  | [], k, hk, _, _ => by simp at hk; subst hk; rfl
  | x :: xs, 0, _, _, h2 => by
    have : ¬ x.f0 < id := h2 (by simp)
    unfold findP
    rw [if_neg this]
  | x :: xs, k + 1, hk, h1, h2 => by
    have h0 : x.f0 < id := h1 0 (by omega)
    have ih := findP_is id xs k (by simpa using hk) (fun j hj => by simpa using h1 (j + 1) (by omega)) (fun h => by simpa using h2 (by simpa using h))
    unfold findP
    rw [if_pos h0, ih]
theorem findP_le (id : Int) : ∀ l, findP id l ≤ l.length
  | [] => Nat.le_refl _
  | x :: xs => by
    unfold findP
    have := findP_le id xs
    split <;> simp <;> omega
/-- Do the numbers go up. -/
def upB : List S30 → Bool
  | [] => true
  | x :: xs => (xs.all fun y => decide (x.f0 < y.f0)) && upB xs
theorem upB_le : ∀ (l : List S30), upB l = true → ∀ i j, i < j → j < l.length → (l.getD i z30).f0 < (l.getD j z30).f0
  | [], _, i, j, _, hj => absurd hj (Nat.not_lt_zero _)
  | x :: xs, h, i, j, hij, hj => by
    unfold upB at h
    simp only [Bool.and_eq_true, List.all_eq_true, decide_eq_true_eq] at h
    cases j with
    | zero => omega
    | succ j =>
      have hj' : j < xs.length := by simpa using hj
      cases i with
      | zero =>
        have := h.1 _ (List.getElem_mem hj')
        simpa [List.getD_eq_getElem?_getD, List.getElem?_eq_getElem hj'] using this
      | succ i => simpa using upB_le xs h.2 i j (by omega) hj'
def thereB (id : Int) (l : List S30) : Bool := decide (findP id l < l.length) && decide ((l.getD (findP id l) z30).f0 = id)
set_option maxHeartbeats 4000000 in
set_option maxRecDepth 100000 in
theorem search_any (A0 : Option Addr) (c0 : Nat) (l0 : List S30) (id : Int) (w : World) (hr0 : Kd.C k30 w A0 l0.length l0) (hup : upB l0 = true) (h6 : l0.length ≤ 1000) :
    Calls Try.prog 34 #[.slice A0 l0.length c0, .int .i64 id, .func (.func 35) #[] #[]] w fun e w' => e = .returned (.tuple #[.int .i64 (findP id l0 : Nat), .bool (thereB id l0)]) ∧ Below w.heap.size w w' := by
  have HR0 := Aside0.mk hr0
  have HU := Aside0.mk (upB_le l0 hup)
  have H6 := Aside0.mk h6
  have HF := Aside0.mk (fun x W => find1_any x id W)
  generalize hcnt : findP id l0 = cnt
  have CN := Lib.hid hcnt
  clear hcnt
  generalize hfin : thereB id l0 = fin
  have FIN := Lib.hid hfin
  clear hfin hr0 hup
  go_enter Try.func34, Try.ntmps34
  go_wp2
  go_loopg [9, 10] l0.length (fun kx s9 s10 wr => ∃ lo hi : Nat, s9 = .int .i64 lo ∧ s10 = .int .i64 hi ∧ lo ≤ hi ∧ hi ≤ l0.length ∧ hi - lo ≤ kx ∧ Aside0 (Below w.heap.size w wr) ∧
    Aside0 ((∀ t, t < lo → (l0.getD t z30).f0 < id) ∧ (∀ t, hi ≤ t → t < l0.length → ¬ (l0.getD t z30).f0 < id)))
  case atStart => exact ⟨0, l0.length, rfl, rfl, Nat.zero_le _, Nat.le_refl _, by omega, ⟨Below.refl _ _⟩, ⟨⟨fun t ht => absurd ht (Nat.not_lt_zero _), fun t h1 h2 => by omega⟩⟩⟩
  case round =>
    obtain ⟨lo, hi, rfl, rfl, hlh, hin, hg, BW, I⟩ := hrel
    by_cases hlt : lo < hi
    · have hm1 : (lo + hi) / 2 < l0.length := by omega
      obtain ⟨ad, ea, h0, h1, h2⟩ := at_T30 HR0.out (((lo + hi) / 2 : Nat) : Int) (by omega) (by omega)
      have hcall := HF.out (rd_T30 l0 (((lo + hi) / 2 : Nat) : Int)) wr
      have HE : Hid (l0.getD ((lo + hi) / 2) z30 = rd_T30 l0 (((lo + hi) / 2 : Nat) : Int)) := Lib.hid (by unfold rd_T30; rw [Int.toNat_natCast])
      cases ea
      simp only [Int.toNat_natCast] at h0 h1 h2
      replace h0 := (BW.out.cell (World.block_lt_of_cell? w _ h0)).trans h0
      replace h1 := (BW.out.cell (World.block_lt_of_cell? w _ h1)).trans h1
      replace h2 := (BW.out.cell (World.block_lt_of_cell? w _ h2)).trans h2
      generalize rd_T30 l0 (((lo + hi) / 2 : Nat) : Int) = y at *
      by_cases hyx : y.f0 < id
      · have e1 : cmpI y.f0 id = -1 := by unfold cmpI; rw [if_pos hyx]
        rw [e1] at hcall
        have HY := Lib.hid hyx
        clear hyx e1
        go_wp2_with (go_at_call 35; refine hcall.mono ?_; rintro e w' ⟨rfl, hb'⟩)
        go_roundg (hi - ((lo + hi) / 2 + 1))
        case measure => omega
        case rel =>
          refine ⟨(lo + hi) / 2 + 1, hi, by rw [show ((lo : Int) + (hi : Int)) / 2 + 1 = (((lo + hi) / 2 + 1 : Nat) : Int) by omega], rfl, by omega, hin, Nat.le_refl _, ⟨BW.out.trans (hb'.mono BW.out.size)⟩, ⟨⟨fun t ht => ?_, I.out.2⟩⟩⟩
          by_cases e : t = (lo + hi) / 2
          · rw [e, HE.out]; exact HY.out
          · have := HU.out t ((lo + hi) / 2) (by omega) hm1
            rw [HE.out] at this
            exact Int.lt_trans this HY.out
      · have e1 : ¬ cmpI y.f0 id < 0 := by unfold cmpI; rw [if_neg hyx]; split <;> omega
        generalize cmpI y.f0 id = q at hcall e1
        have HY := Lib.hid hyx
        clear hyx
        go_wp2_with (go_at_call 35; refine hcall.mono ?_; rintro e w' ⟨rfl, hb'⟩)
        go_roundg ((lo + hi) / 2 - lo)
        case measure => omega
        case rel =>
          refine ⟨lo, (lo + hi) / 2, rfl, by rw [show ((lo : Int) + (hi : Int)) / 2 = (((lo + hi) / 2 : Nat) : Int) by omega], by omega, by omega, Nat.le_refl _, ⟨BW.out.trans (hb'.mono BW.out.size)⟩, ⟨⟨I.out.1, fun t ht htn => ?_⟩⟩⟩
          by_cases e : t = (lo + hi) / 2
          · rw [e, HE.out]; exact HY.out
          · have := HU.out ((lo + hi) / 2) t (by omega) htn
            rw [HE.out] at this
            have h3 := HY.out
            omega
    · obtain rfl : hi = lo := by omega
      have hp : findP id l0 = hi := findP_is id l0 hi hin I.out.1 (fun h => I.out.2 hi (Nat.le_refl _) h)
      have ht : thereB id l0 = (decide (hi < l0.length) && decide ((l0.getD hi z30).f0 = id)) := by unfold thereB; rw [hp]
      rw [CN.out] at hp
      rw [FIN.out] at ht
      replace hp := hp.symm
      subst hp
      have FN := Lib.hid ht
      clear ht
      by_cases hn : hi < l0.length
      · obtain ⟨ad, ea, h0, h1, h2⟩ := at_T30 HR0.out (hi : Int) (by omega) (by omega)
        have hcall := HF.out (rd_T30 l0 (hi : Int)) wr
        have HE : Hid (l0.getD hi z30 = rd_T30 l0 (hi : Int)) := Lib.hid (by unfold rd_T30; rw [Int.toNat_natCast])
        cases ea
        simp only [Int.toNat_natCast] at h0 h1 h2
        replace h0 := (BW.out.cell (World.block_lt_of_cell? w _ h0)).trans h0
        replace h1 := (BW.out.cell (World.block_lt_of_cell? w _ h1)).trans h1
        replace h2 := (BW.out.cell (World.block_lt_of_cell? w _ h2)).trans h2
        generalize rd_T30 l0 (hi : Int) = y at *
        have e1 : (cmpI y.f0 id = 0) ↔ y.f0 = id := by unfold cmpI; split <;> (try split) <;> omega
        by_cases e2 : y.f0 = id
        · have e3 := e1.2 e2
          rw [e3] at hcall
          have E2 := Lib.hid e2
          clear e1 e2 e3
          go_wp2_with (go_at_call 35; refine hcall.mono ?_; rintro e w' ⟨rfl, hb'⟩)
          go_ret2
          exact ⟨by rw [FN.out, HE.out]; simp [hn, E2.out], BW.out.trans (hb'.mono BW.out.size)⟩
        · have e3 : ¬ cmpI y.f0 id = 0 := fun h => e2 (e1.1 h)
          generalize cmpI y.f0 id = q at hcall e3
          have E2 := Lib.hid e2
          clear e1 e2
          go_wp2_with (go_at_call 35; refine hcall.mono ?_; rintro e w' ⟨rfl, hb'⟩)
          go_ret2
          exact ⟨by rw [FN.out, HE.out]; simp [hn, E2.out, e3], BW.out.trans (hb'.mono BW.out.size)⟩
      · go_wp2
        go_ret2
        exact ⟨by rw [FN.out]; simp [hn], BW.out⟩
theorem find_any (n : Int) (A1 : Option Addr) (n1 c1 : Nat) (A0 : Option Addr) (c0 : Nat) (l0 : List S30) (id : Int) (w : World) (hr0 : Kd.C k30 w A0 l0.length l0) (hup : upB l0 = true) (h6 : l0.length ≤ 1000) :
    Calls Try.prog 18 #[.agg #[.int .i64 n, .slice A1 n1 c1, .slice A0 l0.length c0], .int .i64 id] w fun e w' => e = .returned (.tuple #[.int .i64 (findP id l0 : Nat), .bool (thereB id l0)]) ∧ Below w.heap.size w w' := by
  have hu := Try.underlying28
  have key : ∀ W : World, Below w.heap.size w W → Calls Try.prog 34 #[.slice A0 l0.length c0, .int .i64 id, .func (.func 35) #[] #[]] W fun e w' => e = .returned (.tuple #[.int .i64 (findP id l0 : Nat), .bool (thereB id l0)]) ∧ Below W.heap.size W w' := fun W hB => search_any A0 c0 l0 id W (Kd.C_below hr0 hB) hup h6
  have KEY := Aside0.mk key
  clear key hr0 hup
  have W4 := below_alloc (Below.refl w.heap.size w) (.cells #[.int .i64 n, .slice A1 n1 c1, .slice A0 l0.length c0] 28)
  have H4 := Aside0.mk W4
  clear W4
  generalize findP id l0 = fp at *
  generalize thereB id l0 = tb at *
  go_enter Try.func18, Try.ntmps18
  go_wp2_with (go_at_call 34; refine (KEY.out _ H4.out).mono ?_; rintro e w' ⟨rfl, hb'⟩)
  go_ret2
  exact ⟨rfl, H4.out.trans (hb'.mono (by simp))⟩

end Go.Proofs.Ytbcedkcjodokkaa.F
