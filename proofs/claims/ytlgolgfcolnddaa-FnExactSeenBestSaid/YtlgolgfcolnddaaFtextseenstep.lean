-- Printed by wip/px/px.py of this claim's repository (the kit's printer, extended there). Lean checks it.
import Derived.Test.YtlgolgfcolnddaaFKinds
import Derived.Test.YtlgolgfcolnddaaFtextseenok
namespace Go.Proofs.Ytlgolgfcolnddaa.F
open Go.RowKit Go.Proofs.YtlgolgfcolnddaaW.PrintWords Go.Proofs.YtlgolgfcolnddaaW.PrintLast Go.Proofs.YtlgolgfcolnddaaW.PrintMore
attribute [local go_sem] max2_int min2_int max_two min_two max_three min_three max_four min_four   -- for this text's walks alone
set_option linter.unusedVariables false
set_option linter.unusedSimpArgs false

/-! ### text seenstep -/
/-- What it costs to come to v by u, at sight i. -/
def stepV (all least s : List (List Int)) (i u v : Nat) : Int := if rd (rdR all (u : Int)) (v : Int) = 99999 then 99999 else wrap64 (wrap64 (rd (rdR least ((i - 1 : Nat) : Int)) (u : Int) + rd (rdR all (u : Int)) (v : Int)) + rd (rdR s (i : Int)) (v : Int))
set_option maxHeartbeats 4000000 in
set_option maxRecDepth 100000 in
theorem step_any (all least s : List (List Int)) (W : World) (ga gl gs : Nat) (Aa Al As : Option Addr) (ca cl cs : Nat) (ha : W.cell? ⟨ga, 0, none⟩ = some (.slice Aa all.length ca)) (hl : W.cell? ⟨gl, 0, none⟩ = some (.slice Al least.length cl)) (hs : W.cell? ⟨gs, 0, none⟩ = some (.slice As s.length cs)) (CA : Kd.C (Kd.slice 3 (Kd.int .i64)) W Aa all.length all) (CL : Kd.C (Kd.slice 3 (Kd.int .i64)) W Al least.length least) (CS : Kd.C (Kd.slice 3 (Kd.int .i64)) W As s.length s)
    (i u v : Nat) (h1 : 1 ≤ i) (h2 : i < s.length) (h3 : i - 1 < least.length) (h4 : u < all.length) (h5 : v < (rdR all (u : Int)).length) (h6 : u < (rdR least ((i - 1 : Nat) : Int)).length) (h7 : v < (rdR s (i : Int)).length) :
    Calls Try.prog 82 #[.int .i64 (i : Int), .int .i64 (u : Int), .int .i64 (v : Int), .pointer (some ⟨ga, 0, none⟩), .pointer (some ⟨gl, 0, none⟩), .pointer (some ⟨gs, 0, none⟩)] W fun e w' => e = .returned (.int .i64 (stepV all least s i u v)) ∧ ∃ nd, w' = W.drewN nd := by
  have b1 := CA.2.1
  have b2 := CL.2.1
  have b3 := CS.2.1
  obtain ⟨a1, A1, c1, e1, x1, y1, C1⟩ := at_R CA (u : Int) (by omega) (by omega)
  obtain ⟨a2, e2, z2⟩ := Kd.at_int C1 (v : Int) (by omega) (by omega)
  obtain ⟨a3, A3, c3, e3, x3, y3, C3⟩ := at_R CL ((i - 1 : Nat) : Int) (by omega) (by omega)
  obtain ⟨a4, e4, z4⟩ := Kd.at_int C3 (u : Int) (by omega) (by omega)
  obtain ⟨a5, A5, c5, e5, x5, y5, C5⟩ := at_R CS (i : Int) (by omega) (by omega)
  obtain ⟨a6, e6, z6⟩ := Kd.at_int C5 (v : Int) (by omega) (by omega)
  have w1 : IntKind.i64.wrap ((i : Int) - 1) = ((i - 1 : Nat) : Int) := by rw [IntKind.wrap_i64]; omega
  have d1 : decide ((0 : Int) ≤ (u : Int)) = true := decide_eq_true (by omega)
  have d2 : decide ((u : Int) < (all.length : Int)) = true := decide_eq_true (by omega)
  have d3 : decide ((0 : Int) ≤ (v : Int)) = true := decide_eq_true (by omega)
  have d4 : decide ((v : Int) < ((rdR all (u : Int)).length : Int)) = true := decide_eq_true (by omega)
  have d5 : decide ((0 : Int) ≤ ((i - 1 : Nat) : Int)) = true := decide_eq_true (by omega)
  have d6 : decide (((i - 1 : Nat) : Int) < (least.length : Int)) = true := decide_eq_true (by omega)
  have d7 : decide ((u : Int) < ((rdR least ((i - 1 : Nat) : Int)).length : Int)) = true := decide_eq_true (by omega)
  have d8 : decide ((0 : Int) ≤ (i : Int)) = true := decide_eq_true (by omega)
  have d9 : decide ((i : Int) < (s.length : Int)) = true := decide_eq_true (by omega)
  have d10 : decide ((v : Int) < ((rdR s (i : Int)).length : Int)) = true := decide_eq_true (by omega)
  simp only [Int.toNat_natCast] at x1 x3 x5 z2 z4 z6
  unfold stepV
  clear CA CL CS C1 C3 C5 b1 b2 b3
  cases e1
  cases e2
  cases e3
  cases e4
  cases e5
  cases e6
  by_cases c : rd (rdR all (u : Int)) (v : Int) = 99999
  · rw [if_pos c]
    have c1 : (rd (rdR all (u : Int)) (v : Int) == 99999) = true := beq_iff_eq.2 c
    go_enter Try.func82, Try.ntmps82
    go_wp2
    go_ret
    exact ⟨rfl, 0, rfl⟩
  · rw [if_neg c]
    have c1 : (rd (rdR all (u : Int)) (v : Int) == 99999) = false := beq_eq_false_iff_ne.2 c
    go_enter Try.func82, Try.ntmps82
    go_wp2
    go_quiet (fail)
    go_wp2
    go_ret
    exact ⟨rfl, _, rfl⟩

end Go.Proofs.Ytlgolgfcolnddaa.F
