-- Printed by this claim's repository's tools (px.py, pgo.py, pack.py), one text behind the other. Lean checks it.
import Derived.Test.YtlgolgfcolnddaaFKindsPFnSomeOthers
import Derived.Test.YtlgolgfcolnddaaPFnSomeOthers3
import Derived.Test.YtlgolgfcolnddaaPFnSomeOthers1
import Derived.Test.YtlgolgfcolnddaaPFnSomeOthers2
import Derived.Test.YtlgolgfcolnddaaPFnSomeOthers0
import Derived.Test.YtlgolgfcolnddaaPFnSomeOthers6
import Derived.Test.YtlgolgfcolnddaaPFnSomeOthers7
namespace Go.Proofs.Ytlgolgfcolnddaa.F
open Go.RowKit Go.Proofs.YtlgolgfcolnddaaW.PrintWords Go.Proofs.YtlgolgfcolnddaaW.PrintLast Go.Proofs.YtlgolgfcolnddaaW.PrintMore
attribute [local go_sem] qQe qQd qQi qQh qZk qZl qQc qQb
set_option linter.unusedVariables false
set_option linter.unusedSimpArgs false
/-! ### laws_FnSomeOthers: function 3 -/
mutual
def laws_FnSomeOthers.j0 : Nat → Int → Int → Int → Int → List (List Int) → Bool → Int → List (S58) → Option (Bool)
 | 0, _, _, _, _, _, _, _, _ => none
 | k + 1, x4, x5, x6, x7, x8, x46, an, ao => if x46 = true then ((spec_SomeOthers.f k an ao x4 x5 x6 x7).bind fun cx => ((laws_wkGrid.f k x8 cx).bind fun dF => (some dF))) else ((impl_SomeWalks.f an ao x4 x5 6).bind fun af => (if 0 < (af.length : Int) then ((impl_WalkCost.f k an ao (qQf af 0)).bind fun bK => (laws_FnSomeOthers.l0 k x6 x7 x8 af bK 0 0 an ao)) else (none)))
def laws_FnSomeOthers.l0 : Nat → Int → Int → List (List Int) → List (List Int) → Int → Int → Int → Int → List (S58) → Option (Bool)
 | 0, _, _, _, _, _, _, _, _, _ => none
 | k + 1, x6, x7, x8, x9, x10, x11, x12, an, ao => if x12 < (x9.length : Int) then (if 0 ≤ x12 then ((impl_WalkCost.f k an ao (qQf x9 x12)).bind fun de => (laws_FnSomeOthers.l1 k x6 x7 x8 x9 x10 x11 x12 (decide ((wrap64 (de * 100)) ≤ (wrap64 (x10 * (wrap64 (100 + x6)))))) 0 an ao)) else (none)) else (if x11 = (x8.length : Int) then (if 0 < (x8.length : Int) then (if 0 < (x9.length : Int) then ((laws_wkInts.f k (qQf x8 0) (qQf x9 0)).bind fun dG => (some dG)) else (none)) else (none)) else (some false))
def laws_FnSomeOthers.l1 : Nat → Int → Int → List (List Int) → List (List Int) → Int → Int → Int → Bool → Int → Int → List (S58) → Option (Bool)
 | 0, _, _, _, _, _, _, _, _, _, _, _ => none
 | k + 1, x6, x7, x8, x9, x10, x11, x12, x13, x14, an, ao => if x14 < x11 then (if x13 = true then (if 0 ≤ x12 then (if x12 < (x9.length : Int) then (if 0 ≤ x14 then (if x14 < (x8.length : Int) then ((impl_SomeShare.f k an ao (qQf x9 x12) (qQf x8 x14)).bind fun df => (laws_FnSomeOthers.l1 k x6 x7 x8 x9 x10 x11 x12 (decide ((wrap64 (df * 100)) ≤ (wrap64 (x10 * x7)))) (wrap64 (x14 + 1)) an ao)) else (none)) else (none)) else (none)) else (none)) else (laws_FnSomeOthers.l1 k x6 x7 x8 x9 x10 x11 x12 false (wrap64 (x14 + 1)) an ao)) else (if x11 < (x8.length : Int) then (if 0 ≤ x11 then (if 0 ≤ x12 then (if x12 < (x9.length : Int) then ((laws_wkInts.f k (qQf x8 x11) (qQf x9 x12)).bind fun dg => (laws_FnSomeOthers.j3 k x6 x7 x8 x9 x10 x11 x12 x13 dg an ao)) else (none)) else (none)) else (none)) else (laws_FnSomeOthers.j3 k x6 x7 x8 x9 x10 x11 x12 x13 false an ao))
def laws_FnSomeOthers.j3 : Nat → Int → Int → List (List Int) → List (List Int) → Int → Int → Int → Bool → Bool → Int → List (S58) → Option (Bool)
 | 0, _, _, _, _, _, _, _, _, _, _, _ => none
 | k + 1, x6, x7, x8, x9, x10, x11, x12, x13, x15, an, ao => if (x13 != x15) = true then (some false) else (if x15 = true then (laws_FnSomeOthers.l0 k x6 x7 x8 x9 x10 (wrap64 (x11 + 1)) (wrap64 (x12 + 1)) an ao) else (laws_FnSomeOthers.l0 k x6 x7 x8 x9 x10 x11 (wrap64 (x12 + 1)) an ao))
end
def laws_FnSomeOthers.f (k : Nat) (l0 : List Int) : Option (Bool) := if (l0.length : Int) > 1048576 then (some true) else ((spec_DrawSomeOthers.f k l0).bind fun ae => ((impl_SomeOthers.f ae.1 ae.2.1 ae.2.2.1 ae.2.2.2.1 ae.2.2.2.2.1 ae.2.2.2.2.2).bind fun aj => ((spec_SomeOthers.f k ae.1 ae.2.1 ae.2.2.1 ae.2.2.2.1 ae.2.2.2.2.1 ae.2.2.2.2.2).bind fun aY => ((laws_wkGrid.f k aj aY).bind fun cy => (if cy = true then (laws_FnSomeOthers.j0 k ae.2.2.1 ae.2.2.2.1 ae.2.2.2.2.1 ae.2.2.2.2.2 aj ((aj.length : Int) == 0) ae.1 ae.2.1) else (laws_FnSomeOthers.j0 k ae.2.2.1 ae.2.2.2.1 ae.2.2.2.2.1 ae.2.2.2.2.2 aj true ae.1 ae.2.1))))))
theorem laws_FnSomeOthers.mono_l : ∀ k, (∀ y0 y1 y2 y3 y4 y5 y6 y7, LeO (laws_FnSomeOthers.j0 k y0 y1 y2 y3 y4 y5 y6 y7) (laws_FnSomeOthers.j0 (k + 1) y0 y1 y2 y3 y4 y5 y6 y7)) ∧ (∀ y0 y1 y2 y3 y4 y5 y6 y7 y8, LeO (laws_FnSomeOthers.l0 k y0 y1 y2 y3 y4 y5 y6 y7 y8) (laws_FnSomeOthers.l0 (k + 1) y0 y1 y2 y3 y4 y5 y6 y7 y8)) ∧ (∀ y0 y1 y2 y3 y4 y5 y6 y7 y8 y9 y10, LeO (laws_FnSomeOthers.l1 k y0 y1 y2 y3 y4 y5 y6 y7 y8 y9 y10) (laws_FnSomeOthers.l1 (k + 1) y0 y1 y2 y3 y4 y5 y6 y7 y8 y9 y10)) ∧ (∀ y0 y1 y2 y3 y4 y5 y6 y7 y8 y9 y10, LeO (laws_FnSomeOthers.j3 k y0 y1 y2 y3 y4 y5 y6 y7 y8 y9 y10) (laws_FnSomeOthers.j3 (k + 1) y0 y1 y2 y3 y4 y5 y6 y7 y8 y9 y10))
 | 0 => ⟨fun _ _ _ _ _ _ _ _ r h => by simp [laws_FnSomeOthers.j0] at h, fun _ _ _ _ _ _ _ _ _ r h => by simp [laws_FnSomeOthers.l0] at h, fun _ _ _ _ _ _ _ _ _ _ _ r h => by simp [laws_FnSomeOthers.l1] at h, fun _ _ _ _ _ _ _ _ _ _ _ r h => by simp [laws_FnSomeOthers.j3] at h⟩
 | k + 1 => by
  obtain ⟨ih0, ih1, ih2, ih3⟩ := laws_FnSomeOthers.mono_l k
  refine ⟨?_, ?_, ?_, ?_⟩
  ·intro y0 y1 y2 y3 y4 y5 y6 y7
   unfold laws_FnSomeOthers.j0
   repeat' first | (with_reducible exact ih1 _ _ _ _ _ _ _ _ _) | (with_reducible exact impl_WalkCost.mono _ _ _ _) | (with_reducible exact laws_wkGrid.mono _ _ _) | (with_reducible exact spec_SomeOthers.mono _ _ _ _ _ _ _) | (with_reducible exact LeO.refl _) | (with_reducible refine LeO.ite ?_ ?_) | (with_reducible refine LeO.bind ?_ (fun _ => ?_))
  ·intro y0 y1 y2 y3 y4 y5 y6 y7 y8
   unfold laws_FnSomeOthers.l0
   repeat' first | (with_reducible exact ih2 _ _ _ _ _ _ _ _ _ _ _) | (with_reducible exact impl_WalkCost.mono _ _ _ _) | (with_reducible exact laws_wkInts.mono _ _ _) | (with_reducible exact LeO.refl _) | (with_reducible refine LeO.ite ?_ ?_) | (with_reducible refine LeO.bind ?_ (fun _ => ?_))
  ·intro y0 y1 y2 y3 y4 y5 y6 y7 y8 y9 y10
   unfold laws_FnSomeOthers.l1
   repeat' first | (with_reducible exact ih2 _ _ _ _ _ _ _ _ _ _ _) | (with_reducible exact ih3 _ _ _ _ _ _ _ _ _ _ _) | (with_reducible exact impl_SomeShare.mono _ _ _ _ _) | (with_reducible exact laws_wkInts.mono _ _ _) | (with_reducible exact LeO.refl _) | (with_reducible refine LeO.ite ?_ ?_) | (with_reducible refine LeO.bind ?_ (fun _ => ?_))
  ·intro y0 y1 y2 y3 y4 y5 y6 y7 y8 y9 y10
   unfold laws_FnSomeOthers.j3
   repeat' first | (with_reducible exact ih1 _ _ _ _ _ _ _ _ _) | (with_reducible exact LeO.refl _) | (with_reducible refine LeO.ite ?_ ?_)
theorem laws_FnSomeOthers.mono : ∀ a0 k, LeO (laws_FnSomeOthers.f k a0) (laws_FnSomeOthers.f (k + 1) a0) := by
 intro a0 k
 obtain ⟨ih0, ih1, ih2, ih3⟩ := laws_FnSomeOthers.mono_l k
 unfold laws_FnSomeOthers.f
 repeat' first | (with_reducible exact ih0 _ _ _ _ _ _ _ _) | (with_reducible exact laws_wkGrid.mono _ _ _) | (with_reducible exact spec_DrawSomeOthers.mono _ _) | (with_reducible exact spec_SomeOthers.mono _ _ _ _ _ _ _) | (with_reducible exact LeO.refl _) | (with_reducible refine LeO.ite ?_ ?_) | (with_reducible refine LeO.bind ?_ (fun _ => ?_))
/-- THE ONE PURE STATEMENT of laws_FnSomeOthers: yours. -/
def laws_FnSomeOthers.Pure : Prop := ∀ (l0 : List Int), l0.length ≤ maxLen → l0.length * 1 ≤ 140737488351232 → (∀ x ∈ l0, (Lit.int .u8 x).wf = true) → ∃ k, laws_FnSomeOthers.f k l0 = some true
end Go.Proofs.Ytlgolgfcolnddaa.F
