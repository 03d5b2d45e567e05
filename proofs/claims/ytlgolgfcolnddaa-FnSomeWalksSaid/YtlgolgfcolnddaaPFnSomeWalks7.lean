-- Printed by this claim's repository's tools (px.py, pgo.py, pack.py), one text behind the other. Lean checks it.
import Derived.Test.YtlgolgfcolnddaaFKindsPFnSomeWalks
import Derived.Test.YtlgolgfcolnddaaPFnSomeWalks0
import Derived.Test.YtlgolgfcolnddaaPFnSomeWalks1
import Derived.Test.YtlgolgfcolnddaaPFnSomeWalks2
import Derived.Test.YtlgolgfcolnddaaPFnSomeWalks4
import Derived.Test.YtlgolgfcolnddaaPFnSomeWalks5
import Derived.Test.YtlgolgfcolnddaaPFnSomeWalks6
namespace Go.Proofs.Ytlgolgfcolnddaa.F
open Go.RowKit Go.Proofs.YtlgolgfcolnddaaW.PrintWords Go.Proofs.YtlgolgfcolnddaaW.PrintLast Go.Proofs.YtlgolgfcolnddaaW.PrintMore
attribute [local go_sem] qQb qQc qQk qQj qZn qZo qQd qQe
set_option linter.unusedVariables false
set_option linter.unusedSimpArgs false
/-! ### laws_FnSomeWalks: function 5 -/
mutual
def laws_FnSomeWalks.j0 : Nat → Int → Int → Int → List (List Int) → Bool → Int → List (S58) → Option (Bool)
 | 0, _, _, _, _, _, _, _ => none
 | k + 1, x4, x5, x6, x7, x38, aw, ax => if x38 = true then ((spec_SomeWalks.f k aw ax x4 x5 x6).bind fun bZ => ((laws_wkGrid.f k x7 bZ).bind fun cR => (some cR))) else (laws_FnSomeWalks.l0 k x4 x5 x6 x7 0 aw ax)
def laws_FnSomeWalks.l0 : Nat → Int → Int → Int → List (List Int) → Int → Int → List (S58) → Option (Bool)
 | 0, _, _, _, _, _, _, _ => none
 | k + 1, x4, x5, x6, x7, x8, aw, ax => if x8 < (x7.length : Int) then (if 0 ≤ x8 then ((laws_wkEnds.f k aw ax (qJc x7 x8) x4 x5).bind fun cS => (if cS = true then ((impl_WalkPlain.f k aw ax (qJc x7 x8)).bind fun bC => ((laws_wkInts.f k bC (qJc x7 x8)).bind fun cT => (if cT = true then (if x8 > 0 then (if 0 ≤ (wrap64 (x8 - 1)) then (if (wrap64 (x8 - 1)) < (x7.length : Int) then ((laws_wkAhead.f k aw ax (qJc x7 (wrap64 (x8 - 1))) (qJc x7 x8)).bind fun ca => (if ca = true then (laws_FnSomeWalks.l0 k x4 x5 x6 x7 (wrap64 (x8 + 1)) aw ax) else (some false))) else (none)) else (none)) else (laws_FnSomeWalks.l0 k x4 x5 x6 x7 (wrap64 (x8 + 1)) aw ax)) else (some false)))) else (some false))) else (none)) else ((impl_NearWalk.f k aw ax x4 x5).bind fun cQ => (if cQ.2 = true then (if 0 < (x7.length : Int) then ((laws_wkInts.f k (qJc x7 0) cQ.1).bind fun cU => (if cU = true then (some (decide ((x7.length : Int) ≤ x6))) else (some false))) else (none)) else (some false)))
end
def laws_FnSomeWalks.f (k : Nat) (l0 : List Int) : Option (Bool) := if (l0.length : Int) > 1048576 then (some true) else ((spec_DrawSomeWalks.f k l0).bind fun af => ((impl_SomeWalks.f af.1 af.2.1 af.2.2.1 af.2.2.2.1 af.2.2.2.2).bind fun ae => ((spec_SomeWalks.f k af.1 af.2.1 af.2.2.1 af.2.2.2.1 af.2.2.2.2).bind fun bh => ((laws_wkGrid.f k ae bh).bind fun cb => (if cb = true then (laws_FnSomeWalks.j0 k af.2.2.1 af.2.2.2.1 af.2.2.2.2 ae ((ae.length : Int) == 0) af.1 af.2.1) else (laws_FnSomeWalks.j0 k af.2.2.1 af.2.2.2.1 af.2.2.2.2 ae true af.1 af.2.1))))))
theorem laws_FnSomeWalks.mono_l : ∀ k, (∀ y0 y1 y2 y3 y4 y5 y6, LeO (laws_FnSomeWalks.j0 k y0 y1 y2 y3 y4 y5 y6) (laws_FnSomeWalks.j0 (k + 1) y0 y1 y2 y3 y4 y5 y6)) ∧ (∀ y0 y1 y2 y3 y4 y5 y6, LeO (laws_FnSomeWalks.l0 k y0 y1 y2 y3 y4 y5 y6) (laws_FnSomeWalks.l0 (k + 1) y0 y1 y2 y3 y4 y5 y6))
 | 0 => ⟨fun _ _ _ _ _ _ _ r h => by simp [laws_FnSomeWalks.j0] at h, fun _ _ _ _ _ _ _ r h => by simp [laws_FnSomeWalks.l0] at h⟩
 | k + 1 => by
  obtain ⟨ih0, ih1⟩ := laws_FnSomeWalks.mono_l k
  refine ⟨?_, ?_⟩
  ·intro y0 y1 y2 y3 y4 y5 y6
   unfold laws_FnSomeWalks.j0
   repeat' first
   | (with_reducible exact ih0 _ _ _ _ _ _ _)
   | (with_reducible exact ih1 _ _ _ _ _ _ _)
   | (with_reducible exact impl_NearWalk.mono _ _ _ _ _)
   | (with_reducible exact impl_WalkPlain.mono _ _ _ _)
   | (with_reducible exact laws_wkAhead.mono _ _ _ _ _)
   | (with_reducible exact laws_wkEnds.mono _ _ _ _ _ _)
   | (with_reducible exact laws_wkGrid.mono _ _ _)
   | (with_reducible exact laws_wkInts.mono _ _ _)
   | (with_reducible exact spec_DrawSomeWalks.mono _ _)
   | (with_reducible exact spec_SomeWalks.mono _ _ _ _ _ _)
   | (with_reducible exact LeO.refl _)
   | (with_reducible exact LeO.none _)
   | (with_reducible refine LeO.ite ?_ ?_)
   | (with_reducible refine LeO.bind ?_ (fun _ => ?_))
   | exact ih0 _ _ _ _ _ _ _
   | exact ih1 _ _ _ _ _ _ _
   | exact impl_NearWalk.mono _ _ _ _ _
   | exact impl_WalkPlain.mono _ _ _ _
   | exact laws_wkAhead.mono _ _ _ _ _
   | exact laws_wkEnds.mono _ _ _ _ _ _
   | exact laws_wkGrid.mono _ _ _
   | exact laws_wkInts.mono _ _ _
   | exact spec_DrawSomeWalks.mono _ _
   | exact spec_SomeWalks.mono _ _ _ _ _ _
   | exact LeO.none _
   | refine LeO.ite ?_ ?_
   | refine LeO.bind ?_ (fun _ => ?_)
  ·intro y0 y1 y2 y3 y4 y5 y6
   unfold laws_FnSomeWalks.l0
   repeat' first
   | (with_reducible exact ih0 _ _ _ _ _ _ _)
   | (with_reducible exact ih1 _ _ _ _ _ _ _)
   | (with_reducible exact impl_NearWalk.mono _ _ _ _ _)
   | (with_reducible exact impl_WalkPlain.mono _ _ _ _)
   | (with_reducible exact laws_wkAhead.mono _ _ _ _ _)
   | (with_reducible exact laws_wkEnds.mono _ _ _ _ _ _)
   | (with_reducible exact laws_wkGrid.mono _ _ _)
   | (with_reducible exact laws_wkInts.mono _ _ _)
   | (with_reducible exact spec_DrawSomeWalks.mono _ _)
   | (with_reducible exact spec_SomeWalks.mono _ _ _ _ _ _)
   | (with_reducible exact LeO.refl _)
   | (with_reducible exact LeO.none _)
   | (with_reducible refine LeO.ite ?_ ?_)
   | (with_reducible refine LeO.bind ?_ (fun _ => ?_))
   | exact ih0 _ _ _ _ _ _ _
   | exact ih1 _ _ _ _ _ _ _
   | exact impl_NearWalk.mono _ _ _ _ _
   | exact impl_WalkPlain.mono _ _ _ _
   | exact laws_wkAhead.mono _ _ _ _ _
   | exact laws_wkEnds.mono _ _ _ _ _ _
   | exact laws_wkGrid.mono _ _ _
   | exact laws_wkInts.mono _ _ _
   | exact spec_DrawSomeWalks.mono _ _
   | exact spec_SomeWalks.mono _ _ _ _ _ _
   | exact LeO.none _
   | refine LeO.ite ?_ ?_
   | refine LeO.bind ?_ (fun _ => ?_)
theorem laws_FnSomeWalks.mono : ∀ a0 k, LeO (laws_FnSomeWalks.f k a0) (laws_FnSomeWalks.f (k + 1) a0) := by
 intro a0 k
 obtain ⟨ih0, ih1⟩ := laws_FnSomeWalks.mono_l k
 unfold laws_FnSomeWalks.f
 repeat' first
   | (with_reducible exact ih0 _ _ _ _ _ _ _)
   | (with_reducible exact ih1 _ _ _ _ _ _ _)
   | (with_reducible exact impl_NearWalk.mono _ _ _ _ _)
   | (with_reducible exact impl_WalkPlain.mono _ _ _ _)
   | (with_reducible exact laws_wkAhead.mono _ _ _ _ _)
   | (with_reducible exact laws_wkEnds.mono _ _ _ _ _ _)
   | (with_reducible exact laws_wkGrid.mono _ _ _)
   | (with_reducible exact laws_wkInts.mono _ _ _)
   | (with_reducible exact spec_DrawSomeWalks.mono _ _)
   | (with_reducible exact spec_SomeWalks.mono _ _ _ _ _ _)
   | (with_reducible exact LeO.refl _)
   | (with_reducible exact LeO.none _)
   | (with_reducible refine LeO.ite ?_ ?_)
   | (with_reducible refine LeO.bind ?_ (fun _ => ?_))
   | exact ih0 _ _ _ _ _ _ _
   | exact ih1 _ _ _ _ _ _ _
   | exact impl_NearWalk.mono _ _ _ _ _
   | exact impl_WalkPlain.mono _ _ _ _
   | exact laws_wkAhead.mono _ _ _ _ _
   | exact laws_wkEnds.mono _ _ _ _ _ _
   | exact laws_wkGrid.mono _ _ _
   | exact laws_wkInts.mono _ _ _
   | exact spec_DrawSomeWalks.mono _ _
   | exact spec_SomeWalks.mono _ _ _ _ _ _
   | exact LeO.none _
   | refine LeO.ite ?_ ?_
   | refine LeO.bind ?_ (fun _ => ?_)
/-- THE ONE PURE STATEMENT of laws_FnSomeWalks: yours. -/
def laws_FnSomeWalks.Pure : Prop := ∀ (l0 : List Int), l0.length ≤ maxLen → l0.length * 1 ≤ 140737488351232 → (∀ x ∈ l0, (Lit.int .u8 x).wf = true) → ∃ k, laws_FnSomeWalks.f k l0 = some true
end Go.Proofs.Ytlgolgfcolnddaa.F
