/- The law FnExactSeenBest is true of every input: out of its pure statement and the walk of its function. -/
import Derived.Test.YtlgolgfcolnddaaRows
import Derived.Test.YtlgolgfcolnddaaFlawsFnExactSeenBest
import Derived.Test.YtlgolgfcolnddaaPureFnExactSeenBest
import Derived.Test.YtlgolgfcolnddaaARow
import Derived.WalkKit
import Derived.ProofKit
import Derived.OpenShut
import Derived.ShutString
import Derived.ChangeOld
import Derived.Below
import Derived.SizedLaws
namespace Go.Proofs.Ytlgolgfcolnddaa.fnExactSeenBest
open Go.ChangeShapes Go.WideShapes Go.ChangeAt Go.RowKit Go.Proofs.YtlgolgfcolnddaaW.PrintWords Go.Proofs.Ytlgolgfcolnddaa.F
set_option linter.unusedVariables false
theorem own : ownKnob Try.prog.godebug = none := by kernel_rfl
theorem laidOut : laidOutB Try.prog = true := by kernel_rfl
set_option maxRecDepth 100000 in
theorem lifted (os : Os) (started : os.Started) (H : Type) (enc : TypeId × Value → H) :
    ReturnsInHanded {} Try.checked os 10 .any (Rows.fnExactSeenBestSpec.pre6 enc Try.prog Try.f10 Rows.fnExactSeenBestRow.domain false) (Rows.fnExactSeenBestSpec.post enc Try.prog Try.f10 false true false false) := by
  refine returnsInHanded_of_change_sized (C := Try.checked) own started (by kernel_rfl) Try.func10
    (ChangeSpec.witness6 (enc := enc) (C := Try.checked) false ⟨#[], #[.agg #[.int .i64 0, .slice none 0 0], .slice none 0 0], []⟩ 8 (by kernel_rfl) (by kernel_rfl) (by kernel_rfl) (by kernel_rfl)) ?_
  intro W base args ds gs before hval0 hW hcnd hsz0 _
  have hval : ∀ (j : Nat) t v, Try.f10.params[j]? = some t → args[j]? = some v → Value.okWide Try.prog W .any base t v := hval0
  have hW' := hW
  obtain ⟨p, q, hA0, hV, rfl, hfz, hnd⟩ := hW
  have hA : DataW.TrodAll enc Try.prog W 0 (fun _ => true) true Try.f10.params.toList args.toList ds p := hA0
  obtain ⟨v0, vs0, d0, ds0, p0, q0, hargs, rfl, rfl, h0, r0⟩ := trodAll_cons hA
  obtain ⟨v1, vs1, d1, ds1, p1, q1, rfl, rfl, rfl, h1, r1⟩ := trodAll_cons r0
  obtain ⟨rfl, rfl, rfl⟩ := trodAll_nil r1
  obtain rfl : args = #[v0, v1] := by cases args; simp_all
  obtain ⟨rfl, rfl⟩ := trodVars_none hV
  obtain ⟨cs0, rfl, _⟩ := okWide_struct Try.underlying39 (hval 0 39 v0 rfl rfl)
  have k0 := h0
  have lt0 : ∀ x ∈ p0, x.block < W.heap.size := by obtain ⟨m, hm⟩ := k0; exact DataW.trod_lt m _ _ _ hm
  obtain ⟨fu0, hf0⟩ := h0
  obtain ⟨x0, hK0, g0⟩ := (opens_iso (fun x : S39 => (x.f0, x.f1)) (fun p_ => (⟨p_.1, p_.2⟩ : S39)) (fun _ => rfl) (opens_struct (total := 2) Try.underlying39 (by kernel_rfl) (fits_cons (off' := 1) _ rfl rfl (by kernel_rfl) (opens_int Try.underlying3) (fits_last _ rfl rfl (by kernel_rfl) (opens_slice Try.underlying37 (by kernel_rfl) (opens_iso (fun x : S109 => (x.f0, x.f1, x.f2, x.f3, x.f4)) (fun p_ => (⟨p_.1, p_.2.1, p_.2.2.1, p_.2.2.2.1, p_.2.2.2.2⟩ : S109)) (fun _ => rfl) (opens_struct (total := 5) Try.underlying109 (by kernel_rfl) (fits_cons (off' := 1) _ rfl rfl (by kernel_rfl) (opens_int Try.underlying3) (fits_cons (off' := 2) _ rfl rfl (by kernel_rfl) (opens_int Try.underlying3) (fits_cons (off' := 3) _ rfl rfl (by kernel_rfl) (opens_int Try.underlying3) (fits_cons (off' := 4) _ rfl rfl (by kernel_rfl) (opens_int Try.underlying3) (fits_last _ rfl rfl (by kernel_rfl) (opens_int Try.underlying3))))))))))))) _ _ _ hf0
  obtain ⟨A0_1, c0_1, he0, hl0_1, hC0_1⟩ := k39_open (w := W) (x := x0) hK0
  obtain rfl : cs0 = #[.int .i64 x0.f0, .slice A0_1 x0.f1.length c0_1] := by cases cs0; simpa [Value.cells] using he0
  obtain ⟨va1, vl1, vc1, rfl⟩ := okWide_slice Try.underlying28 (hval 1 28 v1 rfl rfl)
  have k1 := h1
  have lt1 : ∀ x ∈ p1, x.block < W.heap.size := by obtain ⟨m, hm⟩ := k1; exact DataW.trod_lt m _ _ _ hm
  obtain ⟨fu1, hf1⟩ := h1
  obtain ⟨x1, hK1, g1⟩ := (opens_slice Try.underlying28 (by kernel_rfl) (opens_slice Try.underlying33 (by kernel_rfl) (opens_int Try.underlying3))) _ _ _ hf1
  obtain ⟨A1, c1, he1, hl1, hC1⟩ := hK1
  obtain ⟨rfl, rfl, rfl⟩ : va1 = A1 ∧ vl1 = x1.length ∧ vc1 = c1 := by simpa [Value.cells] using he1
  clear hA0 hval0 hsz0
  obtain ⟨k, hP⟩ := Pure.FnExactSeenBest x0.f0 x0.f1 x1 g0.1 g0.2 g1
  refine (F.laws_FnExactSeenBest.calls k x0.f0 _ _ x0.f1 _ _ x1 true W hC0_1 hl0_1 hC1 hl1 hP rfl).mono fun e W' ⟨he, bel⟩ => ?_
  subst he
  exact ⟨_, rfl, _, _, _, [], _, [], hW', trodAll_mk1 (shut_bool Try.underlying4 _), (trodAll_cons_mk (Below.trod laidOut (by kernel_rfl) (of_decide_eq_true (by kernel_rfl)) k0 bel lt0) (trodAll_cons_mk (Below.trod laidOut (by kernel_rfl) (of_decide_eq_true (by kernel_rfl)) k1 bel lt1) trodAll_mk0)), rfl, bel.frame _, fun h => by cases h⟩
theorem over : Rows.fnExactSeenBestRow.holds Try.pinned (OpenSpec.ofChange Rows.fnExactSeenBestSpec) :=
  OpenClaim.holds_of_wide 10 Try.f10 rfl rfl rfl rfl rfl rfl rfl ⟨rfl, rfl, rfl, rfl, rfl⟩ rfl rfl rfl rfl rfl (by kernel_rfl) Try.func10 (by kernel_rfl)
    (of_decide_eq_true (by kernel_rfl)) (by unfold Func.isWrapper; first | (rw [if_pos (by decide +kernel)]; kernel_rfl) | (rw [if_neg (by decide +kernel)]; exact ⟨rfl, rfl⟩))
    (fun os started H enc _ => lifted os started H enc)
theorem proved : Rows.FnExactSeenBestSaid := over
#print axioms proved
end Go.Proofs.Ytlgolgfcolnddaa.fnExactSeenBest
namespace Go.Proofs.Ytlgolgfcolnddaa
/-- The row, under a short name, for the claim. -/
theorem fnExactSeenBest_holds : Rows.FnExactSeenBestSaid := fnExactSeenBest.proved
end Go.Proofs.Ytlgolgfcolnddaa
