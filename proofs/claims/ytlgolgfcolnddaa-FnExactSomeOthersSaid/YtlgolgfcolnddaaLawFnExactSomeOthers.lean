/- The law FnExactSomeOthers is true of every input: out of its pure statement and the walk of its function. -/
import Derived.Test.YtlgolgfcolnddaaRows
import Derived.Test.YtlgolgfcolnddaaFlawsFnExactSomeOthers
import Derived.Test.YtlgolgfcolnddaaPureFnExactSomeOthers
import Derived.Test.YtlgolgfcolnddaaARow
import Derived.WalkKit
import Derived.ProofKit
import Derived.OpenShut
import Derived.ShutString
import Derived.ChangeOld
import Derived.Below
import Derived.SizedLaws
namespace Go.Proofs.Ytlgolgfcolnddaa.fnExactSomeOthers
open Go.ChangeShapes Go.WideShapes Go.ChangeAt Go.RowKit Go.Proofs.YtlgolgfcolnddaaW.PrintWords Go.Proofs.Ytlgolgfcolnddaa.F
set_option linter.unusedVariables false
theorem own : ownKnob Try.prog.godebug = none := by kernel_rfl
theorem laidOut : laidOutB Try.prog = true := by kernel_rfl
set_option maxRecDepth 100000 in
theorem lifted (os : Os) (started : os.Started) (H : Type) (enc : TypeId × Value → H) :
    ReturnsInHanded {} Try.checked os 4 .any (Rows.fnExactSomeOthersSpec.pre6 enc Try.prog Try.f4 Rows.fnExactSomeOthersRow.domain false) (Rows.fnExactSomeOthersSpec.post enc Try.prog Try.f4 false true false false) := by
  refine returnsInHanded_of_change_sized (C := Try.checked) own started (by kernel_rfl) Try.func4
    (ChangeSpec.witness6 (enc := enc) (C := Try.checked) false ⟨#[], #[.agg #[.int .i64 0, .slice none 0 0], .int .i64 0, .int .i64 0, .int .i64 0, .int .i64 0], []⟩ 8 (by kernel_rfl) (by kernel_rfl) (by kernel_rfl) (by kernel_rfl)) ?_
  intro W base args ds gs before hval0 hW hcnd hsz0 _
  have hval : ∀ (j : Nat) t v, Try.f4.params[j]? = some t → args[j]? = some v → Value.okWide Try.prog W .any base t v := hval0
  have hW' := hW
  obtain ⟨p, q, hA0, hV, rfl, hfz, hnd⟩ := hW
  have hA : DataW.TrodAll enc Try.prog W 0 (fun _ => true) true Try.f4.params.toList args.toList ds p := hA0
  obtain ⟨v0, vs0, d0, ds0, p0, q0, hargs, rfl, rfl, h0, r0⟩ := trodAll_cons hA
  obtain ⟨v1, vs1, d1, ds1, p1, q1, rfl, rfl, rfl, h1, r1⟩ := trodAll_cons r0
  obtain ⟨v2, vs2, d2, ds2, p2, q2, rfl, rfl, rfl, h2, r2⟩ := trodAll_cons r1
  obtain ⟨v3, vs3, d3, ds3, p3, q3, rfl, rfl, rfl, h3, r3⟩ := trodAll_cons r2
  obtain ⟨v4, vs4, d4, ds4, p4, q4, rfl, rfl, rfl, h4, r4⟩ := trodAll_cons r3
  obtain ⟨rfl, rfl, rfl⟩ := trodAll_nil r4
  obtain rfl : args = #[v0, v1, v2, v3, v4] := by cases args; simp_all
  obtain ⟨rfl, rfl⟩ := trodVars_none hV
  obtain ⟨cs0, rfl, _⟩ := okWide_struct Try.underlying39 (hval 0 39 v0 rfl rfl)
  have k0 := h0
  have lt0 : ∀ x ∈ p0, x.block < W.heap.size := by obtain ⟨m, hm⟩ := k0; exact DataW.trod_lt m _ _ _ hm
  obtain ⟨fu0, hf0⟩ := h0
  obtain ⟨x0, hK0, g0⟩ := (opens_iso (fun x : S39 => (x.f0, x.f1)) (fun p_ => (⟨p_.1, p_.2⟩ : S39)) (fun _ => rfl) (opens_struct (total := 2) Try.underlying39 (by kernel_rfl) (fits_cons (off' := 1) _ rfl rfl (by kernel_rfl) (opens_int Try.underlying3) (fits_last _ rfl rfl (by kernel_rfl) (opens_slice Try.underlying37 (by kernel_rfl) (opens_iso (fun x : S109 => (x.f0, x.f1, x.f2, x.f3, x.f4)) (fun p_ => (⟨p_.1, p_.2.1, p_.2.2.1, p_.2.2.2.1, p_.2.2.2.2⟩ : S109)) (fun _ => rfl) (opens_struct (total := 5) Try.underlying109 (by kernel_rfl) (fits_cons (off' := 1) _ rfl rfl (by kernel_rfl) (opens_int Try.underlying3) (fits_cons (off' := 2) _ rfl rfl (by kernel_rfl) (opens_int Try.underlying3) (fits_cons (off' := 3) _ rfl rfl (by kernel_rfl) (opens_int Try.underlying3) (fits_cons (off' := 4) _ rfl rfl (by kernel_rfl) (opens_int Try.underlying3) (fits_last _ rfl rfl (by kernel_rfl) (opens_int Try.underlying3))))))))))))) _ _ _ hf0
  obtain ⟨A0_1, c0_1, he0, hl0_1, hC0_1⟩ := k39_open (w := W) (x := x0) hK0
  obtain rfl : cs0 = #[.int .i64 x0.f0, .slice A0_1 x0.f1.length c0_1] := by cases cs0; simpa [Value.cells] using he0
  obtain ⟨a1, rfl, rfl, rfl, w1⟩ := open_int Try.underlying3 (hval 1 3 v1 rfl rfl) h1
  obtain ⟨a2, rfl, rfl, rfl, w2⟩ := open_int Try.underlying3 (hval 2 3 v2 rfl rfl) h2
  obtain ⟨a3, rfl, rfl, rfl, w3⟩ := open_int Try.underlying3 (hval 3 3 v3 rfl rfl) h3
  obtain ⟨a4, rfl, rfl, rfl, w4⟩ := open_int Try.underlying3 (hval 4 3 v4 rfl rfl) h4
  clear hA0 hval0 hsz0
  obtain ⟨k, hP⟩ := Pure.FnExactSomeOthers x0.f0 x0.f1 a1 a2 a3 a4 g0.1 g0.2 w1 w2 w3 w4
  refine (F.laws_FnExactSomeOthers.calls k x0.f0 _ _ x0.f1 a1 a2 a3 a4 true W hC0_1 hl0_1 hP rfl).mono fun e W' ⟨he, bel⟩ => ?_
  subst he
  exact ⟨_, rfl, _, _, _, [], _, [], hW', trodAll_mk1 (shut_bool Try.underlying4 _), (trodAll_cons_mk (Below.trod laidOut (by kernel_rfl) (of_decide_eq_true (by kernel_rfl)) k0 bel lt0) (trodAll_cons_mk (shut_int Try.underlying3 w1) (trodAll_cons_mk (shut_int Try.underlying3 w2) (trodAll_cons_mk (shut_int Try.underlying3 w3) (trodAll_cons_mk (shut_int Try.underlying3 w4) trodAll_mk0))))), rfl, bel.frame _, fun h => by cases h⟩
theorem over : Rows.fnExactSomeOthersRow.holds Try.pinned (OpenSpec.ofChange Rows.fnExactSomeOthersSpec) :=
  OpenClaim.holds_of_wide 4 Try.f4 rfl rfl rfl rfl rfl rfl rfl ⟨rfl, rfl, rfl, rfl, rfl⟩ rfl rfl rfl rfl rfl (by kernel_rfl) Try.func4 (by kernel_rfl)
    (of_decide_eq_true (by kernel_rfl)) (by unfold Func.isWrapper; first | (rw [if_pos (by decide +kernel)]; kernel_rfl) | (rw [if_neg (by decide +kernel)]; exact ⟨rfl, rfl⟩))
    (fun os started H enc _ => lifted os started H enc)
theorem proved : Rows.FnExactSomeOthersSaid := over
#print axioms proved
end Go.Proofs.Ytlgolgfcolnddaa.fnExactSomeOthers
namespace Go.Proofs.Ytlgolgfcolnddaa
/-- The row, under a short name, for the claim. -/
theorem fnExactSomeOthers_holds : Rows.FnExactSomeOthersSaid := fnExactSomeOthers.proved
end Go.Proofs.Ytlgolgfcolnddaa
