-- Printed by wip/px/px.py of this claim's repository (the kit's printer, extended there). Lean checks it.
import Derived.Test.YtbappbbljncdeaaFKinds
import Derived.Test.YtbappbbljncdeaaFlawsMarkInt
import Derived.Test.YtbappbbljncdeaaFlawsmarkNewsS
namespace Go.Proofs.Ytbappbbljncdeaa.F
open Go.RowKit Go.Proofs.YtbappbbljncdeaaW.PrintWords Go.Proofs.YtbappbbljncdeaaW.PrintLast Go.Proofs.YtbappbbljncdeaaW.PrintMore
attribute [local go_sem] max2_int min2_int max_two min_two max_three min_three max_four min_four   -- for this text's walks alone
set_option linter.unusedVariables false
set_option linter.unusedSimpArgs false

/-! ### laws_markLive: function 45 -/
def laws_markLive.f (k : Nat) (a0_0 : Int) (l0_1 : List (S100)) (l0_2 : List (S70)) (a1 : Int) : Option (Int × (List (S100)) × (List (S70))) := (laws_markNet.f k a0_0 l0_1 a1).bind fun bt1014 => ((laws_markNewsS.f k l0_2 bt1014.1).bind fun bt1016 => (some (bt1016.1, bt1014.2, bt1016.2)))
theorem laws_markLive.mono : ∀ a0 a1 a2 a3 k, LeO (laws_markLive.f k a0 a1 a2 a3) (laws_markLive.f (k + 1) a0 a1 a2 a3) := by
 intro a0 a1 a2 a3 k
 unfold laws_markLive.f
 repeat' first | (with_reducible exact laws_markNet.mono _ _ _ _) | (with_reducible exact laws_markNewsS.mono _ _ _) | (with_reducible exact LeO.refl _) | (with_reducible refine LeO.bind ?_ (fun _ => ?_))
set_option maxHeartbeats 8000000 in
set_option maxRecDepth 100000 in
theorem laws_markLive.calls (k : Nat) (a0_0 : Int) (P0_1_ : Nat → Prop) (u9000_ : Value) (l0_1 : List (S100)) (P0_2_ : Nat → Prop) (u9001_ : Value) (l0_2 : List (S70)) (a1 : Int) (r1 : Int) (r2 : List (S100)) (r3 : List (S70)) (w0 w : World) (hB : Below w0.heap.size w0 w) (ho0_1 : Kd.R k100 100 w w0.heap.size P0_1_ u9000_ l0_1) (ho0_2 : Kd.R k70 70 w w0.heap.size P0_2_ u9001_ l0_2) (h : laws_markLive.f k a0_0 l0_1 l0_2 a1 = some (r1, r2, r3)) :
  Calls Try.prog 45 #[.agg #[.int .i64 a0_0, u9000_, u9001_], .int .i64 a1] w fun e w' => e = .returned (.int .i64 r1) ∧ Kd.R k100 100 w' w0.heap.size (fun k_ => ((P0_1_ k_ ∨ P0_2_ k_) ∨ w.heap.size ≤ k_)) u9000_ r2 ∧ Kd.R k70 70 w' w0.heap.size (fun k_ => ((P0_1_ k_ ∨ P0_2_ k_) ∨ w.heap.size ≤ k_)) u9001_ r3 ∧ Below w0.heap.size w0 w' ∧ Kept w w' (fun k_ => P0_1_ k_ ∨ P0_2_ k_) := by
 have hu49 := Try.underlying49
 have hu30 := Try.underlying30
 have HO0_1 := ak (show Kd.R k100 100 w w0.heap.size (fun k_ => ((P0_1_ k_ ∨ P0_2_ k_) ∨ w.heap.size ≤ k_)) u9000_ l0_1 from Kd.R_mono ho0_1 (fun k_ hk => (.inl (.inl hk))))
 have HO0_2 := ak (show Kd.R k70 70 w w0.heap.size (fun k_ => ((P0_1_ k_ ∨ P0_2_ k_) ∨ w.heap.size ≤ k_)) u9001_ l0_2 from Kd.R_mono ho0_2 (fun k_ hk => (.inl (.inr hk))))
 have HK := ak (Kept.refl w (fun k_ => P0_1_ k_ ∨ P0_2_ k_))
 have HW0 := ak hB.size
 have HB := ak hB
 clear hB
 have H : ((laws_markNet.f k a0_0 l0_1 a1).bind fun bt1014 => ((laws_markNewsS.f k l0_2 bt1014.1).bind fun bt1016 => (some (bt1016.1, bt1014.2, bt1016.2)))) = some (r1, r2, r3) := h
 clear h
 replace H := Option.bind_eq_some_iff.mp H
 obtain ⟨⟨t1014, t1015⟩, A30, H⟩ := H
 have A3 := ak A30
 clear A30
 replace H := Option.bind_eq_some_iff.mp H
 obtain ⟨⟨t1016, t1017⟩, A40, H⟩ := H
 have A4 := ak A40
 clear A40
 simp only [Option.some.injEq, Prod.mk.injEq] at H
 obtain ⟨rfl, rfl, rfl⟩ := H
 obtain ⟨Ao5, co5, eo5⟩ := Kd.R_slice HO0_1.out
 subst eo5
 obtain ⟨Ao6, co6, eo6⟩ := Kd.R_slice HO0_2.out
 subst eo6
 go_enter Try.func45, Try.ntmps45
 go_wp2_with (first | ((with_reducible refine gate_dst (N := 2) rfl ?_); refine box_event ?hg (N := 2) ?hd (cs := #[.int .i64 a0_0, .slice Ao5 l0_1.length co5, .slice Ao6 l0_2.length co6]) (t := 49) ?hr ?_; (case hd => rfl); (case hg => rfl); (case hr => (go_simp; done)); intro gb1013 hg w7 hbox hb; replace HO0_1 := ak (Kd.R_below (rk HO0_1) hb); replace HO0_2 := ak (Kd.R_below (rk HO0_2) hb); have BK1013 := ak (hbox); have GW1013 := ak ((by rw [hg]; exact (by exact HK.out.1) : w.heap.size ≤ gb1013)); replace HK := ak (Kept.below (S := (fun k_ => P0_1_ k_ ∨ P0_2_ k_)) (by repeat ((with_reducible exact HK.out))) hb); have GE1013 := ak ((by rw [hg]; exact (below_size (bl HB)) : w0.heap.size ≤ gb1013)); replace HB := ak (below_step (bl HB) hb); clear hb hbox hg; have hcz8_0 := bc w7 BK1013 0 (.int .i64 a0_0) rfl; have hcz8_1 := bc w7 BK1013 1 (.slice Ao5 l0_1.length co5) rfl; have hcz8_2 := bc w7 BK1013 2 (.slice Ao6 l0_2.length co6) rfl; have hfz8_0 := fz BK1013 0; have hfz8_1 := fz BK1013 1; have hfz8_2 := fz BK1013 2) | ((with_reducible refine gate_callee (f := 21) rfl ?_); refine goesL_ (some 8) rfl rfl Try.func21 (by kernel_rfl) rfl #[.agg #[.int .i64 a0_0, .slice Ao5 l0_1.length co5], .int .i64 a1] rfl (by (try simp only [List.map_toArray, List.map_cons, List.map_nil]); rfl) ?_; (with_reducible refine (laws_markNet.calls k a0_0 (fun k_ => some k_ = (.slice Ao5 l0_1.length co5 : Value).ownBlock) (.slice Ao5 l0_1.length co5) l0_1 a1 t1014 t1015 w0 _ ?side1 ?side2 A3.out).mono ?_); (case side1 => repeat ((with_reducible exact HB.out))); (case side2 => exact Kd.R_tight rfl HO0_1.out); rintro e w9 ⟨rfl, hy0, hb, hkp⟩; refine ⟨_, rfl, ?_⟩; replace HO0_2 := ak (Kd.R_mono (ok' := fun k_ => ((P0_1_ k_ ∨ P0_2_ k_) ∨ w.heap.size ≤ k_)) (Kd.R_keptB ((Kd.R_apart' HO0_2.out (Kd.R_typed HO0_1.out) (by decide))) hkp (fun k_ hk_ hs_ => (hk_.2) hs_)) (fun k_ hk_ => hk_.1.1)); replace BK1013 := ak (blk_kept (bk BK1013) hkp (fun hs_ => (fun e_ => (Kd.R_ne HO0_1.out BK1013.out (by decide)) e_) hs_)); replace HK := ak (Kept.then_ (S := (fun k_ => P0_1_ k_ ∨ P0_2_ k_)) (by repeat ((with_reducible exact HK.out))) hkp (fun k_ hs_ => (fun e_ => (HO0_1.out.1 k_ e_.symm)) hs_)); replace HO0_1 := ak (Kd.R_reok rfl hy0 (fun k_ e_ => HO0_1.out.1 k_ e_)); replace HB := ak (hb); (try clear hb); (try clear hkp); (try clear hy0); have hcz10_0 := bc w9 BK1013 0 (.int .i64 a0_0) rfl; have hcz10_1 := bc w9 BK1013 1 (.slice Ao5 l0_1.length co5) rfl; have hcz10_2 := bc w9 BK1013 2 (.slice Ao6 l0_2.length co6) rfl; have hfz10_0 := fz BK1013 0; have hfz10_1 := fz BK1013 1; have hfz10_2 := fz BK1013 2) | ((with_reducible refine gate_callee (f := 103) rfl ?_); refine goesL_ (some 12) rfl rfl Try.func103 (by kernel_rfl) rfl #[.slice Ao6 l0_2.length co6, .int .i64 t1014] rfl (by (try simp only [List.map_toArray, List.map_cons, List.map_nil]); rfl) ?_; (with_reducible refine (laws_markNewsS.calls k (fun k_ => some k_ = (.slice Ao6 l0_2.length co6 : Value).ownBlock) (.slice Ao6 l0_2.length co6) l0_2 t1014 t1016 t1017 w0 _ ?side1 ?side2 A4.out).mono ?_); (case side1 => repeat ((with_reducible exact HB.out))); (case side2 => exact Kd.R_tight rfl HO0_2.out); rintro e w11 ⟨rfl, hy0, hb, hkp⟩; refine ⟨_, rfl, ?_⟩; replace HO0_1 := ak (Kd.R_mono (ok' := fun k_ => ((P0_1_ k_ ∨ P0_2_ k_) ∨ w.heap.size ≤ k_)) (Kd.R_keptB ((Kd.R_apart' HO0_1.out (Kd.R_typed HO0_2.out) (by decide))) hkp (fun k_ hk_ hs_ => (hk_.2) hs_)) (fun k_ hk_ => hk_.1.1)); replace BK1013 := ak (blk_kept (bk BK1013) hkp (fun hs_ => (fun e_ => (Kd.R_ne HO0_2.out BK1013.out (by decide)) e_) hs_)); replace HK := ak (Kept.then_ (S := (fun k_ => P0_1_ k_ ∨ P0_2_ k_)) (by repeat ((with_reducible exact HK.out))) hkp (fun k_ hs_ => (fun e_ => (HO0_2.out.1 k_ e_.symm)) hs_)); replace HO0_2 := ak (Kd.R_reok rfl hy0 (fun k_ e_ => HO0_2.out.1 k_ e_)); replace HB := ak (hb); (try clear hb); (try clear hkp); (try clear hy0)))
 go_ret
 exact ⟨by rfl, rk HO0_1, rk HO0_2, bl1 HB GE1013, by repeat ((with_reducible exact HK.out))⟩

end Go.Proofs.Ytbappbbljncdeaa.F
