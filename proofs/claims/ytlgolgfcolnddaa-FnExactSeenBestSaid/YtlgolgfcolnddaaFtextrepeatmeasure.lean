-- Printed by wip/px/px.py of this claim's repository (the kit's printer, extended there). Lean checks it.
import Derived.Test.YtlgolgfcolnddaaFKinds
import Derived.Test.YtlgolgfcolnddaaFbitsMul
import Derived.Test.YtlgolgfcolnddaaFtextcopy
namespace Go.Proofs.Ytlgolgfcolnddaa.F
open Go.RowKit Go.Proofs.YtlgolgfcolnddaaW.PrintWords Go.Proofs.YtlgolgfcolnddaaW.PrintLast Go.Proofs.YtlgolgfcolnddaaW.PrintMore
attribute [local go_sem] max2_int min2_int max_two min_two max_three min_three max_four min_four   -- for this text's walks alone
set_option linter.unusedVariables false
set_option linter.unusedSimpArgs false

/-! ### text repeatmeasure -/
def mcells (x : S114) : List Value := [.int .i64 x.f0, .int .i64 x.f1]
def zcells114 : List Value := [.int .i64 0, .int .i64 0]
theorem info114' : (Try.prog.info? 114).map (fun i => (i.zero, i.size, i.bytes)) = some (some (.agg #[(.int .i64 0), (.int .i64 0)]), 2, 16) := by kernel_rfl
theorem made_part (e : List Value) (m : Nat) : (madeCells #[Value.int .i64 0, .int .i64 0] (m * 2)) = (part e zcells114 m 0).toArray := by
  unfold part zcells114
  apply Array.ext'
  simp only [List.replicate_zero, List.flatten_nil, List.nil_append, Nat.sub_zero]
  induction m with
  | zero => simp [madeCells]
  | succ m ih =>
    have h : (madeCells #[Value.int .i64 0, .int .i64 0] ((m + 1) * 2)).toList = (madeCells #[Value.int .i64 0, .int .i64 0] (m * 2)).toList ++ [.int .i64 0, .int .i64 0] := by
      simp only [madeCells]
      rw [show (m + 1) * 2 = m * 2 + 1 + 1 by omega, Array.range_succ, Array.range_succ]
      simp
    rw [h, ih, flat_add]
    simp
/-- The row that a full block is. -/
theorem full_R {W : World} {B g m : Nat} (x : S114) (ht : W.heap[g]? = some (.cells (part (mcells x) zcells114 m m).toArray 114 (0, 0))) (hB : B ≤ g) (hm : m ≤ 9223372036854775807) :
    Kd.R k114 114 W B (fun _ => True) (.slice (some ⟨g, 0, none⟩) m m) (List.replicate m x) := by
  have hl : (part (mcells x) zcells114 m m).length = m * 2 := part_len _ _ 2 m m rfl rfl (Nat.le_refl _)
  refine ⟨fun _ _ => trivial, part (mcells x) zcells114 m m, ?_, ?_, fun j p hj => ?_⟩
  · rw [List.length_replicate]
    exact ⟨hl, .inr ⟨g, m, _, rfl, hB, ht, Nat.le_refl _, by simp only [maxLen]; omega, by rw [List.size_toArray]; show m * 2 ≤ _; rw [hl]; exact Nat.le_refl _, by show List.take (m * 2) _ = _; rw [← hl]; simp⟩⟩
  · rw [List.length_replicate]; exact hl
  · obtain ⟨hjl, hp⟩ := List.getElem?_eq_some_iff.1 hj
    rw [List.length_replicate] at hjl
    rw [List.getElem_replicate] at hp
    subst hp
    have h1 : ((part (mcells x) zcells114 m m).drop (j * 2)).take 2 = mcells x := by
      unfold part
      rw [Nat.sub_self, List.replicate_zero, List.flatten_nil, List.append_nil]
      obtain ⟨d, rfl⟩ : ∃ d, m = j + (1 + d) := ⟨m - j - 1, by omega⟩
      rw [flat_add, List.drop_left' (by rw [flat_len]; rfl), flat_add]
      exact List.take_left' (by rw [flat_len]; rfl)
    show k114.M W B _ x (((part (mcells x) zcells114 m m).drop (j * 2)).take 2)
    rw [h1]
    exact k114_mkM _ _ _ x
theorem mul_one' (m : Nat) (hm : m ≤ 8) (w : World) : Calls Try.prog 113 #[.int .u64 1, .int .u64 m] w fun e w' => e = .returned (.tuple #[.int .u64 0, .int .u64 m]) ∧ Drawn0 w w' := by
  have h : bits_Mul.f 1 m = some (0, (m : Int)) := by
    rcases m with _ | _ | _ | _ | _ | _ | _ | _ | _ | m <;> first | rfl | omega
  refine (bits_Mul.calls 1 m 0 m w h).mono ?_
  rintro e w' ⟨rfl, hd⟩
  exact ⟨rfl, hd⟩
theorem zero114 : ∀ W : World, (zeroValue 114).run Try.prog W = .ok (.agg #[(.int .i64 0), (.int .i64 0)]) W := fun W => by kernel_rfl
set_option maxHeartbeats 1000000 in
set_option maxRecDepth 100000 in
theorem repeat_any (x : S114) (A0 : Option Addr) (c0 : Nat) (m : Nat) (hm : m ≤ 8) (w : World) (hr0 : Kd.C k114 w A0 [x].length [x]) :
    Calls Try.prog 118 #[.slice A0 1 c0, .int .i64 m] w fun e w' => ∃ v, e = .returned v ∧ Kd.R k114 114 w' w.heap.size (fun _ => True) v (List.replicate m x) ∧ Below w.heap.size w w' := by
  obtain ⟨ad, ea, h0, h1⟩ := at_T114 hr0 0 (by omega) (by simp)
  cases ea
  simp only [Int.toNat_zero, Nat.zero_mul] at h0 h1
  have hx : rd_T114 [x] 0 = x := rfl
  rw [hx] at h0 h1
  clear hr0 hx
  have hsrc : ∀ j v, (mcells x)[j]? = some v → w.cell? (ad.add j) = some v := by
    intro j v hv
    match j, hv with
    | 0, hv => simp [mcells] at hv; subst hv; exact h0
    | 1, hv => simp [mcells] at hv; subst hv; rw [← add_field _ _ 1 (by omega)] at h1; exact h1
    | j + 2, hv => simp [mcells] at hv
  have hu := Try.underlying111
  have hmul := fun w => mul_one' m hm w
  have hmi : (m : Int) ≤ 8 := by omega
  have hmi0 : (0 : Int) ≤ m := by omega
  have hneg : decide ((m : Int) < 0) = false := decide_eq_false (by omega)
  have hbig : decide (9223372036854775807 < (m : Int)) = false := decide_eq_false (by omega)
  have hmk : ∀ W : World, (Instr.makeSlice 111 (.int .i64 (m : Int)) (.int .i64 (m : Int))).run Try.prog W = .ok (.slice (some ⟨W.heap.size, 0, none⟩) m m) (W.alloc (.cells (part (mcells x) zcells114 m 0).toArray 114)) := by
    intro W
    obtain ⟨i0, hi, hz0, hz1, hz2⟩ := info_parts info114'
    have hr := run_make (P := Try.prog) W 111 114 i0 _ Try.underlying111 hi hz0 .i64 .i64 (m : Int) (m : Int) (by omega) (by omega) (by rw [hz2]; omega) (by omega)
    rw [hr, hz1]
    simp only [Int.toNat_natCast, Value.cells]
    rw [made_part (mcells x) m]
  have hs_ : (Try.prog.info? 114).map (·.size) = some 2 := by
    obtain ⟨i0, hi, hz0, hz1, hz2⟩ := info_parts info114'
    simp [hi, hz1]
  have h1c : ∀ v ∈ mcells x, v.oneCell' = true := by intro v hv; simp [mcells] at hv; rcases hv with rfl | rfl <;> rfl
  obtain ⟨k0, hmin⟩ : ∃ k0, Nat.min 1 m = k0 := ⟨_, rfl⟩
  have hk0 : k0 ≤ 1 := by rw [← hmin]; exact Nat.min_le_left _ _
  have hk0m : k0 ≤ m := by rw [← hmin]; exact Nat.min_le_right _ _
  have hk01 : 1 ≤ m → 1 ≤ k0 := fun h => by rw [← hmin]; exact Nat.le_min.2 ⟨Nat.le_refl _, h⟩
  have hfl0 : (List.replicate k0 (mcells x)).flatten.length = k0 * 2 := flat_len _ _
  have hfc : ∀ (j : Nat) (v : Value), (List.replicate k0 (mcells x)).flatten[j]? = some v → (mcells x)[j]? = some v := by
    intro j v hv
    rcases k0 with _ | _ | k0
    · simp at hv
    · simpa using hv
    · omega
  have hf1 : ∀ v ∈ (List.replicate k0 (mcells x)).flatten, v ∈ mcells x := by
    intro v hv
    rw [List.mem_flatten] at hv
    obtain ⟨l, hl, hv⟩ := hv
    rw [List.eq_of_mem_replicate hl] at hv
    exact hv
  have hp0 : (part (mcells x) zcells114 m 0).length = m * 2 := part_len _ _ 2 m 0 rfl rfl (Nat.zero_le _)
  have HC : Aside0 (∀ nd : Nat, ∃ w1, (Builtin.copy_ #[111, 111] 3 #[.slice (some ⟨w.heap.size, 0, none⟩) m m, .slice (some ad) 1 c0]).run Try.prog ((w.drewN nd).alloc (.cells (part (mcells x) zcells114 m 0).toArray 114)) = .ok (.int .i64 k0) w1 ∧ w1.heap[w.heap.size]? = some (.cells (part (mcells x) zcells114 m k0).toArray 114 (0, 0)) ∧ Below w.heap.size w w1) := ⟨fun nd => by
    obtain ⟨w1, hr, hg, hb⟩ := copy_over (P := Try.prog) ((w.drewN nd).alloc (.cells (part (mcells x) zcells114 m 0).toArray 114)) w w.heap.size w.heap.size 111 3 114 2 114 (part (mcells x) zcells114 m 0) (List.replicate k0 (mcells x)).flatten (by have := heap_alloc_new (w.drewN nd) (.cells (part (mcells x) zcells114 m 0).toArray 114); simpa using this) 0 m m ad 1 c0 Try.underlying111 hs_
      (by rw [hmin, hfl0]) (by rw [hp0, hfl0]; omega) (fun j v hv => by have h3 := hsrc j v (hfc j v hv); exact (Below.cell (below_alloc (pw_below_drewN (Below.refl _ w) nd) _) (World.block_lt_of_cell? w _ h3)).trans h3) (fun v hv => h1c v (hf1 v hv)) (below_alloc (pw_below_drewN (Below.refl _ w) nd) _) (Nat.le_refl _)
    refine ⟨w1, ?_, ?_, hb⟩
    · rw [hr, hmin]; rfl
    · rw [hg]
      have := part_next (mcells x) zcells114 2 m 0 k0 rfl rfl (by omega)
      rw [hfl0]
      simpa using this⟩
  have HS := Aside0.mk hs_
  have HP := Aside0.mk h1c
  clear hsrc hs_ h1c hp0 h0 h1 hmin hfl0 hfc hf1
  go_enter Try.func118, Try.ntmps118
  go_wp2_with (go_at_call 113; refine (hmul _).mono ?_; rintro e w' ⟨rfl, hd⟩; obtain ⟨nd, rfl⟩ := hd.out; obtain ⟨w1, hr1, hg1, hb1⟩ := HC.out nd; have HR1 := Aside0.mk hr1; have HG1 := Aside0.mk hg1; have HB1 := Aside0.mk hb1; clear hr1 hg1 hb1 hd HC)
  rw [HR1.out]
  go_wp2
  go_loopg [8] m (fun gg s8 wr => ∃ j : Nat, (1 ≤ m → 1 ≤ j) ∧ j ≤ m ∧ m - j ≤ gg ∧ s8 = .int .i64 j ∧ Aside0 (wr.heap[w.heap.size]? = some (.cells (part (mcells x) zcells114 m j).toArray 114 (0, 0))) ∧ Aside0 (Below w.heap.size w wr))
  case atStart => exact ⟨k0, hk01, hk0m, by omega, rfl, HG1, HB1⟩
  case round =>
    obtain ⟨j, hj1, hjm, hgg, rfl, HG, HB⟩ := hrel
    clear HG1 HB1 HR1 hmk
    by_cases hlt : j < m
    · have hjm' : (j : Int) < (m : Int) := by omega
      have hne : ¬ m = j := by omega
      obtain ⟨k, hk⟩ : ∃ k, k = Nat.min j (m - j) := ⟨_, rfl⟩
      have hkj : k ≤ j := by rw [hk]; exact Nat.min_le_left _ _
      have hkm : j + k ≤ m := by have : k ≤ m - j := by (rw [hk]; exact Nat.min_le_right _ _)
                                 omega
      have hk1 : 1 ≤ k := by rw [hk]; exact Nat.le_min.2 ⟨hj1 (by omega), by omega⟩
      have hpl : (part (mcells x) zcells114 m j).length = m * 2 := part_len _ _ 2 m j rfl rfl hjm
      have hfl : (List.replicate k (mcells x)).flatten.length = k * 2 := flat_len _ _
      obtain ⟨w1, hr1, hg1, hb1⟩ := copy_over (P := Try.prog) wr.drew w w.heap.size w.heap.size 111 3 114 2 114 (part (mcells x) zcells114 m j) (List.replicate k (mcells x)).flatten HG.out (j * 2) (m - j) (m - j) ⟨w.heap.size, 0, none⟩ j m Try.underlying111 HS.out
        (by rw [hfl, hk]) (by rw [hpl, hfl]; omega)
        (fun i v hv => by
          have h2 := blk_cell (w := wr.drew) HG.out i
          rw [add_at, Nat.zero_add, h2]
          rw [← part_take (mcells x) zcells114 2 m j k rfl hkj, List.getElem?_take] at hv
          split at hv
          · simpa using hv
          · cases hv)
        (fun v hv => by
          rw [List.mem_flatten] at hv
          obtain ⟨l, hl, hv⟩ := hv
          rw [List.eq_of_mem_replicate hl] at hv
          exact HP.out v hv) (below_drew HB.out) (Nat.le_refl _)
      rw [hfl, part_next (mcells x) zcells114 2 m j k rfl rfl hkm] at hg1
      rw [← hk] at hr1
      have HR1 := Aside0.mk hr1
      have HG1 := Aside0.mk hg1
      have HB1 := Aside0.mk hb1
      clear hr1 hg1 hb1 hk hpl hfl HG HB
      have hkk : 0 ≤ (k : Int) := by omega
      have hkm' : (j : Int) + (k : Int) ≤ 8 := by omega
      go_wp2
      go_region_law (refine step_copy_run rfl (Operand.tmp 41) (Operand.tmp 44) 111 111 rfl (.slice (some ⟨w.heap.size, j * 2, none⟩) (m - j) (m - j)) (.slice (some ⟨w.heap.size, 0, none⟩) j m) (.int .i64 k) ?hd ?hs w1 HR1.out ?_; (case hd => go_simp); (case hs => go_simp))
      go_wp2
      go_roundg (m - (j + k))
      case measure => omega
      case rel => exact ⟨j + k, fun _ => by omega, hkm, by omega, by rw [show IntKind.i64.wrap ((j : Int) + (k : Int)) = ((j + k : Nat) : Int) from by rw [IntKind.wrap_i64]; omega], HG1, HB1⟩
    · have hjm' : ¬ (j : Int) < (m : Int) := by omega
      have hje : j = m := by omega
      have HJ := Lib.hid hje
      clear hje
      go_wp2
      go_ret
      exact ⟨_, rfl, full_R x (by have := HG.out; rw [HJ.out] at this; exact this) (Nat.le_refl _) (by omega), HB.out⟩

end Go.Proofs.Ytlgolgfcolnddaa.F
