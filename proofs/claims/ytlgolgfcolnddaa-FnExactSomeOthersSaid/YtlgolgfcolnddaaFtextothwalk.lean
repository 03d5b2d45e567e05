-- Printed by wip/px/px.py of this claim's repository (the kit's printer, extended there). Lean checks it.
import Derived.Test.YtlgolgfcolnddaaFKinds
import Derived.Deep.QuietTactic
import Derived.Test.YtlgolgfcolnddaaFimplwithin
import Derived.Test.YtlgolgfcolnddaaFtextsomecmp
import Derived.Test.YtlgolgfcolnddaaFtextsomewalks
import Derived.Test.YtlgolgfcolnddaaFtextrowfunc
import Derived.Test.YtlgolgfcolnddaaFtextothclose
import Derived.Test.YtlgolgfcolnddaaFtextothpick
namespace Go.Proofs.Ytlgolgfcolnddaa.F
open Go.RowKit Go.Proofs.YtlgolgfcolnddaaW.PrintWords Go.Proofs.YtlgolgfcolnddaaW.PrintLast Go.Proofs.YtlgolgfcolnddaaW.PrintMore
attribute [local go_sem] max2_int min2_int max_two min_two max_three min_three max_four min_four   -- for this text's walks alone
set_option linter.unusedVariables false
set_option linter.unusedSimpArgs false

/-! ### text othwalk -/
/-- Is a walk told: it is not too long, and shares not too much with any that is told. -/
def othOk (l : List S58) (longer share first : Int) (out : List (List Int)) (x : List Int) : Bool := decide (wrap64 (wcost l x 0 * 100) ≤ wrap64 (first * wrap64 (100 + longer))) && !(out.any (alikeB l x first share))
def othL (l : List S58) (longer share first : Int) (ws : List (List Int)) : List (List Int) := ws.foldl (fun out x => if othOk l longer share first out x = true then out ++ [x] else out) []
/-- The best walk, and others. -/
def soF (n : Int) (l : List S58) (a b longer share : Int) : Option (List (List Int)) := (impl_within.f longer 0 200).bind fun t => if t = true then (impl_within.f share 0 100).bind fun t2 => if t2 = true then (swF n l a b 6).bind fun all => if (all.all fun x => x.all fun k => decide (0 ≤ k ∧ k < (l.length : Int))) = true ∧ all.length ≤ 1000 then some (othL l longer share (wcost l (all.getD 0 []) 0) all) else none else some [] else some []
structure Picks (all : List (List Int)) (i : Nat) (ids : List Nat) (out : List (List Int)) : Prop where
  lt : ∀ k ∈ ids, k < i
  le : ids.length ≤ i
  nd : ids.Nodup
  eq : ids.map (fun k => all.getD k []) = out
theorem Picks.skip {all : List (List Int)} {i : Nat} {ids : List Nat} {out : List (List Int)} (h : Picks all i ids out) : Picks all (i + 1) ids out := ⟨fun k hk => by have := h.lt k hk; omega, Nat.le_succ_of_le h.le, h.nd, h.eq⟩
theorem Picks.take {all : List (List Int)} {i : Nat} {ids : List Nat} {out : List (List Int)} (h : Picks all i ids out) : Picks all (i + 1) (ids ++ [i]) (out ++ [all.getD i []]) :=
  ⟨fun k hk => by
    rw [List.mem_append, List.mem_singleton] at hk
    rcases hk with hk | hk
    · have := h.lt k hk; omega
    · omega, by rw [List.length_append, List.length_singleton]; exact Nat.succ_le_succ h.le, List.nodup_append.2 ⟨h.nd, by simp, fun a ha b hb => by have := h.lt a ha; rw [List.mem_singleton] at hb; omega⟩, by rw [List.map_append, h.eq]; rfl⟩
theorem othL_take (l : List S58) (longer share first : Int) (ws : List (List Int)) (i : Nat) (h : i < ws.length) : othL l longer share first (ws.take (i + 1)) = if othOk l longer share first (othL l longer share first (ws.take i)) ws[i] = true then othL l longer share first (ws.take i) ++ [ws[i]] else othL l longer share first (ws.take i) := by
  unfold othL
  rw [List.take_succ_eq_append_getElem h, List.foldl_append]
  rfl
set_option maxHeartbeats 4000000 in
set_option maxRecDepth 100000 in
theorem someOthers_any (n : Int) (A0 : Option Addr) (c0 : Nat) (l : List S58) (a b longer share : Int) (r : List (List Int)) (w : World) (hr0 : Kd.C k58 w A0 l.length l) (hc0 : l.length ≤ c0) (h : soF n l a b longer share = some r) :
    Calls Try.prog 12 #[.agg #[.int .i64 n, .slice A0 l.length c0], .int .i64 a, .int .i64 b, .int .i64 longer, .int .i64 share] w fun e w' => ∃ v0_ : Value, e = .returned v0_ ∧ Kd.S (Kd.slice 3 (Kd.int .i64)) 33 w' w.heap.size (fun _ => True) v0_ r ∧ Below w.heap.size w w' := by
  have hu := Try.underlying25
  unfold soF at h
  replace h := Option.bind_eq_some_iff.mp h
  obtain ⟨t, ht, h⟩ := h
  obtain ⟨WA, hWA⟩ : ∃ WA, WA = (w.alloc (.cells #[.int .i64 n, .slice A0 l.length c0] 25)).alloc (.cells #[.int .i64 share] 3) := ⟨_, rfl⟩
  have bA : Below w.heap.size w WA := by rw [hWA]; exact below_alloc (below_alloc (Below.refl _ _) _) _
  have sA : WA.heap.size = w.heap.size + 1 + 1 := by rw [hWA]; simp
  have f1 : WA.heap[w.heap.size]? = some (.cells #[.int .i64 n, .slice A0 l.length c0] 25 (0, 0)) := by rw [hWA]; exact blk_alloc (blk_new w _) _
  have f2 : WA.heap[w.heap.size + 1]? = some (.cells #[.int .i64 share] 3 (0, 0)) := by rw [hWA]; have := heap_alloc_new (w.alloc (.cells #[.int .i64 n, .slice A0 l.length c0] 25)) (.cells #[.int .i64 share] 3); simpa using this
  have WI := Aside0.mk (fun (x c : Int) (t : Bool) (h : impl_within.f x 0 c = some t) (W : World) => impl_within.calls x 0 c t W h)
  have F := Aside0.mk (fun (w1 : World) (hb : Below WA.heap.size WA w1) => (⟨(hb.block _ (blk_lt f1)).trans f1, (hb.block _ (blk_lt f2)).trans f2⟩ : w1.heap[w.heap.size]? = some (.cells #[.int .i64 n, .slice A0 l.length c0] 25 (0, 0)) ∧ w1.heap[w.heap.size + 1]? = some (.cells #[.int .i64 share] 3 (0, 0))))
  have y0 : WA.cell? ⟨w.heap.size, 0, none⟩ = some (.int .i64 n) := (blk_cell f1 0).trans rfl
  have y1 : WA.cell? ⟨w.heap.size, 1, none⟩ = some (.slice A0 l.length c0) := (blk_cell f1 1).trans rfl
  have y2 : WA.cell? ⟨w.heap.size + 1, 0, none⟩ = some (.int .i64 share) := (blk_cell f2 0).trans rfl
  have HA := Aside0.mk bA
  have HR := Aside0.mk hr0
  have W1 := Aside0.mk (fun W => WI.out longer 200 t ht W)
  clear f1 f2 bA hr0 ht
  cases t with
  | false =>
    rw [if_neg Bool.false_ne_true] at h
    obtain rfl := Option.some.inj h
    go_enter Try.func12, Try.ntmps12
    go_wp2_with (first
      | (rw [← hWA]; clear hWA; go_at_call 48; refine (W1.out _).mono ?_; rintro e w' ⟨rfl, ⟨nd, rfl⟩⟩))
    go_ret
    exact ⟨_, rfl, Kd.S_nil _ _ _ _ _, HA.out.trans (pw_below_drewN (Below.refl _ _) _)⟩
  | true =>
    rw [if_pos rfl] at h
    replace h := Option.bind_eq_some_iff.mp h
    obtain ⟨t2, ht2, h⟩ := h
    have W2 := Aside0.mk (fun W => WI.out share 100 t2 ht2 W)
    clear ht2
    cases t2 with
    | false =>
      rw [if_neg Bool.false_ne_true] at h
      obtain rfl := Option.some.inj h
      go_enter Try.func12, Try.ntmps12
      go_wp2_with (first
        | (rw [← hWA]; clear hWA; go_at_call 48; refine (W1.out _).mono ?_; rintro e w' ⟨rfl, ⟨nd, rfl⟩⟩)
        | (go_at_call 48; refine (W2.out _).mono ?_; rintro e w' ⟨rfl, ⟨nd2, rfl⟩⟩))
      go_ret
      exact ⟨_, rfl, Kd.S_nil _ _ _ _ _, HA.out.trans (pw_below_drewN (Below.refl _ _) _)⟩
    | true =>
      rw [if_pos rfl] at h
      replace h := Option.bind_eq_some_iff.mp h
      obtain ⟨all, hall, h⟩ := h
      by_cases hok : (all.all fun x => x.all fun k => decide (0 ≤ k ∧ k < (l.length : Int))) = true ∧ all.length ≤ 1000
      rotate_left
      · rw [if_neg hok] at h; cases h
      rw [if_pos hok] at h
      have HE := Aside0.mk (Option.some.inj h)
      obtain ⟨hin, hlen⟩ := hok
      have HIN := Aside0.mk (fun (x : List Int) (hx : x ∈ all) (k : Int) (hk : k ∈ x) => of_decide_eq_true (List.all_eq_true.1 (List.all_eq_true.1 hin x hx) k hk))
      have SW := Aside0.mk (fun (W : World) (hb : Below w.heap.size w W) => someWalks_any n A0 c0 l a b 6 all W (Kd.C_below HR.out hb) hc0 hall)
      clear h hin hall
      generalize hfc : wcost l (all.getD 0 []) 0 = fc at HE
      have HF := Aside0.mk hfc
      clear hfc
      go_enter Try.func12, Try.ntmps12
      go_wp2_with (first
        | (rw [← hWA]; clear hWA; go_at_call 48; refine (W1.out _).mono ?_; rintro e w' ⟨rfl, ⟨nd, rfl⟩⟩)
        | (go_at_call 48; refine (W2.out _).mono ?_; rintro e w' ⟨rfl, ⟨nd2, rfl⟩⟩; have HD := Aside0.mk (pw_below_drewN (Below.refl WA.heap.size WA) (nd + nd2)); have HD2 := Aside0.mk (HA.out.trans (HD.out.mono HA.out.size)))
        | (go_at_call 15; refine (SW.out _ HD2.out).mono ?_; rintro e w3 ⟨v3, rfl, hs3, hb3⟩; have HB3 := Aside0.mk (HD.out.trans (hb3.mono HD.out.size)); obtain ⟨f, enc, h1, hG⟩ := grid_open hs3; obtain ⟨Aa, ca, rfl, hca⟩ := hG.len; have HG := Aside0.mk hG; have LE3 := Aside0.mk hb3.size; clear hs3 hb3 hG)
        | ((with_reducible refine gate_dst (N := 31) rfl ?_); refine Kd.R_make0 (Kd.scalar enc h1) (w0 := w3) w3.heap.size 33 rfl (N := 31) rfl 28 _ _ rfl (all.length : Int) rfl rfl Try.underlying28 (.slice none 0 0) 24 info33 (by decide) (ok := fun k => w3.heap.size ≤ k) (Nat.le_refl _) (by omega) (by omega) (Below.refl _ _) (Nat.le_refl _) ?_; intro vo w4 ho hb4 _ _; have HO := Aside0.mk ho; have HB4 := Aside0.mk hb4; clear ho hb4))
      clear y0 y1 y2 sA W1 W2 SW WI
      go_loopg [12, 34] all.length (fun kx s12 s34 wr => ∃ (i : Nat) (ids : List Nat), s34 = .int .i64 (i : Int) ∧ i ≤ all.length ∧ all.length - i ≤ kx ∧ Aside0 (Below w3.heap.size w3 wr) ∧ Aside0 ((Kd.scalar enc h1).R 33 wr w3.heap.size (fun k => w3.heap.size ≤ k) s12 ids) ∧ Aside0 (Picks all i ids (othL l longer share fc (all.take i))))
      case atStart => exact ⟨0, [], rfl, Nat.zero_le _, by omega, HB4, HO, ⟨⟨by simp, by simp, by simp, rfl⟩⟩⟩
      case round =>
        clear HO HB4
        obtain ⟨i, ids, rfl, hi, hg, HB, HO, HP⟩ := hrel
        by_cases hlt : i < all.length
        · have hltz : (i : Int) < (all.length : Int) := by omega
          have z0 : (0 : Int) ≤ (i : Int) := by omega
          obtain ⟨⟨g, c, e, hgc⟩, v, hv, hRx⟩ := HG.out.below HB.out i all[i] (by simp [hlt])
          injection e with e1 e2 e3
          subst e1
          subst e3
          obtain ⟨Ax, cx, rfl, hcx, hCx⟩ := Kd.R_reads hRx
          injection hv with hv
          obtain ⟨⟨g', c', e', hg0⟩, v', hv', hRy⟩ := HG.out.below HB.out 0 all[0] (by simp)
          injection e' with e1 e2 e3
          injection e1 with e1
          injection e1 with e1
          subst e1
          subst e3
          obtain ⟨Ay, cy, rfl, hcy, hCy⟩ := Kd.R_reads hRy
          injection hv' with hv'
          rw [hv] at hgc
          rw [hv'] at hg0
          obtain ⟨Ao, co, rfl, hco, _⟩ := Kd.R_reads HO.out
          have HV := Aside0.mk hv
          have HXC := Aside0.mk hCx
          have HYC := Aside0.mk hCy
          have HXI := Aside0.mk (HIN.out all[i] (List.getElem_mem hlt))
          have HYI := Aside0.mk (HIN.out all[0] (List.getElem_mem (by omega)))
          have HFY := Aside0.mk (by have := HF.out; rwa [show all.getD 0 [] = all[0] by simp [show 0 < all.length by omega]] at this : wcost l all[0] 0 = fc)
          have HT := Aside0.mk (othL_take l longer share fc all i hlt)
          have HGI := Aside0.mk (by simp [hlt] : all.getD i [] = all[i])
          clear hv hv' e2 hRx hRy hCx hCy
          generalize all[i] = x at *
          generalize all[0] = y at *
          go_wp2
          obtain ⟨V, hV⟩ : ∃ V, V = wr.alloc (.cells #[.slice Ax x.length cx] 33) := ⟨_, rfl⟩
          rw [← hV]
          have bV : Below wr.heap.size wr V := by rw [hV]; exact below_alloc (Below.refl _ _) _
          have bw : V.heap[wr.heap.size]? = some (.cells #[.slice Ax x.length cx] 33 (0, 0)) := by rw [hV]; exact blk_new wr _
          have b3V : Below w3.heap.size w3 V := HB.out.trans (bV.mono HB.out.size)
          have bAV : Below WA.heap.size WA V := HB3.out.trans (b3V.mono HB3.out.size)
          obtain ⟨fn, fs⟩ := F.out V bAV
          have g0V : V.cell? ⟨g, 0, none⟩ = some (.slice Ay y.length cy) := (bV.cell (World.block_lt_of_cell? wr _ hg0)).trans hg0
          have XF := Aside0.mk (fun (w' : World) (hb : Below V.heap.size V w') => (⟨(blk_cell ((hb.block _ (blk_lt fn)).trans fn) 0).trans rfl, (blk_cell ((hb.block _ (blk_lt fn)).trans fn) 1).trans rfl, (hb.cell (World.block_lt_of_cell? V _ g0V)).trans g0V⟩ : w'.cell? ⟨w.heap.size, 0, none⟩ = some (.int .i64 n) ∧ w'.cell? ⟨w.heap.size, 1, none⟩ = some (.slice A0 l.length c0) ∧ w'.cell? ⟨g, 0, none⟩ = some (.slice Ay y.length cy)))
          have CO := Aside0.mk (fun (Az : Option Addr) (cz : Nat) (z : List Int) (w' : World) (hb : Below V.heap.size V w') (hz : Kd.C (Kd.int .i64) wr Az z.length z) (hzi : ∀ k ∈ z, 0 ≤ k ∧ k < (l.length : Int)) => (costS_any n A0 c0 l Az cz z w' (Kd.C_below HR.out (HA.out.trans ((bAV.trans (hb.mono bAV.size)).mono HA.out.size))) (Kd.C_below hz (bV.trans (hb.mono bV.size))) hzi).mono (R' := fun e w'' => e = .returned (.int .i64 (wcost l z 0)) ∧ Below w'.heap.size w' w'') fun e w'' h => ⟨h.1, by rw [h.2]; exact below_alloc (Below.refl _ _) _⟩)
          have C1 := Aside0.mk (fun (w' : World) (hb : Below V.heap.size V w') => CO.out Ay cy y w' hb HYC.out HYI.out)
          rw [HFY.out] at C1
          have h0l : 0 < all.length := by omega
          have HBV := Aside0.mk bV
          have HB3V := Aside0.mk b3V
          have HFN := Aside0.mk fn
          have HFS := Aside0.mk fs
          have HBW := Aside0.mk bw
          clear hV bw b3V bAV fn fs g0V bV hgc hg0
          refine start_ (n := 7) (S := fun w' => Below V.heap.size V w') (ds := []) (ms 7 0) (by kernel_rfl) rfl (by kernel_rfl) (below_drew (Below.refl _ _)) (fun hHeld => ?_)
          generalize V.drew = V1 at hHeld ⊢
          refine take_ (i := 0) (N := some 38) (v := ?_) (a' := ?_) (ms 7 1) rfl rfl (by kernel_rfl) (fun _ _ _ h => h) (Or.inl ⟨by rfl, ?_⟩) hHeld ?_ ?_
          rotate_left
          · intro w' hS
            obtain ⟨s0, s1, s2⟩ := XF.out w' hS
            go_simp
            with_reducible rfl
          rotate_left
          · simp only [SX]
            rfl
          refine take_ (i := 1) (N := some 39) (v := ?_) (a' := ?_) (ms 7 3) rfl rfl (by kernel_rfl) (fun _ _ _ h => h) (Or.inl ⟨by rfl, ?_⟩) hHeld ?_ ?_
          rotate_left
          · intro w' hS
            go_simp
            with_reducible rfl
          rotate_left
          · simp only [SX]
            rfl
          refine take_ (i := 2) (N := some 40) (v := ?_) (a' := ?_) (ms 7 7) rfl rfl (by kernel_rfl) (fun _ _ _ h => h) (Or.inl ⟨by rfl, ?_⟩) hHeld ?_ ?_
          rotate_left
          · intro w' hS
            go_simp
            with_reducible rfl
          rotate_left
          · simp only [SX]
            rfl
          refine take_ (i := 3) (N := some 41) (v := ?_) (a' := ?_) (ms 7 15) rfl rfl (by kernel_rfl) (fun _ _ _ h => h) (Or.inl ⟨by rfl, ?_⟩) hHeld ?_ ?_
          rotate_left
          · intro w' hS
            obtain ⟨s0, s1, s2⟩ := XF.out w' hS
            go_simp
            with_reducible rfl
          rotate_left
          · simp only [SX]
            rfl
          refine join_ (σ := Nat) 1 (ms 7 63) (fun gb => [(42, .int .i64 fc), (15, .pointer (some ⟨gb, 0, none⟩))]) (fun gb w' => Below V.heap.size V w' ∧ V.heap.size ≤ gb ∧ ∃ z, w'.heap[gb]? = some (.cells #[.int .i64 z] 3 (0, 0))) (fun gb w5 hF => ?_) (fun hcont => ?_)
          rotate_left
          · refine two_ (i := 4) (j := 5) (ms 7 31) (ms 7 47) rfl rfl rfl rfl (by kernel_rfl) (by decide) (by decide) (fun K hK => ?_) (fun K hK => ?_)
            · refine goes_ Try.func49 (by kernel_rfl) rfl #[.agg #[.int .i64 n, .slice A0 l.length c0], .slice Ay y.length cy] (by rfl) rfl rfl (by (try simp only [List.map_toArray, List.map_cons, List.map_nil]); rfl) ?_
              refine (C1.out _ hHeld).mono ?_
              rintro e w6 ⟨rfl, hb6⟩
              refine ⟨_, rfl, ?_⟩
              have hS6 : Below V.heap.size V w6 := hHeld.trans (hb6.mono hHeld.size)
              refine hK.out _ _ hS6 (fun _ => ?_)
              clear hK K hHeld hb6
              refine one_ (i := 5) (N := some 15) (ms 7 63) rfl rfl (by kernel_rfl) (by decide) (fun K hK => ?_)
              refine value_ (v := .pointer (some ⟨w6.heap.size, 0, none⟩)) (w1 := w6.alloc (.cells #[.int .i64 0] 3)) (by rfl) rfl (by go_simp) ?_
              have hS7 := below_alloc hS6 (.cells #[.int .i64 0] 3)
              refine hK.out _ _ hS7 (fun _ => ?_)
              exact hcont w6.heap.size _ ⟨hS7, hS6.size, 0, blk_new w6 _⟩
            · refine value_ (v := .pointer (some ⟨V1.heap.size, 0, none⟩)) (w1 := V1.alloc (.cells #[.int .i64 0] 3)) (by rfl) rfl (by go_simp) ?_
              have hS7 := below_alloc hHeld (.cells #[.int .i64 0] 3)
              refine hK.out _ _ hS7 (fun _ => ?_)
              clear hK K
              refine one_ (i := 4) (N := some 42) (ms 7 63) rfl rfl (by kernel_rfl) (by decide) (fun K hK => ?_)
              refine goes_ Try.func49 (by kernel_rfl) rfl #[.agg #[.int .i64 n, .slice A0 l.length c0], .slice Ay y.length cy] (by rfl) rfl rfl (by (try simp only [List.map_toArray, List.map_cons, List.map_nil]); rfl) ?_
              refine (C1.out _ hS7).mono ?_
              rintro e w6 ⟨rfl, hb6⟩
              refine ⟨_, rfl, ?_⟩
              have hS6 : Below V.heap.size V w6 := hS7.trans (hb6.mono hS7.size)
              refine hK.out _ _ hS6 (fun _ => ?_)
              refine norm_ ?_ (hcont V1.heap.size _ ⟨hS6, hHeld.size, 0, (hb6.block _ (blk_lt (blk_new V1 _))).trans (blk_new V1 _)⟩)
              simp only [putAll, SX]
              rfl
          obtain ⟨hb5, hgb, z, hz⟩ := hF
          refine norm_ (a' := ?_) ?_ ?_
          rotate_left
          · simp only [putAll, SX]
            rfl
          have y0 : w5.cell? ⟨gb, 0, none⟩ = some (.int .i64 z) := (blk_cell hz 0).trans rfl
          have y1 := blk_frozen hz 0
          refine one_ (i := 6) (N := none) (ms 7 127) rfl rfl (by kernel_rfl) (by decide) (fun K hK => ?_)
          refine skip_ (w1 := w5.setCell ⟨gb, 0, none⟩ (.int .i64 fc)) (by rfl) rfl (by go_simp) ?_
          refine hK.out _ _ (below_set hb5 hgb) (fun _ => ?_)
          clear hK K y0 y1
          refine done_ (by kernel_rfl) ?_
          obtain ⟨W6, hW6⟩ : ∃ W6, W6 = w5.setCell ⟨gb, 0, none⟩ (.int .i64 fc) := ⟨_, rfl⟩
          have b6 : Below V.heap.size V W6 := by rw [hW6]; exact below_set hb5 hgb
          have f6 : W6.heap[gb]? = some (.cells #[.int .i64 fc] 3 (0, 0)) := by rw [hW6]; exact blk_set hz 0 _
          rw [← hW6]
          clear hW6 hb5 hz hHeld XF C1
          have w6 : W6.heap[wr.heap.size]? = some (.cells #[.slice Ax x.length cx] 33 (0, 0)) := (b6.block _ (blk_lt HBW.out)).trans HBW.out
          have n6 : W6.heap[w.heap.size]? = some (.cells #[.int .i64 n, .slice A0 l.length c0] 25 (0, 0)) := (b6.block _ (blk_lt HFN.out)).trans HFN.out
          have s6 : W6.heap[w.heap.size + 1]? = some (.cells #[.int .i64 share] 3 (0, 0)) := (b6.block _ (blk_lt HFS.out)).trans HFS.out
          have br6 : Below wr.heap.size wr W6 := HBV.out.trans (b6.mono HBV.out.size)
          have b36 : Below w3.heap.size w3 W6 := HB.out.trans (br6.mono HB.out.size)
          have HO6 := Aside0.mk (Kd.R_below HO.out br6)
          have x0 : ∀ p : BelowBy W6, p.w.cell? ⟨w.heap.size, 0, none⟩ = some (.int .i64 n) := fun p => (blk_cell ((p.h.block _ (blk_lt n6)).trans n6) 0).trans rfl
          have x1 : ∀ p : BelowBy W6, p.w.cell? ⟨w.heap.size, 1, none⟩ = some (.slice A0 l.length c0) := fun p => (blk_cell ((p.h.block _ (blk_lt n6)).trans n6) 1).trans rfl
          have x2 : ∀ p : BelowBy W6, p.w.cell? ⟨wr.heap.size, 0, none⟩ = some (.slice Ax x.length cx) := fun p => (blk_cell ((p.h.block _ (blk_lt w6)).trans w6) 0).trans rfl
          have x3 : ∀ p : BelowBy W6, p.w.cell? ⟨gb, 0, none⟩ = some (.int .i64 fc) := fun p => (blk_cell ((p.h.block _ (blk_lt f6)).trans f6) 0).trans rfl
          have eg : ∀ args w, (callFunc 50 args).run Try.prog w = .ok (.enter 50 args) w := enters_of Try.func50 (by kernel_rfl) rfl
          have hr6 : Kd.C k58 W6 A0 l.length l := Kd.C_below HR.out (HA.out.trans ((HB3.out.trans (b36.mono HB3.out.size)).mono HA.out.size))
          have K1 := Aside0.mk (fun (p : BelowBy W6) => Calls.below_of p (CO.out Ax cx x p.w (b6.trans (p.h.mono b6.size)) HXC.out HXI.out))
          have K2 := Aside0.mk (fun (p : BelowBy W6) => (by
            have hc := containsFunc_row (alikeB l x fc share) 50 #[.pointer (some ⟨w.heap.size, 0, none⟩), .pointer (some ⟨wr.heap.size, 0, none⟩), .pointer (some ⟨gb, 0, none⟩), .pointer (some ⟨w.heap.size + 1, 0, none⟩)] eg Ao co (ids.map fun i => all.getD i []) p.w (closeA_any n A0 c0 l w.heap.size wr.heap.size gb (w.heap.size + 1) Ax cx x fc share p.w ((p.h.block _ (blk_lt n6)).trans n6) ((p.h.block _ (blk_lt w6)).trans w6) ((p.h.block _ (blk_lt f6)).trans f6) ((p.h.block _ (blk_lt s6)).trans s6) (Kd.C_below hr6 p.h) (Kd.C_below HXC.out (br6.trans (p.h.mono br6.size))) HXI.out) (by rw [List.length_map]; exact HG.out.picked (b36.trans (p.h.mono b36.size)) (fun k hk => Nat.lt_trans (HP.out.lt k hk) hlt) (Kd.R_below HO6.out p.h))
            rw [List.length_map, HP.out.eq] at hc
            exact Calls.below_of p hc : Calls Try.prog 52 #[.slice Ao ids.length co, .func (.func 50) #[] #[.pointer (some ⟨w.heap.size, 0, none⟩), .pointer (some ⟨wr.heap.size, 0, none⟩), .pointer (some ⟨gb, 0, none⟩), .pointer (some ⟨w.heap.size + 1, 0, none⟩)]] p.w fun e w' => e = .returned (.bool ((othL l longer share fc (all.take i)).any (alikeB l x fc share))) ∧ ∃ q : BelowBy W6, w' = q.w))
          have HB6 := Aside0.mk b6
          have HB36 := Aside0.mk b36
          have HBR6 := Aside0.mk br6
          have HW6 := Aside0.mk w6
          clear b6 f6 w6 n6 s6 br6 b36 eg hr6 CO
          unfold othOk at HT
          generalize wcost l x 0 = q at K1 HT
          generalize (othL l longer share fc (all.take i)).any (alikeB l x fc share) = q2 at K2 HT
          by_cases c1 : wrap64 (q * 100) ≤ wrap64 (fc * wrap64 (100 + longer))
          · have d1 : decide (IntKind.i64.wrap (q * 100) ≤ IntKind.i64.wrap (fc * IntKind.i64.wrap (100 + longer))) = true := by rw [i64_w, i64_w, i64_w]; exact decide_eq_true c1
            rw [decide_eq_true c1, Bool.true_and] at HT
            clear c1
            cases q2 with
            | false =>
              have HT2 := Aside0.mk (by have := HT.out; rwa [if_pos (show (!false) = true by decide)] at this : othL l longer share fc (all.take (i + 1)) = othL l longer share fc (all.take i) ++ [x])
              clear HT
              go_wp2
              refine wp_region_quiet_below (by kernel_rfl) (by kernel_rfl) ?_
              iterate 2 (quiet_step (fail))
              quiet_step (exact K1.out _)
              iterate 9 (quiet_step (fail))
              quiet_step (exact K2.out _)
              iterate 2 (quiet_step (fail))
              refine wpQuiet_nil ?_
              rintro w' ⟨p, rfl⟩
              obtain ⟨W7, hW7⟩ : ∃ W7, W7 = p.w := ⟨_, rfl⟩
              have xw : W7.cell? ⟨wr.heap.size, 0, none⟩ = some (.slice Ax x.length cx) := by rw [hW7]; exact x2 p
              have hb7 : Below W6.heap.size W6 W7 := by rw [hW7]; exact p.h
              rw [← hW7]
              clear hW7 x0 x1 x2 x3 K1 K2 d1
              have HO7 := Aside0.mk (Kd.R_below HO6.out hb7)
              have HB7 := Aside0.mk (HB36.out.trans (hb7.mono HB36.out.size))
              have MX := Aside0.mk (show [Value.slice Ax x.length cx] = [enc i] by rw [HV.out])
              have hil : ids.length ≤ 1000 := Nat.le_trans HP.out.le (by omega)
              clear hb7
              go_wp2_with (first
                | ((with_reducible refine gate_builtin (b := .append) (xs := #[.tmp 59, .tmp 61]) rfl ?_); at_builtin; refine Kd.R_append (Kd.scalar enc h1) (w0 := w3) w3.heap.size rfl (.tmp 59) (.tmp 61) 28 33 (.slice none 0 0) 24 rfl Try.underlying28 info33 rfl Nat.one_pos (by decide) (.slice Ao ids.length co) ids i [.slice Ax x.length cx] (fun k => w3.heap.size ≤ k) (fun _ => False) rfl ?hx MX.out (fun _ hk => hk.elim) (fun _ hk => Nat.le_trans HB7.out.size hk) HO7.out HB7.out HB7.out.size (by omega) ?_; (case hx => rfl); intro v8 w8 ho hb _ _; have HO8 := Aside0.mk ho; have HB8 := Aside0.mk hb; clear ho hb))
              go_roundg (all.length - (i + 1))
              case measure => omega
              case rel => exact ⟨i + 1, ids ++ [i], by go_num, hlt, Nat.le_refl _, HB8, HO8, ⟨by rw [HT2.out, ← HGI.out]; exact HP.out.take⟩⟩
            | true =>
              have HT2 := Aside0.mk (by have := HT.out; rwa [if_neg (show ¬ (!true) = true by decide)] at this : othL l longer share fc (all.take (i + 1)) = othL l longer share fc (all.take i))
              clear HT
              go_wp2
              refine wp_region_quiet_below (by kernel_rfl) (by kernel_rfl) ?_
              iterate 2 (quiet_step (fail))
              quiet_step (exact K1.out _)
              iterate 9 (quiet_step (fail))
              quiet_step (exact K2.out _)
              iterate 2 (quiet_step (fail))
              refine wpQuiet_nil ?_
              rintro w' ⟨p, rfl⟩
              obtain ⟨W7, hW7⟩ : ∃ W7, W7 = p.w := ⟨_, rfl⟩
              have hb7 : Below W6.heap.size W6 W7 := by rw [hW7]; exact p.h
              rw [← hW7]
              clear hW7 x0 x1 x2 x3 K1 K2 d1
              have HO7 := Aside0.mk (Kd.R_below HO6.out hb7)
              have HB7 := Aside0.mk (HB36.out.trans (hb7.mono HB36.out.size))
              clear hb7
              go_wp2
              go_roundg (all.length - (i + 1))
              case measure => omega
              case rel => exact ⟨i + 1, ids, by go_num, hlt, Nat.le_refl _, HB7, HO7, ⟨by rw [HT2.out]; exact HP.out.skip⟩⟩
          · have d1 : decide (IntKind.i64.wrap (q * 100) ≤ IntKind.i64.wrap (fc * IntKind.i64.wrap (100 + longer))) = false := by rw [i64_w, i64_w, i64_w]; exact decide_eq_false c1
            rw [decide_eq_false c1, Bool.false_and] at HT
            have HT2 := Aside0.mk (by have := HT.out; rwa [if_neg Bool.false_ne_true] at this : othL l longer share fc (all.take (i + 1)) = othL l longer share fc (all.take i))
            clear HT c1
            go_wp2
            refine wp_region_quiet_below (by kernel_rfl) (by kernel_rfl) ?_
            iterate 2 (quiet_step (fail))
            quiet_step (exact K1.out _)
            iterate 12 (quiet_step (fail))
            refine wpQuiet_nil ?_
            rintro w' ⟨p, rfl⟩
            obtain ⟨W7, hW7⟩ : ∃ W7, W7 = p.w := ⟨_, rfl⟩
            have hb7 : Below W6.heap.size W6 W7 := by rw [hW7]; exact p.h
            rw [← hW7]
            clear hW7 x0 x1 x2 x3 K1 K2 d1
            have HO7 := Aside0.mk (Kd.R_below HO6.out hb7)
            have HB7 := Aside0.mk (HB36.out.trans (hb7.mono HB36.out.size))
            clear hb7
            go_wp2
            go_roundg (all.length - (i + 1))
            case measure => omega
            case rel => exact ⟨i + 1, ids, by go_num, hlt, Nat.le_refl _, HB7, HO7, ⟨by rw [HT2.out]; exact HP.out.skip⟩⟩
        · have hltz : ¬ (i : Int) < (all.length : Int) := by omega
          have hia : i = all.length := by omega
          have HX := Aside0.mk (by have := HE.out; have h2 := HP.out.eq; rw [hia, List.take_length, this] at h2; exact h2 : ids.map (fun k => all.getD k []) = r)
          obtain ⟨Ao, co, rfl, hco, _⟩ := Kd.R_reads HO.out
          obtain ⟨i0, hi0, _⟩ := Option.map_eq_some_iff.1 info33
          have hcut := cut_clip 28 33 Try.underlying28 hi0 Ao ids.length co hco
          have HIA := Aside0.mk hia
          clear hi0 hia
          go_wp2
          go_ret
          have hs := HG.out.pick HB.out (fun k hk => by have := HP.out.lt k hk; have := HIA.out; omega) HP.out.nd (Kd.R_lower (Kd.R_clip HO.out) LE3.out)
          rw [HX.out] at hs
          have b1 := HA.out.trans ((HB3.out.trans (HB.out.mono HB3.out.size)).mono HA.out.size)
          exact ⟨_, rfl, Kd.S_lower hs (Nat.le_trans HA.out.size (Nat.le_refl _)), b1⟩

end Go.Proofs.Ytlgolgfcolnddaa.F
