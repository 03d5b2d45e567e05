import Derived.Test.YtbappbbljncdeaaPureDist
import Derived.Test.YtbappbbljncdeaaFKinds
import Derived.Test.YtbappbbljncdeaaFimplNear
namespace Go.Proofs.Ytbappbbljncdeaa.Pure
open Go.RowKit Go.Proofs.Ytbappbbljncdeaa.F Go.Proofs.YtbappbbljncdeaaW.PrintWords
set_option linter.unusedVariables false
set_option linter.unusedSimpArgs false
/-! ### all distances -/
theorem table_ev {n : Int} {l : List S100} (hn : Net1 n l) : Ev (fun k => impl_Net_table.f k n l) ((List.range n.toNat).map fun v : Nat => distV n l (v : Int)) := by
  have hlo := hn.lo
  have hhi := hn.hi
  unfold impl_Net_table.f
  have b0 : (0 : Int) ≤ n := by omega
  have b1 : n.toNat ≤ 11728124029610 := by omega
  simp only [b0, b1, if_true]
  refine ev_at (ev_ind (fun k (i : Nat) => impl_Net_table.l0 k ((List.range i).map fun v : Nat => distV n l (v : Int)) n (i : Int) n l) (fun i => n.toNat - i) (fun i => i ≤ n.toNat) (fun _ => (List.range n.toNat).map fun v : Nat => distV n l (v : Int)) ?_ 0 (Nat.zero_le _)) rfl
  intro i hi ih
  by_cases h : i < n.toNat
  · have hlt : (i : Int) < n := by omega
    have hD := distV_is hn (s := (i : Int)) (by omega)
    have b2 : ((List.range i).map fun v : Nat => distV n l (v : Int)).length < 5864062014805 := by rw [List.length_map, List.length_range]; omega
    simp only [impl_Net_table.l0, hlt, if_true]
    refine Ev.bind hD.impl ?_
    simp only [b2, if_true, wsucc h (show n.toNat ≤ 9223372036854775807 by omega)]
    have := ih (i + 1) (by omega) (by omega)
    rw [List.range_succ, List.map_append] at this
    exact this
  · have hlt : ¬ (i : Int) < n := by omega
    simp only [impl_Net_table.l0, hlt, if_false]
    refine ev_now fun k => ?_
    rw [show i = n.toNat by omega]
noncomputable def tableV (n : Int) (l : List S100) : List (List Int) := (List.range n.toNat).map fun v : Nat => distV n l (v : Int)
theorem tableV_length (n : Int) (l : List S100) : (tableV n l).length = n.toNat := by unfold tableV; rw [List.length_map, List.length_range]
theorem tableV_at (n : Int) (l : List S100) (i : Nat) (h : i < n.toNat) : rd_L10 (tableV n l) (i : Int) = distV n l (i : Int) := by
  unfold rd_L10 tableV
  rw [List.getD_eq_getElem?_getD, Int.toNat_natCast, List.getElem?_map, List.getElem?_range h]
  rfl
end Go.Proofs.Ytbappbbljncdeaa.Pure
