import Derived.Test.YtbappbbljncdeaaPureLoad
import Derived.Test.YtbappbbljncdeaaPureNodes
import Derived.Test.YtbappbbljncdeaaFKinds
namespace Go.Proofs.Ytbappbbljncdeaa.Pure
open Go.RowKit Go.Proofs.Ytbappbbljncdeaa.F Go.Proofs.YtbappbbljncdeaaW.PrintWords
set_option linter.unusedVariables false
set_option linter.unusedSimpArgs false
/-! ### what is near with a load -/
theorem Net1.load {n : Int} {l : List S100} (hn : Net1 n l) (a : Int) : Net1 n (loadL l a) := by
  refine ⟨hn.lo, hn.hi, Nat.le_trans (loadL_length l a) hn.len, fun x hx => hn.ends x (List.mem_filter.1 hx).1⟩
end Go.Proofs.Ytbappbbljncdeaa.Pure
