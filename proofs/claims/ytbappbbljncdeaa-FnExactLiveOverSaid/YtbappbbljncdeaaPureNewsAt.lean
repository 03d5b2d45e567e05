import Derived.Test.YtbappbbljncdeaaPureBase
import Derived.Test.YtbappbbljncdeaaFKinds
namespace Go.Proofs.Ytbappbbljncdeaa.Pure
open Go.RowKit Go.Proofs.Ytbappbbljncdeaa.F Go.Proofs.YtbappbbljncdeaaW.PrintWords
set_option linter.unusedVariables false
set_option linter.unusedSimpArgs false
/-! ### news in their places -/
theorem news_at (l : List S70) (i : Nat) (h : i < l.length) : rd_T70 l (i : Int) = l[i] := by simp [rd_T70, h]
end Go.Proofs.Ytbappbbljncdeaa.Pure
