import Derived.Test.YtbappbbljncdeaaPureLiveOk
import Derived.Test.YtbappbbljncdeaaPureNet1
import Derived.Test.YtbappbbljncdeaaFKinds
import Derived.Test.YtbappbbljncdeaaFimplArc127
import Derived.Test.YtbappbbljncdeaaFimplArc137
import Derived.Test.YtbappbbljncdeaaFimplLivecopied
import Derived.Test.YtbappbbljncdeaaFimplNews101
import Derived.Test.YtbappbbljncdeaaFimplNews138
namespace Go.Proofs.Ytbappbbljncdeaa.Pure
open Go.RowKit Go.Proofs.Ytbappbbljncdeaa.F Go.Proofs.YtbappbbljncdeaaW.PrintWords
set_option linter.unusedVariables false
set_option linter.unusedSimpArgs false
/-! ### a net with news, copied -/
theorem copied_eq {n : Int} {l : List S100} {w : List S70} (h : liveB n l w = true) : impl_Live_copied.f n l w = some (n, l, w) := by
  have h1 := (net1_of (liveB_len h).1).len
  have h2 := (liveB_len h).2
  unfold impl_Live_copied.f impl_Arc_137.f impl_Arc_127.f impl_News_138.f impl_News_101.f
  rw [if_pos (by omega), if_pos (by omega)]
  rfl
end Go.Proofs.Ytbappbbljncdeaa.Pure
