/- The given statement holds: no condition. -/
import Derived.Test.YthlhhajnbgjfmaaGreatRhHwFn9
import Derived.Test.YthlhhajnbgjfmaaGreatRhHwFacts
namespace Go.Proofs.YthlhhajnbgjfmaaGreat
open Go Go.Ax
open Go.ChangeShapes Go.WideShapes Go.ChangeAt Go.RowKit
set_option maxRecDepth 1000000
set_option linter.all false
set_option maxHeartbeats 1000000
theorem hopsRuns_holds:Rows.HopsRunsSaid :=
 OpenClaim.holds_of_wide 3 Tryz.f3 rfl rfl rfl rfl rfl rfl rfl ⟨rfl,rfl,rfl,rfl,rfl⟩ rfl rfl rfl rfl rfl atM Tryz.func3 akz
  (of_decide_eq_true (by kernel_rfl)) (by unfold Func.isWrapper;first|(rw[if_pos (by decide +kernel)];kernel_rfl)|(rw[if_neg (by decide +kernel)];exact⟨rfl,rfl⟩))
  (λl g H h _=>amj l g H h)
end Go.Proofs.YthlhhajnbgjfmaaGreat
