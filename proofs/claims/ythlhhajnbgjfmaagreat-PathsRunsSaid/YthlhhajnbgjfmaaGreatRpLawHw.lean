/- The given statement holds: no condition. -/
import Derived.Test.YthlhhajnbgjfmaaGreatRpHwFn9
import Derived.Test.YthlhhajnbgjfmaaGreatRpHwFacts
namespace Go.Proofs.YthlhhajnbgjfmaaGreat
open Go Go.Ax
open Go.ChangeShapes Go.WideShapes Go.ChangeAt Go.RowKit
set_option maxRecDepth 1000000
set_option linter.all false
set_option maxHeartbeats 1000000
theorem pathsRuns_holds:Rows.PathsRunsSaid :=
 OpenClaim.holds_of_wide 7 Tryz.f7 rfl rfl rfl rfl rfl rfl rfl ⟨rfl,rfl,rfl,rfl,rfl⟩ rfl rfl rfl rfl rfl auC Tryz.func7 ak7
  (of_decide_eq_true (by kernel_rfl)) (by unfold Func.isWrapper;first|(rw[if_pos (by decide +kernel)];kernel_rfl)|(rw[if_neg (by decide +kernel)];exact⟨rfl,rfl⟩))
  (λl g H h _=>amV l g H h)
end Go.Proofs.YthlhhajnbgjfmaaGreat
