/- The given statement holds: no condition. -/
import Derived.Test.YthlhhajnbgjfmaaGreatRwHwFn9
import Derived.Test.YthlhhajnbgjfmaaGreatRwHwFacts
namespace Go.Proofs.YthlhhajnbgjfmaaGreat
open Go Go.Ax
open Go.RowKit
set_option maxRecDepth 1000000
theorem compsWrong_holds:Rows.CompsWrongSaid :=
 OpenClaim.holds_of_wide 6 Tryz.f6 rfl rfl rfl rfl rfl rfl rfl ⟨rfl,rfl,rfl,rfl,rfl⟩ rfl rfl rfl rfl rfl atf Tryz.func6 akX
  (of_decide_eq_true (by kernel_rfl)) (by unfold Func.isWrapper;first|(rw[if_pos (by decide +kernel)];kernel_rfl)|(rw[if_neg (by decide +kernel)];exact⟨rfl,rfl⟩))
  (λl g H h _=>amC l g H h)
end Go.Proofs.YthlhhajnbgjfmaaGreat
