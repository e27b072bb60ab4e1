/- Parts of the proof: WcLive: each statement zDz its own conditions. -/
import Derived.Test.YtcjochjiegiliaaGreatProg
import Derived.KernelRfl
import Derived.Test.YtcjochjiegiliaaGreatWc2
namespace Go.Proofs.YtcjochjiegiliaaGreat
open Go Go.Ax
set_option maxRecDepth 1000000 in
theorem live23:wTrue Tryz.prog orc0 1000000 9=True:=by kernel_rfl
end Go.Proofs.YtcjochjiegiliaaGreat
