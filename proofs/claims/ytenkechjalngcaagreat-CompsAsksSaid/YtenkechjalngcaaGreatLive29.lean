/- Parts of the proof: Live29: each statement bears its own conditions. -/
import Derived.Test.YtenkechjalngcaaGreatFactsC
/-! part Live29 -/
namespace Go.Proofs.YtenkechjalngcaaGreat
open Go Go.Ax
set_option maxRecDepth 1000000 in
theorem live29 : wTrue Tryz.prog orcLive 1000000 10 = True := by kernel_rfl
end Go.Proofs.YtenkechjalngcaaGreat
