/- Parts of the proof: RbLive: each statement bears its own conditions. -/
import Derived.Test.YtcjochjiegiliaaGreatRbSeat
namespace Go.Proofs.YtcjochjiegiliaaGreat
open Go Go.Ax
noncomputable def orcR : Orc := fun f => bif Nat.beq f 82 then some (gTake (gFix Tryz.prog 60 183)) else bif Nat.beq f 85 then some (gU32 (gFix Tryz.prog 60 183) (gFix Tryz.prog 60 184)) else none
set_option maxRecDepth 1000000 in
theorem live36 : wTrue Tryz.prog orcR 1000000 21 = True := by kernel_rfl
end Go.Proofs.YtcjochjiegiliaaGreat
