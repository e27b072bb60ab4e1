/- Parts of the proof: PpLive: each statement bears its own conditions. -/
import Derived.Test.YtenkechjalngcaaGreatProg
import Derived.KernelRfl
import Derived.Test.YtenkechjalngcaaGreatPp3
namespace Go.Proofs.YtenkechjalngcaaGreat
open Go Go.Ax
def orcLive : Orc := fun f => bif Nat.beq f 76 then some gSent else bif Nat.beq f 121 then some gLinks else bif Nat.beq f 251 then some gCounted else bif Nat.beq f 68 then some gCombine else none
set_option maxRecDepth 1000000 in
theorem live29 : wTrue Tryz.prog orcLive 1000000 10 = True := by kernel_rfl
end Go.Proofs.YtenkechjalngcaaGreat
