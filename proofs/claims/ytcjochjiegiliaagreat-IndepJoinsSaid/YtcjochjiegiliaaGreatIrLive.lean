/- Parts of the proof: IrLive: each statement bears its own conditions. -/
import Derived.Test.YtcjochjiegiliaaGreatProg
import Derived.KernelRfl
import Derived.Test.YtcjochjiegiliaaGreatIr3
namespace Go.Proofs.YtcjochjiegiliaaGreat
open Go Go.Ax
def orcLive:Orc:=fun f=>bif Nat.beq f 163 then some gSent else bif Nat.beq f 266 then some gLinks else bif Nat.beq f 219 then some gCounted else bif Nat.beq f 307 then some gCombine else none
set_option maxRecDepth 1000000 in
theorem live31:wTrue Tryz.prog orcLive 1000000 28=True:=by kernel_rfl
end Go.Proofs.YtcjochjiegiliaaGreat
