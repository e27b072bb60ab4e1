/- Parts of the proof: PrLive: each statement bears its own conditions. -/
import Derived.Test.YtfebipifehfjlaaGreatProg
import Derived.KernelRfl
import Derived.Test.YtfebipifehfjlaaGreatPr4
namespace Go.Proofs.YtfebipifehfjlaaGreat
open Go Go.Ax
def orcLive:Orc:=fun f=>bif Nat.beq f 56 then some gSent else bif Nat.beq f 111 then some gLinks else bif Nat.beq f 241 then some gCounted else bif Nat.beq f 43 then some gCombine else none
set_option maxRecDepth 1000000 in
theorem live27:wTrue Tryz.prog orcLive 1000000 6=True:=by kernel_rfl
end Go.Proofs.YtfebipifehfjlaaGreat
