/- Parts of the proof: PqLive: each statement bears its own conditions. -/
import Derived.Test.YtfebipifehfjlaaGreatProg
import Derived.KernelRfl
import Derived.Test.YtfebipifehfjlaaGreatPq4
namespace Go.Proofs.YtfebipifehfjlaaGreat
open Go Go.Ax
def zK4:Orc:=fun f=>bif Nat.beq f 56 then some gSent else bif Nat.beq f 111 then some zM4 else bif Nat.beq f 241 then some zFl else bif Nat.beq f 43 then some zFm else none
set_option maxRecDepth 1000000 in
theorem live27:wTrue Tryz.prog zK4 1000000 6=True:=by kernel_rfl
end Go.Proofs.YtfebipifehfjlaaGreat
