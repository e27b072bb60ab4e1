/- Parts of the proof: IaLive: each statement bears its own conditions. -/
import Derived.Test.YtcjochjiegiliaaGreatProg
import Derived.KernelRfl
import Derived.Test.YtcjochjiegiliaaGreatIa3
namespace Go.Proofs.YtcjochjiegiliaaGreat
open Go Go.Ax
def zLC:Orc:=fun f=>bif Nat.beq f 163 then some gSent else bif Nat.beq f 266 then some zNU else bif Nat.beq f 219 then some zFz else bif Nat.beq f 307 then some zGA else none
set_option maxRecDepth 1000000 in
theorem live31:wTrue Tryz.prog zLC 1000000 28=True:=by kernel_rfl
end Go.Proofs.YtcjochjiegiliaaGreat
