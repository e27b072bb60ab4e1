/- Parts of the proof: RbFacts: each statement bears its own conditions. -/
import Derived.Test.YtcjochjiegiliaaGreatRows
import Derived.WalkKit
import Derived.ProofKit
import Derived.OpenShut
import Derived.JoinedOf
import Derived.Test.YtcjochjiegiliaaGreatRbLive
namespace Go.Proofs.YtcjochjiegiliaaGreat
open Go
set_option maxRecDepth 1000000
theorem aT {a b : Bool} (ha : a = true) (hb : b = true) : (a && b) = true := by rw [ha, hb]; rfl
theorem g_laid : laidOutB Tryz.prog = true := by kernel_rfl
theorem g_mapsRowed : mapsRowed Tryz.prog = true := by kernel_rfl
theorem g_stops : (Tryz.prog.stops == []) = true := by kernel_rfl
theorem g_knobs : (Tryz.prog.stopKnobs == []) = true := by kernel_rfl
theorem g_plainKeys : (false == Tryz.prog.plainKeys) = true := by kernel_rfl
theorem g_heard : Tryz.prog.stopsHeard = true := by kernel_rfl
theorem g_enter : Tryz.prog.mayEnter = true := by kernel_rfl
theorem g_lifted : (false == Tryz.prog.liftsFinal) = true := by kernel_rfl
theorem g_make : (Tryz.prog.make == some Rows.playWrongRow.make) = true := by kernel_rfl
end Go.Proofs.YtcjochjiegiliaaGreat
