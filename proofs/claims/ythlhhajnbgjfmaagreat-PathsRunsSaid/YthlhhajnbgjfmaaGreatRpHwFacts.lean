/- Parts of the proof: HwFacts: each statement bears its own conditions. -/
import Derived.Test.YthlhhajnbgjfmaaGreatRows
import Derived.WalkKit
import Derived.ProofKit
import Derived.OpenShut
import Derived.JoinedOf
namespace Go.Proofs.YthlhhajnbgjfmaaGreat
open Go
set_option maxRecDepth 1000000
theorem iZ{a b:Bool}(g:a=true)(h:b=true):(a&&b)=true:=by rw[g,h];rfl
theorem avc:laidOutB Tryz.prog=true:=by kernel_rfl
theorem ai6:mapsRowed Tryz.prog=true:=by kernel_rfl
theorem arx:(Tryz.prog.stops == [])=true:=by kernel_rfl
theorem ary:(Tryz.prog.stopKnobs == [])=true:=by kernel_rfl
theorem ai7:(false == Tryz.prog.plainKeys)=true:=by kernel_rfl
theorem arz:Tryz.prog.stopsHeard=true:=by kernel_rfl
theorem arA:Tryz.prog.mayEnter=true:=by kernel_rfl
theorem anC:(false == Tryz.prog.liftsFinal)=true:=by kernel_rfl
theorem avd:(Tryz.prog.make == some Rows.hopsWrongRow.make)=true:=by kernel_rfl
theorem ax4:(Rows.pathsRunsRow.wf (OpenSpec.ofChange Rows.pathsRunsSpec))=true:=by kernel_rfl
theorem ai8:Tryz.f7.params.all (Tryz.prog.readableRec ·)=true:=by kernel_rfl
theorem ave:namedTie Tryz.prog Rows.pathsRunsRow.named Rows.pathsRunsSpec.vars=true:=by kernel_rfl
theorem ak2:(Rows.pathsRunsRow.stops == [])=true:=by kernel_rfl
theorem ak3:(Rows.pathsRunsRow.knobs == [])=true:=by kernel_rfl
theorem ajH:(Rows.pathsRunsRow.inPlace == Tryz.prog.inPlace 7)=true:=by kernel_rfl
theorem avf:(Rows.pathsRunsRow.unfollowed == Tryz.prog.unfollowed 7)=true:=by kernel_rfl
theorem avg:(Rows.pathsRunsRow.recurses == Tryz.prog.recurses 7)=true:=by kernel_rfl
theorem anD:(Rows.pathsRunsRow.named == Tryz.prog.varsNamed 7)=true:=by kernel_rfl
theorem arB:(Rows.pathsRunsRow.maps == (Tryz.f7.params.toList++Rows.pathsRunsSpec.plain.varTypes Tryz.prog).any (Tryz.prog.mapsRec ·))=true:=by kernel_rfl
theorem ak4:(Rows.pathsRunsRow.ifaces == (Tryz.f7.params.toList++Rows.pathsRunsSpec.plain.varTypes Tryz.prog).any (Tryz.prog.ifacesRec ·))=true:=by kernel_rfl
theorem ajI:(Rows.pathsRunsRow.mapsOut == Tryz.prog.mapsAmong Tryz.f7.resultTypes.toList)=true:=by kernel_rfl
theorem anE:(Rows.pathsRunsRow.loops == (Tryz.f7.params.toList++Rows.pathsRunsSpec.plain.varTypes Tryz.prog).any (Tryz.prog.loopsFrom ·))=true:=by kernel_rfl
theorem arC:(Rows.pathsRunsRow.wideKeys == (Tryz.f7.params.toList++Rows.pathsRunsSpec.plain.varTypes Tryz.prog++Tryz.f7.resultTypes.toList).any (Tryz.prog.wideKeysFrom ·))=true:=by kernel_rfl
theorem anF:Rows.pathsRunsSpec.vars.all (Tryz.prog.varReadable ·)=true:=by kernel_rfl
theorem anG:Tryz.f7.resultTypes.all (λt=>Tryz.prog.readableRec t&&decide (t<Tryz.prog.types.size))=true:=by kernel_rfl
theorem anH:(Rows.pathsRunsRow.ifacesOut == Tryz.f7.resultTypes.toList.any (Tryz.prog.ifacesRec ·))=true:=by kernel_rfl
theorem anI:(Rows.pathsRunsRow.loopsOut == Tryz.f7.resultTypes.toList.any (Tryz.prog.loopsFrom ·))=true:=by kernel_rfl
theorem anJ:Rows.pathsRunsRow.shortTexts.isNone=true:=by kernel_rfl
theorem anK:(Rows.pathsRunsRow.kinds == (if Rows.pathsRunsRow.domain.isEmpty then[]else Tryz.f7.params.toList.map λt=>match Tryz.prog.underlying t with|some (.int k)=>some k|_=>none))=true:=by kernel_rfl
theorem ak5:(Rows.pathsRunsRow.pinned == Rows.pathsRunsRow.pinnedBy)=true:=by kernel_rfl
theorem ak6:(Rows.pathsRunsRow.veiled == (Tryz.f7.params.toList++Rows.pathsRunsSpec.plain.varTypes Tryz.prog++Tryz.f7.resultTypes.toList).any (Tryz.prog.veiledRec ·))=true:=by kernel_rfl
theorem anL:Rows.pathsRunsRow.veiledFits Tryz.prog Tryz.f7.params.toList (Tryz.f7.params.toList++Rows.pathsRunsSpec.plain.varTypes Tryz.prog++Tryz.f7.resultTypes.toList)=true:=by kernel_rfl
theorem ak7:joinedFacts Tryz.prog 7 Tryz.f7 Rows.pathsRunsSpec Rows.pathsRunsRow=true:=by unfold joinedFacts;exact(iZ (iZ (iZ (iZ (iZ (iZ (iZ (iZ (iZ (iZ (iZ (iZ (iZ (iZ (iZ (iZ (iZ (iZ (iZ (iZ (iZ (iZ (iZ (iZ (iZ (iZ (iZ (iZ (iZ (iZ (iZ ax4 avc) ai6) ai8) ave) ak2) arx) ak3) ary) ajH) avf) avg) anD) arB) ak4) ajI) anE) arC) anF) anG) anH) anI) ai7) anJ) arz) arA) anC) avd) anK) ak5) ak6) anL)
end Go.Proofs.YthlhhajnbgjfmaaGreat
