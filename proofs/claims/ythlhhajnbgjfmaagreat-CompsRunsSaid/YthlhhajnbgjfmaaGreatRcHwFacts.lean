/- Parts of the proof: HwFacts: each statement bears its own conditions. -/
import Derived.Test.YthlhhajnbgjfmaaGreatRows
import Derived.WalkKit
import Derived.ProofKit
import Derived.OpenShut
import Derived.JoinedOf
namespace Go.Proofs.YthlhhajnbgjfmaaGreat
open Go
set_option maxRecDepth 1000000
theorem iM{a b:Bool}(g:a=true)(h:b=true):(a&&b)=true:=by rw[g,h];rfl
theorem atk:laidOutB Tryz.prog=true:=by kernel_rfl
theorem ahx:mapsRowed Tryz.prog=true:=by kernel_rfl
theorem apR:(Tryz.prog.stops == [])=true:=by kernel_rfl
theorem apS:(Tryz.prog.stopKnobs == [])=true:=by kernel_rfl
theorem ahy:(false == Tryz.prog.plainKeys)=true:=by kernel_rfl
theorem apT:Tryz.prog.stopsHeard=true:=by kernel_rfl
theorem apU:Tryz.prog.mayEnter=true:=by kernel_rfl
theorem alX:(false == Tryz.prog.liftsFinal)=true:=by kernel_rfl
theorem atl:(Tryz.prog.make == some Rows.hopsWrongRow.make)=true:=by kernel_rfl
theorem avX:(Rows.compsRunsRow.wf (OpenSpec.ofChange Rows.compsRunsSpec))=true:=by kernel_rfl
theorem ahz:Tryz.f5.params.all (Tryz.prog.readableRec ·)=true:=by kernel_rfl
theorem atm:namedTie Tryz.prog Rows.compsRunsRow.named Rows.compsRunsSpec.vars=true:=by kernel_rfl
theorem aju:(Rows.compsRunsRow.stops == [])=true:=by kernel_rfl
theorem ajv:(Rows.compsRunsRow.knobs == [])=true:=by kernel_rfl
theorem ah8:(Rows.compsRunsRow.inPlace == Tryz.prog.inPlace 5)=true:=by kernel_rfl
theorem atn:(Rows.compsRunsRow.unfollowed == Tryz.prog.unfollowed 5)=true:=by kernel_rfl
theorem ato:(Rows.compsRunsRow.recurses == Tryz.prog.recurses 5)=true:=by kernel_rfl
theorem alY:(Rows.compsRunsRow.named == Tryz.prog.varsNamed 5)=true:=by kernel_rfl
theorem apV:(Rows.compsRunsRow.maps == (Tryz.f5.params.toList++Rows.compsRunsSpec.plain.varTypes Tryz.prog).any (Tryz.prog.mapsRec ·))=true:=by kernel_rfl
theorem ajw:(Rows.compsRunsRow.ifaces == (Tryz.f5.params.toList++Rows.compsRunsSpec.plain.varTypes Tryz.prog).any (Tryz.prog.ifacesRec ·))=true:=by kernel_rfl
theorem ah9:(Rows.compsRunsRow.mapsOut == Tryz.prog.mapsAmong Tryz.f5.resultTypes.toList)=true:=by kernel_rfl
theorem alZ:(Rows.compsRunsRow.loops == (Tryz.f5.params.toList++Rows.compsRunsSpec.plain.varTypes Tryz.prog).any (Tryz.prog.loopsFrom ·))=true:=by kernel_rfl
theorem apW:(Rows.compsRunsRow.wideKeys == (Tryz.f5.params.toList++Rows.compsRunsSpec.plain.varTypes Tryz.prog++Tryz.f5.resultTypes.toList).any (Tryz.prog.wideKeysFrom ·))=true:=by kernel_rfl
theorem al2:Rows.compsRunsSpec.vars.all (Tryz.prog.varReadable ·)=true:=by kernel_rfl
theorem al3:Tryz.f5.resultTypes.all (λt=>Tryz.prog.readableRec t&&decide (t<Tryz.prog.types.size))=true:=by kernel_rfl
theorem al4:(Rows.compsRunsRow.ifacesOut == Tryz.f5.resultTypes.toList.any (Tryz.prog.ifacesRec ·))=true:=by kernel_rfl
theorem al5:(Rows.compsRunsRow.loopsOut == Tryz.f5.resultTypes.toList.any (Tryz.prog.loopsFrom ·))=true:=by kernel_rfl
theorem al6:Rows.compsRunsRow.shortTexts.isNone=true:=by kernel_rfl
theorem al7:(Rows.compsRunsRow.kinds == (if Rows.compsRunsRow.domain.isEmpty then[]else Tryz.f5.params.toList.map λt=>match Tryz.prog.underlying t with|some (.int k)=>some k|_=>none))=true:=by kernel_rfl
theorem ajx:(Rows.compsRunsRow.pinned == Rows.compsRunsRow.pinnedBy)=true:=by kernel_rfl
theorem ajy:(Rows.compsRunsRow.veiled == (Tryz.f5.params.toList++Rows.compsRunsSpec.plain.varTypes Tryz.prog++Tryz.f5.resultTypes.toList).any (Tryz.prog.veiledRec ·))=true:=by kernel_rfl
theorem al8:Rows.compsRunsRow.veiledFits Tryz.prog Tryz.f5.params.toList (Tryz.f5.params.toList++Rows.compsRunsSpec.plain.varTypes Tryz.prog++Tryz.f5.resultTypes.toList)=true:=by kernel_rfl
theorem ajz:joinedFacts Tryz.prog 5 Tryz.f5 Rows.compsRunsSpec Rows.compsRunsRow=true:=by unfold joinedFacts;exact(iM (iM (iM (iM (iM (iM (iM (iM (iM (iM (iM (iM (iM (iM (iM (iM (iM (iM (iM (iM (iM (iM (iM (iM (iM (iM (iM (iM (iM (iM (iM avX atk) ahx) ahz) atm) aju) apR) ajv) apS) ah8) atn) ato) alY) apV) ajw) ah9) alZ) apW) al2) al3) al4) al5) ahy) al6) apT) apU) alX) atl) al7) ajx) ajy) al8)
end Go.Proofs.YthlhhajnbgjfmaaGreat
