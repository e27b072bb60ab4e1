/- Parts of the proof: HwFacts: each statement bears its own conditions. -/
import Derived.Test.YthlhhajnbgjfmaaGreatRows
import Derived.WalkKit
import Derived.ProofKit
import Derived.OpenShut
import Derived.JoinedOf
namespace Go.Proofs.YthlhhajnbgjfmaaGreat
open Go
set_option maxRecDepth 1000000
theorem i2{a b:Bool}(g:a=true)(h:b=true):(a&&b)=true:=by rw[g,h];rfl
theorem auu:laidOutB Tryz.prog=true:=by kernel_rfl
theorem ain:mapsRowed Tryz.prog=true:=by kernel_rfl
theorem aqQ:(Tryz.prog.stops == [])=true:=by kernel_rfl
theorem aqR:(Tryz.prog.stopKnobs == [])=true:=by kernel_rfl
theorem aio:(false == Tryz.prog.plainKeys)=true:=by kernel_rfl
theorem aqS:Tryz.prog.stopsHeard=true:=by kernel_rfl
theorem aqT:Tryz.prog.mayEnter=true:=by kernel_rfl
theorem amO:(false == Tryz.prog.liftsFinal)=true:=by kernel_rfl
theorem auv:(Tryz.prog.make == some Rows.hopsWrongRow.make)=true:=by kernel_rfl
theorem axa:(Rows.hopsWrongRow.wf (OpenSpec.ofChange Rows.hopsWrongSpec))=true:=by kernel_rfl
theorem aip:Tryz.f4.params.all (Tryz.prog.readableRec ·)=true:=by kernel_rfl
theorem auw:namedTie Tryz.prog Rows.hopsWrongRow.named Rows.hopsWrongSpec.vars=true:=by kernel_rfl
theorem akl:(Rows.hopsWrongRow.stops == [])=true:=by kernel_rfl
theorem akm:(Rows.hopsWrongRow.knobs == [])=true:=by kernel_rfl
theorem aiY:(Rows.hopsWrongRow.inPlace == Tryz.prog.inPlace 4)=true:=by kernel_rfl
theorem aux:(Rows.hopsWrongRow.unfollowed == Tryz.prog.unfollowed 4)=true:=by kernel_rfl
theorem auy:(Rows.hopsWrongRow.recurses == Tryz.prog.recurses 4)=true:=by kernel_rfl
theorem amP:(Rows.hopsWrongRow.named == Tryz.prog.varsNamed 4)=true:=by kernel_rfl
theorem aqU:(Rows.hopsWrongRow.maps == (Tryz.f4.params.toList++Rows.hopsWrongSpec.plain.varTypes Tryz.prog).any (Tryz.prog.mapsRec ·))=true:=by kernel_rfl
theorem akn:(Rows.hopsWrongRow.ifaces == (Tryz.f4.params.toList++Rows.hopsWrongSpec.plain.varTypes Tryz.prog).any (Tryz.prog.ifacesRec ·))=true:=by kernel_rfl
theorem aiZ:(Rows.hopsWrongRow.mapsOut == Tryz.prog.mapsAmong Tryz.f4.resultTypes.toList)=true:=by kernel_rfl
theorem amQ:(Rows.hopsWrongRow.loops == (Tryz.f4.params.toList++Rows.hopsWrongSpec.plain.varTypes Tryz.prog).any (Tryz.prog.loopsFrom ·))=true:=by kernel_rfl
theorem aqV:(Rows.hopsWrongRow.wideKeys == (Tryz.f4.params.toList++Rows.hopsWrongSpec.plain.varTypes Tryz.prog++Tryz.f4.resultTypes.toList).any (Tryz.prog.wideKeysFrom ·))=true:=by kernel_rfl
theorem amR:Rows.hopsWrongSpec.vars.all (Tryz.prog.varReadable ·)=true:=by kernel_rfl
theorem amS:Tryz.f4.resultTypes.all (λt=>Tryz.prog.readableRec t&&decide (t<Tryz.prog.types.size))=true:=by kernel_rfl
theorem amT:(Rows.hopsWrongRow.ifacesOut == Tryz.f4.resultTypes.toList.any (Tryz.prog.ifacesRec ·))=true:=by kernel_rfl
theorem amU:(Rows.hopsWrongRow.loopsOut == Tryz.f4.resultTypes.toList.any (Tryz.prog.loopsFrom ·))=true:=by kernel_rfl
theorem amV:Rows.hopsWrongRow.shortTexts.isNone=true:=by kernel_rfl
theorem amW:(Rows.hopsWrongRow.kinds == (if Rows.hopsWrongRow.domain.isEmpty then[]else Tryz.f4.params.toList.map λt=>match Tryz.prog.underlying t with|some (.int k)=>some k|_=>none))=true:=by kernel_rfl
theorem ako:(Rows.hopsWrongRow.pinned == Rows.hopsWrongRow.pinnedBy)=true:=by kernel_rfl
theorem akp:(Rows.hopsWrongRow.veiled == (Tryz.f4.params.toList++Rows.hopsWrongSpec.plain.varTypes Tryz.prog++Tryz.f4.resultTypes.toList).any (Tryz.prog.veiledRec ·))=true:=by kernel_rfl
theorem amX:Rows.hopsWrongRow.veiledFits Tryz.prog Tryz.f4.params.toList (Tryz.f4.params.toList++Rows.hopsWrongSpec.plain.varTypes Tryz.prog++Tryz.f4.resultTypes.toList)=true:=by kernel_rfl
theorem akq:joinedFacts Tryz.prog 4 Tryz.f4 Rows.hopsWrongSpec Rows.hopsWrongRow=true:=by unfold joinedFacts;exact(i2 (i2 (i2 (i2 (i2 (i2 (i2 (i2 (i2 (i2 (i2 (i2 (i2 (i2 (i2 (i2 (i2 (i2 (i2 (i2 (i2 (i2 (i2 (i2 (i2 (i2 (i2 (i2 (i2 (i2 (i2 axa auu) ain) aip) auw) akl) aqQ) akm) aqR) aiY) aux) auy) amP) aqU) akn) aiZ) amQ) aqV) amR) amS) amT) amU) aio) amV) aqS) aqT) amO) auv) amW) ako) akp) amX)
end Go.Proofs.YthlhhajnbgjfmaaGreat
