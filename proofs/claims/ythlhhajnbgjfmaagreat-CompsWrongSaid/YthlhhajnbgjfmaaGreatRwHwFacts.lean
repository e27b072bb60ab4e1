/- Parts of the proof: HwFacts: each statement bears its own conditions. -/
import Derived.Test.YthlhhajnbgjfmaaGreatRows
import Derived.WalkKit
import Derived.ProofKit
import Derived.OpenShut
import Derived.JoinedOf
namespace Go.Proofs.YthlhhajnbgjfmaaGreat
open Go
set_option maxRecDepth 1000000
theorem jk{a b:Bool}(g:a=true)(h:b=true):(a&&b)=true:=by rw[g,h];rfl
theorem atP:laidOutB Tryz.prog=true:=by kernel_rfl
theorem aiW:mapsRowed Tryz.prog=true:=by kernel_rfl
theorem aqL:(Tryz.prog.stops == [])=true:=by kernel_rfl
theorem aqM:(Tryz.prog.stopKnobs == [])=true:=by kernel_rfl
theorem aiX:(false == Tryz.prog.plainKeys)=true:=by kernel_rfl
theorem aqN:Tryz.prog.stopsHeard=true:=by kernel_rfl
theorem aqO:Tryz.prog.mayEnter=true:=by kernel_rfl
theorem anb:(false == Tryz.prog.liftsFinal)=true:=by kernel_rfl
theorem atQ:(Tryz.prog.make == some Rows.hopsWrongRow.make)=true:=by kernel_rfl
theorem av5:(Rows.compsWrongRow.wf (OpenSpec.ofChange Rows.compsWrongSpec))=true:=by kernel_rfl
theorem aiY:Tryz.f6.params.all (Tryz.prog.readableRec ·)=true:=by kernel_rfl
theorem atS:namedTie Tryz.prog Rows.compsWrongRow.named Rows.compsWrongSpec.vars=true:=by kernel_rfl
theorem akS:(Rows.compsWrongRow.stops == [])=true:=by kernel_rfl
theorem akT:(Rows.compsWrongRow.knobs == [])=true:=by kernel_rfl
theorem ajx:(Rows.compsWrongRow.inPlace == Tryz.prog.inPlace 6)=true:=by kernel_rfl
theorem atT:(Rows.compsWrongRow.unfollowed == Tryz.prog.unfollowed 6)=true:=by kernel_rfl
theorem atU:(Rows.compsWrongRow.recurses == Tryz.prog.recurses 6)=true:=by kernel_rfl
theorem ane:(Rows.compsWrongRow.named == Tryz.prog.varsNamed 6)=true:=by kernel_rfl
theorem aqP:(Rows.compsWrongRow.maps == (Tryz.f6.params.toList++Rows.compsWrongSpec.plain.varTypes Tryz.prog).any (Tryz.prog.mapsRec ·))=true:=by kernel_rfl
theorem akU:(Rows.compsWrongRow.ifaces == (Tryz.f6.params.toList++Rows.compsWrongSpec.plain.varTypes Tryz.prog).any (Tryz.prog.ifacesRec ·))=true:=by kernel_rfl
theorem ajy:(Rows.compsWrongRow.mapsOut == Tryz.prog.mapsAmong Tryz.f6.resultTypes.toList)=true:=by kernel_rfl
theorem anf:(Rows.compsWrongRow.loops == (Tryz.f6.params.toList++Rows.compsWrongSpec.plain.varTypes Tryz.prog).any (Tryz.prog.loopsFrom ·))=true:=by kernel_rfl
theorem aqQ:(Rows.compsWrongRow.wideKeys == (Tryz.f6.params.toList++Rows.compsWrongSpec.plain.varTypes Tryz.prog++Tryz.f6.resultTypes.toList).any (Tryz.prog.wideKeysFrom ·))=true:=by kernel_rfl
theorem ang:Rows.compsWrongSpec.vars.all (Tryz.prog.varReadable ·)=true:=by kernel_rfl
theorem anh:Tryz.f6.resultTypes.all (λt=>Tryz.prog.readableRec t&&decide (t<Tryz.prog.types.size))=true:=by kernel_rfl
theorem ani:(Rows.compsWrongRow.ifacesOut == Tryz.f6.resultTypes.toList.any (Tryz.prog.ifacesRec ·))=true:=by kernel_rfl
theorem anj:(Rows.compsWrongRow.loopsOut == Tryz.f6.resultTypes.toList.any (Tryz.prog.loopsFrom ·))=true:=by kernel_rfl
theorem ank:Rows.compsWrongRow.shortTexts.isNone=true:=by kernel_rfl
theorem anl:(Rows.compsWrongRow.kinds == (if Rows.compsWrongRow.domain.isEmpty then[]else Tryz.f6.params.toList.map λt=>match Tryz.prog.underlying t with|some (.int k)=>some k|_=>none))=true:=by kernel_rfl
theorem akV:(Rows.compsWrongRow.pinned == Rows.compsWrongRow.pinnedBy)=true:=by kernel_rfl
theorem akW:(Rows.compsWrongRow.veiled == (Tryz.f6.params.toList++Rows.compsWrongSpec.plain.varTypes Tryz.prog++Tryz.f6.resultTypes.toList).any (Tryz.prog.veiledRec ·))=true:=by kernel_rfl
theorem anm:Rows.compsWrongRow.veiledFits Tryz.prog Tryz.f6.params.toList (Tryz.f6.params.toList++Rows.compsWrongSpec.plain.varTypes Tryz.prog++Tryz.f6.resultTypes.toList)=true:=by kernel_rfl
theorem akX:joinedFacts Tryz.prog 6 Tryz.f6 Rows.compsWrongSpec Rows.compsWrongRow=true:=by unfold joinedFacts;exact(jk (jk (jk (jk (jk (jk (jk (jk (jk (jk (jk (jk (jk (jk (jk (jk (jk (jk (jk (jk (jk (jk (jk (jk (jk (jk (jk (jk (jk (jk (jk av5 atP) aiW) aiY) atS) akS) aqL) akT) aqM) ajx) atT) atU) ane) aqP) akU) ajy) anf) aqQ) ang) anh) ani) anj) aiX) ank) aqN) aqO) anb) atQ) anl) akV) akW) anm)
end Go.Proofs.YthlhhajnbgjfmaaGreat
