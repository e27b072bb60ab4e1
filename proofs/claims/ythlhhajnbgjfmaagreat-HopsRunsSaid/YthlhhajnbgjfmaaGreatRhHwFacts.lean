/- Parts of the proof: HwFacts: each statement bears its own conditions. -/
import Derived.Test.YthlhhajnbgjfmaaGreatRows
import Derived.WalkKit
import Derived.ProofKit
import Derived.OpenShut
import Derived.JoinedOf
namespace Go.Proofs.YthlhhajnbgjfmaaGreat
open Go
set_option maxRecDepth 1000000
theorem iS{a b:Bool}(h:a=true)(g:b=true):(a&&b)=true:=by rw[h,g];rfl
theorem aul:laidOutB Tryz.prog=true:=by kernel_rfl
theorem aiy:mapsRowed Tryz.prog=true:=by kernel_rfl
theorem aqL:(Tryz.prog.stops == [])=true:=by kernel_rfl
theorem aqM:(Tryz.prog.stopKnobs == [])=true:=by kernel_rfl
theorem aiz:(false == Tryz.prog.plainKeys)=true:=by kernel_rfl
theorem aqN:Tryz.prog.stopsHeard=true:=by kernel_rfl
theorem aqO:Tryz.prog.mayEnter=true:=by kernel_rfl
theorem amT:(false == Tryz.prog.liftsFinal)=true:=by kernel_rfl
theorem aum:(Tryz.prog.make == some Rows.hopsWrongRow.make)=true:=by kernel_rfl
theorem axc:(Rows.hopsRunsRow.wf (OpenSpec.ofChange Rows.hopsRunsSpec))=true:=by kernel_rfl
theorem aiA:Tryz.f3.params.all (Tryz.prog.readableRec ·)=true:=by kernel_rfl
theorem aun:namedTie Tryz.prog Rows.hopsRunsRow.named Rows.hopsRunsSpec.vars=true:=by kernel_rfl
theorem aku:(Rows.hopsRunsRow.stops == [])=true:=by kernel_rfl
theorem akv:(Rows.hopsRunsRow.knobs == [])=true:=by kernel_rfl
theorem aja:(Rows.hopsRunsRow.inPlace == Tryz.prog.inPlace 3)=true:=by kernel_rfl
theorem auo:(Rows.hopsRunsRow.unfollowed == Tryz.prog.unfollowed 3)=true:=by kernel_rfl
theorem aup:(Rows.hopsRunsRow.recurses == Tryz.prog.recurses 3)=true:=by kernel_rfl
theorem amU:(Rows.hopsRunsRow.named == Tryz.prog.varsNamed 3)=true:=by kernel_rfl
theorem aqP:(Rows.hopsRunsRow.maps == (Tryz.f3.params.toList++Rows.hopsRunsSpec.plain.varTypes Tryz.prog).any (Tryz.prog.mapsRec ·))=true:=by kernel_rfl
theorem akw:(Rows.hopsRunsRow.ifaces == (Tryz.f3.params.toList++Rows.hopsRunsSpec.plain.varTypes Tryz.prog).any (Tryz.prog.ifacesRec ·))=true:=by kernel_rfl
theorem ajb:(Rows.hopsRunsRow.mapsOut == Tryz.prog.mapsAmong Tryz.f3.resultTypes.toList)=true:=by kernel_rfl
theorem amV:(Rows.hopsRunsRow.loops == (Tryz.f3.params.toList++Rows.hopsRunsSpec.plain.varTypes Tryz.prog).any (Tryz.prog.loopsFrom ·))=true:=by kernel_rfl
theorem aqQ:(Rows.hopsRunsRow.wideKeys == (Tryz.f3.params.toList++Rows.hopsRunsSpec.plain.varTypes Tryz.prog++Tryz.f3.resultTypes.toList).any (Tryz.prog.wideKeysFrom ·))=true:=by kernel_rfl
theorem amW:Rows.hopsRunsSpec.vars.all (Tryz.prog.varReadable ·)=true:=by kernel_rfl
theorem amX:Tryz.f3.resultTypes.all (λt=>Tryz.prog.readableRec t&&decide (t<Tryz.prog.types.size))=true:=by kernel_rfl
theorem amY:(Rows.hopsRunsRow.ifacesOut == Tryz.f3.resultTypes.toList.any (Tryz.prog.ifacesRec ·))=true:=by kernel_rfl
theorem amZ:(Rows.hopsRunsRow.loopsOut == Tryz.f3.resultTypes.toList.any (Tryz.prog.loopsFrom ·))=true:=by kernel_rfl
theorem am0:Rows.hopsRunsRow.shortTexts.isNone=true:=by kernel_rfl
theorem am1:(Rows.hopsRunsRow.kinds == (if Rows.hopsRunsRow.domain.isEmpty then[]else Tryz.f3.params.toList.map λt=>match Tryz.prog.underlying t with|some (.int k)=>some k|_=>none))=true:=by kernel_rfl
theorem akx:(Rows.hopsRunsRow.pinned == Rows.hopsRunsRow.pinnedBy)=true:=by kernel_rfl
theorem aky:(Rows.hopsRunsRow.veiled == (Tryz.f3.params.toList++Rows.hopsRunsSpec.plain.varTypes Tryz.prog++Tryz.f3.resultTypes.toList).any (Tryz.prog.veiledRec ·))=true:=by kernel_rfl
theorem am2:Rows.hopsRunsRow.veiledFits Tryz.prog Tryz.f3.params.toList (Tryz.f3.params.toList++Rows.hopsRunsSpec.plain.varTypes Tryz.prog++Tryz.f3.resultTypes.toList)=true:=by kernel_rfl
theorem akz:joinedFacts Tryz.prog 3 Tryz.f3 Rows.hopsRunsSpec Rows.hopsRunsRow=true:=by unfold joinedFacts;exact(iS (iS (iS (iS (iS (iS (iS (iS (iS (iS (iS (iS (iS (iS (iS (iS (iS (iS (iS (iS (iS (iS (iS (iS (iS (iS (iS (iS (iS (iS (iS axc aul) aiy) aiA) aun) aku) aqL) akv) aqM) aja) auo) aup) amU) aqP) akw) ajb) amV) aqQ) amW) amX) amY) amZ) aiz) am0) aqN) aqO) amT) aum) am1) akx) aky) am2)
end Go.Proofs.YthlhhajnbgjfmaaGreat
