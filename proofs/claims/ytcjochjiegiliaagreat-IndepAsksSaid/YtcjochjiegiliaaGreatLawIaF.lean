/- Parts of the proof: LawIaF: each statement bears its own conditions. -/
import Derived.Test.YtcjochjiegiliaaGreatIaFn3
namespace Go.Proofs.YtcjochjiegiliaaGreat
open Go
set_option maxRecDepth 1000000
theorem ias_wf:(Rows.indepAsksRow.wf (OpenSpec.ofChange Rows.indepAsksSpec))=true:=by kernel_rfl
theorem zJx:Tryz.f7.params.all (Tryz.prog.readableRec ·)=true:=by kernel_rfl
theorem ias_tie:namedTie Tryz.prog Rows.indepAsksRow.named Rows.indepAsksSpec.vars=true:=by kernel_rfl
theorem zO4:(Rows.indepAsksRow.stops == [])=true:=by kernel_rfl
theorem zO7:(Rows.indepAsksRow.knobs == [])=true:=by kernel_rfl
theorem zL2:(Rows.indepAsksRow.inPlace == Tryz.prog.inPlace 7)=true:=by kernel_rfl
theorem ias_unf:(Rows.indepAsksRow.unfollowed == Tryz.prog.unfollowed 7)=true:=by kernel_rfl
theorem ias_rec:(Rows.indepAsksRow.recurses == Tryz.prog.recurses 7)=true:=by kernel_rfl
theorem zRZ:(Rows.indepAsksRow.named == Tryz.prog.varsNamed 7)=true:=by kernel_rfl
theorem ias_maps:(Rows.indepAsksRow.maps == (Tryz.f7.params.toList++Rows.indepAsksSpec.plain.varTypes Tryz.prog).any (Tryz.prog.mapsRec ·))=true:=by kernel_rfl
theorem zO9:(Rows.indepAsksRow.ifaces == (Tryz.f7.params.toList++Rows.indepAsksSpec.plain.varTypes Tryz.prog).any (Tryz.prog.ifacesRec ·))=true:=by kernel_rfl
theorem zL1:(Rows.indepAsksRow.mapsOut == Tryz.prog.mapsAmong Tryz.f7.resultTypes.toList)=true:=by kernel_rfl
theorem zR0:(Rows.indepAsksRow.loops == (Tryz.f7.params.toList++Rows.indepAsksSpec.plain.varTypes Tryz.prog).any (Tryz.prog.loopsFrom ·))=true:=by kernel_rfl
theorem ias_wide:(Rows.indepAsksRow.wideKeys == (Tryz.f7.params.toList++Rows.indepAsksSpec.plain.varTypes Tryz.prog++Tryz.f7.resultTypes.toList).any (Tryz.prog.wideKeysFrom ·))=true:=by kernel_rfl
theorem zRV:Rows.indepAsksSpec.vars.all (Tryz.prog.varReadable ·)=true:=by kernel_rfl
theorem zRY:Tryz.f7.resultTypes.all (fun t=>Tryz.prog.readableRec t&&decide (t<Tryz.prog.types.size))=true:=by kernel_rfl
theorem zR3:(Rows.indepAsksRow.ifacesOut == Tryz.f7.resultTypes.toList.any (Tryz.prog.ifacesRec ·))=true:=by kernel_rfl
theorem zR1:(Rows.indepAsksRow.loopsOut == Tryz.f7.resultTypes.toList.any (Tryz.prog.loopsFrom ·))=true:=by kernel_rfl
theorem zRX:Rows.indepAsksRow.shortTexts.isNone=true:=by kernel_rfl
theorem zR2:(Rows.indepAsksRow.kinds == (if Rows.indepAsksRow.domain.isEmpty then [] else Tryz.f7.params.toList.map fun t=>match Tryz.prog.underlying t with | some (.int k)=>some k | _=>none))=true:=by kernel_rfl
theorem zO5:(Rows.indepAsksRow.pinned == Rows.indepAsksRow.pinnedBy)=true:=by kernel_rfl
theorem zO3:(Rows.indepAsksRow.veiled == (Tryz.f7.params.toList++Rows.indepAsksSpec.plain.varTypes Tryz.prog++Tryz.f7.resultTypes.toList).any (Tryz.prog.veiledRec ·))=true:=by kernel_rfl
theorem zRW:Rows.indepAsksRow.veiledFits Tryz.prog Tryz.f7.params.toList (Tryz.f7.params.toList++Rows.indepAsksSpec.plain.varTypes Tryz.prog++Tryz.f7.resultTypes.toList)=true:=by kernel_rfl
theorem zO8:joinedFacts Tryz.prog 7 Tryz.f7 Rows.indepAsksSpec Rows.indepAsksRow=true:=by
 unfold joinedFacts;exact (aT (aT (aT (aT (aT (aT (aT (aT (aT (aT (aT (aT (aT (aT (aT (aT (aT (aT (aT (aT (aT (aT (aT (aT (aT (aT (aT (aT (aT (aT (aT ias_wf g_laid) zL4) zJx) ias_tie) zO4) g_stops) zO7) g_knobs) zL2) ias_unf) ias_rec) zRZ) ias_maps) zO9) zL1) zR0) ias_wide) zRV) zRY) zR3) zR1) zL3) zRX) g_heard) g_enter) g_lifted) g_make) zR2) zO5) zO3) zRW)
end Go.Proofs.YtcjochjiegiliaaGreat
