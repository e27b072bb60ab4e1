/- Parts of the proof: LawPCF: each statement bears its own conditions. -/
import Derived.Test.YtfebipifehfjlaaGreatPqFn2
namespace Go.Proofs.YtfebipifehfjlaaGreat
open Go
set_option maxRecDepth 1000000
theorem pck_wf:(Rows.pathsChecksRow.wf (OpenSpec.ofChange Rows.pathsChecksSpec))=true:=by kernel_rfl
theorem zJD:Tryz.f3.params.all (Tryz.prog.readableRec ·)=true:=by kernel_rfl
theorem pck_tie:namedTie Tryz.prog Rows.pathsChecksRow.named Rows.pathsChecksSpec.vars=true:=by kernel_rfl
theorem zNL:(Rows.pathsChecksRow.stops == [])=true:=by kernel_rfl
theorem zNO:(Rows.pathsChecksRow.knobs == [])=true:=by kernel_rfl
theorem zK1:(Rows.pathsChecksRow.inPlace == Tryz.prog.inPlace 3)=true:=by kernel_rfl
theorem pck_unf:(Rows.pathsChecksRow.unfollowed == Tryz.prog.unfollowed 3)=true:=by kernel_rfl
theorem pck_rec:(Rows.pathsChecksRow.recurses == Tryz.prog.recurses 3)=true:=by kernel_rfl
theorem zP9:(Rows.pathsChecksRow.named == Tryz.prog.varsNamed 3)=true:=by kernel_rfl
theorem pck_maps:(Rows.pathsChecksRow.maps == (Tryz.f3.params.toList++Rows.pathsChecksSpec.plain.varTypes Tryz.prog).any (Tryz.prog.mapsRec ·))=true:=by kernel_rfl
theorem zNQ:(Rows.pathsChecksRow.ifaces == (Tryz.f3.params.toList++Rows.pathsChecksSpec.plain.varTypes Tryz.prog).any (Tryz.prog.ifacesRec ·))=true:=by kernel_rfl
theorem zK0:(Rows.pathsChecksRow.mapsOut == Tryz.prog.mapsAmong Tryz.f3.resultTypes.toList)=true:=by kernel_rfl
theorem zPa:(Rows.pathsChecksRow.loops == (Tryz.f3.params.toList++Rows.pathsChecksSpec.plain.varTypes Tryz.prog).any (Tryz.prog.loopsFrom ·))=true:=by kernel_rfl
theorem pck_wide:(Rows.pathsChecksRow.wideKeys == (Tryz.f3.params.toList++Rows.pathsChecksSpec.plain.varTypes Tryz.prog++Tryz.f3.resultTypes.toList).any (Tryz.prog.wideKeysFrom ·))=true:=by kernel_rfl
theorem zP5:Rows.pathsChecksSpec.vars.all (Tryz.prog.varReadable ·)=true:=by kernel_rfl
theorem zP8:Tryz.f3.resultTypes.all (fun t=>Tryz.prog.readableRec t&&decide (t<Tryz.prog.types.size))=true:=by kernel_rfl
theorem zPd:(Rows.pathsChecksRow.ifacesOut == Tryz.f3.resultTypes.toList.any (Tryz.prog.ifacesRec ·))=true:=by kernel_rfl
theorem zPb:(Rows.pathsChecksRow.loopsOut == Tryz.f3.resultTypes.toList.any (Tryz.prog.loopsFrom ·))=true:=by kernel_rfl
theorem zP7:Rows.pathsChecksRow.shortTexts.isNone=true:=by kernel_rfl
theorem zPc:(Rows.pathsChecksRow.kinds == (if Rows.pathsChecksRow.domain.isEmpty then [] else Tryz.f3.params.toList.map fun t=>match Tryz.prog.underlying t with | some (.int k)=>some k | _=>none))=true:=by kernel_rfl
theorem zNM:(Rows.pathsChecksRow.pinned == Rows.pathsChecksRow.pinnedBy)=true:=by kernel_rfl
theorem zNK:(Rows.pathsChecksRow.veiled == (Tryz.f3.params.toList++Rows.pathsChecksSpec.plain.varTypes Tryz.prog++Tryz.f3.resultTypes.toList).any (Tryz.prog.veiledRec ·))=true:=by kernel_rfl
theorem zP6:Rows.pathsChecksRow.veiledFits Tryz.prog Tryz.f3.params.toList (Tryz.f3.params.toList++Rows.pathsChecksSpec.plain.varTypes Tryz.prog++Tryz.f3.resultTypes.toList)=true:=by kernel_rfl
theorem zNP:joinedFacts Tryz.prog 3 Tryz.f3 Rows.pathsChecksSpec Rows.pathsChecksRow=true:=by
 unfold joinedFacts
 exact (aT (aT (aT (aT (aT (aT (aT (aT (aT (aT (aT (aT (aT (aT (aT (aT (aT (aT (aT (aT (aT (aT (aT (aT (aT (aT (aT (aT (aT (aT (aT pck_wf g_laid) zKn) zJD) pck_tie) zNL) g_stops) zNO) g_knobs) zK1) pck_unf) pck_rec) zP9) pck_maps) zNQ) zK0) zPa) pck_wide) zP5) zP8) zPd) zPb) zKm) zP7) g_heard) g_enter) g_lifted) g_make) zPc) zNM) zNK) zP6)
end Go.Proofs.YtfebipifehfjlaaGreat
