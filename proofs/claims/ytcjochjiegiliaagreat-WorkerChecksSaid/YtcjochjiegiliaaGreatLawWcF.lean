/- Parts of the proof: LawWcF: each statement zDz its own conditions. -/
import Derived.Test.YtcjochjiegiliaaGreatWcFn5
namespace Go.Proofs.YtcjochjiegiliaaGreat
open Go
set_option maxRecDepth 1000000
theorem wc_wf:(Rows.workerChecksRow.wf (OpenSpec.ofChange Rows.workerChecksSpec))=true:=by kernel_rfl
theorem zK1:Tryz.f3.params.all (Tryz.prog.readableRec ·)=true:=by kernel_rfl
theorem wc_tie:namedTie Tryz.prog Rows.workerChecksRow.named Rows.workerChecksSpec.vars=true:=by kernel_rfl
theorem zOz:(Rows.workerChecksRow.stops == [])=true:=by kernel_rfl
theorem zPC:(Rows.workerChecksRow.knobs == [])=true:=by kernel_rfl
theorem zNh:(Rows.workerChecksRow.inPlace == Tryz.prog.inPlace 3)=true:=by kernel_rfl
theorem wc_unf:(Rows.workerChecksRow.unfollowed == Tryz.prog.unfollowed 3)=true:=by kernel_rfl
theorem wc_rec:(Rows.workerChecksRow.recurses == Tryz.prog.recurses 3)=true:=by kernel_rfl
theorem wc_named:(Rows.workerChecksRow.named == Tryz.prog.varsNamed 3)=true:=by kernel_rfl
theorem wc_maps:(Rows.workerChecksRow.maps == (Tryz.f3.params.toList++Rows.workerChecksSpec.plain.varTypes Tryz.prog).any (Tryz.prog.mapsRec ·))=true:=by kernel_rfl
theorem zPE:(Rows.workerChecksRow.ifaces == (Tryz.f3.params.toList++Rows.workerChecksSpec.plain.varTypes Tryz.prog).any (Tryz.prog.ifacesRec ·))=true:=by kernel_rfl
theorem zNg:(Rows.workerChecksRow.mapsOut == Tryz.prog.mapsAmong Tryz.f3.resultTypes.toList)=true:=by kernel_rfl
theorem wc_loops:(Rows.workerChecksRow.loops == (Tryz.f3.params.toList++Rows.workerChecksSpec.plain.varTypes Tryz.prog).any (Tryz.prog.loopsFrom ·))=true:=by kernel_rfl
theorem wc_wide:(Rows.workerChecksRow.wideKeys == (Tryz.f3.params.toList++Rows.workerChecksSpec.plain.varTypes Tryz.prog++Tryz.f3.resultTypes.toList).any (Tryz.prog.wideKeysFrom ·))=true:=by kernel_rfl
theorem wc_vread:Rows.workerChecksSpec.vars.all (Tryz.prog.varReadable ·)=true:=by kernel_rfl
theorem wc_rread:Tryz.f3.resultTypes.all (fun t=>Tryz.prog.readableRec t&&decide (t<Tryz.prog.types.size))=true:=by kernel_rfl
theorem wc_ifOut:(Rows.workerChecksRow.ifacesOut == Tryz.f3.resultTypes.toList.any (Tryz.prog.ifacesRec ·))=true:=by kernel_rfl
theorem wc_loOut:(Rows.workerChecksRow.loopsOut == Tryz.f3.resultTypes.toList.any (Tryz.prog.loopsFrom ·))=true:=by kernel_rfl
theorem wc_short:Rows.workerChecksRow.shortTexts.isNone=true:=by kernel_rfl
theorem wc_kinds:(Rows.workerChecksRow.kinds == (if Rows.workerChecksRow.domain.isEmpty then [] else Tryz.f3.params.toList.map fun t=>match Tryz.prog.underlying t with | some (.int k)=>some k | _=>none))=true:=by kernel_rfl
theorem zPA:(Rows.workerChecksRow.pinned == Rows.workerChecksRow.pinnedBy)=true:=by kernel_rfl
theorem zOy:(Rows.workerChecksRow.veiled == (Tryz.f3.params.toList++Rows.workerChecksSpec.plain.varTypes Tryz.prog++Tryz.f3.resultTypes.toList).any (Tryz.prog.veiledRec ·))=true:=by kernel_rfl
theorem wc_vfits:Rows.workerChecksRow.veiledFits Tryz.prog Tryz.f3.params.toList (Tryz.f3.params.toList++Rows.workerChecksSpec.plain.varTypes Tryz.prog++Tryz.f3.resultTypes.toList)=true:=by kernel_rfl
theorem zPD:joinedFacts Tryz.prog 3 Tryz.f3 Rows.workerChecksSpec Rows.workerChecksRow=true:=by
 unfold joinedFacts;exact (aT (aT (aT (aT (aT (aT (aT (aT (aT (aT (aT (aT (aT (aT (aT (aT (aT (aT (aT (aT (aT (aT (aT (aT (aT (aT (aT (aT (aT (aT (aT wc_wf g_laid) zLN) zK1) wc_tie) zOz) g_stops) zPC) g_knobs) zNh) wc_unf) wc_rec) wc_named) wc_maps) zPE) zNg) wc_loops) wc_wide) wc_vread) wc_rread) wc_ifOut) wc_loOut) zLM) wc_short) g_heard) g_enter) g_lifted) g_make) wc_kinds) zPA) zOy) wc_vfits)
end Go.Proofs.YtcjochjiegiliaaGreat
