/- Parts of the proof: LawPWF: each statement bears its own conditions. -/
import Derived.Test.YtfebipifehfjlaaGreatPrFn2
namespace Go.Proofs.YtfebipifehfjlaaGreat
open Go
set_option maxRecDepth 1000000
theorem pwy_wf:(Rows.pathsWaysRow.wf (OpenSpec.ofChange Rows.pathsWaysSpec))=true:=by kernel_rfl
theorem pwy_readable:Tryz.f5.params.all (Tryz.prog.readableRec ·)=true:=by kernel_rfl
theorem pwy_tie:namedTie Tryz.prog Rows.pathsWaysRow.named Rows.pathsWaysSpec.vars=true:=by kernel_rfl
theorem pwy_stops0:(Rows.pathsWaysRow.stops == [])=true:=by kernel_rfl
theorem pwy_knobs0:(Rows.pathsWaysRow.knobs == [])=true:=by kernel_rfl
theorem pwy_inPlace:(Rows.pathsWaysRow.inPlace == Tryz.prog.inPlace 5)=true:=by kernel_rfl
theorem pwy_unf:(Rows.pathsWaysRow.unfollowed == Tryz.prog.unfollowed 5)=true:=by kernel_rfl
theorem pwy_rec:(Rows.pathsWaysRow.recurses == Tryz.prog.recurses 5)=true:=by kernel_rfl
theorem pwy_named:(Rows.pathsWaysRow.named == Tryz.prog.varsNamed 5)=true:=by kernel_rfl
theorem pwy_maps:(Rows.pathsWaysRow.maps == (Tryz.f5.params.toList++Rows.pathsWaysSpec.plain.varTypes Tryz.prog).any (Tryz.prog.mapsRec ·))=true:=by kernel_rfl
theorem pwy_ifaces:(Rows.pathsWaysRow.ifaces == (Tryz.f5.params.toList++Rows.pathsWaysSpec.plain.varTypes Tryz.prog).any (Tryz.prog.ifacesRec ·))=true:=by kernel_rfl
theorem pwy_mapsOut:(Rows.pathsWaysRow.mapsOut == Tryz.prog.mapsAmong Tryz.f5.resultTypes.toList)=true:=by kernel_rfl
theorem pwy_loops:(Rows.pathsWaysRow.loops == (Tryz.f5.params.toList++Rows.pathsWaysSpec.plain.varTypes Tryz.prog).any (Tryz.prog.loopsFrom ·))=true:=by kernel_rfl
theorem pwy_wide:(Rows.pathsWaysRow.wideKeys == (Tryz.f5.params.toList++Rows.pathsWaysSpec.plain.varTypes Tryz.prog++Tryz.f5.resultTypes.toList).any (Tryz.prog.wideKeysFrom ·))=true:=by kernel_rfl
theorem pwy_vread:Rows.pathsWaysSpec.vars.all (Tryz.prog.varReadable ·)=true:=by kernel_rfl
theorem pwy_rread:Tryz.f5.resultTypes.all (fun t=>Tryz.prog.readableRec t&&decide (t<Tryz.prog.types.size))=true:=by kernel_rfl
theorem pwy_ifOut:(Rows.pathsWaysRow.ifacesOut == Tryz.f5.resultTypes.toList.any (Tryz.prog.ifacesRec ·))=true:=by kernel_rfl
theorem pwy_loOut:(Rows.pathsWaysRow.loopsOut == Tryz.f5.resultTypes.toList.any (Tryz.prog.loopsFrom ·))=true:=by kernel_rfl
theorem pwy_short:Rows.pathsWaysRow.shortTexts.isNone=true:=by kernel_rfl
theorem pwy_kinds:(Rows.pathsWaysRow.kinds == (if Rows.pathsWaysRow.domain.isEmpty then [] else Tryz.f5.params.toList.map fun t=>match Tryz.prog.underlying t with | some (.int k)=>some k | _=>none))=true:=by kernel_rfl
theorem pwy_pinned:(Rows.pathsWaysRow.pinned == Rows.pathsWaysRow.pinnedBy)=true:=by kernel_rfl
theorem pwy_veiled:(Rows.pathsWaysRow.veiled == (Tryz.f5.params.toList++Rows.pathsWaysSpec.plain.varTypes Tryz.prog++Tryz.f5.resultTypes.toList).any (Tryz.prog.veiledRec ·))=true:=by kernel_rfl
theorem pwy_vfits:Rows.pathsWaysRow.veiledFits Tryz.prog Tryz.f5.params.toList (Tryz.f5.params.toList++Rows.pathsWaysSpec.plain.varTypes Tryz.prog++Tryz.f5.resultTypes.toList)=true:=by kernel_rfl
theorem pwy_joined:joinedFacts Tryz.prog 5 Tryz.f5 Rows.pathsWaysSpec Rows.pathsWaysRow=true:=by
 unfold joinedFacts
 exact (aT (aT (aT (aT (aT (aT (aT (aT (aT (aT (aT (aT (aT (aT (aT (aT (aT (aT (aT (aT (aT (aT (aT (aT (aT (aT (aT (aT (aT (aT (aT pwy_wf g_laid) g_mapsRowed) pwy_readable) pwy_tie) pwy_stops0) g_stops) pwy_knobs0) g_knobs) pwy_inPlace) pwy_unf) pwy_rec) pwy_named) pwy_maps) pwy_ifaces) pwy_mapsOut) pwy_loops) pwy_wide) pwy_vread) pwy_rread) pwy_ifOut) pwy_loOut) g_plainKeys) pwy_short) g_heard) g_enter) g_lifted) g_make) pwy_kinds) pwy_pinned) pwy_veiled) pwy_vfits)
end Go.Proofs.YtfebipifehfjlaaGreat
