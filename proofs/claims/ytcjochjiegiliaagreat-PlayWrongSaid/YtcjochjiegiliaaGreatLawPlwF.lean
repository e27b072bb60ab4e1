/- Parts of the proof: LawPlwF: each statement bears its own conditions. -/
import Derived.Test.YtcjochjiegiliaaGreatPrFn2
namespace Go.Proofs.YtcjochjiegiliaaGreat
open Go
set_option maxRecDepth 1000000
theorem plw_wf:(Rows.playWrongRow.wf (OpenSpec.ofChange Rows.playWrongSpec))=true:=by kernel_rfl
theorem plw_readable:Tryz.f4.params.all (Tryz.prog.readableRec ·)=true:=by kernel_rfl
theorem plw_tie:namedTie Tryz.prog Rows.playWrongRow.named Rows.playWrongSpec.vars=true:=by kernel_rfl
theorem plw_stops0:(Rows.playWrongRow.stops == [])=true:=by kernel_rfl
theorem plw_knobs0:(Rows.playWrongRow.knobs == [])=true:=by kernel_rfl
theorem plw_inPlace:(Rows.playWrongRow.inPlace == Tryz.prog.inPlace 4)=true:=by kernel_rfl
theorem plw_unf:(Rows.playWrongRow.unfollowed == Tryz.prog.unfollowed 4)=true:=by kernel_rfl
theorem plw_rec:(Rows.playWrongRow.recurses == Tryz.prog.recurses 4)=true:=by kernel_rfl
theorem plw_named:(Rows.playWrongRow.named == Tryz.prog.varsNamed 4)=true:=by kernel_rfl
theorem plw_maps:(Rows.playWrongRow.maps == (Tryz.f4.params.toList++Rows.playWrongSpec.plain.varTypes Tryz.prog).any (Tryz.prog.mapsRec ·))=true:=by kernel_rfl
theorem plw_ifaces:(Rows.playWrongRow.ifaces == (Tryz.f4.params.toList++Rows.playWrongSpec.plain.varTypes Tryz.prog).any (Tryz.prog.ifacesRec ·))=true:=by kernel_rfl
theorem plw_mapsOut:(Rows.playWrongRow.mapsOut == Tryz.prog.mapsAmong Tryz.f4.resultTypes.toList)=true:=by kernel_rfl
theorem plw_loops:(Rows.playWrongRow.loops == (Tryz.f4.params.toList++Rows.playWrongSpec.plain.varTypes Tryz.prog).any (Tryz.prog.loopsFrom ·))=true:=by kernel_rfl
theorem plw_wide:(Rows.playWrongRow.wideKeys == (Tryz.f4.params.toList++Rows.playWrongSpec.plain.varTypes Tryz.prog++Tryz.f4.resultTypes.toList).any (Tryz.prog.wideKeysFrom ·))=true:=by kernel_rfl
theorem plw_vread:Rows.playWrongSpec.vars.all (Tryz.prog.varReadable ·)=true:=by kernel_rfl
theorem plw_rread:Tryz.f4.resultTypes.all (fun t=>Tryz.prog.readableRec t&&decide (t<Tryz.prog.types.size))=true:=by kernel_rfl
theorem plw_ifOut:(Rows.playWrongRow.ifacesOut == Tryz.f4.resultTypes.toList.any (Tryz.prog.ifacesRec ·))=true:=by kernel_rfl
theorem plw_loOut:(Rows.playWrongRow.loopsOut == Tryz.f4.resultTypes.toList.any (Tryz.prog.loopsFrom ·))=true:=by kernel_rfl
theorem plw_short:Rows.playWrongRow.shortTexts.isNone=true:=by kernel_rfl
theorem plw_kinds:(Rows.playWrongRow.kinds == (if Rows.playWrongRow.domain.isEmpty then [] else Tryz.f4.params.toList.map fun t=>match Tryz.prog.underlying t with | some (.int k)=>some k | _=>none))=true:=by kernel_rfl
theorem plw_pinned:(Rows.playWrongRow.pinned == Rows.playWrongRow.pinnedBy)=true:=by kernel_rfl
theorem plw_veiled:(Rows.playWrongRow.veiled == (Tryz.f4.params.toList++Rows.playWrongSpec.plain.varTypes Tryz.prog++Tryz.f4.resultTypes.toList).any (Tryz.prog.veiledRec ·))=true:=by kernel_rfl
theorem plw_vfits:Rows.playWrongRow.veiledFits Tryz.prog Tryz.f4.params.toList (Tryz.f4.params.toList++Rows.playWrongSpec.plain.varTypes Tryz.prog++Tryz.f4.resultTypes.toList)=true:=by kernel_rfl
theorem plw_joined:joinedFacts Tryz.prog 4 Tryz.f4 Rows.playWrongSpec Rows.playWrongRow=true:=by
 unfold joinedFacts
 exact (aT (aT (aT (aT (aT (aT (aT (aT (aT (aT (aT (aT (aT (aT (aT (aT (aT (aT (aT (aT (aT (aT (aT (aT (aT (aT (aT (aT (aT (aT (aT plw_wf g_laid) g_mapsRowed) plw_readable) plw_tie) plw_stops0) g_stops) plw_knobs0) g_knobs) plw_inPlace) plw_unf) plw_rec) plw_named) plw_maps) plw_ifaces) plw_mapsOut) plw_loops) plw_wide) plw_vread) plw_rread) plw_ifOut) plw_loOut) g_plainKeys) plw_short) g_heard) g_enter) g_lifted) g_make) plw_kinds) plw_pinned) plw_veiled) plw_vfits)
end Go.Proofs.YtcjochjiegiliaaGreat
