/- Parts of the proof: LawIjF: each statement bears its own conditions. -/
import Derived.Test.YtcjochjiegiliaaGreatIrFn3
namespace Go.Proofs.YtcjochjiegiliaaGreat
open Go
set_option maxRecDepth 1000000
theorem ijo_wf:(Rows.indepJoinsRow.wf (OpenSpec.ofChange Rows.indepJoinsSpec))=true:=by kernel_rfl
theorem ijo_readable:Tryz.f8.params.all (Tryz.prog.readableRec ·)=true:=by kernel_rfl
theorem ijo_tie:namedTie Tryz.prog Rows.indepJoinsRow.named Rows.indepJoinsSpec.vars=true:=by kernel_rfl
theorem ijo_stops0:(Rows.indepJoinsRow.stops == [])=true:=by kernel_rfl
theorem ijo_knobs0:(Rows.indepJoinsRow.knobs == [])=true:=by kernel_rfl
theorem ijo_inPlace:(Rows.indepJoinsRow.inPlace == Tryz.prog.inPlace 8)=true:=by kernel_rfl
theorem ijo_unf:(Rows.indepJoinsRow.unfollowed == Tryz.prog.unfollowed 8)=true:=by kernel_rfl
theorem ijo_rec:(Rows.indepJoinsRow.recurses == Tryz.prog.recurses 8)=true:=by kernel_rfl
theorem ijo_named:(Rows.indepJoinsRow.named == Tryz.prog.varsNamed 8)=true:=by kernel_rfl
theorem ijo_maps:(Rows.indepJoinsRow.maps == (Tryz.f8.params.toList++Rows.indepJoinsSpec.plain.varTypes Tryz.prog).any (Tryz.prog.mapsRec ·))=true:=by kernel_rfl
theorem ijo_ifaces:(Rows.indepJoinsRow.ifaces == (Tryz.f8.params.toList++Rows.indepJoinsSpec.plain.varTypes Tryz.prog).any (Tryz.prog.ifacesRec ·))=true:=by kernel_rfl
theorem ijo_mapsOut:(Rows.indepJoinsRow.mapsOut == Tryz.prog.mapsAmong Tryz.f8.resultTypes.toList)=true:=by kernel_rfl
theorem ijo_loops:(Rows.indepJoinsRow.loops == (Tryz.f8.params.toList++Rows.indepJoinsSpec.plain.varTypes Tryz.prog).any (Tryz.prog.loopsFrom ·))=true:=by kernel_rfl
theorem ijo_wide:(Rows.indepJoinsRow.wideKeys == (Tryz.f8.params.toList++Rows.indepJoinsSpec.plain.varTypes Tryz.prog++Tryz.f8.resultTypes.toList).any (Tryz.prog.wideKeysFrom ·))=true:=by kernel_rfl
theorem ijo_vread:Rows.indepJoinsSpec.vars.all (Tryz.prog.varReadable ·)=true:=by kernel_rfl
theorem ijo_rread:Tryz.f8.resultTypes.all (fun t=>Tryz.prog.readableRec t&&decide (t<Tryz.prog.types.size))=true:=by kernel_rfl
theorem ijo_ifOut:(Rows.indepJoinsRow.ifacesOut == Tryz.f8.resultTypes.toList.any (Tryz.prog.ifacesRec ·))=true:=by kernel_rfl
theorem ijo_loOut:(Rows.indepJoinsRow.loopsOut == Tryz.f8.resultTypes.toList.any (Tryz.prog.loopsFrom ·))=true:=by kernel_rfl
theorem ijo_short:Rows.indepJoinsRow.shortTexts.isNone=true:=by kernel_rfl
theorem ijo_kinds:(Rows.indepJoinsRow.kinds == (if Rows.indepJoinsRow.domain.isEmpty then [] else Tryz.f8.params.toList.map fun t=>match Tryz.prog.underlying t with | some (.int k)=>some k | _=>none))=true:=by kernel_rfl
theorem ijo_pinned:(Rows.indepJoinsRow.pinned == Rows.indepJoinsRow.pinnedBy)=true:=by kernel_rfl
theorem ijo_veiled:(Rows.indepJoinsRow.veiled == (Tryz.f8.params.toList++Rows.indepJoinsSpec.plain.varTypes Tryz.prog++Tryz.f8.resultTypes.toList).any (Tryz.prog.veiledRec ·))=true:=by kernel_rfl
theorem ijo_vfits:Rows.indepJoinsRow.veiledFits Tryz.prog Tryz.f8.params.toList (Tryz.f8.params.toList++Rows.indepJoinsSpec.plain.varTypes Tryz.prog++Tryz.f8.resultTypes.toList)=true:=by kernel_rfl
theorem ijo_joined:joinedFacts Tryz.prog 8 Tryz.f8 Rows.indepJoinsSpec Rows.indepJoinsRow=true:=by
 unfold joinedFacts
 exact (aT (aT (aT (aT (aT (aT (aT (aT (aT (aT (aT (aT (aT (aT (aT (aT (aT (aT (aT (aT (aT (aT (aT (aT (aT (aT (aT (aT (aT (aT (aT ijo_wf g_laid) g_mapsRowed) ijo_readable) ijo_tie) ijo_stops0) g_stops) ijo_knobs0) g_knobs) ijo_inPlace) ijo_unf) ijo_rec) ijo_named) ijo_maps) ijo_ifaces) ijo_mapsOut) ijo_loops) ijo_wide) ijo_vread) ijo_rread) ijo_ifOut) ijo_loOut) g_plainKeys) ijo_short) g_heard) g_enter) g_lifted) g_make) ijo_kinds) ijo_pinned) ijo_veiled) ijo_vfits)
end Go.Proofs.YtcjochjiegiliaaGreat
