/- Parts of the proof: LawRkF: each statement bears its own conditions. -/
import Derived.Test.YtcjochjiegiliaaGreatRbFacts
namespace Go.Proofs.YtcjochjiegiliaaGreat
open Go
set_option maxRecDepth 1000000
theorem rk_wf : (Rows.replayBackRow.wf (OpenSpec.ofChange Rows.replayBackSpec)) = true := by kernel_rfl
theorem rk_readable : Tryz.f6.params.all (Tryz.prog.readableRec ·) = true := by kernel_rfl
theorem rk_tie : namedTie Tryz.prog Rows.replayBackRow.named Rows.replayBackSpec.vars = true := by kernel_rfl
theorem rk_stops0 : (Rows.replayBackRow.stops == []) = true := by kernel_rfl
theorem rk_knobs0 : (Rows.replayBackRow.knobs == []) = true := by kernel_rfl
theorem rk_inPlace : (Rows.replayBackRow.inPlace == Tryz.prog.inPlace 6) = true := by kernel_rfl
theorem rk_unf : (Rows.replayBackRow.unfollowed == Tryz.prog.unfollowed 6) = true := by kernel_rfl
theorem rk_rec : (Rows.replayBackRow.recurses == Tryz.prog.recurses 6) = true := by kernel_rfl
theorem rk_named : (Rows.replayBackRow.named == Tryz.prog.varsNamed 6) = true := by kernel_rfl
theorem rk_maps : (Rows.replayBackRow.maps == (Tryz.f6.params.toList ++ Rows.replayBackSpec.plain.varTypes Tryz.prog).any (Tryz.prog.mapsRec ·)) = true := by kernel_rfl
theorem rk_ifaces : (Rows.replayBackRow.ifaces == (Tryz.f6.params.toList ++ Rows.replayBackSpec.plain.varTypes Tryz.prog).any (Tryz.prog.ifacesRec ·)) = true := by kernel_rfl
theorem rk_mapsOut : (Rows.replayBackRow.mapsOut == Tryz.prog.mapsAmong Tryz.f6.resultTypes.toList) = true := by kernel_rfl
theorem rk_loops : (Rows.replayBackRow.loops == (Tryz.f6.params.toList ++ Rows.replayBackSpec.plain.varTypes Tryz.prog).any (Tryz.prog.loopsFrom ·)) = true := by kernel_rfl
theorem rk_wide : (Rows.replayBackRow.wideKeys == (Tryz.f6.params.toList ++ Rows.replayBackSpec.plain.varTypes Tryz.prog ++ Tryz.f6.resultTypes.toList).any (Tryz.prog.wideKeysFrom ·)) = true := by kernel_rfl
theorem rk_vread : Rows.replayBackSpec.vars.all (Tryz.prog.varReadable ·) = true := by kernel_rfl
theorem rk_rread : Tryz.f6.resultTypes.all (fun t => Tryz.prog.readableRec t && decide (t < Tryz.prog.types.size)) = true := by kernel_rfl
theorem rk_ifOut : (Rows.replayBackRow.ifacesOut == Tryz.f6.resultTypes.toList.any (Tryz.prog.ifacesRec ·)) = true := by kernel_rfl
theorem rk_loOut : (Rows.replayBackRow.loopsOut == Tryz.f6.resultTypes.toList.any (Tryz.prog.loopsFrom ·)) = true := by kernel_rfl
theorem rk_short : Rows.replayBackRow.shortTexts.isNone = true := by kernel_rfl
theorem rk_kinds : (Rows.replayBackRow.kinds == (if Rows.replayBackRow.domain.isEmpty then [] else Tryz.f6.params.toList.map fun t => match Tryz.prog.underlying t with | some (.int k) => some k | _ => none)) = true := by kernel_rfl
theorem rk_pinned : (Rows.replayBackRow.pinned == Rows.replayBackRow.pinnedBy) = true := by kernel_rfl
theorem rk_veiled : (Rows.replayBackRow.veiled == (Tryz.f6.params.toList ++ Rows.replayBackSpec.plain.varTypes Tryz.prog ++ Tryz.f6.resultTypes.toList).any (Tryz.prog.veiledRec ·)) = true := by kernel_rfl
theorem rk_vfits : Rows.replayBackRow.veiledFits Tryz.prog Tryz.f6.params.toList (Tryz.f6.params.toList ++ Rows.replayBackSpec.plain.varTypes Tryz.prog ++ Tryz.f6.resultTypes.toList) = true := by kernel_rfl
theorem rk_joined : joinedFacts Tryz.prog 6 Tryz.f6 Rows.replayBackSpec Rows.replayBackRow = true := by
 unfold joinedFacts
 exact (aT (aT (aT (aT (aT (aT (aT (aT (aT (aT (aT (aT (aT (aT (aT (aT (aT (aT (aT (aT (aT (aT (aT (aT (aT (aT (aT (aT (aT (aT (aT rk_wf g_laid) g_mapsRowed) rk_readable) rk_tie) rk_stops0) g_stops) rk_knobs0) g_knobs) rk_inPlace) rk_unf) rk_rec) rk_named) rk_maps) rk_ifaces) rk_mapsOut) rk_loops) rk_wide) rk_vread) rk_rread) rk_ifOut) rk_loOut) g_plainKeys) rk_short) g_heard) g_enter) g_lifted) g_make) rk_kinds) rk_pinned) rk_veiled) rk_vfits)
end Go.Proofs.YtcjochjiegiliaaGreat
