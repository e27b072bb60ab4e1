/- Parts of the proof: LawF: each statement bears its own conditions. -/
import Derived.Test.YtenkechjalngcaaGreatFacts
/-! part HopsWaysF -/
namespace Go.Proofs.YtenkechjalngcaaGreat
open Go
set_option maxRecDepth 1000000
theorem hw_wf : (Rows.hopsWaysRow.wf (OpenSpec.ofChange Rows.hopsWaysSpec)) = true := by kernel_rfl
theorem hw_readable : Tryz.f7.params.all (Tryz.prog.readableRec ·) = true := by kernel_rfl
theorem hw_tie : namedTie Tryz.prog Rows.hopsWaysRow.named Rows.hopsWaysSpec.vars = true := by kernel_rfl
theorem hw_stops0 : (Rows.hopsWaysRow.stops == []) = true := by kernel_rfl
theorem hw_knobs0 : (Rows.hopsWaysRow.knobs == []) = true := by kernel_rfl
theorem hw_inPlace : (Rows.hopsWaysRow.inPlace == Tryz.prog.inPlace 7) = true := by kernel_rfl
theorem hw_unf : (Rows.hopsWaysRow.unfollowed == Tryz.prog.unfollowed 7) = true := by kernel_rfl
theorem hw_rec : (Rows.hopsWaysRow.recurses == Tryz.prog.recurses 7) = true := by kernel_rfl
theorem hw_named : (Rows.hopsWaysRow.named == Tryz.prog.varsNamed 7) = true := by kernel_rfl
theorem hw_maps : (Rows.hopsWaysRow.maps == (Tryz.f7.params.toList ++ Rows.hopsWaysSpec.plain.varTypes Tryz.prog).any (Tryz.prog.mapsRec ·)) = true := by kernel_rfl
theorem hw_ifaces : (Rows.hopsWaysRow.ifaces == (Tryz.f7.params.toList ++ Rows.hopsWaysSpec.plain.varTypes Tryz.prog).any (Tryz.prog.ifacesRec ·)) = true := by kernel_rfl
theorem hw_mapsOut : (Rows.hopsWaysRow.mapsOut == Tryz.prog.mapsAmong Tryz.f7.resultTypes.toList) = true := by kernel_rfl
theorem hw_loops : (Rows.hopsWaysRow.loops == (Tryz.f7.params.toList ++ Rows.hopsWaysSpec.plain.varTypes Tryz.prog).any (Tryz.prog.loopsFrom ·)) = true := by kernel_rfl
theorem hw_wide : (Rows.hopsWaysRow.wideKeys == (Tryz.f7.params.toList ++ Rows.hopsWaysSpec.plain.varTypes Tryz.prog ++ Tryz.f7.resultTypes.toList).any (Tryz.prog.wideKeysFrom ·)) = true := by kernel_rfl
theorem hw_vread : Rows.hopsWaysSpec.vars.all (Tryz.prog.varReadable ·) = true := by kernel_rfl
theorem hw_rread : Tryz.f7.resultTypes.all (fun t => Tryz.prog.readableRec t && decide (t < Tryz.prog.types.size)) = true := by kernel_rfl
theorem hw_ifOut : (Rows.hopsWaysRow.ifacesOut == Tryz.f7.resultTypes.toList.any (Tryz.prog.ifacesRec ·)) = true := by kernel_rfl
theorem hw_loOut : (Rows.hopsWaysRow.loopsOut == Tryz.f7.resultTypes.toList.any (Tryz.prog.loopsFrom ·)) = true := by kernel_rfl
theorem hw_short : Rows.hopsWaysRow.shortTexts.isNone = true := by kernel_rfl
theorem hw_kinds : (Rows.hopsWaysRow.kinds == (if Rows.hopsWaysRow.domain.isEmpty then [] else Tryz.f7.params.toList.map fun t => match Tryz.prog.underlying t with | some (.int k) => some k | _ => none)) = true := by kernel_rfl
theorem hw_pinned : (Rows.hopsWaysRow.pinned == Rows.hopsWaysRow.pinnedBy) = true := by kernel_rfl
theorem hw_veiled : (Rows.hopsWaysRow.veiled == (Tryz.f7.params.toList ++ Rows.hopsWaysSpec.plain.varTypes Tryz.prog ++ Tryz.f7.resultTypes.toList).any (Tryz.prog.veiledRec ·)) = true := by kernel_rfl
theorem hw_vfits : Rows.hopsWaysRow.veiledFits Tryz.prog Tryz.f7.params.toList (Tryz.f7.params.toList ++ Rows.hopsWaysSpec.plain.varTypes Tryz.prog ++ Tryz.f7.resultTypes.toList) = true := by kernel_rfl
theorem hw_joined : joinedFacts Tryz.prog 7 Tryz.f7 Rows.hopsWaysSpec Rows.hopsWaysRow = true := by
  unfold joinedFacts
  exact (aT (aT (aT (aT (aT (aT (aT (aT (aT (aT (aT (aT (aT (aT (aT (aT (aT (aT (aT (aT (aT (aT (aT (aT (aT (aT (aT (aT (aT (aT (aT hw_wf g_laid) g_mapsRowed) hw_readable) hw_tie) hw_stops0) g_stops) hw_knobs0) g_knobs) hw_inPlace) hw_unf) hw_rec) hw_named) hw_maps) hw_ifaces) hw_mapsOut) hw_loops) hw_wide) hw_vread) hw_rread) hw_ifOut) hw_loOut) g_plainKeys) hw_short) g_heard) g_enter) g_lifted) g_make) hw_kinds) hw_pinned) hw_veiled) hw_vfits)
end Go.Proofs.YtenkechjalngcaaGreat
