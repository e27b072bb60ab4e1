/- Parts of the proof: LawJF: each statement bears its own conditions. -/
import Derived.Test.YtenkechjalngcaaGreatSeatJ
/-! part CompsJoinsF -/
namespace Go.Proofs.YtenkechjalngcaaGreat
open Go
set_option maxRecDepth 1000000
theorem joins_wf : (Rows.compsJoinsRow.wf (OpenSpec.ofChange Rows.compsJoinsSpec)) = true := by kernel_rfl
theorem joins_readable : Tryz.f5.params.all (Tryz.prog.readableRec ·) = true := by kernel_rfl
theorem joins_tie : namedTie Tryz.prog Rows.compsJoinsRow.named Rows.compsJoinsSpec.vars = true := by kernel_rfl
theorem joins_stops0 : (Rows.compsJoinsRow.stops == []) = true := by kernel_rfl
theorem joins_knobs0 : (Rows.compsJoinsRow.knobs == []) = true := by kernel_rfl
theorem joins_inPlace : (Rows.compsJoinsRow.inPlace == Tryz.prog.inPlace 5) = true := by kernel_rfl
theorem joins_unf : (Rows.compsJoinsRow.unfollowed == Tryz.prog.unfollowed 5) = true := by kernel_rfl
theorem joins_rec : (Rows.compsJoinsRow.recurses == Tryz.prog.recurses 5) = true := by kernel_rfl
theorem joins_named : (Rows.compsJoinsRow.named == Tryz.prog.varsNamed 5) = true := by kernel_rfl
theorem joins_maps : (Rows.compsJoinsRow.maps == (Tryz.f5.params.toList ++ Rows.compsJoinsSpec.plain.varTypes Tryz.prog).any (Tryz.prog.mapsRec ·)) = true := by kernel_rfl
theorem joins_ifaces : (Rows.compsJoinsRow.ifaces == (Tryz.f5.params.toList ++ Rows.compsJoinsSpec.plain.varTypes Tryz.prog).any (Tryz.prog.ifacesRec ·)) = true := by kernel_rfl
theorem joins_mapsOut : (Rows.compsJoinsRow.mapsOut == Tryz.prog.mapsAmong Tryz.f5.resultTypes.toList) = true := by kernel_rfl
theorem joins_loops : (Rows.compsJoinsRow.loops == (Tryz.f5.params.toList ++ Rows.compsJoinsSpec.plain.varTypes Tryz.prog).any (Tryz.prog.loopsFrom ·)) = true := by kernel_rfl
theorem joins_wide : (Rows.compsJoinsRow.wideKeys == (Tryz.f5.params.toList ++ Rows.compsJoinsSpec.plain.varTypes Tryz.prog ++ Tryz.f5.resultTypes.toList).any (Tryz.prog.wideKeysFrom ·)) = true := by kernel_rfl
theorem joins_vread : Rows.compsJoinsSpec.vars.all (Tryz.prog.varReadable ·) = true := by kernel_rfl
theorem joins_rread : Tryz.f5.resultTypes.all (fun t => Tryz.prog.readableRec t && decide (t < Tryz.prog.types.size)) = true := by kernel_rfl
theorem joins_ifOut : (Rows.compsJoinsRow.ifacesOut == Tryz.f5.resultTypes.toList.any (Tryz.prog.ifacesRec ·)) = true := by kernel_rfl
theorem joins_loOut : (Rows.compsJoinsRow.loopsOut == Tryz.f5.resultTypes.toList.any (Tryz.prog.loopsFrom ·)) = true := by kernel_rfl
theorem joins_short : Rows.compsJoinsRow.shortTexts.isNone = true := by kernel_rfl
theorem joins_kinds : (Rows.compsJoinsRow.kinds == (if Rows.compsJoinsRow.domain.isEmpty then [] else Tryz.f5.params.toList.map fun t => match Tryz.prog.underlying t with | some (.int k) => some k | _ => none)) = true := by kernel_rfl
theorem joins_pinned : (Rows.compsJoinsRow.pinned == Rows.compsJoinsRow.pinnedBy) = true := by kernel_rfl
theorem joins_veiled : (Rows.compsJoinsRow.veiled == (Tryz.f5.params.toList ++ Rows.compsJoinsSpec.plain.varTypes Tryz.prog ++ Tryz.f5.resultTypes.toList).any (Tryz.prog.veiledRec ·)) = true := by kernel_rfl
theorem joins_vfits : Rows.compsJoinsRow.veiledFits Tryz.prog Tryz.f5.params.toList (Tryz.f5.params.toList ++ Rows.compsJoinsSpec.plain.varTypes Tryz.prog ++ Tryz.f5.resultTypes.toList) = true := by kernel_rfl
theorem joins_joined : joinedFacts Tryz.prog 5 Tryz.f5 Rows.compsJoinsSpec Rows.compsJoinsRow = true := by
  unfold joinedFacts
  exact (aT (aT (aT (aT (aT (aT (aT (aT (aT (aT (aT (aT (aT (aT (aT (aT (aT (aT (aT (aT (aT (aT (aT (aT (aT (aT (aT (aT (aT (aT (aT joins_wf g_laid) g_mapsRowed) joins_readable) joins_tie) joins_stops0) g_stops) joins_knobs0) g_knobs) joins_inPlace) joins_unf) joins_rec) joins_named) joins_maps) joins_ifaces) joins_mapsOut) joins_loops) joins_wide) joins_vread) joins_rread) joins_ifOut) joins_loOut) g_plainKeys) joins_short) g_heard) g_enter) g_lifted) g_make) joins_kinds) joins_pinned) joins_veiled) joins_vfits)
end Go.Proofs.YtenkechjalngcaaGreat
