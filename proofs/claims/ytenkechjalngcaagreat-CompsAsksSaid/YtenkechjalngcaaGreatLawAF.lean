/- Closed facts of the row of CompsAsks, one by one. -/
import Derived.Test.YtenkechjalngcaaGreatSeatA
/-! part CompsAsksF -/
namespace Go.Proofs.YtenkechjalngcaaGreat
open Go
set_option maxRecDepth 1000000
theorem asks_wf : (Rows.compsAsksRow.wf (OpenSpec.ofChange Rows.compsAsksSpec)) = true := by kernel_rfl
theorem asks_readable : Tryz.f3.params.all (Tryz.prog.readableRec ·) = true := by kernel_rfl
theorem asks_tie : namedTie Tryz.prog Rows.compsAsksRow.named Rows.compsAsksSpec.vars = true := by kernel_rfl
theorem asks_stops0 : (Rows.compsAsksRow.stops == []) = true := by kernel_rfl
theorem asks_knobs0 : (Rows.compsAsksRow.knobs == []) = true := by kernel_rfl
theorem asks_inPlace : (Rows.compsAsksRow.inPlace == Tryz.prog.inPlace 3) = true := by kernel_rfl
theorem asks_unf : (Rows.compsAsksRow.unfollowed == Tryz.prog.unfollowed 3) = true := by kernel_rfl
theorem asks_rec : (Rows.compsAsksRow.recurses == Tryz.prog.recurses 3) = true := by kernel_rfl
theorem asks_named : (Rows.compsAsksRow.named == Tryz.prog.varsNamed 3) = true := by kernel_rfl
theorem asks_maps : (Rows.compsAsksRow.maps == (Tryz.f3.params.toList ++ Rows.compsAsksSpec.plain.varTypes Tryz.prog).any (Tryz.prog.mapsRec ·)) = true := by kernel_rfl
theorem asks_ifaces : (Rows.compsAsksRow.ifaces == (Tryz.f3.params.toList ++ Rows.compsAsksSpec.plain.varTypes Tryz.prog).any (Tryz.prog.ifacesRec ·)) = true := by kernel_rfl
theorem asks_mapsOut : (Rows.compsAsksRow.mapsOut == Tryz.prog.mapsAmong Tryz.f3.resultTypes.toList) = true := by kernel_rfl
theorem asks_loops : (Rows.compsAsksRow.loops == (Tryz.f3.params.toList ++ Rows.compsAsksSpec.plain.varTypes Tryz.prog).any (Tryz.prog.loopsFrom ·)) = true := by kernel_rfl
theorem asks_wide : (Rows.compsAsksRow.wideKeys == (Tryz.f3.params.toList ++ Rows.compsAsksSpec.plain.varTypes Tryz.prog ++ Tryz.f3.resultTypes.toList).any (Tryz.prog.wideKeysFrom ·)) = true := by kernel_rfl
theorem asks_vread : Rows.compsAsksSpec.vars.all (Tryz.prog.varReadable ·) = true := by kernel_rfl
theorem asks_rread : Tryz.f3.resultTypes.all (fun t => Tryz.prog.readableRec t && decide (t < Tryz.prog.types.size)) = true := by kernel_rfl
theorem asks_ifOut : (Rows.compsAsksRow.ifacesOut == Tryz.f3.resultTypes.toList.any (Tryz.prog.ifacesRec ·)) = true := by kernel_rfl
theorem asks_loOut : (Rows.compsAsksRow.loopsOut == Tryz.f3.resultTypes.toList.any (Tryz.prog.loopsFrom ·)) = true := by kernel_rfl
theorem asks_short : Rows.compsAsksRow.shortTexts.isNone = true := by kernel_rfl
theorem asks_kinds : (Rows.compsAsksRow.kinds == (if Rows.compsAsksRow.domain.isEmpty then [] else Tryz.f3.params.toList.map fun t => match Tryz.prog.underlying t with | some (.int k) => some k | _ => none)) = true := by kernel_rfl
theorem asks_pinned : (Rows.compsAsksRow.pinned == Rows.compsAsksRow.pinnedBy) = true := by kernel_rfl
theorem asks_veiled : (Rows.compsAsksRow.veiled == (Tryz.f3.params.toList ++ Rows.compsAsksSpec.plain.varTypes Tryz.prog ++ Tryz.f3.resultTypes.toList).any (Tryz.prog.veiledRec ·)) = true := by kernel_rfl
theorem asks_vfits : Rows.compsAsksRow.veiledFits Tryz.prog Tryz.f3.params.toList (Tryz.f3.params.toList ++ Rows.compsAsksSpec.plain.varTypes Tryz.prog ++ Tryz.f3.resultTypes.toList) = true := by kernel_rfl
theorem asks_joined : joinedFacts Tryz.prog 3 Tryz.f3 Rows.compsAsksSpec Rows.compsAsksRow = true := by
  unfold joinedFacts
  exact (aT (aT (aT (aT (aT (aT (aT (aT (aT (aT (aT (aT (aT (aT (aT (aT (aT (aT (aT (aT (aT (aT (aT (aT (aT (aT (aT (aT (aT (aT (aT asks_wf g_laid) g_mapsRowed) asks_readable) asks_tie) asks_stops0) g_stops) asks_knobs0) g_knobs) asks_inPlace) asks_unf) asks_rec) asks_named) asks_maps) asks_ifaces) asks_mapsOut) asks_loops) asks_wide) asks_vread) asks_rread) asks_ifOut) asks_loOut) g_plainKeys) asks_short) g_heard) g_enter) g_lifted) g_make) asks_kinds) asks_pinned) asks_veiled) asks_vfits)
end Go.Proofs.YtenkechjalngcaaGreat
