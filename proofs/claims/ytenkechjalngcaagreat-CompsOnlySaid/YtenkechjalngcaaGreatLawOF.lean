/- Closed facts of the row of CompsOnly, one by one. -/
import Derived.Test.YtenkechjalngcaaGreatSeatO
/-! part CompsOnlyF -/
namespace Go.Proofs.YtenkechjalngcaaGreat
open Go
set_option maxRecDepth 1000000
theorem only_wf : (Rows.compsOnlyRow.wf (OpenSpec.ofChange Rows.compsOnlySpec)) = true := by kernel_rfl
theorem only_readable : Tryz.f4.params.all (Tryz.prog.readableRec ·) = true := by kernel_rfl
theorem only_tie : namedTie Tryz.prog Rows.compsOnlyRow.named Rows.compsOnlySpec.vars = true := by kernel_rfl
theorem only_stops0 : (Rows.compsOnlyRow.stops == []) = true := by kernel_rfl
theorem only_knobs0 : (Rows.compsOnlyRow.knobs == []) = true := by kernel_rfl
theorem only_inPlace : (Rows.compsOnlyRow.inPlace == Tryz.prog.inPlace 4) = true := by kernel_rfl
theorem only_unf : (Rows.compsOnlyRow.unfollowed == Tryz.prog.unfollowed 4) = true := by kernel_rfl
theorem only_rec : (Rows.compsOnlyRow.recurses == Tryz.prog.recurses 4) = true := by kernel_rfl
theorem only_named : (Rows.compsOnlyRow.named == Tryz.prog.varsNamed 4) = true := by kernel_rfl
theorem only_maps : (Rows.compsOnlyRow.maps == (Tryz.f4.params.toList ++ Rows.compsOnlySpec.plain.varTypes Tryz.prog).any (Tryz.prog.mapsRec ·)) = true := by kernel_rfl
theorem only_ifaces : (Rows.compsOnlyRow.ifaces == (Tryz.f4.params.toList ++ Rows.compsOnlySpec.plain.varTypes Tryz.prog).any (Tryz.prog.ifacesRec ·)) = true := by kernel_rfl
theorem only_mapsOut : (Rows.compsOnlyRow.mapsOut == Tryz.prog.mapsAmong Tryz.f4.resultTypes.toList) = true := by kernel_rfl
theorem only_loops : (Rows.compsOnlyRow.loops == (Tryz.f4.params.toList ++ Rows.compsOnlySpec.plain.varTypes Tryz.prog).any (Tryz.prog.loopsFrom ·)) = true := by kernel_rfl
theorem only_wide : (Rows.compsOnlyRow.wideKeys == (Tryz.f4.params.toList ++ Rows.compsOnlySpec.plain.varTypes Tryz.prog ++ Tryz.f4.resultTypes.toList).any (Tryz.prog.wideKeysFrom ·)) = true := by kernel_rfl
theorem only_vread : Rows.compsOnlySpec.vars.all (Tryz.prog.varReadable ·) = true := by kernel_rfl
theorem only_rread : Tryz.f4.resultTypes.all (fun t => Tryz.prog.readableRec t && decide (t < Tryz.prog.types.size)) = true := by kernel_rfl
theorem only_ifOut : (Rows.compsOnlyRow.ifacesOut == Tryz.f4.resultTypes.toList.any (Tryz.prog.ifacesRec ·)) = true := by kernel_rfl
theorem only_loOut : (Rows.compsOnlyRow.loopsOut == Tryz.f4.resultTypes.toList.any (Tryz.prog.loopsFrom ·)) = true := by kernel_rfl
theorem only_short : Rows.compsOnlyRow.shortTexts.isNone = true := by kernel_rfl
theorem only_kinds : (Rows.compsOnlyRow.kinds == (if Rows.compsOnlyRow.domain.isEmpty then [] else Tryz.f4.params.toList.map fun t => match Tryz.prog.underlying t with | some (.int k) => some k | _ => none)) = true := by kernel_rfl
theorem only_pinned : (Rows.compsOnlyRow.pinned == Rows.compsOnlyRow.pinnedBy) = true := by kernel_rfl
theorem only_veiled : (Rows.compsOnlyRow.veiled == (Tryz.f4.params.toList ++ Rows.compsOnlySpec.plain.varTypes Tryz.prog ++ Tryz.f4.resultTypes.toList).any (Tryz.prog.veiledRec ·)) = true := by kernel_rfl
theorem only_vfits : Rows.compsOnlyRow.veiledFits Tryz.prog Tryz.f4.params.toList (Tryz.f4.params.toList ++ Rows.compsOnlySpec.plain.varTypes Tryz.prog ++ Tryz.f4.resultTypes.toList) = true := by kernel_rfl
theorem only_joined : joinedFacts Tryz.prog 4 Tryz.f4 Rows.compsOnlySpec Rows.compsOnlyRow = true := by
  unfold joinedFacts
  exact (aT (aT (aT (aT (aT (aT (aT (aT (aT (aT (aT (aT (aT (aT (aT (aT (aT (aT (aT (aT (aT (aT (aT (aT (aT (aT (aT (aT (aT (aT (aT only_wf g_laid) g_mapsRowed) only_readable) only_tie) only_stops0) g_stops) only_knobs0) g_knobs) only_inPlace) only_unf) only_rec) only_named) only_maps) only_ifaces) only_mapsOut) only_loops) only_wide) only_vread) only_rread) only_ifOut) only_loOut) g_plainKeys) only_short) g_heard) g_enter) g_lifted) g_make) only_kinds) only_pinned) only_veiled) only_vfits)
end Go.Proofs.YtenkechjalngcaaGreat
