/- Parts of the proof: LawHOF: each statement bears its own conditions. -/
import Derived.Test.YtenkechjalngcaaGreatHFn
namespace Go.Proofs.YtenkechjalngcaaGreat
open Go
set_option maxRecDepth 1000000
theorem honly_wf : (Rows.hopsOnlyRow.wf (OpenSpec.ofChange Rows.hopsOnlySpec)) = true := by kernel_rfl
theorem honly_readable : Tryz.f6.params.all (Tryz.prog.readableRec ·) = true := by kernel_rfl
theorem honly_tie : namedTie Tryz.prog Rows.hopsOnlyRow.named Rows.hopsOnlySpec.vars = true := by kernel_rfl
theorem honly_stops0 : (Rows.hopsOnlyRow.stops == []) = true := by kernel_rfl
theorem honly_knobs0 : (Rows.hopsOnlyRow.knobs == []) = true := by kernel_rfl
theorem honly_inPlace : (Rows.hopsOnlyRow.inPlace == Tryz.prog.inPlace 6) = true := by kernel_rfl
theorem honly_unf : (Rows.hopsOnlyRow.unfollowed == Tryz.prog.unfollowed 6) = true := by kernel_rfl
theorem honly_rec : (Rows.hopsOnlyRow.recurses == Tryz.prog.recurses 6) = true := by kernel_rfl
theorem honly_named : (Rows.hopsOnlyRow.named == Tryz.prog.varsNamed 6) = true := by kernel_rfl
theorem honly_maps : (Rows.hopsOnlyRow.maps == (Tryz.f6.params.toList ++ Rows.hopsOnlySpec.plain.varTypes Tryz.prog).any (Tryz.prog.mapsRec ·)) = true := by kernel_rfl
theorem honly_ifaces : (Rows.hopsOnlyRow.ifaces == (Tryz.f6.params.toList ++ Rows.hopsOnlySpec.plain.varTypes Tryz.prog).any (Tryz.prog.ifacesRec ·)) = true := by kernel_rfl
theorem honly_mapsOut : (Rows.hopsOnlyRow.mapsOut == Tryz.prog.mapsAmong Tryz.f6.resultTypes.toList) = true := by kernel_rfl
theorem honly_loops : (Rows.hopsOnlyRow.loops == (Tryz.f6.params.toList ++ Rows.hopsOnlySpec.plain.varTypes Tryz.prog).any (Tryz.prog.loopsFrom ·)) = true := by kernel_rfl
theorem honly_wide : (Rows.hopsOnlyRow.wideKeys == (Tryz.f6.params.toList ++ Rows.hopsOnlySpec.plain.varTypes Tryz.prog ++ Tryz.f6.resultTypes.toList).any (Tryz.prog.wideKeysFrom ·)) = true := by kernel_rfl
theorem honly_vread : Rows.hopsOnlySpec.vars.all (Tryz.prog.varReadable ·) = true := by kernel_rfl
theorem honly_rread : Tryz.f6.resultTypes.all (fun t => Tryz.prog.readableRec t && decide (t < Tryz.prog.types.size)) = true := by kernel_rfl
theorem honly_ifOut : (Rows.hopsOnlyRow.ifacesOut == Tryz.f6.resultTypes.toList.any (Tryz.prog.ifacesRec ·)) = true := by kernel_rfl
theorem honly_loOut : (Rows.hopsOnlyRow.loopsOut == Tryz.f6.resultTypes.toList.any (Tryz.prog.loopsFrom ·)) = true := by kernel_rfl
theorem honly_short : Rows.hopsOnlyRow.shortTexts.isNone = true := by kernel_rfl
theorem honly_kinds : (Rows.hopsOnlyRow.kinds == (if Rows.hopsOnlyRow.domain.isEmpty then [] else Tryz.f6.params.toList.map fun t => match Tryz.prog.underlying t with | some (.int k) => some k | _ => none)) = true := by kernel_rfl
theorem honly_pinned : (Rows.hopsOnlyRow.pinned == Rows.hopsOnlyRow.pinnedBy) = true := by kernel_rfl
theorem honly_veiled : (Rows.hopsOnlyRow.veiled == (Tryz.f6.params.toList ++ Rows.hopsOnlySpec.plain.varTypes Tryz.prog ++ Tryz.f6.resultTypes.toList).any (Tryz.prog.veiledRec ·)) = true := by kernel_rfl
theorem honly_vfits : Rows.hopsOnlyRow.veiledFits Tryz.prog Tryz.f6.params.toList (Tryz.f6.params.toList ++ Rows.hopsOnlySpec.plain.varTypes Tryz.prog ++ Tryz.f6.resultTypes.toList) = true := by kernel_rfl
theorem honly_joined : joinedFacts Tryz.prog 6 Tryz.f6 Rows.hopsOnlySpec Rows.hopsOnlyRow = true := by
  unfold joinedFacts
  exact (aT (aT (aT (aT (aT (aT (aT (aT (aT (aT (aT (aT (aT (aT (aT (aT (aT (aT (aT (aT (aT (aT (aT (aT (aT (aT (aT (aT (aT (aT (aT honly_wf g_laid) g_mapsRowed) honly_readable) honly_tie) honly_stops0) g_stops) honly_knobs0) g_knobs) honly_inPlace) honly_unf) honly_rec) honly_named) honly_maps) honly_ifaces) honly_mapsOut) honly_loops) honly_wide) honly_vread) honly_rread) honly_ifOut) honly_loOut) g_plainKeys) honly_short) g_heard) g_enter) g_lifted) g_make) honly_kinds) honly_pinned) honly_veiled) honly_vfits)
end Go.Proofs.YtenkechjalngcaaGreat
