/- Parts of the proof: LawPOF: each statement bears its own conditions. -/
import Derived.Test.YtfebipifehfjlaaGreatPpFn2
namespace Go.Proofs.YtfebipifehfjlaaGreat
open Go
set_option maxRecDepth 1000000
theorem pon_wf : (Rows.pathsOnlyRow.wf (OpenSpec.ofChange Rows.pathsOnlySpec)) = true := by kernel_rfl
theorem pon_readable : Tryz.f4.params.all (Tryz.prog.readableRec ·) = true := by kernel_rfl
theorem pon_tie : namedTie Tryz.prog Rows.pathsOnlyRow.named Rows.pathsOnlySpec.vars = true := by kernel_rfl
theorem pon_stops0 : (Rows.pathsOnlyRow.stops == []) = true := by kernel_rfl
theorem pon_knobs0 : (Rows.pathsOnlyRow.knobs == []) = true := by kernel_rfl
theorem pon_inPlace : (Rows.pathsOnlyRow.inPlace == Tryz.prog.inPlace 4) = true := by kernel_rfl
theorem pon_unf : (Rows.pathsOnlyRow.unfollowed == Tryz.prog.unfollowed 4) = true := by kernel_rfl
theorem pon_rec : (Rows.pathsOnlyRow.recurses == Tryz.prog.recurses 4) = true := by kernel_rfl
theorem pon_named : (Rows.pathsOnlyRow.named == Tryz.prog.varsNamed 4) = true := by kernel_rfl
theorem pon_maps : (Rows.pathsOnlyRow.maps == (Tryz.f4.params.toList ++ Rows.pathsOnlySpec.plain.varTypes Tryz.prog).any (Tryz.prog.mapsRec ·)) = true := by kernel_rfl
theorem pon_ifaces : (Rows.pathsOnlyRow.ifaces == (Tryz.f4.params.toList ++ Rows.pathsOnlySpec.plain.varTypes Tryz.prog).any (Tryz.prog.ifacesRec ·)) = true := by kernel_rfl
theorem pon_mapsOut : (Rows.pathsOnlyRow.mapsOut == Tryz.prog.mapsAmong Tryz.f4.resultTypes.toList) = true := by kernel_rfl
theorem pon_loops : (Rows.pathsOnlyRow.loops == (Tryz.f4.params.toList ++ Rows.pathsOnlySpec.plain.varTypes Tryz.prog).any (Tryz.prog.loopsFrom ·)) = true := by kernel_rfl
theorem pon_wide : (Rows.pathsOnlyRow.wideKeys == (Tryz.f4.params.toList ++ Rows.pathsOnlySpec.plain.varTypes Tryz.prog ++ Tryz.f4.resultTypes.toList).any (Tryz.prog.wideKeysFrom ·)) = true := by kernel_rfl
theorem pon_vread : Rows.pathsOnlySpec.vars.all (Tryz.prog.varReadable ·) = true := by kernel_rfl
theorem pon_rread : Tryz.f4.resultTypes.all (fun t => Tryz.prog.readableRec t && decide (t < Tryz.prog.types.size)) = true := by kernel_rfl
theorem pon_ifOut : (Rows.pathsOnlyRow.ifacesOut == Tryz.f4.resultTypes.toList.any (Tryz.prog.ifacesRec ·)) = true := by kernel_rfl
theorem pon_loOut : (Rows.pathsOnlyRow.loopsOut == Tryz.f4.resultTypes.toList.any (Tryz.prog.loopsFrom ·)) = true := by kernel_rfl
theorem pon_short : Rows.pathsOnlyRow.shortTexts.isNone = true := by kernel_rfl
theorem pon_kinds : (Rows.pathsOnlyRow.kinds == (if Rows.pathsOnlyRow.domain.isEmpty then [] else Tryz.f4.params.toList.map fun t => match Tryz.prog.underlying t with | some (.int k) => some k | _ => none)) = true := by kernel_rfl
theorem pon_pinned : (Rows.pathsOnlyRow.pinned == Rows.pathsOnlyRow.pinnedBy) = true := by kernel_rfl
theorem pon_veiled : (Rows.pathsOnlyRow.veiled == (Tryz.f4.params.toList ++ Rows.pathsOnlySpec.plain.varTypes Tryz.prog ++ Tryz.f4.resultTypes.toList).any (Tryz.prog.veiledRec ·)) = true := by kernel_rfl
theorem pon_vfits : Rows.pathsOnlyRow.veiledFits Tryz.prog Tryz.f4.params.toList (Tryz.f4.params.toList ++ Rows.pathsOnlySpec.plain.varTypes Tryz.prog ++ Tryz.f4.resultTypes.toList) = true := by kernel_rfl
theorem pon_joined : joinedFacts Tryz.prog 4 Tryz.f4 Rows.pathsOnlySpec Rows.pathsOnlyRow = true := by
 unfold joinedFacts
 exact (aT (aT (aT (aT (aT (aT (aT (aT (aT (aT (aT (aT (aT (aT (aT (aT (aT (aT (aT (aT (aT (aT (aT (aT (aT (aT (aT (aT (aT (aT (aT pon_wf g_laid) g_mapsRowed) pon_readable) pon_tie) pon_stops0) g_stops) pon_knobs0) g_knobs) pon_inPlace) pon_unf) pon_rec) pon_named) pon_maps) pon_ifaces) pon_mapsOut) pon_loops) pon_wide) pon_vread) pon_rread) pon_ifOut) pon_loOut) g_plainKeys) pon_short) g_heard) g_enter) g_lifted) g_make) pon_kinds) pon_pinned) pon_veiled) pon_vfits)
end Go.Proofs.YtfebipifehfjlaaGreat
