/- Parts of the proof: LawCPF: each statement bears its own conditions. -/
import Derived.Test.YtenkechjalngcaaGreatPpFn
namespace Go.Proofs.YtenkechjalngcaaGreat
open Go
set_option maxRecDepth 1000000
theorem cpt_wf : (Rows.compsPartsRow.wf (OpenSpec.ofChange Rows.compsPartsSpec)) = true := by kernel_rfl
theorem cpt_readable : Tryz.f8.params.all (Tryz.prog.readableRec ·) = true := by kernel_rfl
theorem cpt_tie : namedTie Tryz.prog Rows.compsPartsRow.named Rows.compsPartsSpec.vars = true := by kernel_rfl
theorem cpt_stops0 : (Rows.compsPartsRow.stops == []) = true := by kernel_rfl
theorem cpt_knobs0 : (Rows.compsPartsRow.knobs == []) = true := by kernel_rfl
theorem cpt_inPlace : (Rows.compsPartsRow.inPlace == Tryz.prog.inPlace 8) = true := by kernel_rfl
theorem cpt_unf : (Rows.compsPartsRow.unfollowed == Tryz.prog.unfollowed 8) = true := by kernel_rfl
theorem cpt_rec : (Rows.compsPartsRow.recurses == Tryz.prog.recurses 8) = true := by kernel_rfl
theorem cpt_named : (Rows.compsPartsRow.named == Tryz.prog.varsNamed 8) = true := by kernel_rfl
theorem cpt_maps : (Rows.compsPartsRow.maps == (Tryz.f8.params.toList ++ Rows.compsPartsSpec.plain.varTypes Tryz.prog).any (Tryz.prog.mapsRec ·)) = true := by kernel_rfl
theorem cpt_ifaces : (Rows.compsPartsRow.ifaces == (Tryz.f8.params.toList ++ Rows.compsPartsSpec.plain.varTypes Tryz.prog).any (Tryz.prog.ifacesRec ·)) = true := by kernel_rfl
theorem cpt_mapsOut : (Rows.compsPartsRow.mapsOut == Tryz.prog.mapsAmong Tryz.f8.resultTypes.toList) = true := by kernel_rfl
theorem cpt_loops : (Rows.compsPartsRow.loops == (Tryz.f8.params.toList ++ Rows.compsPartsSpec.plain.varTypes Tryz.prog).any (Tryz.prog.loopsFrom ·)) = true := by kernel_rfl
theorem cpt_wide : (Rows.compsPartsRow.wideKeys == (Tryz.f8.params.toList ++ Rows.compsPartsSpec.plain.varTypes Tryz.prog ++ Tryz.f8.resultTypes.toList).any (Tryz.prog.wideKeysFrom ·)) = true := by kernel_rfl
theorem cpt_vread : Rows.compsPartsSpec.vars.all (Tryz.prog.varReadable ·) = true := by kernel_rfl
theorem cpt_rread : Tryz.f8.resultTypes.all (fun t => Tryz.prog.readableRec t && decide (t < Tryz.prog.types.size)) = true := by kernel_rfl
theorem cpt_ifOut : (Rows.compsPartsRow.ifacesOut == Tryz.f8.resultTypes.toList.any (Tryz.prog.ifacesRec ·)) = true := by kernel_rfl
theorem cpt_loOut : (Rows.compsPartsRow.loopsOut == Tryz.f8.resultTypes.toList.any (Tryz.prog.loopsFrom ·)) = true := by kernel_rfl
theorem cpt_short : Rows.compsPartsRow.shortTexts.isNone = true := by kernel_rfl
theorem cpt_kinds : (Rows.compsPartsRow.kinds == (if Rows.compsPartsRow.domain.isEmpty then [] else Tryz.f8.params.toList.map fun t => match Tryz.prog.underlying t with | some (.int k) => some k | _ => none)) = true := by kernel_rfl
theorem cpt_pinned : (Rows.compsPartsRow.pinned == Rows.compsPartsRow.pinnedBy) = true := by kernel_rfl
theorem cpt_veiled : (Rows.compsPartsRow.veiled == (Tryz.f8.params.toList ++ Rows.compsPartsSpec.plain.varTypes Tryz.prog ++ Tryz.f8.resultTypes.toList).any (Tryz.prog.veiledRec ·)) = true := by kernel_rfl
theorem cpt_vfits : Rows.compsPartsRow.veiledFits Tryz.prog Tryz.f8.params.toList (Tryz.f8.params.toList ++ Rows.compsPartsSpec.plain.varTypes Tryz.prog ++ Tryz.f8.resultTypes.toList) = true := by kernel_rfl
theorem cpt_joined : joinedFacts Tryz.prog 8 Tryz.f8 Rows.compsPartsSpec Rows.compsPartsRow = true := by
 unfold joinedFacts
 exact (aT (aT (aT (aT (aT (aT (aT (aT (aT (aT (aT (aT (aT (aT (aT (aT (aT (aT (aT (aT (aT (aT (aT (aT (aT (aT (aT (aT (aT (aT (aT cpt_wf g_laid) g_mapsRowed) cpt_readable) cpt_tie) cpt_stops0) g_stops) cpt_knobs0) g_knobs) cpt_inPlace) cpt_unf) cpt_rec) cpt_named) cpt_maps) cpt_ifaces) cpt_mapsOut) cpt_loops) cpt_wide) cpt_vread) cpt_rread) cpt_ifOut) cpt_loOut) g_plainKeys) cpt_short) g_heard) g_enter) g_lifted) g_make) cpt_kinds) cpt_pinned) cpt_veiled) cpt_vfits)
end Go.Proofs.YtenkechjalngcaaGreat
