/- Parts of the proof: LawHCF: each statement bears its own conditions. -/
import Derived.Test.YtenkechjalngcaaGreatHcFn
namespace Go.Proofs.YtenkechjalngcaaGreat
open Go
set_option maxRecDepth 1000000
theorem hck_wf : (Rows.hopsChecksRow.wf (OpenSpec.ofChange Rows.hopsChecksSpec)) = true := by kernel_rfl
theorem hck_readable : Tryz.f9.params.all (Tryz.prog.readableRec ·) = true := by kernel_rfl
theorem hck_tie : namedTie Tryz.prog Rows.hopsChecksRow.named Rows.hopsChecksSpec.vars = true := by kernel_rfl
theorem hck_stops0 : (Rows.hopsChecksRow.stops == []) = true := by kernel_rfl
theorem hck_knobs0 : (Rows.hopsChecksRow.knobs == []) = true := by kernel_rfl
theorem hck_inPlace : (Rows.hopsChecksRow.inPlace == Tryz.prog.inPlace 9) = true := by kernel_rfl
theorem hck_unf : (Rows.hopsChecksRow.unfollowed == Tryz.prog.unfollowed 9) = true := by kernel_rfl
theorem hck_rec : (Rows.hopsChecksRow.recurses == Tryz.prog.recurses 9) = true := by kernel_rfl
theorem hck_named : (Rows.hopsChecksRow.named == Tryz.prog.varsNamed 9) = true := by kernel_rfl
theorem hck_maps : (Rows.hopsChecksRow.maps == (Tryz.f9.params.toList ++ Rows.hopsChecksSpec.plain.varTypes Tryz.prog).any (Tryz.prog.mapsRec ·)) = true := by kernel_rfl
theorem hck_ifaces : (Rows.hopsChecksRow.ifaces == (Tryz.f9.params.toList ++ Rows.hopsChecksSpec.plain.varTypes Tryz.prog).any (Tryz.prog.ifacesRec ·)) = true := by kernel_rfl
theorem hck_mapsOut : (Rows.hopsChecksRow.mapsOut == Tryz.prog.mapsAmong Tryz.f9.resultTypes.toList) = true := by kernel_rfl
theorem hck_loops : (Rows.hopsChecksRow.loops == (Tryz.f9.params.toList ++ Rows.hopsChecksSpec.plain.varTypes Tryz.prog).any (Tryz.prog.loopsFrom ·)) = true := by kernel_rfl
theorem hck_wide : (Rows.hopsChecksRow.wideKeys == (Tryz.f9.params.toList ++ Rows.hopsChecksSpec.plain.varTypes Tryz.prog ++ Tryz.f9.resultTypes.toList).any (Tryz.prog.wideKeysFrom ·)) = true := by kernel_rfl
theorem hck_vread : Rows.hopsChecksSpec.vars.all (Tryz.prog.varReadable ·) = true := by kernel_rfl
theorem hck_rread : Tryz.f9.resultTypes.all (fun t => Tryz.prog.readableRec t && decide (t < Tryz.prog.types.size)) = true := by kernel_rfl
theorem hck_ifOut : (Rows.hopsChecksRow.ifacesOut == Tryz.f9.resultTypes.toList.any (Tryz.prog.ifacesRec ·)) = true := by kernel_rfl
theorem hck_loOut : (Rows.hopsChecksRow.loopsOut == Tryz.f9.resultTypes.toList.any (Tryz.prog.loopsFrom ·)) = true := by kernel_rfl
theorem hck_short : Rows.hopsChecksRow.shortTexts.isNone = true := by kernel_rfl
theorem hck_kinds : (Rows.hopsChecksRow.kinds == (if Rows.hopsChecksRow.domain.isEmpty then [] else Tryz.f9.params.toList.map fun t => match Tryz.prog.underlying t with | some (.int k) => some k | _ => none)) = true := by kernel_rfl
theorem hck_pinned : (Rows.hopsChecksRow.pinned == Rows.hopsChecksRow.pinnedBy) = true := by kernel_rfl
theorem hck_veiled : (Rows.hopsChecksRow.veiled == (Tryz.f9.params.toList ++ Rows.hopsChecksSpec.plain.varTypes Tryz.prog ++ Tryz.f9.resultTypes.toList).any (Tryz.prog.veiledRec ·)) = true := by kernel_rfl
theorem hck_vfits : Rows.hopsChecksRow.veiledFits Tryz.prog Tryz.f9.params.toList (Tryz.f9.params.toList ++ Rows.hopsChecksSpec.plain.varTypes Tryz.prog ++ Tryz.f9.resultTypes.toList) = true := by kernel_rfl
theorem hck_joined : joinedFacts Tryz.prog 9 Tryz.f9 Rows.hopsChecksSpec Rows.hopsChecksRow = true := by
 unfold joinedFacts
 exact (aT (aT (aT (aT (aT (aT (aT (aT (aT (aT (aT (aT (aT (aT (aT (aT (aT (aT (aT (aT (aT (aT (aT (aT (aT (aT (aT (aT (aT (aT (aT hck_wf g_laid) g_mapsRowed) hck_readable) hck_tie) hck_stops0) g_stops) hck_knobs0) g_knobs) hck_inPlace) hck_unf) hck_rec) hck_named) hck_maps) hck_ifaces) hck_mapsOut) hck_loops) hck_wide) hck_vread) hck_rread) hck_ifOut) hck_loOut) g_plainKeys) hck_short) g_heard) g_enter) g_lifted) g_make) hck_kinds) hck_pinned) hck_veiled) hck_vfits)
end Go.Proofs.YtenkechjalngcaaGreat
