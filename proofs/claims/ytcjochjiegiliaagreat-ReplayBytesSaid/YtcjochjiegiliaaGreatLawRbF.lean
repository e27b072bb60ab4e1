/- Parts of the proof: LawRbF: each statement bears its own conditions. -/
import Derived.Test.YtcjochjiegiliaaGreatRbFacts
namespace Go.Proofs.YtcjochjiegiliaaGreat
open Go
set_option maxRecDepth 1000000
theorem rb_wf : (Rows.replayBytesRow.wf (OpenSpec.ofChange Rows.replayBytesSpec)) = true := by kernel_rfl
theorem rb_readable : Tryz.f5.params.all (Tryz.prog.readableRec ·) = true := by kernel_rfl
theorem rb_tie : namedTie Tryz.prog Rows.replayBytesRow.named Rows.replayBytesSpec.vars = true := by kernel_rfl
theorem rb_stops0 : (Rows.replayBytesRow.stops == []) = true := by kernel_rfl
theorem rb_knobs0 : (Rows.replayBytesRow.knobs == []) = true := by kernel_rfl
theorem rb_inPlace : (Rows.replayBytesRow.inPlace == Tryz.prog.inPlace 5) = true := by kernel_rfl
theorem rb_unf : (Rows.replayBytesRow.unfollowed == Tryz.prog.unfollowed 5) = true := by kernel_rfl
theorem rb_rec : (Rows.replayBytesRow.recurses == Tryz.prog.recurses 5) = true := by kernel_rfl
theorem rb_named : (Rows.replayBytesRow.named == Tryz.prog.varsNamed 5) = true := by kernel_rfl
theorem rb_maps : (Rows.replayBytesRow.maps == (Tryz.f5.params.toList ++ Rows.replayBytesSpec.plain.varTypes Tryz.prog).any (Tryz.prog.mapsRec ·)) = true := by kernel_rfl
theorem rb_ifaces : (Rows.replayBytesRow.ifaces == (Tryz.f5.params.toList ++ Rows.replayBytesSpec.plain.varTypes Tryz.prog).any (Tryz.prog.ifacesRec ·)) = true := by kernel_rfl
theorem rb_mapsOut : (Rows.replayBytesRow.mapsOut == Tryz.prog.mapsAmong Tryz.f5.resultTypes.toList) = true := by kernel_rfl
theorem rb_loops : (Rows.replayBytesRow.loops == (Tryz.f5.params.toList ++ Rows.replayBytesSpec.plain.varTypes Tryz.prog).any (Tryz.prog.loopsFrom ·)) = true := by kernel_rfl
theorem rb_wide : (Rows.replayBytesRow.wideKeys == (Tryz.f5.params.toList ++ Rows.replayBytesSpec.plain.varTypes Tryz.prog ++ Tryz.f5.resultTypes.toList).any (Tryz.prog.wideKeysFrom ·)) = true := by kernel_rfl
theorem rb_vread : Rows.replayBytesSpec.vars.all (Tryz.prog.varReadable ·) = true := by kernel_rfl
theorem rb_rread : Tryz.f5.resultTypes.all (fun t => Tryz.prog.readableRec t && decide (t < Tryz.prog.types.size)) = true := by kernel_rfl
theorem rb_ifOut : (Rows.replayBytesRow.ifacesOut == Tryz.f5.resultTypes.toList.any (Tryz.prog.ifacesRec ·)) = true := by kernel_rfl
theorem rb_loOut : (Rows.replayBytesRow.loopsOut == Tryz.f5.resultTypes.toList.any (Tryz.prog.loopsFrom ·)) = true := by kernel_rfl
theorem rb_short : Rows.replayBytesRow.shortTexts.isNone = true := by kernel_rfl
theorem rb_kinds : (Rows.replayBytesRow.kinds == (if Rows.replayBytesRow.domain.isEmpty then [] else Tryz.f5.params.toList.map fun t => match Tryz.prog.underlying t with | some (.int k) => some k | _ => none)) = true := by kernel_rfl
theorem rb_pinned : (Rows.replayBytesRow.pinned == Rows.replayBytesRow.pinnedBy) = true := by kernel_rfl
theorem rb_veiled : (Rows.replayBytesRow.veiled == (Tryz.f5.params.toList ++ Rows.replayBytesSpec.plain.varTypes Tryz.prog ++ Tryz.f5.resultTypes.toList).any (Tryz.prog.veiledRec ·)) = true := by kernel_rfl
theorem rb_vfits : Rows.replayBytesRow.veiledFits Tryz.prog Tryz.f5.params.toList (Tryz.f5.params.toList ++ Rows.replayBytesSpec.plain.varTypes Tryz.prog ++ Tryz.f5.resultTypes.toList) = true := by kernel_rfl
theorem rb_joined : joinedFacts Tryz.prog 5 Tryz.f5 Rows.replayBytesSpec Rows.replayBytesRow = true := by
 unfold joinedFacts
 exact (aT (aT (aT (aT (aT (aT (aT (aT (aT (aT (aT (aT (aT (aT (aT (aT (aT (aT (aT (aT (aT (aT (aT (aT (aT (aT (aT (aT (aT (aT (aT rb_wf g_laid) g_mapsRowed) rb_readable) rb_tie) rb_stops0) g_stops) rb_knobs0) g_knobs) rb_inPlace) rb_unf) rb_rec) rb_named) rb_maps) rb_ifaces) rb_mapsOut) rb_loops) rb_wide) rb_vread) rb_rread) rb_ifOut) rb_loOut) g_plainKeys) rb_short) g_heard) g_enter) g_lifted) g_make) rb_kinds) rb_pinned) rb_veiled) rb_vfits)
end Go.Proofs.YtcjochjiegiliaaGreat
