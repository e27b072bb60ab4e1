/- Parts of the proof: SeatO: each statement bears its own conditions. -/
import Derived.Test.YtenkechjalngcaaGreatSeatC
/-! part SeatO -/
namespace Go.Proofs.YtenkechjalngcaaGreat
open Go Go.Ax
open Go.ChangeShapes Go.WideShapes Go.ChangeAt Go.RowKit
set_option maxRecDepth 1000000
set_option linter.unusedVariables false
set_option linter.unusedSimpArgs false
theorem c12 : compAt Tryz.prog 12 = some (cfGroups 2) := by kernel_rfl
theorem c16 : compAt Tryz.prog 16 = some (cfCheck 47 48 49 61) := by kernel_rfl
theorem c20 : compAt Tryz.prog 20 = some (cfCount 47 48 61) := by kernel_rfl
theorem c23 : compAt Tryz.prog 23 = some cfLabels := by kernel_rfl
theorem c4o : compAt Tryz.prog 4 = some (cfCompsOnly 11 23 12 24 20 16 10) := by kernel_rfl
theorem i2 : isIntTy Tryz.prog 2 = true := by kernel_rfl
theorem wf_bounds {n : Int} (h : (Lit.int .i64 n).wf = true) : -9223372036854775808 ≤ n ∧ n ≤ 9223372036854775807 := by
  simp [Lit.wf, IntKind.min, IntKind.max, IntKind.signed, IntKind.bits] at h
  omega
theorem only_ok {s : Bool} {n V R C a1 a2 : Int} {v : Value} {es : List Edg3} {h : Hp} {nx : Nat} (hes : SlRd h nx v enc3 es) (hw : (Lit.int .i64 a2).wf = true) :
    Cv Tryz.prog orc29 s 4 [.agg ⟨[.int .i64 n, v, .int .i64 V, .int .u8 R, .int .u8 C]⟩, .int .i64 a1, .int .i64 a2] h nx TrueK :=
  compsOnly_cv comps_at c4o rfl a24 c11 rfl c44 rfl c24 rfl c23 rfl c12 rfl i2 c20 rfl c16 rfl rfl b4 hes (wf_bounds hw)
theorem walkO {n V R C a1 a2 : Int} {sl : Value} {zs : List Edg3} {W : World} (hz : (zs = [] ∧ sl = .slice none 0 0) ∨ ∃ b off cap, sl = .slice (some ⟨b, off, none⟩) zs.length cap ∧ LiesAt W b off (flat enc3 zs)) (hw : (Lit.int .i64 a2).wf = true) :
    Calls Tryz.prog 4 #[.agg ⟨[.int .i64 n, sl, .int .i64 V, .int .u8 R, .int .u8 C]⟩, .int .i64 a1, .int .i64 a2] W fun e w' => e = .returned (.bool true) ∧ Below W.heap.size W w' := by
  obtain ⟨h1, h2, h3⟩ := in_one (e3 := enc3) (fun _ => rfl) hz
  exact callsIn_wide.1 (run_ok (n := 0) pok orc29_ok (only_ok (n := n) (V := V) (R := R) (C := C) (a1 := a1) (a2 := a2) h3 hw) (in_rel h1) (in_fr _) (.cons (.agg (.cons (.int _ _) (.cons h2 (.cons (.int _ _) (.cons (.int _ _) (.cons (.int _ _) .nil)))))) (.cons (.int _ _) (.cons (.int _ _) .nil))))
end Go.Proofs.YtenkechjalngcaaGreat
