/- Parts of the proof: SeatCA: each statement bears its own conditions. -/
import Derived.Test.YtenkechjalngcaaGreatPx2
/-! part SeatC -/
namespace Go.Proofs.YtenkechjalngcaaGreat
open Go Go.Ax
open Go.ChangeShapes Go.WideShapes Go.ChangeAt Go.RowKit
set_option maxRecDepth 1000000
set_option linter.unusedVariables false
set_option linter.unusedSimpArgs false
theorem live29_ok : OrcAt Tryz.prog 10 gLive := live_eq pok orcLive_ok live29
def orc29 : Orc := fun f => bif Nat.beq f 10 then some gLive else none
theorem orc29_ok : OrcOk Tryz.prog orc29 := fun f g h => by
  unfold orc29 at h
  cases h1 : Nat.beq f 10 with
  | true =>
    have e := Nat.eq_of_beq_eq_true h1
    subst e
    rw [h1] at h
    cases h
    exact live29_ok
  | false =>
    rw [h1] at h
    cases h
theorem c47 : compAt Tryz.prog 47 = some (cfRight 62 64 65 63 61) := by kernel_rfl
theorem c62 : compAt Tryz.prog 62 = some cfOut := by kernel_rfl
theorem c64 : compAt Tryz.prog 64 = some cfEnds := by kernel_rfl
theorem c65 : compAt Tryz.prog 65 = some cfWeighs := by kernel_rfl
theorem c63 : compAt Tryz.prog 63 = some (cfContains 67) := by kernel_rfl
theorem c67 : compAt Tryz.prog 67 = some cfIndex := by kernel_rfl
theorem c48 : compAt Tryz.prog 48 = some (cfGrown 49) := by kernel_rfl
theorem c49 : compAt Tryz.prog 49 = some (cfRoot 49) := by kernel_rfl
theorem b4 : isBoolTy Tryz.prog 4 = true := by kernel_rfl
theorem comps_at : CompsAt Tryz.prog orc29 47 62 64 65 63 67 61 48 49 := ⟨c47, rfl, c62, rfl, c64, rfl, c65, rfl, c63, rfl, c67, rfl, c48, rfl, c49, rfl⟩
end Go.Proofs.YtenkechjalngcaaGreat
