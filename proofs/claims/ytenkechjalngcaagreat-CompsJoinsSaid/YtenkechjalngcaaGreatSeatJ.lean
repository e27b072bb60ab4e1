/- Parts of the proof: SeatJ: each statement bears its own conditions. -/
import Derived.Test.YtenkechjalngcaaGreatLiveJ
/-! part SeatJ -/
namespace Go.Proofs.YtenkechjalngcaaGreat
open Go Go.Ax
open Go.ChangeShapes Go.WideShapes Go.ChangeAt Go.RowKit
set_option maxRecDepth 1000000
set_option linter.unusedVariables false
set_option linter.unusedSimpArgs false
theorem live29_ok : OrcAt Tryz.prog 10 gLive := live_eq pok orcLive_ok live29
def orc29 : Orc := fun f => bif Nat.beq f 10 then some gLive else none
theorem orc29_ok : OrcOk Tryz.prog orc29 := fun f g h => by
  unfold orc29 at h
  cases h1 : Nat.beq f 10 with
  | true =>
    have e := Nat.eq_of_beq_eq_true h1
    subst e
    rw [h1] at h
    cases h
    exact live29_ok
  | false =>
    rw [h1] at h
    cases h
theorem c47 : compAt Tryz.prog 47 = some (cfRight 62 64 65 63 61) := by kernel_rfl
theorem c62 : compAt Tryz.prog 62 = some cfOut := by kernel_rfl
theorem c64 : compAt Tryz.prog 64 = some cfEnds := by kernel_rfl
theorem c65 : compAt Tryz.prog 65 = some cfWeighs := by kernel_rfl
theorem c63 : compAt Tryz.prog 63 = some (cfContains 67) := by kernel_rfl
theorem c67 : compAt Tryz.prog 67 = some cfIndex := by kernel_rfl
theorem c48 : compAt Tryz.prog 48 = some (cfGrown 49) := by kernel_rfl
theorem c49 : compAt Tryz.prog 49 = some (cfRoot 49) := by kernel_rfl
theorem c18 : compAt Tryz.prog 18 = some (cfJoined 47 48 49 61) := by kernel_rfl
theorem c5j : compAt Tryz.prog 5 = some (cfCompsJoins 11 24 18 10) := by kernel_rfl
theorem b4 : isBoolTy Tryz.prog 4 = true := by kernel_rfl
theorem comps_at : CompsAt Tryz.prog orc29 47 62 64 65 63 67 61 48 49 := ⟨c47, rfl, c62, rfl, c64, rfl, c65, rfl, c63, rfl, c67, rfl, c48, rfl, c49, rfl⟩
theorem joins_ok {s : Bool} {n V R C a0 a1 a2 : Int} {v : Value} {es : List Edg3} {h : Hp} {nx : Nat} (hes : SlRd h nx v enc3 es) :
    Cv Tryz.prog orc29 s 5 [.agg ⟨[.int .i64 n, v, .int .i64 V, .int .u8 R, .int .u8 C]⟩, .agg ⟨[.int .i64 a0, .int .i64 a1, .int .i64 a2]⟩] h nx TrueK :=
  compsJoins_cv comps_at c5j rfl a24 c11 rfl c44 rfl c24 rfl c18 rfl rfl b4 hes
theorem u50 : Tryz.prog.underlying 50 = some (.array 3 3) := by kernel_rfl
theorem n50 : Tryz.prog.cellsOf 50 = 3 := by kernel_rfl
section
variable {H : Type} {enc : TypeId × Value → H} {w : World} {sp : Nat → Bool}
theorem open_three {r : Reach} {b0 : Nat} {v : Value} {d : DataW H} {ps : List MemPlace} (hval : Value.okWide Tryz.prog w r b0 50 v) (h : DataW.Trod enc Tryz.prog w 0 sp true 50 v d ps) :
    ∃ a b c : Int, v = .agg ⟨[.int .i64 a, .int .i64 b, .int .i64 c]⟩ := by
  unfold Value.okWide at hval
  rw [u50] at hval
  obtain ⟨cs, rfl, hsz, _⟩ := hval
  rw [n50] at hsz
  obtain ⟨l⟩ := cs
  match l, hsz with
  | [a, b, c], _ =>
    obtain ⟨fuel, hf⟩ := h
    have hf : DataW.trod enc Tryz.prog w 0 sp true fuel 50 [a, b, c] = some (d, ps) := hf
    obtain ⟨xs, n, rfl, _, hlen, hxl, hall⟩ := DataW.trod_array u50 hf
    have get : ∀ i, i < 3 → ∃ y, DataW.trod enc Tryz.prog w 0 sp true n 3 (([a, b, c].drop (i * Tryz.prog.cellsOf 3)).take (Tryz.prog.cellsOf 3)) = some y := fun i hi => by
      have hx : i < xs.length := by rw [hxl]; exact hi
      exact ⟨xs[i], by rw [hall i hi, List.getElem?_eq_getElem hx]⟩
    obtain ⟨y0, h0⟩ := get 0 (by omega)
    obtain ⟨y1, h1⟩ := get 1 (by omega)
    obtain ⟨y2, h2⟩ := get 2 (by omega)
    rw [c3] at h0 h1 h2
    obtain ⟨x, rfl⟩ := field_int u3 h0
    obtain ⟨y, rfl⟩ := field_int u3 h1
    obtain ⟨z, rfl⟩ := field_int u3 h2
    exact ⟨x, y, z, rfl⟩
end
theorem walkJ {n V R C a0 a1 a2 : Int} {sl : Value} {zs : List Edg3} {W : World} (hz : (zs = [] ∧ sl = .slice none 0 0) ∨ ∃ b off cap, sl = .slice (some ⟨b, off, none⟩) zs.length cap ∧ LiesAt W b off (flat enc3 zs)) :
    Calls Tryz.prog 5 #[.agg ⟨[.int .i64 n, sl, .int .i64 V, .int .u8 R, .int .u8 C]⟩, .agg ⟨[.int .i64 a0, .int .i64 a1, .int .i64 a2]⟩] W fun e w' => e = .returned (.bool true) ∧ Below W.heap.size W w' := by
  obtain ⟨h1, h2, h3⟩ := in_one (e3 := enc3) (fun _ => rfl) hz
  exact callsIn_wide.1 (run_ok (n := 0) pok orc29_ok (joins_ok (n := n) (V := V) (R := R) (C := C) (a0 := a0) (a1 := a1) (a2 := a2) h3) (in_rel h1) (in_fr _) (.cons (.agg (.cons (.int _ _) (.cons h2 (.cons (.int _ _) (.cons (.int _ _) (.cons (.int _ _) .nil)))))) (.cons (.agg (.cons (.int _ _) (.cons (.int _ _) (.cons (.int _ _) .nil)))) .nil)))
end Go.Proofs.YtenkechjalngcaaGreat
