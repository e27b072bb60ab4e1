/- Parts of the proof: SeatA: each statement bears its own conditions. -/
import Derived.Test.YtenkechjalngcaaGreatSeatCA
/-! part SeatA -/
namespace Go.Proofs.YtenkechjalngcaaGreat
open Go Go.Ax
open Go.ChangeShapes Go.WideShapes Go.ChangeAt Go.RowKit
set_option maxRecDepth 1000000
set_option linter.unusedVariables false
set_option linter.unusedSimpArgs false
theorem k12 : compAt Tryz.prog 12 = some (cfGroups 2) := by kernel_rfl
theorem k13 : compAt Tryz.prog 13 = some cfRefGroups := by kernel_rfl
theorem k14 : compAt Tryz.prog 14 = some (cfSetup 45 39) := by kernel_rfl
theorem k15 : compAt Tryz.prog 15 = some (cfSetup 46 39) := by kernel_rfl
theorem k16 : compAt Tryz.prog 16 = some (cfCheck 47 48 49 61) := by kernel_rfl
theorem k17 : compAt Tryz.prog 17 = some (cfRefCheck 33 23 42 61) := by kernel_rfl
theorem k18 : compAt Tryz.prog 18 = some (cfJoined 47 48 49 61) := by kernel_rfl
theorem k19 : compAt Tryz.prog 19 = some (cfRefJoined 33 23 61) := by kernel_rfl
theorem k20 : compAt Tryz.prog 20 = some (cfCount 47 48 61) := by kernel_rfl
theorem k21 : compAt Tryz.prog 21 = some (cfRefCount 33 23 13 61) := by kernel_rfl
theorem k22 : compAt Tryz.prog 22 = some (cfSame 3) := by kernel_rfl
theorem k23 : compAt Tryz.prog 23 = some cfLabels := by kernel_rfl
theorem k33 : compAt Tryz.prog 33 = some cfRefRight := by kernel_rfl
theorem k42 : compAt Tryz.prog 42 = some (cfSame 2) := by kernel_rfl
theorem k45 : compAt Tryz.prog 45 = some (cfHopsSetup 39) := by kernel_rfl
theorem k46 : compAt Tryz.prog 46 = some (cfRefHopsSetup 39) := by kernel_rfl
theorem k3 : compAt Tryz.prog 3 = some cfCompsAsks := by kernel_rfl
theorem a39 : aggOf Tryz.prog 39 = some (some 12) := by kernel_rfl
theorem j2 : isIntTy Tryz.prog 2 = true := by kernel_rfl
theorem w27 : Tryz.prog.underlying 27 = some (.slice 2) := by kernel_rfl
theorem w28 : Tryz.prog.underlying 28 = some (.array 2 3) := by kernel_rfl
theorem m28 : Tryz.prog.cellsOf 28 = 2 := by kernel_rfl
theorem asks_ok {s : Bool} {n V R C a0 a1 : Int} {v vl : Value} {es : List Edg3} {l : List Int} {h : Hp} {nx : Nat} (hes : SlRd h nx v enc3 es) (hl : SlRd h nx vl encI l) :
    Cv Tryz.prog orc29 s 3 [.agg ⟨[.int .i64 n, v, .int .i64 V, .int .u8 R, .int .u8 C]⟩, vl, .agg ⟨[.int .i64 a0, .int .i64 a1]⟩] h nx TrueK :=
  compsAsks_cv comps_at k3 rfl a24 a39 j2 b4 rfl c11 rfl c44 rfl c24 rfl k12 rfl k13 rfl k14 rfl k45 rfl k15 rfl k46 rfl k16 rfl k17 rfl k18 rfl k19 rfl k20 rfl k21 rfl k22 rfl k42 rfl k33 rfl k23 rfl hes hl
section
variable {H : Type} {enc : TypeId × Value → H} {w : World} {sp : Nat → Bool}
theorem open_pair {r : Reach} {b0 : Nat} {v : Value} {d : DataW H} {ps : List MemPlace} (hval : Value.okWide Tryz.prog w r b0 28 v) (h : DataW.Trod enc Tryz.prog w 0 sp true 28 v d ps) :
    ∃ a b : Int, v = .agg ⟨[.int .i64 a, .int .i64 b]⟩ := by
  unfold Value.okWide at hval
  rw [w28] at hval
  obtain ⟨cs, rfl, hsz, _⟩ := hval
  rw [m28] at hsz
  obtain ⟨l⟩ := cs
  match l, hsz with
  | [a, b], _ =>
    obtain ⟨fuel, hf⟩ := h
    have hf : DataW.trod enc Tryz.prog w 0 sp true fuel 28 [a, b] = some (d, ps) := hf
    obtain ⟨xs, n, rfl, _, hlen, hxl, hall⟩ := DataW.trod_array w28 hf
    have get : ∀ i, i < 2 → ∃ y, DataW.trod enc Tryz.prog w 0 sp true n 3 (([a, b].drop (i * Tryz.prog.cellsOf 3)).take (Tryz.prog.cellsOf 3)) = some y := fun i hi => by
      have hx : i < xs.length := by rw [hxl]; exact hi
      exact ⟨xs[i], by rw [hall i hi, List.getElem?_eq_getElem hx]⟩
    obtain ⟨y0, h0⟩ := get 0 (by omega)
    obtain ⟨y1, h1⟩ := get 1 (by omega)
    rw [c3] at h0 h1
    obtain ⟨x, rfl⟩ := field_int u3 h0
    obtain ⟨y, rfl⟩ := field_int u3 h1
    exact ⟨x, y, rfl⟩
theorem open_ints {r : Reach} {b0 : Nat} {v : Value} {d : DataW H} {ps : List MemPlace} (hval : Value.okWide Tryz.prog w r b0 27 v) (h : DataW.Trod enc Tryz.prog w 0 sp true 27 v d ps) :
    ∃ ys : List Int, (ys = [] ∧ v = .slice none 0 0) ∨ ∃ b off cap, v = .slice (some ⟨b, off, none⟩) ys.length cap ∧ LiesAt w b off (flat encI ys) := by
  obtain ⟨a, len, cap, rfl⟩ := okWide_slice w27 hval
  unfold Value.okWide at hval
  rw [w27] at hval
  obtain ⟨fuel, hf⟩ := h
  have hf : DataW.trod enc Tryz.prog w 0 sp true fuel 27 [.slice a len cap] = some (d, ps) := hf
  obtain ⟨ys, _, hy⟩ := open_sl (e3 := encI) (k := 1) w27 c2 (fun _ => True) (fun n c y hy => by
    obtain ⟨m, hm, _⟩ := DataW.trod_int u2 hy
    exact ⟨m, hm, trivial⟩) hf hval
  exact ⟨ys, hy⟩
end
theorem walkA {n V R C a0 a1 : Int} {sl vl : Value} {zs : List Edg3} {ys : List Int} {W : World} (hz : (zs = [] ∧ sl = .slice none 0 0) ∨ ∃ b off cap, sl = .slice (some ⟨b, off, none⟩) zs.length cap ∧ LiesAt W b off (flat enc3 zs))
    (hy : (ys = [] ∧ vl = .slice none 0 0) ∨ ∃ b off cap, vl = .slice (some ⟨b, off, none⟩) ys.length cap ∧ LiesAt W b off (flat encI ys)) :
    Calls Tryz.prog 3 #[.agg ⟨[.int .i64 n, sl, .int .i64 V, .int .u8 R, .int .u8 C]⟩, vl, .agg ⟨[.int .i64 a0, .int .i64 a1]⟩] W fun e w' => e = .returned (.bool true) ∧ Below W.heap.size W w' := by
  obtain ⟨ps, v', u', h1, h2, h3, h4, h5⟩ := in_two (e3 := enc3) (e1 := encI) (fun _ => rfl) (fun _ => rfl) hz hy
  exact callsIn_wide.1 (run_ok (n := 0) pok orc29_ok (asks_ok (n := n) (V := V) (R := R) (C := C) (a0 := a0) (a1 := a1) h4 h5) (in_rel h1) (in_fr _) (.cons (.agg (.cons (.int _ _) (.cons h2 (.cons (.int _ _) (.cons (.int _ _) (.cons (.int _ _) .nil)))))) (.cons h3 (.cons (.agg (.cons (.int _ _) (.cons (.int _ _) .nil))) .nil))))
end Go.Proofs.YtenkechjalngcaaGreat
