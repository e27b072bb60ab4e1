/- Parts of the proof: RbFn2: each statement bears its own conditions. -/
import Derived.Test.YtcjochjiegiliaaGreatRbFn1
namespace Go.Proofs.YtcjochjiegiliaaGreat
open Go Go.Ax
set_option linter.unusedVariables false
set_option linter.unusedSimpArgs false
set_option maxRecDepth 1000000
theorem rbytes_c {s : Bool} {v0 v1 : Value} {l : List Mv} {bs : List Nat} {h : Hp} {nx : Nat} (h0 : SlRd h nx v0 encM l) (h1 : SlRd h nx v1 encB bs) (hB : BsOk bs) : Cv Q O s 5 [v0, v1] h nx TrK := by
 refine rbytesv ?_
 obtain ⟨a, cap, rfl, hc⟩ := id h0
 obtain ⟨a1, cap1, rfl, hc1⟩ := id h1
 have far : rbytesk0 s TrK (.slice a l.length cap) (.slice a1 bs.length cap1) (.bool true) h nx := by
  unfold rbytesk0
  simp (disch := omega) only [SS, ↓reduceIte, Nat.reduceAdd, Nat.reduceSub, Nat.reduceMul, Nat.reduceLT, Nat.reduceLeDiff, Nat.reduceEqDiff, Int.reduceBEq, Int.reduceLT, Int.reduceNeg]
  exact live_c rfl
 unfold rbytes
 simp (disch := omega) only [SS, ↓reduceIte, Nat.reduceAdd, Nat.reduceSub, Nat.reduceMul, Nat.reduceLT, Nat.reduceLeDiff, Nat.reduceEqDiff, Int.reduceBEq, Int.reduceLT, Int.reduceNeg]
 refine ⟨fun _ => far, fun h2 => ?_⟩
 by_cases h3 : (2000 : Int) < (bs.length : Int)
 ·rw [decide_eq_true h3]; exact far
 ·rw [decide_eq_false h3]; exact rbytesk_c h0 h1 (by omega) (by omega) hB
open Go.ChangeShapes Go.WideShapes Go.ChangeAt Go.RowKit
theorem uMs : Tryz.prog.underlying 42 = some (.slice 46) := by kernel_rfl
theorem uBs : Tryz.prog.underlying 51 = some (.slice 5) := by kernel_rfl
theorem c5 : Tryz.prog.cellsOf 5 = 1 := by kernel_rfl
theorem all46 : AllI Tryz.prog 46 4 := ⟨⟨_, uM, rfl, fun i f h => by
 have hi : i < 4 := (Array.getElem?_eq_some_iff.1 h).1
 match i, hi with
 | 0, _ => cases h; exact ⟨rfl, u44, c44⟩
 | 1, _ => cases h; exact ⟨rfl, u3, c3⟩
 | 2, _ => cases h; exact ⟨rfl, u3, c3⟩
 | 3, _ => cases h; exact ⟨rfl, u3, c3⟩⟩, nM⟩
section
variable {H : Type} {enc : TypeId × Value → H} {w : World} {sp : Nat → Bool} {r : Reach} {b0 : Nat} {v : Value} {d : DataW H} {ps : List MemPlace}
theorem open_mvs (hval : Value.okWide Tryz.prog w r b0 42 v) (h : DataW.Trod enc Tryz.prog w 0 sp true 42 v d ps) :
  ∃ ys : List Mv, (ys = [] ∧ v = .slice none 0 0) ∨ ∃ b off cap, v = .slice (some ⟨b, off, none⟩) ys.length cap ∧ LiesAt w b off (flat encM ys) := by
 obtain ⟨a, len, cap, rfl⟩ := okWide_slice uMs hval
 unfold Value.okWide at hval
 rw [uMs] at hval
 obtain ⟨fuel, hf⟩ := h
 have hf : DataW.trod enc Tryz.prog w 0 sp true fuel 42 [.slice a len cap] = some (d, ps) := hf
 obtain ⟨ys, _, hy⟩ := open_sl (e3 := encM) (k := 4) uMs nM (fun _ => True) (fun n c y hy => by
  obtain ⟨l, hl, hc, _⟩ := trod_ints all46 hy
  match l, hl with
  | [a, b, e, f], _ => exact ⟨(a, b, e, f), hc, trivial⟩) hf hval
 exact ⟨ys, hy⟩
theorem open_bytes (hval : Value.okWide Tryz.prog w r b0 51 v) (h : DataW.Trod enc Tryz.prog w 0 sp true 51 v d ps) :
  ∃ ys : List Nat, BsOk ys ∧ ((ys = [] ∧ v = .slice none 0 0) ∨ ∃ b off cap, v = .slice (some ⟨b, off, none⟩) ys.length cap ∧ LiesAt w b off (flat encB ys)) := by
 obtain ⟨a, len, cap, rfl⟩ := okWide_slice uBs hval
 unfold Value.okWide at hval
 rw [uBs] at hval
 obtain ⟨fuel, hf⟩ := h
 have hf : DataW.trod enc Tryz.prog w 0 sp true fuel 51 [.slice a len cap] = some (d, ps) := hf
 obtain ⟨ys, hR, hy⟩ := open_sl (e3 := encB) (k := 1) uBs c5 (fun z => z < 256) (fun n c y hy => by
  obtain ⟨m, hm, _, hw⟩ := DataW.trod_int u5 hy
  have hb : 0 ≤ m ∧ m < 256 := by
   simp [Lit.wf, IntKind.min, IntKind.max, IntKind.bits, IntKind.signed] at hw
   omega
  refine ⟨m.toNat, ?_, by omega⟩
  rw [hm]
  show _ = [Value.int .u8 ((m.toNat : Nat) : Int)]
  rw [Int.toNat_of_nonneg hb.1]) hf hval
 exact ⟨ys, hR, hy⟩
end
theorem live36_ok : OrcAt Tryz.prog 21 gLive := live_eq pok (fun f g h => by
 unfold orcR at h
 cases h1 : Nat.beq f 82 with
 | true =>
  have e := Nat.eq_of_beq_eq_true h1
  subst e
  rw [h1] at h
  cases h
  exact gTake_ok (gFix_ok pok)
 | false =>
  rw [h1] at h
  cases h2 : Nat.beq f 85 with
  | true =>
   have e := Nat.eq_of_beq_eq_true h2
   subst e
   rw [h2] at h
   cases h
   exact gU32_ok (gFix_ok pok) (gFix_ok pok)
  | false => rw [h2] at h; cases h) live36
theorem O_ok : OrcOk Tryz.prog O := fun f g h => by
 unfold O at h
 cases h0 : Nat.beq f 21 with
 | true =>
  have e := Nat.eq_of_beq_eq_true h0
  subst e
  rw [h0] at h
  cases h
  exact live36_ok
 | false =>
  rw [h0] at h
  cases h1 : Nat.beq f 82 with
  | true =>
   have e := Nat.eq_of_beq_eq_true h1
   subst e
   rw [h1] at h
   cases h
   exact gTake_ok (gRun_ok pok)
  | false =>
   rw [h1] at h
   cases h2 : Nat.beq f 85 with
   | true =>
    have e := Nat.eq_of_beq_eq_true h2
    subst e
    rw [h2] at h
    cases h
    exact gU32_ok (gRun_ok pok) (gRun_ok pok)
   | false => rw [h2] at h; cases h
theorem walkRb {v u : Value} {ms : List Mv} {ys : List Nat} {W : World} (hB : BsOk ys) (hz : (ms = [] ∧ v = .slice none 0 0) ∨ ∃ b off cap, v = .slice (some ⟨b, off, none⟩) ms.length cap ∧ LiesAt W b off (flat encM ms))
  (hy : (ys = [] ∧ u = .slice none 0 0) ∨ ∃ b off cap, u = .slice (some ⟨b, off, none⟩) ys.length cap ∧ LiesAt W b off (flat encB ys)) :
  Calls Tryz.prog 5 #[v, u] W fun e w' => e = .returned (.bool true) ∧ Below W.heap.size W w' := by
 obtain ⟨ps, v', u', h1, h2, h3, h4, h5⟩ := in_two (e3 := encM) (e1 := encB) (fun _ => rfl) (fun _ => rfl) hz hy
 exact callsIn_wide.1 (run_ok (n := 0) pok O_ok (rbytes_c h4 h5 hB) (in_rel h1) (in_fr _) (.cons h2 (.cons h3 .nil)))
end Go.Proofs.YtcjochjiegiliaaGreat
