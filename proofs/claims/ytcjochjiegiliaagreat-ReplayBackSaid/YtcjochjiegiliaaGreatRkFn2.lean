/- Parts of the proof: RkFn2: each statement bears its own conditions. -/
import Derived.Test.YtcjochjiegiliaaGreatRkFn1
namespace Go.Proofs.YtcjochjiegiliaaGreat
open Go Go.Ax
set_option linter.unusedVariables false
set_option linter.unusedSimpArgs false
set_option maxRecDepth 1000000
theorem rbackk1_c {s : Bool} {v1 : Value} {bs : List Nat} {h : Hp} {nx : Nat} (h1 : SlRd h nx v1 encB bs) (hl1 : bs.length < 100000) (hB : BsOk bs) : rbackk1 s TrK v1 h nx := by
 unfold rbackk1
 have hE := (dec_ok hB hl1).1
 have hF := dFt_ok hB hl1
 have hL := dLst_ok hB hl1
 have hback := enc_dec hB
 have hnil : (decS bs).2.e ≠ 0 → dLst bs = [] := fun h => if_neg h
 have hlst : (decS bs).2.e = 0 → dLst bs = (decS bs).1 := fun h => if_pos h
 refine (show Cv Q O s 24 [v1] h nx (DcK (decS bs).2.e (dFt bs) (dLst bs) nx h) from dec_c (SubB.of (SlPx.of h1)) hB hl1).mono ?_
 have hb2 : (decS bs).2.e = 0 → badM (dLst bs) = false ∧ encS (dLst bs) = bs := fun h => by
  rw [hlst h]
  refine ⟨any_f fun m hm => ?_, (hback h).2⟩
  rw [(hback h).1 m hm]; rfl
 clear hlst hback
 generalize (decS bs).2.e = E at *
 generalize dFt bs = F at *
 generalize dLst bs = L at *
 rintro _ h4 n4 ⟨w3, rfl, g3, k3, l3⟩
 simp (disch := omega) only [SS, ↓reduceIte, Nat.reduceAdd, Nat.reduceSub, Nat.reduceMul, Nat.reduceLT, Nat.reduceLeDiff, Nat.reduceEqDiff, Int.reduceBEq, Int.reduceLT, Int.reduceNeg, vcF, lnF, wrF]
 have K5 : Keep n4 h4 (hset (hset h4 n4 (.cells [.int .i64 0, .int .i64 0] false)) n4 (.cells (encF E F) false)) := ((Keep.refl _ _).set (Nat.le_refl _)).set (Nat.le_refl _)
 have g5 : hget (hset (hset h4 n4 (.cells [.int .i64 0, .int .i64 0] false)) n4 (.cells (encF E F) false)) n4 = some (.cells (encF E F) false) := hnew _ _ _
 generalize hset (hset h4 n4 (.cells [.int .i64 0, .int .i64 0] false)) n4 (.cells (encF E F) false) = H5 at *
 have eg : ofGet (encF E F)[0]? = .ok (.int .i64 E) := rfl
 simp (disch := omega) only [SS, ↓reduceIte, Nat.reduceAdd, Nat.reduceSub, Nat.reduceMul, Nat.reduceLT, Nat.reduceLeDiff, Nat.reduceEqDiff, Int.reduceBEq, Int.reduceLT, Int.reduceNeg, g5, eg]
 have m3 : SlRd H5 (n4 + 1) w3 encM L := RdKeep g3 K5 (Nat.le_succ _)
 refine ⟨fun he => ?_, fun he => ?_⟩
 ·have he : E ≠ 0 := fun e => by rw [e] at he; cases he
  have hn := hnil he
  subst hn
  obtain ⟨a, cap, rfl, _⟩ := m3
  refine live_c ?_
  simp (disch := omega) only [SS, ↓reduceIte, Nat.reduceAdd, Nat.reduceSub, Nat.reduceMul, Nat.reduceLT, Nat.reduceLeDiff, Nat.reduceEqDiff, Int.reduceBEq, Int.reduceLT, Int.reduceNeg]
  rfl
 ·have he : E = 0 := by simpa using he
  obtain ⟨hbm, hen⟩ := hb2 he
  refine (enc_c m3 hL.2).mono ?_
  unfold EncK
  rw [hbm, hen]
  rintro _ h6 n6 ⟨w, rfl, g6, k6, l6⟩
  simp (disch := omega) only [SS, ↓reduceIte, Nat.reduceAdd, Nat.reduceSub, Nat.reduceMul, Nat.reduceLT, Nat.reduceLeDiff, Nat.reduceEqDiff, Int.reduceBEq, Int.reduceLT, Int.reduceNeg]
  refine live_c ?_
  simp (disch := omega) only [SS, ↓reduceIte, Nat.reduceAdd, Nat.reduceSub, Nat.reduceMul, Nat.reduceLT, Nat.reduceLeDiff, Nat.reduceEqDiff, Int.reduceBEq, Int.reduceLT, Int.reduceNeg]
  have r1 : SlRd h6 n6 w encB bs := g6.rd (Nat.le_refl _)
  have r2 : SlRd h6 n6 v1 encB bs := ((h1.keep k3 l3).keep K5 (Nat.le_succ _)).keep k6 l6
  refine (sameb_c r1 r2 hl1 hl1).mono ?_
  rintro _ H8 n8 ⟨rfl, e8, e9⟩
  rw [decide_eq_true rfl]
  rfl
theorem vSl_0 {n k : Nat} {a : Option Addr} (h1 : 0 < n) (h2 : k ≤ n) :
  vSl 1 (.slice a n n) none (some (.int .i64 (k : Int))) none = .ok (.slice (cutAddr a 0 false) k n) := by
 show sliceV 1 a n false n k 0 = _
 unfold sliceV
 rw [show (Nat.ble n n && (Nat.ble k n && Nat.ble 0 k)) = true by simp; omega]
 show sliceW 1 a false n k 0 = _
 unfold sliceW
 rw [show Nat.beq n 0 = false by
  cases hb : Nat.beq n 0 with
  | true => have := Nat.eq_of_beq_eq_true hb; omega
  | false => rfl]
 rfl
theorem rbackk0_c {s : Bool} {v1 y7 : Value} {l : List Mv} {bs : List Nat} {z lo : Nat} {h : Hp} {nx : Nat} (h1 : SlRd h nx v1 encB bs) (hl1 : bs.length < 100000) (hB : BsOk bs) (hz : z < 65536) (hr : ∀ m ∈ l, rightM m = true) (hl : l.length < 10000) (g : OwB h lo nx y7 (encS l)) : rbackk0 s TrK v1 (.int .u16 (z : Int)) y7 (.bool false) h nx := by
 unfold rbackk0
 have hlen := encS_len l
 obtain ⟨o, ⟨e, _, _⟩ | ⟨b, rfl, rfl, hg⟩, hb⟩ := g
 ·rw [e] at hlen
  exact absurd hlen (by show ¬ (0 = _); omega)
 have hbn := (hb b rfl).2
 generalize hk : z % (encS l).length = k
 have hk1 : k < (encS l).length := by rw [← hk]; exact Nat.mod_lt _ (by omega)
 have wz : IntKind.wrap .i64 (z : Int) = (z : Int) := wrapS (by omega) (by omega)
 have rm : bin Q .rem 3 (.int .i64 (z : Int)) (.int .i64 ((encS l).length : Int)) = .ok (.int .i64 (k : Int)) := by
  rw [bin_rem (by omega), ← hk]; rfl
 simp (disch := omega) only [SS, ↓reduceIte, Nat.reduceAdd, Nat.reduceSub, Nat.reduceMul, Nat.reduceLT, Nat.reduceLeDiff, Nat.reduceEqDiff, Int.reduceBEq, Int.reduceLT, Int.reduceNeg, wz, rm, vSl_0 (show 0 < (encS l).length by omega) (Nat.le_of_lt hk1)]
 obtain ⟨L, p, hd⟩ := dec_cut hr (by omega) hk1
 have hkl : ((encS l).take k).length = k := by rw [List.length_take]; omega
 have hsub : SubB h nx (.slice (cutAddr (some ⟨b, 0, some 1⟩) 0 false) k (encS l).length) ((encS l).take k) := ⟨some ⟨b, 0, some 1⟩, (encS l).length, by rw [hkl]; rfl, fun _ => ⟨b, 0, some 1, false, _, hbn, rfl, hg, by rw [encB_len, hkl]; omega, by rw [hkl, List.drop_zero]; have := encB_dt (encS l) 0 k; rw [List.drop_zero, List.drop_zero] at this; exact this⟩⟩
 have hBk : BsOk ((encS l).take k) := fun x hx => encS_ok l x (List.mem_of_mem_take hx)
 have cE : (decS ((encS l).take k)).2.e = 2 := by rw [hd]
 have cF : dFt ((encS l).take k) = (k : Int) := by unfold dFt; rw [hd, if_neg (by show ¬ (2 : Int) = 0; decide)]
 refine (show Cv Q O s 24 [_] h nx (DcK (decS ((encS l).take k)).2.e (dFt ((encS l).take k)) (dLst ((encS l).take k)) nx h) from dec_c hsub hBk (by omega)).mono ?_
 rw [cE, cF]
 rintro _ h4 n4 ⟨w3, rfl, g3, k3, l3⟩
 have i2 : In4 2 := ⟨by decide, by decide⟩
 have ik : In4 (k : Int) := ⟨by omega, by omega⟩
 have gn : ∀ {o}, hget (hset h4 n4 o) n4 = some o := hnew _ _ _
 have ag : Value.agg ⟨[.int .i64 2, .int .i64 (k : Int)]⟩ = .agg ⟨encF 2 k⟩ := rfl
 simp (disch := omega) only [SS, ↓reduceIte, Nat.reduceAdd, Nat.reduceSub, Nat.reduceMul, Nat.reduceLT, Nat.reduceLeDiff, Nat.reduceEqDiff, Int.reduceBEq, Int.reduceLT, Int.reduceNeg, vcF, lnF, wrF, ldF, ag, neqF i2 ik i2 ik]
 refine ⟨fun h => absurd trivial h, ?_⟩
 have K5 : Keep n4 h4 (hset (hset h4 n4 (.cells [.int .i64 0, .int .i64 0] false)) n4 (.cells (encF 2 (k : Int)) false)) := ((Keep.refl _ _).set (Nat.le_refl _)).set (Nat.le_refl _)
 exact rbackk1_c ((h1.keep k3 l3).keep K5 (Nat.le_succ _)) hl1 hB
theorem rbackk2_c {s : Bool} {v0 v1 : Value} {l : List Mv} {bs : List Nat} {z : Nat} {h : Hp} {nx : Nat} (h0 : SlRd h nx v0 encM l) (h1 : SlRd h nx v1 encB bs) (hl : l.length < 10000) (hl1 : bs.length < 100000) (hB : BsOk bs) (hz : z < 65536) : rbackk2 s TrK v0 v1 (.int .u16 (z : Int)) (.bool false) h nx := by
 unfold rbackk2
 simp (disch := omega) only [SS, ↓reduceIte, Nat.reduceAdd, Nat.reduceSub, Nat.reduceMul, Nat.reduceLT, Nat.reduceLeDiff, Nat.reduceEqDiff, Int.reduceBEq, Int.reduceLT, Int.reduceNeg]
 refine (enc_c h0 (by omega)).mono ?_
 unfold EncK
 rintro _ h2 n2 ⟨w1, rfl, g1, k1, l1⟩
 simp (disch := omega) only [SS, ↓reduceIte, Nat.reduceAdd, Nat.reduceSub, Nat.reduceMul, Nat.reduceLT, Nat.reduceLeDiff, Nat.reduceEqDiff, Int.reduceBEq, Int.reduceLT, Int.reduceNeg]
 have b1 := h1.keep k1 l1
 cases hb : badM l with
 | true => exact ⟨fun h => absurd h (by decide), fun _ => rbackk1_c b1 hl1 hB⟩
 | false =>
  refine ⟨fun _ => ?_, fun h => absurd h (by decide)⟩
  rw [hb] at g1
  have g1 : OwB h2 nx n2 w1 (encS l) := g1
  have hr : ∀ m ∈ l, rightM m = true := fun m hm => by
   have := List.any_eq_false.1 (show (l.any fun m => !rightM m) = false from hb) m hm
   simpa using this
  have hd := dec_enc hr (by omega)
  have hlen := encS_len l
  have cE : (decS (encS l)).2.e = 0 := by rw [hd]
  have cF : dFt (encS l) = 0 := by unfold dFt; rw [hd]; rfl
  have cL : dLst (encS l) = l := by unfold dLst; rw [hd]; rfl
  refine (show Cv Q O s 24 [w1] h2 n2 (DcK (decS (encS l)).2.e (dFt (encS l)) (dLst (encS l)) n2 h2) from dec_c (SubB.of (g1.px (Nat.le_refl _))) (encS_ok l) (by omega)).mono ?_
  rw [cE, cF, cL]
  rintro _ h4 n4 ⟨w3, rfl, g3, k3, l3⟩
  have gn : ∀ {o}, hget (hset h4 n4 o) n4 = some o := hnew _ _ _
  have eg : ∀ {E F : Int}, ofGet (encF E F)[0]? = .ok (.int .i64 E) := rfl
  simp (disch := omega) only [SS, ↓reduceIte, Nat.reduceAdd, Nat.reduceSub, Nat.reduceMul, Nat.reduceLT, Nat.reduceLeDiff, Nat.reduceEqDiff, Int.reduceBEq, Int.reduceLT, Int.reduceNeg, vcF, lnF, wrF, eg]
  have K5 : Keep n4 h4 (hset (hset h4 n4 (.cells [.int .i64 0, .int .i64 0] false)) n4 (.cells (encF 0 0) false)) := ((Keep.refl _ _).set (Nat.le_refl _)).set (Nat.le_refl _)
  generalize hset (hset h4 n4 (.cells [.int .i64 0, .int .i64 0] false)) n4 (.cells (encF 0 0) false) = H5 at *
  have hm : ∀ m ∈ l, MvOk m := fun m hm => rightM_ok (hr m hm)
  refine (samem_c (((h0.keep k1 l1).keep k3 l3).keep K5 (Nat.le_succ _)) (RdKeep g3 K5 (Nat.le_succ _)) (by omega) (by omega) hm hm).mono ?_
  rintro _ H8 n8 ⟨rfl, e8, e9⟩
  rw [decide_eq_true rfl, e8, e9]
  have g8 : OwB H5 nx (n4 + 1) w1 (encS l) := (g1.keep (fun c _ hc => k3 c hc) l3).keep (fun c _ hc => K5 c hc) (Nat.le_succ _)
  have hls : lenS w1 = .ok (.int .i64 ((encS l).length : Int)) := by
   obtain ⟨o, ⟨e, rfl, rfl⟩ | ⟨b, rfl, rfl, hg⟩, hb⟩ := g8
   ·rw [e]; rfl
   ·rfl
  have ne : decide (((encS l).length : Int) = 0) = false := decide_eq_false (by omega)
  simp (disch := omega) only [SS, ↓reduceIte, Nat.reduceAdd, Nat.reduceSub, Nat.reduceMul, Nat.reduceLT, Nat.reduceLeDiff, Nat.reduceEqDiff, Int.reduceBEq, Int.reduceLT, Int.reduceNeg, hls, ne]
  exact rbackk0_c ((b1.keep k3 l3).keep K5 (Nat.le_succ _)) hl1 hB hz hr hl g8
theorem rback_c {s : Bool} {v0 v1 : Value} {l : List Mv} {bs : List Nat} {z : Nat} {h : Hp} {nx : Nat} (h0 : SlRd h nx v0 encM l) (h1 : SlRd h nx v1 encB bs) (hB : BsOk bs) (hz : z < 65536) : Cv Q O s 6 [v0, v1, .int .u16 (z : Int)] h nx TrK := by
 refine rbackv ?_
 obtain ⟨a, cap, rfl, hc⟩ := id h0
 obtain ⟨a1, cap1, rfl, hc1⟩ := id h1
 have far : rbackk2 s TrK (.slice a l.length cap) (.slice a1 bs.length cap1) (.int .u16 (z : Int)) (.bool true) h nx := by
  unfold rbackk2
  simp (disch := omega) only [SS, ↓reduceIte, Nat.reduceAdd, Nat.reduceSub, Nat.reduceMul, Nat.reduceLT, Nat.reduceLeDiff, Nat.reduceEqDiff, Int.reduceBEq, Int.reduceLT, Int.reduceNeg]
  exact live_c rfl
 unfold rback
 simp (disch := omega) only [SS, ↓reduceIte, Nat.reduceAdd, Nat.reduceSub, Nat.reduceMul, Nat.reduceLT, Nat.reduceLeDiff, Nat.reduceEqDiff, Int.reduceBEq, Int.reduceLT, Int.reduceNeg]
 refine ⟨fun _ => far, fun h2 => ?_⟩
 by_cases h3 : (2000 : Int) < (bs.length : Int)
 ·rw [decide_eq_true h3]; exact far
 ·rw [decide_eq_false h3]; exact rbackk2_c h0 h1 (by omega) (by omega) hB hz
open Go.ChangeShapes Go.WideShapes Go.ChangeAt Go.RowKit
theorem uMs : Tryz.prog.underlying 42 = some (.slice 46) := by kernel_rfl
theorem uBs : Tryz.prog.underlying 51 = some (.slice 5) := by kernel_rfl
theorem u61 : Tryz.prog.underlying 61 = some (.int .u16) := by kernel_rfl
theorem c5 : Tryz.prog.cellsOf 5 = 1 := by kernel_rfl
theorem all46 : AllI Tryz.prog 46 4 := ⟨⟨_, uM, rfl, fun i f h => by
 have hi : i < 4 := (Array.getElem?_eq_some_iff.1 h).1
 match i, hi with
 | 0, _ => cases h; exact ⟨rfl, u44, c44⟩
 | 1, _ => cases h; exact ⟨rfl, u3, c3⟩
 | 2, _ => cases h; exact ⟨rfl, u3, c3⟩
 | 3, _ => cases h; exact ⟨rfl, u3, c3⟩⟩, nM⟩
section
variable {H : Type} {enc : TypeId × Value → H} {w : World} {sp : Nat → Bool} {r : Reach} {b0 : Nat} {v : Value} {d : DataW H} {ps : List MemPlace}
theorem open_mvs (hval : Value.okWide Tryz.prog w r b0 42 v) (h : DataW.Trod enc Tryz.prog w 0 sp true 42 v d ps) :
  ∃ ys : List Mv, (ys = [] ∧ v = .slice none 0 0) ∨ ∃ b off cap, v = .slice (some ⟨b, off, none⟩) ys.length cap ∧ LiesAt w b off (flat encM ys) := by
 obtain ⟨a, len, cap, rfl⟩ := okWide_slice uMs hval
 unfold Value.okWide at hval
 rw [uMs] at hval
 obtain ⟨fuel, hf⟩ := h
 have hf : DataW.trod enc Tryz.prog w 0 sp true fuel 42 [.slice a len cap] = some (d, ps) := hf
 obtain ⟨ys, _, hy⟩ := open_sl (e3 := encM) (k := 4) uMs nM (fun _ => True) (fun n c y hy => by
  obtain ⟨l, hl, hc, _⟩ := trod_ints all46 hy
  match l, hl with
  | [a, b, e, f], _ => exact ⟨(a, b, e, f), hc, trivial⟩) hf hval
 exact ⟨ys, hy⟩
theorem open_bytes (hval : Value.okWide Tryz.prog w r b0 51 v) (h : DataW.Trod enc Tryz.prog w 0 sp true 51 v d ps) :
  ∃ ys : List Nat, BsOk ys ∧ ((ys = [] ∧ v = .slice none 0 0) ∨ ∃ b off cap, v = .slice (some ⟨b, off, none⟩) ys.length cap ∧ LiesAt w b off (flat encB ys)) := by
 obtain ⟨a, len, cap, rfl⟩ := okWide_slice uBs hval
 unfold Value.okWide at hval
 rw [uBs] at hval
 obtain ⟨fuel, hf⟩ := h
 have hf : DataW.trod enc Tryz.prog w 0 sp true fuel 51 [.slice a len cap] = some (d, ps) := hf
 obtain ⟨ys, hR, hy⟩ := open_sl (e3 := encB) (k := 1) uBs c5 (fun z => z < 256) (fun n c y hy => by
  obtain ⟨m, hm, _, hw⟩ := DataW.trod_int u5 hy
  have hb : 0 ≤ m ∧ m < 256 := by
   simp [Lit.wf, IntKind.min, IntKind.max, IntKind.bits, IntKind.signed] at hw
   omega
  refine ⟨m.toNat, ?_, by omega⟩
  rw [hm]
  show _ = [Value.int .u8 ((m.toNat : Nat) : Int)]
  rw [Int.toNat_of_nonneg hb.1]) hf hval
 exact ⟨ys, hR, hy⟩
end
theorem live36_ok : OrcAt Tryz.prog 21 gLive := live_eq pok (fun f g h => by
 unfold orcR at h
 cases h1 : Nat.beq f 82 with
 | true =>
  have e := Nat.eq_of_beq_eq_true h1
  subst e
  rw [h1] at h
  cases h
  exact gTake_ok (gFix_ok pok)
 | false =>
  rw [h1] at h
  cases h2 : Nat.beq f 85 with
  | true =>
   have e := Nat.eq_of_beq_eq_true h2
   subst e
   rw [h2] at h
   cases h
   exact gU32_ok (gFix_ok pok) (gFix_ok pok)
  | false => rw [h2] at h; cases h) live36
theorem O_ok : OrcOk Tryz.prog O := fun f g h => by
 unfold O at h
 cases h0 : Nat.beq f 21 with
 | true =>
  have e := Nat.eq_of_beq_eq_true h0
  subst e
  rw [h0] at h
  cases h
  exact live36_ok
 | false =>
  rw [h0] at h
  cases h1 : Nat.beq f 82 with
  | true =>
   have e := Nat.eq_of_beq_eq_true h1
   subst e
   rw [h1] at h
   cases h
   exact gTake_ok (gRun_ok pok)
  | false =>
   rw [h1] at h
   cases h2 : Nat.beq f 85 with
   | true =>
    have e := Nat.eq_of_beq_eq_true h2
    subst e
    rw [h2] at h
    cases h
    exact gU32_ok (gRun_ok pok) (gRun_ok pok)
   | false => rw [h2] at h; cases h
theorem walkRk {v u : Value} {ms : List Mv} {ys : List Nat} {z : Nat} {W : World} (hB : BsOk ys) (hzz : z < 65536) (hz : (ms = [] ∧ v = .slice none 0 0) ∨ ∃ b off cap, v = .slice (some ⟨b, off, none⟩) ms.length cap ∧ LiesAt W b off (flat encM ms))
  (hy : (ys = [] ∧ u = .slice none 0 0) ∨ ∃ b off cap, u = .slice (some ⟨b, off, none⟩) ys.length cap ∧ LiesAt W b off (flat encB ys)) :
  Calls Tryz.prog 6 #[v, u, .int .u16 (z : Int)] W fun e w' => e = .returned (.bool true) ∧ Below W.heap.size W w' := by
 obtain ⟨ps, v', u', h1, h2, h3, h4, h5⟩ := in_two (e3 := encM) (e1 := encB) (fun _ => rfl) (fun _ => rfl) hz hy
 exact callsIn_wide.1 (run_ok (n := 0) pok O_ok (rback_c h4 h5 hB hzz) (in_rel h1) (in_fr _) (.cons h2 (.cons h3 (.cons (.int _ _) .nil))))
end Go.Proofs.YtcjochjiegiliaaGreat
