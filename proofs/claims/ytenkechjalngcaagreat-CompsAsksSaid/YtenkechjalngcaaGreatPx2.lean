/- Parts of the proof: Px2: each statement bears its own conditions. -/
import Derived.Test.YtenkechjalngcaaGreatPx1
/-! part AxH21 -/
namespace Go.Ax
open Go
set_option linter.unusedSimpArgs false
set_option linter.unusedVariables false

/-! # ref29.Check, Joined, Count; Joined of any two -/
def cfRefCheck (fr fl fs te : Nat) : CF := { res := [.tmp 4], body :=
 (.seq (.regO [⟨none, (some 2), 0, .alc (.box (.t 0))⟩,
   ⟨none, (some 4), 0, .pur (.mv (.v (.bool false)))⟩])
 (.seq (.regO [⟨none, (some 5), 0, .red (.ld (some 2) (.t 2))⟩,
   ⟨none, (some 6), 0, .eff (.call fr [(.t 5)])⟩,
   ⟨none, (some 7), 0, .pur (.bin .eql te (.t 6) (.v (.int .i64 0)))⟩,
   ⟨none, (some 8), 0, .pur (.mv (.t 7))⟩,
   ⟨(some (8, true)), (some 9), 0, .red (.ld (some 2) (.t 2))⟩,
   ⟨(some (8, true)), (some 10), 0, .eff (.call fl [(.t 9)])⟩,
   ⟨(some (8, true)), (some 11), 0, .pur (.mv (.t 1))⟩,
   ⟨(some (8, true)), (some 12), 0, .eff (.call fs [(.t 10), (.t 11)])⟩,
   ⟨none, (some 13), 0, .pur (.pick (.t 8) (.t 12) (.v (.bool false)))⟩,
   ⟨none, (some 4), 0, .pur (.mv (.t 13))⟩])
 .ret)) }
def cfRefJoined (fr fl te : Nat) : CF := { res := [.tmp 6], body :=
 (.seq (.regO [⟨none, (some 3), 0, .alc (.box (.t 0))⟩,
   ⟨none, (some 6), 0, .pur (.mv (.v (.bool false)))⟩])
 (.seq (.seq (.regO [⟨none, (some 8), 0, .red (.ld (some 2) (.t 3))⟩,
   ⟨none, (some 9), 0, .eff (.call fr [(.t 8)])⟩,
   ⟨none, (some 10), 0, .pur (.bin .neq te (.t 9) (.v (.int .i64 0)))⟩,
   ⟨none, (some 11), 0, .pur (.mv (.t 10))⟩,
   ⟨(some (11, false)), (some 12), 0, .pur (.mv (.t 1))⟩,
   ⟨(some (11, false)), (some 13), 0, .pur (.bin .lss 3 (.t 12) (.v (.int .i64 0)))⟩,
   ⟨none, (some 14), 0, .pur (.pick (.t 11) (.v (.bool true)) (.t 13))⟩,
   ⟨none, (some 15), 0, .pur (.mv (.t 14))⟩,
   ⟨(some (15, false)), (some 16), 0, .pur (.mv (.t 1))⟩,
   ⟨(some (15, false)), (some 17), 0, .pur (.fldA 0 (.t 3))⟩,
   ⟨(some (15, false)), (some 18), 0, .red (.ld none (.t 17))⟩,
   ⟨(some (15, false)), (some 19), 0, .pur (.bin .geq 3 (.t 16) (.t 18))⟩,
   ⟨none, (some 20), 0, .pur (.pick (.t 15) (.v (.bool true)) (.t 19))⟩,
   ⟨none, (some 21), 0, .pur (.mv (.t 20))⟩,
   ⟨(some (21, false)), (some 22), 0, .pur (.mv (.t 2))⟩,
   ⟨(some (21, false)), (some 23), 0, .pur (.bin .lss 3 (.t 22) (.v (.int .i64 0)))⟩,
   ⟨none, (some 24), 0, .pur (.pick (.t 21) (.v (.bool true)) (.t 23))⟩,
   ⟨none, (some 25), 0, .pur (.mv (.t 24))⟩,
   ⟨(some (25, false)), (some 26), 0, .pur (.mv (.t 2))⟩,
   ⟨(some (25, false)), (some 27), 0, .pur (.fldA 0 (.t 3))⟩,
   ⟨(some (25, false)), (some 28), 0, .red (.ld none (.t 27))⟩,
   ⟨(some (25, false)), (some 29), 0, .pur (.bin .geq 3 (.t 26) (.t 28))⟩,
   ⟨none, (some 30), 0, .pur (.pick (.t 25) (.v (.bool true)) (.t 29))⟩])
 (.cond (.t 30)
  (.seq (.regO [⟨none, (some 6), 0, .pur (.mv (.v (.bool false)))⟩])
  .ret)
  .skip))
 (.seq (.regO [⟨none, (some 31), 0, .red (.ld (some 2) (.t 3))⟩,
   ⟨none, (some 32), 0, .eff (.call fl [(.t 31)])⟩,
   ⟨none, (some 7), 0, .pur (.mv (.t 32))⟩])
 (.seq (.regD [⟨none, (some 33), 0, .pur (.mv (.t 7))⟩,
   ⟨none, (some 34), 0, .pur (.mv (.t 1))⟩,
   ⟨none, (some 35), 0, .pur (.ixA (.slice 1) (.t 33) (.t 34))⟩,
   ⟨none, (some 36), 0, .red (.ld none (.t 35))⟩,
   ⟨none, (some 37), 0, .pur (.mv (.t 7))⟩,
   ⟨none, (some 38), 0, .pur (.mv (.t 2))⟩,
   ⟨none, (some 39), 0, .pur (.ixA (.slice 1) (.t 37) (.t 38))⟩,
   ⟨none, (some 40), 0, .red (.ld none (.t 39))⟩,
   ⟨none, (some 41), 0, .pur (.bin .eql 2 (.t 36) (.t 40))⟩,
   ⟨none, (some 6), 0, .pur (.mv (.t 41))⟩])
 .ret)))) }
def cfRefCount (fr fl fg te : Nat) : CF := { res := [.tmp 2], body :=
 (.seq (.regO [⟨none, (some 1), 0, .alc (.box (.t 0))⟩,
   ⟨none, (some 2), 0, .pur (.mv (.v (.int .i64 0)))⟩])
 (.seq (.seq (.regO [⟨none, (some 3), 0, .red (.ld (some 2) (.t 1))⟩,
   ⟨none, (some 4), 0, .eff (.call fr [(.t 3)])⟩,
   ⟨none, (some 5), 0, .pur (.bin .neq te (.t 4) (.v (.int .i64 0)))⟩])
 (.cond (.t 5)
  (.seq (.regO [⟨none, (some 2), 0, .pur (.mv (.v (.int .i64 0)))⟩])
  .ret)
  .skip))
 (.seq (.regO [⟨none, (some 6), 0, .red (.ld (some 2) (.t 1))⟩,
   ⟨none, (some 7), 0, .eff (.call fl [(.t 6)])⟩,
   ⟨none, (some 8), 0, .eff (.call fg [(.t 7)])⟩,
   ⟨none, (some 9), 0, .red (.lens (.t 8))⟩,
   ⟨none, (some 2), 0, .pur (.mv (.t 9))⟩])
 .ret))) }
def joinsF (L : List Nat) (N : Nat) (x y : Int) : Bool := decide (0 ≤ x) && decide (x < N) && (decide (0 ≤ y) && decide (y < N)) && decide (L[x.toNat]? = L[y.toNat]?)
theorem joinsF_in {L : List Nat} {N x y : Nat} (hx : x < N) (hy : y < N) : joinsF L N x y = decide (L[x]? = L[y]?) := by
  unfold joinsF
  have e1 : decide ((0 : Int) ≤ x) = true := by simp
  have e2 : decide ((x : Int) < N) = true := by simp; omega
  have e3 : decide ((0 : Int) ≤ y) = true := by simp
  have e4 : decide ((y : Int) < N) = true := by simp; omega
  rw [e1, e2, e3, e4, Int.toNat_natCast, Int.toNat_natCast]
  rfl
theorem joinsF_out {L : List Nat} {N : Nat} {x y : Int} (h : ¬ ((0 ≤ x ∧ x < N) ∧ (0 ≤ y ∧ y < N))) : joinsF L N x y = false := by
  unfold joinsF
  rw [Bool.and_eq_false_iff]
  left
  rw [← Bool.decide_and, ← Bool.decide_and, ← Bool.decide_and]
  exact decide_eq_false h
theorem min2_min {k : IntKind} {a b : Int} : min2 true (.int k a) (.int k b) = .ok (.int k (min a b)) := by
  show (bif keq k k then (bif true then rInt k (bif iblt b a then b else a) else rInt k (bif iblt a b then b else a)) else .no "min") = _
  simp only [keq_self, iblt_dec]
  by_cases h : b < a
  · simp [h, rInt, Int.min_eq_right (Int.le_of_lt h)]
  · simp [h, rInt, Int.min_eq_left (Int.not_lt.1 h)]
theorem min2_max {k : IntKind} {a b : Int} : min2 false (.int k a) (.int k b) = .ok (.int k (max a b)) := by
  show (bif keq k k then (bif false then rInt k (bif iblt b a then b else a) else rInt k (bif iblt a b then b else a)) else .no "min") = _
  simp only [keq_self, iblt_dec]
  by_cases h : a < b
  · simp [h, rInt, Int.max_eq_right (Int.le_of_lt h)]
  · simp [h, rInt, Int.max_eq_left (Int.not_lt.1 h)]
section
variable {P : Program} {orc : Orc} {s : Bool}
theorem joinedAny_cv {f fri f1 f2 f3 fc fi te fg fr : Nat} (A : CompsAt P orc fri f1 f2 f3 fc fi te fg fr) (hcf : compAt P f = some (cfJoined fri fg fr te)) (ho : orc f = none) {N : Nat} {x y : Int} {v : Value} {gs : List GE} {h : Hp} {nx : Nat} (hv : SlRd h nx v encG gs) (hN : N < 24) (hl : gs.length ≤ 60) (hok : ∀ g ∈ gs, GOk N g)
    {L : List Nat} (hL : IsLab N gs L) :
    Cv P orc s f [.agg ⟨[.int .i64 (N : Int), v]⟩, .int .i64 x, .int .i64 y] h nx (StillK (.bool (joinsF L N x y)) nx h) := by
  by_cases hin : (0 ≤ x ∧ x < N) ∧ (0 ≤ y ∧ y < N)
  · obtain ⟨a, rfl⟩ := Int.eq_ofNat_of_zero_le hin.1.1
    obtain ⟨b, rfl⟩ := Int.eq_ofNat_of_zero_le hin.2.1
    rw [joinsF_in (by omega) (by omega)]
    exact joined_cv A hcf ho hv hN hl hok (by omega) (by omega) hL
  rw [joinsF_out hin]
  refine Cv.enter ho hcf ?_
  unfold cfJoined
  obtain ⟨a, cap, rfl, _⟩ := id hv
  refine Ev.seq (Ev.regO ?_)
  rw [Ov_alc, alc_box (l := [.int .i64 (N : Int), .slice a gs.length cap]) (by simp) (by simp)]
  simp only [Ov_pur, Ov_nil, c_mv, cev_v, putT_some, RK_ok, nextK_normal, nbV_ptr, nbO_ptr, Nat.zero_add, Nat.reduceAdd, setArgs_nil, setArgs_cons]
  refine Ev.genH (fun tm2 h2 => tget tm2 1 = .int .i64 x ∧ tget tm2 2 = .int .i64 y ∧ tget tm2 3 = .pointer (some ⟨nx, 0, none⟩) ∧ hget h2 nx = some (.cells [.int .i64 (N : Int), .slice a gs.length cap] false) ∧ Keep nx h h2) ⟨by simp, by simp, by simp, by simp, fun c hc => by rw [hgs, if_neg (by omega)]⟩ ?_
  rintro tm2 h2 ⟨t1, t2, t3, g1, hk⟩
  refine Ev.seq (Ev.seq (Ev.regO ?_))
  repeat (first | simp only [Dv_g, Ov_g, putT_some, putT_none, tgs, ↓reduceIte, Nat.reduceEqDiff, boolIs_t, boolIs_f, boolIs_u, Bool.not_true, Bool.not_false, Bool.false_eq_true, isEffC_pur, isEffC_alc, isEffC_red, isEffC_eff] | simp only [Ov_red, c_ld, cev_t, putT_some, addrR_ptr, RK_ok, ↓reduceIte, List.length_cons, List.length_nil, List.take_zero, List.take_succ_cons, List.drop_zero, Nat.zero_add, Nat.reduceAdd, t3, cellsOf_some g1, loadC_many, Nat.sub_zero, Nat.le_refl])
  refine Ov_call ?_
  simp only [cevs_nil, cevs_cons, cev_t, cev_v, tgs, ↓reduceIte, Nat.reduceEqDiff]
  refine (A.right (hv.keep hk (show nx ≤ nx + 1 by omega)) hN hl hok).mono ?_
  rintro r h3 nx3 ⟨rfl, hk3, hnx3⟩
  have g1' := (hk3 nx (by omega)).trans g1
  have f3 : ((0 : Int) == 0) = true := rfl
  by_cases hlow : min x y < 0
  · have f1 : decide (min x y < 0) = true := decide_eq_true hlow
    repeat (first | simp only [Dv_g, Ov_g, putT_some, putT_none, tgs, ↓reduceIte, Nat.reduceEqDiff, boolIs_t, boolIs_f, boolIs_u, Bool.not_true, Bool.not_false, Bool.false_eq_true, isEffC_pur, isEffC_alc, isEffC_red, isEffC_eff] | simp only [Ov_pur, Ov_nil, c_mv, c_bin, c_pick, cPick_bool, cev_t, cev_v, putT_some, tgs, RK_ok, bin_lss, bin_neq, nextK_normal, ↓reduceIte, Nat.reduceEqDiff, Bool.false_eq_true, Bool.not_true, t1, t2, t3, cellsOf_some g1', c_mn, min2_min, min2_max, f1, f3])
    refine Ev.cond true (by simp) (fun _ => ?_) (by simp)
    refine Ev.seq (Ev.regO ?_)
    simp only [Ov_pur, Ov_nil, c_mv, cev_v, putT_some, RK_ok, nextK_normal]
    refine Ev.ret ?_
    simp only [tgs, RK_ok, bind_ok, nextK_ret, ↓reduceIte, retK_ret, resVs_tmp, resVs_nil, retV_one]
    exact ⟨rfl, fun c hc => by rw [hk3 c (by omega)]; exact hk c hc, by omega⟩
  · have f1 : decide (min x y < 0) = false := decide_eq_false hlow
    have f2 : decide (max x y < (N : Int)) = false := decide_eq_false (by omega)
    repeat (first | simp only [Dv_g, Ov_g, putT_some, putT_none, tgs, ↓reduceIte, Nat.reduceEqDiff, boolIs_t, boolIs_f, boolIs_u, Bool.not_true, Bool.not_false, Bool.false_eq_true, isEffC_pur, isEffC_alc, isEffC_red, isEffC_eff] | simp only [Ov_pur, Ov_red, Ov_nil, c_mv, c_bin, c_pick, cPick_bool, c_fldA, c_ld, cev_t, cev_v, putT_some, addrR_ptr, moveA_eq, tgs, RK_ok, ofGet_some, loadC_one, bin_lss, bin_geq, bin_neq, nextK_normal, ↓reduceIte, Nat.reduceEqDiff, List.getElem?_cons_zero, Nat.add_zero, Bool.false_eq_true, Bool.not_true, Bool.not_false, t1, t2, t3, cellsOf_some g1', c_mn, min2_min, min2_max, f1, f2, f3])
    refine Ev.cond true (by simp) (fun _ => ?_) (by simp)
    refine Ev.seq (Ev.regO ?_)
    simp only [Ov_pur, Ov_nil, c_mv, cev_v, putT_some, RK_ok, nextK_normal]
    refine Ev.ret ?_
    simp only [tgs, RK_ok, bind_ok, nextK_ret, ↓reduceIte, retK_ret, resVs_tmp, resVs_nil, retV_one]
    exact ⟨rfl, fun c hc => by rw [hk3 c (by omega)]; exact hk c hc, by omega⟩
theorem refJoined_cv {f fr fl te : Nat} (hcf : compAt P f = some (cfRefJoined fr fl te)) (ho : orc f = none) (hcr : compAt P fr = some cfRefRight) (hor : orc fr = none) (hcl : compAt P fl = some cfLabels) (hol : orc fl = none) {N : Nat} {x y : Int} {v : Value} {gs : List GE} {h : Hp} {nx : Nat} (hv : SlRd h nx v encG gs) (hN0 : 0 < N) (hN : N < 24) (hl : gs.length ≤ 60) (hok : ∀ g ∈ gs, GOk N g)
    {L : List Nat} (hL : IsLab N gs L) :
    Cv P orc s f [.agg ⟨[.int .i64 (N : Int), v]⟩, .int .i64 x, .int .i64 y] h nx (StillK (.bool (joinsF L N x y)) nx h) := by
  refine Cv.enter ho hcf ?_
  unfold cfRefJoined
  obtain ⟨a, cap, rfl, _⟩ := id hv
  refine Ev.seq (Ev.regO ?_)
  rw [Ov_alc, alc_box (l := [.int .i64 (N : Int), .slice a gs.length cap]) (by simp) (by simp)]
  simp only [Ov_pur, Ov_nil, c_mv, cev_v, putT_some, RK_ok, nextK_normal, nbV_ptr, nbO_ptr, Nat.zero_add, Nat.reduceAdd, setArgs_nil, setArgs_cons]
  refine Ev.genH (fun tm2 h2 => tget tm2 1 = .int .i64 x ∧ tget tm2 2 = .int .i64 y ∧ tget tm2 3 = .pointer (some ⟨nx, 0, none⟩) ∧ hget h2 nx = some (.cells [.int .i64 (N : Int), .slice a gs.length cap] false) ∧ Keep nx h h2) ⟨by simp, by simp, by simp, by simp, fun c hc => by rw [hgs, if_neg (by omega)]⟩ ?_
  rintro tm2 h2 ⟨t1, t2, t3, g1, hk⟩
  refine Ev.seq (Ev.seq (Ev.regO ?_))
  repeat (first | simp only [Dv_g, Ov_g, putT_some, putT_none, tgs, ↓reduceIte, Nat.reduceEqDiff, boolIs_t, boolIs_f, boolIs_u, Bool.not_true, Bool.not_false, Bool.false_eq_true, isEffC_pur, isEffC_alc, isEffC_red, isEffC_eff] | simp only [Ov_red, c_ld, cev_t, putT_some, addrR_ptr, RK_ok, ↓reduceIte, List.length_cons, List.length_nil, List.take_zero, List.take_succ_cons, List.drop_zero, Nat.zero_add, Nat.reduceAdd, t3, cellsOf_some g1, loadC_many, Nat.sub_zero, Nat.le_refl])
  refine Ov_call ?_
  simp only [cevs_nil, cevs_cons, cev_t, cev_v, tgs, ↓reduceIte, Nat.reduceEqDiff]
  refine (refRight_cv hcr hor (hv.keep hk (show nx ≤ nx + 1 by omega)) hN hl hok).mono ?_
  rintro r h3 nx3 ⟨rfl, hk3, hnx3⟩
  have g1' := (hk3 nx (by omega)).trans g1
  have f3 : ((0 : Int) == 0) = true := rfl
  by_cases hin : (0 ≤ x ∧ x < N) ∧ (0 ≤ y ∧ y < N)
  · obtain ⟨x, rfl⟩ := Int.eq_ofNat_of_zero_le hin.1.1
    obtain ⟨y, rfl⟩ := Int.eq_ofNat_of_zero_le hin.2.1
    have hx : x < N := by omega
    have hy : y < N := by omega
    rw [joinsF_in hx hy]
    have d1 : decide ((x : Int) < 0) = false := decide_eq_false (by omega)
    have d2 : decide ((x : Int) < N) = true := decide_eq_true (by omega)
    have d3 : decide ((y : Int) < 0) = false := decide_eq_false (by omega)
    have d4 : decide ((y : Int) < N) = true := decide_eq_true (by omega)
    repeat (first | simp only [Dv_g, Ov_g, putT_some, putT_none, tgs, ↓reduceIte, Nat.reduceEqDiff, boolIs_t, boolIs_f, boolIs_u, Bool.not_true, Bool.not_false, Bool.false_eq_true, isEffC_pur, isEffC_alc, isEffC_red, isEffC_eff] | simp only [Ov_pur, Ov_red, Ov_nil, c_mv, c_bin, c_pick, cPick_bool, c_fldA, c_ld, cev_t, cev_v, putT_some, addrR_ptr, moveA_eq, tgs, RK_ok, ofGet_some, loadC_one, bin_lss, bin_geq, bin_neq, nextK_normal, ↓reduceIte, Nat.reduceEqDiff, List.getElem?_cons_zero, Nat.add_zero, Bool.false_eq_true, Bool.not_true, t1, t2, t3, cellsOf_some g1', d1, d2, d3, d4, f3])
    refine Ev.cond false (by simp) (by simp) (fun _ => Ev.skip ?_)
    (try simp only [nextK_normal])
    refine Ev.seq (Ev.regO ?_)
    simp only [Ov_red, c_ld, cev_t, putT_some, addrR_ptr, tgs, RK_ok, ↓reduceIte, Nat.reduceEqDiff, List.length_cons, List.length_nil, List.take_zero, List.take_succ_cons, List.drop_zero, Nat.zero_add, Nat.reduceAdd, t3, cellsOf_some g1', loadC_many, Nat.sub_zero, Nat.le_refl]
    refine Ov_call ?_
    simp only [cevs_nil, cevs_cons, cev_t, cev_v, tgs, ↓reduceIte, Nat.reduceEqDiff]
    refine (labels_cv hcl hol ((hv.keep hk (show nx ≤ nx + 1 by omega)).keep hk3 hnx3) hN0 hN hl hok hL).mono ?_
    rintro r h4 nx4 ⟨b, rfl, gL, hb1, hb2, hk4⟩
    have hLx : L[x]? = some (L[x]'(by rw [hL.len]; exact hx)) := List.getElem?_eq_getElem _
    have hLy : L[y]? = some (L[y]'(by rw [hL.len]; exact hy)) := List.getElem?_eq_getElem _
    generalize L[x]'(by rw [hL.len]; exact hx) = lx at hLx
    generalize L[y]'(by rw [hL.len]; exact hy) = ly at hLy
    simp only [Ov_pur, Ov_nil, c_mv, cev_t, putT_some, tgs, RK_ok, nextK_normal, ↓reduceIte]
    refine Ev.seq (Ev.regD ?_)
    simp only [Dv_pur, Dv_red, Dv_nil, c_mv, c_bin, c_ixA, natR_nat, oIx_slice, c_ld, cev_t, putT_some, addrR_ptr, tgs, RK_ok, ofGet_some, loadC_one, bin_eql, nextK_normal, ↓reduceIte, Nat.reduceEqDiff, Nat.zero_add, Nat.mul_one, true_and, cagree_0, t1, t2, hx, hy, cellsOf_some gL, ints_get (nats_get hLx), ints_get (nats_get hLy)]
    refine Ev.ret ?_
    simp only [tgs, RK_ok, bind_ok, ↓reduceIte, retK_ret, resVs_tmp, resVs_nil, retV_one]
    refine ⟨?_, fun c hc => ?_, by omega⟩
    · rw [hLx, hLy]
      congr 1
      by_cases hq : lx = ly
      · subst hq; simp
      · simp [hq]; omega
    · rw [hk4 c (by omega), hk3 c (by omega)]; exact hk c hc
  · rw [joinsF_out hin]
    by_cases h1 : x < 0
    · have d1 : decide (x < 0) = true := decide_eq_true h1
      repeat (first | simp only [Dv_g, Ov_g, putT_some, putT_none, tgs, ↓reduceIte, Nat.reduceEqDiff, boolIs_t, boolIs_f, boolIs_u, Bool.not_true, Bool.not_false, Bool.false_eq_true, isEffC_pur, isEffC_alc, isEffC_red, isEffC_eff] | simp only [Ov_pur, Ov_nil, c_mv, c_bin, c_pick, cPick_bool, cev_t, cev_v, putT_some, tgs, RK_ok, bin_lss, bin_neq, nextK_normal, ↓reduceIte, Nat.reduceEqDiff, Bool.false_eq_true, Bool.not_true, t1, t2, t3, cellsOf_some g1', d1, f3])
      refine Ev.cond true (by simp) (fun _ => ?_) (by simp)
      refine Ev.seq (Ev.regO ?_)
      simp only [Ov_pur, Ov_nil, c_mv, cev_v, putT_some, RK_ok, nextK_normal]
      refine Ev.ret ?_
      simp only [tgs, RK_ok, bind_ok, nextK_ret, ↓reduceIte, retK_ret, resVs_tmp, resVs_nil, retV_one]
      exact ⟨rfl, fun c hc => by rw [hk3 c (by omega)]; exact hk c hc, by omega⟩
    · have d1 : decide (x < 0) = false := decide_eq_false h1
      by_cases h2 : x < (N : Int)
      · have d2 : decide (x < (N : Int)) = true := decide_eq_true h2
        by_cases h3 : y < 0
        · have d3 : decide (y < 0) = true := decide_eq_true h3
          repeat (first | simp only [Dv_g, Ov_g, putT_some, putT_none, tgs, ↓reduceIte, Nat.reduceEqDiff, boolIs_t, boolIs_f, boolIs_u, Bool.not_true, Bool.not_false, Bool.false_eq_true, isEffC_pur, isEffC_alc, isEffC_red, isEffC_eff] | simp only [Ov_pur, Ov_red, Ov_nil, c_mv, c_bin, c_pick, cPick_bool, c_fldA, c_ld, cev_t, cev_v, putT_some, addrR_ptr, moveA_eq, tgs, RK_ok, ofGet_some, loadC_one, bin_lss, bin_geq, bin_neq, nextK_normal, ↓reduceIte, Nat.reduceEqDiff, List.getElem?_cons_zero, Nat.add_zero, Bool.false_eq_true, Bool.not_true, t1, t2, t3, cellsOf_some g1', d1, d2, d3, f3])
          refine Ev.cond true (by simp) (fun _ => ?_) (by simp)
          refine Ev.seq (Ev.regO ?_)
          simp only [Ov_pur, Ov_nil, c_mv, cev_v, putT_some, RK_ok, nextK_normal]
          refine Ev.ret ?_
          simp only [tgs, RK_ok, bind_ok, nextK_ret, ↓reduceIte, retK_ret, resVs_tmp, resVs_nil, retV_one]
          exact ⟨rfl, fun c hc => by rw [hk3 c (by omega)]; exact hk c hc, by omega⟩
        · have d3 : decide (y < 0) = false := decide_eq_false h3
          have d4 : decide (y < (N : Int)) = false := decide_eq_false (by omega)
          repeat (first | simp only [Dv_g, Ov_g, putT_some, putT_none, tgs, ↓reduceIte, Nat.reduceEqDiff, boolIs_t, boolIs_f, boolIs_u, Bool.not_true, Bool.not_false, Bool.false_eq_true, isEffC_pur, isEffC_alc, isEffC_red, isEffC_eff] | simp only [Ov_pur, Ov_red, Ov_nil, c_mv, c_bin, c_pick, cPick_bool, c_fldA, c_ld, cev_t, cev_v, putT_some, addrR_ptr, moveA_eq, tgs, RK_ok, ofGet_some, loadC_one, bin_lss, bin_geq, bin_neq, nextK_normal, ↓reduceIte, Nat.reduceEqDiff, List.getElem?_cons_zero, Nat.add_zero, Bool.false_eq_true, Bool.not_true, Bool.not_false, t1, t2, t3, cellsOf_some g1', d1, d2, d3, d4, f3])
          refine Ev.cond true (by simp) (fun _ => ?_) (by simp)
          refine Ev.seq (Ev.regO ?_)
          simp only [Ov_pur, Ov_nil, c_mv, cev_v, putT_some, RK_ok, nextK_normal]
          refine Ev.ret ?_
          simp only [tgs, RK_ok, bind_ok, nextK_ret, ↓reduceIte, retK_ret, resVs_tmp, resVs_nil, retV_one]
          exact ⟨rfl, fun c hc => by rw [hk3 c (by omega)]; exact hk c hc, by omega⟩
      · have d2 : decide (x < (N : Int)) = false := decide_eq_false h2
        repeat (first | simp only [Dv_g, Ov_g, putT_some, putT_none, tgs, ↓reduceIte, Nat.reduceEqDiff, boolIs_t, boolIs_f, boolIs_u, Bool.not_true, Bool.not_false, Bool.false_eq_true, isEffC_pur, isEffC_alc, isEffC_red, isEffC_eff] | simp only [Ov_pur, Ov_red, Ov_nil, c_mv, c_bin, c_pick, cPick_bool, c_fldA, c_ld, cev_t, cev_v, putT_some, addrR_ptr, moveA_eq, tgs, RK_ok, ofGet_some, loadC_one, bin_lss, bin_geq, bin_neq, nextK_normal, ↓reduceIte, Nat.reduceEqDiff, List.getElem?_cons_zero, Nat.add_zero, Bool.false_eq_true, Bool.not_true, Bool.not_false, t1, t2, t3, cellsOf_some g1', d1, d2, f3])
        refine Ev.cond true (by simp) (fun _ => ?_) (by simp)
        refine Ev.seq (Ev.regO ?_)
        simp only [Ov_pur, Ov_nil, c_mv, cev_v, putT_some, RK_ok, nextK_normal]
        refine Ev.ret ?_
        simp only [tgs, RK_ok, bind_ok, nextK_ret, ↓reduceIte, retK_ret, resVs_tmp, resVs_nil, retV_one]
        exact ⟨rfl, fun c hc => by rw [hk3 c (by omega)]; exact hk c hc, by omega⟩
theorem refCount_cv {f fr fl fg te : Nat} (hcf : compAt P f = some (cfRefCount fr fl fg te)) (ho : orc f = none) (hcr : compAt P fr = some cfRefRight) (hor : orc fr = none) (hcl : compAt P fl = some cfLabels) (hol : orc fl = none) (hcg : compAt P fg = some cfRefGroups) (hog : orc fg = none) {N : Nat} {v : Value} {gs : List GE} {h : Hp} {nx : Nat} (hv : SlRd h nx v encG gs) (hN0 : 0 < N) (hN : N < 24) (hl : gs.length ≤ 60) (hok : ∀ g ∈ gs, GOk N g)
    {L : List Nat} (hL : IsLab N gs L) :
    Cv P orc s f [.agg ⟨[.int .i64 (N : Int), v]⟩] h nx (StillK (.int .i64 (selfs L N : Int)) nx h) := by
  refine Cv.enter ho hcf ?_
  unfold cfRefCount
  obtain ⟨a, cap, rfl, _⟩ := id hv
  refine Ev.seq (Ev.regO ?_)
  rw [Ov_alc, alc_box (l := [.int .i64 (N : Int), .slice a gs.length cap]) (by simp) (by simp)]
  simp only [Ov_pur, Ov_nil, c_mv, cev_v, putT_some, RK_ok, nextK_normal, nbV_ptr, nbO_ptr, Nat.zero_add, setArgs_nil, setArgs_cons]
  refine Ev.genH (fun tm2 h2 => tget tm2 1 = .pointer (some ⟨nx, 0, none⟩) ∧ hget h2 nx = some (.cells [.int .i64 (N : Int), .slice a gs.length cap] false) ∧ Keep nx h h2) ⟨by simp, by simp, fun c hc => by rw [hgs, if_neg (by omega)]⟩ ?_
  rintro tm2 h2 ⟨t1, g1, hk⟩
  refine Ev.seq (Ev.seq (Ev.regO ?_))
  simp only [Ov_red, c_ld, cev_t, putT_some, addrR_ptr, RK_ok, ↓reduceIte, List.length_cons, List.length_nil, List.take_zero, List.take_succ_cons, List.drop_zero, Nat.zero_add, Nat.reduceAdd, t1, cellsOf_some g1, loadC_many, Nat.sub_zero, Nat.le_refl]
  refine Ov_call ?_
  simp only [cevs_nil, cevs_cons, cev_t, cev_v, tgs, ↓reduceIte, Nat.reduceEqDiff]
  refine (refRight_cv hcr hor (hv.keep hk (show nx ≤ nx + 1 by omega)) hN hl hok).mono ?_
  rintro r h3 nx3 ⟨rfl, hk3, hnx3⟩
  have g1' := (hk3 nx (by omega)).trans g1
  (try simp only [Ov_pur, Ov_nil, c_bin, cev_t, cev_v, putT_some, tgs, RK_ok, bin_neq, nextK_normal, ↓reduceIte])
  refine Ev.cond false (by simp) (by simp) (fun _ => Ev.skip ?_)
  (try simp only [nextK_normal])
  refine Ev.seq (Ev.regO ?_)
  simp only [Ov_red, c_ld, cev_t, putT_some, addrR_ptr, tgs, RK_ok, ↓reduceIte, Nat.reduceEqDiff, List.length_cons, List.length_nil, List.take_zero, List.take_succ_cons, List.drop_zero, Nat.zero_add, Nat.reduceAdd, t1, cellsOf_some g1', loadC_many, Nat.sub_zero, Nat.le_refl]
  refine Ov_call ?_
  simp only [cevs_nil, cevs_cons, cev_t, cev_v, tgs, ↓reduceIte, Nat.reduceEqDiff]
  refine (labels_cv hcl hol ((hv.keep hk (show nx ≤ nx + 1 by omega)).keep hk3 hnx3) hN0 hN hl hok hL).mono ?_
  rintro r h4 nx4 ⟨b, rfl, gL, hb1, hb2, hk4⟩
  (try simp only [putT_some])
  refine Ov_call ?_
  simp only [cevs_nil, cevs_cons, cev_t, cev_v, tgs, ↓reduceIte, Nat.reduceEqDiff]
  have hsl : SlRd h4 nx4 (.slice (some ⟨b, 0, some 1⟩) N N) encI (nats L) := ⟨_, _, by rw [nats_len, hL.len], fun _ => ⟨b, _, _, hb2, rfl, by rw [flat_ints]; exact gL⟩⟩
  refine (refGroups_cv hcg hog hsl (by rw [nats_len, hL.len]; omega)).mono ?_
  rintro r h5 nx5 ⟨sv, hlol, hk5, hnx5⟩
  have hle := hlol.lens
  rw [nats_len, hL.len, (grp_lab hL N (Nat.le_refl _)).c] at hle
  simp only [Ov_pur, Ov_red, Ov_nil, c_mv, cev_t, putT_some, tgs, RK_ok, nextK_normal, ↓reduceIte, show ∀ tm h x, cred P tm h (.lens x) = lenS (cev tm x) from fun _ _ _ => rfl, hle]
  refine Ev.ret ?_
  simp only [tgs, RK_ok, bind_ok, ↓reduceIte, retK_ret, resVs_tmp, resVs_nil, retV_one]
  exact ⟨rfl, fun c hc => by rw [hk5 c (by omega), hk4 c (by omega), hk3 c (by omega)]; exact hk c hc, by omega⟩
theorem refCheck_cv {f fr fl fs te ty : Nat} (hcf : compAt P f = some (cfRefCheck fr fl fs te)) (ho : orc f = none) (hcr : compAt P fr = some cfRefRight) (hor : orc fr = none) (hcl : compAt P fl = some cfLabels) (hol : orc fl = none) (hcs : compAt P fs = some (cfSame ty)) (hos : orc fs = none) {N : Nat} {v vl : Value} {gs : List GE} {l : List Int} {h : Hp} {nx : Nat} (hv : SlRd h nx v encG gs) (hvl : SlRd h nx vl encI l) (hN0 : 0 < N) (hN : N < 24) (hl : gs.length ≤ 60) (hok : ∀ g ∈ gs, GOk N g)
    {L : List Nat} (hL : IsLab N gs L) :
    Cv P orc s f [.agg ⟨[.int .i64 (N : Int), v]⟩, vl] h nx (StillK (.bool (decide (l = nats L))) nx h) := by
  refine Cv.enter ho hcf ?_
  unfold cfRefCheck
  obtain ⟨al, capl, rfl, _⟩ := id hvl
  obtain ⟨a, cap, rfl, _⟩ := id hv
  refine Ev.seq (Ev.regO ?_)
  rw [Ov_alc, alc_box (l := [.int .i64 (N : Int), .slice a gs.length cap]) (by simp) (by simp)]
  simp only [Ov_pur, Ov_nil, c_mv, cev_v, putT_some, RK_ok, nextK_normal, nbV_ptr, nbO_ptr, Nat.zero_add, Nat.reduceAdd, setArgs_nil, setArgs_cons]
  refine Ev.genH (fun tm2 h2 => tget tm2 1 = .slice al l.length capl ∧ tget tm2 2 = .pointer (some ⟨nx, 0, none⟩) ∧ hget h2 nx = some (.cells [.int .i64 (N : Int), .slice a gs.length cap] false) ∧ Keep nx h h2) ⟨by simp, by simp, by simp, fun c hc => by rw [hgs, if_neg (by omega)]⟩ ?_
  rintro tm2 h2 ⟨t1, t2, g1, hk⟩
  refine Ev.seq (Ev.regO ?_)
  repeat (first | simp only [Dv_g, Ov_g, putT_some, putT_none, tgs, ↓reduceIte, Nat.reduceEqDiff, boolIs_t, boolIs_f, boolIs_u, Bool.not_true, Bool.not_false, Bool.false_eq_true, isEffC_pur, isEffC_alc, isEffC_red, isEffC_eff] | simp only [Ov_red, c_ld, cev_t, putT_some, addrR_ptr, RK_ok, ↓reduceIte, List.length_cons, List.length_nil, List.take_zero, List.take_succ_cons, List.drop_zero, Nat.zero_add, Nat.reduceAdd, t2, cellsOf_some g1, loadC_many, Nat.sub_zero, Nat.le_refl])
  refine Ov_call ?_
  simp only [cevs_nil, cevs_cons, cev_t, cev_v, tgs, ↓reduceIte, Nat.reduceEqDiff]
  refine (refRight_cv hcr hor (hv.keep hk (show nx ≤ nx + 1 by omega)) hN hl hok).mono ?_
  rintro r h3 nx3 ⟨rfl, hk3, hnx3⟩
  have g1' := (hk3 nx (by omega)).trans g1
  have f3 : ((0 : Int) == 0) = true := rfl
  repeat (first | simp only [Dv_g, Ov_g, putT_some, putT_none, tgs, ↓reduceIte, Nat.reduceEqDiff, boolIs_t, boolIs_f, boolIs_u, Bool.not_true, Bool.not_false, Bool.false_eq_true, isEffC_pur, isEffC_alc, isEffC_red, isEffC_eff] | simp only [Ov_pur, Ov_red, c_mv, c_bin, c_ld, cev_t, cev_v, putT_some, addrR_ptr, tgs, RK_ok, bin_eql, ↓reduceIte, Nat.reduceEqDiff, List.length_cons, List.length_nil, List.take_zero, List.take_succ_cons, List.drop_zero, Nat.zero_add, Nat.reduceAdd, t2, cellsOf_some g1', loadC_many, Nat.sub_zero, Nat.le_refl, f3])
  refine Ov_call ?_
  simp only [cevs_nil, cevs_cons, cev_t, cev_v, tgs, ↓reduceIte, Nat.reduceEqDiff]
  refine (labels_cv hcl hol ((hv.keep hk (show nx ≤ nx + 1 by omega)).keep hk3 hnx3) hN0 hN hl hok hL).mono ?_
  rintro r h4 nx4 ⟨b, rfl, gL, hb1, hb2, hk4⟩
  repeat (first | simp only [Dv_g, Ov_g, putT_some, putT_none, tgs, ↓reduceIte, Nat.reduceEqDiff, boolIs_t, boolIs_f, boolIs_u, Bool.not_true, Bool.not_false, Bool.false_eq_true, isEffC_pur, isEffC_alc, isEffC_red, isEffC_eff] | simp only [Ov_pur, c_mv, cev_t, putT_some, tgs, RK_ok, ↓reduceIte, Nat.reduceEqDiff, t1])
  refine Ov_call ?_
  simp only [cevs_nil, cevs_cons, cev_t, cev_v, tgs, ↓reduceIte, Nat.reduceEqDiff]
  have hsl : SlRd h4 nx4 (.slice (some ⟨b, 0, some 1⟩) N N) encI (nats L) := ⟨_, _, by rw [nats_len, hL.len], fun _ => ⟨b, _, _, hb2, rfl, by rw [flat_ints]; exact gL⟩⟩
  refine (same_cv hcs hos hsl (((hvl.keep hk (show nx ≤ nx + 1 by omega)).keep hk3 hnx3).keep hk4 (by omega)) (by rw [nats_len, hL.len]; omega)).mono ?_
  rintro r h5 nx5 ⟨rfl, hk5, hnx5⟩
  repeat (first | simp only [Dv_g, Ov_g, putT_some, putT_none, tgs, ↓reduceIte, Nat.reduceEqDiff, boolIs_t, boolIs_f, boolIs_u, Bool.not_true, Bool.not_false, Bool.false_eq_true, isEffC_pur, isEffC_alc, isEffC_red, isEffC_eff] | simp only [Ov_pur, Ov_nil, c_mv, c_pick, cPick_bool, cev_t, putT_some, tgs, RK_ok, nextK_normal, ↓reduceIte, Nat.reduceEqDiff])
  refine Ev.ret ?_
  simp only [tgs, RK_ok, bind_ok, ↓reduceIte, retK_ret, resVs_tmp, resVs_nil, retV_one]
  refine ⟨?_, fun c hc => by rw [hk5 c (by omega), hk4 c (by omega), hk3 c (by omega)]; exact hk c hc, by omega⟩
  congr 1
  exact decide_eq_decide.2 ⟨fun e => e.symm, fun e => e.symm⟩
end
end Go.Ax

/-! part AxH22 -/
namespace Go.Ax
open Go
set_option linter.unusedSimpArgs false
set_option linter.unusedVariables false

/-! # the setups of layers 27 and 29 -/
def cfHopsSetup (ty : Nat) : CF := { res := [.cell 8 ty], body :=
 (.seq (.regO [⟨none, (some 4), 0, .alc (.box (.t 0))⟩,
   ⟨none, (some 8), 0, .alc (.new [(.int .i64 0), (.int .i64 0), (.int .i64 0), (.int .i64 0), (.slice none 0 0), (.int .i64 0), (.slice none 0 0), (.int .i64 0), (.int .i64 0), (.int .i64 0), (.int .i64 0), (.slice none 0 0)])⟩])
 (.seq (.regO [⟨none, (some 9), 0, .pur (.mv (.v (.int .i64 0)))⟩])
 (.seq (.seq (.regO [⟨none, (some 10), 0, .pur (.fldA 0 (.t 4))⟩,
   ⟨none, (some 11), 0, .red (.ld none (.t 10))⟩,
   ⟨none, (some 12), 0, .pur (.bin .geq 3 (.t 11) (.v (.int .i64 0)))⟩])
 (.cond (.t 12)
  (.regO [⟨none, (some 13), 0, .pur (.fldA 0 (.t 4))⟩,
    ⟨none, (some 14), 0, .red (.ld none (.t 13))⟩,
    ⟨none, (some 15), 0, .pur (.mn true (.t 14) (.v (.int .i64 8191)))⟩,
    ⟨none, (some 16), 0, .pur (.bin .add 3 (.t 15) (.v (.int .i64 1)))⟩,
    ⟨none, (some 9), 0, .pur (.mv (.t 16))⟩])
  .skip))
 (.seq (.regO [⟨none, (some 17), 0, .pur (.fldA 0 (.t 4))⟩,
   ⟨none, (some 18), 0, .red (.ld none (.t 17))⟩,
   ⟨none, (some 19), 0, .pur (.mv (.t 1))⟩,
   ⟨none, (some 20), 0, .pur (.build [(.int .i64 0), (.int .i64 0), (.int .i64 0), (.int .i64 0), (.slice none 0 0)] [(0, 1, (.v (.int .i64 1))), (1, 1, (.t 18)), (2, 1, (.t 19))])⟩,
   ⟨none, (some 21), 0, .red (.ld (some 2) (.t 4))⟩,
   ⟨none, (some 22), 0, .pur (.mv (.t 2))⟩,
   ⟨none, (some 23), 0, .pur (.mv (.t 3))⟩,
   ⟨none, (some 24), 0, .pur (.mv (.t 9))⟩,
   ⟨none, (some 25), 0, .pur (.build [(.int .i64 0), (.int .i64 0), (.int .i64 0), (.int .i64 0), (.slice none 0 0), (.int .i64 0), (.slice none 0 0), (.int .i64 0), (.int .i64 0), (.int .i64 0), (.int .i64 0), (.slice none 0 0)] [(0, 5, (.t 20)), (5, 2, (.t 21)), (7, 1, (.t 22)), (8, 1, (.t 23)), (9, 1, (.v (.int .i64 4))), (10, 1, (.t 24))])⟩,
   ⟨none, none, 0, .eff (.st 12 (.t 8) (.t 25))⟩])
 .ret)))) }
def cfRefHopsSetup (ty : Nat) : CF := { res := [.cell 8 ty], body :=
 (.seq (.regO [⟨none, (some 4), 0, .alc (.box (.t 0))⟩,
   ⟨none, (some 8), 0, .alc (.new [(.int .i64 0), (.int .i64 0), (.int .i64 0), (.int .i64 0), (.slice none 0 0), (.int .i64 0), (.slice none 0 0), (.int .i64 0), (.int .i64 0), (.int .i64 0), (.int .i64 0), (.slice none 0 0)])⟩])
 (.seq (.regO [⟨none, (some 10), 0, .pur (.fldA 0 (.t 4))⟩,
   ⟨none, (some 11), 0, .red (.ld none (.t 10))⟩,
   ⟨none, (some 12), 0, .pur (.mn true (.t 11) (.v (.int .i64 8191)))⟩,
   ⟨none, (some 13), 0, .pur (.bin .add 3 (.t 12) (.v (.int .i64 1)))⟩,
   ⟨none, (some 14), 0, .pur (.mn false (.v (.int .i64 0)) (.t 13))⟩,
   ⟨none, (some 9), 0, .pur (.mv (.t 14))⟩])
 (.seq (.regO [⟨none, (some 15), 0, .pur (.fldA 0 (.t 4))⟩,
   ⟨none, (some 16), 0, .red (.ld none (.t 15))⟩,
   ⟨none, (some 17), 0, .pur (.mv (.t 1))⟩,
   ⟨none, (some 18), 0, .pur (.build [(.int .i64 0), (.int .i64 0), (.int .i64 0), (.int .i64 0), (.slice none 0 0)] [(0, 1, (.v (.int .i64 1))), (1, 1, (.t 16)), (2, 1, (.t 17))])⟩,
   ⟨none, (some 19), 0, .red (.ld (some 2) (.t 4))⟩,
   ⟨none, (some 20), 0, .pur (.mv (.t 2))⟩,
   ⟨none, (some 21), 0, .pur (.mv (.t 3))⟩,
   ⟨none, (some 22), 0, .pur (.mv (.t 9))⟩,
   ⟨none, (some 23), 0, .pur (.build [(.int .i64 0), (.int .i64 0), (.int .i64 0), (.int .i64 0), (.slice none 0 0), (.int .i64 0), (.slice none 0 0), (.int .i64 0), (.int .i64 0), (.int .i64 0), (.int .i64 0), (.slice none 0 0)] [(0, 5, (.t 18)), (5, 2, (.t 19)), (7, 1, (.t 20)), (8, 1, (.t 21)), (9, 1, (.v (.int .i64 4))), (10, 1, (.t 22))])⟩,
   ⟨none, none, 0, .eff (.st 12 (.t 8) (.t 23))⟩])
 .ret))) }
def cfSetup (fs ty : Nat) : CF := { res := [.cell 6 ty], body :=
 (.seq (.regO [⟨none, (some 3), 0, .alc (.box (.t 0))⟩,
   ⟨none, (some 6), 0, .alc (.new [(.int .i64 0), (.int .i64 0), (.int .i64 0), (.int .i64 0), (.slice none 0 0), (.int .i64 0), (.slice none 0 0), (.int .i64 0), (.int .i64 0), (.int .i64 0), (.int .i64 0), (.slice none 0 0)])⟩])
 (.seq (.regO [⟨none, (some 8), 0, .red (.ld (some 2) (.t 3))⟩,
   ⟨none, (some 9), 0, .pur (.mv (.t 1))⟩,
   ⟨none, (some 10), 0, .pur (.mv (.t 2))⟩,
   ⟨none, (some 11), 0, .eff (.call fs [(.t 8), (.v (.int .i64 0)), (.t 9), (.t 10)])⟩,
   ⟨none, (some 7), 0, .alc (.new [(.int .i64 0), (.int .i64 0), (.int .i64 0), (.int .i64 0), (.slice none 0 0), (.int .i64 0), (.slice none 0 0), (.int .i64 0), (.int .i64 0), (.int .i64 0), (.int .i64 0), (.slice none 0 0)])⟩,
   ⟨none, none, 0, .eff (.st 12 (.t 7) (.t 11))⟩])
 (.seq (.regO [⟨none, (some 12), 0, .pur (.fldA 0 (.t 7))⟩,
   ⟨none, (some 13), 0, .pur (.fldA 0 (.t 12))⟩,
   ⟨none, none, 0, .eff (.st 1 (.t 13) (.v (.int .i64 3)))⟩])
 (.seq (.regO [⟨none, (some 14), 0, .red (.ld (some 12) (.t 7))⟩,
   ⟨none, none, 0, .eff (.st 12 (.t 6) (.t 14))⟩])
 .ret)))) }
def setup0 : List Value := [.int .i64 0, .int .i64 0, .int .i64 0, .int .i64 0, .slice none 0 0, .int .i64 0, .slice none 0 0, .int .i64 0, .int .i64 0, .int .i64 0, .int .i64 0, .slice none 0 0]
def setupL (k : Int) (N : Nat) (v : Value) (src r c : Int) : List Value := [.int .i64 k, .int .i64 (N : Int), .int .i64 src, .int .i64 0, .slice none 0 0, .int .i64 (N : Int), v, .int .i64 r, .int .i64 c, .int .i64 4, .int .i64 ((N : Int) + 1), .slice none 0 0]
section
variable {P : Program} {orc : Orc} {s : Bool}
theorem hopsSetup_cv {f ty : Nat} (hcf : compAt P f = some (cfHopsSetup ty)) (ho : orc f = none) (hty : aggOf P ty = some (some 12)) {N : Nat} {src r c : Int} {v : Value} {gs : List GE} {h : Hp} {nx : Nat} (hv : SlRd h nx v encG gs) (hN : N < 24) :
    Cv P orc s f [.agg ⟨[.int .i64 (N : Int), v]⟩, .int .i64 src, .int .i64 r, .int .i64 c] h nx (StillK (.agg ⟨setupL 1 N v src r c⟩) nx h) := by
  refine Cv.enter ho hcf ?_
  unfold cfHopsSetup
  obtain ⟨a, cap, rfl, _⟩ := id hv
  have e1 : min (N : Int) 8191 = N := by omega
  have e2 : IntKind.wrap .i64 ((N : Int) + 1) = (N : Int) + 1 := wrapS (by omega) (by omega)
  have e3 : max (0 : Int) ((N : Int) + 1) = (N : Int) + 1 := by omega
  refine Ev.seq (Ev.regO ?_)
  rw [Ov_alc, alc_box (l := [.int .i64 (N : Int), .slice a gs.length cap]) (by simp) (by simp)]
  simp only [Ov_alc, Ov_nil, putT_some, RK_ok, nextK_normal, alc_new, nbV_ptr, nbO_ptr, Nat.zero_add, Nat.reduceAdd, setArgs_nil, setArgs_cons]
  refine Ev.genH (fun tm2 h2 => tget tm2 1 = .int .i64 src ∧ tget tm2 2 = .int .i64 r ∧ tget tm2 3 = .int .i64 c ∧ tget tm2 4 = .pointer (some ⟨nx, 0, none⟩) ∧ tget tm2 8 = .pointer (some ⟨nx + 1, 0, none⟩) ∧ hget h2 nx = some (.cells [.int .i64 (N : Int), .slice a gs.length cap] false) ∧ hget h2 (nx + 1) = some (.cells setup0 false) ∧ Keep nx h h2) ⟨by simp, by simp, by simp, by simp, by simp, by simp, by simp [setup0], fun c hc => by rw [hgs, if_neg (by omega), hgs, if_neg (by omega)]⟩ ?_
  rintro tm2 h2 ⟨t1, t2, t3, t4, t8, g0, g1, hk⟩
  refine Ev.seq (Ev.regO ?_)
  simp only [Ov_pur, Ov_nil, c_mv, cev_v, putT_some, RK_ok, nextK_normal]
  refine Ev.seq (Ev.seq (Ev.regO ?_))
  simp only [Ov_pur, Ov_red, Ov_nil, c_bin, c_fldA, c_ld, cev_t, cev_v, putT_some, addrR_ptr, moveA_eq, tgs, RK_ok, ofGet_some, loadC_one, bin_geq, nextK_normal, ↓reduceIte, Nat.reduceEqDiff, List.getElem?_cons_zero, Nat.add_zero, t4, cellsOf_some g0]
  refine Ev.cond true (by simp) (fun _ => ?_) (by simp)
  refine Ev.regO ?_
  simp only [Ov_pur, Ov_red, Ov_nil, c_mv, c_bin, c_fldA, c_ld, cev_t, cev_v, putT_some, addrR_ptr, moveA_eq, tgs, RK_ok, ofGet_some, loadC_one, bin_add, nextK_normal, ↓reduceIte, Nat.reduceEqDiff, List.getElem?_cons_zero, Nat.add_zero, t4, cellsOf_some g0, c_mn, min2_min, e1, e2]
  refine Ev.genT (fun tm3 => tget tm3 1 = .int .i64 src ∧ tget tm3 2 = .int .i64 r ∧ tget tm3 3 = .int .i64 c ∧ tget tm3 4 = .pointer (some ⟨nx, 0, none⟩) ∧ tget tm3 8 = .pointer (some ⟨nx + 1, 0, none⟩) ∧ tget tm3 9 = .int .i64 ((N : Int) + 1)) ⟨by simpa using t1, by simpa using t2, by simpa using t3, by simpa using t4, by simpa using t8, by simp⟩ ?_
  rintro tm3 ⟨t1, t2, t3, t4, t8, u9⟩
  refine Ev.seq (Ev.regO ?_)
  simp only [Ov_pur, Ov_red, Ov_st, Ov_nil, c_mv, c_fldA, c_ld, cev_t, cev_v, putT_some, putT_none, addrR_ptr, moveA_eq, tgs, RK_ok, bind_ok, ofGet_some, loadC_one, nextK_normal, ↓reduceIte, Nat.reduceEqDiff, cpur_build, cfill_nil, cfill_cons, vc_int, vc_agg, List.getElem?_cons_zero, List.length_cons, List.length_nil, List.take_zero, List.take_succ_cons, List.drop_zero, List.drop_succ_cons, List.nil_append, List.cons_append, Nat.zero_add, Nat.add_zero, Nat.reduceAdd, Nat.reduceLeDiff, t1, t2, t3, t4, t8, u9, cellsOf_some g0, loadC_many, Nat.sub_zero, Nat.le_refl]
  rw [RK_st (cs := setup0) g1 (by simp) (by simp) (by simp [setup0])]
  refine Ev.ret ?_
  simp only [addrR_ptr, tgs, bind_ok, ↓reduceIte, Nat.reduceEqDiff, List.take_zero, List.drop_succ_cons, List.drop_nil, List.nil_append, List.append_nil, Nat.zero_add, retK_ret, resVs_nil, resVs_cell, t8, loadA_of hty, setup0]
  rw [cellsOf_some (b := nx + 1) (cs := setupL 1 N (.slice a gs.length cap) src r c) (ro := false) (by simp [setupL])]
  exact ⟨rfl, fun b hb => by rw [hgs, if_neg (by omega)]; exact hk b hb, by omega⟩
theorem refHopsSetup_cv {f ty : Nat} (hcf : compAt P f = some (cfRefHopsSetup ty)) (ho : orc f = none) (hty : aggOf P ty = some (some 12)) {N : Nat} {src r c : Int} {v : Value} {gs : List GE} {h : Hp} {nx : Nat} (hv : SlRd h nx v encG gs) (hN : N < 24) :
    Cv P orc s f [.agg ⟨[.int .i64 (N : Int), v]⟩, .int .i64 src, .int .i64 r, .int .i64 c] h nx (StillK (.agg ⟨setupL 1 N v src r c⟩) nx h) := by
  refine Cv.enter ho hcf ?_
  unfold cfRefHopsSetup
  obtain ⟨a, cap, rfl, _⟩ := id hv
  have e1 : min (N : Int) 8191 = N := by omega
  have e2 : IntKind.wrap .i64 ((N : Int) + 1) = (N : Int) + 1 := wrapS (by omega) (by omega)
  have e3 : max (0 : Int) ((N : Int) + 1) = (N : Int) + 1 := by omega
  refine Ev.seq (Ev.regO ?_)
  rw [Ov_alc, alc_box (l := [.int .i64 (N : Int), .slice a gs.length cap]) (by simp) (by simp)]
  simp only [Ov_alc, Ov_nil, putT_some, RK_ok, nextK_normal, alc_new, nbV_ptr, nbO_ptr, Nat.zero_add, Nat.reduceAdd, setArgs_nil, setArgs_cons]
  refine Ev.genH (fun tm2 h2 => tget tm2 1 = .int .i64 src ∧ tget tm2 2 = .int .i64 r ∧ tget tm2 3 = .int .i64 c ∧ tget tm2 4 = .pointer (some ⟨nx, 0, none⟩) ∧ tget tm2 8 = .pointer (some ⟨nx + 1, 0, none⟩) ∧ hget h2 nx = some (.cells [.int .i64 (N : Int), .slice a gs.length cap] false) ∧ hget h2 (nx + 1) = some (.cells setup0 false) ∧ Keep nx h h2) ⟨by simp, by simp, by simp, by simp, by simp, by simp, by simp [setup0], fun c hc => by rw [hgs, if_neg (by omega), hgs, if_neg (by omega)]⟩ ?_
  rintro tm2 h2 ⟨t1, t2, t3, t4, t8, g0, g1, hk⟩
  refine Ev.seq (Ev.regO ?_)
  simp only [Ov_pur, Ov_red, Ov_nil, c_mv, c_bin, c_fldA, c_ld, cev_t, cev_v, putT_some, addrR_ptr, moveA_eq, tgs, RK_ok, ofGet_some, loadC_one, bin_add, nextK_normal, ↓reduceIte, List.getElem?_cons_zero, Nat.add_zero, t4, cellsOf_some g0, c_mn, min2_min, min2_max, e1, e2, e3]
  refine Ev.genT (fun tm3 => tget tm3 1 = .int .i64 src ∧ tget tm3 2 = .int .i64 r ∧ tget tm3 3 = .int .i64 c ∧ tget tm3 4 = .pointer (some ⟨nx, 0, none⟩) ∧ tget tm3 8 = .pointer (some ⟨nx + 1, 0, none⟩) ∧ tget tm3 9 = .int .i64 ((N : Int) + 1)) ⟨by simpa using t1, by simpa using t2, by simpa using t3, by simpa using t4, by simpa using t8, by simp⟩ ?_
  rintro tm3 ⟨t1, t2, t3, t4, t8, u9⟩
  refine Ev.seq (Ev.regO ?_)
  simp only [Ov_pur, Ov_red, Ov_st, Ov_nil, c_mv, c_fldA, c_ld, cev_t, cev_v, putT_some, putT_none, addrR_ptr, moveA_eq, tgs, RK_ok, bind_ok, ofGet_some, loadC_one, nextK_normal, ↓reduceIte, Nat.reduceEqDiff, cpur_build, cfill_nil, cfill_cons, vc_int, vc_agg, List.getElem?_cons_zero, List.length_cons, List.length_nil, List.take_zero, List.take_succ_cons, List.drop_zero, List.drop_succ_cons, List.nil_append, List.cons_append, Nat.zero_add, Nat.add_zero, Nat.reduceAdd, Nat.reduceLeDiff, t1, t2, t3, t4, t8, u9, cellsOf_some g0, loadC_many, Nat.sub_zero, Nat.le_refl]
  rw [RK_st (cs := setup0) g1 (by simp) (by simp) (by simp [setup0])]
  refine Ev.ret ?_
  simp only [addrR_ptr, tgs, bind_ok, ↓reduceIte, Nat.reduceEqDiff, List.take_zero, List.drop_succ_cons, List.drop_nil, List.nil_append, List.append_nil, Nat.zero_add, retK_ret, resVs_nil, resVs_cell, t8, loadA_of hty, setup0]
  rw [cellsOf_some (b := nx + 1) (cs := setupL 1 N (.slice a gs.length cap) src r c) (ro := false) (by simp [setupL])]
  exact ⟨rfl, fun b hb => by rw [hgs, if_neg (by omega)]; exact hk b hb, by omega⟩
theorem setup_cv {f fs ty : Nat} (hcf : compAt P f = some (cfSetup fs ty)) (ho : orc f = none) (hty : aggOf P ty = some (some 12)) {N : Nat} {r c : Int} {v : Value} {gs : List GE} {h : Hp} {nx : Nat} (hv : SlRd h nx v encG gs) (hN : N < 24)
    (hs : ∀ h' nx', SlRd h' nx' v encG gs → Cv P orc s fs [.agg ⟨[.int .i64 (N : Int), v]⟩, .int .i64 0, .int .i64 r, .int .i64 c] h' nx' (StillK (.agg ⟨setupL 1 N v 0 r c⟩) nx' h')) :
    Cv P orc s f [.agg ⟨[.int .i64 (N : Int), v]⟩, .int .i64 r, .int .i64 c] h nx (StillK (.agg ⟨setupL 3 N v 0 r c⟩) nx h) := by
  refine Cv.enter ho hcf ?_
  unfold cfSetup
  obtain ⟨a, cap, rfl, _⟩ := id hv
  refine Ev.seq (Ev.regO ?_)
  rw [Ov_alc, alc_box (l := [.int .i64 (N : Int), .slice a gs.length cap]) (by simp) (by simp)]
  simp only [Ov_alc, Ov_nil, putT_some, RK_ok, nextK_normal, alc_new, nbV_ptr, nbO_ptr, Nat.zero_add, Nat.reduceAdd, setArgs_nil, setArgs_cons]
  refine Ev.genH (fun tm2 h2 => tget tm2 1 = .int .i64 r ∧ tget tm2 2 = .int .i64 c ∧ tget tm2 3 = .pointer (some ⟨nx, 0, none⟩) ∧ tget tm2 6 = .pointer (some ⟨nx + 1, 0, none⟩) ∧ hget h2 nx = some (.cells [.int .i64 (N : Int), .slice a gs.length cap] false) ∧ hget h2 (nx + 1) = some (.cells setup0 false) ∧ Keep nx h h2) ⟨by simp, by simp, by simp, by simp, by simp, by simp [setup0], fun c hc => by rw [hgs, if_neg (by omega), hgs, if_neg (by omega)]⟩ ?_
  rintro tm2 h2 ⟨t1, t2, t3, t6, g0, g1, hk⟩
  refine Ev.seq (Ev.regO ?_)
  simp only [Ov_pur, Ov_red, c_mv, c_ld, cev_t, putT_some, addrR_ptr, tgs, RK_ok, ↓reduceIte, Nat.reduceEqDiff, List.length_cons, List.length_nil, List.take_zero, List.take_succ_cons, List.drop_zero, Nat.zero_add, Nat.reduceAdd, t1, t2, t3, cellsOf_some g0, loadC_many, Nat.sub_zero, Nat.le_refl]
  refine Ov_call ?_
  simp only [cevs_nil, cevs_cons, cev_t, cev_v, tgs, ↓reduceIte, Nat.reduceEqDiff]
  refine (hs _ _ (hv.keep hk (show nx ≤ nx + 1 + 1 by omega))).mono ?_
  rintro rr h3 nx3 ⟨rfl, hk3, hnx3⟩
  simp only [Ov_alc, Ov_st, Ov_nil, cev_t, putT_some, putT_none, addrR_ptr, tgs, RK_ok, nextK_normal, ↓reduceIte, Nat.reduceEqDiff, alc_new, vc_agg, nbV_ptr, nbO_ptr]
  rw [RK_st (cs := setup0) (by simp [setup0]) (by simp [setupL]) (by simp [setupL]) (by simp [setup0])]
  refine Ev.genH (fun tm4 h4 => tget tm4 6 = .pointer (some ⟨nx + 1, 0, none⟩) ∧ tget tm4 7 = .pointer (some ⟨nx3, 0, none⟩) ∧ hget h4 (nx + 1) = some (.cells setup0 false) ∧ hget h4 nx3 = some (.cells (setupL 1 N (.slice a gs.length cap) 0 r c) false) ∧ Keep nx h h4)
    ⟨by simpa using t6, by simp, by rw [hgs, if_neg (by omega), hgs, if_neg (by omega), hk3 _ (by omega)]; exact g1, by simp [setupL, setup0], fun b hb => by rw [hgs, if_neg (by omega), hgs, if_neg (by omega), hk3 _ (by omega)]; exact hk b hb⟩ ?_
  rintro tm4 h4 ⟨u6, u7, k1, k3, hk4⟩
  refine Ev.seq (Ev.regO ?_)
  simp only [Ov_pur, Ov_st, Ov_nil, c_fldA, cev_t, cev_v, putT_some, putT_none, addrR_ptr, moveA_eq, tgs, RK_ok, nextK_normal, ↓reduceIte, vc_int, Nat.add_zero, u7]
  rw [RK_st1 k3 rfl (by simp [setupL])]
  refine Ev.genH (fun tm5 h5 => tget tm5 6 = .pointer (some ⟨nx + 1, 0, none⟩) ∧ tget tm5 7 = .pointer (some ⟨nx3, 0, none⟩) ∧ hget h5 (nx + 1) = some (.cells setup0 false) ∧ hget h5 nx3 = some (.cells (setupL 3 N (.slice a gs.length cap) 0 r c) false) ∧ Keep nx h h5)
    ⟨by simpa using u6, by simpa using u7, by rw [hgs, if_neg (by omega)]; exact k1, by simp [setupL], fun b hb => by rw [hgs, if_neg (by omega)]; exact hk4 b hb⟩ ?_
  rintro tm5 h5 ⟨u6, u7, k1, k3, hk5⟩
  refine Ev.seq (Ev.regO ?_)
  have l12 : ∀ k : Int, (setupL k N (.slice a gs.length cap) 0 r c).length = 12 := fun _ => rfl
  simp only [Ov_red, Ov_st, Ov_nil, c_ld, cev_t, putT_some, putT_none, addrR_ptr, tgs, RK_ok, nextK_normal, ↓reduceIte, Nat.reduceEqDiff, vc_agg, List.drop_zero, u6, u7, cellsOf_some k3, loadC_many, Nat.sub_zero, l12, Nat.le_refl]
  rw [RK_st (cs := setup0) k1 (by simp [setupL]) (by simp [setupL]) (by simp [setup0])]
  refine Ev.ret ?_
  simp only [addrR_ptr, tgs, bind_ok, ↓reduceIte, Nat.reduceEqDiff, List.take_zero, List.nil_append, Nat.zero_add, retK_ret, resVs_nil, resVs_cell, u6, loadA_of hty]
  rw [cellsOf_some (b := nx + 1) (cs := setupL 3 N (.slice a gs.length cap) 0 r c) (ro := false) (by simp [setupL, setup0])]
  exact ⟨rfl, fun b hb => by rw [hgs, if_neg (by omega)]; exact hk5 b hb, by omega⟩
end
end Go.Ax

/-! part AxH23 -/
namespace Go.Ax
open Go
set_option linter.unusedSimpArgs false
set_option linter.unusedVariables false

/-! # law29.CompsAsks -/
def cfCompsAsks : CF := { res := [.tmp 6], body :=
 (.seq (.regO [⟨none, (some 3), 0, .alc (.box (.t 0))⟩,
   ⟨none, (some 5), 0, .alc (.box (.t 2))⟩,
   ⟨none, (some 6), 0, .pur (.mv (.v (.bool false)))⟩])
 (.seq (.seq (.regO [⟨none, (some 16), 0, .pur (.mv (.t 1))⟩,
   ⟨none, (some 17), 0, .red (.lens (.t 16))⟩,
   ⟨none, (some 18), 0, .pur (.bin .gtr 3 (.t 17) (.v (.int .i64 60)))⟩])
 (.cond (.t 18)
  (.seq (.regO [⟨none, (some 19), 0, .eff (.call 10 [])⟩,
    ⟨none, (some 6), 0, .pur (.mv (.t 19))⟩])
  .ret)
  .skip))
 (.seq (.regO [⟨none, (some 21), 0, .red (.ld (some 5) (.t 3))⟩,
   ⟨none, (some 22), 0, .eff (.call 11 [(.t 21)])⟩,
   ⟨none, (some 20), 0, .pur (.mv (.t 22))⟩,
   ⟨none, (some 23), 0, .pur (.ext (.t 20) 0)⟩,
   ⟨none, (some 24), 0, .pur (.ext (.t 20) 1)⟩,
   ⟨none, (some 25), 0, .pur (.ext (.t 20) 2)⟩,
   ⟨none, (some 26), 0, .pur (.ext (.t 20) 3)⟩,
   ⟨none, (some 7), 0, .alc (.new [(.int .i64 0), (.slice none 0 0)])⟩,
   ⟨none, none, 0, .eff (.st 2 (.t 7) (.t 23))⟩,
   ⟨none, (some 8), 0, .pur (.mv (.t 24))⟩,
   ⟨none, (some 9), 0, .pur (.mv (.t 25))⟩,
   ⟨none, (some 10), 0, .pur (.mv (.t 26))⟩])
 (.seq (.regO [⟨none, (some 27), 0, .pur (.mv (.t 1))⟩,
   ⟨none, (some 28), 0, .eff (.call 12 [(.t 27)])⟩,
   ⟨none, (some 29), 0, .pur (.mv (.t 1))⟩,
   ⟨none, (some 30), 0, .eff (.call 13 [(.t 29)])⟩,
   ⟨none, (some 11), 0, .pur (.mv (.t 28))⟩,
   ⟨none, (some 12), 0, .pur (.mv (.t 30))⟩])
 (.seq (.regD [⟨none, (some 31), 0, .red (.ld (some 2) (.t 7))⟩,
   ⟨none, (some 32), 0, .pur (.mv (.t 9))⟩,
   ⟨none, (some 33), 0, .pur (.mv (.t 10))⟩,
   ⟨none, (some 34), 0, .eff (.call 14 [(.t 31), (.t 32), (.t 33)])⟩,
   ⟨none, (some 35), 1, .red (.ld (some 2) (.t 7))⟩,
   ⟨none, (some 36), 1, .pur (.mv (.t 9))⟩,
   ⟨none, (some 37), 1, .pur (.mv (.t 10))⟩,
   ⟨none, (some 38), 0, .eff (.call 15 [(.t 35), (.t 36), (.t 37)])⟩,
   ⟨none, (some 13), 2, .alc (.new [(.int .i64 0), (.int .i64 0), (.int .i64 0), (.int .i64 0), (.slice none 0 0), (.int .i64 0), (.slice none 0 0), (.int .i64 0), (.int .i64 0), (.int .i64 0), (.int .i64 0), (.slice none 0 0)])⟩,
   ⟨none, (some 14), 2, .alc (.new [(.int .i64 0), (.int .i64 0), (.int .i64 0), (.int .i64 0), (.slice none 0 0), (.int .i64 0), (.slice none 0 0), (.int .i64 0), (.int .i64 0), (.int .i64 0), (.int .i64 0), (.slice none 0 0)])⟩,
   ⟨none, none, 0, .eff (.st 12 (.t 13) (.t 34))⟩,
   ⟨none, none, 0, .eff (.st 12 (.t 14) (.t 38))⟩])
 (.seq (.seq (.regD [⟨none, (some 39), 0, .eff (.call 10 [])⟩,
   ⟨none, (some 40), 0, .pur (.un .not (.t 39))⟩,
   ⟨none, (some 41), 0, .pur (.mv (.t 40))⟩,
   ⟨(some (41, false)), (some 42), 0, .pur (.mv (.t 11))⟩,
   ⟨(some (41, false)), (some 43), 0, .red (.lens (.t 42))⟩,
   ⟨(some (41, false)), (some 44), 0, .pur (.mv (.t 12))⟩,
   ⟨(some (41, false)), (some 45), 0, .red (.lens (.t 44))⟩,
   ⟨(some (41, false)), (some 46), 0, .pur (.bin .neq 3 (.t 43) (.t 45))⟩,
   ⟨none, (some 47), 0, .pur (.pick (.t 41) (.v (.bool true)) (.t 46))⟩,
   ⟨none, (some 48), 0, .pur (.mv (.t 47))⟩,
   ⟨(some (48, false)), (some 49), 0, .red (.ld (some 2) (.t 7))⟩,
   ⟨(some (48, false)), (some 50), 0, .pur (.mv (.t 1))⟩,
   ⟨(some (48, false)), (some 51), 0, .eff (.call 16 [(.t 49), (.t 50)])⟩,
   ⟨(some (48, false)), (some 52), 1, .red (.ld (some 2) (.t 7))⟩,
   ⟨(some (48, false)), (some 53), 1, .pur (.mv (.t 1))⟩,
   ⟨(some (48, false)), (some 54), 0, .eff (.call 17 [(.t 52), (.t 53)])⟩,
   ⟨(some (48, false)), (some 55), 0, .pur (.bin .neq 4 (.t 51) (.t 54))⟩,
   ⟨none, (some 56), 0, .pur (.pick (.t 48) (.v (.bool true)) (.t 55))⟩,
   ⟨none, (some 57), 0, .pur (.mv (.t 56))⟩,
   ⟨(some (57, false)), (some 58), 0, .red (.ld (some 2) (.t 7))⟩,
   ⟨(some (57, false)), (some 59), 0, .pur (.ixA (.array 2 1) (.t 5) (.v (.int .i64 0)))⟩,
   ⟨(some (57, false)), (some 60), 0, .red (.ld none (.t 59))⟩,
   ⟨(some (57, false)), (some 61), 0, .pur (.ixA (.array 2 1) (.t 5) (.v (.int .i64 1)))⟩,
   ⟨(some (57, false)), (some 62), 0, .red (.ld none (.t 61))⟩,
   ⟨(some (57, false)), (some 63), 0, .eff (.call 18 [(.t 58), (.t 60), (.t 62)])⟩,
   ⟨(some (57, false)), (some 64), 1, .red (.ld (some 2) (.t 7))⟩,
   ⟨(some (57, false)), (some 65), 1, .pur (.ixA (.array 2 1) (.t 5) (.v (.int .i64 0)))⟩,
   ⟨(some (57, false)), (some 66), 1, .red (.ld none (.t 65))⟩,
   ⟨(some (57, false)), (some 67), 1, .pur (.ixA (.array 2 1) (.t 5) (.v (.int .i64 1)))⟩,
   ⟨(some (57, false)), (some 68), 1, .red (.ld none (.t 67))⟩,
   ⟨(some (57, false)), (some 69), 0, .eff (.call 19 [(.t 64), (.t 66), (.t 68)])⟩,
   ⟨(some (57, false)), (some 70), 0, .pur (.bin .neq 4 (.t 63) (.t 69))⟩,
   ⟨none, (some 71), 0, .pur (.pick (.t 57) (.v (.bool true)) (.t 70))⟩,
   ⟨none, (some 72), 0, .pur (.mv (.t 71))⟩,
   ⟨(some (72, false)), (some 73), 0, .red (.ld (some 2) (.t 7))⟩,
   ⟨(some (72, false)), (some 74), 0, .eff (.call 20 [(.t 73)])⟩,
   ⟨(some (72, false)), (some 75), 1, .red (.ld (some 2) (.t 7))⟩,
   ⟨(some (72, false)), (some 76), 0, .eff (.call 21 [(.t 75)])⟩,
   ⟨(some (72, false)), (some 77), 0, .pur (.bin .neq 3 (.t 74) (.t 76))⟩,
   ⟨none, (some 78), 0, .pur (.pick (.t 72) (.v (.bool true)) (.t 77))⟩,
   ⟨none, (some 79), 0, .pur (.mv (.t 78))⟩,
   ⟨(some (79, false)), (some 80), 0, .pur (.fldA 10 (.t 13))⟩,
   ⟨(some (79, false)), (some 81), 0, .red (.ld none (.t 80))⟩,
   ⟨(some (79, false)), (some 82), 0, .pur (.fldA 10 (.t 14))⟩,
   ⟨(some (79, false)), (some 83), 0, .red (.ld none (.t 82))⟩,
   ⟨(some (79, false)), (some 84), 0, .pur (.bin .neq 3 (.t 81) (.t 83))⟩,
   ⟨none, (some 85), 0, .pur (.pick (.t 79) (.v (.bool true)) (.t 84))⟩,
   ⟨none, (some 86), 0, .pur (.mv (.t 85))⟩,
   ⟨(some (86, false)), (some 87), 0, .pur (.fldA 0 (.t 13))⟩,
   ⟨(some (86, false)), (some 88), 0, .pur (.fldA 0 (.t 87))⟩,
   ⟨(some (86, false)), (some 89), 0, .red (.ld none (.t 88))⟩,
   ⟨(some (86, false)), (some 90), 0, .pur (.fldA 0 (.t 14))⟩,
   ⟨(some (86, false)), (some 91), 0, .pur (.fldA 0 (.t 90))⟩,
   ⟨(some (86, false)), (some 92), 0, .red (.ld none (.t 91))⟩,
   ⟨(some (86, false)), (some 93), 0, .pur (.bin .neq 34 (.t 89) (.t 92))⟩,
   ⟨none, (some 94), 0, .pur (.pick (.t 86) (.v (.bool true)) (.t 93))⟩])
 (.cond (.t 94)
  (.seq (.regO [⟨none, (some 6), 0, .pur (.mv (.v (.bool false)))⟩])
  .ret)
  .skip))
 (.seq (.seq (.regO [⟨none, (some 15), 0, .pur (.mv (.v (.int .i64 0)))⟩])
 (.block 0
  (.loop
   (.seq (.seq (.regO [⟨none, (some 95), 0, .pur (.mv (.t 15))⟩,
     ⟨none, (some 96), 0, .pur (.mv (.t 11))⟩,
     ⟨none, (some 97), 0, .red (.lens (.t 96))⟩,
     ⟨none, (some 98), 0, .pur (.bin .lss 3 (.t 95) (.t 97))⟩])
   (.cond (.t 98)
    .skip
    (.exit 0)))
   (.seq (.block 1
    (.seq (.regD [⟨none, (some 101), 0, .pur (.mv (.t 11))⟩,
      ⟨none, (some 102), 0, .pur (.mv (.t 15))⟩,
      ⟨none, (some 103), 0, .pur (.ixA (.slice 1) (.t 101) (.t 102))⟩,
      ⟨none, (some 104), 0, .red (.ld none (.t 103))⟩,
      ⟨none, (some 105), 0, .pur (.mv (.t 12))⟩,
      ⟨none, (some 106), 0, .pur (.mv (.t 15))⟩,
      ⟨none, (some 107), 0, .pur (.ixA (.slice 1) (.t 105) (.t 106))⟩,
      ⟨none, (some 108), 0, .red (.ld none (.t 107))⟩,
      ⟨none, (some 109), 0, .eff (.call 22 [(.t 104), (.t 108)])⟩,
      ⟨none, (some 110), 0, .pur (.un .not (.t 109))⟩])
    (.cond (.t 110)
     (.seq (.regO [⟨none, (some 6), 0, .pur (.mv (.v (.bool false)))⟩])
     .ret)
     .skip)))
   (.regO [⟨none, (some 99), 0, .pur (.mv (.t 15))⟩,
     ⟨none, (some 100), 0, .pur (.bin .add 3 (.t 99) (.v (.int .i64 1)))⟩,
     ⟨none, (some 15), 0, .pur (.mv (.t 100))⟩]))))))
 (.seq (.regO [⟨none, (some 6), 0, .pur (.mv (.v (.bool true)))⟩])
 .ret)))))))) }
def AskJ (n : Nat) (out1 out2 : Value) (nx : Nat) (h : Hp) (m : Nat) (tm : Tm) (h' : Hp) (nx' : Nat) : Prop :=
  ∃ i : Nat, m = n - i ∧ i ≤ n ∧ tget tm 11 = out1 ∧ tget tm 12 = out2 ∧ tget tm 15 = .int .i64 (i : Int) ∧ Keep nx h h' ∧ nx ≤ nx'
theorem Lol.sl {h : Hp} {lo hi : Nat} {out : Value} {sv : List SV} {gss : List (List Nat)} (L : Lol h out lo hi sv gss) {j : Nat} {s : SV} {g : List Nat} (hs : sv[j]? = some s) (hg : gss[j]? = some g) : SlRd h hi (svV s) encI (nats g) := by
  rcases L.each j s g hs hg with ⟨rfl, rfl⟩ | ⟨b, hb1, hb2, rfl, hb⟩
  · exact ⟨none, 0, rfl, fun h => absurd rfl h⟩
  · exact ⟨_, _, by rw [nats_len]; exact svV_some _ _, fun _ => ⟨b, _, _, hb2, rfl, by rw [flat_ints]; exact hb⟩⟩
section
variable {P : Program} {orc : Orc} {s : Bool}
theorem bin_bneq {t : TypeId} (ht : isBoolTy P t = true) (a b : Bool) : bin P .neq t (.bool a) (.bool b) = .ok (.bool (!(a == b))) := by
  show R.of "compared" (bif isBoolTy P t then eqlB a (.bool b) else none) (fun b => rBool (!b)) = _
  rw [ht]; rfl
theorem compsAsks_cv {f kt fri f1 f2 f3 fc fi fgr fr : Nat} (A : CompsAt P orc fri f1 f2 f3 fc fi 61 fgr fr) (hcf : compAt P f = some cfCompsAsks) (ho : orc f = none) (hty : aggOf P 24 = some (some 2)) (h39 : aggOf P 39 = some (some 12)) (hkt : isIntTy P kt = true) (hb4 : isBoolTy P 4 = true)
    (hv : orc 10 = some gLive) (c11 : compAt P 11 = some (cfMake 44 24 24)) (o11 : orc 11 = none) (c44 : compAt P 44 = some (cfGraph 24 24)) (o44 : orc 44 = none) (c24 : compAt P 24 = some cfWithin) (o24 : orc 24 = none)
    (c12 : compAt P 12 = some (cfGroups kt)) (o12 : orc 12 = none) (c13 : compAt P 13 = some cfRefGroups) (o13 : orc 13 = none)
    (c14 : compAt P 14 = some (cfSetup 45 39)) (o14 : orc 14 = none) (c45 : compAt P 45 = some (cfHopsSetup 39)) (o45 : orc 45 = none) (c15 : compAt P 15 = some (cfSetup 46 39)) (o15 : orc 15 = none) (c46 : compAt P 46 = some (cfRefHopsSetup 39)) (o46 : orc 46 = none)
    (c16 : compAt P 16 = some (cfCheck fri fgr fr 61)) (o16 : orc 16 = none) (c17 : compAt P 17 = some (cfRefCheck 33 23 42 61)) (o17 : orc 17 = none) (c18 : compAt P 18 = some (cfJoined fri fgr fr 61)) (o18 : orc 18 = none) (c19 : compAt P 19 = some (cfRefJoined 33 23 61)) (o19 : orc 19 = none)
    (c20 : compAt P 20 = some (cfCount fri fgr 61)) (o20 : orc 20 = none) (c21 : compAt P 21 = some (cfRefCount 33 23 13 61)) (o21 : orc 21 = none) (c22 : compAt P 22 = some (cfSame 3)) (o22 : orc 22 = none) (c42 : compAt P 42 = some (cfSame 2)) (o42 : orc 42 = none)
    (c33 : compAt P 33 = some cfRefRight) (o33 : orc 33 = none) (c23 : compAt P 23 = some cfLabels) (o23 : orc 23 = none)
    {n V R C a0 a1 : Int} {v vl : Value} {es : List Edg3} {l : List Int} {h : Hp} {nx : Nat} (hes : SlRd h nx v enc3 es) (hvl : SlRd h nx vl encI l) :
    Cv P orc s f [.agg ⟨[.int .i64 n, v, .int .i64 V, .int .u8 R, .int .u8 C]⟩, vl, .agg ⟨[.int .i64 a0, .int .i64 a1]⟩] h nx TrueK := by
  refine Cv.enter ho hcf ?_
  obtain ⟨q1, q2, q3⟩ := sl_vc hes
  obtain ⟨al, capl, rfl, _⟩ := id hvl
  unfold cfCompsAsks
  refine Ev.seq (Ev.regO ?_)
  rw [Ov_alc, alc_box (l := [.int .i64 n, v, .int .i64 V, .int .u8 R, .int .u8 C]) (by simp) (by simp [q2]), RK_ok, Ov_alc, alc_box (l := [.int .i64 a0, .int .i64 a1]) (by simp) (by simp)]
  simp only [Ov_pur, Ov_nil, c_mv, cev_v, putT_some, RK_ok, nextK_normal, nbV_ptr, nbO_ptr, Nat.zero_add, Nat.reduceAdd, setArgs_nil, setArgs_cons]
  refine Ev.genH (fun tm2 h2 => tget tm2 1 = .slice al l.length capl ∧ tget tm2 3 = .pointer (some ⟨nx, 0, none⟩) ∧ tget tm2 5 = .pointer (some ⟨nx + 1, 0, none⟩) ∧ Keep nx h h2 ∧ hget h2 nx = some (.cells [.int .i64 n, v, .int .i64 V, .int .u8 R, .int .u8 C] false) ∧ hget h2 (nx + 1) = some (.cells [.int .i64 a0, .int .i64 a1] false))
    ⟨by simp, by simp, by simp, fun c hc => by rw [hgs, if_neg (by omega), hgs, if_neg (by omega)], by simp, by simp⟩ ?_
  rintro tm2 h2 ⟨t1, t3, t5, hk, g2, g3⟩
  refine Ev.seq (Ev.seq (Ev.regO ?_))
  simp only [Ov_pur, Ov_red, Ov_nil, c_mv, c_bin, c_lens, lenS_slice, cev_t, cev_v, putT_some, tgs, RK_ok, bin_gtr, nextK_normal, ↓reduceIte, t1]
  by_cases hlong : (60 : Int) < (l.length : Int)
  · refine Ev.cond true (by simp [hlong]) (fun _ => ?_) (by simp [hlong])
    refine Ev.seq (Ev.regO ?_)
    refine Ov_call ?_
    simp only [cevs_nil, cevs_cons, cev_t, cev_v, tgs, ↓reduceIte, Nat.reduceEqDiff]
    refine live_cv hv ?_
    simp only [Ov_pur, Ov_nil, c_mv, cev_t, putT_some, tgs, RK_ok, nextK_normal, ↓reduceIte]
    refine Ev.ret ?_
    simp only [tgs, RK_ok, bind_ok, nextK_ret, ↓reduceIte, retK_ret, resVs_tmp, resVs_nil, retV_one]
    rfl
  refine Ev.cond false (by simp [hlong]) (by simp) (fun _ => Ev.skip ?_)
  have hll : l.length ≤ 60 := by omega
  refine Ev.genT (fun tm3 => tget tm3 1 = .slice al l.length capl ∧ tget tm3 3 = .pointer (some ⟨nx, 0, none⟩) ∧ tget tm3 5 = .pointer (some ⟨nx + 1, 0, none⟩)) ⟨by simpa using t1, by simpa using t3, by simpa using t5⟩ ?_
  rintro tm3 ⟨t1, t3, t5⟩
  refine Ev.seq (Ev.regO ?_)
  simp only [Ov_red, c_ld, cev_t, putT_some, addrR_ptr, RK_ok, ↓reduceIte, List.length_cons, List.length_nil, List.take_zero, List.take_succ_cons, List.drop_zero, Nat.zero_add, Nat.reduceAdd, t3, cellsOf_some g2, loadC_many, Nat.sub_zero, Nat.le_refl]
  refine Ov_call ?_
  simp only [cevs_nil, cevs_cons, cev_t, cev_v, tgs, ↓reduceIte, Nat.reduceEqDiff]
  refine (make_cv c11 o11 hty c44 o44 c24 o24 (hes.keep hk (show nx ≤ nx + 1 + 1 by omega))).mono ?_
  rintro r h1 nx1 ⟨N, sr, ra, rb, v2, gs, rfl, hN0, hN, hsr, hgl, hok, hgs1, hnx1, hk1⟩
  obtain ⟨p1, p2, p3⟩ := sl_vc hgs1.rd
  simp only [Ov_pur, Ov_alc, Ov_st, Ov_nil, c_mv, c_ext, oExtract_tuple, cev_t, putT_some, putT_none, addrR_ptr, tgs, RK_ok, of_some, nextK_normal, ↓reduceIte, Nat.reduceEqDiff, alc_new, vc_agg, nbV_ptr, nbO_ptr, List.getElem?_cons_zero, List.getElem?_cons_succ]
  rw [RK_st (cs := [.int .i64 0, .slice none 0 0]) (by simp) (by simp [p2]) (by simp) (by simp)]
  simp only [List.take_zero, List.drop_succ_cons, List.drop_nil, List.nil_append, List.append_nil, Nat.zero_add]
  refine Ev.genH (fun tm4 h3 => tget tm4 1 = .slice al l.length capl ∧ tget tm4 5 = .pointer (some ⟨nx + 1, 0, none⟩) ∧ tget tm4 7 = .pointer (some ⟨nx1, 0, none⟩) ∧ tget tm4 9 = .int .i64 ra ∧ tget tm4 10 = .int .i64 rb ∧ hget h3 nx1 = some (.cells [.int .i64 (N : Int), v2] false) ∧ Keep nx1 h1 h3)
    ⟨by simp [t1], by simp [t5], by simp, by simp, by simp, by simp, fun b hb => by rw [hgs, if_neg (by omega), hgs, if_neg (by omega)]⟩ ?_
  rintro tm4 h3 ⟨u1, u5, u7, u9, u10, gA, hk3⟩
  have hgs3 : SlRd h3 (nx1 + 1) v2 encG gs := hgs1.rd.keep hk3 (by omega)
  have hvl3 : SlRd h3 (nx1 + 1) (.slice al l.length capl) encI l := ((hvl.keep hk (show nx ≤ nx + 1 + 1 by omega)).keep hk1 hnx1).keep hk3 (by omega)
  have ga3 := ((hk3 (nx + 1) (by omega)).trans (hk1 (nx + 1) (by omega))).trans g3
  have hes' : InR N gs := fun e he => ⟨(hok e he).1, (hok e he).2.1⟩
  obtain ⟨L, hL⟩ := exists_lab hes'
  obtain ⟨a, cap, rfl, _⟩ := id hgs3
  refine Ev.seq (Ev.regO ?_)
  simp only [Ov_pur, c_mv, cev_t, putT_some, RK_ok, u1]
  refine Ov_call ?_
  simp only [cevs_nil, cevs_cons, cev_t, cev_v, tgs, ↓reduceIte, Nat.reduceEqDiff]
  refine (groups_cv c12 o12 hkt hvl3 (by omega)).mono ?_
  rintro out1 h4 nx4 ⟨sv1, hLol1, hk4, hnx4⟩
  (try simp only [Ov_pur, c_mv, cev_t, putT_some, tgs, RK_ok, ↓reduceIte, Nat.reduceEqDiff, u1])
  refine Ov_call ?_
  simp only [cevs_nil, cevs_cons, cev_t, cev_v, tgs, ↓reduceIte, Nat.reduceEqDiff]
  refine (refGroups_cv c13 o13 (hvl3.keep hk4 (by omega)) (by omega)).mono ?_
  rintro out2 h5 nx5 ⟨sv2, hLol2, hk5, hnx5⟩
  simp only [Ov_pur, Ov_nil, c_mv, cev_t, putT_some, tgs, RK_ok, nextK_normal, ↓reduceIte, Nat.reduceEqDiff]
  have hLol1 := hLol1.keep (fun b _ h2 => hk5 b h2) hnx5
  have hgs5 := (hgs3.keep hk4 (by omega)).keep hk5 hnx5
  have hvl5 := (hvl3.keep hk4 (by omega)).keep hk5 hnx5
  have g5 := ((hk5 nx1 (by omega)).trans (hk4 nx1 (by omega))).trans gA
  have ga5 := ((hk5 (nx + 1) (by omega)).trans (hk4 (nx + 1) (by omega))).trans ga3
  refine Ev.genT (fun tm5 => tget tm5 1 = .slice al l.length capl ∧ tget tm5 5 = .pointer (some ⟨nx + 1, 0, none⟩) ∧ tget tm5 7 = .pointer (some ⟨nx1, 0, none⟩) ∧ tget tm5 9 = .int .i64 ra ∧ tget tm5 10 = .int .i64 rb ∧ tget tm5 11 = out1 ∧ tget tm5 12 = out2) ⟨by simp [u1], by simp [u5], by simp [u7], by simp [u9], by simp [u10], by simp, by simp⟩ ?_
  rintro tm5 ⟨u1, u5, u7, u9, u10, u11, u12⟩
  refine Ev.seq (Ev.regD ?_)
  simp only [Dv_pur, Dv_red, c_mv, c_ld, cev_t, putT_some, addrR_ptr, tgs, RK_ok, ↓reduceIte, Nat.reduceEqDiff, List.length_cons, List.length_nil, List.take_zero, List.take_succ_cons, List.drop_zero, Nat.zero_add, Nat.reduceAdd, true_and, cagree_0, u7, u9, u10, cellsOf_some g5, loadC_many, Nat.sub_zero, Nat.le_refl]
  refine Dv_call ?_
  simp only [cevs_nil, cevs_cons, cev_t, cev_v, tgs, ↓reduceIte, Nat.reduceEqDiff]
  refine (setup_cv c14 o14 h39 hgs5 hN (fun h' nx' hv' => hopsSetup_cv c45 o45 h39 hv' hN)).mono ?_
  rintro r h6 nx6 ⟨rfl, hk6, hnx6⟩
  refine ⟨hnx6, ?_⟩
  have hgs6 := hgs5.keep hk6 hnx6
  have hvl6 := hvl5.keep hk6 hnx6
  have g6 := (hk6 nx1 (by omega)).trans g5
  have ga6 := (hk6 (nx + 1) (by omega)).trans ga5
  simp only [Dv_pur, Dv_red, c_mv, c_ld, cev_t, putT_some, addrR_ptr, tgs, RK_ok, ↓reduceIte, Nat.reduceEqDiff, List.length_cons, List.length_nil, List.take_zero, List.take_succ_cons, List.drop_zero, Nat.zero_add, Nat.reduceAdd, Bool.and_self, true_and, cagree_1, sameR_ok, u7, u9, u10, cellsOf_some g5, cellsOf_some g6, loadC_many, Nat.sub_zero, Nat.le_refl, sameV_agg, sameL_cons, sameL_nil, same1_int, same1_slice]
  refine Dv_call ?_
  simp only [cevs_nil, cevs_cons, cev_t, cev_v, tgs, ↓reduceIte, Nat.reduceEqDiff]
  refine (setup_cv c15 o15 h39 hgs6 hN (fun h' nx' hv' => refHopsSetup_cv c46 o46 h39 hv' hN)).mono ?_
  rintro r h7 nx7 ⟨rfl, hk7, hnx7⟩
  refine ⟨hnx7, ?_⟩
  have hgs7 := hgs6.keep hk7 hnx7
  have hvl7 := hvl6.keep hk7 hnx7
  have g7 := (hk7 nx1 (by omega)).trans g6
  have ga7 := (hk7 (nx + 1) (by omega)).trans ga6
  simp only [Dv_alc, Dv_st, Dv_nil, cev_t, putT_some, putT_none, addrR_ptr, tgs, RK_ok, nextK_normal, ↓reduceIte, Nat.reduceEqDiff, alc_new, vc_agg, nbV_ptr, nbO_ptr]
  rw [RK_st (cs := setup0) (by simp [setup0]) (by simp [setupL]) (by simp [setupL]) (by simp [setup0])]
  simp only [List.take_zero, List.nil_append, Nat.zero_add]
  rw [RK_st (cs := setup0) (by simp [setup0]) (by simp [setupL]) (by simp [setupL]) (by simp [setup0])]
  simp only [List.take_zero, List.nil_append, Nat.zero_add]
  refine Ev.genH (fun tm8 h8 => tget tm8 1 = .slice al l.length capl ∧ tget tm8 5 = .pointer (some ⟨nx + 1, 0, none⟩) ∧ tget tm8 7 = .pointer (some ⟨nx1, 0, none⟩) ∧ tget tm8 11 = out1 ∧ tget tm8 12 = out2 ∧ tget tm8 13 = .pointer (some ⟨nx7, 0, none⟩) ∧ tget tm8 14 = .pointer (some ⟨nx7 + 1, 0, none⟩) ∧
      hget h8 nx7 = some (.cells (setupL 3 N (.slice a gs.length cap) 0 ra rb) false) ∧ hget h8 (nx7 + 1) = some (.cells (setupL 3 N (.slice a gs.length cap) 0 ra rb) false) ∧ Keep nx7 h7 h8)
    ⟨by simp [u1], by simp [u5], by simp [u7], by simp [u11], by simp [u12], by simp, by simp, by simp [setupL, setup0], by simp [setupL, setup0], fun b hb => by simp [show b ≠ nx7 by omega, show b ≠ nx7 + 1 by omega]⟩ ?_
  rintro tm8 h8 ⟨u1, u5, u7, u11, u12, u13, u14, gs1, gs2, hk8⟩
  have hgs8 := hgs7.keep hk8 (show nx7 ≤ nx7 + 1 + 1 by omega)
  have hvl8 := hvl7.keep hk8 (show nx7 ≤ nx7 + 1 + 1 by omega)
  have g8 := (hk8 nx1 (by omega)).trans g7
  have ga8 := (hk8 (nx + 1) (by omega)).trans ga7
  have hk58 : Keep nx5 h5 h8 := fun b hb => (hk8 b (by omega)).trans ((hk7 b (by omega)).trans (hk6 b hb))
  refine Ev.seq (Ev.seq (Ev.regD ?_))
  refine Dv_call ?_
  simp only [cevs_nil, cevs_cons, cev_t, cev_v, tgs, ↓reduceIte, Nat.reduceEqDiff]
  refine live_cv hv ?_
  refine ⟨Nat.le_refl _, ?_⟩
  have l1 := hLol1.lens
  have l2 := hLol2.lens
  repeat (first | simp only [Dv_g, Ov_g, putT_some, putT_none, tgs, ↓reduceIte, Nat.reduceEqDiff, boolIs_t, boolIs_f, boolIs_u, Bool.not_true, Bool.not_false, Bool.false_eq_true, isEffC_pur, isEffC_alc, isEffC_red, isEffC_eff] | simp only [Dv_pur, Dv_red, c_mv, c_bin, c_un, c_pick, cPick_bool, c_ld, cev_t, putT_some, addrR_ptr, tgs, RK_ok, bin_neq, un_not, ↓reduceIte, Nat.reduceEqDiff, List.length_cons, List.length_nil, List.take_zero, List.take_succ_cons, List.drop_zero, Nat.zero_add, Nat.reduceAdd, true_and, cagree_0, Bool.false_eq_true, Bool.not_true, u1, u7, u11, u12, show ∀ tm h x, cred P tm h (.lens x) = lenS (cev tm x) from fun _ _ _ => rfl, l1, l2, cellsOf_some g8, loadC_many, Nat.sub_zero, Nat.le_refl, beq_self_eq_true])
  refine Dv_call ?_
  simp only [cevs_nil, cevs_cons, cev_t, cev_v, tgs, ↓reduceIte, Nat.reduceEqDiff]
  refine (check_cv A c16 o16 hgs8 hvl8 hN0 hN hgl hok hL).mono ?_
  rintro r hB nxB ⟨rfl, hkB, hnxB⟩
  refine ⟨hnxB, ?_⟩
  have hgsB := hgs8.keep hkB hnxB
  have hvlB := hvl8.keep hkB hnxB
  have gB := (hkB nx1 (by omega)).trans g8
  have gaB := (hkB (nx + 1) (by omega)).trans ga8
  repeat (first | simp only [Dv_g, Ov_g, putT_some, putT_none, tgs, ↓reduceIte, Nat.reduceEqDiff, boolIs_t, boolIs_f, boolIs_u, Bool.not_true, Bool.not_false, Bool.false_eq_true, isEffC_pur, isEffC_alc, isEffC_red, isEffC_eff] | simp only [Dv_pur, Dv_red, c_mv, c_ld, cev_t, putT_some, addrR_ptr, tgs, RK_ok, ↓reduceIte, Nat.reduceEqDiff, List.length_cons, List.length_nil, List.take_zero, List.take_succ_cons, List.drop_zero, Nat.zero_add, Nat.reduceAdd, Bool.and_self, true_and, cagree_1, sameR_ok, u1, u7, cellsOf_some g8, cellsOf_some gB, loadC_many, Nat.sub_zero, Nat.le_refl, sameV_agg, sameL_cons, sameL_nil, same1_int, same1_slice])
  refine Dv_call ?_
  simp only [cevs_nil, cevs_cons, cev_t, cev_v, tgs, ↓reduceIte, Nat.reduceEqDiff]
  refine (refCheck_cv c17 o17 c33 o33 c23 o23 c42 o42 hgsB hvlB hN0 hN hgl hok hL).mono ?_
  rintro r hC nxC ⟨rfl, hkC, hnxC⟩
  refine ⟨hnxC, ?_⟩
  have hgsC := hgsB.keep hkC hnxC
  have hvlC := hvlB.keep hkC hnxC
  have gC := (hkC nx1 (by omega)).trans gB
  have gaC := (hkC (nx + 1) (by omega)).trans gaB
  repeat (first | simp only [Dv_g, Ov_g, putT_some, putT_none, tgs, ↓reduceIte, Nat.reduceEqDiff, boolIs_t, boolIs_f, boolIs_u, Bool.not_true, Bool.not_false, Bool.false_eq_true, isEffC_pur, isEffC_alc, isEffC_red, isEffC_eff] | simp only [Dv_pur, Dv_red, c_mv, c_bin, c_pick, cPick_bool, c_ixA, natR_zero, natR_one, oIx_array, c_ld, cev_t, cev_v, putT_some, addrR_ptr, tgs, RK_ok, ofGet_some, loadC_one, ↓reduceIte, Nat.reduceEqDiff, List.getElem?_cons_zero, List.getElem?_cons_succ, List.length_cons, List.length_nil, List.take_zero, List.take_succ_cons, List.drop_zero, Nat.zero_add, Nat.mul_one, Nat.reduceAdd, true_and, cagree_0, Bool.false_eq_true, Bool.not_true, u5, u7, cellsOf_some gC, cellsOf_some gaC, show (0 : Nat) < 2 from by decide, show (1 : Nat) < 2 from by decide, loadC_many, Nat.sub_zero, Nat.le_refl, bin_bneq hb4, beq_self_eq_true])
  refine Dv_call ?_
  simp only [cevs_nil, cevs_cons, cev_t, cev_v, tgs, ↓reduceIte, Nat.reduceEqDiff]
  refine (joinedAny_cv A c18 o18 hgsC hN hgl hok (x := a0) (y := a1) hL).mono ?_
  rintro r hD nxD ⟨rfl, hkD, hnxD⟩
  refine ⟨hnxD, ?_⟩
  have hgsD := hgsC.keep hkD hnxD
  have hvlD := hvlC.keep hkD hnxD
  have gD := (hkD nx1 (by omega)).trans gC
  have gaD := (hkD (nx + 1) (by omega)).trans gaC
  repeat (first | simp only [Dv_g, Ov_g, putT_some, putT_none, tgs, ↓reduceIte, Nat.reduceEqDiff, boolIs_t, boolIs_f, boolIs_u, Bool.not_true, Bool.not_false, Bool.false_eq_true, isEffC_pur, isEffC_alc, isEffC_red, isEffC_eff] | simp only [Dv_pur, Dv_red, c_ixA, natR_zero, natR_one, oIx_array, c_ld, cev_t, cev_v, putT_some, addrR_ptr, tgs, RK_ok, ofGet_some, loadC_one, ↓reduceIte, Nat.reduceEqDiff, List.getElem?_cons_zero, List.getElem?_cons_succ, List.length_cons, List.length_nil, List.take_zero, List.take_succ_cons, List.drop_zero, Nat.zero_add, Nat.mul_one, Nat.reduceAdd, Bool.and_self, true_and, cagree_1, sameR_ok, sameV_int, u5, u7, cellsOf_some gC, cellsOf_some gaC, cellsOf_some gD, cellsOf_some gaD, show (0 : Nat) < 2 from by decide, show (1 : Nat) < 2 from by decide, loadC_many, Nat.sub_zero, Nat.le_refl, sameV_agg, sameL_cons, sameL_nil, same1_int, same1_slice])
  refine Dv_call ?_
  simp only [cevs_nil, cevs_cons, cev_t, cev_v, tgs, ↓reduceIte, Nat.reduceEqDiff]
  refine (refJoined_cv c19 o19 c33 o33 c23 o23 hgsD hN0 hN hgl hok (x := a0) (y := a1) hL).mono ?_
  rintro r hE nxE ⟨rfl, hkE, hnxE⟩
  refine ⟨hnxE, ?_⟩
  have hgsE := hgsD.keep hkE hnxE
  have hvlE := hvlD.keep hkE hnxE
  have gE := (hkE nx1 (by omega)).trans gD
  have gaE := (hkE (nx + 1) (by omega)).trans gaD
  repeat (first | simp only [Dv_g, Ov_g, putT_some, putT_none, tgs, ↓reduceIte, Nat.reduceEqDiff, boolIs_t, boolIs_f, boolIs_u, Bool.not_true, Bool.not_false, Bool.false_eq_true, isEffC_pur, isEffC_alc, isEffC_red, isEffC_eff] | simp only [Dv_pur, Dv_red, c_mv, c_bin, c_pick, cPick_bool, c_ld, cev_t, putT_some, addrR_ptr, tgs, RK_ok, ↓reduceIte, Nat.reduceEqDiff, List.length_cons, List.length_nil, List.take_zero, List.take_succ_cons, List.drop_zero, Nat.zero_add, Nat.reduceAdd, true_and, cagree_0, Bool.false_eq_true, Bool.not_true, u7, cellsOf_some gE, loadC_many, Nat.sub_zero, Nat.le_refl, bin_bneq hb4, beq_self_eq_true])
  refine Dv_call ?_
  simp only [cevs_nil, cevs_cons, cev_t, cev_v, tgs, ↓reduceIte, Nat.reduceEqDiff]
  refine (count_cv A c20 o20 hgsE hN hgl hok hL).mono ?_
  rintro r hF nxF ⟨rfl, hkF, hnxF⟩
  refine ⟨hnxF, ?_⟩
  have hgsF := hgsE.keep hkF hnxF
  have hvlF := hvlE.keep hkF hnxF
  have gF := (hkF nx1 (by omega)).trans gE
  have gaF := (hkF (nx + 1) (by omega)).trans gaE
  repeat (first | simp only [Dv_g, Ov_g, putT_some, putT_none, tgs, ↓reduceIte, Nat.reduceEqDiff, boolIs_t, boolIs_f, boolIs_u, Bool.not_true, Bool.not_false, Bool.false_eq_true, isEffC_pur, isEffC_alc, isEffC_red, isEffC_eff] | simp only [Dv_red, c_ld, cev_t, putT_some, addrR_ptr, tgs, RK_ok, ↓reduceIte, Nat.reduceEqDiff, List.length_cons, List.length_nil, List.take_zero, List.take_succ_cons, List.drop_zero, Nat.zero_add, Nat.reduceAdd, Bool.and_self, true_and, cagree_1, sameR_ok, u7, cellsOf_some gE, cellsOf_some gF, loadC_many, Nat.sub_zero, Nat.le_refl, sameV_agg, sameL_cons, sameL_nil, same1_int, same1_slice])
  refine Dv_call ?_
  simp only [cevs_nil, cevs_cons, cev_t, cev_v, tgs, ↓reduceIte, Nat.reduceEqDiff]
  refine (refCount_cv c21 o21 c33 o33 c23 o23 c13 o13 hgsF hN0 hN hgl hok hL).mono ?_
  rintro r hG nxG ⟨rfl, hkG, hnxG⟩
  refine ⟨hnxG, ?_⟩
  have hgsG := hgsF.keep hkG hnxG
  have hvlG := hvlF.keep hkG hnxG
  have gG := (hkG nx1 (by omega)).trans gF
  have gaG := (hkG (nx + 1) (by omega)).trans gaF
  have hk8G : Keep (nx7 + 1 + 1) h8 hG := fun b hb => (hkG b (by omega)).trans ((hkF b (by omega)).trans ((hkE b (by omega)).trans ((hkD b (by omega)).trans ((hkC b (by omega)).trans (hkB b hb)))))
  have gs1 := (hk8G nx7 (by omega)).trans gs1
  have gs2 := (hk8G (nx7 + 1) (by omega)).trans gs2
  have q10 : (setupL 3 N (.slice a gs.length cap) 0 ra rb)[10]? = some (.int .i64 ((N : Int) + 1)) := rfl
  have q0 : (setupL 3 N (.slice a gs.length cap) 0 ra rb)[0]? = some (.int .i64 3) := rfl
  repeat (first | simp only [Dv_g, Ov_g, putT_some, putT_none, tgs, ↓reduceIte, Nat.reduceEqDiff, boolIs_t, boolIs_f, boolIs_u, Bool.not_true, Bool.not_false, Bool.false_eq_true, isEffC_pur, isEffC_alc, isEffC_red, isEffC_eff] | simp only [Dv_pur, Dv_red, Dv_nil, c_mv, c_bin, c_pick, cPick_bool, c_fldA, c_ld, cev_t, putT_some, addrR_ptr, moveA_eq, tgs, RK_ok, ofGet_some, loadC_one, bin_neq, nextK_normal, ↓reduceIte, Nat.reduceEqDiff, Nat.zero_add, Nat.add_zero, true_and, cagree_0, Bool.false_eq_true, Bool.not_true, u13, u14, cellsOf_some gs1, cellsOf_some gs2, q10, q0, beq_self_eq_true])
  refine Ev.cond false (by simp) (by simp) (fun _ => Ev.skip ?_)
  have hk5G : Keep nx5 h5 hG := fun b hb => (hk8G b (by omega)).trans (hk58 b hb)
  refine Ev.genT (fun tm9 => tget tm9 11 = out1 ∧ tget tm9 12 = out2) ⟨by simp [u11], by simp [u12]⟩ ?_
  rintro tm9 ⟨u11, u12⟩
  have hgll := (gst_len l l.length).2.1
  refine Ev.cut (AskJ (gst l l.length).2.length out1 out2 nx5 h5 0) ?_ ?_
  · refine Ev.seq (Ev.regO ?_)
    simp only [Ov_pur, Ov_nil, c_mv, cev_v, putT_some, RK_ok, nextK_normal]
    refine Ev.forL (AskJ (gst l l.length).2.length out1 out2 nx5 h5) ?_ (gst l l.length).2.length _ _ _ ⟨0, rfl, by omega, by simp [u11], by simp [u12], by simp, hk5G, by omega⟩
    rintro m tm h' nx' ⟨i, rfl, hi, t11, t12, t15, hk', hnx'⟩
    have hLa := hLol1.keep (h' := h') (fun b _ h2 => hk' b h2) hnx'
    have hLb := hLol2.keep (h' := h') (fun b _ h2 => hk' b h2) hnx'
    simp only [Ov_pur, Ov_red, Ov_nil, c_mv, c_bin, cev_t, cev_v, putT_some, tgs, RK_ok, bin_lss, nextK_normal, ↓reduceIte, Nat.reduceEqDiff, t11, t15, show ∀ tm h x, cred P tm h (.lens x) = lenS (cev tm x) from fun _ _ _ => rfl, l1]
    refine ⟨decide ((i : Int) < ((gst l l.length).2.length : Int)), rfl, fun e => ?_, fun e => ?_⟩
    · have : ¬ ((i : Int) < ((gst l l.length).2.length : Int)) := of_decide_eq_false e
      exact ⟨i, by omega, hi, by simpa using t11, by simpa using t12, by simpa using t15, hk', hnx'⟩
    · have hil : i < (gst l l.length).2.length := by
        have : (i : Int) < ((gst l l.length).2.length : Int) := of_decide_eq_true e
        omega
      have hg : (gst l l.length).2[i]? = some ((gst l l.length).2[i]'hil) := List.getElem?_eq_getElem _
      have hglen := (gst_len l l.length).2.2 _ (List.getElem_mem hil)
      generalize (gst l l.length).2[i]'hil = g at hg hglen
      have hi1 : i < sv1.length := by rw [hLa.len]; exact hil
      have hi2 : i < sv2.length := by rw [hLb.len]; exact hil
      have hs1 : sv1[i]? = some (sv1[i]'hi1) := List.getElem?_eq_getElem _
      have hs2 : sv2[i]? = some (sv2[i]'hi2) := List.getElem?_eq_getElem _
      generalize sv1[i]'hi1 = s1 at hs1
      generalize sv2[i]'hi2 = s2 at hs2
      obtain ⟨b1, _, _, hout1, hb1, _⟩ := hLa.out_at hs1
      obtain ⟨b2, _, _, hout2, hb2, _⟩ := hLb.out_at hs2
      rw [hout1] at t11
      rw [hout2] at t12
      refine Ev.seq (Ev.regD ?_)
      simp only [Dv_pur, Dv_red, c_mv, c_ixA, natR_nat, oIx_slice, c_ld, cev_t, putT_some, addrR_ptr, tgs, RK_ok, ofGet_some, loadC_one, ↓reduceIte, Nat.reduceEqDiff, Nat.zero_add, Nat.mul_one, true_and, cagree_0, t11, t12, t15, hi1, hi2, cellsOf_some hb1, cellsOf_some hb2, svs_get hs1, svs_get hs2]
      refine Dv_call ?_
      simp only [cevs_nil, cevs_cons, cev_t, cev_v, tgs, ↓reduceIte, Nat.reduceEqDiff]
      refine (same_cv c22 o22 (hLa.sl hs1 hg) (hLb.sl hs2 hg) (by rw [nats_len]; omega)).mono ?_
      rintro r hX nxX ⟨rfl, hkX, hnxX⟩
      refine ⟨hnxX, ?_⟩
      rw [show decide (nats g = nats g) = true by simp]
      simp only [Dv_pur, Dv_nil, c_un, cev_t, putT_some, tgs, RK_ok, un_not, nextK_normal, ↓reduceIte, Bool.not_true]
      refine Ev.cond false (by simp) (by simp) (fun _ => Ev.skip ?_)
      (try simp only [tgs, RK_ok, bin_add, nextK_normal, blkK_normal, ↓reduceIte, Nat.reduceEqDiff, t15])
      refine ⟨(gst l l.length).2.length - (i + 1), by omega, i + 1, rfl, by omega, by simpa [hout1] using t11, by simpa [hout2] using t12, ?_, fun b hb => (hkX b (by omega)).trans (hk' b hb), by omega⟩
      rw [wrapS (by omega) (by omega)]; simp
  · rintro tm h' nx' ⟨i, _, _, _, _, _, _, _⟩
    refine Ev.seq (Ev.regO ?_)
    simp only [Ov_pur, Ov_nil, c_mv, cev_v, putT_some, RK_ok, nextK_normal]
    refine Ev.ret ?_
    simp only [tgs, RK_ok, bind_ok, ↓reduceIte, retK_ret, resVs_tmp, resVs_nil, retV_one]
    rfl
end
end Go.Ax

/-! part Glue1 -/
namespace Go.Ax
open Go
set_option linter.unusedSimpArgs false
set_option linter.unusedVariables false
/-! # two slices that came in -/
def inVk (k : Nat) (v : Value) : Value := match v with
  | .slice (some _) n c => .slice (some ⟨k, 0, none⟩) n c
  | v => v
theorem plain_mem {α : Type} {e3 : α → List Value} (hpl : ∀ z, plainL (e3 z) = true) : ∀ l : List α, ∀ x ∈ flat e3 l, plainV x = true := by
  intro l
  induction l with
  | nil => intro x hx; cases hx
  | cons z l ih =>
    intro x hx
    have hx : x ∈ e3 z ++ flat e3 l := hx
    rcases List.mem_append.1 hx with hx | hx
    · have : ∀ (l : List Value), plainL l = true → ∀ x ∈ l, plainV x = true := by
        intro l
        induction l with
        | nil => intro _ x hx; cases hx
        | cons y l ih =>
          intro h x hx
          have h : (plainV y && plainL l) = true := h
          simp only [Bool.and_eq_true] at h
          rcases List.mem_cons.1 hx with rfl | hx
          · exact h.1
          · exact ih h.2 x hx
      exact this _ (hpl z) x hx
    · exact ih x hx
theorem in_w {α : Type} {e3 : α → List Value} {w : World} {v : Value} {zs : List α} (hpl : ∀ z, plainL (e3 z) = true)
    (h : (zs = [] ∧ v = .slice none 0 0) ∨ ∃ b off cap, v = .slice (some ⟨b, off, none⟩) zs.length cap ∧ LiesAt w b off (flat e3 zs)) (ρ : Rho) :
    ∀ p ∈ inPs v (flat e3 zs), ∃ c e fr, w.heap[p.1.blk]? = some (.cells c e fr) ∧ CellsR ρ p.2 c p.1.off := by
  rcases h with ⟨rfl, rfl⟩ | ⟨b, off, cap, rfl, c, e, fr, hw, hg⟩
  · exact fun p hp => (by cases hp)
  · intro p hp
    have hp : p = (⟨b, off, 0, 0⟩, flat e3 zs) := by simpa [inPs] using hp
    subst hp
    exact ⟨c, e, fr, hw, fun i x hx => ⟨x, hg i x hx, plainV_self (plain_mem hpl zs x (List.mem_of_getElem? hx)) _⟩⟩
theorem in_at {α : Type} {e3 : α → List Value} {w : World} {v : Value} {zs : List α} {ps : List (Place × List Value)} {k : Nat}
    (h : (zs = [] ∧ v = .slice none 0 0) ∨ ∃ b off cap, v = .slice (some ⟨b, off, none⟩) zs.length cap ∧ LiesAt w b off (flat e3 zs))
    (hp : ∀ p, p ∈ inPs v (flat e3 zs) → ps[k]? = some p) :
    VR (rhoL ps) (inVk k v) v ∧ SlRd (hpL 0 ps hp0) ps.length (inVk k v) e3 zs := by
  rcases h with ⟨rfl, rfl⟩ | ⟨b, off, cap, rfl, c, e, fr, hw, hg⟩
  · exact ⟨VR.sliceNil 0 0, ⟨none, 0, rfl, fun h => absurd rfl h⟩⟩
  · have h1 := hp (⟨b, off, 0, 0⟩, flat e3 zs) (by simp [inPs])
    have hk : k < ps.length := (List.getElem?_eq_some_iff.1 h1).1
    exact ⟨.sliceE (p := ⟨b, off, 0, 0⟩) (by unfold rhoL; rw [h1]; rfl) _ _, ⟨_, _, rfl, fun _ => ⟨k, none, true, hk, rfl, hpL_at (p := (⟨b, off, 0, 0⟩, flat e3 zs)) h1⟩⟩⟩
theorem inPs_one {v : Value} {l : List Value} {p : Place × List Value} (h : p ∈ inPs v l) : inPs v l = [p] := by
  unfold inPs at h ⊢
  split at h
  · have := List.mem_singleton.1 h
    rw [this]
  · cases h
theorem in_two {α β : Type} {e3 : α → List Value} {e1 : β → List Value} {w : World} {v u : Value} {zs : List α} {ys : List β} (hpl : ∀ z, plainL (e3 z) = true) (hpl1 : ∀ z, plainL (e1 z) = true)
    (h : (zs = [] ∧ v = .slice none 0 0) ∨ ∃ b off cap, v = .slice (some ⟨b, off, none⟩) zs.length cap ∧ LiesAt w b off (flat e3 zs))
    (g : (ys = [] ∧ u = .slice none 0 0) ∨ ∃ b off cap, u = .slice (some ⟨b, off, none⟩) ys.length cap ∧ LiesAt w b off (flat e1 ys)) :
    ∃ ps v' u', InW w ps ∧ VR (rhoL ps) v' v ∧ VR (rhoL ps) u' u ∧ SlRd (hpL 0 ps hp0) ps.length v' e3 zs ∧ SlRd (hpL 0 ps hp0) ps.length u' e1 ys := by
  obtain ⟨a1, a2⟩ := in_at (ps := inPs v (flat e3 zs) ++ inPs u (flat e1 ys)) (k := 0) h (fun p hp => by rw [inPs_one hp]; rfl)
  obtain ⟨b1, b2⟩ := in_at (ps := inPs v (flat e3 zs) ++ inPs u (flat e1 ys)) (k := (inPs v (flat e3 zs)).length) g (fun p hp => by rw [inPs_one hp, List.getElem?_append_right (Nat.le_refl _), Nat.sub_self]; rfl)
  refine ⟨_, _, _, fun p hp => ?_, a1, b1, a2, b2⟩
  rcases List.mem_append.1 hp with hp | hp
  · exact in_w hpl h _ p hp
  · exact in_w hpl1 g _ p hp
end Go.Ax
