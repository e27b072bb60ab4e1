/- Parts of the proof: Px1: each statement bears its own conditions. -/
import Derived.Test.YtenkechjalngcaaGreatLive29
/-! part AxH9 -/
namespace Go.Ax
open Go
set_option linter.unusedSimpArgs false
set_option linter.unusedVariables false

/-! # edges.Right of a graph that can be -/
def cfOut : CF := { res := [.tmp 3], body :=
 (.seq (.regO [⟨none, (some 3), 0, .pur (.mv (.v (.bool false)))⟩])
 (.seq (.regO [⟨none, (some 4), 0, .pur (.mv (.t 0))⟩,
   ⟨none, (some 5), 0, .pur (.bin .lss 3 (.t 4) (.v (.int .i64 0)))⟩,
   ⟨none, (some 6), 0, .pur (.mv (.t 5))⟩,
   ⟨(some (6, false)), (some 7), 0, .pur (.mv (.t 0))⟩,
   ⟨(some (6, false)), (some 8), 0, .pur (.fldA 0 (.t 1))⟩,
   ⟨(some (6, false)), (some 9), 0, .red (.ld none (.t 8))⟩,
   ⟨(some (6, false)), (some 10), 0, .pur (.bin .geq 3 (.t 7) (.t 9))⟩,
   ⟨none, (some 11), 0, .pur (.pick (.t 6) (.v (.bool true)) (.t 10))⟩,
   ⟨none, (some 3), 0, .pur (.mv (.t 11))⟩])
 .ret)) }
def cfEnds : CF := { res := [.tmp 3], body :=
 (.seq (.regO [⟨none, (some 2), 0, .alc (.box (.t 0))⟩,
   ⟨none, (some 3), 0, .pur (.mv (.v (.bool false)))⟩])
 (.seq (.regO [⟨none, (some 4), 0, .red (.ld none (.t 1))⟩,
   ⟨none, (some 5), 0, .pur (.fldA 0 (.t 2))⟩,
   ⟨none, (some 6), 0, .red (.ld none (.t 5))⟩,
   ⟨none, (some 7), 0, .eff (.callv (.t 4) [(.t 6)])⟩,
   ⟨none, (some 8), 0, .pur (.mv (.t 7))⟩,
   ⟨(some (8, false)), (some 9), 0, .red (.ld none (.t 1))⟩,
   ⟨(some (8, false)), (some 10), 0, .pur (.fldA 1 (.t 2))⟩,
   ⟨(some (8, false)), (some 11), 0, .red (.ld none (.t 10))⟩,
   ⟨(some (8, false)), (some 12), 0, .eff (.callv (.t 9) [(.t 11)])⟩,
   ⟨none, (some 13), 0, .pur (.pick (.t 8) (.v (.bool true)) (.t 12))⟩,
   ⟨none, (some 3), 0, .pur (.mv (.t 13))⟩])
 .ret)) }
def cfWeighs : CF := { res := [.tmp 2], body :=
 (.seq (.regO [⟨none, (some 1), 0, .alc (.box (.t 0))⟩,
   ⟨none, (some 2), 0, .pur (.mv (.v (.bool false)))⟩])
 (.seq (.regO [⟨none, (some 3), 0, .pur (.fldA 2 (.t 1))⟩,
   ⟨none, (some 4), 0, .red (.ld none (.t 3))⟩,
   ⟨none, (some 5), 0, .pur (.bin .lss 2 (.t 4) (.v (.int .i64 0)))⟩,
   ⟨none, (some 6), 0, .pur (.mv (.t 5))⟩,
   ⟨(some (6, false)), (some 7), 0, .pur (.fldA 2 (.t 1))⟩,
   ⟨(some (6, false)), (some 8), 0, .red (.ld none (.t 7))⟩,
   ⟨(some (6, false)), (some 9), 0, .pur (.bin .gtr 2 (.t 8) (.v (.int .i64 2147483647)))⟩,
   ⟨none, (some 10), 0, .pur (.pick (.t 6) (.v (.bool true)) (.t 9))⟩,
   ⟨none, (some 2), 0, .pur (.mv (.t 10))⟩])
 .ret)) }
def cfIndex : CF := { res := [.tmp 4], body :=
 (.seq (.regO [⟨none, (some 4), 0, .pur (.mv (.v (.int .i64 0)))⟩])
 (.seq (.seq (.regO [⟨none, (some 6), 0, .pur (.mv (.t 0))⟩,
   ⟨none, (some 7), 0, .red (.lens (.t 6))⟩,
   ⟨none, (some 8), 0, .pur (.mv (.v (.int .i64 0)))⟩])
 (.block 0
  (.loop
   (.seq (.regO [⟨none, (some 9), 0, .pur (.bin .lss 3 (.t 8) (.t 7))⟩])
   (.seq (.cond (.t 9)
    .skip
    (.exit 0))
   (.seq (.block 1
    (.seq (.regO [⟨none, (some 10), 0, .pur (.mv (.t 8))⟩,
      ⟨none, (some 5), 0, .pur (.mv (.t 10))⟩])
    (.seq (.regO [⟨none, (some 11), 0, .pur (.mv (.t 1))⟩,
      ⟨none, (some 12), 0, .pur (.mv (.t 0))⟩,
      ⟨none, (some 13), 0, .pur (.mv (.t 5))⟩,
      ⟨none, (some 14), 0, .pur (.ixA (.slice 3) (.t 12) (.t 13))⟩,
      ⟨none, (some 15), 0, .red (.ld (some 3) (.t 14))⟩,
      ⟨none, (some 16), 0, .eff (.callv (.t 11) [(.t 15)])⟩])
    (.cond (.t 16)
     (.seq (.regO [⟨none, (some 17), 0, .pur (.mv (.t 5))⟩,
       ⟨none, (some 4), 0, .pur (.mv (.t 17))⟩])
     .ret)
     .skip))))
   (.regO [⟨none, (some 18), 0, .pur (.bin .add 3 (.t 8) (.v (.int .i64 1)))⟩,
     ⟨none, (some 8), 0, .pur (.mv (.t 18))⟩])))))))
 (.seq (.regO [⟨none, (some 4), 0, .pur (.mv (.v (.int .i64 (-1))))⟩])
 .ret))) }
def cfContains (fi : Nat) : CF := { res := [.tmp 4], body :=
 (.seq (.regO [⟨none, (some 4), 0, .pur (.mv (.v (.bool false)))⟩])
 (.seq (.regO [⟨none, (some 5), 0, .pur (.mv (.t 0))⟩,
   ⟨none, (some 6), 0, .pur (.mv (.t 1))⟩,
   ⟨none, (some 7), 0, .eff (.call fi [(.t 5), (.t 6)])⟩,
   ⟨none, (some 8), 0, .pur (.bin .geq 3 (.t 7) (.v (.int .i64 0)))⟩,
   ⟨none, (some 4), 0, .pur (.mv (.t 8))⟩])
 .ret)) }
def cfRight (f1 f2 f3 fc te : Nat) : CF := { res := [.tmp 2], body :=
 (.seq (.regO [⟨none, (some 1), 0, .alc (.box (.t 0))⟩,
   ⟨none, (some 2), 0, .pur (.mv (.v (.int .i64 0)))⟩])
 (.seq (.regO [⟨none, (some 4), 0, .pur (.mkf f1 [] [(.t 1)])⟩,
   ⟨none, (some 3), 0, .alc (.new [.nilFunc])⟩,
   ⟨none, none, 0, .eff (.st 1 (.t 3) (.t 4))⟩])
 (.seq (.block 0
  (.seq (.regO [⟨none, (some 6), 0, .pur (.fldA 0 (.t 1))⟩,
    ⟨none, (some 7), 0, .red (.ld none (.t 6))⟩,
    ⟨none, (some 8), 0, .pur (.bin .lss 3 (.t 7) (.v (.int .i64 0)))⟩,
    ⟨none, (some 5), 0, .pur (.mv (.t 8))⟩])
  (.cond (.t 5)
   (.seq (.regO [⟨none, (some 2), 0, .pur (.mv (.v (.int .i64 3)))⟩])
   .ret)
   (.seq (.seq (.regO [⟨none, (some 10), 0, .pur (.fldA 0 (.t 1))⟩,
     ⟨none, (some 11), 0, .red (.ld none (.t 10))⟩,
     ⟨none, (some 12), 0, .pur (.bin .gtr 3 (.t 11) (.v (.int .i64 4096)))⟩,
     ⟨none, (some 9), 0, .pur (.mv (.t 12))⟩])
   (.cond (.t 9)
    .skip
    (.regO [⟨none, (some 13), 0, .pur (.fldA 1 (.t 1))⟩,
      ⟨none, (some 14), 0, .red (.ld none (.t 13))⟩,
      ⟨none, (some 15), 0, .red (.lens (.t 14))⟩,
      ⟨none, (some 16), 0, .pur (.bin .gtr 3 (.t 15) (.v (.int .i64 65536)))⟩,
      ⟨none, (some 9), 0, .pur (.mv (.t 16))⟩])))
   (.cond (.t 9)
    (.seq (.regO [⟨none, (some 2), 0, .pur (.mv (.v (.int .i64 5)))⟩])
    .ret)
    (.seq (.regO [⟨none, (some 18), 0, .pur (.fldA 1 (.t 1))⟩,
      ⟨none, (some 19), 0, .red (.ld none (.t 18))⟩,
      ⟨none, (some 20), 0, .pur (.mkf f2 [] [(.t 3)])⟩,
      ⟨none, (some 21), 0, .eff (.call fc [(.t 19), (.t 20)])⟩,
      ⟨none, (some 17), 0, .pur (.mv (.t 21))⟩])
    (.cond (.t 17)
     (.seq (.regO [⟨none, (some 2), 0, .pur (.mv (.v (.int .i64 3)))⟩])
     .ret)
     (.seq (.regO [⟨none, (some 23), 0, .pur (.fldA 1 (.t 1))⟩,
       ⟨none, (some 24), 0, .red (.ld none (.t 23))⟩,
       ⟨none, (some 25), 0, .eff (.call fc [(.t 24), (.v (.func (.func f3) #[] #[]))])⟩,
       ⟨none, (some 22), 0, .pur (.mv (.t 25))⟩])
     (.cond (.t 22)
      (.seq (.regO [⟨none, (some 2), 0, .pur (.mv (.v (.int .i64 7)))⟩])
      .ret)
      .skip)))))))))
 (.seq (.regO [⟨none, (some 2), 0, .pur (.mv (.v (.int .i64 0)))⟩])
 .ret)))) }
section
variable {P : Program} {orc : Orc} {s : Bool}
theorem Ev.forR {B C c : Nat} {cond post : List CI} {body : CC} {K : KO'} (J : Nat → KS')
    (hJ : ∀ m tm h nx, J m tm h nx → Ov P orc s cond tm h nx (fun tm h nx => ∃ t : Bool, tget tm c = .bool t ∧ (t = false → K .normal tm h nx) ∧
      (t = true → Ev P orc s body tm h nx (blkK C (nextK (fun tm h nx => Ov P orc s post tm h nx (fun tm h nx => ∃ m', m' < m ∧ J m' tm h nx)) (blkK B K)))))) :
    ∀ m tm h nx, J m tm h nx → Ev P orc s (.block B (.loop (.seq (.regO cond) (.seq (.cond (.t c) .skip (.exit B)) (.seq (.block C body) (.regO post)))))) tm h nx K := by
  intro m tm h nx hj
  refine Ev.block (Ev.loop J ?_ m tm h nx hj)
  intro m tm h nx hj
  refine Ev.seq (Ev.regO ?_)
  refine (hJ m tm h nx hj).mono ?_
  rintro tm h nx ⟨t, ht, hf, hg⟩
  simp only [nextK_normal]
  refine Ev.seq (Ev.cond t (by simpa using ht) (fun e => Ev.skip ?_) (fun e => Ev.exit ?_))
  · simp only [nextK_normal]
    refine Ev.seq (Ev.block ((hg e).mono ?_))
    intro x tm h nx hx
    cases x with
    | normal =>
      simp only [blkK_normal, nextK_normal] at hx ⊢
      exact Ev.regO hx
    | ret => exact hx
    | exit i =>
      simp only [blkK_exit, nextK_normal, nextK_exit] at hx ⊢
      split at hx
      · rename_i e; rw [if_pos e]; exact Ev.regO hx
      · rename_i e; rw [if_neg e]; exact hx
  · simp only [nextK_exit, blkK_exit, ↓reduceIte]
    exact hf e
theorem Ov_callv {d : Option Nat} {c : Nat} {x : Co} {args : List Co} {is : List CI} {tm : Tm} {h : Hp} {nx : Nat} {K : KS'} {f : FuncId} {a b : List Value} (hf : cev tm x = .func (.func f) ⟨a⟩ ⟨b⟩)
    (hc : Cv P orc s f (a ++ (cevs tm args ++ b)) h nx (fun v h nx => Ov P orc s is (putT tm d v) h nx K)) : Ov P orc s (⟨none, d, c, .eff (.callv x args)⟩ :: is) tm h nx K := by
  refine Ov_call' (f := f) (args := a ++ (cevs tm args ++ b)) (h1 := h) (nx1 := nx) ?_ hc
  show callV h nx (cevs tm args) (cev tm x) = _
  rw [hf]
  show OR.call f (lapp a (lapp (cevs tm args) b)) h nx = _
  rw [lapp_eq, lapp_eq]
@[simp] theorem c_mkf (tm : Tm) (f : Nat) (a b : List Co) : cpur P tm (.mkf f a b) = .ok (.func (.func f) ⟨cevs tm a⟩ ⟨cevs tm b⟩) := rfl
@[simp] theorem vc_func (f : Fn) (a b : Array Value) : vcells (.func f a b) = [.func f a b] := rfl
/-- what changes nothing that was there -/
def StillK (v0 : Value) (nx : Nat) (h : Hp) : KC' := fun v h' nx' => v = v0 ∧ Keep nx h h' ∧ nx ≤ nx'
theorem out_cv {f : Nat} (hcf : compAt P f = some cfOut) (ho : orc f = none) {v N b : Nat} {v2 : Value} {ro : Bool} {h : Hp} {nx : Nat} (hv : v < N) (hb : hget h b = some (.cells [.int .i64 (N : Int), v2] ro)) :
    Cv P orc s f [.int .i64 (v : Int), .pointer (some ⟨b, 0, none⟩)] h nx (StillK (.bool false) nx h) := by
  refine Cv.enter ho hcf ?_
  unfold cfOut
  refine Ev.seq (Ev.regO ?_)
  simp only [Ov_pur, Ov_nil, c_mv, cev_v, putT_some, RK_ok, nextK_normal, Nat.zero_add, Nat.reduceAdd, setArgs_nil, setArgs_cons]
  refine Ev.seq (Ev.regO ?_)
  have f1 : ¬ ((v : Int) < 0) := by omega
  have f2 : (v : Int) < N := by omega
  repeat (first | simp only [Dv_g, Ov_g, putT_some, putT_none, tgs, ↓reduceIte, Nat.reduceEqDiff, boolIs_t, boolIs_f, boolIs_u, Bool.not_true, Bool.not_false, Bool.false_eq_true, isEffC_pur, isEffC_alc, isEffC_red, isEffC_eff] | simp only [Ov_pur, Ov_red, Ov_nil, c_mv, c_bin, c_pick, cPick_bool, c_fldA, c_ld, cev_t, cev_v, putT_some, addrR_ptr, moveA_eq, tgs, RK_ok, ofGet_some, loadC_one, bin_lss, bin_geq, nextK_normal, ↓reduceIte, Nat.reduceEqDiff, List.getElem?_cons_zero, Nat.add_zero, Bool.false_eq_true, Bool.not_true, cellsOf_some hb, f1, f2, decide_true, decide_false])
  refine Ev.ret ?_
  simp only [tgs, RK_ok, bind_ok, ↓reduceIte, retK_ret, resVs_tmp, resVs_nil, retV_one]
  exact ⟨rfl, Keep.refl _ _, Nat.le_refl _⟩
theorem ends_cv {f f1 : Nat} (hcf : compAt P f = some cfEnds) (ho : orc f = none) (hc1 : compAt P f1 = some cfOut) (ho1 : orc f1 = none) {x : GE} {N b b3 : Nat} {v2 : Value} {ro ro3 : Bool} {h : Hp} {nx : Nat} (hx : GOk N x) (hbn : b < nx) (hb3n : b3 < nx)
    (hb : hget h b = some (.cells [.int .i64 (N : Int), v2] ro)) (hb3 : hget h b3 = some (.cells [.func (.func f1) ⟨[]⟩ ⟨[.pointer (some ⟨b, 0, none⟩)]⟩] ro3)) :
    Cv P orc s f [.agg ⟨encG x⟩, .pointer (some ⟨b3, 0, none⟩)] h nx (StillK (.bool false) nx h) := by
  refine Cv.enter ho hcf ?_
  unfold cfEnds
  refine Ev.seq (Ev.regO ?_)
  rw [Ov_alc, alc_box (l := encG x) (by simp) rfl]
  simp only [Ov_pur, Ov_nil, c_mv, cev_v, putT_some, RK_ok, nextK_normal, nbV_ptr, nbO_ptr, Nat.zero_add, Nat.reduceAdd, setArgs_nil, setArgs_cons]
  refine Ev.genH (fun tm2 h2 => tget tm2 1 = .pointer (some ⟨b3, 0, none⟩) ∧ tget tm2 2 = .pointer (some ⟨nx, 0, none⟩) ∧ Keep nx h h2 ∧ hget h2 nx = some (.cells (encG x) false)) ⟨by simp, by simp, fun c hc => by rw [hgs, if_neg (by omega)], by simp⟩ ?_
  rintro tm2 h2 ⟨t1, t2, hk, gx⟩
  have gb := (hk b hbn).trans hb
  have gb3 := (hk b3 hb3n).trans hb3
  refine Ev.seq (Ev.regO ?_)
  simp only [Ov_pur, Ov_red, c_fldA, c_ld, cev_t, putT_some, addrR_ptr, moveA_eq, tgs, RK_ok, ofGet_some, loadC_one, ↓reduceIte, Nat.reduceEqDiff, List.getElem?_cons_zero, Nat.add_zero, t1, t2, cellsOf_some gb3, cellsOf_some gx, encG]
  refine Ov_callv (f := f1) (a := []) (b := [.pointer (some ⟨b, 0, none⟩)]) (by simp) ?_
  simp only [Ov_pur, Ov_red, Ov_g, Ov_nil, c_mv, c_pick, c_fldA, c_ld, cev_t, cevs_nil, cevs_cons, putT_some, tgs, RK_ok, loadC_one, nextK_normal, ↓reduceIte, Nat.reduceEqDiff, List.nil_append, List.cons_append]
  refine (out_cv hc1 ho1 hx.1 gb).mono ?_
  rintro r h3 nx3 ⟨rfl, hk3, hnx3⟩
  have gb' := (hk3 b (by omega)).trans gb
  have gb3' := (hk3 b3 (by omega)).trans gb3
  have gx' := (hk3 nx (by omega)).trans gx
  repeat (first | simp only [Dv_g, Ov_g, putT_some, putT_none, tgs, ↓reduceIte, Nat.reduceEqDiff, boolIs_t, boolIs_f, boolIs_u, Bool.not_true, Bool.not_false, Bool.false_eq_true, isEffC_pur, isEffC_alc, isEffC_red, isEffC_eff] | simp only [addrR_ptr, moveA_eq, RK_ok, ofGet_some, List.getElem?_cons_zero, List.getElem?_cons_succ, Nat.zero_add, t1, t2, cellsOf_some gb3', cellsOf_some gx', encG])
  refine Ov_callv (f := f1) (a := []) (b := [.pointer (some ⟨b, 0, none⟩)]) (by simp) ?_
  simp only [Ov_pur, Ov_nil, c_mv, c_pick, cPick_bool, cev_t, cevs_nil, cevs_cons, putT_some, tgs, RK_ok, nextK_normal, ↓reduceIte, Nat.reduceEqDiff, List.nil_append, List.cons_append, Bool.false_eq_true]
  refine (out_cv hc1 ho1 hx.2.1 gb').mono ?_
  rintro r h4 nx4 ⟨rfl, hk4, hnx4⟩
  repeat (first | simp only [Dv_g, Ov_g, putT_some, putT_none, tgs, ↓reduceIte, Nat.reduceEqDiff, boolIs_t, boolIs_f, boolIs_u, Bool.not_true, Bool.not_false, Bool.false_eq_true, isEffC_pur, isEffC_alc, isEffC_red, isEffC_eff] | simp only [Ov_pur, Ov_red, Ov_alc, Ov_st, Ov_nil, Dv_pur, Dv_red, Dv_alc, Dv_st, Dv_nil, c_mv, c_bin, c_un, c_conv, c_pick, cPick_bool, c_fld, cFld_agg, c_fldA, c_nilc, nilChk_ptr, c_ext, oExtract_tuple, c_ixA, natR_nat, natR_ofNat, natR_lit, natR_zero, natR_one, oIx_slice, oIx_array, c_ld, c_lens, lenS_slice, cev_t, cev_v, cevs_nil, cevs_cons, putT_some, putT_none, addrR_ptr, moveA_eq, tgs, RK_ok, of_some, bind_ok, ofGet_some, loadC_one, bin_add, bin_sub, bin_lss, bin_leq, bin_gtr, bin_geq, bin_eql, bin_neq, un_not, conv_int, nextK_normal, nextK_exit, nextK_ret, blkK_normal, blkK_ret, blkK_exit, boolIs_t, boolIs_f, boolIs_u, ↓reduceIte, Nat.reduceEqDiff, cpur_build, alc_new, alc_bsl, sliceNB_eq, cfill_nil, cfill_cons, vc_int, vc_slice, vc_agg, vc_bool, vc_ptr, cellV_int, cellV_bool, cellV_slice, cellV_ptr, cellL_nil, cellL_cons, nbV_ptr, nbO_ptr, nbV_slice, nbO_slice, List.getElem?_cons_zero, List.getElem?_cons_succ, List.length_cons, List.length_nil, List.take_zero, List.take_succ_cons, List.drop_zero, List.drop_succ_cons, List.drop_nil, List.nil_append, List.cons_append, List.append_nil, Nat.zero_add, Nat.add_zero, Nat.mul_one, Nat.reduceAdd, Nat.reduceLeDiff, Bool.and_self, Bool.and_true, Bool.true_and, true_and, and_true, cagree_0, cagree_1, cagree_2, sameR_ok, sameV_int, sameV_bool, sameV_slice, Bool.false_eq_true, setArgs_nil, setArgs_cons, Bool.not_true, Bool.not_false, isEffC_pur, isEffC_alc, isEffC_red, isEffC_eff, retK_ret, retK_normal, resVs_tmp, resVs_nil, retV_one, retV_two])
  refine Ev.ret ?_
  simp only [tgs, RK_ok, bind_ok, ↓reduceIte, retK_ret, resVs_tmp, resVs_nil, retV_one]
  exact ⟨rfl, (hk.trans (hk3.mono (by omega)) (Nat.le_refl _)).trans (hk4.mono (by omega)) (Nat.le_refl _), by omega⟩
theorem weighs_cv {f : Nat} (hcf : compAt P f = some cfWeighs) (ho : orc f = none) {x : GE} {N : Nat} {h : Hp} {nx : Nat} (hx : GOk N x) : Cv P orc s f [.agg ⟨encG x⟩] h nx (StillK (.bool false) nx h) := by
  refine Cv.enter ho hcf ?_
  unfold cfWeighs
  refine Ev.seq (Ev.regO ?_)
  rw [Ov_alc, alc_box (l := encG x) (by simp) rfl]
  simp only [Ov_pur, Ov_nil, c_mv, cev_v, putT_some, RK_ok, nextK_normal, nbV_ptr, nbO_ptr, Nat.zero_add, setArgs_nil, setArgs_cons]
  refine Ev.genH (fun tm2 h2 => tget tm2 1 = .pointer (some ⟨nx, 0, none⟩) ∧ Keep nx h h2 ∧ hget h2 nx = some (.cells (encG x) false)) ⟨by simp, fun c hc => by rw [hgs, if_neg (by omega)], by simp⟩ ?_
  rintro tm2 h2 ⟨t1, hk, gx⟩
  obtain ⟨_, _, w0, w1⟩ := hx
  have f1 : ¬ (x.w < 0) := by omega
  have f2 : ¬ (2147483647 < x.w) := by omega
  refine Ev.seq (Ev.regO ?_)
  repeat (first | simp only [Dv_g, Ov_g, putT_some, putT_none, tgs, ↓reduceIte, Nat.reduceEqDiff, boolIs_t, boolIs_f, boolIs_u, Bool.not_true, Bool.not_false, Bool.false_eq_true, isEffC_pur, isEffC_alc, isEffC_red, isEffC_eff] | simp only [Ov_pur, Ov_red, Ov_nil, c_mv, c_bin, c_pick, cPick_bool, c_fldA, c_ld, cev_t, cev_v, putT_some, addrR_ptr, moveA_eq, tgs, RK_ok, ofGet_some, loadC_one, bin_lss, bin_gtr, nextK_normal, ↓reduceIte, Nat.reduceEqDiff, List.getElem?_cons_zero, List.getElem?_cons_succ, Nat.zero_add, Bool.false_eq_true, t1, cellsOf_some gx, encG, f1, f2, decide_false])
  refine Ev.ret ?_
  simp only [tgs, RK_ok, bind_ok, ↓reduceIte, retK_ret, resVs_tmp, resVs_nil, retV_one]
  exact ⟨rfl, hk, by omega⟩
def IndJ (v : Value) (fc n : Nat) (capt : List Value) (nx : Nat) (h : Hp) (m : Nat) (tm : Tm) (h' : Hp) (nx' : Nat) : Prop :=
  ∃ i : Nat, m = n - i ∧ i ≤ n ∧ tget tm 0 = v ∧ tget tm 1 = .func (.func fc) ⟨[]⟩ ⟨capt⟩ ∧ tget tm 7 = .int .i64 (n : Int) ∧ tget tm 8 = .int .i64 (i : Int) ∧ Keep nx h h' ∧ nx ≤ nx'
theorem index_cv {f fc : Nat} (hcf : compAt P f = some cfIndex) (ho : orc f = none) {v : Value} {gs : List GE} {capt : List Value} {h : Hp} {nx : Nat} (hv : SlRd h nx v encG gs) (hl : gs.length < 1000000)
    (hp : ∀ x ∈ gs, ∀ h' nx', Keep nx h h' → nx ≤ nx' → Cv P orc s fc (.agg ⟨encG x⟩ :: capt) h' nx' (StillK (.bool false) nx' h')) :
    Cv P orc s f [v, .func (.func fc) ⟨[]⟩ ⟨capt⟩] h nx (StillK (.int .i64 (-1)) nx h) := by
  refine Cv.enter ho hcf ?_
  unfold cfIndex
  obtain ⟨a, cap, rfl, _⟩ := id hv
  refine Ev.seq (Ev.regO ?_)
  simp only [Ov_pur, Ov_nil, c_mv, cev_v, putT_some, RK_ok, nextK_normal, Nat.zero_add, Nat.reduceAdd, setArgs_nil, setArgs_cons]
  refine Ev.cut (IndJ (.slice a gs.length cap) fc gs.length capt nx h 0) ?_ ?_
  · refine Ev.seq (Ev.regO ?_)
    simp only [Ov_pur, Ov_red, Ov_nil, c_mv, c_lens, lenS_slice, cev_t, cev_v, putT_some, tgs, RK_ok, nextK_normal, ↓reduceIte, Nat.reduceEqDiff]
    refine Ev.forR (IndJ (.slice a gs.length cap) fc gs.length capt nx h) ?_ gs.length _ _ _ ⟨0, rfl, by omega, by simp, by simp, by simp, by simp, Keep.refl _ _, Nat.le_refl _⟩
    rintro m tm h' nx' ⟨i, rfl, hi, t0, t1, t7, t8, hk, hnx⟩
    simp only [Ov_pur, Ov_nil, c_mv, c_bin, cev_t, cev_v, putT_some, tgs, RK_ok, bin_lss, nextK_normal, ↓reduceIte, t7, t8]
    refine ⟨decide ((i : Int) < gs.length), rfl, fun e => ?_, fun e => ?_⟩
    · have : ¬ ((i : Int) < gs.length) := of_decide_eq_false e
      exact ⟨i, by omega, hi, by simpa using t0, by simpa using t1, by simpa using t7, by simpa using t8, hk, hnx⟩
    · have hil : i < gs.length := by
        have : (i : Int) < gs.length := of_decide_eq_true e
        omega
      obtain ⟨x, hx⟩ : ∃ x, gs[i]? = some x := ⟨_, List.getElem?_eq_getElem hil⟩
      obtain ⟨_, bx, spx, rox, capx, hbn, hveq, hbh⟩ := hv.at hx
      injection hveq with e1 e2 e3
      subst e1
      have hb' := (hk bx hbn).trans hbh
      refine Ev.seq (Ev.regO ?_)
      simp only [Ov_pur, Ov_nil, c_mv, cev_t, putT_some, tgs, RK_ok, nextK_normal, ↓reduceIte, Nat.reduceEqDiff, t8]
      refine Ev.seq (Ev.regO ?_)
      simp only [Ov_pur, Ov_red, c_mv, c_ixA, natR_nat, oIx_slice, c_ld, cev_t, putT_some, addrR_ptr, tgs, RK_ok, ↓reduceIte, Nat.reduceEqDiff, Nat.zero_add, t0, t1, hil, cellsOf_some hb', load_flat' (enc := encG) (k := 3) (fun _ => rfl) hx]
      refine Ov_callv (f := fc) (a := []) (b := capt) (by simp [t1]) ?_
      simp only [Ov_nil, cev_t, cevs_nil, cevs_cons, putT_some, tgs, nextK_normal, ↓reduceIte, List.nil_append, List.cons_append]
      refine (hp x (List.mem_of_getElem? hx) h' nx' hk hnx).mono ?_
      rintro r h3 nx3 ⟨rfl, hk3, hnx3⟩
      (try simp only [Ov_pur, Ov_red, Ov_alc, Ov_st, Ov_g, Ov_nil, Dv_pur, Dv_red, Dv_alc, Dv_st, Dv_g, Dv_nil, c_mv, c_bin, c_un, c_conv, c_pick, cPick_bool, c_fld, cFld_agg, c_fldA, c_nilc, nilChk_ptr, c_ext, oExtract_tuple, c_ixA, natR_nat, natR_ofNat, natR_lit, natR_zero, natR_one, oIx_slice, oIx_array, c_ld, c_lens, lenS_slice, cev_t, cev_v, cevs_nil, cevs_cons, putT_some, putT_none, addrR_ptr, moveA_eq, tgs, RK_ok, of_some, bind_ok, ofGet_some, loadC_one, bin_add, bin_sub, bin_lss, bin_leq, bin_gtr, bin_geq, bin_eql, bin_neq, un_not, conv_int, nextK_normal, nextK_exit, nextK_ret, blkK_normal, blkK_ret, blkK_exit, boolIs_t, boolIs_f, boolIs_u, ↓reduceIte, Nat.reduceEqDiff, cpur_build, alc_new, alc_bsl, sliceNB_eq, cfill_nil, cfill_cons, vc_int, vc_slice, vc_agg, vc_bool, vc_ptr, cellV_int, cellV_bool, cellV_slice, cellV_ptr, cellL_nil, cellL_cons, nbV_ptr, nbO_ptr, nbV_slice, nbO_slice, List.getElem?_cons_zero, List.getElem?_cons_succ, List.length_cons, List.length_nil, List.take_zero, List.take_succ_cons, List.drop_zero, List.drop_succ_cons, List.drop_nil, List.nil_append, List.cons_append, List.append_nil, Nat.zero_add, Nat.add_zero, Nat.mul_one, Nat.reduceAdd, Nat.reduceLeDiff, Bool.and_self, Bool.and_true, Bool.true_and, true_and, and_true, cagree_0, cagree_1, cagree_2, sameR_ok, sameV_int, sameV_bool, sameV_slice, Bool.false_eq_true, setArgs_nil, setArgs_cons, Bool.not_true, Bool.not_false, isEffC_pur, isEffC_alc, isEffC_red, isEffC_eff, retK_ret, retK_normal, resVs_tmp, resVs_nil, retV_one, retV_two])
      refine Ev.cond false (by simp) (by simp) (fun _ => Ev.skip ?_)
      (try simp only [tgs, RK_ok, bin_add, nextK_normal, blkK_normal, ↓reduceIte, Nat.reduceEqDiff, t8])
      refine ⟨gs.length - (i + 1), by omega, i + 1, rfl, by omega, by simpa using t0, by simpa using t1, by simpa using t7, ?_, hk.trans (hk3.mono hnx) (Nat.le_refl _), by omega⟩
      rw [wrapS (by omega) (by omega)]; simp
  · rintro tm h' nx' ⟨i, _, _, t0, t1, t7, t8, hk, hnx⟩
    refine Ev.seq (Ev.regO ?_)
    simp only [Ov_pur, Ov_nil, c_mv, cev_v, putT_some, RK_ok, nextK_normal]
    refine Ev.ret ?_
    simp only [tgs, RK_ok, bind_ok, ↓reduceIte, retK_ret, resVs_tmp, resVs_nil, retV_one]
    exact ⟨rfl, hk, hnx⟩
theorem contains_cv {f fi fc : Nat} (hcf : compAt P f = some (cfContains fi)) (ho : orc f = none) (hci : compAt P fi = some cfIndex) (hoi : orc fi = none) {v : Value} {gs : List GE} {capt : List Value} {h : Hp} {nx : Nat} (hv : SlRd h nx v encG gs) (hl : gs.length < 1000000)
    (hp : ∀ x ∈ gs, ∀ h' nx', Keep nx h h' → nx ≤ nx' → Cv P orc s fc (.agg ⟨encG x⟩ :: capt) h' nx' (StillK (.bool false) nx' h')) :
    Cv P orc s f [v, .func (.func fc) ⟨[]⟩ ⟨capt⟩] h nx (StillK (.bool false) nx h) := by
  refine Cv.enter ho hcf ?_
  unfold cfContains
  refine Ev.seq (Ev.regO ?_)
  simp only [Ov_pur, Ov_nil, c_mv, cev_v, putT_some, RK_ok, nextK_normal, Nat.zero_add, Nat.reduceAdd, setArgs_nil, setArgs_cons]
  refine Ev.seq (Ev.regO ?_)
  simp only [Ov_pur, c_mv, cev_t, putT_some, tgs, RK_ok, ↓reduceIte, Nat.reduceEqDiff]
  refine Ov_call ?_
  simp only [Ov_pur, Ov_nil, c_mv, c_bin, cev_t, cev_v, cevs_nil, cevs_cons, putT_some, tgs, RK_ok, nextK_normal, ↓reduceIte, Nat.reduceEqDiff]
  refine (index_cv hci hoi hv hl hp).mono ?_
  rintro r h3 nx3 ⟨rfl, hk3, hnx3⟩
  (try simp only [RK_ok, bin_geq])
  refine Ev.ret ?_
  simp only [tgs, RK_ok, bind_ok, ↓reduceIte, retK_ret, resVs_tmp, resVs_nil, retV_one]
  exact ⟨rfl, hk3, hnx3⟩
theorem right_cv {f f1 f2 f3 fc fi te : Nat} (hcf : compAt P f = some (cfRight f1 f2 f3 fc te)) (ho : orc f = none) (hc1 : compAt P f1 = some cfOut) (ho1 : orc f1 = none) (hc2 : compAt P f2 = some cfEnds) (ho2 : orc f2 = none) (hc3 : compAt P f3 = some cfWeighs) (ho3 : orc f3 = none)
    (hcc : compAt P fc = some (cfContains fi)) (hoc : orc fc = none) (hci : compAt P fi = some cfIndex) (hoi : orc fi = none) {N : Nat} {v : Value} {gs : List GE} {h : Hp} {nx : Nat} (hv : SlRd h nx v encG gs) (hN : N < 24) (hl : gs.length ≤ 60) (hok : ∀ g ∈ gs, GOk N g) :
    Cv P orc s f [.agg ⟨[.int .i64 (N : Int), v]⟩] h nx (StillK (.int .i64 0) nx h) := by
  refine Cv.enter ho hcf ?_
  unfold cfRight
  obtain ⟨a, cap, rfl, _⟩ := id hv
  refine Ev.seq (Ev.regO ?_)
  rw [Ov_alc, alc_box (l := [.int .i64 (N : Int), .slice a gs.length cap]) (by simp) (by simp)]
  simp only [Ov_pur, Ov_nil, c_mv, cev_v, putT_some, RK_ok, nextK_normal, nbV_ptr, nbO_ptr, Nat.zero_add, setArgs_nil, setArgs_cons]
  refine Ev.seq (Ev.regO ?_)
  simp only [Ov_pur, Ov_alc, Ov_st, Ov_nil, cev_t, cevs_nil, cevs_cons, putT_some, putT_none, addrR_ptr, tgs, RK_ok, nextK_normal, ↓reduceIte, Nat.reduceEqDiff, alc_new, nbV_ptr, nbO_ptr, vc_func, c_mkf]
  rw [RK_st1 (cs := [.nilFunc]) (by simp) rfl (by simp)]
  refine Ev.genH (fun tm2 h2 => tget tm2 1 = .pointer (some ⟨nx, 0, none⟩) ∧ tget tm2 3 = .pointer (some ⟨nx + 1, 0, none⟩) ∧ hget h2 nx = some (.cells [.int .i64 (N : Int), .slice a gs.length cap] false) ∧ hget h2 (nx + 1) = some (.cells [.func (.func f1) ⟨[]⟩ ⟨[.pointer (some ⟨nx, 0, none⟩)]⟩] false) ∧ Keep nx h h2)
    ⟨by simp, by simp, by simp, by simp, fun c hc => by rw [hgs, if_neg (by omega), hgs, if_neg (by omega), hgs, if_neg (by omega)]⟩ ?_
  rintro tm2 h2 ⟨t1, t3, g1, g3, hk⟩
  have f1' : ¬ ((N : Int) < 0) := by omega
  have f2' : ¬ ((4096 : Int) < N) := by omega
  have f3' : ¬ ((65536 : Int) < gs.length) := by omega
  refine Ev.seq (Ev.block (Ev.seq (Ev.regO ?_)))
  simp only [Ov_pur, Ov_red, Ov_nil, c_mv, c_bin, c_fldA, c_ld, cev_t, cev_v, putT_some, addrR_ptr, moveA_eq, tgs, RK_ok, ofGet_some, loadC_one, bin_lss, nextK_normal, ↓reduceIte, List.getElem?_cons_zero, Nat.add_zero, t1, cellsOf_some g1, f1', decide_false]
  refine Ev.cond false (by simp) (by simp) (fun _ => ?_)
  refine Ev.seq (Ev.seq (Ev.regO ?_))
  simp only [Ov_pur, Ov_red, Ov_nil, c_mv, c_bin, c_fldA, c_ld, cev_t, cev_v, putT_some, addrR_ptr, moveA_eq, tgs, RK_ok, ofGet_some, loadC_one, bin_gtr, nextK_normal, ↓reduceIte, Nat.reduceEqDiff, List.getElem?_cons_zero, Nat.add_zero, t1, cellsOf_some g1, f2', decide_false]
  refine Ev.cond false (by simp) (by simp) (fun _ => ?_)
  refine Ev.regO ?_
  simp only [Ov_pur, Ov_red, Ov_nil, c_mv, c_bin, c_fldA, c_ld, c_lens, lenS_slice, cev_t, cev_v, putT_some, addrR_ptr, moveA_eq, tgs, RK_ok, ofGet_some, loadC_one, bin_gtr, nextK_normal, ↓reduceIte, Nat.reduceEqDiff, List.getElem?_cons_zero, List.getElem?_cons_succ, Nat.zero_add, t1, cellsOf_some g1, f3', decide_false]
  refine Ev.cond false (by simp) (by simp) (fun _ => ?_)
  refine Ev.seq (Ev.regO ?_)
  simp only [Ov_pur, Ov_red, c_fldA, c_ld, cev_t, cevs_nil, cevs_cons, putT_some, addrR_ptr, moveA_eq, tgs, RK_ok, ofGet_some, loadC_one, ↓reduceIte, Nat.reduceEqDiff, List.getElem?_cons_zero, List.getElem?_cons_succ, Nat.zero_add, t1, t3, cellsOf_some g1, c_mkf]
  refine Ov_call ?_
  simp only [Ov_pur, Ov_nil, c_mv, cev_t, cevs_nil, cevs_cons, putT_some, tgs, RK_ok, nextK_normal, ↓reduceIte, Nat.reduceEqDiff]
  refine (contains_cv hcc hoc hci hoi (fc := f2) (capt := [.pointer (some ⟨nx + 1, 0, none⟩)]) (hv.keep hk (show nx ≤ nx + 1 + 1 by omega)) (by omega) (fun x hx h' nx' hk' hnx' => ends_cv hc2 ho2 hc1 ho1 (hok x hx) (b := nx) (b3 := nx + 1) (by omega) (by omega) ((hk' nx (by omega)).trans g1) ((hk' (nx + 1) (by omega)).trans g3))).mono ?_
  rintro r h3 nx3 ⟨rfl, hk3, hnx3⟩
  have g1' := (hk3 nx (by omega)).trans g1
  (try simp only [Ov_pur, Ov_red, Ov_alc, Ov_st, Ov_g, Ov_nil, Dv_pur, Dv_red, Dv_alc, Dv_st, Dv_g, Dv_nil, c_mv, c_bin, c_un, c_conv, c_pick, cPick_bool, c_fld, cFld_agg, c_fldA, c_nilc, nilChk_ptr, c_ext, oExtract_tuple, c_ixA, natR_nat, natR_ofNat, natR_lit, natR_zero, natR_one, oIx_slice, oIx_array, c_ld, c_lens, lenS_slice, cev_t, cev_v, cevs_nil, cevs_cons, putT_some, putT_none, addrR_ptr, moveA_eq, tgs, RK_ok, of_some, bind_ok, ofGet_some, loadC_one, bin_add, bin_sub, bin_lss, bin_leq, bin_gtr, bin_geq, bin_eql, bin_neq, un_not, conv_int, nextK_normal, nextK_exit, nextK_ret, blkK_normal, blkK_ret, blkK_exit, boolIs_t, boolIs_f, boolIs_u, ↓reduceIte, Nat.reduceEqDiff, cpur_build, alc_new, alc_bsl, sliceNB_eq, cfill_nil, cfill_cons, vc_int, vc_slice, vc_agg, vc_bool, vc_ptr, cellV_int, cellV_bool, cellV_slice, cellV_ptr, cellL_nil, cellL_cons, nbV_ptr, nbO_ptr, nbV_slice, nbO_slice, List.getElem?_cons_zero, List.getElem?_cons_succ, List.length_cons, List.length_nil, List.take_zero, List.take_succ_cons, List.drop_zero, List.drop_succ_cons, List.drop_nil, List.nil_append, List.cons_append, List.append_nil, Nat.zero_add, Nat.add_zero, Nat.mul_one, Nat.reduceAdd, Nat.reduceLeDiff, Bool.and_self, Bool.and_true, Bool.true_and, true_and, and_true, cagree_0, cagree_1, cagree_2, sameR_ok, sameV_int, sameV_bool, sameV_slice, Bool.false_eq_true, setArgs_nil, setArgs_cons, Bool.not_true, Bool.not_false, isEffC_pur, isEffC_alc, isEffC_red, isEffC_eff, retK_ret, retK_normal, resVs_tmp, resVs_nil, retV_one, retV_two])
  refine Ev.cond false (by simp) (by simp) (fun _ => ?_)
  refine Ev.seq (Ev.regO ?_)
  simp only [Ov_pur, Ov_red, c_fldA, c_ld, cev_t, putT_some, addrR_ptr, moveA_eq, tgs, RK_ok, ofGet_some, loadC_one, ↓reduceIte, Nat.reduceEqDiff, List.getElem?_cons_zero, List.getElem?_cons_succ, Nat.zero_add, t1, cellsOf_some g1']
  refine Ov_call ?_
  simp only [Ov_pur, Ov_nil, c_mv, cev_t, cev_v, cevs_nil, cevs_cons, putT_some, tgs, RK_ok, nextK_normal, ↓reduceIte]
  refine (contains_cv hcc hoc hci hoi (fc := f3) (capt := []) ((hv.keep hk (show nx ≤ nx + 1 + 1 by omega)).keep hk3 (by omega)) (by omega) (fun x hx h' nx' hk' hnx' => weighs_cv hc3 ho3 (hok x hx))).mono ?_
  rintro r h4 nx4 ⟨rfl, hk4, hnx4⟩
  (try simp only [Ov_pur, Ov_red, Ov_alc, Ov_st, Ov_g, Ov_nil, Dv_pur, Dv_red, Dv_alc, Dv_st, Dv_g, Dv_nil, c_mv, c_bin, c_un, c_conv, c_pick, cPick_bool, c_fld, cFld_agg, c_fldA, c_nilc, nilChk_ptr, c_ext, oExtract_tuple, c_ixA, natR_nat, natR_ofNat, natR_lit, natR_zero, natR_one, oIx_slice, oIx_array, c_ld, c_lens, lenS_slice, cev_t, cev_v, cevs_nil, cevs_cons, putT_some, putT_none, addrR_ptr, moveA_eq, tgs, RK_ok, of_some, bind_ok, ofGet_some, loadC_one, bin_add, bin_sub, bin_lss, bin_leq, bin_gtr, bin_geq, bin_eql, bin_neq, un_not, conv_int, nextK_normal, nextK_exit, nextK_ret, blkK_normal, blkK_ret, blkK_exit, boolIs_t, boolIs_f, boolIs_u, ↓reduceIte, Nat.reduceEqDiff, cpur_build, alc_new, alc_bsl, sliceNB_eq, cfill_nil, cfill_cons, vc_int, vc_slice, vc_agg, vc_bool, vc_ptr, cellV_int, cellV_bool, cellV_slice, cellV_ptr, cellL_nil, cellL_cons, nbV_ptr, nbO_ptr, nbV_slice, nbO_slice, List.getElem?_cons_zero, List.getElem?_cons_succ, List.length_cons, List.length_nil, List.take_zero, List.take_succ_cons, List.drop_zero, List.drop_succ_cons, List.drop_nil, List.nil_append, List.cons_append, List.append_nil, Nat.zero_add, Nat.add_zero, Nat.mul_one, Nat.reduceAdd, Nat.reduceLeDiff, Bool.and_self, Bool.and_true, Bool.true_and, true_and, and_true, cagree_0, cagree_1, cagree_2, sameR_ok, sameV_int, sameV_bool, sameV_slice, Bool.false_eq_true, setArgs_nil, setArgs_cons, Bool.not_true, Bool.not_false, isEffC_pur, isEffC_alc, isEffC_red, isEffC_eff, retK_ret, retK_normal, resVs_tmp, resVs_nil, retV_one, retV_two])
  refine Ev.cond false (by simp) (by simp) (fun _ => Ev.skip ?_)
  (try simp only [nextK_normal, blkK_normal])
  refine Ev.seq (Ev.regO ?_)
  simp only [Ov_pur, Ov_nil, c_mv, cev_v, putT_some, RK_ok, nextK_normal]
  refine Ev.ret ?_
  simp only [tgs, RK_ok, bind_ok, ↓reduceIte, retK_ret, resVs_tmp, resVs_nil, retV_one]
  exact ⟨rfl, (hk.trans (hk3.mono (by omega)) (Nat.le_refl _)).trans (hk4.mono (by omega)) (Nat.le_refl _), by omega⟩
end
end Go.Ax

/-! part PlComps -/
namespace Go.Ax
/-! # plain: labels, forests -/
theorem lt_of_get {α : Type} {l : List α} {i : Nat} {x : α} (h : l[i]? = some x) : i < l.length := by
  rcases Nat.lt_or_ge i l.length with h1 | h1
  · exact h1
  · rw [List.getElem?_eq_none h1] at h; cases h
theorem getD_of {α : Type} {l : List α} {i : Nat} {x d : α} (h : l[i]? = some x) : l.getD i d = x := by simp [List.getD, h]
/-- the least vertex with which each one hangs together -/
structure IsLab (n : Nat) (es : List GE) (L : List Nat) : Prop where
  len : L.length = n
  edge : ∀ e ∈ es, L[e.f]? = L[e.t]?
  le : ∀ (v x : Nat), L[v]? = some x → x ≤ v
  con : ∀ (c : Nat → Nat), (∀ e ∈ es, c e.f = c e.t) → ∀ (v x : Nat), L[v]? = some x → c x = c v
theorem IsLab.le_of {n : Nat} {es : List GE} {A B : List Nat} (ha : IsLab n es A) (hb : IsLab n es B) {v x y : Nat} (hx : A[v]? = some x) (hy : B[v]? = some y) : y ≤ x := by
  have h1 := ha.con (fun u => B.getD u 0) (fun e he => by simp [List.getD, hb.edge e he]) v x hx
  have hv := lt_of_get hy
  have hxv := ha.le v x hx
  have h2 : B[x]? = some B[x] := List.getElem?_eq_getElem (by omega)
  have h1 : B.getD x 0 = B.getD v 0 := h1
  rw [getD_of h2, getD_of hy] at h1
  have := hb.le x _ h2
  omega
theorem IsLab.unique {n : Nat} {es : List GE} {A B : List Nat} (ha : IsLab n es A) (hb : IsLab n es B) : A = B := by
  refine List.ext_getElem? fun v => ?_
  cases hx : A[v]? with
  | none =>
    cases hy : B[v]? with
    | none => rfl
    | some y => have := lt_of_get hy; rw [hb.len, ← ha.len] at this; rw [List.getElem?_eq_none_iff] at hx; omega
  | some x =>
    cases hy : B[v]? with
    | none => have := lt_of_get hx; rw [ha.len, ← hb.len] at this; rw [List.getElem?_eq_none_iff] at hy; omega
    | some y =>
      have h1 := ha.le_of hb hx hy
      have h2 := hb.le_of ha hy hx
      congr 1; omega
/-- a label is its own -/
theorem IsLab.own {n : Nat} {es : List GE} {A : List Nat} (ha : IsLab n es A) {v x : Nat} (hx : A[v]? = some x) : A[x]? = some x := by
  have h1 := ha.con (fun u => A.getD u 0) (fun e he => by simp [List.getD, ha.edge e he]) v x hx
  have hv := lt_of_get hx
  have hxv := ha.le v x hx
  have h2 : A[x]? = some A[x] := List.getElem?_eq_getElem (by omega)
  have h1 : A.getD x 0 = A.getD v 0 := h1
  rw [getD_of h2, getD_of hx] at h1
  rw [h2, h1]

/-! ## forests -/
inductive Root (f : List Nat) : Nat → Nat → Prop
  | here {v : Nat} (h : f[v]? = some v) : Root f v v
  | up {v u r : Nat} (h : f[v]? = some u) (hn : u ≠ v) (t : Root f u r) : Root f v r
def Forest (n : Nat) (f : List Nat) : Prop := f.length = n ∧ ∀ (v x : Nat), f[v]? = some x → x ≤ v
theorem Root.det {f : List Nat} {v r r' : Nat} (h : Root f v r) (h' : Root f v r') : r = r' := by
  induction h with
  | here h =>
    cases h' with
    | here _ => rfl
    | up h2 hn _ => rw [h] at h2; cases h2; exact absurd rfl hn
  | up h hn _ ih =>
    cases h' with
    | here h2 => rw [h] at h2; cases h2; exact absurd rfl hn
    | up h2 _ t => rw [h] at h2; cases h2; exact ih t
theorem Root.is {f : List Nat} {v r : Nat} (h : Root f v r) : f[r]? = some r := by
  induction h with
  | here h => exact h
  | up _ _ _ ih => exact ih
theorem Root.le {n : Nat} {f : List Nat} (hf : Forest n f) {v r : Nat} (h : Root f v r) : r ≤ v := by
  induction h with
  | here h => exact Nat.le_refl _
  | up h _ _ ih => exact Nat.le_trans ih (hf.2 _ _ h)
theorem Forest.root {n : Nat} {f : List Nat} (hf : Forest n f) : ∀ v, v < n → ∃ r, Root f v r := by
  intro v
  induction v using Nat.strongRecOn with
  | _ v ih =>
    intro hv
    have hvl : v < f.length := by rw [hf.1]; exact hv
    have hx : f[v]? = some f[v] := List.getElem?_eq_getElem hvl
    have hle := hf.2 v _ hx
    by_cases he : f[v] = v
    · exact ⟨v, .here (by rw [hx, he])⟩
    · obtain ⟨r, hr⟩ := ih f[v] (by omega) (by omega)
      exact ⟨r, .up hx he hr⟩
/-- one is led to its root at once -/
theorem Root.short {n : Nat} {f : List Nat} (hf : Forest n f) {v r : Nat} (hv : Root f v r) : Forest n (f.set v r) ∧ ∀ u q, Root f u q → Root (f.set v r) u q := by
  have hvl : v < f.length := by
    cases hv with
    | here h => exact lt_of_get h
    | up h _ _ => exact lt_of_get h
  have hg : ∀ u, (f.set v r)[u]? = if u = v then some r else f[u]? := fun u => by
    rw [List.getElem?_set]
    by_cases e : v = u
    · subst e; simp [hvl]
    · simp [e, Ne.symm e]
  have hr := hv.is
  have hrr : (f.set v r)[r]? = some r := by rw [hg]; split <;> simp_all
  refine ⟨⟨by rw [List.length_set]; exact hf.1, fun u x hx => ?_⟩, fun u q h => ?_⟩
  · rw [hg] at hx
    split at hx
    · rename_i e; cases hx; rw [e]; exact hv.le hf
    · exact hf.2 u x hx
  · induction h with
    | @here u h =>
      by_cases e : u = v
      · subst e
        have := hv.det (.here h)
        subst this
        exact .here hrr
      · exact .here (by rw [hg, if_neg e]; exact h)
    | @up u x q h hn t ih =>
      by_cases e : u = v
      · subst e
        have := hv.det (.up h hn t)
        subst this
        by_cases e2 : r = u
        · rw [e2] at hrr ⊢; exact .here hrr
        · exact .up (by rw [hg, if_pos rfl]) e2 (.here hrr)
      · exact .up (by rw [hg, if_neg e]; exact h) hn ih
/-- two roots become one -/
theorem Root.join {n : Nat} {f : List Nat} (hf : Forest n f) {a b : Nat} (ha : f[a]? = some a) (hb : f[b]? = some b) (hab : b ≤ a) : Forest n (f.set a b) ∧ ∀ u q, Root f u q → Root (f.set a b) u (if q = a then b else q) := by
  have hal := lt_of_get ha
  have hg : ∀ u, (f.set a b)[u]? = if u = a then some b else f[u]? := fun u => by
    rw [List.getElem?_set]
    by_cases e : a = u
    · subst e; simp [hal]
    · simp [e, Ne.symm e]
  have hbb : (f.set a b)[b]? = some b := by rw [hg]; split <;> simp_all
  refine ⟨⟨by rw [List.length_set]; exact hf.1, fun u x hx => ?_⟩, fun u q h => ?_⟩
  · rw [hg] at hx
    split at hx
    · rename_i e; cases hx; rw [e]; exact hab
    · exact hf.2 u x hx
  · induction h with
    | @here u h =>
      by_cases e : u = a
      · subst e
        rw [if_pos rfl]
        by_cases e2 : b = u
        · rw [e2] at hbb ⊢; exact .here hbb
        · exact .up (by rw [hg, if_pos rfl]) e2 (.here hbb)
      · rw [if_neg e]
        exact .here (by rw [hg, if_neg e]; exact h)
    | @up u x q h hn t ih =>
      have e : u ≠ a := fun e => by subst e; rw [ha] at h; cases h; exact hn rfl
      exact .up (by rw [hg, if_neg e]; exact h) hn ih
/-- a forest of the first i edges -/
structure ForI (n : Nat) (es : List GE) (i : Nat) (f : List Nat) : Prop where
  forest : Forest n f
  edge : ∀ e ∈ es.take i, ∀ q, Root f e.f q → Root f e.t q
  con : ∀ (c : Nat → Nat), (∀ e ∈ es, c e.f = c e.t) → ∀ v r, Root f v r → c r = c v
theorem ForI.init {n : Nat} {es : List GE} : ForI n es 0 (List.range n) := by
  have hg : ∀ v x, (List.range n)[v]? = some x → x = v := fun v x h => by
    rw [List.getElem?_range (by simpa using lt_of_get h)] at h; cases h; rfl
  refine ⟨⟨by simp, fun v x h => by rw [hg v x h]; exact Nat.le_refl _⟩, fun e he => by simp at he, fun c hc v r h => ?_⟩
  cases h with
  | here h => rfl
  | up h hn _ => exact absurd (hg _ _ h) hn
/-- the same roots -/
theorem ForI.same {n : Nat} {es : List GE} {i : Nat} {f f' : List Nat} (h : ForI n es i f) (hf : Forest n f') (hs : ∀ u q, Root f u q → Root f' u q) : ForI n es i f' := by
  have back : ∀ u q, Root f' u q → Root f u q := fun u q hq => by
    have hu : u < n := by
      cases hq with
      | here h => have := lt_of_get h; rw [hf.1] at this; exact this
      | up h _ _ => have := lt_of_get h; rw [hf.1] at this; exact this
    obtain ⟨r, hr⟩ := h.forest.root u hu
    rw [hq.det (hs u r hr)]; exact hr
  exact ⟨hf, fun e he q hq => hs _ _ (h.edge e he q (back _ _ hq)), fun c hc v r hr => h.con c hc v r (back _ _ hr)⟩
theorem ForI.step {n : Nat} {es : List GE} {i : Nat} {f : List Nat} (h : ForI n es i f) {e : GE} (he : es[i]? = some e) {a b : Nat} (ha : Root f e.f a) (hb : Root f e.t b) : ForI n es (i + 1) (f.set (max a b) (min a b)) := by
  have hmx : f[max a b]? = some (max a b) := by
    rcases Nat.le_total a b with h1 | h1
    · rw [Nat.max_eq_right h1]; exact hb.is
    · rw [Nat.max_eq_left h1]; exact ha.is
  have hmn : f[min a b]? = some (min a b) := by
    rcases Nat.le_total a b with h1 | h1
    · rw [Nat.min_eq_left h1]; exact ha.is
    · rw [Nat.min_eq_right h1]; exact hb.is
  obtain ⟨hf', hs⟩ := Root.join h.forest hmx hmn (by omega)
  have back : ∀ u q, Root (f.set (max a b) (min a b)) u q → ∃ r, Root f u r ∧ q = if r = max a b then min a b else r := fun u q hq => by
    have hu : u < n := by
      cases hq with
      | here h => have := lt_of_get h; rw [hf'.1] at this; exact this
      | up h _ _ => have := lt_of_get h; rw [hf'.1] at this; exact this
    obtain ⟨r, hr⟩ := h.forest.root u hu
    exact ⟨r, hr, hq.det (hs u r hr)⟩
  refine ⟨hf', fun x hx q hq => ?_, fun c hc v r hr => ?_⟩
  · obtain ⟨r, hr, rfl⟩ := back _ _ hq
    rcases (take_succ_mem he).1 hx with hx | rfl
    · exact hs _ _ (h.edge x hx r hr)
    · have := hr.det ha
      subst this
      have h2 := hs _ _ hb
      have : (if r = max r b then min r b else r) = (if b = max r b then min r b else b) := by
        rcases Nat.le_total r b with h1 | h1
        · rw [Nat.max_eq_right h1, Nat.min_eq_left h1]; split <;> simp_all
        · rw [Nat.max_eq_left h1, Nat.min_eq_right h1]; split <;> simp_all
      rw [this]; exact h2
  · obtain ⟨q, hq, rfl⟩ := back _ _ hr
    have h1 := h.con c hc v q hq
    split
    · rename_i e1
      have h2 := h.con c hc _ _ ha
      have h3 := h.con c hc _ _ hb
      have h4 := hc e (List.mem_of_getElem? he)
      rcases Nat.le_total a b with h5 | h5
      · rw [Nat.min_eq_left h5, h2, h4, ← h3, ← h1, e1, Nat.max_eq_right h5]
      · rw [Nat.min_eq_right h5, h3, ← h4, ← h2, ← h1, e1, Nat.max_eq_left h5]
    · exact h1
/-- the roots are the labels -/
theorem ForI.lab {n : Nat} {es : List GE} {f : List Nat} (hes : ∀ e ∈ es, e.f < n ∧ e.t < n) (h : ForI n es es.length f) : ∃ L, IsLab n es L ∧ ∀ v r, Root f v r ↔ L[v]? = some r := by
  have hex : ∀ v, v < n → ∃ r, Root f v r := h.forest.root
  have key : ∀ m, m ≤ n → ∃ L : List Nat, L.length = m ∧ ∀ v r, v < m → (Root f v r ↔ L[v]? = some r) := by
    intro m
    induction m with
    | zero => intro _; exact ⟨[], rfl, fun v r h => absurd h (Nat.not_lt_zero _)⟩
    | succ m ih =>
      intro hm
      obtain ⟨L, hl, hL⟩ := ih (by omega)
      obtain ⟨r0, h0⟩ := hex m (by omega)
      refine ⟨L ++ [r0], by simp [hl], fun v r hv => ?_⟩
      rw [List.getElem?_append]
      by_cases hvm : v < m
      · rw [if_pos (by omega)]; exact hL v r hvm
      · have : v = m := by omega
        subst this
        rw [if_neg (by omega), hl, Nat.sub_self]
        simp only [List.getElem?_cons_zero, Option.some.injEq]
        exact ⟨fun h => h0.det h, fun h => h ▸ h0⟩
  obtain ⟨L, hl, hL⟩ := key n (Nat.le_refl _)
  have hL : ∀ v r, Root f v r ↔ L[v]? = some r := fun v r => by
    by_cases hv : v < n
    · exact hL v r hv
    · constructor
      · intro hr
        have : v < f.length := by cases hr with
          | here h => exact lt_of_get h
          | up h _ _ => exact lt_of_get h
        rw [h.forest.1] at this; omega
      · intro hr
        have := lt_of_get hr
        omega
  refine ⟨L, ⟨hl, fun e he => ?_, fun v x hx => ((hL v x).2 hx).le h.forest, fun c hc v x hx => h.con c hc v x ((hL v x).2 hx)⟩, hL⟩
  obtain ⟨h1, h2⟩ := hes e he
  obtain ⟨r, hr⟩ := hex e.f h1
  have := h.edge e (by rw [List.take_length]; exact he) r hr
  rw [(hL _ _).1 hr, (hL _ _).1 this]
end Go.Ax

/-! part PlComps2 -/
namespace Go.Ax
/-! # plain: labels by rounds -/
def sym (es : List GE) : List GE := es ++ es.map (fun e => ⟨e.t, e.f, e.w⟩)
theorem mem_sym {es : List GE} {e : GE} : e ∈ sym es → ∃ e' ∈ es, (e.f = e'.f ∧ e.t = e'.t) ∨ (e.f = e'.t ∧ e.t = e'.f) := by
  intro h
  rcases List.mem_append.1 h with h | h
  · exact ⟨e, h, .inl ⟨rfl, rfl⟩⟩
  · obtain ⟨e', he', rfl⟩ := List.mem_map.1 h
    exact ⟨e', he', .inr ⟨rfl, rfl⟩⟩
theorem sym_mem {es : List GE} {e : GE} (h : e ∈ es) : e ∈ sym es ∧ ⟨e.t, e.f, e.w⟩ ∈ sym es := ⟨List.mem_append_left _ h, List.mem_append_right _ (List.mem_map.2 ⟨e, h, rfl⟩)⟩
def InR (n : Nat) (es : List GE) : Prop := ∀ e ∈ es, e.f < n ∧ e.t < n
theorem sym_in {n : Nat} {es : List GE} (h : InR n es) : InR n (sym es) := fun e he => by
  obtain ⟨e', he', h1 | h1⟩ := mem_sym he
  · rw [h1.1, h1.2]; exact h e' he'
  · rw [h1.1, h1.2]; exact ⟨(h e' he').2, (h e' he').1⟩
theorem exists_lev {n : Nat} {es : List GE} {s : Nat} (hes : InR n es) (hs : s < n) : ∃ l, Lev n es s l := by
  have key : ∀ k, ∃ l, LevI n es s k 0 l := by
    intro k
    induction k with
    | zero => exact ⟨_, LevI.init hs⟩
    | succ k ih =>
      obtain ⟨l0, h0⟩ := ih
      have inner : ∀ i, i ≤ es.length → ∃ l, LevI n es s k i l := by
        intro i
        induction i with
        | zero => intro _; exact ⟨l0, h0⟩
        | succ i ihi =>
          intro hi
          obtain ⟨l, hl⟩ := ihi (by omega)
          have he : es[i]? = some es[i] := List.getElem?_eq_getElem (by omega)
          by_cases hc : l[es[i].f]? = some (k : Int) ∧ l[es[i].t]? = some (-1)
          · exact ⟨_, hl.step he hc.1 hc.2⟩
          · exact ⟨l, hl.skip he (hes _ (List.mem_of_getElem? he)).2 hc⟩
      obtain ⟨l, hl⟩ := inner es.length (Nat.le_refl _)
      exact ⟨l, hl.next⟩
  obtain ⟨l, hl⟩ := key n
  exact ⟨l, hl.done⟩
structure LabI (n : Nat) (es : List GE) (k i : Nat) (L : List Nat) : Prop where
  len : L.length = n
  le : ∀ (v x : Nat), L[v]? = some x → x ≤ v
  con : ∀ (c : Nat → Nat), (∀ e ∈ es, c e.f = c e.t) → ∀ (v x : Nat), L[v]? = some x → c x = c v
  low : ∀ m l, Lev n (sym es) m l → ∀ (v : Nat) (x : Int) (y : Nat), l[v]? = some x → 0 ≤ x → x ≤ k → L[v]? = some y → y ≤ m
  far : ∀ m l, Lev n (sym es) m l → ∀ (j : Nat) (e : GE), es[j]? = some e → j < i → ∀ a b : Nat, (a = e.f ∧ b = e.t) ∨ (a = e.t ∧ b = e.f) → l[a]? = some (k : Int) → ∀ y : Nat, L[b]? = some y → y ≤ m
theorem LabI.init {n : Nat} {es : List GE} : LabI n es 0 0 (List.range n) := by
  have hg : ∀ v x, (List.range n)[v]? = some x → x = v := fun v x h => by
    rw [List.getElem?_range (by simpa using lt_of_get h)] at h; cases h; rfl
  refine ⟨by simp, fun v x h => by rw [hg v x h]; exact Nat.le_refl _, fun c _ v x h => by rw [hg v x h], fun m l hl v x y hx h0 h1 hy => ?_, fun m l hl j e he hj => absurd hj (Nat.not_lt_zero _)⟩
  have : x = 0 := by omega
  subst this
  rw [hg v y hy, hl.zero v hx]
  exact Nat.le_refl _
theorem LabI.step {n : Nat} {es : List GE} {k i : Nat} {L : List Nat} {e : GE} (h : LabI n es k i L) (he : es[i]? = some e) {x y : Nat} (hx : L[e.f]? = some x) (hy : L[e.t]? = some y) :
    LabI n es k (i + 1) ((L.set e.f (min x y)).set e.t (min x y)) := by
  have hfl := lt_of_get hx
  have htl := lt_of_get hy
  have hg : ∀ u, ((L.set e.f (min x y)).set e.t (min x y))[u]? = if u = e.t ∨ u = e.f then some (min x y) else L[u]? := fun u => by
    rw [List.getElem?_set, List.length_set, List.getElem?_set]
    by_cases h1 : e.t = u
    · subst h1; simp [htl]
    · by_cases h2 : e.f = u
      · subst h2; simp [h1, hfl]
      · simp [h1, h2, Ne.symm h1, Ne.symm h2]
  have hle : ∀ u z, ((L.set e.f (min x y)).set e.t (min x y))[u]? = some z → ∃ w, L[u]? = some w ∧ z ≤ w := fun u z hz => by
    rw [hg] at hz
    split at hz
    · rename_i hu
      cases hz
      rcases hu with rfl | rfl
      · exact ⟨y, hy, Nat.min_le_right _ _⟩
      · exact ⟨x, hx, Nat.min_le_left _ _⟩
    · exact ⟨z, hz, Nat.le_refl _⟩
  have hmem := List.mem_of_getElem? he
  refine ⟨by simp [h.len], fun v z hz => ?_, fun c hc v z hz => ?_, fun m l hl v a z ha h0 hk hz => ?_, fun m l hl j e' he' hj a b hab ha z hz => ?_⟩
  · obtain ⟨w, hw, hzw⟩ := hle v z hz
    exact Nat.le_trans hzw (h.le v w hw)
  · rw [hg] at hz
    have hce := hc e hmem
    have hcx := h.con c hc _ _ hx
    have hcy := h.con c hc _ _ hy
    split at hz
    · rename_i hu
      have hz2 : c (min x y) = c e.f := by
        rcases Nat.le_total x y with h1 | h1
        · rw [Nat.min_eq_left h1, hcx]
        · rw [Nat.min_eq_right h1, hcy, hce]
      cases hz
      rcases hu with rfl | rfl
      · rw [hz2, hce]
      · exact hz2
    · exact h.con c hc v z hz
  · obtain ⟨w, hw, hzw⟩ := hle v z hz
    exact Nat.le_trans hzw (h.low m l hl v a w ha h0 hk hw)
  · obtain ⟨w, hw, hzw⟩ := hle b z hz
    by_cases hji : j < i
    · exact Nat.le_trans hzw (h.far m l hl j e' he' hji a b hab ha w hw)
    · have : j = i := by omega
      subst this
      rw [he] at he'; cases he'
      have hmin : min x y ≤ m := by
        rcases hab with ⟨rfl, rfl⟩ | ⟨rfl, rfl⟩
        · have := h.low m l hl _ _ x ha (by omega) (by omega) hx
          omega
        · have := h.low m l hl _ _ y ha (by omega) (by omega) hy
          omega
      rw [hg, if_pos (by rcases hab with ⟨_, rfl⟩ | ⟨_, rfl⟩ <;> simp)] at hz
      cases hz
      exact hmin
theorem LabI.next {n : Nat} {es : List GE} {k : Nat} {L : List Nat} (h : LabI n es k es.length L) : LabI n es (k + 1) 0 L :=
  ⟨h.len, h.le, h.con, fun m l hl v x y hx h0 hk hy => by
    by_cases hxk : x ≤ k
    · exact h.low m l hl v x y hx h0 hxk hy
    · have hxe : x = ((k + 1 : Nat) : Int) := by push_cast at hk ⊢; omega
      subst hxe
      obtain ⟨e, hm, rfl, hf⟩ := hl.pre v _ hx (by push_cast; omega)
      obtain ⟨e', hm', hab⟩ := mem_sym hm
      obtain ⟨j, hj⟩ := List.getElem?_of_mem hm'
      refine h.far m l hl j e' hj (lt_of_get hj) e.f e.t hab ?_ y hy
      rw [hf]; congr 1; push_cast; omega, fun m l hl j e he hj => absurd hj (Nat.not_lt_zero _)⟩
theorem LabI.done {n : Nat} {es : List GE} {L : List Nat} (hes : InR n es) (h : LabI n es n 0 L) : IsLab n es L := by
  refine ⟨h.len, fun e he => ?_, h.le, h.con⟩
  obtain ⟨hf, ht⟩ := hes e he
  have hx : L[e.f]? = some (L[e.f]'(by rw [h.len]; exact hf)) := List.getElem?_eq_getElem _
  have hy : L[e.t]? = some (L[e.t]'(by rw [h.len]; exact ht)) := List.getElem?_eq_getElem _
  have key : ∀ (a b : Nat), ((a = e.f ∧ b = e.t) ∨ (a = e.t ∧ b = e.f)) → ∀ x y : Nat, L[a]? = some x → L[b]? = some y → y ≤ x := fun a b hab x y hx hy => by
    have hxn : x < n := by
      have := h.le a x hx
      have := lt_of_get hx
      rw [h.len] at this
      omega
    obtain ⟨l, hl⟩ := exists_lev (sym_in hes) hxn
    have hce : ∀ e' ∈ es, (if 0 ≤ l.getD e'.f (-1) then 1 else 0) = (if 0 ≤ l.getD e'.t (-1) then 1 else 0) := fun e' he' => by
      obtain ⟨m1, m2⟩ := sym_mem he'
      have r1 := hes e' he'
      have g1 : l[e'.f]? = some (l[e'.f]'(by rw [hl.len]; exact r1.1)) := List.getElem?_eq_getElem _
      have g2 : l[e'.t]? = some (l[e'.t]'(by rw [hl.len]; exact r1.2)) := List.getElem?_eq_getElem _
      rw [getD_of g1, getD_of g2]
      by_cases h1 : 0 ≤ l[e'.f]'(by rw [hl.len]; exact r1.1)
      · obtain ⟨y, hy, h2, _⟩ := hl.post _ m1 _ g1 h1
        rw [g2] at hy; cases hy
        rw [if_pos h1, if_pos h2]
      · by_cases h2 : 0 ≤ l[e'.t]'(by rw [hl.len]; exact r1.2)
        · obtain ⟨y, hy, h3, _⟩ := hl.post _ m2 _ g2 h2
          have hy : l[e'.f]? = some y := hy
          rw [g1] at hy; cases hy
          exact absurd h3 h1
        · rw [if_neg h1, if_neg h2]
    have hcx := h.con (fun u => if 0 ≤ l.getD u (-1) then 1 else 0) hce a x hx
    have hcx : (if 0 ≤ l.getD x (-1) then 1 else 0) = (if 0 ≤ l.getD a (-1) then 1 else 0) := hcx
    rw [getD_of hl.src, if_pos (Int.le_refl 0)] at hcx
    have ha0 : 0 ≤ l.getD a (-1) := by
      rcases Int.lt_or_le (l.getD a (-1)) 0 with h1 | h1
      · rw [if_neg (by omega)] at hcx; cases hcx
      · exact h1
    have han : a < n := by have := lt_of_get hx; rw [h.len] at this; exact this
    have ga : l[a]? = some (l[a]'(by rw [hl.len]; exact han)) := List.getElem?_eq_getElem _
    rw [getD_of ga] at ha0
    obtain ⟨m1, m2⟩ := sym_mem he
    have hb : ∃ z, l[b]? = some z ∧ 0 ≤ z := by
      rcases hab with ⟨rfl, rfl⟩ | ⟨rfl, rfl⟩
      · obtain ⟨z, h1, h2, _⟩ := hl.post _ m1 _ ga ha0
        exact ⟨z, h1, h2⟩
      · obtain ⟨z, h1, h2, _⟩ := hl.post _ m2 _ ga ha0
        exact ⟨z, h1, h2⟩
    obtain ⟨z, hz, hz0⟩ := hb
    exact h.low x l hl b z y hz hz0 (by have := (hl.rng b z hz).2; omega) hy
  have h1 := key e.f e.t (.inl ⟨rfl, rfl⟩) _ _ hx hy
  have h2 := key e.t e.f (.inr ⟨rfl, rfl⟩) _ _ hy hx
  rw [hx, hy]
  congr 1
  omega
end Go.Ax

/-! part AxH10 -/
namespace Go.Ax
open Go
set_option linter.unusedSimpArgs false
set_option linter.unusedVariables false

/-! # comps: root, grown, Joined -/
def cfRoot (fr : Nat) : CF := { res := [.tmp 4], body :=
 (.seq (.regO [⟨none, (some 4), 0, .pur (.mv (.v (.int .i64 0)))⟩])
 (.seq (.seq (.regO [⟨none, (some 5), 0, .pur (.mv (.t 0))⟩,
   ⟨none, (some 6), 0, .pur (.mv (.t 1))⟩,
   ⟨none, (some 7), 0, .pur (.ixA (.slice 1) (.t 5) (.t 6))⟩,
   ⟨none, (some 8), 0, .red (.ld none (.t 7))⟩,
   ⟨none, (some 9), 0, .pur (.mv (.t 1))⟩,
   ⟨none, (some 10), 0, .pur (.bin .neq 3 (.t 8) (.t 9))⟩])
 (.cond (.t 10)
  (.regO [⟨none, (some 11), 0, .pur (.mv (.t 0))⟩,
    ⟨none, (some 12), 0, .pur (.mv (.t 1))⟩,
    ⟨none, (some 13), 0, .pur (.mv (.t 0))⟩,
    ⟨none, (some 14), 0, .pur (.mv (.t 0))⟩,
    ⟨none, (some 15), 0, .pur (.mv (.t 1))⟩,
    ⟨none, (some 16), 0, .pur (.ixA (.slice 1) (.t 14) (.t 15))⟩,
    ⟨none, (some 17), 0, .red (.ld none (.t 16))⟩,
    ⟨none, (some 18), 0, .eff (.call fr [(.t 13), (.t 17)])⟩,
    ⟨none, (some 19), 0, .pur (.ixA (.slice 1) (.t 11) (.t 12))⟩,
    ⟨none, none, 0, .eff (.st 1 (.t 19) (.t 18))⟩])
  .skip))
 (.seq (.regO [⟨none, (some 20), 0, .pur (.mv (.t 0))⟩,
   ⟨none, (some 21), 0, .pur (.mv (.t 1))⟩,
   ⟨none, (some 22), 0, .pur (.ixA (.slice 1) (.t 20) (.t 21))⟩,
   ⟨none, (some 23), 0, .red (.ld none (.t 22))⟩,
   ⟨none, (some 4), 0, .pur (.mv (.t 23))⟩])
 .ret))) }
def cfGrown (fr : Nat) : CF := { res := [.tmp 2], body :=
 (.seq (.regO [⟨none, (some 1), 0, .alc (.box (.t 0))⟩,
   ⟨none, (some 2), 0, .pur (.mv (.v (.slice none 0 0)))⟩])
 (.seq (.regO [⟨none, (some 9), 0, .pur (.fldA 0 (.t 1))⟩,
   ⟨none, (some 10), 0, .red (.ld none (.t 9))⟩,
   ⟨none, (some 11), 0, .alc (.mks [(.int .i64 0)] (.t 10) (.t 10))⟩,
   ⟨none, (some 3), 0, .pur (.mv (.t 11))⟩])
 (.seq (.seq (.regO [⟨none, (some 12), 0, .pur (.mv (.t 3))⟩,
   ⟨none, (some 13), 0, .red (.lens (.t 12))⟩,
   ⟨none, (some 14), 0, .pur (.mv (.v (.int .i64 0)))⟩])
 (.block 0
  (.loop
   (.seq (.regO [⟨none, (some 15), 0, .pur (.bin .lss 3 (.t 14) (.t 13))⟩])
   (.seq (.cond (.t 15)
    .skip
    (.exit 0))
   (.seq (.block 1
    (.seq (.regO [⟨none, (some 16), 0, .pur (.mv (.t 14))⟩,
      ⟨none, (some 4), 0, .pur (.mv (.t 16))⟩])
    (.regO [⟨none, (some 17), 0, .pur (.mv (.t 3))⟩,
      ⟨none, (some 18), 0, .pur (.mv (.t 4))⟩,
      ⟨none, (some 19), 0, .pur (.mv (.t 4))⟩,
      ⟨none, (some 20), 0, .pur (.ixA (.slice 1) (.t 17) (.t 18))⟩,
      ⟨none, none, 0, .eff (.st 1 (.t 20) (.t 19))⟩])))
   (.regO [⟨none, (some 21), 0, .pur (.bin .add 3 (.t 14) (.v (.int .i64 1)))⟩,
     ⟨none, (some 14), 0, .pur (.mv (.t 21))⟩])))))))
 (.seq (.seq (.regO [⟨none, (some 22), 0, .pur (.fldA 1 (.t 1))⟩,
   ⟨none, (some 23), 0, .red (.ld none (.t 22))⟩,
   ⟨none, (some 24), 0, .red (.lens (.t 23))⟩,
   ⟨none, (some 25), 0, .pur (.mv (.v (.int .i64 0)))⟩])
 (.block 2
  (.loop
   (.seq (.regO [⟨none, (some 26), 0, .pur (.bin .lss 3 (.t 25) (.t 24))⟩])
   (.seq (.cond (.t 26)
    .skip
    (.exit 2))
   (.seq (.block 3
    (.seq (.regO [⟨none, (some 27), 0, .pur (.ixA (.slice 3) (.t 23) (.t 25))⟩,
      ⟨none, (some 28), 0, .red (.ld (some 3) (.t 27))⟩,
      ⟨none, (some 6), 0, .alc (.new [(.int .i64 0), (.int .i64 0), (.int .i64 0)])⟩,
      ⟨none, none, 0, .eff (.st 3 (.t 6) (.t 28))⟩])
    (.seq (.regD [⟨none, (some 29), 0, .pur (.mv (.t 3))⟩,
      ⟨none, (some 30), 0, .pur (.fldA 0 (.t 6))⟩,
      ⟨none, (some 31), 0, .red (.ld none (.t 30))⟩,
      ⟨none, (some 32), 0, .eff (.call fr [(.t 29), (.t 31)])⟩,
      ⟨none, (some 33), 1, .pur (.mv (.t 3))⟩,
      ⟨none, (some 34), 1, .pur (.fldA 1 (.t 6))⟩,
      ⟨none, (some 35), 1, .red (.ld none (.t 34))⟩,
      ⟨none, (some 36), 0, .eff (.call fr [(.t 33), (.t 35)])⟩,
      ⟨none, (some 7), 0, .pur (.mv (.t 32))⟩,
      ⟨none, (some 8), 0, .pur (.mv (.t 36))⟩])
    (.regO [⟨none, (some 37), 0, .pur (.mv (.t 3))⟩,
      ⟨none, (some 38), 0, .pur (.mv (.t 7))⟩,
      ⟨none, (some 39), 0, .pur (.mv (.t 8))⟩,
      ⟨none, (some 40), 0, .pur (.mn false (.t 38) (.t 39))⟩,
      ⟨none, (some 41), 0, .pur (.mv (.t 7))⟩,
      ⟨none, (some 42), 0, .pur (.mv (.t 8))⟩,
      ⟨none, (some 43), 0, .pur (.mn true (.t 41) (.t 42))⟩,
      ⟨none, (some 44), 0, .pur (.ixA (.slice 1) (.t 37) (.t 40))⟩,
      ⟨none, none, 0, .eff (.st 1 (.t 44) (.t 43))⟩]))))
   (.regO [⟨none, (some 45), 0, .pur (.bin .add 3 (.t 25) (.v (.int .i64 1)))⟩,
     ⟨none, (some 25), 0, .pur (.mv (.t 45))⟩])))))))
 (.seq (.regO [⟨none, (some 46), 0, .pur (.mv (.t 3))⟩,
   ⟨none, (some 2), 0, .pur (.mv (.t 46))⟩])
 .ret))))) }
def cfJoined (fri fg fr te : Nat) : CF := { res := [.tmp 6], body :=
 (.seq (.regO [⟨none, (some 3), 0, .alc (.box (.t 0))⟩,
   ⟨none, (some 6), 0, .pur (.mv (.v (.bool false)))⟩])
 (.seq (.seq (.regO [⟨none, (some 8), 0, .red (.ld (some 2) (.t 3))⟩,
   ⟨none, (some 9), 0, .eff (.call fri [(.t 8)])⟩,
   ⟨none, (some 10), 0, .pur (.bin .neq te (.t 9) (.v (.int .i64 0)))⟩,
   ⟨none, (some 11), 0, .pur (.mv (.t 10))⟩,
   ⟨(some (11, false)), (some 12), 0, .pur (.mv (.t 1))⟩,
   ⟨(some (11, false)), (some 13), 0, .pur (.mv (.t 2))⟩,
   ⟨(some (11, false)), (some 14), 0, .pur (.mn true (.t 12) (.t 13))⟩,
   ⟨(some (11, false)), (some 15), 0, .pur (.bin .lss 3 (.t 14) (.v (.int .i64 0)))⟩,
   ⟨none, (some 16), 0, .pur (.pick (.t 11) (.v (.bool true)) (.t 15))⟩,
   ⟨none, (some 17), 0, .pur (.mv (.t 16))⟩,
   ⟨(some (17, false)), (some 18), 0, .pur (.mv (.t 1))⟩,
   ⟨(some (17, false)), (some 19), 0, .pur (.mv (.t 2))⟩,
   ⟨(some (17, false)), (some 20), 0, .pur (.mn false (.t 18) (.t 19))⟩,
   ⟨(some (17, false)), (some 21), 0, .pur (.fldA 0 (.t 3))⟩,
   ⟨(some (17, false)), (some 22), 0, .red (.ld none (.t 21))⟩,
   ⟨(some (17, false)), (some 23), 0, .pur (.bin .geq 3 (.t 20) (.t 22))⟩,
   ⟨none, (some 24), 0, .pur (.pick (.t 17) (.v (.bool true)) (.t 23))⟩])
 (.cond (.t 24)
  (.seq (.regO [⟨none, (some 6), 0, .pur (.mv (.v (.bool false)))⟩])
  .ret)
  .skip))
 (.seq (.regO [⟨none, (some 25), 0, .red (.ld (some 2) (.t 3))⟩,
   ⟨none, (some 26), 0, .eff (.call fg [(.t 25)])⟩,
   ⟨none, (some 7), 0, .pur (.mv (.t 26))⟩])
 (.seq (.regO [⟨none, (some 27), 0, .pur (.mv (.t 7))⟩,
   ⟨none, (some 28), 0, .pur (.mv (.t 1))⟩,
   ⟨none, (some 29), 0, .eff (.call fr [(.t 27), (.t 28)])⟩,
   ⟨none, (some 30), 0, .pur (.mv (.t 7))⟩,
   ⟨none, (some 31), 0, .pur (.mv (.t 2))⟩,
   ⟨none, (some 32), 0, .eff (.call fr [(.t 30), (.t 31)])⟩,
   ⟨none, (some 33), 0, .pur (.bin .eql 3 (.t 29) (.t 32))⟩,
   ⟨none, (some 6), 0, .pur (.mv (.t 33))⟩])
 .ret)))) }
theorem exists_for {n : Nat} {es : List GE} (hes : InR n es) : ∀ i, i ≤ es.length → ∃ F, ForI n es i F
  | 0, _ => ⟨_, ForI.init⟩
  | i + 1, hi => by
    obtain ⟨F, hF⟩ := exists_for hes i (by omega)
    have he : es[i]? = some (es[i]'(by omega)) := List.getElem?_eq_getElem _
    obtain ⟨h1, h2⟩ := hes _ (List.mem_of_getElem? he)
    obtain ⟨a, ha⟩ := hF.forest.root _ h1
    obtain ⟨b, hb⟩ := hF.forest.root _ h2
    exact ⟨_, hF.step he ha hb⟩
theorem exists_lab {n : Nat} {es : List GE} (hes : InR n es) : ∃ L, IsLab n es L := by
  obtain ⟨F, hF⟩ := exists_for hes es.length (Nat.le_refl _)
  obtain ⟨L, hL, _⟩ := hF.lab hes
  exact ⟨L, hL⟩
theorem nats_set (l : List Nat) (i x : Nat) : (nats l).set i (x : Int) = nats (l.set i x) := by simp [nats, List.map_set]
theorem Root.back {n : Nat} {F F' : List Nat} (hF : Forest n F) (hF' : Forest n F') (hs : ∀ u q, Root F u q → Root F' u q) {u q : Nat} (h : Root F' u q) : Root F u q := by
  have hu : u < n := by
    cases h with
    | here h => have := lt_of_get h; rw [hF'.1] at this; exact this
    | up h _ _ => have := lt_of_get h; rw [hF'.1] at this; exact this
  obtain ⟨r, hr⟩ := hF.root u hu
  rw [h.det (hs u r hr)]; exact hr
section
variable {P : Program} {orc : Orc} {s : Bool}
theorem min2_nat {k : IntKind} {a b : Nat} : min2 true (.int k (a : Int)) (.int k (b : Int)) = .ok (.int k ((min a b : Nat) : Int)) := by
  show (bif keq k k then (bif true then rInt k (bif iblt b a then (b : Int) else a) else rInt k (bif iblt a b then (b : Int) else a)) else .no "min") = _
  simp only [keq_self, iblt_dec]
  by_cases h : b < a
  · simp [h, rInt, Nat.min_eq_right (Nat.le_of_lt h)]
  · simp [h, rInt, Nat.min_eq_left (Nat.le_of_not_lt h)]
theorem max2_nat {k : IntKind} {a b : Nat} : min2 false (.int k (a : Int)) (.int k (b : Int)) = .ok (.int k ((max a b : Nat) : Int)) := by
  show (bif keq k k then (bif false then rInt k (bif iblt b a then (b : Int) else a) else rInt k (bif iblt a b then (b : Int) else a)) else .no "min") = _
  simp only [keq_self, iblt_dec]
  by_cases h : a < b
  · simp [h, rInt, Nat.max_eq_right (Nat.le_of_lt h)]
  · simp [h, rInt, Nat.max_eq_left (Nat.le_of_not_lt h)]
theorem c_mn (b : Bool) (x y : Co) (tm : Tm) : cpur P tm (.mn b x y) = min2 b (cev tm x) (cev tm y) := rfl
/-- what root leaves -/
def RootK (N b : Nat) (F : List Nat) (v : Nat) (h : Hp) (nx : Nat) : KC' := fun r h' nx' => ∃ (q : Nat) (F' : List Nat), r = .int .i64 (q : Int) ∧ Root F v q ∧ Forest N F' ∧ (∀ u q, Root F u q → Root F' u q) ∧ hget h' b = some (.cells (ints (nats F')) false) ∧ (∀ b2, b2 ≠ b → hget h' b2 = hget h b2) ∧ nx' = nx
theorem root_cv {f N b cap : Nat} {sp : Option Nat} (hcf : compAt P f = some (cfRoot f)) (ho : orc f = none) (hN : N < 1000000) : ∀ (v : Nat), v < N → ∀ (F : List Nat) (h : Hp) (nx : Nat), Forest N F → hget h b = some (.cells (ints (nats F)) false) →
    Cv P orc s f [.slice (some ⟨b, 0, sp⟩) N cap, .int .i64 (v : Int)] h nx (RootK N b F v h nx) := by
  intro v
  induction v using Nat.strongRecOn with
  | _ v ih =>
    intro hv F h nx hF hb
    refine Cv.enter ho hcf ?_
    unfold cfRoot
    refine Ev.seq (Ev.regO ?_)
    simp only [Ov_pur, Ov_nil, c_mv, cev_v, putT_some, RK_ok, nextK_normal, Nat.zero_add, Nat.reduceAdd, setArgs_nil, setArgs_cons]
    have hu : F[v]? = some (F[v]'(by rw [hF.1]; exact hv)) := List.getElem?_eq_getElem _
    generalize F[v]'(by rw [hF.1]; exact hv) = u at hu
    have huv := hF.2 _ _ hu
    have gu := ints_get (nats_get hu)
    refine Ev.seq (Ev.seq (Ev.regO ?_))
    simp only [Ov_pur, Ov_red, Ov_nil, c_mv, c_bin, c_ixA, natR_nat, oIx_slice, c_ld, cev_t, putT_some, addrR_ptr, tgs, RK_ok, ofGet_some, loadC_one, bin_neq, nextK_normal, ↓reduceIte, Nat.reduceEqDiff, Nat.zero_add, Nat.mul_one, hv, cellsOf_some hb, gu]
    have last : ∀ (q : Nat) (F' : List Nat) (tm : Tm) (h' : Hp), tget tm 0 = .slice (some ⟨b, 0, sp⟩) N cap → tget tm 1 = .int .i64 (v : Int) → F'[v]? = some q → Root F v q → Forest N F' → (∀ u q, Root F u q → Root F' u q) → hget h' b = some (.cells (ints (nats F')) false) → (∀ b2, b2 ≠ b → hget h' b2 = hget h b2) →
        Ev P orc s (.seq (.regO [⟨none, (some 20), 0, .pur (.mv (.t 0))⟩, ⟨none, (some 21), 0, .pur (.mv (.t 1))⟩, ⟨none, (some 22), 0, .pur (.ixA (.slice 1) (.t 20) (.t 21))⟩, ⟨none, (some 23), 0, .red (.ld none (.t 22))⟩, ⟨none, (some 4), 0, .pur (.mv (.t 23))⟩]) .ret) tm h' nx (retK P [.tmp 4] (RootK N b F v h nx)) := by
      intro q F' tm h' t0 t1 hq hr hF' hs hb' hfr
      refine Ev.seq (Ev.regO ?_)
      simp only [Ov_pur, Ov_red, Ov_nil, c_mv, c_ixA, natR_nat, oIx_slice, c_ld, cev_t, putT_some, addrR_ptr, tgs, RK_ok, ofGet_some, loadC_one, nextK_normal, ↓reduceIte, Nat.reduceEqDiff, Nat.zero_add, Nat.mul_one, t0, t1, hv, cellsOf_some hb', ints_get (nats_get hq)]
      refine Ev.ret ?_
      simp only [tgs, RK_ok, bind_ok, ↓reduceIte, retK_ret, resVs_tmp, resVs_nil, retV_one]
      exact ⟨q, F', rfl, hr, hF', hs, hb', hfr, rfl⟩
    by_cases huv' : u = v
    · subst huv'
      refine Ev.cond false (by simp) (by simp) (fun _ => Ev.skip ?_)
      (try simp only [nextK_normal])
      exact last u F _ _ (by simp) (by simp) hu (.here hu) hF (fun _ _ h => h) hb (fun _ _ => rfl)
    · refine Ev.cond true (by simp; omega) (fun _ => ?_) (by simp)
      refine Ev.regO ?_
      simp only [Ov_pur, Ov_red, c_mv, c_ixA, natR_nat, oIx_slice, c_ld, cev_t, putT_some, addrR_ptr, tgs, RK_ok, ofGet_some, loadC_one, ↓reduceIte, Nat.reduceEqDiff, Nat.zero_add, Nat.mul_one, hv, cellsOf_some hb, gu]
      refine Ov_call ?_
      simp only [Ov_pur, Ov_st, Ov_nil, c_ixA, natR_nat, oIx_slice, cev_t, cevs_nil, cevs_cons, putT_some, putT_none, tgs, nextK_normal, ↓reduceIte, Nat.reduceEqDiff, Nat.zero_add, Nat.mul_one]
      refine (ih u (by omega) (by omega) F h nx hF hb).mono ?_
      rintro r h' nx' ⟨q, F', rfl, hq, hF', hs, hb', hfr, rfl⟩
      have hvq : Root F v q := .up hu huv' hq
      obtain ⟨hF2, hs2⟩ := (hs _ _ hvq).short hF'
      simp only [addrR_ptr, RK_ok, ↓reduceIte, vc_int, hv]
      rw [RK_st1 hb' rfl (by rw [ints_len, nats_len, hF'.1]; exact hv), ints_set, nats_set]
      (try simp only [Ov_pur, Ov_red, Ov_alc, Ov_st, Ov_g, Ov_nil, Dv_pur, Dv_red, Dv_alc, Dv_st, Dv_g, Dv_nil, c_mv, c_bin, c_un, c_conv, c_pick, cPick_bool, c_fld, cFld_agg, c_fldA, c_nilc, nilChk_ptr, c_ext, oExtract_tuple, c_ixA, natR_nat, natR_ofNat, natR_lit, natR_zero, natR_one, oIx_slice, oIx_array, c_ld, c_lens, lenS_slice, cev_t, cev_v, cevs_nil, cevs_cons, putT_some, putT_none, addrR_ptr, moveA_eq, tgs, RK_ok, of_some, bind_ok, ofGet_some, loadC_one, bin_add, bin_sub, bin_lss, bin_leq, bin_gtr, bin_geq, bin_eql, bin_neq, un_not, conv_int, nextK_normal, nextK_exit, nextK_ret, blkK_normal, blkK_ret, blkK_exit, boolIs_t, boolIs_f, boolIs_u, ↓reduceIte, Nat.reduceEqDiff, cpur_build, alc_new, alc_bsl, sliceNB_eq, cfill_nil, cfill_cons, vc_int, vc_slice, vc_agg, vc_bool, vc_ptr, cellV_int, cellV_bool, cellV_slice, cellV_ptr, cellL_nil, cellL_cons, nbV_ptr, nbO_ptr, nbV_slice, nbO_slice, List.getElem?_cons_zero, List.getElem?_cons_succ, List.length_cons, List.length_nil, List.take_zero, List.take_succ_cons, List.drop_zero, List.drop_succ_cons, List.drop_nil, List.nil_append, List.cons_append, List.append_nil, Nat.zero_add, Nat.add_zero, Nat.mul_one, Nat.reduceAdd, Nat.reduceLeDiff, Bool.and_self, Bool.and_true, Bool.true_and, true_and, and_true, cagree_0, cagree_1, cagree_2, sameR_ok, sameV_int, sameV_bool, sameV_slice, Bool.false_eq_true, setArgs_nil, setArgs_cons, Bool.not_true, Bool.not_false, isEffC_pur, isEffC_alc, isEffC_red, isEffC_eff, retK_ret, retK_normal, resVs_tmp, resVs_nil, retV_one, retV_two])
      refine last q _ _ _ (by simp) (by simp) ?_ hvq hF2 (fun u q h => hs2 _ _ (hs _ _ h)) (by simp) (fun b2 hb2 => by rw [hgs, if_neg hb2]; exact hfr b2 hb2)
      rw [List.getElem?_set, if_pos rfl, if_pos (by rw [hF'.1]; exact hv)]
/-! ## grown -/
theorem repL_zero : ∀ n : Nat, repL n [.int .i64 0] = ints (List.replicate n 0)
  | 0 => rfl
  | n + 1 => by
    show lapp [.int .i64 0] (repL n [.int .i64 0]) = _
    rw [repL_zero n, lapp_eq]
    rfl
theorem cellL_ints : ∀ l : List Int, cellL (ints l) = true
  | [] => rfl
  | x :: l => by
    show cellL (.int .i64 x :: ints l) = true
    rw [cellL_cons, cellL_ints l]; rfl
theorem alc_mks {tm : Tm} {N : Nat} {l c : Co} (hl : cev tm l = .int .i64 (N : Int)) (hc : cev tm c = .int .i64 (N : Int)) (hN : N ≤ 100000) : calq P tm (.mks [.int .i64 0] l c) = .ok (.slice (.cells (ints (List.replicate N 0)) false) N N) := by
  show natR (cev tm l) (fun l => natR (cev tm c) (fun c => bif Nat.ble l c && Nat.ble c 100000 then sliceNB (repL c [.int .i64 0]) l c else .no "makeSlice")) = _
  rw [hl, hc, natR_nat, natR_nat]
  have e1 : Nat.ble N N = true := by simp
  have e2 : Nat.ble N 100000 = true := by simpa using hN
  rw [e1, e2, repL_zero, sliceNB_eq, if_pos (cellL_ints _)]
  rfl
/-- each one of the first i its own -/
def upTo (N i : Nat) : List Nat := (List.range N).map (fun k => if k < i then k else 0)
theorem upTo_get {N i k : Nat} (hk : k < N) : (upTo N i)[k]? = some (if k < i then k else 0) := by simp [upTo, hk]
theorem upTo_len (N i : Nat) : (upTo N i).length = N := by simp [upTo]
theorem upTo_zero (N : Nat) : nats (upTo N 0) = List.replicate N 0 := by
  refine List.ext_getElem? fun k => ?_
  by_cases hk : k < N
  · rw [nats_get (upTo_get hk)]; simp [hk]
  · rw [List.getElem?_eq_none (by rw [nats_len, upTo_len]; omega), List.getElem?_eq_none (by simp; omega)]
theorem upTo_set {N i : Nat} (hi : i < N) : (upTo N i).set i i = upTo N (i + 1) := by
  refine List.ext_getElem? fun k => ?_
  rw [List.getElem?_set, upTo_len]
  by_cases hk : k < N
  · rw [upTo_get hk, upTo_get hk]
    by_cases h1 : i = k
    · subst h1; simp [hi]
    · rw [if_neg h1]
      by_cases h2 : k < i
      · rw [if_pos h2, if_pos (by omega)]
      · rw [if_neg h2, if_neg (by omega)]
  · rw [List.getElem?_eq_none (by rw [upTo_len]; omega), List.getElem?_eq_none (by rw [upTo_len]; omega), if_neg (by omega)]
theorem upTo_full (N : Nat) : upTo N N = List.range N := by
  refine List.ext_getElem? fun k => ?_
  by_cases hk : k < N
  · rw [upTo_get hk, if_pos hk, List.getElem?_range hk]
  · rw [List.getElem?_eq_none (by rw [upTo_len]; omega), List.getElem?_eq_none (by simp; omega)]
def GroJ0 (N nx : Nat) (v2 : Value) (h : Hp) (m : Nat) (tm : Tm) (h' : Hp) (nx' : Nat) : Prop :=
  ∃ i : Nat, m = N - i ∧ i ≤ N ∧ tget tm 1 = .pointer (some ⟨nx, 0, none⟩) ∧ tget tm 3 = .slice (some ⟨nx + 1, 0, none⟩) N N ∧ tget tm 13 = .int .i64 (N : Int) ∧ tget tm 14 = .int .i64 (i : Int) ∧ hget h' nx = some (.cells [.int .i64 (N : Int), v2] false) ∧ hget h' (nx + 1) = some (.cells (ints (nats (upTo N i))) false) ∧ Keep nx h h' ∧ nx' = nx + 1 + 1
def GroJ2 (N n nx : Nat) (v2 : Value) (gs : List GE) (h : Hp) (m : Nat) (tm : Tm) (h' : Hp) (nx' : Nat) : Prop :=
  ∃ (i : Nat) (F : List Nat), m = n - i ∧ i ≤ n ∧ ForI N gs i F ∧ tget tm 23 = v2 ∧ tget tm 24 = .int .i64 (n : Int) ∧ tget tm 25 = .int .i64 (i : Int) ∧ tget tm 3 = .slice (some ⟨nx + 1, 0, none⟩) N N ∧ hget h' (nx + 1) = some (.cells (ints (nats F)) false) ∧ Keep nx h h' ∧ nx + 1 + 1 ≤ nx'
def GrownK (N nx : Nat) (gs : List GE) (h : Hp) : KC' := fun r h' nx' => ∃ (b : Nat) (F : List Nat), r = .slice (some ⟨b, 0, none⟩) N N ∧ hget h' b = some (.cells (ints (nats F)) false) ∧ ForI N gs gs.length F ∧ nx ≤ b ∧ b < nx' ∧ Keep nx h h'
theorem grown_cv {f fr : Nat} (hcf : compAt P f = some (cfGrown fr)) (ho : orc f = none) (hcr : compAt P fr = some (cfRoot fr)) (hor : orc fr = none) {N : Nat} {v : Value} {gs : List GE} {h : Hp} {nx : Nat} (hv : SlRd h nx v encG gs) (hN : N < 24) (hl : gs.length ≤ 60) (hok : ∀ g ∈ gs, GOk N g) :
    Cv P orc s f [.agg ⟨[.int .i64 (N : Int), v]⟩] h nx (GrownK N nx gs h) := by
  refine Cv.enter ho hcf ?_
  unfold cfGrown
  obtain ⟨a, cap, rfl, _⟩ := id hv
  refine Ev.seq (Ev.regO ?_)
  rw [Ov_alc, alc_box (l := [.int .i64 (N : Int), .slice a gs.length cap]) (by simp) (by simp)]
  simp only [Ov_pur, Ov_nil, c_mv, cev_v, putT_some, RK_ok, nextK_normal, nbV_ptr, nbO_ptr, Nat.zero_add, setArgs_nil, setArgs_cons]
  refine Ev.genH (fun tm2 h2 => tget tm2 1 = .pointer (some ⟨nx, 0, none⟩) ∧ hget h2 nx = some (.cells [.int .i64 (N : Int), .slice a gs.length cap] false) ∧ Keep nx h h2) ⟨by simp, by simp, fun c hc => by rw [hgs, if_neg (by omega)]⟩ ?_
  rintro tm2 h2 ⟨t1, g1, hk⟩
  refine Ev.seq (Ev.regO ?_)
  simp only [Ov_pur, Ov_red, Ov_alc, Ov_nil, c_mv, c_fldA, c_ld, cev_t, putT_some, addrR_ptr, moveA_eq, tgs, RK_ok, ofGet_some, loadC_one, nextK_normal, ↓reduceIte, List.getElem?_cons_zero, Nat.add_zero, t1, cellsOf_some g1]
  rw [alc_mks (N := N) (by simp) (by simp) (by omega)]
  simp only [RK_ok, nbV_slice, nbO_slice]
  refine Ev.cut (GroJ0 N nx (.slice a gs.length cap) h 0) ?_ ?_
  · refine Ev.seq (Ev.regO ?_)
    simp only [Ov_pur, Ov_red, Ov_nil, c_mv, c_lens, lenS_slice, cev_t, cev_v, putT_some, tgs, RK_ok, nextK_normal, ↓reduceIte]
    refine Ev.forR (GroJ0 N nx (.slice a gs.length cap) h) ?_ N _ _ _ ⟨0, rfl, by omega, by simp [t1], by simp, by simp, by simp, by rw [hgs, if_neg (by omega)]; exact g1, by rw [upTo_zero]; simp, fun c hc => by rw [hgs, if_neg (by omega)]; exact hk c hc, rfl⟩
    rintro m tm h' nx' ⟨i, rfl, hi, t1, t3, t13, t14, g1, g3, hk, rfl⟩
    simp only [Ov_pur, Ov_nil, c_mv, c_bin, cev_t, cev_v, putT_some, tgs, RK_ok, bin_lss, nextK_normal, ↓reduceIte, t13, t14]
    refine ⟨decide ((i : Int) < N), rfl, fun e => ?_, fun e => ?_⟩
    · have : ¬ ((i : Int) < N) := of_decide_eq_false e
      exact ⟨i, by omega, hi, by simpa using t1, by simpa using t3, by simpa using t13, by simpa using t14, g1, g3, hk, rfl⟩
    · have hiN : i < N := by
        have : (i : Int) < N := of_decide_eq_true e
        omega
      refine Ev.seq (Ev.regO ?_)
      simp only [Ov_pur, Ov_nil, c_mv, cev_t, putT_some, tgs, RK_ok, nextK_normal, ↓reduceIte, Nat.reduceEqDiff, t14]
      refine Ev.regO ?_
      simp only [Ov_pur, Ov_st, Ov_nil, c_mv, c_ixA, natR_nat, oIx_slice, cev_t, putT_some, putT_none, addrR_ptr, tgs, RK_ok, nextK_normal, blkK_normal, ↓reduceIte, Nat.reduceEqDiff, vc_int, Nat.zero_add, Nat.mul_one, t3, hiN]
      rw [RK_st1 g3 rfl (by rw [ints_len, nats_len, upTo_len]; exact hiN), ints_set, nats_set, upTo_set hiN]
      (try simp only [RK_ok, bin_add, t14])
      refine ⟨N - (i + 1), by omega, i + 1, rfl, by omega, by simpa using t1, by simpa using t3, by simpa using t13, ?_, by rw [hgs, if_neg (by omega)]; exact g1, by simp, fun c hc => by rw [hgs, if_neg (by omega)]; exact hk c hc, rfl⟩
      rw [wrapS (by omega) (by omega)]; simp
  · rintro tm h' nx' ⟨i, hi0, hi, t1, t3, t13, t14, g1, g3, hk, rfl⟩
    have : i = N := by omega
    subst this
    rw [upTo_full] at g3
    refine Ev.cut (GroJ2 i gs.length nx (.slice a gs.length cap) gs h 0) ?_ ?_
    · refine Ev.seq (Ev.regO ?_)
      simp only [Ov_pur, Ov_red, Ov_nil, c_mv, c_fldA, c_ld, c_lens, lenS_slice, cev_t, cev_v, putT_some, addrR_ptr, moveA_eq, tgs, RK_ok, ofGet_some, loadC_one, nextK_normal, ↓reduceIte, List.getElem?_cons_zero, List.getElem?_cons_succ, Nat.zero_add, t1, cellsOf_some g1]
      refine Ev.forR (GroJ2 i gs.length nx (.slice a gs.length cap) gs h) ?_ gs.length _ _ _ ⟨0, _, rfl, by omega, ForI.init, by simp, by simp, by simp, by simp [t3], g3, hk, by omega⟩
      rintro m tm h' nx' ⟨j, F, rfl, hj, hF, t23, t24, t25, t3, g3, hk, hnx⟩
      simp only [Ov_pur, Ov_nil, c_mv, c_bin, cev_t, cev_v, putT_some, tgs, RK_ok, bin_lss, nextK_normal, ↓reduceIte, t24, t25]
      refine ⟨decide ((j : Int) < gs.length), rfl, fun e => ?_, fun e => ?_⟩
      · have : ¬ ((j : Int) < gs.length) := of_decide_eq_false e
        exact ⟨j, F, by omega, hj, hF, by simpa using t23, by simpa using t24, by simpa using t25, by simpa using t3, g3, hk, hnx⟩
      · have hjl : j < gs.length := by
          have : (j : Int) < gs.length := of_decide_eq_true e
          omega
        obtain ⟨x, hx⟩ : ∃ x, gs[j]? = some x := ⟨_, List.getElem?_eq_getElem hjl⟩
        obtain ⟨_, bx, spx, rox, capx, hbn, hveq, hbh⟩ := hv.at hx
        injection hveq with e1 e2 e3
        subst e1
        have hb' := (hk bx hbn).trans hbh
        obtain ⟨okf, okt, _, _⟩ := hok x (List.mem_of_getElem? hx)
        refine Ev.seq (Ev.regO ?_)
        simp only [Ov_pur, Ov_red, Ov_alc, Ov_st, Ov_nil, c_ixA, natR_nat, oIx_slice, c_ld, cev_t, putT_some, putT_none, addrR_ptr, tgs, RK_ok, nextK_normal, ↓reduceIte, Nat.reduceEqDiff, alc_new, vc_agg, nbV_ptr, nbO_ptr, Nat.zero_add, t23, t25, hjl, cellsOf_some hb', load_flat' (enc := encG) (k := 3) (fun _ => rfl) hx]
        rw [RK_st (cs := [.int .i64 0, .int .i64 0, .int .i64 0]) (by simp) (by simp [encG]) (by simp [encG]) (by simp)]
        refine Ev.genH (fun tm3 h3 => tget tm3 23 = .slice (some ⟨bx, 0, spx⟩) gs.length cap ∧ tget tm3 24 = .int .i64 (gs.length : Int) ∧ tget tm3 25 = .int .i64 (j : Int) ∧ tget tm3 3 = .slice (some ⟨nx + 1, 0, none⟩) i i ∧ tget tm3 6 = .pointer (some ⟨nx', 0, none⟩) ∧ (∀ b2, b2 < nx' → hget h3 b2 = hget h' b2) ∧ hget h3 nx' = some (.cells (encG x) false))
          ⟨by simp [t23], by simp [t24], by simp [t25], by simp [t3], by simp, fun b2 hb2 => by rw [hgs, if_neg (by omega), hgs, if_neg (by omega)], by simp [encG]⟩ ?_
        rintro tm3 h3 ⟨w23, w24, w25, w3, w6, hold, hnew⟩
        have g3' := (hold (nx + 1) (by omega)).trans g3
        refine Ev.seq (Ev.regD ?_)
        simp only [Dv_pur, Dv_red, c_mv, c_fldA, c_ld, cev_t, putT_some, addrR_ptr, moveA_eq, tgs, RK_ok, ofGet_some, loadC_one, ↓reduceIte, Nat.reduceEqDiff, List.getElem?_cons_zero, Nat.add_zero, true_and, cagree_0, w3, w6, cellsOf_some hnew, encG]
        refine Dv_call ?_
        simp only [Dv_pur, Dv_red, c_mv, c_fldA, c_ld, cev_t, cevs_nil, cevs_cons, putT_some, tgs, RK_ok, loadC_one, ↓reduceIte, Nat.reduceEqDiff, cagree_1]
        refine (root_cv hcr hor (by omega) x.f okf F h3 (nx' + 1) hF.forest g3').mono ?_
        rintro r h4 nx4 ⟨qa, F1, rfl, ra, hF1, hs1, gF1, hfr1, rfl⟩
        refine ⟨Nat.le_refl _, ?_⟩
        have hnew4 := (hfr1 nx' (by omega)).trans hnew
        simp only [addrR_ptr, moveA_eq, RK_ok, ofGet_some, List.getElem?_cons_zero, List.getElem?_cons_succ, Nat.zero_add, true_and, sameR_ok, sameV_int, w3, w6, cellsOf_some hnew, cellsOf_some hnew4, encG]
        refine Dv_call ?_
        simp only [Dv_pur, Dv_nil, c_mv, cev_t, cevs_nil, cevs_cons, putT_some, tgs, RK_ok, nextK_normal, ↓reduceIte, Nat.reduceEqDiff]
        refine (root_cv hcr hor (by omega) x.t okt F1 h4 (nx' + 1) hF1 gF1).mono ?_
        rintro r h5 nx5 ⟨qb, F2, rfl, rb, hF2, hs2, gF2, hfr2, rfl⟩
        refine ⟨Nat.le_refl _, ?_⟩
        (try simp only [Ov_pur, Ov_red, Ov_alc, Ov_st, Ov_g, Ov_nil, Dv_pur, Dv_red, Dv_alc, Dv_st, Dv_g, Dv_nil, c_mv, c_bin, c_un, c_conv, c_pick, cPick_bool, c_fld, cFld_agg, c_fldA, c_nilc, nilChk_ptr, c_ext, oExtract_tuple, c_ixA, natR_nat, natR_ofNat, natR_lit, natR_zero, natR_one, oIx_slice, oIx_array, c_ld, c_lens, lenS_slice, cev_t, cev_v, cevs_nil, cevs_cons, putT_some, putT_none, addrR_ptr, moveA_eq, tgs, RK_ok, of_some, bind_ok, ofGet_some, loadC_one, bin_add, bin_sub, bin_lss, bin_leq, bin_gtr, bin_geq, bin_eql, bin_neq, un_not, conv_int, nextK_normal, nextK_exit, nextK_ret, blkK_normal, blkK_ret, blkK_exit, boolIs_t, boolIs_f, boolIs_u, ↓reduceIte, Nat.reduceEqDiff, cpur_build, alc_new, alc_bsl, sliceNB_eq, cfill_nil, cfill_cons, vc_int, vc_slice, vc_agg, vc_bool, vc_ptr, cellV_int, cellV_bool, cellV_slice, cellV_ptr, cellL_nil, cellL_cons, nbV_ptr, nbO_ptr, nbV_slice, nbO_slice, List.getElem?_cons_zero, List.getElem?_cons_succ, List.length_cons, List.length_nil, List.take_zero, List.take_succ_cons, List.drop_zero, List.drop_succ_cons, List.drop_nil, List.nil_append, List.cons_append, List.append_nil, Nat.zero_add, Nat.add_zero, Nat.mul_one, Nat.reduceAdd, Nat.reduceLeDiff, Bool.and_self, Bool.and_true, Bool.true_and, true_and, and_true, cagree_0, cagree_1, cagree_2, sameR_ok, sameV_int, sameV_bool, sameV_slice, Bool.false_eq_true, setArgs_nil, setArgs_cons, Bool.not_true, Bool.not_false, isEffC_pur, isEffC_alc, isEffC_red, isEffC_eff, retK_ret, retK_normal, resVs_tmp, resVs_nil, retV_one, retV_two])
        have hs12 : ∀ u q, Root F u q → Root F2 u q := fun u q h => hs2 _ _ (hs1 _ _ h)
        have hI2 := hF.same hF2 hs12
        have ra2 := hs12 _ _ ra
        have rb2 := hs2 _ _ rb
        have ha := ra.le hF.forest
        have hbb := rb.le hF1
        refine Ev.regO ?_
        simp only [Ov_pur, Ov_st, Ov_nil, c_mv, c_ixA, natR_nat, oIx_slice, cev_t, putT_some, putT_none, addrR_ptr, tgs, RK_ok, nextK_normal, blkK_normal, ↓reduceIte, Nat.reduceEqDiff, vc_int, Nat.zero_add, Nat.mul_one, w3, c_mn, min2_nat, max2_nat, show max qa qb < i by omega]
        rw [RK_st1 gF2 rfl (by rw [ints_len, nats_len, hF2.1]; omega), ints_set, nats_set]
        (try simp only [RK_ok, bin_add, w25])
        refine ⟨gs.length - (j + 1), by omega, j + 1, _, rfl, by omega, hI2.step hx ra2 rb2, by simpa using w23, by simpa using w24, ?_, by simpa using w3, by simp, fun b2 hb2 => ?_, by omega⟩
        · rw [wrapS (by omega) (by omega)]; simp
        · rw [hgs, if_neg (by omega), hfr2 b2 (by omega), hfr1 b2 (by omega), hold b2 (by omega)]; exact hk b2 hb2
    · rintro tm h' nx' ⟨j, F, hj0, hj, hF, t23, t24, t25, t3, g3, hk, hnx⟩
      have : j = gs.length := by omega
      subst this
      refine Ev.seq (Ev.regO ?_)
      simp only [Ov_pur, Ov_nil, c_mv, cev_t, putT_some, tgs, RK_ok, nextK_normal, ↓reduceIte, t3]
      refine Ev.ret ?_
      simp only [tgs, RK_ok, bind_ok, ↓reduceIte, retK_ret, resVs_tmp, resVs_nil, retV_one]
      exact ⟨nx + 1, F, rfl, g3, hF, by omega, by omega, hk⟩
/-! ## Joined -/
structure CompsAt (P : Program) (orc : Orc) (fri f1 f2 f3 fc fi te fg fr : Nat) : Prop where
  ri : compAt P fri = some (cfRight f1 f2 f3 fc te)
  nri : orc fri = none
  c1 : compAt P f1 = some cfOut
  n1 : orc f1 = none
  c2 : compAt P f2 = some cfEnds
  n2 : orc f2 = none
  c3 : compAt P f3 = some cfWeighs
  n3 : orc f3 = none
  cc : compAt P fc = some (cfContains fi)
  nc : orc fc = none
  ci : compAt P fi = some cfIndex
  ni : orc fi = none
  cg : compAt P fg = some (cfGrown fr)
  ng : orc fg = none
  cr : compAt P fr = some (cfRoot fr)
  nr : orc fr = none
theorem CompsAt.right {fri f1 f2 f3 fc fi te fg fr : Nat} (A : CompsAt P orc fri f1 f2 f3 fc fi te fg fr) {N : Nat} {v : Value} {gs : List GE} {h : Hp} {nx : Nat} (hv : SlRd h nx v encG gs) (hN : N < 24) (hl : gs.length ≤ 60) (hok : ∀ g ∈ gs, GOk N g) :
    Cv P orc s fri [.agg ⟨[.int .i64 (N : Int), v]⟩] h nx (StillK (.int .i64 0) nx h) := right_cv A.ri A.nri A.c1 A.n1 A.c2 A.n2 A.c3 A.n3 A.cc A.nc A.ci A.ni hv hN hl hok
theorem joined_cv {f fri f1 f2 f3 fc fi te fg fr : Nat} (A : CompsAt P orc fri f1 f2 f3 fc fi te fg fr) (hcf : compAt P f = some (cfJoined fri fg fr te)) (ho : orc f = none) {N x y : Nat} {v : Value} {gs : List GE} {h : Hp} {nx : Nat} (hv : SlRd h nx v encG gs) (hN : N < 24) (hl : gs.length ≤ 60) (hok : ∀ g ∈ gs, GOk N g)
    (hx : x < N) (hy : y < N) {L : List Nat} (hL : IsLab N gs L) :
    Cv P orc s f [.agg ⟨[.int .i64 (N : Int), v]⟩, .int .i64 (x : Int), .int .i64 (y : Int)] h nx (StillK (.bool (decide (L[x]? = L[y]?))) nx h) := by
  refine Cv.enter ho hcf ?_
  unfold cfJoined
  obtain ⟨a, cap, rfl, _⟩ := id hv
  refine Ev.seq (Ev.regO ?_)
  rw [Ov_alc, alc_box (l := [.int .i64 (N : Int), .slice a gs.length cap]) (by simp) (by simp)]
  simp only [Ov_pur, Ov_nil, c_mv, cev_v, putT_some, RK_ok, nextK_normal, nbV_ptr, nbO_ptr, Nat.zero_add, Nat.reduceAdd, setArgs_nil, setArgs_cons]
  refine Ev.genH (fun tm2 h2 => tget tm2 1 = .int .i64 (x : Int) ∧ tget tm2 2 = .int .i64 (y : Int) ∧ tget tm2 3 = .pointer (some ⟨nx, 0, none⟩) ∧ hget h2 nx = some (.cells [.int .i64 (N : Int), .slice a gs.length cap] false) ∧ Keep nx h h2) ⟨by simp, by simp, by simp, by simp, fun c hc => by rw [hgs, if_neg (by omega)]⟩ ?_
  rintro tm2 h2 ⟨t1, t2, t3, g1, hk⟩
  refine Ev.seq (Ev.seq (Ev.regO ?_))
  repeat (first | simp only [Dv_g, Ov_g, putT_some, putT_none, tgs, ↓reduceIte, Nat.reduceEqDiff, boolIs_t, boolIs_f, boolIs_u, Bool.not_true, Bool.not_false, Bool.false_eq_true, isEffC_pur, isEffC_alc, isEffC_red, isEffC_eff] | simp only [Ov_red, c_ld, cev_t, putT_some, addrR_ptr, RK_ok, ↓reduceIte, List.length_cons, List.length_nil, List.take_zero, List.take_succ_cons, List.drop_zero, Nat.zero_add, Nat.reduceAdd, t3, cellsOf_some g1, loadC_many, Nat.sub_zero, Nat.le_refl])
  refine Ov_call ?_
  simp only [cevs_nil, cevs_cons, cev_t, cev_v, tgs, ↓reduceIte, Nat.reduceEqDiff]
  refine (A.right (hv.keep hk (show nx ≤ nx + 1 by omega)) hN hl hok).mono ?_
  rintro r h3 nx3 ⟨rfl, hk3, hnx3⟩
  have g1' := (hk3 nx (by omega)).trans g1
  have f1 : ¬ (((min x y : Nat) : Int) < 0) := by omega
  have f2 : ((max x y : Nat) : Int) < N := by omega
  have f3 : ((0 : Int) == 0) = true := rfl
  repeat (first | simp only [Dv_g, Ov_g, putT_some, putT_none, tgs, ↓reduceIte, Nat.reduceEqDiff, boolIs_t, boolIs_f, boolIs_u, Bool.not_true, Bool.not_false, Bool.false_eq_true, isEffC_pur, isEffC_alc, isEffC_red, isEffC_eff] | simp only [Ov_pur, Ov_red, Ov_nil, c_mv, c_bin, c_pick, cPick_bool, c_fldA, c_ld, cev_t, cev_v, putT_some, addrR_ptr, moveA_eq, tgs, RK_ok, ofGet_some, loadC_one, bin_lss, bin_geq, bin_neq, nextK_normal, ↓reduceIte, Nat.reduceEqDiff, List.getElem?_cons_zero, Nat.add_zero, Bool.false_eq_true, Bool.not_true, t1, t2, t3, cellsOf_some g1', c_mn, min2_nat, max2_nat, f1, f2, f3, decide_true, decide_false])
  refine Ev.cond false (by simp) (by simp) (fun _ => Ev.skip ?_)
  (try simp only [nextK_normal])
  refine Ev.seq (Ev.regO ?_)
  simp only [Ov_red, c_ld, cev_t, putT_some, addrR_ptr, tgs, RK_ok, ↓reduceIte, Nat.reduceEqDiff, List.length_cons, List.length_nil, List.take_zero, List.take_succ_cons, List.drop_zero, Nat.zero_add, Nat.reduceAdd, t3, cellsOf_some g1', loadC_many, Nat.sub_zero, Nat.le_refl]
  refine Ov_call ?_
  simp only [cevs_nil, cevs_cons, cev_t, cev_v, tgs, ↓reduceIte, Nat.reduceEqDiff]
  refine (grown_cv A.cg A.ng A.cr A.nr ((hv.keep hk (show nx ≤ nx + 1 by omega)).keep hk3 hnx3) hN hl hok).mono ?_
  rintro r h4 nx4 ⟨b, F, rfl, gF, hF, hb1, hb2, hk4⟩
  obtain ⟨L', hL', hrt⟩ := hF.lab (fun e he => ⟨(hok e he).1, (hok e he).2.1⟩)
  have := hL.unique hL'
  subst this
  (try simp only [Ov_pur, Ov_nil, c_mv, cev_t, putT_some, tgs, RK_ok, nextK_normal, ↓reduceIte])
  refine Ev.seq (Ev.regO ?_)
  simp only [Ov_pur, c_mv, cev_t, putT_some, tgs, RK_ok, ↓reduceIte, Nat.reduceEqDiff, t1, t2]
  refine Ov_call ?_
  simp only [cevs_nil, cevs_cons, cev_t, cev_v, tgs, ↓reduceIte, Nat.reduceEqDiff]
  refine (root_cv A.cr A.nr (by omega) x hx F h4 nx4 hF.forest gF).mono ?_
  rintro r h5 nx5 ⟨qa, F1, rfl, ra, hF1, hs1, gF1, hfr1, rfl⟩
  simp only [Ov_pur, c_mv, cev_t, putT_some, tgs, RK_ok, ↓reduceIte, Nat.reduceEqDiff, t2]
  refine Ov_call ?_
  simp only [cevs_nil, cevs_cons, cev_t, cev_v, tgs, ↓reduceIte, Nat.reduceEqDiff]
  refine (root_cv A.cr A.nr (by omega) y hy F1 h5 nx5 hF1 gF1).mono ?_
  rintro r h6 nx6 ⟨qb, F2, rfl, rb, hF2, hs2, gF2, hfr2, rfl⟩
  simp only [Ov_pur, Ov_nil, c_mv, c_bin, cev_t, putT_some, tgs, RK_ok, bin_eql, nextK_normal, ↓reduceIte, Nat.reduceEqDiff]
  refine Ev.ret ?_
  simp only [tgs, RK_ok, bind_ok, ↓reduceIte, retK_ret, resVs_tmp, resVs_nil, retV_one]
  have e1 := (hrt _ _).1 ra
  have e2 := (hrt _ _).1 (rb.back hF.forest hF1 hs1)
  refine ⟨?_, fun c hc => ?_, by omega⟩
  · rw [e1, e2]
    congr 1
    by_cases hq : qa = qb
    · subst hq; simp
    · simp [hq]; omega
  · rw [hfr2 c (by omega), hfr1 c (by omega), hk4 c (by omega), hk3 c (by omega)]; exact hk c hc
end
end Go.Ax

/-! part AxH12 -/
namespace Go.Ax
open Go
set_option linter.unusedSimpArgs false
set_option linter.unusedVariables false

/-! # ref29.Labels -/
def cfLabels : CF := { res := [.tmp 2], body :=
 (.seq (.regO [⟨none, (some 1), 0, .alc (.box (.t 0))⟩,
   ⟨none, (some 2), 0, .pur (.mv (.v (.slice none 0 0)))⟩])
 (.seq (.regO [⟨none, (some 3), 0, .pur (.mv (.v (.slice none 0 0)))⟩])
 (.seq (.seq (.regO [⟨none, (some 4), 0, .pur (.mv (.v (.int .i64 0)))⟩])
 (.block 0
  (.loop
   (.seq (.seq (.regO [⟨none, (some 9), 0, .pur (.mv (.t 4))⟩,
     ⟨none, (some 10), 0, .pur (.fldA 0 (.t 1))⟩,
     ⟨none, (some 11), 0, .red (.ld none (.t 10))⟩,
     ⟨none, (some 12), 0, .pur (.bin .lss 3 (.t 9) (.t 11))⟩])
   (.cond (.t 12)
    .skip
    (.exit 0)))
   (.seq (.block 1
    (.regO [⟨none, (some 15), 0, .pur (.mv (.t 3))⟩,
      ⟨none, (some 16), 0, .pur (.mv (.t 4))⟩,
      ⟨none, (some 17), 0, .alc (.bsl 1 [(.int .i64 0)] [(0, 1, (.t 16))])⟩,
      ⟨none, (some 18), 0, .eff (.app 1 (.t 15) (.t 17))⟩,
      ⟨none, (some 3), 0, .pur (.mv (.t 18))⟩]))
   (.regO [⟨none, (some 13), 0, .pur (.mv (.t 4))⟩,
     ⟨none, (some 14), 0, .pur (.bin .add 3 (.t 13) (.v (.int .i64 1)))⟩,
     ⟨none, (some 4), 0, .pur (.mv (.t 14))⟩]))))))
 (.seq (.seq (.regO [⟨none, (some 5), 0, .pur (.mv (.v (.int .i64 0)))⟩])
 (.block 2
  (.loop
   (.seq (.seq (.regO [⟨none, (some 19), 0, .pur (.mv (.t 5))⟩,
     ⟨none, (some 20), 0, .pur (.fldA 0 (.t 1))⟩,
     ⟨none, (some 21), 0, .red (.ld none (.t 20))⟩,
     ⟨none, (some 22), 0, .pur (.bin .lss 3 (.t 19) (.t 21))⟩])
   (.cond (.t 22)
    .skip
    (.exit 2)))
   (.seq (.block 3
    (.seq (.regO [⟨none, (some 6), 0, .pur (.mv (.v (.int .i64 0)))⟩])
    (.block 4
     (.loop
      (.seq (.seq (.regO [⟨none, (some 25), 0, .pur (.mv (.t 6))⟩,
        ⟨none, (some 26), 0, .pur (.fldA 1 (.t 1))⟩,
        ⟨none, (some 27), 0, .red (.ld none (.t 26))⟩,
        ⟨none, (some 28), 0, .red (.lens (.t 27))⟩,
        ⟨none, (some 29), 0, .pur (.bin .lss 3 (.t 25) (.t 28))⟩])
      (.cond (.t 29)
       .skip
       (.exit 4)))
      (.seq (.block 5
       (.seq (.regO [⟨none, (some 32), 0, .pur (.fldA 1 (.t 1))⟩,
         ⟨none, (some 33), 0, .red (.ld none (.t 32))⟩,
         ⟨none, (some 34), 0, .pur (.mv (.t 6))⟩,
         ⟨none, (some 35), 0, .pur (.ixA (.slice 3) (.t 33) (.t 34))⟩,
         ⟨none, (some 36), 0, .red (.ld (some 3) (.t 35))⟩,
         ⟨none, (some 7), 0, .alc (.new [(.int .i64 0), (.int .i64 0), (.int .i64 0)])⟩,
         ⟨none, none, 0, .eff (.st 3 (.t 7) (.t 36))⟩])
       (.seq (.regD [⟨none, (some 37), 0, .pur (.mv (.t 3))⟩,
         ⟨none, (some 38), 0, .pur (.fldA 0 (.t 7))⟩,
         ⟨none, (some 39), 0, .red (.ld none (.t 38))⟩,
         ⟨none, (some 40), 0, .pur (.ixA (.slice 1) (.t 37) (.t 39))⟩,
         ⟨none, (some 41), 0, .red (.ld none (.t 40))⟩,
         ⟨none, (some 42), 0, .pur (.mv (.t 3))⟩,
         ⟨none, (some 43), 0, .pur (.fldA 1 (.t 7))⟩,
         ⟨none, (some 44), 0, .red (.ld none (.t 43))⟩,
         ⟨none, (some 45), 0, .pur (.ixA (.slice 1) (.t 42) (.t 44))⟩,
         ⟨none, (some 46), 0, .red (.ld none (.t 45))⟩,
         ⟨none, (some 47), 0, .pur (.mn true (.t 41) (.t 46))⟩,
         ⟨none, (some 8), 0, .pur (.mv (.t 47))⟩])
       (.seq (.regO [⟨none, (some 48), 0, .pur (.mv (.t 3))⟩,
         ⟨none, (some 49), 0, .pur (.fldA 0 (.t 7))⟩,
         ⟨none, (some 50), 0, .red (.ld none (.t 49))⟩,
         ⟨none, (some 51), 0, .pur (.mv (.t 8))⟩,
         ⟨none, (some 52), 0, .pur (.ixA (.slice 1) (.t 48) (.t 50))⟩,
         ⟨none, none, 0, .eff (.st 1 (.t 52) (.t 51))⟩])
       (.regO [⟨none, (some 53), 0, .pur (.mv (.t 3))⟩,
         ⟨none, (some 54), 0, .pur (.fldA 1 (.t 7))⟩,
         ⟨none, (some 55), 0, .red (.ld none (.t 54))⟩,
         ⟨none, (some 56), 0, .pur (.mv (.t 8))⟩,
         ⟨none, (some 57), 0, .pur (.ixA (.slice 1) (.t 53) (.t 55))⟩,
         ⟨none, none, 0, .eff (.st 1 (.t 57) (.t 56))⟩])))))
      (.regO [⟨none, (some 30), 0, .pur (.mv (.t 6))⟩,
        ⟨none, (some 31), 0, .pur (.bin .add 3 (.t 30) (.v (.int .i64 1)))⟩,
        ⟨none, (some 6), 0, .pur (.mv (.t 31))⟩])))))))
   (.regO [⟨none, (some 23), 0, .pur (.mv (.t 5))⟩,
     ⟨none, (some 24), 0, .pur (.bin .add 3 (.t 23) (.v (.int .i64 1)))⟩,
     ⟨none, (some 5), 0, .pur (.mv (.t 24))⟩]))))))
 (.seq (.regO [⟨none, (some 58), 0, .pur (.mv (.t 3))⟩,
   ⟨none, (some 2), 0, .pur (.mv (.t 58))⟩])
 .ret))))) }
def LabC (N nx b : Nat) (v2 : Value) (h : Hp) (tm : Tm) (h' : Hp) (nx' : Nat) (L : List Nat) : Prop :=
  tget tm 1 = .pointer (some ⟨nx, 0, none⟩) ∧ tget tm 3 = .slice (some ⟨b, 0, some 1⟩) N N ∧ hget h' nx = some (.cells [.int .i64 (N : Int), v2] false) ∧ hget h' b = some (.cells (ints (nats L)) false) ∧ nx + 1 ≤ b ∧ b < nx' ∧ Keep nx h h'
def LabJ0 (N nx : Nat) (v2 : Value) (h : Hp) (m : Nat) (tm : Tm) (h' : Hp) (nx' : Nat) : Prop :=
  ∃ i : Nat, m = N - i ∧ i ≤ N ∧ tget tm 1 = .pointer (some ⟨nx, 0, none⟩) ∧ tget tm 4 = .int .i64 (i : Int) ∧ SlAt h' (tget tm 3) encI 1 (nats (List.range i)) (nx + 1) nx' ∧
    hget h' nx = some (.cells [.int .i64 (N : Int), v2] false) ∧ nx + 1 ≤ nx' ∧ Keep nx h h'
def LabJ2 (N nx b : Nat) (v2 : Value) (gs : List GE) (h : Hp) (m : Nat) (tm : Tm) (h' : Hp) (nx' : Nat) : Prop :=
  ∃ (k : Nat) (L : List Nat), m = N - k ∧ k ≤ N ∧ tget tm 5 = .int .i64 (k : Int) ∧ LabI N gs k 0 L ∧ LabC N nx b v2 h tm h' nx' L
def LabJ4 (N nx b k : Nat) (v2 : Value) (gs : List GE) (h : Hp) (m : Nat) (tm : Tm) (h' : Hp) (nx' : Nat) : Prop :=
  ∃ (i : Nat) (L : List Nat), m = gs.length - i ∧ i ≤ gs.length ∧ tget tm 5 = .int .i64 (k : Int) ∧ tget tm 6 = .int .i64 (i : Int) ∧ LabI N gs k i L ∧ LabC N nx b v2 h tm h' nx' L
def LabK (N nx : Nat) (L : List Nat) (h : Hp) : KC' := fun r h' nx' => ∃ b : Nat, r = .slice (some ⟨b, 0, some 1⟩) N N ∧ hget h' b = some (.cells (ints (nats L)) false) ∧ nx ≤ b ∧ b < nx' ∧ Keep nx h h'
section
variable {P : Program} {orc : Orc} {s : Bool}
theorem labels_cv {f : Nat} (hcf : compAt P f = some cfLabels) (ho : orc f = none) {N : Nat} {v : Value} {gs : List GE} {h : Hp} {nx : Nat} (hv : SlRd h nx v encG gs) (hN0 : 0 < N) (hN : N < 24) (hgl : gs.length ≤ 60) (hok : ∀ g ∈ gs, GOk N g) {L : List Nat} (hL : IsLab N gs L) :
    Cv P orc s f [.agg ⟨[.int .i64 (N : Int), v]⟩] h nx (LabK N nx L h) := by
  have hes : InR N gs := fun e he => ⟨(hok e he).1, (hok e he).2.1⟩
  refine Cv.enter ho hcf ?_
  obtain ⟨a, cap, rfl, _⟩ := id hv
  unfold cfLabels
  refine Ev.seq (Ev.regO ?_)
  rw [Ov_alc, alc_box (l := [.int .i64 (N : Int), .slice a gs.length cap]) (by simp) (by simp)]
  simp only [Ov_pur, Ov_nil, c_mv, cev_v, putT_some, RK_ok, nextK_normal, nbV_ptr, nbO_ptr, Nat.zero_add, setArgs_nil, setArgs_cons]
  refine Ev.seq (Ev.regO ?_)
  simp only [Ov_pur, Ov_nil, c_mv, cev_v, putT_some, RK_ok, nextK_normal]
  refine Ev.cut (LabJ0 N nx (.slice a gs.length cap) h 0) ?_ ?_
  · refine Ev.seq (Ev.regO ?_)
    simp only [Ov_pur, Ov_nil, c_mv, cev_v, putT_some, RK_ok, nextK_normal]
    refine Ev.forL (LabJ0 N nx (.slice a gs.length cap) h) ?_ N _ _ _ ⟨0, rfl, by omega, by simp, by simp, .inl ⟨rfl, by simp⟩, by simp, by omega, fun b hb => by rw [hgs, if_neg (by omega)]⟩
    rintro m tm h' nx' ⟨i, rfl, hi, t1, t4, hsl, g0, hnx, hk⟩
    simp only [Ov_pur, Ov_red, Ov_nil, c_mv, c_bin, c_fldA, c_ld, cev_t, cev_v, putT_some, addrR_ptr, moveA_eq, tgs, RK_ok, ofGet_some, loadC_one, bin_lss, nextK_normal, ↓reduceIte, Nat.reduceEqDiff, List.getElem?_cons_zero, Nat.add_zero, t1, t4, cellsOf_some g0]
    refine ⟨decide ((i : Int) < N), rfl, fun e => ?_, fun e => ?_⟩
    · have : ¬ ((i : Int) < N) := of_decide_eq_false e
      exact ⟨i, by omega, by omega, by simpa using t1, by simpa using t4, by simpa using hsl, g0, hnx, hk⟩
    · have hiN : i < N := by
        have : (i : Int) < N := of_decide_eq_true e
        omega
      refine Ev.regO ?_
      simp only [Ov_pur, Ov_alc, c_mv, cev_t, putT_some, tgs, RK_ok, bind_ok, ↓reduceIte, Nat.reduceEqDiff, alc_bsl, sliceNB_eq, cfill_nil, cfill_cons, vc_int, cellV_int, cellL_nil, cellL_cons, nbV_slice, nbO_slice, List.length_cons, List.length_nil, List.take_zero, List.drop_succ_cons, List.drop_nil, List.nil_append, List.append_nil, Nat.zero_add, Nat.reduceLeDiff, Bool.and_self, t4]
      have hsl5 : SlAt (hset h' nx' (.cells [.int .i64 (i : Int)] false)) (tget tm 3) encI 1 (nats (List.range i)) (nx + 1) (nx' + 1) := by
        rcases hsl with ⟨e1, e2⟩ | ⟨bk, y1, y2, y3, y4⟩
        · exact .inl ⟨e1, e2⟩
        · exact .inr ⟨bk, y1, by omega, y3, by rw [hgs, if_neg (by omega)]; exact y4⟩
      obtain ⟨v3, h6, hap, hsl6, hk6⟩ := app_cv (enc := encI) (k := 1) (fun _ => rfl) (fun _ => rfl) (by omega) hsl5 (by omega) (b2 := nx') (o2 := 0) (cap2 := 1) (sp2 := none) (cs := [.int .i64 (i : Int)]) (ro := false) (x := (i : Int)) (by simp) rfl (by rw [nats_len, List.length_range]; omega)
      rw [Ov_eff (v := v3) (h' := h6) (nx' := nx' + 1 + 1) (by
        show orR (appendA 1 _ _ (cev _ (.t 15)) (cev _ (.t 17))) = _
        simp only [cev_t, tgs, ↓reduceIte, Nat.reduceEqDiff]
        rw [hap]; rfl)]
      simp only [Ov_pur, Ov_nil, c_mv, cev_t, putT_some, tgs, RK_ok, bin_add, nextK_normal, blkK_normal, ↓reduceIte, Nat.reduceEqDiff, t4]
      refine ⟨N - (i + 1), by omega, i + 1, rfl, by omega, by simpa using t1, ?_, ?_, ?_, by omega, fun b2 hb2 => ?_⟩
      · rw [wrapS (by omega) (by omega)]; simp
      · rw [List.range_succ, nats_app]; simpa using hsl6
      · rw [hk6 _ (by omega), hgs, if_neg (by omega)]; exact g0
      · rw [hk6 _ (by omega), hgs, if_neg (by omega)]; exact hk b2 hb2
  · rintro tm h' nx' ⟨i, hi0, hi, t1, t4, hsl, g0, hnx, hk⟩
    have : i = N := by omega
    subst this
    rcases hsl with ⟨e, _⟩ | ⟨b, hb1, hb2, t3, hb⟩
    · have := congrArg List.length e
      simp [nats_len] at this
      omega
    rw [nats_len, List.length_range] at t3
    rw [flat_ints] at hb
    refine Ev.cut (LabJ2 i nx b (.slice a gs.length cap) gs h 0) ?_ ?_
    · refine Ev.seq (Ev.regO ?_)
      simp only [Ov_pur, Ov_nil, c_mv, cev_v, putT_some, RK_ok, nextK_normal]
      refine Ev.forL (LabJ2 i nx b (.slice a gs.length cap) gs h) ?_ i _ _ _ ⟨0, _, rfl, by omega, by simp, LabI.init, by simpa using t1, by simpa using t3, g0, hb, hb1, hb2, hk⟩
      rintro m tm h' nx' ⟨k, l, rfl, hk1, t5, hl, t1, t3, g0, hbc, hb1, hb2, hk⟩
      simp only [Ov_pur, Ov_red, Ov_nil, c_mv, c_bin, c_fldA, c_ld, cev_t, cev_v, putT_some, addrR_ptr, moveA_eq, tgs, RK_ok, ofGet_some, loadC_one, bin_lss, nextK_normal, ↓reduceIte, Nat.reduceEqDiff, List.getElem?_cons_zero, Nat.add_zero, t1, t5, cellsOf_some g0]
      refine ⟨decide ((k : Int) < i), rfl, fun e => ?_, fun e => ?_⟩
      · have : ¬ ((k : Int) < i) := of_decide_eq_false e
        exact ⟨k, l, by omega, by omega, by simpa using t5, hl, by simpa using t1, by simpa using t3, g0, hbc, hb1, hb2, hk⟩
      · have hki : k < i := by
          have : (k : Int) < i := of_decide_eq_true e
          omega
        refine Ev.cutE (LabJ4 i nx b k (.slice a gs.length cap) gs h 0) ?_ ?_
        · refine Ev.seq (Ev.regO ?_)
          simp only [Ov_pur, Ov_nil, c_mv, cev_v, putT_some, RK_ok, nextK_normal]
          refine Ev.forL (LabJ4 i nx b k (.slice a gs.length cap) gs h) ?_ gs.length _ _ _ ⟨0, l, rfl, by omega, by simpa using t5, by simp, hl, by simpa using t1, by simpa using t3, g0, hbc, hb1, hb2, hk⟩
          rintro m tm h' nx' ⟨j, l, rfl, hj1, t5, t6, hl, t1, t3, g0, hbc, hb1, hb2, hk⟩
          simp only [Ov_pur, Ov_red, Ov_nil, c_mv, c_bin, c_fldA, c_ld, c_lens, lenS_slice, cev_t, cev_v, putT_some, addrR_ptr, moveA_eq, tgs, RK_ok, ofGet_some, loadC_one, bin_lss, nextK_normal, ↓reduceIte, Nat.reduceEqDiff, List.getElem?_cons_zero, List.getElem?_cons_succ, Nat.zero_add, t1, t6, cellsOf_some g0]
          refine ⟨decide ((j : Int) < gs.length), rfl, fun e => ?_, fun e => ?_⟩
          · have : ¬ ((j : Int) < gs.length) := of_decide_eq_false e
            exact ⟨j, l, by omega, by omega, by simpa using t5, by simpa using t6, hl, by simpa using t1, by simpa using t3, g0, hbc, hb1, hb2, hk⟩
          · have hjl : j < gs.length := by
              have : (j : Int) < gs.length := of_decide_eq_true e
              omega
            obtain ⟨x, hx⟩ : ∃ x, gs[j]? = some x := ⟨_, List.getElem?_eq_getElem hjl⟩
            obtain ⟨_, bx, spx, rox, capx, hbn, hveq, hbh⟩ := hv.at hx
            injection hveq with e1 e2 e3
            subst e1
            have hb' := (hk bx hbn).trans hbh
            obtain ⟨okf, okt, _, _⟩ := hok x (List.mem_of_getElem? hx)
            have hlf : l[x.f]? = some (l[x.f]'(by rw [hl.len]; exact okf)) := List.getElem?_eq_getElem _
            have hlt : l[x.t]? = some (l[x.t]'(by rw [hl.len]; exact okt)) := List.getElem?_eq_getElem _
            generalize l[x.f]'(by rw [hl.len]; exact okf) = lf at hlf
            generalize l[x.t]'(by rw [hl.len]; exact okt) = lt at hlt
            refine Ev.genT (fun tm2 => tget tm2 1 = tget tm 1 ∧ tget tm2 3 = tget tm 3 ∧ tget tm2 5 = tget tm 5 ∧ tget tm2 6 = tget tm 6) (by simp) ?_
            rintro tm2 ⟨u1, u3, u5, u6⟩
            rw [t1] at u1; rw [t3] at u3; rw [t5] at u5; rw [t6] at u6
            refine Ev.seq (Ev.regO ?_)
            simp only [Ov_pur, Ov_red, Ov_alc, Ov_st, Ov_nil, c_mv, c_fldA, c_ixA, natR_nat, oIx_slice, c_ld, cev_t, putT_some, putT_none, addrR_ptr, moveA_eq, tgs, RK_ok, ofGet_some, loadC_one, nextK_normal, ↓reduceIte, Nat.reduceEqDiff, alc_new, vc_agg, nbV_ptr, nbO_ptr, List.getElem?_cons_zero, List.getElem?_cons_succ, Nat.zero_add, u1, u6, cellsOf_some g0, hjl, cellsOf_some hb', load_flat' (enc := encG) (k := 3) (fun _ => rfl) hx]
            rw [RK_st (cs := [.int .i64 0, .int .i64 0, .int .i64 0]) (by simp) (by simp [encG]) (by simp [encG]) (by simp)]
            refine Ev.genH (fun tm3 h3 => tget tm3 1 = .pointer (some ⟨nx, 0, none⟩) ∧ tget tm3 3 = .slice (some ⟨b, 0, some 1⟩) i i ∧ tget tm3 5 = .int .i64 (k : Int) ∧ tget tm3 6 = .int .i64 (j : Int) ∧ tget tm3 7 = .pointer (some ⟨nx', 0, none⟩) ∧ (∀ b2, b2 < nx' → hget h3 b2 = hget h' b2) ∧ hget h3 nx' = some (.cells (encG x) false))
              ⟨by simp [u1], by simp [u3], by simp [u5], by simp [u6], by simp, fun b2 hb2 => by rw [hgs, if_neg (by omega), hgs, if_neg (by omega)], by simp [encG]⟩ ?_
            rintro tm3 h3 ⟨w1, w3, w5, w6, w7, hold, hnew⟩
            have gl : hget h3 b = some (.cells (ints (nats l)) false) := (hold b hb2).trans hbc
            have q1 := ints_get (nats_get hlf)
            have q2 := ints_get (nats_get hlt)
            refine Ev.seq (Ev.regD ?_)
            simp only [Dv_pur, Dv_red, Dv_nil, c_mv, c_fldA, c_ixA, natR_nat, oIx_slice, c_ld, cev_t, putT_some, addrR_ptr, moveA_eq, tgs, RK_ok, ofGet_some, loadC_one, nextK_normal, ↓reduceIte, Nat.reduceEqDiff, List.getElem?_cons_zero, List.getElem?_cons_succ, Nat.zero_add, Nat.add_zero, Nat.mul_one, true_and, cagree_0, w3, w7, cellsOf_some hnew, encG, cellsOf_some gl, okf, okt, q1, q2, c_mn, min2_nat]
            refine Ev.seq (Ev.regO ?_)
            simp only [Ov_pur, Ov_red, Ov_st, Ov_nil, c_mv, c_fldA, c_ixA, natR_nat, oIx_slice, c_ld, cev_t, putT_some, putT_none, addrR_ptr, moveA_eq, tgs, RK_ok, ofGet_some, loadC_one, nextK_normal, ↓reduceIte, Nat.reduceEqDiff, vc_int, List.getElem?_cons_zero, Nat.zero_add, Nat.add_zero, Nat.mul_one, w3, w7, cellsOf_some hnew, encG, okf]
            rw [RK_st1 gl rfl (by rw [ints_len, nats_len, hl.len]; exact okf), ints_set, nats_set]
            have hne7 : hget (hset h3 b (.cells (ints (nats (l.set x.f (min lf lt)))) false)) nx' = some (.cells (encG x) false) := by rw [hgs, if_neg (by omega)]; exact hnew
            refine Ev.regO ?_
            simp only [Ov_pur, Ov_red, Ov_st, Ov_nil, c_mv, c_fldA, c_ixA, natR_nat, oIx_slice, c_ld, cev_t, putT_some, putT_none, addrR_ptr, moveA_eq, tgs, RK_ok, ofGet_some, loadC_one, nextK_normal, blkK_normal, ↓reduceIte, Nat.reduceEqDiff, vc_int, List.getElem?_cons_zero, List.getElem?_cons_succ, Nat.zero_add, Nat.mul_one, w3, w7, cellsOf_some hne7, encG, okt]
            rw [RK_st1 (cs := ints (nats (l.set x.f (min lf lt)))) (by simp) rfl (by rw [ints_len, nats_len, List.length_set, hl.len]; exact okt), ints_set, nats_set]
            (try simp only [RK_ok, bin_add, w6])
            refine ⟨gs.length - (j + 1), by omega, j + 1, _, rfl, by omega, by simpa using w5, ?_, hl.step hx hlf hlt, by simpa using w1, by simpa using w3, ?_, by simp, hb1, by omega, fun b2 hb2 => ?_⟩
            · rw [wrapS (by omega) (by omega)]; simp
            · rw [hgs, if_neg (by omega), hgs, if_neg (by omega), hold nx (by omega)]; exact g0
            · rw [hgs, if_neg (by omega), hgs, if_neg (by omega), hold b2 (by omega)]; exact hk b2 hb2
        · rintro tm h' nx' ⟨j, l, hj0, hj1, t5, t6, hl, t1, t3, g0, hbc, hb1, hb2, hk⟩
          have : j = gs.length := by omega
          subst this
          simp only [RK_ok, bin_add, nextK_normal, blkK_normal, t5]
          refine ⟨i - (k + 1), by omega, k + 1, l, rfl, by omega, ?_, hl.next, by simpa using t1, by simpa using t3, g0, hbc, hb1, hb2, hk⟩
          rw [wrapS (by omega) (by omega)]; simp
    · rintro tm h' nx' ⟨k, l, hk0, hk1, t5, hl, t1, t3, g0', hbc, hb1', hb2', hk'⟩
      have : k = i := by omega
      subst this
      have := hL.unique (hl.done hes)
      subst this
      refine Ev.seq (Ev.regO ?_)
      simp only [Ov_pur, Ov_nil, c_mv, cev_t, putT_some, tgs, RK_ok, nextK_normal, ↓reduceIte, t3]
      refine Ev.ret ?_
      simp only [tgs, RK_ok, bind_ok, ↓reduceIte, retK_ret, resVs_tmp, resVs_nil, retV_one]
      exact ⟨b, rfl, hbc, by omega, hb2', hk'⟩
end
end Go.Ax

/-! part AxH13 -/
namespace Go.Ax
open Go
set_option linter.unusedSimpArgs false
set_option linter.unusedVariables false

/-! # comps.Check, comps.Count -/
def cfCheck (fri fg fr te : Nat) : CF := { res := [.tmp 4], body :=
 (.seq (.regO [⟨none, (some 2), 0, .alc (.box (.t 0))⟩,
   ⟨none, (some 4), 0, .pur (.mv (.v (.bool false)))⟩])
 (.seq (.seq (.regO [⟨none, (some 8), 0, .red (.ld (some 2) (.t 2))⟩,
   ⟨none, (some 9), 0, .eff (.call fri [(.t 8)])⟩,
   ⟨none, (some 10), 0, .pur (.bin .neq te (.t 9) (.v (.int .i64 0)))⟩,
   ⟨none, (some 11), 0, .pur (.mv (.t 10))⟩,
   ⟨(some (11, false)), (some 12), 0, .pur (.mv (.t 1))⟩,
   ⟨(some (11, false)), (some 13), 0, .red (.lens (.t 12))⟩,
   ⟨(some (11, false)), (some 14), 0, .pur (.fldA 0 (.t 2))⟩,
   ⟨(some (11, false)), (some 15), 0, .red (.ld none (.t 14))⟩,
   ⟨(some (11, false)), (some 16), 0, .pur (.bin .neq 3 (.t 13) (.t 15))⟩,
   ⟨none, (some 17), 0, .pur (.pick (.t 11) (.v (.bool true)) (.t 16))⟩])
 (.cond (.t 17)
  (.seq (.regO [⟨none, (some 4), 0, .pur (.mv (.v (.bool false)))⟩])
  .ret)
  .skip))
 (.seq (.regO [⟨none, (some 18), 0, .red (.ld (some 2) (.t 2))⟩,
   ⟨none, (some 19), 0, .eff (.call fg [(.t 18)])⟩,
   ⟨none, (some 5), 0, .pur (.mv (.t 19))⟩])
 (.seq (.seq (.regO [⟨none, (some 20), 0, .pur (.mv (.t 1))⟩,
   ⟨none, (some 21), 0, .red (.lens (.t 20))⟩,
   ⟨none, (some 22), 0, .pur (.mv (.v (.int .i64 0)))⟩])
 (.block 0
  (.loop
   (.seq (.regO [⟨none, (some 23), 0, .pur (.bin .lss 3 (.t 22) (.t 21))⟩])
   (.seq (.cond (.t 23)
    .skip
    (.exit 0))
   (.seq (.block 1
    (.seq (.regO [⟨none, (some 24), 0, .pur (.mv (.t 22))⟩,
      ⟨none, (some 25), 0, .pur (.ixA (.slice 1) (.t 20) (.t 22))⟩,
      ⟨none, (some 26), 0, .red (.ld none (.t 25))⟩,
      ⟨none, (some 6), 0, .pur (.mv (.t 24))⟩,
      ⟨none, (some 7), 0, .pur (.mv (.t 26))⟩])
    (.seq (.regO [⟨none, (some 27), 0, .pur (.mv (.t 5))⟩,
      ⟨none, (some 28), 0, .pur (.mv (.t 6))⟩,
      ⟨none, (some 29), 0, .eff (.call fr [(.t 27), (.t 28)])⟩,
      ⟨none, (some 30), 0, .pur (.mv (.t 7))⟩,
      ⟨none, (some 31), 0, .pur (.bin .neq 2 (.t 29) (.t 30))⟩])
    (.cond (.t 31)
     (.seq (.regO [⟨none, (some 4), 0, .pur (.mv (.v (.bool false)))⟩])
     .ret)
     .skip))))
   (.regO [⟨none, (some 32), 0, .pur (.bin .add 3 (.t 22) (.v (.int .i64 1)))⟩,
     ⟨none, (some 22), 0, .pur (.mv (.t 32))⟩])))))))
 (.seq (.regO [⟨none, (some 4), 0, .pur (.mv (.v (.bool true)))⟩])
 .ret))))) }
def cfCount (fri fg te : Nat) : CF := { res := [.tmp 2], body :=
 (.seq (.regO [⟨none, (some 1), 0, .alc (.box (.t 0))⟩,
   ⟨none, (some 2), 0, .pur (.mv (.v (.int .i64 0)))⟩])
 (.seq (.seq (.regO [⟨none, (some 6), 0, .red (.ld (some 2) (.t 1))⟩,
   ⟨none, (some 7), 0, .eff (.call fri [(.t 6)])⟩,
   ⟨none, (some 8), 0, .pur (.bin .neq te (.t 7) (.v (.int .i64 0)))⟩])
 (.cond (.t 8)
  (.seq (.regO [⟨none, (some 2), 0, .pur (.mv (.v (.int .i64 0)))⟩])
  .ret)
  .skip))
 (.seq (.regO [⟨none, (some 3), 0, .pur (.mv (.v (.int .i64 0)))⟩])
 (.seq (.seq (.regO [⟨none, (some 9), 0, .red (.ld (some 2) (.t 1))⟩,
   ⟨none, (some 10), 0, .eff (.call fg [(.t 9)])⟩,
   ⟨none, (some 11), 0, .red (.lens (.t 10))⟩,
   ⟨none, (some 12), 0, .pur (.mv (.v (.int .i64 0)))⟩])
 (.block 0
  (.loop
   (.seq (.regO [⟨none, (some 13), 0, .pur (.bin .lss 3 (.t 12) (.t 11))⟩])
   (.seq (.cond (.t 13)
    .skip
    (.exit 0))
   (.seq (.block 1
    (.seq (.regO [⟨none, (some 14), 0, .pur (.mv (.t 12))⟩,
      ⟨none, (some 15), 0, .pur (.ixA (.slice 1) (.t 10) (.t 12))⟩,
      ⟨none, (some 16), 0, .red (.ld none (.t 15))⟩,
      ⟨none, (some 4), 0, .pur (.mv (.t 14))⟩,
      ⟨none, (some 5), 0, .pur (.mv (.t 16))⟩])
    (.seq (.regO [⟨none, (some 17), 0, .pur (.mv (.t 4))⟩,
      ⟨none, (some 18), 0, .pur (.mv (.t 5))⟩,
      ⟨none, (some 19), 0, .pur (.bin .eql 3 (.t 17) (.t 18))⟩])
    (.cond (.t 19)
     (.regO [⟨none, (some 20), 0, .pur (.mv (.t 3))⟩,
       ⟨none, (some 21), 0, .pur (.bin .add 3 (.t 20) (.v (.int .i64 1)))⟩,
       ⟨none, (some 3), 0, .pur (.mv (.t 21))⟩])
     .skip))))
   (.regO [⟨none, (some 22), 0, .pur (.bin .add 3 (.t 12) (.v (.int .i64 1)))⟩,
     ⟨none, (some 12), 0, .pur (.mv (.t 22))⟩])))))))
 (.seq (.regO [⟨none, (some 23), 0, .pur (.mv (.t 3))⟩,
   ⟨none, (some 2), 0, .pur (.mv (.t 23))⟩])
 .ret))))) }
theorem flat_encI (l : List Int) : flat encI l = ints l := flat_ints l
theorem nats_eq {l : List Int} {L : List Nat} (hl : l.length = L.length) (h : ∀ (k : Nat) (x : Int) (y : Nat), l[k]? = some x → L[k]? = some y → x = (y : Int)) : l = nats L := by
  refine List.ext_getElem? fun k => ?_
  cases hx : l[k]? with
  | none =>
    rw [List.getElem?_eq_none_iff] at hx
    rw [List.getElem?_eq_none (by rw [nats_len]; omega)]
  | some x =>
    have hk := lt_of_get hx
    have hy : L[k]? = some (L[k]'(by omega)) := List.getElem?_eq_getElem _
    rw [nats_get hy, h k x _ hx hy]
def ChkJ (N b bl : Nat) (cap : Nat) (sp : Option Nat) (l : List Int) (L : List Nat) (nx : Nat) (h : Hp) (m : Nat) (tm : Tm) (h' : Hp) (nx' : Nat) : Prop :=
  ∃ (i : Nat) (F : List Nat), m = N - i ∧ i ≤ N ∧ tget tm 5 = .slice (some ⟨b, 0, none⟩) N N ∧ tget tm 20 = .slice (some ⟨bl, 0, sp⟩) N cap ∧ tget tm 21 = .int .i64 (N : Int) ∧ tget tm 22 = .int .i64 (i : Int) ∧ Forest N F ∧ (∀ v r, Root F v r ↔ L[v]? = some r) ∧
    hget h' b = some (.cells (ints (nats F)) false) ∧ (∀ k, k < i → ∀ (x : Int) (y : Nat), l[k]? = some x → L[k]? = some y → x = (y : Int)) ∧ nx ≤ b ∧ b < nx' ∧ Keep nx h h'
section
variable {P : Program} {orc : Orc} {s : Bool}
theorem check_cv {f fri f1 f2 f3 fc fi te fg fr : Nat} (A : CompsAt P orc fri f1 f2 f3 fc fi te fg fr) (hcf : compAt P f = some (cfCheck fri fg fr te)) (ho : orc f = none) {N : Nat} {v vl : Value} {gs : List GE} {l : List Int} {h : Hp} {nx : Nat} (hv : SlRd h nx v encG gs) (hvl : SlRd h nx vl encI l) (hN0 : 0 < N) (hN : N < 24) (hl : gs.length ≤ 60) (hok : ∀ g ∈ gs, GOk N g)
    {L : List Nat} (hL : IsLab N gs L) :
    Cv P orc s f [.agg ⟨[.int .i64 (N : Int), v]⟩, vl] h nx (StillK (.bool (decide (l = nats L))) nx h) := by
  refine Cv.enter ho hcf ?_
  unfold cfCheck
  obtain ⟨a, cap, rfl, _⟩ := id hv
  obtain ⟨al, capl, rfl, _⟩ := id hvl
  refine Ev.seq (Ev.regO ?_)
  rw [Ov_alc, alc_box (l := [.int .i64 (N : Int), .slice a gs.length cap]) (by simp) (by simp)]
  simp only [Ov_pur, Ov_nil, c_mv, cev_v, putT_some, RK_ok, nextK_normal, nbV_ptr, nbO_ptr, Nat.zero_add, Nat.reduceAdd, setArgs_nil, setArgs_cons]
  refine Ev.genH (fun tm2 h2 => tget tm2 1 = .slice al l.length capl ∧ tget tm2 2 = .pointer (some ⟨nx, 0, none⟩) ∧ hget h2 nx = some (.cells [.int .i64 (N : Int), .slice a gs.length cap] false) ∧ Keep nx h h2) ⟨by simp, by simp, by simp, fun c hc => by rw [hgs, if_neg (by omega)]⟩ ?_
  rintro tm2 h2 ⟨t1, t2, g1, hk⟩
  refine Ev.seq (Ev.seq (Ev.regO ?_))
  simp only [Ov_red, c_ld, cev_t, putT_some, addrR_ptr, RK_ok, ↓reduceIte, List.length_cons, List.length_nil, List.take_zero, List.take_succ_cons, List.drop_zero, Nat.zero_add, Nat.reduceAdd, t2, cellsOf_some g1, loadC_many, Nat.sub_zero, Nat.le_refl]
  refine Ov_call ?_
  simp only [cevs_nil, cevs_cons, cev_t, cev_v, tgs, ↓reduceIte, Nat.reduceEqDiff]
  refine (A.right (hv.keep hk (show nx ≤ nx + 1 by omega)) hN hl hok).mono ?_
  rintro r h3 nx3 ⟨rfl, hk3, hnx3⟩
  have g1' := (hk3 nx (by omega)).trans g1
  have f3 : ((0 : Int) == 0) = true := rfl
  by_cases hlen : l.length ≠ N
  · have f4 : ((l.length : Int) == (N : Int)) = false := by simp; omega
    repeat (first | simp only [Dv_g, Ov_g, putT_some, putT_none, tgs, ↓reduceIte, Nat.reduceEqDiff, boolIs_t, boolIs_f, boolIs_u, Bool.not_true, Bool.not_false, Bool.false_eq_true, isEffC_pur, isEffC_alc, isEffC_red, isEffC_eff] | simp only [Ov_pur, Ov_red, Ov_nil, c_mv, c_bin, c_pick, cPick_bool, c_fldA, c_ld, c_lens, lenS_slice, cev_t, cev_v, putT_some, addrR_ptr, moveA_eq, tgs, RK_ok, ofGet_some, loadC_one, bin_neq, nextK_normal, ↓reduceIte, Nat.reduceEqDiff, List.getElem?_cons_zero, Nat.add_zero, Bool.false_eq_true, Bool.not_true, Bool.not_false, t1, t2, cellsOf_some g1', f3, f4])
    refine Ev.cond true (by simp) (fun _ => ?_) (by simp)
    refine Ev.seq (Ev.regO ?_)
    simp only [Ov_pur, Ov_nil, c_mv, cev_v, putT_some, RK_ok, nextK_normal]
    refine Ev.ret ?_
    simp only [tgs, RK_ok, bind_ok, nextK_ret, ↓reduceIte, retK_ret, resVs_tmp, resVs_nil, retV_one]
    refine ⟨?_, hk.trans (hk3.mono (by omega)) (Nat.le_refl _), by omega⟩
    rw [decide_eq_false]
    intro e
    rw [e, nats_len, hL.len] at hlen
    exact hlen rfl
  · have hlen : l.length = N := by omega
    have f4 : ((N : Int) == (N : Int)) = true := by simp
    rw [hlen] at t1
    repeat (first | simp only [Dv_g, Ov_g, putT_some, putT_none, tgs, ↓reduceIte, Nat.reduceEqDiff, boolIs_t, boolIs_f, boolIs_u, Bool.not_true, Bool.not_false, Bool.false_eq_true, isEffC_pur, isEffC_alc, isEffC_red, isEffC_eff] | simp only [Ov_pur, Ov_red, Ov_nil, c_mv, c_bin, c_pick, cPick_bool, c_fldA, c_ld, c_lens, lenS_slice, cev_t, cev_v, putT_some, addrR_ptr, moveA_eq, tgs, RK_ok, ofGet_some, loadC_one, bin_neq, nextK_normal, ↓reduceIte, Nat.reduceEqDiff, List.getElem?_cons_zero, Nat.add_zero, Bool.false_eq_true, Bool.not_true, t1, t2, cellsOf_some g1', f3, f4])
    refine Ev.cond false (by simp) (by simp) (fun _ => Ev.skip ?_)
    (try simp only [nextK_normal])
    refine Ev.seq (Ev.regO ?_)
    simp only [Ov_red, c_ld, cev_t, putT_some, addrR_ptr, tgs, RK_ok, ↓reduceIte, Nat.reduceEqDiff, List.length_cons, List.length_nil, List.take_zero, List.take_succ_cons, List.drop_zero, Nat.zero_add, Nat.reduceAdd, t2, cellsOf_some g1', loadC_many, Nat.sub_zero, Nat.le_refl]
    refine Ov_call ?_
    simp only [Ov_pur, Ov_nil, c_mv, cev_t, cevs_nil, cevs_cons, putT_some, tgs, RK_ok, nextK_normal, ↓reduceIte]
    refine (grown_cv A.cg A.ng A.cr A.nr ((hv.keep hk (show nx ≤ nx + 1 by omega)).keep hk3 hnx3) hN hl hok).mono ?_
    rintro r h4 nx4 ⟨b, F, rfl, gF, hF, hb1, hb2, hk4⟩
    obtain ⟨L', hL', hrt⟩ := hF.lab (fun e he => ⟨(hok e he).1, (hok e he).2.1⟩)
    have := hL.unique hL'
    subst this
    obtain ⟨_, bl, spl, rol, capl', hbln, hveq, hbl⟩ := hvl.at (i := 0) (List.getElem?_eq_getElem (by omega))
    injection hveq with e1 e2 e3
    subst e1
    rw [flat_ints] at hbl
    (try simp only [Ov_pur, Ov_red, Ov_alc, Ov_st, Ov_g, Ov_nil, Dv_pur, Dv_red, Dv_alc, Dv_st, Dv_g, Dv_nil, c_mv, c_bin, c_un, c_conv, c_pick, cPick_bool, c_fld, cFld_agg, c_fldA, c_nilc, nilChk_ptr, c_ext, oExtract_tuple, c_ixA, natR_nat, natR_ofNat, natR_lit, natR_zero, natR_one, oIx_slice, oIx_array, c_ld, c_lens, lenS_slice, cev_t, cev_v, cevs_nil, cevs_cons, putT_some, putT_none, addrR_ptr, moveA_eq, tgs, RK_ok, of_some, bind_ok, ofGet_some, loadC_one, bin_add, bin_sub, bin_lss, bin_leq, bin_gtr, bin_geq, bin_eql, bin_neq, un_not, conv_int, nextK_normal, nextK_exit, nextK_ret, blkK_normal, blkK_ret, blkK_exit, boolIs_t, boolIs_f, boolIs_u, ↓reduceIte, Nat.reduceEqDiff, cpur_build, alc_new, alc_bsl, sliceNB_eq, cfill_nil, cfill_cons, vc_int, vc_slice, vc_agg, vc_bool, vc_ptr, cellV_int, cellV_bool, cellV_slice, cellV_ptr, cellL_nil, cellL_cons, nbV_ptr, nbO_ptr, nbV_slice, nbO_slice, List.getElem?_cons_zero, List.getElem?_cons_succ, List.length_cons, List.length_nil, List.take_zero, List.take_succ_cons, List.drop_zero, List.drop_succ_cons, List.drop_nil, List.nil_append, List.cons_append, List.append_nil, Nat.zero_add, Nat.add_zero, Nat.mul_one, Nat.reduceAdd, Nat.reduceLeDiff, Bool.and_self, Bool.and_true, Bool.true_and, true_and, and_true, cagree_0, cagree_1, cagree_2, sameR_ok, sameV_int, sameV_bool, sameV_slice, Bool.false_eq_true, setArgs_nil, setArgs_cons, Bool.not_true, Bool.not_false, isEffC_pur, isEffC_alc, isEffC_red, isEffC_eff, retK_ret, retK_normal, resVs_tmp, resVs_nil, retV_one, retV_two])
    refine Ev.cut (ChkJ N b bl capl spl l L (nx + 1) h2 0) ?_ ?_
    · refine Ev.seq (Ev.regO ?_)
      simp only [Ov_pur, Ov_red, Ov_nil, c_mv, c_lens, lenS_slice, cev_t, cev_v, putT_some, tgs, RK_ok, nextK_normal, ↓reduceIte, Nat.reduceEqDiff, t1]
      refine Ev.forR (ChkJ N b bl capl spl l L (nx + 1) h2) ?_ N _ _ _ ⟨0, F, rfl, by omega, by simp, by simp, by simp, by simp, hF.forest, hrt, gF, fun k hk => by omega, by omega, hb2, hk3.trans (hk4.mono hnx3) (Nat.le_refl _)⟩
      rintro m tm h' nx' ⟨i, F, rfl, hi, t5, t20, t21, t22, hF, hrt, gF, hal, hb1, hb2, hk'⟩
      simp only [Ov_pur, Ov_nil, c_mv, c_bin, cev_t, cev_v, putT_some, tgs, RK_ok, bin_lss, nextK_normal, ↓reduceIte, t21, t22]
      refine ⟨decide ((i : Int) < N), rfl, fun e => ?_, fun e => ?_⟩
      · have : ¬ ((i : Int) < N) := of_decide_eq_false e
        exact ⟨i, F, by omega, hi, by simpa using t5, by simpa using t20, by simpa using t21, by simpa using t22, hF, hrt, gF, hal, hb1, hb2, hk'⟩
      · have hiN : i < N := by
          have : (i : Int) < N := of_decide_eq_true e
          omega
        have hx : l[i]? = some (l[i]'(by omega)) := List.getElem?_eq_getElem _
        generalize l[i]'(by omega) = x at hx
        have gl := ((hk' bl (by omega)).trans (hk bl hbln)).trans hbl
        obtain ⟨q, hq⟩ := hF.root i hiN
        have hqL := (hrt _ _).1 hq
        refine Ev.seq (Ev.regO ?_)
        simp only [Ov_pur, Ov_red, Ov_nil, c_mv, c_ixA, natR_nat, oIx_slice, c_ld, cev_t, putT_some, addrR_ptr, tgs, RK_ok, ofGet_some, loadC_one, nextK_normal, ↓reduceIte, Nat.reduceEqDiff, Nat.zero_add, Nat.mul_one, t20, t22, hiN, cellsOf_some gl, ints_get hx]
        refine Ev.seq (Ev.regO ?_)
        simp only [Ov_pur, c_mv, cev_t, putT_some, tgs, RK_ok, ↓reduceIte, Nat.reduceEqDiff, t5]
        refine Ov_call ?_
        simp only [cevs_nil, cevs_cons, cev_t, cev_v, tgs, ↓reduceIte, Nat.reduceEqDiff]
        refine (root_cv A.cr A.nr (by omega) i hiN F h' nx' hF gF).mono ?_
        rintro r h5 nx5 ⟨qa, F1, rfl, ra, hF1, hs1, gF1, hfr1, rfl⟩
        have := ra.det hq
        subst this
        have hrt1 : ∀ v r, Root F1 v r ↔ L[v]? = some r := fun v r => ⟨fun h => (hrt _ _).1 (h.back hF hF1 hs1), fun h => hs1 _ _ ((hrt _ _).2 h)⟩
        simp only [Ov_pur, Ov_nil, c_mv, c_bin, cev_t, putT_some, tgs, RK_ok, bin_neq, nextK_normal, ↓reduceIte, Nat.reduceEqDiff]
        by_cases hxq : (qa : Int) = x
        · refine Ev.cond false (by simp [hxq]) (by simp) (fun _ => Ev.skip ?_)
          (try simp only [tgs, RK_ok, bin_add, nextK_normal, blkK_normal, ↓reduceIte, Nat.reduceEqDiff, t22])
          refine ⟨N - (i + 1), by omega, i + 1, F1, rfl, by omega, by simpa using t5, by simpa using t20, by simpa using t21, ?_, hF1, hrt1, gF1, fun k hk2 y z hy hz => ?_, hb1, hb2, fun c hc => by rw [hfr1 c (by omega)]; exact hk' c hc⟩
          · rw [wrapS (by omega) (by omega)]; simp
          · by_cases hki : k < i
            · exact hal k hki y z hy hz
            · have : k = i := by omega
              subst this
              rw [hx] at hy; rw [hqL] at hz
              cases hy; cases hz
              exact hxq.symm
        · refine Ev.cond true (by simp [hxq]) (fun _ => ?_) (by simp)
          refine Ev.seq (Ev.regO ?_)
          simp only [Ov_pur, Ov_nil, c_mv, cev_v, putT_some, RK_ok, nextK_normal]
          refine Ev.ret ?_
          simp only [tgs, RK_ok, bind_ok, nextK_ret, blkK_ret, ↓reduceIte, retK_ret, resVs_tmp, resVs_nil, retV_one]
          refine ⟨?_, fun c hc => ?_, by omega⟩
          · rw [decide_eq_false]
            intro e
            rw [e, nats_get hqL] at hx
            cases hx
            exact hxq rfl
          · rw [hfr1 c (by omega), hk' c (by omega)]; exact hk c hc
    · rintro tm h' nx' ⟨i, F, hi0, hi, t5, t20, t21, t22, hF, hrt, gF, hal, hb1, hb2, hk'⟩
      have : i = N := by omega
      subst this
      refine Ev.seq (Ev.regO ?_)
      simp only [Ov_pur, Ov_nil, c_mv, cev_v, putT_some, RK_ok, nextK_normal]
      refine Ev.ret ?_
      simp only [tgs, RK_ok, bind_ok, ↓reduceIte, retK_ret, resVs_tmp, resVs_nil, retV_one]
      refine ⟨?_, fun c hc => (hk' c (by omega)).trans (hk c hc), by omega⟩
      rw [decide_eq_true (nats_eq (by rw [hlen, hL.len]) fun k x y hx hy => hal k (by have := lt_of_get hx; omega) x y hx hy)]
/-! ## Count -/
def selfs (L : List Nat) (i : Nat) : Nat := ((List.range i).filter (fun k => decide (L[k]? = some k))).length
theorem selfs_succ (L : List Nat) (i : Nat) : selfs L (i + 1) = selfs L i + if L[i]? = some i then 1 else 0 := by
  unfold selfs
  rw [List.range_succ, List.filter_append, List.length_append]
  by_cases h : L[i]? = some i <;> simp [h]
theorem selfs_le (L : List Nat) (i : Nat) : selfs L i ≤ i := by
  have := List.length_filter_le (fun k => decide (L[k]? = some k)) (List.range i)
  rw [List.length_range] at this
  exact this
def CntJ (N b : Nat) (F L : List Nat) (nx : Nat) (h : Hp) (m : Nat) (tm : Tm) (h' : Hp) (nx' : Nat) : Prop :=
  ∃ i : Nat, m = N - i ∧ i ≤ N ∧ tget tm 3 = .int .i64 (selfs L i : Int) ∧ tget tm 10 = .slice (some ⟨b, 0, none⟩) N N ∧ tget tm 11 = .int .i64 (N : Int) ∧ tget tm 12 = .int .i64 (i : Int) ∧ hget h' b = some (.cells (ints (nats F)) false) ∧ Keep nx h h' ∧ nx ≤ nx'
theorem count_cv {f fri f1 f2 f3 fc fi te fg fr : Nat} (A : CompsAt P orc fri f1 f2 f3 fc fi te fg fr) (hcf : compAt P f = some (cfCount fri fg te)) (ho : orc f = none) {N : Nat} {v : Value} {gs : List GE} {h : Hp} {nx : Nat} (hv : SlRd h nx v encG gs) (hN : N < 24) (hl : gs.length ≤ 60) (hok : ∀ g ∈ gs, GOk N g)
    {L : List Nat} (hL : IsLab N gs L) :
    Cv P orc s f [.agg ⟨[.int .i64 (N : Int), v]⟩] h nx (StillK (.int .i64 (selfs L N : Int)) nx h) := by
  refine Cv.enter ho hcf ?_
  unfold cfCount
  obtain ⟨a, cap, rfl, _⟩ := id hv
  refine Ev.seq (Ev.regO ?_)
  rw [Ov_alc, alc_box (l := [.int .i64 (N : Int), .slice a gs.length cap]) (by simp) (by simp)]
  simp only [Ov_pur, Ov_nil, c_mv, cev_v, putT_some, RK_ok, nextK_normal, nbV_ptr, nbO_ptr, Nat.zero_add, setArgs_nil, setArgs_cons]
  refine Ev.genH (fun tm2 h2 => tget tm2 1 = .pointer (some ⟨nx, 0, none⟩) ∧ hget h2 nx = some (.cells [.int .i64 (N : Int), .slice a gs.length cap] false) ∧ Keep nx h h2) ⟨by simp, by simp, fun c hc => by rw [hgs, if_neg (by omega)]⟩ ?_
  rintro tm2 h2 ⟨t1, g1, hk⟩
  refine Ev.seq (Ev.seq (Ev.regO ?_))
  simp only [Ov_red, c_ld, cev_t, putT_some, addrR_ptr, RK_ok, ↓reduceIte, List.length_cons, List.length_nil, List.take_zero, List.take_succ_cons, List.drop_zero, Nat.zero_add, Nat.reduceAdd, t1, cellsOf_some g1, loadC_many, Nat.sub_zero, Nat.le_refl]
  refine Ov_call ?_
  simp only [Ov_pur, Ov_nil, c_bin, cev_t, cev_v, cevs_nil, cevs_cons, putT_some, tgs, nextK_normal, ↓reduceIte]
  refine (A.right (hv.keep hk (show nx ≤ nx + 1 by omega)) hN hl hok).mono ?_
  rintro r h3 nx3 ⟨rfl, hk3, hnx3⟩
  have g1' := (hk3 nx (by omega)).trans g1
  (try simp only [RK_ok, bin_neq])
  refine Ev.cond false (by simp) (by simp) (fun _ => Ev.skip ?_)
  (try simp only [nextK_normal])
  refine Ev.seq (Ev.regO ?_)
  simp only [Ov_pur, Ov_nil, c_mv, cev_v, putT_some, RK_ok, nextK_normal]
  refine Ev.cut (fun tm h' nx' => ∃ b F, CntJ N b F L (nx + 1) h2 0 tm h' nx') ?_ ?_
  · refine Ev.seq (Ev.regO ?_)
    simp only [Ov_red, c_ld, cev_t, putT_some, addrR_ptr, tgs, RK_ok, ↓reduceIte, Nat.reduceEqDiff, List.length_cons, List.length_nil, List.take_zero, List.take_succ_cons, List.drop_zero, Nat.zero_add, Nat.reduceAdd, t1, cellsOf_some g1', loadC_many, Nat.sub_zero, Nat.le_refl]
    refine Ov_call ?_
    simp only [Ov_pur, Ov_red, Ov_nil, c_mv, c_lens, cev_t, cev_v, cevs_nil, cevs_cons, putT_some, tgs, RK_ok, nextK_normal, ↓reduceIte]
    refine (grown_cv A.cg A.ng A.cr A.nr ((hv.keep hk (show nx ≤ nx + 1 by omega)).keep hk3 hnx3) hN hl hok).mono ?_
    rintro r h4 nx4 ⟨b, F, rfl, gF, hF, hb1, hb2, hk4⟩
    obtain ⟨L', hL', hrt⟩ := hF.lab (fun e he => ⟨(hok e he).1, (hok e he).2.1⟩)
    have := hL.unique hL'
    subst this
    have hself : ∀ k, k < N → (F[k]? = some k ↔ L[k]? = some k) := fun k hk => ⟨fun h => (hrt _ _).1 (.here h), fun h => ((hrt _ _).2 h).is⟩
    simp only [lenS_slice, RK_ok]
    refine (Ev.forR (CntJ N b F L (nx + 1) h2) (K := nextK (CntJ N b F L (nx + 1) h2 0) (retK P [.tmp 2] (StillK (.int .i64 (selfs L N : Int)) nx h))) ?_ N _ _ _ ⟨0, rfl, by omega, by simp [selfs], by simp, by simp, by simp, gF, hk3.trans (hk4.mono hnx3) (Nat.le_refl _), by omega⟩).mono (fun x tm h nx hx => by
      cases x with
      | normal => exact ⟨b, F, hx⟩
      | ret => exact hx
      | exit i => exact hx)
    rintro m tm h' nx' ⟨i, rfl, hi, t3, t10, t11, t12, gF, hk', hnx'⟩
    simp only [Ov_pur, Ov_nil, c_mv, c_bin, cev_t, cev_v, putT_some, tgs, RK_ok, bin_lss, nextK_normal, ↓reduceIte, t11, t12]
    refine ⟨decide ((i : Int) < N), rfl, fun e => ?_, fun e => ?_⟩
    · have : ¬ ((i : Int) < N) := of_decide_eq_false e
      exact ⟨i, by omega, hi, by simpa using t3, by simpa using t10, by simpa using t11, by simpa using t12, gF, hk', hnx'⟩
    · have hiN : i < N := by
        have : (i : Int) < N := of_decide_eq_true e
        omega
      have hx : F[i]? = some (F[i]'(by rw [hF.forest.1]; exact hiN)) := List.getElem?_eq_getElem _
      generalize F[i]'(by rw [hF.forest.1]; exact hiN) = x at hx
      have hsle := selfs_le L i
      have hss := selfs_succ L i
      refine Ev.seq (Ev.regO ?_)
      simp only [Ov_pur, Ov_red, Ov_nil, c_mv, c_ixA, natR_nat, oIx_slice, c_ld, cev_t, putT_some, addrR_ptr, tgs, RK_ok, ofGet_some, loadC_one, nextK_normal, ↓reduceIte, Nat.reduceEqDiff, Nat.zero_add, Nat.mul_one, t10, t12, hiN, cellsOf_some gF, ints_get (nats_get hx)]
      refine Ev.seq (Ev.regO ?_)
      simp only [Ov_pur, Ov_nil, c_mv, c_bin, cev_t, putT_some, tgs, RK_ok, bin_eql, nextK_normal, ↓reduceIte, Nat.reduceEqDiff]
      by_cases hxi : x = i
      · have hLi : L[i]? = some i := (hself i hiN).1 (by rw [hx, hxi])
        rw [if_pos hLi] at hss
        refine Ev.cond true (by simp [hxi]) (fun _ => ?_) (by simp)
        refine Ev.regO ?_
        simp only [Ov_pur, Ov_nil, c_mv, c_bin, cev_t, cev_v, putT_some, tgs, RK_ok, bin_add, nextK_normal, blkK_normal, ↓reduceIte, Nat.reduceEqDiff, t3, t12]
        refine ⟨N - (i + 1), by omega, i + 1, rfl, by omega, ?_, by simpa using t10, by simpa using t11, ?_, gF, hk', hnx'⟩
        · rw [wrapS (n := (selfs L i : Int) + 1) (by omega) (by omega), hss]; simp
        · rw [wrapS (n := (i : Int) + 1) (by omega) (by omega)]; simp
      · have hLi : ¬ (L[i]? = some i) := fun h => by
          have := (hself i hiN).2 h
          rw [hx] at this
          cases this
          exact hxi rfl
        rw [if_neg hLi] at hss
        refine Ev.cond false (by simp; omega) (by simp) (fun _ => Ev.skip ?_)
        (try simp only [tgs, RK_ok, bin_add, nextK_normal, blkK_normal, ↓reduceIte, Nat.reduceEqDiff, t3, t12])
        refine ⟨N - (i + 1), by omega, i + 1, rfl, by omega, ?_, by simpa using t10, by simpa using t11, ?_, gF, hk', hnx'⟩
        · rw [hss]; simpa using t3
        · rw [wrapS (n := (i : Int) + 1) (by omega) (by omega)]; simp
  · rintro tm h' nx' ⟨b, F, i, hi0, hi, t3, t10, t11, t12, gF, hk', hnx'⟩
    have : i = N := by omega
    subst this
    refine Ev.seq (Ev.regO ?_)
    simp only [Ov_pur, Ov_nil, c_mv, cev_t, putT_some, tgs, RK_ok, nextK_normal, ↓reduceIte, t3]
    refine Ev.ret ?_
    simp only [tgs, RK_ok, bind_ok, ↓reduceIte, retK_ret, resVs_tmp, resVs_nil, retV_one]
    exact ⟨rfl, fun c hc => (hk' c (by omega)).trans (hk c hc), by omega⟩
end
end Go.Ax

/-! part AxH14 -/
namespace Go.Ax
open Go
set_option linter.unusedSimpArgs false
set_option linter.unusedVariables false

/-! # comps.Groups -/
def cfGroups (kt : Nat) : CF := { res := [.tmp 2], body :=
 (.seq (.regO [⟨none, (some 2), 0, .pur (.mv (.v (.slice none 0 0)))⟩])
 (.seq (.regO [⟨none, (some 3), 0, .pur (.mv (.v (.slice none 0 0)))⟩])
 (.seq (.regO [⟨none, (some 9), 0, .alc (.mkm)⟩,
   ⟨none, (some 4), 0, .pur (.mv (.t 9))⟩])
 (.seq (.seq (.regO [⟨none, (some 10), 0, .pur (.mv (.t 0))⟩,
   ⟨none, (some 11), 0, .red (.lens (.t 10))⟩,
   ⟨none, (some 12), 0, .pur (.mv (.v (.int .i64 0)))⟩])
 (.block 0
  (.loop
   (.seq (.regO [⟨none, (some 13), 0, .pur (.bin .lss 3 (.t 12) (.t 11))⟩])
   (.seq (.cond (.t 13)
    .skip
    (.exit 0))
   (.seq (.block 1
    (.seq (.regO [⟨none, (some 14), 0, .pur (.mv (.t 12))⟩,
      ⟨none, (some 15), 0, .pur (.ixA (.slice 1) (.t 10) (.t 12))⟩,
      ⟨none, (some 16), 0, .red (.ld none (.t 15))⟩,
      ⟨none, (some 5), 0, .pur (.mv (.t 14))⟩,
      ⟨none, (some 6), 0, .pur (.mv (.t 16))⟩])
    (.seq (.regO [⟨none, (some 18), 0, .pur (.mv (.t 4))⟩,
      ⟨none, (some 19), 0, .pur (.mv (.t 6))⟩,
      ⟨none, (some 20), 0, .red (.lkp kt (.int .i64 0) (.t 18) (.t 19) true)⟩,
      ⟨none, (some 17), 0, .pur (.mv (.t 20))⟩,
      ⟨none, (some 21), 0, .pur (.ext (.t 17) 0)⟩,
      ⟨none, (some 22), 0, .pur (.ext (.t 17) 1)⟩,
      ⟨none, (some 7), 0, .pur (.mv (.t 21))⟩,
      ⟨none, (some 8), 0, .pur (.mv (.t 22))⟩])
    (.seq (.seq (.regO [⟨none, (some 23), 0, .pur (.mv (.t 8))⟩,
      ⟨none, (some 24), 0, .pur (.un .not (.t 23))⟩])
    (.cond (.t 24)
     (.seq (.regO [⟨none, (some 25), 0, .pur (.mv (.t 3))⟩,
       ⟨none, (some 26), 0, .red (.lens (.t 25))⟩,
       ⟨none, (some 7), 0, .pur (.mv (.t 26))⟩])
     (.seq (.regO [⟨none, (some 27), 0, .pur (.mv (.t 4))⟩,
       ⟨none, (some 28), 0, .pur (.mv (.t 6))⟩,
       ⟨none, (some 29), 0, .pur (.mv (.t 7))⟩,
       ⟨none, none, 0, .eff (.mup kt (.t 27) (.t 28) (.t 29))⟩])
     (.regO [⟨none, (some 30), 0, .pur (.mv (.t 3))⟩,
       ⟨none, (some 31), 0, .alc (.bsl 1 [(.slice none 0 0)] [(0, 1, (.v (.slice none 0 0)))])⟩,
       ⟨none, (some 32), 0, .eff (.app 1 (.t 30) (.t 31))⟩,
       ⟨none, (some 3), 0, .pur (.mv (.t 32))⟩])))
     .skip))
    (.regO [⟨none, (some 33), 0, .pur (.mv (.t 3))⟩,
      ⟨none, (some 34), 0, .pur (.mv (.t 7))⟩,
      ⟨none, (some 35), 0, .pur (.mv (.t 3))⟩,
      ⟨none, (some 36), 0, .pur (.mv (.t 7))⟩,
      ⟨none, (some 37), 0, .pur (.ixA (.slice 1) (.t 35) (.t 36))⟩,
      ⟨none, (some 38), 0, .red (.ld none (.t 37))⟩,
      ⟨none, (some 39), 0, .pur (.mv (.t 5))⟩,
      ⟨none, (some 40), 0, .alc (.bsl 1 [(.int .i64 0)] [(0, 1, (.t 39))])⟩,
      ⟨none, (some 41), 0, .eff (.app 1 (.t 38) (.t 40))⟩,
      ⟨none, (some 42), 0, .pur (.ixA (.slice 1) (.t 33) (.t 34))⟩,
      ⟨none, none, 0, .eff (.st 1 (.t 42) (.t 41))⟩])))))
   (.regO [⟨none, (some 43), 0, .pur (.bin .add 3 (.t 12) (.v (.int .i64 1)))⟩,
     ⟨none, (some 12), 0, .pur (.mv (.t 43))⟩])))))))
 (.seq (.regO [⟨none, (some 44), 0, .pur (.mv (.t 3))⟩,
   ⟨none, (some 2), 0, .pur (.mv (.t 44))⟩])
 .ret))))) }
def gidx (x : Int) : List Int → Option Nat
  | [] => none
  | k :: ks => if k = x then some 0 else (gidx x ks).map (fun q => q + 1)
theorem gidx_some {x : Int} : ∀ {l : List Int} {q : Nat}, gidx x l = some q → l[q]? = some x
  | [], q, h => by cases h
  | k :: ks, q, h => by
    unfold gidx at h
    split at h
    · rename_i e; cases h; subst e; rfl
    · cases hq : gidx x ks with
      | none => rw [hq] at h; cases h
      | some p =>
        rw [hq] at h
        cases h
        rw [List.getElem?_cons_succ]
        exact gidx_some hq
theorem gidx_none {x : Int} : ∀ {l : List Int}, gidx x l = none → x ∉ l
  | [], _ => by simp
  | k :: ks, h => by
    unfold gidx at h
    split at h
    · cases h
    · rename_i hk
      cases hq : gidx x ks with
      | none => simp only [List.mem_cons, not_or]; exact ⟨fun e => hk e.symm, gidx_none hq⟩
      | some p => rw [hq] at h; cases h
def mkG (i : Nat) : List Int → List MapEntry
  | [] => []
  | k :: ks => { key := .int .i64 k, val := .int .i64 (i : Int), born := i } :: mkG (i + 1) ks
theorem mkG_app (x : Int) : ∀ (i : Nat) (l : List Int), mkG i (l ++ [x]) = mkG i l ++ [{ key := .int .i64 x, val := .int .i64 ((i + l.length : Nat) : Int), born := i + l.length }]
  | i, [] => rfl
  | i, k :: ks => by
    show _ :: mkG (i + 1) (ks ++ [x]) = _ :: (mkG (i + 1) ks ++ _)
    rw [mkG_app x (i + 1) ks, List.length_cons, show i + 1 + ks.length = i + (ks.length + 1) by omega]
abbrev SV := Option Nat × Nat
def svV (s : SV) : Value := match s.1 with
  | none => .slice none 0 0
  | some b => .slice (some ⟨b, 0, some 1⟩) s.2 s.2
def encS (s : SV) : List Value := [svV s]
theorem encS_cell (s : SV) : cellL (encS s) = true := by
  obtain ⟨b, n⟩ := s
  cases b <;> rfl
def svs (l : List SV) : List Value := l.map svV
theorem flat_svs : ∀ l : List SV, flat encS l = svs l
  | [] => rfl
  | x :: l => by show encS x ++ flat encS l = _; rw [flat_svs l]; rfl
theorem svs_get {l : List SV} {i : Nat} {x : SV} (h : l[i]? = some x) : (svs l)[i]? = some (svV x) := by simp [svs, h]
theorem svs_len (l : List SV) : (svs l).length = l.length := by simp [svs]
theorem svs_set (l : List SV) (i : Nat) (x : SV) : (svs l).set i (svV x) = svs (l.set i x) := by simp [svs, List.map_set]
theorem svV_cell (s : SV) : cellV (svV s) = true ∧ vcells (svV s) = [svV s] := by
  obtain ⟨b, n⟩ := s
  cases b <;> exact ⟨rfl, rfl⟩
/-- a list of lists, each in a block of its own -/
structure Lol (h : Hp) (out : Value) (lo hi : Nat) (sv : List SV) (gss : List (List Nat)) : Prop where
  at_ : SlAt h out encS 1 sv lo hi
  len : sv.length = gss.length
  each : ∀ (j : Nat) (s : SV) (g : List Nat), sv[j]? = some s → gss[j]? = some g → (g = [] ∧ s = (none, 0)) ∨ ∃ b, lo ≤ b ∧ b < hi ∧ s = (some b, g.length) ∧ hget h b = some (.cells (ints (nats g)) false)
  apart : ∀ (j k b nj nk : Nat), sv[j]? = some (some b, nj) → sv[k]? = some (some b, nk) → j = k
  other : ∀ (b : Nat) (sp : Option Nat) (n c : Nat), out = .slice (some ⟨b, 0, sp⟩) n c → ∀ (j nj : Nat), sv[j]? ≠ some (some b, nj)
section
variable {P : Program} {α : Type}
/-- one more, and what else is as it was -/
theorem app_cvF {enc : α → List Value} {k : Nat} (hk : ∀ x, (enc x).length = k) (hcell : ∀ x, cellL (enc x) = true) (hk0 : 0 < k) {h : Hp} {nx lo : Nat} {v : Value} {l : List α} (hv : SlAt h v enc k l lo nx) (hlo : lo ≤ nx)
    {b2 o2 cap2 : Nat} {sp2 : Option Nat} {cs : List Value} {ro : Bool} {x : α} (h2 : hget h b2 = some (.cells cs ro)) (hx : (cs.drop o2).take k = enc x) (hsz : (l.length + 1) * k ≤ 1000000) :
    ∃ h', appendA k h nx v (.slice (some ⟨b2, o2, sp2⟩) 1 cap2) = .ok (.val (.slice (some ⟨nx, 0, some k⟩) (l.length + 1) (l.length + 1)) h' (nx + 1)) ∧ hget h' nx = some (.cells (flat enc (l ++ [x])) false) ∧
      (∀ c, c ≠ nx → (∀ b sp n cp, v = .slice (some ⟨b, 0, sp⟩) n cp → c ≠ b) → hget h' c = hget h c) := by
  have hlen : k ≤ cs.length - o2 := by
    have := congrArg List.length hx
    rw [List.length_take, List.length_drop, hk] at this
    omega
  have h1 : l.length + 1 ≤ 1000000 := Nat.le_trans (by have := Nat.le_mul_of_pos_right (l.length + 1) hk0; omega) hsz
  rcases hv with ⟨rfl, rfl⟩ | ⟨b, hb1, hb2, rfl, hb⟩
  · refine ⟨hset h nx (.cells (enc x) false), ?_, by simp [flat], fun c hc _ => by rw [hgs, if_neg hc]⟩
    unfold appendA
    simp only
    rw [Nat.mul_eq, Nat.one_mul, readA_eq h2 hk0 hlen, hx]
    unfold appGo
    have e1 : Nat.ble (Nat.add 0 1) 0 = false := rfl
    have e2 : (Nat.ble (Nat.mul (Nat.add 0 1) k) 1000000 && Nat.ble (Nat.add 0 1) 1000000) = true := by
      simp only [Bool.and_eq_true, Nat.ble_eq]
      simp at hsz
      exact ⟨by show (0 + 1) * k ≤ 1000000; omega, by show 0 + 1 ≤ 1000000; omega⟩
    rw [e1, e2]
    exact growN_eq hk0
  · refine ⟨hset (hdel h b) nx (.cells (flat enc l ++ enc x) false), ?_, by simp [flat_app], fun c hc hne => by
      rw [hgs, if_neg hc, hgd, if_neg (hne b (some k) l.length l.length rfl)]⟩
    unfold appendA
    simp only
    rw [Nat.mul_eq, Nat.one_mul, readA_eq h2 hk0 hlen, hx]
    unfold appGo
    have e1 : Nat.ble (Nat.add l.length 1) l.length = false := by
      cases hbl : Nat.ble (Nat.add l.length 1) l.length with
      | false => rfl
      | true => have := Nat.le_of_ble_eq_true hbl; have : l.length + 1 ≤ l.length := this; omega
    have e2 : (Nat.ble (Nat.mul (Nat.add l.length 1) k) 1000000 && Nat.ble (Nat.add l.length 1) 1000000) = true := by
      simp only [Bool.and_eq_true, Nat.ble_eq]
      exact ⟨hsz, h1⟩
    rw [e1, e2]
    show appUp h nx k (some ⟨b, 0, some k⟩) l.length l.length (l.length + 1) (enc x) = _
    unfold appUp
    simp only [cellsOf_some hb]
    have hcut : lcut (Nat.mul l.length k) (ldrop (flat enc l) 0) = some (flat enc l) := by
      rw [ldrop_eq, List.drop_zero, lcut_eq, if_pos (by rw [flat_len hk]; exact Nat.le_refl _)]
      rw [List.take_of_length_le (by rw [flat_len hk]; exact Nat.le_refl _)]
    rw [hcut]
    have e3 : (!false && Nat.beq 0 0 && Nat.beq (llen (flat enc l)) (Nat.mul l.length k) && Nat.beq k k && Nat.beq l.length l.length && cellL (enc x)) = true := by
      rw [llen_eq, flat_len hk, hcell]
      simp
    show (bif _ then _ else _) = _
    rw [e3, lapp_eq]
    exact growN_eq hk0
/-- a new list at the end -/
theorem Lol.push {h : Hp} {nx lo : Nat} {out : Value} {sv : List SV} {gss : List (List Nat)} (L : Lol h out lo nx sv gss) (hlo : lo ≤ nx) {b2 : Nat} (h2 : hget h b2 = some (.cells [.slice none 0 0] false)) (hsz : gss.length < 1000) :
    ∃ h' out', appendA 1 h nx out (.slice (some ⟨b2, 0, none⟩) 1 1) = .ok (.val out' h' (nx + 1)) ∧ Lol h' out' lo (nx + 1) (sv ++ [(none, 0)]) (gss ++ [[]]) ∧ (∀ b, b < lo → hget h' b = hget h b) := by
  obtain ⟨h', hap, hnew, hfr⟩ := app_cvF (enc := encS) (k := 1) (fun _ => rfl) encS_cell (by omega) L.at_ hlo (o2 := 0) (cap2 := 1) (sp2 := none) h2 (x := ((none, 0) : SV)) rfl (by have := L.len; omega)
  refine ⟨h', _, hap, ⟨.inr ⟨nx, hlo, by omega, by simp, hnew⟩, by simp [L.len], fun j s g hs hg => ?_, fun j k b nj nk hj hk => ?_, fun b sp n c e j nj hj => ?_⟩, fun b hb => hfr b (by omega) fun b' sp n cp e => ?_⟩
  · have hlt := lt_of_get hs
    rw [List.length_append] at hlt
    have hlt : j < sv.length + 1 := hlt
    by_cases hj : j < sv.length
    · rw [List.getElem?_append_left hj] at hs
      rw [List.getElem?_append_left (by rw [← L.len]; exact hj)] at hg
      rcases L.each j s g hs hg with h0 | ⟨b, hb1, hb2, rfl, hb⟩
      · exact .inl h0
      · exact .inr ⟨b, hb1, by omega, rfl, (hfr b (by omega) (fun b' sp n cp e e' => by subst e'; exact L.other b sp n cp e j _ hs)).trans hb⟩
    · have : j = sv.length := by omega
      subst this
      rw [List.getElem?_append_right (by omega), Nat.sub_self] at hs
      rw [L.len, List.getElem?_append_right (by omega), Nat.sub_self] at hg
      simp at hs hg
      exact .inl ⟨by first | exact hg | exact hg.symm, by first | exact hs | exact hs.symm⟩
  · have get : ∀ (j n : Nat), (sv ++ [((none, 0) : SV)])[j]? = some (some b, n) → sv[j]? = some (some b, n) := fun j n hj => by
      rw [List.getElem?_append] at hj
      split at hj
      · exact hj
      · have hlt := lt_of_get hj
        have : j - sv.length = 0 := by simpa using hlt
        rw [this] at hj
        simp at hj
    exact L.apart j k b nj nk (get _ _ hj) (get _ _ hk)
  · injection e with e
    injection e with e
    injection e with e
    subst e
    rw [List.getElem?_append] at hj
    split at hj
    · rename_i hlt
      have hg : gss[j]? = some (gss[j]'(by rw [← L.len]; exact hlt)) := List.getElem?_eq_getElem _
      rcases L.each j _ _ hj hg with ⟨_, h0⟩ | ⟨b, hb1, hb2, h0, hb⟩
      · cases h0
      · have : b = nx := by
          have := congrArg Prod.fst h0
          simpa using this.symm
        omega
    · have hlt := lt_of_get hj
      have : j - sv.length = 0 := by simpa using hlt
      rw [this] at hj
      simp at hj
  · rcases L.at_ with ⟨_, e0⟩ | ⟨b3, y1, y2, y3, y4⟩
    · rw [e0] at e; cases e
    · rw [y3] at e
      injection e with e
      injection e with e
      injection e with e
      omega
/-- where the outer list lies -/
theorem Lol.out_at {h : Hp} {nx lo : Nat} {out : Value} {sv : List SV} {gss : List (List Nat)} (L : Lol h out lo nx sv gss) {q : Nat} {s : SV} (hs : sv[q]? = some s) :
    ∃ bo, lo ≤ bo ∧ bo < nx ∧ out = .slice (some ⟨bo, 0, some 1⟩) sv.length sv.length ∧ hget h bo = some (.cells (svs sv) false) ∧ q < sv.length := by
  have hq := lt_of_get hs
  rcases L.at_ with ⟨e, _⟩ | ⟨b, h1, h2, h3, h4⟩
  · rw [e] at hq; exact absurd hq (Nat.not_lt_zero _)
  · rw [flat_svs] at h4
    exact ⟨b, h1, h2, h3, h4, hq⟩
/-- one more in a list of these -/
theorem Lol.add {h : Hp} {nx lo : Nat} {out : Value} {sv : List SV} {gss : List (List Nat)} (L : Lol h out lo nx sv gss) (hlo : lo ≤ nx) {q v bo : Nat} {s : SV} {g : List Nat} (hs : sv[q]? = some s) (hg : gss[q]? = some g) {b2 : Nat} (h2 : hget h b2 = some (.cells [.int .i64 (v : Int)] false)) (hsz : g.length < 1000)
    (hout : out = .slice (some ⟨bo, 0, some 1⟩) sv.length sv.length) (hbo : lo ≤ bo ∧ bo < nx) :
    ∃ h', appendA 1 h nx (svV s) (.slice (some ⟨b2, 0, none⟩) 1 1) = .ok (.val (svV (some nx, g.length + 1)) h' (nx + 1)) ∧ hget h' bo = some (.cells (svs sv) false) ∧ (∀ b, b < lo → hget h' b = hget h b) ∧
      Lol (hset h' bo (.cells (svs (sv.set q (some nx, g.length + 1))) false)) out lo (nx + 1) (sv.set q (some nx, g.length + 1)) (gss.set q (g ++ [v])) := by
  have hq := lt_of_get hs
  have hin : SlAt h (svV s) encI 1 (nats g) lo nx := by
    rcases L.each q s g hs hg with ⟨rfl, rfl⟩ | ⟨b, hb1, hb2, rfl, hb⟩
    · exact .inl ⟨rfl, rfl⟩
    · exact .inr ⟨b, hb1, hb2, by rw [nats_len]; rfl, by rw [flat_ints]; exact hb⟩
  obtain ⟨h', hap, hnew, hfr⟩ := app_cvF (enc := encI) (k := 1) (fun _ => rfl) (fun _ => rfl) (by omega) hin hlo (o2 := 0) (cap2 := 1) (sp2 := none) h2 (x := (v : Int)) rfl (by rw [nats_len]; omega)
  rw [nats_len] at hap
  rw [← nats_app, flat_ints] at hnew
  have hobl : hget h bo = some (.cells (svs sv) false) := by
    obtain ⟨b, _, _, e, hb, _⟩ := L.out_at hs
    rw [hout] at e
    injection e with e
    injection e with e
    injection e with e
    subst e
    exact hb
  have hne : ∀ c, c ≠ nx → (∀ n, s = (some c, n) → False) → hget h' c = hget h c := fun c hc hc2 => hfr c hc fun b sp n cp e e' => by
    subst e'
    obtain ⟨s1, s2⟩ := s
    cases s1 with
    | none => cases e
    | some b' =>
      injection e with e
      injection e with e
      injection e with e
      subst e
      exact hc2 s2 rfl
  have hbo' := hne bo (by omega) (fun n e => by subst e; exact L.other bo _ _ _ hout q n hs)
  have hlow : ∀ b, b < lo → hget h' b = hget h b := fun b hb => hne b (by omega) fun n e => by
    subst e
    rcases L.each q _ g hs hg with ⟨_, h0⟩ | ⟨b', hb1, hb2, h0, _⟩
    · cases h0
    · have := congrArg Prod.fst h0
      have : b = b' := by simpa using this
      omega
  refine ⟨h', hap, hbo'.trans hobl, hlow, ⟨.inr ⟨bo, hbo.1, by omega, by rw [List.length_set]; exact hout, by rw [flat_svs]; simp⟩, by simp [L.len], fun j s' g' hs' hg' => ?_, fun j k b nj nk hj hk => ?_, fun b sp n c e j nj hj => ?_⟩⟩
  · rw [List.getElem?_set] at hs' hg'
    by_cases hjq : q = j
    · subst hjq
      rw [if_pos rfl, if_pos hq] at hs'
      rw [if_pos rfl, if_pos (by rw [← L.len]; exact hq)] at hg'
      cases hs'; cases hg'
      exact .inr ⟨nx, hlo, by omega, by simp, by rw [hgs, if_neg (by omega)]; exact hnew⟩
    · rw [if_neg hjq] at hs' hg'
      rcases L.each j s' g' hs' hg' with h0 | ⟨b, hb1, hb2, rfl, hb⟩
      · exact .inl h0
      · refine .inr ⟨b, hb1, by omega, rfl, ?_⟩
        have hbb : b ≠ bo := fun e => by subst e; exact L.other b _ _ _ hout j _ hs'
        rw [hgs, if_neg hbb, hne b (by omega) fun n e => by subst e; exact hjq (L.apart q j b _ _ hs hs')]
        exact hb
  · have get : ∀ (j n : Nat), (sv.set q (some nx, g.length + 1))[j]? = some (some b, n) → (j = q ∧ b = nx) ∨ (j ≠ q ∧ sv[j]? = some (some b, n)) := fun j n hj => by
      rw [List.getElem?_set] at hj
      by_cases hjq : q = j
      · subst hjq
        rw [if_pos rfl, if_pos hq] at hj
        injection hj with hj
        have := congrArg Prod.fst hj
        exact .inl ⟨rfl, by simpa using this.symm⟩
      · rw [if_neg hjq] at hj
        exact .inr ⟨fun e => hjq e.symm, hj⟩
    have below : ∀ (j n : Nat), sv[j]? = some (some b, n) → b < nx := fun j n hj => by
      have hgj : gss[j]? = some (gss[j]'(by rw [← L.len]; exact lt_of_get hj)) := List.getElem?_eq_getElem _
      rcases L.each j _ _ hj hgj with ⟨_, h0⟩ | ⟨b', hb1, hb2, h0, _⟩
      · cases h0
      · have := congrArg Prod.fst h0
        have : b = b' := by simpa using this
        omega
    rcases get j nj hj with ⟨rfl, e1⟩ | ⟨_, hj'⟩
    · rcases get k nk hk with ⟨rfl, _⟩ | ⟨_, hk'⟩
      · rfl
      · have := below k nk hk'; omega
    · rcases get k nk hk with ⟨rfl, e1⟩ | ⟨_, hk'⟩
      · have := below j nj hj'; omega
      · exact L.apart j k b nj nk hj' hk'
  · rw [hout] at e
    injection e with e
    injection e with e
    injection e with e
    subst e
    rw [List.getElem?_set] at hj
    by_cases hjq : q = j
    · subst hjq
      rw [if_pos rfl, if_pos hq] at hj
      injection hj with hj
      have := congrArg Prod.fst hj
      have : nx = bo := by simpa using this
      omega
    · rw [if_neg hjq] at hj
      exact L.other bo _ _ _ hout j nj hj
theorem Lol.keep {h h' : Hp} {lo hi hi' : Nat} {out : Value} {sv : List SV} {gss : List (List Nat)} (L : Lol h out lo hi sv gss) (hk : ∀ b, lo ≤ b → b < hi → hget h' b = hget h b) (hle : hi ≤ hi') : Lol h' out lo hi' sv gss where
  at_ := by
    rcases L.at_ with e | ⟨b, h1, h2, h3, h4⟩
    · exact .inl e
    · exact .inr ⟨b, h1, by omega, h3, by rw [hk b h1 h2]; exact h4⟩
  len := L.len
  each := fun j s g hs hg => by
    rcases L.each j s g hs hg with h0 | ⟨b, hb1, hb2, e, hb⟩
    · exact .inl h0
    · exact .inr ⟨b, hb1, by omega, e, by rw [hk b hb1 hb2]; exact hb⟩
  apart := L.apart
  other := L.other
theorem Lol.lens {h : Hp} {lo hi : Nat} {out : Value} {sv : List SV} {gss : List (List Nat)} (L : Lol h out lo hi sv gss) : lenS out = .ok (.int .i64 (gss.length : Int)) := by
  rw [← L.len]
  rcases L.at_ with ⟨e, e2⟩ | ⟨b, h1, h2, h3, h4⟩
  · rw [e, e2]; rfl
  · rw [h3]; rfl
theorem Lol.nil {h : Hp} {lo hi : Nat} : Lol h (.slice none 0 0) lo hi [] [] := ⟨.inl ⟨rfl, rfl⟩, rfl, fun j s g hs => by simp at hs, fun j k b nj nk hj => by simp at hj, fun b sp n c e => by cases e⟩
/-! ## the map of what was met -/
theorem findE_g {kt : Nat} (hk : isIntTy P kt = true) (x : Int) : ∀ (i j : Nat) (l : List Int), findE P kt (.int .i64 x) (mkG i l) j = some ((gidx x l).map fun q => (j + q, { key := .int .i64 x, val := .int .i64 ((i + q : Nat) : Int), born := i + q }))
  | i, j, [] => rfl
  | i, j, k :: ks => by
    have ih := findE_g hk x (i + 1) (j + 1) ks
    unfold mkG findE gidx
    have e : keyEq P kt (.int .i64 x) (.int .i64 k) = some (decide (k = x)) := by
      show (bif keq .i64 .i64 && isIntTy P kt then some (ieq x k) else none) = _
      rw [hk, ieq_beq]
      show some (x == k) = _
      congr 1
      by_cases h : k = x
      · subst h; simp
      · simp [h, Ne.symm h]
    simp only [e]
    by_cases h : k = x
    · subst h; simp
    · simp only [h, decide_false, if_false]
      rw [show Nat.succ j = j + 1 from rfl, ih]
      cases gidx x ks with
      | none => rfl
      | some q =>
        simp only [Option.map_some]
        have e1 : j + 1 + q = j + (q + 1) := by omega
        have e2 : i + 1 + q = i + (q + 1) := by omega
        rw [e1, e2]
theorem keyOk_int {kt : Nat} (hk : isIntTy P kt = true) (x : Int) : keyOk P kt (.int .i64 x) = true := by
  show (keyEq P kt (.int .i64 x) (.int .i64 x)).isSome = true
  have e : keyEq P kt (.int .i64 x) (.int .i64 x) = some (ieq x x) := by
    show (bif keq .i64 .i64 && isIntTy P kt then some (ieq x x) else none) = _
    rw [hk]; rfl
  rw [e]; rfl
theorem lkp_g {kt : Nat} (hk : isIntTy P kt = true) {h : Hp} {r ck : Nat} {keys : List Int} (hm : hget h r = some (.map (mkG 0 keys) ck)) (z : Value) (x : Int) :
    cLkp P h kt z true (.map (some r)) (.int .i64 x) = .ok (match gidx x keys with
      | none => .tuple ⟨[z, .bool false]⟩
      | some q => .tuple ⟨[.int .i64 (q : Int), .bool true]⟩) := by
  unfold cLkp
  rw [keyOk_int hk]
  show entsOf h (.map (some r)) _ = _
  unfold entsOf mapOf
  simp only [hm, findE_g hk x 0 0 keys]
  cases gidx x keys with
  | none => rfl
  | some q => simp only [Option.map_some, Nat.zero_add]; rfl
theorem mup_g {kt : Nat} (hk : isIntTy P kt = true) {h : Hp} {r : Nat} {keys : List Int} (hm : hget h r = some (.map (mkG 0 keys) keys.length)) {x : Int} (hx : gidx x keys = none) :
    cMup P kt h (.map (some r)) (.int .i64 x) (.int .i64 (keys.length : Int)) = .ok (hset h r (.map (mkG 0 (keys ++ [x])) (keys ++ [x]).length)) := by
  unfold cMup
  rw [keyOk_int hk]
  show mapOf h r _ = _
  unfold mapOf
  simp only [hm, findE_g hk x 0 0 keys, hx, Option.map_none, lapp_eq, mkG_app, Nat.zero_add, List.length_append, List.length_cons, List.length_nil]
end
end Go.Ax

/-! part AxH15 -/
namespace Go.Ax
open Go
set_option linter.unusedSimpArgs false
set_option linter.unusedVariables false

/-! # comps.Groups, whole -/
def gstep (st : List Int × List (List Nat)) (v : Nat) (x : Int) : List Int × List (List Nat) := match gidx x st.1 with
  | some q => (st.1, st.2.set q (st.2.getD q [] ++ [v]))
  | none => (st.1 ++ [x], st.2 ++ [[v]])
/-- behind the first i labels -/
def gst (l : List Int) : Nat → List Int × List (List Nat)
  | 0 => ([], [])
  | i + 1 => match l[i]? with
    | some x => gstep (gst l i) i x
    | none => gst l i
theorem gst_succ {l : List Int} {i : Nat} {x : Int} (h : l[i]? = some x) : gst l (i + 1) = gstep (gst l i) i x := by
  show (match l[i]? with | some x => gstep (gst l i) i x | none => gst l i) = _
  rw [h]
theorem gst_len (l : List Int) : ∀ i, (gst l i).1.length = (gst l i).2.length ∧ (gst l i).2.length ≤ i ∧ ∀ g ∈ (gst l i).2, g.length ≤ i
  | 0 => ⟨rfl, Nat.le_refl _, fun g hg => by cases hg⟩
  | i + 1 => by
    obtain ⟨h1, h2, h3⟩ := gst_len l i
    cases hx : l[i]? with
    | none =>
      have e : gst l (i + 1) = gst l i := by
        show (match l[i]? with | some x => gstep (gst l i) i x | none => gst l i) = _
        rw [hx]
      rw [e]
      exact ⟨h1, by omega, fun g hg => by have := h3 g hg; omega⟩
    | some x =>
      rw [gst_succ hx]
      unfold gstep
      cases hq : gidx x (gst l i).1 with
      | none =>
        refine ⟨by simp [h1], by simp; omega, fun g hg => ?_⟩
        rcases List.mem_append.1 hg with hg | hg
        · have := h3 g hg; omega
        · rw [List.mem_singleton.1 hg]; simp
      | some q =>
        refine ⟨by simp [h1], by simp; omega, fun g hg => ?_⟩
        rcases List.mem_or_eq_of_mem_set hg with hg | rfl
        · have := h3 g hg; omega
        · have hql := lt_of_get (gidx_some hq)
          rw [h1] at hql
          have := h3 _ (List.getElem_mem hql)
          have e : (gst l i).2.getD q [] = (gst l i).2[q] := by simp [List.getD, hql]
          rw [e]
          simp
          omega
def GrpJ (vl : Value) (l : List Int) (nx : Nat) (h : Hp) (m : Nat) (tm : Tm) (h' : Hp) (nx' : Nat) : Prop :=
  ∃ (i : Nat) (sv : List SV), m = l.length - i ∧ i ≤ l.length ∧ tget tm 10 = vl ∧ tget tm 11 = .int .i64 (l.length : Int) ∧ tget tm 12 = .int .i64 (i : Int) ∧ tget tm 4 = .map (some nx) ∧ hget h' nx = some (.map (mkG 0 (gst l i).1) (gst l i).1.length) ∧
    Lol h' (tget tm 3) (nx + 1) nx' sv (gst l i).2 ∧ Keep nx h h' ∧ nx + 1 ≤ nx'
def GrpQ (vl : Value) (l : List Int) (i : Nat) (nx : Nat) (h : Hp) (tm : Tm) (h' : Hp) (nx' : Nat) : Prop :=
  ∃ (sv : List SV) (gss : List (List Nat)) (q : Nat) (g : List Nat), tget tm 10 = vl ∧ tget tm 11 = .int .i64 (l.length : Int) ∧ tget tm 12 = .int .i64 (i : Int) ∧ tget tm 4 = .map (some nx) ∧ tget tm 5 = .int .i64 (i : Int) ∧ tget tm 7 = .int .i64 (q : Int) ∧ hget h' nx = some (.map (mkG 0 (gst l (i + 1)).1) (gst l (i + 1)).1.length) ∧
    Lol h' (tget tm 3) (nx + 1) nx' sv gss ∧ gss[q]? = some g ∧ g.length ≤ i ∧ (gst l (i + 1)).2 = gss.set q (g ++ [i]) ∧ Keep nx h h' ∧ nx + 1 ≤ nx'
def GrpR (vl : Value) (l : List Int) (i : Nat) (nx : Nat) (h : Hp) (tm : Tm) (h' : Hp) (nx' : Nat) : Prop :=
  ∃ (sv : List SV), tget tm 10 = vl ∧ tget tm 11 = .int .i64 (l.length : Int) ∧ tget tm 12 = .int .i64 (i : Int) ∧ tget tm 4 = .map (some nx) ∧ hget h' nx = some (.map (mkG 0 (gst l (i + 1)).1) (gst l (i + 1)).1.length) ∧
    Lol h' (tget tm 3) (nx + 1) nx' sv (gst l (i + 1)).2 ∧ Keep nx h h' ∧ nx + 1 ≤ nx'
def GrpK (l : List Int) (nx : Nat) (h : Hp) : KC' := fun r h' nx' => ∃ sv, Lol h' r (nx + 1) nx' sv (gst l l.length).2 ∧ Keep nx h h' ∧ nx + 1 ≤ nx'
section
variable {P : Program} {orc : Orc} {s : Bool}
theorem c_lkp (tm : Tm) (h : Hp) (kt : TypeId) (z : Value) (m k : Co) (ok : Bool) : cred P tm h (.lkp kt z m k ok) = cLkp P h kt z ok (cev tm m) (cev tm k) := rfl
theorem grp_last {vl : Value} {l : List Int} {i nx : Nat} {h : Hp} (hil : i < l.length) (hll : l.length ≤ 100) {K1 : KO'} : ∀ (tm : Tm) (h' : Hp) (nx' : Nat), GrpQ vl l i nx h tm h' nx' →
    Ev P orc s (.regO [⟨none, (some 33), 0, .pur (.mv (.t 3))⟩, ⟨none, (some 34), 0, .pur (.mv (.t 7))⟩, ⟨none, (some 35), 0, .pur (.mv (.t 3))⟩, ⟨none, (some 36), 0, .pur (.mv (.t 7))⟩, ⟨none, (some 37), 0, .pur (.ixA (.slice 1) (.t 35) (.t 36))⟩, ⟨none, (some 38), 0, .red (.ld none (.t 37))⟩,
      ⟨none, (some 39), 0, .pur (.mv (.t 5))⟩, ⟨none, (some 40), 0, .alc (.bsl 1 [(.int .i64 0)] [(0, 1, (.t 39))])⟩, ⟨none, (some 41), 0, .eff (.app 1 (.t 38) (.t 40))⟩, ⟨none, (some 42), 0, .pur (.ixA (.slice 1) (.t 33) (.t 34))⟩, ⟨none, none, 0, .eff (.st 1 (.t 42) (.t 41))⟩]) tm h' nx'
      (nextK (GrpR vl l i nx h) K1) := by
  rintro tm h' nx' ⟨sv, gss, q, g, t10, t11, t12, t4, t5, t7, gm, hL, hg, hgi, hst, hk, hnx⟩
  have hql : q < sv.length := by rw [hL.len]; exact lt_of_get hg
  have hs : sv[q]? = some (sv[q]'hql) := List.getElem?_eq_getElem _
  generalize sv[q]'hql = sq at hs
  obtain ⟨bo, ho1, ho2, hout, hbo, _⟩ := hL.out_at hs
  refine Ev.regO ?_
  simp only [Ov_pur, Ov_red, Ov_alc, c_mv, c_ixA, natR_nat, oIx_slice, c_ld, cev_t, putT_some, addrR_ptr, tgs, RK_ok, bind_ok, ofGet_some, loadC_one, ↓reduceIte, Nat.reduceEqDiff, alc_bsl, sliceNB_eq, cfill_nil, cfill_cons, vc_int, cellV_int, cellL_nil, cellL_cons, nbV_slice, nbO_slice, List.length_cons, List.length_nil, List.take_zero, List.drop_succ_cons, List.drop_nil, List.nil_append, List.append_nil, Nat.zero_add, Nat.mul_one, Nat.reduceLeDiff, Bool.and_self, t5, t7, hout, hql, cellsOf_some hbo, svs_get hs]
  have hL2 := hL.keep (h' := hset h' nx' (.cells [.int .i64 (i : Int)] false)) (hi' := nx' + 1) (fun b h1 h2 => by rw [hgs, if_neg (by omega)]) (by omega)
  obtain ⟨h6, hap, hbo6, hk6, hL3⟩ := hL2.add (by omega) hs hg (v := i) (b2 := nx') (by simp) (by omega) hout ⟨ho1, by omega⟩
  rw [Ov_eff (v := svV (some (nx' + 1), g.length + 1)) (h' := h6) (nx' := nx' + 1 + 1) (by
    show orR (appendA 1 _ _ (cev _ (.t 38)) (cev _ (.t 40))) = _
    simp only [cev_t, tgs, ↓reduceIte, Nat.reduceEqDiff]
    rw [hap]; rfl)]
  simp only [Ov_pur, Ov_st, Ov_nil, c_ixA, natR_nat, oIx_slice, cev_t, putT_some, putT_none, addrR_ptr, tgs, RK_ok, nextK_normal, ↓reduceIte, Nat.reduceEqDiff, Nat.zero_add, Nat.mul_one, hout, t7, hql, (svV_cell _).2]
  rw [RK_st1 hbo6 (svV_cell _).1 (by rw [svs_len]; exact hql), svs_set]
  refine ⟨sv.set q (some (nx' + 1), g.length + 1), by simpa using t10, by simpa using t11, by simpa using t12, by simpa using t4, ?_, ?_, fun b hb => ?_, by omega⟩
  · rw [hgs, if_neg (by omega), hk6 nx (by omega), hgs, if_neg (by omega)]; exact gm
  · rw [hst]; simpa [hout] using hL3
  · rw [hgs, if_neg (by omega), hk6 b (by omega), hgs, if_neg (by omega)]; exact hk b hb
theorem groups_cv {f kt : Nat} (hcf : compAt P f = some (cfGroups kt)) (ho : orc f = none) (hkt : isIntTy P kt = true) {vl : Value} {l : List Int} {h : Hp} {nx : Nat} (hvl : SlRd h nx vl encI l) (hll : l.length ≤ 100) :
    Cv P orc s f [vl] h nx (GrpK l nx h) := by
  refine Cv.enter ho hcf ?_
  unfold cfGroups
  obtain ⟨al, capl, rfl, _⟩ := id hvl
  refine Ev.seq (Ev.regO ?_)
  simp only [Ov_pur, Ov_nil, c_mv, cev_v, putT_some, RK_ok, nextK_normal, Nat.zero_add, setArgs_nil, setArgs_cons]
  refine Ev.seq (Ev.regO ?_)
  simp only [Ov_pur, Ov_nil, c_mv, cev_v, putT_some, RK_ok, nextK_normal]
  refine Ev.seq (Ev.regO ?_)
  simp only [Ov_pur, Ov_alc, Ov_nil, c_mv, cev_t, putT_some, tgs, RK_ok, nextK_normal, ↓reduceIte, show ∀ tm, calq P tm .mkm = .ok .map from fun _ => rfl, show ∀ n, nbV n .map = .map (some n) from fun _ => rfl, show nbO .map = .map [] 0 from rfl]
  refine Ev.cut (GrpJ (.slice al l.length capl) l nx h 0) ?_ ?_
  · refine Ev.seq (Ev.regO ?_)
    simp only [Ov_pur, Ov_red, Ov_nil, c_mv, c_lens, lenS_slice, cev_t, cev_v, putT_some, tgs, RK_ok, nextK_normal, ↓reduceIte, Nat.reduceEqDiff]
    refine Ev.forR (GrpJ (.slice al l.length capl) l nx h) ?_ l.length _ _ _ ⟨0, [], rfl, by omega, by simp, by simp, by simp, by simp, by simp [gst, mkG], by simp [gst]; exact Lol.nil, fun b hb => by rw [hgs, if_neg (by omega)], by omega⟩
    rintro m tm h' nx' ⟨i, sv, rfl, hi, t10, t11, t12, t4, gm, hL, hk, hnx⟩
    simp only [Ov_pur, Ov_nil, c_mv, c_bin, cev_t, cev_v, putT_some, tgs, RK_ok, bin_lss, nextK_normal, ↓reduceIte, t11, t12]
    refine ⟨decide ((i : Int) < l.length), rfl, fun e => ?_, fun e => ?_⟩
    · have : ¬ ((i : Int) < l.length) := of_decide_eq_false e
      exact ⟨i, sv, by omega, hi, by simpa using t10, by simpa using t11, by simpa using t12, by simpa using t4, gm, by simpa using hL, hk, hnx⟩
    · have hil : i < l.length := by
        have : (i : Int) < l.length := of_decide_eq_true e
        omega
      obtain ⟨x, hx⟩ : ∃ x, l[i]? = some x := ⟨_, List.getElem?_eq_getElem hil⟩
      obtain ⟨_, bl, spl, rol, capl', hbln, hveq, hbl⟩ := hvl.at hx
      injection hveq with e1 e2 e3
      subst e1
      rw [flat_ints] at hbl
      have gl := (hk bl hbln).trans hbl
      obtain ⟨n1, n2, n3⟩ := gst_len l i
      have hst := gst_succ hx
      refine Ev.cutE' (GrpR (.slice (some ⟨bl, 0, spl⟩) l.length capl) l i nx h) ?_ ?_
      · rintro tm h' nx' ⟨sv, t10, t11, t12, t4, gm, hL, hk, hnx⟩
        simp only [RK_ok, bin_add, nextK_normal, blkK_normal, t12]
        refine ⟨l.length - (i + 1), by omega, i + 1, sv, rfl, by omega, by simpa using t10, by simpa using t11, ?_, by simpa using t4, gm, by simpa using hL, hk, hnx⟩
        rw [wrapS (by omega) (by omega)]; simp
      refine Ev.seq (Ev.regO ?_)
      simp only [Ov_pur, Ov_red, Ov_nil, c_mv, c_ixA, natR_nat, oIx_slice, c_ld, cev_t, putT_some, addrR_ptr, tgs, RK_ok, ofGet_some, loadC_one, nextK_normal, ↓reduceIte, Nat.reduceEqDiff, Nat.zero_add, Nat.mul_one, t10, t12, hil, cellsOf_some gl, ints_get hx]
      refine Ev.genT (fun tm2 => tget tm2 10 = tget tm 10 ∧ tget tm2 11 = tget tm 11 ∧ tget tm2 12 = tget tm 12 ∧ tget tm2 4 = tget tm 4 ∧ tget tm2 3 = tget tm 3 ∧ tget tm2 5 = .int .i64 (i : Int) ∧ tget tm2 6 = .int .i64 x) (by simp) ?_
      rintro tm2 ⟨u10, u11, u12, u4, u3, u5, u6⟩
      rw [t10] at u10; rw [t11] at u11; rw [t12] at u12; rw [t4] at u4
      refine Ev.seq (Ev.regO ?_)
      cases hq : gidx x (gst l i).1 with
      | none =>
        have hst' : gst l (i + 1) = ((gst l i).1 ++ [x], (gst l i).2 ++ [[i]]) := by rw [hst]; unfold gstep; rw [hq]
        simp only [Ov_pur, Ov_red, Ov_nil, c_mv, c_ext, oExtract_tuple, cev_t, putT_some, tgs, RK_ok, of_some, nextK_normal, ↓reduceIte, Nat.reduceEqDiff, List.getElem?_cons_zero, List.getElem?_cons_succ, u4, u6, c_lkp, lkp_g hkt gm, hq]
        refine Ev.cut (GrpQ (.slice (some ⟨bl, 0, spl⟩) l.length capl) l i nx h) ?_ ?_
        · refine Ev.seq (Ev.regO ?_)
          simp only [Ov_pur, Ov_nil, c_mv, c_un, cev_t, putT_some, tgs, RK_ok, un_not, nextK_normal, ↓reduceIte, Bool.not_false]
          refine Ev.cond true (by simp) (fun _ => ?_) (by simp)
          refine Ev.seq (Ev.regO ?_)
          simp only [Ov_pur, Ov_red, Ov_nil, c_mv, cev_t, putT_some, tgs, RK_ok, nextK_normal, ↓reduceIte, Nat.reduceEqDiff, u3, show ∀ tm h x, cred P tm h (.lens x) = lenS (cev tm x) from fun _ _ _ => rfl, hL.lens]
          refine Ev.seq (Ev.regO ?_)
          simp only [Ov_pur, c_mv, cev_t, putT_some, tgs, RK_ok, ↓reduceIte, Nat.reduceEqDiff, u4, u6]
          rw [Ov_eff (v := undefV) (h' := hset h' nx (.map (mkG 0 ((gst l i).1 ++ [x])) ((gst l i).1 ++ [x]).length)) (nx' := nx') (by
            show uOf nx' (cMup P kt h' (cev _ (.t 27)) (cev _ (.t 28)) (cev _ (.t 29))) = _
            simp only [cev_t, tgs, ↓reduceIte, Nat.reduceEqDiff]
            rw [← n1, mup_g hkt gm hq]; rfl)]
          simp only [Ov_nil, putT_none, nextK_normal]
          have hL2 := hL.keep (h' := hset (hset h' nx (.map (mkG 0 ((gst l i).1 ++ [x])) ((gst l i).1 ++ [x]).length)) nx' (.cells [.slice none 0 0] false)) (hi' := nx' + 1) (fun b h1 h2 => by rw [hgs, if_neg (by omega), hgs, if_neg (by omega)]) (by omega)
          refine Ev.regO ?_
          simp only [Ov_pur, Ov_alc, c_mv, cev_t, cev_v, putT_some, tgs, RK_ok, bind_ok, ↓reduceIte, Nat.reduceEqDiff, alc_bsl, sliceNB_eq, cfill_nil, cfill_cons, vc_slice, cellV_slice, cellL_nil, cellL_cons, nbV_slice, nbO_slice, List.length_cons, List.length_nil, List.take_zero, List.drop_succ_cons, List.drop_nil, List.nil_append, List.append_nil, Nat.zero_add, Nat.reduceLeDiff, Bool.and_self, u3]
          obtain ⟨h6, out', hap, hL3, hk6⟩ := hL2.push (by omega) (b2 := nx') (by simp) (by omega)
          rw [Ov_eff (v := out') (h' := h6) (nx' := nx' + 1 + 1) (by
            show orR (appendA 1 _ _ (cev _ (.t 30)) (cev _ (.t 31))) = _
            simp only [cev_t, tgs, ↓reduceIte, Nat.reduceEqDiff, u3]
            rw [hap]; rfl)]
          simp only [Ov_pur, Ov_nil, c_mv, cev_t, putT_some, tgs, RK_ok, nextK_normal, ↓reduceIte]
          refine ⟨_, _, (gst l i).2.length, [], by simp [u10], by simp [u11], by simp [u12], by simp [u4], by simp [u5], by simp, ?_, by simpa using hL3, by simp, by simp, ?_, fun b hb => ?_, by omega⟩
          · rw [hk6 nx (by omega), hgs, if_neg (by omega), hst']; simp
          · rw [hst']; simp
          · rw [hk6 b (by omega), hgs, if_neg (by omega), hgs, if_neg (by omega)]; exact hk b hb
        · exact grp_last hil hll
      | some q =>
        have hql := lt_of_get (gidx_some hq)
        rw [n1] at hql
        have hg : (gst l i).2[q]? = some ((gst l i).2[q]'hql) := List.getElem?_eq_getElem _
        have hst' : gst l (i + 1) = ((gst l i).1, (gst l i).2.set q ((gst l i).2[q]'hql ++ [i])) := by
          rw [hst]; unfold gstep; rw [hq]; simp [List.getD, hql]
        simp only [Ov_pur, Ov_red, Ov_nil, c_mv, c_ext, oExtract_tuple, cev_t, putT_some, tgs, RK_ok, of_some, nextK_normal, ↓reduceIte, Nat.reduceEqDiff, List.getElem?_cons_zero, List.getElem?_cons_succ, u4, u6, c_lkp, lkp_g hkt gm, hq]
        refine Ev.cut (GrpQ (.slice (some ⟨bl, 0, spl⟩) l.length capl) l i nx h) ?_ ?_
        · refine Ev.seq (Ev.regO ?_)
          simp only [Ov_pur, Ov_nil, c_mv, c_un, cev_t, putT_some, tgs, RK_ok, un_not, nextK_normal, ↓reduceIte, Bool.not_true]
          refine Ev.cond false (by simp) (by simp) (fun _ => Ev.skip ?_)
          refine ⟨sv, _, q, _, by simp [u10], by simp [u11], by simp [u12], by simp [u4], by simp [u5], by simp, ?_, by simpa [u3] using hL, hg, n3 _ (List.getElem_mem hql), ?_, hk, hnx⟩
          · rw [hst']; exact gm
          · rw [hst']
        · exact grp_last hil hll
  · rintro tm h' nx' ⟨i, sv, hi0, hi, t10, t11, t12, t4, gm, hL, hk, hnx⟩
    have : i = l.length := by omega
    subst this
    refine Ev.seq (Ev.regO ?_)
    simp only [Ov_pur, Ov_nil, c_mv, cev_t, putT_some, tgs, RK_ok, nextK_normal, ↓reduceIte]
    refine Ev.ret ?_
    simp only [tgs, RK_ok, bind_ok, ↓reduceIte, retK_ret, resVs_tmp, resVs_nil, retV_one]
    exact ⟨sv, hL, hk, hnx⟩
end
end Go.Ax

/-! part AxH16 -/
namespace Go.Ax
open Go
set_option linter.unusedSimpArgs false
set_option linter.unusedVariables false

/-! # law29.CompsOnly -/
def cfCompsOnly (fm fl fg fw fc fk fv : Nat) : CF := { res := [.tmp 6], body :=
 (.seq (.regO [⟨none, (some 3), 0, .alc (.box (.t 0))⟩,
   ⟨none, (some 6), 0, .pur (.mv (.v (.bool false)))⟩])
 (.seq (.regO [⟨none, (some 15), 0, .red (.ld (some 5) (.t 3))⟩,
   ⟨none, (some 16), 0, .eff (.call fm [(.t 15)])⟩,
   ⟨none, (some 14), 0, .pur (.mv (.t 16))⟩,
   ⟨none, (some 17), 0, .pur (.ext (.t 14) 0)⟩,
   ⟨none, (some 18), 0, .pur (.ext (.t 14) 1)⟩,
   ⟨none, (some 19), 0, .pur (.ext (.t 14) 2)⟩,
   ⟨none, (some 20), 0, .pur (.ext (.t 14) 3)⟩,
   ⟨none, (some 7), 0, .alc (.new [(.int .i64 0), (.slice none 0 0)])⟩,
   ⟨none, none, 0, .eff (.st 2 (.t 7) (.t 17))⟩,
   ⟨none, (some 8), 0, .pur (.mv (.t 18))⟩,
   ⟨none, (some 9), 0, .pur (.mv (.t 19))⟩,
   ⟨none, (some 10), 0, .pur (.mv (.t 20))⟩])
 (.seq (.regO [⟨none, (some 21), 0, .red (.ld (some 2) (.t 7))⟩,
   ⟨none, (some 22), 0, .eff (.call fl [(.t 21)])⟩,
   ⟨none, (some 11), 0, .pur (.mv (.t 22))⟩])
 (.seq (.regO [⟨none, (some 23), 0, .pur (.mv (.t 11))⟩,
   ⟨none, (some 24), 0, .eff (.call fg [(.t 23)])⟩,
   ⟨none, (some 12), 0, .pur (.mv (.t 24))⟩])
 (.seq (.seq (.regO [⟨none, (some 13), 0, .pur (.mv (.v (.int .i64 0)))⟩])
 (.block 0
  (.loop
   (.seq (.seq (.regO [⟨none, (some 25), 0, .pur (.mv (.t 13))⟩,
     ⟨none, (some 26), 0, .pur (.mv (.t 12))⟩,
     ⟨none, (some 27), 0, .red (.lens (.t 26))⟩,
     ⟨none, (some 28), 0, .pur (.bin .lss 3 (.t 25) (.t 27))⟩])
   (.cond (.t 28)
    .skip
    (.exit 0)))
   (.seq (.block 1
    (.seq (.regD [⟨none, (some 31), 0, .pur (.mv (.t 12))⟩,
      ⟨none, (some 32), 0, .pur (.mv (.t 13))⟩,
      ⟨none, (some 33), 0, .pur (.ixA (.slice 1) (.t 31) (.t 32))⟩,
      ⟨none, (some 34), 0, .red (.ld none (.t 33))⟩,
      ⟨none, (some 35), 0, .red (.lens (.t 34))⟩,
      ⟨none, (some 36), 0, .pur (.bin .eql 3 (.t 35) (.v (.int .i64 0)))⟩,
      ⟨none, (some 37), 0, .pur (.mv (.t 36))⟩,
      ⟨(some (37, false)), (some 38), 0, .pur (.mv (.t 11))⟩,
      ⟨(some (37, false)), (some 39), 0, .pur (.mv (.t 12))⟩,
      ⟨(some (37, false)), (some 40), 0, .pur (.mv (.t 13))⟩,
      ⟨(some (37, false)), (some 41), 0, .pur (.ixA (.slice 1) (.t 39) (.t 40))⟩,
      ⟨(some (37, false)), (some 42), 0, .red (.ld none (.t 41))⟩,
      ⟨(some (37, false)), (some 43), 0, .pur (.ixA (.slice 1) (.t 42) (.v (.int .i64 0)))⟩,
      ⟨(some (37, false)), (some 44), 0, .red (.ld none (.t 43))⟩,
      ⟨(some (37, false)), (some 45), 0, .pur (.ixA (.slice 1) (.t 38) (.t 44))⟩,
      ⟨(some (37, false)), (some 46), 0, .red (.ld none (.t 45))⟩,
      ⟨(some (37, false)), (some 47), 0, .pur (.mv (.t 12))⟩,
      ⟨(some (37, false)), (some 48), 0, .pur (.mv (.t 13))⟩,
      ⟨(some (37, false)), (some 49), 0, .pur (.ixA (.slice 1) (.t 47) (.t 48))⟩,
      ⟨(some (37, false)), (some 50), 0, .red (.ld none (.t 49))⟩,
      ⟨(some (37, false)), (some 51), 0, .pur (.ixA (.slice 1) (.t 50) (.v (.int .i64 0)))⟩,
      ⟨(some (37, false)), (some 52), 0, .red (.ld none (.t 51))⟩,
      ⟨(some (37, false)), (some 53), 0, .pur (.bin .neq 2 (.t 46) (.t 52))⟩,
      ⟨none, (some 54), 0, .pur (.pick (.t 37) (.v (.bool true)) (.t 53))⟩])
    (.cond (.t 54)
     (.seq (.regO [⟨none, (some 6), 0, .pur (.mv (.v (.bool false)))⟩])
     .ret)
     .skip)))
   (.regO [⟨none, (some 29), 0, .pur (.mv (.t 13))⟩,
     ⟨none, (some 30), 0, .pur (.bin .add 3 (.t 29) (.v (.int .i64 1)))⟩,
     ⟨none, (some 13), 0, .pur (.mv (.t 30))⟩]))))))
 (.seq (.regO [⟨none, (some 55), 0, .pur (.mv (.t 11))⟩,
   ⟨none, (some 56), 0, .pur (.mv (.t 1))⟩,
   ⟨none, (some 57), 0, .pur (.fldA 0 (.t 7))⟩,
   ⟨none, (some 58), 0, .red (.ld none (.t 57))⟩,
   ⟨none, (some 59), 0, .eff (.call fw [(.t 56), (.t 58)])⟩,
   ⟨none, (some 60), 0, .pur (.ixA (.slice 1) (.t 55) (.t 59))⟩,
   ⟨none, (some 61), 0, .red (.ld none (.t 60))⟩,
   ⟨none, (some 62), 0, .pur (.mv (.t 2))⟩,
   ⟨none, (some 63), 0, .pur (.bin .add 2 (.t 61) (.t 62))⟩,
   ⟨none, (some 64), 0, .pur (.ixA (.slice 1) (.t 55) (.t 59))⟩,
   ⟨none, none, 0, .eff (.st 1 (.t 64) (.t 63))⟩])
 (.seq (.regO [⟨none, (some 65), 0, .eff (.call fv [])⟩,
   ⟨none, (some 66), 0, .pur (.mv (.t 65))⟩,
   ⟨(some (66, true)), (some 67), 0, .pur (.mv (.t 12))⟩,
   ⟨(some (66, true)), (some 68), 0, .red (.lens (.t 67))⟩,
   ⟨(some (66, true)), (some 69), 0, .red (.ld (some 2) (.t 7))⟩,
   ⟨(some (66, true)), (some 70), 0, .eff (.call fc [(.t 69)])⟩,
   ⟨(some (66, true)), (some 71), 0, .pur (.bin .eql 3 (.t 68) (.t 70))⟩,
   ⟨none, (some 72), 0, .pur (.pick (.t 66) (.t 71) (.v (.bool false)))⟩,
   ⟨none, (some 73), 0, .pur (.mv (.t 72))⟩,
   ⟨(some (73, true)), (some 74), 0, .red (.ld (some 2) (.t 7))⟩,
   ⟨(some (73, true)), (some 75), 0, .pur (.mv (.t 11))⟩,
   ⟨(some (73, true)), (some 76), 0, .eff (.call fk [(.t 74), (.t 75)])⟩,
   ⟨(some (73, true)), (some 77), 0, .pur (.mv (.t 2))⟩,
   ⟨(some (73, true)), (some 78), 0, .pur (.bin .eql 2 (.t 77) (.v (.int .i64 0)))⟩,
   ⟨(some (73, true)), (some 79), 0, .pur (.bin .eql 4 (.t 76) (.t 78))⟩,
   ⟨none, (some 80), 0, .pur (.pick (.t 73) (.t 79) (.v (.bool false)))⟩,
   ⟨none, (some 6), 0, .pur (.mv (.t 80))⟩])
 .ret))))))) }
structure GrpLab (L : List Nat) (i : Nat) (st : List Int × List (List Nat)) : Prop where
  a : ∀ k, k < i → L[k]? = some k → (k : Int) ∈ st.1
  b : ∀ y ∈ st.1, ∃ k : Nat, k < i ∧ y = (k : Int)
  c : st.2.length = selfs L i
  d : ∀ (q : Nat) (g : List Nat), st.2[q]? = some g → ∃ u rest, g = u :: rest ∧ L[u]? = some u
theorem grp_lab {n : Nat} {es : List GE} {L : List Nat} (hL : IsLab n es L) : ∀ i, i ≤ n → GrpLab L i (gst (nats L) i)
  | 0, _ => ⟨fun k hk => absurd hk (Nat.not_lt_zero _), fun y hy => (by cases hy), rfl, fun q g hg => by simp [gst] at hg⟩
  | i + 1, hi => by
    have G := grp_lab hL i (by omega)
    have hx : L[i]? = some (L[i]'(by rw [hL.len]; omega)) := List.getElem?_eq_getElem _
    generalize L[i]'(by rw [hL.len]; omega) = x at hx
    have hxi := hL.le i x hx
    have hxx := hL.own hx
    have hss := selfs_succ L i
    rw [gst_succ (nats_get hx)]
    unfold gstep
    obtain ⟨n1, n2, n3⟩ := gst_len (nats L) i
    cases hq : gidx (x : Int) (gst (nats L) i).1 with
    | none =>
      have hnot := gidx_none hq
      have hxe : x = i := by
        rcases Nat.lt_or_ge x i with h | h
        · exact absurd (G.a x h hxx) hnot
        · omega
      subst hxe
      rw [if_pos hx] at hss
      refine ⟨fun k hk hkk => ?_, fun y hy => ?_, by simp [G.c, hss], fun q g hg => ?_⟩
      · by_cases hkx : k < x
        · exact List.mem_append_left _ (G.a k hkx hkk)
        · have : k = x := by omega
          subst this
          simp
      · rcases List.mem_append.1 hy with hy | hy
        · obtain ⟨k, hk, e⟩ := G.b y hy
          exact ⟨k, by omega, e⟩
        · exact ⟨x, by omega, List.mem_singleton.1 hy⟩
      · rw [List.getElem?_append] at hg
        split at hg
        · exact G.d q g hg
        · have hlt := lt_of_get hg
          have e : q - (gst (nats L) x).2.length = 0 := by simpa using hlt
          rw [e] at hg
          simp at hg
          exact ⟨x, [], hg.symm, hx⟩
    | some q =>
      have hmem := List.mem_of_getElem? (gidx_some hq)
      obtain ⟨k, hk, hke⟩ := G.b _ hmem
      have hxk : x = k := by omega
      have hne : ¬ (L[i]? = some i) := fun h => by rw [hx] at h; cases h; omega
      rw [if_neg hne] at hss
      have hql := lt_of_get (gidx_some hq)
      rw [n1] at hql
      refine ⟨fun k hk hkk => ?_, fun y hy => ?_, by simp [G.c, hss], fun p g hg => ?_⟩
      · by_cases hki : k < i
        · exact G.a k hki hkk
        · have : k = i := by omega
          subst this
          exact absurd hkk hne
      · obtain ⟨k, hk, e⟩ := G.b y hy
        exact ⟨k, by omega, e⟩
      · have hg : ((gst (nats L) i).2.set q ((gst (nats L) i).2.getD q [] ++ [i]))[p]? = some g := hg
        rw [List.getElem?_set] at hg
        split at hg
        · rename_i hqp
          cases hg
          have hgq : (gst (nats L) i).2[q]? = some ((gst (nats L) i).2[q]'hql) := List.getElem?_eq_getElem _
          obtain ⟨u, rest, e, hu⟩ := G.d q _ hgq
          refine ⟨u, rest ++ [i], ?_, hu⟩
          rw [getD_of hgq, e]; rfl
        · exact G.d p g hg
theorem wrap_ne {a : Nat} {b : Int} (ha : a < 1000) (hb : -9223372036854775808 ≤ b ∧ b ≤ 9223372036854775807) : IntKind.wrap .i64 ((a : Int) + b) = (a : Int) ↔ b = 0 := by
  simp only [IntKind.wrap, IntKind.signed, IntKind.bits]
  constructor
  · intro h
    simp at h
    omega
  · intro h
    subst h
    simp
    omega
theorem svV_some (b n : Nat) : svV (some b, n) = .slice (some ⟨b, 0, some 1⟩) n n := rfl
def OnlJ (b5 bl nr : Nat) (n : Nat) (out : Value) (at_ by_ : Int) (N : Nat) (hr : Hp) (m : Nat) (tm : Tm) (h' : Hp) (nx' : Nat) : Prop :=
  ∃ i : Nat, m = n - i ∧ i ≤ n ∧ tget tm 1 = .int .i64 at_ ∧ tget tm 2 = .int .i64 by_ ∧ tget tm 7 = .pointer (some ⟨b5, 0, none⟩) ∧ tget tm 11 = .slice (some ⟨bl, 0, some 1⟩) N N ∧ tget tm 12 = out ∧ tget tm 13 = .int .i64 (i : Int) ∧ h' = hr ∧ nr ≤ nx'
section
variable {P : Program} {orc : Orc} {s : Bool}
theorem bin_bool_eql {t : TypeId} (ht : isBoolTy P t = true) (a b : Bool) : bin P .eql t (.bool a) (.bool b) = .ok (.bool (a == b)) := by
  show R.of "compared" (bif isBoolTy P t then eqlB a (.bool b) else none) (fun b => rBool b) = _
  rw [ht]; rfl
theorem compsOnly_cv {f fm fl fg fw fc' fk fv fg' ty kt fri f1 f2 f3 fc fi te fgr fr : Nat} (A : CompsAt P orc fri f1 f2 f3 fc fi te fgr fr) (hcf : compAt P f = some (cfCompsOnly fm fl fg fw fc' fk fv)) (ho : orc f = none) (hty : aggOf P ty = some (some 2)) (hcm : compAt P fm = some (cfMake fg' fw ty)) (hom : orc fm = none)
    (hcg : compAt P fg' = some (cfGraph fw ty)) (hog : orc fg' = none) (hcw : compAt P fw = some cfWithin) (how : orc fw = none) (hcl : compAt P fl = some cfLabels) (hol : orc fl = none) (hcG : compAt P fg = some (cfGroups kt)) (hoG : orc fg = none) (hkt : isIntTy P kt = true)
    (hcC : compAt P fc' = some (cfCount fri fgr te)) (hoC : orc fc' = none) (hcK : compAt P fk = some (cfCheck fri fgr fr te)) (hoK : orc fk = none) (hv : orc fv = some gLive) (hb4 : isBoolTy P 4 = true)
    {n V R C at_ by_ : Int} {v : Value} {es : List Edg3} {h : Hp} {nx : Nat} (hes : SlRd h nx v enc3 es) (hby : -9223372036854775808 ≤ by_ ∧ by_ ≤ 9223372036854775807) :
    Cv P orc s f [.agg ⟨[.int .i64 n, v, .int .i64 V, .int .u8 R, .int .u8 C]⟩, .int .i64 at_, .int .i64 by_] h nx TrueK := by
  refine Cv.enter ho hcf ?_
  obtain ⟨q1, q2, q3⟩ := sl_vc hes
  unfold cfCompsOnly
  refine Ev.seq (Ev.regO ?_)
  rw [Ov_alc, alc_box (l := [.int .i64 n, v, .int .i64 V, .int .u8 R, .int .u8 C]) (by simp) (by simp [q2])]
  simp only [Ov_pur, Ov_nil, c_mv, cev_v, putT_some, RK_ok, nextK_normal, nbV_ptr, nbO_ptr, Nat.zero_add, Nat.reduceAdd, setArgs_nil, setArgs_cons]
  refine Ev.genH (fun tm2 h2 => tget tm2 1 = .int .i64 at_ ∧ tget tm2 2 = .int .i64 by_ ∧ tget tm2 3 = .pointer (some ⟨nx, 0, none⟩) ∧ Keep nx h h2 ∧ hget h2 nx = some (.cells [.int .i64 n, v, .int .i64 V, .int .u8 R, .int .u8 C] false))
    ⟨by simp, by simp, by simp, fun c hc => by rw [hgs, if_neg (by omega)], by simp⟩ ?_
  rintro tm2 h2 ⟨t1, t2, t3, hk, g2⟩
  refine Ev.seq (Ev.regO ?_)
  simp only [Ov_red, c_ld, cev_t, putT_some, addrR_ptr, RK_ok, ↓reduceIte, List.length_cons, List.length_nil, List.take_zero, List.take_succ_cons, List.drop_zero, Nat.zero_add, Nat.reduceAdd, t3, cellsOf_some g2, loadC_many, Nat.sub_zero, Nat.le_refl]
  refine Ov_call ?_
  (try simp only [Ov_pur, Ov_alc, Ov_st, Ov_nil, c_mv, c_ext, cev_t, cevs_nil, cevs_cons, putT_some, putT_none, addrR_ptr, tgs, RK_ok, nextK_normal, ↓reduceIte, Nat.reduceEqDiff, alc_new, nbV_ptr, nbO_ptr])
  refine (make_cv hcm hom hty hcg hog hcw how (hes.keep hk (show nx ≤ nx + 1 by omega))).mono ?_
  rintro r h1 nx1 ⟨N, sr, ra, rb, v2, gs, rfl, hN0, hN, hsr, hgl, hok, hgs1, hnx1, hk1⟩
  obtain ⟨p1, p2, p3⟩ := sl_vc hgs1.rd
  simp only [oExtract_tuple, RK_ok, of_some, vc_agg, List.getElem?_cons_zero, List.getElem?_cons_succ]
  rw [RK_st (cs := [.int .i64 0, .slice none 0 0]) (by simp) (by simp [p2]) (by simp) (by simp)]
  simp only [List.take_zero, List.drop_succ_cons, List.drop_nil, List.nil_append, List.append_nil, Nat.zero_add]
  refine Ev.genH (fun tm3 h3 => tget tm3 1 = .int .i64 at_ ∧ tget tm3 2 = .int .i64 by_ ∧ tget tm3 7 = .pointer (some ⟨nx1, 0, none⟩) ∧ hget h3 nx1 = some (.cells [.int .i64 (N : Int), v2] false) ∧ Keep nx1 h1 h3)
    ⟨by simp [t1], by simp [t2], by simp, by simp, fun b hb => by rw [hgs, if_neg (by omega), hgs, if_neg (by omega)]⟩ ?_
  rintro tm3 h3 ⟨u1, u2, u7, g5, hk3⟩
  have hgs3 : SlRd h3 (nx1 + 1) v2 encG gs := hgs1.rd.keep hk3 (by omega)
  have hes' : InR N gs := fun e he => ⟨(hok e he).1, (hok e he).2.1⟩
  obtain ⟨L, hL⟩ := exists_lab hes'
  refine Ev.seq (Ev.regO ?_)
  simp only [Ov_red, c_ld, cev_t, putT_some, addrR_ptr, RK_ok, ↓reduceIte, List.length_cons, List.length_nil, List.take_zero, List.take_succ_cons, List.drop_zero, Nat.zero_add, Nat.reduceAdd, u7, cellsOf_some g5, loadC_many, Nat.sub_zero, Nat.le_refl]
  refine Ov_call ?_
  (try simp only [Ov_pur, Ov_nil, c_mv, cev_t, cevs_nil, cevs_cons, putT_some, tgs, RK_ok, nextK_normal, ↓reduceIte])
  refine (labels_cv hcl hol hgs3 hN0 hN hgl hok hL).mono ?_
  rintro r h4 nx4 ⟨bl, rfl, gl, hbl1, hbl2, hk4⟩
  (try simp only [Ov_pur, Ov_red, Ov_alc, Ov_st, Ov_g, Ov_nil, Dv_pur, Dv_red, Dv_alc, Dv_st, Dv_g, Dv_nil, c_mv, c_bin, c_un, c_conv, c_pick, cPick_bool, c_fld, cFld_agg, c_fldA, c_nilc, nilChk_ptr, c_ext, oExtract_tuple, c_ixA, natR_nat, natR_ofNat, natR_lit, natR_zero, natR_one, oIx_slice, oIx_array, c_ld, c_lens, lenS_slice, cev_t, cev_v, cevs_nil, cevs_cons, putT_some, putT_none, addrR_ptr, moveA_eq, tgs, RK_ok, of_some, bind_ok, ofGet_some, loadC_one, bin_add, bin_sub, bin_lss, bin_leq, bin_gtr, bin_geq, bin_eql, bin_neq, un_not, conv_int, nextK_normal, nextK_exit, nextK_ret, blkK_normal, blkK_ret, blkK_exit, boolIs_t, boolIs_f, boolIs_u, ↓reduceIte, Nat.reduceEqDiff, cpur_build, alc_new, alc_bsl, sliceNB_eq, cfill_nil, cfill_cons, vc_int, vc_slice, vc_agg, vc_bool, vc_ptr, cellV_int, cellV_bool, cellV_slice, cellV_ptr, cellL_nil, cellL_cons, nbV_ptr, nbO_ptr, nbV_slice, nbO_slice, List.getElem?_cons_zero, List.getElem?_cons_succ, List.length_cons, List.length_nil, List.take_zero, List.take_succ_cons, List.drop_zero, List.drop_succ_cons, List.drop_nil, List.nil_append, List.cons_append, List.append_nil, Nat.zero_add, Nat.add_zero, Nat.mul_one, Nat.reduceAdd, Nat.reduceLeDiff, Bool.and_self, Bool.and_true, Bool.true_and, true_and, and_true, cagree_0, cagree_1, cagree_2, sameR_ok, sameV_int, sameV_bool, sameV_slice, Bool.false_eq_true, setArgs_nil, setArgs_cons, Bool.not_true, Bool.not_false, isEffC_pur, isEffC_alc, isEffC_red, isEffC_eff, retK_ret, retK_normal, resVs_tmp, resVs_nil, retV_one, retV_two])
  have hsl : SlRd h4 nx4 (.slice (some ⟨bl, 0, some 1⟩) N N) encI (nats L) := ⟨_, _, by rw [nats_len, hL.len], fun _ => ⟨bl, some 1, false, hbl2, rfl, by rw [flat_ints]; exact gl⟩⟩
  refine Ev.seq (Ev.regO ?_)
  (try simp only [Ov_pur, c_mv, cev_t, putT_some, tgs, RK_ok, ↓reduceIte])
  refine Ov_call ?_
  (try simp only [Ov_pur, Ov_nil, c_mv, cev_t, cevs_nil, cevs_cons, putT_some, tgs, RK_ok, nextK_normal, ↓reduceIte])
  refine (groups_cv hcG hoG hkt hsl (by rw [nats_len, hL.len]; omega)).mono ?_
  rintro out h5 nx5 ⟨sv, hLol, hk5, hnx5⟩
  rw [nats_len, hL.len] at hLol
  have G := grp_lab hL N (Nat.le_refl _)
  (try simp only [Ov_pur, Ov_red, Ov_alc, Ov_st, Ov_g, Ov_nil, Dv_pur, Dv_red, Dv_alc, Dv_st, Dv_g, Dv_nil, c_mv, c_bin, c_un, c_conv, c_pick, cPick_bool, c_fld, cFld_agg, c_fldA, c_nilc, nilChk_ptr, c_ext, oExtract_tuple, c_ixA, natR_nat, natR_ofNat, natR_lit, natR_zero, natR_one, oIx_slice, oIx_array, c_ld, c_lens, lenS_slice, cev_t, cev_v, cevs_nil, cevs_cons, putT_some, putT_none, addrR_ptr, moveA_eq, tgs, RK_ok, of_some, bind_ok, ofGet_some, loadC_one, bin_add, bin_sub, bin_lss, bin_leq, bin_gtr, bin_geq, bin_eql, bin_neq, un_not, conv_int, nextK_normal, nextK_exit, nextK_ret, blkK_normal, blkK_ret, blkK_exit, boolIs_t, boolIs_f, boolIs_u, ↓reduceIte, Nat.reduceEqDiff, cpur_build, alc_new, alc_bsl, sliceNB_eq, cfill_nil, cfill_cons, vc_int, vc_slice, vc_agg, vc_bool, vc_ptr, cellV_int, cellV_bool, cellV_slice, cellV_ptr, cellL_nil, cellL_cons, nbV_ptr, nbO_ptr, nbV_slice, nbO_slice, List.getElem?_cons_zero, List.getElem?_cons_succ, List.length_cons, List.length_nil, List.take_zero, List.take_succ_cons, List.drop_zero, List.drop_succ_cons, List.drop_nil, List.nil_append, List.cons_append, List.append_nil, Nat.zero_add, Nat.add_zero, Nat.mul_one, Nat.reduceAdd, Nat.reduceLeDiff, Bool.and_self, Bool.and_true, Bool.true_and, true_and, and_true, cagree_0, cagree_1, cagree_2, sameR_ok, sameV_int, sameV_bool, sameV_slice, Bool.false_eq_true, setArgs_nil, setArgs_cons, Bool.not_true, Bool.not_false, isEffC_pur, isEffC_alc, isEffC_red, isEffC_eff, retK_ret, retK_normal, resVs_tmp, resVs_nil, retV_one, retV_two])
  have g5a := ((hk5 nx1 (by omega)).trans (hk4 nx1 (by omega))).trans g5
  have gl5 := (hk5 bl (by omega)).trans gl
  have hgs5 : SlRd h5 nx5 v2 encG gs := (hgs3.keep hk4 (by omega)).keep hk5 (by omega)
  refine Ev.cut (OnlJ nx1 bl nx5 (gst (nats L) N).2.length out at_ by_ N h5 0) ?_ ?_
  · refine Ev.seq (Ev.regO ?_)
    simp only [Ov_pur, Ov_nil, c_mv, cev_v, putT_some, RK_ok, nextK_normal]
    refine Ev.forL (OnlJ nx1 bl nx5 (gst (nats L) N).2.length out at_ by_ N h5) ?_ (gst (nats L) N).2.length _ _ _ ⟨0, rfl, by omega, by simp [u1], by simp [u2], by simp [u7], by simp, by simp, by simp, rfl, Nat.le_refl _⟩
    rintro m tm h' nx' ⟨i, rfl, hi, t1, t2, t7, t11, t12, t13, rfl, hnx'⟩
    simp only [Ov_pur, Ov_red, Ov_nil, c_mv, c_bin, cev_t, cev_v, putT_some, tgs, RK_ok, bin_lss, nextK_normal, ↓reduceIte, Nat.reduceEqDiff, t12, t13, show ∀ tm h x, cred P tm h (.lens x) = lenS (cev tm x) from fun _ _ _ => rfl, hLol.lens]
    refine ⟨decide ((i : Int) < ((gst (nats L) N).2.length : Int)), rfl, fun e => ?_, fun e => ?_⟩
    · have : ¬ ((i : Int) < ((gst (nats L) N).2.length : Int)) := of_decide_eq_false e
      exact ⟨i, by omega, hi, by simpa using t1, by simpa using t2, by simpa using t7, by simpa using t11, by simpa using t12, by simpa using t13, rfl, hnx'⟩
    · have hil : i < (gst (nats L) N).2.length := by
        have : (i : Int) < ((gst (nats L) N).2.length : Int) := of_decide_eq_true e
        omega
      have hg : (gst (nats L) N).2[i]? = some ((gst (nats L) N).2[i]'hil) := List.getElem?_eq_getElem _
      generalize (gst (nats L) N).2[i]'hil = g at hg
      obtain ⟨u, rest, rfl, hu⟩ := G.d i g hg
      have hisv : i < sv.length := by rw [hLol.len]; exact hil
      have hs : sv[i]? = some (sv[i]'hisv) := List.getElem?_eq_getElem _
      generalize sv[i]'hisv = sq at hs
      obtain ⟨bo, ho1, ho2, hout, hbo, _⟩ := hLol.out_at hs
      rcases hLol.each i _ _ hs hg with ⟨h0, _⟩ | ⟨b, hb1, hb2, rfl, hb⟩
      · cases h0
      have huN : u < N := by have := lt_of_get hu; rw [hL.len] at this; exact this
      have r0 : (ints (nats (u :: rest)))[0]? = some (.int .i64 (u : Int)) := rfl
      have r1 := ints_get (nats_get hu)
      have rs := svs_get hs
      rw [svV_some] at rs
      have f0 : (((rest.length + 1 : Nat) : Int) == 0) = false := by simp; omega
      have f1 : 0 < rest.length + 1 := by omega
      subst hout
      refine Ev.seq (Ev.regD ?_)
      repeat (first | simp only [Dv_g, Ov_g, putT_some, putT_none, tgs, ↓reduceIte, Nat.reduceEqDiff, boolIs_t, boolIs_f, boolIs_u, Bool.not_true, Bool.not_false, Bool.false_eq_true, isEffC_pur, isEffC_alc, isEffC_red, isEffC_eff] | simp only [Dv_pur, Dv_red, Dv_nil, c_mv, c_bin, c_pick, cPick_bool, c_ixA, natR_nat, natR_zero, oIx_slice, c_ld, c_lens, lenS_slice, cev_t, cev_v, putT_some, addrR_ptr, tgs, RK_ok, ofGet_some, loadC_one, bin_eql, bin_neq, nextK_normal, ↓reduceIte, Nat.reduceEqDiff, List.length_cons, Nat.zero_add, Nat.mul_one, true_and, cagree_0, Bool.false_eq_true, Bool.not_true, t11, t12, t13, hisv, cellsOf_some hbo, rs, f0, f1, cellsOf_some hb, r0, huN, cellsOf_some gl5, r1, beq_self_eq_true])
      refine Ev.cond false (by simp) (by simp) (fun _ => Ev.skip ?_)
      (try simp only [tgs, RK_ok, bin_add, nextK_normal, blkK_normal, ↓reduceIte, Nat.reduceEqDiff, t13])
      refine ⟨(gst (nats L) N).2.length - (i + 1), by omega, i + 1, rfl, by omega, by simpa using t1, by simpa using t2, by simpa using t7, by simpa using t11, by simpa using t12, ?_, rfl, hnx'⟩
      have hgl2 := (gst_len (nats L) N).2.1
      rw [wrapS (by omega) (by omega)]; simp
  · rintro tm h' nx' ⟨i, _, _, t1, t2, t7, t11, t12, t13, rfl, hnx'⟩
    refine Ev.seq (Ev.regO ?_)
    simp only [Ov_pur, Ov_red, c_mv, c_fldA, c_ld, cev_t, putT_some, addrR_ptr, moveA_eq, tgs, RK_ok, ofGet_some, loadC_one, ↓reduceIte, Nat.reduceEqDiff, List.getElem?_cons_zero, Nat.add_zero, t1, t7, t11, cellsOf_some g5a]
    refine Ov_call ?_
    (try simp only [Ov_pur, Ov_red, Ov_st, Ov_nil, c_mv, c_bin, c_ixA, oIx_slice, c_ld, cev_t, cevs_nil, cevs_cons, putT_some, putT_none, tgs, RK_ok, loadC_one, nextK_normal, ↓reduceIte, Nat.reduceEqDiff, Nat.zero_add, Nat.mul_one])
    refine (within_cv hcw how).mono ?_
    rintro r h6 nx6 ⟨rfl, rfl, rfl⟩
    obtain ⟨k, hk0, hkl⟩ := wnF_nat (k := at_) (n := (N : Int))
    have hkl := hkl (by omega)
    have hkN : k < N := by omega
    rw [hk0]
    have hx : L[k]? = some (L[k]'(by rw [hL.len]; exact hkN)) := List.getElem?_eq_getElem _
    generalize L[k]'(by rw [hL.len]; exact hkN) = x at hx
    have hxk := hL.le k x hx
    have rx := ints_get (nats_get hx)
    simp only [natR_nat, addrR_ptr, RK_ok, ofGet_some, bin_add, ↓reduceIte, vc_int, t2, t11, hkN, cellsOf_some gl5, rx]
    rw [RK_st1 gl5 rfl (by rw [ints_len, nats_len, hL.len]; exact hkN), ints_set]
    refine Ev.genH (fun tm9 h9 => tget tm9 2 = .int .i64 by_ ∧ tget tm9 7 = .pointer (some ⟨nx1, 0, none⟩) ∧ tget tm9 11 = .slice (some ⟨bl, 0, some 1⟩) N N ∧ tget tm9 12 = out ∧ hget h9 bl = some (.cells (ints ((nats L).set k (IntKind.wrap .i64 ((x : Int) + by_)))) false) ∧ (∀ b, b ≠ bl → hget h9 b = hget h6 b))
      ⟨by simp [t2], by simp [t7], by simp [t11], by simp [t12], by simp, fun b hb => by rw [hgs, if_neg hb]⟩ ?_
    rintro tm9 h9 ⟨w2, w7, w11, w12, gl9, hfr9⟩
    have g9 := (hfr9 nx1 (by omega)).trans g5a
    have hgs9 : SlRd h9 nx6 v2 encG gs := hgs3.keep (fun b hb => by rw [hfr9 b (by omega), hk5 b (by omega)]; exact hk4 b hb) (by omega)
    have hsl9 : SlRd h9 nx6 (.slice (some ⟨bl, 0, some 1⟩) N N) encI ((nats L).set k (IntKind.wrap .i64 ((x : Int) + by_))) :=
      ⟨_, _, by rw [List.length_set, nats_len, hL.len], fun _ => ⟨bl, some 1, false, by omega, rfl, by rw [flat_ints]; exact gl9⟩⟩
    have hlen : lenS out = .ok (.int .i64 (selfs L N : Int)) := by rw [hLol.lens, G.c]
    refine Ev.seq (Ev.regO ?_)
    refine Ov_call ?_
    simp only [cevs_nil, cevs_cons, cev_t, cev_v, tgs, ↓reduceIte, Nat.reduceEqDiff]
    refine live_cv hv ?_
    repeat (first | simp only [Dv_g, Ov_g, putT_some, putT_none, tgs, ↓reduceIte, Nat.reduceEqDiff, boolIs_t, boolIs_f, boolIs_u, Bool.not_true, Bool.not_false, Bool.false_eq_true, isEffC_pur, isEffC_alc, isEffC_red, isEffC_eff] | simp only [Ov_pur, Ov_red, c_mv, c_ld, cev_t, putT_some, addrR_ptr, tgs, RK_ok, ↓reduceIte, Nat.reduceEqDiff, List.length_cons, List.length_nil, List.take_zero, List.take_succ_cons, List.drop_zero, Nat.zero_add, Nat.reduceAdd, w7, w12, show ∀ tm h x, cred P tm h (.lens x) = lenS (cev tm x) from fun _ _ _ => rfl, hlen, cellsOf_some g9, loadC_many, Nat.sub_zero, Nat.le_refl])
    refine Ov_call ?_
    simp only [cevs_nil, cevs_cons, cev_t, cev_v, tgs, ↓reduceIte, Nat.reduceEqDiff]
    refine (count_cv A hcC hoC hgs9 hN hgl hok hL).mono ?_
    rintro r hA nxA ⟨rfl, hkA, hnxA⟩
    have gA := (hkA nx1 (by omega)).trans g9
    repeat (first | simp only [Dv_g, Ov_g, putT_some, putT_none, tgs, ↓reduceIte, Nat.reduceEqDiff, boolIs_t, boolIs_f, boolIs_u, Bool.not_true, Bool.not_false, Bool.false_eq_true, isEffC_pur, isEffC_alc, isEffC_red, isEffC_eff] | simp only [Ov_pur, Ov_red, c_mv, c_bin, c_pick, cPick_bool, c_ld, cev_t, putT_some, addrR_ptr, tgs, RK_ok, bin_eql, ↓reduceIte, Nat.reduceEqDiff, List.length_cons, List.length_nil, List.take_zero, List.take_succ_cons, List.drop_zero, Nat.zero_add, Nat.reduceAdd, w7, w11, cellsOf_some gA, loadC_many, Nat.sub_zero, Nat.le_refl, beq_self_eq_true])
    refine Ov_call ?_
    simp only [cevs_nil, cevs_cons, cev_t, cev_v, tgs, ↓reduceIte, Nat.reduceEqDiff]
    refine (check_cv A hcK hoK (hgs9.keep hkA hnxA) (hsl9.keep hkA hnxA) hN0 hN hgl hok hL).mono ?_
    rintro r hB nxB ⟨rfl, hkB, hnxB⟩
    have hfin : (decide ((nats L).set k (IntKind.wrap .i64 ((x : Int) + by_)) = nats L) == (by_ == 0)) = true := by
      have e1 : (nats L).set k (IntKind.wrap .i64 ((x : Int) + by_)) = nats L ↔ by_ = 0 := by
        rw [← wrap_ne (a := x) (by omega) hby]
        constructor
        · intro e
          have e2 := congrArg (fun l : List Int => l[k]?) e
          have e2 : ((nats L).set k (IntKind.wrap .i64 ((x : Int) + by_)))[k]? = (nats L)[k]? := e2
          rw [List.getElem?_set, if_pos rfl, if_pos (by rw [nats_len, hL.len]; exact hkN), nats_get hx] at e2
          injection e2
        · intro e
          rw [e, nats_set]
          congr 1
          refine List.ext_getElem? fun j => ?_
          rw [List.getElem?_set]
          by_cases hj : k = j
          · subst hj; rw [if_pos rfl, if_pos (by rw [hL.len]; exact hkN), hx]
          · rw [if_neg hj]
      by_cases hz : by_ = 0
      · rw [decide_eq_true (e1.2 hz), hz]; rfl
      · rw [decide_eq_false (fun e => hz (e1.1 e))]
        have : (by_ == 0) = false := by simp [hz]
        rw [this]; rfl
    simp only [Ov_pur, Ov_g, Ov_nil, c_mv, c_bin, c_pick, cPick_bool, cev_t, cev_v, putT_some, tgs, RK_ok, bin_eql, nextK_normal, boolIs_t, ↓reduceIte, Nat.reduceEqDiff, w2, bin_bool_eql hb4, hfin]
    refine Ev.ret ?_
    (try simp only [tgs, RK_ok, bind_ok, ↓reduceIte, retK_ret, resVs_tmp, resVs_nil, retV_one])
    rfl
end
end Go.Ax

/-! part AxH17 -/
namespace Go.Ax
open Go
set_option linter.unusedSimpArgs false
set_option linter.unusedVariables false

/-! # SameVals and SameInts -/
def cfSame (ty : Nat) : CF := { res := [.tmp 4], body :=
 (.seq (.regO [⟨none, (some 4), 0, .pur (.mv (.v (.bool false)))⟩])
 (.seq (.seq (.regO [⟨none, (some 6), 0, .pur (.mv (.t 0))⟩,
   ⟨none, (some 7), 0, .red (.lens (.t 6))⟩,
   ⟨none, (some 8), 0, .pur (.mv (.t 1))⟩,
   ⟨none, (some 9), 0, .red (.lens (.t 8))⟩,
   ⟨none, (some 10), 0, .pur (.bin .neq 3 (.t 7) (.t 9))⟩])
 (.cond (.t 10)
  (.seq (.regO [⟨none, (some 4), 0, .pur (.mv (.v (.bool false)))⟩])
  .ret)
  .skip))
 (.seq (.seq (.regO [⟨none, (some 5), 0, .pur (.mv (.v (.int .i64 0)))⟩])
 (.block 0
  (.loop
   (.seq (.seq (.regO [⟨none, (some 11), 0, .pur (.mv (.t 5))⟩,
     ⟨none, (some 12), 0, .pur (.mv (.t 0))⟩,
     ⟨none, (some 13), 0, .red (.lens (.t 12))⟩,
     ⟨none, (some 14), 0, .pur (.bin .lss 3 (.t 11) (.t 13))⟩])
   (.cond (.t 14)
    .skip
    (.exit 0)))
   (.seq (.block 1
    (.seq (.regD [⟨none, (some 17), 0, .pur (.mv (.t 0))⟩,
      ⟨none, (some 18), 0, .pur (.mv (.t 5))⟩,
      ⟨none, (some 19), 0, .pur (.ixA (.slice 1) (.t 17) (.t 18))⟩,
      ⟨none, (some 20), 0, .red (.ld none (.t 19))⟩,
      ⟨none, (some 21), 0, .pur (.mv (.t 1))⟩,
      ⟨none, (some 22), 0, .pur (.mv (.t 5))⟩,
      ⟨none, (some 23), 0, .pur (.ixA (.slice 1) (.t 21) (.t 22))⟩,
      ⟨none, (some 24), 0, .red (.ld none (.t 23))⟩,
      ⟨none, (some 25), 0, .pur (.bin .neq ty (.t 20) (.t 24))⟩])
    (.cond (.t 25)
     (.seq (.regO [⟨none, (some 4), 0, .pur (.mv (.v (.bool false)))⟩])
     .ret)
     .skip)))
   (.regO [⟨none, (some 15), 0, .pur (.mv (.t 5))⟩,
     ⟨none, (some 16), 0, .pur (.bin .add 3 (.t 15) (.v (.int .i64 1)))⟩,
     ⟨none, (some 5), 0, .pur (.mv (.t 16))⟩]))))))
 (.seq (.regO [⟨none, (some 4), 0, .pur (.mv (.v (.bool true)))⟩])
 .ret)))) }
def SamJ (va vb : Value) (l1 l2 : List Int) (nx : Nat) (h : Hp) (m : Nat) (tm : Tm) (h' : Hp) (nx' : Nat) : Prop :=
  ∃ i : Nat, m = l1.length - i ∧ i ≤ l1.length ∧ tget tm 0 = va ∧ tget tm 1 = vb ∧ tget tm 5 = .int .i64 (i : Int) ∧ (∀ k, k < i → l1[k]? = l2[k]?) ∧ Keep nx h h' ∧ nx ≤ nx'
section
variable {P : Program} {orc : Orc} {s : Bool}
theorem same_cv {f ty : Nat} (hcf : compAt P f = some (cfSame ty)) (ho : orc f = none) {va vb : Value} {l1 l2 : List Int} {h : Hp} {nx : Nat} (h1 : SlRd h nx va encI l1) (h2 : SlRd h nx vb encI l2) (hb : l1.length ≤ 100000) :
    Cv P orc s f [va, vb] h nx (StillK (.bool (decide (l1 = l2))) nx h) := by
  refine Cv.enter ho hcf ?_
  unfold cfSame
  obtain ⟨a1, cap1, rfl, _⟩ := id h1
  obtain ⟨a2, cap2, rfl, _⟩ := id h2
  refine Ev.seq (Ev.regO ?_)
  simp only [Ov_pur, Ov_nil, c_mv, cev_v, putT_some, RK_ok, nextK_normal, Nat.zero_add, Nat.reduceAdd, setArgs_nil, setArgs_cons]
  refine Ev.seq (Ev.seq (Ev.regO ?_))
  simp only [Ov_pur, Ov_red, Ov_nil, c_mv, c_bin, c_lens, lenS_slice, cev_t, putT_some, tgs, RK_ok, bin_neq, nextK_normal, ↓reduceIte, Nat.reduceEqDiff]
  by_cases hlen : l1.length ≠ l2.length
  · refine Ev.cond true (by simp; omega) (fun _ => ?_) (by simp)
    refine Ev.seq (Ev.regO ?_)
    simp only [Ov_pur, Ov_nil, c_mv, cev_v, putT_some, RK_ok, nextK_normal]
    refine Ev.ret ?_
    simp only [tgs, RK_ok, bind_ok, nextK_ret, ↓reduceIte, retK_ret, resVs_tmp, resVs_nil, retV_one]
    refine ⟨?_, Keep.refl _ _, Nat.le_refl _⟩
    rw [decide_eq_false]
    intro e
    exact hlen (congrArg List.length e)
  · have hlen : l1.length = l2.length := by omega
    refine Ev.cond false (by simp [hlen]) (by simp [hlen]) (fun _ => Ev.skip ?_)
    (try simp only [nextK_normal])
    refine Ev.cut (SamJ (.slice a1 l1.length cap1) (.slice a2 l2.length cap2) l1 l2 nx h 0) ?_ ?_
    · refine Ev.seq (Ev.regO ?_)
      simp only [Ov_pur, Ov_nil, c_mv, cev_v, putT_some, RK_ok, nextK_normal]
      refine Ev.forL (SamJ (.slice a1 l1.length cap1) (.slice a2 l2.length cap2) l1 l2 nx h) ?_ l1.length _ _ _ ⟨0, rfl, by omega, by simp, by simp, by simp, fun k hk => by omega, Keep.refl _ _, Nat.le_refl _⟩
      rintro m tm h' nx' ⟨i, rfl, hi, t0, t1, t5, hal, hk, hnx⟩
      simp only [Ov_pur, Ov_red, Ov_nil, c_mv, c_bin, c_lens, lenS_slice, cev_t, cev_v, putT_some, tgs, RK_ok, bin_lss, nextK_normal, ↓reduceIte, Nat.reduceEqDiff, t0, t5]
      refine ⟨decide ((i : Int) < l1.length), rfl, fun e => ?_, fun e => ?_⟩
      · have : ¬ ((i : Int) < l1.length) := of_decide_eq_false e
        exact ⟨i, by omega, hi, by simpa using t0, by simpa using t1, by simpa using t5, hal, hk, hnx⟩
      · have hil : i < l1.length := by
          have : (i : Int) < l1.length := of_decide_eq_true e
          omega
        obtain ⟨x, hx⟩ : ∃ x, l1[i]? = some x := ⟨_, List.getElem?_eq_getElem hil⟩
        obtain ⟨y, hy⟩ : ∃ y, l2[i]? = some y := ⟨_, List.getElem?_eq_getElem (by omega)⟩
        obtain ⟨_, b1, sp1, ro1, cp1, hbn1, hveq1, hb1⟩ := h1.at hx
        injection hveq1 with e1 e2 e3
        subst e1
        obtain ⟨_, b2, sp2, ro2, cp2, hbn2, hveq2, hb2⟩ := h2.at hy
        injection hveq2 with e1 e2 e3
        subst e1
        rw [flat_ints] at hb1 hb2
        have g1 := (hk b1 hbn1).trans hb1
        have g2 := (hk b2 hbn2).trans hb2
        have hil2 : i < l2.length := by omega
        refine Ev.seq (Ev.regD ?_)
        simp only [Dv_pur, Dv_red, Dv_nil, c_mv, c_bin, c_ixA, natR_nat, oIx_slice, c_ld, cev_t, putT_some, addrR_ptr, tgs, RK_ok, ofGet_some, loadC_one, bin_neq, nextK_normal, ↓reduceIte, Nat.reduceEqDiff, Nat.zero_add, Nat.mul_one, true_and, cagree_0, t0, t1, t5, hil, hil2, cellsOf_some g1, cellsOf_some g2, ints_get hx, ints_get hy]
        by_cases hxy : x = y
        · refine Ev.cond false (by simp [hxy]) (by simp [hxy]) (fun _ => Ev.skip ?_)
          (try simp only [tgs, RK_ok, bin_add, nextK_normal, blkK_normal, ↓reduceIte, Nat.reduceEqDiff, t5])
          refine ⟨l1.length - (i + 1), by omega, i + 1, rfl, by omega, by simpa using t0, by simpa using t1, ?_, fun k hk2 => ?_, hk, hnx⟩
          · rw [wrapS (by omega) (by omega)]; simp
          · by_cases hki : k < i
            · exact hal k hki
            · have : k = i := by omega
              subst this
              rw [hx, hy, hxy]
        · refine Ev.cond true (by simp [hxy]) (fun _ => ?_) (by simp [hxy])
          refine Ev.seq (Ev.regO ?_)
          simp only [Ov_pur, Ov_nil, c_mv, cev_v, putT_some, RK_ok, nextK_normal]
          refine Ev.ret ?_
          simp only [tgs, RK_ok, bind_ok, nextK_ret, blkK_ret, ↓reduceIte, retK_ret, resVs_tmp, resVs_nil, retV_one]
          refine ⟨?_, hk, hnx⟩
          rw [decide_eq_false]
          intro e
          rw [e, hy] at hx
          cases hx
          exact hxy rfl
    · rintro tm h' nx' ⟨i, hi0, hi, t0, t1, t5, hal, hk, hnx⟩
      have : i = l1.length := by omega
      subst this
      refine Ev.seq (Ev.regO ?_)
      simp only [Ov_pur, Ov_nil, c_mv, cev_v, putT_some, RK_ok, nextK_normal]
      refine Ev.ret ?_
      simp only [tgs, RK_ok, bind_ok, ↓reduceIte, retK_ret, resVs_tmp, resVs_nil, retV_one]
      refine ⟨?_, hk, hnx⟩
      rw [decide_eq_true]
      refine List.ext_getElem? fun k => ?_
      by_cases hkl : k < l1.length
      · exact hal k hkl
      · rw [List.getElem?_eq_none (by omega), List.getElem?_eq_none (by omega)]
end
end Go.Ax

/-! part AxH18 -/
namespace Go.Ax
open Go
set_option linter.unusedSimpArgs false
set_option linter.unusedVariables false

/-! # ref05.Right -/
def cfRefRight : CF := { res := [.tmp 2], body :=
 (.seq (.regO [⟨none, (some 1), 0, .alc (.box (.t 0))⟩,
   ⟨none, (some 2), 0, .pur (.mv (.v (.int .i64 0)))⟩])
 (.seq (.seq (.regO [⟨none, (some 6), 0, .pur (.fldA 0 (.t 1))⟩,
   ⟨none, (some 7), 0, .red (.ld none (.t 6))⟩,
   ⟨none, (some 8), 0, .pur (.bin .lss 3 (.t 7) (.v (.int .i64 0)))⟩])
 (.cond (.t 8)
  (.seq (.regO [⟨none, (some 2), 0, .pur (.mv (.v (.int .i64 3)))⟩])
  .ret)
  .skip))
 (.seq (.seq (.regO [⟨none, (some 9), 0, .pur (.fldA 0 (.t 1))⟩,
   ⟨none, (some 10), 0, .red (.ld none (.t 9))⟩,
   ⟨none, (some 11), 0, .pur (.bin .gtr 3 (.t 10) (.v (.int .i64 4096)))⟩,
   ⟨none, (some 12), 0, .pur (.mv (.t 11))⟩,
   ⟨(some (12, false)), (some 13), 0, .pur (.fldA 1 (.t 1))⟩,
   ⟨(some (12, false)), (some 14), 0, .red (.ld none (.t 13))⟩,
   ⟨(some (12, false)), (some 15), 0, .red (.lens (.t 14))⟩,
   ⟨(some (12, false)), (some 16), 0, .pur (.bin .gtr 3 (.t 15) (.v (.int .i64 65536)))⟩,
   ⟨none, (some 17), 0, .pur (.pick (.t 12) (.v (.bool true)) (.t 16))⟩])
 (.cond (.t 17)
  (.seq (.regO [⟨none, (some 2), 0, .pur (.mv (.v (.int .i64 5)))⟩])
  .ret)
  .skip))
 (.seq (.seq (.regO [⟨none, (some 3), 0, .pur (.mv (.v (.int .i64 0)))⟩])
 (.block 0
  (.loop
   (.seq (.seq (.regO [⟨none, (some 18), 0, .pur (.mv (.t 3))⟩,
     ⟨none, (some 19), 0, .pur (.fldA 1 (.t 1))⟩,
     ⟨none, (some 20), 0, .red (.ld none (.t 19))⟩,
     ⟨none, (some 21), 0, .red (.lens (.t 20))⟩,
     ⟨none, (some 22), 0, .pur (.bin .lss 3 (.t 18) (.t 21))⟩])
   (.cond (.t 22)
    .skip
    (.exit 0)))
   (.seq (.block 1
    (.seq (.regO [⟨none, (some 25), 0, .pur (.fldA 1 (.t 1))⟩,
      ⟨none, (some 26), 0, .red (.ld none (.t 25))⟩,
      ⟨none, (some 27), 0, .pur (.mv (.t 3))⟩,
      ⟨none, (some 28), 0, .pur (.ixA (.slice 3) (.t 26) (.t 27))⟩,
      ⟨none, (some 29), 0, .red (.ld (some 3) (.t 28))⟩,
      ⟨none, (some 4), 0, .alc (.new [(.int .i64 0), (.int .i64 0), (.int .i64 0)])⟩,
      ⟨none, none, 0, .eff (.st 3 (.t 4) (.t 29))⟩])
    (.seq (.regO [⟨none, (some 30), 0, .pur (.fldA 0 (.t 4))⟩,
      ⟨none, (some 31), 0, .red (.ld none (.t 30))⟩,
      ⟨none, (some 32), 0, .pur (.bin .lss 3 (.t 31) (.v (.int .i64 0)))⟩,
      ⟨none, (some 33), 0, .pur (.mv (.t 32))⟩,
      ⟨(some (33, false)), (some 34), 0, .pur (.fldA 0 (.t 4))⟩,
      ⟨(some (33, false)), (some 35), 0, .red (.ld none (.t 34))⟩,
      ⟨(some (33, false)), (some 36), 0, .pur (.fldA 0 (.t 1))⟩,
      ⟨(some (33, false)), (some 37), 0, .red (.ld none (.t 36))⟩,
      ⟨(some (33, false)), (some 38), 0, .pur (.bin .geq 3 (.t 35) (.t 37))⟩,
      ⟨none, (some 39), 0, .pur (.pick (.t 33) (.v (.bool true)) (.t 38))⟩,
      ⟨none, (some 40), 0, .pur (.mv (.t 39))⟩,
      ⟨(some (40, false)), (some 41), 0, .pur (.fldA 1 (.t 4))⟩,
      ⟨(some (40, false)), (some 42), 0, .red (.ld none (.t 41))⟩,
      ⟨(some (40, false)), (some 43), 0, .pur (.bin .lss 3 (.t 42) (.v (.int .i64 0)))⟩,
      ⟨none, (some 44), 0, .pur (.pick (.t 40) (.v (.bool true)) (.t 43))⟩,
      ⟨none, (some 45), 0, .pur (.mv (.t 44))⟩,
      ⟨(some (45, false)), (some 46), 0, .pur (.fldA 1 (.t 4))⟩,
      ⟨(some (45, false)), (some 47), 0, .red (.ld none (.t 46))⟩,
      ⟨(some (45, false)), (some 48), 0, .pur (.fldA 0 (.t 1))⟩,
      ⟨(some (45, false)), (some 49), 0, .red (.ld none (.t 48))⟩,
      ⟨(some (45, false)), (some 50), 0, .pur (.bin .geq 3 (.t 47) (.t 49))⟩,
      ⟨none, (some 51), 0, .pur (.pick (.t 45) (.v (.bool true)) (.t 50))⟩])
    (.cond (.t 51)
     (.seq (.regO [⟨none, (some 2), 0, .pur (.mv (.v (.int .i64 3)))⟩])
     .ret)
     .skip))))
   (.regO [⟨none, (some 23), 0, .pur (.mv (.t 3))⟩,
     ⟨none, (some 24), 0, .pur (.bin .add 3 (.t 23) (.v (.int .i64 1)))⟩,
     ⟨none, (some 3), 0, .pur (.mv (.t 24))⟩]))))))
 (.seq (.seq (.regO [⟨none, (some 5), 0, .pur (.mv (.v (.int .i64 0)))⟩])
 (.block 2
  (.loop
   (.seq (.seq (.regO [⟨none, (some 52), 0, .pur (.mv (.t 5))⟩,
     ⟨none, (some 53), 0, .pur (.fldA 1 (.t 1))⟩,
     ⟨none, (some 54), 0, .red (.ld none (.t 53))⟩,
     ⟨none, (some 55), 0, .red (.lens (.t 54))⟩,
     ⟨none, (some 56), 0, .pur (.bin .lss 3 (.t 52) (.t 55))⟩])
   (.cond (.t 56)
    .skip
    (.exit 2)))
   (.seq (.block 3
    (.seq (.regO [⟨none, (some 59), 0, .pur (.fldA 1 (.t 1))⟩,
      ⟨none, (some 60), 0, .red (.ld none (.t 59))⟩,
      ⟨none, (some 61), 0, .pur (.mv (.t 5))⟩,
      ⟨none, (some 62), 0, .pur (.ixA (.slice 3) (.t 60) (.t 61))⟩,
      ⟨none, (some 63), 0, .pur (.fldA 2 (.t 62))⟩,
      ⟨none, (some 64), 0, .red (.ld none (.t 63))⟩,
      ⟨none, (some 65), 0, .pur (.bin .lss 2 (.t 64) (.v (.int .i64 0)))⟩,
      ⟨none, (some 66), 0, .pur (.mv (.t 65))⟩,
      ⟨(some (66, false)), (some 67), 0, .pur (.fldA 1 (.t 1))⟩,
      ⟨(some (66, false)), (some 68), 0, .red (.ld none (.t 67))⟩,
      ⟨(some (66, false)), (some 69), 0, .pur (.mv (.t 5))⟩,
      ⟨(some (66, false)), (some 70), 0, .pur (.ixA (.slice 3) (.t 68) (.t 69))⟩,
      ⟨(some (66, false)), (some 71), 0, .pur (.fldA 2 (.t 70))⟩,
      ⟨(some (66, false)), (some 72), 0, .red (.ld none (.t 71))⟩,
      ⟨(some (66, false)), (some 73), 0, .pur (.bin .gtr 2 (.t 72) (.v (.int .i64 2147483647)))⟩,
      ⟨none, (some 74), 0, .pur (.pick (.t 66) (.v (.bool true)) (.t 73))⟩])
    (.cond (.t 74)
     (.seq (.regO [⟨none, (some 2), 0, .pur (.mv (.v (.int .i64 7)))⟩])
     .ret)
     .skip)))
   (.regO [⟨none, (some 57), 0, .pur (.mv (.t 5))⟩,
     ⟨none, (some 58), 0, .pur (.bin .add 3 (.t 57) (.v (.int .i64 1)))⟩,
     ⟨none, (some 5), 0, .pur (.mv (.t 58))⟩]))))))
 (.seq (.regO [⟨none, (some 2), 0, .pur (.mv (.v (.int .i64 0)))⟩])
 .ret)))))) }
def RigJ (r N len nx : Nat) (v2 : Value) (h : Hp) (m : Nat) (tm : Tm) (h' : Hp) (nx' : Nat) : Prop :=
  ∃ i : Nat, m = len - i ∧ i ≤ len ∧ tget tm 1 = .pointer (some ⟨nx, 0, none⟩) ∧ tget tm r = .int .i64 (i : Int) ∧ hget h' nx = some (.cells [.int .i64 (N : Int), v2] false) ∧ Keep nx h h' ∧ nx + 1 ≤ nx'
section
variable {P : Program} {orc : Orc} {s : Bool}
theorem refRight_cv {f : Nat} (hcf : compAt P f = some cfRefRight) (ho : orc f = none) {N : Nat} {v : Value} {gs : List GE} {h : Hp} {nx : Nat} (hv : SlRd h nx v encG gs) (hN : N < 24) (hl : gs.length ≤ 60) (hok : ∀ g ∈ gs, GOk N g) :
    Cv P orc s f [.agg ⟨[.int .i64 (N : Int), v]⟩] h nx (StillK (.int .i64 0) nx h) := by
  refine Cv.enter ho hcf ?_
  unfold cfRefRight
  obtain ⟨a, cap, rfl, _⟩ := id hv
  refine Ev.seq (Ev.regO ?_)
  rw [Ov_alc, alc_box (l := [.int .i64 (N : Int), .slice a gs.length cap]) (by simp) (by simp)]
  simp only [Ov_pur, Ov_nil, c_mv, cev_v, putT_some, RK_ok, nextK_normal, nbV_ptr, nbO_ptr, Nat.zero_add, setArgs_nil, setArgs_cons]
  refine Ev.genH (fun tm2 h2 => tget tm2 1 = .pointer (some ⟨nx, 0, none⟩) ∧ hget h2 nx = some (.cells [.int .i64 (N : Int), .slice a gs.length cap] false) ∧ Keep nx h h2) ⟨by simp, by simp, fun c hc => by rw [hgs, if_neg (by omega)]⟩ ?_
  rintro tm2 h2 ⟨t1, g1, hk⟩
  refine Ev.seq (Ev.seq (Ev.regO ?_))
  simp only [Ov_pur, Ov_red, Ov_nil, c_bin, c_fldA, c_ld, cev_t, cev_v, putT_some, addrR_ptr, moveA_eq, tgs, RK_ok, ofGet_some, loadC_one, bin_lss, nextK_normal, ↓reduceIte, List.getElem?_cons_zero, Nat.add_zero, t1, cellsOf_some g1]
  refine Ev.cond false (by simp) (by simp) (fun _ => Ev.skip ?_)
  (try simp only [nextK_normal])
  refine Ev.seq (Ev.seq (Ev.regO ?_))
  have f1 : decide ((4096 : Int) < N) = false := by simp; omega
  have f2 : decide ((65536 : Int) < gs.length) = false := by simp; omega
  repeat (first | simp only [Dv_g, Ov_g, putT_some, putT_none, tgs, ↓reduceIte, Nat.reduceEqDiff, boolIs_t, boolIs_f, boolIs_u, Bool.not_true, Bool.not_false, Bool.false_eq_true, isEffC_pur, isEffC_alc, isEffC_red, isEffC_eff] | simp only [Ov_pur, Ov_red, Ov_nil, c_mv, c_bin, c_pick, cPick_bool, c_fldA, c_ld, c_lens, lenS_slice, cev_t, cev_v, putT_some, addrR_ptr, moveA_eq, tgs, RK_ok, ofGet_some, loadC_one, bin_gtr, nextK_normal, ↓reduceIte, Nat.reduceEqDiff, List.getElem?_cons_zero, List.getElem?_cons_succ, Nat.zero_add, Nat.add_zero, Bool.false_eq_true, t1, cellsOf_some g1, f1, f2])
  refine Ev.cond false (by simp) (by simp) (fun _ => Ev.skip ?_)
  (try simp only [nextK_normal])
  refine Ev.cut (RigJ 3 N gs.length nx (.slice a gs.length cap) h 0) ?_ ?_
  · refine Ev.seq (Ev.regO ?_)
    simp only [Ov_pur, Ov_nil, c_mv, cev_v, putT_some, RK_ok, nextK_normal]
    refine Ev.forL (RigJ 3 N gs.length nx (.slice a gs.length cap) h) ?_ gs.length _ _ _ ⟨0, rfl, by omega, by simpa using t1, by simp, g1, hk, Nat.le_refl _⟩
    rintro m tm h' nx' ⟨i, rfl, hi, t1, t3, g1, hk, hnx⟩
    simp only [Ov_pur, Ov_red, Ov_nil, c_mv, c_bin, c_fldA, c_ld, c_lens, lenS_slice, cev_t, cev_v, putT_some, addrR_ptr, moveA_eq, tgs, RK_ok, ofGet_some, loadC_one, bin_lss, nextK_normal, ↓reduceIte, Nat.reduceEqDiff, List.getElem?_cons_zero, List.getElem?_cons_succ, Nat.zero_add, t1, t3, cellsOf_some g1]
    refine ⟨decide ((i : Int) < gs.length), rfl, fun e => ?_, fun e => ?_⟩
    · have : ¬ ((i : Int) < gs.length) := of_decide_eq_false e
      exact ⟨i, by omega, hi, by simpa using t1, by simpa using t3, g1, hk, hnx⟩
    · have hil : i < gs.length := by
        have : (i : Int) < gs.length := of_decide_eq_true e
        omega
      obtain ⟨x, hx⟩ : ∃ x, gs[i]? = some x := ⟨_, List.getElem?_eq_getElem hil⟩
      obtain ⟨_, bx, spx, rox, capx, hbn, hveq, hbh⟩ := hv.at hx
      injection hveq with e1 e2 e3
      subst e1
      have hb' := (hk bx hbn).trans hbh
      obtain ⟨okf, okt, _, _⟩ := hok x (List.mem_of_getElem? hx)
      refine Ev.genT (fun tm2 => tget tm2 1 = tget tm 1 ∧ tget tm2 3 = tget tm 3) (by simp) ?_
      rintro tm2 ⟨u1, u3⟩
      rw [t1] at u1; rw [t3] at u3
      refine Ev.seq (Ev.regO ?_)
      simp only [Ov_pur, Ov_red, Ov_alc, Ov_st, Ov_nil, c_mv, c_fldA, c_ixA, natR_nat, oIx_slice, c_ld, cev_t, putT_some, putT_none, addrR_ptr, moveA_eq, tgs, RK_ok, ofGet_some, loadC_one, nextK_normal, ↓reduceIte, Nat.reduceEqDiff, alc_new, vc_agg, nbV_ptr, nbO_ptr, List.getElem?_cons_zero, List.getElem?_cons_succ, Nat.zero_add, u1, u3, cellsOf_some g1, hil, cellsOf_some hb', load_flat' (enc := encG) (k := 3) (fun _ => rfl) hx]
      rw [RK_st (cs := [.int .i64 0, .int .i64 0, .int .i64 0]) (by simp) (by simp [encG]) (by simp [encG]) (by simp)]
      refine Ev.genH (fun tm3 h3 => tget tm3 1 = .pointer (some ⟨nx, 0, none⟩) ∧ tget tm3 3 = .int .i64 (i : Int) ∧ tget tm3 4 = .pointer (some ⟨nx', 0, none⟩) ∧ (∀ b2, b2 < nx' → hget h3 b2 = hget h' b2) ∧ hget h3 nx' = some (.cells (encG x) false))
        ⟨by simp [u1], by simp [u3], by simp, fun b2 hb2 => by rw [hgs, if_neg (by omega), hgs, if_neg (by omega)], by simp [encG]⟩ ?_
      rintro tm3 h3 ⟨w1, w3, w4, hold, hnew⟩
      have g1' : hget h3 nx = some (.cells [.int .i64 (N : Int), .slice (some ⟨bx, 0, spx⟩) gs.length cap] false) := (hold nx (by omega)).trans g1
      have hnew' : hget h3 nx' = some (.cells [.int .i64 (x.f : Int), .int .i64 (x.t : Int), .int .i64 x.w] false) := hnew
      have d1 : decide ((x.f : Int) < 0) = false := by simp
      have d2 : decide ((x.f : Int) < N) = true := by simp; omega
      have d3 : decide ((x.t : Int) < 0) = false := by simp
      have d4 : decide ((x.t : Int) < N) = true := by simp; omega
      refine Ev.seq (Ev.regO ?_)
      repeat (first | simp only [Dv_g, Ov_g, putT_some, putT_none, tgs, ↓reduceIte, Nat.reduceEqDiff, boolIs_t, boolIs_f, boolIs_u, Bool.not_true, Bool.not_false, Bool.false_eq_true, isEffC_pur, isEffC_alc, isEffC_red, isEffC_eff] | simp only [Ov_pur, Ov_red, Ov_nil, c_mv, c_bin, c_pick, cPick_bool, c_fldA, c_ld, cev_t, cev_v, putT_some, addrR_ptr, moveA_eq, tgs, RK_ok, ofGet_some, loadC_one, bin_lss, bin_geq, nextK_normal, ↓reduceIte, Nat.reduceEqDiff, List.getElem?_cons_zero, List.getElem?_cons_succ, Nat.zero_add, Nat.add_zero, Bool.false_eq_true, Bool.not_true, w1, w4, cellsOf_some g1', cellsOf_some hnew', d1, d2, d3, d4])
      refine Ev.cond false (by simp) (by simp) (fun _ => Ev.skip ?_)
      (try simp only [tgs, RK_ok, bin_add, nextK_normal, blkK_normal, ↓reduceIte, Nat.reduceEqDiff, w3])
      refine ⟨gs.length - (i + 1), by omega, i + 1, rfl, by omega, by simpa using w1, ?_, g1', fun b2 hb2 => ?_, by omega⟩
      · rw [wrapS (by omega) (by omega)]; simp
      · rw [hold b2 (by omega)]; exact hk b2 hb2
  · rintro tm h' nx' ⟨i, hi0, hi, t1, t3, g1, hk, hnx⟩
    refine Ev.cut (RigJ 5 N gs.length nx (.slice a gs.length cap) h 0) ?_ ?_
    · refine Ev.seq (Ev.regO ?_)
      simp only [Ov_pur, Ov_nil, c_mv, cev_v, putT_some, RK_ok, nextK_normal]
      refine Ev.forL (RigJ 5 N gs.length nx (.slice a gs.length cap) h) ?_ gs.length _ _ _ ⟨0, rfl, by omega, by simpa using t1, by simp, g1, hk, hnx⟩
      rintro m tm h' nx' ⟨i, rfl, hi, t1, t5, g1, hk, hnx⟩
      simp only [Ov_pur, Ov_red, Ov_nil, c_mv, c_bin, c_fldA, c_ld, c_lens, lenS_slice, cev_t, cev_v, putT_some, addrR_ptr, moveA_eq, tgs, RK_ok, ofGet_some, loadC_one, bin_lss, nextK_normal, ↓reduceIte, Nat.reduceEqDiff, List.getElem?_cons_zero, List.getElem?_cons_succ, Nat.zero_add, t1, t5, cellsOf_some g1]
      refine ⟨decide ((i : Int) < gs.length), rfl, fun e => ?_, fun e => ?_⟩
      · have : ¬ ((i : Int) < gs.length) := of_decide_eq_false e
        exact ⟨i, by omega, hi, by simpa using t1, by simpa using t5, g1, hk, hnx⟩
      · have hil : i < gs.length := by
          have : (i : Int) < gs.length := of_decide_eq_true e
          omega
        obtain ⟨x, hx⟩ : ∃ x, gs[i]? = some x := ⟨_, List.getElem?_eq_getElem hil⟩
        obtain ⟨_, bx, spx, rox, capx, hbn, hveq, hbh⟩ := hv.at hx
        injection hveq with e1 e2 e3
        subst e1
        have hb' := (hk bx hbn).trans hbh
        obtain ⟨_, _, okw1, okw2⟩ := hok x (List.mem_of_getElem? hx)
        have d1 : decide (x.w < 0) = false := by simp; omega
        have d2 : decide ((2147483647 : Int) < x.w) = false := by simp; omega
        have hfl : (flat encG gs)[i * 3 + 2]? = some (.int .i64 x.w) := cell_get (enc := encG) (k := 3) (fun _ => rfl) hx rfl
        refine Ev.genT (fun tm2 => tget tm2 1 = tget tm 1 ∧ tget tm2 5 = tget tm 5) (by simp) ?_
        rintro tm2 ⟨u1, u5⟩
        rw [t1] at u1; rw [t5] at u5
        refine Ev.seq (Ev.regO ?_)
        repeat (first | simp only [Dv_g, Ov_g, putT_some, putT_none, tgs, ↓reduceIte, Nat.reduceEqDiff, boolIs_t, boolIs_f, boolIs_u, Bool.not_true, Bool.not_false, Bool.false_eq_true, isEffC_pur, isEffC_alc, isEffC_red, isEffC_eff] | simp only [Ov_pur, Ov_red, Ov_nil, c_mv, c_bin, c_pick, cPick_bool, c_fldA, c_ixA, natR_nat, oIx_slice, c_ld, cev_t, cev_v, putT_some, addrR_ptr, moveA_eq, tgs, RK_ok, ofGet_some, loadC_one, bin_lss, bin_gtr, nextK_normal, ↓reduceIte, Nat.reduceEqDiff, List.getElem?_cons_zero, List.getElem?_cons_succ, Nat.zero_add, Bool.false_eq_true, u1, u5, cellsOf_some g1, hil, cellsOf_some hb', hfl, d1, d2])
        refine Ev.cond false (by simp) (by simp) (fun _ => Ev.skip ?_)
        (try simp only [tgs, RK_ok, bin_add, nextK_normal, blkK_normal, ↓reduceIte, Nat.reduceEqDiff, u5])
        refine ⟨gs.length - (i + 1), by omega, i + 1, rfl, by omega, by simpa using u1, ?_, g1, hk, hnx⟩
        rw [wrapS (by omega) (by omega)]; simp
    · rintro tm h' nx' ⟨i, hi0, hi, t1, t3, g1, hk, hnx⟩
      refine Ev.seq (Ev.regO ?_)
      simp only [Ov_pur, Ov_nil, c_mv, cev_v, putT_some, RK_ok, nextK_normal]
      refine Ev.ret ?_
      simp only [tgs, RK_ok, bind_ok, ↓reduceIte, retK_ret, resVs_tmp, resVs_nil, retV_one]
      exact ⟨rfl, hk, by omega⟩
end
end Go.Ax

/-! part AxH19 -/
namespace Go.Ax
open Go
set_option linter.unusedSimpArgs false
set_option linter.unusedVariables false

/-! # two lists that grow side by side -/
theorem Lol.keepF {h h' : Hp} {lo hi hi' : Nat} {out : Value} {sv : List SV} {gss : List (List Nat)} (L : Lol h out lo hi sv gss)
    (hk : ∀ b, lo ≤ b → b < hi → ((∃ sp n c, out = .slice (some ⟨b, 0, sp⟩) n c) ∨ ∃ (j nj : Nat), sv[j]? = some (some b, nj)) → hget h' b = hget h b) (hle : hi ≤ hi') : Lol h' out lo hi' sv gss where
  at_ := by
    rcases L.at_ with e | ⟨b, h1, h2, h3, h4⟩
    · exact .inl e
    · exact .inr ⟨b, h1, by omega, h3, by rw [hk b h1 h2 (.inl ⟨_, _, _, h3⟩)]; exact h4⟩
  len := L.len
  each := fun j s g hs hg => by
    rcases L.each j s g hs hg with h0 | ⟨b, hb1, hb2, e, hb⟩
    · exact .inl h0
    · exact .inr ⟨b, hb1, by omega, e, by rw [hk b hb1 hb2 (.inr ⟨j, _, by rw [hs, e]⟩)]; exact hb⟩
  apart := L.apart
  other := L.other
theorem Lol.below {h : Hp} {lo hi : Nat} {out : Value} {sv : List SV} {gss : List (List Nat)} (L : Lol h out lo hi sv gss) {j b nj : Nat} (hj : sv[j]? = some (some b, nj)) : lo ≤ b ∧ b < hi := by
  have hgj : gss[j]? = some (gss[j]'(by rw [← L.len]; exact lt_of_get hj)) := List.getElem?_eq_getElem _
  rcases L.each j _ _ hj hgj with ⟨_, h0⟩ | ⟨b', hb1, hb2, h0, _⟩
  · cases h0
  · have := congrArg Prod.fst h0
    have : b = b' := by simpa using this
    omega
theorem Lol.outB {h : Hp} {lo hi : Nat} {out : Value} {sv : List SV} {gss : List (List Nat)} (L : Lol h out lo hi sv gss) {b n c : Nat} {sp : Option Nat} (e : out = .slice (some ⟨b, 0, sp⟩) n c) : lo ≤ b ∧ b < hi := by
  rcases L.at_ with ⟨_, e0⟩ | ⟨b3, y1, y2, y3, y4⟩
  · rw [e0] at e; cases e
  · rw [y3] at e
    injection e with e
    injection e with e
    injection e with e
    omega
structure Two (h : Hp) (of : Value) (keys : List Int) (out : Value) (lo hi : Nat) (sv : List SV) (gss : List (List Nat)) : Prop where
  lol : Lol h out lo hi sv gss
  at_ : SlAt h of encI 1 keys lo hi
  sep : ∀ (b : Nat) (sp : Option Nat) (n c : Nat), of = .slice (some ⟨b, 0, sp⟩) n c → (∀ sp' n' c', out ≠ .slice (some ⟨b, 0, sp'⟩) n' c') ∧ ∀ (j nj : Nat), sv[j]? ≠ some (some b, nj)
theorem Two.nil {h : Hp} {lo hi : Nat} : Two h (.slice none 0 0) [] (.slice none 0 0) lo hi [] [] := ⟨Lol.nil, .inl ⟨rfl, rfl⟩, fun b sp n c e => by cases e⟩
theorem Two.keep {h h' : Hp} {lo hi hi' : Nat} {of out : Value} {keys : List Int} {sv : List SV} {gss : List (List Nat)} (T : Two h of keys out lo hi sv gss) (hk : ∀ b, lo ≤ b → b < hi → hget h' b = hget h b) (hle : hi ≤ hi') : Two h' of keys out lo hi' sv gss :=
  ⟨T.lol.keep hk hle, by
    rcases T.at_ with e | ⟨b, h1, h2, h3, h4⟩
    · exact .inl e
    · exact .inr ⟨b, h1, by omega, h3, by rw [hk b h1 h2]; exact h4⟩, T.sep⟩
theorem Two.key {h : Hp} {nx lo : Nat} {of out : Value} {keys : List Int} {sv : List SV} {gss : List (List Nat)} (T : Two h of keys out lo nx sv gss) (hlo : lo ≤ nx) {b2 : Nat} {x : Int} (h2 : hget h b2 = some (.cells [.int .i64 x] false)) (hsz : keys.length < 1000) :
    ∃ h' of', appendA 1 h nx of (.slice (some ⟨b2, 0, none⟩) 1 1) = .ok (.val of' h' (nx + 1)) ∧ Two h' of' (keys ++ [x]) out lo (nx + 1) sv gss ∧ (∀ b, b < lo → hget h' b = hget h b) := by
  obtain ⟨h', hap, hnew, hfr⟩ := app_cvF (enc := encI) (k := 1) (fun _ => rfl) (fun _ => rfl) (by omega) T.at_ hlo (o2 := 0) (cap2 := 1) (sp2 := none) h2 (x := x) rfl (by omega)
  have hofb : ∀ b sp n c, of = .slice (some ⟨b, 0, sp⟩) n c → lo ≤ b := fun b sp n c e => by
    rcases T.at_ with ⟨_, e0⟩ | ⟨b3, y1, y2, y3, y4⟩
    · rw [e0] at e; cases e
    · rw [y3] at e
      injection e with e
      injection e with e
      injection e with e
      omega
  refine ⟨h', _, hap, ⟨T.lol.keepF (fun b h1 h3 hc => hfr b (by omega) fun b' sp n cp e e' => ?_) (by omega), .inr ⟨nx, hlo, by omega, by simp, hnew⟩, fun b sp n c e => ?_⟩, fun b hb => hfr b (by omega) fun b' sp n cp e => ?_⟩
  · subst e'
    obtain ⟨s1, s2⟩ := T.sep b sp n cp e
    rcases hc with ⟨sp', n', c', e3⟩ | ⟨j, nj, e3⟩
    · exact s1 _ _ _ e3
    · exact s2 _ _ e3
  · injection e with e
    injection e with e
    injection e with e
    subst e
    refine ⟨fun sp' n' c' e3 => ?_, fun j nj e3 => ?_⟩
    · have := T.lol.outB e3; omega
    · have := T.lol.below e3; omega
  · have := hofb b' sp n cp e; omega
theorem Two.push {h : Hp} {nx lo : Nat} {of out : Value} {keys : List Int} {sv : List SV} {gss : List (List Nat)} (T : Two h of keys out lo nx sv gss) (hlo : lo ≤ nx) {b2 : Nat} (h2 : hget h b2 = some (.cells [.slice none 0 0] false)) (hsz : gss.length < 1000) :
    ∃ h' out', appendA 1 h nx out (.slice (some ⟨b2, 0, none⟩) 1 1) = .ok (.val out' h' (nx + 1)) ∧ Two h' of keys out' lo (nx + 1) (sv ++ [(none, 0)]) (gss ++ [[]]) ∧ (∀ b, b < lo → hget h' b = hget h b) := by
  obtain ⟨h', out', hap, hL, hlow⟩ := T.lol.push hlo h2 hsz
  obtain ⟨h'', hap2, hnew, hfr⟩ := app_cvF (enc := encS) (k := 1) (fun _ => rfl) encS_cell (by omega) T.lol.at_ hlo (o2 := 0) (cap2 := 1) (sp2 := none) h2 (x := ((none, 0) : SV)) rfl (by have := T.lol.len; omega)
  rw [hap] at hap2
  injection hap2 with hap2
  injection hap2 with e1 e2 e3
  subst e2
  refine ⟨h', out', hap, ⟨hL, ?_, fun b sp n c e => ⟨fun sp' n' c' e3 => ?_, fun j nj hj => ?_⟩⟩, hlow⟩
  · rcases T.at_ with e | ⟨b, y1, y2, y3, y4⟩
    · exact .inl e
    · exact .inr ⟨b, y1, by omega, y3, by rw [hfr b (by omega) fun b' sp n cp e e' => by subst e'; exact (T.sep b _ _ _ y3).1 _ _ _ e]; exact y4⟩
  · rw [e1] at e3
    injection e3 with e3
    injection e3 with e3
    injection e3 with e3
    rcases T.at_ with ⟨_, e0⟩ | ⟨b3, y1, y2, y3, y4⟩
    · rw [e0] at e; cases e
    · rw [y3] at e
      injection e with e
      injection e with e
      injection e with e
      omega
  · rw [List.getElem?_append] at hj
    split at hj
    · exact (T.sep b _ _ _ e).2 _ _ hj
    · have hlt := lt_of_get hj
      have : j - sv.length = 0 := by simpa using hlt
      rw [this] at hj
      simp at hj
theorem Two.add {h : Hp} {nx lo : Nat} {of out : Value} {keys : List Int} {sv : List SV} {gss : List (List Nat)} (T : Two h of keys out lo nx sv gss) (hlo : lo ≤ nx) {q v bo : Nat} {s : SV} {g : List Nat} (hs : sv[q]? = some s) (hg : gss[q]? = some g) {b2 : Nat} (h2 : hget h b2 = some (.cells [.int .i64 (v : Int)] false)) (hsz : g.length < 1000)
    (hout : out = .slice (some ⟨bo, 0, some 1⟩) sv.length sv.length) (hbo : lo ≤ bo ∧ bo < nx) :
    ∃ h', appendA 1 h nx (svV s) (.slice (some ⟨b2, 0, none⟩) 1 1) = .ok (.val (svV (some nx, g.length + 1)) h' (nx + 1)) ∧ hget h' bo = some (.cells (svs sv) false) ∧ (∀ b, b < lo → hget h' b = hget h b) ∧
      Two (hset h' bo (.cells (svs (sv.set q (some nx, g.length + 1))) false)) of keys out lo (nx + 1) (sv.set q (some nx, g.length + 1)) (gss.set q (g ++ [v])) := by
  obtain ⟨h', hap, hobl, hlow, hL⟩ := T.lol.add hlo hs hg h2 hsz hout hbo
  have hin : SlAt h (svV s) encI 1 (nats g) lo nx := by
    rcases T.lol.each q s g hs hg with ⟨rfl, rfl⟩ | ⟨b, hb1, hb2, rfl, hb⟩
    · exact .inl ⟨rfl, rfl⟩
    · exact .inr ⟨b, hb1, hb2, by rw [nats_len]; rfl, by rw [flat_ints]; exact hb⟩
  obtain ⟨h'', hap2, hnew, hfr⟩ := app_cvF (enc := encI) (k := 1) (fun _ => rfl) (fun _ => rfl) (by omega) hin hlo (o2 := 0) (cap2 := 1) (sp2 := none) h2 (x := (v : Int)) rfl (by rw [nats_len]; omega)
  rw [hap] at hap2
  injection hap2 with hap2
  injection hap2 with e1 e2 e3
  subst e2
  refine ⟨h', hap, hobl, hlow, ⟨hL, ?_, fun b sp n c e => ⟨(T.sep b sp n c e).1, fun j nj hj => ?_⟩⟩⟩
  · rcases T.at_ with e | ⟨b, y1, y2, y3, y4⟩
    · exact .inl e
    · refine .inr ⟨b, y1, by omega, y3, ?_⟩
      have s1 := T.sep b _ _ _ y3
      rw [hgs, if_neg (fun e => by subst e; exact s1.1 _ _ _ hout), hfr b (by omega) fun b' sp n cp e e' => ?_]
      · exact y4
      · subst e'
        obtain ⟨s1', s2'⟩ := s
        cases s1' with
        | none => cases e
        | some b' =>
          injection e with e
          injection e with e
          injection e with e
          subst e
          exact s1.2 q s2' hs
  · rw [List.getElem?_set] at hj
    split at hj
    · split at hj
      · injection hj with hj
        have := congrArg Prod.fst hj
        have : nx = b := by simpa using this
        rcases T.at_ with ⟨_, e0⟩ | ⟨b3, y1, y2, y3, y4⟩
        · rw [e0] at e; cases e
        · rw [y3] at e
          injection e with e
          injection e with e
          injection e with e
          omega
      · cases hj
    · exact (T.sep b sp n c e).2 _ _ hj
theorem gst_det (l : List Int) : ∀ (i q r : Nat) (x : Int), (gst l i).1[q]? = some x → (gst l i).1[r]? = some x → q = r
  | 0, q, r, x, hq, _ => by simp [gst] at hq
  | i + 1, q, r, x, hq, hr => by
    have ih := gst_det l i
    cases hx : l[i]? with
    | none =>
      have e : gst l (i + 1) = gst l i := by
        show (match l[i]? with | some x => gstep (gst l i) i x | none => gst l i) = _
        rw [hx]
      rw [e] at hq hr
      exact ih q r x hq hr
    | some y =>
      rw [gst_succ hx] at hq hr
      unfold gstep at hq hr
      cases hg : gidx y (gst l i).1 with
      | some p =>
        rw [hg] at hq hr
        exact ih q r x hq hr
      | none =>
        rw [hg] at hq hr
        have hno := gidx_none hg
        simp only at hq hr
        have aux : ∀ k, ((gst l i).1 ++ [y])[k]? = some x → (gst l i).1[k]? = some x ∨ (k = (gst l i).1.length ∧ x = y) := fun k hk => by
          rw [List.getElem?_append] at hk
          split at hk
          · exact .inl hk
          · have hlt := lt_of_get hk
            have h0 : k - (gst l i).1.length = 0 := by simpa using hlt
            rw [h0] at hk
            simp at hk
            exact .inr ⟨by omega, hk.symm⟩
        rcases aux q hq with a | ⟨a, rfl⟩
        · rcases aux r hr with b | ⟨b, rfl⟩
          · exact ih q r x a b
          · exact absurd (List.mem_of_getElem? a) hno
        · rcases aux r hr with b | ⟨b, _⟩
          · exact absurd (List.mem_of_getElem? b) hno
          · omega
end Go.Ax

/-! part AxH20 -/
namespace Go.Ax
open Go
set_option linter.unusedSimpArgs false
set_option linter.unusedVariables false

/-! # ref29.Groups -/
def cfRefGroups : CF := { res := [.tmp 2], body :=
 (.seq (.regO [⟨none, (some 2), 0, .pur (.mv (.v (.slice none 0 0)))⟩])
 (.seq (.regO [⟨none, (some 3), 0, .pur (.mv (.v (.slice none 0 0)))⟩])
 (.seq (.regO [⟨none, (some 4), 0, .pur (.mv (.v (.slice none 0 0)))⟩])
 (.seq (.seq (.regO [⟨none, (some 5), 0, .pur (.mv (.v (.int .i64 0)))⟩])
 (.block 0
  (.loop
   (.seq (.seq (.regO [⟨none, (some 8), 0, .pur (.mv (.t 5))⟩,
     ⟨none, (some 9), 0, .pur (.mv (.t 0))⟩,
     ⟨none, (some 10), 0, .red (.lens (.t 9))⟩,
     ⟨none, (some 11), 0, .pur (.bin .lss 3 (.t 8) (.t 10))⟩])
   (.cond (.t 11)
    .skip
    (.exit 0)))
   (.seq (.block 1
    (.seq (.regO [⟨none, (some 6), 0, .pur (.mv (.v (.int .i64 (-1))))⟩])
    (.seq (.seq (.regO [⟨none, (some 7), 0, .pur (.mv (.v (.int .i64 0)))⟩])
    (.block 2
     (.loop
      (.seq (.seq (.regO [⟨none, (some 14), 0, .pur (.mv (.t 7))⟩,
        ⟨none, (some 15), 0, .pur (.mv (.t 4))⟩,
        ⟨none, (some 16), 0, .red (.lens (.t 15))⟩,
        ⟨none, (some 17), 0, .pur (.bin .lss 3 (.t 14) (.t 16))⟩])
      (.cond (.t 17)
       .skip
       (.exit 2)))
      (.seq (.block 3
       (.seq (.regD [⟨none, (some 20), 0, .pur (.mv (.t 4))⟩,
         ⟨none, (some 21), 0, .pur (.mv (.t 7))⟩,
         ⟨none, (some 22), 0, .pur (.ixA (.slice 1) (.t 20) (.t 21))⟩,
         ⟨none, (some 23), 0, .red (.ld none (.t 22))⟩,
         ⟨none, (some 24), 0, .pur (.mv (.t 0))⟩,
         ⟨none, (some 25), 0, .pur (.mv (.t 5))⟩,
         ⟨none, (some 26), 0, .pur (.ixA (.slice 1) (.t 24) (.t 25))⟩,
         ⟨none, (some 27), 0, .red (.ld none (.t 26))⟩,
         ⟨none, (some 28), 0, .pur (.bin .eql 2 (.t 23) (.t 27))⟩])
       (.cond (.t 28)
        (.regO [⟨none, (some 29), 0, .pur (.mv (.t 7))⟩,
          ⟨none, (some 6), 0, .pur (.mv (.t 29))⟩])
        .skip)))
      (.regO [⟨none, (some 18), 0, .pur (.mv (.t 7))⟩,
        ⟨none, (some 19), 0, .pur (.bin .add 3 (.t 18) (.v (.int .i64 1)))⟩,
        ⟨none, (some 7), 0, .pur (.mv (.t 19))⟩]))))))
    (.seq (.seq (.regO [⟨none, (some 30), 0, .pur (.mv (.t 6))⟩,
      ⟨none, (some 31), 0, .pur (.bin .lss 3 (.t 30) (.v (.int .i64 0)))⟩])
    (.cond (.t 31)
     (.seq (.regO [⟨none, (some 32), 0, .pur (.mv (.t 4))⟩,
       ⟨none, (some 33), 0, .red (.lens (.t 32))⟩,
       ⟨none, (some 6), 0, .pur (.mv (.t 33))⟩])
     (.seq (.regO [⟨none, (some 34), 0, .pur (.mv (.t 4))⟩,
       ⟨none, (some 35), 0, .pur (.mv (.t 0))⟩,
       ⟨none, (some 36), 0, .pur (.mv (.t 5))⟩,
       ⟨none, (some 37), 0, .pur (.ixA (.slice 1) (.t 35) (.t 36))⟩,
       ⟨none, (some 38), 0, .red (.ld none (.t 37))⟩,
       ⟨none, (some 39), 0, .alc (.bsl 1 [(.int .i64 0)] [(0, 1, (.t 38))])⟩,
       ⟨none, (some 40), 0, .eff (.app 1 (.t 34) (.t 39))⟩,
       ⟨none, (some 4), 0, .pur (.mv (.t 40))⟩])
     (.regO [⟨none, (some 41), 0, .pur (.mv (.t 3))⟩,
       ⟨none, (some 42), 0, .alc (.bsl 1 [(.slice none 0 0)] [(0, 1, (.v (.slice none 0 0)))])⟩,
       ⟨none, (some 43), 0, .eff (.app 1 (.t 41) (.t 42))⟩,
       ⟨none, (some 3), 0, .pur (.mv (.t 43))⟩])))
     .skip))
    (.regO [⟨none, (some 44), 0, .pur (.mv (.t 3))⟩,
      ⟨none, (some 45), 0, .pur (.mv (.t 6))⟩,
      ⟨none, (some 46), 0, .pur (.mv (.t 3))⟩,
      ⟨none, (some 47), 0, .pur (.mv (.t 6))⟩,
      ⟨none, (some 48), 0, .pur (.ixA (.slice 1) (.t 46) (.t 47))⟩,
      ⟨none, (some 49), 0, .red (.ld none (.t 48))⟩,
      ⟨none, (some 50), 0, .pur (.mv (.t 5))⟩,
      ⟨none, (some 51), 0, .alc (.bsl 1 [(.int .i64 0)] [(0, 1, (.t 50))])⟩,
      ⟨none, (some 52), 0, .eff (.app 1 (.t 49) (.t 51))⟩,
      ⟨none, (some 53), 0, .pur (.ixA (.slice 1) (.t 44) (.t 45))⟩,
      ⟨none, none, 0, .eff (.st 1 (.t 53) (.t 52))⟩])))))
   (.regO [⟨none, (some 12), 0, .pur (.mv (.t 5))⟩,
     ⟨none, (some 13), 0, .pur (.bin .add 3 (.t 12) (.v (.int .i64 1)))⟩,
     ⟨none, (some 5), 0, .pur (.mv (.t 13))⟩]))))))
 (.seq (.regO [⟨none, (some 54), 0, .pur (.mv (.t 3))⟩,
   ⟨none, (some 2), 0, .pur (.mv (.t 54))⟩])
 .ret))))) }
def RgJ (vl : Value) (l : List Int) (nx : Nat) (h : Hp) (m : Nat) (tm : Tm) (h' : Hp) (nx' : Nat) : Prop :=
  ∃ (i : Nat) (sv : List SV), m = l.length - i ∧ i ≤ l.length ∧ tget tm 0 = vl ∧ tget tm 5 = .int .i64 (i : Int) ∧ Two h' (tget tm 4) (gst l i).1 (tget tm 3) nx nx' sv (gst l i).2 ∧ Keep nx h h' ∧ nx ≤ nx'
def RgI (vl of out : Value) (x : Int) (i : Nat) (keys : List Int) (h0 : Hp) (n0 : Nat) (m : Nat) (tm : Tm) (h' : Hp) (nx' : Nat) : Prop :=
  ∃ (j : Nat) (a : Int), m = keys.length - j ∧ j ≤ keys.length ∧ tget tm 0 = vl ∧ tget tm 5 = .int .i64 (i : Int) ∧ tget tm 4 = of ∧ tget tm 3 = out ∧ tget tm 7 = .int .i64 (j : Int) ∧ tget tm 6 = .int .i64 a ∧
    ((∃ q : Nat, q < j ∧ keys[q]? = some x ∧ a = (q : Int)) ∨ (a = -1 ∧ ∀ q, q < j → keys[q]? ≠ some x)) ∧ h' = h0 ∧ nx' = n0
def RgQ (vl : Value) (l : List Int) (i : Nat) (nx : Nat) (h : Hp) (tm : Tm) (h' : Hp) (nx' : Nat) : Prop :=
  ∃ (sv : List SV) (gss : List (List Nat)) (q : Nat) (g : List Nat), tget tm 0 = vl ∧ tget tm 5 = .int .i64 (i : Int) ∧ tget tm 6 = .int .i64 (q : Int) ∧
    Two h' (tget tm 4) (gst l (i + 1)).1 (tget tm 3) nx nx' sv gss ∧ gss[q]? = some g ∧ g.length ≤ i ∧ (gst l (i + 1)).2 = gss.set q (g ++ [i]) ∧ Keep nx h h' ∧ nx ≤ nx'
def RgR (vl : Value) (l : List Int) (i : Nat) (nx : Nat) (h : Hp) (tm : Tm) (h' : Hp) (nx' : Nat) : Prop :=
  ∃ (sv : List SV), tget tm 0 = vl ∧ tget tm 5 = .int .i64 (i : Int) ∧ Two h' (tget tm 4) (gst l (i + 1)).1 (tget tm 3) nx nx' sv (gst l (i + 1)).2 ∧ Keep nx h h' ∧ nx ≤ nx'
def RgK (l : List Int) (nx : Nat) (h : Hp) : KC' := fun r h' nx' => ∃ sv, Lol h' r nx nx' sv (gst l l.length).2 ∧ Keep nx h h' ∧ nx ≤ nx'
section
variable {P : Program} {orc : Orc} {s : Bool}
theorem rg_last {vl : Value} {l : List Int} {i nx : Nat} {h : Hp} (hil : i < l.length) (hll : l.length ≤ 100) {K1 : KO'} : ∀ (tm : Tm) (h' : Hp) (nx' : Nat), RgQ vl l i nx h tm h' nx' →
    Ev P orc s (.regO [⟨none, (some 44), 0, .pur (.mv (.t 3))⟩, ⟨none, (some 45), 0, .pur (.mv (.t 6))⟩, ⟨none, (some 46), 0, .pur (.mv (.t 3))⟩, ⟨none, (some 47), 0, .pur (.mv (.t 6))⟩, ⟨none, (some 48), 0, .pur (.ixA (.slice 1) (.t 46) (.t 47))⟩, ⟨none, (some 49), 0, .red (.ld none (.t 48))⟩, ⟨none, (some 50), 0, .pur (.mv (.t 5))⟩, ⟨none, (some 51), 0, .alc (.bsl 1 [(.int .i64 0)] [(0, 1, (.t 50))])⟩, ⟨none, (some 52), 0, .eff (.app 1 (.t 49) (.t 51))⟩, ⟨none, (some 53), 0, .pur (.ixA (.slice 1) (.t 44) (.t 45))⟩, ⟨none, none, 0, .eff (.st 1 (.t 53) (.t 52))⟩]) tm h' nx'
      (nextK (RgR vl l i nx h) K1) := by
  rintro tm h' nx' ⟨sv, gss, q, g, t0, t5, t6, hT, hg, hgi, hst, hk, hnx⟩
  have hL := hT.lol
  have hql : q < sv.length := by rw [hL.len]; exact lt_of_get hg
  have hs : sv[q]? = some (sv[q]'hql) := List.getElem?_eq_getElem _
  generalize sv[q]'hql = sq at hs
  obtain ⟨bo, ho1, ho2, hout, hbo, _⟩ := hL.out_at hs
  refine Ev.regO ?_
  simp only [Ov_pur, Ov_red, Ov_alc, c_mv, c_ixA, natR_nat, oIx_slice, c_ld, cev_t, putT_some, addrR_ptr, tgs, RK_ok, bind_ok, ofGet_some, loadC_one, ↓reduceIte, Nat.reduceEqDiff, alc_bsl, sliceNB_eq, cfill_nil, cfill_cons, vc_int, cellV_int, cellL_nil, cellL_cons, nbV_slice, nbO_slice, List.length_cons, List.length_nil, List.take_zero, List.drop_succ_cons, List.drop_nil, List.nil_append, List.append_nil, Nat.zero_add, Nat.mul_one, Nat.reduceLeDiff, Bool.and_self, t5, t6, hout, hql, cellsOf_some hbo, svs_get hs]
  have hT2 := hT.keep (h' := hset h' nx' (.cells [.int .i64 (i : Int)] false)) (hi' := nx' + 1) (fun b h1 h2 => by rw [hgs, if_neg (by omega)]) (by omega)
  obtain ⟨h6, hap, hbo6, hk6, hT3⟩ := hT2.add (by omega) hs hg (v := i) (b2 := nx') (by simp) (by omega) hout ⟨ho1, by omega⟩
  rw [Ov_eff (v := svV (some (nx' + 1), g.length + 1)) (h' := h6) (nx' := nx' + 1 + 1) (by
    show orR (appendA 1 _ _ (cev _ (.t 49)) (cev _ (.t 51))) = _
    simp only [cev_t, tgs, ↓reduceIte, Nat.reduceEqDiff]
    rw [hap]; rfl)]
  simp only [Ov_pur, Ov_st, Ov_nil, c_ixA, natR_nat, oIx_slice, cev_t, putT_some, putT_none, addrR_ptr, tgs, RK_ok, nextK_normal, ↓reduceIte, Nat.reduceEqDiff, Nat.zero_add, Nat.mul_one, hout, t6, hql, (svV_cell _).2]
  rw [RK_st1 hbo6 (svV_cell _).1 (by rw [svs_len]; exact hql), svs_set]
  refine ⟨sv.set q (some (nx' + 1), g.length + 1), by simpa using t0, by simpa using t5, ?_, fun b hb => ?_, by omega⟩
  · rw [hst]; simpa [hout] using hT3
  · rw [hgs, if_neg (by omega), hk6 b (by omega), hgs, if_neg (by omega)]; exact hk b hb
theorem refGroups_cv {f : Nat} (hcf : compAt P f = some cfRefGroups) (ho : orc f = none) {vl : Value} {l : List Int} {h : Hp} {nx : Nat} (hvl : SlRd h nx vl encI l) (hll : l.length ≤ 100) :
    Cv P orc s f [vl] h nx (RgK l nx h) := by
  refine Cv.enter ho hcf ?_
  unfold cfRefGroups
  obtain ⟨al, capl, rfl, _⟩ := id hvl
  refine Ev.seq (Ev.regO ?_)
  simp only [Ov_pur, Ov_nil, c_mv, cev_v, putT_some, RK_ok, nextK_normal, Nat.zero_add, setArgs_nil, setArgs_cons]
  refine Ev.seq (Ev.regO ?_)
  simp only [Ov_pur, Ov_nil, c_mv, cev_v, putT_some, RK_ok, nextK_normal]
  refine Ev.seq (Ev.regO ?_)
  simp only [Ov_pur, Ov_nil, c_mv, cev_v, putT_some, RK_ok, nextK_normal]
  refine Ev.cut (RgJ (.slice al l.length capl) l nx h 0) ?_ ?_
  · refine Ev.seq (Ev.regO ?_)
    simp only [Ov_pur, Ov_nil, c_mv, cev_v, putT_some, RK_ok, nextK_normal]
    refine Ev.forL (RgJ (.slice al l.length capl) l nx h) ?_ l.length _ _ _ ⟨0, [], rfl, by omega, by simp, by simp, by simp [gst]; exact Two.nil, Keep.refl _ _, Nat.le_refl _⟩
    rintro m tm h' nx' ⟨i, sv, rfl, hi, t0, t5, hT, hk, hnx⟩
    simp only [Ov_pur, Ov_red, Ov_nil, c_mv, c_bin, c_lens, lenS_slice, cev_t, cev_v, putT_some, tgs, RK_ok, bin_lss, nextK_normal, ↓reduceIte, Nat.reduceEqDiff, t0, t5]
    refine ⟨decide ((i : Int) < l.length), rfl, fun e => ?_, fun e => ?_⟩
    · have : ¬ ((i : Int) < l.length) := of_decide_eq_false e
      exact ⟨i, sv, by omega, hi, by simpa using t0, by simpa using t5, by simpa using hT, hk, hnx⟩
    · have hil : i < l.length := by
        have : (i : Int) < l.length := of_decide_eq_true e
        omega
      obtain ⟨x, hx⟩ : ∃ x, l[i]? = some x := ⟨_, List.getElem?_eq_getElem hil⟩
      obtain ⟨_, bl, spl, rol, capl', hbln, hveq, hbl⟩ := hvl.at hx
      injection hveq with e1 e2 e3
      subst e1
      rw [flat_ints] at hbl
      have gl := (hk bl hbln).trans hbl
      obtain ⟨n1, n2, n3⟩ := gst_len l i
      have hst := gst_succ hx
      refine Ev.cutE' (RgR (.slice (some ⟨bl, 0, spl⟩) l.length capl) l i nx h) ?_ ?_
      · rintro tm h' nx' ⟨sv, t0, t5, hT, hk, hnx⟩
        simp only [RK_ok, bin_add, nextK_normal, blkK_normal, t5]
        refine ⟨l.length - (i + 1), by omega, i + 1, sv, rfl, by omega, by simpa using t0, ?_, by simpa using hT, hk, hnx⟩
        rw [wrapS (by omega) (by omega)]; simp
      refine Ev.genT (fun tm2 => tget tm2 0 = tget tm 0 ∧ tget tm2 5 = tget tm 5 ∧ tget tm2 4 = tget tm 4 ∧ tget tm2 3 = tget tm 3) (by simp) ?_
      rintro tm2 ⟨u0, u5, u4, u3⟩
      rw [t0] at u0; rw [t5] at u5
      refine Ev.seq (Ev.regO ?_)
      simp only [Ov_pur, Ov_nil, c_mv, cev_v, putT_some, RK_ok, nextK_normal]
      refine Ev.cut (RgI (.slice (some ⟨bl, 0, spl⟩) l.length capl) (tget tm 4) (tget tm 3) x i (gst l i).1 h' nx' 0) ?_ ?_
      · refine Ev.seq (Ev.regO ?_)
        simp only [Ov_pur, Ov_nil, c_mv, cev_v, putT_some, RK_ok, nextK_normal]
        refine Ev.forL (RgI (.slice (some ⟨bl, 0, spl⟩) l.length capl) (tget tm 4) (tget tm 3) x i (gst l i).1 h' nx') ?_ (gst l i).1.length _ _ _ ⟨0, -1, rfl, by omega, by simpa using u0, by simpa using u5, by simpa using u4, by simpa using u3, by simp, by simp, .inr ⟨rfl, fun q hq => by omega⟩, rfl, rfl⟩
        rintro m tm3 h3 nx3 ⟨j, a, rfl, hj, w0, w5, w4, w3, w7, w6, hqa, rfl, rfl⟩
        have hle : lenS (tget tm 4) = .ok (.int .i64 ((gst l i).1.length : Int)) := by
          rcases hT.at_ with ⟨e, e2⟩ | ⟨b, _, _, e2, _⟩
          · rw [e2, e]; rfl
          · rw [e2]; rfl
        simp only [Ov_pur, Ov_red, Ov_nil, c_mv, c_bin, cev_t, cev_v, putT_some, tgs, RK_ok, bin_lss, nextK_normal, ↓reduceIte, Nat.reduceEqDiff, w4, w7, show ∀ tm h x, cred P tm h (.lens x) = lenS (cev tm x) from fun _ _ _ => rfl, hle]
        refine ⟨decide ((j : Int) < (gst l i).1.length), rfl, fun e => ?_, fun e => ?_⟩
        · have : ¬ ((j : Int) < (gst l i).1.length) := of_decide_eq_false e
          exact ⟨j, a, by omega, hj, by simpa using w0, by simpa using w5, by simpa using w4, by simpa using w3, by simpa using w7, by simpa using w6, hqa, rfl, rfl⟩
        · have hjl : j < (gst l i).1.length := by
            have : (j : Int) < (gst l i).1.length := of_decide_eq_true e
            omega
          obtain ⟨y, hy⟩ : ∃ y, (gst l i).1[j]? = some y := ⟨_, List.getElem?_eq_getElem hjl⟩
          rcases hT.at_ with ⟨e, _⟩ | ⟨bf, hf1, hf2, hfo, hfg⟩
          · rw [e] at hjl; exact absurd hjl (Nat.not_lt_zero _)
          rw [flat_ints] at hfg
          rw [hfo] at w4
          refine Ev.seq (Ev.regD ?_)
          simp only [Dv_pur, Dv_red, Dv_nil, c_mv, c_bin, c_ixA, natR_nat, oIx_slice, c_ld, cev_t, putT_some, addrR_ptr, tgs, RK_ok, ofGet_some, loadC_one, bin_eql, nextK_normal, ↓reduceIte, Nat.reduceEqDiff, Nat.zero_add, Nat.mul_one, true_and, cagree_0, w0, w4, w5, w7, hil, hjl, cellsOf_some gl, cellsOf_some hfg, ints_get hx, ints_get hy]
          by_cases hxy : y = x
          · refine Ev.cond true (by simp [hxy]) (fun _ => ?_) (by simp [hxy])
            refine Ev.regO ?_
            simp only [Ov_pur, Ov_nil, c_mv, cev_t, putT_some, tgs, RK_ok, bin_add, nextK_normal, blkK_normal, ↓reduceIte, Nat.reduceEqDiff, w7]
            refine ⟨(gst l i).1.length - (j + 1), by omega, j + 1, j, rfl, by omega, by simpa using w0, by simpa using w5, by simpa [hfo] using w4, by simpa using w3, ?_, by simp, .inl ⟨j, by omega, by rw [hy, hxy], rfl⟩, rfl, rfl⟩
            rw [wrapS (by omega) (by omega)]; simp
          · refine Ev.cond false (by simp [hxy]) (by simp [hxy]) (fun _ => Ev.skip ?_)
            (try simp only [tgs, RK_ok, bin_add, nextK_normal, blkK_normal, ↓reduceIte, Nat.reduceEqDiff, w7])
            refine ⟨(gst l i).1.length - (j + 1), by omega, j + 1, a, rfl, by omega, by simpa using w0, by simpa using w5, by simpa [hfo] using w4, by simpa using w3, ?_, by simpa using w6, ?_, rfl, rfl⟩
            · rw [wrapS (by omega) (by omega)]; simp
            · rcases hqa with ⟨q, h1, h2, h3⟩ | ⟨h1, h2⟩
              · exact .inl ⟨q, by omega, h2, h3⟩
              · refine .inr ⟨h1, fun q hq hqx => ?_⟩
                by_cases hqj : q < j
                · exact h2 q hqj hqx
                · have : q = j := by omega
                  subst this
                  rw [hy] at hqx
                  cases hqx
                  exact hxy rfl
      · rintro tm3 h3 nx3 ⟨j, a, hj0, hj, w0, w5, w4, w3, w7, w6, hqa, rfl, rfl⟩
        have hjl : j = (gst l i).1.length := by omega
        subst hjl
        cases hq : gidx x (gst l i).1 with
        | none =>
          have hst' : gst l (i + 1) = ((gst l i).1 ++ [x], (gst l i).2 ++ [[i]]) := by rw [hst]; unfold gstep; rw [hq]
          have ha : a = -1 := by
            rcases hqa with ⟨q, h1, h2, h3⟩ | ⟨h1, h2⟩
            · exact absurd (List.mem_of_getElem? h2) (gidx_none hq)
            · exact h1
          subst ha
          refine Ev.cut (RgQ (.slice (some ⟨bl, 0, spl⟩) l.length capl) l i nx h) ?_ ?_
          · refine Ev.seq (Ev.regO ?_)
            simp only [Ov_pur, Ov_nil, c_mv, c_bin, cev_t, cev_v, putT_some, tgs, RK_ok, bin_lss, nextK_normal, ↓reduceIte, w6]
            refine Ev.cond true (by simp) (fun _ => ?_) (by simp)
            have hle : lenS (tget tm 4) = .ok (.int .i64 ((gst l i).1.length : Int)) := by
              rcases hT.at_ with ⟨e, e2⟩ | ⟨b, _, _, e2, _⟩
              · rw [e2, e]; rfl
              · rw [e2]; rfl
            refine Ev.seq (Ev.regO ?_)
            simp only [Ov_pur, Ov_red, Ov_nil, c_mv, cev_t, putT_some, tgs, RK_ok, nextK_normal, ↓reduceIte, Nat.reduceEqDiff, w4, show ∀ tm h x, cred P tm h (.lens x) = lenS (cev tm x) from fun _ _ _ => rfl, hle]
            refine Ev.seq (Ev.regO ?_)
            simp only [Ov_pur, Ov_red, Ov_alc, c_mv, c_ixA, natR_nat, oIx_slice, c_ld, cev_t, putT_some, addrR_ptr, tgs, RK_ok, bind_ok, ofGet_some, loadC_one, ↓reduceIte, Nat.reduceEqDiff, alc_bsl, sliceNB_eq, cfill_nil, cfill_cons, vc_int, cellV_int, cellL_nil, cellL_cons, nbV_slice, nbO_slice, List.length_cons, List.length_nil, List.take_zero, List.drop_succ_cons, List.drop_nil, List.nil_append, List.append_nil, Nat.zero_add, Nat.mul_one, Nat.reduceLeDiff, Bool.and_self, w0, w4, w5, hil, cellsOf_some gl, ints_get hx]
            have hT2 := hT.keep (h' := hset h3 nx3 (.cells [.int .i64 x] false)) (hi' := nx3 + 1) (fun b h1 h2 => by rw [hgs, if_neg (by omega)]) (by omega)
            obtain ⟨h6, of', hap, hT3, hk6⟩ := hT2.key (by omega) (b2 := nx3) (x := x) (by simp) (by omega)
            rw [Ov_eff (v := of') (h' := h6) (nx' := nx3 + 1 + 1) (by
              show orR (appendA 1 _ _ (cev _ (.t 34)) (cev _ (.t 39))) = _
              simp only [cev_t, tgs, ↓reduceIte, Nat.reduceEqDiff, w4]
              rw [hap]; rfl)]
            simp only [Ov_pur, Ov_nil, c_mv, cev_t, putT_some, tgs, RK_ok, nextK_normal, ↓reduceIte]
            have hT4 := hT3.keep (h' := hset h6 (nx3 + 1 + 1) (.cells [.slice none 0 0] false)) (hi' := nx3 + 1 + 1 + 1) (fun b h1 h2 => by rw [hgs, if_neg (by omega)]) (by omega)
            refine Ev.regO ?_
            simp only [Ov_pur, Ov_alc, c_mv, cev_t, cev_v, putT_some, tgs, RK_ok, bind_ok, ↓reduceIte, Nat.reduceEqDiff, alc_bsl, sliceNB_eq, cfill_nil, cfill_cons, vc_slice, cellV_slice, cellL_nil, cellL_cons, nbV_slice, nbO_slice, List.length_cons, List.length_nil, List.take_zero, List.drop_succ_cons, List.drop_nil, List.nil_append, List.append_nil, Nat.zero_add, Nat.reduceLeDiff, Bool.and_self, w3]
            obtain ⟨h7, out', hap7, hT5, hk7⟩ := hT4.push (by omega) (b2 := nx3 + 1 + 1) (by simp) (by omega)
            rw [Ov_eff (v := out') (h' := h7) (nx' := nx3 + 1 + 1 + 1 + 1) (by
              show orR (appendA 1 _ _ (cev _ (.t 41)) (cev _ (.t 42))) = _
              simp only [cev_t, tgs, ↓reduceIte, Nat.reduceEqDiff, w3]
              rw [hap7]; rfl)]
            simp only [Ov_pur, Ov_nil, c_mv, cev_t, putT_some, tgs, RK_ok, nextK_normal, ↓reduceIte]
            refine ⟨sv ++ [(none, 0)], (gst l i).2 ++ [[]], (gst l i).2.length, [], by simpa using w0, by simpa using w5, by simp [n1], ?_, by simp, by simp, ?_, fun b hb => ?_, by omega⟩
            · rw [hst']; simpa using hT5
            · rw [hst']; simp
            · rw [hk7 b (by omega), hgs, if_neg (by omega), hk6 b (by omega), hgs, if_neg (by omega)]; exact hk b hb
          · exact rg_last hil hll
        | some q =>
          have hqk := gidx_some hq
          have hql := lt_of_get hqk
          have ha : a = (q : Int) := by
            rcases hqa with ⟨q', h1, h2, h3⟩ | ⟨h1, h2⟩
            · rw [h3, gst_det l i q' q x h2 hqk]
            · exact absurd hqk (h2 q hql)
          subst ha
          rw [n1] at hql
          have hg : (gst l i).2[q]? = some ((gst l i).2[q]'hql) := List.getElem?_eq_getElem _
          have hst' : gst l (i + 1) = ((gst l i).1, (gst l i).2.set q ((gst l i).2[q]'hql ++ [i])) := by
            rw [hst]; unfold gstep; rw [hq]; simp [List.getD, hql]
          refine Ev.cut (RgQ (.slice (some ⟨bl, 0, spl⟩) l.length capl) l i nx h) ?_ ?_
          · refine Ev.seq (Ev.regO ?_)
            simp only [Ov_pur, Ov_nil, c_mv, c_bin, cev_t, cev_v, putT_some, tgs, RK_ok, bin_lss, nextK_normal, ↓reduceIte, w6]
            refine Ev.cond false (by simp) (by simp) (fun _ => Ev.skip ?_)
            refine ⟨sv, _, q, _, by simpa using w0, by simpa using w5, by simpa using w6, ?_, hg, n3 _ (List.getElem_mem hql), ?_, hk, hnx⟩
            · rw [hst']; simpa [w4, w3] using hT
            · rw [hst']
          · exact rg_last hil hll
  · rintro tm h' nx' ⟨i, sv, hi0, hi, t0, t5, hT, hk, hnx⟩
    have : i = l.length := by omega
    subst this
    refine Ev.seq (Ev.regO ?_)
    simp only [Ov_pur, Ov_nil, c_mv, cev_t, putT_some, tgs, RK_ok, nextK_normal, ↓reduceIte]
    refine Ev.ret ?_
    simp only [tgs, RK_ok, bind_ok, ↓reduceIte, retK_ret, resVs_tmp, resVs_nil, retV_one]
    exact ⟨sv, hT.lol, hk, hnx⟩
end
end Go.Ax
