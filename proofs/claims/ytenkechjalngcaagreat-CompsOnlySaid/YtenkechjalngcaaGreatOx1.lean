/- Parts of the proof: Ox1: each statement bears its own conditions. -/
import Derived.Test.YtenkechjalngcaaGreatLive29
/-! part AxH9 -/
namespace Go.Ax
open Go
set_option linter.unusedSimpArgs false
set_option linter.unusedVariables false

/-! # edges.Right of a graph that can be -/
def cfOut : CF := { res := [.tmp 3], body :=
 (.seq (.regO [⟨none, (some 3), 0, .pur (.mv (.v (.bool false)))⟩])
 (.seq (.regO [⟨none, (some 4), 0, .pur (.mv (.t 0))⟩,
   ⟨none, (some 5), 0, .pur (.bin .lss 3 (.t 4) (.v (.int .i64 0)))⟩,
   ⟨none, (some 6), 0, .pur (.mv (.t 5))⟩,
   ⟨(some (6, false)), (some 7), 0, .pur (.mv (.t 0))⟩,
   ⟨(some (6, false)), (some 8), 0, .pur (.fldA 0 (.t 1))⟩,
   ⟨(some (6, false)), (some 9), 0, .red (.ld none (.t 8))⟩,
   ⟨(some (6, false)), (some 10), 0, .pur (.bin .geq 3 (.t 7) (.t 9))⟩,
   ⟨none, (some 11), 0, .pur (.pick (.t 6) (.v (.bool true)) (.t 10))⟩,
   ⟨none, (some 3), 0, .pur (.mv (.t 11))⟩])
 .ret)) }
def cfEnds : CF := { res := [.tmp 3], body :=
 (.seq (.regO [⟨none, (some 2), 0, .alc (.box (.t 0))⟩,
   ⟨none, (some 3), 0, .pur (.mv (.v (.bool false)))⟩])
 (.seq (.regO [⟨none, (some 4), 0, .red (.ld none (.t 1))⟩,
   ⟨none, (some 5), 0, .pur (.fldA 0 (.t 2))⟩,
   ⟨none, (some 6), 0, .red (.ld none (.t 5))⟩,
   ⟨none, (some 7), 0, .eff (.callv (.t 4) [(.t 6)])⟩,
   ⟨none, (some 8), 0, .pur (.mv (.t 7))⟩,
   ⟨(some (8, false)), (some 9), 0, .red (.ld none (.t 1))⟩,
   ⟨(some (8, false)), (some 10), 0, .pur (.fldA 1 (.t 2))⟩,
   ⟨(some (8, false)), (some 11), 0, .red (.ld none (.t 10))⟩,
   ⟨(some (8, false)), (some 12), 0, .eff (.callv (.t 9) [(.t 11)])⟩,
   ⟨none, (some 13), 0, .pur (.pick (.t 8) (.v (.bool true)) (.t 12))⟩,
   ⟨none, (some 3), 0, .pur (.mv (.t 13))⟩])
 .ret)) }
def cfWeighs : CF := { res := [.tmp 2], body :=
 (.seq (.regO [⟨none, (some 1), 0, .alc (.box (.t 0))⟩,
   ⟨none, (some 2), 0, .pur (.mv (.v (.bool false)))⟩])
 (.seq (.regO [⟨none, (some 3), 0, .pur (.fldA 2 (.t 1))⟩,
   ⟨none, (some 4), 0, .red (.ld none (.t 3))⟩,
   ⟨none, (some 5), 0, .pur (.bin .lss 2 (.t 4) (.v (.int .i64 0)))⟩,
   ⟨none, (some 6), 0, .pur (.mv (.t 5))⟩,
   ⟨(some (6, false)), (some 7), 0, .pur (.fldA 2 (.t 1))⟩,
   ⟨(some (6, false)), (some 8), 0, .red (.ld none (.t 7))⟩,
   ⟨(some (6, false)), (some 9), 0, .pur (.bin .gtr 2 (.t 8) (.v (.int .i64 2147483647)))⟩,
   ⟨none, (some 10), 0, .pur (.pick (.t 6) (.v (.bool true)) (.t 9))⟩,
   ⟨none, (some 2), 0, .pur (.mv (.t 10))⟩])
 .ret)) }
def cfIndex : CF := { res := [.tmp 4], body :=
 (.seq (.regO [⟨none, (some 4), 0, .pur (.mv (.v (.int .i64 0)))⟩])
 (.seq (.seq (.regO [⟨none, (some 6), 0, .pur (.mv (.t 0))⟩,
   ⟨none, (some 7), 0, .red (.lens (.t 6))⟩,
   ⟨none, (some 8), 0, .pur (.mv (.v (.int .i64 0)))⟩])
 (.block 0
  (.loop
   (.seq (.regO [⟨none, (some 9), 0, .pur (.bin .lss 3 (.t 8) (.t 7))⟩])
   (.seq (.cond (.t 9)
    .skip
    (.exit 0))
   (.seq (.block 1
    (.seq (.regO [⟨none, (some 10), 0, .pur (.mv (.t 8))⟩,
      ⟨none, (some 5), 0, .pur (.mv (.t 10))⟩])
    (.seq (.regO [⟨none, (some 11), 0, .pur (.mv (.t 1))⟩,
      ⟨none, (some 12), 0, .pur (.mv (.t 0))⟩,
      ⟨none, (some 13), 0, .pur (.mv (.t 5))⟩,
      ⟨none, (some 14), 0, .pur (.ixA (.slice 3) (.t 12) (.t 13))⟩,
      ⟨none, (some 15), 0, .red (.ld (some 3) (.t 14))⟩,
      ⟨none, (some 16), 0, .eff (.callv (.t 11) [(.t 15)])⟩])
    (.cond (.t 16)
     (.seq (.regO [⟨none, (some 17), 0, .pur (.mv (.t 5))⟩,
       ⟨none, (some 4), 0, .pur (.mv (.t 17))⟩])
     .ret)
     .skip))))
   (.regO [⟨none, (some 18), 0, .pur (.bin .add 3 (.t 8) (.v (.int .i64 1)))⟩,
     ⟨none, (some 8), 0, .pur (.mv (.t 18))⟩])))))))
 (.seq (.regO [⟨none, (some 4), 0, .pur (.mv (.v (.int .i64 (-1))))⟩])
 .ret))) }
def cfContains (fi : Nat) : CF := { res := [.tmp 4], body :=
 (.seq (.regO [⟨none, (some 4), 0, .pur (.mv (.v (.bool false)))⟩])
 (.seq (.regO [⟨none, (some 5), 0, .pur (.mv (.t 0))⟩,
   ⟨none, (some 6), 0, .pur (.mv (.t 1))⟩,
   ⟨none, (some 7), 0, .eff (.call fi [(.t 5), (.t 6)])⟩,
   ⟨none, (some 8), 0, .pur (.bin .geq 3 (.t 7) (.v (.int .i64 0)))⟩,
   ⟨none, (some 4), 0, .pur (.mv (.t 8))⟩])
 .ret)) }
def cfRight (f1 f2 f3 fc te : Nat) : CF := { res := [.tmp 2], body :=
 (.seq (.regO [⟨none, (some 1), 0, .alc (.box (.t 0))⟩,
   ⟨none, (some 2), 0, .pur (.mv (.v (.int .i64 0)))⟩])
 (.seq (.regO [⟨none, (some 4), 0, .pur (.mkf f1 [] [(.t 1)])⟩,
   ⟨none, (some 3), 0, .alc (.new [.nilFunc])⟩,
   ⟨none, none, 0, .eff (.st 1 (.t 3) (.t 4))⟩])
 (.seq (.block 0
  (.seq (.regO [⟨none, (some 6), 0, .pur (.fldA 0 (.t 1))⟩,
    ⟨none, (some 7), 0, .red (.ld none (.t 6))⟩,
    ⟨none, (some 8), 0, .pur (.bin .lss 3 (.t 7) (.v (.int .i64 0)))⟩,
    ⟨none, (some 5), 0, .pur (.mv (.t 8))⟩])
  (.cond (.t 5)
   (.seq (.regO [⟨none, (some 2), 0, .pur (.mv (.v (.int .i64 3)))⟩])
   .ret)
   (.seq (.seq (.regO [⟨none, (some 10), 0, .pur (.fldA 0 (.t 1))⟩,
     ⟨none, (some 11), 0, .red (.ld none (.t 10))⟩,
     ⟨none, (some 12), 0, .pur (.bin .gtr 3 (.t 11) (.v (.int .i64 4096)))⟩,
     ⟨none, (some 9), 0, .pur (.mv (.t 12))⟩])
   (.cond (.t 9)
    .skip
    (.regO [⟨none, (some 13), 0, .pur (.fldA 1 (.t 1))⟩,
      ⟨none, (some 14), 0, .red (.ld none (.t 13))⟩,
      ⟨none, (some 15), 0, .red (.lens (.t 14))⟩,
      ⟨none, (some 16), 0, .pur (.bin .gtr 3 (.t 15) (.v (.int .i64 65536)))⟩,
      ⟨none, (some 9), 0, .pur (.mv (.t 16))⟩])))
   (.cond (.t 9)
    (.seq (.regO [⟨none, (some 2), 0, .pur (.mv (.v (.int .i64 5)))⟩])
    .ret)
    (.seq (.regO [⟨none, (some 18), 0, .pur (.fldA 1 (.t 1))⟩,
      ⟨none, (some 19), 0, .red (.ld none (.t 18))⟩,
      ⟨none, (some 20), 0, .pur (.mkf f2 [] [(.t 3)])⟩,
      ⟨none, (some 21), 0, .eff (.call fc [(.t 19), (.t 20)])⟩,
      ⟨none, (some 17), 0, .pur (.mv (.t 21))⟩])
    (.cond (.t 17)
     (.seq (.regO [⟨none, (some 2), 0, .pur (.mv (.v (.int .i64 3)))⟩])
     .ret)
     (.seq (.regO [⟨none, (some 23), 0, .pur (.fldA 1 (.t 1))⟩,
       ⟨none, (some 24), 0, .red (.ld none (.t 23))⟩,
       ⟨none, (some 25), 0, .eff (.call fc [(.t 24), (.v (.func (.func f3) #[] #[]))])⟩,
       ⟨none, (some 22), 0, .pur (.mv (.t 25))⟩])
     (.cond (.t 22)
      (.seq (.regO [⟨none, (some 2), 0, .pur (.mv (.v (.int .i64 7)))⟩])
      .ret)
      .skip)))))))))
 (.seq (.regO [⟨none, (some 2), 0, .pur (.mv (.v (.int .i64 0)))⟩])
 .ret)))) }
section
variable {P : Program} {orc : Orc} {s : Bool}
theorem Ev.forR {B C c : Nat} {cond post : List CI} {body : CC} {K : KO'} (J : Nat → KS')
    (hJ : ∀ m tm h nx, J m tm h nx → Ov P orc s cond tm h nx (fun tm h nx => ∃ t : Bool, tget tm c = .bool t ∧ (t = false → K .normal tm h nx) ∧
      (t = true → Ev P orc s body tm h nx (blkK C (nextK (fun tm h nx => Ov P orc s post tm h nx (fun tm h nx => ∃ m', m' < m ∧ J m' tm h nx)) (blkK B K)))))) :
    ∀ m tm h nx, J m tm h nx → Ev P orc s (.block B (.loop (.seq (.regO cond) (.seq (.cond (.t c) .skip (.exit B)) (.seq (.block C body) (.regO post)))))) tm h nx K := by
  intro m tm h nx hj
  refine Ev.block (Ev.loop J ?_ m tm h nx hj)
  intro m tm h nx hj
  refine Ev.seq (Ev.regO ?_)
  refine (hJ m tm h nx hj).mono ?_
  rintro tm h nx ⟨t, ht, hf, hg⟩
  simp only [nextK_normal]
  refine Ev.seq (Ev.cond t (by simpa using ht) (fun e => Ev.skip ?_) (fun e => Ev.exit ?_))
  · simp only [nextK_normal]
    refine Ev.seq (Ev.block ((hg e).mono ?_))
    intro x tm h nx hx
    cases x with
    | normal =>
      simp only [blkK_normal, nextK_normal] at hx ⊢
      exact Ev.regO hx
    | ret => exact hx
    | exit i =>
      simp only [blkK_exit, nextK_normal, nextK_exit] at hx ⊢
      split at hx
      · rename_i e; rw [if_pos e]; exact Ev.regO hx
      · rename_i e; rw [if_neg e]; exact hx
  · simp only [nextK_exit, blkK_exit, ↓reduceIte]
    exact hf e
theorem Ov_callv {d : Option Nat} {c : Nat} {x : Co} {args : List Co} {is : List CI} {tm : Tm} {h : Hp} {nx : Nat} {K : KS'} {f : FuncId} {a b : List Value} (hf : cev tm x = .func (.func f) ⟨a⟩ ⟨b⟩)
    (hc : Cv P orc s f (a ++ (cevs tm args ++ b)) h nx (fun v h nx => Ov P orc s is (putT tm d v) h nx K)) : Ov P orc s (⟨none, d, c, .eff (.callv x args)⟩ :: is) tm h nx K := by
  refine Ov_call' (f := f) (args := a ++ (cevs tm args ++ b)) (h1 := h) (nx1 := nx) ?_ hc
  show callV h nx (cevs tm args) (cev tm x) = _
  rw [hf]
  show OR.call f (lapp a (lapp (cevs tm args) b)) h nx = _
  rw [lapp_eq, lapp_eq]
@[simp] theorem c_mkf (tm : Tm) (f : Nat) (a b : List Co) : cpur P tm (.mkf f a b) = .ok (.func (.func f) ⟨cevs tm a⟩ ⟨cevs tm b⟩) := rfl
@[simp] theorem vc_func (f : Fn) (a b : Array Value) : vcells (.func f a b) = [.func f a b] := rfl
/-- what changes nothing that was there -/
def StillK (v0 : Value) (nx : Nat) (h : Hp) : KC' := fun v h' nx' => v = v0 ∧ Keep nx h h' ∧ nx ≤ nx'
theorem out_cv {f : Nat} (hcf : compAt P f = some cfOut) (ho : orc f = none) {v N b : Nat} {v2 : Value} {ro : Bool} {h : Hp} {nx : Nat} (hv : v < N) (hb : hget h b = some (.cells [.int .i64 (N : Int), v2] ro)) :
    Cv P orc s f [.int .i64 (v : Int), .pointer (some ⟨b, 0, none⟩)] h nx (StillK (.bool false) nx h) := by
  refine Cv.enter ho hcf ?_
  unfold cfOut
  refine Ev.seq (Ev.regO ?_)
  simp only [Ov_pur, Ov_red, Ov_alc, Ov_st, Ov_g, Ov_nil, Dv_pur, Dv_red, Dv_alc, Dv_st, Dv_g, Dv_nil, c_mv, c_bin, c_un, c_conv, c_pick, cPick_bool, c_fld, cFld_agg, c_fldA, c_nilc, nilChk_ptr, c_ext, oExtract_tuple, c_ixA, natR_nat, natR_ofNat, natR_lit, natR_zero, natR_one, oIx_slice, oIx_array, c_ld, c_lens, lenS_slice, cev_t, cev_v, cevs_nil, cevs_cons, putT_some, putT_none, addrR_ptr, moveA_eq, tgs, RK_ok, of_some, bind_ok, ofGet_some, loadC_one, bin_add, bin_sub, bin_lss, bin_leq, bin_gtr, bin_geq, bin_eql, bin_neq, un_not, conv_int, nextK_normal, nextK_exit, nextK_ret, blkK_normal, blkK_ret, blkK_exit, boolIs_t, boolIs_f, boolIs_u, ↓reduceIte, Nat.reduceEqDiff, cpur_build, alc_new, alc_bsl, sliceNB_eq, cfill_nil, cfill_cons, vc_int, vc_slice, vc_agg, vc_bool, vc_ptr, cellV_int, cellV_bool, cellV_slice, cellV_ptr, cellL_nil, cellL_cons, nbV_ptr, nbO_ptr, nbV_slice, nbO_slice, List.getElem?_cons_zero, List.getElem?_cons_succ, List.length_cons, List.length_nil, List.take_zero, List.take_succ_cons, List.drop_zero, List.drop_succ_cons, List.drop_nil, List.nil_append, List.cons_append, List.append_nil, Nat.zero_add, Nat.add_zero, Nat.mul_one, Nat.reduceAdd, Nat.reduceLeDiff, Bool.and_self, Bool.and_true, Bool.true_and, true_and, and_true, cagree_0, cagree_1, cagree_2, sameR_ok, sameV_int, sameV_bool, sameV_slice, Bool.false_eq_true, setArgs_nil, setArgs_cons, Bool.not_true, Bool.not_false, isEffC_pur, isEffC_alc, isEffC_red, isEffC_eff, retK_ret, retK_normal, resVs_tmp, resVs_nil, retV_one, retV_two]
  refine Ev.seq (Ev.regO ?_)
  have f1 : ¬ ((v : Int) < 0) := by omega
  have f2 : (v : Int) < N := by omega
  repeat (first | simp only [Dv_g, Ov_g, putT_some, putT_none, tgs, ↓reduceIte, Nat.reduceEqDiff, boolIs_t, boolIs_f, boolIs_u, Bool.not_true, Bool.not_false, Bool.false_eq_true, isEffC_pur, isEffC_alc, isEffC_red, isEffC_eff] | simp only [Ov_pur, Ov_red, Ov_alc, Ov_st, Ov_nil, Dv_pur, Dv_red, Dv_alc, Dv_st, Dv_nil, c_mv, c_bin, c_un, c_conv, c_pick, cPick_bool, c_fld, cFld_agg, c_fldA, c_nilc, nilChk_ptr, c_ext, oExtract_tuple, c_ixA, natR_nat, natR_ofNat, natR_lit, natR_zero, natR_one, oIx_slice, oIx_array, c_ld, c_lens, lenS_slice, cev_t, cev_v, cevs_nil, cevs_cons, putT_some, putT_none, addrR_ptr, moveA_eq, tgs, RK_ok, of_some, bind_ok, ofGet_some, loadC_one, bin_add, bin_sub, bin_lss, bin_leq, bin_gtr, bin_geq, bin_eql, bin_neq, un_not, conv_int, nextK_normal, nextK_exit, nextK_ret, blkK_normal, blkK_ret, blkK_exit, boolIs_t, boolIs_f, boolIs_u, ↓reduceIte, Nat.reduceEqDiff, cpur_build, alc_new, alc_bsl, sliceNB_eq, cfill_nil, cfill_cons, vc_int, vc_slice, vc_agg, vc_bool, vc_ptr, cellV_int, cellV_bool, cellV_slice, cellV_ptr, cellL_nil, cellL_cons, nbV_ptr, nbO_ptr, nbV_slice, nbO_slice, List.getElem?_cons_zero, List.getElem?_cons_succ, List.length_cons, List.length_nil, List.take_zero, List.take_succ_cons, List.drop_zero, List.drop_succ_cons, List.drop_nil, List.nil_append, List.cons_append, List.append_nil, Nat.zero_add, Nat.add_zero, Nat.mul_one, Nat.reduceAdd, Nat.reduceLeDiff, Bool.and_self, Bool.and_true, Bool.true_and, true_and, and_true, cagree_0, cagree_1, cagree_2, sameR_ok, sameV_int, sameV_bool, sameV_slice, Bool.false_eq_true, setArgs_nil, setArgs_cons, Bool.not_true, Bool.not_false, isEffC_pur, isEffC_alc, isEffC_red, isEffC_eff, retK_ret, retK_normal, resVs_tmp, resVs_nil, retV_one, retV_two, cellsOf_some hb, f1, f2, decide_true, decide_false])
  refine Ev.ret ?_
  simp only [Ov_pur, Ov_red, Ov_alc, Ov_st, Ov_g, Ov_nil, Dv_pur, Dv_red, Dv_alc, Dv_st, Dv_g, Dv_nil, c_mv, c_bin, c_un, c_conv, c_pick, cPick_bool, c_fld, cFld_agg, c_fldA, c_nilc, nilChk_ptr, c_ext, oExtract_tuple, c_ixA, natR_nat, natR_ofNat, natR_lit, natR_zero, natR_one, oIx_slice, oIx_array, c_ld, c_lens, lenS_slice, cev_t, cev_v, cevs_nil, cevs_cons, putT_some, putT_none, addrR_ptr, moveA_eq, tgs, RK_ok, of_some, bind_ok, ofGet_some, loadC_one, bin_add, bin_sub, bin_lss, bin_leq, bin_gtr, bin_geq, bin_eql, bin_neq, un_not, conv_int, nextK_normal, nextK_exit, nextK_ret, blkK_normal, blkK_ret, blkK_exit, boolIs_t, boolIs_f, boolIs_u, ↓reduceIte, Nat.reduceEqDiff, cpur_build, alc_new, alc_bsl, sliceNB_eq, cfill_nil, cfill_cons, vc_int, vc_slice, vc_agg, vc_bool, vc_ptr, cellV_int, cellV_bool, cellV_slice, cellV_ptr, cellL_nil, cellL_cons, nbV_ptr, nbO_ptr, nbV_slice, nbO_slice, List.getElem?_cons_zero, List.getElem?_cons_succ, List.length_cons, List.length_nil, List.take_zero, List.take_succ_cons, List.drop_zero, List.drop_succ_cons, List.drop_nil, List.nil_append, List.cons_append, List.append_nil, Nat.zero_add, Nat.add_zero, Nat.mul_one, Nat.reduceAdd, Nat.reduceLeDiff, Bool.and_self, Bool.and_true, Bool.true_and, true_and, and_true, cagree_0, cagree_1, cagree_2, sameR_ok, sameV_int, sameV_bool, sameV_slice, Bool.false_eq_true, setArgs_nil, setArgs_cons, Bool.not_true, Bool.not_false, isEffC_pur, isEffC_alc, isEffC_red, isEffC_eff, retK_ret, retK_normal, resVs_tmp, resVs_nil, retV_one, retV_two]
  exact ⟨rfl, Keep.refl _ _, Nat.le_refl _⟩
theorem ends_cv {f f1 : Nat} (hcf : compAt P f = some cfEnds) (ho : orc f = none) (hc1 : compAt P f1 = some cfOut) (ho1 : orc f1 = none) {x : GE} {N b b3 : Nat} {v2 : Value} {ro ro3 : Bool} {h : Hp} {nx : Nat} (hx : GOk N x) (hbn : b < nx) (hb3n : b3 < nx)
    (hb : hget h b = some (.cells [.int .i64 (N : Int), v2] ro)) (hb3 : hget h b3 = some (.cells [.func (.func f1) ⟨[]⟩ ⟨[.pointer (some ⟨b, 0, none⟩)]⟩] ro3)) :
    Cv P orc s f [.agg ⟨encG x⟩, .pointer (some ⟨b3, 0, none⟩)] h nx (StillK (.bool false) nx h) := by
  refine Cv.enter ho hcf ?_
  unfold cfEnds
  refine Ev.seq (Ev.regO ?_)
  rw [Ov_alc, alc_box (l := encG x) (by simp) rfl]
  simp only [Ov_pur, Ov_red, Ov_alc, Ov_st, Ov_g, Ov_nil, Dv_pur, Dv_red, Dv_alc, Dv_st, Dv_g, Dv_nil, c_mv, c_bin, c_un, c_conv, c_pick, cPick_bool, c_fld, cFld_agg, c_fldA, c_nilc, nilChk_ptr, c_ext, oExtract_tuple, c_ixA, natR_nat, natR_ofNat, natR_lit, natR_zero, natR_one, oIx_slice, oIx_array, c_ld, c_lens, lenS_slice, cev_t, cev_v, cevs_nil, cevs_cons, putT_some, putT_none, addrR_ptr, moveA_eq, tgs, RK_ok, of_some, bind_ok, ofGet_some, loadC_one, bin_add, bin_sub, bin_lss, bin_leq, bin_gtr, bin_geq, bin_eql, bin_neq, un_not, conv_int, nextK_normal, nextK_exit, nextK_ret, blkK_normal, blkK_ret, blkK_exit, boolIs_t, boolIs_f, boolIs_u, ↓reduceIte, Nat.reduceEqDiff, cpur_build, alc_new, alc_bsl, sliceNB_eq, cfill_nil, cfill_cons, vc_int, vc_slice, vc_agg, vc_bool, vc_ptr, cellV_int, cellV_bool, cellV_slice, cellV_ptr, cellL_nil, cellL_cons, nbV_ptr, nbO_ptr, nbV_slice, nbO_slice, List.getElem?_cons_zero, List.getElem?_cons_succ, List.length_cons, List.length_nil, List.take_zero, List.take_succ_cons, List.drop_zero, List.drop_succ_cons, List.drop_nil, List.nil_append, List.cons_append, List.append_nil, Nat.zero_add, Nat.add_zero, Nat.mul_one, Nat.reduceAdd, Nat.reduceLeDiff, Bool.and_self, Bool.and_true, Bool.true_and, true_and, and_true, cagree_0, cagree_1, cagree_2, sameR_ok, sameV_int, sameV_bool, sameV_slice, Bool.false_eq_true, setArgs_nil, setArgs_cons, Bool.not_true, Bool.not_false, isEffC_pur, isEffC_alc, isEffC_red, isEffC_eff, retK_ret, retK_normal, resVs_tmp, resVs_nil, retV_one, retV_two]
  refine Ev.genH (fun tm2 h2 => tget tm2 1 = .pointer (some ⟨b3, 0, none⟩) ∧ tget tm2 2 = .pointer (some ⟨nx, 0, none⟩) ∧ Keep nx h h2 ∧ hget h2 nx = some (.cells (encG x) false)) ⟨by simp, by simp, fun c hc => by rw [hgs, if_neg (by omega)], by simp⟩ ?_
  rintro tm2 h2 ⟨t1, t2, hk, gx⟩
  have gb := (hk b hbn).trans hb
  have gb3 := (hk b3 hb3n).trans hb3
  refine Ev.seq (Ev.regO ?_)
  simp only [Ov_pur, Ov_red, Ov_alc, Ov_st, Ov_g, Ov_nil, Dv_pur, Dv_red, Dv_alc, Dv_st, Dv_g, Dv_nil, c_mv, c_bin, c_un, c_conv, c_pick, cPick_bool, c_fld, cFld_agg, c_fldA, c_nilc, nilChk_ptr, c_ext, oExtract_tuple, c_ixA, natR_nat, natR_ofNat, natR_lit, natR_zero, natR_one, oIx_slice, oIx_array, c_ld, c_lens, lenS_slice, cev_t, cev_v, cevs_nil, cevs_cons, putT_some, putT_none, addrR_ptr, moveA_eq, tgs, RK_ok, of_some, bind_ok, ofGet_some, loadC_one, bin_add, bin_sub, bin_lss, bin_leq, bin_gtr, bin_geq, bin_eql, bin_neq, un_not, conv_int, nextK_normal, nextK_exit, nextK_ret, blkK_normal, blkK_ret, blkK_exit, boolIs_t, boolIs_f, boolIs_u, ↓reduceIte, Nat.reduceEqDiff, cpur_build, alc_new, alc_bsl, sliceNB_eq, cfill_nil, cfill_cons, vc_int, vc_slice, vc_agg, vc_bool, vc_ptr, cellV_int, cellV_bool, cellV_slice, cellV_ptr, cellL_nil, cellL_cons, nbV_ptr, nbO_ptr, nbV_slice, nbO_slice, List.getElem?_cons_zero, List.getElem?_cons_succ, List.length_cons, List.length_nil, List.take_zero, List.take_succ_cons, List.drop_zero, List.drop_succ_cons, List.drop_nil, List.nil_append, List.cons_append, List.append_nil, Nat.zero_add, Nat.add_zero, Nat.mul_one, Nat.reduceAdd, Nat.reduceLeDiff, Bool.and_self, Bool.and_true, Bool.true_and, true_and, and_true, cagree_0, cagree_1, cagree_2, sameR_ok, sameV_int, sameV_bool, sameV_slice, Bool.false_eq_true, setArgs_nil, setArgs_cons, Bool.not_true, Bool.not_false, isEffC_pur, isEffC_alc, isEffC_red, isEffC_eff, retK_ret, retK_normal, resVs_tmp, resVs_nil, retV_one, retV_two, t1, t2, cellsOf_some gb3, cellsOf_some gx, encG]
  refine Ov_callv (f := f1) (a := []) (b := [.pointer (some ⟨b, 0, none⟩)]) (by simp) ?_
  simp only [Ov_pur, Ov_red, Ov_alc, Ov_st, Ov_g, Ov_nil, Dv_pur, Dv_red, Dv_alc, Dv_st, Dv_g, Dv_nil, c_mv, c_bin, c_un, c_conv, c_pick, cPick_bool, c_fld, cFld_agg, c_fldA, c_nilc, nilChk_ptr, c_ext, oExtract_tuple, c_ixA, natR_nat, natR_ofNat, natR_lit, natR_zero, natR_one, oIx_slice, oIx_array, c_ld, c_lens, lenS_slice, cev_t, cev_v, cevs_nil, cevs_cons, putT_some, putT_none, addrR_ptr, moveA_eq, tgs, RK_ok, of_some, bind_ok, ofGet_some, loadC_one, bin_add, bin_sub, bin_lss, bin_leq, bin_gtr, bin_geq, bin_eql, bin_neq, un_not, conv_int, nextK_normal, nextK_exit, nextK_ret, blkK_normal, blkK_ret, blkK_exit, boolIs_t, boolIs_f, boolIs_u, ↓reduceIte, Nat.reduceEqDiff, cpur_build, alc_new, alc_bsl, sliceNB_eq, cfill_nil, cfill_cons, vc_int, vc_slice, vc_agg, vc_bool, vc_ptr, cellV_int, cellV_bool, cellV_slice, cellV_ptr, cellL_nil, cellL_cons, nbV_ptr, nbO_ptr, nbV_slice, nbO_slice, List.getElem?_cons_zero, List.getElem?_cons_succ, List.length_cons, List.length_nil, List.take_zero, List.take_succ_cons, List.drop_zero, List.drop_succ_cons, List.drop_nil, List.nil_append, List.cons_append, List.append_nil, Nat.zero_add, Nat.add_zero, Nat.mul_one, Nat.reduceAdd, Nat.reduceLeDiff, Bool.and_self, Bool.and_true, Bool.true_and, true_and, and_true, cagree_0, cagree_1, cagree_2, sameR_ok, sameV_int, sameV_bool, sameV_slice, Bool.false_eq_true, setArgs_nil, setArgs_cons, Bool.not_true, Bool.not_false, isEffC_pur, isEffC_alc, isEffC_red, isEffC_eff, retK_ret, retK_normal, resVs_tmp, resVs_nil, retV_one, retV_two]
  refine (out_cv hc1 ho1 hx.1 gb).mono ?_
  rintro r h3 nx3 ⟨rfl, hk3, hnx3⟩
  have gb' := (hk3 b (by omega)).trans gb
  have gb3' := (hk3 b3 (by omega)).trans gb3
  have gx' := (hk3 nx (by omega)).trans gx
  repeat (first | simp only [Dv_g, Ov_g, putT_some, putT_none, tgs, ↓reduceIte, Nat.reduceEqDiff, boolIs_t, boolIs_f, boolIs_u, Bool.not_true, Bool.not_false, Bool.false_eq_true, isEffC_pur, isEffC_alc, isEffC_red, isEffC_eff] | simp only [Ov_pur, Ov_red, Ov_alc, Ov_st, Ov_nil, Dv_pur, Dv_red, Dv_alc, Dv_st, Dv_nil, c_mv, c_bin, c_un, c_conv, c_pick, cPick_bool, c_fld, cFld_agg, c_fldA, c_nilc, nilChk_ptr, c_ext, oExtract_tuple, c_ixA, natR_nat, natR_ofNat, natR_lit, natR_zero, natR_one, oIx_slice, oIx_array, c_ld, c_lens, lenS_slice, cev_t, cev_v, cevs_nil, cevs_cons, putT_some, putT_none, addrR_ptr, moveA_eq, tgs, RK_ok, of_some, bind_ok, ofGet_some, loadC_one, bin_add, bin_sub, bin_lss, bin_leq, bin_gtr, bin_geq, bin_eql, bin_neq, un_not, conv_int, nextK_normal, nextK_exit, nextK_ret, blkK_normal, blkK_ret, blkK_exit, boolIs_t, boolIs_f, boolIs_u, ↓reduceIte, Nat.reduceEqDiff, cpur_build, alc_new, alc_bsl, sliceNB_eq, cfill_nil, cfill_cons, vc_int, vc_slice, vc_agg, vc_bool, vc_ptr, cellV_int, cellV_bool, cellV_slice, cellV_ptr, cellL_nil, cellL_cons, nbV_ptr, nbO_ptr, nbV_slice, nbO_slice, List.getElem?_cons_zero, List.getElem?_cons_succ, List.length_cons, List.length_nil, List.take_zero, List.take_succ_cons, List.drop_zero, List.drop_succ_cons, List.drop_nil, List.nil_append, List.cons_append, List.append_nil, Nat.zero_add, Nat.add_zero, Nat.mul_one, Nat.reduceAdd, Nat.reduceLeDiff, Bool.and_self, Bool.and_true, Bool.true_and, true_and, and_true, cagree_0, cagree_1, cagree_2, sameR_ok, sameV_int, sameV_bool, sameV_slice, Bool.false_eq_true, setArgs_nil, setArgs_cons, Bool.not_true, Bool.not_false, isEffC_pur, isEffC_alc, isEffC_red, isEffC_eff, retK_ret, retK_normal, resVs_tmp, resVs_nil, retV_one, retV_two, t1, t2, cellsOf_some gb3', cellsOf_some gx', encG])
  refine Ov_callv (f := f1) (a := []) (b := [.pointer (some ⟨b, 0, none⟩)]) (by simp) ?_
  simp only [Ov_pur, Ov_red, Ov_alc, Ov_st, Ov_g, Ov_nil, Dv_pur, Dv_red, Dv_alc, Dv_st, Dv_g, Dv_nil, c_mv, c_bin, c_un, c_conv, c_pick, cPick_bool, c_fld, cFld_agg, c_fldA, c_nilc, nilChk_ptr, c_ext, oExtract_tuple, c_ixA, natR_nat, natR_ofNat, natR_lit, natR_zero, natR_one, oIx_slice, oIx_array, c_ld, c_lens, lenS_slice, cev_t, cev_v, cevs_nil, cevs_cons, putT_some, putT_none, addrR_ptr, moveA_eq, tgs, RK_ok, of_some, bind_ok, ofGet_some, loadC_one, bin_add, bin_sub, bin_lss, bin_leq, bin_gtr, bin_geq, bin_eql, bin_neq, un_not, conv_int, nextK_normal, nextK_exit, nextK_ret, blkK_normal, blkK_ret, blkK_exit, boolIs_t, boolIs_f, boolIs_u, ↓reduceIte, Nat.reduceEqDiff, cpur_build, alc_new, alc_bsl, sliceNB_eq, cfill_nil, cfill_cons, vc_int, vc_slice, vc_agg, vc_bool, vc_ptr, cellV_int, cellV_bool, cellV_slice, cellV_ptr, cellL_nil, cellL_cons, nbV_ptr, nbO_ptr, nbV_slice, nbO_slice, List.getElem?_cons_zero, List.getElem?_cons_succ, List.length_cons, List.length_nil, List.take_zero, List.take_succ_cons, List.drop_zero, List.drop_succ_cons, List.drop_nil, List.nil_append, List.cons_append, List.append_nil, Nat.zero_add, Nat.add_zero, Nat.mul_one, Nat.reduceAdd, Nat.reduceLeDiff, Bool.and_self, Bool.and_true, Bool.true_and, true_and, and_true, cagree_0, cagree_1, cagree_2, sameR_ok, sameV_int, sameV_bool, sameV_slice, Bool.false_eq_true, setArgs_nil, setArgs_cons, Bool.not_true, Bool.not_false, isEffC_pur, isEffC_alc, isEffC_red, isEffC_eff, retK_ret, retK_normal, resVs_tmp, resVs_nil, retV_one, retV_two]
  refine (out_cv hc1 ho1 hx.2.1 gb').mono ?_
  rintro r h4 nx4 ⟨rfl, hk4, hnx4⟩
  repeat (first | simp only [Dv_g, Ov_g, putT_some, putT_none, tgs, ↓reduceIte, Nat.reduceEqDiff, boolIs_t, boolIs_f, boolIs_u, Bool.not_true, Bool.not_false, Bool.false_eq_true, isEffC_pur, isEffC_alc, isEffC_red, isEffC_eff] | simp only [Ov_pur, Ov_red, Ov_alc, Ov_st, Ov_nil, Dv_pur, Dv_red, Dv_alc, Dv_st, Dv_nil, c_mv, c_bin, c_un, c_conv, c_pick, cPick_bool, c_fld, cFld_agg, c_fldA, c_nilc, nilChk_ptr, c_ext, oExtract_tuple, c_ixA, natR_nat, natR_ofNat, natR_lit, natR_zero, natR_one, oIx_slice, oIx_array, c_ld, c_lens, lenS_slice, cev_t, cev_v, cevs_nil, cevs_cons, putT_some, putT_none, addrR_ptr, moveA_eq, tgs, RK_ok, of_some, bind_ok, ofGet_some, loadC_one, bin_add, bin_sub, bin_lss, bin_leq, bin_gtr, bin_geq, bin_eql, bin_neq, un_not, conv_int, nextK_normal, nextK_exit, nextK_ret, blkK_normal, blkK_ret, blkK_exit, boolIs_t, boolIs_f, boolIs_u, ↓reduceIte, Nat.reduceEqDiff, cpur_build, alc_new, alc_bsl, sliceNB_eq, cfill_nil, cfill_cons, vc_int, vc_slice, vc_agg, vc_bool, vc_ptr, cellV_int, cellV_bool, cellV_slice, cellV_ptr, cellL_nil, cellL_cons, nbV_ptr, nbO_ptr, nbV_slice, nbO_slice, List.getElem?_cons_zero, List.getElem?_cons_succ, List.length_cons, List.length_nil, List.take_zero, List.take_succ_cons, List.drop_zero, List.drop_succ_cons, List.drop_nil, List.nil_append, List.cons_append, List.append_nil, Nat.zero_add, Nat.add_zero, Nat.mul_one, Nat.reduceAdd, Nat.reduceLeDiff, Bool.and_self, Bool.and_true, Bool.true_and, true_and, and_true, cagree_0, cagree_1, cagree_2, sameR_ok, sameV_int, sameV_bool, sameV_slice, Bool.false_eq_true, setArgs_nil, setArgs_cons, Bool.not_true, Bool.not_false, isEffC_pur, isEffC_alc, isEffC_red, isEffC_eff, retK_ret, retK_normal, resVs_tmp, resVs_nil, retV_one, retV_two])
  refine Ev.ret ?_
  simp only [Ov_pur, Ov_red, Ov_alc, Ov_st, Ov_g, Ov_nil, Dv_pur, Dv_red, Dv_alc, Dv_st, Dv_g, Dv_nil, c_mv, c_bin, c_un, c_conv, c_pick, cPick_bool, c_fld, cFld_agg, c_fldA, c_nilc, nilChk_ptr, c_ext, oExtract_tuple, c_ixA, natR_nat, natR_ofNat, natR_lit, natR_zero, natR_one, oIx_slice, oIx_array, c_ld, c_lens, lenS_slice, cev_t, cev_v, cevs_nil, cevs_cons, putT_some, putT_none, addrR_ptr, moveA_eq, tgs, RK_ok, of_some, bind_ok, ofGet_some, loadC_one, bin_add, bin_sub, bin_lss, bin_leq, bin_gtr, bin_geq, bin_eql, bin_neq, un_not, conv_int, nextK_normal, nextK_exit, nextK_ret, blkK_normal, blkK_ret, blkK_exit, boolIs_t, boolIs_f, boolIs_u, ↓reduceIte, Nat.reduceEqDiff, cpur_build, alc_new, alc_bsl, sliceNB_eq, cfill_nil, cfill_cons, vc_int, vc_slice, vc_agg, vc_bool, vc_ptr, cellV_int, cellV_bool, cellV_slice, cellV_ptr, cellL_nil, cellL_cons, nbV_ptr, nbO_ptr, nbV_slice, nbO_slice, List.getElem?_cons_zero, List.getElem?_cons_succ, List.length_cons, List.length_nil, List.take_zero, List.take_succ_cons, List.drop_zero, List.drop_succ_cons, List.drop_nil, List.nil_append, List.cons_append, List.append_nil, Nat.zero_add, Nat.add_zero, Nat.mul_one, Nat.reduceAdd, Nat.reduceLeDiff, Bool.and_self, Bool.and_true, Bool.true_and, true_and, and_true, cagree_0, cagree_1, cagree_2, sameR_ok, sameV_int, sameV_bool, sameV_slice, Bool.false_eq_true, setArgs_nil, setArgs_cons, Bool.not_true, Bool.not_false, isEffC_pur, isEffC_alc, isEffC_red, isEffC_eff, retK_ret, retK_normal, resVs_tmp, resVs_nil, retV_one, retV_two]
  exact ⟨rfl, (hk.trans (hk3.mono (by omega)) (Nat.le_refl _)).trans (hk4.mono (by omega)) (Nat.le_refl _), by omega⟩
theorem weighs_cv {f : Nat} (hcf : compAt P f = some cfWeighs) (ho : orc f = none) {x : GE} {N : Nat} {h : Hp} {nx : Nat} (hx : GOk N x) : Cv P orc s f [.agg ⟨encG x⟩] h nx (StillK (.bool false) nx h) := by
  refine Cv.enter ho hcf ?_
  unfold cfWeighs
  refine Ev.seq (Ev.regO ?_)
  rw [Ov_alc, alc_box (l := encG x) (by simp) rfl]
  simp only [Ov_pur, Ov_red, Ov_alc, Ov_st, Ov_g, Ov_nil, Dv_pur, Dv_red, Dv_alc, Dv_st, Dv_g, Dv_nil, c_mv, c_bin, c_un, c_conv, c_pick, cPick_bool, c_fld, cFld_agg, c_fldA, c_nilc, nilChk_ptr, c_ext, oExtract_tuple, c_ixA, natR_nat, natR_ofNat, natR_lit, natR_zero, natR_one, oIx_slice, oIx_array, c_ld, c_lens, lenS_slice, cev_t, cev_v, cevs_nil, cevs_cons, putT_some, putT_none, addrR_ptr, moveA_eq, tgs, RK_ok, of_some, bind_ok, ofGet_some, loadC_one, bin_add, bin_sub, bin_lss, bin_leq, bin_gtr, bin_geq, bin_eql, bin_neq, un_not, conv_int, nextK_normal, nextK_exit, nextK_ret, blkK_normal, blkK_ret, blkK_exit, boolIs_t, boolIs_f, boolIs_u, ↓reduceIte, Nat.reduceEqDiff, cpur_build, alc_new, alc_bsl, sliceNB_eq, cfill_nil, cfill_cons, vc_int, vc_slice, vc_agg, vc_bool, vc_ptr, cellV_int, cellV_bool, cellV_slice, cellV_ptr, cellL_nil, cellL_cons, nbV_ptr, nbO_ptr, nbV_slice, nbO_slice, List.getElem?_cons_zero, List.getElem?_cons_succ, List.length_cons, List.length_nil, List.take_zero, List.take_succ_cons, List.drop_zero, List.drop_succ_cons, List.drop_nil, List.nil_append, List.cons_append, List.append_nil, Nat.zero_add, Nat.add_zero, Nat.mul_one, Nat.reduceAdd, Nat.reduceLeDiff, Bool.and_self, Bool.and_true, Bool.true_and, true_and, and_true, cagree_0, cagree_1, cagree_2, sameR_ok, sameV_int, sameV_bool, sameV_slice, Bool.false_eq_true, setArgs_nil, setArgs_cons, Bool.not_true, Bool.not_false, isEffC_pur, isEffC_alc, isEffC_red, isEffC_eff, retK_ret, retK_normal, resVs_tmp, resVs_nil, retV_one, retV_two]
  refine Ev.genH (fun tm2 h2 => tget tm2 1 = .pointer (some ⟨nx, 0, none⟩) ∧ Keep nx h h2 ∧ hget h2 nx = some (.cells (encG x) false)) ⟨by simp, fun c hc => by rw [hgs, if_neg (by omega)], by simp⟩ ?_
  rintro tm2 h2 ⟨t1, hk, gx⟩
  obtain ⟨_, _, w0, w1⟩ := hx
  have f1 : ¬ (x.w < 0) := by omega
  have f2 : ¬ (2147483647 < x.w) := by omega
  refine Ev.seq (Ev.regO ?_)
  repeat (first | simp only [Dv_g, Ov_g, putT_some, putT_none, tgs, ↓reduceIte, Nat.reduceEqDiff, boolIs_t, boolIs_f, boolIs_u, Bool.not_true, Bool.not_false, Bool.false_eq_true, isEffC_pur, isEffC_alc, isEffC_red, isEffC_eff] | simp only [Ov_pur, Ov_red, Ov_alc, Ov_st, Ov_nil, Dv_pur, Dv_red, Dv_alc, Dv_st, Dv_nil, c_mv, c_bin, c_un, c_conv, c_pick, cPick_bool, c_fld, cFld_agg, c_fldA, c_nilc, nilChk_ptr, c_ext, oExtract_tuple, c_ixA, natR_nat, natR_ofNat, natR_lit, natR_zero, natR_one, oIx_slice, oIx_array, c_ld, c_lens, lenS_slice, cev_t, cev_v, cevs_nil, cevs_cons, putT_some, putT_none, addrR_ptr, moveA_eq, tgs, RK_ok, of_some, bind_ok, ofGet_some, loadC_one, bin_add, bin_sub, bin_lss, bin_leq, bin_gtr, bin_geq, bin_eql, bin_neq, un_not, conv_int, nextK_normal, nextK_exit, nextK_ret, blkK_normal, blkK_ret, blkK_exit, boolIs_t, boolIs_f, boolIs_u, ↓reduceIte, Nat.reduceEqDiff, cpur_build, alc_new, alc_bsl, sliceNB_eq, cfill_nil, cfill_cons, vc_int, vc_slice, vc_agg, vc_bool, vc_ptr, cellV_int, cellV_bool, cellV_slice, cellV_ptr, cellL_nil, cellL_cons, nbV_ptr, nbO_ptr, nbV_slice, nbO_slice, List.getElem?_cons_zero, List.getElem?_cons_succ, List.length_cons, List.length_nil, List.take_zero, List.take_succ_cons, List.drop_zero, List.drop_succ_cons, List.drop_nil, List.nil_append, List.cons_append, List.append_nil, Nat.zero_add, Nat.add_zero, Nat.mul_one, Nat.reduceAdd, Nat.reduceLeDiff, Bool.and_self, Bool.and_true, Bool.true_and, true_and, and_true, cagree_0, cagree_1, cagree_2, sameR_ok, sameV_int, sameV_bool, sameV_slice, Bool.false_eq_true, setArgs_nil, setArgs_cons, Bool.not_true, Bool.not_false, isEffC_pur, isEffC_alc, isEffC_red, isEffC_eff, retK_ret, retK_normal, resVs_tmp, resVs_nil, retV_one, retV_two, t1, cellsOf_some gx, encG, f1, f2, decide_false])
  refine Ev.ret ?_
  simp only [Ov_pur, Ov_red, Ov_alc, Ov_st, Ov_g, Ov_nil, Dv_pur, Dv_red, Dv_alc, Dv_st, Dv_g, Dv_nil, c_mv, c_bin, c_un, c_conv, c_pick, cPick_bool, c_fld, cFld_agg, c_fldA, c_nilc, nilChk_ptr, c_ext, oExtract_tuple, c_ixA, natR_nat, natR_ofNat, natR_lit, natR_zero, natR_one, oIx_slice, oIx_array, c_ld, c_lens, lenS_slice, cev_t, cev_v, cevs_nil, cevs_cons, putT_some, putT_none, addrR_ptr, moveA_eq, tgs, RK_ok, of_some, bind_ok, ofGet_some, loadC_one, bin_add, bin_sub, bin_lss, bin_leq, bin_gtr, bin_geq, bin_eql, bin_neq, un_not, conv_int, nextK_normal, nextK_exit, nextK_ret, blkK_normal, blkK_ret, blkK_exit, boolIs_t, boolIs_f, boolIs_u, ↓reduceIte, Nat.reduceEqDiff, cpur_build, alc_new, alc_bsl, sliceNB_eq, cfill_nil, cfill_cons, vc_int, vc_slice, vc_agg, vc_bool, vc_ptr, cellV_int, cellV_bool, cellV_slice, cellV_ptr, cellL_nil, cellL_cons, nbV_ptr, nbO_ptr, nbV_slice, nbO_slice, List.getElem?_cons_zero, List.getElem?_cons_succ, List.length_cons, List.length_nil, List.take_zero, List.take_succ_cons, List.drop_zero, List.drop_succ_cons, List.drop_nil, List.nil_append, List.cons_append, List.append_nil, Nat.zero_add, Nat.add_zero, Nat.mul_one, Nat.reduceAdd, Nat.reduceLeDiff, Bool.and_self, Bool.and_true, Bool.true_and, true_and, and_true, cagree_0, cagree_1, cagree_2, sameR_ok, sameV_int, sameV_bool, sameV_slice, Bool.false_eq_true, setArgs_nil, setArgs_cons, Bool.not_true, Bool.not_false, isEffC_pur, isEffC_alc, isEffC_red, isEffC_eff, retK_ret, retK_normal, resVs_tmp, resVs_nil, retV_one, retV_two]
  exact ⟨rfl, hk, by omega⟩
def IndJ (v : Value) (fc n : Nat) (capt : List Value) (nx : Nat) (h : Hp) (m : Nat) (tm : Tm) (h' : Hp) (nx' : Nat) : Prop :=
  ∃ i : Nat, m = n - i ∧ i ≤ n ∧ tget tm 0 = v ∧ tget tm 1 = .func (.func fc) ⟨[]⟩ ⟨capt⟩ ∧ tget tm 7 = .int .i64 (n : Int) ∧ tget tm 8 = .int .i64 (i : Int) ∧ Keep nx h h' ∧ nx ≤ nx'
theorem index_cv {f fc : Nat} (hcf : compAt P f = some cfIndex) (ho : orc f = none) {v : Value} {gs : List GE} {capt : List Value} {h : Hp} {nx : Nat} (hv : SlRd h nx v encG gs) (hl : gs.length < 1000000)
    (hp : ∀ x ∈ gs, ∀ h' nx', Keep nx h h' → nx ≤ nx' → Cv P orc s fc (.agg ⟨encG x⟩ :: capt) h' nx' (StillK (.bool false) nx' h')) :
    Cv P orc s f [v, .func (.func fc) ⟨[]⟩ ⟨capt⟩] h nx (StillK (.int .i64 (-1)) nx h) := by
  refine Cv.enter ho hcf ?_
  unfold cfIndex
  obtain ⟨a, cap, rfl, _⟩ := id hv
  refine Ev.seq (Ev.regO ?_)
  simp only [Ov_pur, Ov_red, Ov_alc, Ov_st, Ov_g, Ov_nil, Dv_pur, Dv_red, Dv_alc, Dv_st, Dv_g, Dv_nil, c_mv, c_bin, c_un, c_conv, c_pick, cPick_bool, c_fld, cFld_agg, c_fldA, c_nilc, nilChk_ptr, c_ext, oExtract_tuple, c_ixA, natR_nat, natR_ofNat, natR_lit, natR_zero, natR_one, oIx_slice, oIx_array, c_ld, c_lens, lenS_slice, cev_t, cev_v, cevs_nil, cevs_cons, putT_some, putT_none, addrR_ptr, moveA_eq, tgs, RK_ok, of_some, bind_ok, ofGet_some, loadC_one, bin_add, bin_sub, bin_lss, bin_leq, bin_gtr, bin_geq, bin_eql, bin_neq, un_not, conv_int, nextK_normal, nextK_exit, nextK_ret, blkK_normal, blkK_ret, blkK_exit, boolIs_t, boolIs_f, boolIs_u, ↓reduceIte, Nat.reduceEqDiff, cpur_build, alc_new, alc_bsl, sliceNB_eq, cfill_nil, cfill_cons, vc_int, vc_slice, vc_agg, vc_bool, vc_ptr, cellV_int, cellV_bool, cellV_slice, cellV_ptr, cellL_nil, cellL_cons, nbV_ptr, nbO_ptr, nbV_slice, nbO_slice, List.getElem?_cons_zero, List.getElem?_cons_succ, List.length_cons, List.length_nil, List.take_zero, List.take_succ_cons, List.drop_zero, List.drop_succ_cons, List.drop_nil, List.nil_append, List.cons_append, List.append_nil, Nat.zero_add, Nat.add_zero, Nat.mul_one, Nat.reduceAdd, Nat.reduceLeDiff, Bool.and_self, Bool.and_true, Bool.true_and, true_and, and_true, cagree_0, cagree_1, cagree_2, sameR_ok, sameV_int, sameV_bool, sameV_slice, Bool.false_eq_true, setArgs_nil, setArgs_cons, Bool.not_true, Bool.not_false, isEffC_pur, isEffC_alc, isEffC_red, isEffC_eff, retK_ret, retK_normal, resVs_tmp, resVs_nil, retV_one, retV_two]
  refine Ev.cut (IndJ (.slice a gs.length cap) fc gs.length capt nx h 0) ?_ ?_
  · refine Ev.seq (Ev.regO ?_)
    simp only [Ov_pur, Ov_red, Ov_alc, Ov_st, Ov_g, Ov_nil, Dv_pur, Dv_red, Dv_alc, Dv_st, Dv_g, Dv_nil, c_mv, c_bin, c_un, c_conv, c_pick, cPick_bool, c_fld, cFld_agg, c_fldA, c_nilc, nilChk_ptr, c_ext, oExtract_tuple, c_ixA, natR_nat, natR_ofNat, natR_lit, natR_zero, natR_one, oIx_slice, oIx_array, c_ld, c_lens, lenS_slice, cev_t, cev_v, cevs_nil, cevs_cons, putT_some, putT_none, addrR_ptr, moveA_eq, tgs, RK_ok, of_some, bind_ok, ofGet_some, loadC_one, bin_add, bin_sub, bin_lss, bin_leq, bin_gtr, bin_geq, bin_eql, bin_neq, un_not, conv_int, nextK_normal, nextK_exit, nextK_ret, blkK_normal, blkK_ret, blkK_exit, boolIs_t, boolIs_f, boolIs_u, ↓reduceIte, Nat.reduceEqDiff, cpur_build, alc_new, alc_bsl, sliceNB_eq, cfill_nil, cfill_cons, vc_int, vc_slice, vc_agg, vc_bool, vc_ptr, cellV_int, cellV_bool, cellV_slice, cellV_ptr, cellL_nil, cellL_cons, nbV_ptr, nbO_ptr, nbV_slice, nbO_slice, List.getElem?_cons_zero, List.getElem?_cons_succ, List.length_cons, List.length_nil, List.take_zero, List.take_succ_cons, List.drop_zero, List.drop_succ_cons, List.drop_nil, List.nil_append, List.cons_append, List.append_nil, Nat.zero_add, Nat.add_zero, Nat.mul_one, Nat.reduceAdd, Nat.reduceLeDiff, Bool.and_self, Bool.and_true, Bool.true_and, true_and, and_true, cagree_0, cagree_1, cagree_2, sameR_ok, sameV_int, sameV_bool, sameV_slice, Bool.false_eq_true, setArgs_nil, setArgs_cons, Bool.not_true, Bool.not_false, isEffC_pur, isEffC_alc, isEffC_red, isEffC_eff, retK_ret, retK_normal, resVs_tmp, resVs_nil, retV_one, retV_two]
    refine Ev.forR (IndJ (.slice a gs.length cap) fc gs.length capt nx h) ?_ gs.length _ _ _ ⟨0, rfl, by omega, by simp, by simp, by simp, by simp, Keep.refl _ _, Nat.le_refl _⟩
    rintro m tm h' nx' ⟨i, rfl, hi, t0, t1, t7, t8, hk, hnx⟩
    simp only [Ov_pur, Ov_red, Ov_alc, Ov_st, Ov_g, Ov_nil, Dv_pur, Dv_red, Dv_alc, Dv_st, Dv_g, Dv_nil, c_mv, c_bin, c_un, c_conv, c_pick, cPick_bool, c_fld, cFld_agg, c_fldA, c_nilc, nilChk_ptr, c_ext, oExtract_tuple, c_ixA, natR_nat, natR_ofNat, natR_lit, natR_zero, natR_one, oIx_slice, oIx_array, c_ld, c_lens, lenS_slice, cev_t, cev_v, cevs_nil, cevs_cons, putT_some, putT_none, addrR_ptr, moveA_eq, tgs, RK_ok, of_some, bind_ok, ofGet_some, loadC_one, bin_add, bin_sub, bin_lss, bin_leq, bin_gtr, bin_geq, bin_eql, bin_neq, un_not, conv_int, nextK_normal, nextK_exit, nextK_ret, blkK_normal, blkK_ret, blkK_exit, boolIs_t, boolIs_f, boolIs_u, ↓reduceIte, Nat.reduceEqDiff, cpur_build, alc_new, alc_bsl, sliceNB_eq, cfill_nil, cfill_cons, vc_int, vc_slice, vc_agg, vc_bool, vc_ptr, cellV_int, cellV_bool, cellV_slice, cellV_ptr, cellL_nil, cellL_cons, nbV_ptr, nbO_ptr, nbV_slice, nbO_slice, List.getElem?_cons_zero, List.getElem?_cons_succ, List.length_cons, List.length_nil, List.take_zero, List.take_succ_cons, List.drop_zero, List.drop_succ_cons, List.drop_nil, List.nil_append, List.cons_append, List.append_nil, Nat.zero_add, Nat.add_zero, Nat.mul_one, Nat.reduceAdd, Nat.reduceLeDiff, Bool.and_self, Bool.and_true, Bool.true_and, true_and, and_true, cagree_0, cagree_1, cagree_2, sameR_ok, sameV_int, sameV_bool, sameV_slice, Bool.false_eq_true, setArgs_nil, setArgs_cons, Bool.not_true, Bool.not_false, isEffC_pur, isEffC_alc, isEffC_red, isEffC_eff, retK_ret, retK_normal, resVs_tmp, resVs_nil, retV_one, retV_two, t7, t8]
    refine ⟨decide ((i : Int) < gs.length), rfl, fun e => ?_, fun e => ?_⟩
    · have : ¬ ((i : Int) < gs.length) := of_decide_eq_false e
      exact ⟨i, by omega, hi, by simpa using t0, by simpa using t1, by simpa using t7, by simpa using t8, hk, hnx⟩
    · have hil : i < gs.length := by
        have : (i : Int) < gs.length := of_decide_eq_true e
        omega
      obtain ⟨x, hx⟩ : ∃ x, gs[i]? = some x := ⟨_, List.getElem?_eq_getElem hil⟩
      obtain ⟨_, bx, spx, rox, capx, hbn, hveq, hbh⟩ := hv.at hx
      injection hveq with e1 e2 e3
      subst e1
      have hb' := (hk bx hbn).trans hbh
      refine Ev.seq (Ev.regO ?_)
      simp only [Ov_pur, Ov_red, Ov_alc, Ov_st, Ov_g, Ov_nil, Dv_pur, Dv_red, Dv_alc, Dv_st, Dv_g, Dv_nil, c_mv, c_bin, c_un, c_conv, c_pick, cPick_bool, c_fld, cFld_agg, c_fldA, c_nilc, nilChk_ptr, c_ext, oExtract_tuple, c_ixA, natR_nat, natR_ofNat, natR_lit, natR_zero, natR_one, oIx_slice, oIx_array, c_ld, c_lens, lenS_slice, cev_t, cev_v, cevs_nil, cevs_cons, putT_some, putT_none, addrR_ptr, moveA_eq, tgs, RK_ok, of_some, bind_ok, ofGet_some, loadC_one, bin_add, bin_sub, bin_lss, bin_leq, bin_gtr, bin_geq, bin_eql, bin_neq, un_not, conv_int, nextK_normal, nextK_exit, nextK_ret, blkK_normal, blkK_ret, blkK_exit, boolIs_t, boolIs_f, boolIs_u, ↓reduceIte, Nat.reduceEqDiff, cpur_build, alc_new, alc_bsl, sliceNB_eq, cfill_nil, cfill_cons, vc_int, vc_slice, vc_agg, vc_bool, vc_ptr, cellV_int, cellV_bool, cellV_slice, cellV_ptr, cellL_nil, cellL_cons, nbV_ptr, nbO_ptr, nbV_slice, nbO_slice, List.getElem?_cons_zero, List.getElem?_cons_succ, List.length_cons, List.length_nil, List.take_zero, List.take_succ_cons, List.drop_zero, List.drop_succ_cons, List.drop_nil, List.nil_append, List.cons_append, List.append_nil, Nat.zero_add, Nat.add_zero, Nat.mul_one, Nat.reduceAdd, Nat.reduceLeDiff, Bool.and_self, Bool.and_true, Bool.true_and, true_and, and_true, cagree_0, cagree_1, cagree_2, sameR_ok, sameV_int, sameV_bool, sameV_slice, Bool.false_eq_true, setArgs_nil, setArgs_cons, Bool.not_true, Bool.not_false, isEffC_pur, isEffC_alc, isEffC_red, isEffC_eff, retK_ret, retK_normal, resVs_tmp, resVs_nil, retV_one, retV_two, t8]
      refine Ev.seq (Ev.regO ?_)
      simp only [Ov_pur, Ov_red, Ov_alc, Ov_st, Ov_g, Ov_nil, Dv_pur, Dv_red, Dv_alc, Dv_st, Dv_g, Dv_nil, c_mv, c_bin, c_un, c_conv, c_pick, cPick_bool, c_fld, cFld_agg, c_fldA, c_nilc, nilChk_ptr, c_ext, oExtract_tuple, c_ixA, natR_nat, natR_ofNat, natR_lit, natR_zero, natR_one, oIx_slice, oIx_array, c_ld, c_lens, lenS_slice, cev_t, cev_v, cevs_nil, cevs_cons, putT_some, putT_none, addrR_ptr, moveA_eq, tgs, RK_ok, of_some, bind_ok, ofGet_some, loadC_one, bin_add, bin_sub, bin_lss, bin_leq, bin_gtr, bin_geq, bin_eql, bin_neq, un_not, conv_int, nextK_normal, nextK_exit, nextK_ret, blkK_normal, blkK_ret, blkK_exit, boolIs_t, boolIs_f, boolIs_u, ↓reduceIte, Nat.reduceEqDiff, cpur_build, alc_new, alc_bsl, sliceNB_eq, cfill_nil, cfill_cons, vc_int, vc_slice, vc_agg, vc_bool, vc_ptr, cellV_int, cellV_bool, cellV_slice, cellV_ptr, cellL_nil, cellL_cons, nbV_ptr, nbO_ptr, nbV_slice, nbO_slice, List.getElem?_cons_zero, List.getElem?_cons_succ, List.length_cons, List.length_nil, List.take_zero, List.take_succ_cons, List.drop_zero, List.drop_succ_cons, List.drop_nil, List.nil_append, List.cons_append, List.append_nil, Nat.zero_add, Nat.add_zero, Nat.mul_one, Nat.reduceAdd, Nat.reduceLeDiff, Bool.and_self, Bool.and_true, Bool.true_and, true_and, and_true, cagree_0, cagree_1, cagree_2, sameR_ok, sameV_int, sameV_bool, sameV_slice, Bool.false_eq_true, setArgs_nil, setArgs_cons, Bool.not_true, Bool.not_false, isEffC_pur, isEffC_alc, isEffC_red, isEffC_eff, retK_ret, retK_normal, resVs_tmp, resVs_nil, retV_one, retV_two, t0, t1, hil, cellsOf_some hb', load_flat' (enc := encG) (k := 3) (fun _ => rfl) hx]
      refine Ov_callv (f := fc) (a := []) (b := capt) (by simp [t1]) ?_
      simp only [Ov_pur, Ov_red, Ov_alc, Ov_st, Ov_g, Ov_nil, Dv_pur, Dv_red, Dv_alc, Dv_st, Dv_g, Dv_nil, c_mv, c_bin, c_un, c_conv, c_pick, cPick_bool, c_fld, cFld_agg, c_fldA, c_nilc, nilChk_ptr, c_ext, oExtract_tuple, c_ixA, natR_nat, natR_ofNat, natR_lit, natR_zero, natR_one, oIx_slice, oIx_array, c_ld, c_lens, lenS_slice, cev_t, cev_v, cevs_nil, cevs_cons, putT_some, putT_none, addrR_ptr, moveA_eq, tgs, RK_ok, of_some, bind_ok, ofGet_some, loadC_one, bin_add, bin_sub, bin_lss, bin_leq, bin_gtr, bin_geq, bin_eql, bin_neq, un_not, conv_int, nextK_normal, nextK_exit, nextK_ret, blkK_normal, blkK_ret, blkK_exit, boolIs_t, boolIs_f, boolIs_u, ↓reduceIte, Nat.reduceEqDiff, cpur_build, alc_new, alc_bsl, sliceNB_eq, cfill_nil, cfill_cons, vc_int, vc_slice, vc_agg, vc_bool, vc_ptr, cellV_int, cellV_bool, cellV_slice, cellV_ptr, cellL_nil, cellL_cons, nbV_ptr, nbO_ptr, nbV_slice, nbO_slice, List.getElem?_cons_zero, List.getElem?_cons_succ, List.length_cons, List.length_nil, List.take_zero, List.take_succ_cons, List.drop_zero, List.drop_succ_cons, List.drop_nil, List.nil_append, List.cons_append, List.append_nil, Nat.zero_add, Nat.add_zero, Nat.mul_one, Nat.reduceAdd, Nat.reduceLeDiff, Bool.and_self, Bool.and_true, Bool.true_and, true_and, and_true, cagree_0, cagree_1, cagree_2, sameR_ok, sameV_int, sameV_bool, sameV_slice, Bool.false_eq_true, setArgs_nil, setArgs_cons, Bool.not_true, Bool.not_false, isEffC_pur, isEffC_alc, isEffC_red, isEffC_eff, retK_ret, retK_normal, resVs_tmp, resVs_nil, retV_one, retV_two]
      refine (hp x (List.mem_of_getElem? hx) h' nx' hk hnx).mono ?_
      rintro r h3 nx3 ⟨rfl, hk3, hnx3⟩
      (try simp only [Ov_pur, Ov_red, Ov_alc, Ov_st, Ov_g, Ov_nil, Dv_pur, Dv_red, Dv_alc, Dv_st, Dv_g, Dv_nil, c_mv, c_bin, c_un, c_conv, c_pick, cPick_bool, c_fld, cFld_agg, c_fldA, c_nilc, nilChk_ptr, c_ext, oExtract_tuple, c_ixA, natR_nat, natR_ofNat, natR_lit, natR_zero, natR_one, oIx_slice, oIx_array, c_ld, c_lens, lenS_slice, cev_t, cev_v, cevs_nil, cevs_cons, putT_some, putT_none, addrR_ptr, moveA_eq, tgs, RK_ok, of_some, bind_ok, ofGet_some, loadC_one, bin_add, bin_sub, bin_lss, bin_leq, bin_gtr, bin_geq, bin_eql, bin_neq, un_not, conv_int, nextK_normal, nextK_exit, nextK_ret, blkK_normal, blkK_ret, blkK_exit, boolIs_t, boolIs_f, boolIs_u, ↓reduceIte, Nat.reduceEqDiff, cpur_build, alc_new, alc_bsl, sliceNB_eq, cfill_nil, cfill_cons, vc_int, vc_slice, vc_agg, vc_bool, vc_ptr, cellV_int, cellV_bool, cellV_slice, cellV_ptr, cellL_nil, cellL_cons, nbV_ptr, nbO_ptr, nbV_slice, nbO_slice, List.getElem?_cons_zero, List.getElem?_cons_succ, List.length_cons, List.length_nil, List.take_zero, List.take_succ_cons, List.drop_zero, List.drop_succ_cons, List.drop_nil, List.nil_append, List.cons_append, List.append_nil, Nat.zero_add, Nat.add_zero, Nat.mul_one, Nat.reduceAdd, Nat.reduceLeDiff, Bool.and_self, Bool.and_true, Bool.true_and, true_and, and_true, cagree_0, cagree_1, cagree_2, sameR_ok, sameV_int, sameV_bool, sameV_slice, Bool.false_eq_true, setArgs_nil, setArgs_cons, Bool.not_true, Bool.not_false, isEffC_pur, isEffC_alc, isEffC_red, isEffC_eff, retK_ret, retK_normal, resVs_tmp, resVs_nil, retV_one, retV_two])
      refine Ev.cond false (by simp) (by simp) (fun _ => Ev.skip ?_)
      (try simp only [Ov_pur, Ov_red, Ov_alc, Ov_st, Ov_g, Ov_nil, Dv_pur, Dv_red, Dv_alc, Dv_st, Dv_g, Dv_nil, c_mv, c_bin, c_un, c_conv, c_pick, cPick_bool, c_fld, cFld_agg, c_fldA, c_nilc, nilChk_ptr, c_ext, oExtract_tuple, c_ixA, natR_nat, natR_ofNat, natR_lit, natR_zero, natR_one, oIx_slice, oIx_array, c_ld, c_lens, lenS_slice, cev_t, cev_v, cevs_nil, cevs_cons, putT_some, putT_none, addrR_ptr, moveA_eq, tgs, RK_ok, of_some, bind_ok, ofGet_some, loadC_one, bin_add, bin_sub, bin_lss, bin_leq, bin_gtr, bin_geq, bin_eql, bin_neq, un_not, conv_int, nextK_normal, nextK_exit, nextK_ret, blkK_normal, blkK_ret, blkK_exit, boolIs_t, boolIs_f, boolIs_u, ↓reduceIte, Nat.reduceEqDiff, cpur_build, alc_new, alc_bsl, sliceNB_eq, cfill_nil, cfill_cons, vc_int, vc_slice, vc_agg, vc_bool, vc_ptr, cellV_int, cellV_bool, cellV_slice, cellV_ptr, cellL_nil, cellL_cons, nbV_ptr, nbO_ptr, nbV_slice, nbO_slice, List.getElem?_cons_zero, List.getElem?_cons_succ, List.length_cons, List.length_nil, List.take_zero, List.take_succ_cons, List.drop_zero, List.drop_succ_cons, List.drop_nil, List.nil_append, List.cons_append, List.append_nil, Nat.zero_add, Nat.add_zero, Nat.mul_one, Nat.reduceAdd, Nat.reduceLeDiff, Bool.and_self, Bool.and_true, Bool.true_and, true_and, and_true, cagree_0, cagree_1, cagree_2, sameR_ok, sameV_int, sameV_bool, sameV_slice, Bool.false_eq_true, setArgs_nil, setArgs_cons, Bool.not_true, Bool.not_false, isEffC_pur, isEffC_alc, isEffC_red, isEffC_eff, retK_ret, retK_normal, resVs_tmp, resVs_nil, retV_one, retV_two, t8])
      refine ⟨gs.length - (i + 1), by omega, i + 1, rfl, by omega, by simpa using t0, by simpa using t1, by simpa using t7, ?_, hk.trans (hk3.mono hnx) (Nat.le_refl _), by omega⟩
      rw [wrapS (by omega) (by omega)]; simp
  · rintro tm h' nx' ⟨i, _, _, t0, t1, t7, t8, hk, hnx⟩
    refine Ev.seq (Ev.regO ?_)
    simp only [Ov_pur, Ov_red, Ov_alc, Ov_st, Ov_g, Ov_nil, Dv_pur, Dv_red, Dv_alc, Dv_st, Dv_g, Dv_nil, c_mv, c_bin, c_un, c_conv, c_pick, cPick_bool, c_fld, cFld_agg, c_fldA, c_nilc, nilChk_ptr, c_ext, oExtract_tuple, c_ixA, natR_nat, natR_ofNat, natR_lit, natR_zero, natR_one, oIx_slice, oIx_array, c_ld, c_lens, lenS_slice, cev_t, cev_v, cevs_nil, cevs_cons, putT_some, putT_none, addrR_ptr, moveA_eq, tgs, RK_ok, of_some, bind_ok, ofGet_some, loadC_one, bin_add, bin_sub, bin_lss, bin_leq, bin_gtr, bin_geq, bin_eql, bin_neq, un_not, conv_int, nextK_normal, nextK_exit, nextK_ret, blkK_normal, blkK_ret, blkK_exit, boolIs_t, boolIs_f, boolIs_u, ↓reduceIte, Nat.reduceEqDiff, cpur_build, alc_new, alc_bsl, sliceNB_eq, cfill_nil, cfill_cons, vc_int, vc_slice, vc_agg, vc_bool, vc_ptr, cellV_int, cellV_bool, cellV_slice, cellV_ptr, cellL_nil, cellL_cons, nbV_ptr, nbO_ptr, nbV_slice, nbO_slice, List.getElem?_cons_zero, List.getElem?_cons_succ, List.length_cons, List.length_nil, List.take_zero, List.take_succ_cons, List.drop_zero, List.drop_succ_cons, List.drop_nil, List.nil_append, List.cons_append, List.append_nil, Nat.zero_add, Nat.add_zero, Nat.mul_one, Nat.reduceAdd, Nat.reduceLeDiff, Bool.and_self, Bool.and_true, Bool.true_and, true_and, and_true, cagree_0, cagree_1, cagree_2, sameR_ok, sameV_int, sameV_bool, sameV_slice, Bool.false_eq_true, setArgs_nil, setArgs_cons, Bool.not_true, Bool.not_false, isEffC_pur, isEffC_alc, isEffC_red, isEffC_eff, retK_ret, retK_normal, resVs_tmp, resVs_nil, retV_one, retV_two]
    refine Ev.ret ?_
    simp only [Ov_pur, Ov_red, Ov_alc, Ov_st, Ov_g, Ov_nil, Dv_pur, Dv_red, Dv_alc, Dv_st, Dv_g, Dv_nil, c_mv, c_bin, c_un, c_conv, c_pick, cPick_bool, c_fld, cFld_agg, c_fldA, c_nilc, nilChk_ptr, c_ext, oExtract_tuple, c_ixA, natR_nat, natR_ofNat, natR_lit, natR_zero, natR_one, oIx_slice, oIx_array, c_ld, c_lens, lenS_slice, cev_t, cev_v, cevs_nil, cevs_cons, putT_some, putT_none, addrR_ptr, moveA_eq, tgs, RK_ok, of_some, bind_ok, ofGet_some, loadC_one, bin_add, bin_sub, bin_lss, bin_leq, bin_gtr, bin_geq, bin_eql, bin_neq, un_not, conv_int, nextK_normal, nextK_exit, nextK_ret, blkK_normal, blkK_ret, blkK_exit, boolIs_t, boolIs_f, boolIs_u, ↓reduceIte, Nat.reduceEqDiff, cpur_build, alc_new, alc_bsl, sliceNB_eq, cfill_nil, cfill_cons, vc_int, vc_slice, vc_agg, vc_bool, vc_ptr, cellV_int, cellV_bool, cellV_slice, cellV_ptr, cellL_nil, cellL_cons, nbV_ptr, nbO_ptr, nbV_slice, nbO_slice, List.getElem?_cons_zero, List.getElem?_cons_succ, List.length_cons, List.length_nil, List.take_zero, List.take_succ_cons, List.drop_zero, List.drop_succ_cons, List.drop_nil, List.nil_append, List.cons_append, List.append_nil, Nat.zero_add, Nat.add_zero, Nat.mul_one, Nat.reduceAdd, Nat.reduceLeDiff, Bool.and_self, Bool.and_true, Bool.true_and, true_and, and_true, cagree_0, cagree_1, cagree_2, sameR_ok, sameV_int, sameV_bool, sameV_slice, Bool.false_eq_true, setArgs_nil, setArgs_cons, Bool.not_true, Bool.not_false, isEffC_pur, isEffC_alc, isEffC_red, isEffC_eff, retK_ret, retK_normal, resVs_tmp, resVs_nil, retV_one, retV_two]
    exact ⟨rfl, hk, hnx⟩
theorem contains_cv {f fi fc : Nat} (hcf : compAt P f = some (cfContains fi)) (ho : orc f = none) (hci : compAt P fi = some cfIndex) (hoi : orc fi = none) {v : Value} {gs : List GE} {capt : List Value} {h : Hp} {nx : Nat} (hv : SlRd h nx v encG gs) (hl : gs.length < 1000000)
    (hp : ∀ x ∈ gs, ∀ h' nx', Keep nx h h' → nx ≤ nx' → Cv P orc s fc (.agg ⟨encG x⟩ :: capt) h' nx' (StillK (.bool false) nx' h')) :
    Cv P orc s f [v, .func (.func fc) ⟨[]⟩ ⟨capt⟩] h nx (StillK (.bool false) nx h) := by
  refine Cv.enter ho hcf ?_
  unfold cfContains
  refine Ev.seq (Ev.regO ?_)
  simp only [Ov_pur, Ov_red, Ov_alc, Ov_st, Ov_g, Ov_nil, Dv_pur, Dv_red, Dv_alc, Dv_st, Dv_g, Dv_nil, c_mv, c_bin, c_un, c_conv, c_pick, cPick_bool, c_fld, cFld_agg, c_fldA, c_nilc, nilChk_ptr, c_ext, oExtract_tuple, c_ixA, natR_nat, natR_ofNat, natR_lit, natR_zero, natR_one, oIx_slice, oIx_array, c_ld, c_lens, lenS_slice, cev_t, cev_v, cevs_nil, cevs_cons, putT_some, putT_none, addrR_ptr, moveA_eq, tgs, RK_ok, of_some, bind_ok, ofGet_some, loadC_one, bin_add, bin_sub, bin_lss, bin_leq, bin_gtr, bin_geq, bin_eql, bin_neq, un_not, conv_int, nextK_normal, nextK_exit, nextK_ret, blkK_normal, blkK_ret, blkK_exit, boolIs_t, boolIs_f, boolIs_u, ↓reduceIte, Nat.reduceEqDiff, cpur_build, alc_new, alc_bsl, sliceNB_eq, cfill_nil, cfill_cons, vc_int, vc_slice, vc_agg, vc_bool, vc_ptr, cellV_int, cellV_bool, cellV_slice, cellV_ptr, cellL_nil, cellL_cons, nbV_ptr, nbO_ptr, nbV_slice, nbO_slice, List.getElem?_cons_zero, List.getElem?_cons_succ, List.length_cons, List.length_nil, List.take_zero, List.take_succ_cons, List.drop_zero, List.drop_succ_cons, List.drop_nil, List.nil_append, List.cons_append, List.append_nil, Nat.zero_add, Nat.add_zero, Nat.mul_one, Nat.reduceAdd, Nat.reduceLeDiff, Bool.and_self, Bool.and_true, Bool.true_and, true_and, and_true, cagree_0, cagree_1, cagree_2, sameR_ok, sameV_int, sameV_bool, sameV_slice, Bool.false_eq_true, setArgs_nil, setArgs_cons, Bool.not_true, Bool.not_false, isEffC_pur, isEffC_alc, isEffC_red, isEffC_eff, retK_ret, retK_normal, resVs_tmp, resVs_nil, retV_one, retV_two]
  refine Ev.seq (Ev.regO ?_)
  simp only [Ov_pur, Ov_red, Ov_alc, Ov_st, Ov_g, Ov_nil, Dv_pur, Dv_red, Dv_alc, Dv_st, Dv_g, Dv_nil, c_mv, c_bin, c_un, c_conv, c_pick, cPick_bool, c_fld, cFld_agg, c_fldA, c_nilc, nilChk_ptr, c_ext, oExtract_tuple, c_ixA, natR_nat, natR_ofNat, natR_lit, natR_zero, natR_one, oIx_slice, oIx_array, c_ld, c_lens, lenS_slice, cev_t, cev_v, cevs_nil, cevs_cons, putT_some, putT_none, addrR_ptr, moveA_eq, tgs, RK_ok, of_some, bind_ok, ofGet_some, loadC_one, bin_add, bin_sub, bin_lss, bin_leq, bin_gtr, bin_geq, bin_eql, bin_neq, un_not, conv_int, nextK_normal, nextK_exit, nextK_ret, blkK_normal, blkK_ret, blkK_exit, boolIs_t, boolIs_f, boolIs_u, ↓reduceIte, Nat.reduceEqDiff, cpur_build, alc_new, alc_bsl, sliceNB_eq, cfill_nil, cfill_cons, vc_int, vc_slice, vc_agg, vc_bool, vc_ptr, cellV_int, cellV_bool, cellV_slice, cellV_ptr, cellL_nil, cellL_cons, nbV_ptr, nbO_ptr, nbV_slice, nbO_slice, List.getElem?_cons_zero, List.getElem?_cons_succ, List.length_cons, List.length_nil, List.take_zero, List.take_succ_cons, List.drop_zero, List.drop_succ_cons, List.drop_nil, List.nil_append, List.cons_append, List.append_nil, Nat.zero_add, Nat.add_zero, Nat.mul_one, Nat.reduceAdd, Nat.reduceLeDiff, Bool.and_self, Bool.and_true, Bool.true_and, true_and, and_true, cagree_0, cagree_1, cagree_2, sameR_ok, sameV_int, sameV_bool, sameV_slice, Bool.false_eq_true, setArgs_nil, setArgs_cons, Bool.not_true, Bool.not_false, isEffC_pur, isEffC_alc, isEffC_red, isEffC_eff, retK_ret, retK_normal, resVs_tmp, resVs_nil, retV_one, retV_two]
  refine Ov_call ?_
  simp only [Ov_pur, Ov_red, Ov_alc, Ov_st, Ov_g, Ov_nil, Dv_pur, Dv_red, Dv_alc, Dv_st, Dv_g, Dv_nil, c_mv, c_bin, c_un, c_conv, c_pick, cPick_bool, c_fld, cFld_agg, c_fldA, c_nilc, nilChk_ptr, c_ext, oExtract_tuple, c_ixA, natR_nat, natR_ofNat, natR_lit, natR_zero, natR_one, oIx_slice, oIx_array, c_ld, c_lens, lenS_slice, cev_t, cev_v, cevs_nil, cevs_cons, putT_some, putT_none, addrR_ptr, moveA_eq, tgs, RK_ok, of_some, bind_ok, ofGet_some, loadC_one, bin_add, bin_sub, bin_lss, bin_leq, bin_gtr, bin_geq, bin_eql, bin_neq, un_not, conv_int, nextK_normal, nextK_exit, nextK_ret, blkK_normal, blkK_ret, blkK_exit, boolIs_t, boolIs_f, boolIs_u, ↓reduceIte, Nat.reduceEqDiff, cpur_build, alc_new, alc_bsl, sliceNB_eq, cfill_nil, cfill_cons, vc_int, vc_slice, vc_agg, vc_bool, vc_ptr, cellV_int, cellV_bool, cellV_slice, cellV_ptr, cellL_nil, cellL_cons, nbV_ptr, nbO_ptr, nbV_slice, nbO_slice, List.getElem?_cons_zero, List.getElem?_cons_succ, List.length_cons, List.length_nil, List.take_zero, List.take_succ_cons, List.drop_zero, List.drop_succ_cons, List.drop_nil, List.nil_append, List.cons_append, List.append_nil, Nat.zero_add, Nat.add_zero, Nat.mul_one, Nat.reduceAdd, Nat.reduceLeDiff, Bool.and_self, Bool.and_true, Bool.true_and, true_and, and_true, cagree_0, cagree_1, cagree_2, sameR_ok, sameV_int, sameV_bool, sameV_slice, Bool.false_eq_true, setArgs_nil, setArgs_cons, Bool.not_true, Bool.not_false, isEffC_pur, isEffC_alc, isEffC_red, isEffC_eff, retK_ret, retK_normal, resVs_tmp, resVs_nil, retV_one, retV_two]
  refine (index_cv hci hoi hv hl hp).mono ?_
  rintro r h3 nx3 ⟨rfl, hk3, hnx3⟩
  (try simp only [Ov_pur, Ov_red, Ov_alc, Ov_st, Ov_g, Ov_nil, Dv_pur, Dv_red, Dv_alc, Dv_st, Dv_g, Dv_nil, c_mv, c_bin, c_un, c_conv, c_pick, cPick_bool, c_fld, cFld_agg, c_fldA, c_nilc, nilChk_ptr, c_ext, oExtract_tuple, c_ixA, natR_nat, natR_ofNat, natR_lit, natR_zero, natR_one, oIx_slice, oIx_array, c_ld, c_lens, lenS_slice, cev_t, cev_v, cevs_nil, cevs_cons, putT_some, putT_none, addrR_ptr, moveA_eq, tgs, RK_ok, of_some, bind_ok, ofGet_some, loadC_one, bin_add, bin_sub, bin_lss, bin_leq, bin_gtr, bin_geq, bin_eql, bin_neq, un_not, conv_int, nextK_normal, nextK_exit, nextK_ret, blkK_normal, blkK_ret, blkK_exit, boolIs_t, boolIs_f, boolIs_u, ↓reduceIte, Nat.reduceEqDiff, cpur_build, alc_new, alc_bsl, sliceNB_eq, cfill_nil, cfill_cons, vc_int, vc_slice, vc_agg, vc_bool, vc_ptr, cellV_int, cellV_bool, cellV_slice, cellV_ptr, cellL_nil, cellL_cons, nbV_ptr, nbO_ptr, nbV_slice, nbO_slice, List.getElem?_cons_zero, List.getElem?_cons_succ, List.length_cons, List.length_nil, List.take_zero, List.take_succ_cons, List.drop_zero, List.drop_succ_cons, List.drop_nil, List.nil_append, List.cons_append, List.append_nil, Nat.zero_add, Nat.add_zero, Nat.mul_one, Nat.reduceAdd, Nat.reduceLeDiff, Bool.and_self, Bool.and_true, Bool.true_and, true_and, and_true, cagree_0, cagree_1, cagree_2, sameR_ok, sameV_int, sameV_bool, sameV_slice, Bool.false_eq_true, setArgs_nil, setArgs_cons, Bool.not_true, Bool.not_false, isEffC_pur, isEffC_alc, isEffC_red, isEffC_eff, retK_ret, retK_normal, resVs_tmp, resVs_nil, retV_one, retV_two])
  refine Ev.ret ?_
  simp only [Ov_pur, Ov_red, Ov_alc, Ov_st, Ov_g, Ov_nil, Dv_pur, Dv_red, Dv_alc, Dv_st, Dv_g, Dv_nil, c_mv, c_bin, c_un, c_conv, c_pick, cPick_bool, c_fld, cFld_agg, c_fldA, c_nilc, nilChk_ptr, c_ext, oExtract_tuple, c_ixA, natR_nat, natR_ofNat, natR_lit, natR_zero, natR_one, oIx_slice, oIx_array, c_ld, c_lens, lenS_slice, cev_t, cev_v, cevs_nil, cevs_cons, putT_some, putT_none, addrR_ptr, moveA_eq, tgs, RK_ok, of_some, bind_ok, ofGet_some, loadC_one, bin_add, bin_sub, bin_lss, bin_leq, bin_gtr, bin_geq, bin_eql, bin_neq, un_not, conv_int, nextK_normal, nextK_exit, nextK_ret, blkK_normal, blkK_ret, blkK_exit, boolIs_t, boolIs_f, boolIs_u, ↓reduceIte, Nat.reduceEqDiff, cpur_build, alc_new, alc_bsl, sliceNB_eq, cfill_nil, cfill_cons, vc_int, vc_slice, vc_agg, vc_bool, vc_ptr, cellV_int, cellV_bool, cellV_slice, cellV_ptr, cellL_nil, cellL_cons, nbV_ptr, nbO_ptr, nbV_slice, nbO_slice, List.getElem?_cons_zero, List.getElem?_cons_succ, List.length_cons, List.length_nil, List.take_zero, List.take_succ_cons, List.drop_zero, List.drop_succ_cons, List.drop_nil, List.nil_append, List.cons_append, List.append_nil, Nat.zero_add, Nat.add_zero, Nat.mul_one, Nat.reduceAdd, Nat.reduceLeDiff, Bool.and_self, Bool.and_true, Bool.true_and, true_and, and_true, cagree_0, cagree_1, cagree_2, sameR_ok, sameV_int, sameV_bool, sameV_slice, Bool.false_eq_true, setArgs_nil, setArgs_cons, Bool.not_true, Bool.not_false, isEffC_pur, isEffC_alc, isEffC_red, isEffC_eff, retK_ret, retK_normal, resVs_tmp, resVs_nil, retV_one, retV_two]
  exact ⟨rfl, hk3, hnx3⟩
theorem right_cv {f f1 f2 f3 fc fi te : Nat} (hcf : compAt P f = some (cfRight f1 f2 f3 fc te)) (ho : orc f = none) (hc1 : compAt P f1 = some cfOut) (ho1 : orc f1 = none) (hc2 : compAt P f2 = some cfEnds) (ho2 : orc f2 = none) (hc3 : compAt P f3 = some cfWeighs) (ho3 : orc f3 = none)
    (hcc : compAt P fc = some (cfContains fi)) (hoc : orc fc = none) (hci : compAt P fi = some cfIndex) (hoi : orc fi = none) {N : Nat} {v : Value} {gs : List GE} {h : Hp} {nx : Nat} (hv : SlRd h nx v encG gs) (hN : N < 24) (hl : gs.length ≤ 60) (hok : ∀ g ∈ gs, GOk N g) :
    Cv P orc s f [.agg ⟨[.int .i64 (N : Int), v]⟩] h nx (StillK (.int .i64 0) nx h) := by
  refine Cv.enter ho hcf ?_
  unfold cfRight
  obtain ⟨a, cap, rfl, _⟩ := id hv
  refine Ev.seq (Ev.regO ?_)
  rw [Ov_alc, alc_box (l := [.int .i64 (N : Int), .slice a gs.length cap]) (by simp) (by simp)]
  simp only [Ov_pur, Ov_red, Ov_alc, Ov_st, Ov_g, Ov_nil, Dv_pur, Dv_red, Dv_alc, Dv_st, Dv_g, Dv_nil, c_mv, c_bin, c_un, c_conv, c_pick, cPick_bool, c_fld, cFld_agg, c_fldA, c_nilc, nilChk_ptr, c_ext, oExtract_tuple, c_ixA, natR_nat, natR_ofNat, natR_lit, natR_zero, natR_one, oIx_slice, oIx_array, c_ld, c_lens, lenS_slice, cev_t, cev_v, cevs_nil, cevs_cons, putT_some, putT_none, addrR_ptr, moveA_eq, tgs, RK_ok, of_some, bind_ok, ofGet_some, loadC_one, bin_add, bin_sub, bin_lss, bin_leq, bin_gtr, bin_geq, bin_eql, bin_neq, un_not, conv_int, nextK_normal, nextK_exit, nextK_ret, blkK_normal, blkK_ret, blkK_exit, boolIs_t, boolIs_f, boolIs_u, ↓reduceIte, Nat.reduceEqDiff, cpur_build, alc_new, alc_bsl, sliceNB_eq, cfill_nil, cfill_cons, vc_int, vc_slice, vc_agg, vc_bool, vc_ptr, cellV_int, cellV_bool, cellV_slice, cellV_ptr, cellL_nil, cellL_cons, nbV_ptr, nbO_ptr, nbV_slice, nbO_slice, List.getElem?_cons_zero, List.getElem?_cons_succ, List.length_cons, List.length_nil, List.take_zero, List.take_succ_cons, List.drop_zero, List.drop_succ_cons, List.drop_nil, List.nil_append, List.cons_append, List.append_nil, Nat.zero_add, Nat.add_zero, Nat.mul_one, Nat.reduceAdd, Nat.reduceLeDiff, Bool.and_self, Bool.and_true, Bool.true_and, true_and, and_true, cagree_0, cagree_1, cagree_2, sameR_ok, sameV_int, sameV_bool, sameV_slice, Bool.false_eq_true, setArgs_nil, setArgs_cons, Bool.not_true, Bool.not_false, isEffC_pur, isEffC_alc, isEffC_red, isEffC_eff, retK_ret, retK_normal, resVs_tmp, resVs_nil, retV_one, retV_two]
  refine Ev.seq (Ev.regO ?_)
  simp only [Ov_pur, Ov_red, Ov_alc, Ov_st, Ov_g, Ov_nil, Dv_pur, Dv_red, Dv_alc, Dv_st, Dv_g, Dv_nil, c_mv, c_bin, c_un, c_conv, c_pick, cPick_bool, c_fld, cFld_agg, c_fldA, c_nilc, nilChk_ptr, c_ext, oExtract_tuple, c_ixA, natR_nat, natR_ofNat, natR_lit, natR_zero, natR_one, oIx_slice, oIx_array, c_ld, c_lens, lenS_slice, cev_t, cev_v, cevs_nil, cevs_cons, putT_some, putT_none, addrR_ptr, moveA_eq, tgs, RK_ok, of_some, bind_ok, ofGet_some, loadC_one, bin_add, bin_sub, bin_lss, bin_leq, bin_gtr, bin_geq, bin_eql, bin_neq, un_not, conv_int, nextK_normal, nextK_exit, nextK_ret, blkK_normal, blkK_ret, blkK_exit, boolIs_t, boolIs_f, boolIs_u, ↓reduceIte, Nat.reduceEqDiff, cpur_build, alc_new, alc_bsl, sliceNB_eq, cfill_nil, cfill_cons, vc_int, vc_slice, vc_agg, vc_bool, vc_ptr, cellV_int, cellV_bool, cellV_slice, cellV_ptr, cellL_nil, cellL_cons, nbV_ptr, nbO_ptr, nbV_slice, nbO_slice, List.getElem?_cons_zero, List.getElem?_cons_succ, List.length_cons, List.length_nil, List.take_zero, List.take_succ_cons, List.drop_zero, List.drop_succ_cons, List.drop_nil, List.nil_append, List.cons_append, List.append_nil, Nat.zero_add, Nat.add_zero, Nat.mul_one, Nat.reduceAdd, Nat.reduceLeDiff, Bool.and_self, Bool.and_true, Bool.true_and, true_and, and_true, cagree_0, cagree_1, cagree_2, sameR_ok, sameV_int, sameV_bool, sameV_slice, Bool.false_eq_true, setArgs_nil, setArgs_cons, Bool.not_true, Bool.not_false, isEffC_pur, isEffC_alc, isEffC_red, isEffC_eff, retK_ret, retK_normal, resVs_tmp, resVs_nil, retV_one, retV_two, vc_func, c_mkf]
  rw [RK_st1 (cs := [.nilFunc]) (by simp) rfl (by simp)]
  refine Ev.genH (fun tm2 h2 => tget tm2 1 = .pointer (some ⟨nx, 0, none⟩) ∧ tget tm2 3 = .pointer (some ⟨nx + 1, 0, none⟩) ∧ hget h2 nx = some (.cells [.int .i64 (N : Int), .slice a gs.length cap] false) ∧ hget h2 (nx + 1) = some (.cells [.func (.func f1) ⟨[]⟩ ⟨[.pointer (some ⟨nx, 0, none⟩)]⟩] false) ∧ Keep nx h h2)
    ⟨by simp, by simp, by simp, by simp, fun c hc => by rw [hgs, if_neg (by omega), hgs, if_neg (by omega), hgs, if_neg (by omega)]⟩ ?_
  rintro tm2 h2 ⟨t1, t3, g1, g3, hk⟩
  have f1' : ¬ ((N : Int) < 0) := by omega
  have f2' : ¬ ((4096 : Int) < N) := by omega
  have f3' : ¬ ((65536 : Int) < gs.length) := by omega
  refine Ev.seq (Ev.block (Ev.seq (Ev.regO ?_)))
  simp only [Ov_pur, Ov_red, Ov_alc, Ov_st, Ov_g, Ov_nil, Dv_pur, Dv_red, Dv_alc, Dv_st, Dv_g, Dv_nil, c_mv, c_bin, c_un, c_conv, c_pick, cPick_bool, c_fld, cFld_agg, c_fldA, c_nilc, nilChk_ptr, c_ext, oExtract_tuple, c_ixA, natR_nat, natR_ofNat, natR_lit, natR_zero, natR_one, oIx_slice, oIx_array, c_ld, c_lens, lenS_slice, cev_t, cev_v, cevs_nil, cevs_cons, putT_some, putT_none, addrR_ptr, moveA_eq, tgs, RK_ok, of_some, bind_ok, ofGet_some, loadC_one, bin_add, bin_sub, bin_lss, bin_leq, bin_gtr, bin_geq, bin_eql, bin_neq, un_not, conv_int, nextK_normal, nextK_exit, nextK_ret, blkK_normal, blkK_ret, blkK_exit, boolIs_t, boolIs_f, boolIs_u, ↓reduceIte, Nat.reduceEqDiff, cpur_build, alc_new, alc_bsl, sliceNB_eq, cfill_nil, cfill_cons, vc_int, vc_slice, vc_agg, vc_bool, vc_ptr, cellV_int, cellV_bool, cellV_slice, cellV_ptr, cellL_nil, cellL_cons, nbV_ptr, nbO_ptr, nbV_slice, nbO_slice, List.getElem?_cons_zero, List.getElem?_cons_succ, List.length_cons, List.length_nil, List.take_zero, List.take_succ_cons, List.drop_zero, List.drop_succ_cons, List.drop_nil, List.nil_append, List.cons_append, List.append_nil, Nat.zero_add, Nat.add_zero, Nat.mul_one, Nat.reduceAdd, Nat.reduceLeDiff, Bool.and_self, Bool.and_true, Bool.true_and, true_and, and_true, cagree_0, cagree_1, cagree_2, sameR_ok, sameV_int, sameV_bool, sameV_slice, Bool.false_eq_true, setArgs_nil, setArgs_cons, Bool.not_true, Bool.not_false, isEffC_pur, isEffC_alc, isEffC_red, isEffC_eff, retK_ret, retK_normal, resVs_tmp, resVs_nil, retV_one, retV_two, t1, cellsOf_some g1, f1', decide_false]
  refine Ev.cond false (by simp) (by simp) (fun _ => ?_)
  refine Ev.seq (Ev.seq (Ev.regO ?_))
  simp only [Ov_pur, Ov_red, Ov_alc, Ov_st, Ov_g, Ov_nil, Dv_pur, Dv_red, Dv_alc, Dv_st, Dv_g, Dv_nil, c_mv, c_bin, c_un, c_conv, c_pick, cPick_bool, c_fld, cFld_agg, c_fldA, c_nilc, nilChk_ptr, c_ext, oExtract_tuple, c_ixA, natR_nat, natR_ofNat, natR_lit, natR_zero, natR_one, oIx_slice, oIx_array, c_ld, c_lens, lenS_slice, cev_t, cev_v, cevs_nil, cevs_cons, putT_some, putT_none, addrR_ptr, moveA_eq, tgs, RK_ok, of_some, bind_ok, ofGet_some, loadC_one, bin_add, bin_sub, bin_lss, bin_leq, bin_gtr, bin_geq, bin_eql, bin_neq, un_not, conv_int, nextK_normal, nextK_exit, nextK_ret, blkK_normal, blkK_ret, blkK_exit, boolIs_t, boolIs_f, boolIs_u, ↓reduceIte, Nat.reduceEqDiff, cpur_build, alc_new, alc_bsl, sliceNB_eq, cfill_nil, cfill_cons, vc_int, vc_slice, vc_agg, vc_bool, vc_ptr, cellV_int, cellV_bool, cellV_slice, cellV_ptr, cellL_nil, cellL_cons, nbV_ptr, nbO_ptr, nbV_slice, nbO_slice, List.getElem?_cons_zero, List.getElem?_cons_succ, List.length_cons, List.length_nil, List.take_zero, List.take_succ_cons, List.drop_zero, List.drop_succ_cons, List.drop_nil, List.nil_append, List.cons_append, List.append_nil, Nat.zero_add, Nat.add_zero, Nat.mul_one, Nat.reduceAdd, Nat.reduceLeDiff, Bool.and_self, Bool.and_true, Bool.true_and, true_and, and_true, cagree_0, cagree_1, cagree_2, sameR_ok, sameV_int, sameV_bool, sameV_slice, Bool.false_eq_true, setArgs_nil, setArgs_cons, Bool.not_true, Bool.not_false, isEffC_pur, isEffC_alc, isEffC_red, isEffC_eff, retK_ret, retK_normal, resVs_tmp, resVs_nil, retV_one, retV_two, t1, cellsOf_some g1, f2', decide_false]
  refine Ev.cond false (by simp) (by simp) (fun _ => ?_)
  refine Ev.regO ?_
  simp only [Ov_pur, Ov_red, Ov_alc, Ov_st, Ov_g, Ov_nil, Dv_pur, Dv_red, Dv_alc, Dv_st, Dv_g, Dv_nil, c_mv, c_bin, c_un, c_conv, c_pick, cPick_bool, c_fld, cFld_agg, c_fldA, c_nilc, nilChk_ptr, c_ext, oExtract_tuple, c_ixA, natR_nat, natR_ofNat, natR_lit, natR_zero, natR_one, oIx_slice, oIx_array, c_ld, c_lens, lenS_slice, cev_t, cev_v, cevs_nil, cevs_cons, putT_some, putT_none, addrR_ptr, moveA_eq, tgs, RK_ok, of_some, bind_ok, ofGet_some, loadC_one, bin_add, bin_sub, bin_lss, bin_leq, bin_gtr, bin_geq, bin_eql, bin_neq, un_not, conv_int, nextK_normal, nextK_exit, nextK_ret, blkK_normal, blkK_ret, blkK_exit, boolIs_t, boolIs_f, boolIs_u, ↓reduceIte, Nat.reduceEqDiff, cpur_build, alc_new, alc_bsl, sliceNB_eq, cfill_nil, cfill_cons, vc_int, vc_slice, vc_agg, vc_bool, vc_ptr, cellV_int, cellV_bool, cellV_slice, cellV_ptr, cellL_nil, cellL_cons, nbV_ptr, nbO_ptr, nbV_slice, nbO_slice, List.getElem?_cons_zero, List.getElem?_cons_succ, List.length_cons, List.length_nil, List.take_zero, List.take_succ_cons, List.drop_zero, List.drop_succ_cons, List.drop_nil, List.nil_append, List.cons_append, List.append_nil, Nat.zero_add, Nat.add_zero, Nat.mul_one, Nat.reduceAdd, Nat.reduceLeDiff, Bool.and_self, Bool.and_true, Bool.true_and, true_and, and_true, cagree_0, cagree_1, cagree_2, sameR_ok, sameV_int, sameV_bool, sameV_slice, Bool.false_eq_true, setArgs_nil, setArgs_cons, Bool.not_true, Bool.not_false, isEffC_pur, isEffC_alc, isEffC_red, isEffC_eff, retK_ret, retK_normal, resVs_tmp, resVs_nil, retV_one, retV_two, t1, cellsOf_some g1, f3', decide_false]
  refine Ev.cond false (by simp) (by simp) (fun _ => ?_)
  refine Ev.seq (Ev.regO ?_)
  simp only [Ov_pur, Ov_red, Ov_alc, Ov_st, Ov_g, Ov_nil, Dv_pur, Dv_red, Dv_alc, Dv_st, Dv_g, Dv_nil, c_mv, c_bin, c_un, c_conv, c_pick, cPick_bool, c_fld, cFld_agg, c_fldA, c_nilc, nilChk_ptr, c_ext, oExtract_tuple, c_ixA, natR_nat, natR_ofNat, natR_lit, natR_zero, natR_one, oIx_slice, oIx_array, c_ld, c_lens, lenS_slice, cev_t, cev_v, cevs_nil, cevs_cons, putT_some, putT_none, addrR_ptr, moveA_eq, tgs, RK_ok, of_some, bind_ok, ofGet_some, loadC_one, bin_add, bin_sub, bin_lss, bin_leq, bin_gtr, bin_geq, bin_eql, bin_neq, un_not, conv_int, nextK_normal, nextK_exit, nextK_ret, blkK_normal, blkK_ret, blkK_exit, boolIs_t, boolIs_f, boolIs_u, ↓reduceIte, Nat.reduceEqDiff, cpur_build, alc_new, alc_bsl, sliceNB_eq, cfill_nil, cfill_cons, vc_int, vc_slice, vc_agg, vc_bool, vc_ptr, cellV_int, cellV_bool, cellV_slice, cellV_ptr, cellL_nil, cellL_cons, nbV_ptr, nbO_ptr, nbV_slice, nbO_slice, List.getElem?_cons_zero, List.getElem?_cons_succ, List.length_cons, List.length_nil, List.take_zero, List.take_succ_cons, List.drop_zero, List.drop_succ_cons, List.drop_nil, List.nil_append, List.cons_append, List.append_nil, Nat.zero_add, Nat.add_zero, Nat.mul_one, Nat.reduceAdd, Nat.reduceLeDiff, Bool.and_self, Bool.and_true, Bool.true_and, true_and, and_true, cagree_0, cagree_1, cagree_2, sameR_ok, sameV_int, sameV_bool, sameV_slice, Bool.false_eq_true, setArgs_nil, setArgs_cons, Bool.not_true, Bool.not_false, isEffC_pur, isEffC_alc, isEffC_red, isEffC_eff, retK_ret, retK_normal, resVs_tmp, resVs_nil, retV_one, retV_two, t1, t3, cellsOf_some g1, c_mkf]
  refine Ov_call ?_
  simp only [Ov_pur, Ov_red, Ov_alc, Ov_st, Ov_g, Ov_nil, Dv_pur, Dv_red, Dv_alc, Dv_st, Dv_g, Dv_nil, c_mv, c_bin, c_un, c_conv, c_pick, cPick_bool, c_fld, cFld_agg, c_fldA, c_nilc, nilChk_ptr, c_ext, oExtract_tuple, c_ixA, natR_nat, natR_ofNat, natR_lit, natR_zero, natR_one, oIx_slice, oIx_array, c_ld, c_lens, lenS_slice, cev_t, cev_v, cevs_nil, cevs_cons, putT_some, putT_none, addrR_ptr, moveA_eq, tgs, RK_ok, of_some, bind_ok, ofGet_some, loadC_one, bin_add, bin_sub, bin_lss, bin_leq, bin_gtr, bin_geq, bin_eql, bin_neq, un_not, conv_int, nextK_normal, nextK_exit, nextK_ret, blkK_normal, blkK_ret, blkK_exit, boolIs_t, boolIs_f, boolIs_u, ↓reduceIte, Nat.reduceEqDiff, cpur_build, alc_new, alc_bsl, sliceNB_eq, cfill_nil, cfill_cons, vc_int, vc_slice, vc_agg, vc_bool, vc_ptr, cellV_int, cellV_bool, cellV_slice, cellV_ptr, cellL_nil, cellL_cons, nbV_ptr, nbO_ptr, nbV_slice, nbO_slice, List.getElem?_cons_zero, List.getElem?_cons_succ, List.length_cons, List.length_nil, List.take_zero, List.take_succ_cons, List.drop_zero, List.drop_succ_cons, List.drop_nil, List.nil_append, List.cons_append, List.append_nil, Nat.zero_add, Nat.add_zero, Nat.mul_one, Nat.reduceAdd, Nat.reduceLeDiff, Bool.and_self, Bool.and_true, Bool.true_and, true_and, and_true, cagree_0, cagree_1, cagree_2, sameR_ok, sameV_int, sameV_bool, sameV_slice, Bool.false_eq_true, setArgs_nil, setArgs_cons, Bool.not_true, Bool.not_false, isEffC_pur, isEffC_alc, isEffC_red, isEffC_eff, retK_ret, retK_normal, resVs_tmp, resVs_nil, retV_one, retV_two]
  refine (contains_cv hcc hoc hci hoi (fc := f2) (capt := [.pointer (some ⟨nx + 1, 0, none⟩)]) (hv.keep hk (show nx ≤ nx + 1 + 1 by omega)) (by omega) (fun x hx h' nx' hk' hnx' => ends_cv hc2 ho2 hc1 ho1 (hok x hx) (b := nx) (b3 := nx + 1) (by omega) (by omega) ((hk' nx (by omega)).trans g1) ((hk' (nx + 1) (by omega)).trans g3))).mono ?_
  rintro r h3 nx3 ⟨rfl, hk3, hnx3⟩
  have g1' := (hk3 nx (by omega)).trans g1
  (try simp only [Ov_pur, Ov_red, Ov_alc, Ov_st, Ov_g, Ov_nil, Dv_pur, Dv_red, Dv_alc, Dv_st, Dv_g, Dv_nil, c_mv, c_bin, c_un, c_conv, c_pick, cPick_bool, c_fld, cFld_agg, c_fldA, c_nilc, nilChk_ptr, c_ext, oExtract_tuple, c_ixA, natR_nat, natR_ofNat, natR_lit, natR_zero, natR_one, oIx_slice, oIx_array, c_ld, c_lens, lenS_slice, cev_t, cev_v, cevs_nil, cevs_cons, putT_some, putT_none, addrR_ptr, moveA_eq, tgs, RK_ok, of_some, bind_ok, ofGet_some, loadC_one, bin_add, bin_sub, bin_lss, bin_leq, bin_gtr, bin_geq, bin_eql, bin_neq, un_not, conv_int, nextK_normal, nextK_exit, nextK_ret, blkK_normal, blkK_ret, blkK_exit, boolIs_t, boolIs_f, boolIs_u, ↓reduceIte, Nat.reduceEqDiff, cpur_build, alc_new, alc_bsl, sliceNB_eq, cfill_nil, cfill_cons, vc_int, vc_slice, vc_agg, vc_bool, vc_ptr, cellV_int, cellV_bool, cellV_slice, cellV_ptr, cellL_nil, cellL_cons, nbV_ptr, nbO_ptr, nbV_slice, nbO_slice, List.getElem?_cons_zero, List.getElem?_cons_succ, List.length_cons, List.length_nil, List.take_zero, List.take_succ_cons, List.drop_zero, List.drop_succ_cons, List.drop_nil, List.nil_append, List.cons_append, List.append_nil, Nat.zero_add, Nat.add_zero, Nat.mul_one, Nat.reduceAdd, Nat.reduceLeDiff, Bool.and_self, Bool.and_true, Bool.true_and, true_and, and_true, cagree_0, cagree_1, cagree_2, sameR_ok, sameV_int, sameV_bool, sameV_slice, Bool.false_eq_true, setArgs_nil, setArgs_cons, Bool.not_true, Bool.not_false, isEffC_pur, isEffC_alc, isEffC_red, isEffC_eff, retK_ret, retK_normal, resVs_tmp, resVs_nil, retV_one, retV_two])
  refine Ev.cond false (by simp) (by simp) (fun _ => ?_)
  refine Ev.seq (Ev.regO ?_)
  simp only [Ov_pur, Ov_red, Ov_alc, Ov_st, Ov_g, Ov_nil, Dv_pur, Dv_red, Dv_alc, Dv_st, Dv_g, Dv_nil, c_mv, c_bin, c_un, c_conv, c_pick, cPick_bool, c_fld, cFld_agg, c_fldA, c_nilc, nilChk_ptr, c_ext, oExtract_tuple, c_ixA, natR_nat, natR_ofNat, natR_lit, natR_zero, natR_one, oIx_slice, oIx_array, c_ld, c_lens, lenS_slice, cev_t, cev_v, cevs_nil, cevs_cons, putT_some, putT_none, addrR_ptr, moveA_eq, tgs, RK_ok, of_some, bind_ok, ofGet_some, loadC_one, bin_add, bin_sub, bin_lss, bin_leq, bin_gtr, bin_geq, bin_eql, bin_neq, un_not, conv_int, nextK_normal, nextK_exit, nextK_ret, blkK_normal, blkK_ret, blkK_exit, boolIs_t, boolIs_f, boolIs_u, ↓reduceIte, Nat.reduceEqDiff, cpur_build, alc_new, alc_bsl, sliceNB_eq, cfill_nil, cfill_cons, vc_int, vc_slice, vc_agg, vc_bool, vc_ptr, cellV_int, cellV_bool, cellV_slice, cellV_ptr, cellL_nil, cellL_cons, nbV_ptr, nbO_ptr, nbV_slice, nbO_slice, List.getElem?_cons_zero, List.getElem?_cons_succ, List.length_cons, List.length_nil, List.take_zero, List.take_succ_cons, List.drop_zero, List.drop_succ_cons, List.drop_nil, List.nil_append, List.cons_append, List.append_nil, Nat.zero_add, Nat.add_zero, Nat.mul_one, Nat.reduceAdd, Nat.reduceLeDiff, Bool.and_self, Bool.and_true, Bool.true_and, true_and, and_true, cagree_0, cagree_1, cagree_2, sameR_ok, sameV_int, sameV_bool, sameV_slice, Bool.false_eq_true, setArgs_nil, setArgs_cons, Bool.not_true, Bool.not_false, isEffC_pur, isEffC_alc, isEffC_red, isEffC_eff, retK_ret, retK_normal, resVs_tmp, resVs_nil, retV_one, retV_two, t1, cellsOf_some g1']
  refine Ov_call ?_
  simp only [Ov_pur, Ov_red, Ov_alc, Ov_st, Ov_g, Ov_nil, Dv_pur, Dv_red, Dv_alc, Dv_st, Dv_g, Dv_nil, c_mv, c_bin, c_un, c_conv, c_pick, cPick_bool, c_fld, cFld_agg, c_fldA, c_nilc, nilChk_ptr, c_ext, oExtract_tuple, c_ixA, natR_nat, natR_ofNat, natR_lit, natR_zero, natR_one, oIx_slice, oIx_array, c_ld, c_lens, lenS_slice, cev_t, cev_v, cevs_nil, cevs_cons, putT_some, putT_none, addrR_ptr, moveA_eq, tgs, RK_ok, of_some, bind_ok, ofGet_some, loadC_one, bin_add, bin_sub, bin_lss, bin_leq, bin_gtr, bin_geq, bin_eql, bin_neq, un_not, conv_int, nextK_normal, nextK_exit, nextK_ret, blkK_normal, blkK_ret, blkK_exit, boolIs_t, boolIs_f, boolIs_u, ↓reduceIte, Nat.reduceEqDiff, cpur_build, alc_new, alc_bsl, sliceNB_eq, cfill_nil, cfill_cons, vc_int, vc_slice, vc_agg, vc_bool, vc_ptr, cellV_int, cellV_bool, cellV_slice, cellV_ptr, cellL_nil, cellL_cons, nbV_ptr, nbO_ptr, nbV_slice, nbO_slice, List.getElem?_cons_zero, List.getElem?_cons_succ, List.length_cons, List.length_nil, List.take_zero, List.take_succ_cons, List.drop_zero, List.drop_succ_cons, List.drop_nil, List.nil_append, List.cons_append, List.append_nil, Nat.zero_add, Nat.add_zero, Nat.mul_one, Nat.reduceAdd, Nat.reduceLeDiff, Bool.and_self, Bool.and_true, Bool.true_and, true_and, and_true, cagree_0, cagree_1, cagree_2, sameR_ok, sameV_int, sameV_bool, sameV_slice, Bool.false_eq_true, setArgs_nil, setArgs_cons, Bool.not_true, Bool.not_false, isEffC_pur, isEffC_alc, isEffC_red, isEffC_eff, retK_ret, retK_normal, resVs_tmp, resVs_nil, retV_one, retV_two]
  refine (contains_cv hcc hoc hci hoi (fc := f3) (capt := []) ((hv.keep hk (show nx ≤ nx + 1 + 1 by omega)).keep hk3 (by omega)) (by omega) (fun x hx h' nx' hk' hnx' => weighs_cv hc3 ho3 (hok x hx))).mono ?_
  rintro r h4 nx4 ⟨rfl, hk4, hnx4⟩
  (try simp only [Ov_pur, Ov_red, Ov_alc, Ov_st, Ov_g, Ov_nil, Dv_pur, Dv_red, Dv_alc, Dv_st, Dv_g, Dv_nil, c_mv, c_bin, c_un, c_conv, c_pick, cPick_bool, c_fld, cFld_agg, c_fldA, c_nilc, nilChk_ptr, c_ext, oExtract_tuple, c_ixA, natR_nat, natR_ofNat, natR_lit, natR_zero, natR_one, oIx_slice, oIx_array, c_ld, c_lens, lenS_slice, cev_t, cev_v, cevs_nil, cevs_cons, putT_some, putT_none, addrR_ptr, moveA_eq, tgs, RK_ok, of_some, bind_ok, ofGet_some, loadC_one, bin_add, bin_sub, bin_lss, bin_leq, bin_gtr, bin_geq, bin_eql, bin_neq, un_not, conv_int, nextK_normal, nextK_exit, nextK_ret, blkK_normal, blkK_ret, blkK_exit, boolIs_t, boolIs_f, boolIs_u, ↓reduceIte, Nat.reduceEqDiff, cpur_build, alc_new, alc_bsl, sliceNB_eq, cfill_nil, cfill_cons, vc_int, vc_slice, vc_agg, vc_bool, vc_ptr, cellV_int, cellV_bool, cellV_slice, cellV_ptr, cellL_nil, cellL_cons, nbV_ptr, nbO_ptr, nbV_slice, nbO_slice, List.getElem?_cons_zero, List.getElem?_cons_succ, List.length_cons, List.length_nil, List.take_zero, List.take_succ_cons, List.drop_zero, List.drop_succ_cons, List.drop_nil, List.nil_append, List.cons_append, List.append_nil, Nat.zero_add, Nat.add_zero, Nat.mul_one, Nat.reduceAdd, Nat.reduceLeDiff, Bool.and_self, Bool.and_true, Bool.true_and, true_and, and_true, cagree_0, cagree_1, cagree_2, sameR_ok, sameV_int, sameV_bool, sameV_slice, Bool.false_eq_true, setArgs_nil, setArgs_cons, Bool.not_true, Bool.not_false, isEffC_pur, isEffC_alc, isEffC_red, isEffC_eff, retK_ret, retK_normal, resVs_tmp, resVs_nil, retV_one, retV_two])
  refine Ev.cond false (by simp) (by simp) (fun _ => Ev.skip ?_)
  (try simp only [Ov_pur, Ov_red, Ov_alc, Ov_st, Ov_g, Ov_nil, Dv_pur, Dv_red, Dv_alc, Dv_st, Dv_g, Dv_nil, c_mv, c_bin, c_un, c_conv, c_pick, cPick_bool, c_fld, cFld_agg, c_fldA, c_nilc, nilChk_ptr, c_ext, oExtract_tuple, c_ixA, natR_nat, natR_ofNat, natR_lit, natR_zero, natR_one, oIx_slice, oIx_array, c_ld, c_lens, lenS_slice, cev_t, cev_v, cevs_nil, cevs_cons, putT_some, putT_none, addrR_ptr, moveA_eq, tgs, RK_ok, of_some, bind_ok, ofGet_some, loadC_one, bin_add, bin_sub, bin_lss, bin_leq, bin_gtr, bin_geq, bin_eql, bin_neq, un_not, conv_int, nextK_normal, nextK_exit, nextK_ret, blkK_normal, blkK_ret, blkK_exit, boolIs_t, boolIs_f, boolIs_u, ↓reduceIte, Nat.reduceEqDiff, cpur_build, alc_new, alc_bsl, sliceNB_eq, cfill_nil, cfill_cons, vc_int, vc_slice, vc_agg, vc_bool, vc_ptr, cellV_int, cellV_bool, cellV_slice, cellV_ptr, cellL_nil, cellL_cons, nbV_ptr, nbO_ptr, nbV_slice, nbO_slice, List.getElem?_cons_zero, List.getElem?_cons_succ, List.length_cons, List.length_nil, List.take_zero, List.take_succ_cons, List.drop_zero, List.drop_succ_cons, List.drop_nil, List.nil_append, List.cons_append, List.append_nil, Nat.zero_add, Nat.add_zero, Nat.mul_one, Nat.reduceAdd, Nat.reduceLeDiff, Bool.and_self, Bool.and_true, Bool.true_and, true_and, and_true, cagree_0, cagree_1, cagree_2, sameR_ok, sameV_int, sameV_bool, sameV_slice, Bool.false_eq_true, setArgs_nil, setArgs_cons, Bool.not_true, Bool.not_false, isEffC_pur, isEffC_alc, isEffC_red, isEffC_eff, retK_ret, retK_normal, resVs_tmp, resVs_nil, retV_one, retV_two])
  refine Ev.seq (Ev.regO ?_)
  simp only [Ov_pur, Ov_red, Ov_alc, Ov_st, Ov_g, Ov_nil, Dv_pur, Dv_red, Dv_alc, Dv_st, Dv_g, Dv_nil, c_mv, c_bin, c_un, c_conv, c_pick, cPick_bool, c_fld, cFld_agg, c_fldA, c_nilc, nilChk_ptr, c_ext, oExtract_tuple, c_ixA, natR_nat, natR_ofNat, natR_lit, natR_zero, natR_one, oIx_slice, oIx_array, c_ld, c_lens, lenS_slice, cev_t, cev_v, cevs_nil, cevs_cons, putT_some, putT_none, addrR_ptr, moveA_eq, tgs, RK_ok, of_some, bind_ok, ofGet_some, loadC_one, bin_add, bin_sub, bin_lss, bin_leq, bin_gtr, bin_geq, bin_eql, bin_neq, un_not, conv_int, nextK_normal, nextK_exit, nextK_ret, blkK_normal, blkK_ret, blkK_exit, boolIs_t, boolIs_f, boolIs_u, ↓reduceIte, Nat.reduceEqDiff, cpur_build, alc_new, alc_bsl, sliceNB_eq, cfill_nil, cfill_cons, vc_int, vc_slice, vc_agg, vc_bool, vc_ptr, cellV_int, cellV_bool, cellV_slice, cellV_ptr, cellL_nil, cellL_cons, nbV_ptr, nbO_ptr, nbV_slice, nbO_slice, List.getElem?_cons_zero, List.getElem?_cons_succ, List.length_cons, List.length_nil, List.take_zero, List.take_succ_cons, List.drop_zero, List.drop_succ_cons, List.drop_nil, List.nil_append, List.cons_append, List.append_nil, Nat.zero_add, Nat.add_zero, Nat.mul_one, Nat.reduceAdd, Nat.reduceLeDiff, Bool.and_self, Bool.and_true, Bool.true_and, true_and, and_true, cagree_0, cagree_1, cagree_2, sameR_ok, sameV_int, sameV_bool, sameV_slice, Bool.false_eq_true, setArgs_nil, setArgs_cons, Bool.not_true, Bool.not_false, isEffC_pur, isEffC_alc, isEffC_red, isEffC_eff, retK_ret, retK_normal, resVs_tmp, resVs_nil, retV_one, retV_two]
  refine Ev.ret ?_
  simp only [Ov_pur, Ov_red, Ov_alc, Ov_st, Ov_g, Ov_nil, Dv_pur, Dv_red, Dv_alc, Dv_st, Dv_g, Dv_nil, c_mv, c_bin, c_un, c_conv, c_pick, cPick_bool, c_fld, cFld_agg, c_fldA, c_nilc, nilChk_ptr, c_ext, oExtract_tuple, c_ixA, natR_nat, natR_ofNat, natR_lit, natR_zero, natR_one, oIx_slice, oIx_array, c_ld, c_lens, lenS_slice, cev_t, cev_v, cevs_nil, cevs_cons, putT_some, putT_none, addrR_ptr, moveA_eq, tgs, RK_ok, of_some, bind_ok, ofGet_some, loadC_one, bin_add, bin_sub, bin_lss, bin_leq, bin_gtr, bin_geq, bin_eql, bin_neq, un_not, conv_int, nextK_normal, nextK_exit, nextK_ret, blkK_normal, blkK_ret, blkK_exit, boolIs_t, boolIs_f, boolIs_u, ↓reduceIte, Nat.reduceEqDiff, cpur_build, alc_new, alc_bsl, sliceNB_eq, cfill_nil, cfill_cons, vc_int, vc_slice, vc_agg, vc_bool, vc_ptr, cellV_int, cellV_bool, cellV_slice, cellV_ptr, cellL_nil, cellL_cons, nbV_ptr, nbO_ptr, nbV_slice, nbO_slice, List.getElem?_cons_zero, List.getElem?_cons_succ, List.length_cons, List.length_nil, List.take_zero, List.take_succ_cons, List.drop_zero, List.drop_succ_cons, List.drop_nil, List.nil_append, List.cons_append, List.append_nil, Nat.zero_add, Nat.add_zero, Nat.mul_one, Nat.reduceAdd, Nat.reduceLeDiff, Bool.and_self, Bool.and_true, Bool.true_and, true_and, and_true, cagree_0, cagree_1, cagree_2, sameR_ok, sameV_int, sameV_bool, sameV_slice, Bool.false_eq_true, setArgs_nil, setArgs_cons, Bool.not_true, Bool.not_false, isEffC_pur, isEffC_alc, isEffC_red, isEffC_eff, retK_ret, retK_normal, resVs_tmp, resVs_nil, retV_one, retV_two]
  exact ⟨rfl, (hk.trans (hk3.mono (by omega)) (Nat.le_refl _)).trans (hk4.mono (by omega)) (Nat.le_refl _), by omega⟩
end
end Go.Ax

/-! part PlComps -/
namespace Go.Ax
/-! # plain: labels, forests -/
theorem lt_of_get {α : Type} {l : List α} {i : Nat} {x : α} (h : l[i]? = some x) : i < l.length := by
  rcases Nat.lt_or_ge i l.length with h1 | h1
  · exact h1
  · rw [List.getElem?_eq_none h1] at h; cases h
theorem getD_of {α : Type} {l : List α} {i : Nat} {x d : α} (h : l[i]? = some x) : l.getD i d = x := by simp [List.getD, h]
/-- the least vertex with which each one hangs together -/
structure IsLab (n : Nat) (es : List GE) (L : List Nat) : Prop where
  len : L.length = n
  edge : ∀ e ∈ es, L[e.f]? = L[e.t]?
  le : ∀ (v x : Nat), L[v]? = some x → x ≤ v
  con : ∀ (c : Nat → Nat), (∀ e ∈ es, c e.f = c e.t) → ∀ (v x : Nat), L[v]? = some x → c x = c v
theorem IsLab.le_of {n : Nat} {es : List GE} {A B : List Nat} (ha : IsLab n es A) (hb : IsLab n es B) {v x y : Nat} (hx : A[v]? = some x) (hy : B[v]? = some y) : y ≤ x := by
  have h1 := ha.con (fun u => B.getD u 0) (fun e he => by simp [List.getD, hb.edge e he]) v x hx
  have hv := lt_of_get hy
  have hxv := ha.le v x hx
  have h2 : B[x]? = some B[x] := List.getElem?_eq_getElem (by omega)
  have h1 : B.getD x 0 = B.getD v 0 := h1
  rw [getD_of h2, getD_of hy] at h1
  have := hb.le x _ h2
  omega
theorem IsLab.unique {n : Nat} {es : List GE} {A B : List Nat} (ha : IsLab n es A) (hb : IsLab n es B) : A = B := by
  refine List.ext_getElem? fun v => ?_
  cases hx : A[v]? with
  | none =>
    cases hy : B[v]? with
    | none => rfl
    | some y => have := lt_of_get hy; rw [hb.len, ← ha.len] at this; rw [List.getElem?_eq_none_iff] at hx; omega
  | some x =>
    cases hy : B[v]? with
    | none => have := lt_of_get hx; rw [ha.len, ← hb.len] at this; rw [List.getElem?_eq_none_iff] at hy; omega
    | some y =>
      have h1 := ha.le_of hb hx hy
      have h2 := hb.le_of ha hy hx
      congr 1; omega
/-- a label is its own -/
theorem IsLab.own {n : Nat} {es : List GE} {A : List Nat} (ha : IsLab n es A) {v x : Nat} (hx : A[v]? = some x) : A[x]? = some x := by
  have h1 := ha.con (fun u => A.getD u 0) (fun e he => by simp [List.getD, ha.edge e he]) v x hx
  have hv := lt_of_get hx
  have hxv := ha.le v x hx
  have h2 : A[x]? = some A[x] := List.getElem?_eq_getElem (by omega)
  have h1 : A.getD x 0 = A.getD v 0 := h1
  rw [getD_of h2, getD_of hx] at h1
  rw [h2, h1]

/-! ## forests -/
inductive Root (f : List Nat) : Nat → Nat → Prop
  | here {v : Nat} (h : f[v]? = some v) : Root f v v
  | up {v u r : Nat} (h : f[v]? = some u) (hn : u ≠ v) (t : Root f u r) : Root f v r
def Forest (n : Nat) (f : List Nat) : Prop := f.length = n ∧ ∀ (v x : Nat), f[v]? = some x → x ≤ v
theorem Root.det {f : List Nat} {v r r' : Nat} (h : Root f v r) (h' : Root f v r') : r = r' := by
  induction h with
  | here h =>
    cases h' with
    | here _ => rfl
    | up h2 hn _ => rw [h] at h2; cases h2; exact absurd rfl hn
  | up h hn _ ih =>
    cases h' with
    | here h2 => rw [h] at h2; cases h2; exact absurd rfl hn
    | up h2 _ t => rw [h] at h2; cases h2; exact ih t
theorem Root.is {f : List Nat} {v r : Nat} (h : Root f v r) : f[r]? = some r := by
  induction h with
  | here h => exact h
  | up _ _ _ ih => exact ih
theorem Root.le {n : Nat} {f : List Nat} (hf : Forest n f) {v r : Nat} (h : Root f v r) : r ≤ v := by
  induction h with
  | here h => exact Nat.le_refl _
  | up h _ _ ih => exact Nat.le_trans ih (hf.2 _ _ h)
theorem Forest.root {n : Nat} {f : List Nat} (hf : Forest n f) : ∀ v, v < n → ∃ r, Root f v r := by
  intro v
  induction v using Nat.strongRecOn with
  | _ v ih =>
    intro hv
    have hvl : v < f.length := by rw [hf.1]; exact hv
    have hx : f[v]? = some f[v] := List.getElem?_eq_getElem hvl
    have hle := hf.2 v _ hx
    by_cases he : f[v] = v
    · exact ⟨v, .here (by rw [hx, he])⟩
    · obtain ⟨r, hr⟩ := ih f[v] (by omega) (by omega)
      exact ⟨r, .up hx he hr⟩
/-- one is led to its root at once -/
theorem Root.short {n : Nat} {f : List Nat} (hf : Forest n f) {v r : Nat} (hv : Root f v r) : Forest n (f.set v r) ∧ ∀ u q, Root f u q → Root (f.set v r) u q := by
  have hvl : v < f.length := by
    cases hv with
    | here h => exact lt_of_get h
    | up h _ _ => exact lt_of_get h
  have hg : ∀ u, (f.set v r)[u]? = if u = v then some r else f[u]? := fun u => by
    rw [List.getElem?_set]
    by_cases e : v = u
    · subst e; simp [hvl]
    · simp [e, Ne.symm e]
  have hr := hv.is
  have hrr : (f.set v r)[r]? = some r := by rw [hg]; split <;> simp_all
  refine ⟨⟨by rw [List.length_set]; exact hf.1, fun u x hx => ?_⟩, fun u q h => ?_⟩
  · rw [hg] at hx
    split at hx
    · rename_i e; cases hx; rw [e]; exact hv.le hf
    · exact hf.2 u x hx
  · induction h with
    | @here u h =>
      by_cases e : u = v
      · subst e
        have := hv.det (.here h)
        subst this
        exact .here hrr
      · exact .here (by rw [hg, if_neg e]; exact h)
    | @up u x q h hn t ih =>
      by_cases e : u = v
      · subst e
        have := hv.det (.up h hn t)
        subst this
        by_cases e2 : r = u
        · rw [e2] at hrr ⊢; exact .here hrr
        · exact .up (by rw [hg, if_pos rfl]) e2 (.here hrr)
      · exact .up (by rw [hg, if_neg e]; exact h) hn ih
/-- two roots become one -/
theorem Root.join {n : Nat} {f : List Nat} (hf : Forest n f) {a b : Nat} (ha : f[a]? = some a) (hb : f[b]? = some b) (hab : b ≤ a) : Forest n (f.set a b) ∧ ∀ u q, Root f u q → Root (f.set a b) u (if q = a then b else q) := by
  have hal := lt_of_get ha
  have hg : ∀ u, (f.set a b)[u]? = if u = a then some b else f[u]? := fun u => by
    rw [List.getElem?_set]
    by_cases e : a = u
    · subst e; simp [hal]
    · simp [e, Ne.symm e]
  have hbb : (f.set a b)[b]? = some b := by rw [hg]; split <;> simp_all
  refine ⟨⟨by rw [List.length_set]; exact hf.1, fun u x hx => ?_⟩, fun u q h => ?_⟩
  · rw [hg] at hx
    split at hx
    · rename_i e; cases hx; rw [e]; exact hab
    · exact hf.2 u x hx
  · induction h with
    | @here u h =>
      by_cases e : u = a
      · subst e
        rw [if_pos rfl]
        by_cases e2 : b = u
        · rw [e2] at hbb ⊢; exact .here hbb
        · exact .up (by rw [hg, if_pos rfl]) e2 (.here hbb)
      · rw [if_neg e]
        exact .here (by rw [hg, if_neg e]; exact h)
    | @up u x q h hn t ih =>
      have e : u ≠ a := fun e => by subst e; rw [ha] at h; cases h; exact hn rfl
      exact .up (by rw [hg, if_neg e]; exact h) hn ih
/-- a forest of the first i edges -/
structure ForI (n : Nat) (es : List GE) (i : Nat) (f : List Nat) : Prop where
  forest : Forest n f
  edge : ∀ e ∈ es.take i, ∀ q, Root f e.f q → Root f e.t q
  con : ∀ (c : Nat → Nat), (∀ e ∈ es, c e.f = c e.t) → ∀ v r, Root f v r → c r = c v
theorem ForI.init {n : Nat} {es : List GE} : ForI n es 0 (List.range n) := by
  have hg : ∀ v x, (List.range n)[v]? = some x → x = v := fun v x h => by
    rw [List.getElem?_range (by simpa using lt_of_get h)] at h; cases h; rfl
  refine ⟨⟨by simp, fun v x h => by rw [hg v x h]; exact Nat.le_refl _⟩, fun e he => by simp at he, fun c hc v r h => ?_⟩
  cases h with
  | here h => rfl
  | up h hn _ => exact absurd (hg _ _ h) hn
/-- the same roots -/
theorem ForI.same {n : Nat} {es : List GE} {i : Nat} {f f' : List Nat} (h : ForI n es i f) (hf : Forest n f') (hs : ∀ u q, Root f u q → Root f' u q) : ForI n es i f' := by
  have back : ∀ u q, Root f' u q → Root f u q := fun u q hq => by
    have hu : u < n := by
      cases hq with
      | here h => have := lt_of_get h; rw [hf.1] at this; exact this
      | up h _ _ => have := lt_of_get h; rw [hf.1] at this; exact this
    obtain ⟨r, hr⟩ := h.forest.root u hu
    rw [hq.det (hs u r hr)]; exact hr
  exact ⟨hf, fun e he q hq => hs _ _ (h.edge e he q (back _ _ hq)), fun c hc v r hr => h.con c hc v r (back _ _ hr)⟩
theorem ForI.step {n : Nat} {es : List GE} {i : Nat} {f : List Nat} (h : ForI n es i f) {e : GE} (he : es[i]? = some e) {a b : Nat} (ha : Root f e.f a) (hb : Root f e.t b) : ForI n es (i + 1) (f.set (max a b) (min a b)) := by
  have hmx : f[max a b]? = some (max a b) := by
    rcases Nat.le_total a b with h1 | h1
    · rw [Nat.max_eq_right h1]; exact hb.is
    · rw [Nat.max_eq_left h1]; exact ha.is
  have hmn : f[min a b]? = some (min a b) := by
    rcases Nat.le_total a b with h1 | h1
    · rw [Nat.min_eq_left h1]; exact ha.is
    · rw [Nat.min_eq_right h1]; exact hb.is
  obtain ⟨hf', hs⟩ := Root.join h.forest hmx hmn (by omega)
  have back : ∀ u q, Root (f.set (max a b) (min a b)) u q → ∃ r, Root f u r ∧ q = if r = max a b then min a b else r := fun u q hq => by
    have hu : u < n := by
      cases hq with
      | here h => have := lt_of_get h; rw [hf'.1] at this; exact this
      | up h _ _ => have := lt_of_get h; rw [hf'.1] at this; exact this
    obtain ⟨r, hr⟩ := h.forest.root u hu
    exact ⟨r, hr, hq.det (hs u r hr)⟩
  refine ⟨hf', fun x hx q hq => ?_, fun c hc v r hr => ?_⟩
  · obtain ⟨r, hr, rfl⟩ := back _ _ hq
    rcases (take_succ_mem he).1 hx with hx | rfl
    · exact hs _ _ (h.edge x hx r hr)
    · have := hr.det ha
      subst this
      have h2 := hs _ _ hb
      have : (if r = max r b then min r b else r) = (if b = max r b then min r b else b) := by
        rcases Nat.le_total r b with h1 | h1
        · rw [Nat.max_eq_right h1, Nat.min_eq_left h1]; split <;> simp_all
        · rw [Nat.max_eq_left h1, Nat.min_eq_right h1]; split <;> simp_all
      rw [this]; exact h2
  · obtain ⟨q, hq, rfl⟩ := back _ _ hr
    have h1 := h.con c hc v q hq
    split
    · rename_i e1
      have h2 := h.con c hc _ _ ha
      have h3 := h.con c hc _ _ hb
      have h4 := hc e (List.mem_of_getElem? he)
      rcases Nat.le_total a b with h5 | h5
      · rw [Nat.min_eq_left h5, h2, h4, ← h3, ← h1, e1, Nat.max_eq_right h5]
      · rw [Nat.min_eq_right h5, h3, ← h4, ← h2, ← h1, e1, Nat.max_eq_left h5]
    · exact h1
/-- the roots are the labels -/
theorem ForI.lab {n : Nat} {es : List GE} {f : List Nat} (hes : ∀ e ∈ es, e.f < n ∧ e.t < n) (h : ForI n es es.length f) : ∃ L, IsLab n es L ∧ ∀ v r, Root f v r ↔ L[v]? = some r := by
  have hex : ∀ v, v < n → ∃ r, Root f v r := h.forest.root
  have key : ∀ m, m ≤ n → ∃ L : List Nat, L.length = m ∧ ∀ v r, v < m → (Root f v r ↔ L[v]? = some r) := by
    intro m
    induction m with
    | zero => intro _; exact ⟨[], rfl, fun v r h => absurd h (Nat.not_lt_zero _)⟩
    | succ m ih =>
      intro hm
      obtain ⟨L, hl, hL⟩ := ih (by omega)
      obtain ⟨r0, h0⟩ := hex m (by omega)
      refine ⟨L ++ [r0], by simp [hl], fun v r hv => ?_⟩
      rw [List.getElem?_append]
      by_cases hvm : v < m
      · rw [if_pos (by omega)]; exact hL v r hvm
      · have : v = m := by omega
        subst this
        rw [if_neg (by omega), hl, Nat.sub_self]
        simp only [List.getElem?_cons_zero, Option.some.injEq]
        exact ⟨fun h => h0.det h, fun h => h ▸ h0⟩
  obtain ⟨L, hl, hL⟩ := key n (Nat.le_refl _)
  have hL : ∀ v r, Root f v r ↔ L[v]? = some r := fun v r => by
    by_cases hv : v < n
    · exact hL v r hv
    · constructor
      · intro hr
        have : v < f.length := by cases hr with
          | here h => exact lt_of_get h
          | up h _ _ => exact lt_of_get h
        rw [h.forest.1] at this; omega
      · intro hr
        have := lt_of_get hr
        omega
  refine ⟨L, ⟨hl, fun e he => ?_, fun v x hx => ((hL v x).2 hx).le h.forest, fun c hc v x hx => h.con c hc v x ((hL v x).2 hx)⟩, hL⟩
  obtain ⟨h1, h2⟩ := hes e he
  obtain ⟨r, hr⟩ := hex e.f h1
  have := h.edge e (by rw [List.take_length]; exact he) r hr
  rw [(hL _ _).1 hr, (hL _ _).1 this]
end Go.Ax

/-! part PlComps2 -/
namespace Go.Ax
/-! # plain: labels by rounds -/
def sym (es : List GE) : List GE := es ++ es.map (fun e => ⟨e.t, e.f, e.w⟩)
theorem mem_sym {es : List GE} {e : GE} : e ∈ sym es → ∃ e' ∈ es, (e.f = e'.f ∧ e.t = e'.t) ∨ (e.f = e'.t ∧ e.t = e'.f) := by
  intro h
  rcases List.mem_append.1 h with h | h
  · exact ⟨e, h, .inl ⟨rfl, rfl⟩⟩
  · obtain ⟨e', he', rfl⟩ := List.mem_map.1 h
    exact ⟨e', he', .inr ⟨rfl, rfl⟩⟩
theorem sym_mem {es : List GE} {e : GE} (h : e ∈ es) : e ∈ sym es ∧ ⟨e.t, e.f, e.w⟩ ∈ sym es := ⟨List.mem_append_left _ h, List.mem_append_right _ (List.mem_map.2 ⟨e, h, rfl⟩)⟩
def InR (n : Nat) (es : List GE) : Prop := ∀ e ∈ es, e.f < n ∧ e.t < n
theorem sym_in {n : Nat} {es : List GE} (h : InR n es) : InR n (sym es) := fun e he => by
  obtain ⟨e', he', h1 | h1⟩ := mem_sym he
  · rw [h1.1, h1.2]; exact h e' he'
  · rw [h1.1, h1.2]; exact ⟨(h e' he').2, (h e' he').1⟩
theorem exists_lev {n : Nat} {es : List GE} {s : Nat} (hes : InR n es) (hs : s < n) : ∃ l, Lev n es s l := by
  have key : ∀ k, ∃ l, LevI n es s k 0 l := by
    intro k
    induction k with
    | zero => exact ⟨_, LevI.init hs⟩
    | succ k ih =>
      obtain ⟨l0, h0⟩ := ih
      have inner : ∀ i, i ≤ es.length → ∃ l, LevI n es s k i l := by
        intro i
        induction i with
        | zero => intro _; exact ⟨l0, h0⟩
        | succ i ihi =>
          intro hi
          obtain ⟨l, hl⟩ := ihi (by omega)
          have he : es[i]? = some es[i] := List.getElem?_eq_getElem (by omega)
          by_cases hc : l[es[i].f]? = some (k : Int) ∧ l[es[i].t]? = some (-1)
          · exact ⟨_, hl.step he hc.1 hc.2⟩
          · exact ⟨l, hl.skip he (hes _ (List.mem_of_getElem? he)).2 hc⟩
      obtain ⟨l, hl⟩ := inner es.length (Nat.le_refl _)
      exact ⟨l, hl.next⟩
  obtain ⟨l, hl⟩ := key n
  exact ⟨l, hl.done⟩
structure LabI (n : Nat) (es : List GE) (k i : Nat) (L : List Nat) : Prop where
  len : L.length = n
  le : ∀ (v x : Nat), L[v]? = some x → x ≤ v
  con : ∀ (c : Nat → Nat), (∀ e ∈ es, c e.f = c e.t) → ∀ (v x : Nat), L[v]? = some x → c x = c v
  low : ∀ m l, Lev n (sym es) m l → ∀ (v : Nat) (x : Int) (y : Nat), l[v]? = some x → 0 ≤ x → x ≤ k → L[v]? = some y → y ≤ m
  far : ∀ m l, Lev n (sym es) m l → ∀ (j : Nat) (e : GE), es[j]? = some e → j < i → ∀ a b : Nat, (a = e.f ∧ b = e.t) ∨ (a = e.t ∧ b = e.f) → l[a]? = some (k : Int) → ∀ y : Nat, L[b]? = some y → y ≤ m
theorem LabI.init {n : Nat} {es : List GE} : LabI n es 0 0 (List.range n) := by
  have hg : ∀ v x, (List.range n)[v]? = some x → x = v := fun v x h => by
    rw [List.getElem?_range (by simpa using lt_of_get h)] at h; cases h; rfl
  refine ⟨by simp, fun v x h => by rw [hg v x h]; exact Nat.le_refl _, fun c _ v x h => by rw [hg v x h], fun m l hl v x y hx h0 h1 hy => ?_, fun m l hl j e he hj => absurd hj (Nat.not_lt_zero _)⟩
  have : x = 0 := by omega
  subst this
  rw [hg v y hy, hl.zero v hx]
  exact Nat.le_refl _
theorem LabI.step {n : Nat} {es : List GE} {k i : Nat} {L : List Nat} {e : GE} (h : LabI n es k i L) (he : es[i]? = some e) {x y : Nat} (hx : L[e.f]? = some x) (hy : L[e.t]? = some y) :
    LabI n es k (i + 1) ((L.set e.f (min x y)).set e.t (min x y)) := by
  have hfl := lt_of_get hx
  have htl := lt_of_get hy
  have hg : ∀ u, ((L.set e.f (min x y)).set e.t (min x y))[u]? = if u = e.t ∨ u = e.f then some (min x y) else L[u]? := fun u => by
    rw [List.getElem?_set, List.length_set, List.getElem?_set]
    by_cases h1 : e.t = u
    · subst h1; simp [htl]
    · by_cases h2 : e.f = u
      · subst h2; simp [h1, hfl]
      · simp [h1, h2, Ne.symm h1, Ne.symm h2]
  have hle : ∀ u z, ((L.set e.f (min x y)).set e.t (min x y))[u]? = some z → ∃ w, L[u]? = some w ∧ z ≤ w := fun u z hz => by
    rw [hg] at hz
    split at hz
    · rename_i hu
      cases hz
      rcases hu with rfl | rfl
      · exact ⟨y, hy, Nat.min_le_right _ _⟩
      · exact ⟨x, hx, Nat.min_le_left _ _⟩
    · exact ⟨z, hz, Nat.le_refl _⟩
  have hmem := List.mem_of_getElem? he
  refine ⟨by simp [h.len], fun v z hz => ?_, fun c hc v z hz => ?_, fun m l hl v a z ha h0 hk hz => ?_, fun m l hl j e' he' hj a b hab ha z hz => ?_⟩
  · obtain ⟨w, hw, hzw⟩ := hle v z hz
    exact Nat.le_trans hzw (h.le v w hw)
  · rw [hg] at hz
    have hce := hc e hmem
    have hcx := h.con c hc _ _ hx
    have hcy := h.con c hc _ _ hy
    split at hz
    · rename_i hu
      have hz2 : c (min x y) = c e.f := by
        rcases Nat.le_total x y with h1 | h1
        · rw [Nat.min_eq_left h1, hcx]
        · rw [Nat.min_eq_right h1, hcy, hce]
      cases hz
      rcases hu with rfl | rfl
      · rw [hz2, hce]
      · exact hz2
    · exact h.con c hc v z hz
  · obtain ⟨w, hw, hzw⟩ := hle v z hz
    exact Nat.le_trans hzw (h.low m l hl v a w ha h0 hk hw)
  · obtain ⟨w, hw, hzw⟩ := hle b z hz
    by_cases hji : j < i
    · exact Nat.le_trans hzw (h.far m l hl j e' he' hji a b hab ha w hw)
    · have : j = i := by omega
      subst this
      rw [he] at he'; cases he'
      have hmin : min x y ≤ m := by
        rcases hab with ⟨rfl, rfl⟩ | ⟨rfl, rfl⟩
        · have := h.low m l hl _ _ x ha (by omega) (by omega) hx
          omega
        · have := h.low m l hl _ _ y ha (by omega) (by omega) hy
          omega
      rw [hg, if_pos (by rcases hab with ⟨_, rfl⟩ | ⟨_, rfl⟩ <;> simp)] at hz
      cases hz
      exact hmin
theorem LabI.next {n : Nat} {es : List GE} {k : Nat} {L : List Nat} (h : LabI n es k es.length L) : LabI n es (k + 1) 0 L :=
  ⟨h.len, h.le, h.con, fun m l hl v x y hx h0 hk hy => by
    by_cases hxk : x ≤ k
    · exact h.low m l hl v x y hx h0 hxk hy
    · have hxe : x = ((k + 1 : Nat) : Int) := by push_cast at hk ⊢; omega
      subst hxe
      obtain ⟨e, hm, rfl, hf⟩ := hl.pre v _ hx (by push_cast; omega)
      obtain ⟨e', hm', hab⟩ := mem_sym hm
      obtain ⟨j, hj⟩ := List.getElem?_of_mem hm'
      refine h.far m l hl j e' hj (lt_of_get hj) e.f e.t hab ?_ y hy
      rw [hf]; congr 1; push_cast; omega, fun m l hl j e he hj => absurd hj (Nat.not_lt_zero _)⟩
theorem LabI.done {n : Nat} {es : List GE} {L : List Nat} (hes : InR n es) (h : LabI n es n 0 L) : IsLab n es L := by
  refine ⟨h.len, fun e he => ?_, h.le, h.con⟩
  obtain ⟨hf, ht⟩ := hes e he
  have hx : L[e.f]? = some (L[e.f]'(by rw [h.len]; exact hf)) := List.getElem?_eq_getElem _
  have hy : L[e.t]? = some (L[e.t]'(by rw [h.len]; exact ht)) := List.getElem?_eq_getElem _
  have key : ∀ (a b : Nat), ((a = e.f ∧ b = e.t) ∨ (a = e.t ∧ b = e.f)) → ∀ x y : Nat, L[a]? = some x → L[b]? = some y → y ≤ x := fun a b hab x y hx hy => by
    have hxn : x < n := by
      have := h.le a x hx
      have := lt_of_get hx
      rw [h.len] at this
      omega
    obtain ⟨l, hl⟩ := exists_lev (sym_in hes) hxn
    have hce : ∀ e' ∈ es, (if 0 ≤ l.getD e'.f (-1) then 1 else 0) = (if 0 ≤ l.getD e'.t (-1) then 1 else 0) := fun e' he' => by
      obtain ⟨m1, m2⟩ := sym_mem he'
      have r1 := hes e' he'
      have g1 : l[e'.f]? = some (l[e'.f]'(by rw [hl.len]; exact r1.1)) := List.getElem?_eq_getElem _
      have g2 : l[e'.t]? = some (l[e'.t]'(by rw [hl.len]; exact r1.2)) := List.getElem?_eq_getElem _
      rw [getD_of g1, getD_of g2]
      by_cases h1 : 0 ≤ l[e'.f]'(by rw [hl.len]; exact r1.1)
      · obtain ⟨y, hy, h2, _⟩ := hl.post _ m1 _ g1 h1
        rw [g2] at hy; cases hy
        rw [if_pos h1, if_pos h2]
      · by_cases h2 : 0 ≤ l[e'.t]'(by rw [hl.len]; exact r1.2)
        · obtain ⟨y, hy, h3, _⟩ := hl.post _ m2 _ g2 h2
          have hy : l[e'.f]? = some y := hy
          rw [g1] at hy; cases hy
          exact absurd h3 h1
        · rw [if_neg h1, if_neg h2]
    have hcx := h.con (fun u => if 0 ≤ l.getD u (-1) then 1 else 0) hce a x hx
    have hcx : (if 0 ≤ l.getD x (-1) then 1 else 0) = (if 0 ≤ l.getD a (-1) then 1 else 0) := hcx
    rw [getD_of hl.src, if_pos (Int.le_refl 0)] at hcx
    have ha0 : 0 ≤ l.getD a (-1) := by
      rcases Int.lt_or_le (l.getD a (-1)) 0 with h1 | h1
      · rw [if_neg (by omega)] at hcx; cases hcx
      · exact h1
    have han : a < n := by have := lt_of_get hx; rw [h.len] at this; exact this
    have ga : l[a]? = some (l[a]'(by rw [hl.len]; exact han)) := List.getElem?_eq_getElem _
    rw [getD_of ga] at ha0
    obtain ⟨m1, m2⟩ := sym_mem he
    have hb : ∃ z, l[b]? = some z ∧ 0 ≤ z := by
      rcases hab with ⟨rfl, rfl⟩ | ⟨rfl, rfl⟩
      · obtain ⟨z, h1, h2, _⟩ := hl.post _ m1 _ ga ha0
        exact ⟨z, h1, h2⟩
      · obtain ⟨z, h1, h2, _⟩ := hl.post _ m2 _ ga ha0
        exact ⟨z, h1, h2⟩
    obtain ⟨z, hz, hz0⟩ := hb
    exact h.low x l hl b z y hz hz0 (by have := (hl.rng b z hz).2; omega) hy
  have h1 := key e.f e.t (.inl ⟨rfl, rfl⟩) _ _ hx hy
  have h2 := key e.t e.f (.inr ⟨rfl, rfl⟩) _ _ hy hx
  rw [hx, hy]
  congr 1
  omega
end Go.Ax

/-! part AxH10 -/
namespace Go.Ax
open Go
set_option linter.unusedSimpArgs false
set_option linter.unusedVariables false

/-! # comps: root, grown, Joined -/
def cfRoot (fr : Nat) : CF := { res := [.tmp 4], body :=
 (.seq (.regO [⟨none, (some 4), 0, .pur (.mv (.v (.int .i64 0)))⟩])
 (.seq (.seq (.regO [⟨none, (some 5), 0, .pur (.mv (.t 0))⟩,
   ⟨none, (some 6), 0, .pur (.mv (.t 1))⟩,
   ⟨none, (some 7), 0, .pur (.ixA (.slice 1) (.t 5) (.t 6))⟩,
   ⟨none, (some 8), 0, .red (.ld none (.t 7))⟩,
   ⟨none, (some 9), 0, .pur (.mv (.t 1))⟩,
   ⟨none, (some 10), 0, .pur (.bin .neq 3 (.t 8) (.t 9))⟩])
 (.cond (.t 10)
  (.regO [⟨none, (some 11), 0, .pur (.mv (.t 0))⟩,
    ⟨none, (some 12), 0, .pur (.mv (.t 1))⟩,
    ⟨none, (some 13), 0, .pur (.mv (.t 0))⟩,
    ⟨none, (some 14), 0, .pur (.mv (.t 0))⟩,
    ⟨none, (some 15), 0, .pur (.mv (.t 1))⟩,
    ⟨none, (some 16), 0, .pur (.ixA (.slice 1) (.t 14) (.t 15))⟩,
    ⟨none, (some 17), 0, .red (.ld none (.t 16))⟩,
    ⟨none, (some 18), 0, .eff (.call fr [(.t 13), (.t 17)])⟩,
    ⟨none, (some 19), 0, .pur (.ixA (.slice 1) (.t 11) (.t 12))⟩,
    ⟨none, none, 0, .eff (.st 1 (.t 19) (.t 18))⟩])
  .skip))
 (.seq (.regO [⟨none, (some 20), 0, .pur (.mv (.t 0))⟩,
   ⟨none, (some 21), 0, .pur (.mv (.t 1))⟩,
   ⟨none, (some 22), 0, .pur (.ixA (.slice 1) (.t 20) (.t 21))⟩,
   ⟨none, (some 23), 0, .red (.ld none (.t 22))⟩,
   ⟨none, (some 4), 0, .pur (.mv (.t 23))⟩])
 .ret))) }
def cfGrown (fr : Nat) : CF := { res := [.tmp 2], body :=
 (.seq (.regO [⟨none, (some 1), 0, .alc (.box (.t 0))⟩,
   ⟨none, (some 2), 0, .pur (.mv (.v (.slice none 0 0)))⟩])
 (.seq (.regO [⟨none, (some 9), 0, .pur (.fldA 0 (.t 1))⟩,
   ⟨none, (some 10), 0, .red (.ld none (.t 9))⟩,
   ⟨none, (some 11), 0, .alc (.mks [(.int .i64 0)] (.t 10) (.t 10))⟩,
   ⟨none, (some 3), 0, .pur (.mv (.t 11))⟩])
 (.seq (.seq (.regO [⟨none, (some 12), 0, .pur (.mv (.t 3))⟩,
   ⟨none, (some 13), 0, .red (.lens (.t 12))⟩,
   ⟨none, (some 14), 0, .pur (.mv (.v (.int .i64 0)))⟩])
 (.block 0
  (.loop
   (.seq (.regO [⟨none, (some 15), 0, .pur (.bin .lss 3 (.t 14) (.t 13))⟩])
   (.seq (.cond (.t 15)
    .skip
    (.exit 0))
   (.seq (.block 1
    (.seq (.regO [⟨none, (some 16), 0, .pur (.mv (.t 14))⟩,
      ⟨none, (some 4), 0, .pur (.mv (.t 16))⟩])
    (.regO [⟨none, (some 17), 0, .pur (.mv (.t 3))⟩,
      ⟨none, (some 18), 0, .pur (.mv (.t 4))⟩,
      ⟨none, (some 19), 0, .pur (.mv (.t 4))⟩,
      ⟨none, (some 20), 0, .pur (.ixA (.slice 1) (.t 17) (.t 18))⟩,
      ⟨none, none, 0, .eff (.st 1 (.t 20) (.t 19))⟩])))
   (.regO [⟨none, (some 21), 0, .pur (.bin .add 3 (.t 14) (.v (.int .i64 1)))⟩,
     ⟨none, (some 14), 0, .pur (.mv (.t 21))⟩])))))))
 (.seq (.seq (.regO [⟨none, (some 22), 0, .pur (.fldA 1 (.t 1))⟩,
   ⟨none, (some 23), 0, .red (.ld none (.t 22))⟩,
   ⟨none, (some 24), 0, .red (.lens (.t 23))⟩,
   ⟨none, (some 25), 0, .pur (.mv (.v (.int .i64 0)))⟩])
 (.block 2
  (.loop
   (.seq (.regO [⟨none, (some 26), 0, .pur (.bin .lss 3 (.t 25) (.t 24))⟩])
   (.seq (.cond (.t 26)
    .skip
    (.exit 2))
   (.seq (.block 3
    (.seq (.regO [⟨none, (some 27), 0, .pur (.ixA (.slice 3) (.t 23) (.t 25))⟩,
      ⟨none, (some 28), 0, .red (.ld (some 3) (.t 27))⟩,
      ⟨none, (some 6), 0, .alc (.new [(.int .i64 0), (.int .i64 0), (.int .i64 0)])⟩,
      ⟨none, none, 0, .eff (.st 3 (.t 6) (.t 28))⟩])
    (.seq (.regD [⟨none, (some 29), 0, .pur (.mv (.t 3))⟩,
      ⟨none, (some 30), 0, .pur (.fldA 0 (.t 6))⟩,
      ⟨none, (some 31), 0, .red (.ld none (.t 30))⟩,
      ⟨none, (some 32), 0, .eff (.call fr [(.t 29), (.t 31)])⟩,
      ⟨none, (some 33), 1, .pur (.mv (.t 3))⟩,
      ⟨none, (some 34), 1, .pur (.fldA 1 (.t 6))⟩,
      ⟨none, (some 35), 1, .red (.ld none (.t 34))⟩,
      ⟨none, (some 36), 0, .eff (.call fr [(.t 33), (.t 35)])⟩,
      ⟨none, (some 7), 0, .pur (.mv (.t 32))⟩,
      ⟨none, (some 8), 0, .pur (.mv (.t 36))⟩])
    (.regO [⟨none, (some 37), 0, .pur (.mv (.t 3))⟩,
      ⟨none, (some 38), 0, .pur (.mv (.t 7))⟩,
      ⟨none, (some 39), 0, .pur (.mv (.t 8))⟩,
      ⟨none, (some 40), 0, .pur (.mn false (.t 38) (.t 39))⟩,
      ⟨none, (some 41), 0, .pur (.mv (.t 7))⟩,
      ⟨none, (some 42), 0, .pur (.mv (.t 8))⟩,
      ⟨none, (some 43), 0, .pur (.mn true (.t 41) (.t 42))⟩,
      ⟨none, (some 44), 0, .pur (.ixA (.slice 1) (.t 37) (.t 40))⟩,
      ⟨none, none, 0, .eff (.st 1 (.t 44) (.t 43))⟩]))))
   (.regO [⟨none, (some 45), 0, .pur (.bin .add 3 (.t 25) (.v (.int .i64 1)))⟩,
     ⟨none, (some 25), 0, .pur (.mv (.t 45))⟩])))))))
 (.seq (.regO [⟨none, (some 46), 0, .pur (.mv (.t 3))⟩,
   ⟨none, (some 2), 0, .pur (.mv (.t 46))⟩])
 .ret))))) }
def cfJoined (fri fg fr te : Nat) : CF := { res := [.tmp 6], body :=
 (.seq (.regO [⟨none, (some 3), 0, .alc (.box (.t 0))⟩,
   ⟨none, (some 6), 0, .pur (.mv (.v (.bool false)))⟩])
 (.seq (.seq (.regO [⟨none, (some 8), 0, .red (.ld (some 2) (.t 3))⟩,
   ⟨none, (some 9), 0, .eff (.call fri [(.t 8)])⟩,
   ⟨none, (some 10), 0, .pur (.bin .neq te (.t 9) (.v (.int .i64 0)))⟩,
   ⟨none, (some 11), 0, .pur (.mv (.t 10))⟩,
   ⟨(some (11, false)), (some 12), 0, .pur (.mv (.t 1))⟩,
   ⟨(some (11, false)), (some 13), 0, .pur (.mv (.t 2))⟩,
   ⟨(some (11, false)), (some 14), 0, .pur (.mn true (.t 12) (.t 13))⟩,
   ⟨(some (11, false)), (some 15), 0, .pur (.bin .lss 3 (.t 14) (.v (.int .i64 0)))⟩,
   ⟨none, (some 16), 0, .pur (.pick (.t 11) (.v (.bool true)) (.t 15))⟩,
   ⟨none, (some 17), 0, .pur (.mv (.t 16))⟩,
   ⟨(some (17, false)), (some 18), 0, .pur (.mv (.t 1))⟩,
   ⟨(some (17, false)), (some 19), 0, .pur (.mv (.t 2))⟩,
   ⟨(some (17, false)), (some 20), 0, .pur (.mn false (.t 18) (.t 19))⟩,
   ⟨(some (17, false)), (some 21), 0, .pur (.fldA 0 (.t 3))⟩,
   ⟨(some (17, false)), (some 22), 0, .red (.ld none (.t 21))⟩,
   ⟨(some (17, false)), (some 23), 0, .pur (.bin .geq 3 (.t 20) (.t 22))⟩,
   ⟨none, (some 24), 0, .pur (.pick (.t 17) (.v (.bool true)) (.t 23))⟩])
 (.cond (.t 24)
  (.seq (.regO [⟨none, (some 6), 0, .pur (.mv (.v (.bool false)))⟩])
  .ret)
  .skip))
 (.seq (.regO [⟨none, (some 25), 0, .red (.ld (some 2) (.t 3))⟩,
   ⟨none, (some 26), 0, .eff (.call fg [(.t 25)])⟩,
   ⟨none, (some 7), 0, .pur (.mv (.t 26))⟩])
 (.seq (.regO [⟨none, (some 27), 0, .pur (.mv (.t 7))⟩,
   ⟨none, (some 28), 0, .pur (.mv (.t 1))⟩,
   ⟨none, (some 29), 0, .eff (.call fr [(.t 27), (.t 28)])⟩,
   ⟨none, (some 30), 0, .pur (.mv (.t 7))⟩,
   ⟨none, (some 31), 0, .pur (.mv (.t 2))⟩,
   ⟨none, (some 32), 0, .eff (.call fr [(.t 30), (.t 31)])⟩,
   ⟨none, (some 33), 0, .pur (.bin .eql 3 (.t 29) (.t 32))⟩,
   ⟨none, (some 6), 0, .pur (.mv (.t 33))⟩])
 .ret)))) }
theorem exists_for {n : Nat} {es : List GE} (hes : InR n es) : ∀ i, i ≤ es.length → ∃ F, ForI n es i F
  | 0, _ => ⟨_, ForI.init⟩
  | i + 1, hi => by
    obtain ⟨F, hF⟩ := exists_for hes i (by omega)
    have he : es[i]? = some (es[i]'(by omega)) := List.getElem?_eq_getElem _
    obtain ⟨h1, h2⟩ := hes _ (List.mem_of_getElem? he)
    obtain ⟨a, ha⟩ := hF.forest.root _ h1
    obtain ⟨b, hb⟩ := hF.forest.root _ h2
    exact ⟨_, hF.step he ha hb⟩
theorem exists_lab {n : Nat} {es : List GE} (hes : InR n es) : ∃ L, IsLab n es L := by
  obtain ⟨F, hF⟩ := exists_for hes es.length (Nat.le_refl _)
  obtain ⟨L, hL, _⟩ := hF.lab hes
  exact ⟨L, hL⟩
theorem nats_set (l : List Nat) (i x : Nat) : (nats l).set i (x : Int) = nats (l.set i x) := by simp [nats, List.map_set]
theorem Root.back {n : Nat} {F F' : List Nat} (hF : Forest n F) (hF' : Forest n F') (hs : ∀ u q, Root F u q → Root F' u q) {u q : Nat} (h : Root F' u q) : Root F u q := by
  have hu : u < n := by
    cases h with
    | here h => have := lt_of_get h; rw [hF'.1] at this; exact this
    | up h _ _ => have := lt_of_get h; rw [hF'.1] at this; exact this
  obtain ⟨r, hr⟩ := hF.root u hu
  rw [h.det (hs u r hr)]; exact hr
section
variable {P : Program} {orc : Orc} {s : Bool}
theorem min2_nat {k : IntKind} {a b : Nat} : min2 true (.int k (a : Int)) (.int k (b : Int)) = .ok (.int k ((min a b : Nat) : Int)) := by
  show (bif keq k k then (bif true then rInt k (bif iblt b a then (b : Int) else a) else rInt k (bif iblt a b then (b : Int) else a)) else .no "min") = _
  simp only [keq_self, iblt_dec]
  by_cases h : b < a
  · simp [h, rInt, Nat.min_eq_right (Nat.le_of_lt h)]
  · simp [h, rInt, Nat.min_eq_left (Nat.le_of_not_lt h)]
theorem max2_nat {k : IntKind} {a b : Nat} : min2 false (.int k (a : Int)) (.int k (b : Int)) = .ok (.int k ((max a b : Nat) : Int)) := by
  show (bif keq k k then (bif false then rInt k (bif iblt b a then (b : Int) else a) else rInt k (bif iblt a b then (b : Int) else a)) else .no "min") = _
  simp only [keq_self, iblt_dec]
  by_cases h : a < b
  · simp [h, rInt, Nat.max_eq_right (Nat.le_of_lt h)]
  · simp [h, rInt, Nat.max_eq_left (Nat.le_of_not_lt h)]
theorem c_mn (b : Bool) (x y : Co) (tm : Tm) : cpur P tm (.mn b x y) = min2 b (cev tm x) (cev tm y) := rfl
/-- what root leaves -/
def RootK (N b : Nat) (F : List Nat) (v : Nat) (h : Hp) (nx : Nat) : KC' := fun r h' nx' => ∃ (q : Nat) (F' : List Nat), r = .int .i64 (q : Int) ∧ Root F v q ∧ Forest N F' ∧ (∀ u q, Root F u q → Root F' u q) ∧ hget h' b = some (.cells (ints (nats F')) false) ∧ (∀ b2, b2 ≠ b → hget h' b2 = hget h b2) ∧ nx' = nx
theorem root_cv {f N b cap : Nat} {sp : Option Nat} (hcf : compAt P f = some (cfRoot f)) (ho : orc f = none) (hN : N < 1000000) : ∀ (v : Nat), v < N → ∀ (F : List Nat) (h : Hp) (nx : Nat), Forest N F → hget h b = some (.cells (ints (nats F)) false) →
    Cv P orc s f [.slice (some ⟨b, 0, sp⟩) N cap, .int .i64 (v : Int)] h nx (RootK N b F v h nx) := by
  intro v
  induction v using Nat.strongRecOn with
  | _ v ih =>
    intro hv F h nx hF hb
    refine Cv.enter ho hcf ?_
    unfold cfRoot
    refine Ev.seq (Ev.regO ?_)
    simp only [Ov_pur, Ov_red, Ov_alc, Ov_st, Ov_g, Ov_nil, Dv_pur, Dv_red, Dv_alc, Dv_st, Dv_g, Dv_nil, c_mv, c_bin, c_un, c_conv, c_pick, cPick_bool, c_fld, cFld_agg, c_fldA, c_nilc, nilChk_ptr, c_ext, oExtract_tuple, c_ixA, natR_nat, natR_ofNat, natR_lit, natR_zero, natR_one, oIx_slice, oIx_array, c_ld, c_lens, lenS_slice, cev_t, cev_v, cevs_nil, cevs_cons, putT_some, putT_none, addrR_ptr, moveA_eq, tgs, RK_ok, of_some, bind_ok, ofGet_some, loadC_one, bin_add, bin_sub, bin_lss, bin_leq, bin_gtr, bin_geq, bin_eql, bin_neq, un_not, conv_int, nextK_normal, nextK_exit, nextK_ret, blkK_normal, blkK_ret, blkK_exit, boolIs_t, boolIs_f, boolIs_u, ↓reduceIte, Nat.reduceEqDiff, cpur_build, alc_new, alc_bsl, sliceNB_eq, cfill_nil, cfill_cons, vc_int, vc_slice, vc_agg, vc_bool, vc_ptr, cellV_int, cellV_bool, cellV_slice, cellV_ptr, cellL_nil, cellL_cons, nbV_ptr, nbO_ptr, nbV_slice, nbO_slice, List.getElem?_cons_zero, List.getElem?_cons_succ, List.length_cons, List.length_nil, List.take_zero, List.take_succ_cons, List.drop_zero, List.drop_succ_cons, List.drop_nil, List.nil_append, List.cons_append, List.append_nil, Nat.zero_add, Nat.add_zero, Nat.mul_one, Nat.reduceAdd, Nat.reduceLeDiff, Bool.and_self, Bool.and_true, Bool.true_and, true_and, and_true, cagree_0, cagree_1, cagree_2, sameR_ok, sameV_int, sameV_bool, sameV_slice, Bool.false_eq_true, setArgs_nil, setArgs_cons, Bool.not_true, Bool.not_false, isEffC_pur, isEffC_alc, isEffC_red, isEffC_eff, retK_ret, retK_normal, resVs_tmp, resVs_nil, retV_one, retV_two]
    have hu : F[v]? = some (F[v]'(by rw [hF.1]; exact hv)) := List.getElem?_eq_getElem _
    generalize F[v]'(by rw [hF.1]; exact hv) = u at hu
    have huv := hF.2 _ _ hu
    have gu := ints_get (nats_get hu)
    refine Ev.seq (Ev.seq (Ev.regO ?_))
    simp only [Ov_pur, Ov_red, Ov_alc, Ov_st, Ov_g, Ov_nil, Dv_pur, Dv_red, Dv_alc, Dv_st, Dv_g, Dv_nil, c_mv, c_bin, c_un, c_conv, c_pick, cPick_bool, c_fld, cFld_agg, c_fldA, c_nilc, nilChk_ptr, c_ext, oExtract_tuple, c_ixA, natR_nat, natR_ofNat, natR_lit, natR_zero, natR_one, oIx_slice, oIx_array, c_ld, c_lens, lenS_slice, cev_t, cev_v, cevs_nil, cevs_cons, putT_some, putT_none, addrR_ptr, moveA_eq, tgs, RK_ok, of_some, bind_ok, ofGet_some, loadC_one, bin_add, bin_sub, bin_lss, bin_leq, bin_gtr, bin_geq, bin_eql, bin_neq, un_not, conv_int, nextK_normal, nextK_exit, nextK_ret, blkK_normal, blkK_ret, blkK_exit, boolIs_t, boolIs_f, boolIs_u, ↓reduceIte, Nat.reduceEqDiff, cpur_build, alc_new, alc_bsl, sliceNB_eq, cfill_nil, cfill_cons, vc_int, vc_slice, vc_agg, vc_bool, vc_ptr, cellV_int, cellV_bool, cellV_slice, cellV_ptr, cellL_nil, cellL_cons, nbV_ptr, nbO_ptr, nbV_slice, nbO_slice, List.getElem?_cons_zero, List.getElem?_cons_succ, List.length_cons, List.length_nil, List.take_zero, List.take_succ_cons, List.drop_zero, List.drop_succ_cons, List.drop_nil, List.nil_append, List.cons_append, List.append_nil, Nat.zero_add, Nat.add_zero, Nat.mul_one, Nat.reduceAdd, Nat.reduceLeDiff, Bool.and_self, Bool.and_true, Bool.true_and, true_and, and_true, cagree_0, cagree_1, cagree_2, sameR_ok, sameV_int, sameV_bool, sameV_slice, Bool.false_eq_true, setArgs_nil, setArgs_cons, Bool.not_true, Bool.not_false, isEffC_pur, isEffC_alc, isEffC_red, isEffC_eff, retK_ret, retK_normal, resVs_tmp, resVs_nil, retV_one, retV_two, hv, cellsOf_some hb, gu]
    have last : ∀ (q : Nat) (F' : List Nat) (tm : Tm) (h' : Hp), tget tm 0 = .slice (some ⟨b, 0, sp⟩) N cap → tget tm 1 = .int .i64 (v : Int) → F'[v]? = some q → Root F v q → Forest N F' → (∀ u q, Root F u q → Root F' u q) → hget h' b = some (.cells (ints (nats F')) false) → (∀ b2, b2 ≠ b → hget h' b2 = hget h b2) →
        Ev P orc s (.seq (.regO [⟨none, (some 20), 0, .pur (.mv (.t 0))⟩, ⟨none, (some 21), 0, .pur (.mv (.t 1))⟩, ⟨none, (some 22), 0, .pur (.ixA (.slice 1) (.t 20) (.t 21))⟩, ⟨none, (some 23), 0, .red (.ld none (.t 22))⟩, ⟨none, (some 4), 0, .pur (.mv (.t 23))⟩]) .ret) tm h' nx (retK P [.tmp 4] (RootK N b F v h nx)) := by
      intro q F' tm h' t0 t1 hq hr hF' hs hb' hfr
      refine Ev.seq (Ev.regO ?_)
      simp only [Ov_pur, Ov_red, Ov_alc, Ov_st, Ov_g, Ov_nil, Dv_pur, Dv_red, Dv_alc, Dv_st, Dv_g, Dv_nil, c_mv, c_bin, c_un, c_conv, c_pick, cPick_bool, c_fld, cFld_agg, c_fldA, c_nilc, nilChk_ptr, c_ext, oExtract_tuple, c_ixA, natR_nat, natR_ofNat, natR_lit, natR_zero, natR_one, oIx_slice, oIx_array, c_ld, c_lens, lenS_slice, cev_t, cev_v, cevs_nil, cevs_cons, putT_some, putT_none, addrR_ptr, moveA_eq, tgs, RK_ok, of_some, bind_ok, ofGet_some, loadC_one, bin_add, bin_sub, bin_lss, bin_leq, bin_gtr, bin_geq, bin_eql, bin_neq, un_not, conv_int, nextK_normal, nextK_exit, nextK_ret, blkK_normal, blkK_ret, blkK_exit, boolIs_t, boolIs_f, boolIs_u, ↓reduceIte, Nat.reduceEqDiff, cpur_build, alc_new, alc_bsl, sliceNB_eq, cfill_nil, cfill_cons, vc_int, vc_slice, vc_agg, vc_bool, vc_ptr, cellV_int, cellV_bool, cellV_slice, cellV_ptr, cellL_nil, cellL_cons, nbV_ptr, nbO_ptr, nbV_slice, nbO_slice, List.getElem?_cons_zero, List.getElem?_cons_succ, List.length_cons, List.length_nil, List.take_zero, List.take_succ_cons, List.drop_zero, List.drop_succ_cons, List.drop_nil, List.nil_append, List.cons_append, List.append_nil, Nat.zero_add, Nat.add_zero, Nat.mul_one, Nat.reduceAdd, Nat.reduceLeDiff, Bool.and_self, Bool.and_true, Bool.true_and, true_and, and_true, cagree_0, cagree_1, cagree_2, sameR_ok, sameV_int, sameV_bool, sameV_slice, Bool.false_eq_true, setArgs_nil, setArgs_cons, Bool.not_true, Bool.not_false, isEffC_pur, isEffC_alc, isEffC_red, isEffC_eff, retK_ret, retK_normal, resVs_tmp, resVs_nil, retV_one, retV_two, t0, t1, hv, cellsOf_some hb', ints_get (nats_get hq)]
      refine Ev.ret ?_
      simp only [Ov_pur, Ov_red, Ov_alc, Ov_st, Ov_g, Ov_nil, Dv_pur, Dv_red, Dv_alc, Dv_st, Dv_g, Dv_nil, c_mv, c_bin, c_un, c_conv, c_pick, cPick_bool, c_fld, cFld_agg, c_fldA, c_nilc, nilChk_ptr, c_ext, oExtract_tuple, c_ixA, natR_nat, natR_ofNat, natR_lit, natR_zero, natR_one, oIx_slice, oIx_array, c_ld, c_lens, lenS_slice, cev_t, cev_v, cevs_nil, cevs_cons, putT_some, putT_none, addrR_ptr, moveA_eq, tgs, RK_ok, of_some, bind_ok, ofGet_some, loadC_one, bin_add, bin_sub, bin_lss, bin_leq, bin_gtr, bin_geq, bin_eql, bin_neq, un_not, conv_int, nextK_normal, nextK_exit, nextK_ret, blkK_normal, blkK_ret, blkK_exit, boolIs_t, boolIs_f, boolIs_u, ↓reduceIte, Nat.reduceEqDiff, cpur_build, alc_new, alc_bsl, sliceNB_eq, cfill_nil, cfill_cons, vc_int, vc_slice, vc_agg, vc_bool, vc_ptr, cellV_int, cellV_bool, cellV_slice, cellV_ptr, cellL_nil, cellL_cons, nbV_ptr, nbO_ptr, nbV_slice, nbO_slice, List.getElem?_cons_zero, List.getElem?_cons_succ, List.length_cons, List.length_nil, List.take_zero, List.take_succ_cons, List.drop_zero, List.drop_succ_cons, List.drop_nil, List.nil_append, List.cons_append, List.append_nil, Nat.zero_add, Nat.add_zero, Nat.mul_one, Nat.reduceAdd, Nat.reduceLeDiff, Bool.and_self, Bool.and_true, Bool.true_and, true_and, and_true, cagree_0, cagree_1, cagree_2, sameR_ok, sameV_int, sameV_bool, sameV_slice, Bool.false_eq_true, setArgs_nil, setArgs_cons, Bool.not_true, Bool.not_false, isEffC_pur, isEffC_alc, isEffC_red, isEffC_eff, retK_ret, retK_normal, resVs_tmp, resVs_nil, retV_one, retV_two]
      exact ⟨q, F', rfl, hr, hF', hs, hb', hfr, rfl⟩
    by_cases huv' : u = v
    · subst huv'
      refine Ev.cond false (by simp) (by simp) (fun _ => Ev.skip ?_)
      (try simp only [Ov_pur, Ov_red, Ov_alc, Ov_st, Ov_g, Ov_nil, Dv_pur, Dv_red, Dv_alc, Dv_st, Dv_g, Dv_nil, c_mv, c_bin, c_un, c_conv, c_pick, cPick_bool, c_fld, cFld_agg, c_fldA, c_nilc, nilChk_ptr, c_ext, oExtract_tuple, c_ixA, natR_nat, natR_ofNat, natR_lit, natR_zero, natR_one, oIx_slice, oIx_array, c_ld, c_lens, lenS_slice, cev_t, cev_v, cevs_nil, cevs_cons, putT_some, putT_none, addrR_ptr, moveA_eq, tgs, RK_ok, of_some, bind_ok, ofGet_some, loadC_one, bin_add, bin_sub, bin_lss, bin_leq, bin_gtr, bin_geq, bin_eql, bin_neq, un_not, conv_int, nextK_normal, nextK_exit, nextK_ret, blkK_normal, blkK_ret, blkK_exit, boolIs_t, boolIs_f, boolIs_u, ↓reduceIte, Nat.reduceEqDiff, cpur_build, alc_new, alc_bsl, sliceNB_eq, cfill_nil, cfill_cons, vc_int, vc_slice, vc_agg, vc_bool, vc_ptr, cellV_int, cellV_bool, cellV_slice, cellV_ptr, cellL_nil, cellL_cons, nbV_ptr, nbO_ptr, nbV_slice, nbO_slice, List.getElem?_cons_zero, List.getElem?_cons_succ, List.length_cons, List.length_nil, List.take_zero, List.take_succ_cons, List.drop_zero, List.drop_succ_cons, List.drop_nil, List.nil_append, List.cons_append, List.append_nil, Nat.zero_add, Nat.add_zero, Nat.mul_one, Nat.reduceAdd, Nat.reduceLeDiff, Bool.and_self, Bool.and_true, Bool.true_and, true_and, and_true, cagree_0, cagree_1, cagree_2, sameR_ok, sameV_int, sameV_bool, sameV_slice, Bool.false_eq_true, setArgs_nil, setArgs_cons, Bool.not_true, Bool.not_false, isEffC_pur, isEffC_alc, isEffC_red, isEffC_eff, retK_ret, retK_normal, resVs_tmp, resVs_nil, retV_one, retV_two])
      exact last u F _ _ (by simp) (by simp) hu (.here hu) hF (fun _ _ h => h) hb (fun _ _ => rfl)
    · refine Ev.cond true (by simp; omega) (fun _ => ?_) (by simp)
      refine Ev.regO ?_
      simp only [Ov_pur, Ov_red, Ov_alc, Ov_st, Ov_g, Ov_nil, Dv_pur, Dv_red, Dv_alc, Dv_st, Dv_g, Dv_nil, c_mv, c_bin, c_un, c_conv, c_pick, cPick_bool, c_fld, cFld_agg, c_fldA, c_nilc, nilChk_ptr, c_ext, oExtract_tuple, c_ixA, natR_nat, natR_ofNat, natR_lit, natR_zero, natR_one, oIx_slice, oIx_array, c_ld, c_lens, lenS_slice, cev_t, cev_v, cevs_nil, cevs_cons, putT_some, putT_none, addrR_ptr, moveA_eq, tgs, RK_ok, of_some, bind_ok, ofGet_some, loadC_one, bin_add, bin_sub, bin_lss, bin_leq, bin_gtr, bin_geq, bin_eql, bin_neq, un_not, conv_int, nextK_normal, nextK_exit, nextK_ret, blkK_normal, blkK_ret, blkK_exit, boolIs_t, boolIs_f, boolIs_u, ↓reduceIte, Nat.reduceEqDiff, cpur_build, alc_new, alc_bsl, sliceNB_eq, cfill_nil, cfill_cons, vc_int, vc_slice, vc_agg, vc_bool, vc_ptr, cellV_int, cellV_bool, cellV_slice, cellV_ptr, cellL_nil, cellL_cons, nbV_ptr, nbO_ptr, nbV_slice, nbO_slice, List.getElem?_cons_zero, List.getElem?_cons_succ, List.length_cons, List.length_nil, List.take_zero, List.take_succ_cons, List.drop_zero, List.drop_succ_cons, List.drop_nil, List.nil_append, List.cons_append, List.append_nil, Nat.zero_add, Nat.add_zero, Nat.mul_one, Nat.reduceAdd, Nat.reduceLeDiff, Bool.and_self, Bool.and_true, Bool.true_and, true_and, and_true, cagree_0, cagree_1, cagree_2, sameR_ok, sameV_int, sameV_bool, sameV_slice, Bool.false_eq_true, setArgs_nil, setArgs_cons, Bool.not_true, Bool.not_false, isEffC_pur, isEffC_alc, isEffC_red, isEffC_eff, retK_ret, retK_normal, resVs_tmp, resVs_nil, retV_one, retV_two, hv, cellsOf_some hb, gu]
      refine Ov_call ?_
      simp only [Ov_pur, Ov_red, Ov_alc, Ov_st, Ov_g, Ov_nil, Dv_pur, Dv_red, Dv_alc, Dv_st, Dv_g, Dv_nil, c_mv, c_bin, c_un, c_conv, c_pick, cPick_bool, c_fld, cFld_agg, c_fldA, c_nilc, nilChk_ptr, c_ext, oExtract_tuple, c_ixA, natR_nat, natR_ofNat, natR_lit, natR_zero, natR_one, oIx_slice, oIx_array, c_ld, c_lens, lenS_slice, cev_t, cev_v, cevs_nil, cevs_cons, putT_some, putT_none, addrR_ptr, moveA_eq, tgs, RK_ok, of_some, bind_ok, ofGet_some, loadC_one, bin_add, bin_sub, bin_lss, bin_leq, bin_gtr, bin_geq, bin_eql, bin_neq, un_not, conv_int, nextK_normal, nextK_exit, nextK_ret, blkK_normal, blkK_ret, blkK_exit, boolIs_t, boolIs_f, boolIs_u, ↓reduceIte, Nat.reduceEqDiff, cpur_build, alc_new, alc_bsl, sliceNB_eq, cfill_nil, cfill_cons, vc_int, vc_slice, vc_agg, vc_bool, vc_ptr, cellV_int, cellV_bool, cellV_slice, cellV_ptr, cellL_nil, cellL_cons, nbV_ptr, nbO_ptr, nbV_slice, nbO_slice, List.getElem?_cons_zero, List.getElem?_cons_succ, List.length_cons, List.length_nil, List.take_zero, List.take_succ_cons, List.drop_zero, List.drop_succ_cons, List.drop_nil, List.nil_append, List.cons_append, List.append_nil, Nat.zero_add, Nat.add_zero, Nat.mul_one, Nat.reduceAdd, Nat.reduceLeDiff, Bool.and_self, Bool.and_true, Bool.true_and, true_and, and_true, cagree_0, cagree_1, cagree_2, sameR_ok, sameV_int, sameV_bool, sameV_slice, Bool.false_eq_true, setArgs_nil, setArgs_cons, Bool.not_true, Bool.not_false, isEffC_pur, isEffC_alc, isEffC_red, isEffC_eff, retK_ret, retK_normal, resVs_tmp, resVs_nil, retV_one, retV_two]
      refine (ih u (by omega) (by omega) F h nx hF hb).mono ?_
      rintro r h' nx' ⟨q, F', rfl, hq, hF', hs, hb', hfr, rfl⟩
      have hvq : Root F v q := .up hu huv' hq
      obtain ⟨hF2, hs2⟩ := (hs _ _ hvq).short hF'
      simp only [Ov_pur, Ov_red, Ov_alc, Ov_st, Ov_g, Ov_nil, Dv_pur, Dv_red, Dv_alc, Dv_st, Dv_g, Dv_nil, c_mv, c_bin, c_un, c_conv, c_pick, cPick_bool, c_fld, cFld_agg, c_fldA, c_nilc, nilChk_ptr, c_ext, oExtract_tuple, c_ixA, natR_nat, natR_ofNat, natR_lit, natR_zero, natR_one, oIx_slice, oIx_array, c_ld, c_lens, lenS_slice, cev_t, cev_v, cevs_nil, cevs_cons, putT_some, putT_none, addrR_ptr, moveA_eq, tgs, RK_ok, of_some, bind_ok, ofGet_some, loadC_one, bin_add, bin_sub, bin_lss, bin_leq, bin_gtr, bin_geq, bin_eql, bin_neq, un_not, conv_int, nextK_normal, nextK_exit, nextK_ret, blkK_normal, blkK_ret, blkK_exit, boolIs_t, boolIs_f, boolIs_u, ↓reduceIte, Nat.reduceEqDiff, cpur_build, alc_new, alc_bsl, sliceNB_eq, cfill_nil, cfill_cons, vc_int, vc_slice, vc_agg, vc_bool, vc_ptr, cellV_int, cellV_bool, cellV_slice, cellV_ptr, cellL_nil, cellL_cons, nbV_ptr, nbO_ptr, nbV_slice, nbO_slice, List.getElem?_cons_zero, List.getElem?_cons_succ, List.length_cons, List.length_nil, List.take_zero, List.take_succ_cons, List.drop_zero, List.drop_succ_cons, List.drop_nil, List.nil_append, List.cons_append, List.append_nil, Nat.zero_add, Nat.add_zero, Nat.mul_one, Nat.reduceAdd, Nat.reduceLeDiff, Bool.and_self, Bool.and_true, Bool.true_and, true_and, and_true, cagree_0, cagree_1, cagree_2, sameR_ok, sameV_int, sameV_bool, sameV_slice, Bool.false_eq_true, setArgs_nil, setArgs_cons, Bool.not_true, Bool.not_false, isEffC_pur, isEffC_alc, isEffC_red, isEffC_eff, retK_ret, retK_normal, resVs_tmp, resVs_nil, retV_one, retV_two, hv]
      rw [RK_st1 hb' rfl (by rw [ints_len, nats_len, hF'.1]; exact hv), ints_set, nats_set]
      (try simp only [Ov_pur, Ov_red, Ov_alc, Ov_st, Ov_g, Ov_nil, Dv_pur, Dv_red, Dv_alc, Dv_st, Dv_g, Dv_nil, c_mv, c_bin, c_un, c_conv, c_pick, cPick_bool, c_fld, cFld_agg, c_fldA, c_nilc, nilChk_ptr, c_ext, oExtract_tuple, c_ixA, natR_nat, natR_ofNat, natR_lit, natR_zero, natR_one, oIx_slice, oIx_array, c_ld, c_lens, lenS_slice, cev_t, cev_v, cevs_nil, cevs_cons, putT_some, putT_none, addrR_ptr, moveA_eq, tgs, RK_ok, of_some, bind_ok, ofGet_some, loadC_one, bin_add, bin_sub, bin_lss, bin_leq, bin_gtr, bin_geq, bin_eql, bin_neq, un_not, conv_int, nextK_normal, nextK_exit, nextK_ret, blkK_normal, blkK_ret, blkK_exit, boolIs_t, boolIs_f, boolIs_u, ↓reduceIte, Nat.reduceEqDiff, cpur_build, alc_new, alc_bsl, sliceNB_eq, cfill_nil, cfill_cons, vc_int, vc_slice, vc_agg, vc_bool, vc_ptr, cellV_int, cellV_bool, cellV_slice, cellV_ptr, cellL_nil, cellL_cons, nbV_ptr, nbO_ptr, nbV_slice, nbO_slice, List.getElem?_cons_zero, List.getElem?_cons_succ, List.length_cons, List.length_nil, List.take_zero, List.take_succ_cons, List.drop_zero, List.drop_succ_cons, List.drop_nil, List.nil_append, List.cons_append, List.append_nil, Nat.zero_add, Nat.add_zero, Nat.mul_one, Nat.reduceAdd, Nat.reduceLeDiff, Bool.and_self, Bool.and_true, Bool.true_and, true_and, and_true, cagree_0, cagree_1, cagree_2, sameR_ok, sameV_int, sameV_bool, sameV_slice, Bool.false_eq_true, setArgs_nil, setArgs_cons, Bool.not_true, Bool.not_false, isEffC_pur, isEffC_alc, isEffC_red, isEffC_eff, retK_ret, retK_normal, resVs_tmp, resVs_nil, retV_one, retV_two])
      refine last q _ _ _ (by simp) (by simp) ?_ hvq hF2 (fun u q h => hs2 _ _ (hs _ _ h)) (by simp) (fun b2 hb2 => by rw [hgs, if_neg hb2]; exact hfr b2 hb2)
      rw [List.getElem?_set, if_pos rfl, if_pos (by rw [hF'.1]; exact hv)]
/-! ## grown -/
theorem repL_zero : ∀ n : Nat, repL n [.int .i64 0] = ints (List.replicate n 0)
  | 0 => rfl
  | n + 1 => by
    show lapp [.int .i64 0] (repL n [.int .i64 0]) = _
    rw [repL_zero n, lapp_eq]
    rfl
theorem cellL_ints : ∀ l : List Int, cellL (ints l) = true
  | [] => rfl
  | x :: l => by
    show cellL (.int .i64 x :: ints l) = true
    rw [cellL_cons, cellL_ints l]; rfl
theorem alc_mks {tm : Tm} {N : Nat} {l c : Co} (hl : cev tm l = .int .i64 (N : Int)) (hc : cev tm c = .int .i64 (N : Int)) (hN : N ≤ 100000) : calq P tm (.mks [.int .i64 0] l c) = .ok (.slice (.cells (ints (List.replicate N 0)) false) N N) := by
  show natR (cev tm l) (fun l => natR (cev tm c) (fun c => bif Nat.ble l c && Nat.ble c 100000 then sliceNB (repL c [.int .i64 0]) l c else .no "makeSlice")) = _
  rw [hl, hc, natR_nat, natR_nat]
  have e1 : Nat.ble N N = true := by simp
  have e2 : Nat.ble N 100000 = true := by simpa using hN
  rw [e1, e2, repL_zero, sliceNB_eq, if_pos (cellL_ints _)]
  rfl
/-- each one of the first i its own -/
def upTo (N i : Nat) : List Nat := (List.range N).map (fun k => if k < i then k else 0)
theorem upTo_get {N i k : Nat} (hk : k < N) : (upTo N i)[k]? = some (if k < i then k else 0) := by simp [upTo, hk]
theorem upTo_len (N i : Nat) : (upTo N i).length = N := by simp [upTo]
theorem upTo_zero (N : Nat) : nats (upTo N 0) = List.replicate N 0 := by
  refine List.ext_getElem? fun k => ?_
  by_cases hk : k < N
  · rw [nats_get (upTo_get hk)]; simp [hk]
  · rw [List.getElem?_eq_none (by rw [nats_len, upTo_len]; omega), List.getElem?_eq_none (by simp; omega)]
theorem upTo_set {N i : Nat} (hi : i < N) : (upTo N i).set i i = upTo N (i + 1) := by
  refine List.ext_getElem? fun k => ?_
  rw [List.getElem?_set, upTo_len]
  by_cases hk : k < N
  · rw [upTo_get hk, upTo_get hk]
    by_cases h1 : i = k
    · subst h1; simp [hi]
    · rw [if_neg h1]
      by_cases h2 : k < i
      · rw [if_pos h2, if_pos (by omega)]
      · rw [if_neg h2, if_neg (by omega)]
  · rw [List.getElem?_eq_none (by rw [upTo_len]; omega), List.getElem?_eq_none (by rw [upTo_len]; omega), if_neg (by omega)]
theorem upTo_full (N : Nat) : upTo N N = List.range N := by
  refine List.ext_getElem? fun k => ?_
  by_cases hk : k < N
  · rw [upTo_get hk, if_pos hk, List.getElem?_range hk]
  · rw [List.getElem?_eq_none (by rw [upTo_len]; omega), List.getElem?_eq_none (by simp; omega)]
def GroJ0 (N nx : Nat) (v2 : Value) (h : Hp) (m : Nat) (tm : Tm) (h' : Hp) (nx' : Nat) : Prop :=
  ∃ i : Nat, m = N - i ∧ i ≤ N ∧ tget tm 1 = .pointer (some ⟨nx, 0, none⟩) ∧ tget tm 3 = .slice (some ⟨nx + 1, 0, none⟩) N N ∧ tget tm 13 = .int .i64 (N : Int) ∧ tget tm 14 = .int .i64 (i : Int) ∧ hget h' nx = some (.cells [.int .i64 (N : Int), v2] false) ∧ hget h' (nx + 1) = some (.cells (ints (nats (upTo N i))) false) ∧ Keep nx h h' ∧ nx' = nx + 1 + 1
def GroJ2 (N n nx : Nat) (v2 : Value) (gs : List GE) (h : Hp) (m : Nat) (tm : Tm) (h' : Hp) (nx' : Nat) : Prop :=
  ∃ (i : Nat) (F : List Nat), m = n - i ∧ i ≤ n ∧ ForI N gs i F ∧ tget tm 23 = v2 ∧ tget tm 24 = .int .i64 (n : Int) ∧ tget tm 25 = .int .i64 (i : Int) ∧ tget tm 3 = .slice (some ⟨nx + 1, 0, none⟩) N N ∧ hget h' (nx + 1) = some (.cells (ints (nats F)) false) ∧ Keep nx h h' ∧ nx + 1 + 1 ≤ nx'
def GrownK (N nx : Nat) (gs : List GE) (h : Hp) : KC' := fun r h' nx' => ∃ (b : Nat) (F : List Nat), r = .slice (some ⟨b, 0, none⟩) N N ∧ hget h' b = some (.cells (ints (nats F)) false) ∧ ForI N gs gs.length F ∧ nx ≤ b ∧ b < nx' ∧ Keep nx h h'
theorem grown_cv {f fr : Nat} (hcf : compAt P f = some (cfGrown fr)) (ho : orc f = none) (hcr : compAt P fr = some (cfRoot fr)) (hor : orc fr = none) {N : Nat} {v : Value} {gs : List GE} {h : Hp} {nx : Nat} (hv : SlRd h nx v encG gs) (hN : N < 24) (hl : gs.length ≤ 60) (hok : ∀ g ∈ gs, GOk N g) :
    Cv P orc s f [.agg ⟨[.int .i64 (N : Int), v]⟩] h nx (GrownK N nx gs h) := by
  refine Cv.enter ho hcf ?_
  unfold cfGrown
  obtain ⟨a, cap, rfl, _⟩ := id hv
  refine Ev.seq (Ev.regO ?_)
  rw [Ov_alc, alc_box (l := [.int .i64 (N : Int), .slice a gs.length cap]) (by simp) (by simp)]
  simp only [Ov_pur, Ov_red, Ov_alc, Ov_st, Ov_g, Ov_nil, Dv_pur, Dv_red, Dv_alc, Dv_st, Dv_g, Dv_nil, c_mv, c_bin, c_un, c_conv, c_pick, cPick_bool, c_fld, cFld_agg, c_fldA, c_nilc, nilChk_ptr, c_ext, oExtract_tuple, c_ixA, natR_nat, natR_ofNat, natR_lit, natR_zero, natR_one, oIx_slice, oIx_array, c_ld, c_lens, lenS_slice, cev_t, cev_v, cevs_nil, cevs_cons, putT_some, putT_none, addrR_ptr, moveA_eq, tgs, RK_ok, of_some, bind_ok, ofGet_some, loadC_one, bin_add, bin_sub, bin_lss, bin_leq, bin_gtr, bin_geq, bin_eql, bin_neq, un_not, conv_int, nextK_normal, nextK_exit, nextK_ret, blkK_normal, blkK_ret, blkK_exit, boolIs_t, boolIs_f, boolIs_u, ↓reduceIte, Nat.reduceEqDiff, cpur_build, alc_new, alc_bsl, sliceNB_eq, cfill_nil, cfill_cons, vc_int, vc_slice, vc_agg, vc_bool, vc_ptr, cellV_int, cellV_bool, cellV_slice, cellV_ptr, cellL_nil, cellL_cons, nbV_ptr, nbO_ptr, nbV_slice, nbO_slice, List.getElem?_cons_zero, List.getElem?_cons_succ, List.length_cons, List.length_nil, List.take_zero, List.take_succ_cons, List.drop_zero, List.drop_succ_cons, List.drop_nil, List.nil_append, List.cons_append, List.append_nil, Nat.zero_add, Nat.add_zero, Nat.mul_one, Nat.reduceAdd, Nat.reduceLeDiff, Bool.and_self, Bool.and_true, Bool.true_and, true_and, and_true, cagree_0, cagree_1, cagree_2, sameR_ok, sameV_int, sameV_bool, sameV_slice, Bool.false_eq_true, setArgs_nil, setArgs_cons, Bool.not_true, Bool.not_false, isEffC_pur, isEffC_alc, isEffC_red, isEffC_eff, retK_ret, retK_normal, resVs_tmp, resVs_nil, retV_one, retV_two]
  refine Ev.genH (fun tm2 h2 => tget tm2 1 = .pointer (some ⟨nx, 0, none⟩) ∧ hget h2 nx = some (.cells [.int .i64 (N : Int), .slice a gs.length cap] false) ∧ Keep nx h h2) ⟨by simp, by simp, fun c hc => by rw [hgs, if_neg (by omega)]⟩ ?_
  rintro tm2 h2 ⟨t1, g1, hk⟩
  refine Ev.seq (Ev.regO ?_)
  simp only [Ov_pur, Ov_red, Ov_alc, Ov_st, Ov_g, Ov_nil, Dv_pur, Dv_red, Dv_alc, Dv_st, Dv_g, Dv_nil, c_mv, c_bin, c_un, c_conv, c_pick, cPick_bool, c_fld, cFld_agg, c_fldA, c_nilc, nilChk_ptr, c_ext, oExtract_tuple, c_ixA, natR_nat, natR_ofNat, natR_lit, natR_zero, natR_one, oIx_slice, oIx_array, c_ld, c_lens, lenS_slice, cev_t, cev_v, cevs_nil, cevs_cons, putT_some, putT_none, addrR_ptr, moveA_eq, tgs, RK_ok, of_some, bind_ok, ofGet_some, loadC_one, bin_add, bin_sub, bin_lss, bin_leq, bin_gtr, bin_geq, bin_eql, bin_neq, un_not, conv_int, nextK_normal, nextK_exit, nextK_ret, blkK_normal, blkK_ret, blkK_exit, boolIs_t, boolIs_f, boolIs_u, ↓reduceIte, Nat.reduceEqDiff, cpur_build, alc_new, alc_bsl, sliceNB_eq, cfill_nil, cfill_cons, vc_int, vc_slice, vc_agg, vc_bool, vc_ptr, cellV_int, cellV_bool, cellV_slice, cellV_ptr, cellL_nil, cellL_cons, nbV_ptr, nbO_ptr, nbV_slice, nbO_slice, List.getElem?_cons_zero, List.getElem?_cons_succ, List.length_cons, List.length_nil, List.take_zero, List.take_succ_cons, List.drop_zero, List.drop_succ_cons, List.drop_nil, List.nil_append, List.cons_append, List.append_nil, Nat.zero_add, Nat.add_zero, Nat.mul_one, Nat.reduceAdd, Nat.reduceLeDiff, Bool.and_self, Bool.and_true, Bool.true_and, true_and, and_true, cagree_0, cagree_1, cagree_2, sameR_ok, sameV_int, sameV_bool, sameV_slice, Bool.false_eq_true, setArgs_nil, setArgs_cons, Bool.not_true, Bool.not_false, isEffC_pur, isEffC_alc, isEffC_red, isEffC_eff, retK_ret, retK_normal, resVs_tmp, resVs_nil, retV_one, retV_two, t1, cellsOf_some g1]
  rw [alc_mks (N := N) (by simp) (by simp) (by omega)]
  simp only [Ov_pur, Ov_red, Ov_alc, Ov_st, Ov_g, Ov_nil, Dv_pur, Dv_red, Dv_alc, Dv_st, Dv_g, Dv_nil, c_mv, c_bin, c_un, c_conv, c_pick, cPick_bool, c_fld, cFld_agg, c_fldA, c_nilc, nilChk_ptr, c_ext, oExtract_tuple, c_ixA, natR_nat, natR_ofNat, natR_lit, natR_zero, natR_one, oIx_slice, oIx_array, c_ld, c_lens, lenS_slice, cev_t, cev_v, cevs_nil, cevs_cons, putT_some, putT_none, addrR_ptr, moveA_eq, tgs, RK_ok, of_some, bind_ok, ofGet_some, loadC_one, bin_add, bin_sub, bin_lss, bin_leq, bin_gtr, bin_geq, bin_eql, bin_neq, un_not, conv_int, nextK_normal, nextK_exit, nextK_ret, blkK_normal, blkK_ret, blkK_exit, boolIs_t, boolIs_f, boolIs_u, ↓reduceIte, Nat.reduceEqDiff, cpur_build, alc_new, alc_bsl, sliceNB_eq, cfill_nil, cfill_cons, vc_int, vc_slice, vc_agg, vc_bool, vc_ptr, cellV_int, cellV_bool, cellV_slice, cellV_ptr, cellL_nil, cellL_cons, nbV_ptr, nbO_ptr, nbV_slice, nbO_slice, List.getElem?_cons_zero, List.getElem?_cons_succ, List.length_cons, List.length_nil, List.take_zero, List.take_succ_cons, List.drop_zero, List.drop_succ_cons, List.drop_nil, List.nil_append, List.cons_append, List.append_nil, Nat.zero_add, Nat.add_zero, Nat.mul_one, Nat.reduceAdd, Nat.reduceLeDiff, Bool.and_self, Bool.and_true, Bool.true_and, true_and, and_true, cagree_0, cagree_1, cagree_2, sameR_ok, sameV_int, sameV_bool, sameV_slice, Bool.false_eq_true, setArgs_nil, setArgs_cons, Bool.not_true, Bool.not_false, isEffC_pur, isEffC_alc, isEffC_red, isEffC_eff, retK_ret, retK_normal, resVs_tmp, resVs_nil, retV_one, retV_two]
  refine Ev.cut (GroJ0 N nx (.slice a gs.length cap) h 0) ?_ ?_
  · refine Ev.seq (Ev.regO ?_)
    simp only [Ov_pur, Ov_red, Ov_alc, Ov_st, Ov_g, Ov_nil, Dv_pur, Dv_red, Dv_alc, Dv_st, Dv_g, Dv_nil, c_mv, c_bin, c_un, c_conv, c_pick, cPick_bool, c_fld, cFld_agg, c_fldA, c_nilc, nilChk_ptr, c_ext, oExtract_tuple, c_ixA, natR_nat, natR_ofNat, natR_lit, natR_zero, natR_one, oIx_slice, oIx_array, c_ld, c_lens, lenS_slice, cev_t, cev_v, cevs_nil, cevs_cons, putT_some, putT_none, addrR_ptr, moveA_eq, tgs, RK_ok, of_some, bind_ok, ofGet_some, loadC_one, bin_add, bin_sub, bin_lss, bin_leq, bin_gtr, bin_geq, bin_eql, bin_neq, un_not, conv_int, nextK_normal, nextK_exit, nextK_ret, blkK_normal, blkK_ret, blkK_exit, boolIs_t, boolIs_f, boolIs_u, ↓reduceIte, Nat.reduceEqDiff, cpur_build, alc_new, alc_bsl, sliceNB_eq, cfill_nil, cfill_cons, vc_int, vc_slice, vc_agg, vc_bool, vc_ptr, cellV_int, cellV_bool, cellV_slice, cellV_ptr, cellL_nil, cellL_cons, nbV_ptr, nbO_ptr, nbV_slice, nbO_slice, List.getElem?_cons_zero, List.getElem?_cons_succ, List.length_cons, List.length_nil, List.take_zero, List.take_succ_cons, List.drop_zero, List.drop_succ_cons, List.drop_nil, List.nil_append, List.cons_append, List.append_nil, Nat.zero_add, Nat.add_zero, Nat.mul_one, Nat.reduceAdd, Nat.reduceLeDiff, Bool.and_self, Bool.and_true, Bool.true_and, true_and, and_true, cagree_0, cagree_1, cagree_2, sameR_ok, sameV_int, sameV_bool, sameV_slice, Bool.false_eq_true, setArgs_nil, setArgs_cons, Bool.not_true, Bool.not_false, isEffC_pur, isEffC_alc, isEffC_red, isEffC_eff, retK_ret, retK_normal, resVs_tmp, resVs_nil, retV_one, retV_two]
    refine Ev.forR (GroJ0 N nx (.slice a gs.length cap) h) ?_ N _ _ _ ⟨0, rfl, by omega, by simp [t1], by simp, by simp, by simp, by rw [hgs, if_neg (by omega)]; exact g1, by rw [upTo_zero]; simp, fun c hc => by rw [hgs, if_neg (by omega)]; exact hk c hc, rfl⟩
    rintro m tm h' nx' ⟨i, rfl, hi, t1, t3, t13, t14, g1, g3, hk, rfl⟩
    simp only [Ov_pur, Ov_red, Ov_alc, Ov_st, Ov_g, Ov_nil, Dv_pur, Dv_red, Dv_alc, Dv_st, Dv_g, Dv_nil, c_mv, c_bin, c_un, c_conv, c_pick, cPick_bool, c_fld, cFld_agg, c_fldA, c_nilc, nilChk_ptr, c_ext, oExtract_tuple, c_ixA, natR_nat, natR_ofNat, natR_lit, natR_zero, natR_one, oIx_slice, oIx_array, c_ld, c_lens, lenS_slice, cev_t, cev_v, cevs_nil, cevs_cons, putT_some, putT_none, addrR_ptr, moveA_eq, tgs, RK_ok, of_some, bind_ok, ofGet_some, loadC_one, bin_add, bin_sub, bin_lss, bin_leq, bin_gtr, bin_geq, bin_eql, bin_neq, un_not, conv_int, nextK_normal, nextK_exit, nextK_ret, blkK_normal, blkK_ret, blkK_exit, boolIs_t, boolIs_f, boolIs_u, ↓reduceIte, Nat.reduceEqDiff, cpur_build, alc_new, alc_bsl, sliceNB_eq, cfill_nil, cfill_cons, vc_int, vc_slice, vc_agg, vc_bool, vc_ptr, cellV_int, cellV_bool, cellV_slice, cellV_ptr, cellL_nil, cellL_cons, nbV_ptr, nbO_ptr, nbV_slice, nbO_slice, List.getElem?_cons_zero, List.getElem?_cons_succ, List.length_cons, List.length_nil, List.take_zero, List.take_succ_cons, List.drop_zero, List.drop_succ_cons, List.drop_nil, List.nil_append, List.cons_append, List.append_nil, Nat.zero_add, Nat.add_zero, Nat.mul_one, Nat.reduceAdd, Nat.reduceLeDiff, Bool.and_self, Bool.and_true, Bool.true_and, true_and, and_true, cagree_0, cagree_1, cagree_2, sameR_ok, sameV_int, sameV_bool, sameV_slice, Bool.false_eq_true, setArgs_nil, setArgs_cons, Bool.not_true, Bool.not_false, isEffC_pur, isEffC_alc, isEffC_red, isEffC_eff, retK_ret, retK_normal, resVs_tmp, resVs_nil, retV_one, retV_two, t13, t14]
    refine ⟨decide ((i : Int) < N), rfl, fun e => ?_, fun e => ?_⟩
    · have : ¬ ((i : Int) < N) := of_decide_eq_false e
      exact ⟨i, by omega, hi, by simpa using t1, by simpa using t3, by simpa using t13, by simpa using t14, g1, g3, hk, rfl⟩
    · have hiN : i < N := by
        have : (i : Int) < N := of_decide_eq_true e
        omega
      refine Ev.seq (Ev.regO ?_)
      simp only [Ov_pur, Ov_red, Ov_alc, Ov_st, Ov_g, Ov_nil, Dv_pur, Dv_red, Dv_alc, Dv_st, Dv_g, Dv_nil, c_mv, c_bin, c_un, c_conv, c_pick, cPick_bool, c_fld, cFld_agg, c_fldA, c_nilc, nilChk_ptr, c_ext, oExtract_tuple, c_ixA, natR_nat, natR_ofNat, natR_lit, natR_zero, natR_one, oIx_slice, oIx_array, c_ld, c_lens, lenS_slice, cev_t, cev_v, cevs_nil, cevs_cons, putT_some, putT_none, addrR_ptr, moveA_eq, tgs, RK_ok, of_some, bind_ok, ofGet_some, loadC_one, bin_add, bin_sub, bin_lss, bin_leq, bin_gtr, bin_geq, bin_eql, bin_neq, un_not, conv_int, nextK_normal, nextK_exit, nextK_ret, blkK_normal, blkK_ret, blkK_exit, boolIs_t, boolIs_f, boolIs_u, ↓reduceIte, Nat.reduceEqDiff, cpur_build, alc_new, alc_bsl, sliceNB_eq, cfill_nil, cfill_cons, vc_int, vc_slice, vc_agg, vc_bool, vc_ptr, cellV_int, cellV_bool, cellV_slice, cellV_ptr, cellL_nil, cellL_cons, nbV_ptr, nbO_ptr, nbV_slice, nbO_slice, List.getElem?_cons_zero, List.getElem?_cons_succ, List.length_cons, List.length_nil, List.take_zero, List.take_succ_cons, List.drop_zero, List.drop_succ_cons, List.drop_nil, List.nil_append, List.cons_append, List.append_nil, Nat.zero_add, Nat.add_zero, Nat.mul_one, Nat.reduceAdd, Nat.reduceLeDiff, Bool.and_self, Bool.and_true, Bool.true_and, true_and, and_true, cagree_0, cagree_1, cagree_2, sameR_ok, sameV_int, sameV_bool, sameV_slice, Bool.false_eq_true, setArgs_nil, setArgs_cons, Bool.not_true, Bool.not_false, isEffC_pur, isEffC_alc, isEffC_red, isEffC_eff, retK_ret, retK_normal, resVs_tmp, resVs_nil, retV_one, retV_two, t14]
      refine Ev.regO ?_
      simp only [Ov_pur, Ov_red, Ov_alc, Ov_st, Ov_g, Ov_nil, Dv_pur, Dv_red, Dv_alc, Dv_st, Dv_g, Dv_nil, c_mv, c_bin, c_un, c_conv, c_pick, cPick_bool, c_fld, cFld_agg, c_fldA, c_nilc, nilChk_ptr, c_ext, oExtract_tuple, c_ixA, natR_nat, natR_ofNat, natR_lit, natR_zero, natR_one, oIx_slice, oIx_array, c_ld, c_lens, lenS_slice, cev_t, cev_v, cevs_nil, cevs_cons, putT_some, putT_none, addrR_ptr, moveA_eq, tgs, RK_ok, of_some, bind_ok, ofGet_some, loadC_one, bin_add, bin_sub, bin_lss, bin_leq, bin_gtr, bin_geq, bin_eql, bin_neq, un_not, conv_int, nextK_normal, nextK_exit, nextK_ret, blkK_normal, blkK_ret, blkK_exit, boolIs_t, boolIs_f, boolIs_u, ↓reduceIte, Nat.reduceEqDiff, cpur_build, alc_new, alc_bsl, sliceNB_eq, cfill_nil, cfill_cons, vc_int, vc_slice, vc_agg, vc_bool, vc_ptr, cellV_int, cellV_bool, cellV_slice, cellV_ptr, cellL_nil, cellL_cons, nbV_ptr, nbO_ptr, nbV_slice, nbO_slice, List.getElem?_cons_zero, List.getElem?_cons_succ, List.length_cons, List.length_nil, List.take_zero, List.take_succ_cons, List.drop_zero, List.drop_succ_cons, List.drop_nil, List.nil_append, List.cons_append, List.append_nil, Nat.zero_add, Nat.add_zero, Nat.mul_one, Nat.reduceAdd, Nat.reduceLeDiff, Bool.and_self, Bool.and_true, Bool.true_and, true_and, and_true, cagree_0, cagree_1, cagree_2, sameR_ok, sameV_int, sameV_bool, sameV_slice, Bool.false_eq_true, setArgs_nil, setArgs_cons, Bool.not_true, Bool.not_false, isEffC_pur, isEffC_alc, isEffC_red, isEffC_eff, retK_ret, retK_normal, resVs_tmp, resVs_nil, retV_one, retV_two, t3, hiN]
      rw [RK_st1 g3 rfl (by rw [ints_len, nats_len, upTo_len]; exact hiN), ints_set, nats_set, upTo_set hiN]
      (try simp only [Ov_pur, Ov_red, Ov_alc, Ov_st, Ov_g, Ov_nil, Dv_pur, Dv_red, Dv_alc, Dv_st, Dv_g, Dv_nil, c_mv, c_bin, c_un, c_conv, c_pick, cPick_bool, c_fld, cFld_agg, c_fldA, c_nilc, nilChk_ptr, c_ext, oExtract_tuple, c_ixA, natR_nat, natR_ofNat, natR_lit, natR_zero, natR_one, oIx_slice, oIx_array, c_ld, c_lens, lenS_slice, cev_t, cev_v, cevs_nil, cevs_cons, putT_some, putT_none, addrR_ptr, moveA_eq, tgs, RK_ok, of_some, bind_ok, ofGet_some, loadC_one, bin_add, bin_sub, bin_lss, bin_leq, bin_gtr, bin_geq, bin_eql, bin_neq, un_not, conv_int, nextK_normal, nextK_exit, nextK_ret, blkK_normal, blkK_ret, blkK_exit, boolIs_t, boolIs_f, boolIs_u, ↓reduceIte, Nat.reduceEqDiff, cpur_build, alc_new, alc_bsl, sliceNB_eq, cfill_nil, cfill_cons, vc_int, vc_slice, vc_agg, vc_bool, vc_ptr, cellV_int, cellV_bool, cellV_slice, cellV_ptr, cellL_nil, cellL_cons, nbV_ptr, nbO_ptr, nbV_slice, nbO_slice, List.getElem?_cons_zero, List.getElem?_cons_succ, List.length_cons, List.length_nil, List.take_zero, List.take_succ_cons, List.drop_zero, List.drop_succ_cons, List.drop_nil, List.nil_append, List.cons_append, List.append_nil, Nat.zero_add, Nat.add_zero, Nat.mul_one, Nat.reduceAdd, Nat.reduceLeDiff, Bool.and_self, Bool.and_true, Bool.true_and, true_and, and_true, cagree_0, cagree_1, cagree_2, sameR_ok, sameV_int, sameV_bool, sameV_slice, Bool.false_eq_true, setArgs_nil, setArgs_cons, Bool.not_true, Bool.not_false, isEffC_pur, isEffC_alc, isEffC_red, isEffC_eff, retK_ret, retK_normal, resVs_tmp, resVs_nil, retV_one, retV_two, t14])
      refine ⟨N - (i + 1), by omega, i + 1, rfl, by omega, by simpa using t1, by simpa using t3, by simpa using t13, ?_, by rw [hgs, if_neg (by omega)]; exact g1, by simp, fun c hc => by rw [hgs, if_neg (by omega)]; exact hk c hc, rfl⟩
      rw [wrapS (by omega) (by omega)]; simp
  · rintro tm h' nx' ⟨i, hi0, hi, t1, t3, t13, t14, g1, g3, hk, rfl⟩
    have : i = N := by omega
    subst this
    rw [upTo_full] at g3
    refine Ev.cut (GroJ2 i gs.length nx (.slice a gs.length cap) gs h 0) ?_ ?_
    · refine Ev.seq (Ev.regO ?_)
      simp only [Ov_pur, Ov_red, Ov_alc, Ov_st, Ov_g, Ov_nil, Dv_pur, Dv_red, Dv_alc, Dv_st, Dv_g, Dv_nil, c_mv, c_bin, c_un, c_conv, c_pick, cPick_bool, c_fld, cFld_agg, c_fldA, c_nilc, nilChk_ptr, c_ext, oExtract_tuple, c_ixA, natR_nat, natR_ofNat, natR_lit, natR_zero, natR_one, oIx_slice, oIx_array, c_ld, c_lens, lenS_slice, cev_t, cev_v, cevs_nil, cevs_cons, putT_some, putT_none, addrR_ptr, moveA_eq, tgs, RK_ok, of_some, bind_ok, ofGet_some, loadC_one, bin_add, bin_sub, bin_lss, bin_leq, bin_gtr, bin_geq, bin_eql, bin_neq, un_not, conv_int, nextK_normal, nextK_exit, nextK_ret, blkK_normal, blkK_ret, blkK_exit, boolIs_t, boolIs_f, boolIs_u, ↓reduceIte, Nat.reduceEqDiff, cpur_build, alc_new, alc_bsl, sliceNB_eq, cfill_nil, cfill_cons, vc_int, vc_slice, vc_agg, vc_bool, vc_ptr, cellV_int, cellV_bool, cellV_slice, cellV_ptr, cellL_nil, cellL_cons, nbV_ptr, nbO_ptr, nbV_slice, nbO_slice, List.getElem?_cons_zero, List.getElem?_cons_succ, List.length_cons, List.length_nil, List.take_zero, List.take_succ_cons, List.drop_zero, List.drop_succ_cons, List.drop_nil, List.nil_append, List.cons_append, List.append_nil, Nat.zero_add, Nat.add_zero, Nat.mul_one, Nat.reduceAdd, Nat.reduceLeDiff, Bool.and_self, Bool.and_true, Bool.true_and, true_and, and_true, cagree_0, cagree_1, cagree_2, sameR_ok, sameV_int, sameV_bool, sameV_slice, Bool.false_eq_true, setArgs_nil, setArgs_cons, Bool.not_true, Bool.not_false, isEffC_pur, isEffC_alc, isEffC_red, isEffC_eff, retK_ret, retK_normal, resVs_tmp, resVs_nil, retV_one, retV_two, t1, cellsOf_some g1]
      refine Ev.forR (GroJ2 i gs.length nx (.slice a gs.length cap) gs h) ?_ gs.length _ _ _ ⟨0, _, rfl, by omega, ForI.init, by simp, by simp, by simp, by simp [t3], g3, hk, by omega⟩
      rintro m tm h' nx' ⟨j, F, rfl, hj, hF, t23, t24, t25, t3, g3, hk, hnx⟩
      simp only [Ov_pur, Ov_red, Ov_alc, Ov_st, Ov_g, Ov_nil, Dv_pur, Dv_red, Dv_alc, Dv_st, Dv_g, Dv_nil, c_mv, c_bin, c_un, c_conv, c_pick, cPick_bool, c_fld, cFld_agg, c_fldA, c_nilc, nilChk_ptr, c_ext, oExtract_tuple, c_ixA, natR_nat, natR_ofNat, natR_lit, natR_zero, natR_one, oIx_slice, oIx_array, c_ld, c_lens, lenS_slice, cev_t, cev_v, cevs_nil, cevs_cons, putT_some, putT_none, addrR_ptr, moveA_eq, tgs, RK_ok, of_some, bind_ok, ofGet_some, loadC_one, bin_add, bin_sub, bin_lss, bin_leq, bin_gtr, bin_geq, bin_eql, bin_neq, un_not, conv_int, nextK_normal, nextK_exit, nextK_ret, blkK_normal, blkK_ret, blkK_exit, boolIs_t, boolIs_f, boolIs_u, ↓reduceIte, Nat.reduceEqDiff, cpur_build, alc_new, alc_bsl, sliceNB_eq, cfill_nil, cfill_cons, vc_int, vc_slice, vc_agg, vc_bool, vc_ptr, cellV_int, cellV_bool, cellV_slice, cellV_ptr, cellL_nil, cellL_cons, nbV_ptr, nbO_ptr, nbV_slice, nbO_slice, List.getElem?_cons_zero, List.getElem?_cons_succ, List.length_cons, List.length_nil, List.take_zero, List.take_succ_cons, List.drop_zero, List.drop_succ_cons, List.drop_nil, List.nil_append, List.cons_append, List.append_nil, Nat.zero_add, Nat.add_zero, Nat.mul_one, Nat.reduceAdd, Nat.reduceLeDiff, Bool.and_self, Bool.and_true, Bool.true_and, true_and, and_true, cagree_0, cagree_1, cagree_2, sameR_ok, sameV_int, sameV_bool, sameV_slice, Bool.false_eq_true, setArgs_nil, setArgs_cons, Bool.not_true, Bool.not_false, isEffC_pur, isEffC_alc, isEffC_red, isEffC_eff, retK_ret, retK_normal, resVs_tmp, resVs_nil, retV_one, retV_two, t24, t25]
      refine ⟨decide ((j : Int) < gs.length), rfl, fun e => ?_, fun e => ?_⟩
      · have : ¬ ((j : Int) < gs.length) := of_decide_eq_false e
        exact ⟨j, F, by omega, hj, hF, by simpa using t23, by simpa using t24, by simpa using t25, by simpa using t3, g3, hk, hnx⟩
      · have hjl : j < gs.length := by
          have : (j : Int) < gs.length := of_decide_eq_true e
          omega
        obtain ⟨x, hx⟩ : ∃ x, gs[j]? = some x := ⟨_, List.getElem?_eq_getElem hjl⟩
        obtain ⟨_, bx, spx, rox, capx, hbn, hveq, hbh⟩ := hv.at hx
        injection hveq with e1 e2 e3
        subst e1
        have hb' := (hk bx hbn).trans hbh
        obtain ⟨okf, okt, _, _⟩ := hok x (List.mem_of_getElem? hx)
        refine Ev.seq (Ev.regO ?_)
        simp only [Ov_pur, Ov_red, Ov_alc, Ov_st, Ov_g, Ov_nil, Dv_pur, Dv_red, Dv_alc, Dv_st, Dv_g, Dv_nil, c_mv, c_bin, c_un, c_conv, c_pick, cPick_bool, c_fld, cFld_agg, c_fldA, c_nilc, nilChk_ptr, c_ext, oExtract_tuple, c_ixA, natR_nat, natR_ofNat, natR_lit, natR_zero, natR_one, oIx_slice, oIx_array, c_ld, c_lens, lenS_slice, cev_t, cev_v, cevs_nil, cevs_cons, putT_some, putT_none, addrR_ptr, moveA_eq, tgs, RK_ok, of_some, bind_ok, ofGet_some, loadC_one, bin_add, bin_sub, bin_lss, bin_leq, bin_gtr, bin_geq, bin_eql, bin_neq, un_not, conv_int, nextK_normal, nextK_exit, nextK_ret, blkK_normal, blkK_ret, blkK_exit, boolIs_t, boolIs_f, boolIs_u, ↓reduceIte, Nat.reduceEqDiff, cpur_build, alc_new, alc_bsl, sliceNB_eq, cfill_nil, cfill_cons, vc_int, vc_slice, vc_agg, vc_bool, vc_ptr, cellV_int, cellV_bool, cellV_slice, cellV_ptr, cellL_nil, cellL_cons, nbV_ptr, nbO_ptr, nbV_slice, nbO_slice, List.getElem?_cons_zero, List.getElem?_cons_succ, List.length_cons, List.length_nil, List.take_zero, List.take_succ_cons, List.drop_zero, List.drop_succ_cons, List.drop_nil, List.nil_append, List.cons_append, List.append_nil, Nat.zero_add, Nat.add_zero, Nat.mul_one, Nat.reduceAdd, Nat.reduceLeDiff, Bool.and_self, Bool.and_true, Bool.true_and, true_and, and_true, cagree_0, cagree_1, cagree_2, sameR_ok, sameV_int, sameV_bool, sameV_slice, Bool.false_eq_true, setArgs_nil, setArgs_cons, Bool.not_true, Bool.not_false, isEffC_pur, isEffC_alc, isEffC_red, isEffC_eff, retK_ret, retK_normal, resVs_tmp, resVs_nil, retV_one, retV_two, t23, t25, hjl, cellsOf_some hb', load_flat' (enc := encG) (k := 3) (fun _ => rfl) hx]
        rw [RK_st (cs := [.int .i64 0, .int .i64 0, .int .i64 0]) (by simp) (by simp [encG]) (by simp [encG]) (by simp)]
        refine Ev.genH (fun tm3 h3 => tget tm3 23 = .slice (some ⟨bx, 0, spx⟩) gs.length cap ∧ tget tm3 24 = .int .i64 (gs.length : Int) ∧ tget tm3 25 = .int .i64 (j : Int) ∧ tget tm3 3 = .slice (some ⟨nx + 1, 0, none⟩) i i ∧ tget tm3 6 = .pointer (some ⟨nx', 0, none⟩) ∧ (∀ b2, b2 < nx' → hget h3 b2 = hget h' b2) ∧ hget h3 nx' = some (.cells (encG x) false))
          ⟨by simp [t23], by simp [t24], by simp [t25], by simp [t3], by simp, fun b2 hb2 => by rw [hgs, if_neg (by omega), hgs, if_neg (by omega)], by simp [encG]⟩ ?_
        rintro tm3 h3 ⟨w23, w24, w25, w3, w6, hold, hnew⟩
        have g3' := (hold (nx + 1) (by omega)).trans g3
        refine Ev.seq (Ev.regD ?_)
        simp only [Ov_pur, Ov_red, Ov_alc, Ov_st, Ov_g, Ov_nil, Dv_pur, Dv_red, Dv_alc, Dv_st, Dv_g, Dv_nil, c_mv, c_bin, c_un, c_conv, c_pick, cPick_bool, c_fld, cFld_agg, c_fldA, c_nilc, nilChk_ptr, c_ext, oExtract_tuple, c_ixA, natR_nat, natR_ofNat, natR_lit, natR_zero, natR_one, oIx_slice, oIx_array, c_ld, c_lens, lenS_slice, cev_t, cev_v, cevs_nil, cevs_cons, putT_some, putT_none, addrR_ptr, moveA_eq, tgs, RK_ok, of_some, bind_ok, ofGet_some, loadC_one, bin_add, bin_sub, bin_lss, bin_leq, bin_gtr, bin_geq, bin_eql, bin_neq, un_not, conv_int, nextK_normal, nextK_exit, nextK_ret, blkK_normal, blkK_ret, blkK_exit, boolIs_t, boolIs_f, boolIs_u, ↓reduceIte, Nat.reduceEqDiff, cpur_build, alc_new, alc_bsl, sliceNB_eq, cfill_nil, cfill_cons, vc_int, vc_slice, vc_agg, vc_bool, vc_ptr, cellV_int, cellV_bool, cellV_slice, cellV_ptr, cellL_nil, cellL_cons, nbV_ptr, nbO_ptr, nbV_slice, nbO_slice, List.getElem?_cons_zero, List.getElem?_cons_succ, List.length_cons, List.length_nil, List.take_zero, List.take_succ_cons, List.drop_zero, List.drop_succ_cons, List.drop_nil, List.nil_append, List.cons_append, List.append_nil, Nat.zero_add, Nat.add_zero, Nat.mul_one, Nat.reduceAdd, Nat.reduceLeDiff, Bool.and_self, Bool.and_true, Bool.true_and, true_and, and_true, cagree_0, cagree_1, cagree_2, sameR_ok, sameV_int, sameV_bool, sameV_slice, Bool.false_eq_true, setArgs_nil, setArgs_cons, Bool.not_true, Bool.not_false, isEffC_pur, isEffC_alc, isEffC_red, isEffC_eff, retK_ret, retK_normal, resVs_tmp, resVs_nil, retV_one, retV_two, w3, w6, cellsOf_some hnew, encG]
        refine Dv_call ?_
        simp only [Ov_pur, Ov_red, Ov_alc, Ov_st, Ov_g, Ov_nil, Dv_pur, Dv_red, Dv_alc, Dv_st, Dv_g, Dv_nil, c_mv, c_bin, c_un, c_conv, c_pick, cPick_bool, c_fld, cFld_agg, c_fldA, c_nilc, nilChk_ptr, c_ext, oExtract_tuple, c_ixA, natR_nat, natR_ofNat, natR_lit, natR_zero, natR_one, oIx_slice, oIx_array, c_ld, c_lens, lenS_slice, cev_t, cev_v, cevs_nil, cevs_cons, putT_some, putT_none, addrR_ptr, moveA_eq, tgs, RK_ok, of_some, bind_ok, ofGet_some, loadC_one, bin_add, bin_sub, bin_lss, bin_leq, bin_gtr, bin_geq, bin_eql, bin_neq, un_not, conv_int, nextK_normal, nextK_exit, nextK_ret, blkK_normal, blkK_ret, blkK_exit, boolIs_t, boolIs_f, boolIs_u, ↓reduceIte, Nat.reduceEqDiff, cpur_build, alc_new, alc_bsl, sliceNB_eq, cfill_nil, cfill_cons, vc_int, vc_slice, vc_agg, vc_bool, vc_ptr, cellV_int, cellV_bool, cellV_slice, cellV_ptr, cellL_nil, cellL_cons, nbV_ptr, nbO_ptr, nbV_slice, nbO_slice, List.getElem?_cons_zero, List.getElem?_cons_succ, List.length_cons, List.length_nil, List.take_zero, List.take_succ_cons, List.drop_zero, List.drop_succ_cons, List.drop_nil, List.nil_append, List.cons_append, List.append_nil, Nat.zero_add, Nat.add_zero, Nat.mul_one, Nat.reduceAdd, Nat.reduceLeDiff, Bool.and_self, Bool.and_true, Bool.true_and, true_and, and_true, cagree_0, cagree_1, cagree_2, sameR_ok, sameV_int, sameV_bool, sameV_slice, Bool.false_eq_true, setArgs_nil, setArgs_cons, Bool.not_true, Bool.not_false, isEffC_pur, isEffC_alc, isEffC_red, isEffC_eff, retK_ret, retK_normal, resVs_tmp, resVs_nil, retV_one, retV_two]
        refine (root_cv hcr hor (by omega) x.f okf F h3 (nx' + 1) hF.forest g3').mono ?_
        rintro r h4 nx4 ⟨qa, F1, rfl, ra, hF1, hs1, gF1, hfr1, rfl⟩
        refine ⟨Nat.le_refl _, ?_⟩
        have hnew4 := (hfr1 nx' (by omega)).trans hnew
        simp only [Ov_pur, Ov_red, Ov_alc, Ov_st, Ov_g, Ov_nil, Dv_pur, Dv_red, Dv_alc, Dv_st, Dv_g, Dv_nil, c_mv, c_bin, c_un, c_conv, c_pick, cPick_bool, c_fld, cFld_agg, c_fldA, c_nilc, nilChk_ptr, c_ext, oExtract_tuple, c_ixA, natR_nat, natR_ofNat, natR_lit, natR_zero, natR_one, oIx_slice, oIx_array, c_ld, c_lens, lenS_slice, cev_t, cev_v, cevs_nil, cevs_cons, putT_some, putT_none, addrR_ptr, moveA_eq, tgs, RK_ok, of_some, bind_ok, ofGet_some, loadC_one, bin_add, bin_sub, bin_lss, bin_leq, bin_gtr, bin_geq, bin_eql, bin_neq, un_not, conv_int, nextK_normal, nextK_exit, nextK_ret, blkK_normal, blkK_ret, blkK_exit, boolIs_t, boolIs_f, boolIs_u, ↓reduceIte, Nat.reduceEqDiff, cpur_build, alc_new, alc_bsl, sliceNB_eq, cfill_nil, cfill_cons, vc_int, vc_slice, vc_agg, vc_bool, vc_ptr, cellV_int, cellV_bool, cellV_slice, cellV_ptr, cellL_nil, cellL_cons, nbV_ptr, nbO_ptr, nbV_slice, nbO_slice, List.getElem?_cons_zero, List.getElem?_cons_succ, List.length_cons, List.length_nil, List.take_zero, List.take_succ_cons, List.drop_zero, List.drop_succ_cons, List.drop_nil, List.nil_append, List.cons_append, List.append_nil, Nat.zero_add, Nat.add_zero, Nat.mul_one, Nat.reduceAdd, Nat.reduceLeDiff, Bool.and_self, Bool.and_true, Bool.true_and, true_and, and_true, cagree_0, cagree_1, cagree_2, sameR_ok, sameV_int, sameV_bool, sameV_slice, Bool.false_eq_true, setArgs_nil, setArgs_cons, Bool.not_true, Bool.not_false, isEffC_pur, isEffC_alc, isEffC_red, isEffC_eff, retK_ret, retK_normal, resVs_tmp, resVs_nil, retV_one, retV_two, w3, w6, cellsOf_some hnew, cellsOf_some hnew4, encG]
        refine Dv_call ?_
        simp only [Ov_pur, Ov_red, Ov_alc, Ov_st, Ov_g, Ov_nil, Dv_pur, Dv_red, Dv_alc, Dv_st, Dv_g, Dv_nil, c_mv, c_bin, c_un, c_conv, c_pick, cPick_bool, c_fld, cFld_agg, c_fldA, c_nilc, nilChk_ptr, c_ext, oExtract_tuple, c_ixA, natR_nat, natR_ofNat, natR_lit, natR_zero, natR_one, oIx_slice, oIx_array, c_ld, c_lens, lenS_slice, cev_t, cev_v, cevs_nil, cevs_cons, putT_some, putT_none, addrR_ptr, moveA_eq, tgs, RK_ok, of_some, bind_ok, ofGet_some, loadC_one, bin_add, bin_sub, bin_lss, bin_leq, bin_gtr, bin_geq, bin_eql, bin_neq, un_not, conv_int, nextK_normal, nextK_exit, nextK_ret, blkK_normal, blkK_ret, blkK_exit, boolIs_t, boolIs_f, boolIs_u, ↓reduceIte, Nat.reduceEqDiff, cpur_build, alc_new, alc_bsl, sliceNB_eq, cfill_nil, cfill_cons, vc_int, vc_slice, vc_agg, vc_bool, vc_ptr, cellV_int, cellV_bool, cellV_slice, cellV_ptr, cellL_nil, cellL_cons, nbV_ptr, nbO_ptr, nbV_slice, nbO_slice, List.getElem?_cons_zero, List.getElem?_cons_succ, List.length_cons, List.length_nil, List.take_zero, List.take_succ_cons, List.drop_zero, List.drop_succ_cons, List.drop_nil, List.nil_append, List.cons_append, List.append_nil, Nat.zero_add, Nat.add_zero, Nat.mul_one, Nat.reduceAdd, Nat.reduceLeDiff, Bool.and_self, Bool.and_true, Bool.true_and, true_and, and_true, cagree_0, cagree_1, cagree_2, sameR_ok, sameV_int, sameV_bool, sameV_slice, Bool.false_eq_true, setArgs_nil, setArgs_cons, Bool.not_true, Bool.not_false, isEffC_pur, isEffC_alc, isEffC_red, isEffC_eff, retK_ret, retK_normal, resVs_tmp, resVs_nil, retV_one, retV_two]
        refine (root_cv hcr hor (by omega) x.t okt F1 h4 (nx' + 1) hF1 gF1).mono ?_
        rintro r h5 nx5 ⟨qb, F2, rfl, rb, hF2, hs2, gF2, hfr2, rfl⟩
        refine ⟨Nat.le_refl _, ?_⟩
        (try simp only [Ov_pur, Ov_red, Ov_alc, Ov_st, Ov_g, Ov_nil, Dv_pur, Dv_red, Dv_alc, Dv_st, Dv_g, Dv_nil, c_mv, c_bin, c_un, c_conv, c_pick, cPick_bool, c_fld, cFld_agg, c_fldA, c_nilc, nilChk_ptr, c_ext, oExtract_tuple, c_ixA, natR_nat, natR_ofNat, natR_lit, natR_zero, natR_one, oIx_slice, oIx_array, c_ld, c_lens, lenS_slice, cev_t, cev_v, cevs_nil, cevs_cons, putT_some, putT_none, addrR_ptr, moveA_eq, tgs, RK_ok, of_some, bind_ok, ofGet_some, loadC_one, bin_add, bin_sub, bin_lss, bin_leq, bin_gtr, bin_geq, bin_eql, bin_neq, un_not, conv_int, nextK_normal, nextK_exit, nextK_ret, blkK_normal, blkK_ret, blkK_exit, boolIs_t, boolIs_f, boolIs_u, ↓reduceIte, Nat.reduceEqDiff, cpur_build, alc_new, alc_bsl, sliceNB_eq, cfill_nil, cfill_cons, vc_int, vc_slice, vc_agg, vc_bool, vc_ptr, cellV_int, cellV_bool, cellV_slice, cellV_ptr, cellL_nil, cellL_cons, nbV_ptr, nbO_ptr, nbV_slice, nbO_slice, List.getElem?_cons_zero, List.getElem?_cons_succ, List.length_cons, List.length_nil, List.take_zero, List.take_succ_cons, List.drop_zero, List.drop_succ_cons, List.drop_nil, List.nil_append, List.cons_append, List.append_nil, Nat.zero_add, Nat.add_zero, Nat.mul_one, Nat.reduceAdd, Nat.reduceLeDiff, Bool.and_self, Bool.and_true, Bool.true_and, true_and, and_true, cagree_0, cagree_1, cagree_2, sameR_ok, sameV_int, sameV_bool, sameV_slice, Bool.false_eq_true, setArgs_nil, setArgs_cons, Bool.not_true, Bool.not_false, isEffC_pur, isEffC_alc, isEffC_red, isEffC_eff, retK_ret, retK_normal, resVs_tmp, resVs_nil, retV_one, retV_two])
        have hs12 : ∀ u q, Root F u q → Root F2 u q := fun u q h => hs2 _ _ (hs1 _ _ h)
        have hI2 := hF.same hF2 hs12
        have ra2 := hs12 _ _ ra
        have rb2 := hs2 _ _ rb
        have ha := ra.le hF.forest
        have hbb := rb.le hF1
        refine Ev.regO ?_
        simp only [Ov_pur, Ov_red, Ov_alc, Ov_st, Ov_g, Ov_nil, Dv_pur, Dv_red, Dv_alc, Dv_st, Dv_g, Dv_nil, c_mv, c_bin, c_un, c_conv, c_pick, cPick_bool, c_fld, cFld_agg, c_fldA, c_nilc, nilChk_ptr, c_ext, oExtract_tuple, c_ixA, natR_nat, natR_ofNat, natR_lit, natR_zero, natR_one, oIx_slice, oIx_array, c_ld, c_lens, lenS_slice, cev_t, cev_v, cevs_nil, cevs_cons, putT_some, putT_none, addrR_ptr, moveA_eq, tgs, RK_ok, of_some, bind_ok, ofGet_some, loadC_one, bin_add, bin_sub, bin_lss, bin_leq, bin_gtr, bin_geq, bin_eql, bin_neq, un_not, conv_int, nextK_normal, nextK_exit, nextK_ret, blkK_normal, blkK_ret, blkK_exit, boolIs_t, boolIs_f, boolIs_u, ↓reduceIte, Nat.reduceEqDiff, cpur_build, alc_new, alc_bsl, sliceNB_eq, cfill_nil, cfill_cons, vc_int, vc_slice, vc_agg, vc_bool, vc_ptr, cellV_int, cellV_bool, cellV_slice, cellV_ptr, cellL_nil, cellL_cons, nbV_ptr, nbO_ptr, nbV_slice, nbO_slice, List.getElem?_cons_zero, List.getElem?_cons_succ, List.length_cons, List.length_nil, List.take_zero, List.take_succ_cons, List.drop_zero, List.drop_succ_cons, List.drop_nil, List.nil_append, List.cons_append, List.append_nil, Nat.zero_add, Nat.add_zero, Nat.mul_one, Nat.reduceAdd, Nat.reduceLeDiff, Bool.and_self, Bool.and_true, Bool.true_and, true_and, and_true, cagree_0, cagree_1, cagree_2, sameR_ok, sameV_int, sameV_bool, sameV_slice, Bool.false_eq_true, setArgs_nil, setArgs_cons, Bool.not_true, Bool.not_false, isEffC_pur, isEffC_alc, isEffC_red, isEffC_eff, retK_ret, retK_normal, resVs_tmp, resVs_nil, retV_one, retV_two, w3, c_mn, min2_nat, max2_nat, show max qa qb < i by omega]
        rw [RK_st1 gF2 rfl (by rw [ints_len, nats_len, hF2.1]; omega), ints_set, nats_set]
        (try simp only [Ov_pur, Ov_red, Ov_alc, Ov_st, Ov_g, Ov_nil, Dv_pur, Dv_red, Dv_alc, Dv_st, Dv_g, Dv_nil, c_mv, c_bin, c_un, c_conv, c_pick, cPick_bool, c_fld, cFld_agg, c_fldA, c_nilc, nilChk_ptr, c_ext, oExtract_tuple, c_ixA, natR_nat, natR_ofNat, natR_lit, natR_zero, natR_one, oIx_slice, oIx_array, c_ld, c_lens, lenS_slice, cev_t, cev_v, cevs_nil, cevs_cons, putT_some, putT_none, addrR_ptr, moveA_eq, tgs, RK_ok, of_some, bind_ok, ofGet_some, loadC_one, bin_add, bin_sub, bin_lss, bin_leq, bin_gtr, bin_geq, bin_eql, bin_neq, un_not, conv_int, nextK_normal, nextK_exit, nextK_ret, blkK_normal, blkK_ret, blkK_exit, boolIs_t, boolIs_f, boolIs_u, ↓reduceIte, Nat.reduceEqDiff, cpur_build, alc_new, alc_bsl, sliceNB_eq, cfill_nil, cfill_cons, vc_int, vc_slice, vc_agg, vc_bool, vc_ptr, cellV_int, cellV_bool, cellV_slice, cellV_ptr, cellL_nil, cellL_cons, nbV_ptr, nbO_ptr, nbV_slice, nbO_slice, List.getElem?_cons_zero, List.getElem?_cons_succ, List.length_cons, List.length_nil, List.take_zero, List.take_succ_cons, List.drop_zero, List.drop_succ_cons, List.drop_nil, List.nil_append, List.cons_append, List.append_nil, Nat.zero_add, Nat.add_zero, Nat.mul_one, Nat.reduceAdd, Nat.reduceLeDiff, Bool.and_self, Bool.and_true, Bool.true_and, true_and, and_true, cagree_0, cagree_1, cagree_2, sameR_ok, sameV_int, sameV_bool, sameV_slice, Bool.false_eq_true, setArgs_nil, setArgs_cons, Bool.not_true, Bool.not_false, isEffC_pur, isEffC_alc, isEffC_red, isEffC_eff, retK_ret, retK_normal, resVs_tmp, resVs_nil, retV_one, retV_two, w25])
        refine ⟨gs.length - (j + 1), by omega, j + 1, _, rfl, by omega, hI2.step hx ra2 rb2, by simpa using w23, by simpa using w24, ?_, by simpa using w3, by simp, fun b2 hb2 => ?_, by omega⟩
        · rw [wrapS (by omega) (by omega)]; simp
        · rw [hgs, if_neg (by omega), hfr2 b2 (by omega), hfr1 b2 (by omega), hold b2 (by omega)]; exact hk b2 hb2
    · rintro tm h' nx' ⟨j, F, hj0, hj, hF, t23, t24, t25, t3, g3, hk, hnx⟩
      have : j = gs.length := by omega
      subst this
      refine Ev.seq (Ev.regO ?_)
      simp only [Ov_pur, Ov_red, Ov_alc, Ov_st, Ov_g, Ov_nil, Dv_pur, Dv_red, Dv_alc, Dv_st, Dv_g, Dv_nil, c_mv, c_bin, c_un, c_conv, c_pick, cPick_bool, c_fld, cFld_agg, c_fldA, c_nilc, nilChk_ptr, c_ext, oExtract_tuple, c_ixA, natR_nat, natR_ofNat, natR_lit, natR_zero, natR_one, oIx_slice, oIx_array, c_ld, c_lens, lenS_slice, cev_t, cev_v, cevs_nil, cevs_cons, putT_some, putT_none, addrR_ptr, moveA_eq, tgs, RK_ok, of_some, bind_ok, ofGet_some, loadC_one, bin_add, bin_sub, bin_lss, bin_leq, bin_gtr, bin_geq, bin_eql, bin_neq, un_not, conv_int, nextK_normal, nextK_exit, nextK_ret, blkK_normal, blkK_ret, blkK_exit, boolIs_t, boolIs_f, boolIs_u, ↓reduceIte, Nat.reduceEqDiff, cpur_build, alc_new, alc_bsl, sliceNB_eq, cfill_nil, cfill_cons, vc_int, vc_slice, vc_agg, vc_bool, vc_ptr, cellV_int, cellV_bool, cellV_slice, cellV_ptr, cellL_nil, cellL_cons, nbV_ptr, nbO_ptr, nbV_slice, nbO_slice, List.getElem?_cons_zero, List.getElem?_cons_succ, List.length_cons, List.length_nil, List.take_zero, List.take_succ_cons, List.drop_zero, List.drop_succ_cons, List.drop_nil, List.nil_append, List.cons_append, List.append_nil, Nat.zero_add, Nat.add_zero, Nat.mul_one, Nat.reduceAdd, Nat.reduceLeDiff, Bool.and_self, Bool.and_true, Bool.true_and, true_and, and_true, cagree_0, cagree_1, cagree_2, sameR_ok, sameV_int, sameV_bool, sameV_slice, Bool.false_eq_true, setArgs_nil, setArgs_cons, Bool.not_true, Bool.not_false, isEffC_pur, isEffC_alc, isEffC_red, isEffC_eff, retK_ret, retK_normal, resVs_tmp, resVs_nil, retV_one, retV_two, t3]
      refine Ev.ret ?_
      simp only [Ov_pur, Ov_red, Ov_alc, Ov_st, Ov_g, Ov_nil, Dv_pur, Dv_red, Dv_alc, Dv_st, Dv_g, Dv_nil, c_mv, c_bin, c_un, c_conv, c_pick, cPick_bool, c_fld, cFld_agg, c_fldA, c_nilc, nilChk_ptr, c_ext, oExtract_tuple, c_ixA, natR_nat, natR_ofNat, natR_lit, natR_zero, natR_one, oIx_slice, oIx_array, c_ld, c_lens, lenS_slice, cev_t, cev_v, cevs_nil, cevs_cons, putT_some, putT_none, addrR_ptr, moveA_eq, tgs, RK_ok, of_some, bind_ok, ofGet_some, loadC_one, bin_add, bin_sub, bin_lss, bin_leq, bin_gtr, bin_geq, bin_eql, bin_neq, un_not, conv_int, nextK_normal, nextK_exit, nextK_ret, blkK_normal, blkK_ret, blkK_exit, boolIs_t, boolIs_f, boolIs_u, ↓reduceIte, Nat.reduceEqDiff, cpur_build, alc_new, alc_bsl, sliceNB_eq, cfill_nil, cfill_cons, vc_int, vc_slice, vc_agg, vc_bool, vc_ptr, cellV_int, cellV_bool, cellV_slice, cellV_ptr, cellL_nil, cellL_cons, nbV_ptr, nbO_ptr, nbV_slice, nbO_slice, List.getElem?_cons_zero, List.getElem?_cons_succ, List.length_cons, List.length_nil, List.take_zero, List.take_succ_cons, List.drop_zero, List.drop_succ_cons, List.drop_nil, List.nil_append, List.cons_append, List.append_nil, Nat.zero_add, Nat.add_zero, Nat.mul_one, Nat.reduceAdd, Nat.reduceLeDiff, Bool.and_self, Bool.and_true, Bool.true_and, true_and, and_true, cagree_0, cagree_1, cagree_2, sameR_ok, sameV_int, sameV_bool, sameV_slice, Bool.false_eq_true, setArgs_nil, setArgs_cons, Bool.not_true, Bool.not_false, isEffC_pur, isEffC_alc, isEffC_red, isEffC_eff, retK_ret, retK_normal, resVs_tmp, resVs_nil, retV_one, retV_two]
      exact ⟨nx + 1, F, rfl, g3, hF, by omega, by omega, hk⟩
/-! ## Joined -/
structure CompsAt (P : Program) (orc : Orc) (fri f1 f2 f3 fc fi te fg fr : Nat) : Prop where
  ri : compAt P fri = some (cfRight f1 f2 f3 fc te)
  nri : orc fri = none
  c1 : compAt P f1 = some cfOut
  n1 : orc f1 = none
  c2 : compAt P f2 = some cfEnds
  n2 : orc f2 = none
  c3 : compAt P f3 = some cfWeighs
  n3 : orc f3 = none
  cc : compAt P fc = some (cfContains fi)
  nc : orc fc = none
  ci : compAt P fi = some cfIndex
  ni : orc fi = none
  cg : compAt P fg = some (cfGrown fr)
  ng : orc fg = none
  cr : compAt P fr = some (cfRoot fr)
  nr : orc fr = none
theorem CompsAt.right {fri f1 f2 f3 fc fi te fg fr : Nat} (A : CompsAt P orc fri f1 f2 f3 fc fi te fg fr) {N : Nat} {v : Value} {gs : List GE} {h : Hp} {nx : Nat} (hv : SlRd h nx v encG gs) (hN : N < 24) (hl : gs.length ≤ 60) (hok : ∀ g ∈ gs, GOk N g) :
    Cv P orc s fri [.agg ⟨[.int .i64 (N : Int), v]⟩] h nx (StillK (.int .i64 0) nx h) := right_cv A.ri A.nri A.c1 A.n1 A.c2 A.n2 A.c3 A.n3 A.cc A.nc A.ci A.ni hv hN hl hok
theorem joined_cv {f fri f1 f2 f3 fc fi te fg fr : Nat} (A : CompsAt P orc fri f1 f2 f3 fc fi te fg fr) (hcf : compAt P f = some (cfJoined fri fg fr te)) (ho : orc f = none) {N x y : Nat} {v : Value} {gs : List GE} {h : Hp} {nx : Nat} (hv : SlRd h nx v encG gs) (hN : N < 24) (hl : gs.length ≤ 60) (hok : ∀ g ∈ gs, GOk N g)
    (hx : x < N) (hy : y < N) {L : List Nat} (hL : IsLab N gs L) :
    Cv P orc s f [.agg ⟨[.int .i64 (N : Int), v]⟩, .int .i64 (x : Int), .int .i64 (y : Int)] h nx (StillK (.bool (decide (L[x]? = L[y]?))) nx h) := by
  refine Cv.enter ho hcf ?_
  unfold cfJoined
  obtain ⟨a, cap, rfl, _⟩ := id hv
  refine Ev.seq (Ev.regO ?_)
  rw [Ov_alc, alc_box (l := [.int .i64 (N : Int), .slice a gs.length cap]) (by simp) (by simp)]
  simp only [Ov_pur, Ov_red, Ov_alc, Ov_st, Ov_g, Ov_nil, Dv_pur, Dv_red, Dv_alc, Dv_st, Dv_g, Dv_nil, c_mv, c_bin, c_un, c_conv, c_pick, cPick_bool, c_fld, cFld_agg, c_fldA, c_nilc, nilChk_ptr, c_ext, oExtract_tuple, c_ixA, natR_nat, natR_ofNat, natR_lit, natR_zero, natR_one, oIx_slice, oIx_array, c_ld, c_lens, lenS_slice, cev_t, cev_v, cevs_nil, cevs_cons, putT_some, putT_none, addrR_ptr, moveA_eq, tgs, RK_ok, of_some, bind_ok, ofGet_some, loadC_one, bin_add, bin_sub, bin_lss, bin_leq, bin_gtr, bin_geq, bin_eql, bin_neq, un_not, conv_int, nextK_normal, nextK_exit, nextK_ret, blkK_normal, blkK_ret, blkK_exit, boolIs_t, boolIs_f, boolIs_u, ↓reduceIte, Nat.reduceEqDiff, cpur_build, alc_new, alc_bsl, sliceNB_eq, cfill_nil, cfill_cons, vc_int, vc_slice, vc_agg, vc_bool, vc_ptr, cellV_int, cellV_bool, cellV_slice, cellV_ptr, cellL_nil, cellL_cons, nbV_ptr, nbO_ptr, nbV_slice, nbO_slice, List.getElem?_cons_zero, List.getElem?_cons_succ, List.length_cons, List.length_nil, List.take_zero, List.take_succ_cons, List.drop_zero, List.drop_succ_cons, List.drop_nil, List.nil_append, List.cons_append, List.append_nil, Nat.zero_add, Nat.add_zero, Nat.mul_one, Nat.reduceAdd, Nat.reduceLeDiff, Bool.and_self, Bool.and_true, Bool.true_and, true_and, and_true, cagree_0, cagree_1, cagree_2, sameR_ok, sameV_int, sameV_bool, sameV_slice, Bool.false_eq_true, setArgs_nil, setArgs_cons, Bool.not_true, Bool.not_false, isEffC_pur, isEffC_alc, isEffC_red, isEffC_eff, retK_ret, retK_normal, resVs_tmp, resVs_nil, retV_one, retV_two]
  refine Ev.genH (fun tm2 h2 => tget tm2 1 = .int .i64 (x : Int) ∧ tget tm2 2 = .int .i64 (y : Int) ∧ tget tm2 3 = .pointer (some ⟨nx, 0, none⟩) ∧ hget h2 nx = some (.cells [.int .i64 (N : Int), .slice a gs.length cap] false) ∧ Keep nx h h2) ⟨by simp, by simp, by simp, by simp, fun c hc => by rw [hgs, if_neg (by omega)]⟩ ?_
  rintro tm2 h2 ⟨t1, t2, t3, g1, hk⟩
  refine Ev.seq (Ev.seq (Ev.regO ?_))
  repeat (first | simp only [Dv_g, Ov_g, putT_some, putT_none, tgs, ↓reduceIte, Nat.reduceEqDiff, boolIs_t, boolIs_f, boolIs_u, Bool.not_true, Bool.not_false, Bool.false_eq_true, isEffC_pur, isEffC_alc, isEffC_red, isEffC_eff] | simp only [Ov_pur, Ov_red, Ov_alc, Ov_st, Ov_nil, Dv_pur, Dv_red, Dv_alc, Dv_st, Dv_nil, c_mv, c_bin, c_un, c_conv, c_pick, cPick_bool, c_fld, cFld_agg, c_fldA, c_nilc, nilChk_ptr, c_ext, oExtract_tuple, c_ixA, natR_nat, natR_ofNat, natR_lit, natR_zero, natR_one, oIx_slice, oIx_array, c_ld, c_lens, lenS_slice, cev_t, cev_v, cevs_nil, cevs_cons, putT_some, putT_none, addrR_ptr, moveA_eq, tgs, RK_ok, of_some, bind_ok, ofGet_some, loadC_one, bin_add, bin_sub, bin_lss, bin_leq, bin_gtr, bin_geq, bin_eql, bin_neq, un_not, conv_int, nextK_normal, nextK_exit, nextK_ret, blkK_normal, blkK_ret, blkK_exit, boolIs_t, boolIs_f, boolIs_u, ↓reduceIte, Nat.reduceEqDiff, cpur_build, alc_new, alc_bsl, sliceNB_eq, cfill_nil, cfill_cons, vc_int, vc_slice, vc_agg, vc_bool, vc_ptr, cellV_int, cellV_bool, cellV_slice, cellV_ptr, cellL_nil, cellL_cons, nbV_ptr, nbO_ptr, nbV_slice, nbO_slice, List.getElem?_cons_zero, List.getElem?_cons_succ, List.length_cons, List.length_nil, List.take_zero, List.take_succ_cons, List.drop_zero, List.drop_succ_cons, List.drop_nil, List.nil_append, List.cons_append, List.append_nil, Nat.zero_add, Nat.add_zero, Nat.mul_one, Nat.reduceAdd, Nat.reduceLeDiff, Bool.and_self, Bool.and_true, Bool.true_and, true_and, and_true, cagree_0, cagree_1, cagree_2, sameR_ok, sameV_int, sameV_bool, sameV_slice, Bool.false_eq_true, setArgs_nil, setArgs_cons, Bool.not_true, Bool.not_false, isEffC_pur, isEffC_alc, isEffC_red, isEffC_eff, retK_ret, retK_normal, resVs_tmp, resVs_nil, retV_one, retV_two, t3, cellsOf_some g1, loadC_many, Nat.sub_zero, Nat.le_refl])
  refine Ov_call ?_
  simp only [cevs_nil, cevs_cons, cev_t, cev_v, tgs, ↓reduceIte, Nat.reduceEqDiff]
  refine (A.right (hv.keep hk (show nx ≤ nx + 1 by omega)) hN hl hok).mono ?_
  rintro r h3 nx3 ⟨rfl, hk3, hnx3⟩
  have g1' := (hk3 nx (by omega)).trans g1
  have f1 : ¬ (((min x y : Nat) : Int) < 0) := by omega
  have f2 : ((max x y : Nat) : Int) < N := by omega
  have f3 : ((0 : Int) == 0) = true := rfl
  repeat (first | simp only [Dv_g, Ov_g, putT_some, putT_none, tgs, ↓reduceIte, Nat.reduceEqDiff, boolIs_t, boolIs_f, boolIs_u, Bool.not_true, Bool.not_false, Bool.false_eq_true, isEffC_pur, isEffC_alc, isEffC_red, isEffC_eff] | simp only [Ov_pur, Ov_red, Ov_alc, Ov_st, Ov_nil, Dv_pur, Dv_red, Dv_alc, Dv_st, Dv_nil, c_mv, c_bin, c_un, c_conv, c_pick, cPick_bool, c_fld, cFld_agg, c_fldA, c_nilc, nilChk_ptr, c_ext, oExtract_tuple, c_ixA, natR_nat, natR_ofNat, natR_lit, natR_zero, natR_one, oIx_slice, oIx_array, c_ld, c_lens, lenS_slice, cev_t, cev_v, cevs_nil, cevs_cons, putT_some, putT_none, addrR_ptr, moveA_eq, tgs, RK_ok, of_some, bind_ok, ofGet_some, loadC_one, bin_add, bin_sub, bin_lss, bin_leq, bin_gtr, bin_geq, bin_eql, bin_neq, un_not, conv_int, nextK_normal, nextK_exit, nextK_ret, blkK_normal, blkK_ret, blkK_exit, boolIs_t, boolIs_f, boolIs_u, ↓reduceIte, Nat.reduceEqDiff, cpur_build, alc_new, alc_bsl, sliceNB_eq, cfill_nil, cfill_cons, vc_int, vc_slice, vc_agg, vc_bool, vc_ptr, cellV_int, cellV_bool, cellV_slice, cellV_ptr, cellL_nil, cellL_cons, nbV_ptr, nbO_ptr, nbV_slice, nbO_slice, List.getElem?_cons_zero, List.getElem?_cons_succ, List.length_cons, List.length_nil, List.take_zero, List.take_succ_cons, List.drop_zero, List.drop_succ_cons, List.drop_nil, List.nil_append, List.cons_append, List.append_nil, Nat.zero_add, Nat.add_zero, Nat.mul_one, Nat.reduceAdd, Nat.reduceLeDiff, Bool.and_self, Bool.and_true, Bool.true_and, true_and, and_true, cagree_0, cagree_1, cagree_2, sameR_ok, sameV_int, sameV_bool, sameV_slice, Bool.false_eq_true, setArgs_nil, setArgs_cons, Bool.not_true, Bool.not_false, isEffC_pur, isEffC_alc, isEffC_red, isEffC_eff, retK_ret, retK_normal, resVs_tmp, resVs_nil, retV_one, retV_two, t1, t2, t3, cellsOf_some g1', c_mn, min2_nat, max2_nat, f1, f2, f3, decide_true, decide_false])
  refine Ev.cond false (by simp) (by simp) (fun _ => Ev.skip ?_)
  (try simp only [Ov_pur, Ov_red, Ov_alc, Ov_st, Ov_g, Ov_nil, Dv_pur, Dv_red, Dv_alc, Dv_st, Dv_g, Dv_nil, c_mv, c_bin, c_un, c_conv, c_pick, cPick_bool, c_fld, cFld_agg, c_fldA, c_nilc, nilChk_ptr, c_ext, oExtract_tuple, c_ixA, natR_nat, natR_ofNat, natR_lit, natR_zero, natR_one, oIx_slice, oIx_array, c_ld, c_lens, lenS_slice, cev_t, cev_v, cevs_nil, cevs_cons, putT_some, putT_none, addrR_ptr, moveA_eq, tgs, RK_ok, of_some, bind_ok, ofGet_some, loadC_one, bin_add, bin_sub, bin_lss, bin_leq, bin_gtr, bin_geq, bin_eql, bin_neq, un_not, conv_int, nextK_normal, nextK_exit, nextK_ret, blkK_normal, blkK_ret, blkK_exit, boolIs_t, boolIs_f, boolIs_u, ↓reduceIte, Nat.reduceEqDiff, cpur_build, alc_new, alc_bsl, sliceNB_eq, cfill_nil, cfill_cons, vc_int, vc_slice, vc_agg, vc_bool, vc_ptr, cellV_int, cellV_bool, cellV_slice, cellV_ptr, cellL_nil, cellL_cons, nbV_ptr, nbO_ptr, nbV_slice, nbO_slice, List.getElem?_cons_zero, List.getElem?_cons_succ, List.length_cons, List.length_nil, List.take_zero, List.take_succ_cons, List.drop_zero, List.drop_succ_cons, List.drop_nil, List.nil_append, List.cons_append, List.append_nil, Nat.zero_add, Nat.add_zero, Nat.mul_one, Nat.reduceAdd, Nat.reduceLeDiff, Bool.and_self, Bool.and_true, Bool.true_and, true_and, and_true, cagree_0, cagree_1, cagree_2, sameR_ok, sameV_int, sameV_bool, sameV_slice, Bool.false_eq_true, setArgs_nil, setArgs_cons, Bool.not_true, Bool.not_false, isEffC_pur, isEffC_alc, isEffC_red, isEffC_eff, retK_ret, retK_normal, resVs_tmp, resVs_nil, retV_one, retV_two])
  refine Ev.seq (Ev.regO ?_)
  simp only [Ov_pur, Ov_red, Ov_alc, Ov_st, Ov_g, Ov_nil, Dv_pur, Dv_red, Dv_alc, Dv_st, Dv_g, Dv_nil, c_mv, c_bin, c_un, c_conv, c_pick, cPick_bool, c_fld, cFld_agg, c_fldA, c_nilc, nilChk_ptr, c_ext, oExtract_tuple, c_ixA, natR_nat, natR_ofNat, natR_lit, natR_zero, natR_one, oIx_slice, oIx_array, c_ld, c_lens, lenS_slice, cev_t, cev_v, cevs_nil, cevs_cons, putT_some, putT_none, addrR_ptr, moveA_eq, tgs, RK_ok, of_some, bind_ok, ofGet_some, loadC_one, bin_add, bin_sub, bin_lss, bin_leq, bin_gtr, bin_geq, bin_eql, bin_neq, un_not, conv_int, nextK_normal, nextK_exit, nextK_ret, blkK_normal, blkK_ret, blkK_exit, boolIs_t, boolIs_f, boolIs_u, ↓reduceIte, Nat.reduceEqDiff, cpur_build, alc_new, alc_bsl, sliceNB_eq, cfill_nil, cfill_cons, vc_int, vc_slice, vc_agg, vc_bool, vc_ptr, cellV_int, cellV_bool, cellV_slice, cellV_ptr, cellL_nil, cellL_cons, nbV_ptr, nbO_ptr, nbV_slice, nbO_slice, List.getElem?_cons_zero, List.getElem?_cons_succ, List.length_cons, List.length_nil, List.take_zero, List.take_succ_cons, List.drop_zero, List.drop_succ_cons, List.drop_nil, List.nil_append, List.cons_append, List.append_nil, Nat.zero_add, Nat.add_zero, Nat.mul_one, Nat.reduceAdd, Nat.reduceLeDiff, Bool.and_self, Bool.and_true, Bool.true_and, true_and, and_true, cagree_0, cagree_1, cagree_2, sameR_ok, sameV_int, sameV_bool, sameV_slice, Bool.false_eq_true, setArgs_nil, setArgs_cons, Bool.not_true, Bool.not_false, isEffC_pur, isEffC_alc, isEffC_red, isEffC_eff, retK_ret, retK_normal, resVs_tmp, resVs_nil, retV_one, retV_two, t3, cellsOf_some g1', loadC_many, Nat.sub_zero, Nat.le_refl]
  refine Ov_call ?_
  simp only [cevs_nil, cevs_cons, cev_t, cev_v, tgs, ↓reduceIte, Nat.reduceEqDiff]
  refine (grown_cv A.cg A.ng A.cr A.nr ((hv.keep hk (show nx ≤ nx + 1 by omega)).keep hk3 hnx3) hN hl hok).mono ?_
  rintro r h4 nx4 ⟨b, F, rfl, gF, hF, hb1, hb2, hk4⟩
  obtain ⟨L', hL', hrt⟩ := hF.lab (fun e he => ⟨(hok e he).1, (hok e he).2.1⟩)
  have := hL.unique hL'
  subst this
  (try simp only [Ov_pur, Ov_red, Ov_alc, Ov_st, Ov_g, Ov_nil, Dv_pur, Dv_red, Dv_alc, Dv_st, Dv_g, Dv_nil, c_mv, c_bin, c_un, c_conv, c_pick, cPick_bool, c_fld, cFld_agg, c_fldA, c_nilc, nilChk_ptr, c_ext, oExtract_tuple, c_ixA, natR_nat, natR_ofNat, natR_lit, natR_zero, natR_one, oIx_slice, oIx_array, c_ld, c_lens, lenS_slice, cev_t, cev_v, cevs_nil, cevs_cons, putT_some, putT_none, addrR_ptr, moveA_eq, tgs, RK_ok, of_some, bind_ok, ofGet_some, loadC_one, bin_add, bin_sub, bin_lss, bin_leq, bin_gtr, bin_geq, bin_eql, bin_neq, un_not, conv_int, nextK_normal, nextK_exit, nextK_ret, blkK_normal, blkK_ret, blkK_exit, boolIs_t, boolIs_f, boolIs_u, ↓reduceIte, Nat.reduceEqDiff, cpur_build, alc_new, alc_bsl, sliceNB_eq, cfill_nil, cfill_cons, vc_int, vc_slice, vc_agg, vc_bool, vc_ptr, cellV_int, cellV_bool, cellV_slice, cellV_ptr, cellL_nil, cellL_cons, nbV_ptr, nbO_ptr, nbV_slice, nbO_slice, List.getElem?_cons_zero, List.getElem?_cons_succ, List.length_cons, List.length_nil, List.take_zero, List.take_succ_cons, List.drop_zero, List.drop_succ_cons, List.drop_nil, List.nil_append, List.cons_append, List.append_nil, Nat.zero_add, Nat.add_zero, Nat.mul_one, Nat.reduceAdd, Nat.reduceLeDiff, Bool.and_self, Bool.and_true, Bool.true_and, true_and, and_true, cagree_0, cagree_1, cagree_2, sameR_ok, sameV_int, sameV_bool, sameV_slice, Bool.false_eq_true, setArgs_nil, setArgs_cons, Bool.not_true, Bool.not_false, isEffC_pur, isEffC_alc, isEffC_red, isEffC_eff, retK_ret, retK_normal, resVs_tmp, resVs_nil, retV_one, retV_two])
  refine Ev.seq (Ev.regO ?_)
  simp only [Ov_pur, Ov_red, Ov_alc, Ov_st, Ov_g, Ov_nil, Dv_pur, Dv_red, Dv_alc, Dv_st, Dv_g, Dv_nil, c_mv, c_bin, c_un, c_conv, c_pick, cPick_bool, c_fld, cFld_agg, c_fldA, c_nilc, nilChk_ptr, c_ext, oExtract_tuple, c_ixA, natR_nat, natR_ofNat, natR_lit, natR_zero, natR_one, oIx_slice, oIx_array, c_ld, c_lens, lenS_slice, cev_t, cev_v, cevs_nil, cevs_cons, putT_some, putT_none, addrR_ptr, moveA_eq, tgs, RK_ok, of_some, bind_ok, ofGet_some, loadC_one, bin_add, bin_sub, bin_lss, bin_leq, bin_gtr, bin_geq, bin_eql, bin_neq, un_not, conv_int, nextK_normal, nextK_exit, nextK_ret, blkK_normal, blkK_ret, blkK_exit, boolIs_t, boolIs_f, boolIs_u, ↓reduceIte, Nat.reduceEqDiff, cpur_build, alc_new, alc_bsl, sliceNB_eq, cfill_nil, cfill_cons, vc_int, vc_slice, vc_agg, vc_bool, vc_ptr, cellV_int, cellV_bool, cellV_slice, cellV_ptr, cellL_nil, cellL_cons, nbV_ptr, nbO_ptr, nbV_slice, nbO_slice, List.getElem?_cons_zero, List.getElem?_cons_succ, List.length_cons, List.length_nil, List.take_zero, List.take_succ_cons, List.drop_zero, List.drop_succ_cons, List.drop_nil, List.nil_append, List.cons_append, List.append_nil, Nat.zero_add, Nat.add_zero, Nat.mul_one, Nat.reduceAdd, Nat.reduceLeDiff, Bool.and_self, Bool.and_true, Bool.true_and, true_and, and_true, cagree_0, cagree_1, cagree_2, sameR_ok, sameV_int, sameV_bool, sameV_slice, Bool.false_eq_true, setArgs_nil, setArgs_cons, Bool.not_true, Bool.not_false, isEffC_pur, isEffC_alc, isEffC_red, isEffC_eff, retK_ret, retK_normal, resVs_tmp, resVs_nil, retV_one, retV_two, t1, t2]
  refine Ov_call ?_
  simp only [cevs_nil, cevs_cons, cev_t, cev_v, tgs, ↓reduceIte, Nat.reduceEqDiff]
  refine (root_cv A.cr A.nr (by omega) x hx F h4 nx4 hF.forest gF).mono ?_
  rintro r h5 nx5 ⟨qa, F1, rfl, ra, hF1, hs1, gF1, hfr1, rfl⟩
  simp only [Ov_pur, Ov_red, Ov_alc, Ov_st, Ov_g, Ov_nil, Dv_pur, Dv_red, Dv_alc, Dv_st, Dv_g, Dv_nil, c_mv, c_bin, c_un, c_conv, c_pick, cPick_bool, c_fld, cFld_agg, c_fldA, c_nilc, nilChk_ptr, c_ext, oExtract_tuple, c_ixA, natR_nat, natR_ofNat, natR_lit, natR_zero, natR_one, oIx_slice, oIx_array, c_ld, c_lens, lenS_slice, cev_t, cev_v, cevs_nil, cevs_cons, putT_some, putT_none, addrR_ptr, moveA_eq, tgs, RK_ok, of_some, bind_ok, ofGet_some, loadC_one, bin_add, bin_sub, bin_lss, bin_leq, bin_gtr, bin_geq, bin_eql, bin_neq, un_not, conv_int, nextK_normal, nextK_exit, nextK_ret, blkK_normal, blkK_ret, blkK_exit, boolIs_t, boolIs_f, boolIs_u, ↓reduceIte, Nat.reduceEqDiff, cpur_build, alc_new, alc_bsl, sliceNB_eq, cfill_nil, cfill_cons, vc_int, vc_slice, vc_agg, vc_bool, vc_ptr, cellV_int, cellV_bool, cellV_slice, cellV_ptr, cellL_nil, cellL_cons, nbV_ptr, nbO_ptr, nbV_slice, nbO_slice, List.getElem?_cons_zero, List.getElem?_cons_succ, List.length_cons, List.length_nil, List.take_zero, List.take_succ_cons, List.drop_zero, List.drop_succ_cons, List.drop_nil, List.nil_append, List.cons_append, List.append_nil, Nat.zero_add, Nat.add_zero, Nat.mul_one, Nat.reduceAdd, Nat.reduceLeDiff, Bool.and_self, Bool.and_true, Bool.true_and, true_and, and_true, cagree_0, cagree_1, cagree_2, sameR_ok, sameV_int, sameV_bool, sameV_slice, Bool.false_eq_true, setArgs_nil, setArgs_cons, Bool.not_true, Bool.not_false, isEffC_pur, isEffC_alc, isEffC_red, isEffC_eff, retK_ret, retK_normal, resVs_tmp, resVs_nil, retV_one, retV_two, t2]
  refine Ov_call ?_
  simp only [cevs_nil, cevs_cons, cev_t, cev_v, tgs, ↓reduceIte, Nat.reduceEqDiff]
  refine (root_cv A.cr A.nr (by omega) y hy F1 h5 nx5 hF1 gF1).mono ?_
  rintro r h6 nx6 ⟨qb, F2, rfl, rb, hF2, hs2, gF2, hfr2, rfl⟩
  simp only [Ov_pur, Ov_red, Ov_alc, Ov_st, Ov_g, Ov_nil, Dv_pur, Dv_red, Dv_alc, Dv_st, Dv_g, Dv_nil, c_mv, c_bin, c_un, c_conv, c_pick, cPick_bool, c_fld, cFld_agg, c_fldA, c_nilc, nilChk_ptr, c_ext, oExtract_tuple, c_ixA, natR_nat, natR_ofNat, natR_lit, natR_zero, natR_one, oIx_slice, oIx_array, c_ld, c_lens, lenS_slice, cev_t, cev_v, cevs_nil, cevs_cons, putT_some, putT_none, addrR_ptr, moveA_eq, tgs, RK_ok, of_some, bind_ok, ofGet_some, loadC_one, bin_add, bin_sub, bin_lss, bin_leq, bin_gtr, bin_geq, bin_eql, bin_neq, un_not, conv_int, nextK_normal, nextK_exit, nextK_ret, blkK_normal, blkK_ret, blkK_exit, boolIs_t, boolIs_f, boolIs_u, ↓reduceIte, Nat.reduceEqDiff, cpur_build, alc_new, alc_bsl, sliceNB_eq, cfill_nil, cfill_cons, vc_int, vc_slice, vc_agg, vc_bool, vc_ptr, cellV_int, cellV_bool, cellV_slice, cellV_ptr, cellL_nil, cellL_cons, nbV_ptr, nbO_ptr, nbV_slice, nbO_slice, List.getElem?_cons_zero, List.getElem?_cons_succ, List.length_cons, List.length_nil, List.take_zero, List.take_succ_cons, List.drop_zero, List.drop_succ_cons, List.drop_nil, List.nil_append, List.cons_append, List.append_nil, Nat.zero_add, Nat.add_zero, Nat.mul_one, Nat.reduceAdd, Nat.reduceLeDiff, Bool.and_self, Bool.and_true, Bool.true_and, true_and, and_true, cagree_0, cagree_1, cagree_2, sameR_ok, sameV_int, sameV_bool, sameV_slice, Bool.false_eq_true, setArgs_nil, setArgs_cons, Bool.not_true, Bool.not_false, isEffC_pur, isEffC_alc, isEffC_red, isEffC_eff, retK_ret, retK_normal, resVs_tmp, resVs_nil, retV_one, retV_two]
  refine Ev.ret ?_
  simp only [Ov_pur, Ov_red, Ov_alc, Ov_st, Ov_g, Ov_nil, Dv_pur, Dv_red, Dv_alc, Dv_st, Dv_g, Dv_nil, c_mv, c_bin, c_un, c_conv, c_pick, cPick_bool, c_fld, cFld_agg, c_fldA, c_nilc, nilChk_ptr, c_ext, oExtract_tuple, c_ixA, natR_nat, natR_ofNat, natR_lit, natR_zero, natR_one, oIx_slice, oIx_array, c_ld, c_lens, lenS_slice, cev_t, cev_v, cevs_nil, cevs_cons, putT_some, putT_none, addrR_ptr, moveA_eq, tgs, RK_ok, of_some, bind_ok, ofGet_some, loadC_one, bin_add, bin_sub, bin_lss, bin_leq, bin_gtr, bin_geq, bin_eql, bin_neq, un_not, conv_int, nextK_normal, nextK_exit, nextK_ret, blkK_normal, blkK_ret, blkK_exit, boolIs_t, boolIs_f, boolIs_u, ↓reduceIte, Nat.reduceEqDiff, cpur_build, alc_new, alc_bsl, sliceNB_eq, cfill_nil, cfill_cons, vc_int, vc_slice, vc_agg, vc_bool, vc_ptr, cellV_int, cellV_bool, cellV_slice, cellV_ptr, cellL_nil, cellL_cons, nbV_ptr, nbO_ptr, nbV_slice, nbO_slice, List.getElem?_cons_zero, List.getElem?_cons_succ, List.length_cons, List.length_nil, List.take_zero, List.take_succ_cons, List.drop_zero, List.drop_succ_cons, List.drop_nil, List.nil_append, List.cons_append, List.append_nil, Nat.zero_add, Nat.add_zero, Nat.mul_one, Nat.reduceAdd, Nat.reduceLeDiff, Bool.and_self, Bool.and_true, Bool.true_and, true_and, and_true, cagree_0, cagree_1, cagree_2, sameR_ok, sameV_int, sameV_bool, sameV_slice, Bool.false_eq_true, setArgs_nil, setArgs_cons, Bool.not_true, Bool.not_false, isEffC_pur, isEffC_alc, isEffC_red, isEffC_eff, retK_ret, retK_normal, resVs_tmp, resVs_nil, retV_one, retV_two]
  have e1 := (hrt _ _).1 ra
  have e2 := (hrt _ _).1 (rb.back hF.forest hF1 hs1)
  refine ⟨?_, fun c hc => ?_, by omega⟩
  · rw [e1, e2]
    congr 1
    by_cases hq : qa = qb
    · subst hq; simp
    · simp [hq]; omega
  · rw [hfr2 c (by omega), hfr1 c (by omega), hk4 c (by omega), hk3 c (by omega)]; exact hk c hc
end
end Go.Ax

/-! part AxH12 -/
namespace Go.Ax
open Go
set_option linter.unusedSimpArgs false
set_option linter.unusedVariables false

/-! # ref29.Labels -/
def cfLabels : CF := { res := [.tmp 2], body :=
 (.seq (.regO [⟨none, (some 1), 0, .alc (.box (.t 0))⟩,
   ⟨none, (some 2), 0, .pur (.mv (.v (.slice none 0 0)))⟩])
 (.seq (.regO [⟨none, (some 3), 0, .pur (.mv (.v (.slice none 0 0)))⟩])
 (.seq (.seq (.regO [⟨none, (some 4), 0, .pur (.mv (.v (.int .i64 0)))⟩])
 (.block 0
  (.loop
   (.seq (.seq (.regO [⟨none, (some 9), 0, .pur (.mv (.t 4))⟩,
     ⟨none, (some 10), 0, .pur (.fldA 0 (.t 1))⟩,
     ⟨none, (some 11), 0, .red (.ld none (.t 10))⟩,
     ⟨none, (some 12), 0, .pur (.bin .lss 3 (.t 9) (.t 11))⟩])
   (.cond (.t 12)
    .skip
    (.exit 0)))
   (.seq (.block 1
    (.regO [⟨none, (some 15), 0, .pur (.mv (.t 3))⟩,
      ⟨none, (some 16), 0, .pur (.mv (.t 4))⟩,
      ⟨none, (some 17), 0, .alc (.bsl 1 [(.int .i64 0)] [(0, 1, (.t 16))])⟩,
      ⟨none, (some 18), 0, .eff (.app 1 (.t 15) (.t 17))⟩,
      ⟨none, (some 3), 0, .pur (.mv (.t 18))⟩]))
   (.regO [⟨none, (some 13), 0, .pur (.mv (.t 4))⟩,
     ⟨none, (some 14), 0, .pur (.bin .add 3 (.t 13) (.v (.int .i64 1)))⟩,
     ⟨none, (some 4), 0, .pur (.mv (.t 14))⟩]))))))
 (.seq (.seq (.regO [⟨none, (some 5), 0, .pur (.mv (.v (.int .i64 0)))⟩])
 (.block 2
  (.loop
   (.seq (.seq (.regO [⟨none, (some 19), 0, .pur (.mv (.t 5))⟩,
     ⟨none, (some 20), 0, .pur (.fldA 0 (.t 1))⟩,
     ⟨none, (some 21), 0, .red (.ld none (.t 20))⟩,
     ⟨none, (some 22), 0, .pur (.bin .lss 3 (.t 19) (.t 21))⟩])
   (.cond (.t 22)
    .skip
    (.exit 2)))
   (.seq (.block 3
    (.seq (.regO [⟨none, (some 6), 0, .pur (.mv (.v (.int .i64 0)))⟩])
    (.block 4
     (.loop
      (.seq (.seq (.regO [⟨none, (some 25), 0, .pur (.mv (.t 6))⟩,
        ⟨none, (some 26), 0, .pur (.fldA 1 (.t 1))⟩,
        ⟨none, (some 27), 0, .red (.ld none (.t 26))⟩,
        ⟨none, (some 28), 0, .red (.lens (.t 27))⟩,
        ⟨none, (some 29), 0, .pur (.bin .lss 3 (.t 25) (.t 28))⟩])
      (.cond (.t 29)
       .skip
       (.exit 4)))
      (.seq (.block 5
       (.seq (.regO [⟨none, (some 32), 0, .pur (.fldA 1 (.t 1))⟩,
         ⟨none, (some 33), 0, .red (.ld none (.t 32))⟩,
         ⟨none, (some 34), 0, .pur (.mv (.t 6))⟩,
         ⟨none, (some 35), 0, .pur (.ixA (.slice 3) (.t 33) (.t 34))⟩,
         ⟨none, (some 36), 0, .red (.ld (some 3) (.t 35))⟩,
         ⟨none, (some 7), 0, .alc (.new [(.int .i64 0), (.int .i64 0), (.int .i64 0)])⟩,
         ⟨none, none, 0, .eff (.st 3 (.t 7) (.t 36))⟩])
       (.seq (.regD [⟨none, (some 37), 0, .pur (.mv (.t 3))⟩,
         ⟨none, (some 38), 0, .pur (.fldA 0 (.t 7))⟩,
         ⟨none, (some 39), 0, .red (.ld none (.t 38))⟩,
         ⟨none, (some 40), 0, .pur (.ixA (.slice 1) (.t 37) (.t 39))⟩,
         ⟨none, (some 41), 0, .red (.ld none (.t 40))⟩,
         ⟨none, (some 42), 0, .pur (.mv (.t 3))⟩,
         ⟨none, (some 43), 0, .pur (.fldA 1 (.t 7))⟩,
         ⟨none, (some 44), 0, .red (.ld none (.t 43))⟩,
         ⟨none, (some 45), 0, .pur (.ixA (.slice 1) (.t 42) (.t 44))⟩,
         ⟨none, (some 46), 0, .red (.ld none (.t 45))⟩,
         ⟨none, (some 47), 0, .pur (.mn true (.t 41) (.t 46))⟩,
         ⟨none, (some 8), 0, .pur (.mv (.t 47))⟩])
       (.seq (.regO [⟨none, (some 48), 0, .pur (.mv (.t 3))⟩,
         ⟨none, (some 49), 0, .pur (.fldA 0 (.t 7))⟩,
         ⟨none, (some 50), 0, .red (.ld none (.t 49))⟩,
         ⟨none, (some 51), 0, .pur (.mv (.t 8))⟩,
         ⟨none, (some 52), 0, .pur (.ixA (.slice 1) (.t 48) (.t 50))⟩,
         ⟨none, none, 0, .eff (.st 1 (.t 52) (.t 51))⟩])
       (.regO [⟨none, (some 53), 0, .pur (.mv (.t 3))⟩,
         ⟨none, (some 54), 0, .pur (.fldA 1 (.t 7))⟩,
         ⟨none, (some 55), 0, .red (.ld none (.t 54))⟩,
         ⟨none, (some 56), 0, .pur (.mv (.t 8))⟩,
         ⟨none, (some 57), 0, .pur (.ixA (.slice 1) (.t 53) (.t 55))⟩,
         ⟨none, none, 0, .eff (.st 1 (.t 57) (.t 56))⟩])))))
      (.regO [⟨none, (some 30), 0, .pur (.mv (.t 6))⟩,
        ⟨none, (some 31), 0, .pur (.bin .add 3 (.t 30) (.v (.int .i64 1)))⟩,
        ⟨none, (some 6), 0, .pur (.mv (.t 31))⟩])))))))
   (.regO [⟨none, (some 23), 0, .pur (.mv (.t 5))⟩,
     ⟨none, (some 24), 0, .pur (.bin .add 3 (.t 23) (.v (.int .i64 1)))⟩,
     ⟨none, (some 5), 0, .pur (.mv (.t 24))⟩]))))))
 (.seq (.regO [⟨none, (some 58), 0, .pur (.mv (.t 3))⟩,
   ⟨none, (some 2), 0, .pur (.mv (.t 58))⟩])
 .ret))))) }
def LabC (N nx b : Nat) (v2 : Value) (h : Hp) (tm : Tm) (h' : Hp) (nx' : Nat) (L : List Nat) : Prop :=
  tget tm 1 = .pointer (some ⟨nx, 0, none⟩) ∧ tget tm 3 = .slice (some ⟨b, 0, some 1⟩) N N ∧ hget h' nx = some (.cells [.int .i64 (N : Int), v2] false) ∧ hget h' b = some (.cells (ints (nats L)) false) ∧ nx + 1 ≤ b ∧ b < nx' ∧ Keep nx h h'
def LabJ0 (N nx : Nat) (v2 : Value) (h : Hp) (m : Nat) (tm : Tm) (h' : Hp) (nx' : Nat) : Prop :=
  ∃ i : Nat, m = N - i ∧ i ≤ N ∧ tget tm 1 = .pointer (some ⟨nx, 0, none⟩) ∧ tget tm 4 = .int .i64 (i : Int) ∧ SlAt h' (tget tm 3) encI 1 (nats (List.range i)) (nx + 1) nx' ∧
    hget h' nx = some (.cells [.int .i64 (N : Int), v2] false) ∧ nx + 1 ≤ nx' ∧ Keep nx h h'
def LabJ2 (N nx b : Nat) (v2 : Value) (gs : List GE) (h : Hp) (m : Nat) (tm : Tm) (h' : Hp) (nx' : Nat) : Prop :=
  ∃ (k : Nat) (L : List Nat), m = N - k ∧ k ≤ N ∧ tget tm 5 = .int .i64 (k : Int) ∧ LabI N gs k 0 L ∧ LabC N nx b v2 h tm h' nx' L
def LabJ4 (N nx b k : Nat) (v2 : Value) (gs : List GE) (h : Hp) (m : Nat) (tm : Tm) (h' : Hp) (nx' : Nat) : Prop :=
  ∃ (i : Nat) (L : List Nat), m = gs.length - i ∧ i ≤ gs.length ∧ tget tm 5 = .int .i64 (k : Int) ∧ tget tm 6 = .int .i64 (i : Int) ∧ LabI N gs k i L ∧ LabC N nx b v2 h tm h' nx' L
def LabK (N nx : Nat) (L : List Nat) (h : Hp) : KC' := fun r h' nx' => ∃ b : Nat, r = .slice (some ⟨b, 0, some 1⟩) N N ∧ hget h' b = some (.cells (ints (nats L)) false) ∧ nx ≤ b ∧ b < nx' ∧ Keep nx h h'
section
variable {P : Program} {orc : Orc} {s : Bool}
theorem labels_cv {f : Nat} (hcf : compAt P f = some cfLabels) (ho : orc f = none) {N : Nat} {v : Value} {gs : List GE} {h : Hp} {nx : Nat} (hv : SlRd h nx v encG gs) (hN0 : 0 < N) (hN : N < 24) (hgl : gs.length ≤ 60) (hok : ∀ g ∈ gs, GOk N g) {L : List Nat} (hL : IsLab N gs L) :
    Cv P orc s f [.agg ⟨[.int .i64 (N : Int), v]⟩] h nx (LabK N nx L h) := by
  have hes : InR N gs := fun e he => ⟨(hok e he).1, (hok e he).2.1⟩
  refine Cv.enter ho hcf ?_
  obtain ⟨a, cap, rfl, _⟩ := id hv
  unfold cfLabels
  refine Ev.seq (Ev.regO ?_)
  rw [Ov_alc, alc_box (l := [.int .i64 (N : Int), .slice a gs.length cap]) (by simp) (by simp)]
  simp only [Ov_pur, Ov_red, Ov_alc, Ov_st, Ov_g, Ov_nil, Dv_pur, Dv_red, Dv_alc, Dv_st, Dv_g, Dv_nil, c_mv, c_bin, c_un, c_conv, c_pick, cPick_bool, c_fld, cFld_agg, c_fldA, c_nilc, nilChk_ptr, c_ext, oExtract_tuple, c_ixA, natR_nat, natR_ofNat, natR_lit, natR_zero, natR_one, oIx_slice, oIx_array, c_ld, c_lens, lenS_slice, cev_t, cev_v, cevs_nil, cevs_cons, putT_some, putT_none, addrR_ptr, moveA_eq, tgs, RK_ok, of_some, bind_ok, ofGet_some, loadC_one, bin_add, bin_sub, bin_lss, bin_leq, bin_gtr, bin_geq, bin_eql, bin_neq, un_not, conv_int, nextK_normal, nextK_exit, nextK_ret, blkK_normal, blkK_ret, blkK_exit, boolIs_t, boolIs_f, boolIs_u, ↓reduceIte, Nat.reduceEqDiff, cpur_build, alc_new, alc_bsl, sliceNB_eq, cfill_nil, cfill_cons, vc_int, vc_slice, vc_agg, vc_bool, vc_ptr, cellV_int, cellV_bool, cellV_slice, cellV_ptr, cellL_nil, cellL_cons, nbV_ptr, nbO_ptr, nbV_slice, nbO_slice, List.getElem?_cons_zero, List.getElem?_cons_succ, List.length_cons, List.length_nil, List.take_zero, List.take_succ_cons, List.drop_zero, List.drop_succ_cons, List.drop_nil, List.nil_append, List.cons_append, List.append_nil, Nat.zero_add, Nat.add_zero, Nat.mul_one, Nat.reduceAdd, Nat.reduceLeDiff, Bool.and_self, Bool.and_true, Bool.true_and, true_and, and_true, cagree_0, cagree_1, cagree_2, sameR_ok, sameV_int, sameV_bool, sameV_slice, Bool.false_eq_true, setArgs_nil, setArgs_cons, Bool.not_true, Bool.not_false, isEffC_pur, isEffC_alc, isEffC_red, isEffC_eff, retK_ret, retK_normal, resVs_tmp, resVs_nil, retV_one, retV_two]
  refine Ev.seq (Ev.regO ?_)
  simp only [Ov_pur, Ov_red, Ov_alc, Ov_st, Ov_g, Ov_nil, Dv_pur, Dv_red, Dv_alc, Dv_st, Dv_g, Dv_nil, c_mv, c_bin, c_un, c_conv, c_pick, cPick_bool, c_fld, cFld_agg, c_fldA, c_nilc, nilChk_ptr, c_ext, oExtract_tuple, c_ixA, natR_nat, natR_ofNat, natR_lit, natR_zero, natR_one, oIx_slice, oIx_array, c_ld, c_lens, lenS_slice, cev_t, cev_v, cevs_nil, cevs_cons, putT_some, putT_none, addrR_ptr, moveA_eq, tgs, RK_ok, of_some, bind_ok, ofGet_some, loadC_one, bin_add, bin_sub, bin_lss, bin_leq, bin_gtr, bin_geq, bin_eql, bin_neq, un_not, conv_int, nextK_normal, nextK_exit, nextK_ret, blkK_normal, blkK_ret, blkK_exit, boolIs_t, boolIs_f, boolIs_u, ↓reduceIte, Nat.reduceEqDiff, cpur_build, alc_new, alc_bsl, sliceNB_eq, cfill_nil, cfill_cons, vc_int, vc_slice, vc_agg, vc_bool, vc_ptr, cellV_int, cellV_bool, cellV_slice, cellV_ptr, cellL_nil, cellL_cons, nbV_ptr, nbO_ptr, nbV_slice, nbO_slice, List.getElem?_cons_zero, List.getElem?_cons_succ, List.length_cons, List.length_nil, List.take_zero, List.take_succ_cons, List.drop_zero, List.drop_succ_cons, List.drop_nil, List.nil_append, List.cons_append, List.append_nil, Nat.zero_add, Nat.add_zero, Nat.mul_one, Nat.reduceAdd, Nat.reduceLeDiff, Bool.and_self, Bool.and_true, Bool.true_and, true_and, and_true, cagree_0, cagree_1, cagree_2, sameR_ok, sameV_int, sameV_bool, sameV_slice, Bool.false_eq_true, setArgs_nil, setArgs_cons, Bool.not_true, Bool.not_false, isEffC_pur, isEffC_alc, isEffC_red, isEffC_eff, retK_ret, retK_normal, resVs_tmp, resVs_nil, retV_one, retV_two]
  refine Ev.cut (LabJ0 N nx (.slice a gs.length cap) h 0) ?_ ?_
  · refine Ev.seq (Ev.regO ?_)
    simp only [Ov_pur, Ov_red, Ov_alc, Ov_st, Ov_g, Ov_nil, Dv_pur, Dv_red, Dv_alc, Dv_st, Dv_g, Dv_nil, c_mv, c_bin, c_un, c_conv, c_pick, cPick_bool, c_fld, cFld_agg, c_fldA, c_nilc, nilChk_ptr, c_ext, oExtract_tuple, c_ixA, natR_nat, natR_ofNat, natR_lit, natR_zero, natR_one, oIx_slice, oIx_array, c_ld, c_lens, lenS_slice, cev_t, cev_v, cevs_nil, cevs_cons, putT_some, putT_none, addrR_ptr, moveA_eq, tgs, RK_ok, of_some, bind_ok, ofGet_some, loadC_one, bin_add, bin_sub, bin_lss, bin_leq, bin_gtr, bin_geq, bin_eql, bin_neq, un_not, conv_int, nextK_normal, nextK_exit, nextK_ret, blkK_normal, blkK_ret, blkK_exit, boolIs_t, boolIs_f, boolIs_u, ↓reduceIte, Nat.reduceEqDiff, cpur_build, alc_new, alc_bsl, sliceNB_eq, cfill_nil, cfill_cons, vc_int, vc_slice, vc_agg, vc_bool, vc_ptr, cellV_int, cellV_bool, cellV_slice, cellV_ptr, cellL_nil, cellL_cons, nbV_ptr, nbO_ptr, nbV_slice, nbO_slice, List.getElem?_cons_zero, List.getElem?_cons_succ, List.length_cons, List.length_nil, List.take_zero, List.take_succ_cons, List.drop_zero, List.drop_succ_cons, List.drop_nil, List.nil_append, List.cons_append, List.append_nil, Nat.zero_add, Nat.add_zero, Nat.mul_one, Nat.reduceAdd, Nat.reduceLeDiff, Bool.and_self, Bool.and_true, Bool.true_and, true_and, and_true, cagree_0, cagree_1, cagree_2, sameR_ok, sameV_int, sameV_bool, sameV_slice, Bool.false_eq_true, setArgs_nil, setArgs_cons, Bool.not_true, Bool.not_false, isEffC_pur, isEffC_alc, isEffC_red, isEffC_eff, retK_ret, retK_normal, resVs_tmp, resVs_nil, retV_one, retV_two]
    refine Ev.forL (LabJ0 N nx (.slice a gs.length cap) h) ?_ N _ _ _ ⟨0, rfl, by omega, by simp, by simp, .inl ⟨rfl, by simp⟩, by simp, by omega, fun b hb => by rw [hgs, if_neg (by omega)]⟩
    rintro m tm h' nx' ⟨i, rfl, hi, t1, t4, hsl, g0, hnx, hk⟩
    simp only [Ov_pur, Ov_red, Ov_alc, Ov_st, Ov_g, Ov_nil, Dv_pur, Dv_red, Dv_alc, Dv_st, Dv_g, Dv_nil, c_mv, c_bin, c_un, c_conv, c_pick, cPick_bool, c_fld, cFld_agg, c_fldA, c_nilc, nilChk_ptr, c_ext, oExtract_tuple, c_ixA, natR_nat, natR_ofNat, natR_lit, natR_zero, natR_one, oIx_slice, oIx_array, c_ld, c_lens, lenS_slice, cev_t, cev_v, cevs_nil, cevs_cons, putT_some, putT_none, addrR_ptr, moveA_eq, tgs, RK_ok, of_some, bind_ok, ofGet_some, loadC_one, bin_add, bin_sub, bin_lss, bin_leq, bin_gtr, bin_geq, bin_eql, bin_neq, un_not, conv_int, nextK_normal, nextK_exit, nextK_ret, blkK_normal, blkK_ret, blkK_exit, boolIs_t, boolIs_f, boolIs_u, ↓reduceIte, Nat.reduceEqDiff, cpur_build, alc_new, alc_bsl, sliceNB_eq, cfill_nil, cfill_cons, vc_int, vc_slice, vc_agg, vc_bool, vc_ptr, cellV_int, cellV_bool, cellV_slice, cellV_ptr, cellL_nil, cellL_cons, nbV_ptr, nbO_ptr, nbV_slice, nbO_slice, List.getElem?_cons_zero, List.getElem?_cons_succ, List.length_cons, List.length_nil, List.take_zero, List.take_succ_cons, List.drop_zero, List.drop_succ_cons, List.drop_nil, List.nil_append, List.cons_append, List.append_nil, Nat.zero_add, Nat.add_zero, Nat.mul_one, Nat.reduceAdd, Nat.reduceLeDiff, Bool.and_self, Bool.and_true, Bool.true_and, true_and, and_true, cagree_0, cagree_1, cagree_2, sameR_ok, sameV_int, sameV_bool, sameV_slice, Bool.false_eq_true, setArgs_nil, setArgs_cons, Bool.not_true, Bool.not_false, isEffC_pur, isEffC_alc, isEffC_red, isEffC_eff, retK_ret, retK_normal, resVs_tmp, resVs_nil, retV_one, retV_two, t1, t4, cellsOf_some g0]
    refine ⟨decide ((i : Int) < N), rfl, fun e => ?_, fun e => ?_⟩
    · have : ¬ ((i : Int) < N) := of_decide_eq_false e
      exact ⟨i, by omega, by omega, by simpa using t1, by simpa using t4, by simpa using hsl, g0, hnx, hk⟩
    · have hiN : i < N := by
        have : (i : Int) < N := of_decide_eq_true e
        omega
      refine Ev.regO ?_
      simp only [Ov_pur, Ov_red, Ov_alc, Ov_st, Ov_g, Ov_nil, Dv_pur, Dv_red, Dv_alc, Dv_st, Dv_g, Dv_nil, c_mv, c_bin, c_un, c_conv, c_pick, cPick_bool, c_fld, cFld_agg, c_fldA, c_nilc, nilChk_ptr, c_ext, oExtract_tuple, c_ixA, natR_nat, natR_ofNat, natR_lit, natR_zero, natR_one, oIx_slice, oIx_array, c_ld, c_lens, lenS_slice, cev_t, cev_v, cevs_nil, cevs_cons, putT_some, putT_none, addrR_ptr, moveA_eq, tgs, RK_ok, of_some, bind_ok, ofGet_some, loadC_one, bin_add, bin_sub, bin_lss, bin_leq, bin_gtr, bin_geq, bin_eql, bin_neq, un_not, conv_int, nextK_normal, nextK_exit, nextK_ret, blkK_normal, blkK_ret, blkK_exit, boolIs_t, boolIs_f, boolIs_u, ↓reduceIte, Nat.reduceEqDiff, cpur_build, alc_new, alc_bsl, sliceNB_eq, cfill_nil, cfill_cons, vc_int, vc_slice, vc_agg, vc_bool, vc_ptr, cellV_int, cellV_bool, cellV_slice, cellV_ptr, cellL_nil, cellL_cons, nbV_ptr, nbO_ptr, nbV_slice, nbO_slice, List.getElem?_cons_zero, List.getElem?_cons_succ, List.length_cons, List.length_nil, List.take_zero, List.take_succ_cons, List.drop_zero, List.drop_succ_cons, List.drop_nil, List.nil_append, List.cons_append, List.append_nil, Nat.zero_add, Nat.add_zero, Nat.mul_one, Nat.reduceAdd, Nat.reduceLeDiff, Bool.and_self, Bool.and_true, Bool.true_and, true_and, and_true, cagree_0, cagree_1, cagree_2, sameR_ok, sameV_int, sameV_bool, sameV_slice, Bool.false_eq_true, setArgs_nil, setArgs_cons, Bool.not_true, Bool.not_false, isEffC_pur, isEffC_alc, isEffC_red, isEffC_eff, retK_ret, retK_normal, resVs_tmp, resVs_nil, retV_one, retV_two, t4]
      have hsl5 : SlAt (hset h' nx' (.cells [.int .i64 (i : Int)] false)) (tget tm 3) encI 1 (nats (List.range i)) (nx + 1) (nx' + 1) := by
        rcases hsl with ⟨e1, e2⟩ | ⟨bk, y1, y2, y3, y4⟩
        · exact .inl ⟨e1, e2⟩
        · exact .inr ⟨bk, y1, by omega, y3, by rw [hgs, if_neg (by omega)]; exact y4⟩
      obtain ⟨v3, h6, hap, hsl6, hk6⟩ := app_cv (enc := encI) (k := 1) (fun _ => rfl) (fun _ => rfl) (by omega) hsl5 (by omega) (b2 := nx') (o2 := 0) (cap2 := 1) (sp2 := none) (cs := [.int .i64 (i : Int)]) (ro := false) (x := (i : Int)) (by simp) rfl (by rw [nats_len, List.length_range]; omega)
      rw [Ov_eff (v := v3) (h' := h6) (nx' := nx' + 1 + 1) (by
        show orR (appendA 1 _ _ (cev _ (.t 15)) (cev _ (.t 17))) = _
        simp only [Ov_pur, Ov_red, Ov_alc, Ov_st, Ov_g, Ov_nil, Dv_pur, Dv_red, Dv_alc, Dv_st, Dv_g, Dv_nil, c_mv, c_bin, c_un, c_conv, c_pick, cPick_bool, c_fld, cFld_agg, c_fldA, c_nilc, nilChk_ptr, c_ext, oExtract_tuple, c_ixA, natR_nat, natR_ofNat, natR_lit, natR_zero, natR_one, oIx_slice, oIx_array, c_ld, c_lens, lenS_slice, cev_t, cev_v, cevs_nil, cevs_cons, putT_some, putT_none, addrR_ptr, moveA_eq, tgs, RK_ok, of_some, bind_ok, ofGet_some, loadC_one, bin_add, bin_sub, bin_lss, bin_leq, bin_gtr, bin_geq, bin_eql, bin_neq, un_not, conv_int, nextK_normal, nextK_exit, nextK_ret, blkK_normal, blkK_ret, blkK_exit, boolIs_t, boolIs_f, boolIs_u, ↓reduceIte, Nat.reduceEqDiff, cpur_build, alc_new, alc_bsl, sliceNB_eq, cfill_nil, cfill_cons, vc_int, vc_slice, vc_agg, vc_bool, vc_ptr, cellV_int, cellV_bool, cellV_slice, cellV_ptr, cellL_nil, cellL_cons, nbV_ptr, nbO_ptr, nbV_slice, nbO_slice, List.getElem?_cons_zero, List.getElem?_cons_succ, List.length_cons, List.length_nil, List.take_zero, List.take_succ_cons, List.drop_zero, List.drop_succ_cons, List.drop_nil, List.nil_append, List.cons_append, List.append_nil, Nat.zero_add, Nat.add_zero, Nat.mul_one, Nat.reduceAdd, Nat.reduceLeDiff, Bool.and_self, Bool.and_true, Bool.true_and, true_and, and_true, cagree_0, cagree_1, cagree_2, sameR_ok, sameV_int, sameV_bool, sameV_slice, Bool.false_eq_true, setArgs_nil, setArgs_cons, Bool.not_true, Bool.not_false, isEffC_pur, isEffC_alc, isEffC_red, isEffC_eff, retK_ret, retK_normal, resVs_tmp, resVs_nil, retV_one, retV_two]
        rw [hap]; rfl)]
      simp only [Ov_pur, Ov_red, Ov_alc, Ov_st, Ov_g, Ov_nil, Dv_pur, Dv_red, Dv_alc, Dv_st, Dv_g, Dv_nil, c_mv, c_bin, c_un, c_conv, c_pick, cPick_bool, c_fld, cFld_agg, c_fldA, c_nilc, nilChk_ptr, c_ext, oExtract_tuple, c_ixA, natR_nat, natR_ofNat, natR_lit, natR_zero, natR_one, oIx_slice, oIx_array, c_ld, c_lens, lenS_slice, cev_t, cev_v, cevs_nil, cevs_cons, putT_some, putT_none, addrR_ptr, moveA_eq, tgs, RK_ok, of_some, bind_ok, ofGet_some, loadC_one, bin_add, bin_sub, bin_lss, bin_leq, bin_gtr, bin_geq, bin_eql, bin_neq, un_not, conv_int, nextK_normal, nextK_exit, nextK_ret, blkK_normal, blkK_ret, blkK_exit, boolIs_t, boolIs_f, boolIs_u, ↓reduceIte, Nat.reduceEqDiff, cpur_build, alc_new, alc_bsl, sliceNB_eq, cfill_nil, cfill_cons, vc_int, vc_slice, vc_agg, vc_bool, vc_ptr, cellV_int, cellV_bool, cellV_slice, cellV_ptr, cellL_nil, cellL_cons, nbV_ptr, nbO_ptr, nbV_slice, nbO_slice, List.getElem?_cons_zero, List.getElem?_cons_succ, List.length_cons, List.length_nil, List.take_zero, List.take_succ_cons, List.drop_zero, List.drop_succ_cons, List.drop_nil, List.nil_append, List.cons_append, List.append_nil, Nat.zero_add, Nat.add_zero, Nat.mul_one, Nat.reduceAdd, Nat.reduceLeDiff, Bool.and_self, Bool.and_true, Bool.true_and, true_and, and_true, cagree_0, cagree_1, cagree_2, sameR_ok, sameV_int, sameV_bool, sameV_slice, Bool.false_eq_true, setArgs_nil, setArgs_cons, Bool.not_true, Bool.not_false, isEffC_pur, isEffC_alc, isEffC_red, isEffC_eff, retK_ret, retK_normal, resVs_tmp, resVs_nil, retV_one, retV_two, t4]
      refine ⟨N - (i + 1), by omega, i + 1, rfl, by omega, by simpa using t1, ?_, ?_, ?_, by omega, fun b2 hb2 => ?_⟩
      · rw [wrapS (by omega) (by omega)]; simp
      · rw [List.range_succ, nats_app]; simpa using hsl6
      · rw [hk6 _ (by omega), hgs, if_neg (by omega)]; exact g0
      · rw [hk6 _ (by omega), hgs, if_neg (by omega)]; exact hk b2 hb2
  · rintro tm h' nx' ⟨i, hi0, hi, t1, t4, hsl, g0, hnx, hk⟩
    have : i = N := by omega
    subst this
    rcases hsl with ⟨e, _⟩ | ⟨b, hb1, hb2, t3, hb⟩
    · have := congrArg List.length e
      simp [nats_len] at this
      omega
    rw [nats_len, List.length_range] at t3
    rw [flat_ints] at hb
    refine Ev.cut (LabJ2 i nx b (.slice a gs.length cap) gs h 0) ?_ ?_
    · refine Ev.seq (Ev.regO ?_)
      simp only [Ov_pur, Ov_red, Ov_alc, Ov_st, Ov_g, Ov_nil, Dv_pur, Dv_red, Dv_alc, Dv_st, Dv_g, Dv_nil, c_mv, c_bin, c_un, c_conv, c_pick, cPick_bool, c_fld, cFld_agg, c_fldA, c_nilc, nilChk_ptr, c_ext, oExtract_tuple, c_ixA, natR_nat, natR_ofNat, natR_lit, natR_zero, natR_one, oIx_slice, oIx_array, c_ld, c_lens, lenS_slice, cev_t, cev_v, cevs_nil, cevs_cons, putT_some, putT_none, addrR_ptr, moveA_eq, tgs, RK_ok, of_some, bind_ok, ofGet_some, loadC_one, bin_add, bin_sub, bin_lss, bin_leq, bin_gtr, bin_geq, bin_eql, bin_neq, un_not, conv_int, nextK_normal, nextK_exit, nextK_ret, blkK_normal, blkK_ret, blkK_exit, boolIs_t, boolIs_f, boolIs_u, ↓reduceIte, Nat.reduceEqDiff, cpur_build, alc_new, alc_bsl, sliceNB_eq, cfill_nil, cfill_cons, vc_int, vc_slice, vc_agg, vc_bool, vc_ptr, cellV_int, cellV_bool, cellV_slice, cellV_ptr, cellL_nil, cellL_cons, nbV_ptr, nbO_ptr, nbV_slice, nbO_slice, List.getElem?_cons_zero, List.getElem?_cons_succ, List.length_cons, List.length_nil, List.take_zero, List.take_succ_cons, List.drop_zero, List.drop_succ_cons, List.drop_nil, List.nil_append, List.cons_append, List.append_nil, Nat.zero_add, Nat.add_zero, Nat.mul_one, Nat.reduceAdd, Nat.reduceLeDiff, Bool.and_self, Bool.and_true, Bool.true_and, true_and, and_true, cagree_0, cagree_1, cagree_2, sameR_ok, sameV_int, sameV_bool, sameV_slice, Bool.false_eq_true, setArgs_nil, setArgs_cons, Bool.not_true, Bool.not_false, isEffC_pur, isEffC_alc, isEffC_red, isEffC_eff, retK_ret, retK_normal, resVs_tmp, resVs_nil, retV_one, retV_two]
      refine Ev.forL (LabJ2 i nx b (.slice a gs.length cap) gs h) ?_ i _ _ _ ⟨0, _, rfl, by omega, by simp, LabI.init, by simpa using t1, by simpa using t3, g0, hb, hb1, hb2, hk⟩
      rintro m tm h' nx' ⟨k, l, rfl, hk1, t5, hl, t1, t3, g0, hbc, hb1, hb2, hk⟩
      simp only [Ov_pur, Ov_red, Ov_alc, Ov_st, Ov_g, Ov_nil, Dv_pur, Dv_red, Dv_alc, Dv_st, Dv_g, Dv_nil, c_mv, c_bin, c_un, c_conv, c_pick, cPick_bool, c_fld, cFld_agg, c_fldA, c_nilc, nilChk_ptr, c_ext, oExtract_tuple, c_ixA, natR_nat, natR_ofNat, natR_lit, natR_zero, natR_one, oIx_slice, oIx_array, c_ld, c_lens, lenS_slice, cev_t, cev_v, cevs_nil, cevs_cons, putT_some, putT_none, addrR_ptr, moveA_eq, tgs, RK_ok, of_some, bind_ok, ofGet_some, loadC_one, bin_add, bin_sub, bin_lss, bin_leq, bin_gtr, bin_geq, bin_eql, bin_neq, un_not, conv_int, nextK_normal, nextK_exit, nextK_ret, blkK_normal, blkK_ret, blkK_exit, boolIs_t, boolIs_f, boolIs_u, ↓reduceIte, Nat.reduceEqDiff, cpur_build, alc_new, alc_bsl, sliceNB_eq, cfill_nil, cfill_cons, vc_int, vc_slice, vc_agg, vc_bool, vc_ptr, cellV_int, cellV_bool, cellV_slice, cellV_ptr, cellL_nil, cellL_cons, nbV_ptr, nbO_ptr, nbV_slice, nbO_slice, List.getElem?_cons_zero, List.getElem?_cons_succ, List.length_cons, List.length_nil, List.take_zero, List.take_succ_cons, List.drop_zero, List.drop_succ_cons, List.drop_nil, List.nil_append, List.cons_append, List.append_nil, Nat.zero_add, Nat.add_zero, Nat.mul_one, Nat.reduceAdd, Nat.reduceLeDiff, Bool.and_self, Bool.and_true, Bool.true_and, true_and, and_true, cagree_0, cagree_1, cagree_2, sameR_ok, sameV_int, sameV_bool, sameV_slice, Bool.false_eq_true, setArgs_nil, setArgs_cons, Bool.not_true, Bool.not_false, isEffC_pur, isEffC_alc, isEffC_red, isEffC_eff, retK_ret, retK_normal, resVs_tmp, resVs_nil, retV_one, retV_two, t1, t5, cellsOf_some g0]
      refine ⟨decide ((k : Int) < i), rfl, fun e => ?_, fun e => ?_⟩
      · have : ¬ ((k : Int) < i) := of_decide_eq_false e
        exact ⟨k, l, by omega, by omega, by simpa using t5, hl, by simpa using t1, by simpa using t3, g0, hbc, hb1, hb2, hk⟩
      · have hki : k < i := by
          have : (k : Int) < i := of_decide_eq_true e
          omega
        refine Ev.cutE (LabJ4 i nx b k (.slice a gs.length cap) gs h 0) ?_ ?_
        · refine Ev.seq (Ev.regO ?_)
          simp only [Ov_pur, Ov_red, Ov_alc, Ov_st, Ov_g, Ov_nil, Dv_pur, Dv_red, Dv_alc, Dv_st, Dv_g, Dv_nil, c_mv, c_bin, c_un, c_conv, c_pick, cPick_bool, c_fld, cFld_agg, c_fldA, c_nilc, nilChk_ptr, c_ext, oExtract_tuple, c_ixA, natR_nat, natR_ofNat, natR_lit, natR_zero, natR_one, oIx_slice, oIx_array, c_ld, c_lens, lenS_slice, cev_t, cev_v, cevs_nil, cevs_cons, putT_some, putT_none, addrR_ptr, moveA_eq, tgs, RK_ok, of_some, bind_ok, ofGet_some, loadC_one, bin_add, bin_sub, bin_lss, bin_leq, bin_gtr, bin_geq, bin_eql, bin_neq, un_not, conv_int, nextK_normal, nextK_exit, nextK_ret, blkK_normal, blkK_ret, blkK_exit, boolIs_t, boolIs_f, boolIs_u, ↓reduceIte, Nat.reduceEqDiff, cpur_build, alc_new, alc_bsl, sliceNB_eq, cfill_nil, cfill_cons, vc_int, vc_slice, vc_agg, vc_bool, vc_ptr, cellV_int, cellV_bool, cellV_slice, cellV_ptr, cellL_nil, cellL_cons, nbV_ptr, nbO_ptr, nbV_slice, nbO_slice, List.getElem?_cons_zero, List.getElem?_cons_succ, List.length_cons, List.length_nil, List.take_zero, List.take_succ_cons, List.drop_zero, List.drop_succ_cons, List.drop_nil, List.nil_append, List.cons_append, List.append_nil, Nat.zero_add, Nat.add_zero, Nat.mul_one, Nat.reduceAdd, Nat.reduceLeDiff, Bool.and_self, Bool.and_true, Bool.true_and, true_and, and_true, cagree_0, cagree_1, cagree_2, sameR_ok, sameV_int, sameV_bool, sameV_slice, Bool.false_eq_true, setArgs_nil, setArgs_cons, Bool.not_true, Bool.not_false, isEffC_pur, isEffC_alc, isEffC_red, isEffC_eff, retK_ret, retK_normal, resVs_tmp, resVs_nil, retV_one, retV_two]
          refine Ev.forL (LabJ4 i nx b k (.slice a gs.length cap) gs h) ?_ gs.length _ _ _ ⟨0, l, rfl, by omega, by simpa using t5, by simp, hl, by simpa using t1, by simpa using t3, g0, hbc, hb1, hb2, hk⟩
          rintro m tm h' nx' ⟨j, l, rfl, hj1, t5, t6, hl, t1, t3, g0, hbc, hb1, hb2, hk⟩
          simp only [Ov_pur, Ov_red, Ov_alc, Ov_st, Ov_g, Ov_nil, Dv_pur, Dv_red, Dv_alc, Dv_st, Dv_g, Dv_nil, c_mv, c_bin, c_un, c_conv, c_pick, cPick_bool, c_fld, cFld_agg, c_fldA, c_nilc, nilChk_ptr, c_ext, oExtract_tuple, c_ixA, natR_nat, natR_ofNat, natR_lit, natR_zero, natR_one, oIx_slice, oIx_array, c_ld, c_lens, lenS_slice, cev_t, cev_v, cevs_nil, cevs_cons, putT_some, putT_none, addrR_ptr, moveA_eq, tgs, RK_ok, of_some, bind_ok, ofGet_some, loadC_one, bin_add, bin_sub, bin_lss, bin_leq, bin_gtr, bin_geq, bin_eql, bin_neq, un_not, conv_int, nextK_normal, nextK_exit, nextK_ret, blkK_normal, blkK_ret, blkK_exit, boolIs_t, boolIs_f, boolIs_u, ↓reduceIte, Nat.reduceEqDiff, cpur_build, alc_new, alc_bsl, sliceNB_eq, cfill_nil, cfill_cons, vc_int, vc_slice, vc_agg, vc_bool, vc_ptr, cellV_int, cellV_bool, cellV_slice, cellV_ptr, cellL_nil, cellL_cons, nbV_ptr, nbO_ptr, nbV_slice, nbO_slice, List.getElem?_cons_zero, List.getElem?_cons_succ, List.length_cons, List.length_nil, List.take_zero, List.take_succ_cons, List.drop_zero, List.drop_succ_cons, List.drop_nil, List.nil_append, List.cons_append, List.append_nil, Nat.zero_add, Nat.add_zero, Nat.mul_one, Nat.reduceAdd, Nat.reduceLeDiff, Bool.and_self, Bool.and_true, Bool.true_and, true_and, and_true, cagree_0, cagree_1, cagree_2, sameR_ok, sameV_int, sameV_bool, sameV_slice, Bool.false_eq_true, setArgs_nil, setArgs_cons, Bool.not_true, Bool.not_false, isEffC_pur, isEffC_alc, isEffC_red, isEffC_eff, retK_ret, retK_normal, resVs_tmp, resVs_nil, retV_one, retV_two, t1, t6, cellsOf_some g0]
          refine ⟨decide ((j : Int) < gs.length), rfl, fun e => ?_, fun e => ?_⟩
          · have : ¬ ((j : Int) < gs.length) := of_decide_eq_false e
            exact ⟨j, l, by omega, by omega, by simpa using t5, by simpa using t6, hl, by simpa using t1, by simpa using t3, g0, hbc, hb1, hb2, hk⟩
          · have hjl : j < gs.length := by
              have : (j : Int) < gs.length := of_decide_eq_true e
              omega
            obtain ⟨x, hx⟩ : ∃ x, gs[j]? = some x := ⟨_, List.getElem?_eq_getElem hjl⟩
            obtain ⟨_, bx, spx, rox, capx, hbn, hveq, hbh⟩ := hv.at hx
            injection hveq with e1 e2 e3
            subst e1
            have hb' := (hk bx hbn).trans hbh
            obtain ⟨okf, okt, _, _⟩ := hok x (List.mem_of_getElem? hx)
            have hlf : l[x.f]? = some (l[x.f]'(by rw [hl.len]; exact okf)) := List.getElem?_eq_getElem _
            have hlt : l[x.t]? = some (l[x.t]'(by rw [hl.len]; exact okt)) := List.getElem?_eq_getElem _
            generalize l[x.f]'(by rw [hl.len]; exact okf) = lf at hlf
            generalize l[x.t]'(by rw [hl.len]; exact okt) = lt at hlt
            refine Ev.genT (fun tm2 => tget tm2 1 = tget tm 1 ∧ tget tm2 3 = tget tm 3 ∧ tget tm2 5 = tget tm 5 ∧ tget tm2 6 = tget tm 6) (by simp) ?_
            rintro tm2 ⟨u1, u3, u5, u6⟩
            rw [t1] at u1; rw [t3] at u3; rw [t5] at u5; rw [t6] at u6
            refine Ev.seq (Ev.regO ?_)
            simp only [Ov_pur, Ov_red, Ov_alc, Ov_st, Ov_g, Ov_nil, Dv_pur, Dv_red, Dv_alc, Dv_st, Dv_g, Dv_nil, c_mv, c_bin, c_un, c_conv, c_pick, cPick_bool, c_fld, cFld_agg, c_fldA, c_nilc, nilChk_ptr, c_ext, oExtract_tuple, c_ixA, natR_nat, natR_ofNat, natR_lit, natR_zero, natR_one, oIx_slice, oIx_array, c_ld, c_lens, lenS_slice, cev_t, cev_v, cevs_nil, cevs_cons, putT_some, putT_none, addrR_ptr, moveA_eq, tgs, RK_ok, of_some, bind_ok, ofGet_some, loadC_one, bin_add, bin_sub, bin_lss, bin_leq, bin_gtr, bin_geq, bin_eql, bin_neq, un_not, conv_int, nextK_normal, nextK_exit, nextK_ret, blkK_normal, blkK_ret, blkK_exit, boolIs_t, boolIs_f, boolIs_u, ↓reduceIte, Nat.reduceEqDiff, cpur_build, alc_new, alc_bsl, sliceNB_eq, cfill_nil, cfill_cons, vc_int, vc_slice, vc_agg, vc_bool, vc_ptr, cellV_int, cellV_bool, cellV_slice, cellV_ptr, cellL_nil, cellL_cons, nbV_ptr, nbO_ptr, nbV_slice, nbO_slice, List.getElem?_cons_zero, List.getElem?_cons_succ, List.length_cons, List.length_nil, List.take_zero, List.take_succ_cons, List.drop_zero, List.drop_succ_cons, List.drop_nil, List.nil_append, List.cons_append, List.append_nil, Nat.zero_add, Nat.add_zero, Nat.mul_one, Nat.reduceAdd, Nat.reduceLeDiff, Bool.and_self, Bool.and_true, Bool.true_and, true_and, and_true, cagree_0, cagree_1, cagree_2, sameR_ok, sameV_int, sameV_bool, sameV_slice, Bool.false_eq_true, setArgs_nil, setArgs_cons, Bool.not_true, Bool.not_false, isEffC_pur, isEffC_alc, isEffC_red, isEffC_eff, retK_ret, retK_normal, resVs_tmp, resVs_nil, retV_one, retV_two, u1, u6, cellsOf_some g0, hjl, cellsOf_some hb', load_flat' (enc := encG) (k := 3) (fun _ => rfl) hx]
            rw [RK_st (cs := [.int .i64 0, .int .i64 0, .int .i64 0]) (by simp) (by simp [encG]) (by simp [encG]) (by simp)]
            refine Ev.genH (fun tm3 h3 => tget tm3 1 = .pointer (some ⟨nx, 0, none⟩) ∧ tget tm3 3 = .slice (some ⟨b, 0, some 1⟩) i i ∧ tget tm3 5 = .int .i64 (k : Int) ∧ tget tm3 6 = .int .i64 (j : Int) ∧ tget tm3 7 = .pointer (some ⟨nx', 0, none⟩) ∧ (∀ b2, b2 < nx' → hget h3 b2 = hget h' b2) ∧ hget h3 nx' = some (.cells (encG x) false))
              ⟨by simp [u1], by simp [u3], by simp [u5], by simp [u6], by simp, fun b2 hb2 => by rw [hgs, if_neg (by omega), hgs, if_neg (by omega)], by simp [encG]⟩ ?_
            rintro tm3 h3 ⟨w1, w3, w5, w6, w7, hold, hnew⟩
            have gl : hget h3 b = some (.cells (ints (nats l)) false) := (hold b hb2).trans hbc
            have q1 := ints_get (nats_get hlf)
            have q2 := ints_get (nats_get hlt)
            refine Ev.seq (Ev.regD ?_)
            simp only [Ov_pur, Ov_red, Ov_alc, Ov_st, Ov_g, Ov_nil, Dv_pur, Dv_red, Dv_alc, Dv_st, Dv_g, Dv_nil, c_mv, c_bin, c_un, c_conv, c_pick, cPick_bool, c_fld, cFld_agg, c_fldA, c_nilc, nilChk_ptr, c_ext, oExtract_tuple, c_ixA, natR_nat, natR_ofNat, natR_lit, natR_zero, natR_one, oIx_slice, oIx_array, c_ld, c_lens, lenS_slice, cev_t, cev_v, cevs_nil, cevs_cons, putT_some, putT_none, addrR_ptr, moveA_eq, tgs, RK_ok, of_some, bind_ok, ofGet_some, loadC_one, bin_add, bin_sub, bin_lss, bin_leq, bin_gtr, bin_geq, bin_eql, bin_neq, un_not, conv_int, nextK_normal, nextK_exit, nextK_ret, blkK_normal, blkK_ret, blkK_exit, boolIs_t, boolIs_f, boolIs_u, ↓reduceIte, Nat.reduceEqDiff, cpur_build, alc_new, alc_bsl, sliceNB_eq, cfill_nil, cfill_cons, vc_int, vc_slice, vc_agg, vc_bool, vc_ptr, cellV_int, cellV_bool, cellV_slice, cellV_ptr, cellL_nil, cellL_cons, nbV_ptr, nbO_ptr, nbV_slice, nbO_slice, List.getElem?_cons_zero, List.getElem?_cons_succ, List.length_cons, List.length_nil, List.take_zero, List.take_succ_cons, List.drop_zero, List.drop_succ_cons, List.drop_nil, List.nil_append, List.cons_append, List.append_nil, Nat.zero_add, Nat.add_zero, Nat.mul_one, Nat.reduceAdd, Nat.reduceLeDiff, Bool.and_self, Bool.and_true, Bool.true_and, true_and, and_true, cagree_0, cagree_1, cagree_2, sameR_ok, sameV_int, sameV_bool, sameV_slice, Bool.false_eq_true, setArgs_nil, setArgs_cons, Bool.not_true, Bool.not_false, isEffC_pur, isEffC_alc, isEffC_red, isEffC_eff, retK_ret, retK_normal, resVs_tmp, resVs_nil, retV_one, retV_two, w3, w7, cellsOf_some hnew, encG, cellsOf_some gl, okf, okt, q1, q2, c_mn, min2_nat]
            refine Ev.seq (Ev.regO ?_)
            simp only [Ov_pur, Ov_red, Ov_alc, Ov_st, Ov_g, Ov_nil, Dv_pur, Dv_red, Dv_alc, Dv_st, Dv_g, Dv_nil, c_mv, c_bin, c_un, c_conv, c_pick, cPick_bool, c_fld, cFld_agg, c_fldA, c_nilc, nilChk_ptr, c_ext, oExtract_tuple, c_ixA, natR_nat, natR_ofNat, natR_lit, natR_zero, natR_one, oIx_slice, oIx_array, c_ld, c_lens, lenS_slice, cev_t, cev_v, cevs_nil, cevs_cons, putT_some, putT_none, addrR_ptr, moveA_eq, tgs, RK_ok, of_some, bind_ok, ofGet_some, loadC_one, bin_add, bin_sub, bin_lss, bin_leq, bin_gtr, bin_geq, bin_eql, bin_neq, un_not, conv_int, nextK_normal, nextK_exit, nextK_ret, blkK_normal, blkK_ret, blkK_exit, boolIs_t, boolIs_f, boolIs_u, ↓reduceIte, Nat.reduceEqDiff, cpur_build, alc_new, alc_bsl, sliceNB_eq, cfill_nil, cfill_cons, vc_int, vc_slice, vc_agg, vc_bool, vc_ptr, cellV_int, cellV_bool, cellV_slice, cellV_ptr, cellL_nil, cellL_cons, nbV_ptr, nbO_ptr, nbV_slice, nbO_slice, List.getElem?_cons_zero, List.getElem?_cons_succ, List.length_cons, List.length_nil, List.take_zero, List.take_succ_cons, List.drop_zero, List.drop_succ_cons, List.drop_nil, List.nil_append, List.cons_append, List.append_nil, Nat.zero_add, Nat.add_zero, Nat.mul_one, Nat.reduceAdd, Nat.reduceLeDiff, Bool.and_self, Bool.and_true, Bool.true_and, true_and, and_true, cagree_0, cagree_1, cagree_2, sameR_ok, sameV_int, sameV_bool, sameV_slice, Bool.false_eq_true, setArgs_nil, setArgs_cons, Bool.not_true, Bool.not_false, isEffC_pur, isEffC_alc, isEffC_red, isEffC_eff, retK_ret, retK_normal, resVs_tmp, resVs_nil, retV_one, retV_two, w3, w7, cellsOf_some hnew, encG, okf]
            rw [RK_st1 gl rfl (by rw [ints_len, nats_len, hl.len]; exact okf), ints_set, nats_set]
            have hne7 : hget (hset h3 b (.cells (ints (nats (l.set x.f (min lf lt)))) false)) nx' = some (.cells (encG x) false) := by rw [hgs, if_neg (by omega)]; exact hnew
            refine Ev.regO ?_
            simp only [Ov_pur, Ov_red, Ov_alc, Ov_st, Ov_g, Ov_nil, Dv_pur, Dv_red, Dv_alc, Dv_st, Dv_g, Dv_nil, c_mv, c_bin, c_un, c_conv, c_pick, cPick_bool, c_fld, cFld_agg, c_fldA, c_nilc, nilChk_ptr, c_ext, oExtract_tuple, c_ixA, natR_nat, natR_ofNat, natR_lit, natR_zero, natR_one, oIx_slice, oIx_array, c_ld, c_lens, lenS_slice, cev_t, cev_v, cevs_nil, cevs_cons, putT_some, putT_none, addrR_ptr, moveA_eq, tgs, RK_ok, of_some, bind_ok, ofGet_some, loadC_one, bin_add, bin_sub, bin_lss, bin_leq, bin_gtr, bin_geq, bin_eql, bin_neq, un_not, conv_int, nextK_normal, nextK_exit, nextK_ret, blkK_normal, blkK_ret, blkK_exit, boolIs_t, boolIs_f, boolIs_u, ↓reduceIte, Nat.reduceEqDiff, cpur_build, alc_new, alc_bsl, sliceNB_eq, cfill_nil, cfill_cons, vc_int, vc_slice, vc_agg, vc_bool, vc_ptr, cellV_int, cellV_bool, cellV_slice, cellV_ptr, cellL_nil, cellL_cons, nbV_ptr, nbO_ptr, nbV_slice, nbO_slice, List.getElem?_cons_zero, List.getElem?_cons_succ, List.length_cons, List.length_nil, List.take_zero, List.take_succ_cons, List.drop_zero, List.drop_succ_cons, List.drop_nil, List.nil_append, List.cons_append, List.append_nil, Nat.zero_add, Nat.add_zero, Nat.mul_one, Nat.reduceAdd, Nat.reduceLeDiff, Bool.and_self, Bool.and_true, Bool.true_and, true_and, and_true, cagree_0, cagree_1, cagree_2, sameR_ok, sameV_int, sameV_bool, sameV_slice, Bool.false_eq_true, setArgs_nil, setArgs_cons, Bool.not_true, Bool.not_false, isEffC_pur, isEffC_alc, isEffC_red, isEffC_eff, retK_ret, retK_normal, resVs_tmp, resVs_nil, retV_one, retV_two, w3, w7, cellsOf_some hne7, encG, okt]
            rw [RK_st1 (cs := ints (nats (l.set x.f (min lf lt)))) (by simp) rfl (by rw [ints_len, nats_len, List.length_set, hl.len]; exact okt), ints_set, nats_set]
            (try simp only [Ov_pur, Ov_red, Ov_alc, Ov_st, Ov_g, Ov_nil, Dv_pur, Dv_red, Dv_alc, Dv_st, Dv_g, Dv_nil, c_mv, c_bin, c_un, c_conv, c_pick, cPick_bool, c_fld, cFld_agg, c_fldA, c_nilc, nilChk_ptr, c_ext, oExtract_tuple, c_ixA, natR_nat, natR_ofNat, natR_lit, natR_zero, natR_one, oIx_slice, oIx_array, c_ld, c_lens, lenS_slice, cev_t, cev_v, cevs_nil, cevs_cons, putT_some, putT_none, addrR_ptr, moveA_eq, tgs, RK_ok, of_some, bind_ok, ofGet_some, loadC_one, bin_add, bin_sub, bin_lss, bin_leq, bin_gtr, bin_geq, bin_eql, bin_neq, un_not, conv_int, nextK_normal, nextK_exit, nextK_ret, blkK_normal, blkK_ret, blkK_exit, boolIs_t, boolIs_f, boolIs_u, ↓reduceIte, Nat.reduceEqDiff, cpur_build, alc_new, alc_bsl, sliceNB_eq, cfill_nil, cfill_cons, vc_int, vc_slice, vc_agg, vc_bool, vc_ptr, cellV_int, cellV_bool, cellV_slice, cellV_ptr, cellL_nil, cellL_cons, nbV_ptr, nbO_ptr, nbV_slice, nbO_slice, List.getElem?_cons_zero, List.getElem?_cons_succ, List.length_cons, List.length_nil, List.take_zero, List.take_succ_cons, List.drop_zero, List.drop_succ_cons, List.drop_nil, List.nil_append, List.cons_append, List.append_nil, Nat.zero_add, Nat.add_zero, Nat.mul_one, Nat.reduceAdd, Nat.reduceLeDiff, Bool.and_self, Bool.and_true, Bool.true_and, true_and, and_true, cagree_0, cagree_1, cagree_2, sameR_ok, sameV_int, sameV_bool, sameV_slice, Bool.false_eq_true, setArgs_nil, setArgs_cons, Bool.not_true, Bool.not_false, isEffC_pur, isEffC_alc, isEffC_red, isEffC_eff, retK_ret, retK_normal, resVs_tmp, resVs_nil, retV_one, retV_two, w6])
            refine ⟨gs.length - (j + 1), by omega, j + 1, _, rfl, by omega, by simpa using w5, ?_, hl.step hx hlf hlt, by simpa using w1, by simpa using w3, ?_, by simp, hb1, by omega, fun b2 hb2 => ?_⟩
            · rw [wrapS (by omega) (by omega)]; simp
            · rw [hgs, if_neg (by omega), hgs, if_neg (by omega), hold nx (by omega)]; exact g0
            · rw [hgs, if_neg (by omega), hgs, if_neg (by omega), hold b2 (by omega)]; exact hk b2 hb2
        · rintro tm h' nx' ⟨j, l, hj0, hj1, t5, t6, hl, t1, t3, g0, hbc, hb1, hb2, hk⟩
          have : j = gs.length := by omega
          subst this
          simp only [Ov_pur, Ov_red, Ov_alc, Ov_st, Ov_g, Ov_nil, Dv_pur, Dv_red, Dv_alc, Dv_st, Dv_g, Dv_nil, c_mv, c_bin, c_un, c_conv, c_pick, cPick_bool, c_fld, cFld_agg, c_fldA, c_nilc, nilChk_ptr, c_ext, oExtract_tuple, c_ixA, natR_nat, natR_ofNat, natR_lit, natR_zero, natR_one, oIx_slice, oIx_array, c_ld, c_lens, lenS_slice, cev_t, cev_v, cevs_nil, cevs_cons, putT_some, putT_none, addrR_ptr, moveA_eq, tgs, RK_ok, of_some, bind_ok, ofGet_some, loadC_one, bin_add, bin_sub, bin_lss, bin_leq, bin_gtr, bin_geq, bin_eql, bin_neq, un_not, conv_int, nextK_normal, nextK_exit, nextK_ret, blkK_normal, blkK_ret, blkK_exit, boolIs_t, boolIs_f, boolIs_u, ↓reduceIte, Nat.reduceEqDiff, cpur_build, alc_new, alc_bsl, sliceNB_eq, cfill_nil, cfill_cons, vc_int, vc_slice, vc_agg, vc_bool, vc_ptr, cellV_int, cellV_bool, cellV_slice, cellV_ptr, cellL_nil, cellL_cons, nbV_ptr, nbO_ptr, nbV_slice, nbO_slice, List.getElem?_cons_zero, List.getElem?_cons_succ, List.length_cons, List.length_nil, List.take_zero, List.take_succ_cons, List.drop_zero, List.drop_succ_cons, List.drop_nil, List.nil_append, List.cons_append, List.append_nil, Nat.zero_add, Nat.add_zero, Nat.mul_one, Nat.reduceAdd, Nat.reduceLeDiff, Bool.and_self, Bool.and_true, Bool.true_and, true_and, and_true, cagree_0, cagree_1, cagree_2, sameR_ok, sameV_int, sameV_bool, sameV_slice, Bool.false_eq_true, setArgs_nil, setArgs_cons, Bool.not_true, Bool.not_false, isEffC_pur, isEffC_alc, isEffC_red, isEffC_eff, retK_ret, retK_normal, resVs_tmp, resVs_nil, retV_one, retV_two, t5]
          refine ⟨i - (k + 1), by omega, k + 1, l, rfl, by omega, ?_, hl.next, by simpa using t1, by simpa using t3, g0, hbc, hb1, hb2, hk⟩
          rw [wrapS (by omega) (by omega)]; simp
    · rintro tm h' nx' ⟨k, l, hk0, hk1, t5, hl, t1, t3, g0', hbc, hb1', hb2', hk'⟩
      have : k = i := by omega
      subst this
      have := hL.unique (hl.done hes)
      subst this
      refine Ev.seq (Ev.regO ?_)
      simp only [Ov_pur, Ov_red, Ov_alc, Ov_st, Ov_g, Ov_nil, Dv_pur, Dv_red, Dv_alc, Dv_st, Dv_g, Dv_nil, c_mv, c_bin, c_un, c_conv, c_pick, cPick_bool, c_fld, cFld_agg, c_fldA, c_nilc, nilChk_ptr, c_ext, oExtract_tuple, c_ixA, natR_nat, natR_ofNat, natR_lit, natR_zero, natR_one, oIx_slice, oIx_array, c_ld, c_lens, lenS_slice, cev_t, cev_v, cevs_nil, cevs_cons, putT_some, putT_none, addrR_ptr, moveA_eq, tgs, RK_ok, of_some, bind_ok, ofGet_some, loadC_one, bin_add, bin_sub, bin_lss, bin_leq, bin_gtr, bin_geq, bin_eql, bin_neq, un_not, conv_int, nextK_normal, nextK_exit, nextK_ret, blkK_normal, blkK_ret, blkK_exit, boolIs_t, boolIs_f, boolIs_u, ↓reduceIte, Nat.reduceEqDiff, cpur_build, alc_new, alc_bsl, sliceNB_eq, cfill_nil, cfill_cons, vc_int, vc_slice, vc_agg, vc_bool, vc_ptr, cellV_int, cellV_bool, cellV_slice, cellV_ptr, cellL_nil, cellL_cons, nbV_ptr, nbO_ptr, nbV_slice, nbO_slice, List.getElem?_cons_zero, List.getElem?_cons_succ, List.length_cons, List.length_nil, List.take_zero, List.take_succ_cons, List.drop_zero, List.drop_succ_cons, List.drop_nil, List.nil_append, List.cons_append, List.append_nil, Nat.zero_add, Nat.add_zero, Nat.mul_one, Nat.reduceAdd, Nat.reduceLeDiff, Bool.and_self, Bool.and_true, Bool.true_and, true_and, and_true, cagree_0, cagree_1, cagree_2, sameR_ok, sameV_int, sameV_bool, sameV_slice, Bool.false_eq_true, setArgs_nil, setArgs_cons, Bool.not_true, Bool.not_false, isEffC_pur, isEffC_alc, isEffC_red, isEffC_eff, retK_ret, retK_normal, resVs_tmp, resVs_nil, retV_one, retV_two, t3]
      refine Ev.ret ?_
      simp only [Ov_pur, Ov_red, Ov_alc, Ov_st, Ov_g, Ov_nil, Dv_pur, Dv_red, Dv_alc, Dv_st, Dv_g, Dv_nil, c_mv, c_bin, c_un, c_conv, c_pick, cPick_bool, c_fld, cFld_agg, c_fldA, c_nilc, nilChk_ptr, c_ext, oExtract_tuple, c_ixA, natR_nat, natR_ofNat, natR_lit, natR_zero, natR_one, oIx_slice, oIx_array, c_ld, c_lens, lenS_slice, cev_t, cev_v, cevs_nil, cevs_cons, putT_some, putT_none, addrR_ptr, moveA_eq, tgs, RK_ok, of_some, bind_ok, ofGet_some, loadC_one, bin_add, bin_sub, bin_lss, bin_leq, bin_gtr, bin_geq, bin_eql, bin_neq, un_not, conv_int, nextK_normal, nextK_exit, nextK_ret, blkK_normal, blkK_ret, blkK_exit, boolIs_t, boolIs_f, boolIs_u, ↓reduceIte, Nat.reduceEqDiff, cpur_build, alc_new, alc_bsl, sliceNB_eq, cfill_nil, cfill_cons, vc_int, vc_slice, vc_agg, vc_bool, vc_ptr, cellV_int, cellV_bool, cellV_slice, cellV_ptr, cellL_nil, cellL_cons, nbV_ptr, nbO_ptr, nbV_slice, nbO_slice, List.getElem?_cons_zero, List.getElem?_cons_succ, List.length_cons, List.length_nil, List.take_zero, List.take_succ_cons, List.drop_zero, List.drop_succ_cons, List.drop_nil, List.nil_append, List.cons_append, List.append_nil, Nat.zero_add, Nat.add_zero, Nat.mul_one, Nat.reduceAdd, Nat.reduceLeDiff, Bool.and_self, Bool.and_true, Bool.true_and, true_and, and_true, cagree_0, cagree_1, cagree_2, sameR_ok, sameV_int, sameV_bool, sameV_slice, Bool.false_eq_true, setArgs_nil, setArgs_cons, Bool.not_true, Bool.not_false, isEffC_pur, isEffC_alc, isEffC_red, isEffC_eff, retK_ret, retK_normal, resVs_tmp, resVs_nil, retV_one, retV_two]
      exact ⟨b, rfl, hbc, by omega, hb2', hk'⟩
end
end Go.Ax
