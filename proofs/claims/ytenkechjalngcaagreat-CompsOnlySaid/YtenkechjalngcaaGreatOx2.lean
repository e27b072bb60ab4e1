/- Parts of the proof: Ox2: each statement bears its own conditions. -/
import Derived.Test.YtenkechjalngcaaGreatOx1
/-! part AxH13 -/
namespace Go.Ax
open Go
set_option linter.unusedSimpArgs false
set_option linter.unusedVariables false

/-! # comps.Check, comps.Count -/
def cfCheck (fri fg fr te : Nat) : CF := { res := [.tmp 4], body :=
 (.seq (.regO [⟨none, (some 2), 0, .alc (.box (.t 0))⟩,
   ⟨none, (some 4), 0, .pur (.mv (.v (.bool false)))⟩])
 (.seq (.seq (.regO [⟨none, (some 8), 0, .red (.ld (some 2) (.t 2))⟩,
   ⟨none, (some 9), 0, .eff (.call fri [(.t 8)])⟩,
   ⟨none, (some 10), 0, .pur (.bin .neq te (.t 9) (.v (.int .i64 0)))⟩,
   ⟨none, (some 11), 0, .pur (.mv (.t 10))⟩,
   ⟨(some (11, false)), (some 12), 0, .pur (.mv (.t 1))⟩,
   ⟨(some (11, false)), (some 13), 0, .red (.lens (.t 12))⟩,
   ⟨(some (11, false)), (some 14), 0, .pur (.fldA 0 (.t 2))⟩,
   ⟨(some (11, false)), (some 15), 0, .red (.ld none (.t 14))⟩,
   ⟨(some (11, false)), (some 16), 0, .pur (.bin .neq 3 (.t 13) (.t 15))⟩,
   ⟨none, (some 17), 0, .pur (.pick (.t 11) (.v (.bool true)) (.t 16))⟩])
 (.cond (.t 17)
  (.seq (.regO [⟨none, (some 4), 0, .pur (.mv (.v (.bool false)))⟩])
  .ret)
  .skip))
 (.seq (.regO [⟨none, (some 18), 0, .red (.ld (some 2) (.t 2))⟩,
   ⟨none, (some 19), 0, .eff (.call fg [(.t 18)])⟩,
   ⟨none, (some 5), 0, .pur (.mv (.t 19))⟩])
 (.seq (.seq (.regO [⟨none, (some 20), 0, .pur (.mv (.t 1))⟩,
   ⟨none, (some 21), 0, .red (.lens (.t 20))⟩,
   ⟨none, (some 22), 0, .pur (.mv (.v (.int .i64 0)))⟩])
 (.block 0
  (.loop
   (.seq (.regO [⟨none, (some 23), 0, .pur (.bin .lss 3 (.t 22) (.t 21))⟩])
   (.seq (.cond (.t 23)
    .skip
    (.exit 0))
   (.seq (.block 1
    (.seq (.regO [⟨none, (some 24), 0, .pur (.mv (.t 22))⟩,
      ⟨none, (some 25), 0, .pur (.ixA (.slice 1) (.t 20) (.t 22))⟩,
      ⟨none, (some 26), 0, .red (.ld none (.t 25))⟩,
      ⟨none, (some 6), 0, .pur (.mv (.t 24))⟩,
      ⟨none, (some 7), 0, .pur (.mv (.t 26))⟩])
    (.seq (.regO [⟨none, (some 27), 0, .pur (.mv (.t 5))⟩,
      ⟨none, (some 28), 0, .pur (.mv (.t 6))⟩,
      ⟨none, (some 29), 0, .eff (.call fr [(.t 27), (.t 28)])⟩,
      ⟨none, (some 30), 0, .pur (.mv (.t 7))⟩,
      ⟨none, (some 31), 0, .pur (.bin .neq 2 (.t 29) (.t 30))⟩])
    (.cond (.t 31)
     (.seq (.regO [⟨none, (some 4), 0, .pur (.mv (.v (.bool false)))⟩])
     .ret)
     .skip))))
   (.regO [⟨none, (some 32), 0, .pur (.bin .add 3 (.t 22) (.v (.int .i64 1)))⟩,
     ⟨none, (some 22), 0, .pur (.mv (.t 32))⟩])))))))
 (.seq (.regO [⟨none, (some 4), 0, .pur (.mv (.v (.bool true)))⟩])
 .ret))))) }
def cfCount (fri fg te : Nat) : CF := { res := [.tmp 2], body :=
 (.seq (.regO [⟨none, (some 1), 0, .alc (.box (.t 0))⟩,
   ⟨none, (some 2), 0, .pur (.mv (.v (.int .i64 0)))⟩])
 (.seq (.seq (.regO [⟨none, (some 6), 0, .red (.ld (some 2) (.t 1))⟩,
   ⟨none, (some 7), 0, .eff (.call fri [(.t 6)])⟩,
   ⟨none, (some 8), 0, .pur (.bin .neq te (.t 7) (.v (.int .i64 0)))⟩])
 (.cond (.t 8)
  (.seq (.regO [⟨none, (some 2), 0, .pur (.mv (.v (.int .i64 0)))⟩])
  .ret)
  .skip))
 (.seq (.regO [⟨none, (some 3), 0, .pur (.mv (.v (.int .i64 0)))⟩])
 (.seq (.seq (.regO [⟨none, (some 9), 0, .red (.ld (some 2) (.t 1))⟩,
   ⟨none, (some 10), 0, .eff (.call fg [(.t 9)])⟩,
   ⟨none, (some 11), 0, .red (.lens (.t 10))⟩,
   ⟨none, (some 12), 0, .pur (.mv (.v (.int .i64 0)))⟩])
 (.block 0
  (.loop
   (.seq (.regO [⟨none, (some 13), 0, .pur (.bin .lss 3 (.t 12) (.t 11))⟩])
   (.seq (.cond (.t 13)
    .skip
    (.exit 0))
   (.seq (.block 1
    (.seq (.regO [⟨none, (some 14), 0, .pur (.mv (.t 12))⟩,
      ⟨none, (some 15), 0, .pur (.ixA (.slice 1) (.t 10) (.t 12))⟩,
      ⟨none, (some 16), 0, .red (.ld none (.t 15))⟩,
      ⟨none, (some 4), 0, .pur (.mv (.t 14))⟩,
      ⟨none, (some 5), 0, .pur (.mv (.t 16))⟩])
    (.seq (.regO [⟨none, (some 17), 0, .pur (.mv (.t 4))⟩,
      ⟨none, (some 18), 0, .pur (.mv (.t 5))⟩,
      ⟨none, (some 19), 0, .pur (.bin .eql 3 (.t 17) (.t 18))⟩])
    (.cond (.t 19)
     (.regO [⟨none, (some 20), 0, .pur (.mv (.t 3))⟩,
       ⟨none, (some 21), 0, .pur (.bin .add 3 (.t 20) (.v (.int .i64 1)))⟩,
       ⟨none, (some 3), 0, .pur (.mv (.t 21))⟩])
     .skip))))
   (.regO [⟨none, (some 22), 0, .pur (.bin .add 3 (.t 12) (.v (.int .i64 1)))⟩,
     ⟨none, (some 12), 0, .pur (.mv (.t 22))⟩])))))))
 (.seq (.regO [⟨none, (some 23), 0, .pur (.mv (.t 3))⟩,
   ⟨none, (some 2), 0, .pur (.mv (.t 23))⟩])
 .ret))))) }
theorem flat_encI (l : List Int) : flat encI l = ints l := flat_ints l
theorem nats_eq {l : List Int} {L : List Nat} (hl : l.length = L.length) (h : ∀ (k : Nat) (x : Int) (y : Nat), l[k]? = some x → L[k]? = some y → x = (y : Int)) : l = nats L := by
  refine List.ext_getElem? fun k => ?_
  cases hx : l[k]? with
  | none =>
    rw [List.getElem?_eq_none_iff] at hx
    rw [List.getElem?_eq_none (by rw [nats_len]; omega)]
  | some x =>
    have hk := lt_of_get hx
    have hy : L[k]? = some (L[k]'(by omega)) := List.getElem?_eq_getElem _
    rw [nats_get hy, h k x _ hx hy]
def ChkJ (N b bl : Nat) (cap : Nat) (sp : Option Nat) (l : List Int) (L : List Nat) (nx : Nat) (h : Hp) (m : Nat) (tm : Tm) (h' : Hp) (nx' : Nat) : Prop :=
  ∃ (i : Nat) (F : List Nat), m = N - i ∧ i ≤ N ∧ tget tm 5 = .slice (some ⟨b, 0, none⟩) N N ∧ tget tm 20 = .slice (some ⟨bl, 0, sp⟩) N cap ∧ tget tm 21 = .int .i64 (N : Int) ∧ tget tm 22 = .int .i64 (i : Int) ∧ Forest N F ∧ (∀ v r, Root F v r ↔ L[v]? = some r) ∧
    hget h' b = some (.cells (ints (nats F)) false) ∧ (∀ k, k < i → ∀ (x : Int) (y : Nat), l[k]? = some x → L[k]? = some y → x = (y : Int)) ∧ nx ≤ b ∧ b < nx' ∧ Keep nx h h'
section
variable {P : Program} {orc : Orc} {s : Bool}
theorem check_cv {f fri f1 f2 f3 fc fi te fg fr : Nat} (A : CompsAt P orc fri f1 f2 f3 fc fi te fg fr) (hcf : compAt P f = some (cfCheck fri fg fr te)) (ho : orc f = none) {N : Nat} {v vl : Value} {gs : List GE} {l : List Int} {h : Hp} {nx : Nat} (hv : SlRd h nx v encG gs) (hvl : SlRd h nx vl encI l) (hN0 : 0 < N) (hN : N < 24) (hl : gs.length ≤ 60) (hok : ∀ g ∈ gs, GOk N g)
    {L : List Nat} (hL : IsLab N gs L) :
    Cv P orc s f [.agg ⟨[.int .i64 (N : Int), v]⟩, vl] h nx (StillK (.bool (decide (l = nats L))) nx h) := by
  refine Cv.enter ho hcf ?_
  unfold cfCheck
  obtain ⟨a, cap, rfl, _⟩ := id hv
  obtain ⟨al, capl, rfl, _⟩ := id hvl
  refine Ev.seq (Ev.regO ?_)
  rw [Ov_alc, alc_box (l := [.int .i64 (N : Int), .slice a gs.length cap]) (by simp) (by simp)]
  simp only [Ov_pur, Ov_red, Ov_alc, Ov_st, Ov_g, Ov_nil, Dv_pur, Dv_red, Dv_alc, Dv_st, Dv_g, Dv_nil, c_mv, c_bin, c_un, c_conv, c_pick, cPick_bool, c_fld, cFld_agg, c_fldA, c_nilc, nilChk_ptr, c_ext, oExtract_tuple, c_ixA, natR_nat, natR_ofNat, natR_lit, natR_zero, natR_one, oIx_slice, oIx_array, c_ld, c_lens, lenS_slice, cev_t, cev_v, cevs_nil, cevs_cons, putT_some, putT_none, addrR_ptr, moveA_eq, tgs, RK_ok, of_some, bind_ok, ofGet_some, loadC_one, bin_add, bin_sub, bin_lss, bin_leq, bin_gtr, bin_geq, bin_eql, bin_neq, un_not, conv_int, nextK_normal, nextK_exit, nextK_ret, blkK_normal, blkK_ret, blkK_exit, boolIs_t, boolIs_f, boolIs_u, ↓reduceIte, Nat.reduceEqDiff, cpur_build, alc_new, alc_bsl, sliceNB_eq, cfill_nil, cfill_cons, vc_int, vc_slice, vc_agg, vc_bool, vc_ptr, cellV_int, cellV_bool, cellV_slice, cellV_ptr, cellL_nil, cellL_cons, nbV_ptr, nbO_ptr, nbV_slice, nbO_slice, List.getElem?_cons_zero, List.getElem?_cons_succ, List.length_cons, List.length_nil, List.take_zero, List.take_succ_cons, List.drop_zero, List.drop_succ_cons, List.drop_nil, List.nil_append, List.cons_append, List.append_nil, Nat.zero_add, Nat.add_zero, Nat.mul_one, Nat.reduceAdd, Nat.reduceLeDiff, Bool.and_self, Bool.and_true, Bool.true_and, true_and, and_true, cagree_0, cagree_1, cagree_2, sameR_ok, sameV_int, sameV_bool, sameV_slice, Bool.false_eq_true, setArgs_nil, setArgs_cons, Bool.not_true, Bool.not_false, isEffC_pur, isEffC_alc, isEffC_red, isEffC_eff, retK_ret, retK_normal, resVs_tmp, resVs_nil, retV_one, retV_two]
  refine Ev.genH (fun tm2 h2 => tget tm2 1 = .slice al l.length capl ∧ tget tm2 2 = .pointer (some ⟨nx, 0, none⟩) ∧ hget h2 nx = some (.cells [.int .i64 (N : Int), .slice a gs.length cap] false) ∧ Keep nx h h2) ⟨by simp, by simp, by simp, fun c hc => by rw [hgs, if_neg (by omega)]⟩ ?_
  rintro tm2 h2 ⟨t1, t2, g1, hk⟩
  refine Ev.seq (Ev.seq (Ev.regO ?_))
  simp only [Ov_pur, Ov_red, Ov_alc, Ov_st, Ov_g, Ov_nil, Dv_pur, Dv_red, Dv_alc, Dv_st, Dv_g, Dv_nil, c_mv, c_bin, c_un, c_conv, c_pick, cPick_bool, c_fld, cFld_agg, c_fldA, c_nilc, nilChk_ptr, c_ext, oExtract_tuple, c_ixA, natR_nat, natR_ofNat, natR_lit, natR_zero, natR_one, oIx_slice, oIx_array, c_ld, c_lens, lenS_slice, cev_t, cev_v, cevs_nil, cevs_cons, putT_some, putT_none, addrR_ptr, moveA_eq, tgs, RK_ok, of_some, bind_ok, ofGet_some, loadC_one, bin_add, bin_sub, bin_lss, bin_leq, bin_gtr, bin_geq, bin_eql, bin_neq, un_not, conv_int, nextK_normal, nextK_exit, nextK_ret, blkK_normal, blkK_ret, blkK_exit, boolIs_t, boolIs_f, boolIs_u, ↓reduceIte, Nat.reduceEqDiff, cpur_build, alc_new, alc_bsl, sliceNB_eq, cfill_nil, cfill_cons, vc_int, vc_slice, vc_agg, vc_bool, vc_ptr, cellV_int, cellV_bool, cellV_slice, cellV_ptr, cellL_nil, cellL_cons, nbV_ptr, nbO_ptr, nbV_slice, nbO_slice, List.getElem?_cons_zero, List.getElem?_cons_succ, List.length_cons, List.length_nil, List.take_zero, List.take_succ_cons, List.drop_zero, List.drop_succ_cons, List.drop_nil, List.nil_append, List.cons_append, List.append_nil, Nat.zero_add, Nat.add_zero, Nat.mul_one, Nat.reduceAdd, Nat.reduceLeDiff, Bool.and_self, Bool.and_true, Bool.true_and, true_and, and_true, cagree_0, cagree_1, cagree_2, sameR_ok, sameV_int, sameV_bool, sameV_slice, Bool.false_eq_true, setArgs_nil, setArgs_cons, Bool.not_true, Bool.not_false, isEffC_pur, isEffC_alc, isEffC_red, isEffC_eff, retK_ret, retK_normal, resVs_tmp, resVs_nil, retV_one, retV_two, t2, cellsOf_some g1, loadC_many, Nat.sub_zero, Nat.le_refl]
  refine Ov_call ?_
  simp only [cevs_nil, cevs_cons, cev_t, cev_v, tgs, ↓reduceIte, Nat.reduceEqDiff]
  refine (A.right (hv.keep hk (show nx ≤ nx + 1 by omega)) hN hl hok).mono ?_
  rintro r h3 nx3 ⟨rfl, hk3, hnx3⟩
  have g1' := (hk3 nx (by omega)).trans g1
  have f3 : ((0 : Int) == 0) = true := rfl
  by_cases hlen : l.length ≠ N
  · have f4 : ((l.length : Int) == (N : Int)) = false := by simp; omega
    repeat (first | simp only [Dv_g, Ov_g, putT_some, putT_none, tgs, ↓reduceIte, Nat.reduceEqDiff, boolIs_t, boolIs_f, boolIs_u, Bool.not_true, Bool.not_false, Bool.false_eq_true, isEffC_pur, isEffC_alc, isEffC_red, isEffC_eff] | simp only [Ov_pur, Ov_red, Ov_alc, Ov_st, Ov_nil, Dv_pur, Dv_red, Dv_alc, Dv_st, Dv_nil, c_mv, c_bin, c_un, c_conv, c_pick, cPick_bool, c_fld, cFld_agg, c_fldA, c_nilc, nilChk_ptr, c_ext, oExtract_tuple, c_ixA, natR_nat, natR_ofNat, natR_lit, natR_zero, natR_one, oIx_slice, oIx_array, c_ld, c_lens, lenS_slice, cev_t, cev_v, cevs_nil, cevs_cons, putT_some, putT_none, addrR_ptr, moveA_eq, tgs, RK_ok, of_some, bind_ok, ofGet_some, loadC_one, bin_add, bin_sub, bin_lss, bin_leq, bin_gtr, bin_geq, bin_eql, bin_neq, un_not, conv_int, nextK_normal, nextK_exit, nextK_ret, blkK_normal, blkK_ret, blkK_exit, boolIs_t, boolIs_f, boolIs_u, ↓reduceIte, Nat.reduceEqDiff, cpur_build, alc_new, alc_bsl, sliceNB_eq, cfill_nil, cfill_cons, vc_int, vc_slice, vc_agg, vc_bool, vc_ptr, cellV_int, cellV_bool, cellV_slice, cellV_ptr, cellL_nil, cellL_cons, nbV_ptr, nbO_ptr, nbV_slice, nbO_slice, List.getElem?_cons_zero, List.getElem?_cons_succ, List.length_cons, List.length_nil, List.take_zero, List.take_succ_cons, List.drop_zero, List.drop_succ_cons, List.drop_nil, List.nil_append, List.cons_append, List.append_nil, Nat.zero_add, Nat.add_zero, Nat.mul_one, Nat.reduceAdd, Nat.reduceLeDiff, Bool.and_self, Bool.and_true, Bool.true_and, true_and, and_true, cagree_0, cagree_1, cagree_2, sameR_ok, sameV_int, sameV_bool, sameV_slice, Bool.false_eq_true, setArgs_nil, setArgs_cons, Bool.not_true, Bool.not_false, isEffC_pur, isEffC_alc, isEffC_red, isEffC_eff, retK_ret, retK_normal, resVs_tmp, resVs_nil, retV_one, retV_two, t1, t2, cellsOf_some g1', f3, f4])
    refine Ev.cond true (by simp) (fun _ => ?_) (by simp)
    refine Ev.seq (Ev.regO ?_)
    simp only [Ov_pur, Ov_red, Ov_alc, Ov_st, Ov_g, Ov_nil, Dv_pur, Dv_red, Dv_alc, Dv_st, Dv_g, Dv_nil, c_mv, c_bin, c_un, c_conv, c_pick, cPick_bool, c_fld, cFld_agg, c_fldA, c_nilc, nilChk_ptr, c_ext, oExtract_tuple, c_ixA, natR_nat, natR_ofNat, natR_lit, natR_zero, natR_one, oIx_slice, oIx_array, c_ld, c_lens, lenS_slice, cev_t, cev_v, cevs_nil, cevs_cons, putT_some, putT_none, addrR_ptr, moveA_eq, tgs, RK_ok, of_some, bind_ok, ofGet_some, loadC_one, bin_add, bin_sub, bin_lss, bin_leq, bin_gtr, bin_geq, bin_eql, bin_neq, un_not, conv_int, nextK_normal, nextK_exit, nextK_ret, blkK_normal, blkK_ret, blkK_exit, boolIs_t, boolIs_f, boolIs_u, ↓reduceIte, Nat.reduceEqDiff, cpur_build, alc_new, alc_bsl, sliceNB_eq, cfill_nil, cfill_cons, vc_int, vc_slice, vc_agg, vc_bool, vc_ptr, cellV_int, cellV_bool, cellV_slice, cellV_ptr, cellL_nil, cellL_cons, nbV_ptr, nbO_ptr, nbV_slice, nbO_slice, List.getElem?_cons_zero, List.getElem?_cons_succ, List.length_cons, List.length_nil, List.take_zero, List.take_succ_cons, List.drop_zero, List.drop_succ_cons, List.drop_nil, List.nil_append, List.cons_append, List.append_nil, Nat.zero_add, Nat.add_zero, Nat.mul_one, Nat.reduceAdd, Nat.reduceLeDiff, Bool.and_self, Bool.and_true, Bool.true_and, true_and, and_true, cagree_0, cagree_1, cagree_2, sameR_ok, sameV_int, sameV_bool, sameV_slice, Bool.false_eq_true, setArgs_nil, setArgs_cons, Bool.not_true, Bool.not_false, isEffC_pur, isEffC_alc, isEffC_red, isEffC_eff, retK_ret, retK_normal, resVs_tmp, resVs_nil, retV_one, retV_two]
    refine Ev.ret ?_
    simp only [Ov_pur, Ov_red, Ov_alc, Ov_st, Ov_g, Ov_nil, Dv_pur, Dv_red, Dv_alc, Dv_st, Dv_g, Dv_nil, c_mv, c_bin, c_un, c_conv, c_pick, cPick_bool, c_fld, cFld_agg, c_fldA, c_nilc, nilChk_ptr, c_ext, oExtract_tuple, c_ixA, natR_nat, natR_ofNat, natR_lit, natR_zero, natR_one, oIx_slice, oIx_array, c_ld, c_lens, lenS_slice, cev_t, cev_v, cevs_nil, cevs_cons, putT_some, putT_none, addrR_ptr, moveA_eq, tgs, RK_ok, of_some, bind_ok, ofGet_some, loadC_one, bin_add, bin_sub, bin_lss, bin_leq, bin_gtr, bin_geq, bin_eql, bin_neq, un_not, conv_int, nextK_normal, nextK_exit, nextK_ret, blkK_normal, blkK_ret, blkK_exit, boolIs_t, boolIs_f, boolIs_u, ↓reduceIte, Nat.reduceEqDiff, cpur_build, alc_new, alc_bsl, sliceNB_eq, cfill_nil, cfill_cons, vc_int, vc_slice, vc_agg, vc_bool, vc_ptr, cellV_int, cellV_bool, cellV_slice, cellV_ptr, cellL_nil, cellL_cons, nbV_ptr, nbO_ptr, nbV_slice, nbO_slice, List.getElem?_cons_zero, List.getElem?_cons_succ, List.length_cons, List.length_nil, List.take_zero, List.take_succ_cons, List.drop_zero, List.drop_succ_cons, List.drop_nil, List.nil_append, List.cons_append, List.append_nil, Nat.zero_add, Nat.add_zero, Nat.mul_one, Nat.reduceAdd, Nat.reduceLeDiff, Bool.and_self, Bool.and_true, Bool.true_and, true_and, and_true, cagree_0, cagree_1, cagree_2, sameR_ok, sameV_int, sameV_bool, sameV_slice, Bool.false_eq_true, setArgs_nil, setArgs_cons, Bool.not_true, Bool.not_false, isEffC_pur, isEffC_alc, isEffC_red, isEffC_eff, retK_ret, retK_normal, resVs_tmp, resVs_nil, retV_one, retV_two]
    refine ⟨?_, hk.trans (hk3.mono (by omega)) (Nat.le_refl _), by omega⟩
    rw [decide_eq_false]
    intro e
    rw [e, nats_len, hL.len] at hlen
    exact hlen rfl
  · have hlen : l.length = N := by omega
    have f4 : ((N : Int) == (N : Int)) = true := by simp
    rw [hlen] at t1
    repeat (first | simp only [Dv_g, Ov_g, putT_some, putT_none, tgs, ↓reduceIte, Nat.reduceEqDiff, boolIs_t, boolIs_f, boolIs_u, Bool.not_true, Bool.not_false, Bool.false_eq_true, isEffC_pur, isEffC_alc, isEffC_red, isEffC_eff] | simp only [Ov_pur, Ov_red, Ov_alc, Ov_st, Ov_nil, Dv_pur, Dv_red, Dv_alc, Dv_st, Dv_nil, c_mv, c_bin, c_un, c_conv, c_pick, cPick_bool, c_fld, cFld_agg, c_fldA, c_nilc, nilChk_ptr, c_ext, oExtract_tuple, c_ixA, natR_nat, natR_ofNat, natR_lit, natR_zero, natR_one, oIx_slice, oIx_array, c_ld, c_lens, lenS_slice, cev_t, cev_v, cevs_nil, cevs_cons, putT_some, putT_none, addrR_ptr, moveA_eq, tgs, RK_ok, of_some, bind_ok, ofGet_some, loadC_one, bin_add, bin_sub, bin_lss, bin_leq, bin_gtr, bin_geq, bin_eql, bin_neq, un_not, conv_int, nextK_normal, nextK_exit, nextK_ret, blkK_normal, blkK_ret, blkK_exit, boolIs_t, boolIs_f, boolIs_u, ↓reduceIte, Nat.reduceEqDiff, cpur_build, alc_new, alc_bsl, sliceNB_eq, cfill_nil, cfill_cons, vc_int, vc_slice, vc_agg, vc_bool, vc_ptr, cellV_int, cellV_bool, cellV_slice, cellV_ptr, cellL_nil, cellL_cons, nbV_ptr, nbO_ptr, nbV_slice, nbO_slice, List.getElem?_cons_zero, List.getElem?_cons_succ, List.length_cons, List.length_nil, List.take_zero, List.take_succ_cons, List.drop_zero, List.drop_succ_cons, List.drop_nil, List.nil_append, List.cons_append, List.append_nil, Nat.zero_add, Nat.add_zero, Nat.mul_one, Nat.reduceAdd, Nat.reduceLeDiff, Bool.and_self, Bool.and_true, Bool.true_and, true_and, and_true, cagree_0, cagree_1, cagree_2, sameR_ok, sameV_int, sameV_bool, sameV_slice, Bool.false_eq_true, setArgs_nil, setArgs_cons, Bool.not_true, Bool.not_false, isEffC_pur, isEffC_alc, isEffC_red, isEffC_eff, retK_ret, retK_normal, resVs_tmp, resVs_nil, retV_one, retV_two, t1, t2, cellsOf_some g1', f3, f4])
    refine Ev.cond false (by simp) (by simp) (fun _ => Ev.skip ?_)
    (try simp only [Ov_pur, Ov_red, Ov_alc, Ov_st, Ov_g, Ov_nil, Dv_pur, Dv_red, Dv_alc, Dv_st, Dv_g, Dv_nil, c_mv, c_bin, c_un, c_conv, c_pick, cPick_bool, c_fld, cFld_agg, c_fldA, c_nilc, nilChk_ptr, c_ext, oExtract_tuple, c_ixA, natR_nat, natR_ofNat, natR_lit, natR_zero, natR_one, oIx_slice, oIx_array, c_ld, c_lens, lenS_slice, cev_t, cev_v, cevs_nil, cevs_cons, putT_some, putT_none, addrR_ptr, moveA_eq, tgs, RK_ok, of_some, bind_ok, ofGet_some, loadC_one, bin_add, bin_sub, bin_lss, bin_leq, bin_gtr, bin_geq, bin_eql, bin_neq, un_not, conv_int, nextK_normal, nextK_exit, nextK_ret, blkK_normal, blkK_ret, blkK_exit, boolIs_t, boolIs_f, boolIs_u, ↓reduceIte, Nat.reduceEqDiff, cpur_build, alc_new, alc_bsl, sliceNB_eq, cfill_nil, cfill_cons, vc_int, vc_slice, vc_agg, vc_bool, vc_ptr, cellV_int, cellV_bool, cellV_slice, cellV_ptr, cellL_nil, cellL_cons, nbV_ptr, nbO_ptr, nbV_slice, nbO_slice, List.getElem?_cons_zero, List.getElem?_cons_succ, List.length_cons, List.length_nil, List.take_zero, List.take_succ_cons, List.drop_zero, List.drop_succ_cons, List.drop_nil, List.nil_append, List.cons_append, List.append_nil, Nat.zero_add, Nat.add_zero, Nat.mul_one, Nat.reduceAdd, Nat.reduceLeDiff, Bool.and_self, Bool.and_true, Bool.true_and, true_and, and_true, cagree_0, cagree_1, cagree_2, sameR_ok, sameV_int, sameV_bool, sameV_slice, Bool.false_eq_true, setArgs_nil, setArgs_cons, Bool.not_true, Bool.not_false, isEffC_pur, isEffC_alc, isEffC_red, isEffC_eff, retK_ret, retK_normal, resVs_tmp, resVs_nil, retV_one, retV_two])
    refine Ev.seq (Ev.regO ?_)
    simp only [Ov_pur, Ov_red, Ov_alc, Ov_st, Ov_g, Ov_nil, Dv_pur, Dv_red, Dv_alc, Dv_st, Dv_g, Dv_nil, c_mv, c_bin, c_un, c_conv, c_pick, cPick_bool, c_fld, cFld_agg, c_fldA, c_nilc, nilChk_ptr, c_ext, oExtract_tuple, c_ixA, natR_nat, natR_ofNat, natR_lit, natR_zero, natR_one, oIx_slice, oIx_array, c_ld, c_lens, lenS_slice, cev_t, cev_v, cevs_nil, cevs_cons, putT_some, putT_none, addrR_ptr, moveA_eq, tgs, RK_ok, of_some, bind_ok, ofGet_some, loadC_one, bin_add, bin_sub, bin_lss, bin_leq, bin_gtr, bin_geq, bin_eql, bin_neq, un_not, conv_int, nextK_normal, nextK_exit, nextK_ret, blkK_normal, blkK_ret, blkK_exit, boolIs_t, boolIs_f, boolIs_u, ↓reduceIte, Nat.reduceEqDiff, cpur_build, alc_new, alc_bsl, sliceNB_eq, cfill_nil, cfill_cons, vc_int, vc_slice, vc_agg, vc_bool, vc_ptr, cellV_int, cellV_bool, cellV_slice, cellV_ptr, cellL_nil, cellL_cons, nbV_ptr, nbO_ptr, nbV_slice, nbO_slice, List.getElem?_cons_zero, List.getElem?_cons_succ, List.length_cons, List.length_nil, List.take_zero, List.take_succ_cons, List.drop_zero, List.drop_succ_cons, List.drop_nil, List.nil_append, List.cons_append, List.append_nil, Nat.zero_add, Nat.add_zero, Nat.mul_one, Nat.reduceAdd, Nat.reduceLeDiff, Bool.and_self, Bool.and_true, Bool.true_and, true_and, and_true, cagree_0, cagree_1, cagree_2, sameR_ok, sameV_int, sameV_bool, sameV_slice, Bool.false_eq_true, setArgs_nil, setArgs_cons, Bool.not_true, Bool.not_false, isEffC_pur, isEffC_alc, isEffC_red, isEffC_eff, retK_ret, retK_normal, resVs_tmp, resVs_nil, retV_one, retV_two, t2, cellsOf_some g1', loadC_many, Nat.sub_zero, Nat.le_refl]
    refine Ov_call ?_
    simp only [Ov_pur, Ov_red, Ov_alc, Ov_st, Ov_g, Ov_nil, Dv_pur, Dv_red, Dv_alc, Dv_st, Dv_g, Dv_nil, c_mv, c_bin, c_un, c_conv, c_pick, cPick_bool, c_fld, cFld_agg, c_fldA, c_nilc, nilChk_ptr, c_ext, oExtract_tuple, c_ixA, natR_nat, natR_ofNat, natR_lit, natR_zero, natR_one, oIx_slice, oIx_array, c_ld, c_lens, lenS_slice, cev_t, cev_v, cevs_nil, cevs_cons, putT_some, putT_none, addrR_ptr, moveA_eq, tgs, RK_ok, of_some, bind_ok, ofGet_some, loadC_one, bin_add, bin_sub, bin_lss, bin_leq, bin_gtr, bin_geq, bin_eql, bin_neq, un_not, conv_int, nextK_normal, nextK_exit, nextK_ret, blkK_normal, blkK_ret, blkK_exit, boolIs_t, boolIs_f, boolIs_u, ↓reduceIte, Nat.reduceEqDiff, cpur_build, alc_new, alc_bsl, sliceNB_eq, cfill_nil, cfill_cons, vc_int, vc_slice, vc_agg, vc_bool, vc_ptr, cellV_int, cellV_bool, cellV_slice, cellV_ptr, cellL_nil, cellL_cons, nbV_ptr, nbO_ptr, nbV_slice, nbO_slice, List.getElem?_cons_zero, List.getElem?_cons_succ, List.length_cons, List.length_nil, List.take_zero, List.take_succ_cons, List.drop_zero, List.drop_succ_cons, List.drop_nil, List.nil_append, List.cons_append, List.append_nil, Nat.zero_add, Nat.add_zero, Nat.mul_one, Nat.reduceAdd, Nat.reduceLeDiff, Bool.and_self, Bool.and_true, Bool.true_and, true_and, and_true, cagree_0, cagree_1, cagree_2, sameR_ok, sameV_int, sameV_bool, sameV_slice, Bool.false_eq_true, setArgs_nil, setArgs_cons, Bool.not_true, Bool.not_false, isEffC_pur, isEffC_alc, isEffC_red, isEffC_eff, retK_ret, retK_normal, resVs_tmp, resVs_nil, retV_one, retV_two]
    refine (grown_cv A.cg A.ng A.cr A.nr ((hv.keep hk (show nx ≤ nx + 1 by omega)).keep hk3 hnx3) hN hl hok).mono ?_
    rintro r h4 nx4 ⟨b, F, rfl, gF, hF, hb1, hb2, hk4⟩
    obtain ⟨L', hL', hrt⟩ := hF.lab (fun e he => ⟨(hok e he).1, (hok e he).2.1⟩)
    have := hL.unique hL'
    subst this
    obtain ⟨_, bl, spl, rol, capl', hbln, hveq, hbl⟩ := hvl.at (i := 0) (List.getElem?_eq_getElem (by omega))
    injection hveq with e1 e2 e3
    subst e1
    rw [flat_ints] at hbl
    (try simp only [Ov_pur, Ov_red, Ov_alc, Ov_st, Ov_g, Ov_nil, Dv_pur, Dv_red, Dv_alc, Dv_st, Dv_g, Dv_nil, c_mv, c_bin, c_un, c_conv, c_pick, cPick_bool, c_fld, cFld_agg, c_fldA, c_nilc, nilChk_ptr, c_ext, oExtract_tuple, c_ixA, natR_nat, natR_ofNat, natR_lit, natR_zero, natR_one, oIx_slice, oIx_array, c_ld, c_lens, lenS_slice, cev_t, cev_v, cevs_nil, cevs_cons, putT_some, putT_none, addrR_ptr, moveA_eq, tgs, RK_ok, of_some, bind_ok, ofGet_some, loadC_one, bin_add, bin_sub, bin_lss, bin_leq, bin_gtr, bin_geq, bin_eql, bin_neq, un_not, conv_int, nextK_normal, nextK_exit, nextK_ret, blkK_normal, blkK_ret, blkK_exit, boolIs_t, boolIs_f, boolIs_u, ↓reduceIte, Nat.reduceEqDiff, cpur_build, alc_new, alc_bsl, sliceNB_eq, cfill_nil, cfill_cons, vc_int, vc_slice, vc_agg, vc_bool, vc_ptr, cellV_int, cellV_bool, cellV_slice, cellV_ptr, cellL_nil, cellL_cons, nbV_ptr, nbO_ptr, nbV_slice, nbO_slice, List.getElem?_cons_zero, List.getElem?_cons_succ, List.length_cons, List.length_nil, List.take_zero, List.take_succ_cons, List.drop_zero, List.drop_succ_cons, List.drop_nil, List.nil_append, List.cons_append, List.append_nil, Nat.zero_add, Nat.add_zero, Nat.mul_one, Nat.reduceAdd, Nat.reduceLeDiff, Bool.and_self, Bool.and_true, Bool.true_and, true_and, and_true, cagree_0, cagree_1, cagree_2, sameR_ok, sameV_int, sameV_bool, sameV_slice, Bool.false_eq_true, setArgs_nil, setArgs_cons, Bool.not_true, Bool.not_false, isEffC_pur, isEffC_alc, isEffC_red, isEffC_eff, retK_ret, retK_normal, resVs_tmp, resVs_nil, retV_one, retV_two])
    refine Ev.cut (ChkJ N b bl capl spl l L (nx + 1) h2 0) ?_ ?_
    · refine Ev.seq (Ev.regO ?_)
      simp only [Ov_pur, Ov_red, Ov_alc, Ov_st, Ov_g, Ov_nil, Dv_pur, Dv_red, Dv_alc, Dv_st, Dv_g, Dv_nil, c_mv, c_bin, c_un, c_conv, c_pick, cPick_bool, c_fld, cFld_agg, c_fldA, c_nilc, nilChk_ptr, c_ext, oExtract_tuple, c_ixA, natR_nat, natR_ofNat, natR_lit, natR_zero, natR_one, oIx_slice, oIx_array, c_ld, c_lens, lenS_slice, cev_t, cev_v, cevs_nil, cevs_cons, putT_some, putT_none, addrR_ptr, moveA_eq, tgs, RK_ok, of_some, bind_ok, ofGet_some, loadC_one, bin_add, bin_sub, bin_lss, bin_leq, bin_gtr, bin_geq, bin_eql, bin_neq, un_not, conv_int, nextK_normal, nextK_exit, nextK_ret, blkK_normal, blkK_ret, blkK_exit, boolIs_t, boolIs_f, boolIs_u, ↓reduceIte, Nat.reduceEqDiff, cpur_build, alc_new, alc_bsl, sliceNB_eq, cfill_nil, cfill_cons, vc_int, vc_slice, vc_agg, vc_bool, vc_ptr, cellV_int, cellV_bool, cellV_slice, cellV_ptr, cellL_nil, cellL_cons, nbV_ptr, nbO_ptr, nbV_slice, nbO_slice, List.getElem?_cons_zero, List.getElem?_cons_succ, List.length_cons, List.length_nil, List.take_zero, List.take_succ_cons, List.drop_zero, List.drop_succ_cons, List.drop_nil, List.nil_append, List.cons_append, List.append_nil, Nat.zero_add, Nat.add_zero, Nat.mul_one, Nat.reduceAdd, Nat.reduceLeDiff, Bool.and_self, Bool.and_true, Bool.true_and, true_and, and_true, cagree_0, cagree_1, cagree_2, sameR_ok, sameV_int, sameV_bool, sameV_slice, Bool.false_eq_true, setArgs_nil, setArgs_cons, Bool.not_true, Bool.not_false, isEffC_pur, isEffC_alc, isEffC_red, isEffC_eff, retK_ret, retK_normal, resVs_tmp, resVs_nil, retV_one, retV_two, t1]
      refine Ev.forR (ChkJ N b bl capl spl l L (nx + 1) h2) ?_ N _ _ _ ⟨0, F, rfl, by omega, by simp, by simp, by simp, by simp, hF.forest, hrt, gF, fun k hk => by omega, by omega, hb2, hk3.trans (hk4.mono hnx3) (Nat.le_refl _)⟩
      rintro m tm h' nx' ⟨i, F, rfl, hi, t5, t20, t21, t22, hF, hrt, gF, hal, hb1, hb2, hk'⟩
      simp only [Ov_pur, Ov_red, Ov_alc, Ov_st, Ov_g, Ov_nil, Dv_pur, Dv_red, Dv_alc, Dv_st, Dv_g, Dv_nil, c_mv, c_bin, c_un, c_conv, c_pick, cPick_bool, c_fld, cFld_agg, c_fldA, c_nilc, nilChk_ptr, c_ext, oExtract_tuple, c_ixA, natR_nat, natR_ofNat, natR_lit, natR_zero, natR_one, oIx_slice, oIx_array, c_ld, c_lens, lenS_slice, cev_t, cev_v, cevs_nil, cevs_cons, putT_some, putT_none, addrR_ptr, moveA_eq, tgs, RK_ok, of_some, bind_ok, ofGet_some, loadC_one, bin_add, bin_sub, bin_lss, bin_leq, bin_gtr, bin_geq, bin_eql, bin_neq, un_not, conv_int, nextK_normal, nextK_exit, nextK_ret, blkK_normal, blkK_ret, blkK_exit, boolIs_t, boolIs_f, boolIs_u, ↓reduceIte, Nat.reduceEqDiff, cpur_build, alc_new, alc_bsl, sliceNB_eq, cfill_nil, cfill_cons, vc_int, vc_slice, vc_agg, vc_bool, vc_ptr, cellV_int, cellV_bool, cellV_slice, cellV_ptr, cellL_nil, cellL_cons, nbV_ptr, nbO_ptr, nbV_slice, nbO_slice, List.getElem?_cons_zero, List.getElem?_cons_succ, List.length_cons, List.length_nil, List.take_zero, List.take_succ_cons, List.drop_zero, List.drop_succ_cons, List.drop_nil, List.nil_append, List.cons_append, List.append_nil, Nat.zero_add, Nat.add_zero, Nat.mul_one, Nat.reduceAdd, Nat.reduceLeDiff, Bool.and_self, Bool.and_true, Bool.true_and, true_and, and_true, cagree_0, cagree_1, cagree_2, sameR_ok, sameV_int, sameV_bool, sameV_slice, Bool.false_eq_true, setArgs_nil, setArgs_cons, Bool.not_true, Bool.not_false, isEffC_pur, isEffC_alc, isEffC_red, isEffC_eff, retK_ret, retK_normal, resVs_tmp, resVs_nil, retV_one, retV_two, t21, t22]
      refine ⟨decide ((i : Int) < N), rfl, fun e => ?_, fun e => ?_⟩
      · have : ¬ ((i : Int) < N) := of_decide_eq_false e
        exact ⟨i, F, by omega, hi, by simpa using t5, by simpa using t20, by simpa using t21, by simpa using t22, hF, hrt, gF, hal, hb1, hb2, hk'⟩
      · have hiN : i < N := by
          have : (i : Int) < N := of_decide_eq_true e
          omega
        have hx : l[i]? = some (l[i]'(by omega)) := List.getElem?_eq_getElem _
        generalize l[i]'(by omega) = x at hx
        have gl := ((hk' bl (by omega)).trans (hk bl hbln)).trans hbl
        obtain ⟨q, hq⟩ := hF.root i hiN
        have hqL := (hrt _ _).1 hq
        refine Ev.seq (Ev.regO ?_)
        simp only [Ov_pur, Ov_red, Ov_alc, Ov_st, Ov_g, Ov_nil, Dv_pur, Dv_red, Dv_alc, Dv_st, Dv_g, Dv_nil, c_mv, c_bin, c_un, c_conv, c_pick, cPick_bool, c_fld, cFld_agg, c_fldA, c_nilc, nilChk_ptr, c_ext, oExtract_tuple, c_ixA, natR_nat, natR_ofNat, natR_lit, natR_zero, natR_one, oIx_slice, oIx_array, c_ld, c_lens, lenS_slice, cev_t, cev_v, cevs_nil, cevs_cons, putT_some, putT_none, addrR_ptr, moveA_eq, tgs, RK_ok, of_some, bind_ok, ofGet_some, loadC_one, bin_add, bin_sub, bin_lss, bin_leq, bin_gtr, bin_geq, bin_eql, bin_neq, un_not, conv_int, nextK_normal, nextK_exit, nextK_ret, blkK_normal, blkK_ret, blkK_exit, boolIs_t, boolIs_f, boolIs_u, ↓reduceIte, Nat.reduceEqDiff, cpur_build, alc_new, alc_bsl, sliceNB_eq, cfill_nil, cfill_cons, vc_int, vc_slice, vc_agg, vc_bool, vc_ptr, cellV_int, cellV_bool, cellV_slice, cellV_ptr, cellL_nil, cellL_cons, nbV_ptr, nbO_ptr, nbV_slice, nbO_slice, List.getElem?_cons_zero, List.getElem?_cons_succ, List.length_cons, List.length_nil, List.take_zero, List.take_succ_cons, List.drop_zero, List.drop_succ_cons, List.drop_nil, List.nil_append, List.cons_append, List.append_nil, Nat.zero_add, Nat.add_zero, Nat.mul_one, Nat.reduceAdd, Nat.reduceLeDiff, Bool.and_self, Bool.and_true, Bool.true_and, true_and, and_true, cagree_0, cagree_1, cagree_2, sameR_ok, sameV_int, sameV_bool, sameV_slice, Bool.false_eq_true, setArgs_nil, setArgs_cons, Bool.not_true, Bool.not_false, isEffC_pur, isEffC_alc, isEffC_red, isEffC_eff, retK_ret, retK_normal, resVs_tmp, resVs_nil, retV_one, retV_two, t20, t22, hiN, cellsOf_some gl, ints_get hx]
        refine Ev.seq (Ev.regO ?_)
        simp only [Ov_pur, Ov_red, Ov_alc, Ov_st, Ov_g, Ov_nil, Dv_pur, Dv_red, Dv_alc, Dv_st, Dv_g, Dv_nil, c_mv, c_bin, c_un, c_conv, c_pick, cPick_bool, c_fld, cFld_agg, c_fldA, c_nilc, nilChk_ptr, c_ext, oExtract_tuple, c_ixA, natR_nat, natR_ofNat, natR_lit, natR_zero, natR_one, oIx_slice, oIx_array, c_ld, c_lens, lenS_slice, cev_t, cev_v, cevs_nil, cevs_cons, putT_some, putT_none, addrR_ptr, moveA_eq, tgs, RK_ok, of_some, bind_ok, ofGet_some, loadC_one, bin_add, bin_sub, bin_lss, bin_leq, bin_gtr, bin_geq, bin_eql, bin_neq, un_not, conv_int, nextK_normal, nextK_exit, nextK_ret, blkK_normal, blkK_ret, blkK_exit, boolIs_t, boolIs_f, boolIs_u, ↓reduceIte, Nat.reduceEqDiff, cpur_build, alc_new, alc_bsl, sliceNB_eq, cfill_nil, cfill_cons, vc_int, vc_slice, vc_agg, vc_bool, vc_ptr, cellV_int, cellV_bool, cellV_slice, cellV_ptr, cellL_nil, cellL_cons, nbV_ptr, nbO_ptr, nbV_slice, nbO_slice, List.getElem?_cons_zero, List.getElem?_cons_succ, List.length_cons, List.length_nil, List.take_zero, List.take_succ_cons, List.drop_zero, List.drop_succ_cons, List.drop_nil, List.nil_append, List.cons_append, List.append_nil, Nat.zero_add, Nat.add_zero, Nat.mul_one, Nat.reduceAdd, Nat.reduceLeDiff, Bool.and_self, Bool.and_true, Bool.true_and, true_and, and_true, cagree_0, cagree_1, cagree_2, sameR_ok, sameV_int, sameV_bool, sameV_slice, Bool.false_eq_true, setArgs_nil, setArgs_cons, Bool.not_true, Bool.not_false, isEffC_pur, isEffC_alc, isEffC_red, isEffC_eff, retK_ret, retK_normal, resVs_tmp, resVs_nil, retV_one, retV_two, t5]
        refine Ov_call ?_
        simp only [cevs_nil, cevs_cons, cev_t, cev_v, tgs, ↓reduceIte, Nat.reduceEqDiff]
        refine (root_cv A.cr A.nr (by omega) i hiN F h' nx' hF gF).mono ?_
        rintro r h5 nx5 ⟨qa, F1, rfl, ra, hF1, hs1, gF1, hfr1, rfl⟩
        have := ra.det hq
        subst this
        have hrt1 : ∀ v r, Root F1 v r ↔ L[v]? = some r := fun v r => ⟨fun h => (hrt _ _).1 (h.back hF hF1 hs1), fun h => hs1 _ _ ((hrt _ _).2 h)⟩
        simp only [Ov_pur, Ov_red, Ov_alc, Ov_st, Ov_g, Ov_nil, Dv_pur, Dv_red, Dv_alc, Dv_st, Dv_g, Dv_nil, c_mv, c_bin, c_un, c_conv, c_pick, cPick_bool, c_fld, cFld_agg, c_fldA, c_nilc, nilChk_ptr, c_ext, oExtract_tuple, c_ixA, natR_nat, natR_ofNat, natR_lit, natR_zero, natR_one, oIx_slice, oIx_array, c_ld, c_lens, lenS_slice, cev_t, cev_v, cevs_nil, cevs_cons, putT_some, putT_none, addrR_ptr, moveA_eq, tgs, RK_ok, of_some, bind_ok, ofGet_some, loadC_one, bin_add, bin_sub, bin_lss, bin_leq, bin_gtr, bin_geq, bin_eql, bin_neq, un_not, conv_int, nextK_normal, nextK_exit, nextK_ret, blkK_normal, blkK_ret, blkK_exit, boolIs_t, boolIs_f, boolIs_u, ↓reduceIte, Nat.reduceEqDiff, cpur_build, alc_new, alc_bsl, sliceNB_eq, cfill_nil, cfill_cons, vc_int, vc_slice, vc_agg, vc_bool, vc_ptr, cellV_int, cellV_bool, cellV_slice, cellV_ptr, cellL_nil, cellL_cons, nbV_ptr, nbO_ptr, nbV_slice, nbO_slice, List.getElem?_cons_zero, List.getElem?_cons_succ, List.length_cons, List.length_nil, List.take_zero, List.take_succ_cons, List.drop_zero, List.drop_succ_cons, List.drop_nil, List.nil_append, List.cons_append, List.append_nil, Nat.zero_add, Nat.add_zero, Nat.mul_one, Nat.reduceAdd, Nat.reduceLeDiff, Bool.and_self, Bool.and_true, Bool.true_and, true_and, and_true, cagree_0, cagree_1, cagree_2, sameR_ok, sameV_int, sameV_bool, sameV_slice, Bool.false_eq_true, setArgs_nil, setArgs_cons, Bool.not_true, Bool.not_false, isEffC_pur, isEffC_alc, isEffC_red, isEffC_eff, retK_ret, retK_normal, resVs_tmp, resVs_nil, retV_one, retV_two]
        by_cases hxq : (qa : Int) = x
        · refine Ev.cond false (by simp [hxq]) (by simp) (fun _ => Ev.skip ?_)
          (try simp only [Ov_pur, Ov_red, Ov_alc, Ov_st, Ov_g, Ov_nil, Dv_pur, Dv_red, Dv_alc, Dv_st, Dv_g, Dv_nil, c_mv, c_bin, c_un, c_conv, c_pick, cPick_bool, c_fld, cFld_agg, c_fldA, c_nilc, nilChk_ptr, c_ext, oExtract_tuple, c_ixA, natR_nat, natR_ofNat, natR_lit, natR_zero, natR_one, oIx_slice, oIx_array, c_ld, c_lens, lenS_slice, cev_t, cev_v, cevs_nil, cevs_cons, putT_some, putT_none, addrR_ptr, moveA_eq, tgs, RK_ok, of_some, bind_ok, ofGet_some, loadC_one, bin_add, bin_sub, bin_lss, bin_leq, bin_gtr, bin_geq, bin_eql, bin_neq, un_not, conv_int, nextK_normal, nextK_exit, nextK_ret, blkK_normal, blkK_ret, blkK_exit, boolIs_t, boolIs_f, boolIs_u, ↓reduceIte, Nat.reduceEqDiff, cpur_build, alc_new, alc_bsl, sliceNB_eq, cfill_nil, cfill_cons, vc_int, vc_slice, vc_agg, vc_bool, vc_ptr, cellV_int, cellV_bool, cellV_slice, cellV_ptr, cellL_nil, cellL_cons, nbV_ptr, nbO_ptr, nbV_slice, nbO_slice, List.getElem?_cons_zero, List.getElem?_cons_succ, List.length_cons, List.length_nil, List.take_zero, List.take_succ_cons, List.drop_zero, List.drop_succ_cons, List.drop_nil, List.nil_append, List.cons_append, List.append_nil, Nat.zero_add, Nat.add_zero, Nat.mul_one, Nat.reduceAdd, Nat.reduceLeDiff, Bool.and_self, Bool.and_true, Bool.true_and, true_and, and_true, cagree_0, cagree_1, cagree_2, sameR_ok, sameV_int, sameV_bool, sameV_slice, Bool.false_eq_true, setArgs_nil, setArgs_cons, Bool.not_true, Bool.not_false, isEffC_pur, isEffC_alc, isEffC_red, isEffC_eff, retK_ret, retK_normal, resVs_tmp, resVs_nil, retV_one, retV_two, t22])
          refine ⟨N - (i + 1), by omega, i + 1, F1, rfl, by omega, by simpa using t5, by simpa using t20, by simpa using t21, ?_, hF1, hrt1, gF1, fun k hk2 y z hy hz => ?_, hb1, hb2, fun c hc => by rw [hfr1 c (by omega)]; exact hk' c hc⟩
          · rw [wrapS (by omega) (by omega)]; simp
          · by_cases hki : k < i
            · exact hal k hki y z hy hz
            · have : k = i := by omega
              subst this
              rw [hx] at hy; rw [hqL] at hz
              cases hy; cases hz
              exact hxq.symm
        · refine Ev.cond true (by simp [hxq]) (fun _ => ?_) (by simp)
          refine Ev.seq (Ev.regO ?_)
          simp only [Ov_pur, Ov_red, Ov_alc, Ov_st, Ov_g, Ov_nil, Dv_pur, Dv_red, Dv_alc, Dv_st, Dv_g, Dv_nil, c_mv, c_bin, c_un, c_conv, c_pick, cPick_bool, c_fld, cFld_agg, c_fldA, c_nilc, nilChk_ptr, c_ext, oExtract_tuple, c_ixA, natR_nat, natR_ofNat, natR_lit, natR_zero, natR_one, oIx_slice, oIx_array, c_ld, c_lens, lenS_slice, cev_t, cev_v, cevs_nil, cevs_cons, putT_some, putT_none, addrR_ptr, moveA_eq, tgs, RK_ok, of_some, bind_ok, ofGet_some, loadC_one, bin_add, bin_sub, bin_lss, bin_leq, bin_gtr, bin_geq, bin_eql, bin_neq, un_not, conv_int, nextK_normal, nextK_exit, nextK_ret, blkK_normal, blkK_ret, blkK_exit, boolIs_t, boolIs_f, boolIs_u, ↓reduceIte, Nat.reduceEqDiff, cpur_build, alc_new, alc_bsl, sliceNB_eq, cfill_nil, cfill_cons, vc_int, vc_slice, vc_agg, vc_bool, vc_ptr, cellV_int, cellV_bool, cellV_slice, cellV_ptr, cellL_nil, cellL_cons, nbV_ptr, nbO_ptr, nbV_slice, nbO_slice, List.getElem?_cons_zero, List.getElem?_cons_succ, List.length_cons, List.length_nil, List.take_zero, List.take_succ_cons, List.drop_zero, List.drop_succ_cons, List.drop_nil, List.nil_append, List.cons_append, List.append_nil, Nat.zero_add, Nat.add_zero, Nat.mul_one, Nat.reduceAdd, Nat.reduceLeDiff, Bool.and_self, Bool.and_true, Bool.true_and, true_and, and_true, cagree_0, cagree_1, cagree_2, sameR_ok, sameV_int, sameV_bool, sameV_slice, Bool.false_eq_true, setArgs_nil, setArgs_cons, Bool.not_true, Bool.not_false, isEffC_pur, isEffC_alc, isEffC_red, isEffC_eff, retK_ret, retK_normal, resVs_tmp, resVs_nil, retV_one, retV_two]
          refine Ev.ret ?_
          simp only [Ov_pur, Ov_red, Ov_alc, Ov_st, Ov_g, Ov_nil, Dv_pur, Dv_red, Dv_alc, Dv_st, Dv_g, Dv_nil, c_mv, c_bin, c_un, c_conv, c_pick, cPick_bool, c_fld, cFld_agg, c_fldA, c_nilc, nilChk_ptr, c_ext, oExtract_tuple, c_ixA, natR_nat, natR_ofNat, natR_lit, natR_zero, natR_one, oIx_slice, oIx_array, c_ld, c_lens, lenS_slice, cev_t, cev_v, cevs_nil, cevs_cons, putT_some, putT_none, addrR_ptr, moveA_eq, tgs, RK_ok, of_some, bind_ok, ofGet_some, loadC_one, bin_add, bin_sub, bin_lss, bin_leq, bin_gtr, bin_geq, bin_eql, bin_neq, un_not, conv_int, nextK_normal, nextK_exit, nextK_ret, blkK_normal, blkK_ret, blkK_exit, boolIs_t, boolIs_f, boolIs_u, ↓reduceIte, Nat.reduceEqDiff, cpur_build, alc_new, alc_bsl, sliceNB_eq, cfill_nil, cfill_cons, vc_int, vc_slice, vc_agg, vc_bool, vc_ptr, cellV_int, cellV_bool, cellV_slice, cellV_ptr, cellL_nil, cellL_cons, nbV_ptr, nbO_ptr, nbV_slice, nbO_slice, List.getElem?_cons_zero, List.getElem?_cons_succ, List.length_cons, List.length_nil, List.take_zero, List.take_succ_cons, List.drop_zero, List.drop_succ_cons, List.drop_nil, List.nil_append, List.cons_append, List.append_nil, Nat.zero_add, Nat.add_zero, Nat.mul_one, Nat.reduceAdd, Nat.reduceLeDiff, Bool.and_self, Bool.and_true, Bool.true_and, true_and, and_true, cagree_0, cagree_1, cagree_2, sameR_ok, sameV_int, sameV_bool, sameV_slice, Bool.false_eq_true, setArgs_nil, setArgs_cons, Bool.not_true, Bool.not_false, isEffC_pur, isEffC_alc, isEffC_red, isEffC_eff, retK_ret, retK_normal, resVs_tmp, resVs_nil, retV_one, retV_two]
          refine ⟨?_, fun c hc => ?_, by omega⟩
          · rw [decide_eq_false]
            intro e
            rw [e, nats_get hqL] at hx
            cases hx
            exact hxq rfl
          · rw [hfr1 c (by omega), hk' c (by omega)]; exact hk c hc
    · rintro tm h' nx' ⟨i, F, hi0, hi, t5, t20, t21, t22, hF, hrt, gF, hal, hb1, hb2, hk'⟩
      have : i = N := by omega
      subst this
      refine Ev.seq (Ev.regO ?_)
      simp only [Ov_pur, Ov_red, Ov_alc, Ov_st, Ov_g, Ov_nil, Dv_pur, Dv_red, Dv_alc, Dv_st, Dv_g, Dv_nil, c_mv, c_bin, c_un, c_conv, c_pick, cPick_bool, c_fld, cFld_agg, c_fldA, c_nilc, nilChk_ptr, c_ext, oExtract_tuple, c_ixA, natR_nat, natR_ofNat, natR_lit, natR_zero, natR_one, oIx_slice, oIx_array, c_ld, c_lens, lenS_slice, cev_t, cev_v, cevs_nil, cevs_cons, putT_some, putT_none, addrR_ptr, moveA_eq, tgs, RK_ok, of_some, bind_ok, ofGet_some, loadC_one, bin_add, bin_sub, bin_lss, bin_leq, bin_gtr, bin_geq, bin_eql, bin_neq, un_not, conv_int, nextK_normal, nextK_exit, nextK_ret, blkK_normal, blkK_ret, blkK_exit, boolIs_t, boolIs_f, boolIs_u, ↓reduceIte, Nat.reduceEqDiff, cpur_build, alc_new, alc_bsl, sliceNB_eq, cfill_nil, cfill_cons, vc_int, vc_slice, vc_agg, vc_bool, vc_ptr, cellV_int, cellV_bool, cellV_slice, cellV_ptr, cellL_nil, cellL_cons, nbV_ptr, nbO_ptr, nbV_slice, nbO_slice, List.getElem?_cons_zero, List.getElem?_cons_succ, List.length_cons, List.length_nil, List.take_zero, List.take_succ_cons, List.drop_zero, List.drop_succ_cons, List.drop_nil, List.nil_append, List.cons_append, List.append_nil, Nat.zero_add, Nat.add_zero, Nat.mul_one, Nat.reduceAdd, Nat.reduceLeDiff, Bool.and_self, Bool.and_true, Bool.true_and, true_and, and_true, cagree_0, cagree_1, cagree_2, sameR_ok, sameV_int, sameV_bool, sameV_slice, Bool.false_eq_true, setArgs_nil, setArgs_cons, Bool.not_true, Bool.not_false, isEffC_pur, isEffC_alc, isEffC_red, isEffC_eff, retK_ret, retK_normal, resVs_tmp, resVs_nil, retV_one, retV_two]
      refine Ev.ret ?_
      simp only [Ov_pur, Ov_red, Ov_alc, Ov_st, Ov_g, Ov_nil, Dv_pur, Dv_red, Dv_alc, Dv_st, Dv_g, Dv_nil, c_mv, c_bin, c_un, c_conv, c_pick, cPick_bool, c_fld, cFld_agg, c_fldA, c_nilc, nilChk_ptr, c_ext, oExtract_tuple, c_ixA, natR_nat, natR_ofNat, natR_lit, natR_zero, natR_one, oIx_slice, oIx_array, c_ld, c_lens, lenS_slice, cev_t, cev_v, cevs_nil, cevs_cons, putT_some, putT_none, addrR_ptr, moveA_eq, tgs, RK_ok, of_some, bind_ok, ofGet_some, loadC_one, bin_add, bin_sub, bin_lss, bin_leq, bin_gtr, bin_geq, bin_eql, bin_neq, un_not, conv_int, nextK_normal, nextK_exit, nextK_ret, blkK_normal, blkK_ret, blkK_exit, boolIs_t, boolIs_f, boolIs_u, ↓reduceIte, Nat.reduceEqDiff, cpur_build, alc_new, alc_bsl, sliceNB_eq, cfill_nil, cfill_cons, vc_int, vc_slice, vc_agg, vc_bool, vc_ptr, cellV_int, cellV_bool, cellV_slice, cellV_ptr, cellL_nil, cellL_cons, nbV_ptr, nbO_ptr, nbV_slice, nbO_slice, List.getElem?_cons_zero, List.getElem?_cons_succ, List.length_cons, List.length_nil, List.take_zero, List.take_succ_cons, List.drop_zero, List.drop_succ_cons, List.drop_nil, List.nil_append, List.cons_append, List.append_nil, Nat.zero_add, Nat.add_zero, Nat.mul_one, Nat.reduceAdd, Nat.reduceLeDiff, Bool.and_self, Bool.and_true, Bool.true_and, true_and, and_true, cagree_0, cagree_1, cagree_2, sameR_ok, sameV_int, sameV_bool, sameV_slice, Bool.false_eq_true, setArgs_nil, setArgs_cons, Bool.not_true, Bool.not_false, isEffC_pur, isEffC_alc, isEffC_red, isEffC_eff, retK_ret, retK_normal, resVs_tmp, resVs_nil, retV_one, retV_two]
      refine ⟨?_, fun c hc => (hk' c (by omega)).trans (hk c hc), by omega⟩
      rw [decide_eq_true (nats_eq (by rw [hlen, hL.len]) fun k x y hx hy => hal k (by have := lt_of_get hx; omega) x y hx hy)]
/-! ## Count -/
def selfs (L : List Nat) (i : Nat) : Nat := ((List.range i).filter (fun k => decide (L[k]? = some k))).length
theorem selfs_succ (L : List Nat) (i : Nat) : selfs L (i + 1) = selfs L i + if L[i]? = some i then 1 else 0 := by
  unfold selfs
  rw [List.range_succ, List.filter_append, List.length_append]
  by_cases h : L[i]? = some i <;> simp [h]
theorem selfs_le (L : List Nat) (i : Nat) : selfs L i ≤ i := by
  have := List.length_filter_le (fun k => decide (L[k]? = some k)) (List.range i)
  rw [List.length_range] at this
  exact this
def CntJ (N b : Nat) (F L : List Nat) (nx : Nat) (h : Hp) (m : Nat) (tm : Tm) (h' : Hp) (nx' : Nat) : Prop :=
  ∃ i : Nat, m = N - i ∧ i ≤ N ∧ tget tm 3 = .int .i64 (selfs L i : Int) ∧ tget tm 10 = .slice (some ⟨b, 0, none⟩) N N ∧ tget tm 11 = .int .i64 (N : Int) ∧ tget tm 12 = .int .i64 (i : Int) ∧ hget h' b = some (.cells (ints (nats F)) false) ∧ Keep nx h h' ∧ nx ≤ nx'
theorem count_cv {f fri f1 f2 f3 fc fi te fg fr : Nat} (A : CompsAt P orc fri f1 f2 f3 fc fi te fg fr) (hcf : compAt P f = some (cfCount fri fg te)) (ho : orc f = none) {N : Nat} {v : Value} {gs : List GE} {h : Hp} {nx : Nat} (hv : SlRd h nx v encG gs) (hN : N < 24) (hl : gs.length ≤ 60) (hok : ∀ g ∈ gs, GOk N g)
    {L : List Nat} (hL : IsLab N gs L) :
    Cv P orc s f [.agg ⟨[.int .i64 (N : Int), v]⟩] h nx (StillK (.int .i64 (selfs L N : Int)) nx h) := by
  refine Cv.enter ho hcf ?_
  unfold cfCount
  obtain ⟨a, cap, rfl, _⟩ := id hv
  refine Ev.seq (Ev.regO ?_)
  rw [Ov_alc, alc_box (l := [.int .i64 (N : Int), .slice a gs.length cap]) (by simp) (by simp)]
  simp only [Ov_pur, Ov_red, Ov_alc, Ov_st, Ov_g, Ov_nil, Dv_pur, Dv_red, Dv_alc, Dv_st, Dv_g, Dv_nil, c_mv, c_bin, c_un, c_conv, c_pick, cPick_bool, c_fld, cFld_agg, c_fldA, c_nilc, nilChk_ptr, c_ext, oExtract_tuple, c_ixA, natR_nat, natR_ofNat, natR_lit, natR_zero, natR_one, oIx_slice, oIx_array, c_ld, c_lens, lenS_slice, cev_t, cev_v, cevs_nil, cevs_cons, putT_some, putT_none, addrR_ptr, moveA_eq, tgs, RK_ok, of_some, bind_ok, ofGet_some, loadC_one, bin_add, bin_sub, bin_lss, bin_leq, bin_gtr, bin_geq, bin_eql, bin_neq, un_not, conv_int, nextK_normal, nextK_exit, nextK_ret, blkK_normal, blkK_ret, blkK_exit, boolIs_t, boolIs_f, boolIs_u, ↓reduceIte, Nat.reduceEqDiff, cpur_build, alc_new, alc_bsl, sliceNB_eq, cfill_nil, cfill_cons, vc_int, vc_slice, vc_agg, vc_bool, vc_ptr, cellV_int, cellV_bool, cellV_slice, cellV_ptr, cellL_nil, cellL_cons, nbV_ptr, nbO_ptr, nbV_slice, nbO_slice, List.getElem?_cons_zero, List.getElem?_cons_succ, List.length_cons, List.length_nil, List.take_zero, List.take_succ_cons, List.drop_zero, List.drop_succ_cons, List.drop_nil, List.nil_append, List.cons_append, List.append_nil, Nat.zero_add, Nat.add_zero, Nat.mul_one, Nat.reduceAdd, Nat.reduceLeDiff, Bool.and_self, Bool.and_true, Bool.true_and, true_and, and_true, cagree_0, cagree_1, cagree_2, sameR_ok, sameV_int, sameV_bool, sameV_slice, Bool.false_eq_true, setArgs_nil, setArgs_cons, Bool.not_true, Bool.not_false, isEffC_pur, isEffC_alc, isEffC_red, isEffC_eff, retK_ret, retK_normal, resVs_tmp, resVs_nil, retV_one, retV_two]
  refine Ev.genH (fun tm2 h2 => tget tm2 1 = .pointer (some ⟨nx, 0, none⟩) ∧ hget h2 nx = some (.cells [.int .i64 (N : Int), .slice a gs.length cap] false) ∧ Keep nx h h2) ⟨by simp, by simp, fun c hc => by rw [hgs, if_neg (by omega)]⟩ ?_
  rintro tm2 h2 ⟨t1, g1, hk⟩
  refine Ev.seq (Ev.seq (Ev.regO ?_))
  simp only [Ov_pur, Ov_red, Ov_alc, Ov_st, Ov_g, Ov_nil, Dv_pur, Dv_red, Dv_alc, Dv_st, Dv_g, Dv_nil, c_mv, c_bin, c_un, c_conv, c_pick, cPick_bool, c_fld, cFld_agg, c_fldA, c_nilc, nilChk_ptr, c_ext, oExtract_tuple, c_ixA, natR_nat, natR_ofNat, natR_lit, natR_zero, natR_one, oIx_slice, oIx_array, c_ld, c_lens, lenS_slice, cev_t, cev_v, cevs_nil, cevs_cons, putT_some, putT_none, addrR_ptr, moveA_eq, tgs, RK_ok, of_some, bind_ok, ofGet_some, loadC_one, bin_add, bin_sub, bin_lss, bin_leq, bin_gtr, bin_geq, bin_eql, bin_neq, un_not, conv_int, nextK_normal, nextK_exit, nextK_ret, blkK_normal, blkK_ret, blkK_exit, boolIs_t, boolIs_f, boolIs_u, ↓reduceIte, Nat.reduceEqDiff, cpur_build, alc_new, alc_bsl, sliceNB_eq, cfill_nil, cfill_cons, vc_int, vc_slice, vc_agg, vc_bool, vc_ptr, cellV_int, cellV_bool, cellV_slice, cellV_ptr, cellL_nil, cellL_cons, nbV_ptr, nbO_ptr, nbV_slice, nbO_slice, List.getElem?_cons_zero, List.getElem?_cons_succ, List.length_cons, List.length_nil, List.take_zero, List.take_succ_cons, List.drop_zero, List.drop_succ_cons, List.drop_nil, List.nil_append, List.cons_append, List.append_nil, Nat.zero_add, Nat.add_zero, Nat.mul_one, Nat.reduceAdd, Nat.reduceLeDiff, Bool.and_self, Bool.and_true, Bool.true_and, true_and, and_true, cagree_0, cagree_1, cagree_2, sameR_ok, sameV_int, sameV_bool, sameV_slice, Bool.false_eq_true, setArgs_nil, setArgs_cons, Bool.not_true, Bool.not_false, isEffC_pur, isEffC_alc, isEffC_red, isEffC_eff, retK_ret, retK_normal, resVs_tmp, resVs_nil, retV_one, retV_two, t1, cellsOf_some g1, loadC_many, Nat.sub_zero, Nat.le_refl]
  refine Ov_call ?_
  simp only [Ov_pur, Ov_red, Ov_alc, Ov_st, Ov_g, Ov_nil, Dv_pur, Dv_red, Dv_alc, Dv_st, Dv_g, Dv_nil, c_mv, c_bin, c_un, c_conv, c_pick, cPick_bool, c_fld, cFld_agg, c_fldA, c_nilc, nilChk_ptr, c_ext, oExtract_tuple, c_ixA, natR_nat, natR_ofNat, natR_lit, natR_zero, natR_one, oIx_slice, oIx_array, c_ld, c_lens, lenS_slice, cev_t, cev_v, cevs_nil, cevs_cons, putT_some, putT_none, addrR_ptr, moveA_eq, tgs, RK_ok, of_some, bind_ok, ofGet_some, loadC_one, bin_add, bin_sub, bin_lss, bin_leq, bin_gtr, bin_geq, bin_eql, bin_neq, un_not, conv_int, nextK_normal, nextK_exit, nextK_ret, blkK_normal, blkK_ret, blkK_exit, boolIs_t, boolIs_f, boolIs_u, ↓reduceIte, Nat.reduceEqDiff, cpur_build, alc_new, alc_bsl, sliceNB_eq, cfill_nil, cfill_cons, vc_int, vc_slice, vc_agg, vc_bool, vc_ptr, cellV_int, cellV_bool, cellV_slice, cellV_ptr, cellL_nil, cellL_cons, nbV_ptr, nbO_ptr, nbV_slice, nbO_slice, List.getElem?_cons_zero, List.getElem?_cons_succ, List.length_cons, List.length_nil, List.take_zero, List.take_succ_cons, List.drop_zero, List.drop_succ_cons, List.drop_nil, List.nil_append, List.cons_append, List.append_nil, Nat.zero_add, Nat.add_zero, Nat.mul_one, Nat.reduceAdd, Nat.reduceLeDiff, Bool.and_self, Bool.and_true, Bool.true_and, true_and, and_true, cagree_0, cagree_1, cagree_2, sameR_ok, sameV_int, sameV_bool, sameV_slice, Bool.false_eq_true, setArgs_nil, setArgs_cons, Bool.not_true, Bool.not_false, isEffC_pur, isEffC_alc, isEffC_red, isEffC_eff, retK_ret, retK_normal, resVs_tmp, resVs_nil, retV_one, retV_two]
  refine (A.right (hv.keep hk (show nx ≤ nx + 1 by omega)) hN hl hok).mono ?_
  rintro r h3 nx3 ⟨rfl, hk3, hnx3⟩
  have g1' := (hk3 nx (by omega)).trans g1
  (try simp only [Ov_pur, Ov_red, Ov_alc, Ov_st, Ov_g, Ov_nil, Dv_pur, Dv_red, Dv_alc, Dv_st, Dv_g, Dv_nil, c_mv, c_bin, c_un, c_conv, c_pick, cPick_bool, c_fld, cFld_agg, c_fldA, c_nilc, nilChk_ptr, c_ext, oExtract_tuple, c_ixA, natR_nat, natR_ofNat, natR_lit, natR_zero, natR_one, oIx_slice, oIx_array, c_ld, c_lens, lenS_slice, cev_t, cev_v, cevs_nil, cevs_cons, putT_some, putT_none, addrR_ptr, moveA_eq, tgs, RK_ok, of_some, bind_ok, ofGet_some, loadC_one, bin_add, bin_sub, bin_lss, bin_leq, bin_gtr, bin_geq, bin_eql, bin_neq, un_not, conv_int, nextK_normal, nextK_exit, nextK_ret, blkK_normal, blkK_ret, blkK_exit, boolIs_t, boolIs_f, boolIs_u, ↓reduceIte, Nat.reduceEqDiff, cpur_build, alc_new, alc_bsl, sliceNB_eq, cfill_nil, cfill_cons, vc_int, vc_slice, vc_agg, vc_bool, vc_ptr, cellV_int, cellV_bool, cellV_slice, cellV_ptr, cellL_nil, cellL_cons, nbV_ptr, nbO_ptr, nbV_slice, nbO_slice, List.getElem?_cons_zero, List.getElem?_cons_succ, List.length_cons, List.length_nil, List.take_zero, List.take_succ_cons, List.drop_zero, List.drop_succ_cons, List.drop_nil, List.nil_append, List.cons_append, List.append_nil, Nat.zero_add, Nat.add_zero, Nat.mul_one, Nat.reduceAdd, Nat.reduceLeDiff, Bool.and_self, Bool.and_true, Bool.true_and, true_and, and_true, cagree_0, cagree_1, cagree_2, sameR_ok, sameV_int, sameV_bool, sameV_slice, Bool.false_eq_true, setArgs_nil, setArgs_cons, Bool.not_true, Bool.not_false, isEffC_pur, isEffC_alc, isEffC_red, isEffC_eff, retK_ret, retK_normal, resVs_tmp, resVs_nil, retV_one, retV_two])
  refine Ev.cond false (by simp) (by simp) (fun _ => Ev.skip ?_)
  (try simp only [Ov_pur, Ov_red, Ov_alc, Ov_st, Ov_g, Ov_nil, Dv_pur, Dv_red, Dv_alc, Dv_st, Dv_g, Dv_nil, c_mv, c_bin, c_un, c_conv, c_pick, cPick_bool, c_fld, cFld_agg, c_fldA, c_nilc, nilChk_ptr, c_ext, oExtract_tuple, c_ixA, natR_nat, natR_ofNat, natR_lit, natR_zero, natR_one, oIx_slice, oIx_array, c_ld, c_lens, lenS_slice, cev_t, cev_v, cevs_nil, cevs_cons, putT_some, putT_none, addrR_ptr, moveA_eq, tgs, RK_ok, of_some, bind_ok, ofGet_some, loadC_one, bin_add, bin_sub, bin_lss, bin_leq, bin_gtr, bin_geq, bin_eql, bin_neq, un_not, conv_int, nextK_normal, nextK_exit, nextK_ret, blkK_normal, blkK_ret, blkK_exit, boolIs_t, boolIs_f, boolIs_u, ↓reduceIte, Nat.reduceEqDiff, cpur_build, alc_new, alc_bsl, sliceNB_eq, cfill_nil, cfill_cons, vc_int, vc_slice, vc_agg, vc_bool, vc_ptr, cellV_int, cellV_bool, cellV_slice, cellV_ptr, cellL_nil, cellL_cons, nbV_ptr, nbO_ptr, nbV_slice, nbO_slice, List.getElem?_cons_zero, List.getElem?_cons_succ, List.length_cons, List.length_nil, List.take_zero, List.take_succ_cons, List.drop_zero, List.drop_succ_cons, List.drop_nil, List.nil_append, List.cons_append, List.append_nil, Nat.zero_add, Nat.add_zero, Nat.mul_one, Nat.reduceAdd, Nat.reduceLeDiff, Bool.and_self, Bool.and_true, Bool.true_and, true_and, and_true, cagree_0, cagree_1, cagree_2, sameR_ok, sameV_int, sameV_bool, sameV_slice, Bool.false_eq_true, setArgs_nil, setArgs_cons, Bool.not_true, Bool.not_false, isEffC_pur, isEffC_alc, isEffC_red, isEffC_eff, retK_ret, retK_normal, resVs_tmp, resVs_nil, retV_one, retV_two])
  refine Ev.seq (Ev.regO ?_)
  simp only [Ov_pur, Ov_red, Ov_alc, Ov_st, Ov_g, Ov_nil, Dv_pur, Dv_red, Dv_alc, Dv_st, Dv_g, Dv_nil, c_mv, c_bin, c_un, c_conv, c_pick, cPick_bool, c_fld, cFld_agg, c_fldA, c_nilc, nilChk_ptr, c_ext, oExtract_tuple, c_ixA, natR_nat, natR_ofNat, natR_lit, natR_zero, natR_one, oIx_slice, oIx_array, c_ld, c_lens, lenS_slice, cev_t, cev_v, cevs_nil, cevs_cons, putT_some, putT_none, addrR_ptr, moveA_eq, tgs, RK_ok, of_some, bind_ok, ofGet_some, loadC_one, bin_add, bin_sub, bin_lss, bin_leq, bin_gtr, bin_geq, bin_eql, bin_neq, un_not, conv_int, nextK_normal, nextK_exit, nextK_ret, blkK_normal, blkK_ret, blkK_exit, boolIs_t, boolIs_f, boolIs_u, ↓reduceIte, Nat.reduceEqDiff, cpur_build, alc_new, alc_bsl, sliceNB_eq, cfill_nil, cfill_cons, vc_int, vc_slice, vc_agg, vc_bool, vc_ptr, cellV_int, cellV_bool, cellV_slice, cellV_ptr, cellL_nil, cellL_cons, nbV_ptr, nbO_ptr, nbV_slice, nbO_slice, List.getElem?_cons_zero, List.getElem?_cons_succ, List.length_cons, List.length_nil, List.take_zero, List.take_succ_cons, List.drop_zero, List.drop_succ_cons, List.drop_nil, List.nil_append, List.cons_append, List.append_nil, Nat.zero_add, Nat.add_zero, Nat.mul_one, Nat.reduceAdd, Nat.reduceLeDiff, Bool.and_self, Bool.and_true, Bool.true_and, true_and, and_true, cagree_0, cagree_1, cagree_2, sameR_ok, sameV_int, sameV_bool, sameV_slice, Bool.false_eq_true, setArgs_nil, setArgs_cons, Bool.not_true, Bool.not_false, isEffC_pur, isEffC_alc, isEffC_red, isEffC_eff, retK_ret, retK_normal, resVs_tmp, resVs_nil, retV_one, retV_two]
  refine Ev.cut (fun tm h' nx' => ∃ b F, CntJ N b F L (nx + 1) h2 0 tm h' nx') ?_ ?_
  · refine Ev.seq (Ev.regO ?_)
    simp only [Ov_pur, Ov_red, Ov_alc, Ov_st, Ov_g, Ov_nil, Dv_pur, Dv_red, Dv_alc, Dv_st, Dv_g, Dv_nil, c_mv, c_bin, c_un, c_conv, c_pick, cPick_bool, c_fld, cFld_agg, c_fldA, c_nilc, nilChk_ptr, c_ext, oExtract_tuple, c_ixA, natR_nat, natR_ofNat, natR_lit, natR_zero, natR_one, oIx_slice, oIx_array, c_ld, c_lens, lenS_slice, cev_t, cev_v, cevs_nil, cevs_cons, putT_some, putT_none, addrR_ptr, moveA_eq, tgs, RK_ok, of_some, bind_ok, ofGet_some, loadC_one, bin_add, bin_sub, bin_lss, bin_leq, bin_gtr, bin_geq, bin_eql, bin_neq, un_not, conv_int, nextK_normal, nextK_exit, nextK_ret, blkK_normal, blkK_ret, blkK_exit, boolIs_t, boolIs_f, boolIs_u, ↓reduceIte, Nat.reduceEqDiff, cpur_build, alc_new, alc_bsl, sliceNB_eq, cfill_nil, cfill_cons, vc_int, vc_slice, vc_agg, vc_bool, vc_ptr, cellV_int, cellV_bool, cellV_slice, cellV_ptr, cellL_nil, cellL_cons, nbV_ptr, nbO_ptr, nbV_slice, nbO_slice, List.getElem?_cons_zero, List.getElem?_cons_succ, List.length_cons, List.length_nil, List.take_zero, List.take_succ_cons, List.drop_zero, List.drop_succ_cons, List.drop_nil, List.nil_append, List.cons_append, List.append_nil, Nat.zero_add, Nat.add_zero, Nat.mul_one, Nat.reduceAdd, Nat.reduceLeDiff, Bool.and_self, Bool.and_true, Bool.true_and, true_and, and_true, cagree_0, cagree_1, cagree_2, sameR_ok, sameV_int, sameV_bool, sameV_slice, Bool.false_eq_true, setArgs_nil, setArgs_cons, Bool.not_true, Bool.not_false, isEffC_pur, isEffC_alc, isEffC_red, isEffC_eff, retK_ret, retK_normal, resVs_tmp, resVs_nil, retV_one, retV_two, t1, cellsOf_some g1', loadC_many, Nat.sub_zero, Nat.le_refl]
    refine Ov_call ?_
    simp only [Ov_pur, Ov_red, Ov_alc, Ov_st, Ov_g, Ov_nil, Dv_pur, Dv_red, Dv_alc, Dv_st, Dv_g, Dv_nil, c_mv, c_bin, c_un, c_conv, c_pick, cPick_bool, c_fld, cFld_agg, c_fldA, c_nilc, nilChk_ptr, c_ext, oExtract_tuple, c_ixA, natR_nat, natR_ofNat, natR_lit, natR_zero, natR_one, oIx_slice, oIx_array, c_ld, c_lens, lenS_slice, cev_t, cev_v, cevs_nil, cevs_cons, putT_some, putT_none, addrR_ptr, moveA_eq, tgs, RK_ok, of_some, bind_ok, ofGet_some, loadC_one, bin_add, bin_sub, bin_lss, bin_leq, bin_gtr, bin_geq, bin_eql, bin_neq, un_not, conv_int, nextK_normal, nextK_exit, nextK_ret, blkK_normal, blkK_ret, blkK_exit, boolIs_t, boolIs_f, boolIs_u, ↓reduceIte, Nat.reduceEqDiff, cpur_build, alc_new, alc_bsl, sliceNB_eq, cfill_nil, cfill_cons, vc_int, vc_slice, vc_agg, vc_bool, vc_ptr, cellV_int, cellV_bool, cellV_slice, cellV_ptr, cellL_nil, cellL_cons, nbV_ptr, nbO_ptr, nbV_slice, nbO_slice, List.getElem?_cons_zero, List.getElem?_cons_succ, List.length_cons, List.length_nil, List.take_zero, List.take_succ_cons, List.drop_zero, List.drop_succ_cons, List.drop_nil, List.nil_append, List.cons_append, List.append_nil, Nat.zero_add, Nat.add_zero, Nat.mul_one, Nat.reduceAdd, Nat.reduceLeDiff, Bool.and_self, Bool.and_true, Bool.true_and, true_and, and_true, cagree_0, cagree_1, cagree_2, sameR_ok, sameV_int, sameV_bool, sameV_slice, Bool.false_eq_true, setArgs_nil, setArgs_cons, Bool.not_true, Bool.not_false, isEffC_pur, isEffC_alc, isEffC_red, isEffC_eff, retK_ret, retK_normal, resVs_tmp, resVs_nil, retV_one, retV_two]
    refine (grown_cv A.cg A.ng A.cr A.nr ((hv.keep hk (show nx ≤ nx + 1 by omega)).keep hk3 hnx3) hN hl hok).mono ?_
    rintro r h4 nx4 ⟨b, F, rfl, gF, hF, hb1, hb2, hk4⟩
    obtain ⟨L', hL', hrt⟩ := hF.lab (fun e he => ⟨(hok e he).1, (hok e he).2.1⟩)
    have := hL.unique hL'
    subst this
    have hself : ∀ k, k < N → (F[k]? = some k ↔ L[k]? = some k) := fun k hk => ⟨fun h => (hrt _ _).1 (.here h), fun h => ((hrt _ _).2 h).is⟩
    simp only [Ov_pur, Ov_red, Ov_alc, Ov_st, Ov_g, Ov_nil, Dv_pur, Dv_red, Dv_alc, Dv_st, Dv_g, Dv_nil, c_mv, c_bin, c_un, c_conv, c_pick, cPick_bool, c_fld, cFld_agg, c_fldA, c_nilc, nilChk_ptr, c_ext, oExtract_tuple, c_ixA, natR_nat, natR_ofNat, natR_lit, natR_zero, natR_one, oIx_slice, oIx_array, c_ld, c_lens, lenS_slice, cev_t, cev_v, cevs_nil, cevs_cons, putT_some, putT_none, addrR_ptr, moveA_eq, tgs, RK_ok, of_some, bind_ok, ofGet_some, loadC_one, bin_add, bin_sub, bin_lss, bin_leq, bin_gtr, bin_geq, bin_eql, bin_neq, un_not, conv_int, nextK_normal, nextK_exit, nextK_ret, blkK_normal, blkK_ret, blkK_exit, boolIs_t, boolIs_f, boolIs_u, ↓reduceIte, Nat.reduceEqDiff, cpur_build, alc_new, alc_bsl, sliceNB_eq, cfill_nil, cfill_cons, vc_int, vc_slice, vc_agg, vc_bool, vc_ptr, cellV_int, cellV_bool, cellV_slice, cellV_ptr, cellL_nil, cellL_cons, nbV_ptr, nbO_ptr, nbV_slice, nbO_slice, List.getElem?_cons_zero, List.getElem?_cons_succ, List.length_cons, List.length_nil, List.take_zero, List.take_succ_cons, List.drop_zero, List.drop_succ_cons, List.drop_nil, List.nil_append, List.cons_append, List.append_nil, Nat.zero_add, Nat.add_zero, Nat.mul_one, Nat.reduceAdd, Nat.reduceLeDiff, Bool.and_self, Bool.and_true, Bool.true_and, true_and, and_true, cagree_0, cagree_1, cagree_2, sameR_ok, sameV_int, sameV_bool, sameV_slice, Bool.false_eq_true, setArgs_nil, setArgs_cons, Bool.not_true, Bool.not_false, isEffC_pur, isEffC_alc, isEffC_red, isEffC_eff, retK_ret, retK_normal, resVs_tmp, resVs_nil, retV_one, retV_two]
    refine (Ev.forR (CntJ N b F L (nx + 1) h2) (K := nextK (CntJ N b F L (nx + 1) h2 0) (retK P [.tmp 2] (StillK (.int .i64 (selfs L N : Int)) nx h))) ?_ N _ _ _ ⟨0, rfl, by omega, by simp [selfs], by simp, by simp, by simp, gF, hk3.trans (hk4.mono hnx3) (Nat.le_refl _), by omega⟩).mono (fun x tm h nx hx => by
      cases x with
      | normal => exact ⟨b, F, hx⟩
      | ret => exact hx
      | exit i => exact hx)
    rintro m tm h' nx' ⟨i, rfl, hi, t3, t10, t11, t12, gF, hk', hnx'⟩
    simp only [Ov_pur, Ov_red, Ov_alc, Ov_st, Ov_g, Ov_nil, Dv_pur, Dv_red, Dv_alc, Dv_st, Dv_g, Dv_nil, c_mv, c_bin, c_un, c_conv, c_pick, cPick_bool, c_fld, cFld_agg, c_fldA, c_nilc, nilChk_ptr, c_ext, oExtract_tuple, c_ixA, natR_nat, natR_ofNat, natR_lit, natR_zero, natR_one, oIx_slice, oIx_array, c_ld, c_lens, lenS_slice, cev_t, cev_v, cevs_nil, cevs_cons, putT_some, putT_none, addrR_ptr, moveA_eq, tgs, RK_ok, of_some, bind_ok, ofGet_some, loadC_one, bin_add, bin_sub, bin_lss, bin_leq, bin_gtr, bin_geq, bin_eql, bin_neq, un_not, conv_int, nextK_normal, nextK_exit, nextK_ret, blkK_normal, blkK_ret, blkK_exit, boolIs_t, boolIs_f, boolIs_u, ↓reduceIte, Nat.reduceEqDiff, cpur_build, alc_new, alc_bsl, sliceNB_eq, cfill_nil, cfill_cons, vc_int, vc_slice, vc_agg, vc_bool, vc_ptr, cellV_int, cellV_bool, cellV_slice, cellV_ptr, cellL_nil, cellL_cons, nbV_ptr, nbO_ptr, nbV_slice, nbO_slice, List.getElem?_cons_zero, List.getElem?_cons_succ, List.length_cons, List.length_nil, List.take_zero, List.take_succ_cons, List.drop_zero, List.drop_succ_cons, List.drop_nil, List.nil_append, List.cons_append, List.append_nil, Nat.zero_add, Nat.add_zero, Nat.mul_one, Nat.reduceAdd, Nat.reduceLeDiff, Bool.and_self, Bool.and_true, Bool.true_and, true_and, and_true, cagree_0, cagree_1, cagree_2, sameR_ok, sameV_int, sameV_bool, sameV_slice, Bool.false_eq_true, setArgs_nil, setArgs_cons, Bool.not_true, Bool.not_false, isEffC_pur, isEffC_alc, isEffC_red, isEffC_eff, retK_ret, retK_normal, resVs_tmp, resVs_nil, retV_one, retV_two, t11, t12]
    refine ⟨decide ((i : Int) < N), rfl, fun e => ?_, fun e => ?_⟩
    · have : ¬ ((i : Int) < N) := of_decide_eq_false e
      exact ⟨i, by omega, hi, by simpa using t3, by simpa using t10, by simpa using t11, by simpa using t12, gF, hk', hnx'⟩
    · have hiN : i < N := by
        have : (i : Int) < N := of_decide_eq_true e
        omega
      have hx : F[i]? = some (F[i]'(by rw [hF.forest.1]; exact hiN)) := List.getElem?_eq_getElem _
      generalize F[i]'(by rw [hF.forest.1]; exact hiN) = x at hx
      have hsle := selfs_le L i
      have hss := selfs_succ L i
      refine Ev.seq (Ev.regO ?_)
      simp only [Ov_pur, Ov_red, Ov_alc, Ov_st, Ov_g, Ov_nil, Dv_pur, Dv_red, Dv_alc, Dv_st, Dv_g, Dv_nil, c_mv, c_bin, c_un, c_conv, c_pick, cPick_bool, c_fld, cFld_agg, c_fldA, c_nilc, nilChk_ptr, c_ext, oExtract_tuple, c_ixA, natR_nat, natR_ofNat, natR_lit, natR_zero, natR_one, oIx_slice, oIx_array, c_ld, c_lens, lenS_slice, cev_t, cev_v, cevs_nil, cevs_cons, putT_some, putT_none, addrR_ptr, moveA_eq, tgs, RK_ok, of_some, bind_ok, ofGet_some, loadC_one, bin_add, bin_sub, bin_lss, bin_leq, bin_gtr, bin_geq, bin_eql, bin_neq, un_not, conv_int, nextK_normal, nextK_exit, nextK_ret, blkK_normal, blkK_ret, blkK_exit, boolIs_t, boolIs_f, boolIs_u, ↓reduceIte, Nat.reduceEqDiff, cpur_build, alc_new, alc_bsl, sliceNB_eq, cfill_nil, cfill_cons, vc_int, vc_slice, vc_agg, vc_bool, vc_ptr, cellV_int, cellV_bool, cellV_slice, cellV_ptr, cellL_nil, cellL_cons, nbV_ptr, nbO_ptr, nbV_slice, nbO_slice, List.getElem?_cons_zero, List.getElem?_cons_succ, List.length_cons, List.length_nil, List.take_zero, List.take_succ_cons, List.drop_zero, List.drop_succ_cons, List.drop_nil, List.nil_append, List.cons_append, List.append_nil, Nat.zero_add, Nat.add_zero, Nat.mul_one, Nat.reduceAdd, Nat.reduceLeDiff, Bool.and_self, Bool.and_true, Bool.true_and, true_and, and_true, cagree_0, cagree_1, cagree_2, sameR_ok, sameV_int, sameV_bool, sameV_slice, Bool.false_eq_true, setArgs_nil, setArgs_cons, Bool.not_true, Bool.not_false, isEffC_pur, isEffC_alc, isEffC_red, isEffC_eff, retK_ret, retK_normal, resVs_tmp, resVs_nil, retV_one, retV_two, t10, t12, hiN, cellsOf_some gF, ints_get (nats_get hx)]
      refine Ev.seq (Ev.regO ?_)
      simp only [Ov_pur, Ov_red, Ov_alc, Ov_st, Ov_g, Ov_nil, Dv_pur, Dv_red, Dv_alc, Dv_st, Dv_g, Dv_nil, c_mv, c_bin, c_un, c_conv, c_pick, cPick_bool, c_fld, cFld_agg, c_fldA, c_nilc, nilChk_ptr, c_ext, oExtract_tuple, c_ixA, natR_nat, natR_ofNat, natR_lit, natR_zero, natR_one, oIx_slice, oIx_array, c_ld, c_lens, lenS_slice, cev_t, cev_v, cevs_nil, cevs_cons, putT_some, putT_none, addrR_ptr, moveA_eq, tgs, RK_ok, of_some, bind_ok, ofGet_some, loadC_one, bin_add, bin_sub, bin_lss, bin_leq, bin_gtr, bin_geq, bin_eql, bin_neq, un_not, conv_int, nextK_normal, nextK_exit, nextK_ret, blkK_normal, blkK_ret, blkK_exit, boolIs_t, boolIs_f, boolIs_u, ↓reduceIte, Nat.reduceEqDiff, cpur_build, alc_new, alc_bsl, sliceNB_eq, cfill_nil, cfill_cons, vc_int, vc_slice, vc_agg, vc_bool, vc_ptr, cellV_int, cellV_bool, cellV_slice, cellV_ptr, cellL_nil, cellL_cons, nbV_ptr, nbO_ptr, nbV_slice, nbO_slice, List.getElem?_cons_zero, List.getElem?_cons_succ, List.length_cons, List.length_nil, List.take_zero, List.take_succ_cons, List.drop_zero, List.drop_succ_cons, List.drop_nil, List.nil_append, List.cons_append, List.append_nil, Nat.zero_add, Nat.add_zero, Nat.mul_one, Nat.reduceAdd, Nat.reduceLeDiff, Bool.and_self, Bool.and_true, Bool.true_and, true_and, and_true, cagree_0, cagree_1, cagree_2, sameR_ok, sameV_int, sameV_bool, sameV_slice, Bool.false_eq_true, setArgs_nil, setArgs_cons, Bool.not_true, Bool.not_false, isEffC_pur, isEffC_alc, isEffC_red, isEffC_eff, retK_ret, retK_normal, resVs_tmp, resVs_nil, retV_one, retV_two]
      by_cases hxi : x = i
      · have hLi : L[i]? = some i := (hself i hiN).1 (by rw [hx, hxi])
        rw [if_pos hLi] at hss
        refine Ev.cond true (by simp [hxi]) (fun _ => ?_) (by simp)
        refine Ev.regO ?_
        simp only [Ov_pur, Ov_red, Ov_alc, Ov_st, Ov_g, Ov_nil, Dv_pur, Dv_red, Dv_alc, Dv_st, Dv_g, Dv_nil, c_mv, c_bin, c_un, c_conv, c_pick, cPick_bool, c_fld, cFld_agg, c_fldA, c_nilc, nilChk_ptr, c_ext, oExtract_tuple, c_ixA, natR_nat, natR_ofNat, natR_lit, natR_zero, natR_one, oIx_slice, oIx_array, c_ld, c_lens, lenS_slice, cev_t, cev_v, cevs_nil, cevs_cons, putT_some, putT_none, addrR_ptr, moveA_eq, tgs, RK_ok, of_some, bind_ok, ofGet_some, loadC_one, bin_add, bin_sub, bin_lss, bin_leq, bin_gtr, bin_geq, bin_eql, bin_neq, un_not, conv_int, nextK_normal, nextK_exit, nextK_ret, blkK_normal, blkK_ret, blkK_exit, boolIs_t, boolIs_f, boolIs_u, ↓reduceIte, Nat.reduceEqDiff, cpur_build, alc_new, alc_bsl, sliceNB_eq, cfill_nil, cfill_cons, vc_int, vc_slice, vc_agg, vc_bool, vc_ptr, cellV_int, cellV_bool, cellV_slice, cellV_ptr, cellL_nil, cellL_cons, nbV_ptr, nbO_ptr, nbV_slice, nbO_slice, List.getElem?_cons_zero, List.getElem?_cons_succ, List.length_cons, List.length_nil, List.take_zero, List.take_succ_cons, List.drop_zero, List.drop_succ_cons, List.drop_nil, List.nil_append, List.cons_append, List.append_nil, Nat.zero_add, Nat.add_zero, Nat.mul_one, Nat.reduceAdd, Nat.reduceLeDiff, Bool.and_self, Bool.and_true, Bool.true_and, true_and, and_true, cagree_0, cagree_1, cagree_2, sameR_ok, sameV_int, sameV_bool, sameV_slice, Bool.false_eq_true, setArgs_nil, setArgs_cons, Bool.not_true, Bool.not_false, isEffC_pur, isEffC_alc, isEffC_red, isEffC_eff, retK_ret, retK_normal, resVs_tmp, resVs_nil, retV_one, retV_two, t3, t12]
        refine ⟨N - (i + 1), by omega, i + 1, rfl, by omega, ?_, by simpa using t10, by simpa using t11, ?_, gF, hk', hnx'⟩
        · rw [wrapS (n := (selfs L i : Int) + 1) (by omega) (by omega), hss]; simp
        · rw [wrapS (n := (i : Int) + 1) (by omega) (by omega)]; simp
      · have hLi : ¬ (L[i]? = some i) := fun h => by
          have := (hself i hiN).2 h
          rw [hx] at this
          cases this
          exact hxi rfl
        rw [if_neg hLi] at hss
        refine Ev.cond false (by simp; omega) (by simp) (fun _ => Ev.skip ?_)
        (try simp only [Ov_pur, Ov_red, Ov_alc, Ov_st, Ov_g, Ov_nil, Dv_pur, Dv_red, Dv_alc, Dv_st, Dv_g, Dv_nil, c_mv, c_bin, c_un, c_conv, c_pick, cPick_bool, c_fld, cFld_agg, c_fldA, c_nilc, nilChk_ptr, c_ext, oExtract_tuple, c_ixA, natR_nat, natR_ofNat, natR_lit, natR_zero, natR_one, oIx_slice, oIx_array, c_ld, c_lens, lenS_slice, cev_t, cev_v, cevs_nil, cevs_cons, putT_some, putT_none, addrR_ptr, moveA_eq, tgs, RK_ok, of_some, bind_ok, ofGet_some, loadC_one, bin_add, bin_sub, bin_lss, bin_leq, bin_gtr, bin_geq, bin_eql, bin_neq, un_not, conv_int, nextK_normal, nextK_exit, nextK_ret, blkK_normal, blkK_ret, blkK_exit, boolIs_t, boolIs_f, boolIs_u, ↓reduceIte, Nat.reduceEqDiff, cpur_build, alc_new, alc_bsl, sliceNB_eq, cfill_nil, cfill_cons, vc_int, vc_slice, vc_agg, vc_bool, vc_ptr, cellV_int, cellV_bool, cellV_slice, cellV_ptr, cellL_nil, cellL_cons, nbV_ptr, nbO_ptr, nbV_slice, nbO_slice, List.getElem?_cons_zero, List.getElem?_cons_succ, List.length_cons, List.length_nil, List.take_zero, List.take_succ_cons, List.drop_zero, List.drop_succ_cons, List.drop_nil, List.nil_append, List.cons_append, List.append_nil, Nat.zero_add, Nat.add_zero, Nat.mul_one, Nat.reduceAdd, Nat.reduceLeDiff, Bool.and_self, Bool.and_true, Bool.true_and, true_and, and_true, cagree_0, cagree_1, cagree_2, sameR_ok, sameV_int, sameV_bool, sameV_slice, Bool.false_eq_true, setArgs_nil, setArgs_cons, Bool.not_true, Bool.not_false, isEffC_pur, isEffC_alc, isEffC_red, isEffC_eff, retK_ret, retK_normal, resVs_tmp, resVs_nil, retV_one, retV_two, t3, t12])
        refine ⟨N - (i + 1), by omega, i + 1, rfl, by omega, ?_, by simpa using t10, by simpa using t11, ?_, gF, hk', hnx'⟩
        · rw [hss]; simpa using t3
        · rw [wrapS (n := (i : Int) + 1) (by omega) (by omega)]; simp
  · rintro tm h' nx' ⟨b, F, i, hi0, hi, t3, t10, t11, t12, gF, hk', hnx'⟩
    have : i = N := by omega
    subst this
    refine Ev.seq (Ev.regO ?_)
    simp only [Ov_pur, Ov_red, Ov_alc, Ov_st, Ov_g, Ov_nil, Dv_pur, Dv_red, Dv_alc, Dv_st, Dv_g, Dv_nil, c_mv, c_bin, c_un, c_conv, c_pick, cPick_bool, c_fld, cFld_agg, c_fldA, c_nilc, nilChk_ptr, c_ext, oExtract_tuple, c_ixA, natR_nat, natR_ofNat, natR_lit, natR_zero, natR_one, oIx_slice, oIx_array, c_ld, c_lens, lenS_slice, cev_t, cev_v, cevs_nil, cevs_cons, putT_some, putT_none, addrR_ptr, moveA_eq, tgs, RK_ok, of_some, bind_ok, ofGet_some, loadC_one, bin_add, bin_sub, bin_lss, bin_leq, bin_gtr, bin_geq, bin_eql, bin_neq, un_not, conv_int, nextK_normal, nextK_exit, nextK_ret, blkK_normal, blkK_ret, blkK_exit, boolIs_t, boolIs_f, boolIs_u, ↓reduceIte, Nat.reduceEqDiff, cpur_build, alc_new, alc_bsl, sliceNB_eq, cfill_nil, cfill_cons, vc_int, vc_slice, vc_agg, vc_bool, vc_ptr, cellV_int, cellV_bool, cellV_slice, cellV_ptr, cellL_nil, cellL_cons, nbV_ptr, nbO_ptr, nbV_slice, nbO_slice, List.getElem?_cons_zero, List.getElem?_cons_succ, List.length_cons, List.length_nil, List.take_zero, List.take_succ_cons, List.drop_zero, List.drop_succ_cons, List.drop_nil, List.nil_append, List.cons_append, List.append_nil, Nat.zero_add, Nat.add_zero, Nat.mul_one, Nat.reduceAdd, Nat.reduceLeDiff, Bool.and_self, Bool.and_true, Bool.true_and, true_and, and_true, cagree_0, cagree_1, cagree_2, sameR_ok, sameV_int, sameV_bool, sameV_slice, Bool.false_eq_true, setArgs_nil, setArgs_cons, Bool.not_true, Bool.not_false, isEffC_pur, isEffC_alc, isEffC_red, isEffC_eff, retK_ret, retK_normal, resVs_tmp, resVs_nil, retV_one, retV_two, t3]
    refine Ev.ret ?_
    simp only [Ov_pur, Ov_red, Ov_alc, Ov_st, Ov_g, Ov_nil, Dv_pur, Dv_red, Dv_alc, Dv_st, Dv_g, Dv_nil, c_mv, c_bin, c_un, c_conv, c_pick, cPick_bool, c_fld, cFld_agg, c_fldA, c_nilc, nilChk_ptr, c_ext, oExtract_tuple, c_ixA, natR_nat, natR_ofNat, natR_lit, natR_zero, natR_one, oIx_slice, oIx_array, c_ld, c_lens, lenS_slice, cev_t, cev_v, cevs_nil, cevs_cons, putT_some, putT_none, addrR_ptr, moveA_eq, tgs, RK_ok, of_some, bind_ok, ofGet_some, loadC_one, bin_add, bin_sub, bin_lss, bin_leq, bin_gtr, bin_geq, bin_eql, bin_neq, un_not, conv_int, nextK_normal, nextK_exit, nextK_ret, blkK_normal, blkK_ret, blkK_exit, boolIs_t, boolIs_f, boolIs_u, ↓reduceIte, Nat.reduceEqDiff, cpur_build, alc_new, alc_bsl, sliceNB_eq, cfill_nil, cfill_cons, vc_int, vc_slice, vc_agg, vc_bool, vc_ptr, cellV_int, cellV_bool, cellV_slice, cellV_ptr, cellL_nil, cellL_cons, nbV_ptr, nbO_ptr, nbV_slice, nbO_slice, List.getElem?_cons_zero, List.getElem?_cons_succ, List.length_cons, List.length_nil, List.take_zero, List.take_succ_cons, List.drop_zero, List.drop_succ_cons, List.drop_nil, List.nil_append, List.cons_append, List.append_nil, Nat.zero_add, Nat.add_zero, Nat.mul_one, Nat.reduceAdd, Nat.reduceLeDiff, Bool.and_self, Bool.and_true, Bool.true_and, true_and, and_true, cagree_0, cagree_1, cagree_2, sameR_ok, sameV_int, sameV_bool, sameV_slice, Bool.false_eq_true, setArgs_nil, setArgs_cons, Bool.not_true, Bool.not_false, isEffC_pur, isEffC_alc, isEffC_red, isEffC_eff, retK_ret, retK_normal, resVs_tmp, resVs_nil, retV_one, retV_two]
    exact ⟨rfl, fun c hc => (hk' c (by omega)).trans (hk c hc), by omega⟩
end
end Go.Ax

/-! part AxH14 -/
namespace Go.Ax
open Go
set_option linter.unusedSimpArgs false
set_option linter.unusedVariables false

/-! # comps.Groups -/
def cfGroups (kt : Nat) : CF := { res := [.tmp 2], body :=
 (.seq (.regO [⟨none, (some 2), 0, .pur (.mv (.v (.slice none 0 0)))⟩])
 (.seq (.regO [⟨none, (some 3), 0, .pur (.mv (.v (.slice none 0 0)))⟩])
 (.seq (.regO [⟨none, (some 9), 0, .alc (.mkm)⟩,
   ⟨none, (some 4), 0, .pur (.mv (.t 9))⟩])
 (.seq (.seq (.regO [⟨none, (some 10), 0, .pur (.mv (.t 0))⟩,
   ⟨none, (some 11), 0, .red (.lens (.t 10))⟩,
   ⟨none, (some 12), 0, .pur (.mv (.v (.int .i64 0)))⟩])
 (.block 0
  (.loop
   (.seq (.regO [⟨none, (some 13), 0, .pur (.bin .lss 3 (.t 12) (.t 11))⟩])
   (.seq (.cond (.t 13)
    .skip
    (.exit 0))
   (.seq (.block 1
    (.seq (.regO [⟨none, (some 14), 0, .pur (.mv (.t 12))⟩,
      ⟨none, (some 15), 0, .pur (.ixA (.slice 1) (.t 10) (.t 12))⟩,
      ⟨none, (some 16), 0, .red (.ld none (.t 15))⟩,
      ⟨none, (some 5), 0, .pur (.mv (.t 14))⟩,
      ⟨none, (some 6), 0, .pur (.mv (.t 16))⟩])
    (.seq (.regO [⟨none, (some 18), 0, .pur (.mv (.t 4))⟩,
      ⟨none, (some 19), 0, .pur (.mv (.t 6))⟩,
      ⟨none, (some 20), 0, .red (.lkp kt (.int .i64 0) (.t 18) (.t 19) true)⟩,
      ⟨none, (some 17), 0, .pur (.mv (.t 20))⟩,
      ⟨none, (some 21), 0, .pur (.ext (.t 17) 0)⟩,
      ⟨none, (some 22), 0, .pur (.ext (.t 17) 1)⟩,
      ⟨none, (some 7), 0, .pur (.mv (.t 21))⟩,
      ⟨none, (some 8), 0, .pur (.mv (.t 22))⟩])
    (.seq (.seq (.regO [⟨none, (some 23), 0, .pur (.mv (.t 8))⟩,
      ⟨none, (some 24), 0, .pur (.un .not (.t 23))⟩])
    (.cond (.t 24)
     (.seq (.regO [⟨none, (some 25), 0, .pur (.mv (.t 3))⟩,
       ⟨none, (some 26), 0, .red (.lens (.t 25))⟩,
       ⟨none, (some 7), 0, .pur (.mv (.t 26))⟩])
     (.seq (.regO [⟨none, (some 27), 0, .pur (.mv (.t 4))⟩,
       ⟨none, (some 28), 0, .pur (.mv (.t 6))⟩,
       ⟨none, (some 29), 0, .pur (.mv (.t 7))⟩,
       ⟨none, none, 0, .eff (.mup kt (.t 27) (.t 28) (.t 29))⟩])
     (.regO [⟨none, (some 30), 0, .pur (.mv (.t 3))⟩,
       ⟨none, (some 31), 0, .alc (.bsl 1 [(.slice none 0 0)] [(0, 1, (.v (.slice none 0 0)))])⟩,
       ⟨none, (some 32), 0, .eff (.app 1 (.t 30) (.t 31))⟩,
       ⟨none, (some 3), 0, .pur (.mv (.t 32))⟩])))
     .skip))
    (.regO [⟨none, (some 33), 0, .pur (.mv (.t 3))⟩,
      ⟨none, (some 34), 0, .pur (.mv (.t 7))⟩,
      ⟨none, (some 35), 0, .pur (.mv (.t 3))⟩,
      ⟨none, (some 36), 0, .pur (.mv (.t 7))⟩,
      ⟨none, (some 37), 0, .pur (.ixA (.slice 1) (.t 35) (.t 36))⟩,
      ⟨none, (some 38), 0, .red (.ld none (.t 37))⟩,
      ⟨none, (some 39), 0, .pur (.mv (.t 5))⟩,
      ⟨none, (some 40), 0, .alc (.bsl 1 [(.int .i64 0)] [(0, 1, (.t 39))])⟩,
      ⟨none, (some 41), 0, .eff (.app 1 (.t 38) (.t 40))⟩,
      ⟨none, (some 42), 0, .pur (.ixA (.slice 1) (.t 33) (.t 34))⟩,
      ⟨none, none, 0, .eff (.st 1 (.t 42) (.t 41))⟩])))))
   (.regO [⟨none, (some 43), 0, .pur (.bin .add 3 (.t 12) (.v (.int .i64 1)))⟩,
     ⟨none, (some 12), 0, .pur (.mv (.t 43))⟩])))))))
 (.seq (.regO [⟨none, (some 44), 0, .pur (.mv (.t 3))⟩,
   ⟨none, (some 2), 0, .pur (.mv (.t 44))⟩])
 .ret))))) }
def gidx (x : Int) : List Int → Option Nat
  | [] => none
  | k :: ks => if k = x then some 0 else (gidx x ks).map (fun q => q + 1)
theorem gidx_some {x : Int} : ∀ {l : List Int} {q : Nat}, gidx x l = some q → l[q]? = some x
  | [], q, h => by cases h
  | k :: ks, q, h => by
    unfold gidx at h
    split at h
    · rename_i e; cases h; subst e; rfl
    · cases hq : gidx x ks with
      | none => rw [hq] at h; cases h
      | some p =>
        rw [hq] at h
        cases h
        rw [List.getElem?_cons_succ]
        exact gidx_some hq
theorem gidx_none {x : Int} : ∀ {l : List Int}, gidx x l = none → x ∉ l
  | [], _ => by simp
  | k :: ks, h => by
    unfold gidx at h
    split at h
    · cases h
    · rename_i hk
      cases hq : gidx x ks with
      | none => simp only [List.mem_cons, not_or]; exact ⟨fun e => hk e.symm, gidx_none hq⟩
      | some p => rw [hq] at h; cases h
def mkG (i : Nat) : List Int → List MapEntry
  | [] => []
  | k :: ks => { key := .int .i64 k, val := .int .i64 (i : Int), born := i } :: mkG (i + 1) ks
theorem mkG_app (x : Int) : ∀ (i : Nat) (l : List Int), mkG i (l ++ [x]) = mkG i l ++ [{ key := .int .i64 x, val := .int .i64 ((i + l.length : Nat) : Int), born := i + l.length }]
  | i, [] => rfl
  | i, k :: ks => by
    show _ :: mkG (i + 1) (ks ++ [x]) = _ :: (mkG (i + 1) ks ++ _)
    rw [mkG_app x (i + 1) ks, List.length_cons, show i + 1 + ks.length = i + (ks.length + 1) by omega]
abbrev SV := Option Nat × Nat
def svV (s : SV) : Value := match s.1 with
  | none => .slice none 0 0
  | some b => .slice (some ⟨b, 0, some 1⟩) s.2 s.2
def encS (s : SV) : List Value := [svV s]
theorem encS_cell (s : SV) : cellL (encS s) = true := by
  obtain ⟨b, n⟩ := s
  cases b <;> rfl
def svs (l : List SV) : List Value := l.map svV
theorem flat_svs : ∀ l : List SV, flat encS l = svs l
  | [] => rfl
  | x :: l => by show encS x ++ flat encS l = _; rw [flat_svs l]; rfl
theorem svs_get {l : List SV} {i : Nat} {x : SV} (h : l[i]? = some x) : (svs l)[i]? = some (svV x) := by simp [svs, h]
theorem svs_len (l : List SV) : (svs l).length = l.length := by simp [svs]
theorem svs_set (l : List SV) (i : Nat) (x : SV) : (svs l).set i (svV x) = svs (l.set i x) := by simp [svs, List.map_set]
theorem svV_cell (s : SV) : cellV (svV s) = true ∧ vcells (svV s) = [svV s] := by
  obtain ⟨b, n⟩ := s
  cases b <;> exact ⟨rfl, rfl⟩
/-- a list of lists, each in a block of its own -/
structure Lol (h : Hp) (out : Value) (lo hi : Nat) (sv : List SV) (gss : List (List Nat)) : Prop where
  at_ : SlAt h out encS 1 sv lo hi
  len : sv.length = gss.length
  each : ∀ (j : Nat) (s : SV) (g : List Nat), sv[j]? = some s → gss[j]? = some g → (g = [] ∧ s = (none, 0)) ∨ ∃ b, lo ≤ b ∧ b < hi ∧ s = (some b, g.length) ∧ hget h b = some (.cells (ints (nats g)) false)
  apart : ∀ (j k b nj nk : Nat), sv[j]? = some (some b, nj) → sv[k]? = some (some b, nk) → j = k
  other : ∀ (b : Nat) (sp : Option Nat) (n c : Nat), out = .slice (some ⟨b, 0, sp⟩) n c → ∀ (j nj : Nat), sv[j]? ≠ some (some b, nj)
section
variable {P : Program} {α : Type}
/-- one more, and what else is as it was -/
theorem app_cvF {enc : α → List Value} {k : Nat} (hk : ∀ x, (enc x).length = k) (hcell : ∀ x, cellL (enc x) = true) (hk0 : 0 < k) {h : Hp} {nx lo : Nat} {v : Value} {l : List α} (hv : SlAt h v enc k l lo nx) (hlo : lo ≤ nx)
    {b2 o2 cap2 : Nat} {sp2 : Option Nat} {cs : List Value} {ro : Bool} {x : α} (h2 : hget h b2 = some (.cells cs ro)) (hx : (cs.drop o2).take k = enc x) (hsz : (l.length + 1) * k ≤ 1000000) :
    ∃ h', appendA k h nx v (.slice (some ⟨b2, o2, sp2⟩) 1 cap2) = .ok (.val (.slice (some ⟨nx, 0, some k⟩) (l.length + 1) (l.length + 1)) h' (nx + 1)) ∧ hget h' nx = some (.cells (flat enc (l ++ [x])) false) ∧
      (∀ c, c ≠ nx → (∀ b sp n cp, v = .slice (some ⟨b, 0, sp⟩) n cp → c ≠ b) → hget h' c = hget h c) := by
  have hlen : k ≤ cs.length - o2 := by
    have := congrArg List.length hx
    rw [List.length_take, List.length_drop, hk] at this
    omega
  have h1 : l.length + 1 ≤ 1000000 := Nat.le_trans (by have := Nat.le_mul_of_pos_right (l.length + 1) hk0; omega) hsz
  rcases hv with ⟨rfl, rfl⟩ | ⟨b, hb1, hb2, rfl, hb⟩
  · refine ⟨hset h nx (.cells (enc x) false), ?_, by simp [flat], fun c hc _ => by rw [hgs, if_neg hc]⟩
    unfold appendA
    simp only
    rw [Nat.mul_eq, Nat.one_mul, readA_eq h2 hk0 hlen, hx]
    unfold appGo
    have e1 : Nat.ble (Nat.add 0 1) 0 = false := rfl
    have e2 : (Nat.ble (Nat.mul (Nat.add 0 1) k) 1000000 && Nat.ble (Nat.add 0 1) 1000000) = true := by
      simp only [Bool.and_eq_true, Nat.ble_eq]
      simp at hsz
      exact ⟨by show (0 + 1) * k ≤ 1000000; omega, by show 0 + 1 ≤ 1000000; omega⟩
    rw [e1, e2]
    exact growN_eq hk0
  · refine ⟨hset (hdel h b) nx (.cells (flat enc l ++ enc x) false), ?_, by simp [flat_app], fun c hc hne => by
      rw [hgs, if_neg hc, hgd, if_neg (hne b (some k) l.length l.length rfl)]⟩
    unfold appendA
    simp only
    rw [Nat.mul_eq, Nat.one_mul, readA_eq h2 hk0 hlen, hx]
    unfold appGo
    have e1 : Nat.ble (Nat.add l.length 1) l.length = false := by
      cases hbl : Nat.ble (Nat.add l.length 1) l.length with
      | false => rfl
      | true => have := Nat.le_of_ble_eq_true hbl; have : l.length + 1 ≤ l.length := this; omega
    have e2 : (Nat.ble (Nat.mul (Nat.add l.length 1) k) 1000000 && Nat.ble (Nat.add l.length 1) 1000000) = true := by
      simp only [Bool.and_eq_true, Nat.ble_eq]
      exact ⟨hsz, h1⟩
    rw [e1, e2]
    show appUp h nx k (some ⟨b, 0, some k⟩) l.length l.length (l.length + 1) (enc x) = _
    unfold appUp
    simp only [cellsOf_some hb]
    have hcut : lcut (Nat.mul l.length k) (ldrop (flat enc l) 0) = some (flat enc l) := by
      rw [ldrop_eq, List.drop_zero, lcut_eq, if_pos (by rw [flat_len hk]; exact Nat.le_refl _)]
      rw [List.take_of_length_le (by rw [flat_len hk]; exact Nat.le_refl _)]
    rw [hcut]
    have e3 : (!false && Nat.beq 0 0 && Nat.beq (llen (flat enc l)) (Nat.mul l.length k) && Nat.beq k k && Nat.beq l.length l.length && cellL (enc x)) = true := by
      rw [llen_eq, flat_len hk, hcell]
      simp
    show (bif _ then _ else _) = _
    rw [e3, lapp_eq]
    exact growN_eq hk0
/-- a new list at the end -/
theorem Lol.push {h : Hp} {nx lo : Nat} {out : Value} {sv : List SV} {gss : List (List Nat)} (L : Lol h out lo nx sv gss) (hlo : lo ≤ nx) {b2 : Nat} (h2 : hget h b2 = some (.cells [.slice none 0 0] false)) (hsz : gss.length < 1000) :
    ∃ h' out', appendA 1 h nx out (.slice (some ⟨b2, 0, none⟩) 1 1) = .ok (.val out' h' (nx + 1)) ∧ Lol h' out' lo (nx + 1) (sv ++ [(none, 0)]) (gss ++ [[]]) ∧ (∀ b, b < lo → hget h' b = hget h b) := by
  obtain ⟨h', hap, hnew, hfr⟩ := app_cvF (enc := encS) (k := 1) (fun _ => rfl) encS_cell (by omega) L.at_ hlo (o2 := 0) (cap2 := 1) (sp2 := none) h2 (x := ((none, 0) : SV)) rfl (by have := L.len; omega)
  refine ⟨h', _, hap, ⟨.inr ⟨nx, hlo, by omega, by simp, hnew⟩, by simp [L.len], fun j s g hs hg => ?_, fun j k b nj nk hj hk => ?_, fun b sp n c e j nj hj => ?_⟩, fun b hb => hfr b (by omega) fun b' sp n cp e => ?_⟩
  · have hlt := lt_of_get hs
    rw [List.length_append] at hlt
    have hlt : j < sv.length + 1 := hlt
    by_cases hj : j < sv.length
    · rw [List.getElem?_append_left hj] at hs
      rw [List.getElem?_append_left (by rw [← L.len]; exact hj)] at hg
      rcases L.each j s g hs hg with h0 | ⟨b, hb1, hb2, rfl, hb⟩
      · exact .inl h0
      · exact .inr ⟨b, hb1, by omega, rfl, (hfr b (by omega) (fun b' sp n cp e e' => by subst e'; exact L.other b sp n cp e j _ hs)).trans hb⟩
    · have : j = sv.length := by omega
      subst this
      rw [List.getElem?_append_right (by omega), Nat.sub_self] at hs
      rw [L.len, List.getElem?_append_right (by omega), Nat.sub_self] at hg
      simp at hs hg
      exact .inl ⟨by first | exact hg | exact hg.symm, by first | exact hs | exact hs.symm⟩
  · have get : ∀ (j n : Nat), (sv ++ [((none, 0) : SV)])[j]? = some (some b, n) → sv[j]? = some (some b, n) := fun j n hj => by
      rw [List.getElem?_append] at hj
      split at hj
      · exact hj
      · have hlt := lt_of_get hj
        have : j - sv.length = 0 := by simpa using hlt
        rw [this] at hj
        simp at hj
    exact L.apart j k b nj nk (get _ _ hj) (get _ _ hk)
  · injection e with e
    injection e with e
    injection e with e
    subst e
    rw [List.getElem?_append] at hj
    split at hj
    · rename_i hlt
      have hg : gss[j]? = some (gss[j]'(by rw [← L.len]; exact hlt)) := List.getElem?_eq_getElem _
      rcases L.each j _ _ hj hg with ⟨_, h0⟩ | ⟨b, hb1, hb2, h0, hb⟩
      · cases h0
      · have : b = nx := by
          have := congrArg Prod.fst h0
          simpa using this.symm
        omega
    · have hlt := lt_of_get hj
      have : j - sv.length = 0 := by simpa using hlt
      rw [this] at hj
      simp at hj
  · rcases L.at_ with ⟨_, e0⟩ | ⟨b3, y1, y2, y3, y4⟩
    · rw [e0] at e; cases e
    · rw [y3] at e
      injection e with e
      injection e with e
      injection e with e
      omega
/-- where the outer list lies -/
theorem Lol.out_at {h : Hp} {nx lo : Nat} {out : Value} {sv : List SV} {gss : List (List Nat)} (L : Lol h out lo nx sv gss) {q : Nat} {s : SV} (hs : sv[q]? = some s) :
    ∃ bo, lo ≤ bo ∧ bo < nx ∧ out = .slice (some ⟨bo, 0, some 1⟩) sv.length sv.length ∧ hget h bo = some (.cells (svs sv) false) ∧ q < sv.length := by
  have hq := lt_of_get hs
  rcases L.at_ with ⟨e, _⟩ | ⟨b, h1, h2, h3, h4⟩
  · rw [e] at hq; exact absurd hq (Nat.not_lt_zero _)
  · rw [flat_svs] at h4
    exact ⟨b, h1, h2, h3, h4, hq⟩
/-- one more in a list of these -/
theorem Lol.add {h : Hp} {nx lo : Nat} {out : Value} {sv : List SV} {gss : List (List Nat)} (L : Lol h out lo nx sv gss) (hlo : lo ≤ nx) {q v bo : Nat} {s : SV} {g : List Nat} (hs : sv[q]? = some s) (hg : gss[q]? = some g) {b2 : Nat} (h2 : hget h b2 = some (.cells [.int .i64 (v : Int)] false)) (hsz : g.length < 1000)
    (hout : out = .slice (some ⟨bo, 0, some 1⟩) sv.length sv.length) (hbo : lo ≤ bo ∧ bo < nx) :
    ∃ h', appendA 1 h nx (svV s) (.slice (some ⟨b2, 0, none⟩) 1 1) = .ok (.val (svV (some nx, g.length + 1)) h' (nx + 1)) ∧ hget h' bo = some (.cells (svs sv) false) ∧ (∀ b, b < lo → hget h' b = hget h b) ∧
      Lol (hset h' bo (.cells (svs (sv.set q (some nx, g.length + 1))) false)) out lo (nx + 1) (sv.set q (some nx, g.length + 1)) (gss.set q (g ++ [v])) := by
  have hq := lt_of_get hs
  have hin : SlAt h (svV s) encI 1 (nats g) lo nx := by
    rcases L.each q s g hs hg with ⟨rfl, rfl⟩ | ⟨b, hb1, hb2, rfl, hb⟩
    · exact .inl ⟨rfl, rfl⟩
    · exact .inr ⟨b, hb1, hb2, by rw [nats_len]; rfl, by rw [flat_ints]; exact hb⟩
  obtain ⟨h', hap, hnew, hfr⟩ := app_cvF (enc := encI) (k := 1) (fun _ => rfl) (fun _ => rfl) (by omega) hin hlo (o2 := 0) (cap2 := 1) (sp2 := none) h2 (x := (v : Int)) rfl (by rw [nats_len]; omega)
  rw [nats_len] at hap
  rw [← nats_app, flat_ints] at hnew
  have hobl : hget h bo = some (.cells (svs sv) false) := by
    obtain ⟨b, _, _, e, hb, _⟩ := L.out_at hs
    rw [hout] at e
    injection e with e
    injection e with e
    injection e with e
    subst e
    exact hb
  have hne : ∀ c, c ≠ nx → (∀ n, s = (some c, n) → False) → hget h' c = hget h c := fun c hc hc2 => hfr c hc fun b sp n cp e e' => by
    subst e'
    obtain ⟨s1, s2⟩ := s
    cases s1 with
    | none => cases e
    | some b' =>
      injection e with e
      injection e with e
      injection e with e
      subst e
      exact hc2 s2 rfl
  have hbo' := hne bo (by omega) (fun n e => by subst e; exact L.other bo _ _ _ hout q n hs)
  have hlow : ∀ b, b < lo → hget h' b = hget h b := fun b hb => hne b (by omega) fun n e => by
    subst e
    rcases L.each q _ g hs hg with ⟨_, h0⟩ | ⟨b', hb1, hb2, h0, _⟩
    · cases h0
    · have := congrArg Prod.fst h0
      have : b = b' := by simpa using this
      omega
  refine ⟨h', hap, hbo'.trans hobl, hlow, ⟨.inr ⟨bo, hbo.1, by omega, by rw [List.length_set]; exact hout, by rw [flat_svs]; simp⟩, by simp [L.len], fun j s' g' hs' hg' => ?_, fun j k b nj nk hj hk => ?_, fun b sp n c e j nj hj => ?_⟩⟩
  · rw [List.getElem?_set] at hs' hg'
    by_cases hjq : q = j
    · subst hjq
      rw [if_pos rfl, if_pos hq] at hs'
      rw [if_pos rfl, if_pos (by rw [← L.len]; exact hq)] at hg'
      cases hs'; cases hg'
      exact .inr ⟨nx, hlo, by omega, by simp, by rw [hgs, if_neg (by omega)]; exact hnew⟩
    · rw [if_neg hjq] at hs' hg'
      rcases L.each j s' g' hs' hg' with h0 | ⟨b, hb1, hb2, rfl, hb⟩
      · exact .inl h0
      · refine .inr ⟨b, hb1, by omega, rfl, ?_⟩
        have hbb : b ≠ bo := fun e => by subst e; exact L.other b _ _ _ hout j _ hs'
        rw [hgs, if_neg hbb, hne b (by omega) fun n e => by subst e; exact hjq (L.apart q j b _ _ hs hs')]
        exact hb
  · have get : ∀ (j n : Nat), (sv.set q (some nx, g.length + 1))[j]? = some (some b, n) → (j = q ∧ b = nx) ∨ (j ≠ q ∧ sv[j]? = some (some b, n)) := fun j n hj => by
      rw [List.getElem?_set] at hj
      by_cases hjq : q = j
      · subst hjq
        rw [if_pos rfl, if_pos hq] at hj
        injection hj with hj
        have := congrArg Prod.fst hj
        exact .inl ⟨rfl, by simpa using this.symm⟩
      · rw [if_neg hjq] at hj
        exact .inr ⟨fun e => hjq e.symm, hj⟩
    have below : ∀ (j n : Nat), sv[j]? = some (some b, n) → b < nx := fun j n hj => by
      have hgj : gss[j]? = some (gss[j]'(by rw [← L.len]; exact lt_of_get hj)) := List.getElem?_eq_getElem _
      rcases L.each j _ _ hj hgj with ⟨_, h0⟩ | ⟨b', hb1, hb2, h0, _⟩
      · cases h0
      · have := congrArg Prod.fst h0
        have : b = b' := by simpa using this
        omega
    rcases get j nj hj with ⟨rfl, e1⟩ | ⟨_, hj'⟩
    · rcases get k nk hk with ⟨rfl, _⟩ | ⟨_, hk'⟩
      · rfl
      · have := below k nk hk'; omega
    · rcases get k nk hk with ⟨rfl, e1⟩ | ⟨_, hk'⟩
      · have := below j nj hj'; omega
      · exact L.apart j k b nj nk hj' hk'
  · rw [hout] at e
    injection e with e
    injection e with e
    injection e with e
    subst e
    rw [List.getElem?_set] at hj
    by_cases hjq : q = j
    · subst hjq
      rw [if_pos rfl, if_pos hq] at hj
      injection hj with hj
      have := congrArg Prod.fst hj
      have : nx = bo := by simpa using this
      omega
    · rw [if_neg hjq] at hj
      exact L.other bo _ _ _ hout j nj hj
theorem Lol.keep {h h' : Hp} {lo hi hi' : Nat} {out : Value} {sv : List SV} {gss : List (List Nat)} (L : Lol h out lo hi sv gss) (hk : ∀ b, lo ≤ b → b < hi → hget h' b = hget h b) (hle : hi ≤ hi') : Lol h' out lo hi' sv gss where
  at_ := by
    rcases L.at_ with e | ⟨b, h1, h2, h3, h4⟩
    · exact .inl e
    · exact .inr ⟨b, h1, by omega, h3, by rw [hk b h1 h2]; exact h4⟩
  len := L.len
  each := fun j s g hs hg => by
    rcases L.each j s g hs hg with h0 | ⟨b, hb1, hb2, e, hb⟩
    · exact .inl h0
    · exact .inr ⟨b, hb1, by omega, e, by rw [hk b hb1 hb2]; exact hb⟩
  apart := L.apart
  other := L.other
theorem Lol.lens {h : Hp} {lo hi : Nat} {out : Value} {sv : List SV} {gss : List (List Nat)} (L : Lol h out lo hi sv gss) : lenS out = .ok (.int .i64 (gss.length : Int)) := by
  rw [← L.len]
  rcases L.at_ with ⟨e, e2⟩ | ⟨b, h1, h2, h3, h4⟩
  · rw [e, e2]; rfl
  · rw [h3]; rfl
theorem Lol.nil {h : Hp} {lo hi : Nat} : Lol h (.slice none 0 0) lo hi [] [] := ⟨.inl ⟨rfl, rfl⟩, rfl, fun j s g hs => by simp at hs, fun j k b nj nk hj => by simp at hj, fun b sp n c e => by cases e⟩
/-! ## the map of what was met -/
theorem findE_g {kt : Nat} (hk : isIntTy P kt = true) (x : Int) : ∀ (i j : Nat) (l : List Int), findE P kt (.int .i64 x) (mkG i l) j = some ((gidx x l).map fun q => (j + q, { key := .int .i64 x, val := .int .i64 ((i + q : Nat) : Int), born := i + q }))
  | i, j, [] => rfl
  | i, j, k :: ks => by
    have ih := findE_g hk x (i + 1) (j + 1) ks
    unfold mkG findE gidx
    have e : keyEq P kt (.int .i64 x) (.int .i64 k) = some (decide (k = x)) := by
      show (bif keq .i64 .i64 && isIntTy P kt then some (ieq x k) else none) = _
      rw [hk, ieq_beq]
      show some (x == k) = _
      congr 1
      by_cases h : k = x
      · subst h; simp
      · simp [h, Ne.symm h]
    simp only [e]
    by_cases h : k = x
    · subst h; simp
    · simp only [h, decide_false, if_false]
      rw [show Nat.succ j = j + 1 from rfl, ih]
      cases gidx x ks with
      | none => rfl
      | some q =>
        simp only [Option.map_some]
        have e1 : j + 1 + q = j + (q + 1) := by omega
        have e2 : i + 1 + q = i + (q + 1) := by omega
        rw [e1, e2]
theorem keyOk_int {kt : Nat} (hk : isIntTy P kt = true) (x : Int) : keyOk P kt (.int .i64 x) = true := by
  show (keyEq P kt (.int .i64 x) (.int .i64 x)).isSome = true
  have e : keyEq P kt (.int .i64 x) (.int .i64 x) = some (ieq x x) := by
    show (bif keq .i64 .i64 && isIntTy P kt then some (ieq x x) else none) = _
    rw [hk]; rfl
  rw [e]; rfl
theorem lkp_g {kt : Nat} (hk : isIntTy P kt = true) {h : Hp} {r ck : Nat} {keys : List Int} (hm : hget h r = some (.map (mkG 0 keys) ck)) (z : Value) (x : Int) :
    cLkp P h kt z true (.map (some r)) (.int .i64 x) = .ok (match gidx x keys with
      | none => .tuple ⟨[z, .bool false]⟩
      | some q => .tuple ⟨[.int .i64 (q : Int), .bool true]⟩) := by
  unfold cLkp
  rw [keyOk_int hk]
  show entsOf h (.map (some r)) _ = _
  unfold entsOf mapOf
  simp only [hm, findE_g hk x 0 0 keys]
  cases gidx x keys with
  | none => rfl
  | some q => simp only [Option.map_some, Nat.zero_add]; rfl
theorem mup_g {kt : Nat} (hk : isIntTy P kt = true) {h : Hp} {r : Nat} {keys : List Int} (hm : hget h r = some (.map (mkG 0 keys) keys.length)) {x : Int} (hx : gidx x keys = none) :
    cMup P kt h (.map (some r)) (.int .i64 x) (.int .i64 (keys.length : Int)) = .ok (hset h r (.map (mkG 0 (keys ++ [x])) (keys ++ [x]).length)) := by
  unfold cMup
  rw [keyOk_int hk]
  show mapOf h r _ = _
  unfold mapOf
  simp only [hm, findE_g hk x 0 0 keys, hx, Option.map_none, lapp_eq, mkG_app, Nat.zero_add, List.length_append, List.length_cons, List.length_nil]
end
end Go.Ax

/-! part AxH15 -/
namespace Go.Ax
open Go
set_option linter.unusedSimpArgs false
set_option linter.unusedVariables false

/-! # comps.Groups, whole -/
def gstep (st : List Int × List (List Nat)) (v : Nat) (x : Int) : List Int × List (List Nat) := match gidx x st.1 with
  | some q => (st.1, st.2.set q (st.2.getD q [] ++ [v]))
  | none => (st.1 ++ [x], st.2 ++ [[v]])
/-- behind the first i labels -/
def gst (l : List Int) : Nat → List Int × List (List Nat)
  | 0 => ([], [])
  | i + 1 => match l[i]? with
    | some x => gstep (gst l i) i x
    | none => gst l i
theorem gst_succ {l : List Int} {i : Nat} {x : Int} (h : l[i]? = some x) : gst l (i + 1) = gstep (gst l i) i x := by
  show (match l[i]? with | some x => gstep (gst l i) i x | none => gst l i) = _
  rw [h]
theorem gst_len (l : List Int) : ∀ i, (gst l i).1.length = (gst l i).2.length ∧ (gst l i).2.length ≤ i ∧ ∀ g ∈ (gst l i).2, g.length ≤ i
  | 0 => ⟨rfl, Nat.le_refl _, fun g hg => by cases hg⟩
  | i + 1 => by
    obtain ⟨h1, h2, h3⟩ := gst_len l i
    cases hx : l[i]? with
    | none =>
      have e : gst l (i + 1) = gst l i := by
        show (match l[i]? with | some x => gstep (gst l i) i x | none => gst l i) = _
        rw [hx]
      rw [e]
      exact ⟨h1, by omega, fun g hg => by have := h3 g hg; omega⟩
    | some x =>
      rw [gst_succ hx]
      unfold gstep
      cases hq : gidx x (gst l i).1 with
      | none =>
        refine ⟨by simp [h1], by simp; omega, fun g hg => ?_⟩
        rcases List.mem_append.1 hg with hg | hg
        · have := h3 g hg; omega
        · rw [List.mem_singleton.1 hg]; simp
      | some q =>
        refine ⟨by simp [h1], by simp; omega, fun g hg => ?_⟩
        rcases List.mem_or_eq_of_mem_set hg with hg | rfl
        · have := h3 g hg; omega
        · have hql := lt_of_get (gidx_some hq)
          rw [h1] at hql
          have := h3 _ (List.getElem_mem hql)
          have e : (gst l i).2.getD q [] = (gst l i).2[q] := by simp [List.getD, hql]
          rw [e]
          simp
          omega
def GrpJ (vl : Value) (l : List Int) (nx : Nat) (h : Hp) (m : Nat) (tm : Tm) (h' : Hp) (nx' : Nat) : Prop :=
  ∃ (i : Nat) (sv : List SV), m = l.length - i ∧ i ≤ l.length ∧ tget tm 10 = vl ∧ tget tm 11 = .int .i64 (l.length : Int) ∧ tget tm 12 = .int .i64 (i : Int) ∧ tget tm 4 = .map (some nx) ∧ hget h' nx = some (.map (mkG 0 (gst l i).1) (gst l i).1.length) ∧
    Lol h' (tget tm 3) (nx + 1) nx' sv (gst l i).2 ∧ Keep nx h h' ∧ nx + 1 ≤ nx'
def GrpQ (vl : Value) (l : List Int) (i : Nat) (nx : Nat) (h : Hp) (tm : Tm) (h' : Hp) (nx' : Nat) : Prop :=
  ∃ (sv : List SV) (gss : List (List Nat)) (q : Nat) (g : List Nat), tget tm 10 = vl ∧ tget tm 11 = .int .i64 (l.length : Int) ∧ tget tm 12 = .int .i64 (i : Int) ∧ tget tm 4 = .map (some nx) ∧ tget tm 5 = .int .i64 (i : Int) ∧ tget tm 7 = .int .i64 (q : Int) ∧ hget h' nx = some (.map (mkG 0 (gst l (i + 1)).1) (gst l (i + 1)).1.length) ∧
    Lol h' (tget tm 3) (nx + 1) nx' sv gss ∧ gss[q]? = some g ∧ g.length ≤ i ∧ (gst l (i + 1)).2 = gss.set q (g ++ [i]) ∧ Keep nx h h' ∧ nx + 1 ≤ nx'
def GrpR (vl : Value) (l : List Int) (i : Nat) (nx : Nat) (h : Hp) (tm : Tm) (h' : Hp) (nx' : Nat) : Prop :=
  ∃ (sv : List SV), tget tm 10 = vl ∧ tget tm 11 = .int .i64 (l.length : Int) ∧ tget tm 12 = .int .i64 (i : Int) ∧ tget tm 4 = .map (some nx) ∧ hget h' nx = some (.map (mkG 0 (gst l (i + 1)).1) (gst l (i + 1)).1.length) ∧
    Lol h' (tget tm 3) (nx + 1) nx' sv (gst l (i + 1)).2 ∧ Keep nx h h' ∧ nx + 1 ≤ nx'
def GrpK (l : List Int) (nx : Nat) (h : Hp) : KC' := fun r h' nx' => ∃ sv, Lol h' r (nx + 1) nx' sv (gst l l.length).2 ∧ Keep nx h h' ∧ nx + 1 ≤ nx'
section
variable {P : Program} {orc : Orc} {s : Bool}
theorem c_lkp (tm : Tm) (h : Hp) (kt : TypeId) (z : Value) (m k : Co) (ok : Bool) : cred P tm h (.lkp kt z m k ok) = cLkp P h kt z ok (cev tm m) (cev tm k) := rfl
theorem grp_last {vl : Value} {l : List Int} {i nx : Nat} {h : Hp} (hil : i < l.length) (hll : l.length ≤ 100) {K1 : KO'} : ∀ (tm : Tm) (h' : Hp) (nx' : Nat), GrpQ vl l i nx h tm h' nx' →
    Ev P orc s (.regO [⟨none, (some 33), 0, .pur (.mv (.t 3))⟩, ⟨none, (some 34), 0, .pur (.mv (.t 7))⟩, ⟨none, (some 35), 0, .pur (.mv (.t 3))⟩, ⟨none, (some 36), 0, .pur (.mv (.t 7))⟩, ⟨none, (some 37), 0, .pur (.ixA (.slice 1) (.t 35) (.t 36))⟩, ⟨none, (some 38), 0, .red (.ld none (.t 37))⟩,
      ⟨none, (some 39), 0, .pur (.mv (.t 5))⟩, ⟨none, (some 40), 0, .alc (.bsl 1 [(.int .i64 0)] [(0, 1, (.t 39))])⟩, ⟨none, (some 41), 0, .eff (.app 1 (.t 38) (.t 40))⟩, ⟨none, (some 42), 0, .pur (.ixA (.slice 1) (.t 33) (.t 34))⟩, ⟨none, none, 0, .eff (.st 1 (.t 42) (.t 41))⟩]) tm h' nx'
      (nextK (GrpR vl l i nx h) K1) := by
  rintro tm h' nx' ⟨sv, gss, q, g, t10, t11, t12, t4, t5, t7, gm, hL, hg, hgi, hst, hk, hnx⟩
  have hql : q < sv.length := by rw [hL.len]; exact lt_of_get hg
  have hs : sv[q]? = some (sv[q]'hql) := List.getElem?_eq_getElem _
  generalize sv[q]'hql = sq at hs
  obtain ⟨bo, ho1, ho2, hout, hbo, _⟩ := hL.out_at hs
  refine Ev.regO ?_
  simp only [Ov_pur, Ov_red, Ov_alc, Ov_st, Ov_g, Ov_nil, Dv_pur, Dv_red, Dv_alc, Dv_st, Dv_g, Dv_nil, c_mv, c_bin, c_un, c_conv, c_pick, cPick_bool, c_fld, cFld_agg, c_fldA, c_nilc, nilChk_ptr, c_ext, oExtract_tuple, c_ixA, natR_nat, natR_ofNat, natR_lit, natR_zero, natR_one, oIx_slice, oIx_array, c_ld, c_lens, lenS_slice, cev_t, cev_v, cevs_nil, cevs_cons, putT_some, putT_none, addrR_ptr, moveA_eq, tgs, RK_ok, of_some, bind_ok, ofGet_some, loadC_one, bin_add, bin_sub, bin_lss, bin_leq, bin_gtr, bin_geq, bin_eql, bin_neq, un_not, conv_int, nextK_normal, nextK_exit, nextK_ret, blkK_normal, blkK_ret, blkK_exit, boolIs_t, boolIs_f, boolIs_u, ↓reduceIte, Nat.reduceEqDiff, cpur_build, alc_new, alc_bsl, sliceNB_eq, cfill_nil, cfill_cons, vc_int, vc_slice, vc_agg, vc_bool, vc_ptr, cellV_int, cellV_bool, cellV_slice, cellV_ptr, cellL_nil, cellL_cons, nbV_ptr, nbO_ptr, nbV_slice, nbO_slice, List.getElem?_cons_zero, List.getElem?_cons_succ, List.length_cons, List.length_nil, List.take_zero, List.take_succ_cons, List.drop_zero, List.drop_succ_cons, List.drop_nil, List.nil_append, List.cons_append, List.append_nil, Nat.zero_add, Nat.add_zero, Nat.mul_one, Nat.reduceAdd, Nat.reduceLeDiff, Bool.and_self, Bool.and_true, Bool.true_and, true_and, and_true, cagree_0, cagree_1, cagree_2, sameR_ok, sameV_int, sameV_bool, sameV_slice, Bool.false_eq_true, setArgs_nil, setArgs_cons, Bool.not_true, Bool.not_false, isEffC_pur, isEffC_alc, isEffC_red, isEffC_eff, retK_ret, retK_normal, resVs_tmp, resVs_nil, retV_one, retV_two, t5, t7, hout, hql, cellsOf_some hbo, svs_get hs]
  have hL2 := hL.keep (h' := hset h' nx' (.cells [.int .i64 (i : Int)] false)) (hi' := nx' + 1) (fun b h1 h2 => by rw [hgs, if_neg (by omega)]) (by omega)
  obtain ⟨h6, hap, hbo6, hk6, hL3⟩ := hL2.add (by omega) hs hg (v := i) (b2 := nx') (by simp) (by omega) hout ⟨ho1, by omega⟩
  rw [Ov_eff (v := svV (some (nx' + 1), g.length + 1)) (h' := h6) (nx' := nx' + 1 + 1) (by
    show orR (appendA 1 _ _ (cev _ (.t 38)) (cev _ (.t 40))) = _
    simp only [Ov_pur, Ov_red, Ov_alc, Ov_st, Ov_g, Ov_nil, Dv_pur, Dv_red, Dv_alc, Dv_st, Dv_g, Dv_nil, c_mv, c_bin, c_un, c_conv, c_pick, cPick_bool, c_fld, cFld_agg, c_fldA, c_nilc, nilChk_ptr, c_ext, oExtract_tuple, c_ixA, natR_nat, natR_ofNat, natR_lit, natR_zero, natR_one, oIx_slice, oIx_array, c_ld, c_lens, lenS_slice, cev_t, cev_v, cevs_nil, cevs_cons, putT_some, putT_none, addrR_ptr, moveA_eq, tgs, RK_ok, of_some, bind_ok, ofGet_some, loadC_one, bin_add, bin_sub, bin_lss, bin_leq, bin_gtr, bin_geq, bin_eql, bin_neq, un_not, conv_int, nextK_normal, nextK_exit, nextK_ret, blkK_normal, blkK_ret, blkK_exit, boolIs_t, boolIs_f, boolIs_u, ↓reduceIte, Nat.reduceEqDiff, cpur_build, alc_new, alc_bsl, sliceNB_eq, cfill_nil, cfill_cons, vc_int, vc_slice, vc_agg, vc_bool, vc_ptr, cellV_int, cellV_bool, cellV_slice, cellV_ptr, cellL_nil, cellL_cons, nbV_ptr, nbO_ptr, nbV_slice, nbO_slice, List.getElem?_cons_zero, List.getElem?_cons_succ, List.length_cons, List.length_nil, List.take_zero, List.take_succ_cons, List.drop_zero, List.drop_succ_cons, List.drop_nil, List.nil_append, List.cons_append, List.append_nil, Nat.zero_add, Nat.add_zero, Nat.mul_one, Nat.reduceAdd, Nat.reduceLeDiff, Bool.and_self, Bool.and_true, Bool.true_and, true_and, and_true, cagree_0, cagree_1, cagree_2, sameR_ok, sameV_int, sameV_bool, sameV_slice, Bool.false_eq_true, setArgs_nil, setArgs_cons, Bool.not_true, Bool.not_false, isEffC_pur, isEffC_alc, isEffC_red, isEffC_eff, retK_ret, retK_normal, resVs_tmp, resVs_nil, retV_one, retV_two]
    rw [hap]; rfl)]
  simp only [Ov_pur, Ov_red, Ov_alc, Ov_st, Ov_g, Ov_nil, Dv_pur, Dv_red, Dv_alc, Dv_st, Dv_g, Dv_nil, c_mv, c_bin, c_un, c_conv, c_pick, cPick_bool, c_fld, cFld_agg, c_fldA, c_nilc, nilChk_ptr, c_ext, oExtract_tuple, c_ixA, natR_nat, natR_ofNat, natR_lit, natR_zero, natR_one, oIx_slice, oIx_array, c_ld, c_lens, lenS_slice, cev_t, cev_v, cevs_nil, cevs_cons, putT_some, putT_none, addrR_ptr, moveA_eq, tgs, RK_ok, of_some, bind_ok, ofGet_some, loadC_one, bin_add, bin_sub, bin_lss, bin_leq, bin_gtr, bin_geq, bin_eql, bin_neq, un_not, conv_int, nextK_normal, nextK_exit, nextK_ret, blkK_normal, blkK_ret, blkK_exit, boolIs_t, boolIs_f, boolIs_u, ↓reduceIte, Nat.reduceEqDiff, cpur_build, alc_new, alc_bsl, sliceNB_eq, cfill_nil, cfill_cons, vc_int, vc_slice, vc_agg, vc_bool, vc_ptr, cellV_int, cellV_bool, cellV_slice, cellV_ptr, cellL_nil, cellL_cons, nbV_ptr, nbO_ptr, nbV_slice, nbO_slice, List.getElem?_cons_zero, List.getElem?_cons_succ, List.length_cons, List.length_nil, List.take_zero, List.take_succ_cons, List.drop_zero, List.drop_succ_cons, List.drop_nil, List.nil_append, List.cons_append, List.append_nil, Nat.zero_add, Nat.add_zero, Nat.mul_one, Nat.reduceAdd, Nat.reduceLeDiff, Bool.and_self, Bool.and_true, Bool.true_and, true_and, and_true, cagree_0, cagree_1, cagree_2, sameR_ok, sameV_int, sameV_bool, sameV_slice, Bool.false_eq_true, setArgs_nil, setArgs_cons, Bool.not_true, Bool.not_false, isEffC_pur, isEffC_alc, isEffC_red, isEffC_eff, retK_ret, retK_normal, resVs_tmp, resVs_nil, retV_one, retV_two, hout, t7, hql, (svV_cell _).2]
  rw [RK_st1 hbo6 (svV_cell _).1 (by rw [svs_len]; exact hql), svs_set]
  refine ⟨sv.set q (some (nx' + 1), g.length + 1), by simpa using t10, by simpa using t11, by simpa using t12, by simpa using t4, ?_, ?_, fun b hb => ?_, by omega⟩
  · rw [hgs, if_neg (by omega), hk6 nx (by omega), hgs, if_neg (by omega)]; exact gm
  · rw [hst]; simpa [hout] using hL3
  · rw [hgs, if_neg (by omega), hk6 b (by omega), hgs, if_neg (by omega)]; exact hk b hb
theorem groups_cv {f kt : Nat} (hcf : compAt P f = some (cfGroups kt)) (ho : orc f = none) (hkt : isIntTy P kt = true) {vl : Value} {l : List Int} {h : Hp} {nx : Nat} (hvl : SlRd h nx vl encI l) (hll : l.length ≤ 100) :
    Cv P orc s f [vl] h nx (GrpK l nx h) := by
  refine Cv.enter ho hcf ?_
  unfold cfGroups
  obtain ⟨al, capl, rfl, _⟩ := id hvl
  refine Ev.seq (Ev.regO ?_)
  simp only [Ov_pur, Ov_red, Ov_alc, Ov_st, Ov_g, Ov_nil, Dv_pur, Dv_red, Dv_alc, Dv_st, Dv_g, Dv_nil, c_mv, c_bin, c_un, c_conv, c_pick, cPick_bool, c_fld, cFld_agg, c_fldA, c_nilc, nilChk_ptr, c_ext, oExtract_tuple, c_ixA, natR_nat, natR_ofNat, natR_lit, natR_zero, natR_one, oIx_slice, oIx_array, c_ld, c_lens, lenS_slice, cev_t, cev_v, cevs_nil, cevs_cons, putT_some, putT_none, addrR_ptr, moveA_eq, tgs, RK_ok, of_some, bind_ok, ofGet_some, loadC_one, bin_add, bin_sub, bin_lss, bin_leq, bin_gtr, bin_geq, bin_eql, bin_neq, un_not, conv_int, nextK_normal, nextK_exit, nextK_ret, blkK_normal, blkK_ret, blkK_exit, boolIs_t, boolIs_f, boolIs_u, ↓reduceIte, Nat.reduceEqDiff, cpur_build, alc_new, alc_bsl, sliceNB_eq, cfill_nil, cfill_cons, vc_int, vc_slice, vc_agg, vc_bool, vc_ptr, cellV_int, cellV_bool, cellV_slice, cellV_ptr, cellL_nil, cellL_cons, nbV_ptr, nbO_ptr, nbV_slice, nbO_slice, List.getElem?_cons_zero, List.getElem?_cons_succ, List.length_cons, List.length_nil, List.take_zero, List.take_succ_cons, List.drop_zero, List.drop_succ_cons, List.drop_nil, List.nil_append, List.cons_append, List.append_nil, Nat.zero_add, Nat.add_zero, Nat.mul_one, Nat.reduceAdd, Nat.reduceLeDiff, Bool.and_self, Bool.and_true, Bool.true_and, true_and, and_true, cagree_0, cagree_1, cagree_2, sameR_ok, sameV_int, sameV_bool, sameV_slice, Bool.false_eq_true, setArgs_nil, setArgs_cons, Bool.not_true, Bool.not_false, isEffC_pur, isEffC_alc, isEffC_red, isEffC_eff, retK_ret, retK_normal, resVs_tmp, resVs_nil, retV_one, retV_two]
  refine Ev.seq (Ev.regO ?_)
  simp only [Ov_pur, Ov_red, Ov_alc, Ov_st, Ov_g, Ov_nil, Dv_pur, Dv_red, Dv_alc, Dv_st, Dv_g, Dv_nil, c_mv, c_bin, c_un, c_conv, c_pick, cPick_bool, c_fld, cFld_agg, c_fldA, c_nilc, nilChk_ptr, c_ext, oExtract_tuple, c_ixA, natR_nat, natR_ofNat, natR_lit, natR_zero, natR_one, oIx_slice, oIx_array, c_ld, c_lens, lenS_slice, cev_t, cev_v, cevs_nil, cevs_cons, putT_some, putT_none, addrR_ptr, moveA_eq, tgs, RK_ok, of_some, bind_ok, ofGet_some, loadC_one, bin_add, bin_sub, bin_lss, bin_leq, bin_gtr, bin_geq, bin_eql, bin_neq, un_not, conv_int, nextK_normal, nextK_exit, nextK_ret, blkK_normal, blkK_ret, blkK_exit, boolIs_t, boolIs_f, boolIs_u, ↓reduceIte, Nat.reduceEqDiff, cpur_build, alc_new, alc_bsl, sliceNB_eq, cfill_nil, cfill_cons, vc_int, vc_slice, vc_agg, vc_bool, vc_ptr, cellV_int, cellV_bool, cellV_slice, cellV_ptr, cellL_nil, cellL_cons, nbV_ptr, nbO_ptr, nbV_slice, nbO_slice, List.getElem?_cons_zero, List.getElem?_cons_succ, List.length_cons, List.length_nil, List.take_zero, List.take_succ_cons, List.drop_zero, List.drop_succ_cons, List.drop_nil, List.nil_append, List.cons_append, List.append_nil, Nat.zero_add, Nat.add_zero, Nat.mul_one, Nat.reduceAdd, Nat.reduceLeDiff, Bool.and_self, Bool.and_true, Bool.true_and, true_and, and_true, cagree_0, cagree_1, cagree_2, sameR_ok, sameV_int, sameV_bool, sameV_slice, Bool.false_eq_true, setArgs_nil, setArgs_cons, Bool.not_true, Bool.not_false, isEffC_pur, isEffC_alc, isEffC_red, isEffC_eff, retK_ret, retK_normal, resVs_tmp, resVs_nil, retV_one, retV_two]
  refine Ev.seq (Ev.regO ?_)
  simp only [Ov_pur, Ov_red, Ov_alc, Ov_st, Ov_g, Ov_nil, Dv_pur, Dv_red, Dv_alc, Dv_st, Dv_g, Dv_nil, c_mv, c_bin, c_un, c_conv, c_pick, cPick_bool, c_fld, cFld_agg, c_fldA, c_nilc, nilChk_ptr, c_ext, oExtract_tuple, c_ixA, natR_nat, natR_ofNat, natR_lit, natR_zero, natR_one, oIx_slice, oIx_array, c_ld, c_lens, lenS_slice, cev_t, cev_v, cevs_nil, cevs_cons, putT_some, putT_none, addrR_ptr, moveA_eq, tgs, RK_ok, of_some, bind_ok, ofGet_some, loadC_one, bin_add, bin_sub, bin_lss, bin_leq, bin_gtr, bin_geq, bin_eql, bin_neq, un_not, conv_int, nextK_normal, nextK_exit, nextK_ret, blkK_normal, blkK_ret, blkK_exit, boolIs_t, boolIs_f, boolIs_u, ↓reduceIte, Nat.reduceEqDiff, cpur_build, alc_new, alc_bsl, sliceNB_eq, cfill_nil, cfill_cons, vc_int, vc_slice, vc_agg, vc_bool, vc_ptr, cellV_int, cellV_bool, cellV_slice, cellV_ptr, cellL_nil, cellL_cons, nbV_ptr, nbO_ptr, nbV_slice, nbO_slice, List.getElem?_cons_zero, List.getElem?_cons_succ, List.length_cons, List.length_nil, List.take_zero, List.take_succ_cons, List.drop_zero, List.drop_succ_cons, List.drop_nil, List.nil_append, List.cons_append, List.append_nil, Nat.zero_add, Nat.add_zero, Nat.mul_one, Nat.reduceAdd, Nat.reduceLeDiff, Bool.and_self, Bool.and_true, Bool.true_and, true_and, and_true, cagree_0, cagree_1, cagree_2, sameR_ok, sameV_int, sameV_bool, sameV_slice, Bool.false_eq_true, setArgs_nil, setArgs_cons, Bool.not_true, Bool.not_false, isEffC_pur, isEffC_alc, isEffC_red, isEffC_eff, retK_ret, retK_normal, resVs_tmp, resVs_nil, retV_one, retV_two, show ∀ tm, calq P tm .mkm = .ok .map from fun _ => rfl, show ∀ n, nbV n .map = .map (some n) from fun _ => rfl, show nbO .map = .map [] 0 from rfl]
  refine Ev.cut (GrpJ (.slice al l.length capl) l nx h 0) ?_ ?_
  · refine Ev.seq (Ev.regO ?_)
    simp only [Ov_pur, Ov_red, Ov_alc, Ov_st, Ov_g, Ov_nil, Dv_pur, Dv_red, Dv_alc, Dv_st, Dv_g, Dv_nil, c_mv, c_bin, c_un, c_conv, c_pick, cPick_bool, c_fld, cFld_agg, c_fldA, c_nilc, nilChk_ptr, c_ext, oExtract_tuple, c_ixA, natR_nat, natR_ofNat, natR_lit, natR_zero, natR_one, oIx_slice, oIx_array, c_ld, c_lens, lenS_slice, cev_t, cev_v, cevs_nil, cevs_cons, putT_some, putT_none, addrR_ptr, moveA_eq, tgs, RK_ok, of_some, bind_ok, ofGet_some, loadC_one, bin_add, bin_sub, bin_lss, bin_leq, bin_gtr, bin_geq, bin_eql, bin_neq, un_not, conv_int, nextK_normal, nextK_exit, nextK_ret, blkK_normal, blkK_ret, blkK_exit, boolIs_t, boolIs_f, boolIs_u, ↓reduceIte, Nat.reduceEqDiff, cpur_build, alc_new, alc_bsl, sliceNB_eq, cfill_nil, cfill_cons, vc_int, vc_slice, vc_agg, vc_bool, vc_ptr, cellV_int, cellV_bool, cellV_slice, cellV_ptr, cellL_nil, cellL_cons, nbV_ptr, nbO_ptr, nbV_slice, nbO_slice, List.getElem?_cons_zero, List.getElem?_cons_succ, List.length_cons, List.length_nil, List.take_zero, List.take_succ_cons, List.drop_zero, List.drop_succ_cons, List.drop_nil, List.nil_append, List.cons_append, List.append_nil, Nat.zero_add, Nat.add_zero, Nat.mul_one, Nat.reduceAdd, Nat.reduceLeDiff, Bool.and_self, Bool.and_true, Bool.true_and, true_and, and_true, cagree_0, cagree_1, cagree_2, sameR_ok, sameV_int, sameV_bool, sameV_slice, Bool.false_eq_true, setArgs_nil, setArgs_cons, Bool.not_true, Bool.not_false, isEffC_pur, isEffC_alc, isEffC_red, isEffC_eff, retK_ret, retK_normal, resVs_tmp, resVs_nil, retV_one, retV_two]
    refine Ev.forR (GrpJ (.slice al l.length capl) l nx h) ?_ l.length _ _ _ ⟨0, [], rfl, by omega, by simp, by simp, by simp, by simp, by simp [gst, mkG], by simp [gst]; exact Lol.nil, fun b hb => by rw [hgs, if_neg (by omega)], by omega⟩
    rintro m tm h' nx' ⟨i, sv, rfl, hi, t10, t11, t12, t4, gm, hL, hk, hnx⟩
    simp only [Ov_pur, Ov_red, Ov_alc, Ov_st, Ov_g, Ov_nil, Dv_pur, Dv_red, Dv_alc, Dv_st, Dv_g, Dv_nil, c_mv, c_bin, c_un, c_conv, c_pick, cPick_bool, c_fld, cFld_agg, c_fldA, c_nilc, nilChk_ptr, c_ext, oExtract_tuple, c_ixA, natR_nat, natR_ofNat, natR_lit, natR_zero, natR_one, oIx_slice, oIx_array, c_ld, c_lens, lenS_slice, cev_t, cev_v, cevs_nil, cevs_cons, putT_some, putT_none, addrR_ptr, moveA_eq, tgs, RK_ok, of_some, bind_ok, ofGet_some, loadC_one, bin_add, bin_sub, bin_lss, bin_leq, bin_gtr, bin_geq, bin_eql, bin_neq, un_not, conv_int, nextK_normal, nextK_exit, nextK_ret, blkK_normal, blkK_ret, blkK_exit, boolIs_t, boolIs_f, boolIs_u, ↓reduceIte, Nat.reduceEqDiff, cpur_build, alc_new, alc_bsl, sliceNB_eq, cfill_nil, cfill_cons, vc_int, vc_slice, vc_agg, vc_bool, vc_ptr, cellV_int, cellV_bool, cellV_slice, cellV_ptr, cellL_nil, cellL_cons, nbV_ptr, nbO_ptr, nbV_slice, nbO_slice, List.getElem?_cons_zero, List.getElem?_cons_succ, List.length_cons, List.length_nil, List.take_zero, List.take_succ_cons, List.drop_zero, List.drop_succ_cons, List.drop_nil, List.nil_append, List.cons_append, List.append_nil, Nat.zero_add, Nat.add_zero, Nat.mul_one, Nat.reduceAdd, Nat.reduceLeDiff, Bool.and_self, Bool.and_true, Bool.true_and, true_and, and_true, cagree_0, cagree_1, cagree_2, sameR_ok, sameV_int, sameV_bool, sameV_slice, Bool.false_eq_true, setArgs_nil, setArgs_cons, Bool.not_true, Bool.not_false, isEffC_pur, isEffC_alc, isEffC_red, isEffC_eff, retK_ret, retK_normal, resVs_tmp, resVs_nil, retV_one, retV_two, t11, t12]
    refine ⟨decide ((i : Int) < l.length), rfl, fun e => ?_, fun e => ?_⟩
    · have : ¬ ((i : Int) < l.length) := of_decide_eq_false e
      exact ⟨i, sv, by omega, hi, by simpa using t10, by simpa using t11, by simpa using t12, by simpa using t4, gm, by simpa using hL, hk, hnx⟩
    · have hil : i < l.length := by
        have : (i : Int) < l.length := of_decide_eq_true e
        omega
      obtain ⟨x, hx⟩ : ∃ x, l[i]? = some x := ⟨_, List.getElem?_eq_getElem hil⟩
      obtain ⟨_, bl, spl, rol, capl', hbln, hveq, hbl⟩ := hvl.at hx
      injection hveq with e1 e2 e3
      subst e1
      rw [flat_ints] at hbl
      have gl := (hk bl hbln).trans hbl
      obtain ⟨n1, n2, n3⟩ := gst_len l i
      have hst := gst_succ hx
      refine Ev.cutE' (GrpR (.slice (some ⟨bl, 0, spl⟩) l.length capl) l i nx h) ?_ ?_
      · rintro tm h' nx' ⟨sv, t10, t11, t12, t4, gm, hL, hk, hnx⟩
        simp only [Ov_pur, Ov_red, Ov_alc, Ov_st, Ov_g, Ov_nil, Dv_pur, Dv_red, Dv_alc, Dv_st, Dv_g, Dv_nil, c_mv, c_bin, c_un, c_conv, c_pick, cPick_bool, c_fld, cFld_agg, c_fldA, c_nilc, nilChk_ptr, c_ext, oExtract_tuple, c_ixA, natR_nat, natR_ofNat, natR_lit, natR_zero, natR_one, oIx_slice, oIx_array, c_ld, c_lens, lenS_slice, cev_t, cev_v, cevs_nil, cevs_cons, putT_some, putT_none, addrR_ptr, moveA_eq, tgs, RK_ok, of_some, bind_ok, ofGet_some, loadC_one, bin_add, bin_sub, bin_lss, bin_leq, bin_gtr, bin_geq, bin_eql, bin_neq, un_not, conv_int, nextK_normal, nextK_exit, nextK_ret, blkK_normal, blkK_ret, blkK_exit, boolIs_t, boolIs_f, boolIs_u, ↓reduceIte, Nat.reduceEqDiff, cpur_build, alc_new, alc_bsl, sliceNB_eq, cfill_nil, cfill_cons, vc_int, vc_slice, vc_agg, vc_bool, vc_ptr, cellV_int, cellV_bool, cellV_slice, cellV_ptr, cellL_nil, cellL_cons, nbV_ptr, nbO_ptr, nbV_slice, nbO_slice, List.getElem?_cons_zero, List.getElem?_cons_succ, List.length_cons, List.length_nil, List.take_zero, List.take_succ_cons, List.drop_zero, List.drop_succ_cons, List.drop_nil, List.nil_append, List.cons_append, List.append_nil, Nat.zero_add, Nat.add_zero, Nat.mul_one, Nat.reduceAdd, Nat.reduceLeDiff, Bool.and_self, Bool.and_true, Bool.true_and, true_and, and_true, cagree_0, cagree_1, cagree_2, sameR_ok, sameV_int, sameV_bool, sameV_slice, Bool.false_eq_true, setArgs_nil, setArgs_cons, Bool.not_true, Bool.not_false, isEffC_pur, isEffC_alc, isEffC_red, isEffC_eff, retK_ret, retK_normal, resVs_tmp, resVs_nil, retV_one, retV_two, t12]
        refine ⟨l.length - (i + 1), by omega, i + 1, sv, rfl, by omega, by simpa using t10, by simpa using t11, ?_, by simpa using t4, gm, by simpa using hL, hk, hnx⟩
        rw [wrapS (by omega) (by omega)]; simp
      refine Ev.seq (Ev.regO ?_)
      simp only [Ov_pur, Ov_red, Ov_alc, Ov_st, Ov_g, Ov_nil, Dv_pur, Dv_red, Dv_alc, Dv_st, Dv_g, Dv_nil, c_mv, c_bin, c_un, c_conv, c_pick, cPick_bool, c_fld, cFld_agg, c_fldA, c_nilc, nilChk_ptr, c_ext, oExtract_tuple, c_ixA, natR_nat, natR_ofNat, natR_lit, natR_zero, natR_one, oIx_slice, oIx_array, c_ld, c_lens, lenS_slice, cev_t, cev_v, cevs_nil, cevs_cons, putT_some, putT_none, addrR_ptr, moveA_eq, tgs, RK_ok, of_some, bind_ok, ofGet_some, loadC_one, bin_add, bin_sub, bin_lss, bin_leq, bin_gtr, bin_geq, bin_eql, bin_neq, un_not, conv_int, nextK_normal, nextK_exit, nextK_ret, blkK_normal, blkK_ret, blkK_exit, boolIs_t, boolIs_f, boolIs_u, ↓reduceIte, Nat.reduceEqDiff, cpur_build, alc_new, alc_bsl, sliceNB_eq, cfill_nil, cfill_cons, vc_int, vc_slice, vc_agg, vc_bool, vc_ptr, cellV_int, cellV_bool, cellV_slice, cellV_ptr, cellL_nil, cellL_cons, nbV_ptr, nbO_ptr, nbV_slice, nbO_slice, List.getElem?_cons_zero, List.getElem?_cons_succ, List.length_cons, List.length_nil, List.take_zero, List.take_succ_cons, List.drop_zero, List.drop_succ_cons, List.drop_nil, List.nil_append, List.cons_append, List.append_nil, Nat.zero_add, Nat.add_zero, Nat.mul_one, Nat.reduceAdd, Nat.reduceLeDiff, Bool.and_self, Bool.and_true, Bool.true_and, true_and, and_true, cagree_0, cagree_1, cagree_2, sameR_ok, sameV_int, sameV_bool, sameV_slice, Bool.false_eq_true, setArgs_nil, setArgs_cons, Bool.not_true, Bool.not_false, isEffC_pur, isEffC_alc, isEffC_red, isEffC_eff, retK_ret, retK_normal, resVs_tmp, resVs_nil, retV_one, retV_two, t10, t12, hil, cellsOf_some gl, ints_get hx]
      refine Ev.genT (fun tm2 => tget tm2 10 = tget tm 10 ∧ tget tm2 11 = tget tm 11 ∧ tget tm2 12 = tget tm 12 ∧ tget tm2 4 = tget tm 4 ∧ tget tm2 3 = tget tm 3 ∧ tget tm2 5 = .int .i64 (i : Int) ∧ tget tm2 6 = .int .i64 x) (by simp) ?_
      rintro tm2 ⟨u10, u11, u12, u4, u3, u5, u6⟩
      rw [t10] at u10; rw [t11] at u11; rw [t12] at u12; rw [t4] at u4
      refine Ev.seq (Ev.regO ?_)
      cases hq : gidx x (gst l i).1 with
      | none =>
        have hst' : gst l (i + 1) = ((gst l i).1 ++ [x], (gst l i).2 ++ [[i]]) := by rw [hst]; unfold gstep; rw [hq]
        simp only [Ov_pur, Ov_red, Ov_alc, Ov_st, Ov_g, Ov_nil, Dv_pur, Dv_red, Dv_alc, Dv_st, Dv_g, Dv_nil, c_mv, c_bin, c_un, c_conv, c_pick, cPick_bool, c_fld, cFld_agg, c_fldA, c_nilc, nilChk_ptr, c_ext, oExtract_tuple, c_ixA, natR_nat, natR_ofNat, natR_lit, natR_zero, natR_one, oIx_slice, oIx_array, c_ld, c_lens, lenS_slice, cev_t, cev_v, cevs_nil, cevs_cons, putT_some, putT_none, addrR_ptr, moveA_eq, tgs, RK_ok, of_some, bind_ok, ofGet_some, loadC_one, bin_add, bin_sub, bin_lss, bin_leq, bin_gtr, bin_geq, bin_eql, bin_neq, un_not, conv_int, nextK_normal, nextK_exit, nextK_ret, blkK_normal, blkK_ret, blkK_exit, boolIs_t, boolIs_f, boolIs_u, ↓reduceIte, Nat.reduceEqDiff, cpur_build, alc_new, alc_bsl, sliceNB_eq, cfill_nil, cfill_cons, vc_int, vc_slice, vc_agg, vc_bool, vc_ptr, cellV_int, cellV_bool, cellV_slice, cellV_ptr, cellL_nil, cellL_cons, nbV_ptr, nbO_ptr, nbV_slice, nbO_slice, List.getElem?_cons_zero, List.getElem?_cons_succ, List.length_cons, List.length_nil, List.take_zero, List.take_succ_cons, List.drop_zero, List.drop_succ_cons, List.drop_nil, List.nil_append, List.cons_append, List.append_nil, Nat.zero_add, Nat.add_zero, Nat.mul_one, Nat.reduceAdd, Nat.reduceLeDiff, Bool.and_self, Bool.and_true, Bool.true_and, true_and, and_true, cagree_0, cagree_1, cagree_2, sameR_ok, sameV_int, sameV_bool, sameV_slice, Bool.false_eq_true, setArgs_nil, setArgs_cons, Bool.not_true, Bool.not_false, isEffC_pur, isEffC_alc, isEffC_red, isEffC_eff, retK_ret, retK_normal, resVs_tmp, resVs_nil, retV_one, retV_two, u4, u6, c_lkp, lkp_g hkt gm, hq]
        refine Ev.cut (GrpQ (.slice (some ⟨bl, 0, spl⟩) l.length capl) l i nx h) ?_ ?_
        · refine Ev.seq (Ev.regO ?_)
          simp only [Ov_pur, Ov_red, Ov_alc, Ov_st, Ov_g, Ov_nil, Dv_pur, Dv_red, Dv_alc, Dv_st, Dv_g, Dv_nil, c_mv, c_bin, c_un, c_conv, c_pick, cPick_bool, c_fld, cFld_agg, c_fldA, c_nilc, nilChk_ptr, c_ext, oExtract_tuple, c_ixA, natR_nat, natR_ofNat, natR_lit, natR_zero, natR_one, oIx_slice, oIx_array, c_ld, c_lens, lenS_slice, cev_t, cev_v, cevs_nil, cevs_cons, putT_some, putT_none, addrR_ptr, moveA_eq, tgs, RK_ok, of_some, bind_ok, ofGet_some, loadC_one, bin_add, bin_sub, bin_lss, bin_leq, bin_gtr, bin_geq, bin_eql, bin_neq, un_not, conv_int, nextK_normal, nextK_exit, nextK_ret, blkK_normal, blkK_ret, blkK_exit, boolIs_t, boolIs_f, boolIs_u, ↓reduceIte, Nat.reduceEqDiff, cpur_build, alc_new, alc_bsl, sliceNB_eq, cfill_nil, cfill_cons, vc_int, vc_slice, vc_agg, vc_bool, vc_ptr, cellV_int, cellV_bool, cellV_slice, cellV_ptr, cellL_nil, cellL_cons, nbV_ptr, nbO_ptr, nbV_slice, nbO_slice, List.getElem?_cons_zero, List.getElem?_cons_succ, List.length_cons, List.length_nil, List.take_zero, List.take_succ_cons, List.drop_zero, List.drop_succ_cons, List.drop_nil, List.nil_append, List.cons_append, List.append_nil, Nat.zero_add, Nat.add_zero, Nat.mul_one, Nat.reduceAdd, Nat.reduceLeDiff, Bool.and_self, Bool.and_true, Bool.true_and, true_and, and_true, cagree_0, cagree_1, cagree_2, sameR_ok, sameV_int, sameV_bool, sameV_slice, Bool.false_eq_true, setArgs_nil, setArgs_cons, Bool.not_true, Bool.not_false, isEffC_pur, isEffC_alc, isEffC_red, isEffC_eff, retK_ret, retK_normal, resVs_tmp, resVs_nil, retV_one, retV_two]
          refine Ev.cond true (by simp) (fun _ => ?_) (by simp)
          refine Ev.seq (Ev.regO ?_)
          simp only [Ov_pur, Ov_red, Ov_alc, Ov_st, Ov_g, Ov_nil, Dv_pur, Dv_red, Dv_alc, Dv_st, Dv_g, Dv_nil, c_mv, c_bin, c_un, c_conv, c_pick, cPick_bool, c_fld, cFld_agg, c_fldA, c_nilc, nilChk_ptr, c_ext, oExtract_tuple, c_ixA, natR_nat, natR_ofNat, natR_lit, natR_zero, natR_one, oIx_slice, oIx_array, c_ld, c_lens, lenS_slice, cev_t, cev_v, cevs_nil, cevs_cons, putT_some, putT_none, addrR_ptr, moveA_eq, tgs, RK_ok, of_some, bind_ok, ofGet_some, loadC_one, bin_add, bin_sub, bin_lss, bin_leq, bin_gtr, bin_geq, bin_eql, bin_neq, un_not, conv_int, nextK_normal, nextK_exit, nextK_ret, blkK_normal, blkK_ret, blkK_exit, boolIs_t, boolIs_f, boolIs_u, ↓reduceIte, Nat.reduceEqDiff, cpur_build, alc_new, alc_bsl, sliceNB_eq, cfill_nil, cfill_cons, vc_int, vc_slice, vc_agg, vc_bool, vc_ptr, cellV_int, cellV_bool, cellV_slice, cellV_ptr, cellL_nil, cellL_cons, nbV_ptr, nbO_ptr, nbV_slice, nbO_slice, List.getElem?_cons_zero, List.getElem?_cons_succ, List.length_cons, List.length_nil, List.take_zero, List.take_succ_cons, List.drop_zero, List.drop_succ_cons, List.drop_nil, List.nil_append, List.cons_append, List.append_nil, Nat.zero_add, Nat.add_zero, Nat.mul_one, Nat.reduceAdd, Nat.reduceLeDiff, Bool.and_self, Bool.and_true, Bool.true_and, true_and, and_true, cagree_0, cagree_1, cagree_2, sameR_ok, sameV_int, sameV_bool, sameV_slice, Bool.false_eq_true, setArgs_nil, setArgs_cons, Bool.not_true, Bool.not_false, isEffC_pur, isEffC_alc, isEffC_red, isEffC_eff, retK_ret, retK_normal, resVs_tmp, resVs_nil, retV_one, retV_two, u3, show ∀ tm h x, cred P tm h (.lens x) = lenS (cev tm x) from fun _ _ _ => rfl, hL.lens]
          refine Ev.seq (Ev.regO ?_)
          simp only [Ov_pur, Ov_red, Ov_alc, Ov_st, Ov_g, Ov_nil, Dv_pur, Dv_red, Dv_alc, Dv_st, Dv_g, Dv_nil, c_mv, c_bin, c_un, c_conv, c_pick, cPick_bool, c_fld, cFld_agg, c_fldA, c_nilc, nilChk_ptr, c_ext, oExtract_tuple, c_ixA, natR_nat, natR_ofNat, natR_lit, natR_zero, natR_one, oIx_slice, oIx_array, c_ld, c_lens, lenS_slice, cev_t, cev_v, cevs_nil, cevs_cons, putT_some, putT_none, addrR_ptr, moveA_eq, tgs, RK_ok, of_some, bind_ok, ofGet_some, loadC_one, bin_add, bin_sub, bin_lss, bin_leq, bin_gtr, bin_geq, bin_eql, bin_neq, un_not, conv_int, nextK_normal, nextK_exit, nextK_ret, blkK_normal, blkK_ret, blkK_exit, boolIs_t, boolIs_f, boolIs_u, ↓reduceIte, Nat.reduceEqDiff, cpur_build, alc_new, alc_bsl, sliceNB_eq, cfill_nil, cfill_cons, vc_int, vc_slice, vc_agg, vc_bool, vc_ptr, cellV_int, cellV_bool, cellV_slice, cellV_ptr, cellL_nil, cellL_cons, nbV_ptr, nbO_ptr, nbV_slice, nbO_slice, List.getElem?_cons_zero, List.getElem?_cons_succ, List.length_cons, List.length_nil, List.take_zero, List.take_succ_cons, List.drop_zero, List.drop_succ_cons, List.drop_nil, List.nil_append, List.cons_append, List.append_nil, Nat.zero_add, Nat.add_zero, Nat.mul_one, Nat.reduceAdd, Nat.reduceLeDiff, Bool.and_self, Bool.and_true, Bool.true_and, true_and, and_true, cagree_0, cagree_1, cagree_2, sameR_ok, sameV_int, sameV_bool, sameV_slice, Bool.false_eq_true, setArgs_nil, setArgs_cons, Bool.not_true, Bool.not_false, isEffC_pur, isEffC_alc, isEffC_red, isEffC_eff, retK_ret, retK_normal, resVs_tmp, resVs_nil, retV_one, retV_two, u4, u6]
          rw [Ov_eff (v := undefV) (h' := hset h' nx (.map (mkG 0 ((gst l i).1 ++ [x])) ((gst l i).1 ++ [x]).length)) (nx' := nx') (by
            show uOf nx' (cMup P kt h' (cev _ (.t 27)) (cev _ (.t 28)) (cev _ (.t 29))) = _
            simp only [Ov_pur, Ov_red, Ov_alc, Ov_st, Ov_g, Ov_nil, Dv_pur, Dv_red, Dv_alc, Dv_st, Dv_g, Dv_nil, c_mv, c_bin, c_un, c_conv, c_pick, cPick_bool, c_fld, cFld_agg, c_fldA, c_nilc, nilChk_ptr, c_ext, oExtract_tuple, c_ixA, natR_nat, natR_ofNat, natR_lit, natR_zero, natR_one, oIx_slice, oIx_array, c_ld, c_lens, lenS_slice, cev_t, cev_v, cevs_nil, cevs_cons, putT_some, putT_none, addrR_ptr, moveA_eq, tgs, RK_ok, of_some, bind_ok, ofGet_some, loadC_one, bin_add, bin_sub, bin_lss, bin_leq, bin_gtr, bin_geq, bin_eql, bin_neq, un_not, conv_int, nextK_normal, nextK_exit, nextK_ret, blkK_normal, blkK_ret, blkK_exit, boolIs_t, boolIs_f, boolIs_u, ↓reduceIte, Nat.reduceEqDiff, cpur_build, alc_new, alc_bsl, sliceNB_eq, cfill_nil, cfill_cons, vc_int, vc_slice, vc_agg, vc_bool, vc_ptr, cellV_int, cellV_bool, cellV_slice, cellV_ptr, cellL_nil, cellL_cons, nbV_ptr, nbO_ptr, nbV_slice, nbO_slice, List.getElem?_cons_zero, List.getElem?_cons_succ, List.length_cons, List.length_nil, List.take_zero, List.take_succ_cons, List.drop_zero, List.drop_succ_cons, List.drop_nil, List.nil_append, List.cons_append, List.append_nil, Nat.zero_add, Nat.add_zero, Nat.mul_one, Nat.reduceAdd, Nat.reduceLeDiff, Bool.and_self, Bool.and_true, Bool.true_and, true_and, and_true, cagree_0, cagree_1, cagree_2, sameR_ok, sameV_int, sameV_bool, sameV_slice, Bool.false_eq_true, setArgs_nil, setArgs_cons, Bool.not_true, Bool.not_false, isEffC_pur, isEffC_alc, isEffC_red, isEffC_eff, retK_ret, retK_normal, resVs_tmp, resVs_nil, retV_one, retV_two]
            rw [← n1, mup_g hkt gm hq]; rfl)]
          simp only [Ov_pur, Ov_red, Ov_alc, Ov_st, Ov_g, Ov_nil, Dv_pur, Dv_red, Dv_alc, Dv_st, Dv_g, Dv_nil, c_mv, c_bin, c_un, c_conv, c_pick, cPick_bool, c_fld, cFld_agg, c_fldA, c_nilc, nilChk_ptr, c_ext, oExtract_tuple, c_ixA, natR_nat, natR_ofNat, natR_lit, natR_zero, natR_one, oIx_slice, oIx_array, c_ld, c_lens, lenS_slice, cev_t, cev_v, cevs_nil, cevs_cons, putT_some, putT_none, addrR_ptr, moveA_eq, tgs, RK_ok, of_some, bind_ok, ofGet_some, loadC_one, bin_add, bin_sub, bin_lss, bin_leq, bin_gtr, bin_geq, bin_eql, bin_neq, un_not, conv_int, nextK_normal, nextK_exit, nextK_ret, blkK_normal, blkK_ret, blkK_exit, boolIs_t, boolIs_f, boolIs_u, ↓reduceIte, Nat.reduceEqDiff, cpur_build, alc_new, alc_bsl, sliceNB_eq, cfill_nil, cfill_cons, vc_int, vc_slice, vc_agg, vc_bool, vc_ptr, cellV_int, cellV_bool, cellV_slice, cellV_ptr, cellL_nil, cellL_cons, nbV_ptr, nbO_ptr, nbV_slice, nbO_slice, List.getElem?_cons_zero, List.getElem?_cons_succ, List.length_cons, List.length_nil, List.take_zero, List.take_succ_cons, List.drop_zero, List.drop_succ_cons, List.drop_nil, List.nil_append, List.cons_append, List.append_nil, Nat.zero_add, Nat.add_zero, Nat.mul_one, Nat.reduceAdd, Nat.reduceLeDiff, Bool.and_self, Bool.and_true, Bool.true_and, true_and, and_true, cagree_0, cagree_1, cagree_2, sameR_ok, sameV_int, sameV_bool, sameV_slice, Bool.false_eq_true, setArgs_nil, setArgs_cons, Bool.not_true, Bool.not_false, isEffC_pur, isEffC_alc, isEffC_red, isEffC_eff, retK_ret, retK_normal, resVs_tmp, resVs_nil, retV_one, retV_two]
          have hL2 := hL.keep (h' := hset (hset h' nx (.map (mkG 0 ((gst l i).1 ++ [x])) ((gst l i).1 ++ [x]).length)) nx' (.cells [.slice none 0 0] false)) (hi' := nx' + 1) (fun b h1 h2 => by rw [hgs, if_neg (by omega), hgs, if_neg (by omega)]) (by omega)
          refine Ev.regO ?_
          simp only [Ov_pur, Ov_red, Ov_alc, Ov_st, Ov_g, Ov_nil, Dv_pur, Dv_red, Dv_alc, Dv_st, Dv_g, Dv_nil, c_mv, c_bin, c_un, c_conv, c_pick, cPick_bool, c_fld, cFld_agg, c_fldA, c_nilc, nilChk_ptr, c_ext, oExtract_tuple, c_ixA, natR_nat, natR_ofNat, natR_lit, natR_zero, natR_one, oIx_slice, oIx_array, c_ld, c_lens, lenS_slice, cev_t, cev_v, cevs_nil, cevs_cons, putT_some, putT_none, addrR_ptr, moveA_eq, tgs, RK_ok, of_some, bind_ok, ofGet_some, loadC_one, bin_add, bin_sub, bin_lss, bin_leq, bin_gtr, bin_geq, bin_eql, bin_neq, un_not, conv_int, nextK_normal, nextK_exit, nextK_ret, blkK_normal, blkK_ret, blkK_exit, boolIs_t, boolIs_f, boolIs_u, ↓reduceIte, Nat.reduceEqDiff, cpur_build, alc_new, alc_bsl, sliceNB_eq, cfill_nil, cfill_cons, vc_int, vc_slice, vc_agg, vc_bool, vc_ptr, cellV_int, cellV_bool, cellV_slice, cellV_ptr, cellL_nil, cellL_cons, nbV_ptr, nbO_ptr, nbV_slice, nbO_slice, List.getElem?_cons_zero, List.getElem?_cons_succ, List.length_cons, List.length_nil, List.take_zero, List.take_succ_cons, List.drop_zero, List.drop_succ_cons, List.drop_nil, List.nil_append, List.cons_append, List.append_nil, Nat.zero_add, Nat.add_zero, Nat.mul_one, Nat.reduceAdd, Nat.reduceLeDiff, Bool.and_self, Bool.and_true, Bool.true_and, true_and, and_true, cagree_0, cagree_1, cagree_2, sameR_ok, sameV_int, sameV_bool, sameV_slice, Bool.false_eq_true, setArgs_nil, setArgs_cons, Bool.not_true, Bool.not_false, isEffC_pur, isEffC_alc, isEffC_red, isEffC_eff, retK_ret, retK_normal, resVs_tmp, resVs_nil, retV_one, retV_two, u3]
          obtain ⟨h6, out', hap, hL3, hk6⟩ := hL2.push (by omega) (b2 := nx') (by simp) (by omega)
          rw [Ov_eff (v := out') (h' := h6) (nx' := nx' + 1 + 1) (by
            show orR (appendA 1 _ _ (cev _ (.t 30)) (cev _ (.t 31))) = _
            simp only [Ov_pur, Ov_red, Ov_alc, Ov_st, Ov_g, Ov_nil, Dv_pur, Dv_red, Dv_alc, Dv_st, Dv_g, Dv_nil, c_mv, c_bin, c_un, c_conv, c_pick, cPick_bool, c_fld, cFld_agg, c_fldA, c_nilc, nilChk_ptr, c_ext, oExtract_tuple, c_ixA, natR_nat, natR_ofNat, natR_lit, natR_zero, natR_one, oIx_slice, oIx_array, c_ld, c_lens, lenS_slice, cev_t, cev_v, cevs_nil, cevs_cons, putT_some, putT_none, addrR_ptr, moveA_eq, tgs, RK_ok, of_some, bind_ok, ofGet_some, loadC_one, bin_add, bin_sub, bin_lss, bin_leq, bin_gtr, bin_geq, bin_eql, bin_neq, un_not, conv_int, nextK_normal, nextK_exit, nextK_ret, blkK_normal, blkK_ret, blkK_exit, boolIs_t, boolIs_f, boolIs_u, ↓reduceIte, Nat.reduceEqDiff, cpur_build, alc_new, alc_bsl, sliceNB_eq, cfill_nil, cfill_cons, vc_int, vc_slice, vc_agg, vc_bool, vc_ptr, cellV_int, cellV_bool, cellV_slice, cellV_ptr, cellL_nil, cellL_cons, nbV_ptr, nbO_ptr, nbV_slice, nbO_slice, List.getElem?_cons_zero, List.getElem?_cons_succ, List.length_cons, List.length_nil, List.take_zero, List.take_succ_cons, List.drop_zero, List.drop_succ_cons, List.drop_nil, List.nil_append, List.cons_append, List.append_nil, Nat.zero_add, Nat.add_zero, Nat.mul_one, Nat.reduceAdd, Nat.reduceLeDiff, Bool.and_self, Bool.and_true, Bool.true_and, true_and, and_true, cagree_0, cagree_1, cagree_2, sameR_ok, sameV_int, sameV_bool, sameV_slice, Bool.false_eq_true, setArgs_nil, setArgs_cons, Bool.not_true, Bool.not_false, isEffC_pur, isEffC_alc, isEffC_red, isEffC_eff, retK_ret, retK_normal, resVs_tmp, resVs_nil, retV_one, retV_two, u3]
            rw [hap]; rfl)]
          simp only [Ov_pur, Ov_red, Ov_alc, Ov_st, Ov_g, Ov_nil, Dv_pur, Dv_red, Dv_alc, Dv_st, Dv_g, Dv_nil, c_mv, c_bin, c_un, c_conv, c_pick, cPick_bool, c_fld, cFld_agg, c_fldA, c_nilc, nilChk_ptr, c_ext, oExtract_tuple, c_ixA, natR_nat, natR_ofNat, natR_lit, natR_zero, natR_one, oIx_slice, oIx_array, c_ld, c_lens, lenS_slice, cev_t, cev_v, cevs_nil, cevs_cons, putT_some, putT_none, addrR_ptr, moveA_eq, tgs, RK_ok, of_some, bind_ok, ofGet_some, loadC_one, bin_add, bin_sub, bin_lss, bin_leq, bin_gtr, bin_geq, bin_eql, bin_neq, un_not, conv_int, nextK_normal, nextK_exit, nextK_ret, blkK_normal, blkK_ret, blkK_exit, boolIs_t, boolIs_f, boolIs_u, ↓reduceIte, Nat.reduceEqDiff, cpur_build, alc_new, alc_bsl, sliceNB_eq, cfill_nil, cfill_cons, vc_int, vc_slice, vc_agg, vc_bool, vc_ptr, cellV_int, cellV_bool, cellV_slice, cellV_ptr, cellL_nil, cellL_cons, nbV_ptr, nbO_ptr, nbV_slice, nbO_slice, List.getElem?_cons_zero, List.getElem?_cons_succ, List.length_cons, List.length_nil, List.take_zero, List.take_succ_cons, List.drop_zero, List.drop_succ_cons, List.drop_nil, List.nil_append, List.cons_append, List.append_nil, Nat.zero_add, Nat.add_zero, Nat.mul_one, Nat.reduceAdd, Nat.reduceLeDiff, Bool.and_self, Bool.and_true, Bool.true_and, true_and, and_true, cagree_0, cagree_1, cagree_2, sameR_ok, sameV_int, sameV_bool, sameV_slice, Bool.false_eq_true, setArgs_nil, setArgs_cons, Bool.not_true, Bool.not_false, isEffC_pur, isEffC_alc, isEffC_red, isEffC_eff, retK_ret, retK_normal, resVs_tmp, resVs_nil, retV_one, retV_two]
          refine ⟨_, _, (gst l i).2.length, [], by simp [u10], by simp [u11], by simp [u12], by simp [u4], by simp [u5], by simp, ?_, by simpa using hL3, by simp, by simp, ?_, fun b hb => ?_, by omega⟩
          · rw [hk6 nx (by omega), hgs, if_neg (by omega), hst']; simp
          · rw [hst']; simp
          · rw [hk6 b (by omega), hgs, if_neg (by omega), hgs, if_neg (by omega)]; exact hk b hb
        · exact grp_last hil hll
      | some q =>
        have hql := lt_of_get (gidx_some hq)
        rw [n1] at hql
        have hg : (gst l i).2[q]? = some ((gst l i).2[q]'hql) := List.getElem?_eq_getElem _
        have hst' : gst l (i + 1) = ((gst l i).1, (gst l i).2.set q ((gst l i).2[q]'hql ++ [i])) := by
          rw [hst]; unfold gstep; rw [hq]; simp [List.getD, hql]
        simp only [Ov_pur, Ov_red, Ov_alc, Ov_st, Ov_g, Ov_nil, Dv_pur, Dv_red, Dv_alc, Dv_st, Dv_g, Dv_nil, c_mv, c_bin, c_un, c_conv, c_pick, cPick_bool, c_fld, cFld_agg, c_fldA, c_nilc, nilChk_ptr, c_ext, oExtract_tuple, c_ixA, natR_nat, natR_ofNat, natR_lit, natR_zero, natR_one, oIx_slice, oIx_array, c_ld, c_lens, lenS_slice, cev_t, cev_v, cevs_nil, cevs_cons, putT_some, putT_none, addrR_ptr, moveA_eq, tgs, RK_ok, of_some, bind_ok, ofGet_some, loadC_one, bin_add, bin_sub, bin_lss, bin_leq, bin_gtr, bin_geq, bin_eql, bin_neq, un_not, conv_int, nextK_normal, nextK_exit, nextK_ret, blkK_normal, blkK_ret, blkK_exit, boolIs_t, boolIs_f, boolIs_u, ↓reduceIte, Nat.reduceEqDiff, cpur_build, alc_new, alc_bsl, sliceNB_eq, cfill_nil, cfill_cons, vc_int, vc_slice, vc_agg, vc_bool, vc_ptr, cellV_int, cellV_bool, cellV_slice, cellV_ptr, cellL_nil, cellL_cons, nbV_ptr, nbO_ptr, nbV_slice, nbO_slice, List.getElem?_cons_zero, List.getElem?_cons_succ, List.length_cons, List.length_nil, List.take_zero, List.take_succ_cons, List.drop_zero, List.drop_succ_cons, List.drop_nil, List.nil_append, List.cons_append, List.append_nil, Nat.zero_add, Nat.add_zero, Nat.mul_one, Nat.reduceAdd, Nat.reduceLeDiff, Bool.and_self, Bool.and_true, Bool.true_and, true_and, and_true, cagree_0, cagree_1, cagree_2, sameR_ok, sameV_int, sameV_bool, sameV_slice, Bool.false_eq_true, setArgs_nil, setArgs_cons, Bool.not_true, Bool.not_false, isEffC_pur, isEffC_alc, isEffC_red, isEffC_eff, retK_ret, retK_normal, resVs_tmp, resVs_nil, retV_one, retV_two, u4, u6, c_lkp, lkp_g hkt gm, hq]
        refine Ev.cut (GrpQ (.slice (some ⟨bl, 0, spl⟩) l.length capl) l i nx h) ?_ ?_
        · refine Ev.seq (Ev.regO ?_)
          simp only [Ov_pur, Ov_red, Ov_alc, Ov_st, Ov_g, Ov_nil, Dv_pur, Dv_red, Dv_alc, Dv_st, Dv_g, Dv_nil, c_mv, c_bin, c_un, c_conv, c_pick, cPick_bool, c_fld, cFld_agg, c_fldA, c_nilc, nilChk_ptr, c_ext, oExtract_tuple, c_ixA, natR_nat, natR_ofNat, natR_lit, natR_zero, natR_one, oIx_slice, oIx_array, c_ld, c_lens, lenS_slice, cev_t, cev_v, cevs_nil, cevs_cons, putT_some, putT_none, addrR_ptr, moveA_eq, tgs, RK_ok, of_some, bind_ok, ofGet_some, loadC_one, bin_add, bin_sub, bin_lss, bin_leq, bin_gtr, bin_geq, bin_eql, bin_neq, un_not, conv_int, nextK_normal, nextK_exit, nextK_ret, blkK_normal, blkK_ret, blkK_exit, boolIs_t, boolIs_f, boolIs_u, ↓reduceIte, Nat.reduceEqDiff, cpur_build, alc_new, alc_bsl, sliceNB_eq, cfill_nil, cfill_cons, vc_int, vc_slice, vc_agg, vc_bool, vc_ptr, cellV_int, cellV_bool, cellV_slice, cellV_ptr, cellL_nil, cellL_cons, nbV_ptr, nbO_ptr, nbV_slice, nbO_slice, List.getElem?_cons_zero, List.getElem?_cons_succ, List.length_cons, List.length_nil, List.take_zero, List.take_succ_cons, List.drop_zero, List.drop_succ_cons, List.drop_nil, List.nil_append, List.cons_append, List.append_nil, Nat.zero_add, Nat.add_zero, Nat.mul_one, Nat.reduceAdd, Nat.reduceLeDiff, Bool.and_self, Bool.and_true, Bool.true_and, true_and, and_true, cagree_0, cagree_1, cagree_2, sameR_ok, sameV_int, sameV_bool, sameV_slice, Bool.false_eq_true, setArgs_nil, setArgs_cons, Bool.not_true, Bool.not_false, isEffC_pur, isEffC_alc, isEffC_red, isEffC_eff, retK_ret, retK_normal, resVs_tmp, resVs_nil, retV_one, retV_two]
          refine Ev.cond false (by simp) (by simp) (fun _ => Ev.skip ?_)
          refine ⟨sv, _, q, _, by simp [u10], by simp [u11], by simp [u12], by simp [u4], by simp [u5], by simp, ?_, by simpa [u3] using hL, hg, n3 _ (List.getElem_mem hql), ?_, hk, hnx⟩
          · rw [hst']; exact gm
          · rw [hst']
        · exact grp_last hil hll
  · rintro tm h' nx' ⟨i, sv, hi0, hi, t10, t11, t12, t4, gm, hL, hk, hnx⟩
    have : i = l.length := by omega
    subst this
    refine Ev.seq (Ev.regO ?_)
    simp only [Ov_pur, Ov_red, Ov_alc, Ov_st, Ov_g, Ov_nil, Dv_pur, Dv_red, Dv_alc, Dv_st, Dv_g, Dv_nil, c_mv, c_bin, c_un, c_conv, c_pick, cPick_bool, c_fld, cFld_agg, c_fldA, c_nilc, nilChk_ptr, c_ext, oExtract_tuple, c_ixA, natR_nat, natR_ofNat, natR_lit, natR_zero, natR_one, oIx_slice, oIx_array, c_ld, c_lens, lenS_slice, cev_t, cev_v, cevs_nil, cevs_cons, putT_some, putT_none, addrR_ptr, moveA_eq, tgs, RK_ok, of_some, bind_ok, ofGet_some, loadC_one, bin_add, bin_sub, bin_lss, bin_leq, bin_gtr, bin_geq, bin_eql, bin_neq, un_not, conv_int, nextK_normal, nextK_exit, nextK_ret, blkK_normal, blkK_ret, blkK_exit, boolIs_t, boolIs_f, boolIs_u, ↓reduceIte, Nat.reduceEqDiff, cpur_build, alc_new, alc_bsl, sliceNB_eq, cfill_nil, cfill_cons, vc_int, vc_slice, vc_agg, vc_bool, vc_ptr, cellV_int, cellV_bool, cellV_slice, cellV_ptr, cellL_nil, cellL_cons, nbV_ptr, nbO_ptr, nbV_slice, nbO_slice, List.getElem?_cons_zero, List.getElem?_cons_succ, List.length_cons, List.length_nil, List.take_zero, List.take_succ_cons, List.drop_zero, List.drop_succ_cons, List.drop_nil, List.nil_append, List.cons_append, List.append_nil, Nat.zero_add, Nat.add_zero, Nat.mul_one, Nat.reduceAdd, Nat.reduceLeDiff, Bool.and_self, Bool.and_true, Bool.true_and, true_and, and_true, cagree_0, cagree_1, cagree_2, sameR_ok, sameV_int, sameV_bool, sameV_slice, Bool.false_eq_true, setArgs_nil, setArgs_cons, Bool.not_true, Bool.not_false, isEffC_pur, isEffC_alc, isEffC_red, isEffC_eff, retK_ret, retK_normal, resVs_tmp, resVs_nil, retV_one, retV_two]
    refine Ev.ret ?_
    simp only [Ov_pur, Ov_red, Ov_alc, Ov_st, Ov_g, Ov_nil, Dv_pur, Dv_red, Dv_alc, Dv_st, Dv_g, Dv_nil, c_mv, c_bin, c_un, c_conv, c_pick, cPick_bool, c_fld, cFld_agg, c_fldA, c_nilc, nilChk_ptr, c_ext, oExtract_tuple, c_ixA, natR_nat, natR_ofNat, natR_lit, natR_zero, natR_one, oIx_slice, oIx_array, c_ld, c_lens, lenS_slice, cev_t, cev_v, cevs_nil, cevs_cons, putT_some, putT_none, addrR_ptr, moveA_eq, tgs, RK_ok, of_some, bind_ok, ofGet_some, loadC_one, bin_add, bin_sub, bin_lss, bin_leq, bin_gtr, bin_geq, bin_eql, bin_neq, un_not, conv_int, nextK_normal, nextK_exit, nextK_ret, blkK_normal, blkK_ret, blkK_exit, boolIs_t, boolIs_f, boolIs_u, ↓reduceIte, Nat.reduceEqDiff, cpur_build, alc_new, alc_bsl, sliceNB_eq, cfill_nil, cfill_cons, vc_int, vc_slice, vc_agg, vc_bool, vc_ptr, cellV_int, cellV_bool, cellV_slice, cellV_ptr, cellL_nil, cellL_cons, nbV_ptr, nbO_ptr, nbV_slice, nbO_slice, List.getElem?_cons_zero, List.getElem?_cons_succ, List.length_cons, List.length_nil, List.take_zero, List.take_succ_cons, List.drop_zero, List.drop_succ_cons, List.drop_nil, List.nil_append, List.cons_append, List.append_nil, Nat.zero_add, Nat.add_zero, Nat.mul_one, Nat.reduceAdd, Nat.reduceLeDiff, Bool.and_self, Bool.and_true, Bool.true_and, true_and, and_true, cagree_0, cagree_1, cagree_2, sameR_ok, sameV_int, sameV_bool, sameV_slice, Bool.false_eq_true, setArgs_nil, setArgs_cons, Bool.not_true, Bool.not_false, isEffC_pur, isEffC_alc, isEffC_red, isEffC_eff, retK_ret, retK_normal, resVs_tmp, resVs_nil, retV_one, retV_two]
    exact ⟨sv, hL, hk, hnx⟩
end
end Go.Ax

/-! part AxH16 -/
namespace Go.Ax
open Go
set_option linter.unusedSimpArgs false
set_option linter.unusedVariables false

/-! # law29.CompsOnly -/
def cfCompsOnly (fm fl fg fw fc fk fv : Nat) : CF := { res := [.tmp 6], body :=
 (.seq (.regO [⟨none, (some 3), 0, .alc (.box (.t 0))⟩,
   ⟨none, (some 6), 0, .pur (.mv (.v (.bool false)))⟩])
 (.seq (.regO [⟨none, (some 15), 0, .red (.ld (some 5) (.t 3))⟩,
   ⟨none, (some 16), 0, .eff (.call fm [(.t 15)])⟩,
   ⟨none, (some 14), 0, .pur (.mv (.t 16))⟩,
   ⟨none, (some 17), 0, .pur (.ext (.t 14) 0)⟩,
   ⟨none, (some 18), 0, .pur (.ext (.t 14) 1)⟩,
   ⟨none, (some 19), 0, .pur (.ext (.t 14) 2)⟩,
   ⟨none, (some 20), 0, .pur (.ext (.t 14) 3)⟩,
   ⟨none, (some 7), 0, .alc (.new [(.int .i64 0), (.slice none 0 0)])⟩,
   ⟨none, none, 0, .eff (.st 2 (.t 7) (.t 17))⟩,
   ⟨none, (some 8), 0, .pur (.mv (.t 18))⟩,
   ⟨none, (some 9), 0, .pur (.mv (.t 19))⟩,
   ⟨none, (some 10), 0, .pur (.mv (.t 20))⟩])
 (.seq (.regO [⟨none, (some 21), 0, .red (.ld (some 2) (.t 7))⟩,
   ⟨none, (some 22), 0, .eff (.call fl [(.t 21)])⟩,
   ⟨none, (some 11), 0, .pur (.mv (.t 22))⟩])
 (.seq (.regO [⟨none, (some 23), 0, .pur (.mv (.t 11))⟩,
   ⟨none, (some 24), 0, .eff (.call fg [(.t 23)])⟩,
   ⟨none, (some 12), 0, .pur (.mv (.t 24))⟩])
 (.seq (.seq (.regO [⟨none, (some 13), 0, .pur (.mv (.v (.int .i64 0)))⟩])
 (.block 0
  (.loop
   (.seq (.seq (.regO [⟨none, (some 25), 0, .pur (.mv (.t 13))⟩,
     ⟨none, (some 26), 0, .pur (.mv (.t 12))⟩,
     ⟨none, (some 27), 0, .red (.lens (.t 26))⟩,
     ⟨none, (some 28), 0, .pur (.bin .lss 3 (.t 25) (.t 27))⟩])
   (.cond (.t 28)
    .skip
    (.exit 0)))
   (.seq (.block 1
    (.seq (.regD [⟨none, (some 31), 0, .pur (.mv (.t 12))⟩,
      ⟨none, (some 32), 0, .pur (.mv (.t 13))⟩,
      ⟨none, (some 33), 0, .pur (.ixA (.slice 1) (.t 31) (.t 32))⟩,
      ⟨none, (some 34), 0, .red (.ld none (.t 33))⟩,
      ⟨none, (some 35), 0, .red (.lens (.t 34))⟩,
      ⟨none, (some 36), 0, .pur (.bin .eql 3 (.t 35) (.v (.int .i64 0)))⟩,
      ⟨none, (some 37), 0, .pur (.mv (.t 36))⟩,
      ⟨(some (37, false)), (some 38), 0, .pur (.mv (.t 11))⟩,
      ⟨(some (37, false)), (some 39), 0, .pur (.mv (.t 12))⟩,
      ⟨(some (37, false)), (some 40), 0, .pur (.mv (.t 13))⟩,
      ⟨(some (37, false)), (some 41), 0, .pur (.ixA (.slice 1) (.t 39) (.t 40))⟩,
      ⟨(some (37, false)), (some 42), 0, .red (.ld none (.t 41))⟩,
      ⟨(some (37, false)), (some 43), 0, .pur (.ixA (.slice 1) (.t 42) (.v (.int .i64 0)))⟩,
      ⟨(some (37, false)), (some 44), 0, .red (.ld none (.t 43))⟩,
      ⟨(some (37, false)), (some 45), 0, .pur (.ixA (.slice 1) (.t 38) (.t 44))⟩,
      ⟨(some (37, false)), (some 46), 0, .red (.ld none (.t 45))⟩,
      ⟨(some (37, false)), (some 47), 0, .pur (.mv (.t 12))⟩,
      ⟨(some (37, false)), (some 48), 0, .pur (.mv (.t 13))⟩,
      ⟨(some (37, false)), (some 49), 0, .pur (.ixA (.slice 1) (.t 47) (.t 48))⟩,
      ⟨(some (37, false)), (some 50), 0, .red (.ld none (.t 49))⟩,
      ⟨(some (37, false)), (some 51), 0, .pur (.ixA (.slice 1) (.t 50) (.v (.int .i64 0)))⟩,
      ⟨(some (37, false)), (some 52), 0, .red (.ld none (.t 51))⟩,
      ⟨(some (37, false)), (some 53), 0, .pur (.bin .neq 2 (.t 46) (.t 52))⟩,
      ⟨none, (some 54), 0, .pur (.pick (.t 37) (.v (.bool true)) (.t 53))⟩])
    (.cond (.t 54)
     (.seq (.regO [⟨none, (some 6), 0, .pur (.mv (.v (.bool false)))⟩])
     .ret)
     .skip)))
   (.regO [⟨none, (some 29), 0, .pur (.mv (.t 13))⟩,
     ⟨none, (some 30), 0, .pur (.bin .add 3 (.t 29) (.v (.int .i64 1)))⟩,
     ⟨none, (some 13), 0, .pur (.mv (.t 30))⟩]))))))
 (.seq (.regO [⟨none, (some 55), 0, .pur (.mv (.t 11))⟩,
   ⟨none, (some 56), 0, .pur (.mv (.t 1))⟩,
   ⟨none, (some 57), 0, .pur (.fldA 0 (.t 7))⟩,
   ⟨none, (some 58), 0, .red (.ld none (.t 57))⟩,
   ⟨none, (some 59), 0, .eff (.call fw [(.t 56), (.t 58)])⟩,
   ⟨none, (some 60), 0, .pur (.ixA (.slice 1) (.t 55) (.t 59))⟩,
   ⟨none, (some 61), 0, .red (.ld none (.t 60))⟩,
   ⟨none, (some 62), 0, .pur (.mv (.t 2))⟩,
   ⟨none, (some 63), 0, .pur (.bin .add 2 (.t 61) (.t 62))⟩,
   ⟨none, (some 64), 0, .pur (.ixA (.slice 1) (.t 55) (.t 59))⟩,
   ⟨none, none, 0, .eff (.st 1 (.t 64) (.t 63))⟩])
 (.seq (.regO [⟨none, (some 65), 0, .eff (.call fv [])⟩,
   ⟨none, (some 66), 0, .pur (.mv (.t 65))⟩,
   ⟨(some (66, true)), (some 67), 0, .pur (.mv (.t 12))⟩,
   ⟨(some (66, true)), (some 68), 0, .red (.lens (.t 67))⟩,
   ⟨(some (66, true)), (some 69), 0, .red (.ld (some 2) (.t 7))⟩,
   ⟨(some (66, true)), (some 70), 0, .eff (.call fc [(.t 69)])⟩,
   ⟨(some (66, true)), (some 71), 0, .pur (.bin .eql 3 (.t 68) (.t 70))⟩,
   ⟨none, (some 72), 0, .pur (.pick (.t 66) (.t 71) (.v (.bool false)))⟩,
   ⟨none, (some 73), 0, .pur (.mv (.t 72))⟩,
   ⟨(some (73, true)), (some 74), 0, .red (.ld (some 2) (.t 7))⟩,
   ⟨(some (73, true)), (some 75), 0, .pur (.mv (.t 11))⟩,
   ⟨(some (73, true)), (some 76), 0, .eff (.call fk [(.t 74), (.t 75)])⟩,
   ⟨(some (73, true)), (some 77), 0, .pur (.mv (.t 2))⟩,
   ⟨(some (73, true)), (some 78), 0, .pur (.bin .eql 2 (.t 77) (.v (.int .i64 0)))⟩,
   ⟨(some (73, true)), (some 79), 0, .pur (.bin .eql 4 (.t 76) (.t 78))⟩,
   ⟨none, (some 80), 0, .pur (.pick (.t 73) (.t 79) (.v (.bool false)))⟩,
   ⟨none, (some 6), 0, .pur (.mv (.t 80))⟩])
 .ret))))))) }
structure GrpLab (L : List Nat) (i : Nat) (st : List Int × List (List Nat)) : Prop where
  a : ∀ k, k < i → L[k]? = some k → (k : Int) ∈ st.1
  b : ∀ y ∈ st.1, ∃ k : Nat, k < i ∧ y = (k : Int)
  c : st.2.length = selfs L i
  d : ∀ (q : Nat) (g : List Nat), st.2[q]? = some g → ∃ u rest, g = u :: rest ∧ L[u]? = some u
theorem grp_lab {n : Nat} {es : List GE} {L : List Nat} (hL : IsLab n es L) : ∀ i, i ≤ n → GrpLab L i (gst (nats L) i)
  | 0, _ => ⟨fun k hk => absurd hk (Nat.not_lt_zero _), fun y hy => (by cases hy), rfl, fun q g hg => by simp [gst] at hg⟩
  | i + 1, hi => by
    have G := grp_lab hL i (by omega)
    have hx : L[i]? = some (L[i]'(by rw [hL.len]; omega)) := List.getElem?_eq_getElem _
    generalize L[i]'(by rw [hL.len]; omega) = x at hx
    have hxi := hL.le i x hx
    have hxx := hL.own hx
    have hss := selfs_succ L i
    rw [gst_succ (nats_get hx)]
    unfold gstep
    obtain ⟨n1, n2, n3⟩ := gst_len (nats L) i
    cases hq : gidx (x : Int) (gst (nats L) i).1 with
    | none =>
      have hnot := gidx_none hq
      have hxe : x = i := by
        rcases Nat.lt_or_ge x i with h | h
        · exact absurd (G.a x h hxx) hnot
        · omega
      subst hxe
      rw [if_pos hx] at hss
      refine ⟨fun k hk hkk => ?_, fun y hy => ?_, by simp [G.c, hss], fun q g hg => ?_⟩
      · by_cases hkx : k < x
        · exact List.mem_append_left _ (G.a k hkx hkk)
        · have : k = x := by omega
          subst this
          simp
      · rcases List.mem_append.1 hy with hy | hy
        · obtain ⟨k, hk, e⟩ := G.b y hy
          exact ⟨k, by omega, e⟩
        · exact ⟨x, by omega, List.mem_singleton.1 hy⟩
      · rw [List.getElem?_append] at hg
        split at hg
        · exact G.d q g hg
        · have hlt := lt_of_get hg
          have e : q - (gst (nats L) x).2.length = 0 := by simpa using hlt
          rw [e] at hg
          simp at hg
          exact ⟨x, [], hg.symm, hx⟩
    | some q =>
      have hmem := List.mem_of_getElem? (gidx_some hq)
      obtain ⟨k, hk, hke⟩ := G.b _ hmem
      have hxk : x = k := by omega
      have hne : ¬ (L[i]? = some i) := fun h => by rw [hx] at h; cases h; omega
      rw [if_neg hne] at hss
      have hql := lt_of_get (gidx_some hq)
      rw [n1] at hql
      refine ⟨fun k hk hkk => ?_, fun y hy => ?_, by simp [G.c, hss], fun p g hg => ?_⟩
      · by_cases hki : k < i
        · exact G.a k hki hkk
        · have : k = i := by omega
          subst this
          exact absurd hkk hne
      · obtain ⟨k, hk, e⟩ := G.b y hy
        exact ⟨k, by omega, e⟩
      · have hg : ((gst (nats L) i).2.set q ((gst (nats L) i).2.getD q [] ++ [i]))[p]? = some g := hg
        rw [List.getElem?_set] at hg
        split at hg
        · rename_i hqp
          cases hg
          have hgq : (gst (nats L) i).2[q]? = some ((gst (nats L) i).2[q]'hql) := List.getElem?_eq_getElem _
          obtain ⟨u, rest, e, hu⟩ := G.d q _ hgq
          refine ⟨u, rest ++ [i], ?_, hu⟩
          rw [getD_of hgq, e]; rfl
        · exact G.d p g hg
theorem wrap_ne {a : Nat} {b : Int} (ha : a < 1000) (hb : -9223372036854775808 ≤ b ∧ b ≤ 9223372036854775807) : IntKind.wrap .i64 ((a : Int) + b) = (a : Int) ↔ b = 0 := by
  simp only [IntKind.wrap, IntKind.signed, IntKind.bits]
  constructor
  · intro h
    simp at h
    omega
  · intro h
    subst h
    simp
    omega
theorem svV_some (b n : Nat) : svV (some b, n) = .slice (some ⟨b, 0, some 1⟩) n n := rfl
def OnlJ (b5 bl nr : Nat) (n : Nat) (out : Value) (at_ by_ : Int) (N : Nat) (hr : Hp) (m : Nat) (tm : Tm) (h' : Hp) (nx' : Nat) : Prop :=
  ∃ i : Nat, m = n - i ∧ i ≤ n ∧ tget tm 1 = .int .i64 at_ ∧ tget tm 2 = .int .i64 by_ ∧ tget tm 7 = .pointer (some ⟨b5, 0, none⟩) ∧ tget tm 11 = .slice (some ⟨bl, 0, some 1⟩) N N ∧ tget tm 12 = out ∧ tget tm 13 = .int .i64 (i : Int) ∧ h' = hr ∧ nr ≤ nx'
section
variable {P : Program} {orc : Orc} {s : Bool}
theorem bin_bool_eql {t : TypeId} (ht : isBoolTy P t = true) (a b : Bool) : bin P .eql t (.bool a) (.bool b) = .ok (.bool (a == b)) := by
  show R.of "compared" (bif isBoolTy P t then eqlB a (.bool b) else none) (fun b => rBool b) = _
  rw [ht]; rfl
theorem compsOnly_cv {f fm fl fg fw fc' fk fv fg' ty kt fri f1 f2 f3 fc fi te fgr fr : Nat} (A : CompsAt P orc fri f1 f2 f3 fc fi te fgr fr) (hcf : compAt P f = some (cfCompsOnly fm fl fg fw fc' fk fv)) (ho : orc f = none) (hty : aggOf P ty = some (some 2)) (hcm : compAt P fm = some (cfMake fg' fw ty)) (hom : orc fm = none)
    (hcg : compAt P fg' = some (cfGraph fw ty)) (hog : orc fg' = none) (hcw : compAt P fw = some cfWithin) (how : orc fw = none) (hcl : compAt P fl = some cfLabels) (hol : orc fl = none) (hcG : compAt P fg = some (cfGroups kt)) (hoG : orc fg = none) (hkt : isIntTy P kt = true)
    (hcC : compAt P fc' = some (cfCount fri fgr te)) (hoC : orc fc' = none) (hcK : compAt P fk = some (cfCheck fri fgr fr te)) (hoK : orc fk = none) (hv : orc fv = some gLive) (hb4 : isBoolTy P 4 = true)
    {n V R C at_ by_ : Int} {v : Value} {es : List Edg3} {h : Hp} {nx : Nat} (hes : SlRd h nx v enc3 es) (hby : -9223372036854775808 ≤ by_ ∧ by_ ≤ 9223372036854775807) :
    Cv P orc s f [.agg ⟨[.int .i64 n, v, .int .i64 V, .int .u8 R, .int .u8 C]⟩, .int .i64 at_, .int .i64 by_] h nx TrueK := by
  refine Cv.enter ho hcf ?_
  obtain ⟨q1, q2, q3⟩ := sl_vc hes
  unfold cfCompsOnly
  refine Ev.seq (Ev.regO ?_)
  rw [Ov_alc, alc_box (l := [.int .i64 n, v, .int .i64 V, .int .u8 R, .int .u8 C]) (by simp) (by simp [q2])]
  simp only [Ov_pur, Ov_red, Ov_alc, Ov_st, Ov_g, Ov_nil, Dv_pur, Dv_red, Dv_alc, Dv_st, Dv_g, Dv_nil, c_mv, c_bin, c_un, c_conv, c_pick, cPick_bool, c_fld, cFld_agg, c_fldA, c_nilc, nilChk_ptr, c_ext, oExtract_tuple, c_ixA, natR_nat, natR_ofNat, natR_lit, natR_zero, natR_one, oIx_slice, oIx_array, c_ld, c_lens, lenS_slice, cev_t, cev_v, cevs_nil, cevs_cons, putT_some, putT_none, addrR_ptr, moveA_eq, tgs, RK_ok, of_some, bind_ok, ofGet_some, loadC_one, bin_add, bin_sub, bin_lss, bin_leq, bin_gtr, bin_geq, bin_eql, bin_neq, un_not, conv_int, nextK_normal, nextK_exit, nextK_ret, blkK_normal, blkK_ret, blkK_exit, boolIs_t, boolIs_f, boolIs_u, ↓reduceIte, Nat.reduceEqDiff, cpur_build, alc_new, alc_bsl, sliceNB_eq, cfill_nil, cfill_cons, vc_int, vc_slice, vc_agg, vc_bool, vc_ptr, cellV_int, cellV_bool, cellV_slice, cellV_ptr, cellL_nil, cellL_cons, nbV_ptr, nbO_ptr, nbV_slice, nbO_slice, List.getElem?_cons_zero, List.getElem?_cons_succ, List.length_cons, List.length_nil, List.take_zero, List.take_succ_cons, List.drop_zero, List.drop_succ_cons, List.drop_nil, List.nil_append, List.cons_append, List.append_nil, Nat.zero_add, Nat.add_zero, Nat.mul_one, Nat.reduceAdd, Nat.reduceLeDiff, Bool.and_self, Bool.and_true, Bool.true_and, true_and, and_true, cagree_0, cagree_1, cagree_2, sameR_ok, sameV_int, sameV_bool, sameV_slice, Bool.false_eq_true, setArgs_nil, setArgs_cons, Bool.not_true, Bool.not_false, isEffC_pur, isEffC_alc, isEffC_red, isEffC_eff, retK_ret, retK_normal, resVs_tmp, resVs_nil, retV_one, retV_two]
  refine Ev.genH (fun tm2 h2 => tget tm2 1 = .int .i64 at_ ∧ tget tm2 2 = .int .i64 by_ ∧ tget tm2 3 = .pointer (some ⟨nx, 0, none⟩) ∧ Keep nx h h2 ∧ hget h2 nx = some (.cells [.int .i64 n, v, .int .i64 V, .int .u8 R, .int .u8 C] false))
    ⟨by simp, by simp, by simp, fun c hc => by rw [hgs, if_neg (by omega)], by simp⟩ ?_
  rintro tm2 h2 ⟨t1, t2, t3, hk, g2⟩
  refine Ev.seq (Ev.regO ?_)
  simp only [Ov_pur, Ov_red, Ov_alc, Ov_st, Ov_g, Ov_nil, Dv_pur, Dv_red, Dv_alc, Dv_st, Dv_g, Dv_nil, c_mv, c_bin, c_un, c_conv, c_pick, cPick_bool, c_fld, cFld_agg, c_fldA, c_nilc, nilChk_ptr, c_ext, oExtract_tuple, c_ixA, natR_nat, natR_ofNat, natR_lit, natR_zero, natR_one, oIx_slice, oIx_array, c_ld, c_lens, lenS_slice, cev_t, cev_v, cevs_nil, cevs_cons, putT_some, putT_none, addrR_ptr, moveA_eq, tgs, RK_ok, of_some, bind_ok, ofGet_some, loadC_one, bin_add, bin_sub, bin_lss, bin_leq, bin_gtr, bin_geq, bin_eql, bin_neq, un_not, conv_int, nextK_normal, nextK_exit, nextK_ret, blkK_normal, blkK_ret, blkK_exit, boolIs_t, boolIs_f, boolIs_u, ↓reduceIte, Nat.reduceEqDiff, cpur_build, alc_new, alc_bsl, sliceNB_eq, cfill_nil, cfill_cons, vc_int, vc_slice, vc_agg, vc_bool, vc_ptr, cellV_int, cellV_bool, cellV_slice, cellV_ptr, cellL_nil, cellL_cons, nbV_ptr, nbO_ptr, nbV_slice, nbO_slice, List.getElem?_cons_zero, List.getElem?_cons_succ, List.length_cons, List.length_nil, List.take_zero, List.take_succ_cons, List.drop_zero, List.drop_succ_cons, List.drop_nil, List.nil_append, List.cons_append, List.append_nil, Nat.zero_add, Nat.add_zero, Nat.mul_one, Nat.reduceAdd, Nat.reduceLeDiff, Bool.and_self, Bool.and_true, Bool.true_and, true_and, and_true, cagree_0, cagree_1, cagree_2, sameR_ok, sameV_int, sameV_bool, sameV_slice, Bool.false_eq_true, setArgs_nil, setArgs_cons, Bool.not_true, Bool.not_false, isEffC_pur, isEffC_alc, isEffC_red, isEffC_eff, retK_ret, retK_normal, resVs_tmp, resVs_nil, retV_one, retV_two, t3, cellsOf_some g2, loadC_many, Nat.sub_zero, Nat.le_refl]
  refine Ov_call ?_
  (try simp only [Ov_pur, Ov_red, Ov_alc, Ov_st, Ov_g, Ov_nil, Dv_pur, Dv_red, Dv_alc, Dv_st, Dv_g, Dv_nil, c_mv, c_bin, c_un, c_conv, c_pick, cPick_bool, c_fld, cFld_agg, c_fldA, c_nilc, nilChk_ptr, c_ext, oExtract_tuple, c_ixA, natR_nat, natR_ofNat, natR_lit, natR_zero, natR_one, oIx_slice, oIx_array, c_ld, c_lens, lenS_slice, cev_t, cev_v, cevs_nil, cevs_cons, putT_some, putT_none, addrR_ptr, moveA_eq, tgs, RK_ok, of_some, bind_ok, ofGet_some, loadC_one, bin_add, bin_sub, bin_lss, bin_leq, bin_gtr, bin_geq, bin_eql, bin_neq, un_not, conv_int, nextK_normal, nextK_exit, nextK_ret, blkK_normal, blkK_ret, blkK_exit, boolIs_t, boolIs_f, boolIs_u, ↓reduceIte, Nat.reduceEqDiff, cpur_build, alc_new, alc_bsl, sliceNB_eq, cfill_nil, cfill_cons, vc_int, vc_slice, vc_agg, vc_bool, vc_ptr, cellV_int, cellV_bool, cellV_slice, cellV_ptr, cellL_nil, cellL_cons, nbV_ptr, nbO_ptr, nbV_slice, nbO_slice, List.getElem?_cons_zero, List.getElem?_cons_succ, List.length_cons, List.length_nil, List.take_zero, List.take_succ_cons, List.drop_zero, List.drop_succ_cons, List.drop_nil, List.nil_append, List.cons_append, List.append_nil, Nat.zero_add, Nat.add_zero, Nat.mul_one, Nat.reduceAdd, Nat.reduceLeDiff, Bool.and_self, Bool.and_true, Bool.true_and, true_and, and_true, cagree_0, cagree_1, cagree_2, sameR_ok, sameV_int, sameV_bool, sameV_slice, Bool.false_eq_true, setArgs_nil, setArgs_cons, Bool.not_true, Bool.not_false, isEffC_pur, isEffC_alc, isEffC_red, isEffC_eff, retK_ret, retK_normal, resVs_tmp, resVs_nil, retV_one, retV_two])
  refine (make_cv hcm hom hty hcg hog hcw how (hes.keep hk (show nx ≤ nx + 1 by omega))).mono ?_
  rintro r h1 nx1 ⟨N, sr, ra, rb, v2, gs, rfl, hN0, hN, hsr, hgl, hok, hgs1, hnx1, hk1⟩
  obtain ⟨p1, p2, p3⟩ := sl_vc hgs1.rd
  simp only [Ov_pur, Ov_red, Ov_alc, Ov_st, Ov_g, Ov_nil, Dv_pur, Dv_red, Dv_alc, Dv_st, Dv_g, Dv_nil, c_mv, c_bin, c_un, c_conv, c_pick, cPick_bool, c_fld, cFld_agg, c_fldA, c_nilc, nilChk_ptr, c_ext, oExtract_tuple, c_ixA, natR_nat, natR_ofNat, natR_lit, natR_zero, natR_one, oIx_slice, oIx_array, c_ld, c_lens, lenS_slice, cev_t, cev_v, cevs_nil, cevs_cons, putT_some, putT_none, addrR_ptr, moveA_eq, tgs, RK_ok, of_some, bind_ok, ofGet_some, loadC_one, bin_add, bin_sub, bin_lss, bin_leq, bin_gtr, bin_geq, bin_eql, bin_neq, un_not, conv_int, nextK_normal, nextK_exit, nextK_ret, blkK_normal, blkK_ret, blkK_exit, boolIs_t, boolIs_f, boolIs_u, ↓reduceIte, Nat.reduceEqDiff, cpur_build, alc_new, alc_bsl, sliceNB_eq, cfill_nil, cfill_cons, vc_int, vc_slice, vc_agg, vc_bool, vc_ptr, cellV_int, cellV_bool, cellV_slice, cellV_ptr, cellL_nil, cellL_cons, nbV_ptr, nbO_ptr, nbV_slice, nbO_slice, List.getElem?_cons_zero, List.getElem?_cons_succ, List.length_cons, List.length_nil, List.take_zero, List.take_succ_cons, List.drop_zero, List.drop_succ_cons, List.drop_nil, List.nil_append, List.cons_append, List.append_nil, Nat.zero_add, Nat.add_zero, Nat.mul_one, Nat.reduceAdd, Nat.reduceLeDiff, Bool.and_self, Bool.and_true, Bool.true_and, true_and, and_true, cagree_0, cagree_1, cagree_2, sameR_ok, sameV_int, sameV_bool, sameV_slice, Bool.false_eq_true, setArgs_nil, setArgs_cons, Bool.not_true, Bool.not_false, isEffC_pur, isEffC_alc, isEffC_red, isEffC_eff, retK_ret, retK_normal, resVs_tmp, resVs_nil, retV_one, retV_two]
  rw [RK_st (cs := [.int .i64 0, .slice none 0 0]) (by simp) (by simp [p2]) (by simp) (by simp)]
  simp only [Ov_pur, Ov_red, Ov_alc, Ov_st, Ov_g, Ov_nil, Dv_pur, Dv_red, Dv_alc, Dv_st, Dv_g, Dv_nil, c_mv, c_bin, c_un, c_conv, c_pick, cPick_bool, c_fld, cFld_agg, c_fldA, c_nilc, nilChk_ptr, c_ext, oExtract_tuple, c_ixA, natR_nat, natR_ofNat, natR_lit, natR_zero, natR_one, oIx_slice, oIx_array, c_ld, c_lens, lenS_slice, cev_t, cev_v, cevs_nil, cevs_cons, putT_some, putT_none, addrR_ptr, moveA_eq, tgs, RK_ok, of_some, bind_ok, ofGet_some, loadC_one, bin_add, bin_sub, bin_lss, bin_leq, bin_gtr, bin_geq, bin_eql, bin_neq, un_not, conv_int, nextK_normal, nextK_exit, nextK_ret, blkK_normal, blkK_ret, blkK_exit, boolIs_t, boolIs_f, boolIs_u, ↓reduceIte, Nat.reduceEqDiff, cpur_build, alc_new, alc_bsl, sliceNB_eq, cfill_nil, cfill_cons, vc_int, vc_slice, vc_agg, vc_bool, vc_ptr, cellV_int, cellV_bool, cellV_slice, cellV_ptr, cellL_nil, cellL_cons, nbV_ptr, nbO_ptr, nbV_slice, nbO_slice, List.getElem?_cons_zero, List.getElem?_cons_succ, List.length_cons, List.length_nil, List.take_zero, List.take_succ_cons, List.drop_zero, List.drop_succ_cons, List.drop_nil, List.nil_append, List.cons_append, List.append_nil, Nat.zero_add, Nat.add_zero, Nat.mul_one, Nat.reduceAdd, Nat.reduceLeDiff, Bool.and_self, Bool.and_true, Bool.true_and, true_and, and_true, cagree_0, cagree_1, cagree_2, sameR_ok, sameV_int, sameV_bool, sameV_slice, Bool.false_eq_true, setArgs_nil, setArgs_cons, Bool.not_true, Bool.not_false, isEffC_pur, isEffC_alc, isEffC_red, isEffC_eff, retK_ret, retK_normal, resVs_tmp, resVs_nil, retV_one, retV_two]
  refine Ev.genH (fun tm3 h3 => tget tm3 1 = .int .i64 at_ ∧ tget tm3 2 = .int .i64 by_ ∧ tget tm3 7 = .pointer (some ⟨nx1, 0, none⟩) ∧ hget h3 nx1 = some (.cells [.int .i64 (N : Int), v2] false) ∧ Keep nx1 h1 h3)
    ⟨by simp [t1], by simp [t2], by simp, by simp, fun b hb => by rw [hgs, if_neg (by omega), hgs, if_neg (by omega)]⟩ ?_
  rintro tm3 h3 ⟨u1, u2, u7, g5, hk3⟩
  have hgs3 : SlRd h3 (nx1 + 1) v2 encG gs := hgs1.rd.keep hk3 (by omega)
  have hes' : InR N gs := fun e he => ⟨(hok e he).1, (hok e he).2.1⟩
  obtain ⟨L, hL⟩ := exists_lab hes'
  refine Ev.seq (Ev.regO ?_)
  simp only [Ov_pur, Ov_red, Ov_alc, Ov_st, Ov_g, Ov_nil, Dv_pur, Dv_red, Dv_alc, Dv_st, Dv_g, Dv_nil, c_mv, c_bin, c_un, c_conv, c_pick, cPick_bool, c_fld, cFld_agg, c_fldA, c_nilc, nilChk_ptr, c_ext, oExtract_tuple, c_ixA, natR_nat, natR_ofNat, natR_lit, natR_zero, natR_one, oIx_slice, oIx_array, c_ld, c_lens, lenS_slice, cev_t, cev_v, cevs_nil, cevs_cons, putT_some, putT_none, addrR_ptr, moveA_eq, tgs, RK_ok, of_some, bind_ok, ofGet_some, loadC_one, bin_add, bin_sub, bin_lss, bin_leq, bin_gtr, bin_geq, bin_eql, bin_neq, un_not, conv_int, nextK_normal, nextK_exit, nextK_ret, blkK_normal, blkK_ret, blkK_exit, boolIs_t, boolIs_f, boolIs_u, ↓reduceIte, Nat.reduceEqDiff, cpur_build, alc_new, alc_bsl, sliceNB_eq, cfill_nil, cfill_cons, vc_int, vc_slice, vc_agg, vc_bool, vc_ptr, cellV_int, cellV_bool, cellV_slice, cellV_ptr, cellL_nil, cellL_cons, nbV_ptr, nbO_ptr, nbV_slice, nbO_slice, List.getElem?_cons_zero, List.getElem?_cons_succ, List.length_cons, List.length_nil, List.take_zero, List.take_succ_cons, List.drop_zero, List.drop_succ_cons, List.drop_nil, List.nil_append, List.cons_append, List.append_nil, Nat.zero_add, Nat.add_zero, Nat.mul_one, Nat.reduceAdd, Nat.reduceLeDiff, Bool.and_self, Bool.and_true, Bool.true_and, true_and, and_true, cagree_0, cagree_1, cagree_2, sameR_ok, sameV_int, sameV_bool, sameV_slice, Bool.false_eq_true, setArgs_nil, setArgs_cons, Bool.not_true, Bool.not_false, isEffC_pur, isEffC_alc, isEffC_red, isEffC_eff, retK_ret, retK_normal, resVs_tmp, resVs_nil, retV_one, retV_two, u7, cellsOf_some g5, loadC_many, Nat.sub_zero, Nat.le_refl]
  refine Ov_call ?_
  (try simp only [Ov_pur, Ov_red, Ov_alc, Ov_st, Ov_g, Ov_nil, Dv_pur, Dv_red, Dv_alc, Dv_st, Dv_g, Dv_nil, c_mv, c_bin, c_un, c_conv, c_pick, cPick_bool, c_fld, cFld_agg, c_fldA, c_nilc, nilChk_ptr, c_ext, oExtract_tuple, c_ixA, natR_nat, natR_ofNat, natR_lit, natR_zero, natR_one, oIx_slice, oIx_array, c_ld, c_lens, lenS_slice, cev_t, cev_v, cevs_nil, cevs_cons, putT_some, putT_none, addrR_ptr, moveA_eq, tgs, RK_ok, of_some, bind_ok, ofGet_some, loadC_one, bin_add, bin_sub, bin_lss, bin_leq, bin_gtr, bin_geq, bin_eql, bin_neq, un_not, conv_int, nextK_normal, nextK_exit, nextK_ret, blkK_normal, blkK_ret, blkK_exit, boolIs_t, boolIs_f, boolIs_u, ↓reduceIte, Nat.reduceEqDiff, cpur_build, alc_new, alc_bsl, sliceNB_eq, cfill_nil, cfill_cons, vc_int, vc_slice, vc_agg, vc_bool, vc_ptr, cellV_int, cellV_bool, cellV_slice, cellV_ptr, cellL_nil, cellL_cons, nbV_ptr, nbO_ptr, nbV_slice, nbO_slice, List.getElem?_cons_zero, List.getElem?_cons_succ, List.length_cons, List.length_nil, List.take_zero, List.take_succ_cons, List.drop_zero, List.drop_succ_cons, List.drop_nil, List.nil_append, List.cons_append, List.append_nil, Nat.zero_add, Nat.add_zero, Nat.mul_one, Nat.reduceAdd, Nat.reduceLeDiff, Bool.and_self, Bool.and_true, Bool.true_and, true_and, and_true, cagree_0, cagree_1, cagree_2, sameR_ok, sameV_int, sameV_bool, sameV_slice, Bool.false_eq_true, setArgs_nil, setArgs_cons, Bool.not_true, Bool.not_false, isEffC_pur, isEffC_alc, isEffC_red, isEffC_eff, retK_ret, retK_normal, resVs_tmp, resVs_nil, retV_one, retV_two])
  refine (labels_cv hcl hol hgs3 hN0 hN hgl hok hL).mono ?_
  rintro r h4 nx4 ⟨bl, rfl, gl, hbl1, hbl2, hk4⟩
  (try simp only [Ov_pur, Ov_red, Ov_alc, Ov_st, Ov_g, Ov_nil, Dv_pur, Dv_red, Dv_alc, Dv_st, Dv_g, Dv_nil, c_mv, c_bin, c_un, c_conv, c_pick, cPick_bool, c_fld, cFld_agg, c_fldA, c_nilc, nilChk_ptr, c_ext, oExtract_tuple, c_ixA, natR_nat, natR_ofNat, natR_lit, natR_zero, natR_one, oIx_slice, oIx_array, c_ld, c_lens, lenS_slice, cev_t, cev_v, cevs_nil, cevs_cons, putT_some, putT_none, addrR_ptr, moveA_eq, tgs, RK_ok, of_some, bind_ok, ofGet_some, loadC_one, bin_add, bin_sub, bin_lss, bin_leq, bin_gtr, bin_geq, bin_eql, bin_neq, un_not, conv_int, nextK_normal, nextK_exit, nextK_ret, blkK_normal, blkK_ret, blkK_exit, boolIs_t, boolIs_f, boolIs_u, ↓reduceIte, Nat.reduceEqDiff, cpur_build, alc_new, alc_bsl, sliceNB_eq, cfill_nil, cfill_cons, vc_int, vc_slice, vc_agg, vc_bool, vc_ptr, cellV_int, cellV_bool, cellV_slice, cellV_ptr, cellL_nil, cellL_cons, nbV_ptr, nbO_ptr, nbV_slice, nbO_slice, List.getElem?_cons_zero, List.getElem?_cons_succ, List.length_cons, List.length_nil, List.take_zero, List.take_succ_cons, List.drop_zero, List.drop_succ_cons, List.drop_nil, List.nil_append, List.cons_append, List.append_nil, Nat.zero_add, Nat.add_zero, Nat.mul_one, Nat.reduceAdd, Nat.reduceLeDiff, Bool.and_self, Bool.and_true, Bool.true_and, true_and, and_true, cagree_0, cagree_1, cagree_2, sameR_ok, sameV_int, sameV_bool, sameV_slice, Bool.false_eq_true, setArgs_nil, setArgs_cons, Bool.not_true, Bool.not_false, isEffC_pur, isEffC_alc, isEffC_red, isEffC_eff, retK_ret, retK_normal, resVs_tmp, resVs_nil, retV_one, retV_two])
  have hsl : SlRd h4 nx4 (.slice (some ⟨bl, 0, some 1⟩) N N) encI (nats L) := ⟨_, _, by rw [nats_len, hL.len], fun _ => ⟨bl, some 1, false, hbl2, rfl, by rw [flat_ints]; exact gl⟩⟩
  refine Ev.seq (Ev.regO ?_)
  (try simp only [Ov_pur, Ov_red, Ov_alc, Ov_st, Ov_g, Ov_nil, Dv_pur, Dv_red, Dv_alc, Dv_st, Dv_g, Dv_nil, c_mv, c_bin, c_un, c_conv, c_pick, cPick_bool, c_fld, cFld_agg, c_fldA, c_nilc, nilChk_ptr, c_ext, oExtract_tuple, c_ixA, natR_nat, natR_ofNat, natR_lit, natR_zero, natR_one, oIx_slice, oIx_array, c_ld, c_lens, lenS_slice, cev_t, cev_v, cevs_nil, cevs_cons, putT_some, putT_none, addrR_ptr, moveA_eq, tgs, RK_ok, of_some, bind_ok, ofGet_some, loadC_one, bin_add, bin_sub, bin_lss, bin_leq, bin_gtr, bin_geq, bin_eql, bin_neq, un_not, conv_int, nextK_normal, nextK_exit, nextK_ret, blkK_normal, blkK_ret, blkK_exit, boolIs_t, boolIs_f, boolIs_u, ↓reduceIte, Nat.reduceEqDiff, cpur_build, alc_new, alc_bsl, sliceNB_eq, cfill_nil, cfill_cons, vc_int, vc_slice, vc_agg, vc_bool, vc_ptr, cellV_int, cellV_bool, cellV_slice, cellV_ptr, cellL_nil, cellL_cons, nbV_ptr, nbO_ptr, nbV_slice, nbO_slice, List.getElem?_cons_zero, List.getElem?_cons_succ, List.length_cons, List.length_nil, List.take_zero, List.take_succ_cons, List.drop_zero, List.drop_succ_cons, List.drop_nil, List.nil_append, List.cons_append, List.append_nil, Nat.zero_add, Nat.add_zero, Nat.mul_one, Nat.reduceAdd, Nat.reduceLeDiff, Bool.and_self, Bool.and_true, Bool.true_and, true_and, and_true, cagree_0, cagree_1, cagree_2, sameR_ok, sameV_int, sameV_bool, sameV_slice, Bool.false_eq_true, setArgs_nil, setArgs_cons, Bool.not_true, Bool.not_false, isEffC_pur, isEffC_alc, isEffC_red, isEffC_eff, retK_ret, retK_normal, resVs_tmp, resVs_nil, retV_one, retV_two])
  refine Ov_call ?_
  (try simp only [Ov_pur, Ov_red, Ov_alc, Ov_st, Ov_g, Ov_nil, Dv_pur, Dv_red, Dv_alc, Dv_st, Dv_g, Dv_nil, c_mv, c_bin, c_un, c_conv, c_pick, cPick_bool, c_fld, cFld_agg, c_fldA, c_nilc, nilChk_ptr, c_ext, oExtract_tuple, c_ixA, natR_nat, natR_ofNat, natR_lit, natR_zero, natR_one, oIx_slice, oIx_array, c_ld, c_lens, lenS_slice, cev_t, cev_v, cevs_nil, cevs_cons, putT_some, putT_none, addrR_ptr, moveA_eq, tgs, RK_ok, of_some, bind_ok, ofGet_some, loadC_one, bin_add, bin_sub, bin_lss, bin_leq, bin_gtr, bin_geq, bin_eql, bin_neq, un_not, conv_int, nextK_normal, nextK_exit, nextK_ret, blkK_normal, blkK_ret, blkK_exit, boolIs_t, boolIs_f, boolIs_u, ↓reduceIte, Nat.reduceEqDiff, cpur_build, alc_new, alc_bsl, sliceNB_eq, cfill_nil, cfill_cons, vc_int, vc_slice, vc_agg, vc_bool, vc_ptr, cellV_int, cellV_bool, cellV_slice, cellV_ptr, cellL_nil, cellL_cons, nbV_ptr, nbO_ptr, nbV_slice, nbO_slice, List.getElem?_cons_zero, List.getElem?_cons_succ, List.length_cons, List.length_nil, List.take_zero, List.take_succ_cons, List.drop_zero, List.drop_succ_cons, List.drop_nil, List.nil_append, List.cons_append, List.append_nil, Nat.zero_add, Nat.add_zero, Nat.mul_one, Nat.reduceAdd, Nat.reduceLeDiff, Bool.and_self, Bool.and_true, Bool.true_and, true_and, and_true, cagree_0, cagree_1, cagree_2, sameR_ok, sameV_int, sameV_bool, sameV_slice, Bool.false_eq_true, setArgs_nil, setArgs_cons, Bool.not_true, Bool.not_false, isEffC_pur, isEffC_alc, isEffC_red, isEffC_eff, retK_ret, retK_normal, resVs_tmp, resVs_nil, retV_one, retV_two])
  refine (groups_cv hcG hoG hkt hsl (by rw [nats_len, hL.len]; omega)).mono ?_
  rintro out h5 nx5 ⟨sv, hLol, hk5, hnx5⟩
  rw [nats_len, hL.len] at hLol
  have G := grp_lab hL N (Nat.le_refl _)
  (try simp only [Ov_pur, Ov_red, Ov_alc, Ov_st, Ov_g, Ov_nil, Dv_pur, Dv_red, Dv_alc, Dv_st, Dv_g, Dv_nil, c_mv, c_bin, c_un, c_conv, c_pick, cPick_bool, c_fld, cFld_agg, c_fldA, c_nilc, nilChk_ptr, c_ext, oExtract_tuple, c_ixA, natR_nat, natR_ofNat, natR_lit, natR_zero, natR_one, oIx_slice, oIx_array, c_ld, c_lens, lenS_slice, cev_t, cev_v, cevs_nil, cevs_cons, putT_some, putT_none, addrR_ptr, moveA_eq, tgs, RK_ok, of_some, bind_ok, ofGet_some, loadC_one, bin_add, bin_sub, bin_lss, bin_leq, bin_gtr, bin_geq, bin_eql, bin_neq, un_not, conv_int, nextK_normal, nextK_exit, nextK_ret, blkK_normal, blkK_ret, blkK_exit, boolIs_t, boolIs_f, boolIs_u, ↓reduceIte, Nat.reduceEqDiff, cpur_build, alc_new, alc_bsl, sliceNB_eq, cfill_nil, cfill_cons, vc_int, vc_slice, vc_agg, vc_bool, vc_ptr, cellV_int, cellV_bool, cellV_slice, cellV_ptr, cellL_nil, cellL_cons, nbV_ptr, nbO_ptr, nbV_slice, nbO_slice, List.getElem?_cons_zero, List.getElem?_cons_succ, List.length_cons, List.length_nil, List.take_zero, List.take_succ_cons, List.drop_zero, List.drop_succ_cons, List.drop_nil, List.nil_append, List.cons_append, List.append_nil, Nat.zero_add, Nat.add_zero, Nat.mul_one, Nat.reduceAdd, Nat.reduceLeDiff, Bool.and_self, Bool.and_true, Bool.true_and, true_and, and_true, cagree_0, cagree_1, cagree_2, sameR_ok, sameV_int, sameV_bool, sameV_slice, Bool.false_eq_true, setArgs_nil, setArgs_cons, Bool.not_true, Bool.not_false, isEffC_pur, isEffC_alc, isEffC_red, isEffC_eff, retK_ret, retK_normal, resVs_tmp, resVs_nil, retV_one, retV_two])
  have g5a := ((hk5 nx1 (by omega)).trans (hk4 nx1 (by omega))).trans g5
  have gl5 := (hk5 bl (by omega)).trans gl
  have hgs5 : SlRd h5 nx5 v2 encG gs := (hgs3.keep hk4 (by omega)).keep hk5 (by omega)
  refine Ev.cut (OnlJ nx1 bl nx5 (gst (nats L) N).2.length out at_ by_ N h5 0) ?_ ?_
  · refine Ev.seq (Ev.regO ?_)
    simp only [Ov_pur, Ov_red, Ov_alc, Ov_st, Ov_g, Ov_nil, Dv_pur, Dv_red, Dv_alc, Dv_st, Dv_g, Dv_nil, c_mv, c_bin, c_un, c_conv, c_pick, cPick_bool, c_fld, cFld_agg, c_fldA, c_nilc, nilChk_ptr, c_ext, oExtract_tuple, c_ixA, natR_nat, natR_ofNat, natR_lit, natR_zero, natR_one, oIx_slice, oIx_array, c_ld, c_lens, lenS_slice, cev_t, cev_v, cevs_nil, cevs_cons, putT_some, putT_none, addrR_ptr, moveA_eq, tgs, RK_ok, of_some, bind_ok, ofGet_some, loadC_one, bin_add, bin_sub, bin_lss, bin_leq, bin_gtr, bin_geq, bin_eql, bin_neq, un_not, conv_int, nextK_normal, nextK_exit, nextK_ret, blkK_normal, blkK_ret, blkK_exit, boolIs_t, boolIs_f, boolIs_u, ↓reduceIte, Nat.reduceEqDiff, cpur_build, alc_new, alc_bsl, sliceNB_eq, cfill_nil, cfill_cons, vc_int, vc_slice, vc_agg, vc_bool, vc_ptr, cellV_int, cellV_bool, cellV_slice, cellV_ptr, cellL_nil, cellL_cons, nbV_ptr, nbO_ptr, nbV_slice, nbO_slice, List.getElem?_cons_zero, List.getElem?_cons_succ, List.length_cons, List.length_nil, List.take_zero, List.take_succ_cons, List.drop_zero, List.drop_succ_cons, List.drop_nil, List.nil_append, List.cons_append, List.append_nil, Nat.zero_add, Nat.add_zero, Nat.mul_one, Nat.reduceAdd, Nat.reduceLeDiff, Bool.and_self, Bool.and_true, Bool.true_and, true_and, and_true, cagree_0, cagree_1, cagree_2, sameR_ok, sameV_int, sameV_bool, sameV_slice, Bool.false_eq_true, setArgs_nil, setArgs_cons, Bool.not_true, Bool.not_false, isEffC_pur, isEffC_alc, isEffC_red, isEffC_eff, retK_ret, retK_normal, resVs_tmp, resVs_nil, retV_one, retV_two]
    refine Ev.forL (OnlJ nx1 bl nx5 (gst (nats L) N).2.length out at_ by_ N h5) ?_ (gst (nats L) N).2.length _ _ _ ⟨0, rfl, by omega, by simp [u1], by simp [u2], by simp [u7], by simp, by simp, by simp, rfl, Nat.le_refl _⟩
    rintro m tm h' nx' ⟨i, rfl, hi, t1, t2, t7, t11, t12, t13, rfl, hnx'⟩
    simp only [Ov_pur, Ov_red, Ov_alc, Ov_st, Ov_g, Ov_nil, Dv_pur, Dv_red, Dv_alc, Dv_st, Dv_g, Dv_nil, c_mv, c_bin, c_un, c_conv, c_pick, cPick_bool, c_fld, cFld_agg, c_fldA, c_nilc, nilChk_ptr, c_ext, oExtract_tuple, c_ixA, natR_nat, natR_ofNat, natR_lit, natR_zero, natR_one, oIx_slice, oIx_array, c_ld, c_lens, lenS_slice, cev_t, cev_v, cevs_nil, cevs_cons, putT_some, putT_none, addrR_ptr, moveA_eq, tgs, RK_ok, of_some, bind_ok, ofGet_some, loadC_one, bin_add, bin_sub, bin_lss, bin_leq, bin_gtr, bin_geq, bin_eql, bin_neq, un_not, conv_int, nextK_normal, nextK_exit, nextK_ret, blkK_normal, blkK_ret, blkK_exit, boolIs_t, boolIs_f, boolIs_u, ↓reduceIte, Nat.reduceEqDiff, cpur_build, alc_new, alc_bsl, sliceNB_eq, cfill_nil, cfill_cons, vc_int, vc_slice, vc_agg, vc_bool, vc_ptr, cellV_int, cellV_bool, cellV_slice, cellV_ptr, cellL_nil, cellL_cons, nbV_ptr, nbO_ptr, nbV_slice, nbO_slice, List.getElem?_cons_zero, List.getElem?_cons_succ, List.length_cons, List.length_nil, List.take_zero, List.take_succ_cons, List.drop_zero, List.drop_succ_cons, List.drop_nil, List.nil_append, List.cons_append, List.append_nil, Nat.zero_add, Nat.add_zero, Nat.mul_one, Nat.reduceAdd, Nat.reduceLeDiff, Bool.and_self, Bool.and_true, Bool.true_and, true_and, and_true, cagree_0, cagree_1, cagree_2, sameR_ok, sameV_int, sameV_bool, sameV_slice, Bool.false_eq_true, setArgs_nil, setArgs_cons, Bool.not_true, Bool.not_false, isEffC_pur, isEffC_alc, isEffC_red, isEffC_eff, retK_ret, retK_normal, resVs_tmp, resVs_nil, retV_one, retV_two, t12, t13, show ∀ tm h x, cred P tm h (.lens x) = lenS (cev tm x) from fun _ _ _ => rfl, hLol.lens]
    refine ⟨decide ((i : Int) < ((gst (nats L) N).2.length : Int)), rfl, fun e => ?_, fun e => ?_⟩
    · have : ¬ ((i : Int) < ((gst (nats L) N).2.length : Int)) := of_decide_eq_false e
      exact ⟨i, by omega, hi, by simpa using t1, by simpa using t2, by simpa using t7, by simpa using t11, by simpa using t12, by simpa using t13, rfl, hnx'⟩
    · have hil : i < (gst (nats L) N).2.length := by
        have : (i : Int) < ((gst (nats L) N).2.length : Int) := of_decide_eq_true e
        omega
      have hg : (gst (nats L) N).2[i]? = some ((gst (nats L) N).2[i]'hil) := List.getElem?_eq_getElem _
      generalize (gst (nats L) N).2[i]'hil = g at hg
      obtain ⟨u, rest, rfl, hu⟩ := G.d i g hg
      have hisv : i < sv.length := by rw [hLol.len]; exact hil
      have hs : sv[i]? = some (sv[i]'hisv) := List.getElem?_eq_getElem _
      generalize sv[i]'hisv = sq at hs
      obtain ⟨bo, ho1, ho2, hout, hbo, _⟩ := hLol.out_at hs
      rcases hLol.each i _ _ hs hg with ⟨h0, _⟩ | ⟨b, hb1, hb2, rfl, hb⟩
      · cases h0
      have huN : u < N := by have := lt_of_get hu; rw [hL.len] at this; exact this
      have r0 : (ints (nats (u :: rest)))[0]? = some (.int .i64 (u : Int)) := rfl
      have r1 := ints_get (nats_get hu)
      have rs := svs_get hs
      rw [svV_some] at rs
      have f0 : (((rest.length + 1 : Nat) : Int) == 0) = false := by simp; omega
      have f1 : 0 < rest.length + 1 := by omega
      subst hout
      refine Ev.seq (Ev.regD ?_)
      repeat (first | simp only [Dv_g, Ov_g, putT_some, putT_none, tgs, ↓reduceIte, Nat.reduceEqDiff, boolIs_t, boolIs_f, boolIs_u, Bool.not_true, Bool.not_false, Bool.false_eq_true, isEffC_pur, isEffC_alc, isEffC_red, isEffC_eff] | simp only [Ov_pur, Ov_red, Ov_alc, Ov_st, Ov_nil, Dv_pur, Dv_red, Dv_alc, Dv_st, Dv_nil, c_mv, c_bin, c_un, c_conv, c_pick, cPick_bool, c_fld, cFld_agg, c_fldA, c_nilc, nilChk_ptr, c_ext, oExtract_tuple, c_ixA, natR_nat, natR_ofNat, natR_lit, natR_zero, natR_one, oIx_slice, oIx_array, c_ld, c_lens, lenS_slice, cev_t, cev_v, cevs_nil, cevs_cons, putT_some, putT_none, addrR_ptr, moveA_eq, tgs, RK_ok, of_some, bind_ok, ofGet_some, loadC_one, bin_add, bin_sub, bin_lss, bin_leq, bin_gtr, bin_geq, bin_eql, bin_neq, un_not, conv_int, nextK_normal, nextK_exit, nextK_ret, blkK_normal, blkK_ret, blkK_exit, boolIs_t, boolIs_f, boolIs_u, ↓reduceIte, Nat.reduceEqDiff, cpur_build, alc_new, alc_bsl, sliceNB_eq, cfill_nil, cfill_cons, vc_int, vc_slice, vc_agg, vc_bool, vc_ptr, cellV_int, cellV_bool, cellV_slice, cellV_ptr, cellL_nil, cellL_cons, nbV_ptr, nbO_ptr, nbV_slice, nbO_slice, List.getElem?_cons_zero, List.getElem?_cons_succ, List.length_cons, List.length_nil, List.take_zero, List.take_succ_cons, List.drop_zero, List.drop_succ_cons, List.drop_nil, List.nil_append, List.cons_append, List.append_nil, Nat.zero_add, Nat.add_zero, Nat.mul_one, Nat.reduceAdd, Nat.reduceLeDiff, Bool.and_self, Bool.and_true, Bool.true_and, true_and, and_true, cagree_0, cagree_1, cagree_2, sameR_ok, sameV_int, sameV_bool, sameV_slice, Bool.false_eq_true, setArgs_nil, setArgs_cons, Bool.not_true, Bool.not_false, isEffC_pur, isEffC_alc, isEffC_red, isEffC_eff, retK_ret, retK_normal, resVs_tmp, resVs_nil, retV_one, retV_two, t11, t12, t13, hisv, cellsOf_some hbo, rs, f0, f1, cellsOf_some hb, r0, huN, cellsOf_some gl5, r1, beq_self_eq_true])
      refine Ev.cond false (by simp) (by simp) (fun _ => Ev.skip ?_)
      (try simp only [Ov_pur, Ov_red, Ov_alc, Ov_st, Ov_g, Ov_nil, Dv_pur, Dv_red, Dv_alc, Dv_st, Dv_g, Dv_nil, c_mv, c_bin, c_un, c_conv, c_pick, cPick_bool, c_fld, cFld_agg, c_fldA, c_nilc, nilChk_ptr, c_ext, oExtract_tuple, c_ixA, natR_nat, natR_ofNat, natR_lit, natR_zero, natR_one, oIx_slice, oIx_array, c_ld, c_lens, lenS_slice, cev_t, cev_v, cevs_nil, cevs_cons, putT_some, putT_none, addrR_ptr, moveA_eq, tgs, RK_ok, of_some, bind_ok, ofGet_some, loadC_one, bin_add, bin_sub, bin_lss, bin_leq, bin_gtr, bin_geq, bin_eql, bin_neq, un_not, conv_int, nextK_normal, nextK_exit, nextK_ret, blkK_normal, blkK_ret, blkK_exit, boolIs_t, boolIs_f, boolIs_u, ↓reduceIte, Nat.reduceEqDiff, cpur_build, alc_new, alc_bsl, sliceNB_eq, cfill_nil, cfill_cons, vc_int, vc_slice, vc_agg, vc_bool, vc_ptr, cellV_int, cellV_bool, cellV_slice, cellV_ptr, cellL_nil, cellL_cons, nbV_ptr, nbO_ptr, nbV_slice, nbO_slice, List.getElem?_cons_zero, List.getElem?_cons_succ, List.length_cons, List.length_nil, List.take_zero, List.take_succ_cons, List.drop_zero, List.drop_succ_cons, List.drop_nil, List.nil_append, List.cons_append, List.append_nil, Nat.zero_add, Nat.add_zero, Nat.mul_one, Nat.reduceAdd, Nat.reduceLeDiff, Bool.and_self, Bool.and_true, Bool.true_and, true_and, and_true, cagree_0, cagree_1, cagree_2, sameR_ok, sameV_int, sameV_bool, sameV_slice, Bool.false_eq_true, setArgs_nil, setArgs_cons, Bool.not_true, Bool.not_false, isEffC_pur, isEffC_alc, isEffC_red, isEffC_eff, retK_ret, retK_normal, resVs_tmp, resVs_nil, retV_one, retV_two, t13])
      refine ⟨(gst (nats L) N).2.length - (i + 1), by omega, i + 1, rfl, by omega, by simpa using t1, by simpa using t2, by simpa using t7, by simpa using t11, by simpa using t12, ?_, rfl, hnx'⟩
      have hgl2 := (gst_len (nats L) N).2.1
      rw [wrapS (by omega) (by omega)]; simp
  · rintro tm h' nx' ⟨i, _, _, t1, t2, t7, t11, t12, t13, rfl, hnx'⟩
    refine Ev.seq (Ev.regO ?_)
    simp only [Ov_pur, Ov_red, Ov_alc, Ov_st, Ov_g, Ov_nil, Dv_pur, Dv_red, Dv_alc, Dv_st, Dv_g, Dv_nil, c_mv, c_bin, c_un, c_conv, c_pick, cPick_bool, c_fld, cFld_agg, c_fldA, c_nilc, nilChk_ptr, c_ext, oExtract_tuple, c_ixA, natR_nat, natR_ofNat, natR_lit, natR_zero, natR_one, oIx_slice, oIx_array, c_ld, c_lens, lenS_slice, cev_t, cev_v, cevs_nil, cevs_cons, putT_some, putT_none, addrR_ptr, moveA_eq, tgs, RK_ok, of_some, bind_ok, ofGet_some, loadC_one, bin_add, bin_sub, bin_lss, bin_leq, bin_gtr, bin_geq, bin_eql, bin_neq, un_not, conv_int, nextK_normal, nextK_exit, nextK_ret, blkK_normal, blkK_ret, blkK_exit, boolIs_t, boolIs_f, boolIs_u, ↓reduceIte, Nat.reduceEqDiff, cpur_build, alc_new, alc_bsl, sliceNB_eq, cfill_nil, cfill_cons, vc_int, vc_slice, vc_agg, vc_bool, vc_ptr, cellV_int, cellV_bool, cellV_slice, cellV_ptr, cellL_nil, cellL_cons, nbV_ptr, nbO_ptr, nbV_slice, nbO_slice, List.getElem?_cons_zero, List.getElem?_cons_succ, List.length_cons, List.length_nil, List.take_zero, List.take_succ_cons, List.drop_zero, List.drop_succ_cons, List.drop_nil, List.nil_append, List.cons_append, List.append_nil, Nat.zero_add, Nat.add_zero, Nat.mul_one, Nat.reduceAdd, Nat.reduceLeDiff, Bool.and_self, Bool.and_true, Bool.true_and, true_and, and_true, cagree_0, cagree_1, cagree_2, sameR_ok, sameV_int, sameV_bool, sameV_slice, Bool.false_eq_true, setArgs_nil, setArgs_cons, Bool.not_true, Bool.not_false, isEffC_pur, isEffC_alc, isEffC_red, isEffC_eff, retK_ret, retK_normal, resVs_tmp, resVs_nil, retV_one, retV_two, t1, t7, t11, cellsOf_some g5a]
    refine Ov_call ?_
    (try simp only [Ov_pur, Ov_red, Ov_alc, Ov_st, Ov_g, Ov_nil, Dv_pur, Dv_red, Dv_alc, Dv_st, Dv_g, Dv_nil, c_mv, c_bin, c_un, c_conv, c_pick, cPick_bool, c_fld, cFld_agg, c_fldA, c_nilc, nilChk_ptr, c_ext, oExtract_tuple, c_ixA, natR_nat, natR_ofNat, natR_lit, natR_zero, natR_one, oIx_slice, oIx_array, c_ld, c_lens, lenS_slice, cev_t, cev_v, cevs_nil, cevs_cons, putT_some, putT_none, addrR_ptr, moveA_eq, tgs, RK_ok, of_some, bind_ok, ofGet_some, loadC_one, bin_add, bin_sub, bin_lss, bin_leq, bin_gtr, bin_geq, bin_eql, bin_neq, un_not, conv_int, nextK_normal, nextK_exit, nextK_ret, blkK_normal, blkK_ret, blkK_exit, boolIs_t, boolIs_f, boolIs_u, ↓reduceIte, Nat.reduceEqDiff, cpur_build, alc_new, alc_bsl, sliceNB_eq, cfill_nil, cfill_cons, vc_int, vc_slice, vc_agg, vc_bool, vc_ptr, cellV_int, cellV_bool, cellV_slice, cellV_ptr, cellL_nil, cellL_cons, nbV_ptr, nbO_ptr, nbV_slice, nbO_slice, List.getElem?_cons_zero, List.getElem?_cons_succ, List.length_cons, List.length_nil, List.take_zero, List.take_succ_cons, List.drop_zero, List.drop_succ_cons, List.drop_nil, List.nil_append, List.cons_append, List.append_nil, Nat.zero_add, Nat.add_zero, Nat.mul_one, Nat.reduceAdd, Nat.reduceLeDiff, Bool.and_self, Bool.and_true, Bool.true_and, true_and, and_true, cagree_0, cagree_1, cagree_2, sameR_ok, sameV_int, sameV_bool, sameV_slice, Bool.false_eq_true, setArgs_nil, setArgs_cons, Bool.not_true, Bool.not_false, isEffC_pur, isEffC_alc, isEffC_red, isEffC_eff, retK_ret, retK_normal, resVs_tmp, resVs_nil, retV_one, retV_two])
    refine (within_cv hcw how).mono ?_
    rintro r h6 nx6 ⟨rfl, rfl, rfl⟩
    obtain ⟨k, hk0, hkl⟩ := wnF_nat (k := at_) (n := (N : Int))
    have hkl := hkl (by omega)
    have hkN : k < N := by omega
    rw [hk0]
    have hx : L[k]? = some (L[k]'(by rw [hL.len]; exact hkN)) := List.getElem?_eq_getElem _
    generalize L[k]'(by rw [hL.len]; exact hkN) = x at hx
    have hxk := hL.le k x hx
    have rx := ints_get (nats_get hx)
    simp only [Ov_pur, Ov_red, Ov_alc, Ov_st, Ov_g, Ov_nil, Dv_pur, Dv_red, Dv_alc, Dv_st, Dv_g, Dv_nil, c_mv, c_bin, c_un, c_conv, c_pick, cPick_bool, c_fld, cFld_agg, c_fldA, c_nilc, nilChk_ptr, c_ext, oExtract_tuple, c_ixA, natR_nat, natR_ofNat, natR_lit, natR_zero, natR_one, oIx_slice, oIx_array, c_ld, c_lens, lenS_slice, cev_t, cev_v, cevs_nil, cevs_cons, putT_some, putT_none, addrR_ptr, moveA_eq, tgs, RK_ok, of_some, bind_ok, ofGet_some, loadC_one, bin_add, bin_sub, bin_lss, bin_leq, bin_gtr, bin_geq, bin_eql, bin_neq, un_not, conv_int, nextK_normal, nextK_exit, nextK_ret, blkK_normal, blkK_ret, blkK_exit, boolIs_t, boolIs_f, boolIs_u, ↓reduceIte, Nat.reduceEqDiff, cpur_build, alc_new, alc_bsl, sliceNB_eq, cfill_nil, cfill_cons, vc_int, vc_slice, vc_agg, vc_bool, vc_ptr, cellV_int, cellV_bool, cellV_slice, cellV_ptr, cellL_nil, cellL_cons, nbV_ptr, nbO_ptr, nbV_slice, nbO_slice, List.getElem?_cons_zero, List.getElem?_cons_succ, List.length_cons, List.length_nil, List.take_zero, List.take_succ_cons, List.drop_zero, List.drop_succ_cons, List.drop_nil, List.nil_append, List.cons_append, List.append_nil, Nat.zero_add, Nat.add_zero, Nat.mul_one, Nat.reduceAdd, Nat.reduceLeDiff, Bool.and_self, Bool.and_true, Bool.true_and, true_and, and_true, cagree_0, cagree_1, cagree_2, sameR_ok, sameV_int, sameV_bool, sameV_slice, Bool.false_eq_true, setArgs_nil, setArgs_cons, Bool.not_true, Bool.not_false, isEffC_pur, isEffC_alc, isEffC_red, isEffC_eff, retK_ret, retK_normal, resVs_tmp, resVs_nil, retV_one, retV_two, t2, t11, hkN, cellsOf_some gl5, rx]
    rw [RK_st1 gl5 rfl (by rw [ints_len, nats_len, hL.len]; exact hkN), ints_set]
    refine Ev.genH (fun tm9 h9 => tget tm9 2 = .int .i64 by_ ∧ tget tm9 7 = .pointer (some ⟨nx1, 0, none⟩) ∧ tget tm9 11 = .slice (some ⟨bl, 0, some 1⟩) N N ∧ tget tm9 12 = out ∧ hget h9 bl = some (.cells (ints ((nats L).set k (IntKind.wrap .i64 ((x : Int) + by_)))) false) ∧ (∀ b, b ≠ bl → hget h9 b = hget h6 b))
      ⟨by simp [t2], by simp [t7], by simp [t11], by simp [t12], by simp, fun b hb => by rw [hgs, if_neg hb]⟩ ?_
    rintro tm9 h9 ⟨w2, w7, w11, w12, gl9, hfr9⟩
    have g9 := (hfr9 nx1 (by omega)).trans g5a
    have hgs9 : SlRd h9 nx6 v2 encG gs := hgs3.keep (fun b hb => by rw [hfr9 b (by omega), hk5 b (by omega)]; exact hk4 b hb) (by omega)
    have hsl9 : SlRd h9 nx6 (.slice (some ⟨bl, 0, some 1⟩) N N) encI ((nats L).set k (IntKind.wrap .i64 ((x : Int) + by_))) :=
      ⟨_, _, by rw [List.length_set, nats_len, hL.len], fun _ => ⟨bl, some 1, false, by omega, rfl, by rw [flat_ints]; exact gl9⟩⟩
    have hlen : lenS out = .ok (.int .i64 (selfs L N : Int)) := by rw [hLol.lens, G.c]
    refine Ev.seq (Ev.regO ?_)
    refine Ov_call ?_
    simp only [cevs_nil, cevs_cons, cev_t, cev_v, tgs, ↓reduceIte, Nat.reduceEqDiff]
    refine live_cv hv ?_
    repeat (first | simp only [Dv_g, Ov_g, putT_some, putT_none, tgs, ↓reduceIte, Nat.reduceEqDiff, boolIs_t, boolIs_f, boolIs_u, Bool.not_true, Bool.not_false, Bool.false_eq_true, isEffC_pur, isEffC_alc, isEffC_red, isEffC_eff] | simp only [Ov_pur, Ov_red, Ov_alc, Ov_st, Ov_nil, Dv_pur, Dv_red, Dv_alc, Dv_st, Dv_nil, c_mv, c_bin, c_un, c_conv, c_pick, cPick_bool, c_fld, cFld_agg, c_fldA, c_nilc, nilChk_ptr, c_ext, oExtract_tuple, c_ixA, natR_nat, natR_ofNat, natR_lit, natR_zero, natR_one, oIx_slice, oIx_array, c_ld, c_lens, lenS_slice, cev_t, cev_v, cevs_nil, cevs_cons, putT_some, putT_none, addrR_ptr, moveA_eq, tgs, RK_ok, of_some, bind_ok, ofGet_some, loadC_one, bin_add, bin_sub, bin_lss, bin_leq, bin_gtr, bin_geq, bin_eql, bin_neq, un_not, conv_int, nextK_normal, nextK_exit, nextK_ret, blkK_normal, blkK_ret, blkK_exit, boolIs_t, boolIs_f, boolIs_u, ↓reduceIte, Nat.reduceEqDiff, cpur_build, alc_new, alc_bsl, sliceNB_eq, cfill_nil, cfill_cons, vc_int, vc_slice, vc_agg, vc_bool, vc_ptr, cellV_int, cellV_bool, cellV_slice, cellV_ptr, cellL_nil, cellL_cons, nbV_ptr, nbO_ptr, nbV_slice, nbO_slice, List.getElem?_cons_zero, List.getElem?_cons_succ, List.length_cons, List.length_nil, List.take_zero, List.take_succ_cons, List.drop_zero, List.drop_succ_cons, List.drop_nil, List.nil_append, List.cons_append, List.append_nil, Nat.zero_add, Nat.add_zero, Nat.mul_one, Nat.reduceAdd, Nat.reduceLeDiff, Bool.and_self, Bool.and_true, Bool.true_and, true_and, and_true, cagree_0, cagree_1, cagree_2, sameR_ok, sameV_int, sameV_bool, sameV_slice, Bool.false_eq_true, setArgs_nil, setArgs_cons, Bool.not_true, Bool.not_false, isEffC_pur, isEffC_alc, isEffC_red, isEffC_eff, retK_ret, retK_normal, resVs_tmp, resVs_nil, retV_one, retV_two, w7, w12, show ∀ tm h x, cred P tm h (.lens x) = lenS (cev tm x) from fun _ _ _ => rfl, hlen, cellsOf_some g9, loadC_many, Nat.sub_zero, Nat.le_refl])
    refine Ov_call ?_
    simp only [cevs_nil, cevs_cons, cev_t, cev_v, tgs, ↓reduceIte, Nat.reduceEqDiff]
    refine (count_cv A hcC hoC hgs9 hN hgl hok hL).mono ?_
    rintro r hA nxA ⟨rfl, hkA, hnxA⟩
    have gA := (hkA nx1 (by omega)).trans g9
    repeat (first | simp only [Dv_g, Ov_g, putT_some, putT_none, tgs, ↓reduceIte, Nat.reduceEqDiff, boolIs_t, boolIs_f, boolIs_u, Bool.not_true, Bool.not_false, Bool.false_eq_true, isEffC_pur, isEffC_alc, isEffC_red, isEffC_eff] | simp only [Ov_pur, Ov_red, Ov_alc, Ov_st, Ov_nil, Dv_pur, Dv_red, Dv_alc, Dv_st, Dv_nil, c_mv, c_bin, c_un, c_conv, c_pick, cPick_bool, c_fld, cFld_agg, c_fldA, c_nilc, nilChk_ptr, c_ext, oExtract_tuple, c_ixA, natR_nat, natR_ofNat, natR_lit, natR_zero, natR_one, oIx_slice, oIx_array, c_ld, c_lens, lenS_slice, cev_t, cev_v, cevs_nil, cevs_cons, putT_some, putT_none, addrR_ptr, moveA_eq, tgs, RK_ok, of_some, bind_ok, ofGet_some, loadC_one, bin_add, bin_sub, bin_lss, bin_leq, bin_gtr, bin_geq, bin_eql, bin_neq, un_not, conv_int, nextK_normal, nextK_exit, nextK_ret, blkK_normal, blkK_ret, blkK_exit, boolIs_t, boolIs_f, boolIs_u, ↓reduceIte, Nat.reduceEqDiff, cpur_build, alc_new, alc_bsl, sliceNB_eq, cfill_nil, cfill_cons, vc_int, vc_slice, vc_agg, vc_bool, vc_ptr, cellV_int, cellV_bool, cellV_slice, cellV_ptr, cellL_nil, cellL_cons, nbV_ptr, nbO_ptr, nbV_slice, nbO_slice, List.getElem?_cons_zero, List.getElem?_cons_succ, List.length_cons, List.length_nil, List.take_zero, List.take_succ_cons, List.drop_zero, List.drop_succ_cons, List.drop_nil, List.nil_append, List.cons_append, List.append_nil, Nat.zero_add, Nat.add_zero, Nat.mul_one, Nat.reduceAdd, Nat.reduceLeDiff, Bool.and_self, Bool.and_true, Bool.true_and, true_and, and_true, cagree_0, cagree_1, cagree_2, sameR_ok, sameV_int, sameV_bool, sameV_slice, Bool.false_eq_true, setArgs_nil, setArgs_cons, Bool.not_true, Bool.not_false, isEffC_pur, isEffC_alc, isEffC_red, isEffC_eff, retK_ret, retK_normal, resVs_tmp, resVs_nil, retV_one, retV_two, w7, w11, cellsOf_some gA, loadC_many, Nat.sub_zero, Nat.le_refl, beq_self_eq_true])
    refine Ov_call ?_
    simp only [cevs_nil, cevs_cons, cev_t, cev_v, tgs, ↓reduceIte, Nat.reduceEqDiff]
    refine (check_cv A hcK hoK (hgs9.keep hkA hnxA) (hsl9.keep hkA hnxA) hN0 hN hgl hok hL).mono ?_
    rintro r hB nxB ⟨rfl, hkB, hnxB⟩
    have hfin : (decide ((nats L).set k (IntKind.wrap .i64 ((x : Int) + by_)) = nats L) == (by_ == 0)) = true := by
      have e1 : (nats L).set k (IntKind.wrap .i64 ((x : Int) + by_)) = nats L ↔ by_ = 0 := by
        rw [← wrap_ne (a := x) (by omega) hby]
        constructor
        · intro e
          have e2 := congrArg (fun l : List Int => l[k]?) e
          have e2 : ((nats L).set k (IntKind.wrap .i64 ((x : Int) + by_)))[k]? = (nats L)[k]? := e2
          rw [List.getElem?_set, if_pos rfl, if_pos (by rw [nats_len, hL.len]; exact hkN), nats_get hx] at e2
          injection e2
        · intro e
          rw [e, nats_set]
          congr 1
          refine List.ext_getElem? fun j => ?_
          rw [List.getElem?_set]
          by_cases hj : k = j
          · subst hj; rw [if_pos rfl, if_pos (by rw [hL.len]; exact hkN), hx]
          · rw [if_neg hj]
      by_cases hz : by_ = 0
      · rw [decide_eq_true (e1.2 hz), hz]; rfl
      · rw [decide_eq_false (fun e => hz (e1.1 e))]
        have : (by_ == 0) = false := by simp [hz]
        rw [this]; rfl
    simp only [Ov_pur, Ov_red, Ov_alc, Ov_st, Ov_g, Ov_nil, Dv_pur, Dv_red, Dv_alc, Dv_st, Dv_g, Dv_nil, c_mv, c_bin, c_un, c_conv, c_pick, cPick_bool, c_fld, cFld_agg, c_fldA, c_nilc, nilChk_ptr, c_ext, oExtract_tuple, c_ixA, natR_nat, natR_ofNat, natR_lit, natR_zero, natR_one, oIx_slice, oIx_array, c_ld, c_lens, lenS_slice, cev_t, cev_v, cevs_nil, cevs_cons, putT_some, putT_none, addrR_ptr, moveA_eq, tgs, RK_ok, of_some, bind_ok, ofGet_some, loadC_one, bin_add, bin_sub, bin_lss, bin_leq, bin_gtr, bin_geq, bin_eql, bin_neq, un_not, conv_int, nextK_normal, nextK_exit, nextK_ret, blkK_normal, blkK_ret, blkK_exit, boolIs_t, boolIs_f, boolIs_u, ↓reduceIte, Nat.reduceEqDiff, cpur_build, alc_new, alc_bsl, sliceNB_eq, cfill_nil, cfill_cons, vc_int, vc_slice, vc_agg, vc_bool, vc_ptr, cellV_int, cellV_bool, cellV_slice, cellV_ptr, cellL_nil, cellL_cons, nbV_ptr, nbO_ptr, nbV_slice, nbO_slice, List.getElem?_cons_zero, List.getElem?_cons_succ, List.length_cons, List.length_nil, List.take_zero, List.take_succ_cons, List.drop_zero, List.drop_succ_cons, List.drop_nil, List.nil_append, List.cons_append, List.append_nil, Nat.zero_add, Nat.add_zero, Nat.mul_one, Nat.reduceAdd, Nat.reduceLeDiff, Bool.and_self, Bool.and_true, Bool.true_and, true_and, and_true, cagree_0, cagree_1, cagree_2, sameR_ok, sameV_int, sameV_bool, sameV_slice, Bool.false_eq_true, setArgs_nil, setArgs_cons, Bool.not_true, Bool.not_false, isEffC_pur, isEffC_alc, isEffC_red, isEffC_eff, retK_ret, retK_normal, resVs_tmp, resVs_nil, retV_one, retV_two, w2, bin_bool_eql hb4, hfin]
    refine Ev.ret ?_
    (try simp only [Ov_pur, Ov_red, Ov_alc, Ov_st, Ov_g, Ov_nil, Dv_pur, Dv_red, Dv_alc, Dv_st, Dv_g, Dv_nil, c_mv, c_bin, c_un, c_conv, c_pick, cPick_bool, c_fld, cFld_agg, c_fldA, c_nilc, nilChk_ptr, c_ext, oExtract_tuple, c_ixA, natR_nat, natR_ofNat, natR_lit, natR_zero, natR_one, oIx_slice, oIx_array, c_ld, c_lens, lenS_slice, cev_t, cev_v, cevs_nil, cevs_cons, putT_some, putT_none, addrR_ptr, moveA_eq, tgs, RK_ok, of_some, bind_ok, ofGet_some, loadC_one, bin_add, bin_sub, bin_lss, bin_leq, bin_gtr, bin_geq, bin_eql, bin_neq, un_not, conv_int, nextK_normal, nextK_exit, nextK_ret, blkK_normal, blkK_ret, blkK_exit, boolIs_t, boolIs_f, boolIs_u, ↓reduceIte, Nat.reduceEqDiff, cpur_build, alc_new, alc_bsl, sliceNB_eq, cfill_nil, cfill_cons, vc_int, vc_slice, vc_agg, vc_bool, vc_ptr, cellV_int, cellV_bool, cellV_slice, cellV_ptr, cellL_nil, cellL_cons, nbV_ptr, nbO_ptr, nbV_slice, nbO_slice, List.getElem?_cons_zero, List.getElem?_cons_succ, List.length_cons, List.length_nil, List.take_zero, List.take_succ_cons, List.drop_zero, List.drop_succ_cons, List.drop_nil, List.nil_append, List.cons_append, List.append_nil, Nat.zero_add, Nat.add_zero, Nat.mul_one, Nat.reduceAdd, Nat.reduceLeDiff, Bool.and_self, Bool.and_true, Bool.true_and, true_and, and_true, cagree_0, cagree_1, cagree_2, sameR_ok, sameV_int, sameV_bool, sameV_slice, Bool.false_eq_true, setArgs_nil, setArgs_cons, Bool.not_true, Bool.not_false, isEffC_pur, isEffC_alc, isEffC_red, isEffC_eff, retK_ret, retK_normal, resVs_tmp, resVs_nil, retV_one, retV_two])
    rfl
end
end Go.Ax
