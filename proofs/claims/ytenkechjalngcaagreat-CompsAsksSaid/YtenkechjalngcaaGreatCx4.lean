/- Parts of the proof: Cx4: each statement bears its own conditions. -/
import Derived.ChangeArms
import Derived.Below
import Derived.OpenShut
import Derived.WideShapes
import Derived.Test.YtenkechjalngcaaGreatAx3
/-! part AxCmb6 -/
namespace Go.Ax
open Go
set_option linter.unusedSimpArgs false
set_option linter.unusedVariables false

/-! # edges.Combine: the list -/
def cmbList (fna : Nat) : CC := (.seq (.regO [⟨none, (some 55), 0, .red (.entry (.t 52))⟩,
      ⟨none, (some 56), 0, .pur (.ext (.t 55) 0)⟩,
      ⟨none, (some 57), 0, .pur (.ext (.t 55) 1)⟩,
      ⟨none, (some 14), 0, .alc (.new [(.int .i64 0), (.int .i64 0)])⟩,
      ⟨none, (some 15), 0, .alc (.new [(.int .i64 0), (.int .u64 0)])⟩,
      ⟨none, none, 0, .eff (.st 2 (.t 14) (.t 56))⟩,
      ⟨none, none, 0, .eff (.st 2 (.t 15) (.t 57))⟩])
    (.seq (.regO [⟨none, (some 59), 0, .pur (.mv (.t 0))⟩,
      ⟨none, (some 60), 0, .red (.ld (some 2) (.t 15))⟩,
      ⟨none, (some 61), 0, .eff (.call fna [(.t 59), (.t 60)])⟩,
      ⟨none, (some 58), 0, .pur (.mv (.t 61))⟩,
      ⟨none, (some 62), 0, .pur (.ext (.t 58) 0)⟩,
      ⟨none, (some 63), 0, .pur (.ext (.t 58) 1)⟩,
      ⟨none, (some 16), 0, .pur (.mv (.t 62))⟩,
      ⟨none, (some 17), 0, .pur (.mv (.t 63))⟩])
    (.seq (.seq (.regO [⟨none, (some 64), 0, .pur (.mv (.t 17))⟩,
      ⟨none, (some 65), 0, .pur (.un .not (.t 64))⟩])
    (.cond (.t 65)
     (.seq (.regO [⟨none, (some 4), 0, .pur (.mv (.v (.slice none 0 0)))⟩,
       ⟨none, (some 5), 0, .pur (.mv (.v (.int .i64 12)))⟩])
     .ret)
     .skip))
    (.regO [⟨none, (some 66), 0, .pur (.mv (.t 13))⟩,
      ⟨none, (some 67), 0, .pur (.ixA (.array 2 1) (.t 14) (.v (.int .i64 0)))⟩,
      ⟨none, (some 68), 0, .red (.ld none (.t 67))⟩,
      ⟨none, (some 69), 0, .pur (.ixA (.array 2 1) (.t 14) (.v (.int .i64 1)))⟩,
      ⟨none, (some 70), 0, .red (.ld none (.t 69))⟩,
      ⟨none, (some 71), 0, .pur (.mv (.t 16))⟩,
      ⟨none, (some 72), 0, .pur (.build [(.int .i64 0), (.int .i64 0), (.int .i64 0)] [(0, 1, (.t 68)), (1, 1, (.t 70)), (2, 1, (.t 71))])⟩,
      ⟨none, (some 73), 0, .alc (.bsl 1 [(.int .i64 0), (.int .i64 0), (.int .i64 0)] [(0, 3, (.t 72))])⟩,
      ⟨none, (some 74), 0, .eff (.app 3 (.t 66) (.t 73))⟩,
      ⟨none, (some 13), 0, .pur (.mv (.t 74))⟩]))))
section
variable {P : Program} {orc : Orc} {s : Bool}
theorem cmbList_cv {fna fwn fof tw : Nat} (hna : compAt P fna = some (cfNarrow fwn)) (ona : orc fna = none) (hwn : compAt P fwn = some (cfWNarrow fof tw)) (own : orc fwn = none) (hof : compAt P fof = some (cfOf tw)) (oof : orc fof = none) (hw : WideAt P tw)
    (heq : ∀ n : Nat, n < 1000000000 → bin P .neq tw (.agg ⟨wideL n⟩) (.agg ⟨wideL n⟩) = .ok (.bool false))
    {h : Hp} {nx it lo : Nat} {x : Edg} {acc : List Edg} {w : Nat} (hx3 : x.2.2 = (w : Int)) (hwl : w < 1000000) {tm : Tm} (t52 : tget tm 52 = .pointer (some ⟨it, 0, none⟩)) (hent : oEntry h (.pointer (some ⟨it, 0, none⟩)) = .ok (.tuple ⟨[keyV x, .agg ⟨wideL w⟩]⟩))
    (hsl : SlAt h (tget tm 13) encE 3 acc lo nx) (hlo : lo ≤ nx) (hsz : acc.length ≤ 1000) {K : KO'}
    (hK : ∀ tm' h' nx', (∀ t, t < 13 → tget tm' t = tget tm t) → tget tm' 52 = tget tm 52 → nx ≤ nx' → SlAt h' (tget tm' 13) encE 3 (acc ++ [x]) lo nx' → (∀ b, b < lo → hget h' b = hget h b) → K .normal tm' h' nx') :
    Ev P orc s (cmbList fna) tm h nx K := by
  unfold cmbList
  refine Ev.seq (Ev.regO ?_)
  simp only [Ov_pur, Ov_red, Ov_alc, c_entry, c_ext, cev_t, t52, hent, oExtract_tuple, List.getElem?_cons_zero, List.getElem?_cons_succ, of_some, RK_ok, putT_some, tgs, ↓reduceIte, Nat.reduceEqDiff, calq, nbV, nbO]
  simp only [Ov_st, cev_t, tgs, ↓reduceIte, Nat.reduceEqDiff, addrR_ptr]
  unfold keyV
  rw [st_list (k := 2) (l := encL (x.1, x.2.1)) (l0 := [(.int .i64 0), (.int .i64 0)]) (by simp) rfl rfl rfl]
  simp only [RK_ok, putT_none]
  simp only [Ov_st, cev_t, tgs, ↓reduceIte, Nat.reduceEqDiff, addrR_ptr]
  rw [st_wide (m := 0) (by simp [wideL])]
  simp only [RK_ok, putT_none, Ov_nil, nextK_normal]
  generalize hh1 : hset (hset (hset (hset h nx (.cells [(.int .i64 0), (.int .i64 0)] false)) (nx + 1) (.cells [(.int .i64 0), (.int .u64 0)] false)) nx (.cells (encL (x.1, x.2.1)) false)) (nx + 1) (.cells (wideL w) false) = h1
  have a0 : hget h1 nx = some (.cells (encL (x.1, x.2.1)) false) := by rw [← hh1]; simp
  have a1 : hget h1 (nx + 1) = some (.cells (wideL w) false) := by rw [← hh1]; simp
  have a2 : ∀ b, b < nx → hget h1 b = hget h b := fun b hb => by rw [← hh1]; simp [show b ≠ nx by omega, show b ≠ nx + 1 by omega]
  clear hh1
  refine Ev.seq (Ev.regO ?_)
  simp only [Ov_pur, Ov_red, c_mv, c_ld, cev_t, RK_ok, putT_some, tgs, ↓reduceIte, Nat.reduceEqDiff, addrR_ptr, cellsOf_some a1, ld_wide]
  refine Ov_call ?_
  simp only [cevs_cons, cevs_nil, cev_t, tgs, ↓reduceIte, Nat.reduceEqDiff]
  refine (narrow_cv (s := s) hna ona hwn own hof oof hw (n := w) (by omega) (heq w (by omega))).mono ?_
  rintro v h2 nx2 ⟨rfl, hnx2, hfr2⟩
  have b0 : hget h2 nx = some (.cells (encL (x.1, x.2.1)) false) := by rw [hfr2 _ (by omega)]; exact a0
  have b2 : ∀ b, b < nx → hget h2 b = hget h b := fun b hb => by rw [hfr2 b (by omega)]; exact a2 b hb
  clear a0 a1 a2 hfr2
  simp only [Ov_pur, c_mv, c_ext, cev_t, RK_ok, putT_some, tgs, ↓reduceIte, Nat.reduceEqDiff, oExtract_tuple, List.getElem?_cons_zero, List.getElem?_cons_succ, of_some, Ov_nil, nextK_normal]
  refine Ev.seq (Ev.seq (Ev.regO ?_))
  simp only [Ov_pur, c_mv, c_un, cev_t, RK_ok, putT_some, tgs, ↓reduceIte, Nat.reduceEqDiff, un_not, Ov_nil, nextK_normal]
  refine Ev.cond false (by simp) (by simp) fun _ => Ev.skip ?_
  show Ev P orc s _ _ _ _ _
  refine Ev.regO ?_
  have c0 : (encL (x.1, x.2.1))[0]? = some (.int .i64 x.1) := rfl
  have c1 : (encL (x.1, x.2.1))[1]? = some (.int .i64 x.2.1) := rfl
  have hbld : ∀ tm y, cpur P (tset (tset (tset (tset tm 68 (.int .i64 x.1)) 69 y) 70 (.int .i64 x.2.1)) 71 (.int .i64 (w : Int))) (.build [(.int .i64 0), (.int .i64 0), (.int .i64 0)] [(0, 1, (.t 68)), (1, 1, (.t 70)), (2, 1, (.t 71))]) = .ok (.agg ⟨encE x⟩) := fun tm y => by
    simp [cpur, cfillP, cfillS, vcells, lput, lputI, lput0, lput0I, lputN, lputS, llen, llenI, encE, hx3]
  have hbsl : ∀ tm, calq P (tset tm 72 (.agg ⟨encE x⟩)) (.bsl 1 [(.int .i64 0), (.int .i64 0), (.int .i64 0)] [(0, 3, (.t 72))]) = .ok (.slice (.cells (encE x) false) 1 1) := fun tm => by
    simp [calq, cfillP, cfillS, vcells, encE, llen, llenI, lput, lputI, lput0, lput0I, lputS, sliceNB, cellL, cellV]
  simp only [Ov_pur, Ov_red, c_mv, c_ixA, c_ld, cev_t, cev_v, natR_zero, natR_one, oIx_array, show (0 : Nat) < 2 from by omega, show (1 : Nat) < 2 from by omega, Nat.zero_mul, Nat.one_mul, Nat.zero_add, RK_ok, putT_some, tgs, ↓reduceIte, Nat.reduceEqDiff, addrR_ptr, cellsOf_some b0, loadC_one, c0, c1, ofGet_some, hbld]
  simp only [Ov_alc, hbsl, RK_ok, putT_some, nbV, nbO]
  have hsl2 : SlAt (hset h2 nx2 (.cells (encE x) false)) (tget tm 13) encE 3 acc lo (nx2 + 1) := by
    rcases hsl with ⟨e1, e2⟩ | ⟨bk, g1, g2, g3, g4⟩
    · exact .inl ⟨e1, e2⟩
    · exact .inr ⟨bk, g1, by omega, g3, by simp [show bk ≠ nx2 by omega]; rw [b2 bk g2]; exact g4⟩
  obtain ⟨v', h4, hap, hsl4, hf4⟩ := app_cv (enc := encE) (k := 3) (fun _ => rfl) (fun _ => rfl) (by omega) hsl2 (by omega) (b2 := nx2) (o2 := 0) (cap2 := 1) (sp2 := none) (cs := encE x) (ro := false) (x := x) (by simp) (by simp [encE]) (by omega)
  rw [Ov_eff (v := v') (h' := h4) (nx' := nx2 + 1 + 1) (by
    show orR (appendA 3 _ _ (cev _ (.t 66)) (cev _ (.t 73))) = _
    simp only [cev_t, tgs, ↓reduceIte, Nat.reduceEqDiff]
    rw [hap]; rfl)]
  simp only [Ov_pur, c_mv, cev_t, tgs, ↓reduceIte, Nat.reduceEqDiff, RK_ok, putT_some, Ov_nil]
  refine hK _ _ _ (fun t ht => ?_) (by simp) (by omega) (by simpa using hsl4) (fun b hb => ?_)
  · simp only [tgs]
    repeat rw [if_neg (by omega)]
  · rw [hf4 b hb]
    simp [show b ≠ nx2 by omega]
    exact b2 b (by omega)
end
end Go.Ax

/-! part AxCmb7 -/
namespace Go.Ax
open Go
set_option linter.unusedSimpArgs false
set_option linter.unusedVariables false

/-! # edges.Combine, whole -/
def cfCombine (fis fof fad fna fs fo kt : Nat) : CF := { res := [.tmp 4, .tmp 5], body :=
 (.seq (.regO [⟨none, (some 4), 0, .pur (.mv (.v (.slice none 0 0)))⟩,
   ⟨none, (some 5), 0, .pur (.mv (.v (.int .i64 0)))⟩])
 (.seq (.seq (.regO [⟨none, (some 18), 0, .pur (.mv (.t 0))⟩,
   ⟨none, (some 19), 0, .eff (.call fis [(.t 18)])⟩,
   ⟨none, (some 20), 0, .pur (.un .not (.t 19))⟩])
 (.cond (.t 20)
  (.seq (.regO [⟨none, (some 4), 0, .pur (.mv (.v (.slice none 0 0)))⟩,
    ⟨none, (some 5), 0, .pur (.mv (.v (.int .i64 8)))⟩])
  .ret)
  .skip))
 (.seq (.regO [⟨none, (some 21), 0, .alc (.mkm)⟩,
   ⟨none, (some 6), 0, .pur (.mv (.t 21))⟩])
 (.seq (.seq (.regO [⟨none, (some 22), 0, .pur (.mv (.t 1))⟩,
   ⟨none, (some 23), 0, .red (.lens (.t 22))⟩,
   ⟨none, (some 24), 0, .pur (.mv (.v (.int .i64 0)))⟩])
 (.block 0
  (.loop
   (.seq (.regO [⟨none, (some 25), 0, .pur (.bin .lss 3 (.t 24) (.t 23))⟩])
   (.seq (.cond (.t 25)
    .skip
    (.exit 0))
   (.seq (cmbBody fof fad kt)
   (.regO [⟨none, (some 50), 0, .pur (.bin .add 3 (.t 24) (.v (.int .i64 1)))⟩,
     ⟨none, (some 24), 0, .pur (.mv (.t 50))⟩])))))))
 (.seq (.regO [⟨none, (some 13), 0, .pur (.mv (.v (.slice none 0 0)))⟩])
 (.seq (.seq (.regO [⟨none, (some 51), 0, .pur (.mv (.t 6))⟩,
   ⟨none, (some 52), 0, .eff (.rng (.t 51))⟩])
 (.block 2
  (.loop
   (.seq (.regO [⟨none, (some 53), 0, .eff (.nxt (.t 52))⟩,
     ⟨none, (some 54), 0, .pur (.ext (.t 53) 0)⟩])
   (.seq (.cond (.t 54)
    .skip
    (.exit 2))
   (.block 3
    (cmbList fna)))))))
 (.seq (.regO [⟨none, (some 75), 0, .pur (.mv (.t 13))⟩,
   ⟨none, (some 76), 0, .eff (.call fs [(.t 75), (.v (.func (.func fo) #[] #[]))])⟩])
 (.seq (.regO [⟨none, (some 77), 0, .pur (.mv (.t 13))⟩,
   ⟨none, (some 4), 0, .pur (.mv (.t 77))⟩,
   ⟨none, (some 5), 0, .pur (.mv (.v (.int .i64 0)))⟩])
 .ret)))))))) }
theorem combG_snoc (e : Edg) : ∀ (l acc : List Edg), combG acc (l ++ [e]) = combS e (combG acc l)
  | [], acc => rfl
  | x :: l, acc => combG_snoc e l (combS x acc)
theorem combS_small {e : Edg} (he : Small e) {l : List Edg} (hl : ∀ x ∈ l, Small x) : ∀ x ∈ combS e l, Small x := by
  intro x hx
  rw [combS_eq] at hx
  cases hf : fnd e l with
  | none =>
    rw [hf] at hx
    rcases List.mem_append.1 hx with h | h
    · exact hl x h
    · simp at h; subst h; exact he
  | some p =>
    rw [hf] at hx
    obtain ⟨h1, h2⟩ := fnd_get hf
    have hm := hl _ (List.mem_of_getElem? h1)
    rcases List.mem_or_eq_of_mem_set hx with h | h
    · exact hl x h
    · subst h
      refine ⟨hm.1, hm.2.1, ?_⟩
      show smallI (bif iblt e.2.2 p.2.2.2 then e.2.2 else p.2.2.2) = true
      cases iblt e.2.2 p.2.2.2 with
      | true => exact he.2.2
      | false => exact hm.2.2
theorem combG_small : ∀ {l acc : List Edg}, (∀ x ∈ l, Small x) → (∀ x ∈ acc, Small x) → ∀ x ∈ combG acc l, Small x
  | [], acc, _, ha => ha
  | e :: l, acc, hl, ha => combG_small (l := l) (acc := combS e acc) (fun x hx => hl x (List.mem_cons_of_mem _ hx)) (combS_small (hl e (List.mem_cons_self ..)) ha)
theorem combS_len (e : Edg) (l : List Edg) : (combS e l).length ≤ l.length + 1 := by
  rw [combS_eq]
  cases fnd e l with
  | none => simp
  | some p => simp
theorem combG_len : ∀ (l acc : List Edg), (combG acc l).length ≤ acc.length + l.length
  | [], acc => by simp [combG]
  | e :: l, acc => by
    have h1 := combG_len l (combS e acc)
    have h2 := combS_len e acc
    show (combG (combS e acc) l).length ≤ _
    rw [List.length_cons]
    omega
theorem mkEnts_rising : ∀ (i : Nat) (l : List Edg), Rising (mkEnts i l) ∧ ∀ e ∈ mkEnts i l, i ≤ e.born ∧ e.born < i + l.length
  | i, [] => ⟨List.Pairwise.nil, fun e h => by cases h⟩
  | i, x :: l => by
    obtain ⟨h1, h2⟩ := mkEnts_rising (i + 1) l
    refine ⟨List.Pairwise.cons (fun e he => by have := (h2 e he).1; show i < e.born; omega) h1, fun e he => ?_⟩
    rcases List.mem_cons.1 he with rfl | he
    · exact ⟨Nat.le_refl _, by simp⟩
    · have := h2 e he
      simp only [List.length_cons]; omega
/-- the edge of an entry -/
def edgeE (e : MapEntry) : Edg := match e.key, e.val with
  | .agg ⟨[.int _ a, .int _ b]⟩, .agg ⟨[_, .int _ c]⟩ => (a, b, c)
  | _, _ => (0, 0, 0)
theorem mkEnts_edge : ∀ (i : Nat) (l : List Edg), (∀ x ∈ l, Small x) → (mkEnts i l).map edgeE = l ∧ ∀ e ∈ mkEnts i l, ∃ w : Nat, w < 1000000 ∧ (edgeE e).2.2 = (w : Int) ∧ e.key = keyV (edgeE e) ∧ e.val = .agg ⟨wideL w⟩
  | i, [], _ => ⟨rfl, fun e h => by cases h⟩
  | i, x :: l, h => by
    obtain ⟨h1, h2⟩ := mkEnts_edge (i + 1) l fun y hy => h y (List.mem_cons_of_mem _ hy)
    obtain ⟨w, hw, hwl⟩ := smallI_nat (h x (List.mem_cons_self ..)).2.2
    obtain ⟨a, b, c⟩ := x
    simp only at hw
    subst hw
    have he : edgeE { key := keyV (a, b, (w : Int)), val := .agg ⟨wideL ((w : Int)).toNat⟩, born := i } = (a, b, (w : Int)) := rfl
    refine ⟨?_, fun e hm => ?_⟩
    · show edgeE _ :: (mkEnts (i + 1) l).map edgeE = _
      rw [h1]; rfl
    · rcases List.mem_cons.1 hm with rfl | hm
      · exact ⟨w, hwl, rfl, rfl, rfl⟩
      · exact h2 e hm
def Cmb1 (h : Hp) (nx r n : Nat) (es : List Edg) (sl : Value) (m : Nat) (tm : Tm) (h' : Hp) (nx' : Nat) : Prop :=
  ∃ i, m = n - i ∧ i ≤ n ∧ tget tm 0 = .int .i64 1 ∧ tget tm 6 = .map (some r) ∧ tget tm 22 = sl ∧ tget tm 23 = .int .i64 (n : Int) ∧ tget tm 24 = .int .i64 (i : Int) ∧ nx ≤ r ∧ r < nx' ∧
    hget h' r = some (.map (mkEnts 0 (combG [] (es.take i))) (combG [] (es.take i)).length) ∧ ∀ b, b < nx → hget h' b = hget h b
def Cmb2 (h : Hp) (it r ck : Nat) (es : List MapEntry) (m : Nat) (tm : Tm) (h' : Hp) (nx' : Nat) : Prop :=
  ∃ seen acc, m = (leftOf seen es).length ∧ it < nx' ∧ tget tm 0 = .int .i64 1 ∧ tget tm 52 = .pointer (some ⟨it, 0, none⟩) ∧ SlAt h' (tget tm 13) encE 3 acc (it + 1) nx' ∧ (acc ++ (leftOf seen es).map edgeE).Perm (es.map edgeE) ∧
    hget h' it = some (.iter (some r) ck seen ck) ∧ ∀ b, b < it → hget h' b = hget h b
section
variable {P : Program} {orc : Orc}
structure CombAt (P : Program) (orc : Orc) (f fis fof fad fna fs fo fl fw fwn tr tw kt fls fps fins : Nat) (R1 R2 R3 : CC) : Prop where
  cf : compAt P f = some (cfCombine fis fof fad fna fs fo kt)
  no : orc f = none
  is : compAt P fis = some (cfIs tr)
  nis : orc fis = none
  of : compAt P fof = some (cfOf tw)
  nof : orc fof = none
  ad : compAt P fad = some (cfAdd fl tr tw R1 R2 R3)
  nad : orc fad = none
  le : compAt P fl = some (cfLesser fw tw)
  nle : orc fl = none
  na : compAt P fna = some (cfNarrow fwn)
  nna : orc fna = none
  wn : compAt P fwn = some (cfWNarrow fof tw)
  nwn : orc fwn = none
  w : WideAt P tw
  c : WideCmp P orc fw
  k : KeyAt P kt
  eq : ∀ n : Nat, n < 1000000000 → bin P .neq tw (.agg ⟨wideL n⟩) (.agg ⟨wideL n⟩) = .ok (.bool false)
  S : SortAt P orc fs fls fps fins 3 fo encE cmpE
theorem combine_cv {f fis fof fad fna fs fo fl fw fwn tr tw kt fls fps fins : Nat} {R1 R2 R3 : CC} (A : CombAt P orc f fis fof fad fna fs fo fl fw fwn tr tw kt fls fps fins R1 R2 R3)
    {h : Hp} {nx bs os n cap : Nat} {sp : Option Nat} {cs : List Value} {ro : Bool} {es : List Edg} (hbs : hget h bs = some (.cells cs ro)) (hbn : bs < nx) (hn : es.length = n) (hn1 : n ≤ 12) (hsm : ∀ x ∈ es, Small x)
    (hld : ∀ i x, es[i]? = some x → loadC (some 3) (os + i * 3) cs = .ok (.agg ⟨encE x⟩)) (hne : combG [] es ≠ []) :
    Cv P orc false f [.int .i64 1, .slice (some ⟨bs, os, sp⟩) n cap] h nx (fun v h' _ => ∃ bk l, v = .tuple ⟨[.slice (some ⟨bk, 0, some 3⟩) l.length l.length, .int .i64 0]⟩ ∧ nx ≤ bk ∧ hget h' bk = some (.cells (flat encE l) false) ∧ l.Perm (combG [] es) ∧ l.Pairwise (fun x y => ¬ cmpE y x < 0) ∧
      ∀ b, b < nx → hget h' b = hget h b) := by
  refine Cv.enter A.no A.cf ?_
  unfold cfCombine
  refine Ev.seq (Ev.regO ?_)
  simp only [Ov_pur, c_mv, cev_v, RK_ok, putT_some, Ov_nil, nextK_normal]
  refine Ev.seq (Ev.seq (Ev.regO ?_))
  simp only [Ov_pur, c_mv, cev_t, setArgs_cons, setArgs_nil, tgs, ↓reduceIte, Nat.reduceEqDiff, Nat.reduceAdd, RK_ok, putT_some]
  refine Ov_call ?_
  simp only [cevs_cons, cevs_nil, cev_t, tgs, ↓reduceIte, Nat.reduceEqDiff]
  refine (is_cv A.is A.nis).mono ?_
  rintro v h' nx' ⟨rfl, rfl, rfl⟩
  simp only [Ov_pur, c_un, cev_t, putT_some, tgs, ↓reduceIte, un_not, RK_ok, Ov_nil, nextK_normal]
  refine Ev.cond false (by simp) (by simp) fun _ => Ev.skip ?_
  show Ev P orc false _ _ _ _ _
  refine Ev.seq (Ev.regO ?_)
  simp only [Ov_alc, calq, RK_ok, nbV, nbO, putT_some, Ov_pur, c_mv, cev_t, tgs, ↓reduceIte, Ov_nil, nextK_normal]
  refine Ev.seq (Ev.seq (Ev.regO ?_))
  simp only [Ov_pur, Ov_red, c_mv, c_lens, lenS_slice, cev_t, cev_v, putT_some, tgs, ↓reduceIte, Nat.reduceEqDiff, RK_ok, Ov_nil, nextK_normal]
  refine Ev.block (Ev.loop (fun m tm h1 nx1 => Cmb1 h' nx' nx' n es (.slice (some ⟨bs, os, sp⟩) n cap) m tm h1 nx1) ?_ n _ _ _ ⟨0, rfl, by omega, by simp, by simp, by simp, by simp, by simp, Nat.le_refl _, by omega, by simp [combG, mkEnts], fun b hb => by simp [show b ≠ nx' by omega]⟩)
  rintro m tm h1 nx1 ⟨i, rfl, hin, t0, t6, t22, t23, t24, hrn, hr1, hm, hfr⟩
  have hsmt : ∀ x ∈ combG [] (es.take i), Small x := combG_small (fun x hx => hsm x (List.mem_of_mem_take hx)) (fun x hx => by cases hx)
  refine Ev.seq (Ev.regO ?_)
  simp only [Ov_pur, c_bin, cev_t, t24, t23, bin_lss, RK_ok, putT_some, Ov_nil, nextK_normal]
  refine Ev.seq (Ev.cond (decide ((i : Int) < (n : Int))) (by simp) (fun hlt => Ev.skip ?_) fun hge => Ev.exit ?_)
  · simp only [decide_eq_true_eq, Int.ofNat_lt] at hlt
    show Ev P orc false _ _ _ _ _
    obtain ⟨e, he⟩ : ∃ e, es[i]? = some e := ⟨_, List.getElem?_eq_getElem (by omega)⟩
    have hsme := hsm e (List.mem_of_getElem? he)
    refine Ev.seq (cmbBody_cv (s := false) A.of A.nof A.ad A.nad A.le A.nle A.w A.c A.k (r := nx') (bs := bs) (os := os) (n := n) (cap := cap) (sp := sp) (i := i) (cs := cs) (ro := ro) (acc := combG [] (es.take i)) (e := e) hsme hsmt hr1 hm (by rw [hfr _ hbn]; exact hbs) (by omega) hlt (hld i e he) (by simp [t0]) (by simp [t6]) (by simp [t22]) (by simp [t24]) ?_)
    intro tm2 h2 nx2 hlow hnx2 hm2 hfr2
    have u0 := hlow 0 (by omega)
    have u6 := hlow 6 (by omega)
    have u22 := hlow 22 (by omega)
    have u23 := hlow 23 (by omega)
    have u24 := hlow 24 (by omega)
    simp only [tgs, ↓reduceIte, Nat.reduceEqDiff, t0, t6, t22, t23, t24] at u0 u6 u22 u23 u24
    simp only [nextK_normal]
    refine Ev.regO ?_
    simp only [Ov_pur, c_mv, c_bin, cev_t, cev_v, u24, bin_add, tgs, ↓reduceIte, Nat.reduceEqDiff, RK_ok, putT_some, Ov_nil, nextK_normal]
    have htake : combG [] (es.take (i + 1)) = combS e (combG [] (es.take i)) := by
      rw [← combG_snoc, List.take_add_one, he]; rfl
    refine ⟨n - (i + 1), by omega, i + 1, rfl, by omega, by simp [u0], by simp [u6], by simp [u22], by simp [u23], by simp; exact wrapN (i + 1) (by omega), hrn, by omega, by rw [htake]; exact hm2, fun b hb => by rw [hfr2 b (by omega) (by omega)]; exact hfr b hb⟩
  · simp only [decide_eq_false_iff_not, Int.ofNat_lt] at hge
    have hi : i = n := by omega
    subst hi
    rw [List.take_of_length_le (by omega)] at hm hsmt
    generalize hcomb : combG [] es = L at *
    have hLl : L.length ≤ 12 := by rw [← hcomb]; have := combG_len es []; simp at this; omega
    simp only [nextK_exit, blkK_exit, ↓reduceIte, nextK_normal]
    refine Ev.seq (Ev.regO ?_)
    simp only [Ov_pur, c_mv, cev_v, RK_ok, putT_some, Ov_nil, nextK_normal]
    refine Ev.seq (Ev.seq (Ev.regO ?_))
    simp only [Ov_pur, c_mv, cev_t, tgs, t6, ↓reduceIte, Nat.reduceEqDiff, RK_ok, putT_some]
    have hrng : ∀ tm, ceff P (tset tm 51 (.map (some nx'))) h1 nx1 (.rng (.t 51)) = .val (.pointer (some ⟨nx1, 0, none⟩)) (hset h1 nx1 (.iter (some nx') L.length [] L.length)) (nx1 + 1) := fun tm => by
      show oRange h1 nx1 (tget (tset tm 51 (.map (some nx'))) 51) = _
      simp [oRange, hm, newIter]
    rw [Ov_eff (hrng _)]
    simp only [putT_some, Ov_nil, nextK_normal]
    obtain ⟨hris, hborn⟩ := mkEnts_rising 0 L
    obtain ⟨hmap, hent⟩ := mkEnts_edge 0 L hsmt
    have hck : ∀ e ∈ mkEnts 0 L, e.born < L.length := fun e he => by have := (hborn e he).2; omega
    refine Ev.block (Ev.loop (fun m tm h2 nx2 => Cmb2 h1 nx1 nx' L.length (mkEnts 0 L) m tm h2 nx2) ?_ (mkEnts 0 L).length _ _ _ ⟨[], [], by rw [leftOf_nil_seen], by omega, by simp [t0], by simp, .inl ⟨rfl, by simp⟩, by rw [leftOf_nil_seen]; exact List.Perm.refl _, by simp, fun b hb => by simp [show b ≠ nx1 by omega]⟩)
    rintro m tm2 h2 nx2 ⟨seen, acc, rfl, hnx2, u0, u52, hsl, hperm, hit, hfr2⟩
    have hm2 : hget h2 nx' = some (.map (mkEnts 0 L) L.length) := by rw [hfr2 _ hr1]; exact hm
    have hal : acc.length ≤ 12 := by
      have := hperm.length_eq
      rw [List.length_append, hmap] at this
      omega
    refine Ev.seq (Ev.regO (Ov_nxt rfl (by simpa using u52) hit hm2 (nextOk_of hck) (fun hend => ?_) fun e he => ⟨hck e (leftOf_mem he).1, ?_⟩))
    · simp only [Ov_pur, c_ext, cev_t, putT_some, tgs, ↓reduceIte, oExtract_tuple, List.getElem?_cons_zero, of_some, RK_ok, Ov_nil, nextK_normal]
      refine Ev.seq (Ev.cond false (by simp) (by simp) fun _ => Ev.exit ?_)
      simp only [nextK_exit, blkK_exit, ↓reduceIte, nextK_normal]
      rw [hend, hmap] at hperm
      simp only [List.map_nil, List.append_nil] at hperm
      have hane : acc ≠ [] := fun e => by rw [e] at hperm; exact hne (List.nil_perm.1 hperm)
      rcases hsl with ⟨e, _⟩ | ⟨bk, hb1, hb2, t13, hbk⟩
      · exact absurd e hane
      refine Ev.seq (Ev.regO ?_)
      simp only [Ov_pur, c_mv, cev_t, tgs, t13, ↓reduceIte, Nat.reduceEqDiff, RK_ok, putT_some]
      refine Ov_call ?_
      simp only [cevs_cons, cevs_nil, cev_t, cev_v, tgs, ↓reduceIte, Nat.reduceEqDiff]
      refine (sort_cv (s := false) A.S (l := acc) rfl hal hb2 hbk).mono ?_
      rintro v h3 nx3 ⟨hnx3, ⟨l', hp', hs', hb'⟩, hf3⟩
      simp only [Ov_nil, nextK_normal]
      refine Ev.seq (Ev.regO ?_)
      simp only [Ov_pur, Ov_nil, putT_some, c_mv, cev_t, cev_v, tgs, t13, ↓reduceIte, Nat.reduceEqDiff, RK_ok, nextK_normal]
      refine Ev.ret ?_
      simp only [retK_ret, resVs_tmp, resVs_nil, bind_ok, RK_ok, retV_two, tgs, ↓reduceIte, Nat.reduceEqDiff]
      refine ⟨bk, l', by rw [hp'.length_eq], by omega, hb', hp'.trans hperm, hs', fun b2 hb2' => ?_⟩
      rw [hf3 b2 (by omega) (by omega), hfr2 b2 (by omega)]
      exact hfr b2 hb2'
    · obtain ⟨hmem, hnot⟩ := leftOf_mem he
      obtain ⟨w, hwl, hx3, hkey, hval⟩ := hent e hmem
      have hpe := leftOf_perm hris he
      have hplen := hpe.length_eq
      simp only [List.length_cons] at hplen
      have hpp := hpe.map edgeE
      simp only [Ov_pur, c_ext, cev_t, putT_some, tgs, ↓reduceIte, oExtract_tuple, List.getElem?_cons_zero, of_some, RK_ok, Ov_nil, nextK_normal]
      refine Ev.seq (Ev.cond true (by simp) (fun _ => Ev.skip ?_) (by simp))
      show Ev P orc false _ _ _ _ _
      have hoe : oEntry (hset h2 nx1 (.iter (some nx') L.length (seen ++ [e.born]) L.length)) (.pointer (some ⟨nx1, 0, none⟩)) = .ok (.tuple ⟨[keyV (edgeE e), .agg ⟨wideL w⟩]⟩) := by
        rw [oEntry_eq (r := nx') (since := L.length) (ck := L.length) (seen := seen) (es := mkEnts 0 L) (e := e) (by simp) (by simp [show nx' ≠ nx1 by omega]; exact hm2) hris hmem, hkey, hval]
      have hsl2 : SlAt (hset h2 nx1 (.iter (some nx') L.length (seen ++ [e.born]) L.length)) (tget tm2 13) encE 3 acc (nx1 + 1) nx2 := by
        rcases hsl with ⟨e1, e2⟩ | ⟨bk, g1, g2, g3, g4⟩
        · exact .inl ⟨e1, e2⟩
        · exact .inr ⟨bk, g1, g2, g3, by simp [show bk ≠ nx1 by omega]; exact g4⟩
      refine Ev.block (cmbList_cv (s := false) A.na A.nna A.wn A.nwn A.of A.nof A.w A.eq hx3 hwl (it := nx1) (lo := nx1 + 1) (by simp [u52]) hoe (by simpa using hsl2) (by omega) (by omega) ?_)
      intro tm3 h3 nx3 hlow t52 hnx3 hsl3 hf3
      simp only [blkK_normal, nextK_normal]
      have v0 := hlow 0 (by omega)
      simp only [tgs, ↓reduceIte, Nat.reduceEqDiff, u0, u52] at v0 t52
      refine ⟨_, ?_, seen ++ [e.born], acc ++ [edgeE e], rfl, by omega, v0, t52, hsl3, ?_, by rw [hf3 _ (by omega)]; simp, fun b hb => by rw [hf3 b (by omega)]; simp [show b ≠ nx1 by omega]; exact hfr2 b hb⟩
      · omega
      · refine List.Perm.trans ?_ hperm
        rw [List.append_assoc]
        exact List.Perm.append_left acc (List.Perm.symm hpp)
end
end Go.Ax

/-! part AxOr7 -/
namespace Go.Ax
open Go
set_option linter.unusedSimpArgs false
set_option linter.unusedVariables false

/-! # edges.Combine's oracle is true -/
theorem edgesOf_ok : ∀ (N : Nat) {l : List Value} {es : List Edg}, l.length ≤ N → edgesOf l = some es → l = flat encE es ∧ ∀ x ∈ es, Small x := by
  intro N
  induction N with
  | zero =>
    intro l es hl h
    cases l with
    | nil => cases h; exact ⟨rfl, fun x hx => by cases hx⟩
    | cons x l => simp at hl
  | succ N ih =>
    intro l es hl h
    unfold edgesOf at h
    split at h
    · cases h; exact ⟨rfl, fun x hx => by cases hx⟩
    · rename_i a b c l
      split at h
      · rename_i r hr
        obtain ⟨h1, h2⟩ := ih (by simp at hl; omega) hr
        cases hs : (smallI a && (smallI b && smallI c)) with
        | false => rw [hs] at h; cases h
        | true =>
          rw [hs] at h
          cases h
          simp only [Bool.and_eq_true] at hs
          refine ⟨by rw [h1]; rfl, fun x hx => ?_⟩
          rcases List.mem_cons.1 hx with rfl | hx
          · exact ⟨hs.1, hs.2.1, hs.2.2⟩
          · exact h2 x hx
      · cases h
    · cases h
section
variable {P : Program}
theorem pair_rename (n k : Nat) (m : Int) (ρ ρ' : Rho) (nx b : Nat) (p : Place) (c : Value) (hp : ρ' b = some p) (hq : ρ nx = some p) (h : VR ρ' (.tuple ⟨[.slice (some ⟨b, 0, some k⟩) n n, .int .i64 m]⟩) c) : VR ρ (.tuple ⟨[.slice (some ⟨nx, 0, some k⟩) n n, .int .i64 m]⟩) c := by
  cases h with
  | tuple hl =>
    cases hl with
    | cons h1 h2 =>
      cases h2 with
      | cons h3 h4 =>
        cases h4 with
        | nil =>
          refine .tuple (.cons (slice_rename n k ρ ρ' nx b p _ hp hq h1) (.cons ?_ .nil))
          cases h3 with
          | int => exact .int _ _
theorem gCombine_ok (hP : POk P) {f fis fof fad fna fs fo fl fw fwn tr tw kt fls fps fins : Nat} {R1 R2 R3 : CC} (A : CombAt P orc0 f fis fof fad fna fs fo fl fw fwn tr tw kt fls fps fins R1 R2 R3) : OrcAt P f gCombine := by
  intro args h nx K hs
  unfold gCombine at hs
  split at hs <;> first | exact hs.elim | skip
  rename_i a n cap
  split at hs <;> first | exact hs.elim | skip
  rename_i cs ro hc
  split at hs <;> first | exact hs.elim | skip
  rename_i l hcut
  split at hs <;> first | exact hs.elim | skip
  rename_i es hes
  cases hle : Nat.ble es.length 12 with
  | false => rw [hle] at hs; exact hs.elim
  | true =>
    rw [hle] at hs
    simp only [cond_true] at hs
    have h12 := Nat.le_of_ble_eq_true hle
    obtain ⟨hl, hsm⟩ := edgesOf_ok _ (Nat.le_refl _) hes
    obtain ⟨b, o, sp⟩ := a
    rw [lcut_eq, ldrop_eq] at hcut
    simp only at hcut hc
    split at hcut
    · rename_i hlen
      injection hcut with hcut
      have hll : es.length = n := by
        have e1 : l.length = n * 3 := by rw [← hcut, List.length_take]; omega
        rw [hl, flat_len (k := 3) (fun _ => rfl)] at e1
        omega
      unfold combRes at hs
      split at hs
      · exact hs.elim
      · rename_i l2 hne
        cases hso : sortedB ltE (sortB ltE (combG [] es)) with
        | false => rw [hso] at hs; exact hs.elim
        | true =>
          rw [hso] at hs
          have hs : K (.tuple ⟨[.slice (some ⟨nx, 0, some 3⟩) (sortB ltE (combG [] es)).length (sortB ltE (combG [] es)).length, .int .i64 0]⟩) (hset h nx (.cells (flat encE (sortB ltE (combG [] es))) false)) (nx + 1) := hs
          have hperm := sortB_perm (lt := ltE) (combG [] es)
          have hsrt : (sortB ltE (combG [] es)).Pairwise (fun x y => ¬ cmpE y x < 0) := (sortedB_ok hso).imp fun h => ltE_eq.1 h
          have hcne : combG [] es ≠ [] := fun e => by
            exact hne (by rw [e]; rfl)
          have hld : ∀ i x, es[i]? = some x → loadC (some 3) (o + i * 3) cs = .ok (.agg ⟨encE x⟩) := fun i x hx => by
            have hi : i < es.length := by
              rcases Nat.lt_or_ge i es.length with h | h
              · exact h
              · rw [List.getElem?_eq_none h] at hx; cases hx
            have hg := flat_get (enc := encE) (k := 3) (fun _ => rfl) hx
            rw [← hl, ← hcut] at hg
            rw [List.length_drop] at hlen
            rw [loadC_many, if_pos (by omega)]
            rw [List.drop_take, List.take_take, List.drop_drop, Nat.min_eq_left (by omega)] at hg
            rw [hg]
          generalize hL : sortB ltE (combG [] es) = L at *
          refine orc_slice hP orc0_ok (val := fun b => .tuple ⟨[.slice (some ⟨b, 0, some 3⟩) L.length L.length, .int .i64 0]⟩) (cs := flat encE L) (plain_flat (fun _ => rfl) L) (callable_of hP A.cf) (fun ρ ρ' b p c hp hq hv => pair_rename _ _ _ ρ ρ' nx b p c hp hq hv) (fun hfr => ?_) hs
          have hbn : b < nx := by
            rcases Nat.lt_or_ge b nx with h | h
            · exact h
            · rw [hfr b h] at hc; cases hc
          refine (combine_cv A hc hbn hll (hll ▸ h12) hsm hld hcne).mono ?_
          rintro v h' nx' ⟨bk, l', rfl, hbk, hcs, hp', hs', hold⟩
          have : l' = L := sorted_eq (R := fun x y => ¬ cmpE y x < 0) (fun x y => cmpE_anti x y) (hp'.trans hperm.symm) hs' hsrt
          subst this
          refine ⟨bk, rfl, hbk, hcs, fun b2 o2 ho2 => ?_⟩
          rw [hold b2 ?_]
          · exact ho2
          · rcases Nat.lt_or_ge b2 nx with h | h
            · exact h
            · rw [hfr b2 h] at ho2; cases ho2
    · cases hcut
end
end Go.Ax

/-! part AxLive -/
namespace Go.Ax
open Go
set_option linter.unusedSimpArgs false
set_option linter.unusedVariables false

/-! # a run that was evaluated, as an oracle; and the end -/
def gLive : List Value → Hp → Nat → CR := fun args h nx => match args with
  | [] => .ok (.bool true) h nx
  | _ => .no "live"
section
variable {P : Program} {orc : Orc}
/-- a world in which all that was there is as it was -/
theorem Mv.still {B : Nat} {ρ : Rho} {H : AH} {w w' : World} {nx : Nat} (hr : Rel B ρ H w) (hsz : w.heap.size ≤ w'.heap.size) (hos : w'.os = w.os) (htp : w'.tape = w.tape) (hout : w'.output = w.output)
    (hfr : ∀ k, k < w.heap.size → w'.heap[k]? = w.heap[k]?) : Mv B ρ H w nx nx ρ H w' where
  rel := hr.world hsz fun b p hb hs => by
    obtain ⟨o, ho⟩ := Option.isSome_iff_exists.1 hs
    exact hfr _ (hr.obj b p o hb ho).blk_lt
  agree := fun _ _ => rfl
  size := hsz
  os := hos
  tape := htp
  output := hout
  frame := fun k hk _ => hfr k hk
  own := fun k h => .inl h
  le := Nat.le_refl _
theorem live_ok (hP : POk P) (horc : OrcOk P orc) {N : Nat} {f : FuncId} (hw : wTrue P orc N f) : OrcAt P f gLive := by
  intro args h nx K hs
  cases args with
  | cons _ _ => exact hs.elim
  | nil =>
    have hs : K (.bool true) h nx := hs
    obtain ⟨h', nx', he⟩ := wTrue_ok hw
    have hsat : crSat (callA P orc (exA P orc N) f [] hp0 0) (fun v _ _ => v = .bool true) := by rw [he]; rfl
    obtain ⟨hcal, hgo⟩ := callA_ok hP horc N f [] hp0 0 _ hsat
    refine ⟨hcal, fun B ρ w args' hr hf ha n => ?_⟩
    have hr0 : Rel w.heap.size (fun _ => none) (hget hp0) w := ⟨Nat.le_refl _, fun b p o hb _ => (by cases hb), fun b b' p p' hb _ _ _ _ _ => (by cases hb), fun b hs => by rw [hget_hp0] at hs; cases hs⟩
    cases ha
    refine (hgo w.heap.size (fun _ => none) w [] hr0 (fun _ _ => rfl) .nil n).mono fun e w' he => ?_
    obtain ⟨v', h2, nx2, ρ', c, rfl, rfl, hvr, hm⟩ := he
    cases hvr
    exact ⟨.bool true, h, nx, ρ, .bool true, rfl, hs, .bool true, Mv.still hr hm.size hm.os hm.tape hm.output fun k hk => hm.frame k hk (by rintro ⟨b, p, hb, _⟩; cases hb)⟩
/-- the same of an evaluation as the kernel gives it -/
theorem live_eq {f m : Nat} (hP : POk P) (horc : OrcOk P orc) (h : wTrue P orc m f = True) : OrcAt P f gLive := live_ok hP horc (of_eq_true h)
end
end Go.Ax

/-! part AxArg -/
namespace Go.Ax
open Go
set_option linter.unusedSimpArgs false
set_option linter.unusedVariables false

/-! # slices that are read -/
section
variable {α : Type}
def Keep (nx : Nat) (h h' : Hp) : Prop := ∀ b, b < nx → hget h' b = hget h b
theorem Keep.refl (nx : Nat) (h : Hp) : Keep nx h h := fun _ _ => rfl
theorem Keep.trans {nx nx' : Nat} {h h' h2 : Hp} (a : Keep nx h h') (b : Keep nx' h' h2) (hle : nx ≤ nx') : Keep nx h h2 := fun k hk => (b k (Nat.lt_of_lt_of_le hk hle)).trans (a k hk)
theorem Keep.set {nx b : Nat} {h h' : Hp} {o : AObj} (a : Keep nx h h') (hb : nx ≤ b) : Keep nx h (hset h' b o) := fun k hk => by
  rw [hgs, if_neg (by omega)]; exact a k hk
theorem Keep.mono {nx nx' : Nat} {h h' : Hp} (a : Keep nx' h h') (hle : nx ≤ nx') : Keep nx h h' := fun k hk => a k (Nat.lt_of_lt_of_le hk hle)
/-- what is read by it -/
def SlRd (h : Hp) (nx : Nat) (v : Value) (enc : α → List Value) (l : List α) : Prop :=
  ∃ a cap, v = .slice a l.length cap ∧ (l ≠ [] → ∃ b sp ro, b < nx ∧ a = some ⟨b, 0, sp⟩ ∧ hget h b = some (.cells (flat enc l) ro))
theorem SlRd.keep {h h' : Hp} {nx nx' : Nat} {v : Value} {enc : α → List Value} {l : List α} (hs : SlRd h nx v enc l) (hk : Keep nx h h') (hle : nx ≤ nx') : SlRd h' nx' v enc l := by
  obtain ⟨a, cap, hv, hc⟩ := hs
  refine ⟨a, cap, hv, fun hl => ?_⟩
  obtain ⟨b, sp, ro, hb, ha, hg⟩ := hc hl
  exact ⟨b, sp, ro, by omega, ha, by rw [hk b hb]; exact hg⟩
theorem SlAt.rd {h : Hp} {lo hi k : Nat} {v : Value} {enc : α → List Value} {l : List α} (hs : SlAt h v enc k l lo hi) : SlRd h hi v enc l := by
  rcases hs with ⟨rfl, rfl⟩ | ⟨b, h1, h2, rfl, hg⟩
  · exact ⟨none, 0, rfl, fun h => absurd rfl h⟩
  · exact ⟨_, _, rfl, fun _ => ⟨b, some k, false, h2, rfl, hg⟩⟩
theorem SlRd.at {h : Hp} {nx : Nat} {v : Value} {enc : α → List Value} {l : List α} (hs : SlRd h nx v enc l) {i : Nat} {x : α} (hx : l[i]? = some x) :
    i < l.length ∧ ∃ b sp ro cap, b < nx ∧ v = .slice (some ⟨b, 0, sp⟩) l.length cap ∧ hget h b = some (.cells (flat enc l) ro) := by
  have hi : i < l.length := by
    rcases Nat.lt_or_ge i l.length with h | h
    · exact h
    · rw [List.getElem?_eq_none h] at hx; cases hx
  obtain ⟨a, cap, hv, hc⟩ := hs
  obtain ⟨b, sp, ro, hb, rfl, hg⟩ := hc (fun e => by rw [e] at hi; exact absurd hi (Nat.not_lt_zero _))
  exact ⟨hi, b, sp, ro, cap, hb, hv, hg⟩
/-- one cell of one that is read -/
theorem flat_cell {enc : α → List Value} {k : Nat} (hk : ∀ x, (enc x).length = k) {l : List α} {i j : Nat} {x : α} (hx : l[i]? = some x) (hj : j < k) : (flat enc l)[i * k + j]? = (enc x)[j]? := by
  have hg := flat_get hk hx
  have : ((flat enc l).drop (i * k))[j]? = (enc x)[j]? := by
    rw [← hg, List.getElem?_take, if_pos hj]
  rw [List.getElem?_drop] at this
  exact this
end

/-! # slices that came in -/
section
variable {H : Type} {enc : TypeId × Value → H} {P : Program} {w : World} {base : Nat} {sp : Nat → Bool} {held : Bool}
/-- three integers -/
structure Tri (P : Program) (t : TypeId) : Prop where
  ex : ∃ fs f0 f1 f2, P.underlying t = some (.struct fs) ∧ fs[0]? = some f0 ∧ fs[1]? = some f1 ∧ fs[2]? = some f2 ∧ f0.offset = 0 ∧ f1.offset = 1 ∧ f2.offset = 2 ∧
    P.underlying f0.type = some (.int .i64) ∧ P.underlying f1.type = some (.int .i64) ∧ P.underlying f2.type = some (.int .i64) ∧ P.cellsOf f0.type = 1 ∧ P.cellsOf f1.type = 1 ∧ P.cellsOf f2.type = 1
  size : P.cellsOf t = 3
abbrev Edg3 := Int × Int × Int
def enc3 (x : Edg3) : List Value := [.int .i64 x.1, .int .i64 x.2.1, .int .i64 x.2.2]
def Wf64 (n : Int) : Prop := (Lit.int .i64 n).wf = true
theorem trod_tri {t : TypeId} {fuel : Nat} {cs : List Value} {x : DataW H × List MemPlace} (T : Tri P t) (h : DataW.trod enc P w base sp held fuel t cs = some x) : ∃ e : Edg3, cs = enc3 e ∧ Wf64 e.1 ∧ Wf64 e.2.1 ∧ Wf64 e.2.2 := by
  obtain ⟨fs, f0, f1, f2, ht, h0, h1, h2, o0, o1, o2, u0, u1, u2, c0, c1, c2⟩ := T.ex
  obtain ⟨xs, n, rfl, _, hlen, hxl, hall⟩ := DataW.trod_struct ht h
  rw [T.size] at hlen
  have one : ∀ (i : Nat) (f : Field), fs[i]? = some f → f.offset = i → P.underlying f.type = some (.int .i64) → P.cellsOf f.type = 1 → ∃ n : Int, (cs.drop i).take 1 = [.int .i64 n] ∧ Wf64 n := fun i f hf ho hu hc => by
    have he := hall i f hf
    have hi : i < xs.length := by rw [hxl]; exact (Array.getElem?_eq_some_iff.1 hf).1
    rw [ho, hc, List.getElem?_eq_getElem hi] at he
    obtain ⟨n, h1, _, h2⟩ := DataW.trod_int hu he
    exact ⟨n, h1, h2⟩
  obtain ⟨a, ha, wa⟩ := one 0 f0 h0 o0 u0 c0
  obtain ⟨b, hb, wb⟩ := one 1 f1 h1 o1 u1 c1
  obtain ⟨c, hc, wc⟩ := one 2 f2 h2 o2 u2 c2
  match cs, hlen with
  | [x, y, z], _ =>
    simp at ha hb hc
    exact ⟨(a, b, c), by simp [enc3, ha, hb, hc], wa, wb, wc⟩
theorem cells_get {a : Addr} {n : Nat} {cs : List Value} (h : w.cells? base a n = some cs) : cs.length = n ∧ ∀ i v, cs[i]? = some v → w.cell? (a.add i) = some v := by
  unfold World.cells? at h
  split at h
  · have hl : cs.length = n := by simpa using mapM_some_length h
    refine ⟨hl, fun i v hv => ?_⟩
    have hi : i < n := by
      rcases Nat.lt_or_ge i cs.length with h1 | h1
      · omega
      · rw [List.getElem?_eq_none h1] at hv; cases hv
    have := mapM_some_get h i i (by simp [hi])
    rw [this, hv]
  · cases h
theorem add_add (a : Addr) (i j : Nat) : (a.add i).add j = a.add (i + j) := by
  unfold Addr.add
  by_cases h1 : i = 0
  · subst h1; simp
  · by_cases h2 : j = 0
    · subst h2; simp
    · simp [h1, h2, Nat.add_assoc]
/-- a slice of elements of k cells each, each of which is read as one thing -/
theorem open_rows {α : Type} {e3 : α → List Value} {k : Nat} {t e : TypeId} {fuel : Nat} {cs : List Value} {x : DataW H × List MemPlace} (ht : P.underlying t = some (.slice e)) (hc : P.cellsOf e = k) (R : α → Prop)
    (hone : ∀ (n : Nat) (c : List Value) y, DataW.trod enc P w base sp held n e c = some y → ∃ z : α, c = e3 z ∧ R z)
    (h : DataW.trod enc P w base sp held fuel t cs = some x) :
    cs = [.slice none 0 0] ∨ ∃ (a : Addr) (zs : List α) (cap : Nat), cs = [.slice (some a) zs.length cap] ∧ zs.length ≤ cap ∧ cap ≤ maxLen ∧ (∀ z ∈ zs, R z) ∧ ∀ i v, (flat e3 zs)[i]? = some v → w.cell? (a.add i) = some v := by
  rcases DataW.trod_slice ht h with ⟨hcs, _⟩ | ⟨a, len, cap, elems, rest, n, rfl, hcs, _, hb, hl, hm, hlen, hel, _⟩
  · exact .inl hcs
  · have key : ∀ m, m ≤ len → ∃ zs : List α, zs.length = m ∧ (∀ z ∈ zs, R z) ∧ (flat e3 zs).length = m * k ∧ ∀ i v, (flat e3 zs)[i]? = some v → w.cell? (a.add i) = some v := by
      intro m
      induction m with
      | zero => intro _; exact ⟨[], rfl, by simp, by simp [flat], fun i v hv => by simp [flat] at hv⟩
      | succ m ih =>
        intro hm'
        obtain ⟨zs, h1, h2, h3, h4⟩ := ih (by omega)
        have hE := hel m (by omega)
        rw [hc, List.getElem?_eq_getElem (by omega : m < elems.length)] at hE
        simp only [Option.bind_eq_some_iff] at hE
        obtain ⟨c, hcc, htr⟩ := hE
        obtain ⟨z, rfl, hz⟩ := hone _ _ _ htr
        obtain ⟨hcl, hcg⟩ := cells_get hcc
        refine ⟨zs ++ [z], by simp [h1], fun y hy => ?_, by rw [flat_app, List.length_append, h3, hcl, Nat.succ_mul], fun i v hv => ?_⟩
        · rcases List.mem_append.1 hy with hy | hy
          · exact h2 y hy
          · rw [List.mem_singleton.1 hy]; exact hz
        · rw [flat_app, List.getElem?_append] at hv
          split at hv
          · exact h4 i v hv
          · rename_i hge
            have := hcg _ v hv
            rw [add_add, h3] at this
            rw [h3] at hge
            rw [show m * k + (i - m * k) = i by omega] at this
            exact this
    obtain ⟨zs, h1, h2, _, h4⟩ := key len (Nat.le_refl _)
    exact .inr ⟨a, zs, cap, by rw [h1]; exact hcs, by omega, hm, h2, h4⟩
end
/-! # a world in which slices came in -/
def rhoL (ps : List (Place × List Value)) : Rho := fun b => (ps[b]?).map (·.1)
def hpL : Nat → List (Place × List Value) → Hp → Hp
  | _, [], h => h
  | i, p :: ps, h => hpL (i + 1) ps (hset h i (.cells p.2 true))
theorem hget_hpL : ∀ (ps : List (Place × List Value)) (i : Nat) (h : Hp) (b : Nat), hget (hpL i ps h) b = if b < i then hget h b else match ps[b - i]? with
    | some p => some (.cells p.2 true)
    | none => hget h b
  | [], i, h, b => by by_cases hb : b < i <;> simp [hpL, hb]
  | p :: ps, i, h, b => by
    show hget (hpL (i + 1) ps (hset h i (.cells p.2 true))) b = _
    rw [hget_hpL ps (i + 1) _ b, hgs]
    by_cases h1 : b < i
    · rw [if_pos (by omega), if_neg (by omega), if_pos h1]
    · by_cases h2 : b = i
      · subst h2
        simp
      · rw [if_neg (by omega), if_neg h1, if_neg h2]
        obtain ⟨j, hj⟩ : ∃ j, b - i = j + 1 := ⟨b - i - 1, by omega⟩
        rw [hj, show b - (i + 1) = j by omega]
        rfl
theorem hpL_some {ps : List (Place × List Value)} {b : Nat} {o : AObj} (h : hget (hpL 0 ps hp0) b = some o) : ∃ p, ps[b]? = some p ∧ o = .cells p.2 true := by
  rw [hget_hpL, if_neg (Nat.not_lt_zero _), Nat.sub_zero, hget_hp0] at h
  cases hp : ps[b]? with
  | none => rw [hp] at h; cases h
  | some p => rw [hp] at h; cases h; exact ⟨p, rfl, rfl⟩
theorem hpL_at {ps : List (Place × List Value)} {b : Nat} {p : Place × List Value} (h : ps[b]? = some p) : hget (hpL 0 ps hp0) b = some (.cells p.2 true) := by
  rw [hget_hpL, if_neg (Nat.not_lt_zero _), Nat.sub_zero, h]
/-- what each of these is -/
def InW (w : World) (ps : List (Place × List Value)) : Prop := ∀ p ∈ ps, ∃ c e fr, w.heap[p.1.blk]? = some (.cells c e fr) ∧ CellsR (rhoL ps) p.2 c p.1.off
theorem heap_lt {w : World} {b : Nat} {x : Obj} (h : w.heap[b]? = some x) : b < w.heap.size := (Array.getElem?_eq_some_iff.1 h).1
theorem in_rel {w : World} {ps : List (Place × List Value)} (hin : InW w ps) : Rel w.heap.size (rhoL ps) (hget (hpL 0 ps hp0)) w where
  base := Nat.le_refl _
  obj := fun b p o hb ho => by
    obtain ⟨q, hq, rfl⟩ := hpL_some ho
    unfold rhoL at hb
    rw [hq] at hb; cases hb
    obtain ⟨c, e, fr, hw, hc⟩ := hin q (List.mem_of_getElem? hq)
    exact ⟨heap_lt hw, c, e, fr, hw, hc⟩
  inj := fun b b' p p' hb hb' hs _ hB _ => by
    exfalso
    unfold rhoL at hb
    cases hq : ps[b]? with
    | none => rw [hq] at hb; cases hb
    | some q =>
      rw [hq] at hb
      have hb : q.1 = p := by simpa using hb
      subst hb
      obtain ⟨c, e, fr, hw, _⟩ := hin q (List.mem_of_getElem? hq)
      have := heap_lt hw
      omega
  dom := fun b hs => by
    obtain ⟨o, ho⟩ := Option.isSome_iff_exists.1 hs
    obtain ⟨q, hq, _⟩ := hpL_some ho
    unfold rhoL
    rw [hq]; rfl
theorem in_fr (ps : List (Place × List Value)) : Fr (rhoL ps) ps.length := fun b hb => by
  unfold rhoL
  rw [List.getElem?_eq_none hb]; rfl
theorem in_blk {w : World} {ps : List (Place × List Value)} (hin : InW w ps) : ∀ b p, rhoL ps b = some p → p.blk < w.heap.size := fun b p hb => by
  unfold rhoL at hb
  cases hq : ps[b]? with
  | none => rw [hq] at hb; cases hb
  | some q =>
    rw [hq] at hb; cases hb
    obtain ⟨c, e, fr, hw, _⟩ := hin q (List.mem_of_getElem? hq)
    exact heap_lt hw
theorem below_of {B nx nx' : Nat} {ρ ρ' : Rho} {H H' : AH} {w w' : World} (hB : B = w.heap.size) (hm : Mv B ρ H w nx nx' ρ' H' w') : RowKit.Below w.heap.size w w' :=
  ⟨hm.os, hm.tape, hm.output, hm.size, fun k hk => hm.frame k hk (by rintro ⟨b, p, _, _, _, h⟩; omega)⟩
section
variable {P : Program} {orc : Orc}
/-- a law whose every end is true -/
theorem run_ok (hP : POk P) (horc : OrcOk P orc) {f : FuncId} {args : List Value} {h : Hp} {nx : Nat} (hc : Cv P orc false f args h nx (fun v _ _ => v = .bool true))
    {ρ : Rho} {w : World} {args' : List Value} (hr : Rel w.heap.size ρ (hget h) w) (hf : Fr ρ nx) (ha : VRL ρ args args') (n : Nat) :
    CallsIn Fence.wide n P f ⟨args'⟩ w (fun e w' => e = .returned (.bool true) ∧ RowKit.Below w.heap.size w w') := by
  obtain ⟨N, hN⟩ := hc
  have hs := (ccall_ok (P := P) (orc := orc) N f args h nx).sat hN.1
  obtain ⟨_, h2⟩ := callA_ok hP horc N f args h nx _ hs
  refine (h2 w.heap.size ρ w args' hr hf ha n).mono fun e w' he => ?_
  obtain ⟨v', h', nx', ρ', c, rfl, rfl, hvc, hm⟩ := he
  cases hvc
  exact ⟨rfl, below_of rfl hm⟩
end
end Go.Ax

/-! part Glue0 -/
namespace Go.Ax
open Go
set_option linter.unusedSimpArgs false
set_option linter.unusedVariables false
section
variable {H : Type} {enc : TypeId × Value → H} {P : Program} {w : World} {sp : Nat → Bool} {held : Bool} {α : Type}
/-- where the cells of a slice that came in lie -/
def LiesAt (w : World) (b off : Nat) (l : List Value) : Prop := ∃ c e fr, w.heap[b]? = some (.cells c e fr) ∧ ∀ i x, l[i]? = some x → c[off + i]? = some x
theorem shape_cells {w : World} {b : Nat} {x : TypeId × Nat} (h : w.shape? b = some x) : ∃ c e fr, w.heap[b]? = some (.cells c e fr) := by
  unfold World.shape? at h
  split at h
  · rename_i c e fr hc; exact ⟨_, _, _, hc⟩
  all_goals cases h
/-- a slice that came in, of elements that are read as one thing each -/
theorem open_sl {e3 : α → List Value} {k : Nat} {t e : TypeId} {r : Reach} {base b0 fuel : Nat} {v : Value} {x : DataW H × List MemPlace} (ht : P.underlying t = some (.slice e)) (hc : P.cellsOf e = k) (R : α → Prop)
    (hone : ∀ (n : Nat) (c : List Value) y, DataW.trod enc P w base sp held n e c = some y → ∃ z : α, c = e3 z ∧ R z)
    (h : DataW.trod enc P w base sp held fuel t [v] = some x) (hval : Cell.okWide P w r b0 t v) :
    ∃ zs : List α, (∀ z ∈ zs, R z) ∧ ((zs = [] ∧ v = .slice none 0 0) ∨ ∃ b off cap, v = .slice (some ⟨b, off, none⟩) zs.length cap ∧ LiesAt w b off (flat e3 zs)) := by
  rcases open_rows ht hc R hone h with hcs | ⟨a, zs, cap, hcs, hl, hm, hR, hcell⟩
  · injection hcs with hcs _
    exact ⟨[], by simp, .inl ⟨rfl, hcs⟩⟩
  · injection hcs with hcs _
    subst hcs
    refine ⟨zs, hR, .inr ?_⟩
    unfold Cell.okWide at hval
    rw [ht] at hval
    simp only at hval
    unfold Cell.ok at hval
    rw [ht] at hval
    obtain ⟨_, _, hhas⟩ := hval
    obtain ⟨_, hspot, row, cells, hsh, _⟩ := hhas
    obtain ⟨b, off, spot⟩ := a
    simp only at hspot hsh
    subst hspot
    obtain ⟨c, e', fr, hw⟩ := shape_cells hsh
    refine ⟨b, off, cap, rfl, c, e', fr, hw, fun i y hy => ?_⟩
    have h1 := hcell i y hy
    have e1 : (Addr.add ⟨b, off, none⟩ i) = ⟨b, off + i, none⟩ := by
      unfold Addr.add
      by_cases hi : i = 0
      · subst hi; simp
      · simp [hi]
    rw [e1] at h1
    unfold World.cell? at h1
    simpa [hw] using h1
/-- one integer of a struct that came in -/
theorem field_int {t : TypeId} {k : IntKind} {fuel : Nat} {c : Value} {x : DataW H × List MemPlace} (ht : P.underlying t = some (.int k)) (h : DataW.trod enc P w 0 sp held fuel t [c] = some x) : ∃ n : Int, c = .int k n := by
  obtain ⟨n, h1, _⟩ := DataW.trod_int ht h
  injection h1 with h1 _
  exact ⟨n, h1⟩
end
/-! ## what came in, as blocks -/
/-- one slice that came in: its places, and as what it is read -/
def inPs (v : Value) (l : List Value) : List (Place × List Value) := match v with
  | .slice (some a) _ _ => [(⟨a.block, a.off, 0, 0⟩, l)]
  | _ => []
def inV (v : Value) : Value := match v with
  | .slice (some _) n c => .slice (some ⟨0, 0, none⟩) n c
  | v => v
theorem in_one {α : Type} {e3 : α → List Value} {w : World} {v : Value} {zs : List α} (hpl : ∀ z, plainL (e3 z) = true)
    (h : (zs = [] ∧ v = .slice none 0 0) ∨ ∃ b off cap, v = .slice (some ⟨b, off, none⟩) zs.length cap ∧ LiesAt w b off (flat e3 zs)) :
    InW w (inPs v (flat e3 zs)) ∧ VR (rhoL (inPs v (flat e3 zs))) (inV v) v ∧ SlRd (hpL 0 (inPs v (flat e3 zs)) hp0) (inPs v (flat e3 zs)).length (inV v) e3 zs := by
  have plain : ∀ l : List α, ∀ x ∈ flat e3 l, plainV x = true := by
    intro l
    induction l with
    | nil => intro x hx; cases hx
    | cons z l ih =>
      intro x hx
      have hx : x ∈ e3 z ++ flat e3 l := hx
      rcases List.mem_append.1 hx with hx | hx
      · have : ∀ (l : List Value), plainL l = true → ∀ x ∈ l, plainV x = true := by
          intro l
          induction l with
          | nil => intro _ x hx; cases hx
          | cons y l ih =>
            intro h x hx
            have h : (plainV y && plainL l) = true := h
            simp only [Bool.and_eq_true] at h
            rcases List.mem_cons.1 hx with rfl | hx
            · exact h.1
            · exact ih h.2 x hx
        exact this _ (hpl z) x hx
      · exact ih x hx
  rcases h with ⟨rfl, rfl⟩ | ⟨b, off, cap, rfl, c, e, fr, hw, hg⟩
  · exact ⟨fun p hp => (by cases hp), VR.sliceNil 0 0, ⟨none, 0, rfl, fun h => absurd rfl h⟩⟩
  · refine ⟨fun p hp => ?_, .sliceE (p := ⟨b, off, 0, 0⟩) rfl _ _, ⟨_, _, rfl, fun _ => ⟨0, none, true, by simp [inPs], rfl, hpL_at (p := (⟨b, off, 0, 0⟩, flat e3 zs)) rfl⟩⟩⟩
    have hp : p = (⟨b, off, 0, 0⟩, flat e3 zs) := by simpa [inPs] using hp
    subst hp
    exact ⟨c, e, fr, hw, fun i x hx => ⟨x, hg i x hx, plainV_self (plain zs x (List.mem_of_getElem? hx)) _⟩⟩
end Go.Ax

/-! part AxFor -/
namespace Go.Ax
open Go
set_option linter.unusedSimpArgs false
set_option linter.unusedVariables false

/-! # a slice in a block of one's own -/
section
variable {α : Type}
def SlNw (h : Hp) (lo hi : Nat) (v : Value) (enc : α → List Value) (l : List α) : Prop :=
  ∃ a cap, v = .slice a l.length cap ∧ (l ≠ [] → ∃ b sp ro, lo ≤ b ∧ b < hi ∧ a = some ⟨b, 0, sp⟩ ∧ hget h b = some (.cells (flat enc l) ro))
theorem SlNw.rd {h : Hp} {lo hi : Nat} {v : Value} {enc : α → List Value} {l : List α} (hs : SlNw h lo hi v enc l) : SlRd h hi v enc l := by
  obtain ⟨a, cap, hv, hc⟩ := hs
  refine ⟨a, cap, hv, fun hl => ?_⟩
  obtain ⟨b, sp, ro, _, hb, ha, hg⟩ := hc hl
  exact ⟨b, sp, ro, hb, ha, hg⟩
theorem SlNw.keep {h h' : Hp} {lo hi lo' hi' : Nat} {v : Value} {enc : α → List Value} {l : List α} (hs : SlNw h lo hi v enc l) (hk : ∀ b, lo ≤ b → b < hi → hget h' b = hget h b) (h1 : lo' ≤ lo) (h2 : hi ≤ hi') : SlNw h' lo' hi' v enc l := by
  obtain ⟨a, cap, hv, hc⟩ := hs
  refine ⟨a, cap, hv, fun hl => ?_⟩
  obtain ⟨b, sp, ro, hb1, hb, ha, hg⟩ := hc hl
  exact ⟨b, sp, ro, by omega, by omega, ha, by rw [hk b hb1 hb]; exact hg⟩
theorem SlAt.nw {h : Hp} {lo hi k : Nat} {v : Value} {enc : α → List Value} {l : List α} (hs : SlAt h v enc k l lo hi) : SlNw h lo hi v enc l := by
  rcases hs with ⟨rfl, rfl⟩ | ⟨b, h1, h2, rfl, hg⟩
  · exact ⟨none, 0, rfl, fun h => absurd rfl h⟩
  · exact ⟨_, _, rfl, fun _ => ⟨b, some k, false, h1, h2, rfl, hg⟩⟩
end

/-! # a loop as it is written, and stores -/
section
variable {P : Program} {orc : Orc} {s : Bool}
/-- first what is taken, then what follows -/
@[congr] theorem RK_congr {α : Type} {r r' : R α} {k : α → Prop} (h : r = r') : RK r k = RK r' k := by rw [h]
theorem Ev.forL {B C c : Nat} {cond post : List CI} {body : CC} {K : KO'} (J : Nat → KS')
    (hJ : ∀ m tm h nx, J m tm h nx → Ov P orc s cond tm h nx (fun tm h nx => ∃ t : Bool, tget tm c = .bool t ∧ (t = false → K .normal tm h nx) ∧
      (t = true → Ev P orc s body tm h nx (blkK C (nextK (fun tm h nx => Ov P orc s post tm h nx (fun tm h nx => ∃ m', m' < m ∧ J m' tm h nx)) (blkK B K)))))) :
    ∀ m tm h nx, J m tm h nx → Ev P orc s (.block B (.loop (.seq (.seq (.regO cond) (.cond (.t c) .skip (.exit B))) (.seq (.block C body) (.regO post))))) tm h nx K := by
  intro m tm h nx hj
  refine Ev.block (Ev.loop J ?_ m tm h nx hj)
  intro m tm h nx hj
  refine Ev.seq (Ev.seq (Ev.regO ?_))
  refine (hJ m tm h nx hj).mono ?_
  rintro tm h nx ⟨t, ht, hf, hg⟩
  simp only [nextK_normal]
  refine Ev.cond t (by simpa using ht) (fun e => Ev.skip ?_) (fun e => Ev.exit ?_)
  · simp only [nextK_normal]
    refine Ev.seq (Ev.block ((hg e).mono ?_))
    intro x tm h nx hx
    cases x with
    | normal =>
      simp only [blkK_normal, nextK_normal] at hx ⊢
      exact Ev.regO hx
    | ret => exact hx
    | exit i =>
      simp only [blkK_exit, nextK_normal, nextK_exit] at hx ⊢
      split at hx
      · rename_i e; rw [if_pos e]; exact Ev.regO hx
      · rename_i e; rw [if_neg e]; exact hx
  · simp only [nextK_exit, blkK_exit, ↓reduceIte]
    exact hf e
theorem Ev.cut {a b : CC} {tm : Tm} {h : Hp} {nx : Nat} {K : KO'} (Q : KS') (h1 : Ev P orc s a tm h nx (nextK Q K)) (h2 : ∀ tm h nx, Q tm h nx → Ev P orc s b tm h nx K) : Ev P orc s (.seq a b) tm h nx K :=
  Ev.seq (h1.mono fun x tm h nx hx => by
    cases x with
    | normal => exact h2 tm h nx hx
    | ret => exact hx
    | exit i => exact hx)
theorem Ev.cutE {a : CC} {tm : Tm} {h : Hp} {nx : Nat} {K : KO'} (Q : KS') (h1 : Ev P orc s a tm h nx (nextK Q K)) (h2 : ∀ tm h nx, Q tm h nx → K .normal tm h nx) : Ev P orc s a tm h nx K :=
  h1.mono fun x tm h nx hx => by
    cases x with
    | normal => exact h2 tm h nx hx
    | ret => exact hx
    | exit i => exact hx
theorem Ev.cutE' {a : CC} {tm : Tm} {h : Hp} {nx : Nat} {K : KO'} (Q : KS') (h2 : ∀ tm h nx, Q tm h nx → K .normal tm h nx) (h1 : Ev P orc s a tm h nx (nextK Q K)) : Ev P orc s a tm h nx K := Ev.cutE Q h1 h2
theorem alc_box {tm : Tm} {x : Co} {l : List Value} (h : cev tm x = .agg ⟨l⟩) (hl : cellL l = true) : calq P tm (.box x) = .ok (.ptr (.cells l false)) := by
  show cellsNB (vcells (cev tm x)) = _
  rw [h]
  show (bif cellL l then _ else _) = _
  rw [hl]; rfl
@[simp] theorem alc_new (tm : Tm) (l : List Value) : calq P tm (.new l) = .ok (.ptr (.cells l false)) := rfl
@[simp] theorem nbV_ptr (nx : Nat) (o : AObj) : nbV nx (.ptr o) = .pointer (some ⟨nx, 0, none⟩) := rfl
@[simp] theorem nbO_ptr (o : AObj) : nbO (.ptr o) = o := rfl
@[simp] theorem nbV_slice (nx : Nat) (o : AObj) (n c : Nat) : nbV nx (.slice o n c) = .slice (some ⟨nx, 0, none⟩) n c := rfl
@[simp] theorem nbO_slice (o : AObj) (n c : Nat) : nbO (.slice o n c) = o := rfl
theorem st_at {h : Hp} {b off : Nat} {sp : Option Nat} {cs l : List Value} {n : Nat} (hb : hget h b = some (.cells cs false)) (hl : cellL l = true) (hn : l.length = n) (ho : off + n ≤ cs.length) :
    cSt h n l ⟨b, off, sp⟩ = .ok (hset h b (.cells (cs.take off ++ (l ++ cs.drop (off + n))) false)) := by
  unfold cSt writeA
  rw [llen_eq, hn]
  have e1 : Nat.beq n n = true := Nat.beq_refl n
  simp only [e1, cond_true, cellsOf_some hb, lput_eq, hl, hn, ho, if_true, of_some]
theorem st_one {h : Hp} {b off : Nat} {sp : Option Nat} {cs : List Value} {v : Value} (hb : hget h b = some (.cells cs false)) (hv : cellV v = true) (ho : off < cs.length) :
    cSt h 1 [v] ⟨b, off, sp⟩ = .ok (hset h b (.cells (cs.set off v) false)) := by
  rw [st_at (n := 1) (l := [v]) hb (by simp [cellL, hv]) rfl (by omega)]
  congr 4
  rw [List.set_eq_take_append_cons_drop, if_pos ho]
  rfl
@[simp] theorem vc_int (k : IntKind) (n : Int) : vcells (.int k n) = [.int k n] := rfl
@[simp] theorem vc_slice (a : Option Addr) (n c : Nat) : vcells (.slice a n c) = [.slice a n c] := rfl
@[simp] theorem vc_agg (l : List Value) : vcells (.agg ⟨l⟩) = l := rfl
@[simp] theorem vc_bool (b : Bool) : vcells (.bool b) = [.bool b] := rfl
@[simp] theorem vc_ptr (a : Option Addr) : vcells (.pointer a) = [.pointer a] := rfl
@[simp] theorem cellV_int (k : IntKind) (n : Int) : cellV (.int k n) = true := rfl
@[simp] theorem cellV_bool (b : Bool) : cellV (.bool b) = true := rfl
@[simp] theorem cellV_slice (a : Option Addr) (n c : Nat) : cellV (.slice a n c) = true := rfl
@[simp] theorem cellV_ptr (a : Option Addr) : cellV (.pointer a) = true := rfl
@[simp] theorem cellL_nil : cellL [] = true := rfl
@[simp] theorem cellL_cons (x : Value) (l : List Value) : cellL (x :: l) = (cellV x && cellL l) := by
  show (bif cellV x then cellL l else false) = _
  cases cellV x <;> rfl
@[simp] theorem cpur_build (tm : Tm) (z : List Value) (ps : List (Nat × Nat × Co)) : cpur P tm (.build z ps) = R.bind (cfillP tm ps z) (fun l => .ok (.agg ⟨l⟩)) := rfl
@[simp] theorem alc_bsl (tm : Tm) (n : Nat) (z : List Value) (ps : List (Nat × Nat × Co)) : calq P tm (.bsl n z ps) = R.bind (cfillP tm ps z) (fun l => sliceNB l n n) := rfl
@[simp] theorem sliceNB_eq (l : List Value) (a b : Nat) : sliceNB l a b = if cellL l = true then .ok (.slice (.cells l false) a b) else .no "cells" := by
  show (bif cellL l then _ else _) = _
  cases cellL l <;> rfl
@[simp] theorem cfill_nil (tm : Tm) (z : List Value) : cfillP tm [] z = .ok z := rfl
@[simp] theorem cfill_cons (tm : Tm) (off sz : Nat) (x : Co) (ps : List (Nat × Nat × Co)) (z : List Value) :
    cfillP tm ((off, sz, x) :: ps) z = if (vcells (cev tm x)).length = sz then (if off + sz ≤ z.length then cfillP tm ps (z.take off ++ (vcells (cev tm x) ++ z.drop (off + sz))) else .no "fill") else .no "fill - size" := by
  show cfillS (cfillP tm ps) off sz (vcells (cev tm x)) z = _
  unfold cfillS
  rw [llen_eq, lput_eq]
  by_cases h1 : (vcells (cev tm x)).length = sz
  · have e1 : Nat.beq (vcells (cev tm x)).length sz = true := by rw [h1]; exact Nat.beq_refl sz
    rw [e1, h1]
    by_cases h2 : off + sz ≤ z.length <;> simp [h2]
  · have e1 : Nat.beq (vcells (cev tm x)).length sz = false := by
      cases hb : Nat.beq (vcells (cev tm x)).length sz with
      | false => rfl
      | true => exact absurd (Nat.eq_of_beq_eq_true hb) h1
    rw [e1]
    simp [h1]
@[simp] theorem ne2 (n : Nat) : (n = n + 1 + 1) ↔ False := ⟨fun h => (by omega), False.elim⟩
@[simp] theorem ne3 (n : Nat) : (n = n + 1 + 1 + 1) ↔ False := ⟨fun h => (by omega), False.elim⟩
@[simp] theorem ne4 (n : Nat) : (n = n + 1 + 1 + 1 + 1) ↔ False := ⟨fun h => (by omega), False.elim⟩
@[simp] theorem ne2' (n : Nat) : (n + 1 + 1 = n) ↔ False := ⟨fun h => (by omega), False.elim⟩
@[simp] theorem ne3' (n : Nat) : (n + 1 + 1 + 1 = n) ↔ False := ⟨fun h => (by omega), False.elim⟩
@[simp] theorem ne4' (n : Nat) : (n + 1 + 1 + 1 + 1 = n) ↔ False := ⟨fun h => (by omega), False.elim⟩
@[simp] theorem boolIs_t (b : Bool) : boolIs true (.bool b) = b := rfl
@[simp] theorem boolIs_f (b : Bool) : boolIs false (.bool b) = !b := rfl
theorem loadA_of {t : TypeId} {h : Hp} {a : Addr} {ag : Option Nat} (ht : aggOf P t = some ag) : loadA P h t a = cellsOf h a.block (fun cs _ => loadC ag a.off cs) := by unfold loadA; rw [ht]; rfl
@[simp] theorem boolIs_u (b : Bool) : boolIs b undefV = false := rfl
theorem RK_st {h : Hp} {b off : Nat} {sp : Option Nat} {cs l : List Value} {n : Nat} {k : Hp → Prop} (hb : hget h b = some (.cells cs false)) (hl : cellL l = true) (hn : l.length = n) (ho : off + n ≤ cs.length) :
    RK (cSt h n l ⟨b, off, sp⟩) k ↔ k (hset h b (.cells (cs.take off ++ (l ++ cs.drop (off + n))) false)) := by rw [st_at hb hl hn ho]; exact Iff.rfl
theorem RK_st1 {h : Hp} {b off : Nat} {sp : Option Nat} {cs : List Value} {v : Value} {k : Hp → Prop} (hb : hget h b = some (.cells cs false)) (hv : cellV v = true) (ho : off < cs.length) :
    RK (cSt h 1 [v] ⟨b, off, sp⟩) k ↔ k (hset h b (.cells (cs.set off v) false)) := by rw [st_one hb hv ho]; exact Iff.rfl
theorem isEffC_pur (e : CP) : isEffC (.pur e) = false := rfl
theorem isEffC_alc (e : CA) : isEffC (.alc e) = false := rfl
theorem isEffC_red (e : CRd) : isEffC (.red e) = false := rfl
theorem isEffC_eff (e : CE) : isEffC (.eff e) = true := rfl
theorem addrEq_self (a : Addr) : addrEq a a = true := by
  obtain ⟨b, o, sp⟩ := a
  unfold addrEq
  cases sp <;> simp
@[simp] theorem sameV_int (k : IntKind) (n : Int) : sameV (.int k n) (.int k n) = true := by
  show (keq k k && ieq n n) = true
  rw [keq_self, ieq_beq]; simp
@[simp] theorem sameV_bool (b : Bool) : sameV (.bool b) (.bool b) = true := by
  show (b == b) = true
  simp
@[simp] theorem sameV_slice (a : Option Addr) (l c : Nat) : sameV (.slice a l c) (.slice a l c) = true := by
  cases a with
  | none => show (Nat.beq l l && Nat.beq c c) = true; simp
  | some a => show (addrEq a a && Nat.beq l l && Nat.beq c c) = true; simp [addrEq_self]
@[simp] theorem sameV_agg (l : List Value) : sameV (.agg ⟨l⟩) (.agg ⟨l⟩) = sameL l l := rfl
@[simp] theorem sameL_nil : sameL [] [] = true := rfl
@[simp] theorem sameL_cons (x y : Value) (l m : List Value) : sameL (x :: l) (y :: m) = (same1 x y && sameL l m) := rfl
@[simp] theorem same1_int (k : IntKind) (n : Int) : same1 (.int k n) (.int k n) = true := sameV_int k n
@[simp] theorem same1_slice (a : Option Addr) (l c : Nat) : same1 (.slice a l c) (.slice a l c) = true := sameV_slice a l c
@[simp] theorem sameR_ok (v w : Value) : sameR v (.ok w) = sameV v w := rfl
@[simp] theorem cagree_0 (tm : Tm) (e : CRd) (v : Value) (hs : List Hp) : cagree P tm e v 0 hs = true := by cases hs <;> rfl
@[simp] theorem cagree_s (tm : Tm) (e : CRd) (v : Value) (n : Nat) (h : Hp) (hs : List Hp) : cagree P tm e v (n + 1) (h :: hs) = (sameR v (cred P tm h e) && cagree P tm e v n hs) := by
  show (bif sameR v (cred P tm h e) then cagree P tm e v n hs else false) = _
  cases sameR v (cred P tm h e) <;> rfl
@[simp] theorem cagree_1 (tm : Tm) (e : CRd) (v : Value) (h : Hp) (hs : List Hp) : cagree P tm e v 1 (h :: hs) = sameR v (cred P tm h e) := by
  rw [show (1 : Nat) = 0 + 1 from rfl, cagree_s]; simp
@[simp] theorem cagree_2 (tm : Tm) (e : CRd) (v : Value) (h h2 : Hp) (hs : List Hp) : cagree P tm e v 2 (h :: h2 :: hs) = (sameR v (cred P tm h e) && sameR v (cred P tm h2 e)) := by
  rw [show (2 : Nat) = 1 + 1 from rfl, cagree_s, cagree_1]
theorem load_flat' {α : Type} {enc : α → List Value} {k : Nat} (hk : ∀ x, (enc x).length = k) {M : List α} {j : Nat} {x : α} (hx : M[j]? = some x) : loadC (some k) (j * k) (flat enc M) = .ok (.agg ⟨enc x⟩) := by
  have := load_flat hk hx
  rwa [Nat.zero_add] at this
theorem Ev.genT {c : CC} {tm : Tm} {h : Hp} {nx : Nat} {K : KO'} (p : Tm → Prop) (hp : p tm) (hall : ∀ tm, p tm → Ev P orc s c tm h nx K) : Ev P orc s c tm h nx K := hall tm hp
theorem Ev.genH {c : CC} {tm : Tm} {h : Hp} {nx : Nat} {K : KO'} (p : Tm → Hp → Prop) (hp : p tm h) (hall : ∀ tm h, p tm h → Ev P orc s c tm h nx K) : Ev P orc s c tm h nx K := hall tm h hp
theorem Ov.genT {l : List CI} {tm : Tm} {h : Hp} {nx : Nat} {K : KS'} (p : Tm → Prop) (hp : p tm) (hall : ∀ tm, p tm → Ov P orc s l tm h nx K) : Ov P orc s l tm h nx K := hall tm hp
theorem Ov.genH {l : List CI} {tm : Tm} {h : Hp} {nx : Nat} {K : KS'} (p : Tm → Hp → Prop) (hp : p tm h) (hall : ∀ tm h, p tm h → Ov P orc s l tm h nx K) : Ov P orc s l tm h nx K := hall tm h hp
theorem Dv.genT {l : List CI} {tm : Tm} {h : Hp} {nx : Nat} {b : Hp} {hs : List Hp} {K : KS'} (p : Tm → Prop) (hp : p tm) (hall : ∀ tm, p tm → Dv P orc s l tm h nx b hs K) : Dv P orc s l tm h nx b hs K := hall tm hp
/-- one of a slice of elements of one cell each -/
theorem cell_get {α : Type} {enc : α → List Value} {k : Nat} (hk : ∀ x, (enc x).length = k) {l : List α} {i j : Nat} {x : α} {v : Value} (hx : l[i]? = some x) (hj : (enc x)[j]? = some v) : (flat enc l)[i * k + j]? = some v := by
  rw [flat_cell hk hx (by have := (List.getElem?_eq_some_iff.1 hj).1; rw [hk] at this; exact this), hj]
end
end Go.Ax

/-! part PlHops -/
namespace Go.Ax
/-! # plain: levels, parents, ways -/
structure GE where
  f : Nat
  t : Nat
  w : Int

/-- as far as round k and edge i -/
structure LevI (n : Nat) (es : List GE) (s k i : Nat) (l : List Int) : Prop where
  len : l.length = n
  src : l[s]? = some 0
  rng : ∀ (v : Nat) (x : Int), l[v]? = some x → -1 ≤ x ∧ x ≤ k + 1
  zero : ∀ v : Nat, l[v]? = some 0 → v = s
  pre : ∀ (v : Nat) (x : Int), l[v]? = some x → 0 < x → ∃ e ∈ es, e.t = v ∧ l[e.f]? = some (x - 1)
  post : ∀ (j : Nat) (e : GE), es[j]? = some e → ∀ x, l[e.f]? = some x → 0 ≤ x → (x < k ∨ (x = k ∧ j < i)) → ∃ y : Int, l[e.t]? = some y ∧ 0 ≤ y ∧ y ≤ x + 1

theorem LevI.skip {n : Nat} {es : List GE} {s k i : Nat} {l : List Int} {e : GE} (h : LevI n es s k i l) (he : es[i]? = some e) (ht : e.t < n) (hn : ¬ (l[e.f]? = some (k : Int) ∧ l[e.t]? = some (-1))) : LevI n es s k (i + 1) l :=
  ⟨h.len, h.src, h.rng, h.zero, h.pre, fun j e' hj x hx h0 hor => by
    by_cases hji : j < i
    · exact h.post j e' hj x hx h0 (by omega)
    · by_cases hxk : x < k
      · exact h.post j e' hj x hx h0 (.inl hxk)
      · have hj' : j = i := by omega
        subst hj'
        rw [he] at hj; cases hj
        have hxe : x = k := by omega
        subst hxe
        have hlt : e.t < l.length := by rw [h.len]; exact ht
        have hy : l[e.t]? = some l[e.t] := List.getElem?_eq_getElem hlt
        have hr := h.rng _ _ hy
        have hne : l[e.t] ≠ -1 := fun e1 => hn ⟨hx, by rw [hy, e1]⟩
        exact ⟨_, hy, by omega, by omega⟩⟩

theorem LevI.step {n : Nat} {es : List GE} {s k i : Nat} {l : List Int} {e : GE} (h : LevI n es s k i l) (he : es[i]? = some e) (hf : l[e.f]? = some (k : Int)) (ht : l[e.t]? = some (-1)) : LevI n es s k (i + 1) (l.set e.t (k + 1)) := by
  have hlt : e.t < l.length := by
    rcases Nat.lt_or_ge e.t l.length with h1 | h1
    · exact h1
    · rw [List.getElem?_eq_none h1] at ht; cases ht
  have hg : ∀ v, (l.set e.t ((k : Int) + 1))[v]? = if v = e.t then some ((k : Int) + 1) else l[v]? := fun v => by
    rw [List.getElem?_set]
    by_cases hv : e.t = v
    · subst hv; simp [hlt]
    · simp [hv, Ne.symm hv]
  have hst : s ≠ e.t := fun e1 => by have := h.src; rw [e1, ht] at this; cases this
  have hft : e.f ≠ e.t := fun e1 => by rw [e1, ht] at hf; injection hf with hf; omega
  refine ⟨by rw [List.length_set]; exact h.len, by rw [hg, if_neg hst]; exact h.src, fun v x hx => ?_, fun v hv => ?_, fun v x hx h0 => ?_, fun j e' hj x hx h0 hor => ?_⟩
  · rw [hg] at hx
    split at hx
    · injection hx with hx; omega
    · exact h.rng v x hx
  · rw [hg] at hv
    split at hv
    · injection hv with hv; omega
    · exact h.zero v hv
  · rw [hg] at hx
    split at hx
    · rename_i hv
      injection hx with hx
      refine ⟨e, List.mem_of_getElem? he, hv.symm, ?_⟩
      rw [hg, if_neg hft, hf, ← hx]
      congr 1; omega
    · obtain ⟨e', hm, ht', hl⟩ := h.pre v x hx h0
      refine ⟨e', hm, ht', ?_⟩
      rw [hg, if_neg, hl]
      intro e1
      rw [e1, ht] at hl
      injection hl with hl; omega
  · rw [hg] at hx
    split at hx
    · injection hx with hx; omega
    · have hset : ∀ y, l[e'.t]? = some y → 0 ≤ y → (l.set e.t ((k : Int) + 1))[e'.t]? = some y := fun y hy h0 => by
        rw [hg, if_neg, hy]
        intro e1
        rw [e1, ht] at hy; injection hy with hy; omega
      by_cases hc : x < k ∨ (x = k ∧ j < i)
      · obtain ⟨y, hy, h1, h2⟩ := h.post j e' hj x hx h0 hc
        exact ⟨y, hset y hy h1, h1, h2⟩
      · have hj' : j = i := by omega
        subst hj'
        rw [he] at hj; cases hj
        exact ⟨k + 1, by rw [hg, if_pos rfl], by omega, by omega⟩

theorem LevI.next {n : Nat} {es : List GE} {s k : Nat} {l : List Int} (h : LevI n es s k es.length l) : LevI n es s (k + 1) 0 l :=
  ⟨h.len, h.src, fun v x hx => by have := h.rng v x hx; push_cast; omega, h.zero, h.pre, fun j e hj x hx h0 hor => by
    have hjl : j < es.length := by
      rcases Nat.lt_or_ge j es.length with h1 | h1
      · exact h1
      · rw [List.getElem?_eq_none h1] at hj; cases hj
    exact h.post j e hj x hx h0 (by push_cast at hor; omega)⟩

theorem LevI.init {n : Nat} {es : List GE} {s : Nat} (hs : s < n) : LevI n es s 0 0 ((List.replicate n (-1)).set s 0) := by
  have hg : ∀ v, ((List.replicate n (-1 : Int)).set s 0)[v]? = if v = s then some 0 else if v < n then some (-1) else none := fun v => by
    rw [List.getElem?_set]
    by_cases hv : s = v
    · subst hv; simp [hs]
    · simp [hv, Ne.symm hv, List.getElem?_replicate]
  refine ⟨by simp, by rw [hg]; simp, fun v x hx => ?_, fun v hv => ?_, fun v x hx h0 => ?_, fun j e hj x hx h0 hor => by omega⟩
  · rw [hg] at hx
    split at hx
    · injection hx with hx; omega
    · split at hx
      · injection hx with hx; omega
      · cases hx
  · rw [hg] at hv
    split at hv
    · assumption
    · split at hv <;> cases hv
  · rw [hg] at hx
    split at hx
    · injection hx with hx; omega
    · split at hx
      · injection hx with hx; omega
      · cases hx

/-- each one once, and all in another list: no longer than it -/
theorem le_of_nodup {α : Type} [DecidableEq α] : ∀ (a b : List α), a.Nodup → (∀ x ∈ a, x ∈ b) → a.length ≤ b.length
  | [], _, _, _ => Nat.zero_le _
  | x :: a, b, hn, hs => by
    have hx : x ∈ b := hs x (List.mem_cons_self ..)
    have hn' := List.nodup_cons.1 hn
    have := le_of_nodup a (b.erase x) hn'.2 fun y hy => by
      have hne : y ≠ x := fun e => hn'.1 (e ▸ hy)
      exact (List.mem_erase_of_ne hne).2 (hs y (List.mem_cons_of_mem _ hy))
    have hl := List.length_erase_of_mem hx
    have hp := List.length_pos_of_mem hx
    simp only [List.length_cons]
    omega

/-- what levels are -/
structure Lev (n : Nat) (es : List GE) (s : Nat) (l : List Int) : Prop where
  len : l.length = n
  src : l[s]? = some 0
  rng : ∀ (v : Nat) (x : Int), l[v]? = some x → -1 ≤ x ∧ x < n
  zero : ∀ v : Nat, l[v]? = some 0 → v = s
  pre : ∀ (v : Nat) (x : Int), l[v]? = some x → 0 < x → ∃ e ∈ es, e.t = v ∧ l[e.f]? = some (x - 1)
  post : ∀ e ∈ es, ∀ x : Int, l[e.f]? = some x → 0 ≤ x → ∃ y : Int, l[e.t]? = some y ∧ 0 ≤ y ∧ y ≤ x + 1

theorem all_below {es : List GE} {l : List Int} (pre : ∀ (v : Nat) (x : Int), l[v]? = some x → 0 < x → ∃ e ∈ es, e.t = v ∧ l[e.f]? = some (x - 1)) : ∀ (m v : Nat), l[v]? = some (m : Int) → ∀ y, y ≤ m → (y : Int) ∈ l
  | 0, v, hv, y, hy => by
    have : y = 0 := by omega
    subst this
    exact List.mem_of_getElem? hv
  | m + 1, v, hv, y, hy => by
    by_cases e : y = m + 1
    · subst e; exact List.mem_of_getElem? hv
    · obtain ⟨e', _, _, hl⟩ := pre v _ hv (by push_cast; omega)
      have : ((m + 1 : Nat) : Int) - 1 = (m : Int) := by push_cast; omega
      rw [this] at hl
      exact all_below pre m e'.f hl y (by omega)

theorem LevI.done {n : Nat} {es : List GE} {s : Nat} {l : List Int} (h : LevI n es s n 0 l) : Lev n es s l := by
  have hlt : ∀ (v : Nat) (x : Int), l[v]? = some x → -1 ≤ x ∧ x < n := fun v x hx => by
    have hr := h.rng v x hx
    refine ⟨hr.1, ?_⟩
    by_cases h0 : x < 0
    · omega
    · obtain ⟨m, rfl⟩ := Int.eq_ofNat_of_zero_le (by omega : 0 ≤ x)
      have hall := all_below h.pre m v hx
      have hnd : ((List.range (m + 1)).map (fun y : Nat => (y : Int))).Nodup := by
        refine List.Pairwise.map _ ?_ (List.nodup_range (n := m + 1))
        intro a b hab e
        exact hab (by omega)
      have := le_of_nodup _ l hnd fun y hy => by
        obtain ⟨z, hz, rfl⟩ := List.mem_map.1 hy
        exact hall z (by have := List.mem_range.1 hz; omega)
      simp only [List.length_map, List.length_range, h.len] at this
      omega
  exact ⟨h.len, h.src, hlt, h.zero, h.pre, fun e he x hx h0 => by
    obtain ⟨j, hj⟩ := List.getElem?_of_mem he
    exact h.post j e hj x hx h0 (.inl (hlt _ _ hx).2)⟩

/-- an edge by which a vertex may be reached -/
def Cand (l : List Int) (v : Nat) (e : GE) : Prop := e.t = v ∧ ∃ x : Int, l[v]? = some x ∧ 0 < x ∧ l[e.f]? = some (x - 1)
/-- of the first i edges the least parent -/
def ParI (es : List GE) (l : List Int) (v i : Nat) (p : Int) : Prop :=
  (p = -1 ∧ ∀ e ∈ es.take i, ¬ Cand l v e) ∨ ∃ e ∈ es.take i, Cand l v e ∧ p = e.f ∧ ∀ e' ∈ es.take i, Cand l v e' → e.f ≤ e'.f
theorem ParI.init {es : List GE} {l : List Int} {v : Nat} : ParI es l v 0 (-1) := .inl ⟨rfl, fun e he => by simp at he⟩
theorem take_succ_mem {α : Type} {es : List α} {i : Nat} {e x : α} (he : es[i]? = some e) : x ∈ es.take (i + 1) ↔ x ∈ es.take i ∨ x = e := by
  rw [List.take_add_one, he]; simp
theorem ParI.skip {es : List GE} {l : List Int} {v i : Nat} {p : Int} {e : GE} (h : ParI es l v i p) (he : es[i]? = some e) (hn : ¬ (Cand l v e ∧ (p = -1 ∨ (e.f : Int) < p))) : ParI es l v (i + 1) p := by
  rcases h with ⟨rfl, h⟩ | ⟨e0, hm, hc, rfl, hle⟩
  · refine .inl ⟨rfl, fun x hx => ?_⟩
    rcases (take_succ_mem he).1 hx with hx | rfl
    · exact h x hx
    · exact fun hc => hn ⟨hc, .inl rfl⟩
  · refine .inr ⟨e0, (take_succ_mem he).2 (.inl hm), hc, rfl, fun x hx hcx => ?_⟩
    rcases (take_succ_mem he).1 hx with hx | rfl
    · exact hle x hx hcx
    · have : ¬ ((x.f : Int) < e0.f) := fun h => hn ⟨hcx, .inr h⟩
      omega
theorem ParI.step {es : List GE} {l : List Int} {v i : Nat} {p : Int} {e : GE} (h : ParI es l v i p) (he : es[i]? = some e) (hc : Cand l v e) (hp : p = -1 ∨ (e.f : Int) < p) : ParI es l v (i + 1) e.f := by
  refine .inr ⟨e, (take_succ_mem he).2 (.inr rfl), hc, rfl, fun x hx hcx => ?_⟩
  rcases (take_succ_mem he).1 hx with hx | rfl
  · rcases h with ⟨rfl, h⟩ | ⟨e0, hm, hc0, rfl, hle⟩
    · exact absurd hcx (h x hx)
    · have := hle x hx hcx
      omega
  · exact Nat.le_refl _
/-- parents -/
def Par (es : List GE) (l : List Int) (n : Nat) (p : List Int) : Prop := p.length = n ∧ ∀ (v : Nat) (x : Int), p[v]? = some x → ParI es l v es.length x
theorem Par.cand {n : Nat} {es : List GE} {s : Nat} {l p : List Int} (hl : Lev n es s l) (hp : Par es l n p) {v : Nat} {m : Nat} (hv : l[v]? = some ((m + 1 : Nat) : Int)) :
    ∃ e ∈ es, e.t = v ∧ p[v]? = some (e.f : Int) ∧ l[e.f]? = some (m : Int) := by
  have hlt : v < p.length := by
    rcases Nat.lt_or_ge v l.length with h1 | h1
    · rw [hp.1, ← hl.len]; exact h1
    · rw [List.getElem?_eq_none h1] at hv; cases hv
  have hx := List.getElem?_eq_getElem hlt
  have e1 : ((m + 1 : Nat) : Int) - 1 = (m : Int) := by push_cast; omega
  rcases hp.2 v _ hx with ⟨_, h⟩ | ⟨e, hm, ⟨ht, x, hx', h0, hf⟩, hpe, _⟩
  · obtain ⟨e, he, ht, hf⟩ := hl.pre v _ hv (by push_cast; omega)
    exact absurd ⟨ht, _, hv, by push_cast; omega, hf⟩ (h e (by rw [List.take_length]; exact he))
  · rw [List.take_length] at hm
    rw [hv] at hx'; injection hx' with hx'
    refine ⟨e, hm, ht, by rw [hx, hpe], ?_⟩
    rw [hf, ← hx', e1]

/-- from a vertex of level m back -/
def wayGo (l p : List Int) (n : Nat) : Nat → Nat → List Nat → Option (List Nat)
  | 0, _, out => some out
  | m + 1, v, out => match p[v]? with
    | some q => if 0 ≤ q ∧ q < n ∧ l[q.toNat]? = some (m : Int) then wayGo l p n m q.toNat (out ++ [q.toNat]) else none
    | none => none
/-- each one and the next one -/
def Chain (es : List GE) (w : List Nat) : Prop := ∀ (i a b : Nat), w[i]? = some a → w[i + 1]? = some b → ∃ e ∈ es, e.f = b ∧ e.t = a
theorem wayGo_ok {n : Nat} {es : List GE} {s : Nat} {l p : List Int} (hl : Lev n es s l) (hp : Par es l n p) : ∀ (m v : Nat) (out : List Nat), l[v]? = some (m : Int) → Chain es (out ++ [v]) →
    ∃ w, wayGo l p n m v (out ++ [v]) = some w ∧ w.length = out.length + m + 1 ∧ Chain es w ∧ w[w.length - 1]? = some s ∧ ∀ x, (out ++ [v])[0]? = some x → w[0]? = some x
  | 0, v, out, hv, hc => ⟨out ++ [v], rfl, by simp, hc, by
      have := hl.zero v hv
      subst this
      simp, fun x h => h⟩
  | m + 1, v, out, hv, hc => by
    obtain ⟨e, he, ht, hq, hf⟩ := hp.cand hl hv
    have hlt : e.f < n := by
      rcases Nat.lt_or_ge e.f l.length with h1 | h1
      · rw [← hl.len]; exact h1
      · rw [List.getElem?_eq_none h1] at hf; cases hf
    obtain ⟨w, h1, h2, h3, h4, h5⟩ := wayGo_ok hl hp m e.f (out ++ [v]) hf (by
      intro i a b ha hb
      rw [List.getElem?_append] at ha hb
      by_cases hi : i + 1 < (out ++ [v]).length
      · rw [if_pos hi] at hb
        rw [if_pos (by omega)] at ha
        exact hc i a b ha hb
      · rw [if_neg hi] at hb
        have hi2 : i + 1 = (out ++ [v]).length := by
          rcases Nat.lt_or_ge (i + 1 - (out ++ [v]).length) 1 with h | h
          · omega
          · rw [List.getElem?_eq_none (by simpa using h)] at hb; cases hb
        rw [hi2, Nat.sub_self] at hb
        simp at hb
        rw [if_pos (by omega)] at ha
        have : i = out.length := by simp at hi2; omega
        subst this
        simp at ha
        exact ⟨e, he, hb, ha ▸ ht⟩)
    refine ⟨w, ?_, by rw [h2]; simp; omega, h3, h4, fun x hx => h5 x ?_⟩
    · show (match p[v]? with | some q => _ | none => none) = some w
      rw [hq]
      simp only [Int.toNat_natCast]
      rw [if_pos ⟨by omega, by omega, hf⟩]
      exact h1
    · rw [List.getElem?_append, if_pos (by simp)]; exact hx
end Go.Ax

/-! part AxH1 -/
namespace Go.Ax
open Go
set_option linter.unusedSimpArgs false
set_option linter.unusedVariables false

/-! # law21.Within -/
section
variable {P : Program} {orc : Orc} {s : Bool}
theorem bin_rem {t : TypeId} {k : IntKind} {a b : Int} (hb : b ≠ 0) : bin P .rem t (.int k a) (.int k b) = .ok (.int k (a.tmod b)) := by
  rw [bin_i _ _ _ _ _ rfl]
  show iDiv .rem k a b = _
  unfold iDiv
  rw [ieq_beq, show (b == 0) = false by simp [hb]]
  rfl
def cfWithin : CF := { res := [.tmp 4], body :=
 (.seq (.regO [⟨none, (some 4), 0, .pur (.mv (.v (.int .i64 0)))⟩])
 (.seq (.seq (.regO [⟨none, (some 5), 0, .pur (.mv (.t 1))⟩,
   ⟨none, (some 6), 0, .pur (.bin .lss 3 (.t 5) (.v (.int .i64 1)))⟩,
   ⟨none, (some 7), 0, .pur (.mv (.t 6))⟩,
   ⟨(some (7, false)), (some 8), 0, .pur (.mv (.t 0))⟩,
   ⟨(some (7, false)), (some 9), 0, .pur (.bin .lss 3 (.t 8) (.v (.int .i64 0)))⟩,
   ⟨none, (some 10), 0, .pur (.pick (.t 7) (.v (.bool true)) (.t 9))⟩])
 (.cond (.t 10)
  (.seq (.regO [⟨none, (some 4), 0, .pur (.mv (.v (.int .i64 0)))⟩])
  .ret)
  .skip))
 (.seq (.regO [⟨none, (some 11), 0, .pur (.mv (.t 0))⟩,
   ⟨none, (some 12), 0, .pur (.mv (.t 1))⟩,
   ⟨none, (some 13), 0, .pur (.bin .rem 3 (.t 11) (.t 12))⟩,
   ⟨none, (some 4), 0, .pur (.mv (.t 13))⟩])
 .ret))) }
/-- a number from 0 on, below n, from any one -/
def wnF (k n : Int) : Int := if n < 1 ∨ k < 0 then 0 else k.tmod n
theorem wnF_nat {k n : Int} : ∃ m : Nat, wnF k n = (m : Int) ∧ (0 < n → (m : Int) < n) := by
  unfold wnF
  split
  · exact ⟨0, rfl, fun h => by omega⟩
  · rename_i h
    have h1 : 0 ≤ k := by omega
    have h2 : 0 < n := by omega
    refine ⟨(k.tmod n).toNat, ?_, fun _ => ?_⟩
    · rw [Int.toNat_of_nonneg (Int.tmod_nonneg n h1)]
    · rw [Int.toNat_of_nonneg (Int.tmod_nonneg n h1)]; exact Int.tmod_lt_of_pos k h2
theorem within_cv {f : Nat} (hcf : compAt P f = some cfWithin) (ho : orc f = none) {k n : Int} {h : Hp} {nx : Nat} :
    Cv P orc s f [.int .i64 k, .int .i64 n] h nx (fun v h' nx' => v = .int .i64 (wnF k n) ∧ h' = h ∧ nx' = nx) := by
  refine Cv.enter ho hcf ?_
  unfold cfWithin
  refine Ev.seq (Ev.regO ?_)
  simp [Ov_pur, Ov_nil]
  refine Ev.seq (Ev.seq (Ev.regO ?_))
  by_cases h1 : n < 1
  · simp [Ov_pur, Ov_nil, Ov_g, boolIs, h1]
    refine Ev.cond true (by simp) (fun _ => ?_) (by simp)
    refine Ev.seq (Ev.regO ?_)
    simp [Ov_pur, Ov_nil]
    refine Ev.ret ?_
    simp [wnF, h1]
  · by_cases h2 : k < 0
    · simp [Ov_pur, Ov_nil, Ov_g, boolIs, h1, h2]
      refine Ev.cond true (by simp) (fun _ => ?_) (by simp)
      refine Ev.seq (Ev.regO ?_)
      simp [Ov_pur, Ov_nil]
      refine Ev.ret ?_
      simp [wnF, h1, h2]
    · simp [Ov_pur, Ov_nil, Ov_g, boolIs, h1, h2]
      refine Ev.cond false (by simp) (by simp) (fun _ => Ev.skip ?_)
      simp
      refine Ev.seq (Ev.regO ?_)
      simp [Ov_pur, Ov_nil, bin_rem (show n ≠ 0 by omega)]
      refine Ev.ret ?_
      simp [wnF, h1, h2]
end
end Go.Ax

/-! part AxH2 -/
namespace Go.Ax
open Go
set_option linter.unusedSimpArgs false
set_option linter.unusedVariables false

/-! # law21.Graph -/
def cfGraph (fw ty : Nat) : CF := { res := [.cell 2 ty], body :=
 (.seq (.regO [⟨none, (some 1), 0, .alc (.box (.t 0))⟩,
   ⟨none, (some 2), 0, .alc (.new [(.int .i64 0), (.slice none 0 0)])⟩])
 (.seq (.regO [⟨none, (some 6), 0, .pur (.fldA 0 (.t 1))⟩,
   ⟨none, (some 7), 0, .red (.ld none (.t 6))⟩,
   ⟨none, (some 8), 0, .eff (.call fw [(.t 7), (.v (.int .i64 24))])⟩,
   ⟨none, (some 9), 0, .pur (.build [(.int .i64 0), (.slice none 0 0)] [(0, 1, (.t 8))])⟩,
   ⟨none, (some 3), 0, .alc (.new [(.int .i64 0), (.slice none 0 0)])⟩,
   ⟨none, none, 0, .eff (.st 2 (.t 3) (.t 9))⟩])
 (.seq (.seq (.regO [⟨none, (some 4), 0, .pur (.mv (.v (.int .i64 0)))⟩])
 (.block 0
  (.loop
   (.seq (.seq (.regO [⟨none, (some 10), 0, .pur (.mv (.t 4))⟩,
     ⟨none, (some 11), 0, .pur (.fldA 1 (.t 1))⟩,
     ⟨none, (some 12), 0, .red (.ld none (.t 11))⟩,
     ⟨none, (some 13), 0, .red (.lens (.t 12))⟩,
     ⟨none, (some 14), 0, .pur (.bin .lss 3 (.t 10) (.t 13))⟩,
     ⟨none, (some 15), 0, .pur (.mv (.t 14))⟩,
     ⟨(some (15, true)), (some 16), 0, .pur (.mv (.t 4))⟩,
     ⟨(some (15, true)), (some 17), 0, .pur (.bin .lss 3 (.t 16) (.v (.int .i64 60)))⟩,
     ⟨none, (some 18), 0, .pur (.pick (.t 15) (.t 17) (.v (.bool false)))⟩,
     ⟨none, (some 19), 0, .pur (.mv (.t 18))⟩,
     ⟨(some (19, true)), (some 20), 0, .pur (.fldA 0 (.t 3))⟩,
     ⟨(some (19, true)), (some 21), 0, .red (.ld none (.t 20))⟩,
     ⟨(some (19, true)), (some 22), 0, .pur (.bin .gtr 3 (.t 21) (.v (.int .i64 0)))⟩,
     ⟨none, (some 23), 0, .pur (.pick (.t 19) (.t 22) (.v (.bool false)))⟩])
   (.cond (.t 23)
    .skip
    (.exit 0)))
   (.seq (.block 1
    (.seq (.regO [⟨none, (some 26), 0, .pur (.fldA 1 (.t 1))⟩,
      ⟨none, (some 27), 0, .red (.ld none (.t 26))⟩,
      ⟨none, (some 28), 0, .pur (.mv (.t 4))⟩,
      ⟨none, (some 29), 0, .pur (.ixA (.slice 3) (.t 27) (.t 28))⟩,
      ⟨none, (some 30), 0, .red (.ld (some 3) (.t 29))⟩,
      ⟨none, (some 5), 0, .alc (.new [(.int .i64 0), (.int .i64 0), (.int .i64 0)])⟩,
      ⟨none, none, 0, .eff (.st 3 (.t 5) (.t 30))⟩])
    (.regD [⟨none, (some 33), 0, .pur (.fldA 0 (.t 5))⟩,
      ⟨none, (some 34), 0, .red (.ld none (.t 33))⟩,
      ⟨none, (some 35), 0, .pur (.fldA 0 (.t 3))⟩,
      ⟨none, (some 36), 0, .red (.ld none (.t 35))⟩,
      ⟨none, (some 37), 0, .eff (.call fw [(.t 34), (.t 36)])⟩,
      ⟨none, (some 38), 1, .pur (.fldA 1 (.t 5))⟩,
      ⟨none, (some 39), 1, .red (.ld none (.t 38))⟩,
      ⟨none, (some 40), 1, .pur (.fldA 0 (.t 3))⟩,
      ⟨none, (some 41), 1, .red (.ld none (.t 40))⟩,
      ⟨none, (some 42), 0, .eff (.call fw [(.t 39), (.t 41)])⟩,
      ⟨none, (some 31), 2, .pur (.fldA 1 (.t 3))⟩,
      ⟨none, (some 32), 2, .red (.ld none (.t 31))⟩,
      ⟨none, (some 43), 2, .pur (.fldA 2 (.t 5))⟩,
      ⟨none, (some 44), 2, .red (.ld none (.t 43))⟩,
      ⟨none, (some 45), 2, .pur (.bin .and 2 (.t 44) (.v (.int .i64 2147483647)))⟩,
      ⟨none, (some 46), 0, .pur (.build [(.int .i64 0), (.int .i64 0), (.int .i64 0)] [(0, 1, (.t 37)), (1, 1, (.t 42)), (2, 1, (.t 45))])⟩,
      ⟨none, (some 47), 0, .alc (.bsl 1 [(.int .i64 0), (.int .i64 0), (.int .i64 0)] [(0, 3, (.t 46))])⟩,
      ⟨none, (some 48), 0, .eff (.app 3 (.t 32) (.t 47))⟩,
      ⟨none, (some 49), 0, .pur (.fldA 1 (.t 3))⟩,
      ⟨none, none, 0, .eff (.st 1 (.t 49) (.t 48))⟩])))
   (.regO [⟨none, (some 24), 0, .pur (.mv (.t 4))⟩,
     ⟨none, (some 25), 0, .pur (.bin .add 3 (.t 24) (.v (.int .i64 1)))⟩,
     ⟨none, (some 4), 0, .pur (.mv (.t 25))⟩]))))))
 (.seq (.regO [⟨none, (some 50), 0, .red (.ld (some 2) (.t 3))⟩,
   ⟨none, none, 0, .eff (.st 2 (.t 2) (.t 50))⟩])
 .ret)))) }
def encG (e : GE) : List Value := [.int .i64 (e.f : Int), .int .i64 (e.t : Int), .int .i64 e.w]
def GOk (n : Nat) (g : GE) : Prop := g.f < n ∧ g.t < n ∧ 0 ≤ g.w ∧ g.w ≤ 2147483647
section
variable {P : Program} {orc : Orc} {s : Bool}
theorem bin_and {t : TypeId} {a b : Int} : bin P .and t (.int .i64 a) (.int .i64 b) = .ok (.int .i64 (IntKind.wrap .i64 ((BitVec.ofInt 64 a &&& BitVec.ofInt 64 b).toNat))) := by
  rw [bin_i _ _ _ _ _ rfl]; rfl
theorem and_low (a : Int) : ∃ w : Int, IntKind.wrap .i64 ((BitVec.ofInt 64 a &&& BitVec.ofInt 64 2147483647).toNat : Int) = w ∧ 0 ≤ w ∧ w ≤ 2147483647 := by
  have h1 : (BitVec.ofInt 64 a &&& BitVec.ofInt 64 2147483647).toNat ≤ 2147483647 := by
    rw [BitVec.toNat_and]
    exact Nat.and_le_right
  refine ⟨_, rfl, ?_⟩
  rw [wrapS (by omega) (by omega)]
  omega
def GraphK (nx : Nat) (h : Hp) : KC' := fun r h' nx' => ∃ (N : Nat) (v2 : Value) (gs : List GE), r = .agg ⟨[.int .i64 (N : Int), v2]⟩ ∧ N < 24 ∧ gs.length ≤ 60 ∧ (∀ g ∈ gs, GOk N g) ∧ SlNw h' nx nx' v2 encG gs ∧ nx ≤ nx' ∧ Keep nx h h'
def GraphJ (n : Int) (v : Value) (es : List Edg3) (N nx : Nat) (h : Hp) (m : Nat) (tm : Tm) (h' : Hp) (nx' : Nat) : Prop :=
  ∃ (i : Nat) (v2 : Value) (gs : List GE), m = 60 - i ∧ i ≤ 60 ∧ tget tm 1 = .pointer (some ⟨nx, 0, none⟩) ∧ tget tm 2 = .pointer (some ⟨nx + 1, 0, none⟩) ∧ tget tm 3 = .pointer (some ⟨nx + 1 + 1, 0, none⟩) ∧ tget tm 4 = .int .i64 (i : Int) ∧
    hget h' nx = some (.cells [.int .i64 n, v] false) ∧ hget h' (nx + 1) = some (.cells [.int .i64 0, .slice none 0 0] false) ∧ hget h' (nx + 1 + 1) = some (.cells [.int .i64 (N : Int), v2] false) ∧
    SlAt h' v2 encG 3 gs (nx + 1 + 1 + 1) nx' ∧ gs.length = i ∧ (∀ g ∈ gs, GOk N g) ∧ nx + 1 + 1 + 1 ≤ nx' ∧ Keep nx h h'
theorem graph_cv {f fw ty : Nat} (hcf : compAt P f = some (cfGraph fw ty)) (hty : aggOf P ty = some (some 2)) (ho : orc f = none) (hcw : compAt P fw = some cfWithin) (how : orc fw = none) {n : Int} {v : Value} {es : List Edg3} {h : Hp} {nx : Nat} (hv : SlRd h nx v enc3 es) :
    Cv P orc s f [.agg ⟨[.int .i64 n, v]⟩] h nx (GraphK nx h) := by
  refine Cv.enter ho hcf ?_
  obtain ⟨a, cap, rfl, hrd⟩ := id hv
  unfold cfGraph
  refine Ev.seq (Ev.regO ?_)
  rw [Ov_alc, alc_box (l := [.int .i64 n, .slice a es.length cap]) (by simp) rfl]
  simp [Ov_alc, Ov_nil]
  refine Ev.seq (Ev.regO ?_)
  simp [Ov_pur, Ov_red, Ov_nil, cellsOf_some (h := hset (hset h nx (.cells [.int .i64 n, .slice a es.length cap] false)) (nx + 1) (.cells [.int .i64 0, .slice none 0 0] false)) (b := nx) (cs := [.int .i64 n, .slice a es.length cap]) (ro := false) (by simp)]
  refine Ov_call ?_
  simp
  refine (within_cv hcw how).mono ?_
  rintro r h1 nx1 ⟨rfl, rfl, rfl⟩
  obtain ⟨N, hN, hlt⟩ := wnF_nat (k := n) (n := 24)
  have hlt := hlt (by omega)
  rw [hN]
  simp [Ov_pur, Ov_alc, Ov_st, Ov_nil]
  rw [RK_st (cs := [.int .i64 0, .slice none 0 0]) (by simp) (by simp) (by simp) (by simp)]
  simp
  refine Ev.seq (Ev.seq (Ev.regO ?_))
  simp [Ov_pur, Ov_nil]
  refine Ev.forL (GraphJ n (.slice a es.length cap) es N nx h) ?_ 60 _ _ _ ⟨0, .slice none 0 0, [], rfl, by omega, by simp, by simp, by simp, by simp, by simp, by simp, by simp, .inl ⟨rfl, rfl⟩, rfl, by simp, by omega, ?_⟩
  · rintro m tm h' nx' ⟨i, v2, gs, rfl, hi, t1, t2, t3, t4, g0, g1, g2, hsl, hgl, hok, hnx, hk⟩
    have stop : ∀ tm2 : Tm, tget tm2 3 = tget tm 3 → tget tm2 2 = tget tm 2 → Ev P orc s (.seq (.regO [⟨none, (some 50), 0, .red (.ld (some 2) (.t 3))⟩, ⟨none, none, 0, .eff (.st 2 (.t 2) (.t 50))⟩]) .ret) tm2 h' nx' (retK P [.cell 2 ty] (GraphK nx h)) := by
      intro tm2 e3 e2
      refine Ev.seq (Ev.regO ?_)
      simp [Ov_red, Ov_st, Ov_nil, e3, e2, t3, t2, cellsOf_some g2]
      rw [RK_st g1 (by rcases hsl with ⟨_, rfl⟩ | ⟨_, _, _, rfl, _⟩ <;> simp) (by simp) (by simp)]
      refine Ev.ret ?_
      have hfin : SlNw (hset h' (nx + 1) (.cells [.int .i64 (N : Int), v2] false)) nx nx' v2 encG gs :=
        hsl.nw.keep (fun b h1 h2 => by rw [hgs, if_neg (by omega)]) (by omega) (Nat.le_refl _)
      have hres : resVs P (putT (tset tm2 50 (.agg ⟨[.int .i64 (N : Int), v2]⟩)) none undefV) (hset h' (nx + 1) (.cells [.int .i64 (N : Int), v2] false)) [.cell 2 ty] = .ok [.agg ⟨[.int .i64 (N : Int), v2]⟩] := by
        simp [e2, t2, loadA_of hty, cellsOf_some (h := hset h' (nx + 1) (.cells [.int .i64 (N : Int), v2] false)) (b := nx + 1) (cs := [.int .i64 (N : Int), v2]) (ro := false) (by simp)]
      refine (show RK (resVs P (putT (tset tm2 50 (.agg ⟨[.int .i64 (N : Int), v2]⟩)) none undefV) (hset h' (nx + 1) (.cells [.int .i64 (N : Int), v2] false)) [.cell 2 ty]) _ from ?_)
      rw [hres]
      exact ⟨N, v2, gs, rfl, by omega, by omega, hok, hfin, by omega, hk.set (by omega)⟩
    by_cases h1 : i < es.length
    · by_cases h2 : i < 60
      · by_cases h3 : 0 < N
        · simp [Ov_pur, Ov_red, Ov_nil, Ov_g, t1, t3, t4, cellsOf_some g0, cellsOf_some g2, h1, show (i : Int) < 60 by omega, h3]
          obtain ⟨x, hx⟩ : ∃ x, es[i]? = some x := ⟨_, List.getElem?_eq_getElem h1⟩
          obtain ⟨_, b, sp, ro, cap', hbn, hveq, hbh⟩ := hv.at hx
          injection hveq with e1 e2 e3
          subst e1
          have hb' : hget h' b = some (.cells (flat enc3 es) ro) := by rw [hk b hbn]; exact hbh
          refine Ev.genT (fun tm2 => tget tm2 1 = tget tm 1 ∧ tget tm2 2 = tget tm 2 ∧ tget tm2 3 = tget tm 3 ∧ tget tm2 4 = tget tm 4) (by simp) ?_
          rintro tm2 ⟨u1, u2, u3, u4⟩
          rw [t1] at u1; rw [t2] at u2; rw [t3] at u3; rw [t4] at u4
          refine Ev.seq (Ev.regO ?_)
          simp [Ov_pur, Ov_red, Ov_alc, Ov_st, Ov_nil, u1, u4, cellsOf_some g0, h1, cellsOf_some hb', load_flat' (enc := enc3) (k := 3) (fun _ => rfl) hx, -loadC_many]
          rw [RK_st (cs := [.int .i64 0, .int .i64 0, .int .i64 0]) (by simp) (by simp [enc3]) (by simp [enc3]) (by simp)]
          refine Ev.genH (fun tm3 h3 => tget tm3 1 = .pointer (some ⟨nx, 0, none⟩) ∧ tget tm3 2 = .pointer (some ⟨nx + 1, 0, none⟩) ∧ tget tm3 3 = .pointer (some ⟨nx + 1 + 1, 0, none⟩) ∧ tget tm3 4 = .int .i64 (i : Int) ∧ tget tm3 5 = .pointer (some ⟨nx', 0, none⟩) ∧ (∀ b2, b2 < nx' → hget h3 b2 = hget h' b2) ∧ hget h3 nx' = some (.cells (enc3 x) false))
            ⟨by simp [u1], by simp [u2], by simp [u3], by simp [u4], by simp, fun b2 hb2 => by rw [hgs, if_neg (by omega), hgs, if_neg (by omega)], by simp [enc3]⟩ ?_
          rintro tm3 h3 ⟨w1, w2, w3, w4, w5, hold, hnew⟩
          have g2' : hget h3 (nx + 1 + 1) = some (.cells [.int .i64 (N : Int), v2] false) := by rw [hold _ (by omega)]; exact g2
          have hs2 : sameV v2 v2 = true := by rcases hsl with ⟨_, rfl⟩ | ⟨_, _, _, rfl, _⟩ <;> simp
          refine Ev.regD ?_
          simp [Dv_pur, Dv_red, w5, w3, cellsOf_some hnew, cellsOf_some g2', enc3]
          refine Dv_call ?_
          simp
          refine (within_cv hcw how).mono ?_
          rintro r h4 nx4 ⟨rfl, rfl, rfl⟩
          refine ⟨Nat.le_refl _, ?_⟩
          obtain ⟨A, hA, hAlt⟩ := wnF_nat (k := x.1) (n := (N : Int))
          rw [hA]
          have hAlt := hAlt (by omega)
          simp [Dv_pur, Dv_red, w5, w3, cellsOf_some hnew, cellsOf_some g2', enc3]
          refine Dv_call ?_
          simp
          refine (within_cv hcw how).mono ?_
          rintro r h4 nx4 ⟨rfl, rfl, rfl⟩
          refine ⟨Nat.le_refl _, ?_⟩
          obtain ⟨B, hB, hBlt⟩ := wnF_nat (k := x.2.1) (n := (N : Int))
          rw [hB]
          have hBlt := hBlt (by omega)
          obtain ⟨W, hW, hW0, hW1⟩ := and_low x.2.2
          simp only [Dv_alc, Dv_red, Dv_pur, bin_and, c_fldA, c_ld, c_bin, cev_t, cev_v, tgs, ↓reduceIte, Nat.reduceEqDiff, RK_ok, putT_some, w3, w5, addrR_ptr, moveA_eq, cellsOf_some hnew, cellsOf_some g2', loadC_one, enc3, List.getElem?_cons_zero, List.getElem?_cons_succ, ofGet_some, Nat.zero_add, cagree_2, sameR_ok, sameV_int, hs2, Bool.and_self, true_and, hW]
          simp only [cpur_build, cfill_cons, cfill_nil, cev_t, tgs, ↓reduceIte, Nat.reduceEqDiff, vc_int, List.length_cons, List.length_nil, Nat.reduceAdd, Nat.reduceLeDiff, List.take_zero, List.nil_append, bind_ok, RK_ok, putT_some, alc_bsl, sliceNB_eq, vc_agg]
          simp only [nbV_slice, nbO_slice, List.drop_succ_cons, List.drop_zero, List.drop_nil, List.append_nil, List.cons_append, List.nil_append, List.take_succ_cons, List.take_zero, cellL_cons, cellL_nil, cellV_int, Bool.and_self, ↓reduceIte, RK_ok, List.length_cons, List.length_nil, Nat.reduceAdd, Nat.reduceLeDiff, cfill_nil, bind_ok, vc_agg]
          have hsl5 : SlAt (hset h4 (nx' + 1) (.cells [.int .i64 (A : Int), .int .i64 (B : Int), .int .i64 W] false)) v2 encG 3 gs (nx + 1 + 1 + 1) (nx' + 1 + 1) := by
            rcases hsl with ⟨e1, e2⟩ | ⟨bk, y1, y2, y3, y4⟩
            · exact .inl ⟨e1, e2⟩
            · exact .inr ⟨bk, y1, by omega, y3, by rw [hgs, if_neg (by omega), hold bk y2]; exact y4⟩
          obtain ⟨v3, h6, hap, hsl6, hk6⟩ := app_cv (enc := encG) (k := 3) (fun _ => rfl) (fun _ => rfl) (by omega) hsl5 (by omega) (b2 := nx' + 1) (o2 := 0) (cap2 := 1) (sp2 := none) (cs := [.int .i64 (A : Int), .int .i64 (B : Int), .int .i64 W]) (ro := false) (x := ⟨A, B, W⟩) (by simp) rfl (by omega)
          refine Dv_eff (v := v3) (h' := h6) (nx' := nx' + 1 + 1 + 1) (by
            show orR (appendA 3 _ _ (cev _ (.t 32)) (cev _ (.t 47))) = _
            simp only [cev_t, tgs, ↓reduceIte, Nat.reduceEqDiff]
            rw [hap]; rfl) (by omega) ?_
          have hs3 : cellV v3 = true := by rcases hsl6 with ⟨_, rfl⟩ | ⟨_, _, _, rfl, _⟩ <;> rfl
          have vc3 : vcells v3 = [v3] := by rcases hsl6 with ⟨_, rfl⟩ | ⟨_, _, _, rfl, _⟩ <;> rfl
          have g6 : ∀ b2, b2 < nx + 1 + 1 + 1 → hget h6 b2 = hget h' b2 := fun b2 hb2 => by rw [hk6 b2 hb2, hgs, if_neg (by omega), hold b2 (by omega)]
          simp only [Dv_pur, c_fldA, cev_t, tgs, ↓reduceIte, Nat.reduceEqDiff, w3, addrR_ptr, moveA_eq, RK_ok, putT_some, Dv_st, vc3]
          rw [RK_st1 (cs := [.int .i64 (N : Int), v2]) (by rw [g6 _ (by omega)]; exact g2) hs3 (by simp)]
          simp only [Dv_nil, putT_none, blkK_normal, nextK_normal, Ov_pur, c_mv, c_bin, cev_t, cev_v, tgs, ↓reduceIte, Nat.reduceEqDiff, w4, bin_add, RK_ok, putT_some, Ov_nil]
          refine ⟨60 - (i + 1), by omega, i + 1, v3, gs ++ [⟨A, B, W⟩], rfl, by omega, by simpa using w1, by simpa using w2, by simpa using w3, ?_, ?_, ?_, by simp, ?_, by simp [hgl], fun g hg => ?_, by omega, fun b2 hb2 => ?_⟩
          · rw [wrapS (by omega) (by omega)]; simp
          · rw [hgs, if_neg (by omega), g6 _ (by omega)]; exact g0
          · rw [hgs, if_neg (by omega), g6 _ (by omega)]; exact g1
          · rcases hsl6 with ⟨e1, e2⟩ | ⟨bk, y1, y2, y3, y4⟩
            · exact .inl ⟨e1, e2⟩
            · exact .inr ⟨bk, y1, y2, y3, by rw [hgs, if_neg (by omega)]; exact y4⟩
          · rcases List.mem_append.1 hg with hg | hg
            · exact hok g hg
            · rw [List.mem_singleton.1 hg]; exact ⟨by simpa using hAlt, by simpa using hBlt, hW0, hW1⟩
          · rw [hgs, if_neg (by omega), g6 _ (by omega)]; exact hk b2 hb2
        · simp [Ov_pur, Ov_red, Ov_nil, Ov_g, t1, t3, t4, cellsOf_some g0, cellsOf_some g2, h1, show (i : Int) < 60 by omega, h3]
          refine stop _ ?_ ?_ <;> simp
      · simp [Ov_pur, Ov_red, Ov_nil, Ov_g, t1, t3, t4, cellsOf_some g0, cellsOf_some g2, h1, show ¬ ((i : Int) < 60) by omega]
        refine stop _ ?_ ?_ <;> simp
    · simp [Ov_pur, Ov_red, Ov_nil, Ov_g, t1, t3, t4, cellsOf_some g0, cellsOf_some g2, h1]
      refine stop _ ?_ ?_ <;> simp
  · intro b hb
    simp [show b ≠ nx by omega, show b ≠ nx + 1 by omega, show b ≠ nx + 1 + 1 by omega]
end
end Go.Ax

/-! part AxH3 -/
namespace Go.Ax
open Go
set_option linter.unusedSimpArgs false
set_option linter.unusedVariables false

/-! # law27.Case.Make -/
def cfMake (fg fw ty : Nat) : CF := { res := [.cell 2 ty, .tmp 3, .tmp 4, .tmp 5], body :=
 (.seq (.regO [⟨none, (some 1), 0, .alc (.box (.t 0))⟩,
   ⟨none, (some 2), 0, .alc (.new [(.int .i64 0), (.slice none 0 0)])⟩,
   ⟨none, (some 3), 0, .pur (.mv (.v (.int .i64 0)))⟩,
   ⟨none, (some 4), 0, .pur (.mv (.v (.int .i64 0)))⟩,
   ⟨none, (some 5), 0, .pur (.mv (.v (.int .i64 0)))⟩])
 (.seq (.regO [⟨none, (some 7), 0, .pur (.fldA 0 (.t 1))⟩,
   ⟨none, (some 8), 0, .red (.ld (some 2) (.t 7))⟩,
   ⟨none, (some 9), 0, .eff (.call fg [(.t 8)])⟩,
   ⟨none, (some 6), 0, .alc (.new [(.int .i64 0), (.slice none 0 0)])⟩,
   ⟨none, none, 0, .eff (.st 2 (.t 6) (.t 9))⟩])
 (.seq (.seq (.regO [⟨none, (some 10), 0, .pur (.fldA 0 (.t 6))⟩,
   ⟨none, (some 11), 0, .red (.ld none (.t 10))⟩,
   ⟨none, (some 12), 0, .pur (.bin .eql 3 (.t 11) (.v (.int .i64 0)))⟩])
 (.cond (.t 12)
  (.regO [⟨none, (some 13), 0, .pur (.build [(.int .i64 0), (.slice none 0 0)] [(0, 1, (.v (.int .i64 1)))])⟩,
    ⟨none, none, 0, .eff (.st 2 (.t 6) (.t 13))⟩])
  .skip))
 (.seq (.regD [⟨none, (some 15), 0, .pur (.fldA 2 (.t 1))⟩,
   ⟨none, (some 16), 0, .red (.ld none (.t 15))⟩,
   ⟨none, (some 17), 0, .pur (.fldA 0 (.t 6))⟩,
   ⟨none, (some 18), 0, .red (.ld none (.t 17))⟩,
   ⟨none, (some 19), 0, .eff (.call fw [(.t 16), (.t 18)])⟩,
   ⟨none, (some 14), 1, .red (.ld (some 2) (.t 6))⟩,
   ⟨none, none, 0, .eff (.st 2 (.t 2) (.t 14))⟩,
   ⟨none, (some 20), 2, .pur (.fldA 3 (.t 1))⟩,
   ⟨none, (some 21), 2, .red (.ld none (.t 20))⟩,
   ⟨none, (some 22), 2, .pur (.conv (.int .i64) (.t 21))⟩,
   ⟨none, (some 23), 2, .pur (.bin .rem 3 (.t 22) (.v (.int .i64 4)))⟩,
   ⟨none, (some 24), 2, .pur (.bin .add 3 (.t 23) (.v (.int .i64 1)))⟩,
   ⟨none, (some 25), 2, .pur (.fldA 4 (.t 1))⟩,
   ⟨none, (some 26), 2, .red (.ld none (.t 25))⟩,
   ⟨none, (some 27), 2, .pur (.conv (.int .i64) (.t 26))⟩,
   ⟨none, (some 28), 2, .pur (.bin .rem 3 (.t 27) (.v (.int .i64 4)))⟩,
   ⟨none, (some 29), 2, .pur (.bin .add 3 (.t 28) (.v (.int .i64 1)))⟩,
   ⟨none, (some 3), 0, .pur (.mv (.t 19))⟩,
   ⟨none, (some 4), 0, .pur (.mv (.t 24))⟩,
   ⟨none, (some 5), 0, .pur (.mv (.t 29))⟩])
 .ret)))) }
/-- a case: its graph, a vertex of it, and a grid -/
def MakeK (nx : Nat) (h : Hp) : KC' := fun r h' nx' => ∃ (N v : Nat) (a b : Int) (v2 : Value) (gs : List GE), r = .tuple ⟨[.agg ⟨[.int .i64 (N : Int), v2]⟩, .int .i64 (v : Int), .int .i64 a, .int .i64 b]⟩ ∧ 0 < N ∧ N < 24 ∧ v < N ∧ gs.length ≤ 60 ∧
  (∀ g ∈ gs, GOk N g) ∧ SlNw h' nx nx' v2 encG gs ∧ nx ≤ nx' ∧ Keep nx h h'
def MakeQ (nx nx3 : Nat) (h3 : Hp) (tm5 : Tm) (h5 : Hp) (nx5 : Nat) : Prop :=
  ∃ (M : Nat) (w : Value) (gs : List GE), 0 < M ∧ M < 24 ∧ gs.length ≤ 60 ∧ (∀ g ∈ gs, GOk M g) ∧ SlNw h5 (nx + 1 + 1) nx5 w encG gs ∧ nx3 + 1 ≤ nx5 ∧ (∀ b, b < nx3 → hget h5 b = hget h3 b) ∧ tget tm5 1 = .pointer (some ⟨nx, 0, none⟩) ∧
      tget tm5 2 = .pointer (some ⟨nx + 1, 0, none⟩) ∧ tget tm5 6 = .pointer (some ⟨nx3, 0, none⟩) ∧ hget h5 nx3 = some (.cells [.int .i64 (M : Int), w] false)
section
variable {P : Program} {orc : Orc} {s : Bool}
theorem sl_vc {h : Hp} {nx : Nat} {v : Value} {α : Type} {enc : α → List Value} {l : List α} (hv : SlRd h nx v enc l) : vcells v = [v] ∧ cellV v = true ∧ sameV v v = true := by
  obtain ⟨a, cap, rfl, _⟩ := hv
  exact ⟨rfl, rfl, sameV_slice _ _ _⟩
theorem make_cv {f fg fw ty : Nat} (hcf : compAt P f = some (cfMake fg fw ty)) (ho : orc f = none) (hty : aggOf P ty = some (some 2)) (hcg : compAt P fg = some (cfGraph fw ty)) (hog : orc fg = none) (hcw : compAt P fw = some cfWithin) (how : orc fw = none)
    {n V : Int} {R C : Int} {v : Value} {es : List Edg3} {h : Hp} {nx : Nat} (hv : SlRd h nx v enc3 es) :
    Cv P orc s f [.agg ⟨[.int .i64 n, v, .int .i64 V, .int .u8 R, .int .u8 C]⟩] h nx (MakeK nx h) := by
  refine Cv.enter ho hcf ?_
  obtain ⟨q1, q2, q3⟩ := sl_vc hv
  unfold cfMake
  refine Ev.seq (Ev.regO ?_)
  rw [Ov_alc, alc_box (l := [.int .i64 n, v, .int .i64 V, .int .u8 R, .int .u8 C]) (by simp) (by simp [q2])]
  simp [Ov_alc, Ov_nil, Ov_pur]
  refine Ev.genH (fun tm h2 => tget tm 1 = .pointer (some ⟨nx, 0, none⟩) ∧ tget tm 2 = .pointer (some ⟨nx + 1, 0, none⟩) ∧ hget h2 nx = some (.cells [.int .i64 n, v, .int .i64 V, .int .u8 R, .int .u8 C] false) ∧ hget h2 (nx + 1) = some (.cells [.int .i64 0, .slice none 0 0] false) ∧ Keep nx h h2)
    ⟨by simp, by simp, by simp, by simp, fun b hb => by rw [hgs, if_neg (by omega), hgs, if_neg (by omega)]⟩ ?_
  rintro tm h2 ⟨t1, t2, g1, g2, hk⟩
  refine Ev.seq (Ev.regO ?_)
  simp [Ov_pur, Ov_red, t1, cellsOf_some g1]
  refine Ov_call ?_
  simp
  refine (graph_cv hcg hty hog hcw how (hv.keep hk (by omega))).mono ?_
  rintro r h3 nx3 ⟨N, v2, gs, rfl, hN, hgl, hok, hrd, hnx, hk3⟩
  obtain ⟨p1, p2, p3⟩ := sl_vc hrd.rd
  have g1' := (hk3 nx (by omega)).trans g1
  have g2' := (hk3 (nx + 1) (by omega)).trans g2
  simp [Ov_alc, Ov_st, Ov_nil]
  rw [RK_st (cs := [.int .i64 0, .slice none 0 0]) (by simp) (by simp [p2]) (by simp) (by simp)]
  simp
  refine Ev.genH (fun tm4 h4 => tget tm4 1 = .pointer (some ⟨nx, 0, none⟩) ∧ tget tm4 2 = .pointer (some ⟨nx + 1, 0, none⟩) ∧ tget tm4 6 = .pointer (some ⟨nx3, 0, none⟩) ∧ hget h4 nx3 = some (.cells [.int .i64 (N : Int), v2] false) ∧ (∀ b, b < nx3 → hget h4 b = hget h3 b))
    ⟨by simp [t1], by simp [t2], by simp, by simp, fun b hb => by rw [hgs, if_neg (by omega), hgs, if_neg (by omega)]⟩ ?_
  rintro tm4 h4 ⟨u1, u2, u6, k6, hold⟩
  have k1 := (hold nx (by omega)).trans g1'
  have k2 := (hold (nx + 1) (by omega)).trans g2'
  refine Ev.cut (MakeQ nx nx3 h3) ?_ ?_
  · refine Ev.seq (Ev.regO ?_)
    simp only [Ov_pur, Ov_red, Ov_alc, Ov_st, Ov_g, Ov_nil, Dv_pur, Dv_red, Dv_alc, Dv_st, Dv_g, Dv_nil, c_mv, c_bin, c_un, c_conv, c_pick, cPick_bool, c_fld, cFld_agg, c_fldA, c_nilc, nilChk_ptr, c_ext, oExtract_tuple, c_ixA, natR_nat, natR_ofNat, natR_lit, natR_zero, natR_one, oIx_slice, oIx_array, c_ld, c_lens, lenS_slice, cev_t, cev_v, cevs_nil, cevs_cons, putT_some, putT_none, addrR_ptr, moveA_eq, tgs, RK_ok, of_some, bind_ok, ofGet_some, loadC_one, bin_add, bin_sub, bin_lss, bin_leq, bin_gtr, bin_geq, bin_eql, bin_neq, un_not, conv_int, nextK_normal, nextK_exit, nextK_ret, blkK_normal, blkK_ret, blkK_exit, boolIs_t, boolIs_f, boolIs_u, ↓reduceIte, Nat.reduceEqDiff, cpur_build, alc_new, alc_bsl, sliceNB_eq, cfill_nil, cfill_cons, vc_int, vc_slice, vc_agg, vc_bool, vc_ptr, cellV_int, cellV_bool, cellV_slice, cellV_ptr, cellL_nil, cellL_cons, nbV_ptr, nbO_ptr, nbV_slice, nbO_slice, List.getElem?_cons_zero, List.getElem?_cons_succ, List.length_cons, List.length_nil, List.take_zero, List.take_succ_cons, List.drop_zero, List.drop_succ_cons, List.drop_nil, List.nil_append, List.cons_append, List.append_nil, Nat.zero_add, Nat.add_zero, Nat.mul_one, Nat.reduceAdd, Nat.reduceLeDiff, Bool.and_self, Bool.and_true, Bool.true_and, true_and, and_true, cagree_0, cagree_1, cagree_2, sameR_ok, sameV_int, sameV_bool, sameV_slice, Bool.false_eq_true, setArgs_nil, setArgs_cons, Bool.not_true, Bool.not_false, isEffC_pur, isEffC_alc, isEffC_red, isEffC_eff, retK_ret, retK_normal, resVs_tmp, resVs_nil, retV_one, retV_two, u6, cellsOf_some k6]
    refine Ev.cond ((N : Int) == 0) (by simp) (fun e => ?_) fun e => Ev.skip ?_
    · refine Ev.regO ?_
      simp only [Ov_pur, Ov_red, Ov_alc, Ov_st, Ov_g, Ov_nil, Dv_pur, Dv_red, Dv_alc, Dv_st, Dv_g, Dv_nil, c_mv, c_bin, c_un, c_conv, c_pick, cPick_bool, c_fld, cFld_agg, c_fldA, c_nilc, nilChk_ptr, c_ext, oExtract_tuple, c_ixA, natR_nat, natR_ofNat, natR_lit, natR_zero, natR_one, oIx_slice, oIx_array, c_ld, c_lens, lenS_slice, cev_t, cev_v, cevs_nil, cevs_cons, putT_some, putT_none, addrR_ptr, moveA_eq, tgs, RK_ok, of_some, bind_ok, ofGet_some, loadC_one, bin_add, bin_sub, bin_lss, bin_leq, bin_gtr, bin_geq, bin_eql, bin_neq, un_not, conv_int, nextK_normal, nextK_exit, nextK_ret, blkK_normal, blkK_ret, blkK_exit, boolIs_t, boolIs_f, boolIs_u, ↓reduceIte, Nat.reduceEqDiff, cpur_build, alc_new, alc_bsl, sliceNB_eq, cfill_nil, cfill_cons, vc_int, vc_slice, vc_agg, vc_bool, vc_ptr, cellV_int, cellV_bool, cellV_slice, cellV_ptr, cellL_nil, cellL_cons, nbV_ptr, nbO_ptr, nbV_slice, nbO_slice, List.getElem?_cons_zero, List.getElem?_cons_succ, List.length_cons, List.length_nil, List.take_zero, List.take_succ_cons, List.drop_zero, List.drop_succ_cons, List.drop_nil, List.nil_append, List.cons_append, List.append_nil, Nat.zero_add, Nat.add_zero, Nat.mul_one, Nat.reduceAdd, Nat.reduceLeDiff, Bool.and_self, Bool.and_true, Bool.true_and, true_and, and_true, cagree_0, cagree_1, cagree_2, sameR_ok, sameV_int, sameV_bool, sameV_slice, Bool.false_eq_true, setArgs_nil, setArgs_cons, Bool.not_true, Bool.not_false, isEffC_pur, isEffC_alc, isEffC_red, isEffC_eff, retK_ret, retK_normal, resVs_tmp, resVs_nil, retV_one, retV_two, u6]
      rw [RK_st k6 (by simp) (by simp) (by simp)]
      exact ⟨1, .slice none 0 0, [], by omega, by omega, by simp, by simp, ⟨none, 0, rfl, fun h => absurd rfl h⟩, by omega, fun b hb => by rw [hgs, if_neg (by omega)]; exact hold b hb, by simp [u1], by simp [u2], by simp [u6], by simp⟩
    · have hN0 : 0 < N := by
        have : (N : Int) ≠ 0 := by simpa using e
        omega
      exact ⟨N, v2, gs, hN0, by omega, hgl, hok, hrd.keep (fun b _ hb => hold b hb) (Nat.le_refl _) (by omega), by omega, hold, by simp [u1], by simp [u2], by simp [u6], k6⟩
  · rintro tm5 h5 nx5 ⟨M, w, gs, hM0, hM, hgl, hok, hrd, hnx5, hold5, y1, y2, y6, z6⟩
    obtain ⟨a, cap, rfl, _⟩ := id hrd
    have z1 := (hold5 nx (by omega)).trans g1'
    have z2 := (hold5 (nx + 1) (by omega)).trans g2'
    refine Ev.seq (Ev.regD ?_)
    simp only [Ov_pur, Ov_red, Ov_alc, Ov_st, Ov_g, Ov_nil, Dv_pur, Dv_red, Dv_alc, Dv_st, Dv_g, Dv_nil, c_mv, c_bin, c_un, c_conv, c_pick, cPick_bool, c_fld, cFld_agg, c_fldA, c_nilc, nilChk_ptr, c_ext, oExtract_tuple, c_ixA, natR_nat, natR_ofNat, natR_lit, natR_zero, natR_one, oIx_slice, oIx_array, c_ld, c_lens, lenS_slice, cev_t, cev_v, cevs_nil, cevs_cons, putT_some, putT_none, addrR_ptr, moveA_eq, tgs, RK_ok, of_some, bind_ok, ofGet_some, loadC_one, bin_add, bin_sub, bin_lss, bin_leq, bin_gtr, bin_geq, bin_eql, bin_neq, un_not, conv_int, nextK_normal, nextK_exit, nextK_ret, blkK_normal, blkK_ret, blkK_exit, boolIs_t, boolIs_f, boolIs_u, ↓reduceIte, Nat.reduceEqDiff, cpur_build, alc_new, alc_bsl, sliceNB_eq, cfill_nil, cfill_cons, vc_int, vc_slice, vc_agg, vc_bool, vc_ptr, cellV_int, cellV_bool, cellV_slice, cellV_ptr, cellL_nil, cellL_cons, nbV_ptr, nbO_ptr, nbV_slice, nbO_slice, List.getElem?_cons_zero, List.getElem?_cons_succ, List.length_cons, List.length_nil, List.take_zero, List.take_succ_cons, List.drop_zero, List.drop_succ_cons, List.drop_nil, List.nil_append, List.cons_append, List.append_nil, Nat.zero_add, Nat.add_zero, Nat.mul_one, Nat.reduceAdd, Nat.reduceLeDiff, Bool.and_self, Bool.and_true, Bool.true_and, true_and, and_true, cagree_0, cagree_1, cagree_2, sameR_ok, sameV_int, sameV_bool, sameV_slice, Bool.false_eq_true, setArgs_nil, setArgs_cons, Bool.not_true, Bool.not_false, isEffC_pur, isEffC_alc, isEffC_red, isEffC_eff, retK_ret, retK_normal, resVs_tmp, resVs_nil, retV_one, retV_two, y1, y6, cellsOf_some z1, cellsOf_some z6]
    refine Dv_call ?_
    simp only [Ov_pur, Ov_red, Ov_alc, Ov_st, Ov_g, Ov_nil, Dv_pur, Dv_red, Dv_alc, Dv_st, Dv_g, Dv_nil, c_mv, c_bin, c_un, c_conv, c_pick, cPick_bool, c_fld, cFld_agg, c_fldA, c_nilc, nilChk_ptr, c_ext, oExtract_tuple, c_ixA, natR_nat, natR_ofNat, natR_lit, natR_zero, natR_one, oIx_slice, oIx_array, c_ld, c_lens, lenS_slice, cev_t, cev_v, cevs_nil, cevs_cons, putT_some, putT_none, addrR_ptr, moveA_eq, tgs, RK_ok, of_some, bind_ok, ofGet_some, loadC_one, bin_add, bin_sub, bin_lss, bin_leq, bin_gtr, bin_geq, bin_eql, bin_neq, un_not, conv_int, nextK_normal, nextK_exit, nextK_ret, blkK_normal, blkK_ret, blkK_exit, boolIs_t, boolIs_f, boolIs_u, ↓reduceIte, Nat.reduceEqDiff, cpur_build, alc_new, alc_bsl, sliceNB_eq, cfill_nil, cfill_cons, vc_int, vc_slice, vc_agg, vc_bool, vc_ptr, cellV_int, cellV_bool, cellV_slice, cellV_ptr, cellL_nil, cellL_cons, nbV_ptr, nbO_ptr, nbV_slice, nbO_slice, List.getElem?_cons_zero, List.getElem?_cons_succ, List.length_cons, List.length_nil, List.take_zero, List.take_succ_cons, List.drop_zero, List.drop_succ_cons, List.drop_nil, List.nil_append, List.cons_append, List.append_nil, Nat.zero_add, Nat.add_zero, Nat.mul_one, Nat.reduceAdd, Nat.reduceLeDiff, Bool.and_self, Bool.and_true, Bool.true_and, true_and, and_true, cagree_0, cagree_1, cagree_2, sameR_ok, sameV_int, sameV_bool, sameV_slice, Bool.false_eq_true, setArgs_nil, setArgs_cons, Bool.not_true, Bool.not_false, isEffC_pur, isEffC_alc, isEffC_red, isEffC_eff, retK_ret, retK_normal, resVs_tmp, resVs_nil, retV_one, retV_two]
    refine (within_cv hcw how).mono ?_
    rintro r h6 nx6 ⟨rfl, rfl, rfl⟩
    refine ⟨Nat.le_refl _, ?_⟩
    obtain ⟨A, hA, hAlt⟩ := wnF_nat (k := V) (n := (M : Int))
    have hAlt := hAlt (by omega)
    rw [hA]
    simp only [Ov_pur, Ov_red, Ov_alc, Ov_st, Ov_g, Ov_nil, Dv_pur, Dv_red, Dv_alc, Dv_st, Dv_g, Dv_nil, c_mv, c_bin, c_un, c_conv, c_pick, cPick_bool, c_fld, cFld_agg, c_fldA, c_nilc, nilChk_ptr, c_ext, oExtract_tuple, c_ixA, natR_nat, natR_ofNat, natR_lit, natR_zero, natR_one, oIx_slice, oIx_array, c_ld, c_lens, lenS_slice, cev_t, cev_v, cevs_nil, cevs_cons, putT_some, putT_none, addrR_ptr, moveA_eq, tgs, RK_ok, of_some, bind_ok, ofGet_some, loadC_one, bin_add, bin_sub, bin_lss, bin_leq, bin_gtr, bin_geq, bin_eql, bin_neq, un_not, conv_int, nextK_normal, nextK_exit, nextK_ret, blkK_normal, blkK_ret, blkK_exit, boolIs_t, boolIs_f, boolIs_u, ↓reduceIte, Nat.reduceEqDiff, cpur_build, alc_new, alc_bsl, sliceNB_eq, cfill_nil, cfill_cons, vc_int, vc_slice, vc_agg, vc_bool, vc_ptr, cellV_int, cellV_bool, cellV_slice, cellV_ptr, cellL_nil, cellL_cons, nbV_ptr, nbO_ptr, nbV_slice, nbO_slice, List.getElem?_cons_zero, List.getElem?_cons_succ, List.length_cons, List.length_nil, List.take_zero, List.take_succ_cons, List.drop_zero, List.drop_succ_cons, List.drop_nil, List.nil_append, List.cons_append, List.append_nil, Nat.zero_add, Nat.add_zero, Nat.mul_one, Nat.reduceAdd, Nat.reduceLeDiff, Bool.and_self, Bool.and_true, Bool.true_and, true_and, and_true, cagree_0, cagree_1, cagree_2, sameR_ok, sameV_int, sameV_bool, sameV_slice, Bool.false_eq_true, setArgs_nil, setArgs_cons, Bool.not_true, Bool.not_false, isEffC_pur, isEffC_alc, isEffC_red, isEffC_eff, retK_ret, retK_normal, resVs_tmp, resVs_nil, retV_one, retV_two, y1, y2, y6, cellsOf_some z1, cellsOf_some z6, loadC_many, Nat.sub_zero, Nat.le_refl, sameV_agg, sameL_cons, sameL_nil, same1_int, same1_slice]
    rw [RK_st z2 (by simp) (by simp) (by simp)]
    have x1 : hget (hset h6 (nx + 1) (.cells [.int .i64 (M : Int), .slice a gs.length cap] false)) nx = some (.cells [.int .i64 n, v, .int .i64 V, .int .u8 R, .int .u8 C] false) := by rw [hgs, if_neg (by omega)]; exact z1
    simp only [Ov_pur, Ov_red, Ov_alc, Ov_st, Ov_g, Ov_nil, Dv_pur, Dv_red, Dv_alc, Dv_st, Dv_g, Dv_nil, c_mv, c_bin, c_un, c_conv, c_pick, cPick_bool, c_fld, cFld_agg, c_fldA, c_nilc, nilChk_ptr, c_ext, oExtract_tuple, c_ixA, natR_nat, natR_ofNat, natR_lit, natR_zero, natR_one, oIx_slice, oIx_array, c_ld, c_lens, lenS_slice, cev_t, cev_v, cevs_nil, cevs_cons, putT_some, putT_none, addrR_ptr, moveA_eq, tgs, RK_ok, of_some, bind_ok, ofGet_some, loadC_one, bin_add, bin_sub, bin_lss, bin_leq, bin_gtr, bin_geq, bin_eql, bin_neq, un_not, conv_int, nextK_normal, nextK_exit, nextK_ret, blkK_normal, blkK_ret, blkK_exit, boolIs_t, boolIs_f, boolIs_u, ↓reduceIte, Nat.reduceEqDiff, cpur_build, alc_new, alc_bsl, sliceNB_eq, cfill_nil, cfill_cons, vc_int, vc_slice, vc_agg, vc_bool, vc_ptr, cellV_int, cellV_bool, cellV_slice, cellV_ptr, cellL_nil, cellL_cons, nbV_ptr, nbO_ptr, nbV_slice, nbO_slice, List.getElem?_cons_zero, List.getElem?_cons_succ, List.length_cons, List.length_nil, List.take_zero, List.take_succ_cons, List.drop_zero, List.drop_succ_cons, List.drop_nil, List.nil_append, List.cons_append, List.append_nil, Nat.zero_add, Nat.add_zero, Nat.mul_one, Nat.reduceAdd, Nat.reduceLeDiff, Bool.and_self, Bool.and_true, Bool.true_and, true_and, and_true, cagree_0, cagree_1, cagree_2, sameR_ok, sameV_int, sameV_bool, sameV_slice, Bool.false_eq_true, setArgs_nil, setArgs_cons, Bool.not_true, Bool.not_false, isEffC_pur, isEffC_alc, isEffC_red, isEffC_eff, retK_ret, retK_normal, resVs_tmp, resVs_nil, retV_one, retV_two, cellsOf_some x1, cellsOf_some z1, bin_rem (show (4 : Int) ≠ 0 by omega)]
    refine Ev.ret ?_
    simp only [Ov_pur, Ov_red, Ov_alc, Ov_st, Ov_g, Ov_nil, Dv_pur, Dv_red, Dv_alc, Dv_st, Dv_g, Dv_nil, c_mv, c_bin, c_un, c_conv, c_pick, cPick_bool, c_fld, cFld_agg, c_fldA, c_nilc, nilChk_ptr, c_ext, oExtract_tuple, c_ixA, natR_nat, natR_ofNat, natR_lit, natR_zero, natR_one, oIx_slice, oIx_array, c_ld, c_lens, lenS_slice, cev_t, cev_v, cevs_nil, cevs_cons, putT_some, putT_none, addrR_ptr, moveA_eq, tgs, RK_ok, of_some, bind_ok, ofGet_some, loadC_one, bin_add, bin_sub, bin_lss, bin_leq, bin_gtr, bin_geq, bin_eql, bin_neq, un_not, conv_int, nextK_normal, nextK_exit, nextK_ret, blkK_normal, blkK_ret, blkK_exit, boolIs_t, boolIs_f, boolIs_u, ↓reduceIte, Nat.reduceEqDiff, cpur_build, alc_new, alc_bsl, sliceNB_eq, cfill_nil, cfill_cons, vc_int, vc_slice, vc_agg, vc_bool, vc_ptr, cellV_int, cellV_bool, cellV_slice, cellV_ptr, cellL_nil, cellL_cons, nbV_ptr, nbO_ptr, nbV_slice, nbO_slice, List.getElem?_cons_zero, List.getElem?_cons_succ, List.length_cons, List.length_nil, List.take_zero, List.take_succ_cons, List.drop_zero, List.drop_succ_cons, List.drop_nil, List.nil_append, List.cons_append, List.append_nil, Nat.zero_add, Nat.add_zero, Nat.mul_one, Nat.reduceAdd, Nat.reduceLeDiff, Bool.and_self, Bool.and_true, Bool.true_and, true_and, and_true, cagree_0, cagree_1, cagree_2, sameR_ok, sameV_int, sameV_bool, sameV_slice, Bool.false_eq_true, setArgs_nil, setArgs_cons, Bool.not_true, Bool.not_false, isEffC_pur, isEffC_alc, isEffC_red, isEffC_eff, retK_ret, retK_normal, resVs_tmp, resVs_nil, retV_one, retV_two, resVs_cell, loadA_of hty, y2, hgs, cellsOf_some (h := hset h6 (nx + 1) (.cells [.int .i64 (M : Int), .slice a gs.length cap] false)) (b := nx + 1) (cs := [.int .i64 (M : Int), .slice a gs.length cap]) (ro := false) (by simp), loadC_many, Nat.sub_zero, Nat.le_refl]
    refine ⟨M, A, _, _, _, gs, rfl, hM0, hM, by omega, hgl, hok, ?_, by omega, ?_⟩
    · exact hrd.keep (fun b h1 h2 => by rw [hgs, if_neg (by omega)]) (by omega) (Nat.le_refl _)
    · exact ((hk.trans (hk3.mono (by omega)) (Nat.le_refl _)).trans (hold5 : Keep nx3 h3 _) (by omega)).set (by omega)
end
end Go.Ax

/-! part AxHs -/
namespace Go.Ax
open Go
set_option linter.unusedSimpArgs false
set_option linter.unusedVariables false

/-! # lists of integers in blocks -/
def encI (x : Int) : List Value := [.int .i64 x]
def ints (l : List Int) : List Value := l.map (fun x => Value.int .i64 x)
theorem flat_ints : ∀ l : List Int, flat encI l = ints l
  | [] => rfl
  | x :: l => by show encI x ++ flat encI l = _; rw [flat_ints l]; rfl
theorem ints_get {l : List Int} {i : Nat} {x : Int} (h : l[i]? = some x) : (ints l)[i]? = some (.int .i64 x) := by simp [ints, h]
theorem ints_len (l : List Int) : (ints l).length = l.length := by simp [ints]
theorem ints_set (l : List Int) (i : Nat) (x : Int) : (ints l).set i (.int .i64 x) = ints (l.set i x) := by simp [ints, List.map_set]
theorem lt_of_get' {α : Type} {l : List α} {i : Nat} {x : α} (h : l[i]? = some x) : i < l.length := (List.getElem?_eq_some_iff.1 h).1
def nats (l : List Nat) : List Int := l.map (fun x : Nat => (x : Int))
theorem nats_app (l : List Nat) (x : Nat) : nats (l ++ [x]) = nats l ++ [(x : Int)] := by simp [nats]
theorem nats_len (l : List Nat) : (nats l).length = l.length := by simp [nats]
theorem nats_get {l : List Nat} {i x : Nat} (h : l[i]? = some x) : (nats l)[i]? = some (x : Int) := by simp [nats, h]
def TrueK : KC' := fun v _ _ => v = .bool true
section
variable {P : Program} {orc : Orc} {s : Bool}
theorem live_cv {f : Nat} (hl : orc f = some gLive) {h : Hp} {nx : Nat} {K : KC'} (hk : K (.bool true) h nx) : Cv P orc s f [] h nx K := Cv.byOrc hl (v := .bool true) (h' := h) (nx' := nx) rfl hk
end
end Go.Ax
