/- Parts of the proof: PpFn2: each statement bears its own conditions. -/
import Derived.Test.YtfebipifehfjlaaGreatPpFn1
namespace Go.Proofs.YtfebipifehfjlaaGreat
open Go Go.Ax
set_option linter.unusedVariables false
set_option linter.unusedSimpArgs false
set_option maxRecDepth 1000000
theorem es27 : elemSz Tryz.prog 27 = some 1 := by kernel_rfl
theorem cellL_int : ∀ l : List Int, cellL (ints l) = true
 | [] => rfl
 | x :: l => by show (cellV (.int .i64 x) && cellL (ints l)) = true; rw [cellL_int l]; rfl
theorem copy_i {h : Hp} {nx b o l1 c1 b2 o2 l2 c2 k : Nat} {sp : Option Nat} {ro : Bool} {l l' : List Int} (h1 : hget h b = some (.cells (ints l) false)) (h2 : hget h b2 = some (.cells (ints l') ro)) (hk : Nat.min l2 l1 = k) (k0 : 0 < k) (hl' : o2 + k ≤ l'.length) (hl : o + k ≤ l.length) :
  builtinA Tryz.prog .copy [27, 27] h nx [.slice (some ⟨b, o, none⟩) l1 c1, .slice (some ⟨b2, o2, sp⟩) l2 c2] = .ok (.val (.int .i64 (k : Int)) (hset h b (.cells (ints (l.take o ++ (l'.drop o2).take k ++ l.drop (o + k))) false)) nx) := by
 show R.of "copy" (elemSz Tryz.prog 27) (fun s => copyA s h nx (.slice (some ⟨b, o, none⟩) l1 c1) (.slice (some ⟨b2, o2, sp⟩) l2 c2)) = _
 rw [es27]
 show copyA 1 h nx (.slice (some ⟨b, o, none⟩) l1 c1) (.slice (some ⟨b2, o2, sp⟩) l2 c2) = _
 unfold copyA
 simp only
 rw [hk, show Nat.mul k 1 = k from Nat.mul_one k, readA_eq h2 k0 (by rw [ints_len]; omega)]
 have e : ((ints l').drop o2).take k = ints ((l'.drop o2).take k) := by simp [ints]
 have hlen : ((l'.drop o2).take k).length = k := by rw [List.length_take, List.length_drop]; omega
 rw [e]
 generalize hm : (l'.drop o2).take k = m at hlen ⊢
 have hw : writeA h b o (ints m) = .ok (hset h b (.cells (ints (l.take o ++ m ++ l.drop (o + k))) false)) := by
  rw [writeA_cells h1 (cellL_int m) (by rw [ints_len, ints_len]; omega)]
  simp [ints, hlen]
 match m, hlen with
 | [], h0 => simp at h0; omega
 | x :: m, _ =>
  show R.bind (writeA h b o (ints (x :: m))) _ = _
  rw [hw]
  rfl
theorem sl_from {b n N : Nat} (h : n < N) : vSl 1 (.slice (some ⟨b, 0, none⟩) N N) (some (.int .i64 (n : Int))) none none = .ok (.slice (some ⟨b, n, none⟩) (N - n) (N - n)) := by
 show sliceV 1 (some ⟨b, 0, none⟩) N false N N n = _
 unfold sliceV
 rw [show (Nat.ble N N && (Nat.ble N N && Nat.ble n N)) = true by simp only [Bool.and_eq_true, Nat.ble_eq]; omega]
 show sliceW 1 (some ⟨b, 0, none⟩) false N N n = _
 unfold sliceW
 rw [show Nat.beq N n = false by
  cases hb : Nat.beq N n with
  | false => rfl
  | true => exact absurd (Nat.eq_of_beq_eq_true hb) (by omega)]
 show R.ok (Value.slice (some ⟨b, 0 + n * 1, none⟩) (N - n) (N - n)) = _
 rw [Nat.zero_add, Nat.mul_one]
theorem sl_to {b n N : Nat} (h0 : 0 < N) (h : n ≤ N) : vSl 1 (.slice (some ⟨b, 0, none⟩) N N) none (some (.int .i64 (n : Int))) none = .ok (.slice (some ⟨b, 0, none⟩) n N) := by
 show sliceV 1 (some ⟨b, 0, none⟩) N false N n 0 = _
 unfold sliceV
 rw [show (Nat.ble N N && (Nat.ble n N && Nat.ble 0 n)) = true by simp only [Bool.and_eq_true, Nat.ble_eq]; omega]
 show sliceW 1 (some ⟨b, 0, none⟩) false N n 0 = _
 unfold sliceW
 rw [show Nat.beq N 0 = false by
  cases N with
  | zero => omega
  | succ N => rfl]
 rfl
def RepJ (b N : Nat) (x : Int) (nx : Nat) (h : Hp) (m : Nat) (vs : List Value) (h' : Hp) (nx' : Nat) : Prop :=
 ∃ n, m = N - n ∧ 1 ≤ n ∧ n ≤ N ∧ vs = [.slice (some ⟨b, 0, none⟩) N N, .int .i64 (n : Int)] ∧ hget h' b = some (.cells (ints (List.replicate n x ++ List.replicate (N - n) 0)) false) ∧ Keep nx h h' ∧ nx' = b + 1
def RepK (N : Nat) (x : Int) (nx : Nat) (h : Hp) : KC' := fun r h' nx' => r = .slice (some ⟨nx, 0, none⟩) N N ∧ hget h' nx = some (.cells (ints (List.replicate N x)) false) ∧ nx' = nx + 1 ∧ Keep nx h h'
theorem repe_c {s : Bool} {h : Hp} {nx N b2 o2 c2 : Nat} {sp : Option Nat} {ro : Bool} {x : Int} {l : List Int} (h2 : hget h b2 = some (.cells (ints l) ro)) (hb2 : b2 < nx) (hx : l[o2]? = some x) (hN : 0 < N) (hN2 : N ≤ 23) :
  Cv Q O s 35 [.slice (some ⟨b2, o2, sp⟩) 1 c2, .int .i64 (N : Int)] h nx (RepK N x nx h) := by
 refine repev ?_
 unfold repe
 have hxl := (List.getElem?_eq_some_iff.1 hx).1
 simp (disch := omega) only [SS, ↓reduceIte, Nat.reduceAdd, Nat.reduceSub, Nat.reduceMul, Nat.reduceLT, Nat.reduceLeDiff, Nat.reduceEqDiff, Int.reduceBEq, Int.reduceLT, Int.reduceNeg, wrapU6 (show 1 < 1000000 by omega), wrapU6 (show N < 1000000 by omega)]
 refine ⟨fun h => absurd h (by omega), fun _ => mul_c hN2 |>.mono ?_⟩
 rintro r hh nn ⟨rfl, e1, e2⟩
 rw [e1, e2]
 unfold repek0
 have r0 : List.replicate N (Value.int .i64 0) = ints (List.replicate N 0) := by simp [ints]
 simp (disch := omega) only [SS, ↓reduceIte, Nat.reduceAdd, Nat.reduceSub, Nat.reduceMul, Nat.reduceLT, Nat.reduceLeDiff, Nat.reduceEqDiff, Int.reduceBEq, Int.reduceLT, Int.reduceNeg, wrapN N (by omega), r0]
 intro _
 refine ⟨fun h => absurd h (by omega), fun _ => ?_⟩
 have c1 := copy_i (h := hset h nx (.cells (ints (List.replicate N 0)) false)) (nx := nx + 1) (b := nx) (o := 0) (l1 := N) (c1 := N) (b2 := b2) (o2 := o2) (l2 := 1) (c2 := c2) (k := 1) (sp := sp) (l' := l) (hnew _ _ _) (by rw [hold (by omega)]; exact h2) (Nat.min_eq_left (by omega)) (by omega) (by omega) (by simp; omega)
 have e3 : (List.replicate N (0 : Int)).take 0 ++ (l.drop o2).take 1 ++ (List.replicate N 0).drop (0 + 1) = List.replicate 1 x ++ List.replicate (N - 1) 0 := by
  rw [List.drop_eq_getElem_cons hxl, (List.getElem?_eq_some_iff.1 hx).2]; simp
 rw [e3] at c1
 rw [show Q = Tryz.prog from rfl, c1]
 simp (disch := omega) only [SS, ↓reduceIte, Nat.reduceAdd, Nat.reduceSub, Nat.reduceMul, Nat.reduceLT, Nat.reduceLeDiff, Nat.reduceEqDiff, Int.reduceBEq, Int.reduceLT, Int.reduceNeg, orR, EK_v]
 refine Lp.mk (RepJ nx N x nx h) (N - 1) ⟨1, rfl, by omega, by omega, rfl, by rw [hnew], fun c hc => by rw [hold (by omega), hold (by omega)], rfl⟩ ?_
 rintro m _ h' _ ⟨n, rfl, hn1, hn2, rfl, hb, hk, rfl⟩
 rw [repeb0]
 unfold repel0
 simp (disch := omega) only [SS, ↓reduceIte, Nat.reduceAdd, Nat.reduceSub, Nat.reduceMul, Nat.reduceLT, Nat.reduceLeDiff, Nat.reduceEqDiff, Int.reduceBEq, Int.reduceLT, Int.reduceNeg]
 refine ⟨fun hlt => ?_, fun hge => ?_⟩
 ·rw [sl_from hlt, RK_ok, sl_to hN (by omega), RK_ok]
  have hlr : (List.replicate n x ++ List.replicate (N - n) (0 : Int)).length = N := by simp; omega
  obtain ⟨k, hk1⟩ : ∃ k, Nat.min n (N - n) = k := ⟨_, rfl⟩
  have hk2 : k ≤ n ∧ k ≤ N - n ∧ 0 < k := by
   have : min n (N - n) = k := hk1
   omega
  have c2 := copy_i (h := h') (nx := nx + 1) (b := nx) (o := n) (l1 := N - n) (c1 := N - n) (b2 := nx) (o2 := 0) (l2 := n) (c2 := N) (k := k) (sp := none) (l' := List.replicate n x ++ List.replicate (N - n) 0) hb hb hk1 hk2.2.2 (by omega) (by omega)
  have e4 : (List.replicate n x ++ List.replicate (N - n) (0 : Int)).take n ++ ((List.replicate n x ++ List.replicate (N - n) 0).drop 0).take k ++ (List.replicate n x ++ List.replicate (N - n) 0).drop (n + k) = List.replicate (n + k) x ++ List.replicate (N - (n + k)) 0 := by
   rw [List.drop_zero, List.take_append_of_le_length (by simp), List.take_append_of_le_length (by simp; omega), List.take_of_length_le (by simp), List.take_replicate, Nat.min_eq_left hk2.1]
   have e5 : (List.replicate n x ++ List.replicate (N - n) (0 : Int)).drop (n + k) = List.replicate (N - (n + k)) 0 := by
    rw [List.drop_append, List.length_replicate, List.drop_eq_nil_of_le (by simp), List.nil_append, Nat.add_sub_cancel_left, List.drop_replicate]
    congr 1; omega
   rw [e5, ← List.replicate_append_replicate]
  rw [e4] at c2
  rw [show Q = Tryz.prog from rfl, c2]
  simp (disch := omega) only [SS, ↓reduceIte, Nat.reduceAdd, Nat.reduceSub, Nat.reduceMul, Nat.reduceLT, Nat.reduceLeDiff, Nat.reduceEqDiff, Int.reduceBEq, Int.reduceLT, Int.reduceNeg, orR, EK_v]
  have e6 : IntKind.wrap .i64 ((n : Int) + (k : Int)) = ((n + k : Nat) : Int) := wN (by omega)
  rw [e6]
  exact ⟨N - (n + k), by omega, n + k, rfl, by omega, by omega, rfl, hnew _ _ _, hk.set (by omega), rfl⟩
 ·have : n = N := by omega
  subst this
  rw [Nat.sub_self, List.replicate_zero, List.append_nil] at hb
  exact ⟨rfl, hb, rfl, hk⟩
theorem gE_inj {a b : GE} (h : gE a = gE b) : a = b := by
 obtain ⟨f, t, w⟩ := a
 obtain ⟨f', t', w'⟩ := b
 have h1 : ((f : Int), (t : Int), w) = ((f' : Int), (t' : Int), w') := h
 simp only [Prod.mk.injEq] at h1
 obtain ⟨h1, h2, h3⟩ := h1
 have : f = f' := by omega
 have : t = t' := by omega
 simp_all
structure Can (gs cs : List GE) : Prop where
 lea : ∀ e ∈ gs, ∃ e' ∈ cs, e'.f = e.f ∧ e'.t = e.t ∧ e'.w ≤ e.w
 sub : ∀ e ∈ cs, e ∈ gs
 one : ∀ e ∈ cs, ∀ e' ∈ cs, e.f = e'.f → e.t = e'.t → e.w = e'.w
 up : cs.Pairwise fun a c => a.f ≤ c.f
theorem Can.of {gs cs : List GE} (h : IsCan (gs.map gE) (cs.map gE)) : Can gs cs := by
 have sub : ∀ e ∈ cs, e ∈ gs := fun e he => by
  have := ((h.rep.mem (gE e)).1 (List.mem_map_of_mem he)).1
  obtain ⟨e', he', e1⟩ := List.mem_map.1 this
  rw [← gE_inj e1]; exact he'
 refine ⟨fun e he => ?_, sub, fun e he e' he' h1 h2 => ?_, ?_⟩
 ·obtain ⟨z, hz, hE⟩ := h.rep.cov (gE e) (List.mem_map_of_mem he)
  obtain ⟨e', he', rfl⟩ := List.mem_map.1 hz
  have hl := ((h.rep.mem (gE e')).1 hz).2 (gE e) (List.mem_map_of_mem he) hE
  have h1 : (e'.f : Int) = (e.f : Int) := hE.1
  have h2 : (e'.t : Int) = (e.t : Int) := hE.2
  exact ⟨e', he', by omega, by omega, hl⟩
 ·have hE : Ends (gE e) (gE e') := ⟨by show (e.f : Int) = (e'.f : Int); omega, by show (e.t : Int) = (e'.t : Int); omega⟩
  have a1 := ((h.rep.mem (gE e)).1 (List.mem_map_of_mem he)).2 (gE e') (List.mem_map_of_mem (sub e' he')) hE
  have a2 := ((h.rep.mem (gE e')).1 (List.mem_map_of_mem he')).2 (gE e) (List.mem_map_of_mem (sub e he)) hE.symm
  have a1 : e.w ≤ e'.w := a1
  have a2 : e'.w ≤ e.w := a2
  omega
 ·have := h.up
  rw [List.pairwise_map] at this
  refine this.imp fun {a c} hac => ?_
  have hac : ((a.f : Int) < (c.f : Int)) ∨ ((a.f : Int) = (c.f : Int) ∧ _) := hac
  omega
def und (cs : List GE) (dn : Nat → Bool) : Nat := (cs.filter fun e => !dn e.f).length
theorem und_take {dn : Nat → Bool} {v : Nat} (hv : dn v = false) : ∀ cs : List GE, und cs (fun u => dn u || u == v) + (cs.filter fun e => e.f == v).length = und cs dn
 | [] => rfl
 | e :: cs => by
  have ih := und_take hv cs
  unfold und at ih ⊢
  by_cases h1 : e.f = v
  ·simp [List.filter_cons, h1, hv]
   simp only [Bool.not_or] at ih
   omega
  ·have h2 : (e.f == v) = false := by simpa using h1
   cases h3 : dn e.f <;> simp [List.filter_cons, h1, h2, h3] <;> simp only [Bool.not_or] at ih <;> omega
theorem dj_perm {inf : Int} {N s v : Nat} {d : Int} {cs : List GE} {l : List Int} {W W' : List Stop} {dn : Nat → Bool} {ex : GE → Prop} (h : DjP inf N cs s v d l W dn ex) (hp : W'.Perm W) : DjP inf N cs s v d l W' dn ex :=
 ⟨h.base.perm hp, h.own, h.dnv, h.cur, fun p hm => h.key p (hp.mem_iff.1 hm)⟩
theorem dj_ex {inf : Int} {N s v : Nat} {d : Int} {cs : List GE} {l : List Int} {W : List Stop} {dn : Nat → Bool} {g : List GE} {j u : Nat} {e : GE} (he : g[j]? = some e) (h : DjP inf N cs s v d l W dn (fun e' => (e'.f = u ∧ e' ∉ g.take j) ∧ e' ≠ e)) : DjP inf N cs s v d l W dn (fun e' => e'.f = u ∧ e' ∉ g.take (j + 1)) := by
 have : (fun e' : GE => (e'.f = u ∧ e' ∉ g.take j) ∧ e' ≠ e) = (fun e' => e'.f = u ∧ e' ∉ g.take (j + 1)) := by
  funext e'
  rw [List.take_add_one, he]
  simp only [Option.toList_some, List.mem_append, List.mem_singleton, not_or, and_assoc]
 rw [← this]; exact h
abbrev inf : Int := 4611686018427387904
theorem rd_edge {i : Nat} {cs : List GE} {e : GE} (he : cs[i]? = some e) : loadC (some 3) (i * 3) (flat encG cs) = .ok (.agg ⟨[.int .i64 (e.f : Int), .int .i64 (e.t : Int), .int .i64 e.w]⟩) := by
 have hg := flat_get (enc := encG) (k := 3) (fun _ => rfl) he
 have hi := (List.getElem?_eq_some_iff.1 he).1
 rw [loadC_many, if_pos (by rw [flat_len (k := 3) (fun _ => rfl)]; omega), hg]
 rfl
def FoundK (N : Nat) (gs : List GE) (sr : Nat) (nx : Nat) (h : Hp) : KC' := fun r h' nx' => ∃ (b : Nat) (l : List Int), r = .slice (some ⟨b, 0, none⟩) N N ∧ nx ≤ b ∧ b < nx' ∧ hget h' b = some (.cells (ints l) false) ∧ IsFar inf N gs sr l ∧ Keep nx h h' ∧ nx ≤ nx'
def OuJ (N sr bf bo nL : Nat) (a : Option Addr) (cap : Nat) (cs : List GE) (hL : Hp) (m : Nat) (vs : List Value) (h' : Hp) (nx' : Nat) : Prop :=
 ∃ (i : Nat) (sv : List SV), m = cs.length - i ∧ i ≤ cs.length ∧ vs = [.int .i64 (sr : Int), .slice (some ⟨bf, 0, none⟩) N N, .slice (some ⟨bo, 0, none⟩) N N, .slice a cs.length cap, .int .i64 (cs.length : Int), .int .i64 (i : Int)] ∧ Lle encG 3 h' bo nL nx' sv (outE N (cs.take i)) ∧ (∀ c, c < nL → c ≠ bo → hget h' c = hget hL c) ∧ nL ≤ nx'
structure FQ (N nA nB bf bo bc : Nat) (cs : List GE) (sv : List SV) (nx : Nat) (h : Hp) (h' : Hp) (nx' : Nat) (l : List Int) (W : List Stop) : Prop where
 far : hget h' bf = some (.cells (ints l) false)
 L : Lle encG 3 h' bo nA nB sv (outE N cs)
 hp : Heap W
 keep : Keep nx h h'
 le : bc < nx'
def FJ1 (N sr nA nB bf bo bc : Nat) (cs : List GE) (sv : List SV) (nx : Nat) (h : Hp) (m : Nat) (vs : List Value) (h' : Hp) (nx' : Nat) : Prop :=
 ∃ (l : List Int) (W : List Stop) (dn : Nat → Bool) (b cap : Nat) (sp : Option Nat) (cx : List Value), m = W.length + und cs dn ∧ m ≤ 61 ∧ vs = [.slice (some ⟨bf, 0, none⟩) N N, .slice (some ⟨bo, 0, none⟩) N N, .pointer (some ⟨bc, 0, none⟩)] ∧
  WtAt h' bc b sp cap W cx ∧ nB ≤ b ∧ b < nx' ∧ DjI inf N cs sr l W dn (fun _ => False) ∧ FQ N nA nB bf bo bc cs sv nx h h' nx' l W
def FJ2 (N sr nA nB bf bo bc pa u c0 : Nat) (d : Int) (cs g : List GE) (sv : List SV) (vg : Value) (dn : Nat → Bool) (nx : Nat) (h : Hp) (m : Nat) (vs : List Value) (h' : Hp) (nx' : Nat) : Prop :=
 ∃ (j : Nat) (l : List Int) (W : List Stop) (b cap : Nat) (sp : Option Nat) (cx : List Value), m = g.length - j ∧ j ≤ g.length ∧ W.length ≤ c0 + j ∧ vs = [.slice (some ⟨bf, 0, none⟩) N N, .slice (some ⟨bo, 0, none⟩) N N, .pointer (some ⟨bc, 0, none⟩), .pointer (some ⟨pa, 0, none⟩), vg, .int .i64 (g.length : Int), .int .i64 (j : Int)] ∧
  WtAt h' bc b sp cap W cx ∧ nB ≤ b ∧ b < nx' ∧ b ≠ pa ∧ pa < nx' ∧ hget h' pa = some (.cells [.int .i64 (u : Int), .int .i64 d] false) ∧ DjP inf N cs sr u d l W dn (fun e => e.f = u ∧ e ∉ g.take j) ∧ FQ N nA nB bf bo bc cs sv nx h h' nx' l W
theorem found_c {gs : List GE} {N sr : Nat} {s : Bool} {h : Hp} {nx : Nat} {v : Value} (hv : SlPx h nx v encG gs) (hN : N ≤ 23) (hsr : sr < N) (hok : ∀ g ∈ gs, GOk N g) (hl : gs.length ≤ 60) :
  Cv Q O s 31 [.agg ⟨[.int .i64 (N : Int), v]⟩, .int .i64 (sr : Int)] h nx (FoundK N gs sr nx h) := by
 refine foundv ?_
 obtain ⟨a, cap, rfl, hc⟩ := id hv
 unfold found
 simp (disch := omega) only [SS, ↓reduceIte, Nat.reduceAdd, Nat.reduceSub, Nat.reduceMul, Nat.reduceLT, Nat.reduceLeDiff, Nat.reduceEqDiff, Int.reduceBEq, Int.reduceLT, Int.reduceNeg]
 have hr := repe_c (s := s) (N := N) (h := hset (hset h nx (.cells [.int .i64 (N : Int), .slice a gs.length cap] false)) (nx + 1) (.cells [.int .i64 4611686018427387904] false)) (nx := nx + 1 + 1) (b2 := nx + 1) (o2 := 0) (c2 := 1) (sp := none) (x := inf) (l := [inf]) (hnew _ _ _) (by omega) rfl (by omega) hN
 refine hr.mono ?_
 rintro r h1 _ ⟨rfl, hb1, rfl, hk1⟩
 have g1 := hk1 nx (by omega)
 rw [hold (by omega), hnew] at g1
 simp (disch := omega) only [SS, ↓reduceIte, Nat.reduceAdd, Nat.reduceSub, Nat.reduceMul, Nat.reduceLT, Nat.reduceLeDiff, Nat.reduceEqDiff, Int.reduceBEq, Int.reduceLT, Int.reduceNeg, g1, hb1]
 refine ⟨by simpa using hsr, ?_⟩
 have k1 : ∀ {o1 o2 : AObj}, Keep nx h (hset (hset h1 (nx + 1 + 1) o1) (nx + 1 + 1 + 1) o2) := fun {o1 o2} b hb => by rw [hold (by omega), hold (by omega), hk1 b (by omega), hold (by omega), hold (by omega)]
 refine (canon_c (hv.keep k1 (show nx ≤ nx + 1 + 1 + 1 + 1 by omega)) (by omega) hok hl).mono ?_
 rintro r h2 nA ⟨v2, cs, rfl, hcs, hcan, hcok, hcl, hk2, hle2⟩
 have C := Can.of hcan
 have f2 := hk2 (nx + 1 + 1) (by omega)
 have o2 := hk2 (nx + 1 + 1 + 1) (by omega)
 rw [hold (by omega), hnew] at f2
 rw [hnew] at o2
 obtain ⟨a2, cap2, rfl, hc2⟩ := id hcs.nw
 simp (disch := omega) only [SS, ↓reduceIte, Nat.reduceAdd, Nat.reduceSub, Nat.reduceMul, Nat.reduceLT, Nat.reduceLeDiff, Nat.reduceEqDiff, Int.reduceBEq, Int.reduceLT, Int.reduceNeg]
 refine Lp.mk (OuJ N sr (nx + 1 + 1) (nx + 1 + 1 + 1) nA a2 cap2 cs h2) cs.length ⟨0, List.replicate N (none, 0), rfl, by omega, rfl, ⟨?_, by omega, by simp [outE_len], fun j s g hs hg => .inl ?_, fun j k b nj nk hj => ?_, fun j nj hj => ?_⟩, fun c _ _ => rfl, Nat.le_refl _⟩ ?_
 ·rw [o2]; simp [svks, svK]
 ·simp only [List.getElem?_replicate] at hs
  rw [List.take_zero, outE_nil, List.getElem?_replicate] at hg
  split at hs
  ·rw [if_pos ‹_›] at hg; cases hs; cases hg; exact ⟨rfl, rfl⟩
  ·cases hs
 ·rw [List.getElem?_replicate] at hj; split at hj <;> cases hj
 ·rw [List.getElem?_replicate] at hj; split at hj <;> cases hj
 rintro m _ h3 nB ⟨i, sv, rfl, hi, rfl, L, hfr, hnB⟩
 rw [foundb0]
 unfold foundl0
 simp (disch := omega) only [SS, ↓reduceIte, Nat.reduceAdd, Nat.reduceSub, Nat.reduceMul, Nat.reduceLT, Nat.reduceLeDiff, Nat.reduceEqDiff, Int.reduceBEq, Int.reduceLT, Int.reduceNeg]
 refine ⟨fun hlt => ?_, fun hge => ?_⟩
 ·obtain ⟨e, he⟩ := get_ex hlt
  have hef := (hcok e (List.mem_of_getElem? he)).1
  obtain ⟨b, sp, ro, hb1, hb2, rfl, hb⟩ := hc2 (fun e0 => by rw [e0] at hlt; exact absurd hlt (Nat.not_lt_zero _))
  have hb3 := (hfr b hb2 (by omega)).trans hb
  obtain ⟨sq, hs⟩ := get_ex (l := sv) (i := e.f) (by rw [L.len, outE_len]; exact hef)
  have hbo := L.bel
  simp (disch := omega) only [SS, ↓reduceIte, Nat.reduceAdd, Nat.reduceSub, Nat.reduceMul, Nat.reduceLT, Nat.reduceLeDiff, Nat.reduceEqDiff, Int.reduceBEq, Int.reduceLT, Int.reduceNeg, hb3, rd_edge he, L.at_, svks_get hs]
  have hg : (outE N (cs.take i))[e.f]? = some ((cs.take i).filter fun x => x.f == e.f) := outE_get hef
  generalize hgd : ((cs.take i).filter fun x => x.f == e.f) = g at hg
  have hgl : g.length ≤ 60 := by
   rw [← hgd]
   have := List.length_filter_le (fun x : GE => x.f == e.f) (cs.take i)
   have := List.length_take_le i cs
   omega
  have hsb : ∀ c, sq.1 = some c → c < nB := fun c hc => by
   obtain ⟨s1, s2⟩ := sq
   have hc : s1 = some c := hc
   subst hc
   exact (L.below hs).2
  refine EK_appG (enc := encG) (k := 3) (fun _ => rfl) (fun _ => rfl) (by omega) ((L.gr hs hg).keep (fun c hc => ?_)) e (hnew _ _ _) rfl (by omega) fun h4 hn4 hf4 => ?_
  ·have := hsb c hc
   rw [hold (by omega), hold (by omega), hold (by omega)]
  have hx4 : hget h4 nB = some (.cells [.int .i64 (e.f : Int), .int .i64 (e.t : Int), .int .i64 e.w] false) := by
   rw [hf4 nB (by omega) (fun e => by have := hsb nB e; omega), hold (by omega), hnew]
  have hf5 : ∀ c, c < nB → sq.1 ≠ some c → hget h4 c = hget h3 c := fun c hc hne => by
   rw [hf4 c (by omega) hne, hold (by omega), hold (by omega), hold (by omega)]
  have L2 := L.keep (h' := hset (hset (hset h3 nB (.cells [.int .i64 0, .int .i64 0, .int .i64 0] false)) nB (.cells [.int .i64 (e.f : Int), .int .i64 (e.t : Int), .int .i64 e.w] false)) (nB + 1) (.cells [.int .i64 (e.f : Int), .int .i64 (e.t : Int), .int .i64 e.w] false)) (hi' := nB + 1 + 1) ?_ ?_ (by omega)
  obtain ⟨ho4, L3⟩ := L2.add (h' := h4) (nx' := nB + 1 + 1 + 1) (by omega) (by omega) hs hg (v := e) hn4 (fun c hc hne => hf4 c (by omega) hne)
  ·simp (disch := omega) only [SS, ↓reduceIte, Nat.reduceAdd, Nat.reduceSub, Nat.reduceMul, Nat.reduceLT, Nat.reduceLeDiff, Nat.reduceEqDiff, Int.reduceBEq, Int.reduceLT, Int.reduceNeg, hx4, ho4]
   refine ⟨by omega, by rw [svks_len, L.len, outE_len]; exact hef, cs.length - (i + 1), by omega, i + 1, sv.set e.f (some (nB + 1 + 1), g.length + 1), rfl, by omega, by rw [wrap_s (by omega)], ?_, fun c h1 h2 => ?_, by omega⟩
   ·have e1 : outE N (cs.take (i + 1)) = (outE N (cs.take i)).set e.f (g ++ [e]) := by
     rw [List.take_add_one, he, ← hgd]; exact outE_snoc hef
    rw [e1]
    have := svks_set 3 sv e.f (some (nB + 1 + 1), g.length + 1)
    rw [← this] at L3
    exact L3
   ·rw [hold h2, hf5 c (by omega) (fun e0 => ?_)]
    ·exact hfr c h1 h2
    ·obtain ⟨s1, s2⟩ := sq
     have e0 : s1 = some c := e0
     subst e0
     have := (L.below hs).1
     omega
  ·rw [hold (by omega), hold (by omega), hold (by omega)]
  ·intro c h1 h2
   rw [hold (by omega), hold (by omega), hold (by omega)]
 have hie : i = cs.length := by omega
 subst hie
 rw [List.take_length] at L
 have f3 := (hfr (nx + 1 + 1) (by omega) (by omega)).trans f2
 have k3 : Keep nx h h3 := fun c hc => by
  rw [hfr c (by omega) (by omega), hk2 c (by omega)]
  exact k1 c hc
 have hbo := L.bel
 clear hfr hk2 o2 f2 k1 hb1 hc2 hcs hcan
 have hG : ∀ e ∈ cs, e.f < N ∧ e.t < N ∧ 0 ≤ e.w := fun e he => ⟨(hcok e he).1, (hcok e he).2.1, (hcok e he).2.2.1⟩
 refine Lp.mk (FJ1 N sr nA nB (nx + 1 + 1) (nx + 1 + 1 + 1) (nB + 1) cs sv nx h) (1 + und cs fun _ => false) ⟨(List.replicate N inf).set sr 0, [(sr, 0)], fun _ => false, nB, 1, none, [], rfl, ?_, rfl, ⟨hnew _ _ _, ?_, rfl, .inl rfl, by omega⟩, Nat.le_refl _, by omega, DjI.init (by decide) hsr, ⟨?_, L.keep ?_ (fun b h1 h2 => ?_) (Nat.le_refl _), ⟨fun c x y h1 h2 h3 => ?_⟩, ?_, by omega⟩⟩ ?_
 ·have : und cs (fun _ => false) ≤ cs.length := List.length_filter_le _ _
  omega
 ·rw [hold (by omega), hnew]; rfl
 ·rw [hold (by omega), hold (by omega)]; exact f3
 ·rw [hold (by omega), hold (by omega)]
 ·rw [hold (by omega), hold (by omega)]
 ·have := (List.getElem?_eq_some_iff.1 h3).1
  simp at this; omega
 ·intro c hc; rw [hold (by omega), hold (by omega)]; exact k3 c hc
 rintro m _ h4 nx4 ⟨l, W, dn, b, cap4, sp4, cx, rfl, hm61, rfl, w, hb1, hb2, D, F⟩
 rw [foundb1]
 unfold foundl1
 simp (disch := omega) only [SS, ↓reduceIte, Nat.reduceAdd, Nat.reduceSub, Nat.reduceMul, Nat.reduceLT, Nat.reduceLeDiff, Nat.reduceEqDiff, Int.reduceBEq, Int.reduceLT, Int.reduceNeg, w.cell]
 refine slen_c.mono ?_
 rintro r hh nn ⟨rfl, e1, e2⟩
 rw [e1, e2]
 have hC2 : ∀ {l : List Int}, IsFar inf N cs sr l → IsFar inf N gs sr l := fun h => IsFar.of_least C.lea C.sub h
 by_cases hW0 : W.length = 0
 ·have hW : W = [] := List.eq_nil_of_length_eq_zero hW0
  subst hW
  simp (disch := omega) only [SS, ↓reduceIte, Nat.reduceAdd, Nat.reduceSub, Nat.reduceMul, Nat.reduceLT, Nat.reduceLeDiff, Nat.reduceEqDiff, Int.reduceBEq, Int.reduceLT, Int.reduceNeg]
  refine ⟨fun h => absurd h (by simp), fun _ => ?_⟩
  exact ⟨nx + 1 + 1, l, rfl, by omega, by omega, F.far, hC2 (D.done hG), F.keep, by have := F.le; omega⟩
 obtain ⟨p, hp⟩ := get_ex (l := W) (i := 0) (by omega)
 have r0 : loadC (some 2) 0 (flat encW W ++ cx) = .ok (.agg ⟨[.int .i64 (p.1 : Int), .int .i64 p.2]⟩) := by
  have := wt_rd (cs := cx) hp
  rwa [Nat.zero_mul] at this
 have hle4 := F.le
 have hpos : (0 : Int) < (W.length : Int) := by omega
 simp (disch := omega) only [SS, ↓reduceIte, Nat.reduceAdd, Nat.reduceSub, Nat.reduceMul, Nat.reduceLT, Nat.reduceLeDiff, Nat.reduceEqDiff, Int.reduceBEq, Int.reduceLT, Int.reduceNeg, w.cell, w.blk, r0, hpos, show 0 < W.length by omega]
 have w1 : WtAt (hset (hset h4 nx4 (.cells [.int .i64 0, .int .i64 0] false)) nx4 (.cells [.int .i64 (p.1 : Int), .int .i64 p.2] false)) (nB + 1) b sp4 cap4 W cx := ⟨by rw [hold (by omega), hold (by omega)]; exact w.cell, by rw [hold (by omega), hold (by omega)]; exact w.blk, w.len, w.spt, w.ne⟩
 refine ⟨?_, fun h => absurd trivial h⟩
 refine (hpop_c w1 (by omega) (by omega) (by omega) F.hp hp).mono ?_
 rintro r h5 nx5 ⟨cx5, W5, w5, hH5, hP5, hle5, hf5⟩
 have gp := hf5 nx4 (by omega) (by omega) (by omega)
 rw [hnew] at gp
 have far5 := (hf5 (nx + 1 + 1) (by omega) (by omega) (by omega)).trans ((hold (by omega)).trans ((hold (by omega)).trans F.far))
 have hpN := (D.itm p (List.mem_of_getElem? hp)).1
 obtain ⟨x, hx⟩ := get_ex (l := l) (i := p.1) (by rw [D.len]; exact hpN)
 have D5 := D.perm hP5
 have F5 : FQ N nA nB (nx + 1 + 1) (nx + 1 + 1 + 1) (nB + 1) cs sv nx h h5 nx5 l W5 := ⟨far5, F.L.keep (by rw [hf5 _ (by omega) (by omega) (by omega), hold (by omega), hold (by omega)]) (fun c h1 h2 => by rw [hf5 c (by omega) (by omega) (by omega), hold (by omega), hold (by omega)]) (Nat.le_refl _), hH5, fun c hc => by rw [hf5 c (by omega) (by omega) (by omega), hold (by omega), hold (by omega)]; exact F.keep c hc, by omega⟩
 have hl5 := hP5.length_eq
 rw [List.length_cons] at hl5
 simp (disch := omega) only [SS, ↓reduceIte, Nat.reduceAdd, Nat.reduceSub, Nat.reduceMul, Nat.reduceLT, Nat.reduceLeDiff, Nat.reduceEqDiff, Int.reduceBEq, Int.reduceLT, Int.reduceNeg, gp, far5, ints_get hx]
 refine ⟨fun hlt => ⟨W5.length + und cs dn, by omega, l, W5, dn, b, cap4, sp4, cx5, rfl, by omega, rfl, w5, hb1, by omega, D5.late hx hlt, F5⟩, fun hge => ?_⟩
 have hxp : x = p.2 := by have := (D.itm p (List.mem_of_getElem? hp)).2.2.2 x hx; omega
 subst hxp
 obtain ⟨hdn, DB⟩ := D5.begin hx (fun q hq => Heap.min F.hp hp q (hP5.mem_iff.1 (List.mem_cons_of_mem _ hq)))
 have hund := und_take hdn cs
 obtain ⟨u, d⟩ := p
 obtain ⟨sq, hs⟩ := get_ex (l := sv) (i := u) (by rw [L.len, outE_len]; exact hpN)
 have hg : (outE N cs)[u]? = some (cs.filter fun e => e.f == u) := outE_get hpN
 have GL := F5.L.gr hs hg
 simp only at hund gp hx DB
 simp (disch := omega) only [SS, ↓reduceIte, Nat.reduceAdd, Nat.reduceSub, Nat.reduceMul, Nat.reduceLT, Nat.reduceLeDiff, Nat.reduceEqDiff, Int.reduceBEq, Int.reduceLT, Int.reduceNeg, F5.L.at_, svks_get hs, GL.lens]
 generalize hgd : (cs.filter fun e => e.f == u) = g at *
 have hgm : ∀ e ∈ g, e ∈ cs ∧ e.f = u := fun e he => by
  rw [← hgd] at he
  obtain ⟨h1, h2⟩ := List.mem_filter.1 he
  exact ⟨h1, by simpa using h2⟩
 have hgl : g.length ≤ 60 := by
  rw [← hgd]
  have := List.length_filter_le (fun x : GE => x.f == u) cs
  omega
 refine Lp.mk (FJ2 N sr nA nB (nx + 1 + 1) (nx + 1 + 1 + 1) (nB + 1) nx4 u W5.length d cs g sv (svK 3 sq) (fun v => dn v || v == u) nx h) g.length ⟨0, l, W5, b, cap4, sp4, cx5, rfl, by omega, by omega, rfl, w5, hb1, by omega, by omega, by omega, gp, by simpa using DB, F5⟩ ?_
 have hd := (D.itm (u, d) (List.mem_of_getElem? hp))
 have hd1 : d < inf := hd.2.1
 have hd0 : 0 ≤ d := by obtain ⟨k, hw⟩ := hd.2.2.1; exact hw.nonneg fun e he => (hG e he).2.2
 clear F5 w5 DB D5 F w D far5 gp GL hf5 w1 r0 hx hge hP5 hH5 hp
 rintro m _ h6 nx6 ⟨j, l, W, b, cap6, sp6, cx, rfl, hj, hWj, rfl, w, hb1, hb2, hbp, hpn, gp, D, F⟩
 rw [foundb2]
 unfold foundl2
 simp (disch := omega) only [SS, ↓reduceIte, Nat.reduceAdd, Nat.reduceSub, Nat.reduceMul, Nat.reduceLT, Nat.reduceLeDiff, Nat.reduceEqDiff, Int.reduceBEq, Int.reduceLT, Int.reduceNeg]
 refine ⟨fun hlt => ?_, fun hge => ?_⟩
 ·obtain ⟨e, he⟩ := get_ex hlt
  obtain ⟨hec, hef⟩ := hgm e (List.mem_of_getElem? he)
  have heok := hcok e hec
  rcases F.L.each u sq g hs hg with ⟨e0, _⟩ | ⟨bg, hbg1, hbg2, rfl, hbg⟩
  ·rw [e0] at hlt; simp at hlt
  have hle6 := F.le
  obtain ⟨y, hy⟩ := get_ex (l := l) (i := e.t) (by rw [D.base.len]; exact heok.2.1)
  have hwr : IntKind.wrap .i64 (d + e.w) = d + e.w := wrapS (by have := heok.2.2.1; omega) (by have := heok.2.2.2; unfold inf at hd1; omega)
  have hlN := D.base.len
  have het : e.t < N := heok.2.1
  simp only [svK]
  simp (disch := omega) only [SS, ↓reduceIte, Nat.reduceAdd, Nat.reduceSub, Nat.reduceMul, Nat.reduceLT, Nat.reduceLeDiff, Nat.reduceEqDiff, Int.reduceBEq, Int.reduceLT, Int.reduceNeg, hbg, rd_edge he, gp, F.far, ints_get hy, hwr]
  have W1 : ∀ {l' : List Int}, WtAt (hset (hset (hset h6 nx6 (.cells [.int .i64 0, .int .i64 0, .int .i64 0] false)) nx6 (.cells [.int .i64 (e.f : Int), .int .i64 (e.t : Int), .int .i64 e.w] false)) (nx + 1 + 1) (.cells (ints l') false)) (nB + 1) b sp6 cap6 W cx := fun {l'} => ⟨by rw [hold (by omega), hold (by omega), hold (by omega)]; exact w.cell, by rw [hold (by omega), hold (by omega), hold (by omega)]; exact w.blk, w.len, w.spt, w.ne⟩
  refine ⟨fun hlt2 => ?_, fun hge2 => ?_⟩
  ·refine ⟨by omega, ?_⟩
   refine (hpush_c W1 (by omega) (by omega) (by omega) F.hp).mono ?_
   rintro r h7 nx7 ⟨b7, sp7, cap7, cx7, W7, w7, ⟨hH7, hP7⟩, hb7, hb7', hle7, hf7⟩
   have fr : ∀ c, c < nx6 → c ≠ b → c ≠ nB + 1 → c ≠ nx + 1 + 1 → hget h7 c = hget h6 c := fun c h1 h2 h3 h4 => by rw [hf7 c (by omega) h2 h3, hold h4, hold (by omega), hold (by omega)]
   have hl7 := hP7.length_eq
   rw [List.length_append, List.length_singleton] at hl7
   have D7 := dj_ex he (dj_perm (D.push hG hec hef hy hlt2) (W' := W7) (hP7.trans (List.perm_append_comm (l₁ := W) (l₂ := [(e.t, d + e.w)]))))
   refine ⟨g.length - (j + 1), by omega, j + 1, l.set e.t (d + e.w), W7, b7, cap7, sp7, cx7, rfl, by omega, by omega, by rw [wrap_s (by omega)], w7, by omega, hb7', by omega, by omega, by rw [fr nx4 (by omega) (by omega) (by omega) (by omega)]; exact gp, D7, ?_, ?_, hH7, ?_, by omega⟩
   ·rw [hf7 _ (by omega) (by omega) (by omega), hnew]
   ·exact F.L.keep (fr _ (by omega) (by omega) (by omega) (by omega)) (fun c h1 h2 => fr c (by omega) (by omega) (by omega) (by omega)) (Nat.le_refl _)
   ·intro c hc; rw [fr c (by omega) (by omega) (by omega) (by omega)]; exact F.keep c hc
  ·have fr : ∀ c, c < nx6 → hget (hset (hset h6 nx6 (.cells [.int .i64 0, .int .i64 0, .int .i64 0] false)) nx6 (.cells [.int .i64 (e.f : Int), .int .i64 (e.t : Int), .int .i64 e.w] false)) c = hget h6 c := fun c h1 => by rw [hold (by omega), hold (by omega)]
   have D7 := dj_ex he (D.skip hef hy (by omega))
   exact ⟨g.length - (j + 1), by omega, j + 1, l, W, b, cap6, sp6, cx, rfl, by omega, by omega, by rw [wrap_s (by omega)], ⟨by rw [fr _ (by omega)]; exact w.cell, by rw [fr _ (by omega)]; exact w.blk, w.len, w.spt, w.ne⟩, by omega, by omega, by omega, by omega, by rw [fr _ (by omega)]; exact gp, D7, ⟨by rw [fr _ (by omega)]; exact F.far, F.L.keep (fr _ (by omega)) (fun c h1 h2 => fr c (by omega)) (Nat.le_refl _), F.hp, fun c hc => by rw [fr _ (by omega)]; exact F.keep c hc, by omega⟩⟩
 ·have : j = g.length := by omega
  subst this
  rw [List.take_length] at D
  have DE := D.end_ fun e he hh => hh.2 (by rw [← hgd]; exact List.mem_filter.2 ⟨he, by simpa using hh.1⟩)
  exact ⟨W.length + und cs (fun v => dn v || v == u), by omega, l, W, _, b, cap6, sp6, cx, rfl, by omega, rfl, w, hb1, hb2, DE, F⟩
def frG (g : GE) : Edg3 := ((g.f : Int), (g.t : Int), g.w)
theorem flat_frG : ∀ l : List GE, flat encG l = flat enc3 (l.map frG)
 | [] => rfl
 | x :: l => by show encG x ++ flat encG l = enc3 (frG x) ++ flat enc3 (l.map frG); rw [flat_frG l]; rfl
theorem px_fr {h : Hp} {nx : Nat} {v : Value} {gs : List GE} (hv : SlPx h nx v encG gs) : SlPx h nx v enc3 (gs.map frG) := by
 obtain ⟨a, cap, rfl, hc⟩ := hv
 refine ⟨a, cap, by rw [List.length_map], fun hl => ?_⟩
 obtain ⟨b, sp, ro, cs, h1, h2, h3⟩ := hc (fun e => hl (by rw [e]; rfl))
 exact ⟨b, sp, ro, cs, h1, h2, by rw [← flat_frG]; exact h3⟩
theorem right_V {gs : List GE} {N : Nat} (hN : N ≤ 23) (hok : ∀ g ∈ gs, GOk N g) (hl : gs.length ≤ 60) : RightV (N : Int) (gs.map frG) := by
 refine ⟨by omega, by omega, by rw [List.length_map]; omega, fun e he hb => ?_, fun e he hb => ?_⟩
 ·obtain ⟨g, hg, rfl⟩ := List.mem_map.1 he
  obtain ⟨h1, h2, _⟩ := hok g hg
  have hb : (g.f : Int) < 0 ∨ (N : Int) ≤ g.f ∨ (g.t : Int) < 0 ∨ (N : Int) ≤ g.t := hb
  omega
 ·obtain ⟨g, hg, rfl⟩ := List.mem_map.1 he
  obtain ⟨_, _, h1, h2⟩ := hok g hg
  have hb : g.w < 0 ∨ 2147483647 < g.w := hb
  omega
def ZeroK (nx : Nat) (h : Hp) : KC' := fun r h' nx' => r = .int .i64 0 ∧ Keep nx h h' ∧ nx ≤ nx'
theorem right_z {s : Bool} {gs : List GE} {N : Nat} {h : Hp} {nx : Nat} {v : Value} (hv : SlPx h nx v encG gs) (hN : N ≤ 23) (hok : ∀ g ∈ gs, GOk N g) (hl : gs.length ≤ 60) : Cv Q O s 32 [.agg ⟨[.int .i64 (N : Int), v]⟩] h nx (ZeroK nx h) :=
 (right_g (px_fr hv)).mono fun r h' nx' ⟨e, h1, h2, h3, h4⟩ => ⟨by rw [h1, h2.2 (right_V hN hok hl)], h3, h4⟩
def BoolK (b : Bool) (nx : Nat) (h : Hp) : KC' := fun r h' nx' => r = .bool b ∧ Keep nx h h' ∧ nx ≤ nx'
theorem pright_c {s : Bool} {gs : List GE} {N : Nat} {x : Int} {h : Hp} {nx : Nat} {v : Value} (hv : SlPx h nx v encG gs) (hN : N ≤ 23) (hok : ∀ g ∈ gs, GOk N g) (hl : gs.length ≤ 60) :
  Cv Q O s 25 [.agg ⟨[.int .i64 (N : Int), v]⟩, .int .i64 x] h nx (BoolK (decide (0 ≤ x ∧ x < (N : Int))) nx h) := by
 refine prightv ?_
 obtain ⟨a, cap, rfl, hc⟩ := id hv
 unfold pright
 simp (disch := omega) only [SS, ↓reduceIte, Nat.reduceAdd, Nat.reduceSub, Nat.reduceMul, Nat.reduceLT, Nat.reduceLeDiff, Nat.reduceEqDiff, Int.reduceBEq, Int.reduceLT, Int.reduceNeg]
 refine (right_z (hv.keep (fun b hb => hold (by omega)) (Nat.le_succ _)) hN hok hl).mono ?_
 rintro r h1 nx1 ⟨rfl, hk, hle⟩
 have g1 := hk nx (by omega)
 rw [hnew] at g1
 have K1 : Keep nx h h1 := fun b hb => by rw [hk b (by omega), hold (by omega)]
 simp (disch := omega) only [SS, ↓reduceIte, Nat.reduceAdd, Nat.reduceSub, Nat.reduceMul, Nat.reduceLT, Nat.reduceLeDiff, Nat.reduceEqDiff, Int.reduceBEq, Int.reduceLT, Int.reduceNeg, g1]
 refine ⟨fun h0 => ⟨?_, K1, by omega⟩, fun h0 => ⟨?_, K1, by omega⟩⟩
 ·congr 1; simp only [decide_eq_decide]; omega
 ·have : ¬ (0 ≤ x ∧ x < (N : Int)) := by omega
  simp [this]
theorem pcheck_c {s : Bool} {gs : List GE} {N sr : Nat} {D l : List Int} {h : Hp} {nx : Nat} {v vl : Value} (hv : SlPx h nx v encG gs) (hvl : SlRd h nx vl encI l) (hN : N ≤ 23) (hsr : sr < N) (hok : ∀ g ∈ gs, GOk N g) (hl : gs.length ≤ 60) (hD : IsFar inf N gs sr D) :
  Cv Q O s 12 [.agg ⟨[.int .i64 (N : Int), v]⟩, .int .i64 (sr : Int), vl] h nx (BoolK (decide (D = l)) nx h) := by
 refine pcheckv ?_
 obtain ⟨a, cap, rfl, hc⟩ := id hv
 unfold pcheck
 simp (disch := omega) only [SS, ↓reduceIte, Nat.reduceAdd, Nat.reduceSub, Nat.reduceMul, Nat.reduceLT, Nat.reduceLeDiff, Nat.reduceEqDiff, Int.reduceBEq, Int.reduceLT, Int.reduceNeg]
 refine (pright_c (hv.keep (fun b hb => hold (by omega)) (Nat.le_succ _)) hN hok hl).mono ?_
 rintro r h1 nx1 ⟨rfl, hk, hle⟩
 have g1 := hk nx (by omega)
 rw [hnew] at g1
 have K1 : Keep nx h h1 := fun b hb => by rw [hk b (by omega), hold (by omega)]
 simp (disch := omega) only [SS, ↓reduceIte, Nat.reduceAdd, Nat.reduceSub, Nat.reduceMul, Nat.reduceLT, Nat.reduceLeDiff, Nat.reduceEqDiff, Int.reduceBEq, Int.reduceLT, Int.reduceNeg, g1]
 refine ⟨fun _ => ?_, fun h0 => absurd ⟨by omega, hsr⟩ h0⟩
 refine (found_c (hv.keep K1 (by omega)) hN hsr hok hl).mono ?_
 rintro r h2 nx2 ⟨b, l', rfl, hb1, hb2, hb, hF, hk2, hle2⟩
 have e := hF.unique hD
 subst e
 have K2 := K1.trans hk2 (by omega)
 have hlen := hF.len
 have hv' : SlRd h2 nx2 (.slice (some ⟨b, 0, none⟩) N N) encI l' := ⟨some ⟨b, 0, none⟩, N, by rw [hlen], fun _ => ⟨b, none, false, hb2, rfl, by rw [flat_ints]; exact hb⟩⟩
 refine (eq64_cv hv' (hvl.keep K2 (by omega)) (by omega)).mono ?_
 rintro r h3 nx3 ⟨rfl, rfl, rfl⟩
 exact ⟨rfl, K2, by omega⟩
def RfJ0 (N sr nx : Nat) (h2 : Hp) (m : Nat) (vs : List Value) (h' : Hp) (nx' : Nat) : Prop :=
 ∃ (i : Nat) (o : Value), m = N - i ∧ i ≤ N ∧ vs = [.int .i64 (sr : Int), .pointer (some ⟨nx, 0, none⟩), o, .int .i64 (i : Int)] ∧ SlAt h' o encI 1 (List.replicate i inf) (nx + 1) nx' ∧ Keep (nx + 1) h2 h' ∧ nx + 1 ≤ nx'
def RfJ1 (N sr nx b : Nat) (gs : List GE) (D : List Int) (h2 : Hp) (m : Nat) (vs : List Value) (h' : Hp) (nx' : Nat) : Prop :=
 ∃ (k : Nat) (l : List Int), m = N - k ∧ k ≤ N ∧ vs = [.pointer (some ⟨nx, 0, none⟩), .slice (some ⟨b, 0, some 1⟩) N N, .int .i64 (k : Int)] ∧ hget h' b = some (.cells (ints l) false) ∧ BfR inf N gs sr D k l ∧ Keep (nx + 1) h2 h' ∧ b < nx'
def RfJ2 (N sr nx b k : Nat) (gs : List GE) (l0 : List Int) (h2 : Hp) (m : Nat) (vs : List Value) (h' : Hp) (nx' : Nat) : Prop :=
 ∃ (i : Nat) (l : List Int), m = gs.length - i ∧ i ≤ gs.length ∧ vs = [.pointer (some ⟨nx, 0, none⟩), .slice (some ⟨b, 0, some 1⟩) N N, .int .i64 (k : Int), .int .i64 (i : Int)] ∧ hget h' b = some (.cells (ints l) false) ∧ BfI inf N gs sr l0 i l ∧ Keep (nx + 1) h2 h' ∧ b < nx'
def FarK (N : Nat) (D : List Int) (nx : Nat) (h : Hp) : KC' := fun r h' nx' => ∃ b, r = .slice (some ⟨b, 0, some 1⟩) N N ∧ nx ≤ b ∧ b < nx' ∧ hget h' b = some (.cells (ints D) false) ∧ Keep nx h h' ∧ nx ≤ nx'
theorem rfar_c {s : Bool} {gs : List GE} {N sr : Nat} {D : List Int} {h : Hp} {nx : Nat} {v : Value} (hv : SlPx h nx v encG gs) (hN : N ≤ 23) (hsr : sr < N) (hok : ∀ g ∈ gs, GOk N g) (hl : gs.length ≤ 60) (hD : IsFar inf N gs sr D) :
  Cv Q O s 20 [.agg ⟨[.int .i64 (N : Int), v]⟩, .int .i64 (sr : Int)] h nx (FarK N D nx h) := by
 refine rfarv ?_
 obtain ⟨a, cap, rfl, hc⟩ := id hv
 have hG : ∀ e ∈ gs, e.f < N ∧ e.t < N ∧ 0 ≤ e.w := fun e he => ⟨(hok e he).1, (hok e he).2.1, (hok e he).2.2.1⟩
 unfold rfar
 simp (disch := omega) only [SS, ↓reduceIte, Nat.reduceAdd, Nat.reduceSub, Nat.reduceMul, Nat.reduceLT, Nat.reduceLeDiff, Nat.reduceEqDiff, Int.reduceBEq, Int.reduceLT, Int.reduceNeg]
 refine Lp.mk (RfJ0 N sr nx (hset h nx (.cells [.int .i64 (N : Int), .slice a gs.length cap] false))) N ⟨0, _, rfl, by omega, rfl, .inl ⟨rfl, rfl⟩, Keep.refl _ _, Nat.le_refl _⟩ ?_
 rintro m _ h2 nx2 ⟨i, o, rfl, hi, rfl, S, hk, hle⟩
 have g1 := hk nx (by omega)
 rw [hnew] at g1
 rw [rfarb0]
 unfold rfarl0
 simp (disch := omega) only [SS, ↓reduceIte, Nat.reduceAdd, Nat.reduceSub, Nat.reduceMul, Nat.reduceLT, Nat.reduceLeDiff, Nat.reduceEqDiff, Int.reduceBEq, Int.reduceLT, Int.reduceNeg, g1]
 refine ⟨fun hlt => ?_, fun hge => ?_⟩
 ·refine EK_appS (enc := encI) (k := 1) (lo := nx + 1) (fun _ => rfl) (fun _ => rfl) (by omega) (S.keep (fun b h1 h2 => hold (by omega)) (by omega)) (by omega) inf (hnew _ _ _) rfl (by simp; omega) fun v3 h3 hs3 hk3 => ?_
  rw [← List.replicate_succ'] at hs3
  show ∃ m', _ ∧ _
  exact ⟨N - (i + 1), by omega, i + 1, _, rfl, by omega, by rw [wrap_s (by omega)], hs3, fun b hb => by rw [hk3 b (by omega), hold (by omega)]; exact hk b hb, by omega⟩
 have hiN : i = N := by omega
 subst hiN
 rcases S with ⟨e, _⟩ | ⟨b, hb1, hb2, rfl, hb⟩
 ·have := congrArg List.length e; simp at this; omega
 rw [flat_ints] at hb
 simp only [List.length_replicate]
 simp (disch := omega) only [SS, ↓reduceIte, Nat.reduceAdd, Nat.reduceSub, Nat.reduceMul, Nat.reduceLT, Nat.reduceLeDiff, Nat.reduceEqDiff, Int.reduceBEq, Int.reduceLT, Int.reduceNeg, hb, List.length_replicate]
 refine ⟨hsr, ?_⟩
 refine Lp.mk (RfJ1 i sr nx b gs D (hset h nx (.cells [.int .i64 (i : Int), .slice a gs.length cap] false))) i ⟨0, _, rfl, by omega, rfl, hnew _ _ _, BfR.init (by decide) hsr hG hD, hk.set (by omega), hb2⟩ ?_
 rintro m _ h3 nx3 ⟨k, l0, rfl, hk0, rfl, hb3, B, hk3, hle3⟩
 have g3 := hk3 nx (by omega)
 rw [hnew] at g3
 rw [rfarb1]
 unfold rfarl1
 simp (disch := omega) only [SS, ↓reduceIte, Nat.reduceAdd, Nat.reduceSub, Nat.reduceMul, Nat.reduceLT, Nat.reduceLeDiff, Nat.reduceEqDiff, Int.reduceBEq, Int.reduceLT, Int.reduceNeg, g3]
 refine ⟨fun hlt => ?_, fun hge => ?_⟩
 ·refine Lp.mk (RfJ2 i sr nx b k gs l0 (hset h nx (.cells [.int .i64 (i : Int), .slice a gs.length cap] false))) gs.length ⟨0, l0, rfl, by omega, rfl, hb3, BfI.start B, hk3, hle3⟩ ?_
  have hl0 := (BfI.start B).len
  rintro m _ h4 nx4 ⟨j, l, rfl, hj, rfl, hb4, I, hk4, hle4⟩
  have g4 := hk4 nx (by omega)
  rw [hnew] at g4
  rw [rfarb2]
  unfold rfarl2
  simp (disch := omega) only [SS, ↓reduceIte, Nat.reduceAdd, Nat.reduceSub, Nat.reduceMul, Nat.reduceLT, Nat.reduceLeDiff, Nat.reduceEqDiff, Int.reduceBEq, Int.reduceLT, Int.reduceNeg, g4]
  refine ⟨fun hlt2 => ?_, fun hge2 => ?_⟩
  ·obtain ⟨e, he⟩ := get_ex hlt2
   have heok := hok e (List.mem_of_getElem? he)
   have hef : e.f < i := heok.1
   have het : e.t < i := heok.2.1
   obtain ⟨_, be, sp, ro, cap', cs', hbe, hveq, hbh⟩ := hv.at he
   cases hveq
   have hbe4 := (hk4 be (by omega)).trans ((hold (by omega)).trans hbh)
   obtain ⟨x, hx⟩ := get_ex (l := l) (i := e.f) (by rw [I.len]; exact hef)
   obtain ⟨y, hy⟩ := get_ex (l := l) (i := e.t) (by rw [I.len]; exact het)
   have hll := I.len
   have hrd : loadC (some 3) (j * 3) (flat encG gs ++ cs') = .ok (.agg ⟨[.int .i64 (e.f : Int), .int .i64 (e.t : Int), .int .i64 e.w]⟩) := rdP (enc := encG) (k := 3) (fun _ => rfl) he (cs := cs')
   have hx0 : 0 ≤ x := by
    rcases I.wit _ _ hx with h | ⟨_, k, w⟩
    ·rw [h]; decide
    ·exact w.nonneg fun e he => (hG e he).2.2
   simp (disch := omega) only [SS, ↓reduceIte, Nat.reduceAdd, Nat.reduceSub, Nat.reduceMul, Nat.reduceLT, Nat.reduceLeDiff, Nat.reduceEqDiff, Int.reduceBEq, Int.reduceLT, Int.reduceNeg, hbe4, hrd, hb4, ints_get hx, ints_get hy]
   have fin : ∀ {H2 : Hp} (l' : List Int) (h' : Hp) (nx' : Nat), hget h' b = some (.cells (ints l') false) → BfI inf i gs sr l0 (j + 1) l' → Keep (nx + 1) H2 h' → b < nx' →
     ∃ m', m' < gs.length - j ∧ RfJ2 i sr nx b k gs l0 H2 m' [.pointer (some ⟨nx, 0, none⟩), .slice (some ⟨b, 0, some 1⟩) i i, .int .i64 (k : Int), .int .i64 (IntKind.wrap .i64 ((j : Int) + 1))] h' nx' := fun l' h' nx' a1 a2 a3 a4 =>
    ⟨gs.length - (j + 1), by omega, j + 1, l', rfl, by omega, by rw [wrap_s (by omega)], a1, a2, a3, a4⟩
   have hb5 : ∀ {o1 o2 : AObj}, hget (hset (hset h4 nx4 o1) nx4 o2) b = some (.cells (ints l) false) := fun {o1 o2} => by rw [hold (by omega), hold (by omega)]; exact hb4
   refine ⟨fun hxi => ?_, fun hxi => ?_⟩
   ·have hwr : IntKind.wrap .i64 (x + e.w) = x + e.w := wrapS (by have := heok.2.2.1; omega) (by have := heok.2.2.2; omega)
    simp (disch := omega) only [SS, ↓reduceIte, Nat.reduceAdd, Nat.reduceSub, Nat.reduceMul, Nat.reduceLT, Nat.reduceLeDiff, Nat.reduceEqDiff, Int.reduceBEq, Int.reduceLT, Int.reduceNeg, hwr]
    refine ⟨fun hlt3 => ⟨by omega, ?_⟩, fun hge3 => ?_⟩
    ·unfold rfark0
     simp (disch := omega) only [SS, ↓reduceIte, Nat.reduceAdd, Nat.reduceSub, Nat.reduceMul, Nat.reduceLT, Nat.reduceLeDiff, Nat.reduceEqDiff, Int.reduceBEq, Int.reduceLT, Int.reduceNeg]
     exact fin _ _ _ (hnew _ _ _) (I.set he hx hy hxi hlt3 heok.2.2.1 hl0 (fun e he => (hG e he).2.2)) (((hk4.set (by omega)).set (by omega)).set (by omega)) (by omega)
    ·unfold rfark0
     simp (disch := omega) only [SS, ↓reduceIte, Nat.reduceAdd, Nat.reduceSub, Nat.reduceMul, Nat.reduceLT, Nat.reduceLeDiff, Nat.reduceEqDiff, Int.reduceBEq, Int.reduceLT, Int.reduceNeg]
     exact fin l _ _ hb5 (I.skip he (fun x' y' h1 h2 _ => by rw [hx] at h1; rw [hy] at h2; cases h1; cases h2; omega) hl0) ((hk4.set (by omega)).set (by omega)) (by omega)
   ·unfold rfark0
    simp (disch := omega) only [SS, ↓reduceIte, Nat.reduceAdd, Nat.reduceSub, Nat.reduceMul, Nat.reduceLT, Nat.reduceLeDiff, Nat.reduceEqDiff, Int.reduceBEq, Int.reduceLT, Int.reduceNeg]
    exact fin l _ _ hb5 (I.skip he (fun x' y' h1 h2 h3 => by rw [hx] at h1; cases h1; exact absurd h3 hxi) hl0) ((hk4.set (by omega)).set (by omega)) (by omega)
  ·have : j = gs.length := by omega
   subst this
   exact ⟨i - (k + 1), by omega, k + 1, l, rfl, by omega, by rw [wrap_s (by omega)], hb4, BfR.step (by decide) hsr hG hD B I, hk4, hle4⟩
 ·have : k = i := by omega
  subst this
  have e := B.done
  subst e
  exact ⟨b, rfl, by omega, hle3, hb3, fun c hc => by rw [hk3 c (by omega), hold (by omega)], by omega⟩
theorem wrapI {n : Int} : IntKind.wrap .i64 n = (if n % 18446744073709551616 ≥ 9223372036854775808 then n % 18446744073709551616 - 18446744073709551616 else n % 18446744073709551616) := by
 simp only [IntKind.wrap, IntKind.signed, IntKind.bits]
 simp
theorem wrapD {n : Int} (h0 : -9223372036854775808 ≤ n) (h1 : n ≤ 9223372036854775807) : IntKind.wrap .i64 n = n := by
 rw [wrapI]; split <;> omega
theorem live_o {s : Bool} {h : Hp} {nx : Nat} {K : KC'} (hk : K (.bool true) h nx) : Cv Q O s 6 [] h nx K := live_cv rfl hk
theorem wrap_ne2 {a b : Int} (ha : okI a) (hb : okI b) (h0 : b ≠ 0) : IntKind.wrap .i64 (a + b) ≠ a := by
 unfold okI at *
 rw [wrapI]
 split <;> omega
theorem set_same {l : List Int} {k : Nat} {x : Int} (h : l[k]? = some x) : l.set k x = l := by
 apply List.ext_getElem?
 intro i
 rw [List.getElem?_set]
 by_cases e : k = i
 ·subst e; rw [if_pos rfl, h, if_pos (List.getElem?_eq_some_iff.1 h).1]
 ·rw [if_neg e]
theorem set_ne {l : List Int} {k : Nat} {x y : Int} (h : l[k]? = some x) (hne : y ≠ x) : ¬ l = l.set k y := fun e => by
 have hk := (List.getElem?_eq_some_iff.1 h).1
 have : (l.set k y)[k]? = some x := by rw [← e]; exact h
 rw [List.getElem?_set, if_pos rfl, if_pos hk] at this
 exact hne (by simpa using this)
theorem bin_beq4 {a b : Bool} : bin Tryz.prog .eql 4 (.bool a) (.bool b) = .ok (.bool (a == b)) := by
 have ht : isBoolTy Tryz.prog 4 = true := by kernel_rfl
 show R.of "compared" (bif isBoolTy Tryz.prog 4 then eqlB a (.bool b) else none) (fun b => rBool b) = _
 rw [ht]; rfl
theorem sl_of {h' : Hp} {nx' b N c : Nat} {sp : Option Nat} {ro : Bool} {l : List Int} (hl : l.length = N) (hb : b < nx') (hg : hget h' b = some (.cells (ints l) ro)) : SlRd h' nx' (.slice (some ⟨b, 0, sp⟩) N c) encI l :=
 ⟨some ⟨b, 0, sp⟩, c, by rw [hl], fun _ => ⟨b, sp, ro, hb, rfl, by rw [flat_ints]; exact hg⟩⟩
theorem far_okI {N sr : Nat} {gs : List GE} {D : List Int} (hG : ∀ e ∈ gs, 0 ≤ e.w) (hD : IsFar inf N gs sr D) : ∀ x ∈ D, okI x := fun x hx => by
 obtain ⟨v, hv⟩ := List.getElem?_of_mem hx
 rcases hD.wit v x hv with h | ⟨h, k, w⟩
 ·rw [h]; unfold okI inf; omega
 ·have := w.nonneg hG
  unfold okI; unfold inf at h; omega
theorem ponly_cv {s : Bool} {n V R C at_ by_ : Int} {v : Value} {es : List Edg3} {h : Hp} {nx : Nat} (hes : SlRd h nx v enc3 es) (hby : okI by_) :
  Cv Q O s 4 [.agg ⟨[.int .i64 n, v, .int .i64 V, .int .u8 R, .int .u8 C]⟩, .int .i64 at_, .int .i64 by_] h nx TrueK := by
 refine ponlyv ?_
 obtain ⟨a, cap, rfl, hc⟩ := id hes
 unfold ponly
 simp (disch := omega) only [SS, ↓reduceIte, Nat.reduceAdd, Nat.reduceSub, Nat.reduceMul, Nat.reduceLT, Nat.reduceLeDiff, Nat.reduceEqDiff, Int.reduceBEq, Int.reduceLT, Int.reduceNeg]
 refine (make_c (hes.keep (fun b hb => hold (show b ≠ nx by omega)) (Nat.le_succ nx))).mono ?_
 rintro r h1 nx1 ⟨N, sr, ra, rb, v2, gs, rfl, hN0, hN, hsr, hgl, hok, hgs, hle1, hk1⟩
 obtain ⟨a2, cap2, rfl, hc2⟩ := id hgs
 have hG : ∀ e ∈ gs, e.f < N ∧ e.t < N ∧ 0 ≤ e.w := fun e he => ⟨(hok e he).1, (hok e he).2.1, (hok e he).2.2.1⟩
 obtain ⟨D, hD⟩ := IsFar.ex (inf := inf) hG (by decide) hsr
 simp (disch := omega) only [SS, ↓reduceIte, Nat.reduceAdd, Nat.reduceSub, Nat.reduceMul, Nat.reduceLT, Nat.reduceLeDiff, Nat.reduceEqDiff, Int.reduceBEq, Int.reduceLT, Int.reduceNeg]
 have hv1 := SlPx.of (hgs.rd.keep ((Keep.refl nx1 h1).set (o := .cells [.int .i64 0, .slice none 0 0] false) (Nat.le_refl _) |>.set (o := .cells [.int .i64 (N : Int), .slice a2 gs.length cap2] false) (Nat.le_refl _)) (Nat.le_succ _))
 refine (rfar_c hv1 (by omega) hsr hok hgl hD).mono ?_
 rintro r h2 nx2 ⟨bl, rfl, hbl1, hbl2, hbl, hk2, hle2⟩
 have gA2 := (hk2 nx1 (by omega)).trans (hnew _ _ _)
 have hv2 := hv1.keep hk2 (by omega)
 simp (disch := omega) only [SS, ↓reduceIte, Nat.reduceAdd, Nat.reduceSub, Nat.reduceMul, Nat.reduceLT, Nat.reduceLeDiff, Nat.reduceEqDiff, Int.reduceBEq, Int.reduceLT, Int.reduceNeg, gA2]
 refine within_c.mono ?_
 rintro r h4 nx4 ⟨rfl, e1, e2⟩
 rw [e1, e2]
 obtain ⟨kk, hkk, hkn⟩ := wnF_nat (k := at_) (n := (N : Int))
 have hkN : kk < N := by have := hkn (by omega); omega
 rw [hkk]
 have hDl := hD.len
 obtain ⟨x, hx⟩ := get_ex (l := D) (i := kk) (by omega)
 have hxo := far_okI (fun e he => (hG e he).2.2) hD x (List.mem_of_getElem? hx)
 simp (disch := omega) only [SS, ↓reduceIte, Nat.reduceAdd, Nat.reduceSub, Nat.reduceMul, Nat.reduceLT, Nat.reduceLeDiff, Nat.reduceEqDiff, Int.reduceBEq, Int.reduceLT, Int.reduceNeg, hbl, ints_get hx]
 refine ⟨by omega, live_o ?_⟩
 have hv3 := hv1.keep (hk2.set (o := .cells (ints (D.set kk (IntKind.wrap .i64 (x + by_)))) false) hbl1) (show nx1 + 1 ≤ nx2 by omega)
 simp (disch := omega) only [SS, ↓reduceIte, Nat.reduceAdd, Nat.reduceSub, Nat.reduceMul, Nat.reduceLT, Nat.reduceLeDiff, Nat.reduceEqDiff, Int.reduceBEq, Int.reduceLT, Int.reduceNeg, gA2]
 refine (pcheck_c hv3 (sl_of (by rw [List.length_set]; exact hDl) hbl2 (hnew _ _ _)) (by omega) hsr hok hgl hD).mono ?_
 rintro r h5 nx5 ⟨rfl, hk5, hle5⟩
 rw [show Q = Tryz.prog from rfl, bin_beq4, RK_ok]
 show _ = _
 congr 1
 by_cases h0 : by_ = 0
 ·subst h0
  rw [Int.add_zero, wrapD (by unfold okI at hxo; omega) (by unfold okI at hxo; omega), set_same hx]
  simp
 ·have := set_ne hx (wrap_ne2 hxo hby h0)
  rw [decide_eq_false this]
  simp [h0]
open Go.ChangeShapes Go.WideShapes Go.ChangeAt Go.RowKit
theorem O_ok : OrcOk Tryz.prog O := fun f g h => by
 unfold O at h
 cases h1 : Nat.beq f 6 with
 | true =>
  have e := Nat.eq_of_beq_eq_true h1
  subst e
  rw [h1] at h
  cases h
  exact live27_ok
 | false =>
  rw [h1] at h
  cases h2 : Nat.beq f 43 with
  | true =>
   have e := Nat.eq_of_beq_eq_true h2
   subst e
   rw [h2] at h
   cases h
   exact combF_ok
  | false => rw [h2] at h; cases h
theorem okI_wf {n : Int} (h : (Lit.int .i64 n).wf = true) : okI n := by
 simp [Lit.wf, IntKind.min, IntKind.max, IntKind.signed, IntKind.bits] at h
 unfold okI
 omega
abbrev CameC (W : World) (sl : Value) (zs : List Edg3) : Prop := (zs = [] ∧ sl = .slice none 0 0) ∨ ∃ b off cap, sl = .slice (some ⟨b, off, none⟩) zs.length cap ∧ LiesAt W b off (flat enc3 zs)
theorem walkPO {n V R C a1 a2 : Int} {sl : Value} {zs : List Edg3} {W : World} (hz : CameC W sl zs) (hw : (Lit.int .i64 a2).wf = true) :
  Calls Tryz.prog 4 #[.agg ⟨[.int .i64 n, sl, .int .i64 V, .int .u8 R, .int .u8 C]⟩, .int .i64 a1, .int .i64 a2] W fun e w' => e = .returned (.bool true) ∧ Below W.heap.size W w' := by
 obtain ⟨h1, h2, h3⟩ := in_one (e3 := enc3) (fun _ => rfl) hz
 exact callsIn_wide.1 (run_ok (n := 0) pok O_ok (ponly_cv (n := n) (V := V) (R := R) (C := C) (at_ := a1) (by_ := a2) h3 (okI_wf hw)) (in_rel h1) (in_fr _) (.cons (.agg (.cons (.int _ _) (.cons h2 (.cons (.int _ _) (.cons (.int _ _) (.cons (.int _ _) .nil)))))) (.cons (.int _ _) (.cons (.int _ _) .nil))))
end Go.Proofs.YtfebipifehfjlaaGreat
