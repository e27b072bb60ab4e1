/- Parts of the proof: Rb1: each statement bears its own conditions. -/
import Derived.ChangeArms
import Derived.Below
import Derived.Shelf.SlSortCmp.NoneTotal
import Derived.Test.YtcjochjiegiliaaGreatCm3
namespace Go.Ax
open Go
set_option linter.unusedSimpArgs false
set_option linter.unusedVariables false
section
variable {P : Program} {orc : Orc} {s : Bool}
theorem wrapS {n : Int} (h0 : 0 ≤ n) (h1 : n < 9223372036854775808) : IntKind.wrap .i64 n = n := by
 rw [← fwrap_eq]
 obtain ⟨m, rfl⟩ := Int.eq_ofNat_of_zero_le h0
 show fwrapP .i64 m = _
 unfold fwrapP limU
 rw [blt_dec]
 have : m < 9223372036854775808 := by omega
 simp [this]
end
def OrcAt (P : Program) (f : FuncId) (g : List Value → Hp → Nat → CR) : Prop := ∀ (args : List Value) (h : Hp) (nx : Nat) (K : Value → Hp → Nat → Prop), crSat (g args h nx) K →
 Callable P f ∧ ∀ (B : Nat) (ρ : Rho) (w : World) (args' : List Value), Rel B ρ (hget h) w → Fr ρ nx → VRL ρ args args' → ∀ n, CallsIn Fence.wide n P f ⟨args'⟩ w (Fin B ρ h w nx K)
theorem orc0_ok {P : Program} : OrcOk P orc0 := fun f g h => by cases h
section
variable {P : Program}
end
section
variable {α : Type}
def flat (enc : α → List Value) : List α → List Value
 | [] => []
 | x :: l => enc x ++ flat enc l
theorem flat_len {enc : α → List Value} {k : Nat} (hk : ∀ x, (enc x).length = k) : ∀ l : List α, (flat enc l).length = l.length * k
 | [] => by simp [flat]
 | x :: l => by simp [flat, hk, flat_len hk l, Nat.succ_mul]; omega
theorem flat_get {enc : α → List Value} {k : Nat} (hk : ∀ x, (enc x).length = k) : ∀ {l : List α} {i : Nat} {x : α}, l[i]? = some x → ((flat enc l).drop (i * k)).take k = enc x
 | [], i, x, h => by simp at h
 | y :: l, 0, x, h => by
  simp at h; subst h
  simp [flat, ← hk y]
 | y :: l, i + 1, x, h => by
  have h : l[i]? = some x := by simpa using h
  have e : (i + 1) * k = (enc y).length + i * k := by rw [hk, Nat.succ_mul]; omega
  rw [e, flat, List.drop_append, List.drop_of_length_le (by omega), List.nil_append]
  have : (enc y).length + i * k - (enc y).length = i * k := by omega
  rw [this]
  exact flat_get hk h
end
section
variable {P : Program} {orc : Orc} {α : Type}
theorem wrapN (m : Nat) (h : m < 1000000000) : IntKind.wrap .i64 (m : Int) = (m : Int) := wrapS (by omega) (by omega)
theorem load_flat {enc : α → List Value} {k : Nat} (hk : ∀ x, (enc x).length = k) {M : List α} {j : Nat} {x : α} (hx : M[j]? = some x) : loadC (some k) (0 + j * k) (flat enc M) = .ok (.agg ⟨enc x⟩) := by
 have hj : j < M.length := by
  rcases Nat.lt_or_ge j M.length with h | h
  ·exact h
  ·rw [List.getElem?_eq_none h] at hx; cases hx
 rw [loadC_many, Nat.zero_add, if_pos (by rw [flat_len hk]; have := Nat.mul_le_mul_right k (show j + 1 ≤ M.length by omega); rw [Nat.succ_mul] at this; omega), flat_get hk hx]
end
section
variable {P : Program} {orc : Orc} {α : Type} {s : Bool}
end
def cfNaN (ty : Nat) : CF := { res := [.tmp 2], body :=
 (.seq (.regO [⟨none, (some 2), 0, .pur (.mv (.v (.bool false)))⟩])
 (.seq (.regO [⟨none, (some 3), 0, .pur (.mv (.t 0))⟩,
  ⟨none, (some 4), 0, .pur (.mv (.t 0))⟩,
  ⟨none, (some 5), 0, .pur (.bin .neq ty (.t 3) (.t 4))⟩,
  ⟨none, (some 2), 0, .pur (.mv (.t 5))⟩])
 .ret)) }
def cfCmp (ty fn : Nat) : CF := { res := [.tmp 4], body :=
 (.seq (.regO [⟨none, (some 4), 0, .pur (.mv (.v (.int .i64 0)))⟩])
 (.seq (.regO [⟨none, (some 7), 0, .pur (.mv (.t 0))⟩,
  ⟨none, (some 8), 0, .eff (.call fn [(.t 7)])⟩,
  ⟨none, (some 5), 0, .pur (.mv (.t 8))⟩])
 (.seq (.regO [⟨none, (some 9), 0, .pur (.mv (.t 1))⟩,
  ⟨none, (some 10), 0, .eff (.call fn [(.t 9)])⟩,
  ⟨none, (some 6), 0, .pur (.mv (.t 10))⟩])
 (.seq (.seq (.regO [⟨none, (some 11), 0, .pur (.mv (.t 5))⟩])
 (.cond (.t 11)
 (.seq (.seq (.regO [⟨none, (some 12), 0, .pur (.mv (.t 6))⟩])
 (.cond (.t 12)
  (.seq (.regO [⟨none, (some 4), 0, .pur (.mv (.v (.int .i64 0)))⟩])
  .ret)
  .skip))
 (.seq (.regO [⟨none, (some 4), 0, .pur (.mv (.v (.int .i64 (-1))))⟩])
 .ret))
 .skip))
 (.seq (.seq (.regO [⟨none, (some 13), 0, .pur (.mv (.t 6))⟩])
 (.cond (.t 13)
 (.seq (.regO [⟨none, (some 4), 0, .pur (.mv (.v (.int .i64 1)))⟩])
 .ret)
 .skip))
 (.seq (.seq (.regO [⟨none, (some 14), 0, .pur (.mv (.t 0))⟩,
  ⟨none, (some 15), 0, .pur (.mv (.t 1))⟩,
  ⟨none, (some 16), 0, .pur (.bin .lss ty (.t 14) (.t 15))⟩])
 (.cond (.t 16)
 (.seq (.regO [⟨none, (some 4), 0, .pur (.mv (.v (.int .i64 (-1))))⟩])
 .ret)
 .skip))
 (.seq (.seq (.regO [⟨none, (some 17), 0, .pur (.mv (.t 0))⟩,
  ⟨none, (some 18), 0, .pur (.mv (.t 1))⟩,
  ⟨none, (some 19), 0, .pur (.bin .gtr ty (.t 17) (.t 18))⟩])
 (.cond (.t 19)
 (.seq (.regO [⟨none, (some 4), 0, .pur (.mv (.v (.int .i64 1)))⟩])
 .ret)
 .skip))
 (.seq (.regO [⟨none, (some 4), 0, .pur (.mv (.v (.int .i64 0)))⟩])
 .ret)))))))) }
def cmpI (a b : Int) : Int := if a < b then -1 else if b < a then 1 else 0
section
variable {P : Program} {orc : Orc} {s : Bool}
theorem nan_cv {fn ty : Nat} (hn : compAt P fn = some (cfNaN ty)) (hon : orc fn = none) {q : IntKind} (a : Int) {h : Hp} {nx : Nat} : Cv P orc s fn [.int q a] h nx (fun v h' nx' => v = .bool false ∧ h' = h ∧ nx' = nx) := by
 refine Cv.enter hon hn ?_
 unfold cfNaN
 refine Ev.seq (Ev.regO ?_)
 simp [Ov_pur, Ov_nil]
 refine Ev.seq (Ev.regO ?_)
 simp [Ov_pur, Ov_nil]
 exact Ev.ret (by simp)
theorem cmp_cv {f fn ty : Nat} (hcf : compAt P f = some (cfCmp ty fn)) (ho : orc f = none) (hn : compAt P fn = some (cfNaN ty)) (hon : orc fn = none) {q : IntKind} (a b : Int) {h : Hp} {nx : Nat} :
  Cv P orc s f [.int q a, .int q b] h nx (fun v h' nx' => v = .int .i64 (cmpI a b) ∧ h' = h ∧ nx' = nx) := by
 refine Cv.enter ho hcf ?_
 unfold cfCmp
 refine Ev.seq (Ev.regO ?_)
 simp [Ov_pur, Ov_nil]
 refine Ev.seq (Ev.regO ?_)
 simp [Ov_pur]
 refine Ov_call ?_
 simp
 refine (nan_cv hn hon a).mono ?_
 rintro v h' nx' ⟨rfl, rfl, rfl⟩
 simp [Ov_pur, Ov_nil]
 refine Ev.seq (Ev.regO ?_)
 simp [Ov_pur]
 refine Ov_call ?_
 simp
 refine (nan_cv hn hon b).mono ?_
 rintro v h2 nx2 ⟨rfl, rfl, rfl⟩
 simp [Ov_pur, Ov_nil]
 refine Ev.seq (Ev.seq (Ev.regO ?_))
 simp [Ov_pur, Ov_nil]
 refine Ev.cond false (by simp) (by simp) fun _ => Ev.skip ?_
 simp
 refine Ev.seq (Ev.seq (Ev.regO ?_))
 simp [Ov_pur, Ov_nil]
 refine Ev.cond false (by simp) (by simp) fun _ => Ev.skip ?_
 simp
 refine Ev.seq (Ev.seq (Ev.regO ?_))
 simp [Ov_pur, Ov_nil]
 refine Ev.cond (decide (a < b)) (by simp) (fun hlt => ?_) fun hge => Ev.skip ?_
 ·refine Ev.seq (Ev.regO ?_)
  simp [Ov_pur, Ov_nil]
  simp at hlt
  exact Ev.ret (by simp [cmpI, hlt])
 ·simp at hge
  simp
  refine Ev.seq (Ev.seq (Ev.regO ?_))
  simp [Ov_pur, Ov_nil]
  refine Ev.cond (decide (b < a)) (by simp) (fun hlt => ?_) fun hge2 => Ev.skip ?_
  ·refine Ev.seq (Ev.regO ?_)
   simp [Ov_pur, Ov_nil]
   simp at hlt
   exact Ev.ret (by simp [cmpI, hlt, show ¬ a < b by omega])
  ·simp at hge2
   simp
   refine Ev.seq (Ev.regO ?_)
   simp [Ov_pur, Ov_nil]
   exact Ev.ret (by simp [cmpI, show ¬ a < b by omega, show ¬ b < a by omega])
def encL (x : Int × Int) : List Value := [.int .i64 x.1, .int .i64 x.2]
end
section
variable {P : Program} {α : Type}
theorem flat_app {enc : α → List Value} : ∀ (l : List α) (x : α), flat enc (l ++ [x]) = flat enc l ++ enc x
 | [], x => by simp [flat]
 | y :: l, x => by simp [flat, flat_app l x]
theorem hgd (h : Hp) (b k : Nat) : hget (hdel h b) k = if k = b then none else hget h k := hget_hdel h b k
theorem growN_eq {h : Hp} {nx s : Nat} {l : List Value} {need : Nat} (hs : 0 < s) : growN h nx s l need = .ok (.val (.slice (some ⟨nx, 0, some s⟩) need need) (hset h nx (.cells l false)) (nx + 1)) := by
 unfold growN
 cases s with
 | zero => omega
 | succ s => rfl
theorem readA_eq {h : Hp} {b off : Nat} {sp : Option Nat} {n : Nat} {cs : List Value} {ro : Bool} {k : List Value → R OR} (hh : hget h b = some (.cells cs ro)) (hn : 0 < n) (hl : n ≤ cs.length - off) : readA h (some ⟨b, off, sp⟩) n k = k ((cs.drop off).take n) := by
 cases n with
 | zero => omega
 | succ n =>
  show cellsOf h b (fun cs _ => R.of "read - out of block" (lcut (n + 1) (ldrop cs off)) k) = _
  rw [cellsOf_some hh, ldrop_eq, lcut_eq, if_pos (by rw [List.length_drop]; exact hl)]
  rfl
end
section
variable {P : Program} {orc : Orc} {s : Bool}
def pick (key : MapEntry → Int × Int) (len : MapEntry → Nat) (l : List MapEntry) : List (Int × Int) := (l.filter (fun e => decide (0 < len e))).map key
end
section
variable {α : Type}
end
def lenOf (h : Hp) (e : MapEntry) : Option Nat := match e.val with
 | .pointer (some a) => (match hget h a.block with
  | some (.cells cs _) => (match lget cs (a.off + 1) with
   | some (.slice _ n _) => some n
   | _ => none)
  | _ => none)
 | _ => none
section
variable {P : Program}
end
abbrev Edg := Int × Int × Int
section
variable {P : Program} {orc : Orc}
def NumCmp (P : Program) (orc : Orc) (q : IntKind) (f : FuncId) : Prop := ∀ (s : Bool) (a b : Int) (h : Hp) (nx : Nat), Cv P orc s f [.int q a, .int q b] h nx (fun v h' nx' => v = .int .i64 (cmpI a b) ∧ h' = h ∧ nx' = nx)
end
section
variable {P : Program} {orc : Orc} {s : Bool}
@[simp] theorem resVs_cell (tm : Tm) (h : Hp) (a t : Nat) (rs : List ResultVar) : resVs P tm h (.cell a t :: rs) = R.bind (addrR (tget tm a) (fun a => loadA P h t a)) (fun v => R.bind (resVs P tm h rs) (fun vs => .ok (v :: vs))) := rfl
end
section
variable {P : Program} {orc : Orc} {s : Bool}
end
section
variable {P : Program} {orc : Orc} {s : Bool}
end
section
variable {P : Program} {orc : Orc} {s : Bool}
end
section
variable {P : Program} {orc : Orc} {s : Bool}
end
section
variable {P : Program} {orc : Orc}
end
section
variable {P : Program}
end
def gLive : List Value → Hp → Nat → CR := fun args h nx => match args with
 | [] => .ok (.bool true) h nx
 | _ => .no "live"
section
variable {P : Program} {orc : Orc}
theorem Mv.still {B : Nat} {ρ : Rho} {H : AH} {w w' : World} {nx : Nat} (hr : Rel B ρ H w) (hsz : w.heap.size ≤ w'.heap.size) (hos : w'.os = w.os) (htp : Tp w w') (hout : w'.output = w.output)
  (hfr : ∀ k, k < w.heap.size → w'.heap[k]? = w.heap[k]?) : Mv B ρ H w nx nx ρ H w' where
 rel := hr.world hsz fun b p hb hs => by
  obtain ⟨o, ho⟩ := Option.isSome_iff_exists.1 hs
  exact hfr _ (hr.obj b p o hb ho).blk_lt
 agree := fun _ _ => rfl
 size := hsz
 os := hos
 tape := htp
 output := hout
 frame := fun k hk _ => hfr k hk
 own := fun k h => .inl h
 le := Nat.le_refl _
theorem live_ok (hP : POk P) (horc : OrcOk P orc) {N : Nat} {f : FuncId} (hw : wTrue P orc N f) : OrcAt P f gLive := by
 intro args h nx K hs
 cases args with
 | cons _ _ => exact hs.elim
 | nil =>
  have hs : K (.bool true) h nx := hs
  obtain ⟨h', nx', he⟩ := wTrue_ok hw
  have hsat : crSat (callA P orc (exA P orc N) f [] hp0 0) (fun v _ _ => v = .bool true) := by rw [he]; rfl
  obtain ⟨hcal, hgo⟩ := callA_ok hP horc N f [] hp0 0 _ hsat
  refine ⟨hcal, fun B ρ w args' hr hf ha n => ?_⟩
  have hr0 : Rel w.heap.size (fun _ => none) (hget hp0) w := ⟨Nat.le_refl _, fun b p o hb _ => (by cases hb), fun b b' p p' hb _ _ _ _ _ => (by cases hb), fun b hs => by rw [hget_hp0] at hs; cases hs⟩
  cases ha
  refine (hgo w.heap.size (fun _ => none) w [] hr0 (fun _ _ => rfl) .nil n).mono fun e w' he => ?_
  obtain ⟨v', h2, nx2, ρ', c, rfl, rfl, hvr, hm⟩ := he
  cases hvr
  exact ⟨.bool true, h, nx, ρ, .bool true, rfl, hs, .bool true, Mv.still hr hm.size hm.os hm.tape hm.output fun k hk => hm.frame k hk (by rintro ⟨b, p, hb, _⟩; cases hb)⟩
theorem live_eq {f m : Nat} (hP : POk P) (horc : OrcOk P orc) (h : wTrue P orc m f = True) : OrcAt P f gLive := live_ok hP horc (of_eq_true h)
end
section
variable {α : Type}
def Keep (nx : Nat) (h h' : Hp) : Prop := ∀ b, b < nx → hget h' b = hget h b
theorem Keep.refl (nx : Nat) (h : Hp) : Keep nx h h := fun _ _ => rfl
theorem Keep.trans {nx nx' : Nat} {h h' h2 : Hp} (a : Keep nx h h') (b : Keep nx' h' h2) (hle : nx ≤ nx') : Keep nx h h2 := fun k hk => (b k (Nat.lt_of_lt_of_le hk hle)).trans (a k hk)
theorem Keep.set {nx b : Nat} {h h' : Hp} {o : AObj} (a : Keep nx h h') (hb : nx ≤ b) : Keep nx h (hset h' b o) := fun k hk => by
 rw [hgs, if_neg (by omega)]; exact a k hk
theorem Keep.mono {nx nx' : Nat} {h h' : Hp} (a : Keep nx' h h') (hle : nx ≤ nx') : Keep nx h h' := fun k hk => a k (Nat.lt_of_lt_of_le hk hle)
def SlRd (h : Hp) (nx : Nat) (v : Value) (enc : α → List Value) (l : List α) : Prop :=
 ∃ a cap, v = .slice a l.length cap ∧ (l ≠ [] → ∃ b sp ro, b < nx ∧ a = some ⟨b, 0, sp⟩ ∧ hget h b = some (.cells (flat enc l) ro))
theorem SlRd.keep {h h' : Hp} {nx nx' : Nat} {v : Value} {enc : α → List Value} {l : List α} (hs : SlRd h nx v enc l) (hk : Keep nx h h') (hle : nx ≤ nx') : SlRd h' nx' v enc l := by
 obtain ⟨a, cap, hv, hc⟩ := hs
 refine ⟨a, cap, hv, fun hl => ?_⟩
 obtain ⟨b, sp, ro, hb, ha, hg⟩ := hc hl
 exact ⟨b, sp, ro, by omega, ha, by rw [hk b hb]; exact hg⟩
theorem SlRd.at {h : Hp} {nx : Nat} {v : Value} {enc : α → List Value} {l : List α} (hs : SlRd h nx v enc l) {i : Nat} {x : α} (hx : l[i]? = some x) :
  i < l.length ∧ ∃ b sp ro cap, b < nx ∧ v = .slice (some ⟨b, 0, sp⟩) l.length cap ∧ hget h b = some (.cells (flat enc l) ro) := by
 have hi : i < l.length := by
  rcases Nat.lt_or_ge i l.length with h | h
  ·exact h
  ·rw [List.getElem?_eq_none h] at hx; cases hx
 obtain ⟨a, cap, hv, hc⟩ := hs
 obtain ⟨b, sp, ro, hb, rfl, hg⟩ := hc (fun e => by rw [e] at hi; exact absurd hi (Nat.not_lt_zero _))
 exact ⟨hi, b, sp, ro, cap, hb, hv, hg⟩
theorem flat_cell {enc : α → List Value} {k : Nat} (hk : ∀ x, (enc x).length = k) {l : List α} {i j : Nat} {x : α} (hx : l[i]? = some x) (hj : j < k) : (flat enc l)[i * k + j]? = (enc x)[j]? := by
 have hg := flat_get hk hx
 have : ((flat enc l).drop (i * k))[j]? = (enc x)[j]? := by
  rw [← hg, List.getElem?_take, if_pos hj]
 rw [List.getElem?_drop] at this
 exact this
end
section
variable {H : Type} {enc : TypeId × Value → H} {P : Program} {w : World} {base : Nat} {sp : Nat → Bool} {held : Bool}
def Wf64 (n : Int) : Prop := (Lit.int .i64 n).wf = true
theorem cells_get {a : Addr} {n : Nat} {cs : List Value} (h : w.cells? base a n = some cs) : cs.length = n ∧ ∀ i v, cs[i]? = some v → w.cell? (a.add i) = some v := by
 unfold World.cells? at h
 split at h
 ·have hl : cs.length = n := by simpa using mapM_some_length h
  refine ⟨hl, fun i v hv => ?_⟩
  have hi : i < n := by
   rcases Nat.lt_or_ge i cs.length with h1 | h1
   ·omega
   ·rw [List.getElem?_eq_none h1] at hv; cases hv
  have := mapM_some_get h i i (by simp [hi])
  rw [this, hv]
 ·cases h
theorem add_add (a : Addr) (i j : Nat) : (a.add i).add j = a.add (i + j) := by
 unfold Addr.add
 by_cases h1 : i = 0
 ·subst h1; simp
 ·by_cases h2 : j = 0
  ·subst h2; simp
  ·simp [h1, h2, Nat.add_assoc]
theorem open_rows {α : Type} {e3 : α → List Value} {k : Nat} {t e : TypeId} {fuel : Nat} {cs : List Value} {x : DataW H × List MemPlace} (ht : P.underlying t = some (.slice e)) (hc : P.cellsOf e = k) (R : α → Prop)
  (hone : ∀ (n : Nat) (c : List Value) y, DataW.trod enc P w base sp held n e c = some y → ∃ z : α, c = e3 z ∧ R z)
  (h : DataW.trod enc P w base sp held fuel t cs = some x) :
  cs = [.slice none 0 0] ∨ ∃ (a : Addr) (zs : List α) (cap : Nat), cs = [.slice (some a) zs.length cap] ∧ zs.length ≤ cap ∧ cap ≤ maxLen ∧ (∀ z ∈ zs, R z) ∧ ∀ i v, (flat e3 zs)[i]? = some v → w.cell? (a.add i) = some v := by
 rcases DataW.trod_slice ht h with ⟨hcs, _⟩ | ⟨a, len, cap, elems, rest, n, rfl, hcs, _, hb, hl, hm, hlen, hel, _⟩
 ·exact .inl hcs
 ·have key : ∀ m, m ≤ len → ∃ zs : List α, zs.length = m ∧ (∀ z ∈ zs, R z) ∧ (flat e3 zs).length = m * k ∧ ∀ i v, (flat e3 zs)[i]? = some v → w.cell? (a.add i) = some v := by
   intro m
   induction m with
   | zero => intro _; exact ⟨[], rfl, by simp, by simp [flat], fun i v hv => by simp [flat] at hv⟩
   | succ m ih =>
    intro hm'
    obtain ⟨zs, h1, h2, h3, h4⟩ := ih (by omega)
    have hE := hel m (by omega)
    rw [hc, List.getElem?_eq_getElem (by omega : m < elems.length)] at hE
    simp only [Option.bind_eq_some_iff] at hE
    obtain ⟨c, hcc, htr⟩ := hE
    obtain ⟨z, rfl, hz⟩ := hone _ _ _ htr
    obtain ⟨hcl, hcg⟩ := cells_get hcc
    refine ⟨zs ++ [z], by simp [h1], fun y hy => ?_, by rw [flat_app, List.length_append, h3, hcl, Nat.succ_mul], fun i v hv => ?_⟩
    ·rcases List.mem_append.1 hy with hy | hy
     ·exact h2 y hy
     ·rw [List.mem_singleton.1 hy]; exact hz
    ·rw [flat_app, List.getElem?_append] at hv
     split at hv
     ·exact h4 i v hv
     ·rename_i hge
      have := hcg _ v hv
      rw [add_add, h3] at this
      rw [h3] at hge
      rw [show m * k + (i - m * k) = i by omega] at this
      exact this
  obtain ⟨zs, h1, h2, _, h4⟩ := key len (Nat.le_refl _)
  exact .inr ⟨a, zs, cap, by rw [h1]; exact hcs, by omega, hm, h2, h4⟩
end
def rhoL (ps : List (Place × List Value)) : Rho := fun b => (ps[b]?).map (·.1)
def hpL : Nat → List (Place × List Value) → Hp → Hp
 | _, [], h => h
 | i, p :: ps, h => hpL (i + 1) ps (hset h i (.cells p.2 true))
theorem hget_hpL : ∀ (ps : List (Place × List Value)) (i : Nat) (h : Hp) (b : Nat), hget (hpL i ps h) b = if b < i then hget h b else match ps[b - i]? with
  | some p => some (.cells p.2 true)
  | none => hget h b
 | [], i, h, b => by by_cases hb : b < i <;> simp [hpL, hb]
 | p :: ps, i, h, b => by
  show hget (hpL (i + 1) ps (hset h i (.cells p.2 true))) b = _
  rw [hget_hpL ps (i + 1) _ b, hgs]
  by_cases h1 : b < i
  ·rw [if_pos (by omega), if_neg (by omega), if_pos h1]
  ·by_cases h2 : b = i
   ·subst h2
    simp
   ·rw [if_neg (by omega), if_neg h1, if_neg h2]
    obtain ⟨j, hj⟩ : ∃ j, b - i = j + 1 := ⟨b - i - 1, by omega⟩
    rw [hj, show b - (i + 1) = j by omega]
    rfl
theorem hpL_some {ps : List (Place × List Value)} {b : Nat} {o : AObj} (h : hget (hpL 0 ps hp0) b = some o) : ∃ p, ps[b]? = some p ∧ o = .cells p.2 true := by
 rw [hget_hpL, if_neg (Nat.not_lt_zero _), Nat.sub_zero, hget_hp0] at h
 cases hp : ps[b]? with
 | none => rw [hp] at h; cases h
 | some p => rw [hp] at h; cases h; exact ⟨p, rfl, rfl⟩
theorem hpL_at {ps : List (Place × List Value)} {b : Nat} {p : Place × List Value} (h : ps[b]? = some p) : hget (hpL 0 ps hp0) b = some (.cells p.2 true) := by
 rw [hget_hpL, if_neg (Nat.not_lt_zero _), Nat.sub_zero, h]
def InW (w : World) (ps : List (Place × List Value)) : Prop := ∀ p ∈ ps, ∃ c e fr, w.heap[p.1.blk]? = some (.cells c e fr) ∧ CellsR (rhoL ps) p.2 c p.1.off
theorem heap_lt {w : World} {b : Nat} {x : Obj} (h : w.heap[b]? = some x) : b < w.heap.size := (Array.getElem?_eq_some_iff.1 h).1
theorem in_rel {w : World} {ps : List (Place × List Value)} (hin : InW w ps) : Rel w.heap.size (rhoL ps) (hget (hpL 0 ps hp0)) w where
 base := Nat.le_refl _
 obj := fun b p o hb ho => by
  obtain ⟨q, hq, rfl⟩ := hpL_some ho
  unfold rhoL at hb
  rw [hq] at hb; cases hb
  obtain ⟨c, e, fr, hw, hc⟩ := hin q (List.mem_of_getElem? hq)
  exact ⟨heap_lt hw, c, e, fr, hw, hc⟩
 inj := fun b b' p p' hb hb' hs _ hB _ => by
  exfalso
  unfold rhoL at hb
  cases hq : ps[b]? with
  | none => rw [hq] at hb; cases hb
  | some q =>
   rw [hq] at hb
   have hb : q.1 = p := by simpa using hb
   subst hb
   obtain ⟨c, e, fr, hw, _⟩ := hin q (List.mem_of_getElem? hq)
   have := heap_lt hw
   omega
 dom := fun b hs => by
  obtain ⟨o, ho⟩ := Option.isSome_iff_exists.1 hs
  obtain ⟨q, hq, _⟩ := hpL_some ho
  unfold rhoL
  rw [hq]; rfl
theorem in_fr (ps : List (Place × List Value)) : Fr (rhoL ps) ps.length := fun b hb => by
 unfold rhoL
 rw [List.getElem?_eq_none hb]; rfl
theorem below_of {B nx nx' : Nat} {ρ ρ' : Rho} {H H' : AH} {w w' : World} (hB : B = w.heap.size) (hm : Mv B ρ H w nx nx' ρ' H' w') : RowKit.Below w.heap.size w w' :=
 ⟨hm.os, hm.tape.1, hm.output, hm.size, fun k hk => hm.frame k hk (by rintro ⟨b, p, _, _, _, h⟩; omega)⟩
section
variable {P : Program} {orc : Orc}
theorem run_ok (hP : POk P) (horc : OrcOk P orc) {f : FuncId} {args : List Value} {h : Hp} {nx : Nat} (hc : Cv P orc false f args h nx (fun v _ _ => v = .bool true))
  {ρ : Rho} {w : World} {args' : List Value} (hr : Rel w.heap.size ρ (hget h) w) (hf : Fr ρ nx) (ha : VRL ρ args args') (n : Nat) :
  CallsIn Fence.wide n P f ⟨args'⟩ w (fun e w' => e = .returned (.bool true) ∧ RowKit.Below w.heap.size w w') := by
 obtain ⟨N, hN⟩ := hc
 have hs := (ccall_ok (P := P) (orc := orc) N f args h nx).sat hN.1
 obtain ⟨_, h2⟩ := callA_ok hP horc N f args h nx _ hs
 refine (h2 w.heap.size ρ w args' hr hf ha n).mono fun e w' he => ?_
 obtain ⟨v', h', nx', ρ', c, rfl, rfl, hvc, hm⟩ := he
 cases hvc
 exact ⟨rfl, below_of rfl hm⟩
end
section
variable {α : Type}
def SlNw (h : Hp) (lo hi : Nat) (v : Value) (enc : α → List Value) (l : List α) : Prop :=
 ∃ a cap, v = .slice a l.length cap ∧ (l ≠ [] → ∃ b sp ro, lo ≤ b ∧ b < hi ∧ a = some ⟨b, 0, sp⟩ ∧ hget h b = some (.cells (flat enc l) ro))
theorem SlNw.rd {h : Hp} {lo hi : Nat} {v : Value} {enc : α → List Value} {l : List α} (hs : SlNw h lo hi v enc l) : SlRd h hi v enc l := by
 obtain ⟨a, cap, hv, hc⟩ := hs
 refine ⟨a, cap, hv, fun hl => ?_⟩
 obtain ⟨b, sp, ro, _, hb, ha, hg⟩ := hc hl
 exact ⟨b, sp, ro, hb, ha, hg⟩
theorem SlNw.keep {h h' : Hp} {lo hi lo' hi' : Nat} {v : Value} {enc : α → List Value} {l : List α} (hs : SlNw h lo hi v enc l) (hk : ∀ b, lo ≤ b → b < hi → hget h' b = hget h b) (h1 : lo' ≤ lo) (h2 : hi ≤ hi') : SlNw h' lo' hi' v enc l := by
 obtain ⟨a, cap, hv, hc⟩ := hs
 refine ⟨a, cap, hv, fun hl => ?_⟩
 obtain ⟨b, sp, ro, hb1, hb, ha, hg⟩ := hc hl
 exact ⟨b, sp, ro, by omega, by omega, ha, by rw [hk b hb1 hb]; exact hg⟩
end
section
variable {P : Program} {orc : Orc} {s : Bool}
@[congr] theorem RK_congr {α : Type} {r r' : R α} {k : α → Prop} (h : r = r') : RK r k = RK r' k := by rw [h]
theorem Ev.cut {a b : CC} {tm : Tm} {h : Hp} {nx : Nat} {K : KO'} (Q : KS') (h1 : Ev P orc s a tm h nx (nextK Q K)) (h2 : ∀ tm h nx, Q tm h nx → Ev P orc s b tm h nx K) : Ev P orc s (.seq a b) tm h nx K :=
 Ev.seq (h1.mono fun x tm h nx hx => by
  cases x with
  | normal => exact h2 tm h nx hx
  | ret => exact hx
  | exit i => exact hx)
@[simp] theorem alc_new (tm : Tm) (l : List Value) : calq P tm (.new l) = .ok (.ptr (.cells l false)) := rfl
@[simp] theorem nbV_ptr (nx : Nat) (o : AObj) : nbV nx (.ptr o) = .pointer (some ⟨nx, 0, none⟩) := rfl
@[simp] theorem nbO_ptr (o : AObj) : nbO (.ptr o) = o := rfl
@[simp] theorem nbV_slice (nx : Nat) (o : AObj) (n c : Nat) : nbV nx (.slice o n c) = .slice (some ⟨nx, 0, none⟩) n c := rfl
@[simp] theorem nbO_slice (o : AObj) (n c : Nat) : nbO (.slice o n c) = o := rfl
@[simp] theorem vc_int (k : IntKind) (n : Int) : vcells (.int k n) = [.int k n] := rfl
@[simp] theorem vc_slice (a : Option Addr) (n c : Nat) : vcells (.slice a n c) = [.slice a n c] := rfl
@[simp] theorem vc_agg (l : List Value) : vcells (.agg ⟨l⟩) = l := rfl
@[simp] theorem vc_bool (b : Bool) : vcells (.bool b) = [.bool b] := rfl
@[simp] theorem vc_ptr (a : Option Addr) : vcells (.pointer a) = [.pointer a] := rfl
@[simp] theorem cellV_int (k : IntKind) (n : Int) : cellV (.int k n) = true := rfl
@[simp] theorem cellV_bool (b : Bool) : cellV (.bool b) = true := rfl
@[simp] theorem cellV_slice (a : Option Addr) (n c : Nat) : cellV (.slice a n c) = true := rfl
@[simp] theorem cellV_ptr (a : Option Addr) : cellV (.pointer a) = true := rfl
@[simp] theorem cellL_nil : cellL [] = true := rfl
@[simp] theorem cellL_cons (x : Value) (l : List Value) : cellL (x :: l) = (cellV x && cellL l) := by
 show (bif cellV x then cellL l else false) = _
 cases cellV x <;> rfl
@[simp] theorem cpur_build (tm : Tm) (z : List Value) (ps : List (Nat × Nat × Co)) : cpur P tm (.build z ps) = R.bind (cfillP tm ps z) (fun l => .ok (.agg ⟨l⟩)) := rfl
@[simp] theorem alc_bsl (tm : Tm) (n : Nat) (z : List Value) (ps : List (Nat × Nat × Co)) : calq P tm (.bsl n z ps) = R.bind (cfillP tm ps z) (fun l => sliceNB l n n) := rfl
@[simp] theorem sliceNB_eq (l : List Value) (a b : Nat) : sliceNB l a b = if cellL l = true then .ok (.slice (.cells l false) a b) else .no "cells" := by
 show (bif cellL l then _ else _) = _
 cases cellL l <;> rfl
@[simp] theorem cfill_nil (tm : Tm) (z : List Value) : cfillP tm [] z = .ok z := rfl
@[simp] theorem cfill_cons (tm : Tm) (off sz : Nat) (x : Co) (ps : List (Nat × Nat × Co)) (z : List Value) :
  cfillP tm ((off, sz, x) :: ps) z = if (vcells (cev tm x)).length = sz then (if off + sz ≤ z.length then cfillP tm ps (z.take off ++ (vcells (cev tm x) ++ z.drop (off + sz))) else .no "fill") else .no "fill - size" := by
 show cfillS (cfillP tm ps) off sz (vcells (cev tm x)) z = _
 unfold cfillS
 rw [llen_eq, lput_eq]
 by_cases h1 : (vcells (cev tm x)).length = sz
 ·have e1 : Nat.beq (vcells (cev tm x)).length sz = true := by rw [h1]; exact Nat.beq_refl sz
  rw [e1, h1]
  by_cases h2 : off + sz ≤ z.length <;> simp [h2]
 ·have e1 : Nat.beq (vcells (cev tm x)).length sz = false := by
   cases hb : Nat.beq (vcells (cev tm x)).length sz with
   | false => rfl
   | true => exact absurd (Nat.eq_of_beq_eq_true hb) h1
  rw [e1]
  simp [h1]
@[simp] theorem ne2 (n : Nat) : (n = n + 1 + 1) ↔ False := ⟨fun h => (by omega), False.elim⟩
@[simp] theorem ne3 (n : Nat) : (n = n + 1 + 1 + 1) ↔ False := ⟨fun h => (by omega), False.elim⟩
@[simp] theorem ne4 (n : Nat) : (n = n + 1 + 1 + 1 + 1) ↔ False := ⟨fun h => (by omega), False.elim⟩
@[simp] theorem ne2' (n : Nat) : (n + 1 + 1 = n) ↔ False := ⟨fun h => (by omega), False.elim⟩
@[simp] theorem ne3' (n : Nat) : (n + 1 + 1 + 1 = n) ↔ False := ⟨fun h => (by omega), False.elim⟩
@[simp] theorem ne4' (n : Nat) : (n + 1 + 1 + 1 + 1 = n) ↔ False := ⟨fun h => (by omega), False.elim⟩
@[simp] theorem boolIs_t (b : Bool) : boolIs true (.bool b) = b := rfl
@[simp] theorem boolIs_f (b : Bool) : boolIs false (.bool b) = !b := rfl
@[simp] theorem boolIs_u (b : Bool) : boolIs b undefV = false := rfl
theorem addrEq_self (a : Addr) : addrEq a a = true := by
 obtain ⟨b, o, sp⟩ := a
 unfold addrEq
 cases sp <;> simp
@[simp] theorem sameV_int (k : IntKind) (n : Int) : sameV (.int k n) (.int k n) = true := by
 show (keq k k && ieq n n) = true
 rw [keq_self, ieq_beq]; simp
@[simp] theorem sameV_bool (b : Bool) : sameV (.bool b) (.bool b) = true := by
 show (b == b) = true
 simp
@[simp] theorem sameV_slice (a : Option Addr) (l c : Nat) : sameV (.slice a l c) (.slice a l c) = true := by
 cases a with
 | none => show (Nat.beq l l && Nat.beq c c) = true; simp
 | some a => show (addrEq a a && Nat.beq l l && Nat.beq c c) = true; simp [addrEq_self]
@[simp] theorem sameV_agg (l : List Value) : sameV (.agg ⟨l⟩) (.agg ⟨l⟩) = sameL l l := rfl
@[simp] theorem sameL_nil : sameL [] [] = true := rfl
@[simp] theorem sameL_cons (x y : Value) (l m : List Value) : sameL (x :: l) (y :: m) = (same1 x y && sameL l m) := rfl
@[simp] theorem same1_int (k : IntKind) (n : Int) : same1 (.int k n) (.int k n) = true := sameV_int k n
@[simp] theorem same1_slice (a : Option Addr) (l c : Nat) : same1 (.slice a l c) (.slice a l c) = true := sameV_slice a l c
@[simp] theorem sameR_ok (v w : Value) : sameR v (.ok w) = sameV v w := rfl
@[simp] theorem cagree_0 (tm : Tm) (e : CRd) (v : Value) (hs : List Hp) : cagree P tm e v 0 hs = true := by cases hs <;> rfl
@[simp] theorem cagree_s (tm : Tm) (e : CRd) (v : Value) (n : Nat) (h : Hp) (hs : List Hp) : cagree P tm e v (n + 1) (h :: hs) = (sameR v (cred P tm h e) && cagree P tm e v n hs) := by
 show (bif sameR v (cred P tm h e) then cagree P tm e v n hs else false) = _
 cases sameR v (cred P tm h e) <;> rfl
@[simp] theorem cagree_1 (tm : Tm) (e : CRd) (v : Value) (h : Hp) (hs : List Hp) : cagree P tm e v 1 (h :: hs) = sameR v (cred P tm h e) := by
 rw [show (1 : Nat) = 0 + 1 from rfl, cagree_s]; simp
@[simp] theorem cagree_2 (tm : Tm) (e : CRd) (v : Value) (h h2 : Hp) (hs : List Hp) : cagree P tm e v 2 (h :: h2 :: hs) = (sameR v (cred P tm h e) && sameR v (cred P tm h2 e)) := by
 rw [show (2 : Nat) = 1 + 1 from rfl, cagree_s, cagree_1]
theorem load_flat' {α : Type} {enc : α → List Value} {k : Nat} (hk : ∀ x, (enc x).length = k) {M : List α} {j : Nat} {x : α} (hx : M[j]? = some x) : loadC (some k) (j * k) (flat enc M) = .ok (.agg ⟨enc x⟩) := by
 have := load_flat hk hx
 rwa [Nat.zero_add] at this
theorem cell_get {α : Type} {enc : α → List Value} {k : Nat} (hk : ∀ x, (enc x).length = k) {l : List α} {i j : Nat} {x : α} {v : Value} (hx : l[i]? = some x) (hj : (enc x)[j]? = some v) : (flat enc l)[i * k + j]? = some v := by
 rw [flat_cell hk hx (by have := (List.getElem?_eq_some_iff.1 hj).1; rw [hk] at this; exact this), hj]
end
def encIz (x : Int) : List Value := [.int .i64 x]
def ints (l : List Int) : List Value := l.map (fun x => Value.int .i64 x)
theorem flat_ints : ∀ l : List Int, flat encIz l = ints l
 | [] => rfl
 | x :: l => by show encIz x ++ flat encIz l = _; rw [flat_ints l]; rfl
theorem ints_len (l : List Int) : (ints l).length = l.length := by simp [ints]
theorem ints_set (l : List Int) (i : Nat) (x : Int) : (ints l).set i (.int .i64 x) = ints (l.set i x) := by simp [ints, List.map_set]
section
variable {P : Program} {orc : Orc} {s : Bool}
end
open Go Go.Proofs Go.Sort Go.Shelf
set_option linter.unusedSectionVars false
section
variable {P : Program}
@[simp] theorem bin_mul (t : TypeId) (k : IntKind) (a b : Int) : bin P .mul t (.int k a) (.int k b) = .ok (.int k (k.wrap (a * b))) := by rw [bin_i _ _ _ _ _ rfl, ← fwrap_eq]; rfl
theorem bin_quo {t : TypeId} {k : IntKind} {a b : Int} (hb : b ≠ 0) : bin P .quo t (.int k a) (.int k b) = .ok (.int k (k.wrap (a.tdiv b))) := by
 rw [bin_i _ _ _ _ _ rfl]
 show iDiv .quo k a b = _
 unfold iDiv
 rw [ieq_beq, show (b == 0) = false by simp [hb], ← fwrap_eq]
 rfl
end
section
variable {P : Program} {α : Type} [Inhabited α] {enc : α → List Value} {k : Nat}
open Classical in
end
section
variable {P : Program} {orc : Orc}
end
section
variable {P : Program}
end
section
variable {P : Program}
def gFix (P : Program) (N : Nat) (f : FuncId) (args : List Value) (h : Hp) (nx : Nat) : CR := ccallA P orc0 (cexA P orc0 N) f args h nx
open Classical in
noncomputable def gRun (P : Program) (f : FuncId) (args : List Value) (h : Hp) (nx : Nat) : CR :=
 if H : ∃ r : Value × Hp × Nat, ∃ N, ccallA P orc0 (cexA P orc0 N) f args h nx = .ok r.1 r.2.1 r.2.2 then .ok H.choose.1 H.choose.2.1 H.choose.2.2 else .no "run"
theorem gFix_ok (hP : POk P) {N : Nat} {f : FuncId} : OrcAt P f (gFix P N f) := fun args h nx K hs => callA_ok hP orc0_ok N f args h nx K ((ccall_ok (P := P) (orc := orc0) N f args h nx).sat hs)
theorem gRun_ok (hP : POk P) {f : FuncId} : OrcAt P f (gRun P f) := fun args h nx K hs => by
 unfold gRun at hs
 split at hs
 ·rename_i H
  obtain ⟨N, e⟩ := H.choose_spec
  refine gFix_ok hP (N := N) args h nx K ?_
  show crSat (ccallA P orc0 (cexA P orc0 N) f args h nx) K
  rw [e]; exact hs
 ·exact hs.elim
theorem gRun_val {f : FuncId} {args : List Value} {h : Hp} {nx : Nat} {K : KC'} (hc : Cv P orc0 true f args h nx K) : ∃ v h' nx', gRun P f args h nx = .ok v h' nx' ∧ K v h' nx' := by
 obtain ⟨N, hs, hok⟩ := hc
 obtain ⟨v, h', nx', e⟩ := hok rfl
 have H : ∃ r : Value × Hp × Nat, ∃ N, ccallA P orc0 (cexA P orc0 N) f args h nx = .ok r.1 r.2.1 r.2.2 := ⟨(v, h', nx'), N, e⟩
 rw [e] at hs
 have he : H.choose = (v, h', nx') := by
  obtain ⟨M, eM⟩ := H.choose_spec
  have h1 := ccallA_mono (P := P) (orc := orc0) (cexA_mono (P := P) (orc := orc0) (Nat.le_max_left N M)) f args h nx
  have h2 := ccallA_mono (P := P) (orc := orc0) (cexA_mono (P := P) (orc := orc0) (Nat.le_max_right N M)) f args h nx
  rw [e] at h1
  rw [eM] at h2
  have h1 := h1.ok_eq
  have h2 := h2.ok_eq
  rw [h1] at h2
  cases h2
  rfl
 refine ⟨v, h', nx', ?_, hs⟩
 have : gRun P f args h nx = .ok H.choose.1 H.choose.2.1 H.choose.2.2 := by unfold gRun; exact dif_pos H
 rw [this, he]
end
end Go.Ax
