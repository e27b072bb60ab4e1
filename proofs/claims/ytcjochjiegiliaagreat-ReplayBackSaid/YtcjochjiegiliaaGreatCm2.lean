/- Parts of the proof: Cm2: each statement bears its own conditions. -/
import Derived.Test.YtcjochjiegiliaaGreatCm1
namespace Go.Ax
open Go
set_option linter.unusedSimpArgs false
set_option linter.unusedVariables false
section
variable {P : Program} {ρ : Rho} {B : Nat}
theorem smallT_spec {e : TypeId} {i : TypeInfo} (hi : P.info? e = some i) (h : smallT P e = true) : i.bytes ≤ 1000000 := by
 unfold smallT at h
 rw [hi] at h
 exact Nat.le_of_ble_eq_true h
theorem wrap_small {n : Nat} (h : n ≤ 1000000) : IntKind.i64.wrap (n : Int) = (n : Int) := by
 rw [← fwrap_eq]
 show fwrapP .i64 n = (n : Int)
 unfold fwrapP limU
 have : Nat.blt n 9223372036854775808 = true := by rw [Nat.blt_eq]; omega
 rw [this]; rfl
theorem append_end {h : Hp} {w : World} (hr : Rel B ρ (hget h) w) {nx : Nat} (hn : ρ nx = none) {s len cap n : Nat} {a : Option Addr} {cx cy : Value} (hx : VR ρ (.slice a len cap) cx)
  {new : List Value} (hlen : new.length = n * s) {z : Value} {e t : TypeId} {i : TypeInfo} (hi : P.info? e = some i) (hzz : i.zero = some z) (hzl : z.cells.toList.length = s) (hsz : szOf P e = some s) (hsm : i.bytes ≤ 1000000) (hcz : constV z = true)
  {r : OR} (hk : appGo s h nx a len cap n new = .ok r) {ts : Array TypeId} (hts : ts[0]? = some t) (hu : P.underlying t = some (.slice e)) (ty : TypeId)
  (hcase : (∃ t1 q k, ts[1]? = some t1 ∧ P.underlying t1 = some (.int q) ∧ cy = .int k (.ofNat n) ∧ n ≤ 1000000 ∧ new = repL n z.cells.toList) ∨
   ((ts[1]? = none ∨ ∃ t1 d, ts[1]? = some t1 ∧ P.underlying t1 = some d ∧ ∀ q, d ≠ .int q) ∧ (∀ w, (Builtin.lenOf cy).run P w = .ok n w) ∧
    ∀ d, ∃ new', VRL ρ new new' ∧ (Builtin.firstCells s n cy).run P { w with drawn := d } = .ok new'.toArray { w with drawn := d })) :
  Stp P B ρ (hget h) w nx r (do pure (.value (← Builtin.append_ ts ty #[cx, cy]))) := by
 obtain ⟨a', c', rfl, hspec⟩ := appGo_spec (P := P) hr hn hx hlen hzl e hk
 have hbz : ¬ ((n : Int) * (i.bytes : Int) > 2 ^ 48) ∨ 1000000 < n := by
  rcases Nat.lt_or_ge 1000000 n with h | h
  ·exact .inr h
  ·left
   have : n * i.bytes ≤ 1000000 * 1000000 := Nat.mul_le_mul h hsm
   have h2 : ((n * i.bytes : Nat) : Int) ≤ ((1000000 * 1000000 : Nat) : Int) := Int.ofNat_le.2 this
   rw [Int.natCast_mul] at h2
   omega
 have hneg : ¬ ((n : Int) < 0) := by omega
 have haint : ∀ (k : IntKind) (w : World), (asInt (Value.int k (n : Int))).run P w = .ok (n : Int) w := fun _ _ => rfl
 have hdrew : w.drew = { w with drawn := w.drawn + 1 } := rfl
 have hzrun := fun w => zero_run hi hzz w
 rcases hspec with ⟨hle, hin⟩ | ⟨hlt, hneed, hgr⟩
 ·rcases hcase with ⟨t1, q, k, ht1, hu1, rfl, hnb, rfl⟩ | ⟨hnt, hln, hall⟩
  ·obtain ⟨v, h', nx', ρ', w', hleaf, hv, hmv, hst⟩ := hin _ (repL_vr (constV_cells hcz ρ) n)
   refine ⟨v, h', nx', ρ', _, w', hleaf, hv, hmv, .inl ?_⟩
   have hbz' : ¬ (281474976710656 < (n : Int) * (i.bytes : Int)) := by
    rcases hbz with h | h
    ·simpa using h
    ·omega
   have hwr : IntKind.i64.wrap (n : Int) = (n : Int) := wrap_small (by omega)
   by_cases hns : n * s = 0
   ·have hnil : repL n z.cells.toList = [] := List.eq_nil_of_length_eq_zero (by rw [hlen]; exact hns)
    rw [hnil] at hst
    cases a' with
    | none => simp [Builtin.append_, hts, run_underlying hu, szOf_run hsz, ht1, run_underlying hu1, hle, haint, hneg, hwr, run_typeInfo hi, hbz', hns] at hst ⊢; exact hst.symm
    | some x => simp [Builtin.append_, hts, run_underlying hu, szOf_run hsz, ht1, run_underlying hu1, hle, haint, hneg, hwr, run_typeInfo hi, hbz', hns] at hst ⊢; simp [hst]
   ·cases a' with
    | none => simp [Builtin.append_, hts, run_underlying hu, szOf_run hsz, ht1, run_underlying hu1, hle, haint, hneg, hwr, run_typeInfo hi, hbz', hns, hzrun, zeroCells_eq] at hst ⊢; exact hst.symm
    | some x => simp [Builtin.append_, hts, run_underlying hu, szOf_run hsz, ht1, run_underlying hu1, hle, haint, hneg, hwr, run_typeInfo hi, hbz', hns, hzrun, zeroCells_eq] at hst ⊢; simp [hst]
  ·obtain ⟨new', hnew, hrun⟩ := hall w.drawn
   have hrun : (Builtin.firstCells s n cy).run P w = .ok new'.toArray w := hrun
   obtain ⟨v, h', nx', ρ', w', hleaf, hv, hmv, hst⟩ := hin new' hnew
   refine ⟨v, h', nx', ρ', _, w', hleaf, hv, hmv, .inl ?_⟩
   rcases hnt with hnt | ⟨t1, d, ht1, hu1, hd⟩
   ·cases a' with
    | none => simp [Builtin.append_, hts, run_underlying hu, szOf_run hsz, hnt, hln, hle, hrun] at hst ⊢; exact hst.symm
    | some x => simp [Builtin.append_, hts, run_underlying hu, szOf_run hsz, hnt, hln, hle, hrun] at hst ⊢; simp [hst]
   ·cases a' with
    | none => simp [Builtin.append_, hts, run_underlying hu, szOf_run hsz, ht1, run_underlying hu1, hln, hle, hrun] at hst ⊢; exact hst.symm
    | some x => simp [Builtin.append_, hts, run_underlying hu, szOf_run hsz, ht1, run_underlying hu1, hln, hle, hrun] at hst ⊢; simp [hst]
 ·have hng : ¬ (len + n ≤ c') := by omega
  have hbig : ¬ (9223372036854775807 < (len : Int) + (n : Int)) := by omega
  have hns2 : ¬ (281474976710656 < Builtin.nextslicecap (len + n) c' * i.bytes) := by
   have := Nat.mul_le_mul (nextslicecap_le hneed hlt) hsm
   omega
  have hfor : (Question.appendCap (len + n) c' e).forced = false := rfl
  generalize hcap : (Question.appendCap (len + n) c' e).cut (w.tape w.drawn (Question.appendCap (len + n) c' e)) = newCap
  have hnc : len + n ≤ newCap := by
   rw [← hcap]
   exact Nat.le_add_right _ _
  obtain ⟨old', hold, hrest⟩ := hgr (w.drawn + 1) newCap (Nat.le_succ _) hnc
  rw [← hdrew] at hold
  rcases hcase with ⟨t1, q, k, ht1, hu1, rfl, hnb, rfl⟩ | ⟨hnt, hln, hall⟩
  ·obtain ⟨v, h', nx', ρ', hleaf, hv, hmv⟩ := hrest _ (repL_vr (constV_cells hcz ρ) n)
   refine ⟨v, h', nx', ρ', _, _, hleaf, hv, hmv, .inl ?_⟩
   have hbz' : ¬ (281474976710656 < (n : Int) * (i.bytes : Int)) := by
    rcases hbz with h | h
    ·simpa using h
    ·omega
   have hwr : IntKind.i64.wrap (n : Int) = (n : Int) := wrap_small (by omega)
   by_cases hns : n * s = 0
   ·have hnil : repL n z.cells.toList = [] := List.eq_nil_of_length_eq_zero (by rw [hlen]; exact hns)
    simp [Builtin.append_, hts, run_underlying hu, szOf_run hsz, ht1, run_underlying hu1, hng, hbig, haint, hneg, hwr, run_typeInfo hi, hbz', hns, hns2, hfor, hcap, hold, hzrun, newRow, newObj_run, zeroCells_eq, hnil]
    rfl
   ·simp [Builtin.append_, hts, run_underlying hu, szOf_run hsz, ht1, run_underlying hu1, hng, hbig, haint, hneg, hwr, run_typeInfo hi, hbz', hns, hns2, hfor, hcap, hold, hzrun, newRow, newObj_run, zeroCells_eq]
    rfl
  ·obtain ⟨new', hnew, hrun⟩ := hall (w.drawn + 1)
   rw [← hdrew] at hrun
   obtain ⟨v, h', nx', ρ', hleaf, hv, hmv⟩ := hrest new' hnew
   refine ⟨v, h', nx', ρ', _, _, hleaf, hv, hmv, .inl ?_⟩
   rcases hnt with hnt | ⟨t1, d, ht1, hu1, hd⟩
   ·simp [Builtin.append_, hts, run_underlying hu, szOf_run hsz, hnt, hln, hng, hbig, run_typeInfo hi, hns2, hfor, hcap, hold, hrun, hzrun, newRow, newObj_run, zeroCells_eq]
    rfl
   ·simp [Builtin.append_, hts, run_underlying hu, szOf_run hsz, ht1, run_underlying hu1, hln, hng, hbig, run_typeInfo hi, hns2, hfor, hcap, hold, hrun, hzrun, newRow, newObj_run, zeroCells_eq]
    rfl
end
def Fr (ρ : Rho) (nx : Nat) : Prop := ∀ b, nx ≤ b → ρ b = none
theorem Fr.here {ρ : Rho} {nx : Nat} (h : Fr ρ nx) : ρ nx = none := h nx (Nat.le_refl _)
theorem Fr.sub {B : Nat} {ρ ρ' : Rho} {H H' : AH} {w w' : World} {lo hi : Nat} (h : Fr ρ lo) (s : Mv B ρ H w lo hi ρ' H' w') : Sub ρ ρ' := fun b p hb => by
 by_cases h1 : b < lo
 ·rw [s.agree b (.inl h1)]; exact hb
 ·rw [h b (by omega)] at hb; cases hb
theorem Fr.after {B : Nat} {ρ ρ' : Rho} {H H' : AH} {w w' : World} {lo hi : Nat} (h : Fr ρ lo) (s : Mv B ρ H w lo hi ρ' H' w') : Fr ρ' hi := fun b hb => by
 rw [s.agree b (.inr hb)]; exact h b (Nat.le_trans s.le hb)
def Fin (B : Nat) (ρ : Rho) (h : Hp) (w : World) (nx : Nat) (K : Value → Hp → Nat → Prop) (e : Ending) (w' : World) : Prop :=
 ∃ v h' nx' ρ' c, e = .returned c ∧ K v h' nx' ∧ VR ρ' v c ∧ Mv B ρ (hget h) w nx nx' ρ' (hget h') w'
def Callable (P : Program) (f : FuncId) : Prop := ∃ fn, P.funcs[f]? = some fn ∧ fn.body.isSome = true ∧ (fn.name == "runtime.NumGoroutine") = false
def CallOk (P : Program) (call : FuncId → List Value → Hp → Nat → CR) : Prop := ∀ (f : FuncId) (args : List Value) (h : Hp) (nx : Nat) (K : Value → Hp → Nat → Prop), crSat (call f args h nx) K →
 Callable P f ∧ ∀ (B : Nat) (ρ : Rho) (w : World) (args' : List Value), Rel B ρ (hget h) w → Fr ρ nx → VRL ρ args args' → ∀ n, CallsIn Fence.wide n P f ⟨args'⟩ w (Fin B ρ h w nx K)
def RoundOk (P : Program) (round : Nat → List Value → Hp → Nat → CR) : Prop := ∀ (l : Nat) (args : List Value) (h : Hp) (nx : Nat) (K : Value → Hp → Nat → Prop), crSat (round l args h nx) K →
 ∀ (B : Nat) (ρ : Rho) (w : World) (args' : List Value) (p : Place), Rel B ρ (hget h) w → Fr ρ nx → VRL ρ args args' → ρ l = some p →
  ∃ lp : Loop, w.heap[p.blk]? = some (.loop lp) ∧ args'.length = lp.params.size ∧ ∀ n, RoundIn Fence.wide n P p.blk lp.fn ((lp.params.zip ⟨args'⟩).foldl (fun tmps (t, a) => tmps.setIfInBounds t a) lp.tmps) lp.assign lp.body w (Fin B ρ h w nx K)
def FW (r : Option Nat) : Fence := { Fence.wide with round := r }
theorem FW_calls (r : Option Nat) (n : Nat) (P : Program) : CallsIn (FW r) n P = CallsIn Fence.wide n P := rfl
theorem FW_round (r : Option Nat) (n : Nat) (P : Program) : RoundIn (FW r) n P = RoundIn Fence.wide n P := rfl
section
variable {P : Program} {ρ : Rho} {B : Nat}
def NextOk (B : Nat) (ρ : Rho) (h : Hp) (w : World) (nx : Nat) (K : Value → Hp → Nat → Prop) (dst : Option Tmp) (a : Act) (next : Act → World → Prop) : Prop :=
 ∀ v h' nx' ρ' c w', K v h' nx' → VR ρ' v c → Mv B ρ (hget h) w nx nx' ρ' (hget h') w' → next (a.put dst c) w'
theorem Stp.upon {h : Hp} {w : World} {nx : Nat} {call : FuncId → List Value → Hp → Nat → CR} {round : Nat → List Value → Hp → Nat → CR} {r : OR} {K : Value → Hp → Nat → Prop} {s : Sem Next} {o : Oper} {a : Act} {n : Nat} {F : Fence} {next : Act → World → Prop} {Q : Exit → Act → World → Prop}
  (hst : Stp P B ρ (hget h) w nx r s) (hs : orSat call round r K) (hn : NextOk B ρ h w nx K o.dst a next) : o.uponIn F n P a next Q (s.run P w) := by
 obtain ⟨v, h', nx', ρ', c, w', hl, hv, hm, hrun | ⟨hrun, rfl⟩⟩ := hst
 ·rw [hrun]; exact hn v h' nx' ρ' c w' (hl.sat hs) hv hm
 ·rw [hrun]; exact hn v h' nx' ρ' undef w' (hl.sat hs) hv hm
theorem orB_sat {α : Type} {call : FuncId → List Value → Hp → Nat → CR} {round : Nat → List Value → Hp → Nat → CR} {r : R α} {f : α → OR} {K : Value → Hp → Nat → Prop} (h : orSat call round (orB r f) K) : ∃ x, r = .ok x ∧ orSat call round (f x) K := by
 cases r with
 | ok x => exact ⟨x, rfl, h⟩
 | no w => exact h.elim
theorem orR_sat {call : FuncId → List Value → Hp → Nat → CR} {round : Nat → List Value → Hp → Nat → CR} {r : R OR} {K : Value → Hp → Nat → Prop} (h : orSat call round (orR r) K) : ∃ x, r = .ok x ∧ orSat call round x K := by
 cases r with
 | ok x => exact ⟨x, rfl, h⟩
 | no w => exact h.elim
theorem uOf_sat {call : FuncId → List Value → Hp → Nat → CR} {round : Nat → List Value → Hp → Nat → CR} {nx : Nat} {r : R Hp} {K : Value → Hp → Nat → Prop} (h : orSat call round (uOf nx r) K) : ∃ x, r = .ok x ∧ K undefV x nx := by
 cases r with
 | ok x => exact ⟨x, rfl, h⟩
 | no w => exact h.elim
theorem freeze_run {w : World} {g n e : Nat} {c : Array Value} {lo hi : Nat} (h : w.heap[g]? = some (.cells c e (lo, hi))) (hfr : lo = hi ∨ c.size ≤ lo) :
  ∃ w' lo' hi', (markStringish ⟨g, n, none⟩).run P w = .ok () w' ∧ Wrote w w' g c e (lo', hi') ∧ (lo' = hi' ∨ c.size ≤ lo') := by
 have hsh : w.shape? g = some (e, c.size) := by simp [World.shape?, h]
 by_cases hlh : lo = hi
 ·refine ⟨w.freeze ⟨g, c.size, none⟩ 1, c.size, c.size + 1, ?_, ⟨?_, ?_, ?_, rfl, .here, rfl⟩, .inr (Nat.le_refl _)⟩
  ·simp [markStringish, shape, freeze, Sem.run, hsh]
  ·simp [World.freeze, Array.getElem?_modify, h, hlh]
  ·simp [World.freeze]
  ·intro k hk
   simp [World.freeze, Array.getElem?_modify, Ne.symm hk]
 ·have hle : c.size ≤ lo := by omega
  refine ⟨w.freeze ⟨g, c.size, none⟩ 1, min lo c.size, max hi (c.size + 1), ?_, ⟨?_, ?_, ?_, rfl, .here, rfl⟩, .inr (by omega)⟩
  ·simp [markStringish, shape, freeze, Sem.run, hsh]
  ·simp [World.freeze, Array.getElem?_modify, h, hlh]
  ·simp [World.freeze]
  ·intro k hk
   simp [World.freeze, Array.getElem?_modify, Ne.symm hk]
theorem oMark_run {h : Hp} {w : World} (hr : Rel B ρ (hget h) w) (nx : Nat) {s d : TypeId} {v c : Value} (hok : okOR (oMark P h nx s d v)) (hv : VR ρ v c) :
  Stp P B ρ (hget h) w nx (oMark P h nx s d v) (do pure (.value (← convert s d c))) := by
 unfold oMark at *
 split at hok
 ·rename_i a l cp
  cases hcond : (isBytes P s && Nat.beq s d && !isZ (some a)) with
  | false => rw [hcond] at hok; exact hok.elim
  | true =>
   rw [hcond] at hok
   simp only [cond_true] at hok ⊢
   simp only [Bool.and_eq_true] at hcond
   obtain ⟨e, hu, hue⟩ := isBytes_spec hcond.1.1
   have hsd : s = d := Nat.eq_of_beq_eq_true hcond.1.2
   subst hsd
   cases hcl : cellsOf h a.block (fun _ ro => bif ro then R.no "convert" else R.ok (OR.val (.slice (some a) l cp) h nx)) with
   | no _ => rw [hcl] at hok; exact hok.elim
   | ok r =>
    obtain ⟨cs, ro, hc, hro⟩ := cellsOf_ok hcl
    obtain ⟨hro0, h2⟩ := cond_ok' hro
    cases h2
    subst hro0
    obtain ⟨a', c', rfl, hcase⟩ := hv.slice_inv
    rcases hcase with ⟨h1, _⟩ | ⟨b0, o0, sp, p, h1, hb, rfl, _⟩ | ⟨b0, o0, g, o', h1, hl0, _, rfl⟩
    ·cases h1
    ·cases h1
     obtain ⟨hB, hoff, cc, e', lo, hi, hw, hfr, hcells, hcsz⟩ := hr.obj _ p _ hb hc
     obtain ⟨w', lo', hi', hrun, hwr, hfr'⟩ := freeze_run (P := P) (n := p.off + o0) hw hfr
     refine ⟨_, h, nx, ρ, _, w', .val _ _ _, hv, ?_, .inl ?_⟩
     ·have : hget h = AH.put (hget h) b0 (.cells cs false) := by
       funext k
       by_cases e : k = b0
       ·subst e; simp [AH.put]; exact hc
       ·simp [AH.put, e]
      have hm := Mv.change nx hr hb hc hB hwr.size hwr.frame hwr.os hwr.tape hwr.output (o' := .cells cs false) ⟨hB, hoff, cc, e', lo', hi', hwr.heap, hfr', hcells, hcsz⟩
      rw [← this] at hm
      exact hm
     ·simp [convert, run_underlying hu, run_underlying hue, hrun]
    ·cases h1
     have := hcond.2
     simp [isZ] at this
 ·exact hok.elim
theorem arg2_ok {l : List Value} {k : Value → Value → R OR} {r : OR} (h : arg2 l k = .ok r) : ∃ x y, l = [x, y] ∧ k x y = .ok r := by
 unfold arg2 at h
 split at h
 ·exact ⟨_, _, rfl, h⟩
 ·cases h
theorem builtin_upon {h : Hp} {w : World} (hr : Rel B ρ (hget h) w) {nx : Nat} (hf : Fr ρ nx) {b : Builtin} {ts : Array TypeId} {vs cs : List Value} {r : OR} (hb : builtinA P b ts.toList h nx vs = .ok r) (hv : VRL ρ vs cs) (ty : TypeId) (consts : Array Bool) :
  Stp P B ρ (hget h) w nx r (invoke (.builtin b ts ty consts) ⟨cs⟩) := by
 unfold builtinA at hb
 split at hb
 ·obtain ⟨t, ht, hb⟩ := R.of_ok hb
  obtain ⟨e, he, hb⟩ := R.of_ok hb
  obtain ⟨s, hs, hb⟩ := R.of_ok hb
  obtain ⟨zl, hz, hb⟩ := R.of_ok hb
  obtain ⟨hc, hb⟩ := cond_ok hb
  simp only [Bool.and_eq_true] at hc
  rw [lget_eq] at ht
  have ht : ts[0]? = some t := by simpa using ht
  have hu := elemOfS_spec he
  obtain ⟨i, z, hi, hzz, hcz, rfl⟩ := zeroOf_spec hz
  have hzl : z.cells.toList.length = s := by rw [← llen_eq]; exact Nat.eq_of_beq_eq_true hc.1
  have hsm := smallT_spec hi hc.2
  obtain ⟨x, y, rfl, hb⟩ := arg2_ok hb
  ·match hv with
   | .cons (y := cx) hx (.cons (y := cy) hy .nil) =>
    unfold append2 at hb
    cases hint : isIntT P (lget ts.toList 1) with
    | true =>
     rw [hint] at hb
     have hb : appendZ z.cells.toList s h nx x y = .ok r := hb
     unfold appendZ at hb
     split at hb
     ·obtain ⟨q, n, rfl, hb⟩ := natR_ok hb
      obtain ⟨hn, hb⟩ := cond_ok hb
      cases hy
      unfold isIntT at hint
      split at hint
      ·rename_i t1 ht1
       split at hint
       ·rename_i q1 hu1
        rw [lget_eq] at ht1
        exact append_end hr hf.here hx (by rw [repL_length, hzl]) hi hzz hzl hs hsm hcz hb ht hu ty (.inl ⟨t1, q1, q, by simpa using ht1, hu1, rfl, Nat.le_of_ble_eq_true hn, rfl⟩)
       ·cases hint
      ·cases hint
     ·cases hb
    | false =>
     rw [hint] at hb
     obtain ⟨hkn, hb⟩ := cond_ok (x := appendA s h nx x y) hb
     unfold appendA at hb
     split at hb
     ·split at hb
      ·obtain ⟨new, hk, hlen, hall⟩ := firstCells_run (P := P) hr hy (Nat.le_refl _) hb
       obtain ⟨b', c'', rfl, _⟩ := hy.slice_inv
       refine append_end hr hf.here hx hlen hi hzz hzl hs hsm hcz hk ht hu ty (.inr ⟨?_, fun _ => rfl, hall⟩)
       unfold isIntT at hint
       unfold knownT at hkn
       rw [lget_eq] at hint hkn
       have hg : ts.toList[1]? = ts[1]? := by simp
       rw [hg] at hint hkn
       cases ht1 : ts[1]? with
       | none => exact .inl rfl
       | some t1 =>
        rw [ht1] at hint hkn
        obtain ⟨d, hd⟩ := Option.isSome_iff_exists.1 hkn
        refine .inr ⟨t1, d, rfl, hd, fun q hq => ?_⟩
        subst hq
        simp [hd] at hint
      ·cases hb
     ·cases hb
 ·obtain ⟨t, ht, hb⟩ := R.of_ok hb
  rw [lget_eq] at ht
  have ht : ts[0]? = some t := by simpa using ht
  unfold arg2 at hb
  split at hb
  ·match hv with
   | .cons (y := cx) hx (.cons (y := cy) hy .nil) => exact deleteA_run hr nx ht hb hx hy ty
  ·cases hb
 ·obtain ⟨t, ht, hb⟩ := R.of_ok hb
  obtain ⟨hty, hb⟩ := cond_ok hb
  rw [lget_eq] at ht
  have ht : ts[0]? = some t := by simpa using ht
  unfold arg0 at hb
  split at hb
  ·match hv with
   | .cons (y := cx) hx .nil => exact clearA_run hr nx ht (by simpa using hty) hb hx ty
  ·cases hb
 ·obtain ⟨t, ht, hb⟩ := R.of_ok hb
  obtain ⟨s, hs, hb⟩ := R.of_ok hb
  rw [lget_eq] at ht
  have ht : ts[0]? = some t := by simpa using ht
  unfold arg2 at hb
  split at hb
  ·match hv with
   | .cons (y := cx) hx (.cons (y := cy) hy .nil) => exact copyA_run hr nx ht hs hb hx hy ty
  ·cases hb
 ·cases hb
end
section
variable {P : Program} {ρ : Rho} {B : Nat}
theorem VRL.app {a a' b b' : List Value} (h : VRL ρ a a') (k : VRL ρ b b') : VRL ρ (lapp a b) (a' ++ b') := by rw [lapp_eq]; exact h.append k
theorem callV_upon {h : Hp} {w : World} (hr : Rel B ρ (hget h) w) {nx : Nat} (hf : Fr ρ nx) {call : FuncId → List Value → Hp → Nat → CR} {round : Nat → List Value → Hp → Nat → CR} (hc : CallOk P call) (hro : RoundOk P round)
  {vs cs : List Value} {f cf : Value} {K : Value → Hp → Nat → Prop} (hs : orSat call round (callV h nx vs f) K) (hvs : VRL ρ vs cs) (hv : VR ρ f cf) {o : Oper} {a : Act} {n : Nat} {r : Option Nat} {next : Act → World → Prop} {Q : Exit → Act → World → Prop}
  (hn : NextOk B ρ h w nx K o.dst a next) :
  o.uponIn (FW r) n P a next Q ((do let d ← Deferred.ofValue cf ⟨cs⟩; invoke d.target d.args : Sem Next).run P w) := by
 unfold callV at hs
 split at hs
 ·rename_i fn x y
  split at hs
  ·cases hv with
   | func f hx hy =>
    rename_i fx x' y' bx by'
    obtain ⟨⟨fn, h1, h2, h3⟩, hcall⟩ := hc _ _ _ _ _ hs
    have hargs := hcall B ρ w _ hr hf (hx.app (hvs.app hy)) (n - 1)
    have hrun : ((do let d ← Deferred.ofValue (.func (.func fx) ⟨y'⟩ ⟨by'⟩) ⟨cs⟩; invoke d.target d.args : Sem Next)).run P w = .ok (.enter fx ⟨y' ++ (cs ++ by')⟩) w := by
     have hb : fn.body ≠ none := by
      intro hbb; rw [hbb] at h2; cases h2
     have h3' : fn.name ≠ "runtime.NumGoroutine" := by simpa using h3
     simp [Deferred.ofValue, invoke, callFunc, h1, h3', hb]
    rw [hrun]
    refine ⟨fun h => by simp [FW, Fence.wide] at h, ?_⟩
    rw [FW_calls]
    refine hargs.mono fun e w' he => ?_
    obtain ⟨v, h', nx', ρ', c, rfl, hk, hvc, hm⟩ := he
    exact hn v h' nx' ρ' c w' hk hvc hm
  ·cases hv with
   | yield hl =>
    rename_i l p
    have hvs' : VRL ρ (lapp (#[] : Array Value).toList vs) cs := by rw [lapp_eq]; simpa using hvs
    obtain ⟨lp, h1, h2, h3⟩ := hro _ _ _ _ _ hs B ρ w cs p hr hf hvs' hl
    have hgo := getObj_run (P := P) h1 (by intro _ _ _ h; cases h)
    have hrun : ((do let d ← Deferred.ofValue (.func (.yield p.blk) #[] #[]) ⟨cs⟩; invoke d.target d.args : Sem Next)).run P w = .ok (.round p.blk lp.fn ((lp.params.zip ⟨cs⟩).foldl (fun tmps (t, a) => tmps.setIfInBounds t a) lp.tmps) lp.assign lp.body) w := by
     simp [Deferred.ofValue, invoke, Instr.yield, Instr.getLoop, hgo, h2]
    rw [hrun]
    refine ⟨fun h => by simp [FW, Fence.wide] at h, ?_⟩
    rw [FW_round]
    refine (h3 (n - 1)).mono fun e w' he => ?_
    obtain ⟨v, h', nx', ρ', c, rfl, hk, hvc, hm⟩ := he
    exact hn v h' nx' ρ' c w' hk hvc hm
  ·exact hs.elim
 ·exact hs.elim
theorem orO_sat {α : Type} {call : FuncId → List Value → Hp → Nat → CR} {round : Nat → List Value → Hp → Nat → CR} {w : String} {r : Option α} {f : α → OR} {K : Value → Hp → Nat → Prop} (h : orSat call round (orO w r f) K) : ∃ x, r = some x ∧ orSat call round (f x) K := by
 cases r with
 | some x => exact ⟨x, rfl, h⟩
 | none => exact h.elim
theorem methodOf_spec {t : TypeId} {m : String} {fp : FuncId × Bool} (h : methodOf P t m = some fp) : ∃ i x, P.info? t = some i ∧ i.methods.find? (fun x => x.name == m) = some x ∧ x.path = #[] ∧ x.func = some fp := by
 unfold methodOf at h
 split at h
 ·rename_i i hi
  split at h
  ·rename_i x hx
   split at h
   ·rename_i hp
    exact ⟨i, x, hi, hx, hp, h⟩
   ·cases h
  ·cases h
 ·cases h
theorem wrapnil (ts : Array TypeId) (t : TypeId) (a : Addr) (x y : String) : Builtin.ssaWrapNilChk_ ts t #[.pointer (some a), strVal x, strVal y] = pure (.pointer (some a)) := rfl
theorem recvA_run {h : Hp} {w : World} (hr : Rel B ρ (hget h) w) {t : TypeId} {pr : Bool} {y y' v : Value} (he : recvA P h t pr y = .ok v) (hy : VR ρ y y') :
  ∃ c, (∀ nm : String, (receiverAt t (.val y') pr (some nm)).run P w = .ok c w) ∧ VR ρ v c := by
 unfold recvA at he
 split at he
 ·rename_i e hu
  cases pr with
  | true => cases he; exact ⟨y', fun nm => by simp [receiverAt, run_underlying hu, Place.get], hy⟩
  | false =>
   obtain ⟨ad, rfl, h3⟩ := addrR_ok he
   obtain ⟨p, hsp, hp, rfl⟩ := hy.ptr_inv'
   obtain ⟨bk, of, sp⟩ := ad
   simp only at hsp hp
   subst hsp
   obtain ⟨c, h4, h5⟩ := loadA_run hr hp h3
   refine ⟨c, fun nm => ?_, h5⟩
   simp [receiverAt, run_underlying hu, Place.get, wrapnil, asAddr, h4]
 ·rename_i d hn hu
  cases pr with
  | true => cases he
  | false =>
   cases he
   refine ⟨y', fun nm => ?_, hy⟩
   cases d <;> first | (exact (hn _ rfl).elim) | simp [receiverAt, run_underlying hu, Place.get]
 ·cases he
theorem invoke_upon {h : Hp} {w : World} (hr : Rel B ρ (hget h) w) {nx : Nat} (hf : Fr ρ nx) {call : FuncId → List Value → Hp → Nat → CR} {round : Nat → List Value → Hp → Nat → CR} (hc : CallOk P call)
  {vs cs : List Value} {m : String} {v cv : Value} {K : Value → Hp → Nat → Prop} (hs : orSat call round (oInvoke P h nx vs m v) K) (hvs : VRL ρ vs cs) (hv : VR ρ v cv) {o : Oper} {a : Act} {n : Nat} {r : Option Nat} {next : Act → World → Prop} {Q : Exit → Act → World → Prop}
  (hn : NextOk B ρ h w nx K o.dst a next) :
  o.uponIn (FW r) n P a next Q ((do let d ← (pure { target := .fn (.method m) #[], args := #[cv] ++ ⟨cs⟩ } : Sem Deferred); invoke d.target d.args : Sem Next).run P w) := by
 unfold oInvoke at hs
 split at hs
 ·rename_i t y
  obtain ⟨fp, hm, hs⟩ := orO_sat hs
  obtain ⟨i, x, hi, hx, hpa, hfu⟩ := methodOf_spec hm
  obtain ⟨yr, hrec, hs⟩ := orB_sat hs
  cases hv with
  | iface _ hy =>
   rename_i y'
   obtain ⟨c, hrun, hvc⟩ := recvA_run (P := P) hr hrec hy
   obtain ⟨⟨fn, h1, h2, h3⟩, hcall⟩ := hc _ _ _ _ _ hs
   have hargs := hcall B ρ w (c :: cs) hr hf (.cons hvc hvs) (n - 1)
   have hrun' : ((do let d ← (pure { target := .fn (.method m) #[], args := #[Value.iface t y'] ++ ⟨cs⟩ } : Sem Deferred); invoke d.target d.args : Sem Next)).run P w = .ok (.enter fp.1 ⟨c :: cs⟩) w := by
    have hb : fn.body ≠ none := by
     intro hbb; rw [hbb] at h2; cases h2
    have h3' : fn.name ≠ "runtime.NumGoroutine" := by simpa using h3
    have hmeth : ∀ k, (method (k + 1) t y' m).run P w = .ok (fp.1, c) w := fun k => by
     unfold method
     obtain ⟨f, pr⟩ := fp
     simp [run_typeInfo hi, hx, hpa, hfu, follow, hrun]
    have hd : P.types.size + Made.depth = (P.types.size + 99) + 1 := rfl
    simp [invoke, callMethod, callFunc, h1, h3', hb, hd, hmeth]
   rw [hrun']
   refine ⟨fun h => by simp [FW, Fence.wide] at h, ?_⟩
   rw [FW_calls]
   refine hargs.mono fun e w' he => ?_
   obtain ⟨v, h', nx', ρ', c, rfl, hk, hvc, hm⟩ := he
   exact hn v h' nx' ρ' c w' hk hvc hm
 ·exact hs.elim
theorem effA_upon' {tm : Tm} {a a0 : Act} (hT : TR ρ tm a.tmps) {h : Hp} {w : World} (hr : Rel B ρ (hget h) w) {nx : Nat} (hf : Fr ρ nx) {call : FuncId → List Value → Hp → Nat → CR} {round : Nat → List Value → Hp → Nat → CR} (hc : CallOk P call) (hro : RoundOk P round)
  {o : Oper} (hk : kindOf P o.op = .eff) {K : Value → Hp → Nat → Prop} (hs : orSat call round (effA P tm h nx o.op) K) {n : Nat} {r : Option Nat} {next : Act → World → Prop} {Q : Exit → Act → World → Prop}
  (hn : NextOk B ρ h w nx K o.dst a0 next) :
  o.uponIn (FW r) n P a0 next Q ((o.semAt r a.eval).run P w) := by
 rw [Oper.semAt_eq r a.eval o (fun c hc => by rw [hc] at hs; exact hs.elim)]
 cases hop : o.op <;> rw [hop] at hs hk <;> simp only [effA] at hs <;> try (exact hs.elim)
 case store t x y =>
  have := (oStore_run (P := P) hT hr nx hs.ok).upon (a := a0) (o := o) (n := n) (F := FW r) (Q := Q) hs hn
  unfold execOp; rw [hop]; exact this
 case mapUpdate t m k x =>
  obtain ⟨h', he, hK⟩ := uOf_sat hs
  obtain ⟨vm, h1, he⟩ := R.bind_ok he
  obtain ⟨vk, h2, he⟩ := R.bind_ok he
  obtain ⟨vx, h3, he⟩ := R.bind_ok he
  obtain ⟨w', hrun, hm⟩ := oMapUpdate_run (P := P) hr nx he (ev_run hT h1) (ev_run hT h2) (ev_run hT h3)
  unfold execOp; rw [hop]
  simp only [Sem.run_bind, hrun, Result.andThen_ok, Sem.run_pure]
  exact hn undefV h' nx ρ undef w' hK undef_vr hm
 case convert s d x =>
  obtain ⟨v, h1, hs⟩ := orB_sat hs
  have := (oMark_run (P := P) hr nx hs.ok (ev_run hT h1)).upon (a := a0) (o := o) (n := n) (F := FW r) (Q := Q) hs hn
  unfold execOp; rw [hop]; exact this
 case range t x =>
  obtain ⟨v, h1, hs⟩ := orB_sat hs
  cases hty : isMapTy P t with
  | false => rw [hty] at hs; exact hs.elim
  | true =>
   rw [hty] at hs
   have := (oRange_run (P := P) hr hf.here hty (ev_run hT h1) hs.ok).upon (a := a0) (o := o) (n := n) (F := FW r) (Q := Q) hs hn
   unfold execOp; rw [hop]; exact this
 case next it isS =>
  obtain ⟨v, h1, hs⟩ := orB_sat hs
  cases isS with
  | true => exact hs.elim
  | false =>
   have := (oNext_run (P := P) hr nx (ev_run hT h1) hs.ok o.type).upon (a := a0) (o := o) (n := n) (F := FW r) (Q := Q) hs hn
   unfold execOp; rw [hop]; exact this
 case call c =>
  unfold oCall at hs
  obtain ⟨vs, h1, hs⟩ := orB_sat hs
  have hargs := evs_run hT h1
  have hmap : c.args.map a.eval = ⟨c.args.toList.map a.eval⟩ := by apply Array.ext'; simp
  unfold execOp; rw [hop]
  cases hcal : c.callee with
  | value f =>
   rw [hcal] at hs
   obtain ⟨vf, h2, hs⟩ := orB_sat hs
   have := callV_upon hr hf hc hro hs hargs (ev_run hT h2) (o := o) (a := a0) (n := n) (r := r) (Q := Q) hn
   simp only [resolve, hcal, hmap]
   exact this
  | invoke x m =>
   rw [hcal] at hs
   obtain ⟨vr, h2, hs⟩ := orB_sat hs
   have := invoke_upon hr hf hc hs hargs (ev_run hT h2) (o := o) (a := a0) (n := n) (r := r) (Q := Q) hn
   simp only [resolve, hcal, hmap]
   exact this
  | builtin b =>
   rw [hcal] at hs
   obtain ⟨x, h2, hs⟩ := orR_sat hs
   obtain ⟨consts, hcs⟩ := resolve_builtin (ρ' := a.eval) hcal o.type
   have := (builtin_upon (P := P) hr hf h2 hargs o.type consts).upon (a := a0) (o := o) (n := n) (F := FW r) (Q := Q) hs hn
   simp only [hcs, hmap]
   exact this
theorem effA_upon {tm : Tm} {a : Act} (hT : TR ρ tm a.tmps) {h : Hp} {w : World} (hr : Rel B ρ (hget h) w) {nx : Nat} (hf : Fr ρ nx) {call : FuncId → List Value → Hp → Nat → CR} {round : Nat → List Value → Hp → Nat → CR} (hc : CallOk P call) (hro : RoundOk P round)
  {o : Oper} (hk : kindOf P o.op = .eff) {K : Value → Hp → Nat → Prop} (hs : orSat call round (effA P tm h nx o.op) K) {n : Nat} {r : Option Nat} {next : Act → World → Prop} {Q : Exit → Act → World → Prop}
  (hn : NextOk B ρ h w nx K o.dst a next) :
  o.uponIn (FW r) n P a next Q ((o.semAt r a.eval).run P w) := effA_upon' (a0 := a) hT hr hf hc hro hk hs hn
end
def NoGoto (Q : Exit → Act → World → Prop) : Exit → Act → World → Prop
 | .goto _, _, _ => False
 | e, a, w => Q e a w
theorem wpIn_scope {F : Fence} {n : Nat} {P : Program} {Q : Exit → Act → World → Prop} {a : Act} {w : World} {c : Code} (h : c.wpIn F n P (NoGoto Q) a w) : (Code.scope c).wpIn F n P Q a w := by
 intro b k cs hro hb hr
 have s1 : step P (lone (b.atR a (.code (.scope c) :: k)) cs w) = .next (lone (b.atR a (.code c :: .inScope c :: k)) cs w) := step_lone_go (by simp [stepG, stepG.exec, Frame.atR])
 have s2 : ∀ a w, step P (lone (b.atR a (.inScope c :: k)) cs w) = .next (lone (b.atR a k) cs w) := fun a w => step_lone_go (by simp [stepG, stepG.exec, Frame.atR])
 have h0 : (lone (b.atR a (.code (.scope c) :: k)) cs w).fenced P F := fenced_calm hb hr rfl
 obtain ⟨e, a₁, w₁, hq, harr⟩ := h b (.inScope c :: k) cs hro hb hr
 cases e with
 | normal => exact ⟨.normal, a₁, w₁, hq, .head h0 s1 (StepsIn.trans harr (.one (fenced_calm hb hr rfl) (s2 _ _)))⟩
 | exit id =>
  have hx : exitTo id (.inScope c :: k) = exitTo id k := by simp [exitTo]
  exact ⟨.exit id, a₁, w₁, hq, fun k' hk => .head h0 s1 (harr.1 k' (by rw [hx]; exact hk)),
   fun hr' hk => let ⟨k₁, h1, h2⟩ := harr.2 hr' (by rw [hx]; exact hk); ⟨k₁, h1, .head h0 s1 h2⟩⟩
 | goto l => exact hq.elim
 | ret => exact ⟨_, a₁, w₁, hq, .of_steps (.one h0 s1) harr⟩
 | panic ch => exact ⟨_, a₁, w₁, hq, .of_steps (.one h0 s1) harr⟩
 | outgrown => exact ⟨_, a₁, w₁, hq, .of_steps (.one h0 s1) harr⟩
section
variable {P : Program} {ρ : Rho} {B : Nat}
theorem Act.put_size (a : Act) (dst : Option Tmp) (v : Value) : (a.put dst v).tmps.size = a.tmps.size := by
 cases dst <;> simp [Act.put]
theorem Act.put_defers' (a : Act) (dst : Option Tmp) (v : Value) : (a.put dst v).defers = a.defers := by
 cases dst <;> rfl
theorem TR.put {tm : Tm} {a : Act} (h : TR ρ tm a.tmps) {dst : Option Tmp} {v c : Value} (hv : VR ρ v c) (hd : ∀ d, dst = some d → d < a.tmps.size) : TR ρ (putT tm dst v) (a.put dst c).tmps := by
 cases dst with
 | none => exact h
 | some t =>
  intro d
  have ht := hd t rfl
  show VR ρ (tget (tset tm t v) d) ((a.tmps.setIfInBounds t c).getD d undef)
  rw [tget_tset]
  by_cases e : d = t
  ·subst e; simp [ht]; exact hv
  ·rw [if_neg e]
   have := h d
   have hg : (a.tmps.setIfInBounds t c).getD d undef = a.tmps.getD d undef := by
    simp [Array.getD_eq_getD_getElem?, Array.getElem?_setIfInBounds, Ne.symm e]
   rw [hg]; exact this
def asB : Value → Option Bool
 | .bool b => some b
 | _ => none
theorem boolIs_spec {v c : Value} (hv : VR ρ v c) (want : Bool) : boolIs want v = (asB c == some want) := by
 cases hv <;> first
  | (rename_i b; cases b <;> cases want <;> rfl)
  | rfl
theorem wanted_eq {tm : Tm} {a : Act} {ops : Array Oper} (o : Oper) (hT : ∀ j want og d, o.guard = some (j, want) → ops[j]? = some og → og.dst = some d → VR ρ (tget tm d) (a.tmps.getD d undef)) :
  Region.wanted o (yielded ops a.tmps) = wantedA ops.toList tm o.guard := by
 unfold Region.wanted wantedA
 cases hg : o.guard with
 | none => rfl
 | some g =>
  obtain ⟨j, want⟩ := g
  show (yielded ops a.tmps j == some want) = wantedG ops.toList tm j want
  unfold wantedG yielded
  rw [lget_eq]
  have hto : ops.toList[j]? = ops[j]? := by simp
  rw [hto]
  cases ho : ops[j]? with
  | none => rfl
  | some og =>
   cases hd : og.dst with
   | none => simp [hd]
   | some d =>
    have hv := hT j want og d hg ho hd
    simp only [Option.bind_some, hd]
    rw [boolIs_spec hv want]
    cases hx : a.tmps[d]? with
    | none =>
     have : a.tmps.getD d undef = undef := by simp [Array.getD_eq_getD_getElem?, hx]
     rw [this]; rfl
    | some x =>
     have : a.tmps.getD d undef = x := by simp [Array.getD_eq_getD_getElem?, hx]
     rw [this]
     cases x <;> rfl
theorem wanted_tr {tm : Tm} {a : Act} (hT : TR ρ tm a.tmps) (ops : Array Oper) (o : Oper) : Region.wanted o (yielded ops a.tmps) = wantedA ops.toList tm o.guard :=
 wanted_eq o fun _ _ _ d _ _ _ => hT d
def Marks (L B : Nat) (ρ : Rho) (H : AH) (w : World) : List Deferred → Prop
 | [] => True
 | d :: ds => (∃ r, L ≤ r ∧ d.target = .collected r ∧ w.heap[r]? = some (.deferred (some [])) ∧ ¬ Owns B ρ H r ∧ ∀ d' ∈ ds, d'.target ≠ .collected r) ∧ Marks L B ρ H w ds
theorem Marks.mv {L : Nat} {H H' : AH} {w w' : World} {lo hi : Nat} {ρ' : Rho} (s : Mv B ρ H w lo hi ρ' H' w') : ∀ {ds : List Deferred}, Marks L B ρ H w ds → Marks L B ρ' H' w' ds
 | [], _ => trivial
 | d :: ds, ⟨⟨r, h0, h1, h2, h3, h4⟩, h5⟩ => by
  have hlt : r < w.heap.size := (Array.getElem?_eq_some_iff.1 h2).1
  exact ⟨⟨r, h0, h1, by rw [s.frame r hlt h3]; exact h2, fun ho => (s.own r ho).elim h3 (by omega), h4⟩, Marks.mv s h5⟩
def exOf : Ex → Exit
 | .normal => .normal
 | .exit i => .exit i
 | .ret => .ret
structure Sr (L B : Nat) (ρ : Rho) (tm : Tm) (h : Hp) (nx : Nat) (a : Act) (w : World) : Prop where
 rel : Rel B ρ (hget h) w
 fr : Fr ρ nx
 tr : TR ρ tm a.tmps
 marks : Marks L B ρ (hget h) w a.defers
 low : L ≤ w.heap.size
def PostOk (L B : Nat) (ρ : Rho) (h : Hp) (w : World) (nx sz : Nat) (K : Ex → Tm → Hp → Nat → Prop) (Q : Exit → Act → World → Prop) : Prop :=
 ∀ x tm' h' nx' ρ' a' w', K x tm' h' nx' → Mv B ρ (hget h) w nx nx' ρ' (hget h') w' → Sr L B ρ' tm' h' nx' a' w' → a'.tmps.size = sz → Q (exOf x) a' w'
theorem Sr.put {L : Nat} {tm : Tm} {h h' : Hp} {nx nx' : Nat} {a : Act} {w w' : World} {ρ' : Rho} (s : Sr L B ρ tm h nx a w) (hm : Mv B ρ (hget h) w nx nx' ρ' (hget h') w') {dst : Option Tmp} {v c : Value} (hv : VR ρ' v c) (hd : ∀ d, dst = some d → d < a.tmps.size) :
  Sr L B ρ' (putT tm dst v) h' nx' (a.put dst c) w' :=
 ⟨hm.rel, s.fr.after hm, TR.put (s.tr.mono (s.fr.sub hm)) hv hd, by rw [Act.put_defers']; exact s.marks.mv hm, Nat.le_trans s.low hm.size⟩
theorem PostOk.after {L : Nat} {h h' : Hp} {nx nx' sz : Nat} {w w' : World} {ρ' : Rho} {K : Ex → Tm → Hp → Nat → Prop} {Q : Exit → Act → World → Prop} (hp : PostOk L B ρ h w nx sz K Q) (hm : Mv B ρ (hget h) w nx nx' ρ' (hget h') w') : PostOk L B ρ' h' w' nx' sz K Q :=
 fun x tm'' h'' nx'' ρ'' a'' w'' hk hm' hs hsz => hp x tm'' h'' nx'' ρ'' a'' w'' hk (hm.trans hm') hs hsz
theorem crThen_sat {c : CR} {k : Value → Hp → Nat → Out} {K : Ex → Tm → Hp → Nat → Prop} (h : outSat (crThen c k) K) : crSat c (fun v h nx => outSat (k v h nx) K) := by
 induction c with
 | ok v h nx => exact h
 | no w => exact h
 | alt a b iha ihb => exact ⟨iha h.1, ihb h.2⟩
theorem orDone_sat {call : FuncId → List Value → Hp → Nat → CR} {round : Nat → List Value → Hp → Nat → CR} {ih : Tm → Hp → Nat → Out} {dst : Option Nat} {tm : Tm} {r : OR} {K : Ex → Tm → Hp → Nat → Prop} (h : outSat (orDone call round ih dst tm r) K) :
  orSat call round r (fun v h nx => outSat (ih (putT tm dst v) h nx) K) := by
 induction r with
 | val v h nx => exact h
 | call f args h nx => exact crThen_sat h
 | round l args h nx => exact crThen_sat h
 | no w => exact h
 | alt a b iha ihb => exact ⟨iha h.1, ihb h.2⟩
theorem opA_upon {L : Nat} {call : FuncId → List Value → Hp → Nat → CR} {round : Nat → List Value → Hp → Nat → CR} (hc : CallOk P call) (hro : RoundOk P round) {n : Nat} {r : Option Nat} {Q : Exit → Act → World → Prop} {tm : Tm} {h : Hp} {nx : Nat} {a : Act} {w : World}
  (hsr : Sr L B ρ tm h nx a w) {o : Oper} {K : Value → Hp → Nat → Prop} (hs : orSat call round (opA P tm h nx o.op) K) {next : Act → World → Prop} (hn : NextOk B ρ h w nx K o.dst a next) :
  o.uponIn (FW r) n P a next Q ((o.semAt r a.eval).run P w) := by
 unfold opA at hs
 cases hk : kindOf P o.op with
 | eff => rw [hk] at hs; exact effA_upon hsr.tr hsr.rel hsr.fr hc hro hk hs hn
 | pur =>
  rw [hk] at hs
  have hs : orSat call round (vOf h nx (purA P tm o.op)) K := hs
  cases hp : purA P tm o.op with
  | no w => rw [hp] at hs; exact hs.elim
  | ok v =>
   rw [hp] at hs
   rw [Oper.semAt_eq r a.eval o (fun c hc => by rw [hc] at hp; cases hp)]
   obtain ⟨c, hv, hrun⟩ := purA_run hsr.tr o hp
   rw [hrun w]
   exact hn v h nx ρ c w hs hv (Mv.refl nx hsr.rel)
 | red =>
  rw [hk] at hs
  have hs : orSat call round (vOf h nx (redA P tm h o.op)) K := hs
  cases hp : redA P tm h o.op with
  | no w => rw [hp] at hs; exact hs.elim
  | ok v =>
   rw [hp] at hs
   rw [Oper.semAt_eq r a.eval o (fun c hc => by rw [hc] at hp; cases hp)]
   obtain ⟨c, hv, hrun⟩ := redA_run hsr.tr hsr.rel o hk hp
   rw [hrun]
   exact hn v h nx ρ c w hs hv (Mv.refl nx hsr.rel)
 | alc =>
  rw [hk] at hs
  have hs : orSat call round (newOf h nx (alcA P tm o.op)) K := hs
  cases hp : alcA P tm o.op with
  | no w => rw [hp] at hs; exact hs.elim
  | ok nb =>
   rw [hp] at hs
   have hs : K (nbV nx nb) (hset h nx (nbO nb)) (nx + 1) := hs
   rw [Oper.semAt_eq r a.eval o (fun c hc => by rw [hc] at hp; cases hp)]
   obtain ⟨ob, p, w', hpb, hnb, hm, hrun⟩ := alcA_run hsr.tr o hk hp w
   obtain ⟨h1, h2⟩ := Alc.step hsr.rel hsr.fr.here hpb hnb hm
   rw [hrun]
   rw [← hget_put] at h1
   exact hn _ _ _ _ _ w' hs h2 h1
theorem opsA_run {L : Nat} {call : FuncId → List Value → Hp → Nat → CR} {round : Nat → List Value → Hp → Nat → CR} (hc : CallOk P call) (hro : RoundOk P round) {ops : Array Oper} {n : Nat} {r : Option Nat} {Q : Exit → Act → World → Prop} {K : Ex → Tm → Hp → Nat → Prop} :
  ∀ (os : List Oper) (k : Nat), ops.toList.drop k = os → ∀ {ρ : Rho} {tm : Tm} {h : Hp} {nx : Nat} {a : Act} {w : World}, outSat (opsA P call round ops.toList os tm h nx) K → Sr L B ρ tm h nx a w →
   opsFit a.tmps.size os = true → PostOk L B ρ h w nx a.tmps.size K Q → wpOpsIn (FW r) n P ops Q (List.range' k os.length) a w
 | [], k, hk, ρ, tm, h, nx, a, w, hs, hsr, _, hp => hp .normal tm h nx ρ a w hs (Mv.refl nx hsr.rel) hsr rfl
 | o :: os, k, hk, ρ, tm, h, nx, a, w, hs, hsr, hfit, hp => by
  have hko : ops[k]? = some o := by
   have : (ops.toList.drop k)[0]? = some o := by rw [hk]; rfl
   simpa using this
  have hk' : ops.toList.drop (k + 1) = os := by
   have := congrArg (List.drop 1) hk
   simpa [List.drop_drop] using this
  simp only [opsFit, List.all_cons, Bool.and_eq_true] at hfit
  have hd : ∀ d, o.dst = some d → d < a.tmps.size := fun d hd => by
   have := hfit.1
   rw [hd] at this
   simpa [Nat.blt_eq] using this
  have hs : outSat (opsS P call round ops.toList o (opsA P call round ops.toList os) tm h nx) K := hs
  unfold opsS at hs
  have hw := wanted_tr hsr.tr ops o
  have step : ∀ {ρ' : Rho} {v c : Value} {h' : Hp} {nx' : Nat} {w' : World}, outSat (opsA P call round ops.toList os (putT tm o.dst v) h' nx') K → VR ρ' v c → Mv B ρ (hget h) w nx nx' ρ' (hget h') w' →
    wpOpsIn (FW r) n P ops Q (List.range' (k + 1) os.length) (a.put o.dst c) w' := fun hs' hv hm => by
   refine opsA_run hc hro os (k + 1) hk' hs' (hsr.put hm hv hd) ?_ ?_
   ·rw [Act.put_size]; exact hfit.2
   ·rw [Act.put_size]; exact hp.after hm
  rw [show (o :: os).length = os.length + 1 from rfl, List.range'_succ]
  simp only [wpOpsIn, hko]
  cases hwa : wantedA ops.toList tm o.guard with
  | false =>
   rw [hwa] at hs hw
   simp only [hw, Bool.false_eq_true, if_false]
   exact ⟨fun _ _ => trivial, step hs undef_vr (Mv.refl nx hsr.rel)⟩
  | true =>
   rw [hwa] at hs hw
   have hs : outSat (orDone call round (opsA P call round ops.toList os) o.dst tm (opA P tm h nx o.op)) K := hs
   have hs := orDone_sat hs
   simp only [hw, if_true]
   refine ⟨fun _ _ => trivial, ?_⟩
   exact opA_upon hc hro hsr hs fun v h' nx' ρ' c w' hk hv hm => step hk hv hm
end
theorem wpIn_loopN {F : Fence} {n : Nat} {P : Program} {Q : Exit → Act → World → Prop} {c : Code} (J : Nat → Act → World → Prop)
  (round : ∀ m a w, J m a w → c.wpIn F n P (Exit.then (fun a' w' => ∃ m', m' < m ∧ J m' a' w') Q) a w) {m : Nat} {a : Act} {w : World} (h₀ : J m a w) : (Code.loop c).wpIn F n P Q a w := by
 intro b k cs hro hb hr
 have key : ∀ j a w, J j a w →
   ∃ e a' w', Q e a' w' ∧ ArrivesIn (Machine.fenced P F) P (lone (b.atR a (.code c :: .inLoop c :: k)) cs w) b k cs e a' w' := by
  intro j
  induction j using Nat.strongRecOn with
  | _ j ih =>
   intro a w hI
   obtain ⟨e, a₁, w₁, hq, harr⟩ := round j a w hI b (.inLoop c :: k) cs hro hb hr
   cases e with
   | normal =>
    obtain ⟨m', hlt, hI₁⟩ := hq
    obtain ⟨e₂, a₂, w₂, hq₂, harr₂⟩ := ih m' hlt a₁ w₁ hI₁
    exact ⟨e₂, a₂, w₂, hq₂, .of_steps (StepsIn.trans harr (.one (fenced_calm hb hr rfl) stepR_inLoop)) harr₂⟩
   | exit id => exact ⟨_, a₁, w₁, hq, .pass (x := .inLoop c) rfl (fun _ _ => .inl (by simp)) harr⟩
   | goto l => exact ⟨_, a₁, w₁, hq, .pass (x := .inLoop c) rfl (fun _ _ => .inl (by simp)) harr⟩
   | ret => exact ⟨_, a₁, w₁, hq, .pass (x := .inLoop c) rfl (fun _ _ => .inl (by simp)) harr⟩
   | panic ch => exact ⟨_, a₁, w₁, hq, .pass (x := .inLoop c) rfl (fun _ _ => .inl (by simp)) harr⟩
   | outgrown => exact ⟨_, a₁, w₁, hq, .pass (x := .inLoop c) rfl (fun _ _ => .inl (by simp)) harr⟩
 obtain ⟨e, a', w', hq, harr⟩ := key _ a w h₀
 exact ⟨e, a', w', hq, .of_steps (.one (fenced_calm hb hr rfl) stepR_loop) harr⟩
section
variable {P : Program} {orc : Orc}
def DrawOk (P : Program) (call : FuncId → List Value → Hp → Nat → CR) (round : Nat → List Value → Hp → Nat → CR) : Prop :=
 ∀ (ops : Array Oper) (ss : List Step), planOf P ops.toList = some ss → ∀ (L B : Nat) (ρ : Rho) (tm : Tm) (h : Hp) (nx : Nat) (a : Act) (w : World) (n : Nat) (r : Option Nat) (Q : Exit → Act → World → Prop) (K : Ex → Tm → Hp → Nat → Prop),
  outSat (drawA P call round ops.toList ss tm h nx h []) K → Sr L B ρ tm h nx a w → opsFit a.tmps.size ops.toList = true → PostOk L B ρ h w nx a.tmps.size K Q →
   wpAnyIn (FW r) n P .any ops Q ops.size (Array.replicate ops.size false) a w
def CurOk (ρ : Rho) (cur r : Option Nat) : Prop := match cur with
 | none => r = none
 | some l => ∃ p, ρ l = some p ∧ r = some p.blk
def ExOk (P : Program) (ex : ExF) : Prop := ∀ (cur : Option Nat) (c : Code) (tm : Tm) (h : Hp) (nx : Nat) (K : Ex → Tm → Hp → Nat → Prop), outSat (ex cur c tm h nx) K →
 ∀ (L B : Nat) (ρ : Rho) (a : Act) (w : World) (n : Nat) (r : Option Nat) (Q : Exit → Act → World → Prop), Sr L B ρ tm h nx a w → codeFit a.tmps.size c = true → CurOk ρ cur r → PostOk L B ρ h w nx a.tmps.size K Q → c.wpIn (FW r) n P Q a w
theorem CurOk.mono {ρ ρ' : Rho} (hs : Sub ρ ρ') {cur r : Option Nat} (h : CurOk ρ cur r) : CurOk ρ' cur r := by
 cases cur with
 | none => exact h
 | some l => obtain ⟨p, h1, h2⟩ := h; exact ⟨p, hs _ _ h1, h2⟩
theorem outThen_sat {c : Out} {k : Ex → Tm → Hp → Nat → Out} {K : Ex → Tm → Hp → Nat → Prop} (h : outSat (outThen c k) K) : outSat c (fun x tm h nx => outSat (k x tm h nx) K) := by
 induction c with
 | ok x tm h' nx => exact h
 | no w => exact h
 | alt a b iha ihb => exact ⟨iha h.1, ihb h.2⟩
theorem outCR_sat {c : Out} {k : Ex → Tm → Hp → Nat → CR} {K : Value → Hp → Nat → Prop} (h : crSat (outCR c k) K) : outSat c (fun x tm h nx => crSat (k x tm h nx) K) := by
 induction c with
 | ok x tm h' nx => exact h
 | no w => exact h
 | alt a b iha ihb => exact ⟨iha h.1, ihb h.2⟩
theorem outSat.mono {K K' : Ex → Tm → Hp → Nat → Prop} (hk : ∀ x tm h nx, K x tm h nx → K' x tm h nx) : ∀ {c : Out}, outSat c K → outSat c K'
 | .ok _ _ _ _, h => hk _ _ _ _ h
 | .no _, h => h
 | .alt _ _, h => ⟨outSat.mono hk h.1, outSat.mono hk h.2⟩
theorem Sr.drawn {L B : Nat} {ρ : Rho} {tm : Tm} {h : Hp} {nx : Nat} {a : Act} {w : World} (s : Sr L B ρ tm h nx a w) {d : Nat} (hd : w.drawn ≤ d) : Sr L B ρ tm h nx a { w with drawn := d } :=
 ⟨s.rel.drawn d, s.fr, s.tr, Marks.mv (w := w) (ρ' := ρ) (H := hget h) (H' := hget h) (lo := nx) (hi := nx) (w' := { w with drawn := d }) ⟨s.rel.drawn d, fun _ _ => rfl, Nat.le_refl _, rfl, ⟨rfl, hd⟩, rfl, fun _ _ _ => rfl, fun _ h => .inl h, Nat.le_refl _⟩ s.marks, s.low⟩
theorem PostOk.then {L B : Nat} {ρ : Rho} {h : Hp} {w : World} {nx sz : Nat} {K : Ex → Tm → Hp → Nat → Prop} {Q : Exit → Act → World → Prop} (hp : PostOk L B ρ h w nx sz K Q) {next : Act → World → Prop}
  {k : Tm → Hp → Nat → Out} (hn : ∀ tm' h' nx' ρ' a' w', outSat (k tm' h' nx') K → Mv B ρ (hget h) w nx nx' ρ' (hget h') w' → Sr L B ρ' tm' h' nx' a' w' → a'.tmps.size = sz → next a' w') :
  PostOk L B ρ h w nx sz (fun x tm h nx => outSat (Ex.casesOn (motive := fun _ => Out) x (k tm h nx) (fun i => .ok (.exit i) tm h nx) (.ok .ret tm h nx)) K) (Exit.then next Q) := by
 intro x tm' h' nx' ρ' a' w' hk hm hs hsz
 cases x with
 | normal => exact hn _ _ _ _ _ _ hk hm hs hsz
 | exit i => exact hp (.exit i) _ _ _ _ _ _ hk hm hs hsz
 | ret => exact hp .ret _ _ _ _ _ _ hk hm hs hsz
theorem exA_ok (hmix : P.follows .mixedOrders = true) (hcall : ∀ ex, ExOk P ex → CallOk P (callA P orc ex)) (hround : ∀ ex, ExOk P ex → RoundOk P (roundA ex))
  (hdraw : ∀ call round, CallOk P call → RoundOk P round → DrawOk P call round)
  (hrf : ∀ ex, ExOk P ex → ∀ (cur : Option Nat) (f : Operand) (ps : Array Tmp) (asg body : Code) (tm : Tm) (h : Hp) (nx : Nat) (K : Ex → Tm → Hp → Nat → Prop) (v : Value), inLoop h cur = true → ev tm f = .ok v → outSat (rfA P orc ex ps.toList asg body tm h nx v) K →
   ∀ (L B : Nat) (ρ : Rho) (a : Act) (w : World) (n : Nat) (r : Option Nat) (Q : Exit → Act → World → Prop), Sr L B ρ tm h nx a w → codeFit a.tmps.size (.rangeFunc f ps asg body) = true → CurOk ρ cur r → PostOk L B ρ h w nx a.tmps.size K Q →
    (Code.rangeFunc f ps asg body).wpIn (FW r) n P Q a w) : ∀ N, ExOk P (exA P orc N) := by
 intro N
 induction N using Nat.strongRecOn with
 | _ N IH =>
  cases N with
  | zero => intro cur c tm h nx K hs; exact hs.elim
  | succ N =>
   have ih := IH N (Nat.lt_succ_self N)
   intro cur c tm h nx K hs L B ρ a w n r Q hsr hfit hcur hp
   have hs : outSat (exS P orc (exA P orc N) cur c tm h nx) K := hs
   cases c with
   | skip => exact wpIn_skip (hp .normal _ _ _ _ _ _ hs (Mv.refl nx hsr.rel) hsr rfl)
   | label l => exact wpIn_label (hp .normal _ _ _ _ _ _ hs (Mv.refl nx hsr.rel) hsr rfl)
   | exit id => exact wpIn_exit (hp (.exit id) _ _ _ _ _ _ hs (Mv.refl nx hsr.rel) hsr rfl)
   | ret => exact wpIn_ret (hp .ret _ _ _ _ _ _ hs (Mv.refl nx hsr.rel) hsr rfl)
   | goto l => exact hs.elim
   | scope c =>
    refine wpIn_scope (ih cur c tm h nx K hs L B ρ a w n r _ hsr hfit hcur ?_)
    intro x tm' h' nx' ρ' a' w' hk hm hs' hsz
    have := hp x tm' h' nx' ρ' a' w' hk hm hs' hsz
    cases x <;> exact this
   | region id ops draw =>
    have hc := hcall _ ih
    have hr := hround _ ih
    cases draw with
    | false =>
     refine wpIn_region ?_
     have hs : outSat (opsA P (callA P orc (exA P orc N)) (roundA (exA P orc N)) ops.toList ops.toList tm h nx) K := hs
     have := opsA_run (r := r) (n := n) hc hr ops.toList 0 rfl hs hsr hfit hp
     rw [List.range_eq_range']
     simpa using this
    | true =>
     refine wpIn_region_any hmix ?_
     have hs : outSat (regionA P (callA P orc (exA P orc N)) (roundA (exA P orc N)) ops.toList true tm h nx) K := hs
     unfold regionA at hs
     cases hpl : planOf P ops.toList with
     | none => rw [hpl] at hs; exact hs.elim
     | some ss =>
      rw [hpl] at hs
      refine hdraw _ _ hc hr ops ss hpl L B ρ tm h nx a _ n r Q K hs (hsr.drawn (Nat.le_succ _)) hfit ?_
      intro x tm' h' nx' ρ' a' w' hk hm hs' hsz
      exact hp x tm' h' nx' ρ' a' w' hk (Mv.from (Nat.le_succ _) hm) hs' hsz
   | seq x y =>
    simp only [codeFit, Bool.and_eq_true] at hfit
    have hs : outSat (seqA (exA P orc N) cur y (exA P orc N cur x tm h nx)) K := hs
    unfold seqA at hs
    have hs := outThen_sat hs
    refine wpIn_seq (ih cur x tm h nx _ hs L B ρ a w n r _ hsr hfit.1 hcur ?_)
    refine PostOk.then (k := fun tm h nx => exA P orc N cur y tm h nx) hp fun tm' h' nx' ρ' a' w' hk hm hs' hsz => ?_
    exact ih cur y tm' h' nx' K hk L B ρ' a' w' n r Q hs' (by rw [hsz]; exact hfit.2) (hcur.mono (hsr.fr.sub hm)) (by rw [hsz]; exact hp.after hm)
   | cond x c1 c2 =>
    simp only [codeFit, Bool.and_eq_true] at hfit
    have hs : outSat (condA (exA P orc N) cur c1 c2 tm h nx (ev tm x)) K := hs
    cases hv : ev tm x with
    | no w => rw [hv] at hs; exact hs.elim
    | ok v =>
     rw [hv] at hs
     have hvr := ev_run hsr.tr hv
     cases v <;> try (exact hs.elim)
     rename_i t
     have hb := hvr.bool_inv
     refine wpIn_cond (t := t) hb ?_
     cases t with
     | true => exact ih cur c1 tm h nx K hs L B ρ a w n r Q hsr hfit.1 hcur hp
     | false => exact ih cur c2 tm h nx K hs L B ρ a w n r Q hsr hfit.2 hcur hp
   | block id c =>
    have hs : outSat (blockA id (exA P orc N cur c tm h nx)) K := hs
    unfold blockA at hs
    have hs := outThen_sat hs
    refine wpIn_block (ih cur c tm h nx _ hs L B ρ a w n r _ hsr hfit hcur ?_)
    intro x tm' h' nx' ρ' a' w' hk hm hs' hsz
    cases x with
    | normal => exact hp .normal _ _ _ _ _ _ hk hm hs' hsz
    | ret => exact hp .ret _ _ _ _ _ _ hk hm hs' hsz
    | exit i =>
     have hk : outSat (bif Nat.beq i id then .ok .normal tm' h' nx' else .ok (.exit i) tm' h' nx') K := hk
     show if i = id then Q .normal a' w' else Q (.exit i) a' w'
     by_cases e : i = id
     ·rw [if_pos e]
      have : Nat.beq i id = true := by rw [e]; exact Nat.beq_refl id
      rw [this] at hk
      exact hp .normal _ _ _ _ _ _ hk hm hs' hsz
     ·rw [if_neg e]
      have : Nat.beq i id = false := by
       cases hb : Nat.beq i id with
       | true => exact absurd (Nat.eq_of_beq_eq_true hb) e
       | false => rfl
      rw [this] at hk
      exact hp (.exit i) _ _ _ _ _ _ hk hm hs' hsz
   | loop c =>
    refine wpIn_loopN (fun m a' w' => m ≤ N + 1 ∧ ∃ tm' h' nx' ρ', outSat (exA P orc m cur (.loop c) tm' h' nx') K ∧ Mv B ρ (hget h) w nx nx' ρ' (hget h') w' ∧ Sr L B ρ' tm' h' nx' a' w' ∧ a'.tmps.size = a.tmps.size) ?_ (m := N + 1) (a := a) (w := w)
     ⟨Nat.le_refl _, tm, h, nx, ρ, hs, Mv.refl nx hsr.rel, hsr, rfl⟩
    rintro m a1 w1 ⟨hm, tm1, h1, nx1, ρ1, hs1, hmv1, hsr1, hsz1⟩
    cases m with
    | zero => exact hs1.elim
    | succ m =>
     have ihm := IH m (by omega)
     have hs1 : outSat (seqA (exA P orc m) cur (.loop c) (exA P orc m cur c tm1 h1 nx1)) K := hs1
     unfold seqA at hs1
     have hs1 := outThen_sat hs1
     refine ihm cur c tm1 h1 nx1 _ hs1 L B ρ1 a1 w1 n r _ hsr1 (by rw [hsz1]; exact hfit) (hcur.mono (hsr.fr.sub hmv1)) ?_
     have hp1 := hp.after hmv1
     rw [← hsz1] at hp1
     refine PostOk.then (k := fun tm h nx => exA P orc m cur (.loop c) tm h nx) hp1 fun tm' h' nx' ρ' a' w' hk hm' hs' hsz => ?_
     exact ⟨m, Nat.lt_succ_self m, by omega, tm', h', nx', ρ', hk, hmv1.trans hm', hs', hsz.trans hsz1⟩
   | rangeFunc f ps asg body =>
    cases hv : ev tm f with
    | no w => simp only [exS, hv] at hs; exact hs.elim
    | ok v =>
     simp only [exS, hv] at hs
     cases hin : inLoop h cur with
     | false => rw [hin] at hs; exact hs.elim
     | true =>
      rw [hin] at hs
      exact hrf _ ih cur f ps asg body tm h nx K v hin hv hs L B ρ a w n r Q hsr hfit hcur hp
   | _ => exact hs.elim
end
section
variable {P : Program} {orc : Orc} {B : Nat}
theorem Mv.push {ρ : Rho} {H : AH} {w : World} (hr : Rel B ρ H w) (nx : Nat) (o : Obj) : Mv B ρ H w nx nx ρ H { w with heap := w.heap.push o } where
 rel := hr.world (by simp) fun b p hb hs => by
  obtain ⟨x, hx⟩ := Option.isSome_iff_exists.1 hs
  have := (hr.obj b p x hb hx).blk_lt
  simp only [Array.getElem?_push]
  rw [if_neg (by omega)]
 agree := fun _ _ => rfl
 size := by simp
 os := rfl
 tape := .here
 output := rfl
 frame := fun k hk _ => by
  simp only [Array.getElem?_push]
  rw [if_neg (by omega)]
 own := fun k h => .inl h
 le := Nat.le_refl _
theorem Rel.owned_lt {ρ : Rho} {H : AH} {w : World} (hr : Rel B ρ H w) {k : Nat} (h : Owns B ρ H k) : k < w.heap.size := by
 obtain ⟨b, p, hb, hs, rfl, _⟩ := h
 obtain ⟨x, hx⟩ := Option.isSome_iff_exists.1 hs
 exact (hr.obj b p x hb hx).blk_lt
theorem Rel.loopObj {ρ : Rho} {H : AH} {w : World} (hr : Rel B ρ H w) {b : Nat} {p : Place} {st : Nat} {pend : Option Code} {tm : Tm} {ps : List Nat} {asg body : Code} (hb : ρ b = some p) (hc : H b = some (.loop st pend tm ps asg body)) :
  ∃ l : Loop, B ≤ p.blk ∧ w.heap[p.blk]? = some (.loop l) ∧ stN l.state = st ∧ l.pending = pend ∧ TR ρ tm l.tmps ∧ l.params.toList = ps ∧ l.assign = asg ∧ l.body = body ∧
   codeFit l.tmps.size asg = true ∧ codeFit l.tmps.size body = true ∧ (∀ q ∈ ps, q < l.tmps.size) := by
 obtain ⟨h1, l, h2⟩ := hr.obj b p _ hb hc
 exact ⟨l, h1, h2⟩
theorem getLoop_run {w : World} {k : Nat} {l : Loop} (h : w.heap[k]? = some (.loop l)) : (Instr.getLoop k).run P w = .ok l w := by
 have := getObj_run (P := P) h (by intro _ _ _ h; cases h)
 simp [Instr.getLoop, this]
theorem VR.func_inv {ρ : Rho} {f : FuncId} {a b : Array Value} {c : Value} (h : VR ρ (.func (.func f) a b) c) : ∃ a' b' : List Value, c = .func (.func f) ⟨a'⟩ ⟨b'⟩ ∧ VRL ρ a.toList a' ∧ VRL ρ b.toList b' := by
 cases h with
 | func _ ha hb => exact ⟨_, _, rfl, ha, hb⟩
theorem loopOf_sat {h : Hp} {l : Nat} {k : Nat → Option Code → Tm → List Nat → Code → Code → CR} {K : Value → Hp → Nat → Prop} (hs : crSat (loopOf h l k) K) :
  ∃ st p tm ps a b, hget h l = some (.loop st p tm ps a b) ∧ crSat (k st p tm ps a b) K := by
 unfold loopOf at hs
 split at hs
 ·exact ⟨_, _, _, _, _, _, by assumption, hs⟩
 ·exact hs.elim
theorem rf_ok {ex : ExF} (hc : CallOk P (callA P orc ex)) (cur : Option Nat) (f : Operand) (ps : Array Tmp) (asg body : Code) (tm : Tm) (h : Hp) (nx : Nat) (K : Ex → Tm → Hp → Nat → Prop) (v : Value)
  (hin : inLoop h cur = true) (hv : ev tm f = .ok v) (hs : outSat (rfA P orc ex ps.toList asg body tm h nx v) K)
  (L B : Nat) (ρ : Rho) (a : Act) (w : World) (n : Nat) (r : Option Nat) (Q : Exit → Act → World → Prop) (hsr : Sr L B ρ tm h nx a w) (hfit : codeFit a.tmps.size (.rangeFunc f ps asg body) = true) (hcur : CurOk ρ cur r)
  (hp : PostOk L B ρ h w nx a.tmps.size K Q) : (Code.rangeFunc f ps asg body).wpIn (FW r) n P Q a w := by
 have hvr := ev_run hsr.tr hv
 unfold rfA at hs
 split at hs
 ·rename_i g x y
  obtain ⟨x', y', hpe, hx, hy⟩ := hvr.func_inv
  have hs := crThen_sat hs
  obtain ⟨⟨fn0, hf1, hf2, hf3⟩, hcall⟩ := hc _ _ _ _ _ hs
  simp only [codeFit, Bool.and_eq_true, List.all_eq_true, Nat.blt_eq] at hfit
  refine wpIn_rangeFunc fun fn _ => ?_
  have hent : ∃ (wm : World) (mark : List Deferred) (ds : Nat), Mv B ρ (hget h) w nx nx ρ (hget h) wm ∧ Marks L B ρ (hget h) wm (mark ++ a.defers) ∧
    (Instr.enterLoop fn a.tmps ps asg body r).run P w = .ok (wm.heap.size, mark) { wm with heap := wm.heap.push (.loop { state := .ready, pending := none, fn, tmps := a.tmps, params := ps, assign := asg, body, defers := ds }) } := by
   cases cur with
   | none =>
    have hr0 : r = none := hcur
    subst hr0
    have hmv := Mv.push hsr.rel nx (.deferred (some []))
    refine ⟨{ w with heap := w.heap.push (.deferred (some [])) }, [{ target := .collected w.heap.size, args := #[] }], w.heap.size, hmv, ⟨⟨w.heap.size, hsr.low, rfl, by simp, fun ho => ?_, ?_⟩, hsr.marks.mv hmv⟩, ?_⟩
    ·have := hsr.rel.owned_lt ho; omega
    ·intro d' hd' he
     have : ∀ (ds : List Deferred), Marks L B ρ (hget h) w ds → d' ∈ ds → False := by
      intro ds
      induction ds with
      | nil => intro _ hd; cases hd
      | cons d ds ih =>
       rintro ⟨⟨r, _, h1, h2, _, _⟩, h3⟩ hd
       rcases List.mem_cons.1 hd with rfl | hd
       ·rw [h1] at he
        cases he
        have := (Array.getElem?_eq_some_iff.1 h2).1
        omega
       ·exact ih h3 hd
     exact this _ hsr.marks hd'
    ·simp [Instr.enterLoop, newObj_run]; rfl
   | some l0 =>
    obtain ⟨p0, hp0, rfl⟩ := hcur
    unfold inLoop at hin
    split at hin
    ·contradiction
    ·rename_i l1 heq
     cases heq
     split at hin
     ·rename_i hg
      obtain ⟨lp, _, hw, _⟩ := hsr.rel.loopObj hp0 hg
      have hgl := getLoop_run (P := P) hw
      refine ⟨w, [], lp.defers, Mv.refl nx hsr.rel, hsr.marks, ?_⟩
      simp [Instr.enterLoop, hgl, newObj_run]
     ·cases hin
  obtain ⟨wm, mark, ds, hmv0, hmk, hrun⟩ := hent
  let p : Place := ⟨wm.heap.size, 0, 0, 0⟩
  let ρ1 : Rho := fun k => if k = nx then some p else ρ k
  have hself : ρ1 nx = some p := by simp [ρ1]
  have hsub : Sub ρ ρ1 := fun b q hb => by
   by_cases e : b = nx
   ·subst e; rw [hsr.fr.here] at hb; cases hb
   ·simp [ρ1, e, hb]
  have hmk1 := Made.push wm (.loop { state := .ready, pending := none, fn, tmps := a.tmps, params := ps, assign := asg, body, defers := ds })
  have hob : ObjR B ρ1 { wm with heap := wm.heap.push (.loop { state := .ready, pending := none, fn, tmps := a.tmps, params := ps, assign := asg, body, defers := ds }) } p (.loop 0 none tm ps.toList asg body) :=
   ⟨hmv0.rel.base, _, hmk1.new, rfl, rfl, hsr.tr.mono hsub, rfl, rfl, rfl, hfit.1.2, hfit.2, fun q hq => hfit.1.1 q hq⟩
  have hmv1 := Mv.make hmv0.rel hsr.fr.here hmk1.size hmk1.old rfl .here rfl (p := p) rfl hob
  rw [← hget_put] at hmv1
  have hmv01 := hmv0.trans hmv1
  have hfr1 : Fr ρ1 (nx + 1) := hsr.fr.after hmv01
  have hyv : VR ρ1 (.func (.yield nx) #[] #[]) (.func (.yield wm.heap.size) #[] #[]) := .yield (p := p) hself
  have hargs : VRL ρ1 (lapp x.toList (Value.func (.yield nx) #[] #[] :: y.toList)) (x' ++ (Value.func (.yield wm.heap.size) #[] #[] :: y')) := (hx.mono hsub).app (.cons hyv (hy.mono hsub))
  have hci := hcall B ρ1 _ _ hmv1.rel hfr1 hargs (n - 1)
  generalize hwl : ({ wm with heap := wm.heap.push (.loop { state := .ready, pending := none, fn, tmps := a.tmps, params := ps, assign := asg, body, defers := ds }) } : World) = wl at *
  refine ⟨wm.heap.size, mark, wl, { target := .fn (.func g) ⟨y'⟩, args := ⟨x'⟩ ++ #[Value.func (.yield wm.heap.size) #[] #[]] }, wl, g, ⟨x' ++ (Value.func (.yield wm.heap.size) #[] #[] :: y')⟩, wl, hrun, ?_, fun _ _ => trivial, ?_, fun h => by simp [FW, Fence.wide] at h, ?_⟩
  ·have hconst : a.eval (.const (.func (.yield wm.heap.size) #[] #[])) = .func (.yield wm.heap.size) #[] #[] := rfl
   simp [resolve, rangeCall, hpe, Deferred.ofValue, hconst]
  ·have hb : fn0.body ≠ none := by
    intro hbb; rw [hbb] at hf2; cases hf2
   have h3' : fn0.name ≠ "runtime.NumGoroutine" := by simpa using hf3
   simp [invoke, callFunc, hf1, h3', hb]
  ·rw [FW_calls]
   refine hci.mono fun e w3 he => ?_
   obtain ⟨vv, h', nx', ρ', c, rfl, hk, hvc, hm⟩ := he
   have hfr' := hfr1.after hm
   have hnx : ρ' nx = some p := (hfr1.sub hm) _ _ hself
   unfold rfEnd at hk
   split at hk
   ·rename_i st pend tm' ps' a' b' hg
    cases hst1 : Nat.beq st 1 with
    | true => rw [hst1] at hk; exact hk.elim
    | false =>
     rw [hst1] at hk
     have hk : outSat (jumpA tm (hset h' nx (.loop 3 pend tm' ps' a' b')) nx' pend) K := hk
     obtain ⟨lp, hB, hw3, hst, hpd, htr, hpar, hasg, hbod, hf1', hf2', hf3'⟩ := hm.rel.loopObj hnx hg
     subst hpd
     have hgl := getLoop_run (P := P) hw3
     have hnb : lp.state ≠ .busy := by
      intro h; rw [h] at hst; subst hst; cases hst1
     have hsto := setObj_run (P := P) (w := w3) (o := .loop { lp with state := .exhausted }) hw3 (by intro _ _ _ h; cases h)
     have hend : (Instr.endLoop wm.heap.size).run P w3 = .ok lp.pending { w3 with heap := w3.heap.setIfInBounds wm.heap.size (.loop { lp with state := .exhausted }) } := by
      have hnb' : (lp.state == .busy) = false := by
       cases hls : lp.state <;> first | rfl | exact absurd hls hnb
      have hgl : (Instr.getLoop wm.heap.size).run P w3 = .ok lp w3 := hgl
      have hsto : (setObj wm.heap.size (.loop { lp with state := .exhausted })).run P w3 = .ok () _ := hsto
      simp [Instr.endLoop, hgl, hnb, hsto]; rfl
     have hmv4 : Mv B ρ' (hget h') w3 nx' nx' ρ' (hget (hset h' nx (.loop 3 lp.pending tm' ps' a' b'))) { w3 with heap := w3.heap.setIfInBounds wm.heap.size (.loop { lp with state := .exhausted }) } :=
      Mv.set hm.rel nx' hnx hg hB (by rw [hw3]; rfl) fun w' hw' => ⟨hB, _, hw', rfl, rfl, htr, hpar, hasg, hbod, hf1', hf2', hf3'⟩
     have htot := (hmv01.trans hm).trans hmv4
     have hsr4 : Sr L B ρ' tm (hset h' nx (.loop 3 lp.pending tm' ps' a' b')) nx' { a with defers := mark ++ a.defers } { w3 with heap := w3.heap.setIfInBounds wm.heap.size (.loop { lp with state := .exhausted }) } :=
      ⟨htot.rel, hfr', hsr.tr.mono (hsr.fr.sub htot), ((hmk.mv hmv1).mv hm).mv hmv4, Nat.le_trans hsr.low htot.size⟩
     refine ⟨_, _, hend, ?_⟩
     generalize (hset h' nx (.loop 3 lp.pending tm' ps' a' b')) = H at hk htot hsr4
     generalize ({ w3 with heap := w3.heap.setIfInBounds wm.heap.size (.loop { lp with state := .exhausted }) } : World) = w4 at htot hsr4 ⊢
     cases hj : lp.pending with
     | none =>
      rw [hj] at hk
      exact hp .normal _ _ _ _ _ _ hk htot hsr4 rfl
     | some c =>
      rw [hj] at hk
      cases c <;> try (exact hk.elim)
      case ret => exact wpIn_ret (hp .ret _ _ _ _ _ _ hk htot hsr4 rfl)
      case exit i => exact wpIn_exit (hp (.exit i) _ _ _ _ _ _ hk htot hsr4 rfl)
   ·exact hk.elim
 ·exact hs.elim
end
section
variable {P : Program} {orc : Orc} {B : Nat}
theorem setPs_tr {ρ : Rho} : ∀ {ps : List Nat} {args args' : List Value} {tm : Tm} {t : Array Value}, VRL ρ args args' → TR ρ tm t → (∀ q ∈ ps, q < t.size) →
  TR ρ (setPs ps args tm) ((ps.zip args').foldl (fun tmps (t, a) => tmps.setIfInBounds t a) t) ∧ ((ps.zip args').foldl (fun tmps (t, a) => tmps.setIfInBounds t a) t).size = t.size
 | [], _, _, tm, t, _, ht, _ => by simpa [setPs] using ht
 | q :: ps, [], _, tm, t, .nil, ht, _ => by simpa [setPs] using ht
 | q :: ps, v :: args, _, tm, t, .cons (y := c) hv ha, ht, hq => by
  have hq0 := hq q (by simp)
  have h1 : TR ρ (tset tm q v) (t.setIfInBounds q c) := by
   have := TR.put (a := { tmps := t, defers := [] }) (dst := some q) ht hv (fun d hd => by cases hd; exact hq0)
   exact this
  obtain ⟨h2, h3⟩ := setPs_tr (ps := ps) ha h1 (fun x hx => by simp; exact hq x (by simp [hx]))
  simp only [setPs, List.zip_cons_cons, List.foldl_cons]
  exact ⟨h2, by rw [h3]; simp⟩
theorem round_ok {ex : ExF} (hex : ExOk P ex) : RoundOk P (roundA ex) := by
 intro l args h nx K hs B ρ w args' p hr hf hargs hl
 unfold roundA at hs
 obtain ⟨st, pd, tm, ps, asg, body, hg, hs⟩ := loopOf_sat hs
 cases hlen : Nat.beq (llen args) (llen ps) with
 | false => rw [hlen] at hs; exact hs.elim
 | true =>
  rw [hlen] at hs
  have hs : crSat (outCR (ex (some l) asg (setPs ps args tm) h nx) (roundMid ex l body)) K := hs
  have hlen : args.length = ps.length := by
   have := Nat.eq_of_beq_eq_true hlen
   rwa [llen_eq, llen_eq] at this
  obtain ⟨lp, hB, hw, hst, hpd, htr, hpar, hasg, hbod, hf1, hf2, hf3⟩ := hr.loopObj hl hg
  refine ⟨lp, hw, by rw [← hargs.length, hlen, ← hpar]; simp, fun n => ?_⟩
  have hs := outCR_sat hs
  obtain ⟨htr2, hsz2⟩ := setPs_tr (ps := ps) hargs htr hf3
  have hfold : (lp.params.zip ⟨args'⟩).foldl (fun tmps (t, a) => tmps.setIfInBounds t a) lp.tmps = (ps.zip args').foldl (fun tmps (t, a) => tmps.setIfInBounds t a) lp.tmps := by
   rw [← hpar, ← Array.foldl_toList]
   simp
  rw [hfold]
  subst hasg hbod
  refine roundIn_of_wpIn trivial ?_
  show lp.assign.wpIn (FW (some p.blk)) n P _ _ w
  refine hex (some l) lp.assign _ h nx _ hs w.heap.size B ρ _ w n (some p.blk) _ ⟨hr, hf, htr2, trivial, Nat.le_refl _⟩ (by rw [hsz2]; exact hf1) ⟨p, hl, rfl⟩ ?_
  intro x tm1 h1 nx1 ρ1 a1 w1 hk hm hsr1 hsz1
  cases x with
  | exit i => exact hk.elim
  | ret => exact hk.elim
  | normal =>
   have hk : crSat (loopOf h1 l (fun st p tm ps a b' => Nat.casesOn st (outCR (ex (some l) lp.body tm1 (hset h1 l (.loop 1 p tm ps a b')) nx1) (roundEnd l)) (fun _ => .no "round - not ready"))) K := hk
   obtain ⟨st1, pd1, tmL, ps1, asg1, body1, hg1, hk⟩ := loopOf_sat hk
   have hl1 := (hf.sub hm) _ _ hl
   obtain ⟨lp1, hB1, hw1, hst1, hpd1, htr1, hpar1, hasg1, hbod1, hf11, hf21, hf31⟩ := hm.rel.loopObj hl1 hg1
   cases st1 with
   | succ k => exact hk.elim
   | zero =>
    have hk : crSat (outCR (ex (some l) lp.body tm1 (hset h1 l (.loop 1 pd1 tmL ps1 asg1 body1)) nx1) (roundEnd l)) K := hk
    have hready : lp1.state = .ready := by
     cases hls : lp1.state <;> rw [hls] at hst1 <;> first | rfl | cases hst1
    have hgl := getLoop_run (P := P) hw1
    have hsto := setObj_run (P := P) (w := w1) (o := .loop { lp1 with state := .busy }) hw1 (by intro _ _ _ h; cases h)
    have hbr : (Instr.beginRound p.blk).run P w1 = .ok () { w1 with heap := w1.heap.setIfInBounds p.blk (.loop { lp1 with state := .busy }) } := by
     simp only [Instr.beginRound, Sem.run_bind, hgl, hsto, Result.andThen_ok, hready, Sem.run_pure]
    have hmv2 : Mv B ρ1 (hget h1) w1 nx1 nx1 ρ1 (hget (hset h1 l (.loop 1 pd1 tmL ps1 asg1 body1))) { w1 with heap := w1.heap.setIfInBounds p.blk (.loop { lp1 with state := .busy }) } :=
     Mv.set hm.rel nx1 hl1 hg1 hB1 (by rw [hw1]; rfl) fun w' hw' => ⟨hB1, _, hw', rfl, hpd1, htr1, hpar1, hasg1, hbod1, hf11, hf21, hf31⟩
    refine ⟨_, hbr, ?_⟩
    have hk := outCR_sat hk
    have htot := hm.trans hmv2
    have hsr2 : Sr w.heap.size B ρ1 tm1 (hset h1 l (.loop 1 pd1 tmL ps1 asg1 body1)) nx1 a1 { w1 with heap := w1.heap.setIfInBounds p.blk (.loop { lp1 with state := .busy }) } :=
     ⟨hmv2.rel, hsr1.fr, hsr1.tr, hsr1.marks.mv hmv2, Nat.le_trans hsr1.low hmv2.size⟩
    refine hex (some l) lp.body _ _ nx1 _ hk w.heap.size B ρ1 a1 _ n (some p.blk) _ hsr2 (by rw [hsz1, hsz2]; exact hf2) ⟨p, hl1, rfl⟩ ?_
    intro x tm2 h2 nx2 ρ2 a2 w2 hk2 hm2 hsr3 _
    unfold roundEnd at hk2
    obtain ⟨st3, pd3, tm3, ps3, asg3, body3, hg3, hk2⟩ := loopOf_sat hk2
    have hl2 := (hsr2.fr.sub hm2) _ _ hl1
    obtain ⟨lp3, hB3, hw3, hst3, hpd3, htr3, hpar3, hasg3, hbod3, hf13, hf23, hf33⟩ := hm2.rel.loopObj hl2 hg3
    have hgl3 := getLoop_run (P := P) hw3
    have fin : ∀ (jump : Option Code) (st : Nat) (s : LoopState), stN s = st → (if jump.isNone then LoopState.ready else LoopState.done) = s → K (.bool jump.isNone) (hset h2 l (.loop st jump tm3 ps3 asg3 body3)) nx2 →
      ∃ v w', (Instr.endRound p.blk jump).run P w2 = .ok v w' ∧ Fin B ρ h w nx K (.returned v) w' := by
     intro jump st s hs hj hK
     subst hj
     have hsto := setObj_run (P := P) (w := w2) (o := .loop { lp3 with state := if jump.isNone then .ready else .done, pending := jump }) hw3 (by intro _ _ _ h; cases h)
     have hmv4 : Mv B ρ2 (hget h2) w2 nx2 nx2 ρ2 (hget (hset h2 l (.loop st jump tm3 ps3 asg3 body3))) { w2 with heap := w2.heap.setIfInBounds p.blk (.loop { lp3 with state := if jump.isNone then .ready else .done, pending := jump }) } :=
      Mv.set hm2.rel nx2 hl2 hg3 hB3 (by rw [hw3]; rfl) fun w' hw' => ⟨hB3, _, hw', hs, rfl, htr3, hpar3, hasg3, hbod3, hf13, hf23, hf33⟩
     refine ⟨.bool jump.isNone, _, ?_, .bool jump.isNone, _, nx2, ρ2, _, rfl, hK, .bool _, (htot.trans hm2).trans hmv4⟩
     simp only [Instr.endRound, Sem.run_bind, hgl3, hsto, Result.andThen_ok, Sem.run_pure]
    cases x with
    | normal => exact fin none 0 _ rfl rfl hk2
    | ret => exact fin (some .ret) 2 _ rfl rfl hk2
    | exit i => exact fin (some (.exit i)) 2 _ rfl rfl hk2
end
section
variable {P : Program} {orc : Orc} {B : Nat} {ρ : Rho}
def resM (tmps : Array Value) : ResultVar → Sem Value
 | .tmp t => pure (tmps.getD t undef)
 | .cell a t => do loadVar t (← asAddr (tmps.getD a undef))
theorem resV_run {tm : Tm} {h : Hp} {w : World} {tmps : Array Value} (hT : TR ρ tm tmps) (hr : Rel B ρ (hget h) w) {x : ResultVar} {v : Value} (he : resV P tm h x = .ok v) : ∃ c, VR ρ v c ∧ (resM tmps x).run P w = .ok c w := by
 cases x with
 | tmp t => cases he; exact ⟨_, hT t, rfl⟩
 | cell a t =>
  obtain ⟨ad, hv, h3⟩ := addrR_ok he
  have hva := hT a
  rw [hv] at hva
  obtain ⟨p, hsp, hp, hpe⟩ := hva.ptr_inv'
  obtain ⟨bk, of, sp⟩ := ad
  simp only at hsp hp hpe
  subst hsp
  obtain ⟨c, h4, h5⟩ := loadA_run hr hp h3
  refine ⟨c, h5, ?_⟩
  simp only [resM, hpe, asAddr, Sem.run_bind, Sem.run_pure, Result.andThen_ok, h4]
theorem resVs_run {tm : Tm} {h : Hp} {w : World} {tmps : Array Value} (hT : TR ρ tm tmps) (hr : Rel B ρ (hget h) w) : ∀ {xs : List ResultVar} {l : List Value}, resVs P tm h xs = .ok l → ∃ l', VRL ρ l l' ∧ (xs.mapM (resM tmps)).run P w = .ok l' w
 | [], l, he => by cases he; exact ⟨[], .nil, rfl⟩
 | x :: xs, l, he => by
  obtain ⟨v, h1, h2⟩ := R.bind_ok he
  obtain ⟨vs, h3, h4⟩ := R.bind_ok h2
  cases h4
  obtain ⟨c, h5, h6⟩ := resV_run (P := P) hT hr h1
  obtain ⟨l', h7, h8⟩ := resVs_run hT hr h3
  refine ⟨c :: l', .cons h5 h7, ?_⟩
  simp only [List.mapM_cons, Sem.run_bind, h6, h8, Result.andThen_ok, Sem.run_pure]
theorem results_run {fn : Func} {tm : Tm} {h : Hp} {nx : Nat} {w : World} {tmps : Array Value} {K : Value → Hp → Nat → Prop} (hT : TR ρ tm tmps) (hr : Rel B ρ (hget h) w) (hs : crSat (resOf h nx (resVs P tm h fn.results.toList)) K) :
  ∃ v c, K v h nx ∧ VR ρ v c ∧ (results fn tmps).run P w = .ok c w := by
 cases hx : resVs P tm h fn.results.toList with
 | no s => rw [hx] at hs; exact hs.elim
 | ok l =>
  rw [hx] at hs
  obtain ⟨l', h1, h2⟩ := resVs_run hT hr hx
  have hm : (fn.results.mapM (resM tmps)).run P w = .ok ⟨l'⟩ w := by
   rw [Array.mapM_eq_mapM_toList]
   simp [h2]
  have hres : results fn tmps = (do
    let vs ← fn.results.mapM (resM tmps)
    pure (if h : vs.size = 1 then vs[0] else .tuple vs)) := by
   unfold results
   congr 1
  rw [hres]
  simp only [Sem.run_bind, hm, Result.andThen_ok, Sem.run_pure]
  cases h1 with
  | nil => exact ⟨_, _, hs, .tuple .nil, rfl⟩
  | cons hx1 ht =>
   cases ht with
   | nil => exact ⟨_, _, hs, hx1, rfl⟩
   | cons hy ht => exact ⟨_, _, hs, .tuple (.cons hx1 (.cons hy ht)), by simp⟩
theorem Mv.beside {H H' : AH} {w0 w : World} {lo hi : Nat} {ρ' : Rho} (hB : B ≤ w0.heap.size) (hm : Mv B ρ H w0 lo hi ρ' H' w) {r : Nat} (hr : w0.heap.size ≤ r) (hno : ¬ Owns B ρ' H' r) (o : Obj) :
  Mv B ρ H w0 lo hi ρ' H' { w with heap := w.heap.setIfInBounds r o } where
 rel := hm.rel.world (by simp) fun b p hb hs => by
  have hne : r ≠ p.blk := fun e => hno ⟨b, p, hb, hs, e.symm, by omega⟩
  simp only [Array.getElem?_setIfInBounds]
  rw [if_neg hne]
 agree := hm.agree
 size := by simpa using hm.size
 os := hm.os
 tape := hm.tape
 output := hm.output
 frame := fun k hk hn => by
  simp only [Array.getElem?_setIfInBounds]
  rw [if_neg (by omega)]
  exact hm.frame k hk hn
 own := hm.own
 le := hm.le
theorem Marks.beside {L : Nat} {H : AH} {w : World} {r : Nat} (o : Obj) : ∀ {ds : List Deferred}, (∀ d' ∈ ds, d'.target ≠ .collected r) → Marks L B ρ H w ds → Marks L B ρ H { w with heap := w.heap.setIfInBounds r o } ds
 | [], _, _ => trivial
 | d :: ds, hd, ⟨⟨q, h0, h1, h2, h3, h4⟩, h5⟩ => by
  have hne : r ≠ q := fun e => hd d (by simp) (by rw [h1, e])
  refine ⟨⟨q, h0, h1, ?_, h3, h4⟩, Marks.beside o (fun d' h => hd d' (by simp [h])) h5⟩
  simp only [Array.getElem?_setIfInBounds]
  rw [if_neg hne]
  exact h2
theorem takeDeferred_run {w : World} {b : Nat} {ds : List Deferred} (h : w.heap[b]? = some (.deferred (some ds))) :
  (Instr.takeDeferred b).run P w = .ok ds { w with heap := w.heap.setIfInBounds b (.deferred none) } := by
 have h1 := getObj_run (P := P) h (by intro _ _ _ h; cases h)
 have h2 := setObj_run (P := P) (o := .deferred none) h (by intro _ _ _ h; cases h)
 simp [Instr.takeDeferred, h1, h2]
theorem leaves_ok {fn : Func} {tmps : Array Value} {n : Nat} {h0 h' : Hp} {w0 : World} {nx0 nx' : Nat} {ρ' : Rho} {tm : Tm} {K : Value → Hp → Nat → Prop} (hB : B ≤ w0.heap.size) (hT : TR ρ' tm tmps) (hs : crSat (resOf h' nx' (resVs P tm h' fn.results.toList)) K) :
  ∀ (ds : List Deferred) (w : World), Marks w0.heap.size B ρ' (hget h') w ds → Mv B ρ (hget h0) w0 nx0 nx' ρ' (hget h') w →
   LeavesInM Fence.wide n P fn tmps (Fin B ρ h0 w0 nx0 K) ds .returning w
 | [], w, _, hm => by
  obtain ⟨v, c, hk, hv, hrun⟩ := results_run (P := P) hT hm.rel hs
  exact ⟨c, hrun, v, h', nx', ρ', c, rfl, hk, hv, hm⟩
 | d :: ds, w, ⟨⟨r, hL, ht, hw, hno, hd⟩, hmk⟩, hm => by
  refine ⟨by simp, .inl ⟨r, { w with heap := w.heap.setIfInBounds r (.deferred none) }, ht, takeDeferred_run hw, ?_⟩⟩
  exact leaves_ok hB hT hs ds _ (Marks.beside _ hd hmk) (Mv.beside hB hm hL hno _)
theorem setArgs_get : ∀ (args : List Value) (i : Nat) (tm : Tm) (d : Nat), tget (setArgs args i tm) d = if i ≤ d ∧ d < i + args.length then (args[d - i]?).getD undefV else tget tm d
 | [], i, tm, d => by
  rw [if_neg (by simp only [List.length_nil]; omega)]; rfl
 | v :: args, i, tm, d => by
  show tget (setArgs args (i + 1) (tset tm i v)) d = _
  rw [setArgs_get args (i + 1) (tset tm i v) d, tget_tset]
  simp only [List.length_cons]
  by_cases h1 : d = i
  ·subst h1
   rw [if_neg (by omega), if_pos rfl, if_pos (by omega)]
   simp
  ·by_cases h2 : i + 1 ≤ d ∧ d < i + 1 + args.length
   ·rw [if_pos h2, if_pos (by omega)]
    have : d - i = (d - (i + 1)) + 1 := by omega
    rw [this]; simp
   ·rw [if_neg h2, if_neg h1, if_neg (by omega)]
theorem setArgs_tr {args args' : List Value} (h : VRL ρ args args') (k : Nat) : TR ρ (setArgs args 0 tm0) ((⟨args'⟩ : Array Value) ++ Array.replicate k undef) := by
 intro d
 rw [setArgs_get]
 have hl := h.length
 by_cases hd : d < args.length
 ·rw [if_pos (by omega)]
  obtain ⟨c, hc, hv⟩ := h.get (i := d) (v := args[d]) (List.getElem?_eq_getElem hd)
  have h1 : ((⟨args'⟩ : Array Value) ++ Array.replicate k undef).getD d undef = c := by
   simp only [Array.getD_eq_getD_getElem?]
   rw [Array.getElem?_append_left (by simp; omega)]
   simp [hc]
  rw [h1]
  simpa [hd] using hv
 ·rw [if_neg (by omega)]
  have h1 : ((⟨args'⟩ : Array Value) ++ Array.replicate k undef).getD d undef = undef := by
   simp only [Array.getD_eq_getD_getElem?]
   rw [Array.getElem?_append_right (by simp; omega)]
   simp only [Array.getElem?_replicate]
   split <;> rfl
  rw [h1, tget_tm0]
  exact undef_vr
theorem opsFit_mono {n m : Nat} (hnm : n ≤ m) (ops : List Oper) (h : opsFit n ops = true) : opsFit m ops = true := by
 simp only [opsFit, List.all_eq_true] at *
 intro o ho
 have := h o ho
 cases hd : o.dst with
 | none => rfl
 | some d =>
  rw [hd] at this
  simp only [Nat.blt_eq] at *
  omega
theorem codeFit_mono {n m : Nat} (hnm : n ≤ m) : ∀ (c : Code), codeFit n c = true → codeFit m c = true := by
 intro c
 induction c <;> intro h <;> simp only [codeFit, Bool.and_eq_true] at * <;> try trivial
 all_goals first
  | exact opsFit_mono hnm _ h
  | (rename_i iha ihb; exact ⟨iha h.1, ihb h.2⟩)
  | (rename_i ih; exact ih h)
  | skip
 rename_i ps a b iha ihb
 refine ⟨⟨?_, iha h.1.2⟩, ihb h.2⟩
 have := h.1.1
 simp only [List.all_eq_true, Nat.blt_eq] at *
 intro q hq
 have := this q hq
 omega
structure POk (P : Program) : Prop where
 mixed : P.follows .mixedOrders = true
 names : ∀ (f : FuncId) (fn : Func), P.funcs[f]? = some fn → (fn.name == "runtime.NumGoroutine") = false
 fit : ∀ (f : FuncId) (fn : Func) (c : Code), P.funcs[f]? = some fn → fn.body = some c → codeFit fn.ntmps c = true
def OrcOk (P : Program) (orc : Orc) : Prop := ∀ (f : FuncId) (g : List Value → Hp → Nat → CR), orc f = some g → ∀ (args : List Value) (h : Hp) (nx : Nat) (K : Value → Hp → Nat → Prop), crSat (g args h nx) K →
 Callable P f ∧ ∀ (B : Nat) (ρ : Rho) (w : World) (args' : List Value), Rel B ρ (hget h) w → Fr ρ nx → VRL ρ args args' → ∀ n, CallsIn Fence.wide n P f ⟨args'⟩ w (Fin B ρ h w nx K)
theorem call_ok (hP : POk P) (horc : OrcOk P orc) {ex : ExF} (hex : ExOk P ex) : CallOk P (callA P orc ex) := by
 intro f args h nx K hs
 unfold callA at hs
 cases ho : orc f with
 | some g =>
  rw [ho] at hs
  exact horc f g ho args h nx K hs
 | none =>
  rw [ho] at hs
  rw [lget_eq] at hs
  have hto : P.funcs.toList[f]? = P.funcs[f]? := by simp
  rw [hto] at hs
  cases hfn : P.funcs[f]? with
  | none => rw [hfn] at hs; exact hs.elim
  | some fn =>
   rw [hfn] at hs
   have hs : crSat (enterA P ex fn args h nx) K := hs
   unfold enterA at hs
   cases hb : fn.body with
   | none => rw [hb] at hs; exact hs.elim
   | some c =>
    rw [hb] at hs
    refine ⟨⟨fn, hfn, by rw [hb]; rfl, hP.names f fn hfn⟩, fun B ρ w args' hr hf hargs n => ?_⟩
    have hs : crSat (retA P fn.results.toList (ex none c (setArgs args 0 tm0) h nx)) K := hs
    unfold retA at hs
    have hs := outCR_sat hs
    refine callsIn_of_wp_marks hfn hb trivial ?_
    show c.wpIn (FW none) n P _ _ w
    have hsz : fn.ntmps ≤ ((⟨args'⟩ : Array Value) ++ Array.replicate (fn.ntmps - (⟨args'⟩ : Array Value).size) undef).size := by simp; omega
    refine hex none c _ h nx _ hs w.heap.size B ρ _ w n none _ ⟨hr, hf, setArgs_tr hargs _, trivial, Nat.le_refl _⟩ (codeFit_mono hsz c (hP.fit f fn c hfn hb)) rfl ?_
    intro x tm' h' nx' ρ' a' w' hk hm hsr' _
    cases x with
    | exit i => exact hk.elim
    | normal => exact leaves_ok hr.base hsr'.tr hk a'.defers w' hsr'.marks hm
    | ret => exact leaves_ok hr.base hsr'.tr hk a'.defers w' hsr'.marks hm
end
section
variable {P : Program}
def Ag (tm tm' : Tm) (x : Operand) : Prop := ∀ t, x = .tmp t → tget tm t = tget tm' t
theorem ev_congr {tm tm' : Tm} {x : Operand} (h : Ag tm tm' x) : ev tm x = ev tm' x := by
 cases x with
 | tmp t => show R.ok (tget tm t) = R.ok (tget tm' t); rw [h t rfl]
 | _ => rfl
theorem evs_congr {tm tm' : Tm} : ∀ {xs : List Operand}, (∀ x ∈ xs, Ag tm tm' x) → evs tm xs = evs tm' xs
 | [], _ => rfl
 | x :: xs, h => by
  unfold evs evsS
  rw [ev_congr (h x (by simp)), evs_congr fun y hy => h y (by simp [hy])]
theorem fillP_congr {tm tm' : Tm} {pl : Nat → Option (Nat × Nat)} : ∀ {ps : List (Nat × Operand)}, (∀ x ∈ ps, Ag tm tm' x.2) → fillP tm pl ps = fillP tm' pl ps
 | [], _ => rfl
 | x :: xs, h => by
  funext cells
  unfold fillP
  rw [ev_congr (h x (by simp)), fillP_congr fun y hy => h y (by simp [hy])]
theorem optInt_congr {tm tm' : Tm} {x : Option Operand} {d : Nat} (h : ∀ y, x = some y → Ag tm tm' y) : optInt tm x d = optInt tm' x d := by
 cases x with
 | none => rfl
 | some y => unfold optInt; simp only [ev_congr (h y rfl)]
theorem purA_congr {tm tm' : Tm} {o : Op} (h : ∀ x ∈ o.operands, Ag tm tm' x) : purA P tm o = purA P tm' o := by
 cases o <;> simp only [Op.operands] at h <;> simp only [purA]
 case build t ps =>
  unfold oBuild
  have hps : ∀ x ∈ ps.toList, Ag tm tm' x.2 := fun x hx => h x.2 (by simp; exact ⟨x.1, by simpa using hx⟩)
  have hf := fun pl => fillP_congr (tm := tm) (tm' := tm') (pl := pl) hps
  simp only [hf]
 case makeFunc fn a b =>
  unfold oFunc
  rw [evs_congr (xs := a.toList) (tm' := tm') fun x hx => h x (by simp at hx ⊢; exact .inl hx), evs_congr (xs := b.toList) (tm' := tm') fun x hx => h x (by simp at hx ⊢; exact .inr hx)]
 case slice t x lo hi mx =>
  rw [ev_congr (h x (by simp))]
  unfold oSlice
  simp only [optInt_congr (x := lo) (tm := tm) (tm' := tm') fun y hy => h y (by simp [hy]), optInt_congr (x := hi) (tm := tm) (tm' := tm') fun y hy => h y (by simp [hy]), optInt_congr (x := mx) (tm := tm) (tm' := tm') fun y hy => h y (by simp [hy])]
 case call c =>
  have hx : ∀ x ∈ c.args.toList, Ag tm tm' x := fun x hx => h x (by unfold Call.operands; simp; exact .inr (by simpa using hx))
  unfold purC
  split
  ·unfold evMin; split
   ·rename_i x y hxy
    rw [hxy] at hx
    rw [ev_congr (hx x (by simp)), ev_congr (hx y (by simp))]
   ·rfl
  ·unfold evMin; split
   ·rename_i x y hxy
    rw [hxy] at hx
    rw [ev_congr (hx x (by simp)), ev_congr (hx y (by simp))]
   ·rfl
  ·unfold evCap; split
   ·rename_i x hxy
    rw [hxy] at hx
    rw [ev_congr (hx x (by simp))]
   ·rfl
  ·rfl
 case pick c a b =>
  rw [ev_congr (h c (by simp))]
  unfold oPick
  rw [ev_congr (h a (by simp)), ev_congr (h b (by simp))]
 all_goals first
  | rfl
  | (rename_i x; rw [ev_congr (h x (by simp))]; done)
  | (rename_i x _; rw [ev_congr (h x (by simp))]; done)
  | (rename_i x _ _; rw [ev_congr (h x (by simp))]; done)
  | (rename_i x _ _ _; rw [ev_congr (h x (by simp))]; done)
  | (rename_i x y; rw [ev_congr (h x (by simp)), ev_congr (h y (by simp))]; done)
  | (rename_i x y _; rw [ev_congr (h x (by simp)), ev_congr (h y (by simp))]; done)
  | skip
theorem alcA_congr {tm tm' : Tm} {o : Op} (h : ∀ x ∈ o.operands, Ag tm tm' x) : alcA P tm o = alcA P tm' o := by
 cases o <;> simp only [Op.operands] at h <;> simp only [alcA]
 case makeMap t r => cases r <;> rfl
 case buildSlice t n ps =>
  unfold oBuildSlice
  have hps : ∀ x ∈ ps.toList, Ag tm tm' x.2 := fun x hx => h x.2 (by simp; exact ⟨x.1, by simpa using hx⟩)
  have hf := fun pl => fillP_congr (tm := tm) (tm' := tm') (pl := pl) hps
  simp only [hf]
 all_goals first
  | rfl
  | (rename_i x; rw [ev_congr (h x (by simp))]; done)
  | (rename_i x y; rw [ev_congr (h x (by simp)), ev_congr (h y (by simp))]; done)
  | skip
theorem redA_congr {tm tm' : Tm} {o : Op} {hp : Hp} (h : ∀ x ∈ o.operands, Ag tm tm' x) : redA P tm hp o = redA P tm' hp o := by
 cases o <;> simp only [Op.operands] at h <;> simp only [redA]
 case call c =>
  have hx : ∀ x ∈ c.args.toList, Ag tm tm' x := fun x hx => h x (by unfold Call.operands; simp; exact .inr (by simpa using hx))
  unfold lenC
  split
  ·rename_i x hxy
   rw [hxy] at hx
   rw [ev_congr (hx x (by simp))]
  ·rfl
 all_goals first
  | rfl
  | (rename_i x; rw [ev_congr (h x (by simp))]; done)
  | (rename_i x y _; rw [ev_congr (h x (by simp)), ev_congr (h y (by simp))]; done)
  | skip
theorem effA_congr {tm tm' : Tm} {o : Op} {hp : Hp} {nx : Nat} (h : ∀ x ∈ o.operands, Ag tm tm' x) : effA P tm hp nx o = effA P tm' hp nx o := by
 cases o <;> simp only [Op.operands] at h <;> simp only [effA]
 case call c =>
  have hx : ∀ x ∈ c.args.toList, Ag tm tm' x := fun x hx => h x (by unfold Call.operands; simp; exact .inr (by simpa using hx))
  unfold oCall
  rw [evs_congr hx]
  cases hc : c.callee with
  | value f =>
   simp only [ev_congr (h f (by unfold Call.operands; simp [hc]))]
  | invoke r m =>
   simp only [ev_congr (h r (by unfold Call.operands; simp [hc]))]
  | builtin b => rfl
 case store t a x =>
  unfold oStore
  rw [ev_congr (h a (by simp)), ev_congr (h x (by simp))]
 case mapUpdate t m k x => rw [ev_congr (h m (by simp)), ev_congr (h k (by simp)), ev_congr (h x (by simp))]
 all_goals first
  | rfl
  | (rename_i x; rw [ev_congr (h x (by simp))]; done)
  | (rename_i x _; rw [ev_congr (h x (by simp))]; done)
  | skip
end
section
variable {P : Program} {ρ : Rho} {B : Nat}
def tmD (tm : Tm) : List Nat → Tm
 | [] => tm0
 | d :: ds => tset (tmD tm ds) d (tget tm d)
theorem tmD_get (tm : Tm) (d : Nat) : ∀ D : List Nat, tget (tmD tm D) d = if d ∈ D then tget tm d else undefV
 | [] => by simp [tmD]
 | x :: xs => by
  simp only [tmD, tget_tset, tmD_get tm d xs, List.mem_cons]
  by_cases e : d = x
  ·simp [e]
  ·simp [e]
theorem patch {tm : Tm} {t : Array Value} {D : List Nat} (h : ∀ d ∈ D, VR ρ (tget tm d) (t.getD d undef)) :
  ∃ (tm' : Tm) (t' : Array Value), TR ρ tm' t' ∧ (∀ d ∈ D, tget tm' d = tget tm d) ∧ ∀ d ∈ D, t'.getD d undef = t.getD d undef := by
 have hg : ∀ d, ((Array.range t.size).map fun d => if d ∈ D then t.getD d undef else undef).getD d undef = if d ∈ D then t.getD d undef else undef := by
  intro d
  by_cases hd : d < t.size
  ·simp [Array.getD_eq_getD_getElem?, hd]
  ·have h1 : t.getD d undef = undef := by simp [Array.getD_eq_getD_getElem?, Array.getElem?_eq_none (Nat.le_of_not_lt hd)]
   rw [h1]
   simp [Array.getD_eq_getD_getElem?, hd]
 refine ⟨tmD tm D, (Array.range t.size).map fun d => if d ∈ D then t.getD d undef else undef, fun d => ?_, fun d hd => by rw [tmD_get, if_pos hd], fun d hd => by rw [hg, if_pos hd]⟩
 rw [hg, tmD_get]
 by_cases hd : d ∈ D
 ·rw [if_pos hd, if_pos hd]; exact h d hd
 ·rw [if_neg hd, if_neg hd]; exact undef_vr
def LocR (ρ : Rho) (tm : Tm) (a : Act) (o : Op) : Prop := ∀ t, Operand.tmp t ∈ o.operands → VR ρ (tget tm t) (a.tmps.getD t undef)
theorem patchOp {tm : Tm} {a : Act} {o : Oper} (h : LocR ρ tm a o.op) (hs : ∀ cs b, o.op ≠ .select cs b) :
  ∃ (tm' : Tm) (a' : Act), TR ρ tm' a'.tmps ∧ (∀ x ∈ o.op.operands, Ag tm tm' x) ∧ execOp a.eval o = execOp a'.eval o := by
 let D : List Nat := o.op.operands.toList.filterMap fun | .tmp t => some t | _ => none
 have hD : ∀ t, Operand.tmp t ∈ o.op.operands → t ∈ D := fun t ht => List.mem_filterMap.2 ⟨.tmp t, by simpa using ht, rfl⟩
 have hD' : ∀ t, t ∈ D → Operand.tmp t ∈ o.op.operands := fun t ht => by
  obtain ⟨x, hx, he⟩ := List.mem_filterMap.1 ht
  cases x <;> simp at he
  subst he
  simpa using hx
 obtain ⟨tm', t', h1, h2, h3⟩ := patch (tm := tm) (t := a.tmps) (D := D) fun d hd => h d (hD' d hd)
 refine ⟨tm', { tmps := t', defers := a.defers }, h1, fun x hx t ht => ?_, execOp_congr o hs fun x hx => ?_⟩
 ·subst ht; exact (h2 t (hD t hx)).symm
 ·cases x with
  | tmp t => exact (h3 t (hD t hx)).symm
  | _ => rfl
theorem pur_loc {tm : Tm} {a : Act} {o : Oper} (h : LocR ρ tm a o.op) {v : Value} (hp : purA P tm o.op = .ok v) : PurO P ρ v (execOp a.eval o) := by
 obtain ⟨tm', a', h1, h2, h3⟩ := patchOp h (fun cs b e => by rw [e] at hp; cases hp)
 rw [h3]
 exact purA_run h1 o (by rw [← purA_congr h2]; exact hp)
theorem alc_loc {tm : Tm} {a : Act} {o : Oper} (h : LocR ρ tm a o.op) {nb : NB} (hk : kindOf P o.op = .alc) (hp : alcA P tm o.op = .ok nb) : Alc P ρ nb (execOp a.eval o) := by
 obtain ⟨tm', a', h1, h2, h3⟩ := patchOp h (fun cs b e => by rw [e] at hp; cases hp)
 rw [h3]
 exact alcA_run h1 o hk (by rw [← alcA_congr h2]; exact hp)
theorem red_loc {tm : Tm} {a : Act} {o : Oper} (h : LocR ρ tm a o.op) {hp : Hp} {w : World} (hr : Rel B ρ (hget hp) w) {v : Value} (hk : kindOf P o.op = .red) (he : redA P tm hp o.op = .ok v) :
  ∃ c, VR ρ v c ∧ (execOp a.eval o).run P w = .ok (.value c) w := by
 obtain ⟨tm', a', h1, h2, h3⟩ := patchOp h (fun cs b e => by rw [e] at he; cases he)
 rw [h3]
 exact redA_run h1 hr o hk (by rw [← redA_congr h2]; exact he)
theorem eff_loc {tm : Tm} {a : Act} {o : Oper} (hl : LocR ρ tm a o.op) {h : Hp} {w : World} (hr : Rel B ρ (hget h) w) {nx : Nat} (hf : Fr ρ nx) {call : FuncId → List Value → Hp → Nat → CR} {round : Nat → List Value → Hp → Nat → CR} (hc : CallOk P call) (hro : RoundOk P round)
  (hk : kindOf P o.op = .eff) {K : Value → Hp → Nat → Prop} (hs : orSat call round (effA P tm h nx o.op) K) {n : Nat} {r : Option Nat} {next : Act → World → Prop} {Q : Exit → Act → World → Prop}
  (hn : NextOk B ρ h w nx K o.dst a next) : o.uponIn (FW r) n P a next Q ((o.semAt r a.eval).run P w) := by
 obtain ⟨tm', a', h1, h2, h3⟩ := patchOp hl (fun cs b e => by rw [e] at hs; exact hs.elim)
 have hnd : ∀ c, o.op ≠ .defer c := fun c hc => by rw [hc] at hs; exact hs.elim
 have hsem : o.semAt r a.eval = o.semAt r a'.eval := by rw [Oper.semAt_eq _ _ _ hnd, Oper.semAt_eq _ _ _ hnd, h3]
 rw [hsem]
 exact effA_upon' (a0 := a) h1 hr hf hc hro hk (by rw [← effA_congr h2]; exact hs) hn
end
structure St where
 tm : Tm
 h : Hp
 nx : Nat
 b : Hp
 hs : List Hp
def KeepB (s : Step) (st st' : St) : Prop := st'.h = st.h ∧ st'.nx = st.nx ∧ st'.b = st.b ∧ st'.hs = st.hs
inductive StepOk (P : Program) (call : FuncId → List Value → Hp → Nat → CR) (round : Nat → List Value → Hp → Nat → CR) (all : List Oper) (s : Step) (st st' : St) (v : Value) : Prop
 | skip (hw : wantedA all st.tm s.o.guard = false) (hk : isEffK s.kd = false) (hv : v = undefV) (hb : KeepB s st st') (ht : st'.tm = putT st.tm s.o.dst v)
 | skipEff (hw : wantedA all st.tm s.o.guard = false) (hk : isEffK s.kd = true) (hv : v = undefV) (hh : st'.h = st.h) (hn : st'.nx = st.nx) (hb : st'.b = st.h) (hhs : st'.hs = st.b :: st.hs) (ht : st'.tm = putT st.tm s.o.dst v)
 | pur (hw : wantedA all st.tm s.o.guard = true) (hk : s.kd = .pur) (he : purA P st.tm s.o.op = .ok v) (hb : KeepB s st st') (ht : st'.tm = putT st.tm s.o.dst v)
 | alc (hw : wantedA all st.tm s.o.guard = true) (hk : s.kd = .alc) (nb : NB) (he : alcA P st.tm s.o.op = .ok nb) (hv : v = nbV st.nx nb) (hh : st'.h = hset st.h st.nx (nbO nb)) (hn : st'.nx = st.nx + 1) (hb : st'.b = st.b) (hhs : st'.hs = st.hs) (ht : st'.tm = putT st.tm s.o.dst v)
 | red (hw : wantedA all st.tm s.o.guard = true) (hk : s.kd = .red) (he : redA P st.tm st.b s.o.op = .ok v) (ha : agree P st.tm s.o.op v s.chk st.hs = true) (hb : KeepB s st st') (ht : st'.tm = putT st.tm s.o.dst v)
 | eff (hw : wantedA all st.tm s.o.guard = true) (hk : s.kd = .eff) (he : crOf call round (effA P st.tm st.h st.nx s.o.op) = .ok v st'.h st'.nx) (hn : st.nx ≤ st'.nx) (hb : st'.b = st'.h) (hhs : st'.hs = st.b :: st.hs) (ht : st'.tm = putT st.tm s.o.dst v)
theorem StepOk.tm_eq {P : Program} {call : FuncId → List Value → Hp → Nat → CR} {round : Nat → List Value → Hp → Nat → CR} {all : List Oper} {s : Step} {st st' : St} {v : Value} (h : StepOk P call round all s st st' v) : st'.tm = putT st.tm s.o.dst v := by
 cases h <;> assumption
theorem StepOk.nx_le {P : Program} {call : FuncId → List Value → Hp → Nat → CR} {round : Nat → List Value → Hp → Nat → CR} {all : List Oper} {s : Step} {st st' : St} {v : Value} (h : StepOk P call round all s st st' v) : st.nx ≤ st'.nx := by
 cases h with
 | skip hw hk hv hb ht => rw [hb.2.1]; exact Nat.le_refl _
 | skipEff hw hk hv hh hn hb hhs ht => rw [hn]; exact Nat.le_refl _
 | pur hw hk he hb ht => rw [hb.2.1]; exact Nat.le_refl _
 | alc hw hk nb he hv hh hn hb hhs ht => omega
 | red hw hk he ha hb ht => rw [hb.2.1]; exact Nat.le_refl _
 | eff hw hk he hn hb hhs ht => exact hn
theorem trace {P : Program} {call : FuncId → List Value → Hp → Nat → CR} {round : Nat → List Value → Hp → Nat → CR} {all : List Oper} {K : Ex → Tm → Hp → Nat → Prop} : ∀ (ss : List Step) (st : St), outSat (drawA P call round all ss st.tm st.h st.nx st.b st.hs) K →
  ∃ (σ : Nat → St) (val : Nat → Value), σ 0 = st ∧ (∀ j s, ss[j]? = some s → StepOk P call round all s (σ j) (σ (j + 1)) (val j)) ∧ K .normal (σ ss.length).tm (σ ss.length).h (σ ss.length).nx
 | [], st, h => ⟨fun _ => st, fun _ => undefV, rfl, fun j s hj => by simp at hj, h⟩
 | s :: ss, st, h => by
  have go : ∀ (st' : St) (v : Value), outSat (drawA P call round all ss st'.tm st'.h st'.nx st'.b st'.hs) K → StepOk P call round all s st st' v →
    ∃ (σ : Nat → St) (val : Nat → Value), σ 0 = st ∧ (∀ j t, (s :: ss)[j]? = some t → StepOk P call round all t (σ j) (σ (j + 1)) (val j)) ∧ K .normal (σ (s :: ss).length).tm (σ (s :: ss).length).h (σ (s :: ss).length).nx := by
   intro st' v h' hs
   obtain ⟨σ, val, h0, h1, h2⟩ := trace ss st' h'
   refine ⟨fun j => match j with | 0 => st | j + 1 => σ j, fun j => match j with | 0 => v | j + 1 => val j, rfl, fun j t hj => ?_, h2⟩
   cases j with
   | zero => simp at hj; subst hj; dsimp only; rw [h0]; exact hs
   | succ j => exact h1 j t (by simpa using hj)
  have h : outSat (dS P call round all s (drawA P call round all ss) st.tm st.h st.nx st.b st.hs) K := h
  unfold dS at h
  cases hw : wantedA all st.tm s.o.guard with
  | false =>
   rw [hw] at h
   have h : outSat (dSkip (drawA P call round all ss) s st.tm st.h st.nx st.b st.hs) K := h
   unfold dSkip at h
   cases hk : isEffK s.kd with
   | false =>
    rw [hk] at h
    exact go ⟨putT st.tm s.o.dst undefV, st.h, st.nx, st.b, st.hs⟩ undefV h (.skip hw hk rfl ⟨rfl, rfl, rfl, rfl⟩ rfl)
   | true =>
    rw [hk] at h
    exact go ⟨putT st.tm s.o.dst undefV, st.h, st.nx, st.h, st.b :: st.hs⟩ undefV h (.skipEff hw hk rfl rfl rfl rfl rfl rfl)
  | true =>
   rw [hw] at h
   have h : outSat (dStep P call round (drawA P call round all ss) s st.tm st.h st.nx st.b st.hs) K := h
   unfold dStep at h
   cases hk : s.kd with
   | pur =>
    rw [hk] at h
    have h : outSat (dVal (drawA P call round all ss) s.o.dst st.tm st.h st.nx st.b st.hs (purA P st.tm s.o.op)) K := h
    cases he : purA P st.tm s.o.op with
    | no w => rw [he] at h; exact h.elim
    | ok v => rw [he] at h; exact go ⟨putT st.tm s.o.dst v, st.h, st.nx, st.b, st.hs⟩ v h (.pur hw hk he ⟨rfl, rfl, rfl, rfl⟩ rfl)
   | alc =>
    rw [hk] at h
    have h : outSat (dNew (drawA P call round all ss) s.o.dst st.tm st.h st.nx st.b st.hs (alcA P st.tm s.o.op)) K := h
    cases he : alcA P st.tm s.o.op with
    | no w => rw [he] at h; exact h.elim
    | ok nb => rw [he] at h; exact go ⟨putT st.tm s.o.dst (nbV st.nx nb), hset st.h st.nx (nbO nb), st.nx + 1, st.b, st.hs⟩ _ h (.alc hw hk nb he rfl rfl rfl rfl rfl rfl)
   | red =>
    rw [hk] at h
    have h : outSat (dRed P (drawA P call round all ss) s.o.dst s.chk s.o.op st.tm st.h st.nx st.b st.hs (redA P st.tm st.b s.o.op)) K := h
    cases he : redA P st.tm st.b s.o.op with
    | no w => rw [he] at h; exact h.elim
    | ok v =>
     rw [he] at h
     have h : outSat (bif agree P st.tm s.o.op v s.chk st.hs then drawA P call round all ss (putT st.tm s.o.dst v) st.h st.nx st.b st.hs else .no "reads part") K := h
     cases ha : agree P st.tm s.o.op v s.chk st.hs with
     | false => rw [ha] at h; exact h.elim
     | true => rw [ha] at h; exact go ⟨putT st.tm s.o.dst v, st.h, st.nx, st.b, st.hs⟩ v h (.red hw hk he ha ⟨rfl, rfl, rfl, rfl⟩ rfl)
   | eff =>
    rw [hk] at h
    have h : outSat (dEff (drawA P call round all ss) s.o.dst st.tm st.nx st.b st.hs (crOf call round (effA P st.tm st.h st.nx s.o.op))) K := h
    cases he : crOf call round (effA P st.tm st.h st.nx s.o.op) with
    | no w => rw [he] at h; exact h.elim
    | alt a b => rw [he] at h; exact h.elim
    | ok v h' nx' =>
     rw [he] at h
     have h : outSat (bif Nat.ble st.nx nx' then drawA P call round all ss (putT st.tm s.o.dst v) h' nx' h' (st.b :: st.hs) else .no "order") K := h
     cases hb : Nat.ble st.nx nx' with
     | false => rw [hb] at h; exact h.elim
     | true => rw [hb] at h; exact go ⟨putT st.tm s.o.dst v, h', nx', h', st.b :: st.hs⟩ v h (.eff hw hk he (Nat.le_of_ble_eq_true hb) rfl rfl rfl)
theorem crOf_sat {call : FuncId → List Value → Hp → Nat → CR} {round : Nat → List Value → Hp → Nat → CR} {r : OR} {v : Value} {h : Hp} {nx : Nat} (he : crOf call round r = .ok v h nx) : orSat call round r (fun v' h' nx' => v' = v ∧ h' = h ∧ nx' = nx) := by
 cases r with
 | val v' h' nx' => cases he; exact ⟨rfl, rfl, rfl⟩
 | call f args h' nx' =>
  have he : call f args h' nx' = .ok v h nx := he
  show crSat (call f args h' nx') _
  rw [he]; exact ⟨rfl, rfl, rfl⟩
 | round l args h' nx' =>
  have he : round l args h' nx' = .ok v h nx := he
  show crSat (round l args h' nx') _
  rw [he]; exact ⟨rfl, rfl, rfl⟩
 | no w => cases he
 | alt a b => cases he
theorem inner_spec (look : Nat → Nat) : ∀ (es : List Edge) (s i : Nat), (es.foldl (fun s e => if Region.binds .any e then s ||| 2 ^ e.on ||| look e.on else s) s).testBit i = true →
  s.testBit i = true ∨ ∃ e ∈ es, Region.binds .any e = true ∧ (e.on = i ∨ (look e.on).testBit i = true)
 | [], s, i, h => .inl h
 | e :: es, s, i, h => by
  rw [List.foldl_cons] at h
  rcases inner_spec look es _ i h with h | ⟨e', h1, h2⟩
  ·split at h
   ·rename_i hb
    simp only [Nat.testBit_or, Nat.testBit_two_pow, Bool.or_eq_true, decide_eq_true_eq] at h
    rcases h with (h | h) | h
    ·exact .inl h
    ·exact .inr ⟨e, by simp, hb, .inl h⟩
    ·exact .inr ⟨e, by simp, hb, .inr h⟩
   ·exact .inl h
  ·exact .inr ⟨e', by simp [h1], h2⟩
def Good (pre : List Oper) (acc : Array Nat) : Prop := acc.size = pre.length ∧ ∀ j i, (acc.getD j 0).testBit i = true →
 ∃ o e, pre[j]? = some o ∧ e ∈ o.after ∧ Region.binds .any e = true ∧ (e.on = i ∨ (e.on < j ∧ (acc.getD e.on 0).testBit i = true))
theorem getD_push_lt {acc : Array Nat} {v j : Nat} (h : j < acc.size) : (acc.push v).getD j 0 = acc.getD j 0 := by
 simp [Array.getD_eq_getD_getElem?, Array.getElem?_push, Nat.ne_of_lt h]
theorem good_fold : ∀ (os pre : List Oper) (acc : Array Nat), Good pre acc →
  Good (pre ++ os) (os.foldl (fun acc o => acc.push (o.after.foldl (fun s e => if Region.binds .any e then s ||| 2 ^ e.on ||| acc.getD e.on 0 else s) 0)) acc)
 | [], pre, acc, h => by simpa using h
 | o :: os, pre, acc, ⟨h1, h2⟩ => by
  have := good_fold os (pre ++ [o]) (acc.push (o.after.foldl (fun s e => if Region.binds .any e then s ||| 2 ^ e.on ||| acc.getD e.on 0 else s) 0)) ?_
  ·simpa using this
  refine ⟨by simp [h1], fun j i hb => ?_⟩
  rcases Nat.lt_trichotomy j acc.size with hj | hj | hj
  ·rw [getD_push_lt hj] at hb
   obtain ⟨o', e, g1, g2, g3, g4⟩ := h2 j i hb
   refine ⟨o', e, ?_, g2, g3, ?_⟩
   ·rw [List.getElem?_append_left (by omega)]; exact g1
   ·rcases g4 with g4 | ⟨g4, g5⟩
    ·exact .inl g4
    ·exact .inr ⟨g4, by rw [getD_push_lt (by omega)]; exact g5⟩
  ·subst hj
   have hv : (acc.push (o.after.foldl (fun s e => if Region.binds .any e then s ||| 2 ^ e.on ||| acc.getD e.on 0 else s) 0)).getD acc.size 0 = o.after.foldl (fun s e => if Region.binds .any e then s ||| 2 ^ e.on ||| acc.getD e.on 0 else s) 0 := by
    simp [Array.getD_eq_getD_getElem?]
   rw [hv, ← Array.foldl_toList] at hb
   rcases inner_spec (fun k => acc.getD k 0) o.after.toList 0 i hb with h | ⟨e, g1, g2, g3⟩
   ·simp at h
   ·refine ⟨o, e, by simp [h1], by simpa using g1, g2, ?_⟩
    rcases g3 with g3 | g3
    ·exact .inl g3
    ·right
     have hlt : e.on < acc.size := by
      rcases Nat.lt_or_ge e.on acc.size with h | h
      ·exact h
      ·have : acc.getD e.on 0 = 0 := by simp [Array.getD_eq_getD_getElem?, Array.getElem?_eq_none h]
       rw [this] at g3; simp at g3
     exact ⟨hlt, by rw [getD_push_lt hlt]; exact g3⟩
  ·have : (acc.push (o.after.foldl (fun s e => if Region.binds .any e then s ||| 2 ^ e.on ||| acc.getD e.on 0 else s) 0)).getD j 0 = 0 := by
    simp [Array.getD_eq_getD_getElem?, Array.getElem?_push, show ¬ j = acc.size by omega, Array.getElem?_eq_none (Nat.le_of_lt hj)]
   rw [this] at hb; simp at hb
theorem bitAt_anc (ops : List Oper) (j i : Nat) : bitAt (anc ops) j i = ((Region.before ⟨ops⟩).getD j 0).testBit i := by
 unfold bitAt anc
 rw [lget_eq]
 simp [Array.getD_eq_getD_getElem?]
theorem anc_spec {ops : List Oper} {j i : Nat} (h : bitAt (anc ops) j i = true) : ∃ o e, ops[j]? = some o ∧ e ∈ o.after ∧ Region.binds .any e = true ∧ (e.on = i ∨ (e.on < j ∧ bitAt (anc ops) e.on i = true)) := by
 rw [bitAt_anc] at h
 have hg : Good ops (Region.before ⟨ops⟩) := by
  have := good_fold ops [] #[] ⟨rfl, fun j i h => by simp at h⟩
  unfold Region.before
  rw [← Array.foldl_toList]
  simpa using this
 obtain ⟨o, e, h1, h2, h3, h4⟩ := hg.2 j i h
 exact ⟨o, e, h1, h2, h3, by rw [bitAt_anc]; exact h4⟩
theorem inner_in (look : Nat → Nat) : ∀ (es : List Edge) (s : Nat), (∀ i, s.testBit i = true → (es.foldl (fun s e => if Region.binds .any e then s ||| 2 ^ e.on ||| look e.on else s) s).testBit i = true) ∧
  ∀ e ∈ es, Region.binds .any e = true → (es.foldl (fun s e => if Region.binds .any e then s ||| 2 ^ e.on ||| look e.on else s) s).testBit e.on = true
 | [], s => ⟨fun i h => h, fun e h => by cases h⟩
 | x :: es, s => by
  obtain ⟨h1, h2⟩ := inner_in look es (if Region.binds .any x then s ||| 2 ^ x.on ||| look x.on else s)
  rw [List.foldl_cons]
  refine ⟨fun i h => h1 i ?_, fun e he hb => ?_⟩
  ·split
   ·simp [Nat.testBit_or, h]
   ·exact h
  ·rcases List.mem_cons.1 he with rfl | he
   ·refine h1 _ ?_
    rw [if_pos hb]
    simp [Nat.testBit_or, Nat.testBit_two_pow]
   ·exact h2 e he hb
theorem edge_fold : ∀ (os pre : List Oper) (acc : Array Nat), acc.size = pre.length → (∀ j o e, pre[j]? = some o → e ∈ o.after → Region.binds .any e = true → (acc.getD j 0).testBit e.on = true) →
  ∀ (j : Nat) (o : Oper) (e : Edge), (pre ++ os)[j]? = some o → e ∈ o.after → Region.binds .any e = true →
   ((os.foldl (fun acc o => acc.push (o.after.foldl (fun s e => if Region.binds .any e then s ||| 2 ^ e.on ||| acc.getD e.on 0 else s) 0)) acc).getD j 0).testBit e.on = true
 | [], pre, acc, _, h, j, o, e, hj, he, hb => h j o e (by simpa using hj) he hb
 | x :: os, pre, acc, hsz, h, j, o, e, hj, he, hb => by
  refine edge_fold os (pre ++ [x]) (acc.push (x.after.foldl (fun s e => if Region.binds .any e then s ||| 2 ^ e.on ||| acc.getD e.on 0 else s) 0)) (by simp [hsz]) (fun j o e hj he hb => ?_) j o e (by simpa using hj) he hb
  rcases Nat.lt_trichotomy j pre.length with hlt | hlt | hlt
  ·rw [getD_push_lt (by omega)]
   exact h j o e (by rw [List.getElem?_append_left hlt] at hj; exact hj) he hb
  ·have hx : x = o := by
    rw [List.getElem?_append_right (by omega), hlt] at hj
    simpa using hj
   subst hx
   have hv : (acc.push (x.after.foldl (fun s e => if Region.binds .any e then s ||| 2 ^ e.on ||| acc.getD e.on 0 else s) 0)).getD j 0 = x.after.foldl (fun s e => if Region.binds .any e then s ||| 2 ^ e.on ||| acc.getD e.on 0 else s) 0 := by
    rw [hlt, ← hsz]
    simp [Array.getD_eq_getD_getElem?]
   rw [hv, ← Array.foldl_toList]
   exact (inner_in (fun k => acc.getD k 0) x.after.toList 0).2 e (by simpa using he) hb
  ·rw [List.getElem?_eq_none (by simp; omega)] at hj; cases hj
theorem anc_edge {ops : List Oper} {j : Nat} {o : Oper} {e : Edge} (ho : ops[j]? = some o) (he : e ∈ o.after) (hb : Region.binds .any e = true) : bitAt (anc ops) j e.on = true := by
 rw [bitAt_anc]
 have := edge_fold ops [] #[] rfl (fun j o e h => by simp at h) j o e (by simpa using ho) he hb
 unfold Region.before
 rw [← Array.foldl_toList]
 simpa using this
theorem anc_listed {ops : List Oper} {L : Nat → Prop} (hcl : ∀ j o e, L j → ops[j]? = some o → e ∈ o.after → Region.binds .any e = true → L e.on) : ∀ (j : Nat), (∀ o e, ops[j]? = some o → e ∈ o.after → Region.binds .any e = true → L e.on) →
  ∀ i, bitAt (anc ops) j i = true → L i := by
 intro j
 induction j using Nat.strongRecOn with
 | _ j ih =>
  intro hj i hb
  obtain ⟨o, e, h1, h2, h3, h4⟩ := anc_spec hb
  have he := hj o e h1 h2 h3
  rcases h4 with h4 | ⟨h4, h5⟩
  ·rw [← h4]; exact he
  ·exact ih e.on h4 (fun o' e' g1 g2 g3 => hcl e.on o' e' he g1 g2 g3) i h5
structure Plan (P : Program) (ops : List Oper) (ss : List Step) : Prop where
 step : ∀ (p : Nat) (s : Step), ss[p]? = some s → ops[s.i]? = some s.o ∧ s.kd = kindOf P s.o.op ∧ s.chk = chkOf P ops (anc ops) ((ss.take p).map (·.i)) s.i
 cover : ∀ (i : Nat), i < ops.length → ∃ (p : Nat) (s : Step), ss[p]? = some s ∧ s.i = i
 inside : ∀ (j : Nat) (o : Oper) (e : Edge), ops[j]? = some o → e ∈ o.after → Region.binds .any e = true → e.on < j
 pair : ∀ (p q : Nat) (s t : Step), p < q → ss[p]? = some s → ss[q]? = some t → pairOk P ops (anc ops) s.i t.i = true
 len : ss.length = ops.length
theorem bt_eq (m k : Nat) : bt m k = m.testBit k := by
 unfold bt
 show Nat.beq ((m >>> k) &&& 1) 1 = (1 &&& (m >>> k) != 0)
 rw [Nat.and_comm 1, Nat.and_one_is_mod]
 rcases Nat.mod_two_eq_zero_or_one (m >>> k) with h | h <;> rw [h] <;> rfl
theorem ancE_eq {acc : List Nat} {A : Array Nat} (hA : A.toList = acc) : ∀ (es : List Edge) (s : Nat), ancE acc es s = es.foldl (fun s e => if Region.binds .any e then s ||| 2 ^ e.on ||| A.getD e.on 0 else s) s
 | [], s => rfl
 | e :: es, s => by
  have hl : (lget acc e.on).getD 0 = A.getD e.on 0 := by
   rw [lget_eq, ← hA]
   simp [Array.getD_eq_getD_getElem?]
  show ancE acc es _ = _
  rw [ancE_eq hA es, List.foldl_cons, hl]
  cases Region.binds .any e <;> rfl
theorem ancGo_eq : ∀ (os : List Oper) (acc : List Nat) (A : Array Nat), A.toList = acc →
  (os.foldl (fun acc o => acc.push (o.after.foldl (fun s e => if Region.binds .any e then s ||| 2 ^ e.on ||| acc.getD e.on 0 else s) 0)) A).toList = ancGo os acc
 | [], acc, A, h => h
 | o :: os, acc, A, h => by
  rw [List.foldl_cons]
  refine ancGo_eq os _ _ ?_
  rw [Array.toList_push, h, lapp_eq, ancE_eq h, ← Array.foldl_toList]
theorem ancGo_anc (ops : List Oper) : ancGo ops [] = anc ops := by
 unfold anc Region.before
 rw [← ancGo_eq ops [] #[] rfl, ← Array.foldl_toList]
def RcOk (P : Program) (ops : List Oper) (x : Rc) : Prop := ops[x.i]? = some x.o ∧ x.kd = kindOf P x.o.op ∧ x.e = opEff P x.o ∧ x.dm = oneM x.o.dst ∧ x.tm = tmpM ops x.o ∧ lget (anc ops) x.i = some x.am
theorem recs_ok {P : Program} {all : List Oper} : ∀ (os : List Oper) (aS0 : List Nat) (j : Nat), (∀ k o, os[k]? = some o → all[j + k]? = some o) → (∀ k a, aS0[k]? = some a → lget (anc all) (j + k) = some a) → ∀ x ∈ recs P all j os aS0, RcOk P all x
 | [], aS0, j, _, _, x, hx => by cases aS0 <;> cases hx
 | o :: os, [], j, _, _, x, hx => by cases hx
 | o :: os, a :: aS0, j, h1, h2, x, hx => by
  rcases List.mem_cons.1 hx with rfl | hx
  ·exact ⟨by simpa using h1 0 o rfl, rfl, rfl, rfl, rfl, by simpa using h2 0 a rfl⟩
  ·refine recs_ok os aS0 (j + 1) (fun k o' hk => ?_) (fun k a' hk => ?_) x hx
   ·have := h1 (k + 1) o' (by simpa using hk)
    rw [← this]; congr 1; omega
   ·have := h2 (k + 1) a' (by simpa using hk)
    rw [← this]; congr 1; omega
theorem takeF_mem {am bef : Nat} : ∀ {l : List Rc} {x : Rc}, x ∈ takeF am bef l → x ∈ l
 | [], x, h => by cases h
 | y :: l, x, h => by
  unfold takeF at h
  cases hb : (bt am y.i && !bt bef y.i) with
  | true =>
   rw [hb] at h
   rcases List.mem_cons.1 h with rfl | h
   ·exact List.mem_cons_self ..
   ·exact List.mem_cons_of_mem _ (takeF_mem h)
  | false => rw [hb] at h; exact List.mem_cons_of_mem _ (takeF_mem h)
theorem restF_mem {bef : Nat} : ∀ {l : List Rc} {x : Rc}, x ∈ restF bef l → x ∈ l
 | [], x, h => by cases h
 | y :: l, x, h => by
  unfold restF at h
  cases hb : bt bef y.i with
  | false =>
   rw [hb] at h
   rcases List.mem_cons.1 h with rfl | h
   ·exact List.mem_cons_self ..
   ·exact List.mem_cons_of_mem _ (restF_mem h)
  | true => rw [hb] at h; exact List.mem_cons_of_mem _ (restF_mem h)
theorem orderF_mem {all : List Rc} : ∀ {l : List Rc} {bef : Nat} {x : Rc}, (∀ y ∈ l, y ∈ all) → x ∈ orderF all l bef → x ∈ all
 | [], bef, x, _, h => restF_mem h
 | y :: l, bef, x, hl, h => by
  unfold orderF at h
  cases hb : (y.e && !bt bef y.i) with
  | false => rw [hb] at h; exact orderF_mem (fun z hz => hl z (List.mem_cons_of_mem _ hz)) h
  | true =>
   rw [hb] at h
   simp only [cond_true, lapp_eq, List.mem_append, List.mem_cons] at h
   rcases h with h | rfl | h
   ·exact takeF_mem h
   ·exact hl _ (List.mem_cons_self ..)
   ·exact orderF_mem (fun z hz => hl z (List.mem_cons_of_mem _ hz)) h
theorem oneM_mem {d : Option Nat} {t : Nat} (h : t ∈ d.toList) : (oneM d).testBit t = true := by
 cases d with
 | none => cases h
 | some d =>
  simp at h; subst h
  show (2 ^ t).testBit t = true
  simp
theorem opdM_mem {t : Nat} : ∀ {xs : List Operand}, t ∈ (xs.filterMap fun | .tmp t => some t | _ => none) → (opdM xs).testBit t = true
 | [], h => by simp at h
 | x :: xs, h => by
  rw [List.filterMap_cons] at h
  cases x with
  | tmp u =>
   simp only [List.mem_cons] at h
   show (2 ^ u ||| opdM xs).testBit t = true
   rw [Nat.testBit_or]
   rcases h with rfl | h
   ·simp
   ·rw [opdM_mem h]; simp
  | const v => exact opdM_mem (xs := xs) h
  | global g => exact opdM_mem (xs := xs) h
  | func f => exact opdM_mem (xs := xs) h
theorem tmpM_mem {ops : List Oper} {o : Oper} {t : Nat} (h : t ∈ tmpsOf ops o) : (tmpM ops o).testBit t = true := by
 unfold tmpsOf at h
 unfold tmpM
 show (oneM o.dst ||| (opdM o.op.operands.toList ||| grdM ops o.guard)).testBit t = true
 rw [Nat.testBit_or, Nat.testBit_or]
 simp only [List.mem_append] at h
 rcases h with (h | h) | h
 ·rw [oneM_mem h]; rfl
 ·rw [opdM_mem h]; simp
 ·have : (grdM ops o.guard).testBit t = true := by
   unfold grdM
   split at h
   ·rename_i g b hg
    cases hl : lget ops g with
    | none => rw [hl] at h; cases h
    | some o' =>
     rw [hl] at h
     exact oneM_mem h
   ·cases h
  rw [this]; simp
theorem disj_not {a b t : Nat} (h : disj a b = true) (ha : a.testBit t = true) (hb : b.testBit t = true) : False := by
 have : a &&& b = 0 := Nat.eq_of_beq_eq_true h
 have h2 : (a &&& b).testBit t = true := by rw [Nat.testBit_and, ha, hb]; rfl
 rw [this] at h2; simp at h2
theorem pairF_ok {P : Program} {ops : List Oper} {x y : Rc} (hx : RcOk P ops x) (hy : RcOk P ops y) (h : pairF x y = true) : pairOk P ops (anc ops) x.i y.i = true := by
 obtain ⟨x1, x2, x3, x4, x5, x6⟩ := hx
 obtain ⟨y1, y2, y3, y4, y5, y6⟩ := hy
 unfold pairF at h
 simp only [Bool.and_eq_true] at h
 obtain ⟨⟨⟨h1, h2⟩, h3⟩, h4⟩ := h
 have hbx : ∀ k, bt x.am k = bitAt (anc ops) x.i k := fun k => by unfold bitAt; rw [x6, bt_eq]; rfl
 have hby : ∀ k, bt y.am k = bitAt (anc ops) y.i k := fun k => by unfold bitAt; rw [y6, bt_eq]; rfl
 rw [hbx] at h2
 rw [hby] at h3 h4
 have hey : isEffAt P ops y.i = y.e := by unfold isEffAt; rw [lget_eq, y1, y3]; rfl
 unfold pairOk
 simp only [Bool.and_eq_true]
 refine ⟨⟨⟨h1, h2⟩, by rw [hey]; exact h3⟩, ?_⟩
 rw [lget_eq, lget_eq, x1, y1]
 simp only [Bool.or_eq_true, Bool.and_eq_true] at h4 ⊢
 rcases h4 with h4 | ⟨h4, h5⟩
 ·exact .inl h4
 ·right
  constructor
  ·rw [List.all_eq_true]
   intro d hd
   cases hc : (tmpsOf ops y.o).contains d with
   | false => rfl
   | true =>
    exfalso
    rw [x4, y5] at h4
    exact disj_not h4 (oneM_mem hd) (tmpM_mem (by simpa using hc))
  ·rw [List.all_eq_true]
   intro d hd
   cases hc : (tmpsOf ops x.o).contains d with
   | false => rfl
   | true =>
    exfalso
    rw [y4, x5] at h5
    exact disj_not h5 (oneM_mem hd) (tmpM_mem (by simpa using hc))
theorem allF_ok {x : Rc} : ∀ {l : List Rc}, allF x l = true → ∀ y ∈ l, pairF x y = true
 | [], _, y, hy => by cases hy
 | z :: l, h, y, hy => by
  unfold allF at h
  obtain ⟨h1, h2⟩ : pairF x z = true ∧ allF x l = true := by
   cases hp : pairF x z with
   | true => rw [hp] at h; exact ⟨rfl, h⟩
   | false => rw [hp] at h; cases h
  rcases List.mem_cons.1 hy with rfl | hy
  ·exact h1
  ·exact allF_ok h2 y hy
theorem pairsF_ok : ∀ {l : List Rc}, pairsF l = true → ∀ (p q : Nat) (x y : Rc), p < q → l[p]? = some x → l[q]? = some y → pairF x y = true
 | [], _, p, q, x, y, _, h, _ => by simp at h
 | z :: l, h, p, q, x, y, hpq, hi, hj => by
  unfold pairsF at h
  obtain ⟨h1, h2⟩ : allF z l = true ∧ pairsF l = true := by
   cases hp : allF z l with
   | true => rw [hp] at h; exact ⟨rfl, h⟩
   | false => rw [hp] at h; cases h
  cases q with
  | zero => omega
  | succ q =>
   have hj : l[q]? = some y := by simpa using hj
   cases p with
   | zero => simp at hi; subst hi; exact allF_ok h1 y (List.mem_of_getElem? hj)
   | succ p => exact pairsF_ok h2 p q x y (by omega) (by simpa using hi) hj
theorem covF_mem {i : Nat} : ∀ {l : List Rc}, (covF l).testBit i = true → ∃ x ∈ l, x.i = i
 | [], h => by simp [covF] at h
 | x :: l, h => by
  have h : (2 ^ x.i ||| covF l).testBit i = true := h
  rw [Nat.testBit_or] at h
  simp only [Bool.or_eq_true] at h
  rcases h with h | h
  ·rw [Nat.testBit_two_pow] at h
   exact ⟨x, List.mem_cons_self .., by simpa using h⟩
  ·obtain ⟨y, h1, h2⟩ := covF_mem h
   exact ⟨y, List.mem_cons_of_mem _ h1, h2⟩
theorem insE_ok {j : Nat} : ∀ {es : List Edge}, insE j es = true → ∀ e ∈ es, Region.binds .any e = true → e.on < j
 | [], _, e, he, _ => by cases he
 | x :: es, h, e, he, hb => by
  unfold insE at h
  obtain ⟨h1, h2⟩ : (!Region.binds .any x || Nat.blt x.on j) = true ∧ insE j es = true := by
   cases hp : (!Region.binds .any x || Nat.blt x.on j) with
   | true => rw [hp] at h; exact ⟨rfl, h⟩
   | false => rw [hp] at h; cases h
  rcases List.mem_cons.1 he with rfl | he
  ·rw [hb] at h1; simpa [Nat.blt_eq] using h1
  ·exact insE_ok h2 e he hb
theorem insF_ok : ∀ {os : List Oper} {j : Nat}, insF j os = true → ∀ k o, os[k]? = some o → insE (j + k) o.after.toList = true
 | [], j, _, k, o, h => by simp at h
 | x :: os, j, h, k, o, hk => by
  unfold insF at h
  obtain ⟨h1, h2⟩ : insE j x.after.toList = true ∧ insF (Nat.succ j) os = true := by
   cases hp : insE j x.after.toList with
   | true => rw [hp] at h; exact ⟨rfl, h⟩
   | false => rw [hp] at h; cases h
  cases k with
  | zero => simp at hk; subst hk; exact h1
  | succ k =>
   have := insF_ok h2 k o (by simpa using hk)
   have e : j + (k + 1) = Nat.succ j + k := by omega
   rw [e]; exact this
theorem cntF_eq {P : Program} {ops : List Oper} {y : Rc} (hy : RcOk P ops y) : ∀ {b : List Rc}, (∀ x ∈ b, RcOk P ops x) → cntF y.am b = ((b.map (·.i)).filter (fun e => isEffAt P ops e && !bitAt (anc ops) y.i e)).length
 | [], _ => rfl
 | x :: b, h => by
  have ih := cntF_eq hy (b := b) fun z hz => h z (List.mem_cons_of_mem _ hz)
  obtain ⟨x1, x2, x3, x4, x5, x6⟩ := h x (List.mem_cons_self ..)
  have hex : isEffAt P ops x.i = x.e := by unfold isEffAt; rw [lget_eq, x1, x3]; rfl
  have hb : bitAt (anc ops) y.i x.i = bt y.am x.i := by unfold bitAt; rw [hy.2.2.2.2.2, bt_eq]; rfl
  unfold cntF
  rw [List.map_cons, List.filter_cons, hex, hb]
  cases (x.e && !bt y.am x.i) with
  | true => simp only [cond_true, if_true, List.length_cons, ih]
  | false => simp only [cond_false, Bool.false_eq_true, if_false, ih]
theorem stepsF_spec {P : Program} {ops : List Oper} : ∀ {l b : List Rc}, (∀ x ∈ l, RcOk P ops x) → (∀ x ∈ b, RcOk P ops x) → (stepsF b l).map (·.i) = l.map (·.i) ∧
  ∀ p s, (stepsF b l)[p]? = some s → ops[s.i]? = some s.o ∧ s.kd = kindOf P s.o.op ∧ s.chk = chkOf P ops (anc ops) ((b.reverse.map (·.i)) ++ ((stepsF b l).take p).map (·.i)) s.i
 | [], b, _, _ => ⟨rfl, fun p s hp => by simp [stepsF] at hp⟩
 | x :: l, b, hl, hb => by
  have hx := hl x (List.mem_cons_self ..)
  obtain ⟨h1, h2⟩ := stepsF_spec (l := l) (b := x :: b) (fun z hz => hl z (List.mem_cons_of_mem _ hz)) (fun z hz => by
   rcases List.mem_cons.1 hz with rfl | hz
   ·exact hx
   ·exact hb z hz)
  refine ⟨by simp [stepsF, h1], fun p s hp => ?_⟩
  cases p with
  | zero =>
   simp [stepsF] at hp; subst hp
   refine ⟨hx.1, hx.2.1, ?_⟩
   show cntF x.am b = _
   unfold chkOf
   rw [cntF_eq hx hb]
   simp only [List.take_zero, List.map_nil, List.append_nil, List.map_reverse, List.filter_reverse, List.length_reverse]
  | succ p =>
   have := h2 p s (by simpa [stepsF] using hp)
   simpa [stepsF] using this
theorem planOf_spec {P : Program} {ops : List Oper} {ss : List Step} (h : planOf P ops = some ss) : Plan P ops ss := by
 unfold planOf planF1 at h
 have hall : ∀ x ∈ recs P ops 0 ops (ancGo ops []), RcOk P ops x := recs_ok ops _ 0 (fun k o hk => by simpa using hk) (fun k a hk => by rw [← ancGo_anc, lget_eq]; simpa using hk)
 have hl0 : ∀ x ∈ orderF (recs P ops 0 ops (ancGo ops [])) (recs P ops 0 ops (ancGo ops [])) 0, RcOk P ops x := fun x hx => hall x (orderF_mem (fun _ h => h) hx)
 generalize orderF (recs P ops 0 ops (ancGo ops [])) (recs P ops 0 ops (ancGo ops [])) 0 = l at h hl0
 unfold planF2 at h
 obtain ⟨hok, hst⟩ := cond_some h
 simp only [Bool.and_eq_true] at hok
 obtain ⟨hlen, hcov, hins, hpair⟩ := hok
 cases hst
 obtain ⟨h1, h2⟩ := stepsF_spec hl0 (b := []) (fun x hx => by cases hx)
 have hlen : l.length = ops.length := by
  have := Nat.eq_of_beq_eq_true hlen
  rwa [llen_eq, llen_eq] at this
 have hcov : covF l = 2 ^ ops.length - 1 := by
  have := Nat.eq_of_beq_eq_true hcov
  rw [llen_eq] at this
  exact this
 have hget : ∀ (p : Nat) (s : Step), (stepsF [] l)[p]? = some s → ∃ x, l[p]? = some x ∧ x.i = s.i := fun p s hp => by
  have := congrArg (fun z => z[p]?) h1
  simp only [List.getElem?_map, hp, Option.map_some] at this
  cases hx : l[p]? with
  | none => rw [hx] at this; cases this
  | some x => rw [hx] at this; simp at this; exact ⟨x, rfl, this.symm⟩
 refine ⟨fun p s hp => by simpa using h2 p s hp, fun i hi => ?_, fun j o e ho he hb => ?_, fun p q s t hpq hs ht => ?_, ?_⟩
 ·have hb : (covF l).testBit i = true := by rw [hcov, Nat.testBit_two_pow_sub_one]; simpa using hi
  obtain ⟨x, hx, rfl⟩ := covF_mem hb
  have hm : x.i ∈ (stepsF [] l).map (·.i) := by rw [h1]; exact List.mem_map.2 ⟨x, hx, rfl⟩
  obtain ⟨s, hs, he⟩ := List.mem_map.1 hm
  obtain ⟨p, hp⟩ := List.getElem?_of_mem hs
  exact ⟨p, s, hp, he⟩
 ·have := insF_ok hins j o ho
  rw [Nat.zero_add] at this
  exact insE_ok this e (by simpa using he) hb
 ·obtain ⟨x, hx, ex⟩ := hget p s hs
  obtain ⟨y, hy, ey⟩ := hget q t ht
  rw [← ex, ← ey]
  exact pairF_ok (hl0 x (List.mem_of_getElem? hx)) (hl0 y (List.mem_of_getElem? hy)) (pairsF_ok hpair p q x y hpq hx hy)
 ·have := congrArg List.length h1
  simp only [List.length_map] at this
  rw [this, hlen]
def cut (ρ : Rho) (n : Nat) : Rho := fun b => if b < n then ρ b else none
theorem cut_lt {ρ : Rho} {n b : Nat} (h : b < n) : cut ρ n b = ρ b := by simp [cut, h]
theorem cut_ge {ρ : Rho} {n b : Nat} (h : n ≤ b) : cut ρ n b = none := by simp [cut, Nat.not_lt.2 h]
theorem cut_fr (ρ : Rho) (n : Nat) : Fr (cut ρ n) n := fun b h => cut_ge h
theorem cut_sub (ρ : Rho) {n m : Nat} (h : n ≤ m) : Sub (cut ρ n) (cut ρ m) := fun b p hb => by
 by_cases hn : b < n
 ·rw [cut_lt hn] at hb; rw [cut_lt (by omega)]; exact hb
 ·rw [cut_ge (by omega)] at hb; cases hb
theorem cut_cut (ρ : Rho) {n : Nat} (h : Fr ρ n) : cut ρ n = ρ := funext fun b => by
 by_cases hn : b < n
 ·exact cut_lt hn
 ·rw [cut_ge (by omega), h b (by omega)]
structure Run (P : Program) (call : FuncId → List Value → Hp → Nat → CR) (round : Nat → List Value → Hp → Nat → CR) (ops : Array Oper) (ss : List Step) (σ : Nat → St) (val : Nat → Value) : Prop where
 plan : Plan P ops.toList ss
 tr : ∀ (j : Nat) (s : Step), ss[j]? = some s → StepOk P call round ops.toList s (σ j) (σ (j + 1)) (val j)
def Lst (listed : Array Bool) (i : Nat) : Prop := listed.getD i false = true
structure Cl (ops : Array Oper) (listed : Array Bool) : Prop where
 size : listed.size = ops.size
 closed : ∀ (j : Nat) (o : Oper) (e : Edge), Lst listed j → ops.toList[j]? = some o → e ∈ o.after → Region.binds .any e = true → Lst listed e.on
theorem Lst_set {listed : Array Bool} {i j : Nat} : Lst (listed.setIfInBounds i true) j ↔ (j = i ∧ i < listed.size) ∨ Lst listed j := by
 unfold Lst
 by_cases e : j = i
 ·subst e
  by_cases hj : j < listed.size
  ·simp [Array.getD_eq_getD_getElem?, Array.getElem?_setIfInBounds, hj]
  ·simp [Array.getD_eq_getD_getElem?, Array.getElem?_setIfInBounds, hj]
 ·simp [Array.getD_eq_getD_getElem?, Array.getElem?_setIfInBounds, Ne.symm e, e]
section
variable {P : Program} {call : FuncId → List Value → Hp → Nat → CR} {round : Nat → List Value → Hp → Nat → CR} {ops : Array Oper} {ss : List Step} {σ : Nat → St} {val : Nat → Value}
theorem Run.nx_le (R : Run P call round ops ss σ val) {i : Nat} : ∀ {j : Nat}, i ≤ j → j ≤ ss.length → (σ i).nx ≤ (σ j).nx
 | 0, h, _ => by
  have : i = 0 := by omega
  subst this; exact Nat.le_refl _
 | j + 1, h, hj => by
  by_cases e : i = j + 1
  ·subst e; exact Nat.le_refl _
  ·have hs : ss[j]? = some (ss[j]'(by omega)) := List.getElem?_eq_getElem _
   exact Nat.le_trans (R.nx_le (by omega) (by omega)) (R.tr j _ hs).nx_le
theorem Plan.ne (R : Plan P ops.toList ss) {p q : Nat} {s t : Step} (hp : ss[p]? = some s) (hq : ss[q]? = some t) (h : p ≠ q) : s.i ≠ t.i := by
 have key : ∀ (p q : Nat) (s t : Step), p < q → ss[p]? = some s → ss[q]? = some t → s.i ≠ t.i := fun p q s t hpq hs ht => by
  have := R.pair p q s t hpq hs ht
  unfold pairOk at this
  simp only [Bool.and_eq_true] at this
  have h1 := this.1.1.1
  intro e
  rw [e, Nat.beq_refl] at h1
  cases h1
 rcases Nat.lt_or_gt_of_ne h with h | h
 ·exact key p q s t h hp hq
 ·exact (key q p t s h hq hp).symm
theorem Plan.apart (R : Plan P ops.toList ss) {p q : Nat} {s t : Step} (hpq : p < q) (hs : ss[p]? = some s) (ht : ss[q]? = some t) :
  bitAt (anc ops.toList) t.i s.i = true ∨ ((∀ d, s.o.dst = some d → d ∉ tmpsOf ops.toList t.o) ∧ ∀ d, t.o.dst = some d → d ∉ tmpsOf ops.toList s.o) := by
 have := R.pair p q s t hpq hs ht
 unfold pairOk at this
 simp only [Bool.and_eq_true] at this
 have h4 := this.2
 rw [lget_eq, lget_eq, (R.step p s hs).1, (R.step q t ht).1] at h4
 simp only [Bool.or_eq_true, Bool.and_eq_true, List.all_eq_true] at h4
 rcases h4 with h4 | ⟨h4, h5⟩
 ·exact .inl h4
 ·refine .inr ⟨fun d hd hm => ?_, fun d hd hm => ?_⟩
  ·have := h4 d (by simp [hd])
   simp [hm] at this
  ·have := h5 d (by simp [hd])
   simp [hm] at this
theorem Plan.eff (R : Plan P ops.toList ss) {p q : Nat} {s t : Step} (hpq : p < q) (hs : ss[p]? = some s) (ht : ss[q]? = some t) (hk : t.kd = .eff) : bitAt (anc ops.toList) t.i s.i = true := by
 have := R.pair p q s t hpq hs ht
 unfold pairOk at this
 simp only [Bool.and_eq_true] at this
 have h3 := this.1.2
 have h1 := R.step q t ht
 have he : isEffAt P ops.toList t.i = true := by
  unfold isEffAt
  rw [lget_eq, h1.1]
  simp only [Option.map_some, Option.getD_some, opEff]
  rw [← h1.2.1, hk]; rfl
 simpa [he] using h3
theorem Plan.after (R : Plan P ops.toList ss) {p q : Nat} {s t : Step} (hpq : p < q) (hs : ss[p]? = some s) (ht : ss[q]? = some t) : bitAt (anc ops.toList) s.i t.i = false := by
 have := R.pair p q s t hpq hs ht
 unfold pairOk at this
 simp only [Bool.and_eq_true] at this
 simpa using this.1.1.2
theorem Cl.ahead {listed : Array Bool} (hc : Cl ops listed) {j i : Nat} (hj : Lst listed j) (hb : bitAt (anc ops.toList) j i = true) : Lst listed i :=
 anc_listed (L := Lst listed) hc.closed j (fun o e h1 h2 h3 => hc.closed j o e hj h1 h2 h3) i hb
theorem Cl.aheadReady {listed : Array Bool} (hc : Cl ops listed) {j i : Nat} (hj : j ∈ Region.ready .any ops listed) (hb : bitAt (anc ops.toList) j i = true) : Lst listed i := by
 obtain ⟨_, o, ho, hall⟩ := mem_ready.1 hj
 refine anc_listed (L := Lst listed) hc.closed j (fun o' e h1 h2 h3 => ?_) i hb
 have : ops.toList[j]? = some o := by simpa using ho
 rw [this] at h1; cases h1
 exact hall e h2 h3
theorem Cl.set {listed : Array Bool} (hc : Cl ops listed) {i : Nat} (hi : i ∈ Region.ready .any ops listed) : Cl ops (listed.setIfInBounds i true) := by
 obtain ⟨_, o, ho, hall⟩ := mem_ready.1 hi
 refine ⟨by simpa using hc.size, fun j o' e hj h1 h2 h3 => ?_⟩
 rw [Lst_set] at hj ⊢
 right
 rcases hj with ⟨rfl, _⟩ | hj
 ·have : ops.toList[j]? = some o := by simpa using ho
  rw [this] at h1; cases h1
  exact hall e h2 h3
 ·exact hc.closed j o' e hj h1 h2 h3
def Tmps (ss : List Step) (σ : Nat → St) (listed : Array Bool) (ρ : Rho) (a : Act) : Prop := ∀ (j d : Nat), j ≤ ss.length →
 (∀ (q : Nat) (s : Step), q < j → ss[q]? = some s → s.o.dst = some d → Lst listed s.i) → (∀ (q : Nat) (s : Step), j ≤ q → ss[q]? = some s → s.o.dst = some d → ¬ Lst listed s.i) →
 VR (cut ρ (σ j).nx) (tget (σ j).tm d) (a.tmps.getD d undef)
theorem dst_mem_tmps {all : List Oper} {o : Oper} {d : Tmp} (h : o.dst = some d) : d ∈ tmpsOf all o := by
 unfold tmpsOf; simp [h]
theorem Tmps.look (R : Run P call round ops ss σ val) {listed : Array Bool} {ρ : Rho} {a : Act} (hT : Tmps ss σ listed ρ a) (hc : Cl ops listed) {p : Nat} {s : Step} (hs : ss[p]? = some s) (hr : s.i ∈ Region.ready .any ops listed)
  {d : Nat} (hd : d ∈ tmpsOf ops.toList s.o) : VR (cut ρ (σ p).nx) (tget (σ p).tm d) (a.tmps.getD d undef) := by
 have hp : p < ss.length := (List.getElem?_eq_some_iff.1 hs).1
 have hun : ¬ Lst listed s.i := by
  have h0 := (mem_ready.1 hr).1
  unfold Lst
  intro h1
  rcases Nat.lt_or_ge s.i listed.size with h | h
  ·simp [Array.getD_eq_getD_getElem?, h] at h0 h1; rw [h0] at h1; cases h1
  ·simp [Array.getD_eq_getD_getElem?, Array.getElem?_eq_none h] at h1
 refine hT p d (by omega) (fun q t hq ht hdst => ?_) (fun q t hq ht hdst hL => ?_)
 ·rcases R.plan.apart hq ht hs with h | ⟨h, _⟩
  ·exact hc.aheadReady hr h
  ·exact absurd hd (h d hdst)
 ·rcases Nat.lt_or_ge p q with hpq | hpq
  ·rcases R.plan.apart hpq hs ht with h | ⟨_, h⟩
   ·exact hun (hc.ahead hL h)
   ·exact h d hdst hd
  ·have : q = p := by omega
   subst this
   rw [hs] at ht; cases ht
   exact hun hL
theorem Tmps.step (R : Run P call round ops ss σ val) {listed : Array Bool} {ρ ρ' : Rho} {a : Act} (hT : Tmps ss σ listed ρ a) (hc : Cl ops listed) (hsub : ∀ m, Sub (cut ρ m) (cut ρ' m)) {p : Nat} {s : Step} (hs : ss[p]? = some s)
  (hr : s.i ∈ Region.ready .any ops listed) {c : Value} (hv : VR (cut ρ' (σ (p + 1)).nx) (val p) c) (hfit : ∀ d, s.o.dst = some d → d < a.tmps.size) :
  Tmps ss σ (listed.setIfInBounds s.i true) ρ' (a.put s.o.dst c) := by
 have hp : p < ss.length := (List.getElem?_eq_some_iff.1 hs).1
 have hilt : s.i < listed.size := by
  obtain ⟨_, o, ho, _⟩ := mem_ready.1 hr
  rw [hc.size]
  exact (Array.getElem?_eq_some_iff.1 ho).1
 have hun : ¬ Lst listed s.i := by
  have h0 := (mem_ready.1 hr).1
  unfold Lst
  intro h1
  simp [Array.getD_eq_getD_getElem?, hilt] at h0 h1; rw [h0] at h1; cases h1
 intro j d hj hb hf
 by_cases hd : s.o.dst = some d
 ·
  have hpj : p < j := by
   rcases Nat.lt_or_ge p j with h | h
   ·exact h
   ·exact absurd (Lst_set.2 (.inl ⟨rfl, hilt⟩)) (hf p s h hs hd)
  have hlast : ∀ k, p + 1 + k ≤ j → tget (σ (p + 1 + k)).tm d = val p := by
   intro k
   induction k with
   | zero =>
    intro _
    rw [(R.tr p s hs).tm_eq, hd]
    show tget (tset (σ p).tm d (val p)) d = val p
    rw [tget_tset, if_pos rfl]
   | succ k ih =>
    intro hk
    have hq : ss[p + 1 + k]? = some (ss[p + 1 + k]'(by omega)) := List.getElem?_eq_getElem _
    generalize ss[p + 1 + k]'(by omega) = t at hq
    have hne : t.o.dst ≠ some d := fun hdt => by
     have hL := hb (p + 1 + k) t (by omega) hq hdt
     rw [Lst_set] at hL
     rcases hL with ⟨h, _⟩ | hL
     ·exact R.plan.ne hq hs (by omega) h
     ·rcases R.plan.apart (show p < p + 1 + k by omega) hs hq with h | ⟨h, _⟩
      ·exact hun (hc.ahead hL h)
      ·exact h d hd (dst_mem_tmps hdt)
    rw [show p + 1 + (k + 1) = p + 1 + k + 1 by omega, (R.tr _ t hq).tm_eq]
    cases hdt : t.o.dst with
    | none => exact ih (by omega)
    | some d' =>
     show tget (tset _ d' _) d = _
     rw [tget_tset, if_neg (fun e => hne (by rw [hdt, e]))]
     exact ih (by omega)
  have htg : tget (σ j).tm d = val p := by
   have := hlast (j - (p + 1)) (by omega)
   rwa [show p + 1 + (j - (p + 1)) = j by omega] at this
  rw [htg]
  have hget : (a.put s.o.dst c).tmps.getD d undef = c := by
   have := hfit d hd
   simp [Act.put, hd, Array.getD_eq_getD_getElem?, Array.getElem?_setIfInBounds, this]
  rw [hget]
  exact hv.mono (cut_sub ρ' (R.nx_le (show p + 1 ≤ j by omega) hj))
 ·have hget : (a.put s.o.dst c).tmps.getD d undef = a.tmps.getD d undef := by
   cases hds : s.o.dst with
   | none => rfl
   | some d' =>
    have : d' ≠ d := fun e => hd (by rw [hds, e])
    simp [Act.put, Array.getD_eq_getD_getElem?, Array.getElem?_setIfInBounds, this]
  rw [hget]
  refine (hT j d hj (fun q t hq ht hdst => ?_) (fun q t hq ht hdst hL => ?_)).mono (hsub _)
  ·have := hb q t hq ht hdst
   rw [Lst_set] at this
   rcases this with ⟨h, _⟩ | h
   ·exfalso
    have : q = p := by
     rcases Nat.decEq q p with h' | h'
     ·exact absurd h (R.plan.ne ht hs h')
     ·exact h'
    subst this
    rw [hs] at ht; cases ht
    exact hd hdst
   ·exact h
  ·exact hf q t hq ht hdst (Lst_set.2 (.inr hL))
end
section
variable {P : Program} {call : FuncId → List Value → Hp → Nat → CR} {round : Nat → List Value → Hp → Nat → CR} {ops : Array Oper} {ss : List Step} {σ : Nat → St} {val : Nat → Value}
structure IsAl (P : Program) (ops : Array Oper) (ss : List Step) (σ : Nat → St) (listed : Array Bool) (p : Nat) (s : Step) (nb : NB) : Prop where
 at_ : ss[p]? = some s
 lst : Lst listed s.i
 want : wantedA ops.toList (σ p).tm s.o.guard = true
 kd : s.kd = .alc
 ok : alcA P (σ p).tm s.o.op = .ok nb
theorem IsAl.next (R : Run P call round ops ss σ val) {listed : Array Bool} {p : Nat} {s : Step} {nb : NB} (h : IsAl P ops ss σ listed p s nb) : (σ (p + 1)).nx = (σ p).nx + 1 ∧ (σ (p + 1)).h = hset (σ p).h (σ p).nx (nbO nb) ∧ (σ (p + 1)).b = (σ p).b := by
 have hw := h.want
 have hk := h.kd
 have ho := h.ok
 cases R.tr p s h.at_ with
 | skip hw' _ _ _ _ => rw [hw] at hw'; cases hw'
 | skipEff hw' _ _ _ _ _ _ _ => rw [hw] at hw'; cases hw'
 | pur _ hk' _ _ _ => rw [hk] at hk'; cases hk'
 | red _ hk' _ _ _ _ => rw [hk] at hk'; cases hk'
 | eff _ hk' _ _ _ _ _ => rw [hk] at hk'; cases hk'
 | alc _ _ nb' he hv hh hn hb hhs ht =>
  rw [ho] at he; cases he
  exact ⟨hn, hh, hb⟩
theorem IsAl.lt {listed : Array Bool} {p : Nat} {s : Step} {nb : NB} (h : IsAl P ops ss σ listed p s nb) : p < ss.length := (List.getElem?_eq_some_iff.1 h.at_).1
theorem IsAl.nx_ne (R : Run P call round ops ss σ val) {listed : Array Bool} {p q : Nat} {s : Step} {nb : NB} (h : IsAl P ops ss σ listed p s nb) (hq : q < ss.length) (hpq : p < q) : (σ p).nx < (σ q).nx := by
 have h1 := (h.next R).1
 have := R.nx_le (show p + 1 ≤ q by omega) (by omega)
 omega
structure Mem (P : Program) (ops : Array Oper) (ss : List Step) (σ : Nat → St) (B : Nat) (ρ0 : Rho) (w0 : World) (listed : Array Bool) (c : Nat) (ρ : Rho) (w : World) : Prop where
 le : c ≤ ss.length
 done : ∀ (q : Nat) (s : Step), q < c → ss[q]? = some s → Lst listed s.i
 mv : Mv B ρ0 (hget (σ 0).h) w0 (σ 0).nx (σ c).nx (cut ρ (σ c).nx) (hget (σ c).h) w
 sub : ∀ (x : Nat) (o : AObj), hget (σ c).b x = some o → hget (σ c).h x = some o
 ext : ∀ (p : Nat) (s : Step) (nb : NB), c ≤ p → IsAl P ops ss σ listed p s nb → ∃ pl, ρ (σ p).nx = some pl ∧ ObjR B (cut ρ ((σ p).nx + 1)) w pl (nbO nb) ∧ w0.heap.size ≤ pl.blk ∧ pl.blk < w.heap.size ∧ ¬ Owns B (cut ρ (σ c).nx) (hget (σ c).h) pl.blk
 dis : ∀ (p q : Nat) (s t : Step) (nb nb' : NB) (pl pl' : Place), c ≤ p → c ≤ q → IsAl P ops ss σ listed p s nb → IsAl P ops ss σ listed q t nb' → p ≠ q → ρ (σ p).nx = some pl → ρ (σ q).nx = some pl' → pl.blk ≠ pl'.blk
 supp : ∀ (b : Nat) (pl : Place), ρ b = some pl → b < (σ c).nx ∨ ∃ p s nb, c ≤ p ∧ IsAl P ops ss σ listed p s nb ∧ b = (σ p).nx
theorem Mv.adopt {B : Nat} {ρ0 ρ ρ' : Rho} {H0 H : AH} {w0 w : World} {lo hi : Nat} (hm : Mv B ρ0 H0 w0 lo hi ρ H w) {pl : Place} {o : AObj} (hn : ρ hi = none) (hρ : ρ' = fun k => if k = hi then some pl else ρ k) (hfr0 : ρ0 hi = none ∨ lo ≤ hi)
  (hob : ObjR B ρ' w pl o) (hb : w0.heap.size ≤ pl.blk) (hno : ¬ Owns B ρ H pl.blk) : Mv B ρ0 H0 w0 lo (hi + 1) ρ' (H.put hi o) w := by
 subst hρ
 have hsub : Sub ρ (fun k => if k = hi then some pl else ρ k) := fun b q hq => by
  by_cases e : b = hi
  ·subst e; rw [hn] at hq; cases hq
  ·simp [e, hq]
 have hothers : ∀ b q, b ≠ hi → (if b = hi then some pl else ρ b) = some q → ρ b = some q := fun b q e h => by simpa [e] using h
 have hsm : ∀ b, b ≠ hi → ((H.put hi o) b).isSome → (H b).isSome := fun b e h => by simpa [AH.put, e] using h
 refine ⟨⟨hm.rel.base, ?_, ?_, ?_⟩, fun b hb' => ?_, hm.size, hm.os, hm.tape, hm.output, hm.frame, ?_, by have := hm.le; omega⟩
 ·intro b q x hq hx
  by_cases e : b = hi
  ·subst e; simp [AH.put] at hq hx; subst hq; subst hx; exact hob
  ·have hq' := hothers b q e hq
   have hx' : H b = some x := by simpa [AH.put, e] using hx
   exact (hm.rel.obj b q x hq' hx').mono hsub rfl
 ·intro b b' q q' hq hq' hs hs' hB heq
  by_cases e : b = hi <;> by_cases e' : b' = hi
  ·rw [e, e']
  ·subst e; simp at hq; subst hq
   exact absurd ⟨b', q', hothers b' q' e' hq', hsm b' e' hs', heq.symm, hB⟩ hno
  ·subst e'; simp at hq'; subst hq'
   exact absurd ⟨b, q, hothers b q e hq, hsm b e hs, heq, by omega⟩ hno
  ·exact hm.rel.inj b b' q q' (hothers b q e hq) (hothers b' q' e' hq') (hsm b e hs) (hsm b' e' hs') hB heq
 ·intro b hs
  by_cases e : b = hi
  ·simp [e]
  ·simp only [e, if_false]; exact hm.rel.dom b (hsm b e hs)
 ·have hle := hm.le
  have e : b ≠ hi := by omega
  simp only [e, if_false]
  exact hm.agree b (by omega)
 ·rintro k ⟨b, q, hq, hs, rfl, hB⟩
  by_cases e : b = hi
  ·subst e; simp at hq; subst hq; exact .inr hb
  ·exact hm.own _ ⟨b, q, hothers b q e hq, hsm b e hs, rfl, hB⟩
theorem isEffK_eff {k : Kd} : isEffK k = true ↔ k = .eff := by cases k <;> simp [isEffK]
theorem Mem.commit (R : Run P call round ops ss σ val) {B : Nat} {ρ0 ρ : Rho} {w0 w : World} {listed : Array Bool} {c : Nat} (M : Mem P ops ss σ B ρ0 w0 listed c ρ w) {s : Step} (hs : ss[c]? = some s) (hl : Lst listed s.i)
  (hk : s.kd ≠ .eff ∨ wantedA ops.toList (σ c).tm s.o.guard = false) : Mem P ops ss σ B ρ0 w0 listed (c + 1) ρ w := by
 have hlt : c < ss.length := (List.getElem?_eq_some_iff.1 hs).1
 have hdone : ∀ (q : Nat) (t : Step), q < c + 1 → ss[q]? = some t → Lst listed t.i := fun q t hq ht => by
  rcases Nat.lt_or_ge q c with h | h
  ·exact M.done q t h ht
  ·have : q = c := by omega
   subst this; rw [hs] at ht; cases ht; exact hl
 have quiet : (∀ nb, ¬ IsAl P ops ss σ listed c s nb) → (σ (c + 1)).h = (σ c).h → (σ (c + 1)).nx = (σ c).nx → ((σ (c + 1)).b = (σ c).b ∨ (σ (c + 1)).b = (σ c).h) → Mem P ops ss σ B ρ0 w0 listed (c + 1) ρ w := by
  intro hna hh hn hb
  refine ⟨hlt, hdone, by rw [hh, hn]; exact M.mv, ?_, ?_, ?_, ?_⟩
  ·rw [hh]
   rcases hb with hb | hb
   ·rw [hb]; exact M.sub
   ·rw [hb]; exact fun _ _ h => h
  ·intro p t nb hp ha
   rw [hh, hn]
   exact M.ext p t nb (by omega) ha
  ·intro p q t t' nb nb' pl pl' hp hq
   exact M.dis p q t t' nb nb' pl pl' (by omega) (by omega)
  ·intro b pl hb'
   rw [hn]
   rcases M.supp b pl hb' with h | ⟨p, t, nb, hp, ha, he⟩
   ·exact .inl h
   ·right
    refine ⟨p, t, nb, ?_, ha, he⟩
    rcases Nat.lt_or_ge c p with h | h
    ·exact h
    ·have : p = c := by omega
     subst this
     have := ha.at_
     rw [hs] at this; cases this
     exact absurd ha (hna nb)
 cases R.tr c s hs with
 | skip hw hk' hv hb ht => exact quiet (fun nb ha => by rw [ha.want] at hw; cases hw) hb.1 hb.2.1 (.inl hb.2.2.1)
 | skipEff hw hk' hv hh hn hb hhs ht => exact quiet (fun nb ha => by rw [ha.want] at hw; cases hw) hh hn (.inr hb)
 | pur hw hk' he hb ht => exact quiet (fun nb ha => by rw [ha.kd] at hk'; cases hk') hb.1 hb.2.1 (.inl hb.2.2.1)
 | red hw hk' he ha' hb ht => exact quiet (fun nb ha => by rw [ha.kd] at hk'; cases hk') hb.1 hb.2.1 (.inl hb.2.2.1)
 | eff hw hk' he hn hb hhs ht =>
  rcases hk with hk | hk
  ·exact absurd hk' hk
  ·rw [hw] at hk; cases hk
 | alc hw hk' nb he hv hh hn hb hhs ht =>
  have ha : IsAl P ops ss σ listed c s nb := ⟨hs, hl, hw, hk', he⟩
  obtain ⟨pl, h1, h2, h3, h4, h5⟩ := M.ext c s nb (Nat.le_refl _) ha
  have hcut : cut ρ ((σ c).nx + 1) = fun k => if k = (σ c).nx then some pl else cut ρ (σ c).nx k := by
   funext k
   by_cases e : k = (σ c).nx
   ·subst e; rw [if_pos rfl, cut_lt (Nat.lt_succ_self _), h1]
   ·rw [if_neg e]
    by_cases hlt' : k < (σ c).nx
    ·rw [cut_lt hlt', cut_lt (by omega)]
    ·rw [cut_ge (by omega), cut_ge (by omega)]
  have hmv := Mv.adopt M.mv (pl := pl) (o := nbO nb) (cut_ge (Nat.le_refl _)) hcut (.inr M.mv.le) h2 h3 h5
  have hnone : hget (σ c).h (σ c).nx = none := by
   cases hg : hget (σ c).h (σ c).nx with
   | none => rfl
   | some x =>
    have := M.mv.rel.dom (σ c).nx (by rw [hg]; rfl)
    rw [cut_ge (Nat.le_refl _)] at this; cases this
  refine ⟨hlt, hdone, by rw [hh, hn, hget_put]; exact hmv, ?_, ?_, ?_, ?_⟩
  ·intro x o hx
   rw [hb] at hx
   rw [hh, hget_hset]
   have := M.sub x o hx
   by_cases e : x = (σ c).nx
   ·subst e; rw [hnone] at this; cases this
   ·rw [if_neg e]; exact this
  ·intro p t nb' hp ha'
   obtain ⟨pl', g1, g2, g3, g4, g5⟩ := M.ext p t nb' (by omega) ha'
   refine ⟨pl', g1, g2, g3, g4, ?_⟩
   rw [hh, hn, hget_put]
   rintro ⟨b, q, hq, hs', hbq, hB⟩
   rw [hcut] at hq
   by_cases e : b = (σ c).nx
   ·subst e; simp at hq; subst hq
    exact M.dis c p s t nb nb' pl pl' (Nat.le_refl _) (by omega) ha ha' (by omega) h1 g1 hbq
   ·refine g5 ⟨b, q, by simpa [e] using hq, by simpa [AH.put, e] using hs', hbq, hB⟩
  ·intro p q t t' nb1 nb2 pl1 pl2 hp hq
   exact M.dis p q t t' nb1 nb2 pl1 pl2 (by omega) (by omega)
  ·intro b pl' hb'
   rw [hn]
   rcases M.supp b pl' hb' with h | ⟨p, t, nb', hp, ha', he'⟩
   ·exact .inl (by omega)
   ·rcases Nat.lt_or_ge c p with h | h
    ·exact .inr ⟨p, t, nb', h, ha', he'⟩
    ·have : p = c := by omega
     subst this
     exact .inl (by omega)
theorem Mem.advance (R : Run P call round ops ss σ val) {B : Nat} {ρ0 ρ : Rho} {w0 w : World} {listed : Array Bool} : ∀ (k c : Nat), ss.length - c ≤ k → Mem P ops ss σ B ρ0 w0 listed c ρ w →
  (∀ (p : Nat) (s : Step), c ≤ p → ss[p]? = some s → Lst listed s.i → s.kd ≠ .eff ∨ wantedA ops.toList (σ p).tm s.o.guard = false) →
   ∃ c', Mem P ops ss σ B ρ0 w0 listed c' ρ w ∧ ∀ s, ss[c']? = some s → ¬ Lst listed s.i
 | 0, c, hk, M, _ => ⟨c, M, fun s hs => by have := (List.getElem?_eq_some_iff.1 hs).1; omega⟩
 | k + 1, c, hk, M, he => by
  cases hs : ss[c]? with
  | none => exact ⟨c, M, fun s h => by rw [hs] at h; cases h⟩
  | some s =>
   by_cases hl : Lst listed s.i
   ·exact Mem.advance R k (c + 1) (by have := (List.getElem?_eq_some_iff.1 hs).1; omega) (M.commit R hs hl (he c s (Nat.le_refl _) hs hl)) fun p t hp => he p t (by omega)
   ·exact ⟨c, M, fun t ht => by rw [hs] at ht; cases ht; exact hl⟩
end
section
variable {P : Program} {call : FuncId → List Value → Hp → Nat → CR} {round : Nat → List Value → Hp → Nat → CR} {ops : Array Oper} {ss : List Step} {σ : Nat → St} {val : Nat → Value}
theorem Lst_false {listed : Array Bool} {i : Nat} (hi : i < listed.size) : listed.getD i true = false ↔ ¬ Lst listed i := by
 unfold Lst
 simp [Array.getD_eq_getD_getElem?, hi]
theorem all_done (R : Run P call round ops ss σ val) {listed : Array Bool} (hc : Cl ops listed) {c : Nat} (hd : ∀ (q : Nat) (s : Step), q < c → ss[q]? = some s → Lst listed s.i) (hn : ∀ s, ss[c]? = some s → ¬ Lst listed s.i)
  (hr : Region.ready .any ops listed = []) (hle : c ≤ ss.length) : c = ss.length := by
 rcases Nat.lt_or_ge c ss.length with hlt | h
 ·exfalso
  have hs : ss[c]? = some (ss[c]'hlt) := List.getElem?_eq_getElem _
  generalize ss[c]'hlt = s at hs
  have hun := hn s hs
  have ho : ops[s.i]? = some s.o := by simpa using (R.plan.step c s hs).1
  have hi : s.i < ops.size := (Array.getElem?_eq_some_iff.1 ho).1
  have : s.i ∈ Region.ready .any ops listed := by
   refine mem_ready.2 ⟨(Lst_false (by rw [hc.size]; exact hi)).2 hun, s.o, ho, fun e he hb => ?_⟩
   have ho' : ops.toList[s.i]? = some s.o := by simpa using ho
   have hlt' := R.plan.inside s.i s.o e ho' he hb
   obtain ⟨q, t, hq, hqi⟩ := R.plan.cover e.on (by simp; omega)
   rcases Nat.lt_trichotomy q c with h | h | h
   ·have := hd q t h hq
    rw [hqi] at this; exact this
   ·subst h; rw [hs] at hq; cases hq
    omega
   ·have h1 := R.plan.after h hs hq
    have h2 := anc_edge ho' he hb
    rw [hqi] at h1
    rw [h1] at h2; cases h2
  rw [hr] at this; cases this
 ·omega
def left (ops : Array Oper) (listed : Array Bool) : Nat := ((List.range ops.size).filter fun i => !listed.getD i false).length
theorem left_set {listed : Array Bool} (hsz : listed.size = ops.size) {i : Nat} (hi : i < ops.size) (hun : ¬ Lst listed i) : left ops (listed.setIfInBounds i true) + 1 ≤ left ops listed := by
 unfold left
 have hsub : ∀ (l : List Nat), ((l.filter fun k => !(listed.setIfInBounds i true).getD k false).length ≤ (l.filter fun k => !listed.getD k false).length) ∧
   (i ∈ l → (l.filter fun k => !(listed.setIfInBounds i true).getD k false).length + 1 ≤ (l.filter fun k => !listed.getD k false).length) := by
  intro l
  induction l with
  | nil => exact ⟨Nat.le_refl _, fun h => by cases h⟩
  | cons x xs ih =>
   by_cases e : x = i
   ·subst e
    have h1 : (listed.setIfInBounds x true).getD x false = true := by
     have : Lst (listed.setIfInBounds x true) x := Lst_set.2 (.inl ⟨rfl, by omega⟩)
     exact this
    have h2 : listed.getD x false = false := by simpa [Lst] using hun
    simp only [List.filter_cons, h1, h2, Bool.not_true, Bool.not_false, Bool.false_eq_true, if_false, if_true, List.length_cons]
    exact ⟨by have := ih.1; omega, fun _ => by have := ih.1; omega⟩
   ·have h1 : (listed.setIfInBounds i true).getD x false = listed.getD x false := by
     simp [Array.getD_eq_getD_getElem?, Array.getElem?_setIfInBounds, Ne.symm e]
    simp only [List.filter_cons, h1]
    cases hb : listed.getD x false
    ·simp only [Bool.not_false, if_true, List.length_cons]
     refine ⟨by have := ih.1; omega, fun h => ?_⟩
     have := ih.2 (by rcases List.mem_cons.1 h with h | h; exact absurd h.symm e; exact h)
     omega
    ·simp only [Bool.not_true, Bool.false_eq_true, if_false]
     exact ⟨ih.1, fun h => ih.2 (by rcases List.mem_cons.1 h with h | h; exact absurd h.symm e; exact h)⟩
 exact (hsub (List.range ops.size)).2 (by simpa using hi)
end
section
variable {P : Program} {call : FuncId → List Value → Hp → Nat → CR} {round : Nat → List Value → Hp → Nat → CR} {ops : Array Oper} {ss : List Step} {σ : Nat → St} {val : Nat → Value}
theorem IsAl.set (R : Run P call round ops ss σ val) {listed : Array Bool} {p q : Nat} {s t : Step} {nb : NB} (hs : ss[p]? = some s) (h : IsAl P ops ss σ (listed.setIfInBounds s.i true) q t nb) : q = p ∨ IsAl P ops ss σ listed q t nb := by
 rcases Nat.decEq q p with hne | heq
 ·right
  refine ⟨h.at_, ?_, h.want, h.kd, h.ok⟩
  have := h.lst
  rw [Lst_set] at this
  rcases this with ⟨e, _⟩ | this
  ·exact absurd e (R.plan.ne h.at_ hs hne)
  ·exact this
 ·exact .inl heq
theorem IsAl.up {listed : Array Bool} {q i : Nat} {t : Step} {nb : NB} (h : IsAl P ops ss σ listed q t nb) : IsAl P ops ss σ (listed.setIfInBounds i true) q t nb :=
 ⟨h.at_, Lst_set.2 (.inr h.lst), h.want, h.kd, h.ok⟩
theorem Mem.quiet (R : Run P call round ops ss σ val) {B : Nat} {ρ0 ρ : Rho} {w0 w : World} {listed : Array Bool} {c : Nat} (M : Mem P ops ss σ B ρ0 w0 listed c ρ w) {p : Nat} {s : Step} (hs : ss[p]? = some s)
  (hna : wantedA ops.toList (σ p).tm s.o.guard = false ∨ s.kd ≠ .alc) : Mem P ops ss σ B ρ0 w0 (listed.setIfInBounds s.i true) c ρ w := by
 have back : ∀ {q : Nat} {t : Step} {nb : NB}, IsAl P ops ss σ (listed.setIfInBounds s.i true) q t nb → IsAl P ops ss σ listed q t nb := fun {q t nb} h => by
  rcases h.set R hs with e | h'
  ·subst e
   have := h.at_
   rw [hs] at this; cases this
   rcases hna with hna | hna
   ·have := h.want; rw [hna] at this; cases this
   ·exact absurd h.kd hna
  ·exact h'
 refine ⟨M.le, fun q t hq ht => Lst_set.2 (.inr (M.done q t hq ht)), M.mv, M.sub, fun q t nb hq ha => M.ext q t nb hq (back ha), fun p' q t t' nb nb' pl pl' h1 h2 h3 h4 => M.dis p' q t t' nb nb' pl pl' h1 h2 (back h3) (back h4), fun b pl hb => ?_⟩
 rcases M.supp b pl hb with h | ⟨q, t, nb, h1, h2, h3⟩
 ·exact .inl h
 ·exact .inr ⟨q, t, nb, h1, h2.up, h3⟩
theorem Mv.grown {B : Nat} {ρ0 ρ : Rho} {H0 H : AH} {w0 w w' : World} {lo hi : Nat} (hm : Mv B ρ0 H0 w0 lo hi ρ H w) {o : Obj} (hg : Made w w' o) : Mv B ρ0 H0 w0 lo hi ρ H w' where
 rel := hm.rel.world (by rw [hg.size]; omega) fun b p hb hs => by
  obtain ⟨x, hx⟩ := Option.isSome_iff_exists.1 hs
  exact hg.old _ (hm.rel.obj b p x hb hx).blk_lt
 agree := hm.agree
 size := by have := hm.size; rw [hg.size]; omega
 os := hg.os.trans hm.os
 tape := hm.tape.trans hg.tape
 output := hg.output.trans hm.output
 frame := fun k hk hn => by
  rw [hg.old k (by have := hm.size; omega)]
  exact hm.frame k hk hn
 own := hm.own
 le := hm.le
end
section
variable {P : Program} {call : FuncId → List Value → Hp → Nat → CR} {round : Nat → List Value → Hp → Nat → CR} {ops : Array Oper} {ss : List Step} {σ : Nat → St} {val : Nat → Value}
theorem Mem.alloc (R : Run P call round ops ss σ val) {B : Nat} {ρ0 ρ : Rho} {w0 w w' : World} {listed : Array Bool} {c : Nat} (M : Mem P ops ss σ B ρ0 w0 listed c ρ w) {p : Nat} {s : Step} {nb : NB} (hp : c ≤ p) (hs : ss[p]? = some s)
  (hun : ¬ Lst listed s.i) (hi : s.i < listed.size) (hw : wantedA ops.toList (σ p).tm s.o.guard = true) (hk : s.kd = .alc) (hok : alcA P (σ p).tm s.o.op = .ok nb) {ob : Obj} {pl : Place} (hpl : pl.blk = w.heap.size) (hnb : NBok (cut ρ (σ p).nx) nb ob pl) (hm : Made w w' ob) :
  ∃ ρ' : Rho, Mem P ops ss σ B ρ0 w0 (listed.setIfInBounds s.i true) c ρ' w' ∧ VR (cut ρ' ((σ p).nx + 1)) (nbV (σ p).nx nb) (nbC nb w.heap.size pl.spare) ∧ ∀ m, Sub (cut ρ m) (cut ρ' m) := by
 have hplt : p < ss.length := (List.getElem?_eq_some_iff.1 hs).1
 have hnew : IsAl P ops ss σ (listed.setIfInBounds s.i true) p s nb := ⟨hs, Lst_set.2 (.inl ⟨rfl, hi⟩), hw, hk, hok⟩
 have hcp : (σ c).nx ≤ (σ p).nx := R.nx_le hp (by omega)
 have hfree : ρ (σ p).nx = none := by
  cases hb : ρ (σ p).nx with
  | none => rfl
  | some q =>
   rcases M.supp _ q hb with h | ⟨r, t, nb', h1, h2, h3⟩
   ·omega
   ·exfalso
    rcases Nat.lt_trichotomy r p with h | h | h
    ·have := h2.nx_ne R hplt h; omega
    ·subst h
     have := h2.at_
     rw [hs] at this; cases this
     exact hun h2.lst
    ·have := hnew.nx_ne R h2.lt h; omega
 let ρ' : Rho := fun k => if k = (σ p).nx then some pl else ρ k
 have hsubm : ∀ m, Sub (cut ρ m) (cut ρ' m) := fun m b q hb => by
  by_cases hbm : b < m
  ·rw [cut_lt hbm] at hb
   rw [cut_lt hbm]
   have e : b ≠ (σ p).nx := by intro e; subst e; rw [hfree] at hb; cases hb
   simp [ρ', e, hb]
  ·rw [cut_ge (by omega)] at hb; cases hb
 have hcutc : cut ρ' (σ c).nx = cut ρ (σ c).nx := funext fun b => by
  by_cases hb : b < (σ c).nx
  ·rw [cut_lt hb, cut_lt hb]
   have e : b ≠ (σ p).nx := by omega
   simp [ρ', e]
  ·rw [cut_ge (by omega), cut_ge (by omega)]
 have hcutp : cut ρ' ((σ p).nx + 1) = fun k => if k = (σ p).nx then some pl else cut ρ (σ p).nx k := funext fun b => by
  by_cases e : b = (σ p).nx
  ·subst e; rw [cut_lt (Nat.lt_succ_self _)]; simp [ρ']
  ·by_cases hb : b < (σ p).nx
   ·rw [cut_lt (by omega)]; simp [ρ', e, cut_lt hb]
   ·rw [cut_ge (by omega)]; simp [e, cut_ge (Nat.le_of_not_lt hb)]
 have hempty : Rel B (cut ρ (σ p).nx) (fun _ => none) w := {
  base := M.mv.rel.base
  obj := fun b q o _ h => by cases h
  inj := fun b b' q q' _ _ h => by cases h
  dom := fun b h => by cases h }
 obtain ⟨h1, h2⟩ := Alc.step hempty (cut_ge (Nat.le_refl _)) hpl hnb hm
 rw [← hcutp] at h1 h2
 have hobj : ObjR B (cut ρ' ((σ p).nx + 1)) w' pl (nbO nb) := by
  refine h1.rel.obj (σ p).nx pl (nbO nb) ?_ (by simp [AH.put])
  rw [cut_lt (Nat.lt_succ_self _)]; simp [ρ']
 have hno : ¬ Owns B (cut ρ (σ c).nx) (hget (σ c).h) pl.blk := fun ho => by
  have := M.mv.rel.owned_lt ho; omega
 refine ⟨ρ', ⟨M.le, fun q t hq ht => Lst_set.2 (.inr (M.done q t hq ht)), by rw [hcutc]; exact M.mv.grown hm, M.sub, ?_, ?_, ?_⟩, h2, hsubm⟩
 ·intro q t nb' hq ha
  rcases ha.set R hs with e | ha'
  ·subst e
   have := ha.at_
   rw [hs] at this; cases this
   have := ha.ok
   rw [hok] at this; cases this
   exact ⟨pl, by simp [ρ'], hobj, by rw [hpl]; exact M.mv.size, by rw [hpl, hm.size]; omega, by rw [hcutc]; exact hno⟩
  ·obtain ⟨pl', g1, g2, g3, g4, g5⟩ := M.ext q t nb' hq ha'
   have e : (σ q).nx ≠ (σ p).nx := by intro e; rw [e, hfree] at g1; cases g1
   refine ⟨pl', by simp [ρ', e, g1], g2.mono (hsubm _) (hm.old _ g4), g3, by rw [hm.size]; omega, by rw [hcutc]; exact g5⟩
 ·intro q r t t' nb1 nb2 pl1 pl2 hq hr ha1 ha2 hne hg1 hg2
  rcases ha1.set R hs with e1 | h1' <;> rcases ha2.set R hs with e2 | h2'
  ·omega
  ·subst e1
   obtain ⟨pl', g1, _, _, g4, _⟩ := M.ext r t' nb2 hr h2'
   have e : (σ r).nx ≠ (σ q).nx := by intro e; rw [e, hfree] at g1; cases g1
   simp [ρ'] at hg1; subst hg1
   simp [ρ', e] at hg2
   rw [g1] at hg2; cases hg2
   omega
  ·subst e2
   obtain ⟨pl', g1, _, _, g4, _⟩ := M.ext q t nb1 hq h1'
   have e : (σ q).nx ≠ (σ r).nx := by intro e; rw [e, hfree] at g1; cases g1
   simp [ρ'] at hg2; subst hg2
   simp [ρ', e] at hg1
   rw [g1] at hg1; cases hg1
   omega
  ·obtain ⟨_, g1, _⟩ := M.ext q t nb1 hq h1'
   obtain ⟨_, g2, _⟩ := M.ext r t' nb2 hr h2'
   have e1 : (σ q).nx ≠ (σ p).nx := by intro e; rw [e, hfree] at g1; cases g1
   have e2 : (σ r).nx ≠ (σ p).nx := by intro e; rw [e, hfree] at g2; cases g2
   exact M.dis q r t t' nb1 nb2 pl1 pl2 hq hr h1' h2' hne (by simpa [ρ', e1] using hg1) (by simpa [ρ', e2] using hg2)
 ·intro b q hb
  by_cases e : b = (σ p).nx
  ·exact .inr ⟨p, s, nb, hp, hnew, e⟩
  ·have hb : ρ b = some q := by simpa [ρ', e] using hb
   rcases M.supp b q hb with h | ⟨r, t, nb', g1, g2, g3⟩
   ·exact .inl h
   ·exact .inr ⟨r, t, nb', g1, g2.up, g3⟩
end
section
variable {P : Program} {call : FuncId → List Value → Hp → Nat → CR} {round : Nat → List Value → Hp → Nat → CR} {ops : Array Oper} {ss : List Step} {σ : Nat → St} {val : Nat → Value}
theorem Mem.eff (R : Run P call round ops ss σ val) {B : Nat} {ρ0 ρ : Rho} {w0 w w' : World} {listed : Array Bool} {c : Nat} (M : Mem P ops ss σ B ρ0 w0 listed c ρ w) {s : Step} (hs : ss[c]? = some s) (hi : s.i < listed.size) (hk : s.kd = .eff)
  (hw : wantedA ops.toList (σ c).tm s.o.guard = true) (hun : ¬ Lst listed s.i) {ρ' : Rho} (hm : Mv B (cut ρ (σ c).nx) (hget (σ c).h) w (σ c).nx (σ (c + 1)).nx ρ' (hget (σ (c + 1)).h) w') :
  ∃ ρn : Rho, Mem P ops ss σ B ρ0 w0 (listed.setIfInBounds s.i true) (c + 1) ρn w' ∧ cut ρn (σ (c + 1)).nx = ρ' ∧ ∀ m, Sub (cut ρ m) (cut ρn m) := by
 have hlt : c < ss.length := (List.getElem?_eq_some_iff.1 hs).1
 have hfr' : Fr ρ' (σ (c + 1)).nx := (cut_fr ρ (σ c).nx).after hm
 let ρn : Rho := fun b => if b < (σ (c + 1)).nx then ρ' b else ρ b
 have hcn : cut ρn (σ (c + 1)).nx = ρ' := funext fun b => by
  by_cases hb : b < (σ (c + 1)).nx
  ·rw [cut_lt hb]; simp [ρn, hb]
  ·rw [cut_ge (by omega), hfr' b (by omega)]
 have hext : ∀ {q : Nat} {t : Step} {nb : NB}, c ≤ q → IsAl P ops ss σ listed q t nb → (σ (c + 1)).nx ≤ (σ q).nx ∧ c + 1 ≤ q := fun {q t nb} hq ha => by
  have : q ≠ c := by
   intro e; subst e
   have := ha.at_; rw [hs] at this; cases this
   exact hun ha.lst
  exact ⟨R.nx_le (by omega) (by have := ha.lt; omega), by omega⟩
 have hkeep : ∀ b q, ρ b = some q → ρn b = some q := fun b q hb => by
  rcases M.supp b q hb with h | ⟨r, t, nb, h1, h2, h3⟩
  ·have hle := hm.le
   have : ρ' b = some q := by
    rw [hm.agree b (.inl h), cut_lt h]; exact hb
   simp only [ρn]; rw [if_pos (by omega)]; exact this
  ·have := (hext h1 h2).1
   simp only [ρn]; rw [if_neg (by omega)]; exact hb
 have hsubm : ∀ m, Sub (cut ρ m) (cut ρn m) := fun m b q hb => by
  by_cases hbm : b < m
  ·rw [cut_lt hbm] at hb ⊢; exact hkeep b q hb
  ·rw [cut_ge (by omega)] at hb; cases hb
 have hb1 : (σ (c + 1)).b = (σ (c + 1)).h := by
  cases R.tr c s hs with
  | eff _ _ _ _ hb _ _ => exact hb
  | skip hw' _ _ _ _ => rw [hw] at hw'; cases hw'
  | skipEff hw' _ _ _ _ _ _ _ => rw [hw] at hw'; cases hw'
  | pur _ hk' _ _ _ => rw [hk] at hk'; cases hk'
  | red _ hk' _ _ _ _ => rw [hk] at hk'; cases hk'
  | alc _ hk' _ _ _ _ _ _ _ _ => rw [hk] at hk'; cases hk'
 have back : ∀ {q : Nat} {t : Step} {nb : NB}, IsAl P ops ss σ (listed.setIfInBounds s.i true) q t nb → IsAl P ops ss σ listed q t nb := fun {q t nb} h => by
  rcases h.set R hs with e | h'
  ·subst e
   have := h.at_
   rw [hs] at this; cases this
   have := h.kd; rw [hk] at this; cases this
  ·exact h'
 refine ⟨ρn, ⟨hlt, fun q t hq ht => ?_, by rw [hcn]; exact M.mv.trans hm, by rw [hb1]; exact fun _ _ h => h, ?_, ?_, ?_⟩, hcn, hsubm⟩
 ·rcases Nat.lt_or_ge q c with h | h
  ·exact Lst_set.2 (.inr (M.done q t h ht))
  ·have : q = c := by omega
   subst this; rw [hs] at ht; cases ht
   exact Lst_set.2 (.inl ⟨rfl, hi⟩)
 ·intro q t nb hq ha
  have ha := back ha
  obtain ⟨pl, g1, g2, g3, g4, g5⟩ := M.ext q t nb (by omega) ha
  refine ⟨pl, hkeep _ _ g1, g2.mono (hsubm _) (hm.frame _ g4 g5), g3, Nat.lt_of_lt_of_le g4 hm.size, ?_⟩
  rw [hcn]
  intro ho
  rcases hm.own _ ho with h | h
  ·exact g5 h
  ·omega
 ·intro q r t t' nb1 nb2 pl1 pl2 hq hr ha1 ha2 hne hg1 hg2
  have ha1 := back ha1
  have ha2 := back ha2
  obtain ⟨_, g1, _⟩ := M.ext q t nb1 (by omega) ha1
  obtain ⟨_, g2, _⟩ := M.ext r t' nb2 (by omega) ha2
  have e1 := hkeep _ _ g1
  have e2 := hkeep _ _ g2
  rw [hg1] at e1; cases e1
  rw [hg2] at e2; cases e2
  exact M.dis q r t t' nb1 nb2 _ _ (by omega) (by omega) ha1 ha2 hne g1 g2
 ·intro b q hb
  by_cases hlt' : b < (σ (c + 1)).nx
  ·exact .inl hlt'
  ·have hb : ρ b = some q := by simpa [ρn, hlt'] using hb
   rcases M.supp b q hb with h | ⟨r, t, nb, g1, g2, g3⟩
   ·have := hm.le; omega
   ·exact .inr ⟨r, t, nb, (hext g1 g2).2, g2.up, g3⟩
end
section
variable {P : Program} {call : FuncId → List Value → Hp → Nat → CR} {round : Nat → List Value → Hp → Nat → CR} {ops : Array Oper} {ss : List Step} {σ : Nat → St} {val : Nat → Value}
theorem agree_spec {tm : Tm} {o : Op} {v : Value} : ∀ {n : Nat} {hs : List Hp}, agree P tm o v n hs = true → ∀ (k : Nat), k < n → ∃ h, hs[k]? = some h ∧ redA P tm h o = .ok v
 | 0, hs, _, k, hk => by omega
 | n + 1, [], h, k, hk => by cases h
 | n + 1, h0 :: hs, h, k, hk => by
  unfold agree at h
  cases hsr : sameR v (redA P tm h0 o) with
  | false => rw [hsr] at h; cases h
  | true =>
   rw [hsr] at h
   cases k with
   | zero =>
    refine ⟨h0, rfl, ?_⟩
    unfold sameR at hsr
    cases hr : redA P tm h0 o with
    | no w => rw [hr] at hsr; cases hsr
    | ok x => rw [hr] at hsr; rw [sameV_eq hsr]
   | succ k => exact agree_spec h k (by omega)
def effs (ss : List Step) (c p : Nat) : Nat := (((ss.take p).drop c).filter fun s => isEffK s.kd).length
theorem Run.base (R : Run P call round ops ss σ val) {c : Nat} : ∀ {p : Nat}, c ≤ p → p ≤ ss.length → (effs ss c p = 0 → (σ p).b = (σ c).b) ∧ (∀ k, effs ss c p = k + 1 → (σ p).hs[k]? = some (σ c).b)
 | 0, h, _ => by
  have : c = 0 := by omega
  subst this
  exact ⟨fun _ => rfl, fun k hk => by simp [effs] at hk⟩
 | p + 1, h, hp => by
  by_cases e : c = p + 1
  ·subst e
   exact ⟨fun _ => rfl, fun k hk => by simp [effs] at hk⟩
  ·obtain ⟨h1, h2⟩ := R.base (c := c) (p := p) (by omega) (by omega)
   have hs : ss[p]? = some (ss[p]'(by omega)) := List.getElem?_eq_getElem _
   generalize ss[p]'(by omega) = s at hs
   have hcount : effs ss c (p + 1) = effs ss c p + if isEffK s.kd then 1 else 0 := by
    unfold effs
    rw [List.take_add_one, hs, List.drop_append_of_le_length (by simp; omega), List.filter_append, List.length_append]
    simp only [Option.toList_some, List.filter_cons, List.filter_nil]
    split <;> simp
   cases hk : isEffK s.kd with
   | false =>
    rw [hk] at hcount
    have hcount : effs ss c (p + 1) = effs ss c p := by simpa using hcount
    have hbs : (σ (p + 1)).b = (σ p).b ∧ (σ (p + 1)).hs = (σ p).hs := by
     cases R.tr p s hs with
     | skip _ _ _ hb _ => exact ⟨hb.2.2.1, hb.2.2.2⟩
     | skipEff _ hk' _ _ _ _ _ _ => rw [hk] at hk'; cases hk'
     | pur _ _ _ hb _ => exact ⟨hb.2.2.1, hb.2.2.2⟩
     | red _ _ _ _ hb _ => exact ⟨hb.2.2.1, hb.2.2.2⟩
     | alc _ _ _ _ _ _ _ hb hhs _ => exact ⟨hb, hhs⟩
     | eff _ hk' _ _ _ _ _ => rw [hk'] at hk; cases hk
    rw [hcount, hbs.1, hbs.2]
    exact ⟨h1, h2⟩
   | true =>
    rw [hk] at hcount
    have hcount : effs ss c (p + 1) = effs ss c p + 1 := by simpa using hcount
    have hhs : (σ (p + 1)).hs = (σ p).b :: (σ p).hs := by
     cases R.tr p s hs with
     | skip _ hk' _ _ _ => rw [hk] at hk'; cases hk'
     | skipEff _ _ _ _ _ _ hhs _ => exact hhs
     | pur _ hk' _ _ _ => rw [hk'] at hk; cases hk
     | red _ hk' _ _ _ _ => rw [hk'] at hk; cases hk
     | alc _ hk' _ _ _ _ _ _ _ _ => rw [hk'] at hk; cases hk
     | eff _ _ _ _ _ hhs _ => exact hhs
    refine ⟨fun h => by omega, fun k hk' => ?_⟩
    rw [hhs]
    cases k with
    | zero => simp; exact h1 (by omega)
    | succ k => simpa using h2 k (by omega)
end
section
variable {P : Program} {call : FuncId → List Value → Hp → Nat → CR} {round : Nat → List Value → Hp → Nat → CR} {ops : Array Oper} {ss : List Step} {σ : Nat → St} {val : Nat → Value}
theorem effs_le (R : Plan P ops.toList ss) {c p : Nat} {s : Step} (hs : ss[p]? = some s) (hcp : c ≤ p) (hna : ∀ (q : Nat) (t : Step), c ≤ q → q < p → ss[q]? = some t → t.kd = .eff → bitAt (anc ops.toList) s.i t.i = false) : effs ss c p ≤ s.chk := by
 rw [(R.step p s hs).2.2]
 unfold chkOf effs
 rw [List.filter_map, List.length_map]
 have hdrop : ((ss.take p).drop c).Sublist (ss.take p) := List.drop_sublist _ _
 have h1 : (((ss.take p).drop c).filter fun s => isEffK s.kd) = ((ss.take p).drop c).filter ((fun e => isEffAt P ops.toList e && !bitAt (anc ops.toList) s.i e) ∘ fun x => x.i) := by
  apply List.filter_congr
  intro t ht
  obtain ⟨k, hk⟩ := List.getElem?_of_mem ht
  rw [List.getElem?_drop, List.getElem?_take] at hk
  split at hk
  ·rename_i hlt
   have h2 := R.step (c + k) t hk
   have he : isEffAt P ops.toList t.i = isEffK t.kd := by
    unfold isEffAt
    rw [lget_eq, h2.1]
    simp only [Option.map_some, Option.getD_some, opEff]
    rw [← h2.2.1]
   simp only [Function.comp, he]
   cases hkd : isEffK t.kd with
   | false => rfl
   | true =>
    rw [hna (c + k) t (by omega) hlt hk (isEffK_eff.1 hkd)]
    rfl
  ·cases hk
 rw [h1]
 exact (hdrop.filter _).length_le
end
section
variable {P : Program} {call : FuncId → List Value → Hp → Nat → CR} {round : Nat → List Value → Hp → Nat → CR} {ops : Array Oper} {ss : List Step} {σ : Nat → St} {val : Nat → Value}
theorem read_early (R : Run P call round ops ss σ val) {listed : Array Bool} (hc : Cl ops listed) {c p : Nat} {s : Step} (hs : ss[p]? = some s) (hcp : c ≤ p) (hcu : ∀ t, ss[c]? = some t → ¬ Lst listed t.i) (hr : s.i ∈ Region.ready .any ops listed)
  (hw : wantedA ops.toList (σ p).tm s.o.guard = true) (hk : s.kd = .red) : redA P (σ p).tm (σ c).b s.o.op = .ok (val p) := by
 have hp : p < ss.length := (List.getElem?_eq_some_iff.1 hs).1
 obtain ⟨h1, h2⟩ := R.base hcp (by omega)
 have hle : effs ss c p ≤ s.chk := effs_le R.plan hs hcp fun q t hq hqp ht hte => by
  cases hb : bitAt (anc ops.toList) s.i t.i with
  | false => rfl
  | true =>
   exfalso
   have hL := hc.aheadReady hr hb
   rcases Nat.lt_or_ge c q with h | h
   ·have hcs : ss[c]? = some (ss[c]'(by omega)) := List.getElem?_eq_getElem _
    exact hcu _ hcs (hc.ahead hL (R.plan.eff h hcs ht hte))
   ·have : q = c := by omega
    subst this
    exact hcu t ht hL
 cases R.tr p s hs with
 | skip hw' _ _ _ _ => rw [hw] at hw'; cases hw'
 | skipEff hw' _ _ _ _ _ _ _ => rw [hw] at hw'; cases hw'
 | pur _ hk' _ _ _ => rw [hk] at hk'; cases hk'
 | alc _ hk' _ _ _ _ _ _ _ _ => rw [hk] at hk'; cases hk'
 | eff _ hk' _ _ _ _ _ => rw [hk] at hk'; cases hk'
 | red _ _ he ha _ _ =>
  cases hq : effs ss c p with
  | zero => rw [← h1 hq]; exact he
  | succ k =>
   obtain ⟨hh, g1, g2⟩ := agree_spec ha k (by omega)
   rw [h2 k hq] at g1
   cases g1
   exact g2
end
section
variable {P : Program} {call : FuncId → List Value → Hp → Nat → CR} {round : Nat → List Value → Hp → Nat → CR}
theorem Rel.up {B : Nat} {ρ ρ' : Rho} {H : AH} {w : World} (h : Rel B ρ H w) (hs : Sub ρ ρ') : Rel B ρ' H w := by
 have down : ∀ b p, ρ' b = some p → (H b).isSome → ρ b = some p := fun b p hb hx => by
  obtain ⟨q, hq⟩ := Option.isSome_iff_exists.1 (h.dom b hx)
  rw [hs b q hq] at hb; cases hb; exact hq
 refine ⟨h.base, fun b p o hb ho => ?_, fun b b' p p' hb hb' hx hx' => h.inj b b' p p' (down b p hb hx) (down b' p' hb' hx') hx hx', fun b hx => ?_⟩
 ·exact (h.obj b p o (down b p hb (by rw [ho]; rfl)) ho).mono hs rfl
 ·obtain ⟨q, hq⟩ := Option.isSome_iff_exists.1 (h.dom b hx)
  rw [hs b q hq]; rfl
theorem guard_mem {all : List Oper} {o og : Oper} {j : Nat} {want : Bool} {d : Tmp} (hg : o.guard = some (j, want)) (ho : all[j]? = some og) (hd : og.dst = some d) : d ∈ tmpsOf all o := by
 unfold tmpsOf
 rw [hg]
 simp only
 rw [lget_eq, ho]
 simp [hd]
theorem oper_mem {all : List Oper} {o : Oper} {t : Tmp} (h : Operand.tmp t ∈ o.op.operands) : t ∈ tmpsOf all o := by
 unfold tmpsOf
 simp only [List.mem_append]
 refine .inl (.inr ?_)
 rw [List.mem_filterMap]
 exact ⟨.tmp t, by simpa using h, rfl⟩
end
section
variable {P : Program} {call : FuncId → List Value → Hp → Nat → CR} {round : Nat → List Value → Hp → Nat → CR}
theorem draw_ok (hco : CallOk P call) (hro : RoundOk P round) : DrawOk P call round := by
  intro ops ss hpl L B ρ0 tm h nx a0 w0 n r Q K hs0 hsr hfit hp
  have plan := planOf_spec hpl
  obtain ⟨σ, val, h0, htr, hK⟩ := trace ss ⟨tm, h, nx, h, []⟩ hs0
  have R : Run P call round ops ss σ val := ⟨plan, htr⟩
  have main : ∀ (fuel : Nat) (listed : Array Bool) (a : Act) (w : World) (ρ : Rho) (c : Nat), Cl ops listed → Mem P ops ss σ B ρ0 w0 listed c ρ w → Tmps ss σ listed ρ a → (∀ s, ss[c]? = some s → ¬ Lst listed s.i) →
      a.tmps.size = a0.tmps.size → a.defers = a0.defers → left ops listed ≤ fuel → wpAnyIn (FW r) n P .any ops Q fuel listed a w := by
    intro fuel
    have fin : ∀ (listed : Array Bool) (a : Act) (w : World) (ρ : Rho) (c : Nat), Cl ops listed → Mem P ops ss σ B ρ0 w0 listed c ρ w → Tmps ss σ listed ρ a → (∀ s, ss[c]? = some s → ¬ Lst listed s.i) →
        a.tmps.size = a0.tmps.size → a.defers = a0.defers → Region.ready .any ops listed = [] → Q .normal a w := by
      intro listed a w ρ c hcl M hT hcu hsz hdf hr
      have hc : c = ss.length := all_done R hcl M.done hcu hr M.le
      subst hc
      have hmv := M.mv
      rw [h0] at hmv
      refine hp .normal _ _ _ _ a w hK hmv ⟨hmv.rel, cut_fr _ _, fun d => ?_, ?_, Nat.le_trans hsr.low hmv.size⟩ hsz
      · refine hT ss.length d (Nat.le_refl _) (fun q s hq hs _ => M.done q s hq hs) (fun q s hq hs _ => ?_)
        have := (List.getElem?_eq_some_iff.1 hs).1; omega
      · rw [hdf]; exact hsr.marks.mv hmv
    induction fuel with
    | zero =>
      intro listed a w ρ c hcl M hT hcu hsz hdf hl
      have hr : Region.ready .any ops listed = [] := by
        cases hrd : Region.ready .any ops listed with
        | nil => rfl
        | cons i is =>
          exfalso
          have hi : i ∈ Region.ready .any ops listed := by rw [hrd]; simp
          obtain ⟨hun, o, ho, _⟩ := mem_ready.1 hi
          have hlt := (Array.getElem?_eq_some_iff.1 ho).1
          have := left_set hcl.size hlt ((Lst_false (by rw [hcl.size]; exact hlt)).1 hun)
          omega
      exact ⟨hr, fin listed a w ρ c hcl M hT hcu hsz hdf hr⟩
    | succ fuel ih =>
      intro listed a w ρ c hcl M hT hcu hsz hdf hl
      refine ⟨fun hr => fin listed a w ρ c hcl M hT hcu hsz hdf hr, fun i hi => ?_⟩
      obtain ⟨hun0, o, ho, _⟩ := mem_ready.1 hi
      have hlt := (Array.getElem?_eq_some_iff.1 ho).1
      obtain ⟨p, s, hs, rfl⟩ := plan.cover i (by simpa using hlt)
      have hso := (plan.step p s hs).1
      have ho' : ops[s.i]? = some s.o := by simpa using hso
      rw [ho'] at ho; cases ho
      have hil : s.i < listed.size := by rw [hcl.size]; exact hlt
      have hun := (Lst_false hil).1 hun0
      have hcp : c ≤ p := by
        rcases Nat.lt_or_ge p c with h | h
        · exact absurd (M.done p s h hs) hun
        · exact h
      have hplt : p < ss.length := (List.getElem?_eq_some_iff.1 hs).1
      have hnxp := (htr p s hs).nx_le
      have look : ∀ d, d ∈ tmpsOf ops.toList s.o → VR (cut ρ (σ p).nx) (tget (σ p).tm d) (a.tmps.getD d undef) := fun d hd => hT.look R hcl hs hi hd
      have hwq : Region.wanted s.o (yielded ops a.tmps) = wantedA ops.toList (σ p).tm s.o.guard :=
        wanted_eq s.o fun j want og d hg hog hd => look d (guard_mem hg (by simpa using hog) hd)
      have hloc : LocR (cut ρ (σ p).nx) (σ p).tm a s.o.op := fun t ht => look t (oper_mem ht)
      have hdfit : ∀ d, s.o.dst = some d → d < a.tmps.size := fun d hd => by
        simp only [opsFit, List.all_eq_true] at hfit
        have := hfit s.o (List.mem_of_getElem? hso)
        rw [hd] at this
        rw [hsz]; simpa [Nat.blt_eq] using this
      have hleft : left ops (listed.setIfInBounds s.i true) ≤ fuel := by
        have := left_set hcl.size hlt hun; omega
      have heffs : ∀ (p' : Nat) (s' : Step), c ≤ p' → ss[p']? = some s' → Lst listed s'.i → s'.kd ≠ .eff := fun p' s' hp' hs' hl' hk' => by
        rcases Nat.lt_or_ge c p' with h | h
        · have hcs : ss[c]? = some (ss[c]'(by have := (List.getElem?_eq_some_iff.1 hs').1; omega)) := List.getElem?_eq_getElem _
          exact hcu _ hcs (hcl.ahead hl' (plan.eff h hcs hs' hk'))
        · have : p' = c := by omega
          subst this; exact hcu s' hs' hl'
      have close : ∀ (ρ' : Rho) (w' : World) (cc : Value) (c1 : Nat), Mem P ops ss σ B ρ0 w0 (listed.setIfInBounds s.i true) c1 ρ' w' → c ≤ c1 → (c1 ≤ p → s.kd ≠ .eff ∨ wantedA ops.toList (σ p).tm s.o.guard = false) →
          VR (cut ρ' (σ (p + 1)).nx) (val p) cc → (∀ m, Sub (cut ρ m) (cut ρ' m)) → wpAnyIn (FW r) n P .any ops Q fuel (listed.setIfInBounds s.i true) (a.put s.o.dst cc) w' := by
        intro ρ' w' cc c1 M1 hc1 hp1 hv hsub
        obtain ⟨c2, M2, hcu2⟩ := Mem.advance R (ss.length - c1) c1 (Nat.le_refl _) M1 fun p' s' hp' hs' hl' => by
          rcases Nat.decEq p' p with hne | rfl
          · left
            refine heffs p' s' (by omega) hs' ?_
            rw [Lst_set] at hl'
            rcases hl' with ⟨e, _⟩ | hl'
            · exact absurd e (plan.ne hs' hs hne)
            · exact hl'
          · rw [hs] at hs'; cases hs'
            exact hp1 hp'
        exact ih _ _ _ ρ' c2 (hcl.set hi) M2 (hT.step R hcl hsub hs hi hv hdfit) hcu2 (by rw [Act.put_size]; exact hsz) (by rw [Act.put_defers']; exact hdf) hleft
      unfold wpOpIn
      simp only [ho']
      rw [hwq]
      have hst := htr p s hs
      cases hwa : wantedA ops.toList (σ p).tm s.o.guard with
      | false =>
        simp only [Bool.false_eq_true, if_false]
        refine ⟨fun _ _ => trivial, ?_⟩
        have hval : val p = undefV := by
          cases hst with
          | skip _ _ hv _ _ => exact hv
          | skipEff _ _ hv _ _ _ _ _ => exact hv
          | pur hw' _ _ _ _ => rw [hwa] at hw'; cases hw'
          | alc hw' _ _ _ _ _ _ _ _ _ => rw [hwa] at hw'; cases hw'
          | red hw' _ _ _ _ _ => rw [hwa] at hw'; cases hw'
          | eff hw' _ _ _ _ _ _ => rw [hwa] at hw'; cases hw'
        exact close ρ w undef c (M.quiet R hs (.inl hwa)) (Nat.le_refl _) (fun _ => .inr hwa) (by rw [hval]; exact undef_vr) (fun m _ _ h => h)
      | true =>
        simp only [if_true]
        refine ⟨fun _ _ => trivial, ?_⟩
        show s.o.uponIn (FW r) n P a _ Q ((s.o.semAt r a.eval).run P w)
        have hkd := (plan.step p s hs).2.1
        cases hst with
        | skip hw' _ _ _ _ => rw [hwa] at hw'; cases hw'
        | skipEff hw' _ _ _ _ _ _ _ => rw [hwa] at hw'; cases hw'
        | pur _ hk he hb ht =>
          rw [Oper.semAt_eq r a.eval s.o (fun c hc => by rw [hc] at he; cases he)]
          obtain ⟨cc, hv, hrun⟩ := pur_loc hloc he
          rw [hrun w]
          exact close ρ w cc c (M.quiet R hs (.inr (by rw [hk]; simp))) (Nat.le_refl _) (fun _ => .inl (by rw [hk]; simp)) (by rw [hb.2.1]; exact hv) (fun m _ _ h => h)
        | red _ hk he ha hb ht =>
          have hre := read_early R hcl hs hcp hcu hi hwa hk
          rw [Oper.semAt_eq r a.eval s.o (fun c hc => by rw [hc] at hre; cases hre)]
          have hrel : Rel B (cut ρ (σ p).nx) (hget (σ c).b) w := (M.mv.rel.less M.sub).up (cut_sub ρ (R.nx_le hcp (by omega)))
          obtain ⟨cc, hv, hrun⟩ := red_loc hloc hrel (by rw [← hkd, hk]) hre
          rw [hrun]
          exact close ρ w cc c (M.quiet R hs (.inr (by rw [hk]; simp))) (Nat.le_refl _) (fun _ => .inl (by rw [hk]; simp)) (by rw [hb.2.1]; exact hv) (fun m _ _ h => h)
        | alc _ hk nb he hvv hh hn' hb hhs ht =>
          rw [Oper.semAt_eq r a.eval s.o (fun c hc => by rw [hc] at he; cases he)]
          obtain ⟨ob, pl, w', hpl, hnb, hmade, hrun⟩ := alc_loc hloc (by rw [← hkd, hk]) he w
          obtain ⟨ρ', M', hv, hsub⟩ := M.alloc R hcp hs hun hil hwa hk he hpl hnb hmade
          rw [hrun]
          exact close ρ' w' _ c M' (Nat.le_refl _) (fun _ => .inl (by rw [hk]; simp)) (by rw [hn', hvv]; exact hv) hsub
        | eff _ hk he hn' hb hhs ht =>
          have hpc : p = c := by
            rcases Nat.lt_or_ge c p with h | h
            · exfalso
              have hcs : ss[c]? = some (ss[c]'(by omega)) := List.getElem?_eq_getElem _
              exact hcu _ hcs (hcl.aheadReady hi (plan.eff h hcs hs hk))
            · omega
          subst hpc
          refine eff_loc hloc M.mv.rel (cut_fr _ _) hco hro (by rw [← hkd, hk]) (crOf_sat he) ?_
          intro v h' nx' ρ' cc w' hkk hv hm
          obtain ⟨rfl, rfl, rfl⟩ := hkk
          obtain ⟨ρn, M', hcn, hsub⟩ := M.eff R hs hil hk hwa hun hm
          exact close ρn w' cc (p + 1) M' (by omega) (fun h => by omega) (by rw [hcn]; exact hv) hsub
  have hnl : ∀ i, ¬ Lst (Array.replicate ops.size false) i := fun i hl => by
    unfold Lst at hl
    by_cases hi : i < ops.size <;> simp [Array.getD_eq_getD_getElem?, hi] at hl
  have hcut0 : cut ρ0 (σ 0).nx = ρ0 := by rw [h0]; exact cut_cut ρ0 hsr.fr
  have M0 : Mem P ops ss σ B ρ0 w0 (Array.replicate ops.size false) 0 ρ0 w0 :=
    { le := Nat.zero_le _
      done := fun q s hq => by omega
      mv := by rw [hcut0, h0]; exact Mv.refl nx hsr.rel
      sub := by rw [h0]; exact fun _ _ h => h
      ext := fun p s nb _ ha => absurd ha.lst (hnl _)
      dis := fun p q s t nb nb' pl pl' _ _ ha => absurd ha.lst (hnl _)
      supp := fun b pl hb => by
        left
        rw [h0]
        rcases Nat.lt_or_ge b nx with h | h
        · exact h
        · rw [hsr.fr b h] at hb; cases hb }
  refine main ops.size _ a0 w0 ρ0 0 ⟨by simp, fun j o e hl => absurd hl (hnl _)⟩ M0 ?_ (fun s _ => hnl _) rfl rfl ?_
  · intro j d hj hb hf
    have hsame : ∀ k, k ≤ j → tget (σ k).tm d = tget tm d := by
      intro k
      induction k with
      | zero => intro _; rw [h0]
      | succ k ih =>
        intro hk
        have hs : ss[k]? = some (ss[k]'(by omega)) := List.getElem?_eq_getElem _
        generalize ss[k]'(by omega) = s at hs
        rw [(htr k s hs).tm_eq]
        cases hd : s.o.dst with
        | none => exact ih (by omega)
        | some d' =>
          show tget (tset _ d' _) d = _
          have hne : d ≠ d' := fun e => hnl _ (hb k s (by omega) hs (by rw [hd, e]))
          rw [tget_tset, if_neg hne]
          exact ih (by omega)
    rw [hsame j (Nat.le_refl _)]
    have := hsr.tr d
    rw [← hcut0] at this
    exact this.mono (cut_sub ρ0 (R.nx_le (Nat.zero_le _) hj))
  · unfold left
    exact Nat.le_trans (List.length_filter_le _ _) (by simp)
end
section
variable {P : Program} {orc : Orc}
theorem ex_ok (hP : POk P) (horc : OrcOk P orc) : ∀ N, ExOk P (exA P orc N) :=
 exA_ok hP.mixed (fun ex h => call_ok hP horc h) (fun ex h => round_ok h) (fun call round hc hr => draw_ok hc hr)
  (fun ex hex cur f ps asg body tm h nx K v hin hv hs L B ρ a w n r Q hsr hfit hcur hp => rf_ok (call_ok hP horc hex) cur f ps asg body tm h nx K v hin hv hs L B ρ a w n r Q hsr hfit hcur hp)
theorem callA_ok (hP : POk P) (horc : OrcOk P orc) (N : Nat) : CallOk P (callA P orc (exA P orc N)) := call_ok hP horc (ex_ok hP horc N)
def funcFit (fn : Func) : Bool := !(fn.name == "runtime.NumGoroutine") && (match fn.body with | some c => codeFit fn.ntmps c | none => true)
theorem POk.of (hm : P.follows .mixedOrders = true) (hf : P.funcs.toList.all funcFit = true) : POk P := by
 have key : ∀ (f : FuncId) (fn : Func), P.funcs[f]? = some fn → funcFit fn = true := fun f fn h => by
  rw [List.all_eq_true] at hf
  exact hf fn (Array.mem_toList_iff.2 (Array.mem_of_getElem? h))
 refine ⟨hm, fun f fn h => ?_, fun f fn c h hb => ?_⟩
 ·have := key f fn h
  simp only [funcFit, Bool.and_eq_true, Bool.not_eq_true'] at this
  exact this.1
 ·have := key f fn h
  simp only [funcFit, hb, Bool.and_eq_true] at this
  exact this.2
end
inductive Co where
 | t (n : Nat)
 | v (x : Value)
def co (x : Operand) : Option Co := match x with
 | .tmp t => some (.t t)
 | .const v => bif constV v then some (.v v) else none
 | .func f => some (.v (.func (.func f) #[] #[]))
 | .global _ => none
def cos : List Operand → Option (List Co)
 | [] => some []
 | x :: xs => match co x, cos xs with
  | some y, some ys => some (y :: ys)
  | _, _ => none
def coO (x : Option Operand) : Option (Option Co) := match x with
 | none => some none
 | some x => match co x with
  | some y => some (some y)
  | none => none
def cev (tm : Tm) (x : Co) : Value := Co.casesOn x (fun n => tget tm n) (fun v => v)
def cevs (tm : Tm) : List Co → List Value
 | [] => []
 | x :: xs => cev tm x :: cevs tm xs
inductive CP where
 | mv (x : Co)
 | pick (c a b : Co)
 | bin (op : BinOp) (t : TypeId) (x y : Co)
 | un (op : UnOp) (x : Co)
 | conv (d : TypeDesc) (x : Co)
 | fld (off : Nat) (ag : Option Nat) (x : Co)
 | fldA (off : Nat) (x : Co)
 | ixA (k : IxT) (x i : Co)
 | sl (s : Nat) (x : Co) (lo hi mx : Option Co)
 | ext (x : Co) (i : Nat)
 | nilc (x : Co)
 | mkf (f : FuncId) (a b : List Co)
 | ifc (t : TypeId) (x : Co)
 | mn (b : Bool) (x y : Co)
 | build (z : List Value) (parts : List (Nat × Nat × Co))
 | gen (o : Op)
inductive CA where
 | new (l : List Value)
 | box (x : Co)
 | bsl (len : Nat) (base : List Value) (parts : List (Nat × Nat × Co))
 | mkm
 | mks (z : List Value) (l c : Co)
 | gen (o : Op)
inductive CRd where
 | ld (ag : Option Nat) (x : Co)
 | lkp (kt : TypeId) (z : Value) (m k : Co) (ok : Bool)
 | lens (x : Co)
 | lenm (x : Co)
 | entry (x : Co)
 | gen (o : Op)
inductive CE where
 | st (n : Nat) (a x : Co)
 | mup (kt : TypeId) (m k x : Co)
 | rng (x : Co)
 | nxt (x : Co)
 | call (f : FuncId) (args : List Co)
 | callv (f : Co) (args : List Co)
 | app (s : Nat) (x y : Co)
 | gen (o : Op)
inductive CK where
 | pur (e : CP)
 | alc (e : CA)
 | red (e : CRd)
 | eff (e : CE)
structure CI where
 g : Option (Nat × Bool)
 d : Option Nat
 c : Nat
 k : CK
inductive CC where
 | skip
 | regO (l : List CI)
 | regD (l : List CI)
 | seq (a b : CC)
 | cond (c : Co) (a b : CC)
 | block (id : Nat) (c : CC)
 | loop (c : CC)
 | exit (id : Nat)
 | ret
 | scope (c : CC)
 | gen (c : Code)
structure CF where
 body : CC
 res : List ResultVar
def coptInt (tm : Tm) (x : Option Co) (d : Nat) : R Nat := Option.casesOn x (.ok d) (fun o => natR (cev tm o) (fun n => .ok n))
def cSlice (tm : Tm) (s : Nat) (lo hi mx : Option Co) (v : Value) : R Value := match v with
 | .slice a len cap => bif !mx.isSome || hi.isSome then R.bind (coptInt tm mx cap) (fun m => R.bind (coptInt tm hi len) (fun hh => R.bind (coptInt tm lo 0) (fun l => sliceV s a cap mx.isSome m hh l))) else .no "slice - max without high"
 | _ => .no "slice"
def cPick (tm : Tm) (a b : Co) (v : Value) : R Value := match v with
 | .bool c => Bool.casesOn c (.ok (cev tm b)) (.ok (cev tm a))
 | _ => .no "pick"
def cFld (off : Nat) (ag : Option Nat) (v : Value) : R Value := match v with
 | .agg cs => loadC ag off cs.toList
 | _ => .no "field"
def cfillS (ih : List Value → R (List Value)) (off sz : Nat) (l cells : List Value) : R (List Value) := bif Nat.beq (llen l) sz then R.of "fill" (lput l cells off) ih else .no "fill - size"
def cfillP (tm : Tm) : List (Nat × Nat × Co) → List Value → R (List Value)
 | [], cells => .ok cells
 | (off, sz, x) :: xs, cells => cfillS (cfillP tm xs) off sz (vcells (cev tm x)) cells
def cpur (P : Program) (tm : Tm) (e : CP) : R Value := match e with
 | .mv x => .ok (cev tm x)
 | .pick c a b => cPick tm a b (cev tm c)
 | .bin op t x y => bin P op t (cev tm x) (cev tm y)
 | .un op x => oUn op (cev tm x)
 | .conv d x => oConv d (cev tm x)
 | .fld off ag x => cFld off ag (cev tm x)
 | .fldA off x => addrR (cev tm x) (fun a => .ok (moveA a off))
 | .ixA k x i => natR (cev tm i) (fun i => oIndexAddr k (cev tm x) i)
 | .sl s x lo hi mx => cSlice tm s lo hi mx (cev tm x)
 | .ext x i => oExtract (cev tm x) i
 | .nilc x => nilChk (cev tm x)
 | .mkf f a b => .ok (.func (.func f) ⟨cevs tm a⟩ ⟨cevs tm b⟩)
 | .ifc t x => .ok (.iface t (cev tm x))
 | .mn b x y => min2 b (cev tm x) (cev tm y)
 | .build z parts => R.bind (cfillP tm parts z) (fun l => .ok (.agg ⟨l⟩))
 | .gen o => purA P tm o
def calq (P : Program) (tm : Tm) (e : CA) : R NB := match e with
 | .new l => .ok (.ptr (.cells l false))
 | .box x => cellsNB (vcells (cev tm x))
 | .bsl len base parts => R.bind (cfillP tm parts base) (fun l => sliceNB l len len)
 | .mkm => .ok .map
 | .mks z l c => natR (cev tm l) (fun l => natR (cev tm c) (fun c => bif Nat.ble l c && Nat.ble c 100000 then sliceNB (repL c z) l c else .no "makeSlice"))
 | .gen o => alcA P tm o
def cLkp (P : Program) (h : Hp) (kt : TypeId) (z : Value) (ok : Bool) (m k : Value) : R Value :=
 bif keyOk P kt k then entsOf h m (fun es => match findE P kt k es 0 with
   | some (some (_, x)) => .ok (withOk ok x.val true)
   | some none => .ok (withOk ok z false)
   | none => .no "lookup - key") else .no "lookup - key"
def cred (P : Program) (tm : Tm) (h : Hp) (e : CRd) : R Value := match e with
 | .ld ag x => addrR (cev tm x) (fun a => cellsOf h a.block (fun cs _ => loadC ag a.off cs))
 | .lkp kt z m k ok => cLkp P h kt z ok (cev tm m) (cev tm k)
 | .lens x => lenS (cev tm x)
 | .lenm x => lenM h (cev tm x)
 | .entry x => oEntry h (cev tm x)
 | .gen o => redA P tm h o
def cSt (h : Hp) (n : Nat) (l : List Value) (a : Addr) : R Hp := bif Nat.beq (llen l) n then writeA h a.block a.off l else .no "store - size"
def cMup (P : Program) (kt : TypeId) (h : Hp) (m k x : Value) : R Hp :=
 bif keyOk P kt k then (match m with
  | .map (some r) => mapOf h r (fun es c => match findE P kt k es 0 with
   | some (some (i, e)) => bif sameV e.key k then .ok (hset h r (.map (mset es i k x) c)) else .no "mapUpdate - which key"
   | some none => .ok (hset h r (.map (lapp es [{ key := k, val := x, born := c }]) (Nat.succ c)))
   | none => .no "mapUpdate - key")
  | _ => .no "mapUpdate") else .no "mapUpdate - key"
def ceff (P : Program) (tm : Tm) (h : Hp) (nx : Nat) (e : CE) : OR := match e with
 | .st n a x => uOf nx (addrR (cev tm a) (cSt h n (vcells (cev tm x))))
 | .mup kt m k x => uOf nx (cMup P kt h (cev tm m) (cev tm k) (cev tm x))
 | .rng x => oRange h nx (cev tm x)
 | .nxt x => oNext h nx (cev tm x)
 | .call f args => .call f (cevs tm args) h nx
 | .callv f args => callV h nx (cevs tm args) (cev tm f)
 | .app s x y => orR (appendA s h nx (cev tm x) (cev tm y))
 | .gen o => effA P tm h nx o
def cwant (tm : Tm) (g : Option (Nat × Bool)) : Bool := Option.casesOn g true (fun p => boolIs p.2 (tget tm p.1))
abbrev CallF := FuncId → List Value → Hp → Nat → CR
abbrev RoundF := Nat → List Value → Hp → Nat → CR
def cO1 (ih : Tm → Hp → Nat → Out) (d : Option Nat) (tm : Tm) (h : Hp) (nx : Nat) (r : R Value) : Out := R.casesOn r (fun v => ih (putT tm d v) h nx) (fun w => .no w)
def cO2 (ih : Tm → Hp → Nat → Out) (d : Option Nat) (tm : Tm) (h : Hp) (nx : Nat) (r : R NB) : Out := R.casesOn r (fun b => ih (putT tm d (nbV nx b)) (hset h nx (nbO b)) (Nat.succ nx)) (fun w => .no w)
def cOS (P : Program) (call : CallF) (round : RoundF) (i : CI) (ih : Tm → Hp → Nat → Out) (tm : Tm) (h : Hp) (nx : Nat) : Out :=
 Bool.casesOn (cwant tm i.g) (ih (putT tm i.d undefV) h nx)
  (CK.casesOn i.k (fun e => cO1 ih i.d tm h nx (cpur P tm e)) (fun e => cO2 ih i.d tm h nx (calq P tm e)) (fun e => cO1 ih i.d tm h nx (cred P tm h e)) (fun e => orDone call round ih i.d tm (ceff P tm h nx e)))
def cO (P : Program) (call : CallF) (round : RoundF) : List CI → Tm → Hp → Nat → Out
 | [] => fun tm h nx => .ok .normal tm h nx
 | i :: is => cOS P call round i (cO P call round is)
abbrev KD := Tm → Hp → Nat → Hp → List Hp → Out
def cagree (P : Program) (tm : Tm) (e : CRd) (v : Value) : Nat → List Hp → Bool
 | 0, _ => true
 | n + 1, h :: hs => bif sameR v (cred P tm h e) then cagree P tm e v n hs else false
 | _ + 1, [] => false
def cD1 (ih : KD) (d : Option Nat) (tm : Tm) (h : Hp) (nx : Nat) (b : Hp) (hs : List Hp) (r : R Value) : Out := R.casesOn r (fun v => ih (putT tm d v) h nx b hs) (fun w => .no w)
def cD2 (ih : KD) (d : Option Nat) (tm : Tm) (h : Hp) (nx : Nat) (b : Hp) (hs : List Hp) (r : R NB) : Out := R.casesOn r (fun x => ih (putT tm d (nbV nx x)) (hset h nx (nbO x)) (Nat.succ nx) b hs) (fun w => .no w)
def cD3 (P : Program) (ih : KD) (d : Option Nat) (n : Nat) (e : CRd) (tm : Tm) (h : Hp) (nx : Nat) (b : Hp) (hs : List Hp) (r : R Value) : Out :=
 R.casesOn r (fun v => bif cagree P tm e v n hs then ih (putT tm d v) h nx b hs else .no "reads part") (fun w => .no w)
def cD4 (ih : KD) (d : Option Nat) (tm : Tm) (nx0 : Nat) (b : Hp) (hs : List Hp) (c : CR) : Out := CR.casesOn c (fun v h nx => bif Nat.ble nx0 nx then ih (putT tm d v) h nx h (b :: hs) else .no "order") (fun w => .no w) (fun _ _ => .no "alternatives")
def isEffC (k : CK) : Bool := match k with | .eff _ => true | _ => false
def cDS (P : Program) (call : CallF) (round : RoundF) (i : CI) (ih : KD) (tm : Tm) (h : Hp) (nx : Nat) (b : Hp) (hs : List Hp) : Out :=
 Bool.casesOn (cwant tm i.g) (Bool.casesOn (isEffC i.k) (ih (putT tm i.d undefV) h nx b hs) (ih (putT tm i.d undefV) h nx h (b :: hs)))
  (CK.casesOn i.k (fun e => cD1 ih i.d tm h nx b hs (cpur P tm e)) (fun e => cD2 ih i.d tm h nx b hs (calq P tm e)) (fun e => cD3 P ih i.d i.c e tm h nx b hs (cred P tm b e)) (fun e => cD4 ih i.d tm nx b hs (crOf call round (ceff P tm h nx e))))
def cD (P : Program) (call : CallF) (round : RoundF) : List CI → KD
 | [] => fun tm h nx _ _ => .ok .normal tm h nx
 | i :: is => cDS P call round i (cD P call round is)
abbrev CEx := Option Nat → CC → Tm → Hp → Nat → Out
def cAfter (ex : CEx) (cur : Option Nat) (b : CC) (x : Ex) (tm : Tm) (h : Hp) (nx : Nat) : Out := Ex.casesOn x (ex cur b tm h nx) (fun i => .ok (.exit i) tm h nx) (.ok .ret tm h nx)
def cSeq (ex : CEx) (cur : Option Nat) (b : CC) (o : Out) : Out := outThen o (cAfter ex cur b)
def cCond (ex : CEx) (cur : Option Nat) (a b : CC) (tm : Tm) (h : Hp) (nx : Nat) (v : Value) : Out := match v with
 | .bool c => Bool.casesOn c (ex cur b tm h nx) (ex cur a tm h nx)
 | _ => .no "cond"
def cEnter (P : Program) (ex : CEx) (c : CF) (args : List Value) (h : Hp) (nx : Nat) : CR := retA P c.res (ex none c.body (setArgs args 0 tm0) h nx)
def cParts (place : Nat → Option (Nat × Nat)) : List (Nat × Operand) → Option (List (Nat × Nat × Co))
 | [] => some []
 | x :: xs => match place x.1, co x.2, cParts place xs with
  | some p, some y, some r => some ((p.1, p.2, y) :: r)
  | _, _, _ => none
def cPur1 (P : Program) (o : Op) : Option CP := match o with
 | .move x => (co x).map .mv
 | .assign x => (co x).map .mv
 | .pick c a b => (co c).bind fun c => (co a).bind fun a => (co b).map fun b => .pick c a b
 | .build t parts => (zeroOf P t).bind fun z => (placeOf P t).bind fun pl => (cParts pl parts.toList).map fun ps => .build z ps
 | .nilCheck x => (co x).map .nilc
 | .binOp op t x y _ => (co x).bind fun x => (co y).map fun y => .bin op t x y
 | .unOp op _ x => (co x).map fun x => .un op x
 | .convert s d x => (und P s).bind fun _ => (und P d).bind fun d => (co x).map fun x => .conv d x
 | .makeInterface t x => bif isConcrete P t then (co x).map fun x => .ifc t x else none
 | .makeFunc fn a b => (match fn with
  | .func f => (cos a.toList).bind fun a => (cos b.toList).map fun b => .mkf f a b
  | _ => none)
 | .slice t x lo hi mx => (elemSz P t).bind fun s => (co x).bind fun x => (coO lo).bind fun lo => (coO hi).bind fun hi => (coO mx).map fun mx => .sl s x lo hi mx
 | .fieldAddr s x f => (fieldOf P s f).bind fun f => (co x).map fun x => .fldA f.1 x
 | .field s x f => (fieldOf P s f).bind fun f => (aggOf P f.2).bind fun ag => (co x).map fun x => .fld f.1 ag x
 | .indexAddr t x ix => (ixOf P t).bind fun k => (co x).bind fun x => (co ix).map fun i => .ixA k x i
 | .extract x i => (co x).map fun x => .ext x i
 | .call c => (match c.callee with
  | .builtin .min => (match c.args.toList with | [x, y] => (co x).bind fun x => (co y).map fun y => .mn true x y | _ => none)
  | .builtin .max => (match c.args.toList with | [x, y] => (co x).bind fun x => (co y).map fun y => .mn false x y | _ => none)
  | _ => none)
 | _ => none
def cPur (P : Program) (o : Op) : CP := (cPur1 P o).getD (.gen o)
def cAlc1 (P : Program) (o : Op) : Option CA := match o with
 | .alloc e => (zeroOf P e).bind fun l => bif cellL l then some (.new l) else none
 | .box _ x => (co x).map .box
 | .buildSlice t len parts => (elemOfS P t).bind fun e => (szOf P e).bind fun s => (zeroOf P e).bind fun z =>
   bif Nat.beq (llen z) s && Nat.ble (Nat.mul len s) 1000000 then (cParts (fun i => some (Nat.mul i s, s)) parts.toList).map fun ps => .bsl len (repL len z) ps else none
 | .makeMap _ none => some .mkm
 | .makeSlice t l c => (elemOfS P t).bind fun e => (zeroOf P e).bind fun z =>
   bif Nat.beq (llen z) (((P.info? e).map (·.size)).getD 0) && Nat.ble (((P.info? e).map (·.bytes)).getD 1000001) 1000000 then (co l).bind fun l => (co c).map fun c => .mks z l c else none
 | _ => none
def cAlc (P : Program) (o : Op) : CA := (cAlc1 P o).getD (.gen o)
def cRed1 (P : Program) (o : Op) : Option CRd := match o with
 | .load t a => (aggOf P t).bind fun ag => (co a).map fun a => .ld ag a
 | .lookup t x ix ok => (match P.underlying t with
  | some (.map kt e) => (zeroVal P e).bind fun z => (co x).bind fun m => (co ix).map fun k => .lkp kt z m k ok
  | _ => none)
 | .entry x => (co x).map .entry
 | .call c => (match c.args.toList with
  | [x] => (lget c.argTypes.toList 0).bind fun t => (match P.underlying t with
   | some (.slice _) => (co x).map .lens
   | some (.map _ _) => (co x).map .lenm
   | _ => none)
  | _ => none)
 | _ => none
def cRed (P : Program) (o : Op) : CRd := (cRed1 P o).getD (.gen o)
def cCallee (f : Co) (aS0 : List Co) : CE := match f with
 | .v (.func (.func g) ⟨[]⟩ ⟨[]⟩) => .call g aS0
 | f => .callv f aS0
def cEff1 (P : Program) (o : Op) : Option CE := match o with
 | .store t a x => (szOf P t).bind fun n => (co a).bind fun a => (co x).map fun x => .st n a x
 | .mapUpdate t m k x => (match P.underlying t with
  | some (.map kt _) => (co m).bind fun m => (co k).bind fun k => (co x).map fun x => .mup kt m k x
  | _ => none)
 | .range t x => bif isMapTy P t then (co x).map .rng else none
 | .next it s => bif s then none else (co it).map .nxt
 | .call c => (cos c.args.toList).bind fun aS0 => (match c.callee with
  | .value f => (co f).map fun f => cCallee f aS0
  | .builtin .append => (lget c.argTypes.toList 0).bind fun t => (elemOfS P t).bind fun e => (szOf P e).bind fun s => (zeroOf P e).bind fun z =>
    bif Nat.beq (llen z) s && smallT P e && (!isIntT P (lget c.argTypes.toList 1) && knownT P (lget c.argTypes.toList 1)) then (match aS0 with | [x, y] => some (.app s x y) | _ => none) else none
  | _ => none)
 | _ => none
def cEff (P : Program) (o : Op) : CE := (cEff1 P o).getD (.gen o)
def cKd (P : Program) (k : Kd) (o : Op) : CK := Kd.casesOn k (.pur (cPur P o)) (.alc (cAlc P o)) (.red (cRed P o)) (.eff (cEff P o))
def cG (all : List Oper) (g : Option (Nat × Bool)) : Option (Option (Nat × Bool)) := match g with
 | none => some none
 | some (j, b) => (lget all j).bind fun o => o.dst.map fun d => some (d, b)
def cOps (P : Program) (all : List Oper) : List Oper → Option (List CI)
 | [] => some []
 | o :: os => (cG all o.guard).bind fun g => (cOps P all os).map fun is => { g := g, d := o.dst, c := 0, k := cKd P (kindOf P o.op) o.op } :: is
def cSteps (P : Program) (all : List Oper) : List Step → Option (List CI)
 | [] => some []
 | s :: ss => (cG all s.o.guard).bind fun g => (cSteps P all ss).map fun is => { g := g, d := s.o.dst, c := s.chk, k := cKd P s.kd s.o.op } :: is
def cReg (P : Program) (id : Nat) (ops : Array Oper) (draw : Bool) : CC := bif draw
 then (match (planOf P ops.toList).bind (cSteps P ops.toList) with | some l => .regD l | none => .gen (.region id ops draw))
 else (match cOps P ops.toList ops.toList with | some l => .regO l | none => .gen (.region id ops draw))
def comp (P : Program) : Code → CC
 | .skip => .skip
 | .label _ => .skip
 | .scope c => .scope (comp P c)
 | .region id ops draw => cReg P id ops draw
 | .seq a b => .seq (comp P a) (comp P b)
 | .cond x a b => (match co x with
  | some x => .cond x (comp P a) (comp P b)
  | none => .gen (.cond x a b))
 | .block id c => .block id (comp P c)
 | .loop c => .loop (comp P c)
 | .exit id => .exit id
 | .ret => .ret
 | c => .gen c
def compAt (P : Program) (f : FuncId) : Option CF := match lget P.funcs.toList f with
 | some fn => (match fn.body with
  | some c => some { body := comp P c, res := fn.results.toList }
  | none => none)
 | none => none
def ccallA (P : Program) (orc : Orc) (ex : CEx) (f : FuncId) (args : List Value) (h : Hp) (nx : Nat) : CR :=
 Option.casesOn (orc f) (Option.casesOn (compAt P f) (.no "no such function") (fun c => cEnter P ex c args h nx)) (fun g => g args h nx)
def cexS (P : Program) (orc : Orc) (ex : CEx) (ex0 : ExF) (cur : Option Nat) (c : CC) (tm : Tm) (h : Hp) (nx : Nat) : Out := match c with
 | .skip => .ok .normal tm h nx
 | .scope c => ex cur c tm h nx
 | .regO l => cO P (ccallA P orc ex) (roundA ex0) l tm h nx
 | .regD l => cD P (ccallA P orc ex) (roundA ex0) l tm h nx h []
 | .seq a b => cSeq ex cur b (ex cur a tm h nx)
 | .cond c a b => cCond ex cur a b tm h nx (cev tm c)
 | .block id c => blockA id (ex cur c tm h nx)
 | .loop c => cSeq ex cur (.loop c) (ex cur c tm h nx)
 | .exit id => .ok (.exit id) tm h nx
 | .ret => .ok .ret tm h nx
 | .gen c => exS P orc ex0 cur c tm h nx
def cexA (P : Program) (orc : Orc) : Nat → CEx
 | 0 => fun _ _ _ _ _ => .no "fuel"
 | n + 1 => cexS P orc (cexA P orc n) (exA P orc n)
section
variable {P : Program}
theorem co_ev {x : Operand} {y : Co} (h : co x = some y) (tm : Tm) : ev tm x = .ok (cev tm y) := by
 cases x with
 | tmp t => cases h; rfl
 | const v =>
  unfold co at h
  cases hv : constV v with
  | false => simp [hv] at h
  | true =>
   simp [hv] at h
   subst h
   show evC v = .ok v
   unfold evC; rw [hv]; rfl
 | global g => cases h
 | func f => cases h; rfl
theorem cos_ev : ∀ {xs : List Operand} {ys : List Co}, cos xs = some ys → ∀ tm, evs tm xs = .ok (cevs tm ys)
 | [], ys, h, tm => by cases h; rfl
 | x :: xs, ys, h, tm => by
  unfold cos at h
  split at h
  ·rename_i y ys' h1 h2
   cases h
   unfold evs evsS
   rw [co_ev h1, cos_ev h2]
   rfl
  ·cases h
theorem coO_int {x : Option Operand} {y : Option Co} (h : coO x = some y) (tm : Tm) (d : Nat) : optInt tm x d = coptInt tm y d := by
 cases x with
 | none => cases h; rfl
 | some x =>
  unfold coO at h
  split at h
  ·cases h; rename_i e; cases e
  ·rename_i z e
   cases e
   split at h
   ·rename_i w hw
    cases h
    unfold optInt coptInt
    simp only [co_ev hw]
    rfl
   ·cases h
theorem coO_some {x : Option Operand} {y : Option Co} (h : coO x = some y) : x.isSome = y.isSome := by
 cases x with
 | none => cases h; rfl
 | some x =>
  unfold coO at h
  simp only at h
  split at h
  ·cases h; rfl
  ·cases h
theorem cParts_fill {pl : Nat → Option (Nat × Nat)} : ∀ {ps : List (Nat × Operand)} {qs : List (Nat × Nat × Co)}, cParts pl ps = some qs → ∀ (tm : Tm) (cells : List Value), fillP tm pl ps cells = cfillP tm qs cells
 | [], qs, h, tm, cells => by cases h; rfl
 | x :: xs, qs, h, tm, cells => by
  unfold cParts at h
  split at h
  ·rename_i p y r h1 h2 h3
   cases h
   have ih := fun cells => cParts_fill h3 tm cells
   unfold fillP fillS
   rw [co_ev h2]
   show R.of "fill" (pl x.1) _ = cfillS (cfillP tm r) p.1 p.2 (vcells (cev tm y)) cells
   rw [h1]
   unfold cfillS
   have : fillP tm pl xs = cfillP tm r := funext ih
   rw [this]
   rfl
  ·cases h
theorem bind_some {α β : Type} {x : Option α} {f : α → Option β} {y : β} (h : x.bind f = some y) : ∃ a, x = some a ∧ f a = some y := by
 cases x with
 | none => cases h
 | some a => exact ⟨a, rfl, h⟩
theorem map_some {α β : Type} {x : Option α} {f : α → β} {y : β} (h : x.map f = some y) : ∃ a, x = some a ∧ f a = y := by
 cases x with
 | none => cases h
 | some a => exact ⟨a, rfl, by simpa using h⟩
theorem getD_gen {α : Type} {x : Option α} {d : α} {p : α → Prop} (h1 : ∀ a, x = some a → p a) (h2 : p d) : p (x.getD d) := by
 cases x with
 | none => exact h2
 | some a => exact h1 a rfl
theorem cpur_ok {o : Op} {tm : Tm} {v : Value} : cpur P tm (cPur P o) = .ok v → purA P tm o = .ok v := by
 unfold cPur
 refine getD_gen (p := fun e => cpur P tm e = .ok v → purA P tm o = .ok v) (fun e he hv => ?_) (fun h => h)
 cases o <;> simp only [cPur1] at he <;> try (cases he; done)
 case move x => obtain ⟨y, h1, rfl⟩ := map_some he; show ev tm x = _; rw [co_ev h1]; exact hv
 case assign x => obtain ⟨y, h1, rfl⟩ := map_some he; show ev tm x = _; rw [co_ev h1]; exact hv
 case pick c a b =>
  obtain ⟨c', h1, he⟩ := bind_some he
  obtain ⟨a', h2, he⟩ := bind_some he
  obtain ⟨b', h3, rfl⟩ := map_some he
  have hc : R.bind (ev tm c) (fun v => oPick tm a b v) = oPick tm a b (cev tm c') := by rw [co_ev h1]; rfl
  show R.bind (ev tm c) (fun v => oPick tm a b v) = _
  rw [hc]
  have hv : cPick tm a' b' (cev tm c') = .ok v := hv
  generalize cev tm c' = x at hv
  cases x <;> try (cases hv; done)
  rename_i t
  cases t with
  | true => show ev tm a = _; rw [co_ev h2]; exact hv
  | false => show ev tm b = _; rw [co_ev h3]; exact hv
 case build t ps =>
  obtain ⟨z, h1, he⟩ := bind_some he
  obtain ⟨pl, h2, he⟩ := bind_some he
  obtain ⟨qs, h3, rfl⟩ := map_some he
  simp only [purA, oBuild, h1, h2, R.of, cParts_fill h3]
  exact hv
 case nilCheck x => obtain ⟨y, h1, rfl⟩ := map_some he; simp only [purA, co_ev h1, R.bind]; exact hv
 case binOp op t x y yt =>
  obtain ⟨x', h1, he⟩ := bind_some he
  obtain ⟨y', h2, rfl⟩ := map_some he
  simp only [purA, co_ev h1, co_ev h2, R.bind]; exact hv
 case unOp op t x => obtain ⟨y, h1, rfl⟩ := map_some he; simp only [purA, co_ev h1, R.bind]; exact hv
 case convert s d x =>
  obtain ⟨a, h1, he⟩ := bind_some he
  obtain ⟨b, h2, he⟩ := bind_some he
  obtain ⟨y, h3, rfl⟩ := map_some he
  simp only [purA, h1, h2, co_ev h3, R.bind, R.of]; exact hv
 case makeInterface t x =>
  cases hc : isConcrete P t with
  | false => simp [hc] at he
  | true =>
   simp only [hc, cond_true] at he
   obtain ⟨y, h1, rfl⟩ := map_some he
   simp only [purA, co_ev h1, R.bind]
   unfold oIface
   unfold isConcrete at hc
   split at hc
   ·cases hc
   ·rename_i d hn hu
    try simp only [hu]
    cases d <;> first | exact hv | exact (hn _ rfl).elim
   ·cases hc
 case makeFunc fn a b =>
  cases fn <;> try (cases he; done)
  obtain ⟨a', h1, he⟩ := bind_some he
  obtain ⟨b', h2, rfl⟩ := map_some he
  simp only [purA, oFunc, cos_ev h1, cos_ev h2, R.bind]
  exact hv
 case slice t x lo hi mx =>
  obtain ⟨s, h1, he⟩ := bind_some he
  obtain ⟨x', h2, he⟩ := bind_some he
  obtain ⟨lo', h3, he⟩ := bind_some he
  obtain ⟨hi', h4, he⟩ := bind_some he
  obtain ⟨mx', h5, rfl⟩ := map_some he
  simp only [purA, h1, co_ev h2, R.bind, R.of]
  unfold oSlice
  simp only [coO_int h3, coO_int h4, coO_int h5, coO_some h4, coO_some h5]
  exact hv
 case fieldAddr s x f =>
  obtain ⟨a, h1, he⟩ := bind_some he
  obtain ⟨y, h2, rfl⟩ := map_some he
  simp only [purA, h1, co_ev h2, R.bind, R.of]; exact hv
 case field s x f =>
  obtain ⟨a, h1, he⟩ := bind_some he
  obtain ⟨ag, h2, he⟩ := bind_some he
  obtain ⟨y, h3, rfl⟩ := map_some he
  simp only [purA, h1, co_ev h3, R.bind, R.of]
  unfold oField
  simp only [h2, R.of]
  exact hv
 case indexAddr t x ix =>
  obtain ⟨k, h1, he⟩ := bind_some he
  obtain ⟨x', h2, he⟩ := bind_some he
  obtain ⟨i', h3, rfl⟩ := map_some he
  simp only [purA, h1, co_ev h2, co_ev h3, R.bind, R.of]; exact hv
 case extract x i => obtain ⟨y, h1, rfl⟩ := map_some he; simp only [purA, co_ev h1, R.bind]; exact hv
 case call c =>
  simp only [purA, purC]
  split at he
  ·rename_i hcal
   simp only [hcal]
   split at he
   ·rename_i x y hxy
    obtain ⟨x', h1, he⟩ := bind_some he
    obtain ⟨y', h2, rfl⟩ := map_some he
    simp only [evMin, hxy, co_ev h1, co_ev h2, R.bind]; exact hv
   ·cases he
  ·rename_i hcal
   simp only [hcal]
   split at he
   ·rename_i x y hxy
    obtain ⟨x', h1, he⟩ := bind_some he
    obtain ⟨y', h2, rfl⟩ := map_some he
    simp only [evMin, hxy, co_ev h1, co_ev h2, R.bind]; exact hv
   ·cases he
  ·cases he
theorem calq_ok {o : Op} {tm : Tm} {v : NB} : calq P tm (cAlc P o) = .ok v → alcA P tm o = .ok v := by
 unfold cAlc
 refine getD_gen (p := fun e => calq P tm e = .ok v → alcA P tm o = .ok v) (fun e he hv => ?_) (fun h => h)
 cases o <;> simp only [cAlc1] at he <;> try (cases he; done)
 case alloc e' =>
  obtain ⟨l, h1, he⟩ := bind_some he
  cases hc : cellL l with
  | false => simp [hc] at he
  | true =>
   simp [hc] at he
   subst he
   simp only [alcA, h1, R.of, cellsNB, hc, cond_true]
   exact hv
 case box t x => obtain ⟨y, h1, rfl⟩ := map_some he; simp only [alcA, co_ev h1, R.bind]; exact hv
 case buildSlice t len ps =>
  obtain ⟨e1, h1, he⟩ := bind_some he
  obtain ⟨s, h2, he⟩ := bind_some he
  obtain ⟨z, h3, he⟩ := bind_some he
  cases hc : (Nat.beq (llen z) s && Nat.ble (Nat.mul len s) 1000000) with
  | false => simp only [hc, cond_false] at he; cases he
  | true =>
   simp only [hc, cond_true] at he
   obtain ⟨qs, h4, rfl⟩ := map_some he
   simp only [Bool.and_eq_true] at hc
   simp only [alcA, oBuildSlice, h1, h2, h3, R.of, hc.1, hc.2, cond_true, cParts_fill h4]
   exact hv
 case makeMap t r =>
  cases r with
  | none => cases he; exact hv
  | some r => cases he
 case makeSlice t l c =>
  obtain ⟨e1, h1, he⟩ := bind_some he
  obtain ⟨z, h2, he⟩ := bind_some he
  cases hc : (Nat.beq (llen z) (((P.info? e1).map (·.size)).getD 0) && Nat.ble (((P.info? e1).map (·.bytes)).getD 1000001) 1000000) with
  | false => simp only [hc, cond_false] at he; cases he
  | true =>
   simp only [hc, cond_true] at he
   obtain ⟨l', h3, he⟩ := bind_some he
   obtain ⟨c', h4, rfl⟩ := map_some he
   simp only [alcA, co_ev h3, co_ev h4, R.bind]
   simp only [calq] at hv
   unfold natR at hv ⊢
   split at hv
   ·rename_i k n hn
    simp only [hn]
    cases n with
    | negSucc _ => cases hv
    | ofNat n =>
     simp only at hv ⊢
     split at hv
     ·rename_i k' m hm
      try simp only [hm]
      cases m with
      | negSucc _ => cases hv
      | ofNat m =>
       show oMakeSlice P t n m = _
       unfold oMakeSlice
       simp only [h1, h2, R.of, hc, cond_true]
       exact hv
     ·cases hv
   ·cases hv
theorem cred_eq {o : Op} {tm : Tm} {h : Hp} : cred P tm h (cRed P o) = redA P tm h o := by
 unfold cRed
 refine getD_gen (p := fun e => cred P tm h e = redA P tm h o) (fun e he => ?_) rfl
 cases o <;> simp only [cRed1] at he <;> try (cases he; done)
 case load t a =>
  obtain ⟨ag, h1, he⟩ := bind_some he
  obtain ⟨y, h2, rfl⟩ := map_some he
  simp only [redA, cred, co_ev h2, R.bind, loadA, h1, R.of]
 case lookup t x ix ok =>
  split at he
  ·rename_i kt e' hu
   obtain ⟨z, h1, he⟩ := bind_some he
   obtain ⟨m, h2, he⟩ := bind_some he
   obtain ⟨k, h3, rfl⟩ := map_some he
   simp only [redA, cred, co_ev h2, co_ev h3, R.bind, oLookup, hu, cLkp, h1, R.of]
   congr 1
  ·cases he
 case entry x =>
  obtain ⟨y, h1, rfl⟩ := map_some he
  simp only [redA, cred, co_ev h1, R.bind]
 case call c =>
  split at he
  ·rename_i x hx
   obtain ⟨t, h1, he⟩ := bind_some he
   split at he
   ·rename_i e' hu
    obtain ⟨y, h2, rfl⟩ := map_some he
    simp only [redA, lenC, hx, h1, R.of, co_ev h2, R.bind, lenA, hu, cred]
   ·rename_i a b hu
    obtain ⟨y, h2, rfl⟩ := map_some he
    simp only [redA, lenC, hx, h1, R.of, co_ev h2, R.bind, lenA, hu, cred]
   ·cases he
  ·cases he
end
section
variable {P : Program} {orc : Orc}
theorem lapp_nil {α : Type} (l : List α) : lapp l [] = l := by rw [lapp_eq]; simp
theorem cCallee_eq {tm : Tm} {h : Hp} {nx : Nat} (f : Co) (aS0 : List Co) : ceff P tm h nx (cCallee f aS0) = callV h nx (cevs tm aS0) (cev tm f) := by
 unfold cCallee
 split
 ·show OR.call _ _ h nx = OR.call _ (lapp [] (lapp (cevs tm aS0) [])) h nx
  rw [lapp_nil]; rfl
 ·rfl
theorem ceff_eq {o : Op} {tm : Tm} {h : Hp} {nx : Nat} : ceff P tm h nx (cEff P o) = effA P tm h nx o := by
 unfold cEff
 refine getD_gen (p := fun e => ceff P tm h nx e = effA P tm h nx o) (fun e he => ?_) rfl
 cases o <;> simp only [cEff1] at he <;> try (cases he; done)
 case store t a x =>
  obtain ⟨n, h1, he⟩ := bind_some he
  obtain ⟨a', h2, he⟩ := bind_some he
  obtain ⟨x', h3, rfl⟩ := map_some he
  simp only [effA, ceff, oStore, co_ev h2, co_ev h3, R.bind, storeA, h1, R.of]
  congr 1
 case mapUpdate t m k x =>
  split at he
  ·rename_i kt e' hu
   obtain ⟨m', h1, he⟩ := bind_some he
   obtain ⟨k', h2, he⟩ := bind_some he
   obtain ⟨x', h3, rfl⟩ := map_some he
   simp only [effA, ceff, co_ev h1, co_ev h2, co_ev h3, R.bind, oMapUpdate, hu, cMup]
   congr 1
  ·cases he
 case range t x =>
  cases hm : isMapTy P t with
  | false => simp [hm] at he
  | true =>
   simp only [hm, cond_true] at he
   obtain ⟨x', h1, rfl⟩ := map_some he
   simp only [effA, ceff, co_ev h1, orB, hm, cond_true]
 case next it s =>
  cases s with
  | true => cases he
  | false =>
   simp only [cond_false] at he
   obtain ⟨x', h1, rfl⟩ := map_some he
   simp only [effA, ceff, co_ev h1, orB, cond_false]
 case call c =>
  obtain ⟨aS0, h1, he⟩ := bind_some he
  simp only [effA, oCall, cos_ev h1, orB]
  split at he
  ·rename_i f hcal
   obtain ⟨f', h2, rfl⟩ := map_some he
   simp only [hcal, co_ev h2]
   exact cCallee_eq f' aS0
  ·rename_i hcal
   obtain ⟨t, h2, he⟩ := bind_some he
   obtain ⟨e', h3, he⟩ := bind_some he
   obtain ⟨s, h4, he⟩ := bind_some he
   obtain ⟨z, h5, he⟩ := bind_some he
   cases hc : (Nat.beq (llen z) s && smallT P e' && (!isIntT P (lget c.argTypes.toList 1) && knownT P (lget c.argTypes.toList 1))) with
   | false => simp only [hc, cond_false] at he; cases he
   | true =>
    simp only [hc, cond_true] at he
    simp only [Bool.and_eq_true, Bool.not_eq_true'] at hc
    obtain ⟨⟨c1, c2⟩, c3, c4⟩ := hc
    split at he
    ·rename_i x y
     cases he
     simp only [hcal, builtinA, h2, h3, h4, h5, R.of, c1, c2, Bool.and_self, cond_true, cevs, arg2, append2, c3, c4, cond_false, ceff]
    ·cases he
  ·cases he
inductive OLe : Out → Out → Prop
 | no (w : String) (o : Out) : OLe (.no w) o
 | ok (x : Ex) (tm : Tm) (h : Hp) (nx : Nat) : OLe (.ok x tm h nx) (.ok x tm h nx)
 | alt {a b a' b' : Out} (l : OLe a a') (r : OLe b b') : OLe (.alt a b) (.alt a' b')
inductive CLe : CR → CR → Prop
 | no (w : String) (o : CR) : CLe (.no w) o
 | ok (v : Value) (h : Hp) (nx : Nat) : CLe (.ok v h nx) (.ok v h nx)
 | alt {a b a' b' : CR} (l : CLe a a') (r : CLe b b') : CLe (.alt a b) (.alt a' b')
theorem OLe.refl : ∀ o, OLe o o
 | .no w => .no w _
 | .ok _ _ _ _ => .ok _ _ _ _
 | .alt a b => .alt (OLe.refl a) (OLe.refl b)
theorem CLe.refl : ∀ o, CLe o o
 | .no w => .no w _
 | .ok _ _ _ => .ok _ _ _
 | .alt a b => .alt (CLe.refl a) (CLe.refl b)
theorem OLe.sat {a b : Out} {K : Ex → Tm → Hp → Nat → Prop} (h : OLe a b) (hs : outSat a K) : outSat b K := by
 induction h with
 | no => exact hs.elim
 | ok => exact hs
 | alt _ _ ih1 ih2 => exact ⟨ih1 hs.1, ih2 hs.2⟩
theorem CLe.sat {a b : CR} {K : Value → Hp → Nat → Prop} (h : CLe a b) (hs : crSat a K) : crSat b K := by
 induction h with
 | no => exact hs.elim
 | ok => exact hs
 | alt _ _ ih1 ih2 => exact ⟨ih1 hs.1, ih2 hs.2⟩
theorem OLe.then {a b : Out} {k k' : Ex → Tm → Hp → Nat → Out} (h : OLe a b) (hk : ∀ x tm h nx, OLe (k x tm h nx) (k' x tm h nx)) : OLe (outThen a k) (outThen b k') := by
 induction h with
 | no => exact .no _ _
 | ok => exact hk _ _ _ _
 | alt _ _ ih1 ih2 => exact .alt ih1 ih2
theorem OLe.cr {a b : Out} {k k' : Ex → Tm → Hp → Nat → CR} (h : OLe a b) (hk : ∀ x tm h nx, CLe (k x tm h nx) (k' x tm h nx)) : CLe (outCR a k) (outCR b k') := by
 induction h with
 | no => exact .no _ _
 | ok => exact hk _ _ _ _
 | alt _ _ ih1 ih2 => exact .alt ih1 ih2
theorem CLe.then {a b : CR} {k k' : Value → Hp → Nat → Out} (h : CLe a b) (hk : ∀ v h nx, OLe (k v h nx) (k' v h nx)) : OLe (crThen a k) (crThen b k') := by
 induction h with
 | no => exact .no _ _
 | ok => exact hk _ _ _
 | alt _ _ ih1 ih2 => exact .alt ih1 ih2
def CallLe (call call' : CallF) : Prop := ∀ f args h nx, CLe (call f args h nx) (call' f args h nx)
theorem orDone_le {call call' : CallF} (hc : CallLe call call') {round : RoundF} {ih ih' : Tm → Hp → Nat → Out} (hi : ∀ tm h nx, OLe (ih tm h nx) (ih' tm h nx)) (d : Option Nat) (tm : Tm) :
  ∀ r, OLe (orDone call round ih d tm r) (orDone call' round ih' d tm r)
 | .val v h nx => hi _ _ _
 | .call f args h nx => (hc f args h nx).then fun v h nx => hi _ _ _
 | .round l args h nx => (CLe.refl _).then fun v h nx => hi _ _ _
 | .no w => .no _ _
 | .alt a b => .alt (orDone_le hc hi d tm a) (orDone_le hc hi d tm b)
theorem cG_want {all : List Oper} {g : Option (Nat × Bool)} {g' : Option (Nat × Bool)} (h : cG all g = some g') (tm : Tm) : wantedA all tm g = cwant tm g' := by
 cases g with
 | none => cases h; rfl
 | some p =>
  obtain ⟨j, b⟩ := p
  obtain ⟨o, h1, h⟩ := bind_some h
  obtain ⟨d, h2, rfl⟩ := map_some h
  show wantedG all tm j b = boolIs b (tget tm d)
  unfold wantedG
  simp only [h1, h2]
theorem cOps_le {call call' : CallF} (hc : CallLe call call') {round : RoundF} {all : List Oper} : ∀ {os : List Oper} {l : List CI}, cOps P all os = some l → ∀ tm h nx, OLe (cO P call round l tm h nx) (opsAI P call' round all os tm h nx)
 | [], l, h, tm, hp, nx => by cases h; exact .ok _ _ _ _
 | o :: os, l, h, tm, hp, nx => by
  obtain ⟨g, h1, h⟩ := bind_some h
  obtain ⟨is, h2, rfl⟩ := map_some h
  have ih := cOps_le hc (round := round) h2
  show OLe (cOS P call round _ (cO P call round is) tm hp nx) (opsS P call' round all o (opsAI P call' round all os) tm hp nx)
  unfold cOS opsS
  rw [cG_want h1 tm]
  show OLe (Bool.casesOn (cwant tm g) _ _) _
  cases cwant tm g with
  | false => exact ih _ _ _
  | true =>
   show OLe (CK.casesOn (cKd P (kindOf P o.op) o.op) _ _ _ _) (orDone call' round (opsAI P call' round all os) o.dst tm (opA P tm hp nx o.op))
   unfold opA
   cases kindOf P o.op with
   | pur =>
    show OLe (cO1 (cO P call round is) o.dst tm hp nx (cpur P tm (cPur P o.op))) (orDone call' round (opsAI P call' round all os) o.dst tm (vOf hp nx (purA P tm o.op)))
    cases hv : cpur P tm (cPur P o.op) with
    | no w => exact .no _ _
    | ok v => rw [cpur_ok hv]; exact ih _ _ _
   | alc =>
    show OLe (cO2 (cO P call round is) o.dst tm hp nx (calq P tm (cAlc P o.op))) (orDone call' round (opsAI P call' round all os) o.dst tm (newOf hp nx (alcA P tm o.op)))
    cases hv : calq P tm (cAlc P o.op) with
    | no w => exact .no _ _
    | ok v => rw [calq_ok hv]; exact ih _ _ _
   | red =>
    show OLe (cO1 (cO P call round is) o.dst tm hp nx (cred P tm hp (cRed P o.op))) (orDone call' round (opsAI P call' round all os) o.dst tm (vOf hp nx (redA P tm hp o.op)))
    rw [cred_eq]
    cases redA P tm hp o.op with
    | no w => exact .no _ _
    | ok v => exact ih _ _ _
   | eff =>
    show OLe (orDone call round (cO P call round is) o.dst tm (ceff P tm hp nx (cEff P o.op))) (orDone call' round (opsAI P call' round all os) o.dst tm (effA P tm hp nx o.op))
    rw [ceff_eq]
    exact orDone_le hc ih _ _ _
theorem cagree_eq {tm : Tm} {o : Op} {v : Value} : ∀ (n : Nat) (hs : List Hp), cagree P tm (cRed P o) v n hs = agree P tm o v n hs
 | 0, _ => rfl
 | n + 1, [] => rfl
 | n + 1, h :: hs => by
  unfold cagree agree
  rw [cred_eq, cagree_eq n hs]
theorem crOf_ok {call call' : CallF} (hc : CallLe call call') {round : RoundF} {r : OR} {v : Value} {h : Hp} {nx : Nat} (he : crOf call round r = .ok v h nx) : crOf call' round r = .ok v h nx := by
 cases r with
 | call f args h' nx' =>
  have he : call f args h' nx' = .ok v h nx := he
  have := hc f args h' nx'
  rw [he] at this
  show call' f args h' nx' = _
  generalize call' f args h' nx' = z at this
  cases this; rfl
 | _ => exact he
theorem cSteps_le {call call' : CallF} (hc : CallLe call call') {round : RoundF} {all : List Oper} : ∀ {ss : List Step} {l : List CI}, cSteps P all ss = some l → ∀ tm h nx b hs, OLe (cD P call round l tm h nx b hs) (drawAI P call' round all ss tm h nx b hs)
 | [], l, h, tm, hp, nx, b, hs => by cases h; exact .ok _ _ _ _
 | s :: ss, l, h, tm, hp, nx, b, hs => by
  obtain ⟨g, h1, h⟩ := bind_some h
  obtain ⟨is, h2, rfl⟩ := map_some h
  have ih := cSteps_le hc (round := round) h2
  show OLe (cDS P call round _ (cD P call round is) tm hp nx b hs) (dS P call' round all s (drawAI P call' round all ss) tm hp nx b hs)
  unfold cDS dS
  rw [cG_want h1 tm]
  show OLe (Bool.casesOn (cwant tm g) _ _) _
  cases cwant tm g with
  | false =>
   show OLe (Bool.casesOn (isEffC (cKd P s.kd s.o.op)) _ _) (dSkip _ s tm hp nx b hs)
   unfold dSkip
   cases s.kd <;> exact ih _ _ _ _ _
  | true =>
   show OLe (CK.casesOn (cKd P s.kd s.o.op) _ _ _ _) (dStep P call' round (drawAI P call' round all ss) s tm hp nx b hs)
   unfold dStep
   cases s.kd with
   | pur =>
    show OLe (cD1 (cD P call round is) s.o.dst tm hp nx b hs (cpur P tm (cPur P s.o.op))) (dVal (drawAI P call' round all ss) s.o.dst tm hp nx b hs (purA P tm s.o.op))
    cases hv : cpur P tm (cPur P s.o.op) with
    | no w => exact .no _ _
    | ok v => rw [cpur_ok hv]; exact ih _ _ _ _ _
   | alc =>
    show OLe (cD2 (cD P call round is) s.o.dst tm hp nx b hs (calq P tm (cAlc P s.o.op))) (dNew (drawAI P call' round all ss) s.o.dst tm hp nx b hs (alcA P tm s.o.op))
    cases hv : calq P tm (cAlc P s.o.op) with
    | no w => exact .no _ _
    | ok v => rw [calq_ok hv]; exact ih _ _ _ _ _
   | red =>
    show OLe (cD3 P (cD P call round is) s.o.dst s.chk (cRed P s.o.op) tm hp nx b hs (cred P tm b (cRed P s.o.op))) (dRed P (drawAI P call' round all ss) s.o.dst s.chk s.o.op tm hp nx b hs (redA P tm b s.o.op))
    rw [cred_eq]
    cases redA P tm b s.o.op with
    | no w => exact .no _ _
    | ok v =>
     show OLe (bif cagree P tm (cRed P s.o.op) v s.chk hs then _ else _) (bif agree P tm s.o.op v s.chk hs then _ else _)
     rw [cagree_eq]
     cases agree P tm s.o.op v s.chk hs with
     | false => exact .no _ _
     | true => exact ih _ _ _ _ _
   | eff =>
    show OLe (cD4 (cD P call round is) s.o.dst tm nx b hs (crOf call round (ceff P tm hp nx (cEff P s.o.op)))) (dEff (drawAI P call' round all ss) s.o.dst tm nx b hs (crOf call' round (effA P tm hp nx s.o.op)))
    rw [ceff_eq]
    cases hv : crOf call round (effA P tm hp nx s.o.op) with
    | no w => exact .no _ _
    | alt _ _ => exact .no _ _
    | ok v h' nx' =>
     rw [crOf_ok hc hv]
     show OLe (bif Nat.ble nx nx' then _ else _) (bif Nat.ble nx nx' then _ else _)
     cases Nat.ble nx nx' with
     | false => exact .no _ _
     | true => exact ih _ _ _ _ _
theorem ccall_le {ex : CEx} {ex0 : ExF} (hx : ∀ cur c tm h nx, OLe (ex cur (comp P c) tm h nx) (ex0 cur c tm h nx)) : CallLe (ccallA P orc ex) (callA P orc ex0) := by
 intro f args h nx
 unfold ccallA callA
 cases orc f with
 | some g => exact CLe.refl _
 | none =>
  show CLe (Option.casesOn (compAt P f) _ _) (Option.casesOn (lget P.funcs.toList f) _ _)
  unfold compAt
  cases lget P.funcs.toList f with
  | none => exact .no _ _
  | some fn =>
   show CLe _ (enterA P ex0 fn args h nx)
   unfold enterA
   cases hb : fn.body with
   | none => simp only [hb]; exact .no _ _
   | some c =>
    simp only [hb]
    show CLe (cEnter P ex { body := comp P c, res := fn.results.toList } args h nx) (retA P fn.results.toList (ex0 none c (setArgs args 0 tm0) h nx))
    unfold cEnter retA
    exact (hx none c _ h nx).cr fun _ _ _ _ => CLe.refl _
theorem cex_le : ∀ n cur c tm h nx, OLe (cexA P orc n cur (comp P c) tm h nx) (exA P orc n cur c tm h nx)
 | 0, _, _, _, _, _ => .no _ _
 | n + 1, cur, c, tm, h, nx => by
  have ih := cex_le n
  have hc := ccall_le (P := P) (orc := orc) ih
  show OLe (cexS P orc (cexA P orc n) (exA P orc n) cur (comp P c) tm h nx) (exS P orc (exA P orc n) cur c tm h nx)
  cases c with
  | region id ops draw =>
   show OLe (cexS P orc (cexA P orc n) (exA P orc n) cur (cReg P id ops draw) tm h nx) (regionA P (callA P orc (exA P orc n)) (roundA (exA P orc n)) ops.toList draw tm h nx)
   unfold cReg
   cases draw with
   | false =>
    show OLe (cexS P orc _ _ cur (match cOps P ops.toList ops.toList with | some l => .regO l | none => .gen (.region id ops false)) tm h nx) _
    cases hl : cOps P ops.toList ops.toList with
    | none => exact OLe.refl _
    | some l => exact cOps_le hc hl tm h nx
   | true =>
    show OLe (cexS P orc _ _ cur (match (planOf P ops.toList).bind (cSteps P ops.toList) with | some l => .regD l | none => .gen (.region id ops true)) tm h nx) _
    cases hl : (planOf P ops.toList).bind (cSteps P ops.toList) with
    | none => exact OLe.refl _
    | some l =>
     obtain ⟨ss, h1, h2⟩ := bind_some hl
     show OLe (cD P _ _ l tm h nx h []) (Option.casesOn (planOf P ops.toList) _ _)
     rw [h1]
     exact cSteps_le hc h2 tm h nx h []
  | seq a b => exact (ih cur a tm h nx).then fun x tm h nx => by cases x <;> first | exact ih _ _ _ _ _ | exact OLe.refl _
  | loop a => exact (ih cur a tm h nx).then fun x tm h nx => by cases x <;> first | exact ih _ (.loop a) _ _ _ | exact OLe.refl _
  | block id a => exact (ih cur a tm h nx).then fun x tm h nx => OLe.refl _
  | scope a => exact ih cur a tm h nx
  | cond x a b =>
   show OLe (cexS P orc _ _ cur (match co x with | some x => .cond x (comp P a) (comp P b) | none => .gen (.cond x a b)) tm h nx) (condA (exA P orc n) cur a b tm h nx (ev tm x))
   cases hx : co x with
   | none => exact OLe.refl _
   | some y =>
    rw [co_ev hx]
    show OLe (cCond (cexA P orc n) cur (comp P a) (comp P b) tm h nx (cev tm y)) _
    unfold cCond condA
    generalize cev tm y = v
    cases v <;> try (exact .no _ _)
    rename_i t
    cases t <;> exact ih _ _ _ _ _
  | skip => exact OLe.refl _
  | label l => exact OLe.refl _
  | exit id => exact OLe.refl _
  | ret => exact OLe.refl _
  | _ => exact OLe.refl _
theorem ccall_ok (n : Nat) : CallLe (ccallA P orc (cexA P orc n)) (callA P orc (exA P orc n)) := ccall_le (cex_le n)
end
abbrev KV := Value → Prop
abbrev KL := List Value → Prop
abbrev KS := Tm → Hp → Nat → Prop
abbrev KO := Ex → Tm → Hp → Nat → Prop
abbrev KC := Value → Hp → Nat → Prop
abbrev WCall := FuncId → List Value → Hp → Nat → KC → Prop
abbrev WEx := Option Nat → CC → Tm → Hp → Nat → KO → Prop
def wget (l : List Value) : Nat → KV → Prop := List.rec (motive := fun _ => Nat → KV → Prop) (fun _ _ => False) (fun x _ ih n k => Nat.rec (motive := fun _ => Prop) (k x) (fun m _ => ih m k) n) l
def wdrop (l : List Value) : Nat → KL → Prop := List.rec (motive := fun _ => Nat → KL → Prop) (fun _ k => k []) (fun x xs ih n k => Nat.rec (motive := fun _ => Prop) (k (x :: xs)) (fun m _ => ih m k) n) l
def wcut (n : Nat) : List Value → KL → Prop := Nat.rec (motive := fun _ => List Value → KL → Prop) (fun _ k => k []) (fun _ ih l k => List.rec (motive := fun _ => Prop) False (fun x xs _ => ih xs (fun r => k (x :: r))) l) n
def wput0 (vs : List Value) : List Value → KL → Prop := List.rec (motive := fun _ => List Value → KL → Prop) (fun l k => k l) (fun v _ ih l k => List.rec (motive := fun _ => Prop) False (fun _ xs _ => ih xs (fun r => k (v :: r))) l) vs
def wput (vs : List Value) (l : List Value) : Nat → KL → Prop := List.rec (motive := fun _ => Nat → KL → Prop) (fun n k => Nat.rec (motive := fun _ => Prop) (wput0 vs [] k) (fun _ _ => False) n) (fun x xs ih n k => Nat.rec (motive := fun _ => Prop) (wput0 vs (x :: xs) k) (fun m _ => ih m (fun r => k (x :: r))) n) l
def wlenIs (l : List Value) : Nat → Prop → Prop := List.rec (motive := fun _ => Nat → Prop → Prop) (fun n k => Nat.rec (motive := fun _ => Prop) k (fun _ _ => False) n) (fun _ _ ih n k => Nat.rec (motive := fun _ => Prop) False (fun m _ => ih m k) n) l
def wcellV (x : Value) : Prop → Prop := Value.rec (motive_1 := fun _ => Prop → Prop) (motive_2 := fun _ => Unit) (motive_3 := fun _ => Unit) (fun _ k => k) (fun _ _ k => k) (fun _ _ k => k) (fun _ _ _ k => k) (fun _ k => k) (fun _ k => k) (fun _ _ _ k => k) (fun _ k => k) (fun _ k => k) (fun _ _ _ _ _ k => k) (fun k => k) (fun _ _ _ k => k) (fun k => k) (fun _ _ _ => False) (fun _ _ _ => False) (fun _ _ => ()) () (fun _ _ _ _ => ()) x
def wcellL (l : List Value) : Prop → Prop := List.rec (motive := fun _ => Prop → Prop) (fun k => k) (fun x _ ih k => wcellV x (ih k)) l
def wevs (tm : Tm) (l : List Co) : KL → Prop := List.rec (motive := fun _ => KL → Prop) (fun k => k []) (fun x _ ih k => ih (fun r => k (cev tm x :: r))) l
def wargs (l : List Value) : Nat → Tm → (Tm → Prop) → Prop := List.rec (motive := fun _ => Nat → Tm → (Tm → Prop) → Prop) (fun _ tm k => k tm) (fun v _ ih i tm k => (tpath i).setK v tm (fun tm => ih (Nat.succ i) tm k)) l
def wB (b : Bool) (p : Prop) : Prop := Bool.rec (motive := fun _ => Prop → Prop) (fun _ => False) (fun p => p) b p
def wR {α : Type} (r : R α) : (α → Prop) → Prop := R.rec (motive := fun _ => (α → Prop) → Prop) (fun x k => k x) (fun _ _ => False) r
def wOp {α : Type} (r : Option α) : (α → Prop) → Prop := Option.rec (motive := fun _ => (α → Prop) → Prop) (fun _ => False) (fun x k => k x) r
def wev (tm : Tm) (x : Co) : KV → Prop := Co.rec (motive := fun _ => Tm → KV → Prop) (fun n tm k => k ((tpath n).get tm)) (fun v _ k => k v) x tm
def waddr (v : Value) : (Addr → Prop) → Prop := Value.rec (motive_1 := fun _ => (Addr → Prop) → Prop) (motive_2 := fun _ => Unit) (motive_3 := fun _ => Unit) (fun _ _ => False) (fun _ _ _ => False) (fun _ _ _ => False) (fun _ _ _ _ => False) (fun _ _ => False) (fun a => wOp a) (fun _ _ _ _ => False) (fun _ _ => False) (fun _ _ => False) (fun _ _ _ _ _ _ => False) (fun _ => False) (fun _ _ _ _ => False) (fun _ => False) (fun _ _ _ => False) (fun _ _ _ => False) (fun _ _ => ()) () (fun _ _ _ _ => ()) v
def wnat (v : Value) : (Nat → Prop) → Prop := Value.rec (motive_1 := fun _ => (Nat → Prop) → Prop) (motive_2 := fun _ => Unit) (motive_3 := fun _ => Unit) (fun _ _ => False) (fun _ n => Int.rec (motive := fun _ => (Nat → Prop) → Prop) (fun n k => k n) (fun _ _ => False) n) (fun _ _ _ => False) (fun _ _ _ _ => False) (fun _ _ => False) (fun _ _ => False) (fun _ _ _ _ => False) (fun _ _ => False) (fun _ _ => False) (fun _ _ _ _ _ _ => False) (fun _ => False) (fun _ _ _ _ => False) (fun _ => False) (fun _ _ _ => False) (fun _ _ _ => False) (fun _ _ => ()) () (fun _ _ _ _ => ()) v
def wbool (v : Value) : Prop → Prop → Prop := Value.rec (motive_1 := fun _ => Prop → Prop → Prop) (motive_2 := fun _ => Unit) (motive_3 := fun _ => Unit) (fun b => Bool.rec (motive := fun _ => Prop → Prop → Prop) (fun f _ => f) (fun _ t => t) b) (fun _ _ _ _ => False) (fun _ _ _ _ => False) (fun _ _ _ _ _ => False) (fun _ _ _ => False) (fun _ _ _ => False) (fun _ _ _ _ _ => False) (fun _ _ _ => False) (fun _ _ _ => False) (fun _ _ _ _ _ _ _ => False) (fun _ _ => False) (fun _ _ _ _ _ => False) (fun _ _ => False) (fun _ _ _ _ => False) (fun _ _ _ _ => False) (fun _ _ => ()) () (fun _ _ _ _ => ()) v
def wcellsO (o : AObj) : (List Value → Bool → Prop) → Prop := AObj.rec (motive := fun _ => (List Value → Bool → Prop) → Prop) (fun cs ro k => k cs ro) (fun _ _ _ => False) (fun _ _ _ _ _ => False) (fun _ _ _ _ _ _ _ => False) o
def wcells (h : Hp) (b : Nat) : (List Value → Bool → Prop) → Prop := Option.rec (motive := fun _ => (List Value → Bool → Prop) → Prop) (fun _ => False) (fun o => wcellsO o) ((hpath b).get h)
def wload (ag : Option Nat) : Nat → List Value → KV → Prop := Option.rec (motive := fun _ => Nat → List Value → KV → Prop) (fun off cs k => wget cs off k) (fun n off cs k => wdrop cs off (fun r => wcut n r (fun l => k (.agg ⟨l⟩)))) ag
def wvc (v : Value) : KL → Prop := Value.rec (motive_1 := fun _ => Value → KL → Prop) (motive_2 := fun _ => Unit) (motive_3 := fun _ => Unit) (fun _ v k => k [v]) (fun _ _ v k => k [v]) (fun _ _ v k => k [v]) (fun _ _ _ v k => k [v]) (fun _ v k => k [v]) (fun _ v k => k [v]) (fun _ _ _ v k => k [v]) (fun _ v k => k [v]) (fun _ v k => k [v]) (fun _ _ _ _ _ v k => k [v]) (fun v k => k [v]) (fun _ _ _ v k => k [v]) (fun v k => k [v]) (fun cs _ _ k => k cs.toList) (fun _ _ v k => k [v]) (fun _ _ => ()) () (fun _ _ _ _ => ()) v v
def wII2 (ky : IntKind) (b : Int) (kx : IntKind) (a : Int) (f : IntKind → Int → Int → Value) (k : KV) : Prop := wB (keq kx ky) (k (f kx a b))
def wII1 (kx : IntKind) (a : Int) (f : IntKind → Int → Int → Value) (y : Value) (k : KV) : Prop := Value.rec (motive_1 := fun _ => IntKind → Int → (IntKind → Int → Int → Value) → KV → Prop) (motive_2 := fun _ => Unit) (motive_3 := fun _ => Unit) (fun _ _ _ _ _ => False) (fun ky b => wII2 ky b) (fun _ _ _ _ _ _ => False) (fun _ _ _ _ _ _ _ => False) (fun _ _ _ _ _ => False) (fun _ _ _ _ _ => False) (fun _ _ _ _ _ _ _ => False) (fun _ _ _ _ _ => False) (fun _ _ _ _ _ => False) (fun _ _ _ _ _ _ _ _ _ => False) (fun _ _ _ _ => False) (fun _ _ _ _ _ _ _ => False) (fun _ _ _ _ => False) (fun _ _ _ _ _ _ => False) (fun _ _ _ _ _ _ => False) (fun _ _ => ()) () (fun _ _ _ _ => ()) y kx a f k
def wII (f : IntKind → Int → Int → Value) (x y : Value) (k : KV) : Prop := Value.rec (motive_1 := fun _ => (IntKind → Int → Int → Value) → Value → KV → Prop) (motive_2 := fun _ => Unit) (motive_3 := fun _ => Unit) (fun _ _ _ _ => False) (fun kx a => wII1 kx a) (fun _ _ _ _ _ => False) (fun _ _ _ _ _ _ => False) (fun _ _ _ _ => False) (fun _ _ _ _ => False) (fun _ _ _ _ _ _ => False) (fun _ _ _ _ => False) (fun _ _ _ _ => False) (fun _ _ _ _ _ _ _ _ => False) (fun _ _ _ => False) (fun _ _ _ _ _ _ => False) (fun _ _ _ => False) (fun _ _ _ _ _ => False) (fun _ _ _ _ _ => False) (fun _ _ => ()) () (fun _ _ _ _ => ()) x f y k
def wBinG (op : BinOp) (P : Program) (t : TypeId) (x y : Value) (k : KV) : Prop := wR (bin P op t x y) k
def wEqx (op : BinOp) (f : IntKind → Int → Int → Value) (P : Program) (t : TypeId) (x y : Value) (k : KV) : Prop := Value.rec (motive_1 := fun _ => BinOp → (IntKind → Int → Int → Value) → Program → TypeId → Value → Value → KV → Prop) (motive_2 := fun _ => Unit) (motive_3 := fun _ => Unit) (fun _ op f P t x y k => wBinG op P t x y k) (fun kx a op f P t x y k => wII1 kx a f y k) (fun _ _ op f P t x y k => wBinG op P t x y k) (fun _ _ _ op f P t x y k => wBinG op P t x y k) (fun _ op f P t x y k => wBinG op P t x y k) (fun _ op f P t x y k => wBinG op P t x y k) (fun _ _ _ op f P t x y k => wBinG op P t x y k) (fun _ op f P t x y k => wBinG op P t x y k) (fun _ op f P t x y k => wBinG op P t x y k) (fun _ _ _ _ _ op f P t x y k => wBinG op P t x y k) (fun op f P t x y k => wBinG op P t x y k) (fun _ _ _ op f P t x y k => wBinG op P t x y k) (fun op f P t x y k => wBinG op P t x y k) (fun _ _ op f P t x y k => wBinG op P t x y k) (fun _ _ op f P t x y k => wBinG op P t x y k) (fun _ _ => ()) () (fun _ _ _ _ => ()) x op f P t x y k
def fAdd (k : IntKind) (a b : Int) : Value := .int k (fwrap k (Int.add a b))
def fSub (k : IntKind) (a b : Int) : Value := .int k (fwrap k (Int.sub a b))
def fMul (k : IntKind) (a b : Int) : Value := .int k (fwrap k (Int.mul a b))
def fLss (k : IntKind) (a b : Int) : Value := .bool (iblt a b)
def fLeq (k : IntKind) (a b : Int) : Value := .bool (!iblt b a)
def fGtr (k : IntKind) (a b : Int) : Value := .bool (iblt b a)
def fGeq (k : IntKind) (a b : Int) : Value := .bool (!iblt a b)
def fEql (k : IntKind) (a b : Int) : Value := .bool (ieq a b)
def fNeq (k : IntKind) (a b : Int) : Value := .bool (!ieq a b)
def wbin (op : BinOp) : Program → TypeId → Value → Value → KV → Prop := BinOp.rec (motive := fun _ => Program → TypeId → Value → Value → KV → Prop)
 (fun _ _ => wII fAdd) (fun _ _ => wII fSub) (fun _ _ => wII fMul) (wBinG .quo) (wBinG .rem) (wBinG .and) (wBinG .or) (wBinG .xor) (wBinG .shl) (wBinG .shr) (wBinG .andNot)
 (wEqx .eql fEql) (wEqx .neq fNeq) (fun _ _ => wII fLss) (fun _ _ => wII fLeq) (fun _ _ => wII fGtr) (fun _ _ => wII fGeq) op
def wIxS (s : Nat) (a : Addr) (len i : Nat) (k : KV) : Prop := wB (Nat.blt i len) (k (moveA a (Nat.mul i s)))
def wIxA (t : IxT) (v : Value) (i : Nat) (k : KV) : Prop := wR (oIndexAddr t v i) k
def wIxV (v : Value) : Nat → Nat → KV → Prop := Value.rec (motive_1 := fun _ => Nat → Nat → KV → Prop) (motive_2 := fun _ => Unit) (motive_3 := fun _ => Unit) (fun _ _ _ _ => False) (fun _ _ _ _ _ => False) (fun _ _ _ _ _ => False) (fun _ _ _ _ _ _ => False) (fun _ _ _ _ => False) (fun _ _ _ _ => False) (fun a len _ s i k => wOp a (fun a => wIxS s a len i k)) (fun _ _ _ _ => False) (fun _ _ _ _ => False) (fun _ _ _ _ _ _ _ _ => False) (fun _ _ _ => False) (fun _ _ _ _ _ _ => False) (fun _ _ _ => False) (fun _ _ _ _ _ => False) (fun _ _ _ _ _ => False) (fun _ _ => ()) () (fun _ _ _ _ => ()) v
def wIx (t : IxT) : Value → Nat → KV → Prop := IxT.rec (motive := fun _ => Value → Nat → KV → Prop) (fun s v i k => wIxV v s i k) (fun n s v i k => wIxA (.array n s) v i k) t
def wFld (v : Value) : Nat → Option Nat → KV → Prop := Value.rec (motive_1 := fun _ => Nat → Option Nat → KV → Prop) (motive_2 := fun _ => Unit) (motive_3 := fun _ => Unit) (fun _ _ _ _ => False) (fun _ _ _ _ _ => False) (fun _ _ _ _ _ => False) (fun _ _ _ _ _ _ => False) (fun _ _ _ _ => False) (fun _ _ _ _ => False) (fun _ _ _ _ _ _ => False) (fun _ _ _ _ => False) (fun _ _ _ _ => False) (fun _ _ _ _ _ _ _ _ => False) (fun _ _ _ => False) (fun _ _ _ _ _ _ => False) (fun _ _ _ => False) (fun cs _ off ag k => wload ag off cs.toList k) (fun _ _ _ _ _ => False) (fun _ _ => ()) () (fun _ _ _ _ => ()) v
def wfillS (p : Nat × Nat × Co) (tm : Tm) (cells : List Value) (k : KL) : Prop := wev tm p.2.2 (fun v => wvc v (fun l => wlenIs l p.2.1 (wput l cells p.1 k)))
def wfill (tm : Tm) (l : List (Nat × Nat × Co)) : List Value → KL → Prop := List.rec (motive := fun _ => List Value → KL → Prop) (fun cells k => k cells) (fun p _ ih cells k => wfillS p tm cells (fun r => ih r k)) l
def wpur (e : CP) : Program → Tm → KV → Prop := CP.rec (motive := fun _ => Program → Tm → KV → Prop)
 (fun x P tm k => wev tm x k)
 (fun c a b P tm k => wev tm c (fun c => wbool c (wev tm b k) (wev tm a k)))
 (fun op t x y P tm k => wev tm x (fun x => wev tm y (fun y => wbin op P t x y k)))
 (fun op x P tm k => wR (oUn op (cev tm x)) k)
 (fun d x P tm k => wR (oConv d (cev tm x)) k)
 (fun off ag x P tm k => wev tm x (fun v => wFld v off ag k))
 (fun off x P tm k => wev tm x (fun v => waddr v (fun a => k (moveA a off))))
 (fun t x i P tm k => wev tm i (fun i => wnat i (fun i => wev tm x (fun x => wIx t x i k))))
 (fun s x lo hi mx P tm k => wR (cSlice tm s lo hi mx (cev tm x)) k)
 (fun x i P tm k => wR (oExtract (cev tm x) i) k)
 (fun x P tm k => wR (nilChk (cev tm x)) k)
 (fun f a b P tm k => k (.func (.func f) ⟨cevs tm a⟩ ⟨cevs tm b⟩))
 (fun t x P tm k => wev tm x (fun v => k (.iface t v)))
 (fun b x y P tm k => wR (min2 b (cev tm x) (cev tm y)) k)
 (fun z parts P tm k => wfill tm parts z (fun l => k (.agg ⟨l⟩)))
 (fun o P tm k => wR (purA P tm o) k) e
def wnew (l : List Value) (h : Hp) (nx : Nat) (v : Value) (k : KC) : Prop := (hpath nx).setK (some (.cells l false)) h (fun h => k v h (Nat.succ nx))
def walG (P : Program) (e : CA) (tm : Tm) (h : Hp) (nx : Nat) (k : KC) : Prop := wR (calq P tm e) (fun b => (hpath nx).setK (some (nbO b)) h (fun h => k (nbV nx b) h (Nat.succ nx)))
def walc (e : CA) : Program → Tm → Hp → Nat → KC → Prop := CA.rec (motive := fun _ => Program → Tm → Hp → Nat → KC → Prop)
 (fun l P tm h nx k => wnew l h nx (.pointer (some ⟨nx, 0, none⟩)) k)
 (fun x P tm h nx k => wev tm x (fun v => wvc v (fun l => wcellL l (wnew l h nx (.pointer (some ⟨nx, 0, none⟩)) k))))
 (fun len base parts P tm h nx k => wfill tm parts base (fun l => wcellL l (wnew l h nx (.slice (some ⟨nx, 0, none⟩) len len) k)))
 (fun P tm h nx k => (hpath nx).setK (some (.map [] 0)) h (fun h => k (.map (some nx)) h (Nat.succ nx)))
 (fun z l c P tm h nx k => walG P (.mks z l c) tm h nx k)
 (fun o P tm h nx k => walG P (.gen o) tm h nx k) e
def wLens (v : Value) : KV → Prop := Value.rec (motive_1 := fun _ => KV → Prop) (motive_2 := fun _ => Unit) (motive_3 := fun _ => Unit) (fun _ _ => False) (fun _ _ _ => False) (fun _ _ _ => False) (fun _ _ _ _ => False) (fun _ _ => False) (fun _ _ => False) (fun _ n _ k => k (.int .i64 (.ofNat n))) (fun _ _ => False) (fun _ _ => False) (fun _ _ _ _ _ _ => False) (fun _ => False) (fun _ _ _ _ => False) (fun _ => False) (fun _ _ _ => False) (fun _ _ _ => False) (fun _ _ => ()) () (fun _ _ _ _ => ()) v
def wredG (P : Program) (e : CRd) (tm : Tm) (h : Hp) (k : KV) : Prop := wR (cred P tm h e) k
def wred (e : CRd) : Program → Tm → Hp → KV → Prop := CRd.rec (motive := fun _ => Program → Tm → Hp → KV → Prop)
 (fun ag x P tm h k => wev tm x (fun v => waddr v (fun a => wcells h a.1 (fun cs _ => wload ag a.2 cs k))))
 (fun kt z m x ok P tm h k => wredG P (.lkp kt z m x ok) tm h k)
 (fun x P tm h k => wev tm x (fun v => wLens v k))
 (fun x P tm h k => wredG P (.lenm x) tm h k)
 (fun x P tm h k => wredG P (.entry x) tm h k)
 (fun o P tm h k => wredG P (.gen o) tm h k) e
def wSt (l : List Value) (h : Hp) (nx : Nat) (b off : Nat) (k : KC) (cs : List Value) (ro : Bool) : Prop :=
 Bool.rec (motive := fun _ => List Value → Hp → Nat → Nat → Nat → KC → List Value → Prop) (fun l h nx b off k cs => wcellL l (wput l cs off (fun r => (hpath b).setK (some (.cells r false)) h (fun h => k undefV h nx)))) (fun _ _ _ _ _ _ _ => False) ro l h nx b off k cs
def wCR (r : CR) : KC → Prop := CR.rec (motive := fun _ => KC → Prop) (fun v h nx k => k v h nx) (fun _ _ => False) (fun _ _ _ _ _ => False) r
def wOR (call : WCall) (round : RoundF) (r : OR) (k : KC) : Prop := OR.rec (motive := fun _ => WCall → RoundF → KC → Prop) (fun v h nx _ _ k => k v h nx) (fun f args h nx call _ k => call f args h nx k) (fun l args h nx _ round k => wCR (round l args h nx) k) (fun _ _ _ _ => False) (fun _ _ _ _ _ _ _ => False) r call round k
def weffG (P : Program) (call : WCall) (round : RoundF) (e : CE) (tm : Tm) (h : Hp) (nx : Nat) (k : KC) : Prop := wOR call round (ceff P tm h nx e) k
def weff (e : CE) : Program → WCall → RoundF → Tm → Hp → Nat → KC → Prop := CE.rec (motive := fun _ => Program → WCall → RoundF → Tm → Hp → Nat → KC → Prop)
 (fun n a x P call round tm h nx k => wev tm a (fun a => waddr a (fun a => wev tm x (fun x => wvc x (fun l => wlenIs l n (wcells h a.1 (wSt l h nx a.1 a.2 k)))))))
 (fun kt m x y P call round tm h nx k => weffG P call round (.mup kt m x y) tm h nx k)
 (fun x P call round tm h nx k => weffG P call round (.rng x) tm h nx k)
 (fun x P call round tm h nx k => weffG P call round (.nxt x) tm h nx k)
 (fun f args P call round tm h nx k => wevs tm args (fun vs => call f vs h nx k))
 (fun f args P call round tm h nx k => weffG P call round (.callv f args) tm h nx k)
 (fun s x y P call round tm h nx k => weffG P call round (.app s x y) tm h nx k)
 (fun o P call round tm h nx k => weffG P call round (.gen o) tm h nx k) e
def wput1 (d : Option Nat) : Tm → Value → (Tm → Prop) → Prop := Option.rec (motive := fun _ => Tm → Value → (Tm → Prop) → Prop) (fun tm _ k => k tm) (fun d tm v k => (tpath d).setK v tm k) d
def wwantV (v : Value) : Bool → Prop → Prop → Prop := Value.rec (motive_1 := fun _ => Bool → Prop → Prop → Prop) (motive_2 := fun _ => Unit) (motive_3 := fun _ => Unit) (fun c b x y => Bool.rec (motive := fun _ => Bool → Prop → Prop → Prop) (fun c x y => Bool.rec (motive := fun _ => Prop → Prop → Prop) (fun _ y => y) (fun x _ => x) c x y) (fun c x y => Bool.rec (motive := fun _ => Prop → Prop → Prop) (fun x _ => x) (fun _ y => y) c x y) b c x y) (fun _ _ b x y => x) (fun _ _ b x y => x) (fun _ _ _ b x y => x) (fun _ b x y => x) (fun _ b x y => x) (fun _ _ _ b x y => x) (fun _ b x y => x) (fun _ b x y => x) (fun _ _ _ _ _ b x y => x) (fun b x y => x) (fun _ _ _ b x y => x) (fun b x y => x) (fun _ _ b x y => x) (fun _ _ b x y => x) (fun _ _ => ()) () (fun _ _ _ _ => ()) v
def wwant (g : Option (Nat × Bool)) : Tm → Prop → Prop → Prop := Option.rec (motive := fun _ => Tm → Prop → Prop → Prop) (fun _ _ y => y) (fun p tm x y => wwantV ((tpath p.1).get tm) p.2 x y) g
abbrev WRun := Tm → Hp → Nat → KS → Prop
def wkPur (e : CP) (P : Program) (call : WCall) (round : RoundF) (ih : WRun) (d : Option Nat) (tm : Tm) (h : Hp) (nx : Nat) (k : KS) : Prop := wpur e P tm (fun v => wput1 d tm v (fun tm => ih tm h nx k))
def wkAlc (e : CA) (P : Program) (call : WCall) (round : RoundF) (ih : WRun) (d : Option Nat) (tm : Tm) (h : Hp) (nx : Nat) (k : KS) : Prop := walc e P tm h nx (fun v h nx => wput1 d tm v (fun tm => ih tm h nx k))
def wkRed (e : CRd) (P : Program) (call : WCall) (round : RoundF) (ih : WRun) (d : Option Nat) (tm : Tm) (h : Hp) (nx : Nat) (k : KS) : Prop := wred e P tm h (fun v => wput1 d tm v (fun tm => ih tm h nx k))
def wkEff (e : CE) (P : Program) (call : WCall) (round : RoundF) (ih : WRun) (d : Option Nat) (tm : Tm) (h : Hp) (nx : Nat) (k : KS) : Prop := weff e P call round tm h nx (fun v h nx => wput1 d tm v (fun tm => ih tm h nx k))
def wRun (k : CK) : Program → WCall → RoundF → WRun → Option Nat → Tm → Hp → Nat → KS → Prop := CK.rec (motive := fun _ => Program → WCall → RoundF → WRun → Option Nat → Tm → Hp → Nat → KS → Prop) wkPur wkAlc wkRed wkEff k
def wI (P : Program) (call : WCall) (round : RoundF) (i : CI) (ih : WRun) (tm : Tm) (h : Hp) (nx : Nat) (k : KS) : Prop :=
 CI.rec (motive := fun _ => Program → WCall → RoundF → WRun → Tm → Hp → Nat → KS → Prop) (fun g d _ q P call round ih tm h nx k => wwant g tm (wput1 d tm undefV (fun tm => ih tm h nx k)) (wRun q P call round ih d tm h nx k)) i P call round ih tm h nx k
def wO (P : Program) (call : WCall) (round : RoundF) (l : List CI) : WRun := List.rec (motive := fun _ => WRun) (fun tm h nx k => k tm h nx) (fun i _ ih => wI P call round i ih) l
abbrev WDr := Tm → Hp → Nat → Hp → List Hp → KS → Prop
def wdPur (e : CP) (P : Program) (call : WCall) (round : RoundF) (ih : WDr) (c : Nat) (d : Option Nat) (tm : Tm) (h : Hp) (nx : Nat) (b : Hp) (hs : List Hp) (k : KS) : Prop := wpur e P tm (fun v => wput1 d tm v (fun tm => ih tm h nx b hs k))
def wdAlc (e : CA) (P : Program) (call : WCall) (round : RoundF) (ih : WDr) (c : Nat) (d : Option Nat) (tm : Tm) (h : Hp) (nx : Nat) (b : Hp) (hs : List Hp) (k : KS) : Prop := walc e P tm h nx (fun v h nx => wput1 d tm v (fun tm => ih tm h nx b hs k))
def wdChk (P : Program) (tm : Tm) (e : CRd) (hs : List Hp) (c : Nat) (v : Value) (p : Prop) : Prop := Nat.rec (motive := fun _ => Prop → Prop) (fun p => p) (fun n _ p => wB (cagree P tm e v (Nat.succ n) hs) p) c p
def wdRed (e : CRd) (P : Program) (call : WCall) (round : RoundF) (ih : WDr) (c : Nat) (d : Option Nat) (tm : Tm) (h : Hp) (nx : Nat) (b : Hp) (hs : List Hp) (k : KS) : Prop := wred e P tm b (fun v => wdChk P tm e hs c v (wput1 d tm v (fun tm => ih tm h nx b hs k)))
def wdEff (e : CE) (P : Program) (call : WCall) (round : RoundF) (ih : WDr) (c : Nat) (d : Option Nat) (tm : Tm) (h : Hp) (nx : Nat) (b : Hp) (hs : List Hp) (k : KS) : Prop :=
 weff e P call round tm h nx (fun v h nx' => wB (Nat.ble nx nx') (wput1 d tm v (fun tm => ih tm h nx' h (b :: hs) k)))
def wdRun (k : CK) : Program → WCall → RoundF → WDr → Nat → Option Nat → Tm → Hp → Nat → Hp → List Hp → KS → Prop := CK.rec (motive := fun _ => Program → WCall → RoundF → WDr → Nat → Option Nat → Tm → Hp → Nat → Hp → List Hp → KS → Prop) wdPur wdAlc wdRed wdEff k
def wdSkip (q : CK) (ih : WDr) (d : Option Nat) (tm : Tm) (h : Hp) (nx : Nat) (b : Hp) (hs : List Hp) (k : KS) : Prop :=
 wput1 d tm undefV (fun tm => Bool.rec (motive := fun _ => Prop) (ih tm h nx b hs k) (ih tm h nx h (b :: hs) k) (isEffC q))
def wDI (P : Program) (call : WCall) (round : RoundF) (i : CI) (ih : WDr) (tm : Tm) (h : Hp) (nx : Nat) (b : Hp) (hs : List Hp) (k : KS) : Prop :=
 CI.rec (motive := fun _ => Program → WCall → RoundF → WDr → Tm → Hp → Nat → Hp → List Hp → KS → Prop) (fun g d c q P call round ih tm h nx b hs k => wwant g tm (wdSkip q ih d tm h nx b hs k) (wdRun q P call round ih c d tm h nx b hs k)) i P call round ih tm h nx b hs k
def wD (P : Program) (call : WCall) (round : RoundF) (l : List CI) : WDr := List.rec (motive := fun _ => WDr) (fun tm h nx _ _ k => k tm h nx) (fun i _ ih => wDI P call round i ih) l
def wOut (o : Out) : KO → Prop := Out.rec (motive := fun _ => KO → Prop) (fun x tm h nx k => k x tm h nx) (fun _ _ => False) (fun _ _ _ _ _ => False) o
def wThen (ex : WEx) (cur : Option Nat) (b : CC) (k : KO) (x : Ex) : Tm → Hp → Nat → Prop := Ex.rec (motive := fun _ => Tm → Hp → Nat → Prop) (fun tm h nx => ex cur b tm h nx k) (fun i => k (.exit i)) (k .ret) x
def wBlk (id : Nat) (k : KO) (x : Ex) : Tm → Hp → Nat → Prop := Ex.rec (motive := fun _ => Tm → Hp → Nat → Prop) (k .normal) (fun i => Bool.rec (motive := fun _ => Tm → Hp → Nat → Prop) (k (.exit i)) (k .normal) (Nat.beq i id)) (k .ret) x
def wRes1 (l : List Value) (k : KV) : Prop := List.rec (motive := fun _ => Prop) (k (.tuple ⟨[]⟩)) (fun v xs _ => List.rec (motive := fun _ => Prop) (k v) (fun _ _ _ => k (.tuple ⟨l⟩)) xs) l
def wRv (P : Program) (tm : Tm) (h : Hp) (x : ResultVar) (k : KV) : Prop := ResultVar.rec (motive := fun _ => Program → Tm → Hp → KV → Prop) (fun t _ tm _ k => k ((tpath t).get tm)) (fun a t P tm h k => waddr ((tpath a).get tm) (fun a => wR (loadA P h t a) k)) x P tm h k
def wRvs (P : Program) (tm : Tm) (h : Hp) (rs : List ResultVar) : KL → Prop := List.rec (motive := fun _ => KL → Prop) (fun k => k []) (fun x _ ih k => wRv P tm h x (fun v => ih (fun r => k (v :: r)))) rs
def wRes (P : Program) (rs : List ResultVar) (k : KC) (tm : Tm) (h : Hp) (nx : Nat) : Prop := wRvs P tm h rs (fun l => wRes1 l (fun v => k v h nx))
def wRet (P : Program) (rs : List ResultVar) (k : KC) (x : Ex) : Tm → Hp → Nat → Prop := Ex.rec (motive := fun _ => Tm → Hp → Nat → Prop) (wRes P rs k) (fun _ _ _ _ => False) (wRes P rs k) x
def wEnter (P : Program) (ex : WEx) (c : CF) (args : List Value) (h : Hp) (nx : Nat) (k : KC) : Prop := wargs args 0 tm0 (fun tm => ex none c.body tm h nx (wRet P c.res k))
def wcall (P : Program) (orc : Orc) (ex : WEx) (f : FuncId) : List Value → Hp → Nat → KC → Prop :=
 Option.rec (motive := fun _ => List Value → Hp → Nat → KC → Prop) (Option.rec (motive := fun _ => List Value → Hp → Nat → KC → Prop) (fun _ _ _ _ => False) (wEnter P ex) (compAt P f)) (fun g args h nx k => wCR (g args h nx) k) (orc f)
abbrev WS := Program → Orc → WEx → ExF → Option Nat → Tm → Hp → Nat → KO → Prop
def wS (c : CC) : WS := CC.rec (motive := fun _ => WS)
 (fun P orc ex ex0 cur tm h nx k => k .normal tm h nx)
 (fun l P orc ex ex0 cur tm h nx k => wO P (wcall P orc ex) (roundA ex0) l tm h nx (k .normal))
 (fun l P orc ex ex0 cur tm h nx k => wD P (wcall P orc ex) (roundA ex0) l tm h nx h [] (k .normal))
 (fun a b _ _ P orc ex ex0 cur tm h nx k => ex cur a tm h nx (wThen ex cur b k))
 (fun x a b _ _ P orc ex ex0 cur tm h nx k => wev tm x (fun v => wbool v (ex cur b tm h nx k) (ex cur a tm h nx k)))
 (fun id c _ P orc ex ex0 cur tm h nx k => ex cur c tm h nx (wBlk id k))
 (fun c _ P orc ex ex0 cur tm h nx k => ex cur c tm h nx (wThen ex cur (.loop c) k))
 (fun id P orc ex ex0 cur tm h nx k => k (.exit id) tm h nx)
 (fun P orc ex ex0 cur tm h nx k => k .ret tm h nx)
 (fun c _ P orc ex ex0 cur tm h nx k => ex cur c tm h nx k)
 (fun c P orc ex ex0 cur tm h nx k => wOut (exS P orc ex0 cur c tm h nx) k) c
def wA (P : Program) (orc : Orc) (n : Nat) : WEx := Nat.rec (motive := fun _ => WEx) (fun _ _ _ _ _ _ => False) (fun n ih cur c tm h nx k => wS c P orc ih (exA P orc n) cur tm h nx k) n
def wTrue (P : Program) (orc : Orc) (n : Nat) (f : FuncId) : Prop := wcall P orc (wA P orc n) f [] hp0 0 (fun v _ _ => wbool v False True)
end Go.Ax
