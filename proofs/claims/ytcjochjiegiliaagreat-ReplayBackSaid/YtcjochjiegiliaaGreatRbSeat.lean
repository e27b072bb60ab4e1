/- Parts of the proof: RbSeat: each statement bears its own conditions. -/
import Derived.Test.YtcjochjiegiliaaGreatProg
import Derived.KernelRfl
import Derived.Shelf.SlGeneric
import Derived.Test.YtcjochjiegiliaaGreatRows
import Derived.WalkKit
import Derived.ProofKit
import Derived.OpenShut
import Derived.ChangeOld
import Derived.Below
import Derived.WalkLawsBesides
import Derived.Defers
import Derived.Recover
import Derived.Test.YtcjochjiegiliaaGreatRb2
namespace Go.Proofs.YtcjochjiegiliaaGreat
open Go Go.Ax
set_option maxRecDepth 1000000
theorem mixed : Tryz.prog.follows .mixedOrders = true := by kernel_rfl
theorem fitAll : Tryz.prog.funcs.toList.all funcFit = true := by kernel_rfl
theorem pok : POk Tryz.prog := POk.of mixed fitAll
set_option linter.unusedVariables false
theorem c109 : compAt Tryz.prog 420 = some (cfCmp 2 460) := by kernel_rfl
theorem c140 : compAt Tryz.prog 460 = some (cfNaN 2) := by kernel_rfl
theorem n109 : NumCmp Tryz.prog orc0 .i64 420 := fun s a b h nx => cmp_cv c109 rfl c140 rfl a b
set_option maxRecDepth 2147483648
set_option linter.unusedSimpArgs false
theorem u3 : Tryz.prog.underlying 3 = some (.int .i64) := by kernel_rfl
theorem c3 : Tryz.prog.cellsOf 3 = 1 := by kernel_rfl
theorem u2 : Tryz.prog.underlying 2 = some (.int .i64) := by kernel_rfl
theorem c2 : Tryz.prog.cellsOf 2 = 1 := by kernel_rfl
open Go Go.Ax Go.Shelf Go.Proofs
theorem cal_of {f : Nat} (h : (Tryz.prog.funcs[f]?.bind Func.body).isSome = true) : Callable Tryz.prog f := by
 cases hf : Tryz.prog.funcs[f]? with
 | none => rw [hf] at h; cases h
 | some fn =>
  rw [hf] at h
  exact ⟨fn, hf, h, pok.names f fn hf⟩
instance : Inhabited Edg := ⟨(0, 0, 0)⟩
open Go.ChangeShapes Go.WideShapes Go.ChangeAt Go.RowKit
theorem own : ownKnob Tryz.prog.godebug = none := by kernel_rfl
theorem laidOut : laidOutB Tryz.prog = true := by kernel_rfl
def fG : Field := { name := "G", type := 28, offset := 0, embedded := false, tag := "", pkgPath := "", byteOffset := 0 }
def fC : Field := { name := "C", type := 5, offset := 4, embedded := false, tag := "", pkgPath := "", byteOffset := 41 }
theorem u5 : Tryz.prog.underlying 5 = some (.int .u8) := by kernel_rfl
theorem u4 : Tryz.prog.underlying 4 = some .bool := by kernel_rfl
theorem n26 : Tryz.prog.cellsOf 64 = 5 := by kernel_rfl
theorem n24 : Tryz.prog.cellsOf 28 = 2 := by kernel_rfl
theorem n52 : Tryz.prog.cellsOf 84 = 3 := by kernel_rfl
theorem n22 : Tryz.prog.cellsOf 26 = 1 := by kernel_rfl
theorem n5 : Tryz.prog.cellsOf 5 = 1 := by kernel_rfl
section
variable {H : Type} {enc : TypeId × Value → H} {w : World} {sp : Nat → Bool}
end
open Go Go.Proofs
set_option maxRecDepth 100000
def brk (e a : Int) : PanicEntry := { v := .iface 305 (.agg #[.int .i64 e, .int .i64 a]), recovered := false }
structure RdAt (w : World) (g o : Nat) (b : Option Addr) (len cap : Nat) (at_ er fa : Int) : Prop where
 c0 : w.cell? ⟨g, o, none⟩ = some (.slice b len cap)
 c1 : w.cell? ⟨g, o + 1, none⟩ = some (.int .i64 at_)
 c2 : w.cell? ⟨g, o + 2, none⟩ = some (.int .i64 er)
 c3 : w.cell? ⟨g, o + 3, none⟩ = some (.int .i64 fa)
 f : ∀ i, i < 4 → w.frozen? ⟨g, o + i, none⟩ = false
theorem need_dead {w : World} {g o : Nat} {b : Option Addr} {len cap : Nat} {at_ er fa n : Int} (h : RdAt w g o b len cap at_ er fa) (he : er ≠ 0) :
  Calls Tryz.prog 269 #[.pointer (some ⟨g, o, none⟩), .int .i64 n] w fun x w' => x = .panicked [brk 10 0] ∧ w' = w := by
 obtain ⟨c0, c1, c2, c3, f⟩ := h
 go_enter Tryz.func269, Tryz.ntmps269
 go_wp2
 exact ⟨rfl, rfl, rfl, rfl⟩
theorem need_neg {w : World} {g o : Nat} {b : Option Addr} {len cap : Nat} {at_ fa n : Int} (h : RdAt w g o b len cap at_ 0 fa) (he : n < 0) :
  Calls Tryz.prog 269 #[.pointer (some ⟨g, o, none⟩), .int .i64 n] w fun x w' => x = .panicked [brk 3 at_] ∧ w' = w := by
 obtain ⟨c0, c1, c2, c3, f⟩ := h
 go_enter Tryz.func269, Tryz.ntmps269
 go_wp2
 exact ⟨rfl, rfl, rfl, rfl⟩
theorem need_short {w : World} {g o : Nat} {b : Option Addr} {len cap : Nat} {at_ : Nat} {fa n : Int} (h : RdAt w g o b len cap at_ 0 fa) (ha : at_ ≤ len) (hl : len < 1000000) (he : (len : Int) - at_ < n) :
  Calls Tryz.prog 269 #[.pointer (some ⟨g, o, none⟩), .int .i64 n] w fun x w' => x = .panicked [brk 2 len] ∧ w' = w.drew := by
 obtain ⟨c0, c1, c2, c3, f⟩ := h
 have h0 : ¬ n < 0 := by omega
 have mixed : Tryz.prog.follows .mixedOrders = true := by kernel_rfl
 go_enter Tryz.func269, Tryz.ntmps269
 go_wp2
 go_region
 go_wp2
 exact ⟨rfl, rfl, rfl, rfl⟩
theorem next_bad {w : World} {a : Value} {n : Int} {c : List PanicEntry} {W : World} (h : Calls Tryz.prog 269 #[a, .int .i64 n] w fun x w' => x = .panicked c ∧ w' = W) :
  Calls Tryz.prog 183 #[a, .int .i64 n] w fun x w' => x = .panicked c ∧ w' = W := by
 go_enter Tryz.func183, Tryz.ntmps183
 go_wp2_with (go_at_call 269; refine h.mono ?_; rintro e w' ⟨rfl, rfl⟩)
 exact ⟨rfl, rfl, rfl⟩
theorem tm182 (a x : Value) : #[a] ++ ((Array.replicate 30 undef).setIfInBounds 4 x).setIfInBounds 1 x = #[a, undef, x, undef, undef, x, undef, undef, undef, undef, undef, undef, undef, undef, undef, undef, undef, undef, undef, undef, undef, undef, undef, undef, undef, undef, undef, undef, undef, undef, undef] := by kernel_rfl
theorem caught_idle (a : Value) (w : World) : CallsD Tryz.prog 182 #[a] .returning w fun e u' w' => e = .returned (.tuple #[]) ∧ u' = .returning ∧ w' = w := by
 refine callsD_of_wpS Tryz.func182 rfl fun c₀ cs hu => ?_
 apply wpS_seq
 apply wpS_region
 simp [wpOpsS, go_sem, recoverD, hu, Tryz.ntmps182, Exit.thenS]
 rw [tm182]
 refine wpS_of_wp ?_
 go_wp2
 cases c₀
 simp_all [bodyPostS, results, Tryz.results182]
def wBad (w : World) (g o : Nat) (er e a : Int) : World := if er = 0 then ((w.setCell ⟨g, o + 2, none⟩ (.int .i64 e)).setCell ⟨g, o + 2 + 1, none⟩ (.int .i64 a)).alloc (.cells #[.int .i64 e, .int .i64 a] 305) else w.alloc (.cells #[.int .i64 e, .int .i64 a] 305)
theorem caught_one {w : World} {g o : Nat} {b : Option Addr} {len cap : Nat} {at_ er fa : Int} (h : RdAt w g o b len cap at_ er fa) (hg : g < w.heap.size) (e a : Int) (older : List PanicEntry) :
  CallsD Tryz.prog 182 #[.pointer (some ⟨g, o, none⟩)] (.panicking (brk e a :: older)) w fun x u' w' => x = .returned (.tuple #[]) ∧ u' = .panicking ({ brk e a with recovered := true } :: older) ∧
   w' = wBad w g o er e a := by
 obtain ⟨c0, c1, c2, c3, f⟩ := h
 refine callsD_of_wpS Tryz.func182 rfl fun c₀ cs hu => ?_
 apply wpS_seq
 apply wpS_region
 simp [wpOpsS, go_sem, recoverD, hu, Tryz.ntmps182, Exit.thenS, brk]
 rw [tm182]
 refine wpS_of_wp ?_
 have ta : ∀ W : World, (Instr.typeAssert (.iface 305 (.agg #[.int .i64 e, .int .i64 a])) 20 305 true).run Tryz.prog W = .ok (.tuple #[.agg #[.int .i64 e, .int .i64 a], .bool true]) W := fun W => by kernel_rfl
 have f2 := f 2 (by omega)
 have f3 := f 3 (by omega)
 have hne : g ≠ w.heap.size := by omega
 have A2 : ∀ o2 v, (w.alloc v).cell? ⟨g, o2, none⟩ = w.cell? ⟨g, o2, none⟩ := fun o2 v => World.cell?_alloc_lt w v _ hg
 go_wp2
 all_goals (unfold wBad; cases c₀; simp_all [bodyPostS, results, Tryz.results182, brk])
theorem take_bad {w W : World} {g o : Nat} {b : Option Addr} {len cap : Nat} {at_ er fa n e a : Int} (h : RdAt W g o b len cap at_ er fa) (hg : g < W.heap.size)
  (hn : Calls Tryz.prog 183 #[.pointer (some ⟨g, o, none⟩), .int .i64 n] w fun x w' => x = .panicked [brk e a] ∧ w' = W) :
  Calls Tryz.prog 82 #[.pointer (some ⟨g, o, none⟩), .int .i64 n] w fun x w' => x = .returned (.slice none 0 0) ∧
   w' = wBad W g o er e a := by
 have hmf : ∀ (fn : Fn) (first cap : Array Value) (w : World), (Instr.makeFunc fn first cap).run Tryz.prog w = .ok (.func fn first cap) w := fun _ _ _ _ => rfl
 go_enter_defers Tryz.func82, Tryz.ntmps82
 go_wp2_with (go_at_call 183; refine hn.mono ?_; rintro e w' ⟨rfl, rfl⟩)
 refine leaves_cons (f := 182) (args := #[.pointer (some ⟨g, o, none⟩)]) (by simp) (by simp [go_sem]) ?_
 refine (caught_one (by assumption) (by assumption) e a []).mono ?_
 rintro e u' w'' ⟨rfl, rfl, rfl⟩
 simp [Leaves, settle, results, Tryz.results82, go_sem]
theorem u32_bad {w W : World} {g o : Nat} {b : Option Addr} {len cap : Nat} {at_ er fa e a : Int} (h : RdAt W g o b len cap at_ er fa) (hg : g < W.heap.size)
  (hn : Calls Tryz.prog 183 #[.pointer (some ⟨g, o, none⟩), .int .i64 4] w fun x w' => x = .panicked [brk e a] ∧ w' = W) :
  Calls Tryz.prog 85 #[.pointer (some ⟨g, o, none⟩)] w fun x w' => x = .returned (.int .u32 0) ∧ w' = wBad W g o er e a := by
 have hmf : ∀ (fn : Fn) (first cap : Array Value) (w : World), (Instr.makeFunc fn first cap).run Tryz.prog w = .ok (.func fn first cap) w := fun _ _ _ _ => rfl
 go_enter_defers Tryz.func85, Tryz.ntmps85
 go_wp2_with (go_at_call 183; refine hn.mono ?_; rintro e w' ⟨rfl, rfl⟩)
 refine leaves_cons (f := 182) (args := #[.pointer (some ⟨g, o, none⟩)]) (by simp) (by simp [go_sem]) ?_
 refine (caught_one (by assumption) (by assumption) e a []).mono ?_
 rintro e u' w'' ⟨rfl, rfl, rfl⟩
 simp [Leaves, settle, results, Tryz.results85, go_sem]
theorem take_good {w : World} {a : Value} {n : Int} {R : Value → World → Prop} (hn : Calls Tryz.prog 183 #[a, .int .i64 n] w fun x w' => ∃ v, x = .returned v ∧ R v w') :
  Calls Tryz.prog 82 #[a, .int .i64 n] w fun x w' => ∃ v, x = .returned v ∧ R v w' := by
 have hmf : ∀ (fn : Fn) (first cap : Array Value) (w : World), (Instr.makeFunc fn first cap).run Tryz.prog w = .ok (.func fn first cap) w := fun _ _ _ _ => rfl
 go_enter_defers Tryz.func82, Tryz.ntmps82
 go_wp2_with (go_at_call 183; refine hn.mono ?_; rintro e w' ⟨v, rfl, hr⟩)
 refine leaves_cons (f := 182) (args := #[a]) (by simp) (by simp [go_sem]) ?_
 refine (caught_idle a _).mono ?_
 rintro e u' w'' ⟨rfl, rfl, rfl⟩
 simp [Leaves, settle, results, Tryz.results82, go_sem]
 exact hr
theorem u32_good {w : World} {a : Value} {R : Value → World → Prop} {S : Value → World → Prop} (hn : Calls Tryz.prog 183 #[a, .int .i64 4] w fun x w' => ∃ v, x = .returned v ∧ R v w')
  (hm : ∀ v w', R v w' → Calls Tryz.prog 184 #[v] w' fun x w' => ∃ v, x = .returned v ∧ S v w') :
  Calls Tryz.prog 85 #[a] w fun x w' => ∃ v, x = .returned v ∧ S v w' := by
 have hmf : ∀ (fn : Fn) (first cap : Array Value) (w : World), (Instr.makeFunc fn first cap).run Tryz.prog w = .ok (.func fn first cap) w := fun _ _ _ _ => rfl
 go_enter_defers Tryz.func85, Tryz.ntmps85
 go_wp2_with (first | (go_at_call 183; refine hn.mono ?_; rintro e w' ⟨v, rfl, hr⟩) | (go_at_call 184; refine (hm _ _ (by assumption)).mono ?_; rintro e w' ⟨v, rfl, hs⟩))
 refine leaves_cons (f := 182) (args := #[a]) (by simp) (by simp [go_sem]) ?_
 refine (caught_idle a _).mono ?_
 rintro e u' w'' ⟨rfl, rfl, rfl⟩
 simp [Leaves, settle, results, Tryz.results85, go_sem]
 assumption
open Go Go.Ax Go.Proofs
def rdBad (r : Nat) (h : Hp) (nx : Nat) (a : Option Addr) (len cap : Nat) (at_ : Nat) (er fa e x : Int) (v : Value) : CR :=
 .ok v (bif decide (er = 0) then hset h r (.cells [.slice a len cap, .int .i64 at_, .int .i64 e, .int .i64 x] false) else h) nx
def rdGo (r : Nat) (h : Hp) (nx : Nat) (n : Int) (v : Value) (good : CR) : CR := match hget h r with
 | some (.cells [.slice a len cap, .int .i64 (.ofNat at_), .int .i64 er, .int .i64 fa] false) =>
  bif !decide (er = 0) then rdBad r h nx a len cap at_ er fa 10 0 v
  else bif decide (n < 0) then rdBad r h nx a len cap at_ er fa 3 at_ v
  else bif Nat.ble at_ len && (Nat.blt len 1000000 && decide ((len : Int) - at_ < n)) then rdBad r h nx a len cap at_ er fa 2 len v
  else good
 | _ => .no "reader"
def gTake (run : List Value → Hp → Nat → CR) (args : List Value) (h : Hp) (nx : Nat) : CR := match args with
 | [.pointer (some ⟨r, 0, none⟩), .int .i64 n] => rdGo r h nx n (.slice none 0 0) (run args h nx)
 | _ => .no "Take"
def gU32 (run num : List Value → Hp → Nat → CR) (args : List Value) (h : Hp) (nx : Nat) : CR := match args with
 | [.pointer (some ⟨r, 0, none⟩)] => rdGo r h nx 4 (.int .u32 0) (CR.casesOn (run [.pointer (some ⟨r, 0, none⟩), .int .i64 4] h nx) (fun v h1 nx1 => num [v] h1 nx1) (fun w => .no w) (fun _ _ => .no "U32"))
 | _ => .no "U32"
theorem rd_case {r : Nat} {h : Hp} {nx : Nat} {n : Int} {v : Value} {good : CR} {K : Value → Hp → Nat → Prop} (hs : crSat (rdGo r h nx n v good) K) :
  ∃ (a : Option Addr) (len cap at_ : Nat) (er fa : Int), hget h r = some (.cells [.slice a len cap, .int .i64 (at_ : Int), .int .i64 er, .int .i64 fa] false) ∧
   (crSat good K ∨ ∃ e x, K v (if er = 0 then hset h r (.cells [.slice a len cap, .int .i64 (at_ : Int), .int .i64 e, .int .i64 x] false) else h) nx ∧
    ∀ (w : World) (g o : Nat) (b : Option Addr) (c : Nat), RdAt w g o b len c at_ er fa → ∃ q, Calls Tryz.prog 183 #[.pointer (some ⟨g, o, none⟩), .int .i64 n] w fun x' w' => x' = .panicked [brk e x] ∧ w' = w.drewN q) := by
 unfold rdGo at hs
 split at hs
 ·rename_i a len cap at_ er fa hh
  refine ⟨a, len, cap, at_, er, fa, hh, ?_⟩
  by_cases he : er = 0
  ·subst he
   rw [decide_eq_true rfl] at hs
   simp only [Bool.not_true, cond_false] at hs
   by_cases hn : n < 0
   ·rw [decide_eq_true hn] at hs
    exact .inr ⟨3, at_, hs, fun w g o b c hr => ⟨0, next_bad (need_neg hr hn)⟩⟩
   ·rw [decide_eq_false hn] at hs
    simp only [cond_false] at hs
    cases hc : (Nat.ble at_ len && (Nat.blt len 1000000 && decide ((len : Int) - at_ < n))) with
    | true =>
     rw [hc] at hs
     simp only [Bool.and_eq_true] at hc
     exact .inr ⟨2, len, hs, fun w g o b c hr => ⟨1, next_bad (need_short hr (Nat.le_of_ble_eq_true hc.1) (by simpa [Nat.blt_eq] using hc.2.1) (of_decide_eq_true hc.2.2))⟩⟩
    | false => rw [hc] at hs; exact .inl hs
  ·rw [decide_eq_false he] at hs
   simp only [Bool.not_false, cond_true] at hs
   refine .inr ⟨10, 0, ?_, fun w g o b c hr => ⟨0, next_bad (need_dead hr he)⟩⟩
   rw [if_neg he]
   unfold rdBad at hs
   rw [decide_eq_false he] at hs
   exact hs
 ·exact hs.elim
theorem rdAt_of {B : Nat} {ρ : Rho} {h : Hp} {w : World} (hr : Rel B ρ (hget h) w) {r : Nat} {p : Ax.Place} {a : Option Addr} {len cap at_ : Nat} {er fa : Int} (hp : ρ r = some p) (hh : hget h r = some (.cells [.slice a len cap, .int .i64 (at_ : Int), .int .i64 er, .int .i64 fa] false)) :
  ∃ b c, RdAt w p.blk p.off b len c at_ er fa := by
 obtain ⟨hB, hoff, cc, e', lo, hi, hw, hfz, hcells, hcsz⟩ := hr.obj r p _ hp hh
 obtain ⟨v0, e0, q0⟩ := hcells 0 _ rfl
 obtain ⟨v1, e1, q1⟩ := hcells 1 _ rfl
 obtain ⟨v2, e2, q2⟩ := hcells 2 _ rfl
 obtain ⟨v3, e3, q3⟩ := hcells 3 _ rfl
 obtain ⟨b, c, rfl, _⟩ := q0.slice_inv
 cases q1; cases q2; cases q3
 simp only [Nat.zero_add, List.length_cons, List.length_nil] at e0 e1 e2 e3 hcsz
 have cell : ∀ i, w.cell? ⟨p.blk, i, none⟩ = cc[i]? := fun i => by simp only [World.cell?, hw, Option.isSome_none, Bool.false_eq_true, if_false]
 refine ⟨b, c, by rw [cell, hoff]; exact e0, by rw [cell, hoff]; exact e1, by rw [cell, hoff]; exact e2, by rw [cell, hoff]; exact e3, fun i hi' => ?_⟩
 simp only [World.frozen?, hw, hoff]
 rcases hfz with h | h
 ·simp; omega
 ·simp; omega
theorem bad_mv {B : Nat} {ρ : Rho} {h : Hp} {nx : Nat} {w : World} (hr : Rel B ρ (hget h) w) {r : Nat} {p : Ax.Place} {a : Option Addr} {len cap at_ : Nat} {er fa : Int} (hp : ρ r = some p) (hh : hget h r = some (.cells [.slice a len cap, .int .i64 (at_ : Int), .int .i64 er, .int .i64 fa] false)) (q : Nat) (e x : Int) :
  Mv B ρ (hget h) w nx nx ρ (hget (if er = 0 then hset h r (.cells [.slice a len cap, .int .i64 (at_ : Int), .int .i64 e, .int .i64 x] false) else h)) (wBad (w.drewN q) p.blk p.off er e x) := by
 obtain ⟨hB, hoff, cc, e', lo, hi, hw, hfz, hcells, hcsz⟩ := hr.obj r p _ hp hh
 unfold wBad
 by_cases he : er = 0
 ·rw [if_pos he, if_pos he]
  have hlen : 4 ≤ cc.size := by simp at hcsz; omega
  have hwh : (((w.drewN q).setCell ⟨p.blk, p.off + 2, none⟩ (.int .i64 e)).setCell ⟨p.blk, p.off + 2 + 1, none⟩ (.int .i64 x)).heap[p.blk]? = some (.cells ((cc.setIfInBounds 2 (.int .i64 e)).setIfInBounds 3 (.int .i64 x)) e' (lo, hi)) := by
   simp [World.setCell, World.drewN, Array.getElem?_modify, hw, hoff]
  have hm1 : Mv B ρ (hget h) w nx nx ρ (AH.put (hget h) r (.cells [.slice a len cap, .int .i64 (at_ : Int), .int .i64 e, .int .i64 x] false)) (((w.drewN q).setCell ⟨p.blk, p.off + 2, none⟩ (.int .i64 e)).setCell ⟨p.blk, p.off + 2 + 1, none⟩ (.int .i64 x)) := by
   refine Mv.change nx hr hp hh hB (by simp [World.setCell, World.drewN]) (fun k hk => ?_) rfl ⟨rfl, Nat.le_add_right _ _⟩ rfl ⟨hB, hoff, _, e', lo, hi, hwh, by simpa using hfz, fun i v hv => ?_, by simpa using hcsz⟩
   ·simp [World.setCell, World.drewN, Array.getElem?_modify, Ne.symm hk]
   ·match i with
    | 0 => obtain ⟨v', e1, e2⟩ := hcells 0 v hv; exact ⟨v', by simpa using e1, e2⟩
    | 1 => obtain ⟨v', e1, e2⟩ := hcells 1 v hv; exact ⟨v', by simpa using e1, e2⟩
    | 2 => cases hv; exact ⟨.int .i64 e, by simp [Array.getElem?_setIfInBounds, show 2 < cc.size by omega], .int _ _⟩
    | 3 => cases hv; exact ⟨.int .i64 x, by simp [Array.getElem?_setIfInBounds, show 3 < cc.size by omega], .int _ _⟩
    | i + 4 => cases hv
  rw [hget_put]
  exact hm1.trans (Mv.push hm1.rel nx _)
 ·rw [if_neg he, if_neg he]
  have hm0 : Mv B ρ (hget h) w nx nx ρ (hget h) (w.drewN q) := Mv.still hr (Nat.le_refl _) rfl ⟨rfl, Nat.le_add_right _ _⟩ rfl fun k _ => rfl
  exact hm0.trans (Mv.push hm0.rel nx _)
theorem gTake_ok {run : List Value → Hp → Nat → CR} (hrun : OrcAt Tryz.prog 183 run) : OrcAt Tryz.prog 82 (gTake run) := by
 intro args h nx K hs
 refine ⟨cal_of (by kernel_rfl), fun B ρ w args' hr hfr ha n0 => callsIn_wide.2 ?_⟩
 unfold gTake at hs
 split at hs
 ·rename_i r n
  obtain ⟨a, len, cap, at_, er, fa, hh, hs⟩ := rd_case hs
  obtain ⟨_, _, hx, hy, rfl⟩ : ∃ x y, VR ρ _ x ∧ VR ρ _ y ∧ args' = [x, y] := by
   cases ha with | cons hx ha => cases ha with | cons hy ha => cases ha; exact ⟨_, _, hx, hy, rfl⟩
  cases hx with
  | ptr hp =>
   rename_i p
   cases hy
   rcases hs with hs | ⟨e, x, hK, hbad⟩
   ·obtain ⟨_, h2⟩ := hrun _ h nx K hs
    have := callsIn_wide.1 (h2 B ρ w _ hr hfr (.cons (.ptr hp) (.cons (.int _ _) .nil)) 0)
    refine Calls.mono (take_good (R := fun v w' => ∃ v0 h' nx' ρ', K v0 h' nx' ∧ VR ρ' v0 v ∧ Mv B ρ (hget h) w nx nx' ρ' (hget h') w') (Calls.mono this ?_)) ?_
    ·rintro e w' ⟨v, h', nx', ρ', c, rfl, hk, hv, hm⟩
     exact ⟨c, rfl, v, h', nx', ρ', hk, hv, hm⟩
    ·rintro e w' ⟨c, rfl, v, h', nx', ρ', hk, hv, hm⟩
     exact ⟨v, h', nx', ρ', c, rfl, hk, hv, hm⟩
   ·obtain ⟨b, c, hrd⟩ := rdAt_of hr hp hh
    obtain ⟨q, hb⟩ := hbad w _ _ b c hrd
    have hrd2 : RdAt (w.drewN q) p.blk p.off b len c at_ er fa := ⟨hrd.c0, hrd.c1, hrd.c2, hrd.c3, hrd.f⟩
    refine Calls.mono (take_bad hrd2 (hr.obj r p _ hp hh).blk_lt hb) ?_
    rintro e' w' ⟨rfl, rfl⟩
    exact ⟨_, _, nx, ρ, _, rfl, hK, .sliceNil _ _, bad_mv hr hp hh q e x⟩
 ·exact hs.elim
theorem gU32_ok {run num : List Value → Hp → Nat → CR} (hrun : OrcAt Tryz.prog 183 run) (hnum : OrcAt Tryz.prog 184 num) : OrcAt Tryz.prog 85 (gU32 run num) := by
 intro args h nx K hs
 refine ⟨cal_of (by kernel_rfl), fun B ρ w args' hr hfr ha n0 => callsIn_wide.2 ?_⟩
 unfold gU32 at hs
 split at hs
 ·rename_i r
  obtain ⟨a, len, cap, at_, er, fa, hh, hs⟩ := rd_case hs
  obtain ⟨_, hx, rfl⟩ : ∃ x, VR ρ _ x ∧ args' = [x] := by
   cases ha with | cons hx ha => cases ha; exact ⟨_, hx, rfl⟩
  cases hx with
  | ptr hp =>
   rename_i p
   rcases hs with hs | ⟨e, x, hK, hbad⟩
   ·have hs' : crSat (run [.pointer (some ⟨r, 0, none⟩), .int .i64 4] h nx) (fun v h1 nx1 => crSat (num [v] h1 nx1) K) := by
     cases hc : run [.pointer (some ⟨r, 0, none⟩), .int .i64 4] h nx with
     | ok v h1 nx1 => rw [hc] at hs; exact hs
     | no w => rw [hc] at hs; exact hs
     | alt x y => rw [hc] at hs; exact hs.elim
    obtain ⟨_, h2⟩ := hrun _ h nx _ hs'
    have := callsIn_wide.1 (h2 B ρ w _ hr hfr (.cons (.ptr hp) (.cons (.int _ _) .nil)) 0)
    refine Calls.mono (u32_good (R := fun v w' => ∃ v0 h' nx' ρ', crSat (num [v0] h' nx') K ∧ VR ρ' v0 v ∧ Mv B ρ (hget h) w nx nx' ρ' (hget h') w') (S := fun v w' => ∃ v0 h' nx' ρ', K v0 h' nx' ∧ VR ρ' v0 v ∧ Mv B ρ (hget h) w nx nx' ρ' (hget h') w') (Calls.mono this ?_) ?_) ?_
    ·rintro e w' ⟨v, h', nx', ρ', c, rfl, hk, hv, hm⟩
     exact ⟨c, rfl, v, h', nx', ρ', hk, hv, hm⟩
    ·rintro v w1 ⟨v0, h', nx', ρ', hk, hv, hm⟩
     obtain ⟨_, h3⟩ := hnum _ h' nx' _ hk
     refine Calls.mono (callsIn_wide.1 (h3 B ρ' w1 _ hm.rel (hfr.after hm) (.cons hv .nil) 0)) ?_
     rintro e w' ⟨v2, h2', nx2, ρ2, c2, rfl, hk2, hv2, hm2⟩
     exact ⟨c2, rfl, v2, h2', nx2, ρ2, hk2, hv2, hm.trans hm2⟩
    ·rintro e w' ⟨c, rfl, v, h', nx', ρ', hk, hv, hm⟩
     exact ⟨v, h', nx', ρ', c, rfl, hk, hv, hm⟩
   ·obtain ⟨b, c, hrd⟩ := rdAt_of hr hp hh
    obtain ⟨q, hb⟩ := hbad w _ _ b c hrd
    have hrd2 : RdAt (w.drewN q) p.blk p.off b len c at_ er fa := ⟨hrd.c0, hrd.c1, hrd.c2, hrd.c3, hrd.f⟩
    refine Calls.mono (u32_bad hrd2 (hr.obj r p _ hp hh).blk_lt hb) ?_
    rintro e' w' ⟨rfl, rfl⟩
    exact ⟨_, _, nx, ρ, _, rfl, hK, .int _ _, bad_mv hr hp hh q e x⟩
 ·exact hs.elim
end Go.Proofs.YtcjochjiegiliaaGreat
