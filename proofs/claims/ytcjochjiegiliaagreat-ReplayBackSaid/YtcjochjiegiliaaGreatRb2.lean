/- Parts of the proof: Rb2: each statement bears its own conditions. -/
import Derived.OpenShut
import Derived.WideShapes
import Derived.Test.YtcjochjiegiliaaGreatRb1
namespace Go.Ax
open Go
set_option linter.unusedSimpArgs false
set_option linter.unusedVariables false
abbrev PE := List (Nat × Option Value)
def pget : PE → Nat → Option (Option Value)
 | [], _ => none
 | p :: l, n => bif Nat.beq p.1 n then some p.2 else pget l n
def pput (pe : PE) (d : Option Nat) (v : Option Value) : PE := match d with
 | some d => (d, v) :: pe
 | none => pe
def undO (v : Option Value) : Value := match v with | some v => v | none => undefV
def Fits (pe : PE) (tm : Tm) : Prop := ∀ n v, pget pe n = some v → tget tm n = undO v
def pev (pe : PE) (x : Co) : R Value := match x with
 | .t n => (match pget pe n with | some (some v) => .ok v | some none => .ok undefV | none => .no "temp")
 | .v v => .ok v
def pevs (pe : PE) : List Co → R (List Value)
 | [] => .ok []
 | x :: xs => R.bind (pev pe x) fun v => R.bind (pevs pe xs) fun vs => .ok (v :: vs)
def pevO (pe : PE) (x : Option Co) : R (Option Value) := match x with
 | none => .ok none
 | some x => R.bind (pev pe x) fun v => .ok (some v)
def pparts (pe : PE) : List (Nat × Nat × Co) → R (List (Nat × Nat × Value))
 | [] => .ok []
 | (o, z, x) :: xs => R.bind (pev pe x) fun v => R.bind (pparts pe xs) fun vs => .ok ((o, z, v) :: vs)
def vInt (x : Option Value) (d : Nat) : R Nat := match x with
 | none => .ok d
 | some v => natR v (fun n => .ok n)
def vSl (s : Nat) (v : Value) (lo hi mx : Option Value) : R Value := match v with
 | .slice a len cap => bif !mx.isSome || hi.isSome then R.bind (vInt mx cap) (fun m => R.bind (vInt hi len) (fun hh => R.bind (vInt lo 0) (fun l => sliceV s a cap mx.isSome m hh l))) else .no "slice - max without high"
 | _ => .no "slice"
def vPick (c a b : Value) : R Value := match c with
 | .bool c => Bool.casesOn c (.ok b) (.ok a)
 | _ => .no "pick"
def vFldA (off : Nat) (v : Value) : R Value := addrR v (fun a => .ok (moveA a off))
def vIx (k : IxT) (x i : Value) : R Value := natR i (fun i => oIndexAddr k x i)
def vFill : List (Nat × Nat × Value) → List Value → R (List Value)
 | [], cells => .ok cells
 | (off, sz, x) :: xs, cells => cfillS (vFill xs) off sz (vcells x) cells
def vBld (z : List Value) (parts : List (Nat × Nat × Value)) : R Value := R.bind (vFill parts z) (fun l => .ok (.agg ⟨l⟩))
def vBsl (len : Nat) (z : List Value) (parts : List (Nat × Nat × Value)) : R NB := R.bind (vFill parts z) (fun l => sliceNB l len len)
def vMks (z : List Value) (l c : Value) : R NB := natR l (fun l => natR c (fun c => bif Nat.ble l c && Nat.ble c 100000 then sliceNB (repL c z) l c else .no "makeSlice"))
def vLd (ag : Option Nat) (h : Hp) (x : Value) : R Value := addrR x (fun a => cellsOf h a.block (fun cs _ => loadC ag a.off cs))
def vSt (h : Hp) (n : Nat) (a x : Value) : R Hp := addrR a (cSt h n (vcells x))
def vIdx (P : Program) (t : TypeId) (x i : Value) : R Value := natR i (fun i => oIndex P t x i)
def vCap (P : Program) (f : Callee) (ts : List TypeId) (l : List Value) : R Value := match f with
 | .builtin .cap => (match l with | [x] => R.of "cap" (lget ts 0) (fun t => capA P t x) | _ => .no "cap")
 | _ => .no "call"
def pcoO (pe : PE) (x : Operand) (k : Value → R Value) : R Value := match co x with
 | some x => R.bind (pev pe x) k
 | none => .no "operand"
def pcos (pe : PE) (l : List Operand) (k : List Value → R Value) : R Value := match cos l with
 | some l => R.bind (pevs pe l) k
 | none => .no "operand"
def ppur (P : Program) (pe : PE) (e : CP) : R Value := match e with
 | .mv x => pev pe x
 | .pick c a b => R.bind (pev pe c) fun c => R.bind (pev pe a) fun a => R.bind (pev pe b) fun b => vPick c a b
 | .bin op t x y => R.bind (pev pe x) fun x => R.bind (pev pe y) fun y => bin P op t x y
 | .un op x => R.bind (pev pe x) fun x => oUn op x
 | .conv d x => R.bind (pev pe x) fun x => oConv d x
 | .fld off ag x => R.bind (pev pe x) fun x => cFld off ag x
 | .fldA off x => R.bind (pev pe x) fun x => vFldA off x
 | .ixA k x i => R.bind (pev pe x) fun x => R.bind (pev pe i) fun i => vIx k x i
 | .sl s x lo hi mx => R.bind (pev pe x) fun x => R.bind (pevO pe lo) fun lo => R.bind (pevO pe hi) fun hi => R.bind (pevO pe mx) fun mx => vSl s x lo hi mx
 | .ext x i => R.bind (pev pe x) fun x => oExtract x i
 | .nilc x => R.bind (pev pe x) fun x => nilChk x
 | .mkf f a b => R.bind (pevs pe a) fun a => R.bind (pevs pe b) fun b => .ok (.func (.func f) ⟨a⟩ ⟨b⟩)
 | .ifc t x => R.bind (pev pe x) fun x => .ok (.iface t x)
 | .mn b x y => R.bind (pev pe x) fun x => R.bind (pev pe y) fun y => min2 b x y
 | .build z parts => R.bind (pparts pe parts) fun ps => vBld z ps
 | .gen (.index t x i) => pcoO pe x fun x => pcoO pe i fun i => vIdx P t x i
 | .gen (.typeAssert x _ a ok) => pcoO pe x fun x => oAssert P a ok x
 | .gen (.call c) => pcos pe c.args.toList fun l => vCap P c.callee c.argTypes.toList l
 | .gen o => .no "gen"
def palc (P : Program) (pe : PE) (e : CA) : R NB := match e with
 | .new l => .ok (.ptr (.cells l false))
 | .box x => R.bind (pev pe x) fun x => cellsNB (vcells x)
 | .bsl len base parts => R.bind (pparts pe parts) fun ps => vBsl len base ps
 | .mkm => .ok .map
 | .mks z l c => R.bind (pev pe l) fun l => R.bind (pev pe c) fun c => vMks z l c
 | .gen o => .no "gen"
def pred (P : Program) (pe : PE) (e : CRd) (h : Hp) : R Value := match e with
 | .ld ag x => R.bind (pev pe x) fun x => vLd ag h x
 | .lkp kt z m k ok => R.bind (pev pe m) fun m => R.bind (pev pe k) fun k => cLkp P h kt z ok m k
 | .lens x => R.bind (pev pe x) fun x => lenS x
 | .lenm x => R.bind (pev pe x) fun x => lenM h x
 | .entry x => R.bind (pev pe x) fun x => oEntry h x
 | .gen (.convert s d x) => pcoO pe x fun x => oStr P h s d x
 | .gen o => .no "gen"
def IF (v : Value) (a b : Prop) : Prop := match v with
 | .bool t => (match t with | true => a | false => b)
 | _ => False
def AR (r : R NB) (h : Hp) (nx : Nat) (k : Value → Hp → Nat → Prop) : Prop := RK r fun b => k (nbV nx b) (hset h nx (nbO b)) (nx + 1)
def EK (r : OR) (k : Value → Hp → Nat → Prop) : Prop := match r with
 | .val v h nx => k v h nx
 | _ => False
def Yv (P : Program) (orc : Orc) (s : Bool) (l : Nat) (args : List Value) (h : Hp) (nx : Nat) (K : KC') : Prop := ∃ n, SatC s (roundA (exA P orc n) l args h nx) K
def CVK (P : Program) (orc : Orc) (s : Bool) (r : OR) (k : Value → Hp → Nat → Prop) : Prop := match r with
 | .call f args h nx => Cv P orc s f args h nx k
 | .round l args h nx => Yv P orc s l args h nx k
 | _ => False
def NXK (s : Bool) (h : Hp) (nx : Nat) (v : Value) (k : Value → Hp → Nat → Prop) : Prop :=
 ∃ it r since st ck seen es, s = false ∧ v = .pointer (some ⟨it, 0, none⟩) ∧ hget h it = some (.iter (some r) since seen st) ∧ hget h r = some (.map es ck) ∧ nextOk seen es st = true ∧
  (leftOf seen es = [] → k (.tuple #[.bool false]) h nx) ∧ ∀ e ∈ leftOf seen es, e.born < since ∧ k (.tuple #[.bool true, e.key, e.val]) (hset h it (.iter (some r) since (seen ++ [e.born]) ck)) nx
def AGK (f : Hp → R Value) (v : Value) (p : Prop) : Nat → List Hp → Prop
 | 0, _ => p
 | n + 1, h :: hs => sameR v (f h) = true ∧ AGK f v p n hs
 | _ + 1, [] => False
def fG (g : Option (Nat × Bool)) (pe : PE) (a b : PE → Prop) : Prop := match g with
 | none => a pe
 | some (t, w) => (match pget pe t with
  | some (some v) => IF v ((match w with | true => a | false => b) ((t, some (.bool true)) :: pe)) ((match w with | true => b | false => a) ((t, some (.bool false)) :: pe))
  | some none => b pe
  | none => False)
section
variable (P : Program) (orc : Orc) (s : Bool)
def fE (d : Option Nat) (e : CE) (pe : PE) (h : Hp) (nx : Nat) (k : PE → Hp → Nat → Prop) : Prop := match e with
 | .st n a x => RK (pev pe a) fun a => RK (pev pe x) fun x => RK (vSt h n a x) fun h => k (pput pe d (some undefV)) h nx
 | .mup kt m key x => RK (pev pe m) fun m => RK (pev pe key) fun key => RK (pev pe x) fun x => RK (cMup P kt h m key x) fun h => k (pput pe d (some undefV)) h nx
 | .rng x => RK (pev pe x) fun x => EK (oRange h nx x) fun v h nx => k (pput pe d (some v)) h nx
 | .nxt x => RK (pev pe x) fun x => NXK s h nx x fun v h nx => k (pput pe d (some v)) h nx
 | .call f args => RK (pevs pe args) fun l => Cv P orc s f l h nx fun v h nx => k (pput pe d (some v)) h nx
 | .callv f args => RK (pev pe f) fun f => RK (pevs pe args) fun l => CVK P orc s (callV h nx l f) fun v h nx => k (pput pe d (some v)) h nx
 | .app z x y => RK (pev pe x) fun x => RK (pev pe y) fun y => EK (orR (appendA z h nx x y)) fun v h nx => k (pput pe d (some v)) h nx
 | .gen (.call c) => (match cos c.args.toList with
  | some aS0 => RK (pevs pe aS0) fun l => (match c.callee with
   | .builtin b => EK (orR (builtinA P b c.argTypes.toList h nx l)) fun v h nx => k (pput pe d (some v)) h nx
   | .invoke r m => (match co r with
    | some r => RK (pev pe r) fun v => CVK P orc s (oInvoke P h nx l m v) fun v h nx => k (pput pe d (some v)) h nx
    | none => False)
   | _ => False)
  | none => False)
 | .gen (.convert sx dx x) => (match co x with
  | some x => RK (pev pe x) fun v => EK (oMark P h nx sx dx v) fun v h nx => k (pput pe d (some v)) h nx
  | none => False)
 | .gen o => False
def fI (d : Option Nat) (i : CK) (pe : PE) (h : Hp) (nx : Nat) (k : PE → Hp → Nat → Prop) : Prop := match i with
 | .pur (.mv x) => RK (pev pe x) fun v => k (pput pe d (some v)) h nx
 | .pur (.pick c a b) => RK (pev pe c) fun c => RK (pev pe a) fun a => RK (pev pe b) fun b => IF c (k (pput pe d (some a)) h nx) (k (pput pe d (some b)) h nx)
 | .pur e => RK (ppur P pe e) fun v => k (pput pe d (some v)) h nx
 | .alc e => AR (palc P pe e) h nx fun v h nx => k (pput pe d (some v)) h nx
 | .red e => RK (pred P pe e h) fun v => k (pput pe d (some v)) h nx
 | .eff e => fE P orc s d e pe h nx k
def fO : List CI → PE → Hp → Nat → (PE → Hp → Nat → Prop) → Prop
 | [], pe, h, nx, K => K pe h nx
 | i :: is, pe, h, nx, K => fG i.g pe (fun pe => fI P orc s i.d i.k pe h nx fun pe h nx => fO is pe h nx K) (fun pe => fO is (pput pe i.d none) h nx K)
def fED (d : Option Nat) (e : CE) (pe : PE) (h : Hp) (nx : Nat) (b : Hp) (hs : List Hp) (k : PE → Hp → Nat → Hp → List Hp → Prop) : Prop := match e with
 | .st n a x => RK (pev pe a) fun a => RK (pev pe x) fun x => RK (vSt h n a x) fun h => k (pput pe d (some undefV)) h nx h (b :: hs)
 | .call f args => RK (pevs pe args) fun l => Cv P orc true f l h nx fun v h' nx' => nx ≤ nx' ∧ k (pput pe d (some v)) h' nx' h' (b :: hs)
 | .callv f args => RK (pev pe f) fun f => RK (pevs pe args) fun l => CVK P orc true (callV h nx l f) fun v h' nx' => nx ≤ nx' ∧ k (pput pe d (some v)) h' nx' h' (b :: hs)
 | .app z x y => RK (pev pe x) fun x => RK (pev pe y) fun y => EK (orR (appendA z h nx x y)) fun v h' nx' => nx ≤ nx' ∧ k (pput pe d (some v)) h' nx' h' (b :: hs)
 | .mup kt m key x => RK (pev pe m) fun m => RK (pev pe key) fun key => RK (pev pe x) fun x => RK (cMup P kt h m key x) fun h => k (pput pe d (some undefV)) h nx h (b :: hs)
 | .gen (.call c) => (match cos c.args.toList with
  | some aS0 => RK (pevs pe aS0) fun l => (match c.callee with
   | .builtin f => EK (orR (builtinA P f c.argTypes.toList h nx l)) fun v h' nx' => nx ≤ nx' ∧ k (pput pe d (some v)) h' nx' h' (b :: hs)
   | .invoke r m => (match co r with
    | some r => RK (pev pe r) fun v => CVK P orc true (oInvoke P h nx l m v) fun v h' nx' => nx ≤ nx' ∧ k (pput pe d (some v)) h' nx' h' (b :: hs)
    | none => False)
   | _ => False)
  | none => False)
 | _ => False
def fID (d : Option Nat) (c : Nat) (i : CK) (pe : PE) (h : Hp) (nx : Nat) (b : Hp) (hs : List Hp) (k : PE → Hp → Nat → Hp → List Hp → Prop) : Prop := match i with
 | .pur (.mv x) => RK (pev pe x) fun v => k (pput pe d (some v)) h nx b hs
 | .pur (.pick c x y) => RK (pev pe c) fun c => RK (pev pe x) fun x => RK (pev pe y) fun y => IF c (k (pput pe d (some x)) h nx b hs) (k (pput pe d (some y)) h nx b hs)
 | .pur e => RK (ppur P pe e) fun v => k (pput pe d (some v)) h nx b hs
 | .alc e => AR (palc P pe e) h nx fun v h nx => k (pput pe d (some v)) h nx b hs
 | .red e => RK (pred P pe e b) fun v => AGK (pred P pe e) v (k (pput pe d (some v)) h nx b hs) c hs
 | .eff e => fED P orc d e pe h nx b hs k
def fD : List CI → PE → Hp → Nat → Hp → List Hp → (PE → Hp → Nat → Prop) → Prop
 | [], pe, h, nx, b, hs, K => K pe h nx
 | i :: is, pe, h, nx, b, hs, K => fG i.g pe (fun pe => fID P orc i.d i.c i.k pe h nx b hs fun pe h nx b hs => fD is pe h nx b hs K)
   (fun pe => Bool.rec (fD is (pput pe i.d none) h nx b hs K) (fD is (pput pe i.d none) h nx h (b :: hs) K) (isEffC i.k))
abbrev KN := PE → Hp → Nat → Prop
abbrev KVl := List Value → Hp → Nat → Prop
def nv : List Value → Nat → Value
 | [], _ => undefV
 | x :: l, i => match i with | 0 => x | i + 1 => nv l i
def peOf : List Nat → List Value → Nat → PE
 | [], _, _ => []
 | n :: L, vs, i => (n, some (nv vs i)) :: peOf L vs (i + 1)
def RL : List Nat → PE → (List Value → Prop) → Prop
 | [], _, k => k []
 | n :: L, pe, k => match pget pe n with
  | some (some v) => RL L pe fun vs => k (v :: vs)
  | some none => RL L pe fun vs => k (undefV :: vs)
  | none => False
def exk {α : Type} : List (Nat × (α → Hp → Nat → Prop)) → Nat → α → Hp → Nat → Prop
 | [], _ => fun _ _ _ => False
 | p :: l, i => bif Nat.beq p.1 i then p.2 else exk l i
abbrev LB := List Value → Hp → Nat → KVl → List (Nat × KVl) → KVl → Prop
def Lp (B : LB) (vs : List Value) (h : Hp) (nx : Nat) (E : List (Nat × KVl)) (R : KVl) : Prop :=
 ∃ (J : Nat → List Value → Hp → Nat → Prop) (m : Nat), J m vs h nx ∧ ∀ m vs h nx, J m vs h nx → B vs h nx (fun vs h nx => ∃ m', m' < m ∧ J m' vs h nx) E R
def cnt : CC → Nat
 | .seq a b => cnt a + cnt b
 | .cond _ a b => cnt a + cnt b
 | .block _ c => cnt c
 | .scope c => cnt c
 | .loop c => cnt c + 1
 | _ => 0
def lnth (l : List (List Nat)) (i : Nat) : List Nat := match lget l i with | some x => x | none => []
def hasX (i : Nat) : CC → Bool
 | .seq a b => hasX i a || hasX i b
 | .cond _ a b => hasX i a || hasX i b
 | .block _ c => hasX i c
 | .scope c => hasX i c
 | .loop c => hasX i c
 | .exit j => Nat.beq i j
 | _ => false
def hasR : CC → Bool
 | .seq a b => hasR a || hasR b
 | .cond _ a b => hasR a || hasR b
 | .block _ c => hasR c
 | .scope c => hasR c
 | .loop c => hasR c
 | .ret => true
 | _ => false
def kOut (L : List Nat) (k : KVl) : KN := fun pe h nx => RL L pe fun vs => k vs h nx
def kIn (L : List Nat) (k : KN) : KVl := fun vs h nx => k (peOf L vs 0) h nx
def xOut (L : List Nat) : List (Nat × KVl) → List (Nat × KN)
 | [] => []
 | p :: l => (p.1, kOut L p.2) :: xOut L l
def xIn (L : List Nat) (c : CC) : List (Nat × KN) → List (Nat × KVl)
 | [] => []
 | p :: l => bif hasX p.1 c then (p.1, kIn L p.2) :: xIn L c l else xIn L c l
def rIn (L : List Nat) (c : CC) (k : KN) : KVl := bif hasR c then kIn L k else fun _ _ _ => False
def fC (LF : List (List Nat)) : CC → Nat → PE → Hp → Nat → KN → List (Nat × KN) → KN → Prop
 | .skip, _, pe, h, nx, N, _, _ => N pe h nx
 | .exit id, _, pe, h, nx, _, E, _ => exk E id pe h nx
 | .ret, _, pe, h, nx, _, _, R => R pe h nx
 | .scope c, i, pe, h, nx, N, E, R => fC LF c i pe h nx N E R
 | .regO l, _, pe, h, nx, N, _, _ => fO P orc s l pe h nx N
 | .regD l, _, pe, h, nx, N, _, _ => fD P orc l pe h nx h [] N
 | .seq a b, i, pe, h, nx, N, E, R => fC LF a i pe h nx (fun pe h nx => fC LF b (i + cnt a) pe h nx N E R) E R
 | .block id c, i, pe, h, nx, N, E, R => fC LF c i pe h nx N ((id, N) :: E) R
 | .cond x a b, i, pe, h, nx, N, E, R => (match x with
  | .v v => IF v (fC LF a i pe h nx N E R) (fC LF b (i + cnt a) pe h nx N E R)
  | .t n => (match pget pe n with
   | some (some v) => IF v (fC LF a i ((n, some (.bool true)) :: pe) h nx N E R) (fC LF b (i + cnt a) ((n, some (.bool false)) :: pe) h nx N E R)
   | _ => False))
 | .loop c, i, pe, h, nx, _, E, R => RL (lnth LF i) pe fun vs => Lp (fun vs h nx N E R => fC LF c (i + 1) (peOf (lnth LF i) vs 0) h nx (kOut (lnth LF i) N) (xOut (lnth LF i) E) (kOut (lnth LF i) R)) vs h nx
   (xIn (lnth LF i) c E) (rIn (lnth LF i) c R)
 | .gen _, _, _, _, _, _, _, _ => False
end
def pres (P : Program) (pe : PE) (h : Hp) : List ResultVar → (List Value → Prop) → Prop
 | [], k => k []
 | .tmp t :: rs, k => RK (pev pe (.t t)) fun v => pres P pe h rs fun vs => k (v :: vs)
 | .cell a t :: rs, k => RK (pev pe (.t a)) fun v => RK (addrR v fun a => loadA P h t a) fun v => pres P pe h rs fun vs => k (v :: vs)
def kRet (P : Program) (rs : List ResultVar) (K : KC') : KN := fun pe h nx => pres P pe h rs fun l => K (retV l) h nx
def peArgs : List Value → Nat → PE
 | [], _ => []
 | v :: vs, i => (i, some v) :: peArgs vs (i + 1)
def fF (P : Program) (orc : Orc) (s : Bool) (LF : List (List Nat)) (f : FuncId) (args : List Value) (h : Hp) (nx : Nat) (K : KC') : Prop := match compAt P f with
 | some cf => fC P orc s LF cf.body 0 (peArgs args 0) h nx (kRet P cf.res K) [] (kRet P cf.res K)
 | none => False
def lpBody : CC → Nat → Option CC
 | .seq a b, i => (bif Nat.blt i (cnt a) then lpBody a i else lpBody b (i - cnt a))
 | .cond _ a b, i => (bif Nat.blt i (cnt a) then lpBody a i else lpBody b (i - cnt a))
 | .block _ c, i => lpBody c i
 | .scope c, i => lpBody c i
 | .loop c, i => (match i with | 0 => some c | i + 1 => lpBody c i)
 | _, _ => none
def fL (P : Program) (orc : Orc) (s : Bool) (LF : List (List Nat)) (f : FuncId) (i : Nat) : LB := match compAt P f with
 | some cf => (match lpBody cf.body i with
  | some c => fun vs h nx N E R => fC P orc s LF c (i + 1) (peOf (lnth LF i) vs 0) h nx (kOut (lnth LF i) N) (xOut (lnth LF i) E) (kOut (lnth LF i) R)
  | none => fun _ _ _ _ _ _ => False)
 | none => fun _ _ _ _ _ _ => False
section
variable {P : Program} {orc : Orc} {s : Bool}
theorem pget_cons (p : Nat × Option Value) (l : PE) (n : Nat) : pget (p :: l) n = if p.1 = n then some p.2 else pget l n := by
 show (bif Nat.beq p.1 n then _ else _) = _
 by_cases h : p.1 = n
 ·rw [if_pos h, h, Nat.beq_refl]; rfl
 ·rw [if_neg h]
  cases hb : Nat.beq p.1 n with
  | true => exact absurd (Nat.eq_of_beq_eq_true hb) h
  | false => rfl
theorem Fits.put {pe : PE} {tm : Tm} (F : Fits pe tm) (d : Option Nat) (v : Option Value) : Fits (pput pe d v) (putT tm d (undO v)) := by
 cases d with
 | none => exact F
 | some d =>
  intro n w hn
  show tget (tset tm d (undO v)) n = _
  have hn : pget ((d, v) :: pe) n = some w := hn
  rw [pget_cons] at hn
  rw [tgs]
  by_cases h : d = n
  ·rw [if_pos h] at hn
   cases hn
   rw [if_pos h.symm]
  ·rw [if_neg h] at hn
   rw [if_neg (fun e => h e.symm)]
   exact F n w hn
theorem Fits.lit {pe : PE} {tm : Tm} (F : Fits pe tm) {t : Nat} {v : Value} (h : tget tm t = v) : Fits ((t, some v) :: pe) tm := by
 intro n w hn
 rw [pget_cons] at hn
 by_cases e : t = n
 ·rw [if_pos e] at hn
  cases hn
  rw [← e, h]; rfl
 ·rw [if_neg e] at hn
  exact F n w hn
theorem pev_ok {pe : PE} {tm : Tm} (F : Fits pe tm) {x : Co} {k : Value → Prop} (h : RK (pev pe x) k) : k (cev tm x) := by
 cases x with
 | v v => exact h
 | t n =>
  simp only [pev] at h
  cases hp : pget pe n with
  | none => rw [hp] at h; exact h.elim
  | some o =>
   rw [hp] at h
   have e := F n o hp
   rw [cev_t, e]
   cases o with
   | none => exact h
   | some v => exact h
theorem RK_bind {α β : Type} {r : R α} {f : α → R β} {k : β → Prop} : RK (R.bind r f) k ↔ RK r fun x => RK (f x) k := by
 cases r <;> exact Iff.rfl
theorem RK_mono {α : Type} {r : R α} {k k' : α → Prop} (h : RK r k) (hk : ∀ x, k x → k' x) : RK r k' := by
 cases r with
 | ok x => exact hk x h
 | no w => exact h
theorem pevs_ok {pe : PE} {tm : Tm} (F : Fits pe tm) : ∀ {l : List Co} {k : List Value → Prop}, RK (pevs pe l) k → k (cevs tm l)
 | [], k, h => h
 | x :: l, k, h => by
  have h : RK (R.bind (pev pe x) _) k := h
  rw [RK_bind] at h
  have h := pev_ok F h
  rw [RK_bind] at h
  exact pevs_ok (l := l) (k := fun vs => k (cev tm x :: vs)) F h
theorem pevO_ok {pe : PE} {tm : Tm} (F : Fits pe tm) {x : Option Co} {k : Option Value → Prop} (h : RK (pevO pe x) k) : ∃ v, k v ∧ ∀ d, coptInt tm x d = vInt v d := by
 cases x with
 | none => exact ⟨none, h, fun d => rfl⟩
 | some x =>
  have h : RK (R.bind (pev pe x) _) k := h
  rw [RK_bind] at h
  exact ⟨some (cev tm x), pev_ok F h, fun d => rfl⟩
theorem pevO_some {pe : PE} {x : Option Co} {k : Option Value → Prop} (h : RK (pevO pe x) k) : RK (pevO pe x) fun v => k v ∧ v.isSome = x.isSome := by
 cases x with
 | none => exact ⟨h, rfl⟩
 | some x =>
  show RK (R.bind (pev pe x) _) _
  have h : RK (R.bind (pev pe x) _) k := h
  rw [RK_bind] at h ⊢
  exact RK_mono h fun v hv => ⟨hv, rfl⟩
theorem pparts_ok {pe : PE} {tm : Tm} (F : Fits pe tm) : ∀ {ps : List (Nat × Nat × Co)} {k : List (Nat × Nat × Value) → Prop}, RK (pparts pe ps) k → ∃ l, k l ∧ ∀ cells, cfillP tm ps cells = vFill l cells
 | [], k, h => ⟨[], h, fun _ => rfl⟩
 | (o, z, x) :: ps, k, h => by
  have h : RK (R.bind (pev pe x) _) k := h
  rw [RK_bind] at h
  have h := pev_ok F h
  rw [RK_bind] at h
  obtain ⟨l, h1, h2⟩ := pparts_ok F h
  refine ⟨_, h1, fun cells => ?_⟩
  show cfillS (cfillP tm ps) o z (vcells (cev tm x)) cells = cfillS (vFill l) o z (vcells (cev tm x)) cells
  rw [show cfillP tm ps = vFill l from funext h2]
theorem co_ev2 {tm : Tm} {x : Operand} {y : Co} (h : co x = some y) : ev tm x = .ok (cev tm y) := co_ev h tm
theorem cos_len : ∀ (r : List Operand) (l : List Co), cos r = some l → l.length = r.length
 | [], l, h => by cases h; rfl
 | x :: r, l, h => by
  unfold cos at h
  cases hx : co x with
  | none => rw [hx] at h; cases h
  | some y =>
   cases hr : cos r with
   | none => rw [hx, hr] at h; cases h
   | some ys =>
    rw [hx, hr] at h
    cases h
    rw [List.length_cons, List.length_cons, cos_len r ys hr]
theorem cos_ev2 {tm : Tm} {r : List Operand} {l : List Co} (h : cos r = some l) : evs tm r = .ok (cevs tm l) := cos_ev h tm
theorem vPick_ok {pe : PE} {tm : Tm} {c a b : Co} {k : Value → Prop} (h : RK (vPick (cev tm c) (cev tm a) (cev tm b)) k) : RK (cpur P tm (.pick c a b)) k := by
 show RK (cPick tm a b (cev tm c)) k
 unfold cPick
 generalize cev tm c = v at h ⊢
 cases v with
 | bool t => cases t <;> exact h
 | _ => exact h.elim
theorem ppur_ok {pe : PE} {tm : Tm} (F : Fits pe tm) {e : CP} {k : Value → Prop} (h : RK (ppur P pe e) k) : RK (cpur P tm e) k := by
 cases e with
 | mv x => exact pev_ok F h
 | pick c a b =>
  unfold ppur at h
  rw [RK_bind] at h; have h := pev_ok F h
  rw [RK_bind] at h; have h := pev_ok F h
  rw [RK_bind] at h; have h := pev_ok F h
  exact vPick_ok (pe := pe) h
 | bin op t x y =>
  unfold ppur at h
  rw [RK_bind] at h; have h := pev_ok F h
  rw [RK_bind] at h; exact pev_ok F h
 | un op x => unfold ppur at h; rw [RK_bind] at h; exact pev_ok F h
 | conv d x => unfold ppur at h; rw [RK_bind] at h; exact pev_ok F h
 | fld off ag x => unfold ppur at h; rw [RK_bind] at h; exact pev_ok F h
 | fldA off x => unfold ppur at h; rw [RK_bind] at h; exact pev_ok F h
 | ixA t x y =>
  unfold ppur at h
  rw [RK_bind] at h; have h := pev_ok F h
  rw [RK_bind] at h; exact pev_ok F h
 | sl z x lo hi mx =>
  unfold ppur at h
  rw [RK_bind] at h; have h := pev_ok F h
  rw [RK_bind] at h; obtain ⟨lo', h, e1⟩ := pevO_ok F h
  rw [RK_bind] at h; obtain ⟨hi', ⟨h, i2⟩, e2⟩ := pevO_ok F (pevO_some h)
  rw [RK_bind] at h; obtain ⟨mx', ⟨h, i3⟩, e3⟩ := pevO_ok F (pevO_some h)
  show RK (cSlice tm z lo hi mx (cev tm x)) k
  unfold cSlice
  unfold vSl at h
  split
  ·rename_i a len cap hv
   rw [hv] at h
   simp only [e1, e2, e3]
   rw [i2, i3] at h
   exact h
  ·rename_i hv
   split at h
   ·rename_i a len cap h1; exact absurd h1 (hv a len cap)
   ·exact h.elim
 | ext x i => unfold ppur at h; rw [RK_bind] at h; exact pev_ok F h
 | nilc x => unfold ppur at h; rw [RK_bind] at h; exact pev_ok F h
 | mkf f a b =>
  unfold ppur at h
  rw [RK_bind] at h; have h := pevs_ok F h
  rw [RK_bind] at h; exact pevs_ok F h
 | ifc t x => unfold ppur at h; rw [RK_bind] at h; exact pev_ok F h
 | mn b x y =>
  unfold ppur at h
  rw [RK_bind] at h; have h := pev_ok F h
  rw [RK_bind] at h; exact pev_ok F h
 | build z ps =>
  unfold ppur at h
  rw [RK_bind] at h
  obtain ⟨l, h, e⟩ := pparts_ok F h
  show RK (R.bind (cfillP tm ps z) _) k
  rw [e]; exact h
 | gen o =>
  have one : ∀ (x : Operand) (f : Value → R Value) (g : R Value), (∀ y, co x = some y → RK (f (cev tm y)) k → RK g k) → RK (pcoO pe x f) k → RK g k := fun x f g hg hh => by
   unfold pcoO at hh
   cases hc : co x with
   | none => rw [hc] at hh; exact hh.elim
   | some y => rw [hc] at hh; rw [RK_bind] at hh; exact hg y hc (pev_ok F hh)
  cases o with
  | index t x i =>
   refine one x _ _ (fun x' hx hh => one i _ _ (fun i' hi hh => ?_) hh) h
   show RK (R.bind (ev tm x) fun v => R.bind (ev tm i) fun i => natR i fun i => oIndex P t v i) k
   rw [co_ev2 hx, co_ev2 hi]
   exact hh
  | typeAssert x xt a ok =>
   refine one x _ _ (fun x' hx hh => ?_) h
   show RK (R.bind (ev tm x) fun v => oAssert P a ok v) k
   rw [co_ev2 hx]; exact hh
  | call c =>
   have h : RK (pcos pe c.args.toList fun l => vCap P c.callee c.argTypes.toList l) k := h
   unfold pcos at h
   cases hc : cos c.args.toList with
   | none => rw [hc] at h; exact h.elim
   | some l =>
    rw [hc] at h
    rw [RK_bind] at h
    have h := pevs_ok F h
    show RK (purC P tm c) k
    unfold purC
    unfold vCap at h
    cases hcc : c.callee with
    | builtin b =>
     rw [hcc] at h
     cases b with
     | cap =>
      show RK (evCap P tm c.argTypes.toList c.args.toList) k
      match ha : c.args.toList, l, hc with
      | [], l, hc => cases hc; exact h.elim
      | [x], l, hc =>
       have hc := hc
       unfold cos at hc
       cases hx : co x with
       | none => rw [hx] at hc; cases hc
       | some y =>
        rw [hx] at hc
        cases hc
        show RK (R.of "cap" (lget c.argTypes.toList 0) fun t => R.bind (ev tm x) fun x => capA P t x) k
        rw [co_ev2 hx]
        exact h
      | x :: y :: r, l, hc =>
       exfalso
       have : ∀ (r : List Operand) (l : List Co), cos r = some l → l.length = r.length := cos_len
       have hl := this _ _ hc
       match l, hl with
       | a :: b :: r', _ => exact h
     | _ => exact h.elim
    | value f => rw [hcc] at h; exact h.elim
    | invoke r m => rw [hcc] at h; exact h.elim
  | _ => exact h.elim
theorem palc_ok {pe : PE} {tm : Tm} (F : Fits pe tm) {e : CA} {k : NB → Prop} (h : RK (palc P pe e) k) : RK (calq P tm e) k := by
 cases e with
 | new l => exact h
 | box x => unfold palc at h; rw [RK_bind] at h; exact pev_ok F h
 | bsl len z ps =>
  unfold palc at h
  rw [RK_bind] at h
  obtain ⟨l, h, e⟩ := pparts_ok F h
  show RK (R.bind (cfillP tm ps z) _) k
  rw [e]; exact h
 | mkm => exact h
 | mks z x y =>
  unfold palc at h
  rw [RK_bind] at h; have h := pev_ok F h
  rw [RK_bind] at h; exact pev_ok F h
 | gen o => exact h.elim
theorem pred_ok {pe : PE} {tm : Tm} (F : Fits pe tm) {e : CRd} {hp : Hp} {k : Value → Prop} (h : RK (pred P pe e hp) k) : RK (cred P tm hp e) k := by
 cases e with
 | ld ag x => unfold pred at h; rw [RK_bind] at h; exact pev_ok F h
 | lkp kt z m key ok =>
  unfold pred at h
  rw [RK_bind] at h; have h := pev_ok F h
  rw [RK_bind] at h; exact pev_ok F h
 | lens x => unfold pred at h; rw [RK_bind] at h; exact pev_ok F h
 | lenm x => unfold pred at h; rw [RK_bind] at h; exact pev_ok F h
 | entry x => unfold pred at h; rw [RK_bind] at h; exact pev_ok F h
 | gen o =>
  cases o with
  | convert s d x =>
   have h : RK (pcoO pe x fun x => oStr P hp s d x) k := h
   unfold pcoO at h
   cases hc : co x with
   | none => rw [hc] at h; exact h.elim
   | some y =>
    rw [hc] at h
    rw [RK_bind] at h
    have h := pev_ok F h
    show RK (R.bind (ev tm x) fun v => oStr P hp s d v) k
    rw [co_ev2 hc]; exact h
  | _ => exact h.elim
theorem agk_ok {pe : PE} {tm : Tm} (F : Fits pe tm) {e : CRd} {v : Value} {p : Prop} : ∀ {n : Nat} {hs : List Hp}, AGK (pred P pe e) v p n hs → cagree P tm e v n hs = true ∧ p
 | 0, hs, h => ⟨rfl, h⟩
 | n + 1, [], h => h.elim
 | n + 1, hp :: hs, h => by
  obtain ⟨h1, h2⟩ := h
  obtain ⟨h3, h4⟩ := agk_ok F h2
  refine ⟨?_, h4⟩
  show (bif sameR v (cred P tm hp e) then cagree P tm e v n hs else false) = true
  have : sameR v (cred P tm hp e) = true := by
   cases hr : pred P pe e hp with
   | no w => rw [hr] at h1; cases h1
   | ok y =>
    have : RK (cred P tm hp e) (fun z => z = y) := pred_ok F (by rw [hr]; rfl)
    rw [hr] at h1
    cases hc : cred P tm hp e with
    | no w => rw [hc] at this; exact this.elim
    | ok z => rw [hc] at this; have : z = y := this; rw [this]; exact h1
  rw [this, h3]; rfl
theorem EK_val {r : OR} {k : Value → Hp → Nat → Prop} (h : EK r k) : ∃ v h' nx', r = .val v h' nx' ∧ k v h' nx' := by
 unfold EK at h
 split at h
 ·exact ⟨_, _, _, rfl, h⟩
 ·exact h.elim
theorem Ov_round {d : Option Nat} {c : Nat} {e : CE} {is : List CI} {tm : Tm} {h h1 : Hp} {nx nx1 : Nat} {K : KS'} {l : Nat} {args : List Value} (hce : ceff P tm h nx e = .round l args h1 nx1)
  (hc : Yv P orc s l args h1 nx1 (fun v h nx => Ov P orc s is (putT tm d v) h nx K)) : Ov P orc s (⟨none, d, c, .eff e⟩ :: is) tm h nx K := by
 obtain ⟨n, hn⟩ := hc
 obtain ⟨m, h2⟩ := SatC.unif (k := fun m v h nx => Sat s (cO P (ccallA P orc (cexA P orc m)) (roundA (exA P orc m)) is (putT tm d v) h nx) (fun _ tm h nx => K tm h nx))
  (fun n m v h nx hnm hk => hk.up (cO_mono (callLe hnm) (roundLe hnm) _ _ _ _)) hn
 refine ⟨max n m, ?_⟩
 show Sat s (orDone _ _ (cO P (ccallA P orc (cexA P orc (max n m))) (roundA (exA P orc (max n m))) is) d tm (ceff P tm h nx e)) _
 rw [hce]
 show Sat s (crThen (roundA (exA P orc (max n m)) l args h1 nx1) _) _
 exact SatC.then ((h2.up (roundLe (Nat.le_max_left n m) _ _ _ _)).mono fun v h nx hk => hk.up (cO_mono (callLe (Nat.le_max_right n m)) (roundLe (Nat.le_max_right n m)) _ _ _ _))
theorem Dv_round {d : Option Nat} {c : Nat} {e : CE} {is : List CI} {tm : Tm} {h h1 : Hp} {nx nx1 : Nat} {b : Hp} {hs : List Hp} {K : KS'} {l : Nat} {args : List Value} (hce : ceff P tm h nx e = .round l args h1 nx1)
  (hc : Yv P orc true l args h1 nx1 (fun v h nx' => nx ≤ nx' ∧ Dv P orc s is (putT tm d v) h nx' h (b :: hs) K)) : Dv P orc s (⟨none, d, c, .eff e⟩ :: is) tm h nx b hs K := by
 obtain ⟨n, hn⟩ := hc
 obtain ⟨v, h', nx', he⟩ := hn.2 rfl
 rw [he] at hn
 obtain ⟨hle, m, hm⟩ := satC_ok.1 hn
 refine ⟨max n m, ?_⟩
 show Sat s (cD4 _ d tm nx b hs (crOf (ccallA P orc (cexA P orc (max n m))) (roundA (exA P orc (max n m))) (ceff P tm h nx e))) _
 rw [hce]
 show Sat s (cD4 _ d tm nx b hs (roundA (exA P orc (max n m)) l args h1 nx1)) _
 have := roundLe (P := P) (orc := orc) (Nat.le_max_left n m) l args h1 nx1
 rw [he] at this
 rw [this.ok_eq]
 show Sat s (bif Nat.ble nx nx' then _ else _) _
 rw [show Nat.ble nx nx' = true by simpa using hle]
 exact hm.up (cD_mono (callLe (Nat.le_max_right n m)) (roundLe (Nat.le_max_right n m)) _ _ _ _ _ _)
theorem Yv.mono {l : Nat} {args : List Value} {h : Hp} {nx : Nat} {K K' : KC'} (he : Yv P orc s l args h nx K) (hk : ∀ v h nx, K v h nx → K' v h nx) : Yv P orc s l args h nx K' := by
 obtain ⟨n, hn⟩ := he; exact ⟨n, hn.mono hk⟩
theorem Ov_cvk {d : Option Nat} {c : Nat} {e : CE} {is : List CI} {tm : Tm} {h : Hp} {nx : Nat} {K : KS'} {r : OR} {k : Value → Hp → Nat → Prop} (hce : ceff P tm h nx e = r) (hc : CVK P orc s r k) (hk : ∀ v h nx, k v h nx → Ov P orc s is (putT tm d v) h nx K) : Ov P orc s (⟨none, d, c, .eff e⟩ :: is) tm h nx K := by
 unfold CVK at hc
 split at hc
 ·exact Ov_call' hce (hc.mono hk)
 ·exact Ov_round hce (hc.mono hk)
 ·exact hc.elim
theorem Dv_cvk {d : Option Nat} {c : Nat} {e : CE} {is : List CI} {tm : Tm} {h : Hp} {nx : Nat} {b : Hp} {hs : List Hp} {K : KS'} {r : OR} {k : Value → Hp → Nat → Prop} (hce : ceff P tm h nx e = r) (hc : CVK P orc true r k) (hk : ∀ v h nx', k v h nx' → nx ≤ nx' ∧ Dv P orc s is (putT tm d v) h nx' h (b :: hs) K) : Dv P orc s (⟨none, d, c, .eff e⟩ :: is) tm h nx b hs K := by
 unfold CVK at hc
 split at hc
 ·exact Dv_call' hce (hc.mono hk)
 ·exact Dv_round hce (hc.mono hk)
 ·exact hc.elim
theorem Ov_mup {d : Option Nat} {c kt : Nat} {m k x : Co} {is : List CI} {tm : Tm} {h : Hp} {nx : Nat} {K : KS'} (hk : RK (cMup P kt h (cev tm m) (cev tm k) (cev tm x)) fun h => Ov P orc s is (putT tm d undefV) h nx K) : Ov P orc s (⟨none, d, c, .eff (.mup kt m k x)⟩ :: is) tm h nx K := by
 have he : ceff P tm h nx (.mup kt m k x) = uOf nx (cMup P kt h (cev tm m) (cev tm k) (cev tm x)) := rfl
 cases hc : cMup P kt h (cev tm m) (cev tm k) (cev tm x) with
 | no w => rw [hc] at hk; exact hk.elim
 | ok h' => rw [hc] at hk he; exact (Ov_eff he).2 hk
theorem fE_ok {d : Option Nat} {c : Nat} {e : CE} {pe : PE} {tm : Tm} {is : List CI} {h : Hp} {nx : Nat} {k : PE → Hp → Nat → Prop} {K : KS'} (F : Fits pe tm) (hw : fE P orc s d e pe h nx k)
  (hk : ∀ pe tm h nx, Fits pe tm → k pe h nx → Ov P orc s is tm h nx K) : Ov P orc s (⟨none, d, c, .eff e⟩ :: is) tm h nx K := by
 cases e with
 | st n a x =>
  have hw := pev_ok F (pev_ok F hw)
  rw [Ov_st]
  exact RK_mono hw fun h' hh => hk _ _ _ _ (F.put d (some undefV)) hh
 | mup kt m key x =>
  have hw := pev_ok F hw
  have hw := pev_ok F hw
  have hw := pev_ok F hw
  exact Ov_mup (RK_mono hw fun h' hh => hk _ _ _ _ (F.put d (some undefV)) hh)
 | rng x =>
  have hw := pev_ok F hw
  obtain ⟨v, h', nx', hr, hh⟩ := EK_val hw
  have hr : ceff P tm h nx (.rng x) = .val v h' nx' := hr
  exact (Ov_eff hr).2 (hk _ _ _ _ (F.put d (some v)) hh)
 | nxt x =>
  have hw := pev_ok F hw
  obtain ⟨it, r, since, st, ck, seen, es, h1, h2, h3, h4, h5, h6, h7⟩ := hw
  exact Ov_nxt h1 h2 h3 h4 h5 (fun e => hk _ _ _ _ (F.put d (some _)) (h6 e)) fun e he => ⟨(h7 e he).1, hk _ _ _ _ (F.put d (some _)) (h7 e he).2⟩
 | call f args =>
  have hw := pevs_ok F hw
  exact Ov_call (hw.mono fun v h nx hh => hk _ _ _ _ (F.put d (some v)) hh)
 | callv f args =>
  have hw := pevs_ok F (pev_ok F hw)
  exact Ov_cvk (e := .callv f args) rfl hw fun v h nx hh => hk _ _ _ _ (F.put d (some v)) hh
 | app z x y =>
  have hw := pev_ok F (pev_ok F hw)
  obtain ⟨v, h', nx', hr, hh⟩ := EK_val hw
  have hr : ceff P tm h nx (.app z x y) = .val v h' nx' := hr
  exact (Ov_eff hr).2 (hk _ _ _ _ (F.put d (some v)) hh)
 | gen o =>
  cases o with
  | call c =>
   have hw : (match cos c.args.toList with | some aS0 => _ | none => False) := hw
   cases hc : cos c.args.toList with
   | none => rw [hc] at hw; exact hw.elim
   | some aS0 =>
    rw [hc] at hw
    have hw := pevs_ok F hw
    cases hcc : c.callee with
    | value f => rw [hcc] at hw; exact hw.elim
    | builtin b =>
     rw [hcc] at hw
     obtain ⟨v, h', nx', hr, hh⟩ := EK_val hw
     have he : ceff P tm h nx (.gen (.call c)) = .val v h' nx' := by
      show oCall P tm h nx c = _
      unfold oCall
      rw [cos_ev2 hc, hcc]
      exact hr
     exact (Ov_eff he).2 (hk _ _ _ _ (F.put d (some v)) hh)
    | invoke r m =>
     rw [hcc] at hw
     have hw : (match co r with | some r => _ | none => False) := hw
     cases hr : co r with
     | none => rw [hr] at hw; exact hw.elim
     | some r' =>
      rw [hr] at hw
      have hw := pev_ok F hw
      refine Ov_cvk (e := .gen (.call c)) ?_ hw fun v h nx hh => hk _ _ _ _ (F.put d (some v)) hh
      show oCall P tm h nx c = _
      unfold oCall
      rw [cos_ev2 hc, hcc]
      show orB (ev tm r) _ = _
      rw [co_ev2 hr]
      rfl
  | convert sx dx x =>
   have hw : (match co x with | some x => _ | none => False) := hw
   cases hc : co x with
   | none => rw [hc] at hw; exact hw.elim
   | some y =>
    rw [hc] at hw
    obtain ⟨v, h', nx', hr, hh⟩ := EK_val (pev_ok F hw)
    have he : ceff P tm h nx (.gen (.convert sx dx x)) = .val v h' nx' := by
     show orB (ev tm x) _ = _
     rw [co_ev2 hc]; exact hr
    exact (Ov_eff he).2 (hk _ _ _ _ (F.put d (some v)) hh)
  | _ => exact hw.elim
theorem IF_ok {v : Value} {a b : Prop} (h : IF v a b) : (v = .bool true ∧ a) ∨ (v = .bool false ∧ b) := by
 unfold IF at h
 split at h
 ·split at h
  ·exact .inl ⟨rfl, h⟩
  ·exact .inr ⟨rfl, h⟩
 ·exact h.elim
theorem pick_ok {pe : PE} {c a b : Co} {k : Value → Prop} (h : RK (pev pe c) fun c => RK (pev pe a) fun a => RK (pev pe b) fun b => IF c (k a) (k b)) : RK (ppur P pe (.pick c a b)) k := by
 show RK (R.bind (pev pe c) fun c => R.bind (pev pe a) fun a => R.bind (pev pe b) fun b => vPick c a b) k
 rw [RK_bind]
 refine RK_mono h fun c h => ?_
 rw [RK_bind]
 refine RK_mono h fun a h => ?_
 rw [RK_bind]
 refine RK_mono h fun b h => ?_
 rcases IF_ok h with ⟨rfl, h⟩ | ⟨rfl, h⟩
 ·exact h
 ·exact h
theorem fI_ok {d : Option Nat} {c : Nat} {i : CK} {pe : PE} {tm : Tm} {is : List CI} {h : Hp} {nx : Nat} {k : PE → Hp → Nat → Prop} {K : KS'} (F : Fits pe tm) (hw : fI P orc s d i pe h nx k)
  (hk : ∀ pe tm h nx, Fits pe tm → k pe h nx → Ov P orc s is tm h nx K) : Ov P orc s (⟨none, d, c, i⟩ :: is) tm h nx K := by
 cases i with
 | pur e =>
  rw [Ov_pur]
  have : RK (ppur P pe e) fun v => k (pput pe d (some v)) h nx := by
   cases e <;> first | exact hw | exact pick_ok hw
  exact RK_mono (ppur_ok F this) fun v hv => hk _ _ _ _ (F.put d (some v)) hv
 | alc e =>
  rw [Ov_alc]
  exact RK_mono (palc_ok F hw) fun v hv => hk _ _ _ _ (F.put d (some _)) hv
 | red e =>
  rw [Ov_red]
  exact RK_mono (pred_ok F hw) fun v hv => hk _ _ _ _ (F.put d (some v)) hv
 | eff e => exact fE_ok F hw hk
theorem fO_ok : ∀ {l : List CI} {pe : PE} {tm : Tm} {h : Hp} {nx : Nat} {k : PE → Hp → Nat → Prop}, Fits pe tm → fO P orc s l pe h nx k → Ov P orc s l tm h nx (fun tm h nx => ∃ pe, Fits pe tm ∧ k pe h nx)
 | [], pe, tm, h, nx, k, F, hw => Ov_nil.2 ⟨pe, F, hw⟩
 | ⟨none, d, c, i⟩ :: is, pe, tm, h, nx, k, F, hw => fI_ok (k := fun pe h nx => fO P orc s is pe h nx k) F hw fun pe tm h nx F hw => fO_ok F hw
 | ⟨some (t, w), d, c, i⟩ :: is, pe, tm, h, nx, k, F, hw => by
  have hw : fG (some (t, w)) pe _ _ := hw
  rw [Ov_g]
  simp only [fG] at hw
  cases hp : pget pe t with
  | none => rw [hp] at hw; exact hw.elim
  | some o =>
   rw [hp] at hw
   have ht := F t o hp
   cases o with
   | none =>
    rw [ht]
    rw [if_neg (by show ¬ (boolIs w undefV = true); simp [boolIs, undefV])]
    exact fO_ok (F.put d none) hw
   | some v =>
    have ht : tget tm t = v := ht
    rcases IF_ok hw with ⟨rfl, hw⟩ | ⟨rfl, hw⟩
    ·rw [ht]
     have F' := F.lit ht
     cases w with
     | true => rw [if_pos (by simp [boolIs])]; exact fI_ok (k := fun pe h nx => fO P orc s is pe h nx k) F' hw fun pe tm h nx F hw => fO_ok F hw
     | false => rw [if_neg (by simp [boolIs])]; exact fO_ok (F'.put d none) hw
    ·rw [ht]
     have F' := F.lit ht
     cases w with
     | true => rw [if_neg (by simp [boolIs])]; exact fO_ok (F'.put d none) hw
     | false => rw [if_pos (by simp [boolIs])]; exact fI_ok (k := fun pe h nx => fO P orc s is pe h nx k) F' hw fun pe tm h nx F hw => fO_ok F hw
theorem Dv_mup {d : Option Nat} {c kt : Nat} {m k x : Co} {is : List CI} {tm : Tm} {h : Hp} {nx : Nat} {b : Hp} {hs : List Hp} {K : KS'} (hk : RK (cMup P kt h (cev tm m) (cev tm k) (cev tm x)) fun h => Dv P orc s is (putT tm d undefV) h nx h (b :: hs) K) : Dv P orc s (⟨none, d, c, .eff (.mup kt m k x)⟩ :: is) tm h nx b hs K := by
 have he : ceff P tm h nx (.mup kt m k x) = uOf nx (cMup P kt h (cev tm m) (cev tm k) (cev tm x)) := rfl
 cases hc : cMup P kt h (cev tm m) (cev tm k) (cev tm x) with
 | no w => rw [hc] at hk; exact hk.elim
 | ok h' => rw [hc] at hk he; exact Dv_eff he (Nat.le_refl _) hk
theorem Dv.mono' {l : List CI} {tm : Tm} {h : Hp} {nx : Nat} {b : Hp} {hs : List Hp} {K K' : KS'} (he : Dv P orc s l tm h nx b hs K) (hk : ∀ tm h nx, K tm h nx → K' tm h nx) : Dv P orc s l tm h nx b hs K' := by
 obtain ⟨n, hn⟩ := he; exact ⟨n, hn.mono fun _ => hk⟩
theorem fED_ok {d : Option Nat} {c : Nat} {e : CE} {pe : PE} {tm : Tm} {is : List CI} {h : Hp} {nx : Nat} {b : Hp} {hs : List Hp} {k : PE → Hp → Nat → Hp → List Hp → Prop} {K : KS'} (F : Fits pe tm) (hw : fED P orc d e pe h nx b hs k)
  (hk : ∀ pe tm h nx b hs, Fits pe tm → k pe h nx b hs → Dv P orc s is tm h nx b hs K) : Dv P orc s (⟨none, d, c, .eff e⟩ :: is) tm h nx b hs K := by
 cases e with
 | st n a x =>
  have hw := pev_ok F (pev_ok F hw)
  rw [Dv_st]
  exact RK_mono hw fun h' hh => hk _ _ _ _ _ _ (F.put d (some undefV)) hh
 | mup kt m key x =>
  have hw := pev_ok F hw
  have hw := pev_ok F hw
  have hw := pev_ok F hw
  exact Dv_mup (RK_mono hw fun h' hh => hk _ _ _ _ _ _ (F.put d (some undefV)) hh)
 | rng x => exact hw.elim
 | nxt x => exact hw.elim
 | call f args =>
  have hw := pevs_ok F hw
  exact Dv_call (hw.mono fun v h nx hh => ⟨hh.1, hk _ _ _ _ _ _ (F.put d (some v)) hh.2⟩)
 | callv f args =>
  have hw := pevs_ok F (pev_ok F hw)
  exact Dv_cvk (e := .callv f args) rfl hw fun v h nx hh => ⟨hh.1, hk _ _ _ _ _ _ (F.put d (some v)) hh.2⟩
 | app z x y =>
  have hw := pev_ok F (pev_ok F hw)
  obtain ⟨v, h', nx', hr, hle, hh⟩ := EK_val hw
  have hr : ceff P tm h nx (.app z x y) = .val v h' nx' := hr
  exact Dv_eff hr hle (hk _ _ _ _ _ _ (F.put d (some v)) hh)
 | gen o =>
  cases o with
  | call c' =>
   have hw : (match cos c'.args.toList with | some aS0 => _ | none => False) := hw
   cases hc : cos c'.args.toList with
   | none => rw [hc] at hw; exact hw.elim
   | some aS0 =>
    rw [hc] at hw
    have hw := pevs_ok F hw
    cases hcc : c'.callee with
    | value f => rw [hcc] at hw; exact hw.elim
    | builtin b' =>
     rw [hcc] at hw
     obtain ⟨v, h', nx', hr, hle, hh⟩ := EK_val hw
     have he : ceff P tm h nx (.gen (.call c')) = .val v h' nx' := by
      show oCall P tm h nx c' = _
      unfold oCall
      rw [cos_ev2 hc, hcc]
      exact hr
     exact Dv_eff he hle (hk _ _ _ _ _ _ (F.put d (some v)) hh)
    | invoke r m =>
     rw [hcc] at hw
     have hw : (match co r with | some r => _ | none => False) := hw
     cases hr : co r with
     | none => rw [hr] at hw; exact hw.elim
     | some r' =>
      rw [hr] at hw
      have hw := pev_ok F hw
      refine Dv_cvk (e := .gen (.call c')) ?_ hw fun v h nx hh => ⟨hh.1, hk _ _ _ _ _ _ (F.put d (some v)) hh.2⟩
      show oCall P tm h nx c' = _
      unfold oCall
      rw [cos_ev2 hc, hcc]
      show orB (ev tm r) _ = _
      rw [co_ev2 hr]
      rfl
  | _ => exact hw.elim
theorem fID_ok {d : Option Nat} {c : Nat} {i : CK} {pe : PE} {tm : Tm} {is : List CI} {h : Hp} {nx : Nat} {b : Hp} {hs : List Hp} {k : PE → Hp → Nat → Hp → List Hp → Prop} {K : KS'} (F : Fits pe tm) (hw : fID P orc d c i pe h nx b hs k)
  (hk : ∀ pe tm h nx b hs, Fits pe tm → k pe h nx b hs → Dv P orc s is tm h nx b hs K) : Dv P orc s (⟨none, d, c, i⟩ :: is) tm h nx b hs K := by
 cases i with
 | pur e =>
  rw [Dv_pur]
  have : RK (ppur P pe e) fun v => k (pput pe d (some v)) h nx b hs := by
   cases e <;> first | exact hw | exact pick_ok hw
  exact RK_mono (ppur_ok F this) fun v hv => hk _ _ _ _ _ _ (F.put d (some v)) hv
 | alc e =>
  rw [Dv_alc]
  exact RK_mono (palc_ok F hw) fun v hv => hk _ _ _ _ _ _ (F.put d (some _)) hv
 | red e =>
  rw [Dv_red]
  exact RK_mono (pred_ok F hw) fun v hv => by
   obtain ⟨h1, h2⟩ := agk_ok F hv
   exact ⟨h1, hk _ _ _ _ _ _ (F.put d (some v)) h2⟩
 | eff e => exact fED_ok F hw hk
theorem fD_ok : ∀ {l : List CI} {pe : PE} {tm : Tm} {h : Hp} {nx : Nat} {b : Hp} {hs : List Hp} {k : PE → Hp → Nat → Prop}, Fits pe tm → fD P orc l pe h nx b hs k → Dv P orc s l tm h nx b hs (fun tm h nx => ∃ pe, Fits pe tm ∧ k pe h nx)
 | [], pe, tm, h, nx, b, hs, k, F, hw => Dv_nil.2 ⟨pe, F, hw⟩
 | ⟨none, d, c, i⟩ :: is, pe, tm, h, nx, b, hs, k, F, hw => fID_ok (k := fun pe h nx b hs => fD P orc is pe h nx b hs k) F hw fun pe tm h nx b hs F hw => fD_ok F hw
 | ⟨some (t, w), d, c, i⟩ :: is, pe, tm, h, nx, b, hs, k, F, hw => by
  have hw : fG (some (t, w)) pe _ _ := hw
  rw [Dv_g]
  have skip : ∀ pe', Fits pe' tm → Bool.rec (motive := fun _ => Prop) (fD P orc is (pput pe' d none) h nx b hs k) (fD P orc is (pput pe' d none) h nx h (b :: hs) k) (isEffC i) →
    (if isEffC i = true then Dv P orc s is (putT tm d undefV) h nx h (b :: hs) (fun tm h nx => ∃ pe, Fits pe tm ∧ k pe h nx) else Dv P orc s is (putT tm d undefV) h nx b hs (fun tm h nx => ∃ pe, Fits pe tm ∧ k pe h nx)) := fun pe' F' hx => by
   cases he : isEffC i with
   | true => rw [he] at hx; rw [if_pos rfl]; exact fD_ok (F'.put d none) hx
   | false => rw [he] at hx; rw [if_neg (by simp)]; exact fD_ok (F'.put d none) hx
  simp only [fG] at hw
  cases hp : pget pe t with
  | none => rw [hp] at hw; exact hw.elim
  | some o =>
   rw [hp] at hw
   have ht := F t o hp
   cases o with
   | none =>
    rw [ht]
    rw [if_neg (by show ¬ (boolIs w undefV = true); simp [boolIs, undefV])]
    exact skip _ F hw
   | some v =>
    have ht : tget tm t = v := ht
    rcases IF_ok hw with ⟨rfl, hw⟩ | ⟨rfl, hw⟩
    ·rw [ht]
     have F' := F.lit ht
     cases w with
     | true => rw [if_pos (by simp [boolIs])]; exact fID_ok (k := fun pe h nx b hs => fD P orc is pe h nx b hs k) F' hw fun pe tm h nx b hs F hw => fD_ok F hw
     | false => rw [if_neg (by simp [boolIs])]; exact skip _ F' hw
    ·rw [ht]
     have F' := F.lit ht
     cases w with
     | true => rw [if_neg (by simp [boolIs])]; exact skip _ F' hw
     | false => rw [if_pos (by simp [boolIs])]; exact fID_ok (k := fun pe h nx b hs => fD P orc is pe h nx b hs k) F' hw fun pe tm h nx b hs F hw => fD_ok F hw
theorem Fits.vs {tm : Tm} {pe : PE} (F : Fits pe tm) : ∀ {L : List Nat} {k : List Value → Prop}, RL L pe k → k (L.map (tget tm))
 | [], k, h => h
 | n :: L, k, h => by
  have h : (match pget pe n with | some (some v) => RL L pe fun vs => k (v :: vs) | some none => RL L pe fun vs => k (undefV :: vs) | none => False) := h
  cases hp : pget pe n with
  | none => rw [hp] at h; exact h.elim
  | some o =>
   rw [hp] at h
   have e := F n o hp
   rw [List.map_cons, e]
   cases o with
   | none => exact F.vs h
   | some v => exact F.vs h
theorem nv_get (l : List Value) (i : Nat) : nv l i = l.getD i undefV := by
 induction l generalizing i with
 | nil => rfl
 | cons x l ih => cases i with
  | zero => rfl
  | succ i => simpa [nv] using ih i
theorem fits_of {tm : Tm} : ∀ (L M : List Nat), Fits (peOf L ((M ++ L).map (tget tm)) M.length) tm
 | [], M => fun n v h => by cases h
 | a :: L, M => by
  intro n v hn
  have hn : pget ((a, some (nv ((M ++ a :: L).map (tget tm)) M.length)) :: peOf L ((M ++ a :: L).map (tget tm)) (M.length + 1)) n = some v := hn
  have hv : nv ((M ++ a :: L).map (tget tm)) M.length = tget tm a := by
   rw [nv_get]; simp [List.getD]
  rw [pget_cons] at hn
  by_cases e : a = n
  ·rw [if_pos e] at hn
   cases hn
   rw [hv, ← e]; rfl
  ·rw [if_neg e] at hn
   have := fits_of (tm := tm) L (M ++ [a])
   simp only [List.append_assoc, List.cons_append, List.nil_append, List.length_append, List.length_cons, List.length_nil, Nat.zero_add] at this
   exact this n v hn
def KX (N : KN) (E : List (Nat × KN)) (R : KN) (x : Ex) : KS' := fun tm h nx => ∃ pe, Fits pe tm ∧ match x with
 | .normal => N pe h nx
 | .exit i => exk E i pe h nx
 | .ret => R pe h nx
theorem kOut_ok {tm : Tm} {pe : PE} (F : Fits pe tm) {L : List Nat} {k : KVl} {h : Hp} {nx : Nat} (hk : kOut L k pe h nx) : k (L.map (tget tm)) h nx := F.vs (k := fun vs => k vs h nx) hk
theorem exk_out {L : List Nat} {i : Nat} {tm : Tm} {pe : PE} (F : Fits pe tm) {h : Hp} {nx : Nat} : ∀ {E : List (Nat × KVl)}, exk (xOut L E) i pe h nx → exk E i (L.map (tget tm)) h nx
 | [], hh => hh
 | p :: E, hh => by
  have hh : (bif Nat.beq p.1 i then kOut L p.2 else exk (xOut L E) i) pe h nx := hh
  show (bif Nat.beq p.1 i then p.2 else exk E i) _ h nx
  cases hb : Nat.beq p.1 i with
  | true => rw [hb] at hh; exact kOut_ok F hh
  | false => rw [hb] at hh; exact exk_out F hh
theorem exk_in {L : List Nat} {c : CC} {i : Nat} {vs : List Value} {h : Hp} {nx : Nat} : ∀ {E : List (Nat × KN)}, exk (xIn L c E) i vs h nx → exk E i (peOf L vs 0) h nx ∨ ∃ p ∈ E, p.1 = i ∧ hasX i c = false
 | [], hh => .inl hh
 | p :: E, hh => by
  have hh : exk (bif hasX p.1 c then (p.1, kIn L p.2) :: xIn L c E else xIn L c E) i vs h nx := hh
  show (bif Nat.beq p.1 i then p.2 else exk E i) _ h nx ∨ _
  cases hx : hasX p.1 c with
  | true =>
   rw [hx] at hh
   have hh : (bif Nat.beq p.1 i then kIn L p.2 else exk (xIn L c E) i) vs h nx := hh
   cases hb : Nat.beq p.1 i with
   | true => rw [hb] at hh; exact .inl hh
   | false =>
    rw [hb] at hh
    rcases exk_in hh with h1 | ⟨q, hq, h2⟩
    ·exact .inl h1
    ·exact .inr ⟨q, List.mem_cons_of_mem _ hq, h2⟩
  | false =>
   rw [hx] at hh
   cases hb : Nat.beq p.1 i with
   | true =>
    have e := Nat.eq_of_beq_eq_true hb
    exact .inr ⟨p, List.mem_cons_self .., e, by rw [← e]; exact hx⟩
   | false =>
    rcases exk_in hh with h1 | ⟨q, hq, h2⟩
    ·exact .inl h1
    ·exact .inr ⟨q, List.mem_cons_of_mem _ hq, h2⟩
def Took (c : CC) (x : Ex) : Prop := match x with
 | .normal => True
 | .exit i => hasX i c = true
 | .ret => hasR c = true
theorem Ev.and {c : CC} {tm : Tm} {h : Hp} {nx : Nat} {K : KO'} (hc : Ev P orc s c tm h nx (fun x tm h nx => K x tm h nx ∧ Took c x)) : Ev P orc s c tm h nx K := hc.mono fun _ _ _ _ h => h.1
theorem fC_ok {LF : List (List Nat)} : ∀ (c : CC) (i : Nat) (pe : PE) (tm : Tm) (h : Hp) (nx : Nat) (N : KN) (E : List (Nat × KN)) (R : KN), Fits pe tm → fC P orc s LF c i pe h nx N E R → Ev P orc s c tm h nx (fun x tm h nx => KX N E R x tm h nx ∧ Took c x) := by
 intro c
 induction c with
 | skip => intro i pe tm h nx N E R F hw; exact Ev.skip ⟨⟨pe, F, hw⟩, trivial⟩
 | exit id => intro i pe tm h nx N E R F hw; exact Ev.exit ⟨⟨pe, F, hw⟩, Nat.beq_refl id⟩
 | ret => intro i pe tm h nx N E R F hw; exact Ev.ret ⟨⟨pe, F, hw⟩, rfl⟩
 | scope c ih => intro i pe tm h nx N E R F hw; exact Ev.scope ((ih i pe tm h nx N E R F hw).mono fun x tm h nx hx => ⟨hx.1, by cases x <;> exact hx.2⟩)
 | regO l => intro i pe tm h nx N E R F hw; exact Ev.regO ((fO_ok F hw).mono fun tm h nx hx => ⟨hx, trivial⟩)
 | regD l => intro i pe tm h nx N E R F hw; exact Ev.regD (Dv.mono' (fD_ok F hw) fun tm h nx hx => ⟨hx, trivial⟩)
 | gen c => intro i pe tm h nx N E R F hw; exact hw.elim
 | seq a b iha ihb =>
  intro i pe tm h nx N E R F hw
  refine Ev.seq ((iha i pe tm h nx _ E R F hw).mono fun x tm h nx hx => ?_)
  cases x with
  | normal =>
   obtain ⟨⟨pe, F, hk⟩, _⟩ := hx
   refine (ihb _ pe tm h nx N E R F hk).mono fun x tm h nx hx => ⟨hx.1, ?_⟩
   cases x with
   | normal => trivial
   | exit j => show (hasX j a || hasX j b) = true; rw [show hasX j b = true from hx.2, Bool.or_true]
   | ret => show (hasR a || hasR b) = true; rw [show hasR b = true from hx.2, Bool.or_true]
  | exit j => exact ⟨hx.1, by show (hasX j a || hasX j b) = true; rw [show hasX j a = true from hx.2, Bool.true_or]⟩
  | ret => exact ⟨hx.1, by show (hasR a || hasR b) = true; rw [show hasR a = true from hx.2, Bool.true_or]⟩
 | block id c ih =>
  intro i pe tm h nx N E R F hw
  refine Ev.block ((ih i pe tm h nx N ((id, N) :: E) R F hw).mono fun x tm h nx hx => ?_)
  cases x with
  | normal => exact hx
  | ret => exact hx
  | exit j =>
   obtain ⟨⟨pe, F, hk⟩, ht⟩ := hx
   have hk : (bif Nat.beq id j then N else exk E j) pe h nx := hk
   show if j = id then _ else _
   by_cases e : j = id
   ·rw [if_pos e]
    rw [e, Nat.beq_refl] at hk
    exact ⟨⟨pe, F, hk⟩, trivial⟩
   ·rw [if_neg e]
    rw [show Nat.beq id j = false by
     cases hb : Nat.beq id j with
     | true => exact absurd (Nat.eq_of_beq_eq_true hb).symm e
     | false => rfl] at hk
    exact ⟨⟨pe, F, hk⟩, ht⟩
 | cond x a b iha ihb =>
  intro i pe tm h nx N E R F hw
  have ua : ∀ {x' : Ex} {tm : Tm} {h : Hp} {nx : Nat}, KX N E R x' tm h nx ∧ Took a x' → KX N E R x' tm h nx ∧ Took (.cond x a b) x' := fun {x'} {_ _ _} hh => ⟨hh.1, by
   cases x' with
   | normal => trivial
   | exit j => show (hasX j a || hasX j b) = true; rw [show hasX j a = true from hh.2, Bool.true_or]
   | ret => show (hasR a || hasR b) = true; rw [show hasR a = true from hh.2, Bool.true_or]⟩
  have ub : ∀ {x' : Ex} {tm : Tm} {h : Hp} {nx : Nat}, KX N E R x' tm h nx ∧ Took b x' → KX N E R x' tm h nx ∧ Took (.cond x a b) x' := fun {x'} {_ _ _} hh => ⟨hh.1, by
   cases x' with
   | normal => trivial
   | exit j => show (hasX j a || hasX j b) = true; rw [show hasX j b = true from hh.2, Bool.or_true]
   | ret => show (hasR a || hasR b) = true; rw [show hasR b = true from hh.2, Bool.or_true]⟩
  cases x with
  | v v =>
   have hw : IF v _ _ := hw
   rcases IF_ok hw with ⟨rfl, hw⟩ | ⟨rfl, hw⟩
   ·exact Ev.cond true rfl (fun _ => (iha _ _ _ _ _ _ _ _ F hw).mono fun _ _ _ _ => ua) (by simp)
   ·exact Ev.cond false rfl (by simp) (fun _ => (ihb _ _ _ _ _ _ _ _ F hw).mono fun _ _ _ _ => ub)
  | t n =>
   have hw : (match pget pe n with | some (some v) => _ | _ => False) := hw
   cases hp : pget pe n with
   | none => rw [hp] at hw; exact hw.elim
   | some o =>
    rw [hp] at hw
    cases o with
    | none => exact hw.elim
    | some v =>
     have ht : tget tm n = v := F n _ hp
     rcases IF_ok hw with ⟨rfl, hw⟩ | ⟨rfl, hw⟩
     ·exact Ev.cond true ht (fun _ => (iha _ _ _ _ _ _ _ _ (F.lit ht) hw).mono fun _ _ _ _ => ua) (by simp)
     ·exact Ev.cond false ht (by simp) (fun _ => (ihb _ _ _ _ _ _ _ _ (F.lit ht) hw).mono fun _ _ _ _ => ub)
 | loop c ih =>
  intro i pe tm h nx N E R F hw
  have hw : RL (lnth LF i) pe _ := hw
  obtain ⟨J, m, hJ, hB⟩ := F.vs hw
  refine Ev.loop (fun m tm h nx => J m ((lnth LF i).map (tget tm)) h nx) ?_ m tm h nx hJ
  intro m tm h nx hj
  have hb := hB m _ h nx hj
  have F' : Fits (peOf (lnth LF i) ((lnth LF i).map (tget tm)) 0) tm := fits_of (lnth LF i) []
  refine (ih _ _ tm h nx _ _ _ F' hb).mono fun x tm h nx hx => ?_
  obtain ⟨⟨pe, F, hk⟩, ht⟩ := hx
  cases x with
  | normal => exact kOut_ok F hk
  | exit j =>
   have ht : hasX j c = true := ht
   rcases exk_in (exk_out F hk) with h1 | ⟨p, _, rfl, h2⟩
   ·exact ⟨⟨_, fits_of (lnth LF i) [], h1⟩, ht⟩
   ·rw [h2] at ht; cases ht
  | ret =>
   have ht : hasR c = true := ht
   have hk := kOut_ok F hk
   unfold rIn at hk
   rw [ht] at hk
   exact ⟨⟨_, fits_of (lnth LF i) [], hk⟩, ht⟩
theorem pres_ok {pe : PE} {tm : Tm} (F : Fits pe tm) {h : Hp} : ∀ {rs : List ResultVar} {k : List Value → Prop}, pres P pe h rs k → RK (resVs P tm h rs) k
 | [], k, hw => hw
 | .tmp t :: rs, k, hw => by
  have hw : RK (pev pe (.t t)) _ := hw
  have hw := pev_ok F hw
  show RK (R.bind (resVs P tm h rs) _) k
  rw [RK_bind]
  exact pres_ok F hw
 | .cell a t :: rs, k, hw => by
  have hw : RK (pev pe (.t a)) _ := hw
  have hw := pev_ok F hw
  show RK (R.bind (addrR (tget tm a) fun a => loadA P h t a) _) k
  rw [RK_bind]
  refine RK_mono hw fun v hv => ?_
  rw [RK_bind]
  exact pres_ok F hv
theorem fits_args : ∀ (l : List Value) (i : Nat) (pe : PE) (tm : Tm), Fits pe tm → (∀ n, i ≤ n → pget pe n = none) → Fits (peArgs l i ++ pe) (setArgs l i tm)
 | [], i, pe, tm, F, _ => F
 | v :: l, i, pe, tm, F, hn => by
  have F1 : Fits ((i, some v) :: pe) (tset tm i v) := F.put (some i) (some v)
  have h2 := fits_args l (i + 1) ((i, some v) :: pe) (tset tm i v) F1 (fun n hn' => by
   rw [pget_cons, if_neg (by show ¬ i = n; omega)]; exact hn n (by omega))
  intro n w hw
  have hw : pget ((i, some v) :: (peArgs l (i + 1) ++ pe)) n = some w := hw
  rw [setArgs_cons]
  refine h2 n w ?_
  rw [pget_cons] at hw
  have key : ∀ (l : List Value) (j : Nat) (q : PE), (∀ n, n < j → pget (peArgs l j ++ q) n = pget q n) := by
   intro l
   induction l with
   | nil => intro j q n hn; rfl
   | cons x l ih =>
    intro j q n hn
    show pget ((j, some x) :: (peArgs l (j + 1) ++ q)) n = _
    rw [pget_cons, if_neg (by show ¬ j = n; omega)]
    exact ih (j + 1) q n (by omega)
  have app : ∀ (l : List Value) (j : Nat) (q q' : PE), (∀ n, j ≤ n → pget q n = pget q' n) → ∀ n, j ≤ n → pget (peArgs l j ++ q) n = pget (peArgs l j ++ q') n := by
   intro l
   induction l with
   | nil => intro j q q' h n hn; exact h n hn
   | cons x l ih =>
    intro j q q' h n hn
    show pget ((j, some x) :: (peArgs l (j + 1) ++ q)) n = pget ((j, some x) :: (peArgs l (j + 1) ++ q')) n
    rw [pget_cons, pget_cons]
    by_cases e : j = n
    ·subst e; rw [if_pos rfl, if_pos rfl]
    ·rw [if_neg e, if_neg e]
     exact ih (j + 1) q q' (fun n hn => h n (by omega)) n (by omega)
  by_cases e : i = n
  ·subst e
   rw [if_pos rfl] at hw
   rw [key l (i + 1) _ i (by omega), pget_cons, if_pos rfl]
   exact hw
  ·rw [if_neg e] at hw
   rcases Nat.lt_or_ge n i with h1 | h1
   ·rw [key l (i + 1) pe n (by omega)] at hw
    rw [key l (i + 1) _ n (by omega), pget_cons, if_neg e]
    exact hw
   ·rw [← hw]
    exact app l (i + 1) _ _ (fun n hn' => by rw [pget_cons, if_neg (by show ¬ i = n; omega)]) n (by omega)
theorem Cv.byF {f : FuncId} {args : List Value} {h : Hp} {nx : Nat} {K : KC'} (LF : List (List Nat)) (ho : orc f = none) (hw : fF P orc s LF f args h nx K) : Cv P orc s f args h nx K := by
 unfold fF at hw
 cases hc : compAt P f with
 | none => rw [hc] at hw; exact hw.elim
 | some cf =>
  rw [hc] at hw
  refine Cv.enter ho hc ((fC_ok cf.body 0 (peArgs args 0) (setArgs args 0 tm0) h nx _ _ _ ?_ hw).mono fun x tm h nx hx => ?_)
  ·have := fits_args args 0 [] tm0 (fun n v h => by cases h) (fun n _ => rfl)
   rwa [List.append_nil] at this
  ·obtain ⟨⟨pe, F, hk⟩, _⟩ := hx
   cases x with
   | normal => exact pres_ok F hk
   | exit i => exact hk.elim
   | ret => exact pres_ok F hk
end
set_option linter.defProp false
section
variable {P : Program} {orc : Orc} {s : Bool}
theorem IF_b {b : Bool} {p q : Prop} : IF (.bool b) p q ↔ (b = true → p) ∧ (b = false → q) := by
 cases b <;> simp [IF]
theorem AR_ok {b : NB} {h : Hp} {nx : Nat} {k : Value → Hp → Nat → Prop} : AR (.ok b) h nx k ↔ k (nbV nx b) (hset h nx (nbO b)) (nx + 1) := Iff.rfl
theorem EK_v {v : Value} {h : Hp} {nx : Nat} {k : Value → Hp → Nat → Prop} : EK (.val v h nx) k ↔ k v h nx := Iff.rfl
theorem CVK_c {f : FuncId} {l : List Value} {h : Hp} {nx : Nat} {k : Value → Hp → Nat → Prop} : CVK P orc s (.call f l h nx) k ↔ Cv P orc s f l h nx k := Iff.rfl
theorem AGK_0 {f : Hp → R Value} {v : Value} {p : Prop} {hs : List Hp} : AGK f v p 0 hs ↔ p := Iff.rfl
theorem AGK_1 {f : Hp → R Value} {v : Value} {p : Prop} {h : Hp} {hs : List Hp} : AGK f v p 1 (h :: hs) ↔ sameR v (f h) = true ∧ p := Iff.rfl
theorem AGK_2 {f : Hp → R Value} {v : Value} {p : Prop} {h h1 : Hp} {hs : List Hp} : AGK f v p 2 (h :: h1 :: hs) ↔ sameR v (f h) = true ∧ sameR v (f h1) = true ∧ p := Iff.rfl
theorem AGK_3 {f : Hp → R Value} {v : Value} {p : Prop} {h h1 h2 : Hp} {hs : List Hp} : AGK f v p 3 (h :: h1 :: h2 :: hs) ↔ sameR v (f h) = true ∧ sameR v (f h1) = true ∧ sameR v (f h2) = true ∧ p := Iff.rfl
def cellsO {β : Type} (o : Option AObj) (k : List Value → Bool → R β) : R β := match o with
 | some (.cells cs ro) => k cs ro
 | some _ => .no "cells expected"
 | none => .no "no such block"
theorem cellsOf_eq {β : Type} (h : Hp) (b : Nat) (k : List Value → Bool → R β) : cellsOf h b k = cellsO (hget h b) k := by
 unfold cellsOf cellsO
 cases hget h b with
 | none => rfl
 | some o => cases o <;> rfl
theorem cellsO_c {β : Type} (cs : List Value) (ro : Bool) (k : List Value → Bool → R β) : cellsO (some (.cells cs ro)) k = k cs ro := rfl
theorem vLd_p (ag : Option Nat) (h : Hp) (a : Addr) : vLd ag h (.pointer (some a)) = cellsO (hget h a.block) (fun cs _ => loadC ag a.off cs) := cellsOf_eq _ _ _
theorem vFldA_p (off b o : Nat) (sp : Option Nat) : vFldA off (.pointer (some ⟨b, o, sp⟩)) = .ok (.pointer (some ⟨b, o + off, none⟩)) := rfl
theorem vIx_n (k : IxT) (x : Value) (t : IntKind) (n : Nat) : vIx k x (.int t (n : Int)) = oIndexAddr k x n := rfl
theorem vPick_t (a b : Value) : vPick (.bool true) a b = .ok a := rfl
theorem vPick_f (a b : Value) : vPick (.bool false) a b = .ok b := rfl
theorem cSt_eq (h : Hp) (n : Nat) (l : List Value) (a : Addr) : cSt h n l a = if l.length = n then writeA h a.block a.off l else .no "store - size" := by
 unfold cSt
 rw [llen_eq]
 by_cases e : l.length = n
 ·rw [if_pos e, e, Nat.beq_refl]; rfl
 ·rw [if_neg e]
  cases hb : Nat.beq l.length n with
  | true => exact absurd (Nat.eq_of_beq_eq_true hb) e
  | false => rfl
theorem lput_eq2 {vs l : List Value} {n : Nat} (hle : n + vs.length ≤ l.length) : lput vs l n = some (l.take n ++ vs ++ l.drop (n + vs.length)) := by
 rw [lput_eq, if_pos hle, List.append_assoc]
theorem writeA_cells {h : Hp} {b off : Nat} {l cs : List Value} (hb : hget h b = some (.cells cs false)) (hc : cellL l = true) (hle : off + l.length ≤ cs.length) : writeA h b off l = .ok (hset h b (.cells (cs.take off ++ l ++ cs.drop (off + l.length)) false)) := by
 unfold writeA
 rw [cellsOf_eq, hb, cellsO_c, hc, lput_eq2 hle]
 rfl
theorem vSt_p (h : Hp) (n : Nat) (a : Addr) (x : Value) : vSt h n (.pointer (some a)) x = if (vcells x).length = n then writeA h a.block a.off (vcells x) else .no "store - size" := cSt_eq _ _ _ _
theorem nv_0 (x : Value) (l : List Value) : nv (x :: l) 0 = x := rfl
theorem nv_s (x : Value) (l : List Value) (i : Nat) : nv (x :: l) (i + 1) = nv l i := rfl
theorem min2_t (k : IntKind) (a b : Int) : min2 true (.int k a) (.int k b) = .ok (.int k (min a b)) := by
 show (bif keq k k then rInt k (bif iblt b a then b else a) else _) = _
 rw [keq_self, iblt_dec]
 by_cases h : b < a
 ·simp [h, rInt, Int.min_def] <;> omega
 ·simp [h, rInt, Int.min_def] <;> omega
theorem min2_f (k : IntKind) (a b : Int) : min2 false (.int k a) (.int k b) = .ok (.int k (max a b)) := by
 show (bif keq k k then rInt k (bif iblt a b then b else a) else _) = _
 rw [keq_self, iblt_dec]
 by_cases h : a < b
 ·simp [h, rInt, Int.max_def] <;> omega
 ·simp [h, rInt, Int.max_def] <;> omega
theorem Lp.mk {B : LB} {vs : List Value} {h : Hp} {nx : Nat} {E : List (Nat × KVl)} {R : KVl} (J : Nat → List Value → Hp → Nat → Prop) (m : Nat) (h0 : J m vs h nx)
  (hs : ∀ m vs h nx, J m vs h nx → B vs h nx (fun vs h nx => ∃ m', m' < m ∧ J m' vs h nx) E R) : Lp B vs h nx E R := ⟨J, m, h0, hs⟩
end
abbrev SV := Option Nat × Nat
def svV (s : SV) : Value := match s.1 with
 | none => .slice none 0 0
 | some b => .slice (some ⟨b, 0, some 1⟩) s.2 s.2
def encS (s : SV) : List Value := [svV s]
def svs (l : List SV) : List Value := l.map svV
theorem svs_len (l : List SV) : (svs l).length = l.length := by simp [svs]
section
variable {α : Type}
inductive Gr (h : Hp) (enc : α → List Value) (k : Nat) : Value → List α → Option Nat → Prop where
 | nil : Gr h enc k (.slice none 0 0) [] none
 | own {b : Nat} {l : List α} (hb : hget h b = some (.cells (flat enc l) false)) : Gr h enc k (.slice (some ⟨b, 0, some k⟩) l.length l.length) l (some b)
 | part {b o : Nat} {l : List α} {cs : List Value} {ro : Bool} (hb : hget h b = some (.cells cs ro)) (hl : o + l.length * k ≤ cs.length) (hc : (cs.drop o).take (l.length * k) = flat enc l) : Gr h enc k (.slice (some ⟨b, o, none⟩) l.length l.length) l (some b)
theorem Gr.keep {h h' : Hp} {enc : α → List Value} {k : Nat} {v : Value} {l : List α} {o : Option Nat} (g : Gr h enc k v l o) (hk : ∀ b, o = some b → hget h' b = hget h b) : Gr h' enc k v l o := by
 cases g with
 | nil => exact .nil
 | own hb => exact .own (by rw [hk _ rfl]; exact hb)
 | part hb hl hc => exact .part (by rw [hk _ rfl]; exact hb) hl hc
theorem Gr.lens {h : Hp} {enc : α → List Value} {k : Nat} {v : Value} {l : List α} {o : Option Nat} (g : Gr h enc k v l o) : lenS v = .ok (.int .i64 (l.length : Int)) := by
 cases g <;> rfl
theorem one_ble (n : Nat) : Nat.ble (n + 1) n = false := by
 cases hb : Nat.ble (n + 1) n with
 | false => rfl
 | true => have := Nat.le_of_ble_eq_true hb; omega
theorem Gr.app {h : Hp} {enc : α → List Value} {k : Nat} (hk : ∀ x, (enc x).length = k) (hcell : ∀ x, cellL (enc x) = true) (hk0 : 0 < k) {v : Value} {l : List α} {o : Option Nat} (g : Gr h enc k v l o) {nx : Nat}
  {b2 o2 cap2 : Nat} {sp2 : Option Nat} {cs2 : List Value} {ro2 : Bool} {x : α} (h2 : hget h b2 = some (.cells cs2 ro2)) (hx : (cs2.drop o2).take k = enc x) (hsz : (l.length + 1) * k ≤ 1000000) :
  ∃ h', appendA k h nx v (.slice (some ⟨b2, o2, sp2⟩) 1 cap2) = .ok (.val (.slice (some ⟨nx, 0, some k⟩) (l.length + 1) (l.length + 1)) h' (nx + 1)) ∧ hget h' nx = some (.cells (flat enc (l ++ [x])) false) ∧
   (∀ c, c ≠ nx → o ≠ some c → hget h' c = hget h c) := by
 have hlen : k ≤ cs2.length - o2 := by
  have := congrArg List.length hx
  rw [List.length_take, List.length_drop, hk] at this
  omega
 have h1 : l.length + 1 ≤ 1000000 := Nat.le_trans (by have := Nat.le_mul_of_pos_right (l.length + 1) hk0; omega) hsz
 have e2 : (Nat.ble (Nat.mul (Nat.add l.length 1) k) 1000000 && Nat.ble (Nat.add l.length 1) 1000000) = true := by
  simp only [Bool.and_eq_true, Nat.ble_eq]
  exact ⟨hsz, h1⟩
 cases g with
 | nil =>
  refine ⟨hset h nx (.cells (enc x) false), ?_, by simp [flat], fun c hc _ => by rw [hgs, if_neg hc]⟩
  unfold appendA
  simp only
  rw [Nat.mul_eq, Nat.one_mul, readA_eq h2 hk0 hlen, hx]
  unfold appGo
  rw [show Nat.ble (Nat.add 0 1) 0 = false from rfl]
  have e2 : (Nat.ble (Nat.mul (Nat.add 0 1) k) 1000000 && Nat.ble (Nat.add 0 1) 1000000) = true := e2
  rw [e2]
  exact growN_eq hk0
 | @own b _ hb =>
  refine ⟨hset (hdel h b) nx (.cells (flat enc l ++ enc x) false), ?_, by simp [flat_app], fun c hc hne => by
   rw [hgs, if_neg hc, hgd, if_neg (fun e => hne (by rw [e]))]⟩
  unfold appendA
  simp only
  rw [Nat.mul_eq, Nat.one_mul, readA_eq h2 hk0 hlen, hx]
  unfold appGo
  rw [show Nat.ble (Nat.add l.length 1) l.length = false from one_ble _, e2]
  show appUp h nx k (some ⟨b, 0, some k⟩) l.length l.length (l.length + 1) (enc x) = _
  unfold appUp
  simp only [cellsOf_some hb]
  have hcut : lcut (Nat.mul l.length k) (ldrop (flat enc l) 0) = some (flat enc l) := by
   rw [ldrop_eq, List.drop_zero, lcut_eq, if_pos (by rw [flat_len hk]; exact Nat.le_refl _)]
   rw [List.take_of_length_le (by rw [flat_len hk]; exact Nat.le_refl _)]
  rw [hcut]
  have e3 : (!false && Nat.beq 0 0 && Nat.beq (llen (flat enc l)) (Nat.mul l.length k) && Nat.beq k k && Nat.beq l.length l.length && cellL (enc x)) = true := by
   rw [llen_eq, flat_len hk, hcell]
   simp
  show (bif _ then _ else _) = _
  rw [e3, lapp_eq]
  exact growN_eq hk0
 | @part b o _ cs ro hb hl hc =>
  refine ⟨hset h nx (.cells (flat enc l ++ enc x) false), ?_, by simp [flat_app], fun c hc _ => by rw [hgs, if_neg hc]⟩
  unfold appendA
  simp only
  rw [Nat.mul_eq, Nat.one_mul, readA_eq h2 hk0 hlen, hx]
  unfold appGo
  rw [show Nat.ble (Nat.add l.length 1) l.length = false from one_ble _, e2]
  show appUp h nx k (some ⟨b, o, none⟩) l.length l.length (l.length + 1) (enc x) = _
  unfold appUp
  simp only [cellsOf_some hb]
  have hcut : lcut (Nat.mul l.length k) (ldrop cs o) = some (flat enc l) := by
   rw [ldrop_eq, lcut_eq, if_pos (by rw [List.length_drop]; show l.length * k ≤ _; omega)]
   rw [show Nat.mul l.length k = l.length * k from rfl, hc]
  rw [hcut]
  show growN h nx k (lapp (flat enc l) (enc x)) _ = _
  rw [lapp_eq]
  exact growN_eq hk0
end
theorem get_ex {α : Type} {l : List α} {i : Nat} (h : i < l.length) : ∃ x, l[i]? = some x := ⟨_, List.getElem?_eq_getElem h⟩
section
variable {β : Type}
end
section
variable {P : Program} {orc : Orc} {s : Bool}
theorem wrap_s {i : Nat} (h : i < 1000000000000) : IntKind.wrap .i64 ((i : Int) + 1) = ((i + 1 : Nat) : Int) := by
 rw [wrapS (by omega) (by omega)]; simp
theorem hnew (h : Hp) (b : Nat) (o : AObj) : hget (hset h b o) b = some o := by rw [hgs, if_pos rfl]
theorem hold {h : Hp} {b c : Nat} {o : AObj} (e : c ≠ b) : hget (hset h b o) c = hget h c := by rw [hgs, if_neg e]
theorem cellsNB_y (l : List Value) : cellsNB l = if cellL l = true then .ok (.ptr (.cells l false)) else .no "cells" := by
 unfold cellsNB
 cases cellL l <;> rfl
theorem cellL_cons' (x : Value) (l : List Value) : cellL (x :: l) = (cellV x && cellL l) := by rw [cellL_cons]
theorem sliceNB_y (l : List Value) (a b : Nat) : sliceNB l a b = if cellL l = true then .ok (.slice (.cells l false) a b) else .no "cells" := by
 unfold sliceNB
 cases cellL l <;> rfl
theorem ix_s {t : IntKind} {n i b o cap z : Nat} {sp : Option Nat} (hi : i < n) : vIx (.slice z) (.slice (some ⟨b, o, sp⟩) n cap) (.int t (i : Int)) = .ok (.pointer (some ⟨b, o + i * z, none⟩)) := by
 rw [vIx_n, oIx_slice, if_pos hi]
theorem ix_a {t : IntKind} {n i b o z : Nat} {sp : Option Nat} (hi : i < n) : vIx (.array n z) (.pointer (some ⟨b, o, sp⟩)) (.int t (i : Int)) = .ok (.pointer (some ⟨b, o + i * z, none⟩)) := by
 rw [vIx_n, oIx_array, if_pos hi]
theorem ix_s0 {t : IntKind} {n b o cap z : Nat} {sp : Option Nat} (hi : 0 < n) : vIx (.slice z) (.slice (some ⟨b, o, sp⟩) n cap) (.int t 0) = .ok (.pointer (some ⟨b, o, none⟩)) := by
 have := ix_s (t := t) (b := b) (o := o) (cap := cap) (sp := sp) (z := z) (i := 0) hi
 rwa [Nat.zero_mul] at this
theorem ix_a0 {t : IntKind} {n b o z : Nat} {sp : Option Nat} (hi : 0 < n) : vIx (.array n z) (.pointer (some ⟨b, o, sp⟩)) (.int t 0) = .ok (.pointer (some ⟨b, o, none⟩)) := by
 have := ix_a (t := t) (b := b) (o := o) (sp := sp) (z := z) (i := 0) hi
 rwa [Nat.zero_mul] at this
theorem ix_s1 {t : IntKind} {n b o cap z : Nat} {sp : Option Nat} (hi : 1 < n) : vIx (.slice z) (.slice (some ⟨b, o, sp⟩) n cap) (.int t 1) = .ok (.pointer (some ⟨b, o + z, none⟩)) := by
 have := ix_s (t := t) (b := b) (o := o) (cap := cap) (sp := sp) (z := z) (i := 1) hi
 rwa [Nat.one_mul] at this
theorem ix_a1 {t : IntKind} {n b o z : Nat} {sp : Option Nat} (hi : 1 < n) : vIx (.array n z) (.pointer (some ⟨b, o, sp⟩)) (.int t 1) = .ok (.pointer (some ⟨b, o + z, none⟩)) := by
 have := ix_a (t := t) (b := b) (o := o) (sp := sp) (z := z) (i := 1) hi
 rwa [Nat.one_mul] at this
def wrO (o : Option AObj) (h : Hp) (b off : Nat) (l : List Value) : R Hp := match o with
 | some (.cells cs false) => bif cellL l then R.of "write - out of block" (lput l cs off) (fun cs => .ok (hset h b (.cells cs false))) else .no "write - cells"
 | _ => .no "write"
theorem vSt_w {h : Hp} {n : Nat} {a : Addr} {x : Value} {k : Hp → Prop} : RK (vSt h n (.pointer (some a)) x) k ↔ (vcells x).length = n ∧ RK (wrO (hget h a.block) h a.block a.off (vcells x)) k := by
 rw [vSt_p]
 by_cases hn : (vcells x).length = n
 case neg => rw [if_neg hn]; exact ⟨fun h => h.elim, fun h => hn h.1⟩
 rw [if_pos hn]
 refine Iff.trans ?_ (and_iff_right hn).symm
 unfold writeA wrO
 rw [cellsOf_eq]
 cases hget h a.block with
 | none => exact Iff.rfl
 | some o =>
  cases o with
  | cells cs ro =>
   rw [cellsO_c]
   cases ro with
   | true => exact Iff.rfl
   | false => exact Iff.rfl
  | _ => exact Iff.rfl
theorem wrO_1 {h : Hp} {b off : Nat} {cs : List Value} {v : Value} {k : Hp → Prop} : RK (wrO (some (.cells cs false)) h b off [v]) k ↔ cellV v = true ∧ off < cs.length ∧ k (hset h b (.cells (cs.set off v) false)) := by
 show RK (bif cellL [v] then R.of _ (lput [v] cs off) _ else _) k ↔ _
 rw [cellL_cons, lput_eq]
 cases hv : cellV v with
 | false => exact ⟨fun h => h.elim, fun h => by cases h.1⟩
 | true =>
  by_cases ho : off < cs.length
  ·rw [if_pos (by simp; omega), List.set_eq_take_append_cons_drop, if_pos ho]
   exact ⟨fun h => ⟨rfl, ho, h⟩, fun h => h.2.2⟩
  ·rw [if_neg (by simp; omega)]
   exact ⟨fun h => h.elim, fun h => ho h.2.1⟩
theorem wrO_nk {h : Hp} {b off : Nat} {cs l : List Value} {k : Hp → Prop} : RK (wrO (some (.cells cs false)) h b off l) k ↔ cellL l = true ∧ off + l.length ≤ cs.length ∧ k (hset h b (.cells (cs.take off ++ l ++ cs.drop (off + l.length)) false)) := by
 show RK (bif cellL l then R.of _ (lput l cs off) _ else _) k ↔ _
 rw [lput_eq]
 cases hv : cellL l with
 | false => exact ⟨fun h => h.elim, fun h => by cases h.1⟩
 | true =>
  by_cases ho : off + l.length ≤ cs.length
  ·rw [if_pos ho, ← List.append_assoc]
   exact ⟨fun h => ⟨rfl, ho, h⟩, fun h => h.2.2⟩
  ·rw [if_neg ho]
   exact ⟨fun h => h.elim, fun h => ho h.2.1⟩
theorem wrO_0 {h : Hp} {b : Nat} {cs l : List Value} {x y : Value} {k : Hp → Prop} : RK (wrO (some (.cells cs false)) h b 0 (x :: y :: l)) k ↔ cellL (x :: y :: l) = true ∧ (x :: y :: l).length ≤ cs.length ∧ k (hset h b (.cells (x :: y :: l ++ cs.drop (x :: y :: l).length) false)) := by
 rw [wrO_nk]
 simp
theorem vc_ifc (t : TypeId) (v : Value) : vcells (.iface t v) = [.iface t v] := rfl
theorem vc_map (r : Option Nat) : vcells (.map r) = [.map r] := rfl
theorem vc_fn (f : Fn) (a b : Array Value) : vcells (.func f a b) = [.func f a b] := rfl
theorem vc_nf : vcells .nilFunc = [.nilFunc] := rfl
theorem cellV_map (r : Option Nat) : cellV (.map r) = true := rfl
theorem cellV_func (f : Fn) (a b : Array Value) : cellV (.func f a b) = true := rfl
theorem cellV_nf : cellV .nilFunc = true := rfl
theorem nbV_map (nx : Nat) : nbV nx .map = .map (some nx) := rfl
theorem nbO_map : nbO .map = .map [] 0 := rfl
theorem vFill_nil (c : List Value) : vFill [] c = .ok c := rfl
theorem vFill_c (off z : Nat) (x : Value) (xs : List (Nat × Nat × Value)) (c : List Value) : vFill ((off, z, x) :: xs) c = cfillS (vFill xs) off z (vcells x) c := rfl
theorem cfillS_1 {ih : List Value → R (List Value)} {off : Nat} {v : Value} {c : List Value} : cfillS ih off 1 [v] c = if off < c.length then ih (c.set off v) else .no "fill" := by
 show (bif Nat.beq (llen [v]) 1 then R.of "fill" (lput [v] c off) ih else _) = _
 rw [llen_eq, lput_eq]
 by_cases ho : off < c.length
 ·rw [if_pos ho, if_pos (by simp; omega), List.set_eq_take_append_cons_drop, if_pos ho]
  rfl
 ·rw [if_neg ho, if_neg (by simp; omega)]
  rfl
theorem cfillS_n {ih : List Value → R (List Value)} {off n : Nat} {l c : List Value} (hl : l.length = n) (ho : off + n ≤ c.length) : cfillS ih off n l c = ih (c.take off ++ l ++ c.drop (off + n)) := by
 show (bif Nat.beq (llen l) n then R.of "fill" (lput l c off) ih else _) = _
 rw [llen_eq, hl, Nat.beq_refl, lput_eq2 (by omega), hl]; rfl
theorem vBld_e (z : List Value) (ps : List (Nat × Nat × Value)) : vBld z ps = R.bind (vFill ps z) (fun l => .ok (.agg ⟨l⟩)) := rfl
theorem vBsl_e (n : Nat) (z : List Value) (ps : List (Nat × Nat × Value)) : vBsl n z ps = R.bind (vFill ps z) (fun l => sliceNB l n n) := rfl
theorem loadC_cons {n off : Nat} {x : Value} {cs : List Value} : loadC (some n) off (x :: cs) = if n ≤ (x :: cs).length - off then .ok (.agg ⟨((x :: cs).drop off).take n⟩) else .no "load - out of block" := loadC_many n off (x :: cs)
theorem repL_one (n : Nat) (v : Value) : repL n [v] = List.replicate n v := by
 induction n with
 | zero => rfl
 | succ n ih => show lapp [v] (repL n [v]) = _; rw [lapp_eq, ih]; rfl
theorem cellL_rep {n : Nat} {v : Value} (h : cellV v = true) : cellL (List.replicate n v) = true := by
 induction n with
 | zero => rfl
 | succ n ih => rw [List.replicate_succ, cellL_cons, h, ih]; rfl
theorem mks_1 {n : Nat} {t t' : IntKind} {v : Value} (hn : n ≤ 100000) (hv : cellV v = true) : vMks [v] (.int t (n : Int)) (.int t' (n : Int)) = .ok (.slice (.cells (List.replicate n v) false) n n) := by
 show (bif Nat.ble n n && Nat.ble n 100000 then sliceNB (repL n [v]) n n else _) = _
 rw [show (Nat.ble n n && Nat.ble n 100000) = true by simp [hn], repL_one]
 show sliceNB _ _ _ = _
 rw [sliceNB_y, if_pos (cellL_rep hv)]
theorem mks_i {n : Nat} {t t' : IntKind} {x : Int} {k' : IntKind} (hn : n ≤ 100000) : vMks [.int k' x] (.int t (n : Int)) (.int t' (n : Int)) = .ok (.slice (.cells (List.replicate n (.int k' x)) false) n n) := mks_1 hn rfl
theorem mks_s {n : Nat} {t t' : IntKind} {c d : Nat} (hn : n ≤ 100000) : vMks [.slice none c d] (.int t (n : Int)) (.int t' (n : Int)) = .ok (.slice (.cells (List.replicate n (.slice none c d)) false) n n) := mks_1 hn rfl
theorem mks_b {n : Nat} {t t' : IntKind} {b : Bool} (hn : n ≤ 100000) : vMks [.bool b] (.int t (n : Int)) (.int t' (n : Int)) = .ok (.slice (.cells (List.replicate n (.bool b)) false) n n) := mks_1 hn rfl
theorem sameR_i (k : IntKind) (n : Int) : sameR (.int k n) (.ok (.int k n)) = true := sameV_int k n
theorem sameR_b (b : Bool) : sameR (.bool b) (.ok (.bool b)) = true := sameV_bool b
theorem sameR_s (a : Addr) (n c : Nat) : sameR (.slice (some a) n c) (.ok (.slice (some a) n c)) = true := sameV_slice a n c
theorem sameR_n (n c : Nat) : sameR (.slice none n c) (.ok (.slice none n c)) = true := by simp [sameR, sameV, same1]
theorem sameR_o (a : Option Addr) (n c : Nat) : sameR (.slice a n c) (.ok (.slice a n c)) = true := sameV_slice a n c
theorem sameR_p (a : Addr) : sameR (.pointer (some a)) (.ok (.pointer (some a))) = true := addrEq_self a
theorem cfillS_2 {ih : List Value → R (List Value)} {off : Nat} {x y : Value} {c : List Value} : cfillS ih off 2 [x, y] c = if off + 2 ≤ c.length then ih (c.take off ++ x :: y :: c.drop (off + 2)) else .no "fill" := by
 by_cases h : off + 2 ≤ c.length
 ·rw [if_pos h, cfillS_n (n := 2) (l := [x, y]) rfl h]; simp
 ·rw [if_neg h]
  show (bif Nat.beq (llen [x, y]) 2 then R.of "fill" (lput [x, y] c off) ih else _) = _
  rw [lput_eq, if_neg (by simpa using h)]; rfl
theorem cfillS_3 {ih : List Value → R (List Value)} {off : Nat} {x y z : Value} {c : List Value} : cfillS ih off 3 [x, y, z] c = if off + 3 ≤ c.length then ih (c.take off ++ x :: y :: z :: c.drop (off + 3)) else .no "fill" := by
 by_cases h : off + 3 ≤ c.length
 ·rw [if_pos h, cfillS_n (n := 3) (l := [x, y, z]) rfl h]; simp
 ·rw [if_neg h]
  show (bif Nat.beq (llen [x, y, z]) 3 then R.of "fill" (lput [x, y, z] c off) ih else _) = _
  rw [lput_eq, if_neg (by simpa using h)]; rfl
theorem cfillS_4 {ih : List Value → R (List Value)} {off : Nat} {x y z w : Value} {c : List Value} : cfillS ih off 4 [x, y, z, w] c = if off + 4 ≤ c.length then ih (c.take off ++ x :: y :: z :: w :: c.drop (off + 4)) else .no "fill" := by
 by_cases h : off + 4 ≤ c.length
 ·rw [if_pos h, cfillS_n (n := 4) (l := [x, y, z, w]) rfl h]; simp
 ·rw [if_neg h]
  show (bif Nat.beq (llen [x, y, z, w]) 4 then R.of "fill" (lput [x, y, z, w] c off) ih else _) = _
  rw [lput_eq, if_neg (by simpa using h)]; rfl
theorem callV_y {h : Hp} {nx : Nat} {f : FuncId} {vs a b : List Value} : callV h nx vs (.func (.func f) ⟨a⟩ ⟨b⟩) = .call f (a ++ (vs ++ b)) h nx := by
 show OR.call f (lapp a (lapp vs b)) h nx = _
 rw [lapp_eq, lapp_eq]
theorem CVK_0 {P : Program} {orc : Orc} {s : Bool} {f : FuncId} {vs : List Value} {h : Hp} {nx : Nat} {k : Value → Hp → Nat → Prop} : CVK P orc s (callV h nx vs (.func (.func f) #[] #[])) k ↔ Cv P orc s f vs h nx k := by
 show CVK P orc s (callV h nx vs (.func (.func f) ⟨[]⟩ ⟨[]⟩)) k ↔ _
 rw [callV_y, List.nil_append, List.append_nil]; exact Iff.rfl
theorem sameR_a (l : List Value) : sameR (.agg ⟨l⟩) (.ok (.agg ⟨l⟩)) = sameL l l := rfl
theorem same1_i (k : IntKind) (n : Int) : same1 (.int k n) (.int k n) = true := sameV_int k n
theorem same1_s (a : Option Addr) (n c : Nat) : same1 (.slice a n c) (.slice a n c) = true := sameV_slice a n c
theorem same1_b (b : Bool) : same1 (.bool b) (.bool b) = true := sameV_bool b
def SS := And.intro @RK_ok (And.intro @RK_no (And.intro @IF_b (And.intro @AR_ok (And.intro @EK_v (And.intro @Bool.true_and (And.intro @Bool.not_false (And.intro @Bool.not_true (And.intro @Bool.false_eq_true (And.intro @Bool.true_eq_false (And.intro @false_implies (And.intro @true_implies (And.intro @svs_len (And.intro @ints_set (And.intro @CVK_c (And.intro @AGK_0 (And.intro @AGK_1 (And.intro @AGK_2 (And.intro @AGK_3 (And.intro @bin_add (And.intro @bin_sub (And.intro @bin_lss (And.intro @bin_leq (And.intro @bin_gtr (And.intro @bin_geq (And.intro @bin_eql (And.intro @bin_neq (And.intro @un_not (And.intro @conv_int (And.intro @min2_t (And.intro @min2_f (And.intro @nv_0 (And.intro @nv_s (And.intro @nbV_ptr (And.intro @nbO_ptr (And.intro @nbV_slice (And.intro @nbO_slice (And.intro @vc_int (And.intro @vc_slice (And.intro @vc_agg (And.intro @vc_bool (And.intro @vc_ptr (And.intro @cellV_int (And.intro @cellV_bool (And.intro @cellV_slice (And.intro @cellV_ptr (And.intro @cellL_nil (And.intro @cellL_cons' (And.intro @hnew (And.intro @hold (And.intro @cellsNB_y (And.intro @sliceNB_y (And.intro @ix_s (And.intro @ix_a (And.intro @ix_s0 (And.intro @ix_a0 (And.intro @ix_s1 (And.intro @ix_a1 (And.intro @vSt_w (And.intro @wrO_1 (And.intro @wrO_0 (And.intro @vc_ifc (And.intro @vc_map (And.intro @vc_nf (And.intro @vc_fn (And.intro @cellV_map (And.intro @cellV_func (And.intro @cellV_nf (And.intro @nbV_map (And.intro @nbO_map (And.intro @vFill_nil (And.intro @vFill_c (And.intro @cfillS_1 (And.intro @vBld_e (And.intro @vBsl_e (And.intro @loadC_cons (And.intro @mks_i (And.intro @mks_s (And.intro @mks_b (And.intro @sameR_i (And.intro @sameR_b (And.intro @sameR_s (And.intro @sameR_n (And.intro @cellsO_c (And.intro @vLd_p (And.intro @vFldA_p (And.intro @vPick_t (And.intro @vPick_f (And.intro @lenS_slice (And.intro @nilChk_ptr (And.intro @oExtract_tuple (And.intro @of_some (And.intro @bind_ok (And.intro @ofGet_some (And.intro @loadC_one (And.intro @cFld_agg (And.intro @addrR_ptr (And.intro @moveA_eq (And.intro (@List.getElem?_cons_zero Value) (And.intro (@List.getElem?_cons_succ Value) (And.intro (@List.drop_zero Value) (And.intro (@List.drop_succ_cons Value) (And.intro (@List.take_zero Value) (And.intro (@List.take_succ_cons Value) (And.intro (@List.set_cons_zero Value) (And.intro (@List.set_cons_succ Value) (And.intro @Nat.zero_add (And.intro @Nat.add_zero (And.intro @Nat.mul_one (And.intro (@List.length_cons Value) (And.intro (@List.length_nil Value) (And.intro (@List.append_nil Value) (And.intro (@List.nil_append Value) (And.intro (@List.cons_append Value) (And.intro (@List.drop_nil Value) (And.intro @Bool.and_self (And.intro @Bool.and_true (And.intro @ints_len (And.intro @true_and (And.intro @and_true (And.intro @decide_eq_true_eq (And.intro @decide_eq_false_iff_not (And.intro @Bool.not_eq_true' (And.intro @Bool.not_eq_false' (And.intro @Int.ofNat_lt (And.intro @sameR_o (And.intro @sameR_p (And.intro @cfillS_2 (And.intro @cfillS_3 (And.intro @cfillS_4 (And.intro @callV_y (And.intro @CVK_0 (And.intro @Nat.le_refl (And.intro @sameR_a (And.intro @sameL_cons (And.intro @sameL_nil (And.intro @sameV_int (And.intro @sameV_bool (And.intro @sameV_slice (And.intro @same1_i (And.intro @same1_s (And.intro @same1_b (@Decidable.not_not))))))))))))))))))))))))))))))))))))))))))))))))))))))))))))))))))))))))))))))))))))))))))))))))))))))))))))))))))))))))))))))))))))))))))))))
end
theorem vSl_1 {z n cap : Nat} {a : Addr} (hn : 0 < n) (hc : n ≤ cap) (hz : isZ (some a) = false) :
  vSl z (.slice (some a) n cap) (some (.int .i64 1)) (some (.int .i64 (n : Int))) (some (.int .i64 (n : Int))) = .ok (.slice (some ⟨a.block, if n = 1 then a.off else a.off + z, none⟩) (n - 1) (n - 1)) := by
 show sliceV z (some a) cap true n n 1 = _
 unfold sliceV
 rw [show (Nat.ble n cap && (Nat.ble n n && Nat.ble 1 n)) = true by simp [hc]; omega]
 show sliceW z (some a) true n n 1 = _
 unfold sliceW
 by_cases h : n = 1
 ·subst h
  rw [if_pos rfl]
  show (bif inexact (some a) && !true then _ else bif isZ (some a) then _ else _) = _
  rw [hz]
  simp [cutAddr]
 ·rw [if_neg h]
  rw [show Nat.beq n 1 = false by
   cases hb : Nat.beq n 1 with
   | true => exact absurd (Nat.eq_of_beq_eq_true hb) h
   | false => rfl]
  show R.ok (Value.slice (cutAddr (some a) (Nat.mul 1 z) true) (Nat.sub n 1) (Nat.sub n 1)) = _
  simp [cutAddr]
theorem Gr.head {h : Hp} {v : Value} {x : Int} {l : List Int} {o : Option Nat} (g : Gr h encIz 1 v (x :: l) o) : ∃ b off sp cs ro v', v = .slice (some ⟨b, off, sp⟩) (l.length + 1) (l.length + 1) ∧ o = some b ∧ hget h b = some (.cells cs ro) ∧ cs[off]? = some (.int .i64 x) ∧
  vSl 1 v (some (.int .i64 1)) (some (.int .i64 ((l.length + 1 : Nat) : Int))) (some (.int .i64 ((l.length + 1 : Nat) : Int))) = .ok v' ∧ Gr h encIz 1 v' l (some b) := by
 have key : ∀ (b off : Nat) (sp : Option Nat) (cs : List Value) (ro : Bool), isZ (some ⟨b, off, sp⟩) = false → hget h b = some (.cells cs ro) → off + (l.length + 1) ≤ cs.length → (cs.drop off).take (l.length + 1) = ints (x :: l) →
   cs[off]? = some (.int .i64 x) ∧ ∃ v', vSl 1 (.slice (some ⟨b, off, sp⟩) (l.length + 1) (l.length + 1)) (some (.int .i64 1)) (some (.int .i64 ((l.length + 1 : Nat) : Int))) (some (.int .i64 ((l.length + 1 : Nat) : Int))) = .ok v' ∧ Gr h encIz 1 v' l (some b) := fun b off sp cs ro hz hb hl hc => by
  refine ⟨?_, _, vSl_1 (by omega) (Nat.le_refl _) hz, ?_⟩
  ·have : ((cs.drop off).take (l.length + 1))[0]? = some (.int .i64 x) := by rw [hc]; rfl
   rw [List.getElem?_take, if_pos (by omega), List.getElem?_drop] at this
   simpa using this
  ·show Gr h encIz 1 (.slice (some ⟨b, if l.length + 1 = 1 then off else off + 1, none⟩) (l.length + 1 - 1) (l.length + 1 - 1)) l (some b)
   rw [show l.length + 1 - 1 = l.length by omega]
   by_cases h0 : l.length + 1 = 1
   ·rw [if_pos h0]
    have : l = [] := List.eq_nil_of_length_eq_zero (by omega)
    subst this
    exact Gr.part (enc := encIz) (k := 1) hb (by simp; omega) (by simp [flat])
   ·rw [if_neg h0]
    refine Gr.part (enc := encIz) (k := 1) hb (by omega) ?_
    rw [flat_ints, Nat.mul_one, ← List.drop_drop]
    have := congrArg (List.drop 1) hc
    rw [List.drop_take] at this
    simpa [ints] using this
 cases g with
 | @own b _ hb =>
  rw [flat_ints] at hb
  obtain ⟨h1, v', h2, h3⟩ := key b 0 (some 1) _ _ rfl hb (by simp [ints_len]) (by rw [List.drop_zero, List.take_of_length_le (by simp [ints_len])])
  exact ⟨b, 0, some 1, _, _, v', rfl, rfl, hb, h1, h2, h3⟩
 | @part b o _ cs ro hb hl hc =>
  rw [flat_ints] at hc
  obtain ⟨h1, v', h2, h3⟩ := key b o none _ _ rfl hb (by simpa using hl) (by simpa using hc)
  exact ⟨b, o, none, _, _, v', rfl, rfl, hb, h1, h2, h3⟩
theorem bin_rem {P : Program} {t : TypeId} {k : IntKind} {a b : Int} (hb : b ≠ 0) : bin P .rem t (.int k a) (.int k b) = .ok (.int k (a.tmod b)) := by
 rw [bin_i _ _ _ _ _ rfl]
 show (bif ieq b 0 then _ else _) = _
 rw [ieq_beq, show (b == 0) = false by simpa using hb]
 rfl
def noG : CC → Bool
 | .gen _ => false
 | .seq a b => noG a && noG b
 | .cond _ a b => noG a && noG b
 | .block _ c => noG c
 | .scope c => noG c
 | .loop c => noG c
 | _ => true
section
variable {P : Program} {orc : Orc} {s : Bool}
theorem cAfter_cur {ex : CEx} {cur : Option Nat} {b : CC} (hb : ∀ tm h nx, ex cur b tm h nx = ex none b tm h nx) : cAfter ex cur b = cAfter ex none b := by
 funext x tm h nx
 cases x with
 | normal => exact hb tm h nx
 | exit i => rfl
 | ret => rfl
theorem cexA_cur : ∀ (n : Nat) (c : CC), noG c = true → ∀ cur tm h nx, cexA P orc n cur c tm h nx = cexA P orc n none c tm h nx
 | 0, _, _, _, _, _, _ => rfl
 | n + 1, c, hc, cur, tm, h, nx => by
  have ih := cexA_cur n
  cases c with
  | gen c => cases hc
  | scope c => exact ih c hc cur tm h nx
  | seq a b =>
   have hc : (noG a && noG b) = true := hc
   simp only [Bool.and_eq_true] at hc
   show outThen (cexA P orc n cur a tm h nx) (cAfter (cexA P orc n) cur b) = outThen (cexA P orc n none a tm h nx) (cAfter (cexA P orc n) none b)
   rw [ih a hc.1 cur tm h nx, cAfter_cur (ih b hc.2 cur)]
  | loop c =>
   have hl : noG (.loop c) = true := hc
   show outThen (cexA P orc n cur c tm h nx) (cAfter (cexA P orc n) cur (.loop c)) = outThen (cexA P orc n none c tm h nx) (cAfter (cexA P orc n) none (.loop c))
   rw [ih c hc cur tm h nx, cAfter_cur (ih (.loop c) hl cur)]
  | block i c =>
   show blockA i (cexA P orc n cur c tm h nx) = blockA i (cexA P orc n none c tm h nx)
   rw [ih c hc cur tm h nx]
  | cond x a b =>
   have hc : (noG a && noG b) = true := hc
   simp only [Bool.and_eq_true] at hc
   show cCond (cexA P orc n) cur a b tm h nx (cev tm x) = cCond (cexA P orc n) none a b tm h nx (cev tm x)
   unfold cCond
   generalize cev tm x = v
   cases v <;> try rfl
   rename_i t
   cases t with
   | false => exact ih b hc.2 cur tm h nx
   | true => exact ih a hc.1 cur tm h nx
  | _ => rfl
theorem Ev.raw {c : Code} {cur : Option Nat} {tm : Tm} {h : Hp} {nx : Nat} {K : KO'} (hg : noG (comp P c) = true) (he : Ev P orc s (comp P c) tm h nx K) : ∃ n, Sat s (exA P orc n cur c tm h nx) K := by
 obtain ⟨n, hn⟩ := he
 refine ⟨n, ?_⟩
 rw [← cexA_cur n _ hg cur] at hn
 exact hn.up (cex_le n cur c tm h nx)
theorem loopOf_eq {h : Hp} {l st : Nat} {p : Option Code} {tm : Tm} {ps : List Nat} {a b : Code} {k : Nat → Option Code → Tm → List Nat → Code → Code → CR} (hl : hget h l = some (.loop st p tm ps a b)) : loopOf h l k = k st p tm ps a b := by
 unfold loopOf; rw [hl]
def EndK (l : Nat) (tm : Tm) (ps : List Nat) (a b : Code) (K : KC') : KO' := fun x _ h nx => ∃ st p, hget h l = some (.loop st p tm ps a b) ∧ match x with
 | .normal => K (.bool true) (hset h l (.loop 0 none tm ps a b)) nx
 | .ret => K (.bool false) (hset h l (.loop 2 (some .ret) tm ps a b)) nx
 | .exit i => K (.bool false) (hset h l (.loop 2 (some (.exit i)) tm ps a b)) nx
theorem Yv.mk {l : Nat} {args : List Value} {h : Hp} {nx : Nat} {K : KC'} {st : Nat} {p : Option Code} {tm : Tm} {ps : List Nat} {a b : Code} (hl : hget h l = some (.loop st p tm ps a b)) (hn : args.length = ps.length)
  (ga : noG (comp P a) = true) (gb : noG (comp P b) = true)
  (ha : Ev P orc s (comp P a) (setPs ps args tm) h nx (fun x tm1 h1 n1 => x = .normal ∧ ∃ p', hget h1 l = some (.loop 0 p' tm ps a b) ∧ Ev P orc s (comp P b) tm1 (hset h1 l (.loop 1 p' tm ps a b)) n1 (EndK l tm ps a b K))) :
  Yv P orc s l args h nx K := by
 obtain ⟨n, hs⟩ := Ev.raw (cur := some l) ga ha
 have h2 : Sat s (exA P orc n (some l) a (setPs ps args tm) h nx) (fun x tm1 h1 n1 => ∃ m, x = .normal ∧ ∃ p', hget h1 l = some (.loop 0 p' tm ps a b) ∧ Sat s (exA P orc m (some l) b tm1 (hset h1 l (.loop 1 p' tm ps a b)) n1) (EndK l tm ps a b K)) := hs.mono fun x tm1 h1 n1 hx => by
  obtain ⟨e, p', hp, hb⟩ := hx
  obtain ⟨m, hm⟩ := Ev.raw (cur := some l) gb hb
  exact ⟨m, e, p', hp, hm⟩
 obtain ⟨m, h3⟩ := Sat.unif (K := EndK l tm ps a b K) (fun n m x tm1 h1 n1 hnm hk => by
  obtain ⟨e, p', hp, hb⟩ := hk
  exact ⟨e, p', hp, hb.up (exA_mono' hnm _ _ _ _ _)⟩) h2
 refine ⟨max n m, ?_⟩
 unfold roundA
 rw [loopOf_eq hl]
 rw [show Nat.beq (llen args) (llen ps) = true by rw [llen_eq, llen_eq, hn]; exact Nat.beq_refl _]
 show SatC s (outCR (exA P orc (max n m) (some l) a (setPs ps args tm) h nx) (roundMid (exA P orc (max n m)) l b)) K
 refine Sat.thenC ((h3.up (exA_mono' (Nat.le_max_left n m) _ _ _ _ _)).mono fun x tm1 h1 n1 hx => ?_)
 obtain ⟨rfl, p', hp, hb⟩ := hx
 show SatC s (loopOf h1 l _) K
 rw [loopOf_eq hp]
 show SatC s (outCR (exA P orc (max n m) (some l) b tm1 (hset h1 l (.loop 1 p' tm ps a b)) n1) (roundEnd l)) K
 refine Sat.thenC ((hb.up (exA_mono' (Nat.le_max_right n m) _ _ _ _ _)).mono fun x tm2 h2 n2 hx => ?_)
 obtain ⟨st, p2, hp2, hk⟩ := hx
 unfold roundEnd
 rw [loopOf_eq hp2]
 cases x <;> exact satC_ok.2 hk
end
set_option maxRecDepth 100000
section
variable {P : Program} {orc : Orc} {s : Bool}
theorem Gr.cell {α : Type} {h : Hp} {enc : α → List Value} {k : Nat} {o : Value} {vals : List α} {bo : Option Nat} (g : Gr h enc k o vals bo) : vcells o = [o] ∧ cellV o = true := by
 cases g <;> exact ⟨rfl, rfl⟩
theorem EK_appg {α : Type} {enc : α → List Value} {k : Nat} (hk : ∀ x, (enc x).length = k) (hcell : ∀ x, cellL (enc x) = true) (hk0 : 0 < k) {h : Hp} {nx : Nat} {v : Value} {l : List α} {o : Option Nat} (g : Gr h enc k v l o)
  {b2 o2 cap2 : Nat} {sp2 : Option Nat} {cs : List Value} {ro : Bool} (x : α) (h2 : hget h b2 = some (.cells cs ro)) (hx : (cs.drop o2).take k = enc x) (hsz : (l.length + 1) * k ≤ 1000000) {K : Value → Hp → Nat → Prop}
  (hK : ∀ h', hget h' nx = some (.cells (flat enc (l ++ [x])) false) → (∀ c, c ≠ nx → o ≠ some c → hget h' c = hget h c) → K (.slice (some ⟨nx, 0, some k⟩) (l.length + 1) (l.length + 1)) h' (nx + 1)) : EK (orR (appendA k h nx v (.slice (some ⟨b2, o2, sp2⟩) 1 cap2))) K := by
 obtain ⟨h', e, a, b⟩ := g.app hk hcell hk0 h2 hx hsz
 rw [e]; exact hK _ a b
end
def mk : Nat → (Nat → Bool) → Nat
 | 0, _ => 0
 | n + 1, p => (if p 0 then 1 else 0) + 2 * mk n (fun i => p (i + 1))
def fl (n : Nat) (p : Nat → Bool) : List Nat := (List.range n).filter p
section
variable {P : Program}
theorem wrapUw {n : Nat} (h : n < 18446744073709551616) : IntKind.wrap .u64 (n : Int) = (n : Int) := by
 unfold IntKind.wrap
 simp [IntKind.bits, IntKind.signed]
 omega
theorem ofU {n : Nat} (h : n < 18446744073709551616) : (BitVec.ofInt 64 (n : Int)).toNat = n := by
 rw [BitVec.toNat_ofInt]; omega
theorem bin_orU {t : TypeId} {a b : Nat} (ha : a < 18446744073709551616) (hb : b < 18446744073709551616) : bin P .or t (.int .u64 (a : Int)) (.int .u64 (b : Int)) = .ok (.int .u64 ((a ||| b : Nat) : Int)) := by
 show R.ok (Value.int .u64 (IntKind.wrap .u64 ((BitVec.ofInt 64 (a : Int) ||| BitVec.ofInt 64 (b : Int)).toNat : Int))) = _
 rw [BitVec.toNat_or, ofU ha, ofU hb, wrapUw (Nat.or_lt_two_pow (n := 64) ha hb)]
end
section
variable {H : Type} {enc : TypeId × Value → H} {P : Program} {w : World} {sp : Nat → Bool} {held : Bool} {α : Type}
def LiesAt (w : World) (b off : Nat) (l : List Value) : Prop := ∃ c e fr, w.heap[b]? = some (.cells c e fr) ∧ ∀ i x, l[i]? = some x → c[off + i]? = some x
theorem shape_cells {w : World} {b : Nat} {x : TypeId × Nat} (h : w.shape? b = some x) : ∃ c e fr, w.heap[b]? = some (.cells c e fr) := by
 unfold World.shape? at h
 split at h
 ·rename_i c e fr hc; exact ⟨_, _, _, hc⟩
 all_goals cases h
theorem open_sl {e3 : α → List Value} {k : Nat} {t e : TypeId} {r : Reach} {base b0 fuel : Nat} {v : Value} {x : DataW H × List MemPlace} (ht : P.underlying t = some (.slice e)) (hc : P.cellsOf e = k) (R : α → Prop)
  (hone : ∀ (n : Nat) (c : List Value) y, DataW.trod enc P w base sp held n e c = some y → ∃ z : α, c = e3 z ∧ R z)
  (h : DataW.trod enc P w base sp held fuel t [v] = some x) (hval : Cell.okWide P w r b0 t v) :
  ∃ zs : List α, (∀ z ∈ zs, R z) ∧ ((zs = [] ∧ v = .slice none 0 0) ∨ ∃ b off cap, v = .slice (some ⟨b, off, none⟩) zs.length cap ∧ LiesAt w b off (flat e3 zs)) := by
 rcases open_rows ht hc R hone h with hcs | ⟨a, zs, cap, hcs, hl, hm, hR, hcell⟩
 ·injection hcs with hcs _
  exact ⟨[], by simp, .inl ⟨rfl, hcs⟩⟩
 ·injection hcs with hcs _
  subst hcs
  refine ⟨zs, hR, .inr ?_⟩
  unfold Cell.okWide at hval
  rw [ht] at hval
  simp only at hval
  unfold Cell.ok at hval
  rw [ht] at hval
  obtain ⟨_, _, hhas⟩ := hval
  obtain ⟨_, hspot, row, cells, hsh, _⟩ := hhas
  obtain ⟨b, off, spot⟩ := a
  simp only at hspot hsh
  subst hspot
  obtain ⟨c, e', fr, hw⟩ := shape_cells hsh
  refine ⟨b, off, cap, rfl, c, e', fr, hw, fun i y hy => ?_⟩
  have h1 := hcell i y hy
  have e1 : (Addr.add ⟨b, off, none⟩ i) = ⟨b, off + i, none⟩ := by
   unfold Addr.add
   by_cases hi : i = 0
   ·subst hi; simp
   ·simp [hi]
  rw [e1] at h1
  unfold World.cell? at h1
  simpa [hw] using h1
end
def inPs (v : Value) (l : List Value) : List (Place × List Value) := match v with
 | .slice (some a) _ _ => [(⟨a.block, a.off, 0, 0⟩, l)]
 | _ => []
def inVk (k : Nat) (v : Value) : Value := match v with
 | .slice (some _) n c => .slice (some ⟨k, 0, none⟩) n c
 | v => v
theorem plain_mem {α : Type} {e3 : α → List Value} (hpl : ∀ z, plainL (e3 z) = true) : ∀ l : List α, ∀ x ∈ flat e3 l, plainV x = true := by
 intro l
 induction l with
 | nil => intro x hx; cases hx
 | cons z l ih =>
  intro x hx
  have hx : x ∈ e3 z ++ flat e3 l := hx
  rcases List.mem_append.1 hx with hx | hx
  ·have : ∀ (l : List Value), plainL l = true → ∀ x ∈ l, plainV x = true := by
    intro l
    induction l with
    | nil => intro _ x hx; cases hx
    | cons y l ih =>
     intro h x hx
     have h : (plainV y && plainL l) = true := h
     simp only [Bool.and_eq_true] at h
     rcases List.mem_cons.1 hx with rfl | hx
     ·exact h.1
     ·exact ih h.2 x hx
   exact this _ (hpl z) x hx
  ·exact ih x hx
theorem in_w {α : Type} {e3 : α → List Value} {w : World} {v : Value} {zs : List α} (hpl : ∀ z, plainL (e3 z) = true)
  (h : (zs = [] ∧ v = .slice none 0 0) ∨ ∃ b off cap, v = .slice (some ⟨b, off, none⟩) zs.length cap ∧ LiesAt w b off (flat e3 zs)) (ρ : Rho) :
  ∀ p ∈ inPs v (flat e3 zs), ∃ c e fr, w.heap[p.1.blk]? = some (.cells c e fr) ∧ CellsR ρ p.2 c p.1.off := by
 rcases h with ⟨rfl, rfl⟩ | ⟨b, off, cap, rfl, c, e, fr, hw, hg⟩
 ·exact fun p hp => (by cases hp)
 ·intro p hp
  have hp : p = (⟨b, off, 0, 0⟩, flat e3 zs) := by simpa [inPs] using hp
  subst hp
  exact ⟨c, e, fr, hw, fun i x hx => ⟨x, hg i x hx, plainV_self (plain_mem hpl zs x (List.mem_of_getElem? hx)) _⟩⟩
theorem in_at {α : Type} {e3 : α → List Value} {w : World} {v : Value} {zs : List α} {ps : List (Place × List Value)} {k : Nat}
  (h : (zs = [] ∧ v = .slice none 0 0) ∨ ∃ b off cap, v = .slice (some ⟨b, off, none⟩) zs.length cap ∧ LiesAt w b off (flat e3 zs))
  (hp : ∀ p, p ∈ inPs v (flat e3 zs) → ps[k]? = some p) :
  VR (rhoL ps) (inVk k v) v ∧ SlRd (hpL 0 ps hp0) ps.length (inVk k v) e3 zs := by
 rcases h with ⟨rfl, rfl⟩ | ⟨b, off, cap, rfl, c, e, fr, hw, hg⟩
 ·exact ⟨VR.sliceNil 0 0, ⟨none, 0, rfl, fun h => absurd rfl h⟩⟩
 ·have h1 := hp (⟨b, off, 0, 0⟩, flat e3 zs) (by simp [inPs])
  have hk : k < ps.length := (List.getElem?_eq_some_iff.1 h1).1
  exact ⟨.sliceE (p := ⟨b, off, 0, 0⟩) (by unfold rhoL; rw [h1]; rfl) _ _, ⟨_, _, rfl, fun _ => ⟨k, none, true, hk, rfl, hpL_at (p := (⟨b, off, 0, 0⟩, flat e3 zs)) h1⟩⟩⟩
theorem inPs_one {v : Value} {l : List Value} {p : Place × List Value} (h : p ∈ inPs v l) : inPs v l = [p] := by
 unfold inPs at h ⊢
 split at h
 ·have := List.mem_singleton.1 h
  rw [this]
 ·cases h
theorem in_two {α β : Type} {e3 : α → List Value} {e1 : β → List Value} {w : World} {v u : Value} {zs : List α} {ys : List β} (hpl : ∀ z, plainL (e3 z) = true) (hpl1 : ∀ z, plainL (e1 z) = true)
  (h : (zs = [] ∧ v = .slice none 0 0) ∨ ∃ b off cap, v = .slice (some ⟨b, off, none⟩) zs.length cap ∧ LiesAt w b off (flat e3 zs))
  (g : (ys = [] ∧ u = .slice none 0 0) ∨ ∃ b off cap, u = .slice (some ⟨b, off, none⟩) ys.length cap ∧ LiesAt w b off (flat e1 ys)) :
  ∃ ps v' u', InW w ps ∧ VR (rhoL ps) v' v ∧ VR (rhoL ps) u' u ∧ SlRd (hpL 0 ps hp0) ps.length v' e3 zs ∧ SlRd (hpL 0 ps hp0) ps.length u' e1 ys := by
 obtain ⟨a1, a2⟩ := in_at (ps := inPs v (flat e3 zs) ++ inPs u (flat e1 ys)) (k := 0) h (fun p hp => by rw [inPs_one hp]; rfl)
 obtain ⟨b1, b2⟩ := in_at (ps := inPs v (flat e3 zs) ++ inPs u (flat e1 ys)) (k := (inPs v (flat e3 zs)).length) g (fun p hp => by rw [inPs_one hp, List.getElem?_append_right (Nat.le_refl _), Nat.sub_self]; rfl)
 refine ⟨_, _, _, fun p hp => ?_, a1, b1, a2, b2⟩
 rcases List.mem_append.1 hp with hp | hp
 ·exact in_w hpl h _ p hp
 ·exact in_w hpl1 g _ p hp
section
variable {H : Type} {enc : TypeId × Value → H} {P : Program} {w : World} {base : Nat} {sp : Nat → Bool} {held : Bool}
structure AllI (P : Program) (t : TypeId) (n : Nat) : Prop where
 ex : ∃ fs : Array Field, P.underlying t = some (.struct fs) ∧ fs.size = n ∧ ∀ (i : Nat) (f : Field), fs[i]? = some f → f.offset = i ∧ P.underlying f.type = some (.int .i64) ∧ P.cellsOf f.type = 1
 size : P.cellsOf t = n
theorem trod_ints {t : TypeId} {k fuel : Nat} {cs : List Value} {x : DataW H × List MemPlace} (T : AllI P t k) (h : DataW.trod enc P w base sp held fuel t cs = some x) : ∃ l : List Int, l.length = k ∧ cs = l.map (Value.int .i64) ∧ ∀ y ∈ l, Wf64 y := by
 obtain ⟨fs, ht, hs, hf⟩ := T.ex
 obtain ⟨xs, n, rfl, _, hlen, hxl, hall⟩ := DataW.trod_struct ht h
 rw [T.size] at hlen
 have one : ∀ (i : Nat), i < k → ∃ n : Int, cs[i]? = some (.int .i64 n) ∧ Wf64 n := fun i hi => by
  obtain ⟨f, hff⟩ : ∃ f : Field, fs[i]? = some f := ⟨fs[i]'(by omega), by rw [Array.getElem?_eq_getElem]⟩
  obtain ⟨ho, hu, hc⟩ := hf i f hff
  have he := hall i f hff
  rw [ho, hc, List.getElem?_eq_getElem (by omega)] at he
  obtain ⟨n, h1, _, h2⟩ := DataW.trod_int hu he
  refine ⟨n, ?_, h2⟩
  have : ((cs.drop i).take 1)[0]? = some (.int .i64 n) := by rw [h1]; rfl
  rw [List.getElem?_take, if_pos (by omega), List.getElem?_drop] at this
  exact this
 have all : ∀ m (l : List Value), (∀ i, i < m → ∃ n : Int, l[i]? = some (.int .i64 n) ∧ Wf64 n) → l.length = m → ∃ l' : List Int, l'.length = m ∧ l = l'.map (Value.int .i64) ∧ ∀ y ∈ l', Wf64 y := by
  intro m
  induction m with
  | zero => intro l _ hl; exact ⟨[], rfl, List.length_eq_zero_iff.1 hl, fun y hy => (by cases hy)⟩
  | succ m ih =>
   intro l hg hl
   match l, hl with
   | y :: l, hl =>
    obtain ⟨n, h1, h2⟩ := hg 0 (by omega)
    obtain ⟨l', h3, h4, h5⟩ := ih l (fun i hi => by obtain ⟨n, h1, h2⟩ := hg (i + 1) (by omega); exact ⟨n, by simpa using h1, h2⟩) (by simpa using hl)
    have h1 : y = .int .i64 n := by simpa using h1
    refine ⟨n :: l', by simp [h3], by rw [h1, h4]; rfl, fun z hz => ?_⟩
    rcases List.mem_cons.1 hz with rfl | hz
    ·exact h2
    ·exact h5 z hz
 exact all k cs one hlen
def enc2 (m : Int × Int) : List Value := [.int .i64 m.1, .int .i64 m.2]
end
end Go.Ax
