/- Parts of the proof: PpFn: each statement bears its own conditions. -/
import Derived.Test.YtenkechjalngcaaGreatPpFacts
namespace Go.Proofs.YtenkechjalngcaaGreat
open Go Go.Ax
set_option linter.unusedVariables false
set_option linter.unusedSimpArgs false
set_option maxRecDepth 1000000
noncomputable abbrev Q : Program := Tryz.prog
def O : Orc := fun f => bif Nat.beq f 10 then some gLive else bif Nat.beq f 68 then some gCombF else none
def cpartsL : List (List Nat) := [[1, 2, 5, 6, 7, 8]]
def cpartsl0 (s : Bool) (a1 a2 a5 a6 a7 a8 : Value) (h : Hp) (nx : Nat) (N : KVl) (e0 : KVl) (R : KVl) : Prop := RK (vFldA 0 a2) fun x71 => RK (vLd none h x71) fun x72 => RK (bin Q .lss 3 a8 x72) fun x73 => IF x73 (RK (vIx (.slice 1) a7 a8) fun x74 => RK (vLd none h x74) fun x75 => RK (bin Q .eql 2 x75 a8) fun x76 => IF x76 (RK (vLd (some 2) h a2) fun x77 => Cv Q O s 30 [x77, a8] h nx fun x78 h79 n80 => RK (cFld 1 none x78) fun x81 => RK (lenS x81) fun x82 => RK (bin Q .add 3 a6 x82) fun x83 => RK (bin Q .add 3 a8 (.int .i64 1)) fun x86 => N [a1, a2, a5, x83, a7, x86] h79 n80) (RK (bin Q .add 3 a8 (.int .i64 1)) fun x87 => N [a1, a2, a5, a6, a7, x87] h nx)) (e0 [a1, a2, a5, a6, a7, a8] h nx)
def cpartsk0 (s : Bool) (K : KC') (y1 y2 y5 y55 : Value) (h0 : Hp) (n0 : Nat) : Prop := IF y55 (RK (vFldA 0 y5) fun x57 => RK (vLd none h0 x57) fun x58 => RK (bin Q .eql 3 x58 (.int .i64 0)) fun x59 => IF x59 (RK (vFldA 1 y5) fun x60 => RK (vLd none h0 x60) fun x61 => RK (lenS x61) fun x62 => RK (bin Q .eql 3 x62 (.int .i64 0)) fun x63 => K x63 h0 n0) (K (.bool false) h0 n0)) (RK (vLd (some 2) h0 y2) fun x64 => Cv Q O s 23 [x64] h0 n0 fun x65 h66 n67 => Lp (fL Q O s cpartsL 8 0) [y1, y2, y5, (.int .i64 0), x65, (.int .i64 0)] h66 n67 [(0, fun v70 h68 n69 => RK (vLd (some 2) h68 (nv v70 1)) fun x88 => Cv Q O true 34 [x88] h68 n69 fun x89 h90 n91 => n69 ≤ n91 ∧ RK (cFld 1 none x89) fun x92 => RK (lenS x92) fun x93 => RK (bin Q .eql 3 (nv v70 3) x93) fun x94 => IF x94 (RK (vLd (some 2) h90 (nv v70 2)) fun x95 => Cv Q O true 30 [x95, (nv v70 0)] h90 n91 fun x96 h97 n98 => n91 ≤ n98 ∧ RK (vLd (some 2) h97 (nv v70 2)) fun x99 => AGK (fun h => vLd (some 2) h (nv v70 2)) x99 (Cv Q O true 31 [x96, x99] h97 n98 fun x100 h101 n102 => n98 ≤ n102 ∧ K x100 h101 n102) 1 [h90, h68]) (K (.bool false) h90 n91))] (fun _ _ _ => False))
def cpartsk1 (s : Bool) (K : KC') (y1 y2 y5 y42 : Value) (h0 : Hp) (n0 : Nat) : Prop := IF y42 (K (.bool false) h0 n0) (RK (vLd (some 2) h0 y2) fun x48 => Cv Q O s 33 [x48] h0 n0 fun x49 h50 n51 => RK (bin Q .neq 61 x49 (.int .i64 0)) fun x52 => IF x52 ((cpartsk0 s K y1 y2 y5 (.bool true) h50 n51)) (RK (bin Q .lss 3 y1 (.int .i64 0)) fun x53 => IF x53 ((cpartsk0 s K y1 y2 y5 (.bool true) h50 n51)) (RK (vFldA 0 y2) fun x54 => RK (vLd none h50 x54) fun x55 => RK (bin Q .geq 3 y1 x55) fun x56 => (cpartsk0 s K y1 y2 y5 x56 h50 n51))))
def cpartsk2 (s : Bool) (K : KC') (y1 y2 y28 : Value) (h0 : Hp) (n0 : Nat) : Prop := IF y28 (Cv Q O s 10 [] h0 n0 fun x24 h25 n26 => K x24 h25 n26) (RK (vLd (some 2) h0 y2) fun x27 => Cv Q O s 30 [x27, y1] h0 n0 fun x28 h29 n30 => AR (.ok (.ptr (.cells [(.int .i64 0), (.slice none 0 0)] false))) h29 n30 fun p31 h32 n33 => RK (vSt h32 2 p31 x28) fun h34 => Cv Q O true 10 [] h34 n33 fun x35 h36 n37 => n33 ≤ n37 ∧ RK (oUn .not x35) fun x38 => IF x38 ((cpartsk1 s K y1 y2 p31 (.bool true) h36 n37)) (RK (vLd (some 2) h36 y2) fun x39 => Cv Q O true 32 [x39, y1] h36 n37 fun x40 h41 n42 => n37 ≤ n42 ∧ RK (vLd (some 2) h41 p31) fun x43 => AGK (fun h => vLd (some 2) h p31) x43 (Cv Q O true 31 [x43, x40] h41 n42 fun x44 h45 n46 => n42 ≤ n46 ∧ RK (oUn .not x44) fun x47 => (cpartsk1 s K y1 y2 p31 x47 h45 n46)) 1 [h36, h34]))
def cparts (s : Bool) (t0 t1 : Value) (h : Hp) (nx : Nat) (K : KC') : Prop := AR (cellsNB (vcells t0)) h nx fun p1 h2 n3 => RK (vFldA 1 p1) fun x4 => RK (vLd none h2 x4) fun x5 => RK (lenS x5) fun x6 => RK (bin Q .gtr 3 x6 (.int .i64 40)) fun x7 => IF x7 (RK (vFldA 1 p1) fun x8 => RK (vLd none h2 x8) fun x9 => RK (lenS x9) fun x10 => RK (bin Q .leq 3 x10 (.int .i64 65536)) fun x11 => IF x11 ((cpartsk2 s K t1 p1 (.bool true) h2 n3)) (RK (vFldA 0 p1) fun x12 => RK (vLd none h2 x12) fun x13 => RK (bin Q .gtr 3 x13 (.int .i64 30)) fun x14 => IF x14 (RK (vFldA 0 p1) fun x15 => RK (vLd none h2 x15) fun x16 => RK (bin Q .leq 3 x16 (.int .i64 4096)) fun x17 => (cpartsk2 s K t1 p1 x17 h2 n3)) ((cpartsk2 s K t1 p1 (.bool false) h2 n3)))) (RK (vFldA 0 p1) fun x18 => RK (vLd none h2 x18) fun x19 => RK (bin Q .gtr 3 x19 (.int .i64 30)) fun x20 => IF x20 (RK (vFldA 0 p1) fun x21 => RK (vLd none h2 x21) fun x22 => RK (bin Q .leq 3 x22 (.int .i64 4096)) fun x23 => (cpartsk2 s K t1 p1 x23 h2 n3)) ((cpartsk2 s K t1 p1 (.bool false) h2 n3)))
theorem cpartsb0 {s : Bool} {a1 a2 a5 a6 a7 a8 : Value} {h : Hp} {nx : Nat} {N e0 R : KVl} : fL Q O s cpartsL 8 0 [a1, a2, a5, a6, a7, a8] h nx N [(0, e0)] R = cpartsl0 s a1 a2 a5 a6 a7 a8 h nx N e0 R := by kernel_rfl
theorem cpartse {s : Bool} {t0 t1 : Value} {h : Hp} {nx : Nat} {K : KC'} : fF Q O s cpartsL 8 [t0, t1] h nx K = cparts s t0 t1 h nx K := by kernel_rfl
theorem cpartsv {s : Bool} {t0 t1 : Value} {h : Hp} {nx : Nat} {K : KC'} (w : cparts s t0 t1 h nx K) : Cv Q O s 8 [t0, t1] h nx K := Cv.byF cpartsL rfl (by rw [cpartse]; exact w)
def partL : List (List Nat) := []
def partk0 (s : Bool) (K : KC') (y2 y3 y4 y19 : Value) (h0 : Hp) (n0 : Nat) : Prop := IF y19 (RK (vBld [(.int .i64 0), (.slice none 0 0)] []) fun x21 => RK (vSt h0 2 y4 x21) fun h22 => RK (vLd (some 2) h22 y4) fun x23 => K x23 h22 n0) (RK (vLd (some 2) h0 y2) fun x24 => Cv Q O s 48 [x24] h0 n0 fun x25 h26 n27 => AR (.ok (.ptr (.cells [(.slice none 0 0)] false))) h26 n27 fun p28 h29 n30 => RK (vSt h29 1 p28 x25) fun h31 => RK (.ok (.func (.func 54) ⟨[]⟩ ⟨[p28, y3]⟩)) fun x32 => RK (vLd (some 2) h31 y2) fun x33 => Cv Q O true 56 [x33] h31 n30 fun x34 h35 n36 => n30 ≤ n36 ∧ RK (cFld 1 none x34) fun x37 => Cv Q O true 55 [x37, x32] h35 n36 fun x38 h39 n40 => n36 ≤ n40 ∧ RK (vFldA 0 y2) fun x41 => RK (vLd none h39 x41) fun x42 => AGK (fun h => vLd none h x41) x42 (RK (vBld [(.int .i64 0), (.slice none 0 0)] [(0, 1, x42), (1, 1, x38)]) fun x43 => RK (vSt h39 2 y4 x43) fun h44 => RK (vLd (some 2) h44 y4) fun x45 => K x45 h44 n40) 2 [h35, h31])
def part (s : Bool) (t0 t1 : Value) (h : Hp) (nx : Nat) (K : KC') : Prop := AR (cellsNB (vcells t0)) h nx fun p1 h2 n3 => AR (cellsNB (vcells t1)) h2 n3 fun p4 h5 n6 => AR (.ok (.ptr (.cells [(.int .i64 0), (.slice none 0 0)] false))) h5 n6 fun p7 h8 n9 => RK (vLd (some 2) h8 p1) fun x10 => Cv Q O s 47 [x10] h8 n9 fun x11 h12 n13 => RK (bin Q .neq 61 x11 (.int .i64 0)) fun x14 => IF x14 ((partk0 s K p1 p4 p7 (.bool true) h12 n13)) (RK (vLd none h12 p4) fun x15 => RK (bin Q .lss 3 x15 (.int .i64 0)) fun x16 => IF x16 ((partk0 s K p1 p4 p7 (.bool true) h12 n13)) (RK (vLd none h12 p4) fun x17 => RK (vFldA 0 p1) fun x18 => RK (vLd none h12 x18) fun x19 => RK (bin Q .geq 3 x17 x19) fun x20 => (partk0 s K p1 p4 p7 x20 h12 n13)))
theorem parte {s : Bool} {t0 t1 : Value} {h : Hp} {nx : Nat} {K : KC'} : fF Q O s partL 30 [t0, t1] h nx K = part s t0 t1 h nx K := by kernel_rfl
theorem partv {s : Bool} {t0 t1 : Value} {h : Hp} {nx : Nat} {K : KC'} (w : part s t0 t1 h nx K) : Cv Q O s 30 [t0, t1] h nx K := Cv.byF partL rfl (by rw [parte]; exact w)
def smgL : List (List Nat) := []
def smg (s : Bool) (t0 t1 : Value) (h : Hp) (nx : Nat) (K : KC') : Prop := AR (cellsNB (vcells t0)) h nx fun p1 h2 n3 => AR (cellsNB (vcells t1)) h2 n3 fun p4 h5 n6 => RK (vFldA 0 p1) fun x7 => RK (vLd none h5 x7) fun x8 => RK (vFldA 0 p4) fun x9 => RK (vLd none h5 x9) fun x10 => RK (bin Q .eql 3 x8 x10) fun x11 => IF x11 (RK (vFldA 1 p1) fun x12 => RK (vLd none h5 x12) fun x13 => RK (vFldA 1 p4) fun x14 => RK (vLd none h5 x14) fun x15 => Cv Q O s 57 [x13, x15] h5 n6 fun x16 h17 n18 => K x16 h17 n18) (K (.bool false) h5 n6)
theorem smge {s : Bool} {t0 t1 : Value} {h : Hp} {nx : Nat} {K : KC'} : fF Q O s smgL 31 [t0, t1] h nx K = smg s t0 t1 h nx K := by kernel_rfl
theorem smgv {s : Bool} {t0 t1 : Value} {h : Hp} {nx : Nat} {K : KC'} (w : smg s t0 t1 h nx K) : Cv Q O s 31 [t0, t1] h nx K := Cv.byF smgL rfl (by rw [smge]; exact w)
def rpartL : List (List Nat) := [[1, 4, 5, 6, 7, 8]]
def rpartl0 (s : Bool) (a1 a4 a5 a6 a7 a8 : Value) (h : Hp) (nx : Nat) (N : KVl) (e0 : KVl) (R : KVl) : Prop := RK (lenS a7) fun x38 => RK (bin Q .lss 3 a8 x38) fun x39 => IF x39 (RK (vIx (.slice 3) a7 a8) fun x40 => RK (vFldA 0 x40) fun x41 => RK (vLd none h x41) fun x42 => RK (vIx (.slice 1) a5 x42) fun x43 => RK (vLd none h x43) fun x44 => RK (vIx (.slice 1) a5 a1) fun x45 => RK (vLd none h x45) fun x46 => RK (bin Q .eql 2 x44 x46) fun x47 => IF x47 (RK (vFldA 1 a6) fun x48 => RK (vLd none h x48) fun x49 => RK (vIx (.slice 3) a7 a8) fun x50 => RK (vLd (some 3) h x50) fun x51 => AR (vBsl 1 [(.int .i64 0), (.int .i64 0), (.int .i64 0)] [(0, 3, x51)]) h nx fun p52 h53 n54 => EK (orR (appendA 3 h53 n54 x49 p52)) fun x55 h56 n57 => n54 ≤ n57 ∧ RK (vFldA 1 a6) fun x58 => RK (vSt h56 1 x58 x55) fun h59 => RK (bin Q .add 3 a8 (.int .i64 1)) fun x62 => N [a1, a4, a5, a6, a7, x62] h59 n57) (RK (bin Q .add 3 a8 (.int .i64 1)) fun x63 => N [a1, a4, a5, a6, a7, x63] h nx)) (e0 [a1, a4, a5, a6, a7, a8] h nx)
def rpartk0 (s : Bool) (K : KC') (y1 y2 y4 y21 : Value) (h0 : Hp) (n0 : Nat) : Prop := IF y21 (RK (vBld [(.int .i64 0), (.slice none 0 0)] []) fun x16 => RK (vSt h0 2 y4 x16) fun h17 => RK (vLd (some 2) h17 y4) fun x18 => K x18 h17 n0) (RK (vLd (some 2) h0 y2) fun x19 => Cv Q O s 23 [x19] h0 n0 fun x20 h21 n22 => RK (vFldA 0 y2) fun x23 => RK (vLd none h21 x23) fun x24 => RK (vBld [(.int .i64 0), (.slice none 0 0)] [(0, 1, x24)]) fun x25 => AR (.ok (.ptr (.cells [(.int .i64 0), (.slice none 0 0)] false))) h21 n22 fun p26 h27 n28 => RK (vSt h27 2 p26 x25) fun h29 => RK (vLd (some 2) h29 y2) fun x30 => Cv Q O s 34 [x30] h29 n28 fun x31 h32 n33 => RK (cFld 1 none x31) fun x34 => Lp (fL Q O s rpartL 32 0) [y1, y4, x20, p26, x34, (.int .i64 0)] h32 n33 [(0, fun v37 h35 n36 => RK (vLd (some 2) h35 (nv v37 3)) fun x64 => RK (vSt h35 2 (nv v37 1) x64) fun h65 => RK (vLd (some 2) h65 (nv v37 1)) fun x66 => K x66 h65 n36)] (fun _ _ _ => False))
def rpart (s : Bool) (t0 t1 : Value) (h : Hp) (nx : Nat) (K : KC') : Prop := AR (cellsNB (vcells t0)) h nx fun p1 h2 n3 => AR (.ok (.ptr (.cells [(.int .i64 0), (.slice none 0 0)] false))) h2 n3 fun p4 h5 n6 => RK (vLd (some 2) h5 p1) fun x7 => Cv Q O s 33 [x7] h5 n6 fun x8 h9 n10 => RK (bin Q .neq 61 x8 (.int .i64 0)) fun x11 => IF x11 ((rpartk0 s K t1 p1 p4 (.bool true) h9 n10)) (RK (bin Q .lss 3 t1 (.int .i64 0)) fun x12 => IF x12 ((rpartk0 s K t1 p1 p4 (.bool true) h9 n10)) (RK (vFldA 0 p1) fun x13 => RK (vLd none h9 x13) fun x14 => RK (bin Q .geq 3 t1 x14) fun x15 => (rpartk0 s K t1 p1 p4 x15 h9 n10)))
theorem rpartb0 {s : Bool} {a1 a4 a5 a6 a7 a8 : Value} {h : Hp} {nx : Nat} {N e0 R : KVl} : fL Q O s rpartL 32 0 [a1, a4, a5, a6, a7, a8] h nx N [(0, e0)] R = rpartl0 s a1 a4 a5 a6 a7 a8 h nx N e0 R := by kernel_rfl
theorem rparte {s : Bool} {t0 t1 : Value} {h : Hp} {nx : Nat} {K : KC'} : fF Q O s rpartL 32 [t0, t1] h nx K = rpart s t0 t1 h nx K := by kernel_rfl
theorem rpartv {s : Bool} {t0 t1 : Value} {h : Hp} {nx : Nat} {K : KC'} (w : rpart s t0 t1 h nx K) : Cv Q O s 32 [t0, t1] h nx K := Cv.byF rpartL rfl (by rw [rparte]; exact w)
def rcanonL : List (List Nat) := []
def rcanon (s : Bool) (t0 : Value) (h : Hp) (nx : Nat) (K : KC') : Prop := AR (cellsNB (vcells t0)) h nx fun p1 h2 n3 => AR (.ok (.ptr (.cells [(.int .i64 0), (.slice none 0 0)] false))) h2 n3 fun p4 h5 n6 => RK (vFldA 1 p1) fun x7 => RK (vLd none h5 x7) fun x8 => Cv Q O s 58 [(.int .i64 1), x8] h5 n6 fun x9 h10 n11 => RK (oExtract x9 0) fun x12 => RK (oExtract x9 1) fun x13 => RK (vFldA 0 p1) fun x14 => RK (vLd none h10 x14) fun x15 => RK (vBld [(.int .i64 0), (.slice none 0 0)] [(0, 1, x15), (1, 1, x12)]) fun x16 => RK (vSt h10 2 p4 x16) fun h17 => RK (vLd (some 2) h17 p4) fun x18 => K x18 h17 n11
theorem rcanone {s : Bool} {t0 : Value} {h : Hp} {nx : Nat} {K : KC'} : fF Q O s rcanonL 34 [t0] h nx K = rcanon s t0 h nx K := by kernel_rfl
theorem rcanonv {s : Bool} {t0 : Value} {h : Hp} {nx : Nat} {K : KC'} (w : rcanon s t0 h nx K) : Cv Q O s 34 [t0] h nx K := Cv.byF rcanonL rfl (by rw [rcanone]; exact w)
def grownL : List (List Nat) := [[1, 3, 13, 14], [3, 23, 24, 25]]
def grownl0 (s : Bool) (a1 a3 a13 a14 : Value) (h : Hp) (nx : Nat) (N : KVl) (e0 : KVl) (R : KVl) : Prop := RK (bin Q .lss 3 a14 a13) fun x13 => IF x13 (RK (vIx (.slice 1) a3 a14) fun x14 => RK (vSt h 1 x14 a14) fun h15 => RK (bin Q .add 3 a14 (.int .i64 1)) fun x16 => N [a1, a3, a13, x16] h15 nx) (e0 [a1, a3, a13, a14] h nx)
def grownl1 (s : Bool) (a3 a23 a24 a25 : Value) (h : Hp) (nx : Nat) (N : KVl) (e2 : KVl) (R : KVl) : Prop := RK (bin Q .lss 3 a25 a24) fun x23 => IF x23 (RK (vIx (.slice 3) a23 a25) fun x24 => RK (vLd (some 3) h x24) fun x25 => AR (.ok (.ptr (.cells [(.int .i64 0), (.int .i64 0), (.int .i64 0)] false))) h nx fun p26 h27 n28 => RK (vSt h27 3 p26 x25) fun h29 => RK (vFldA 0 p26) fun x30 => RK (vLd none h29 x30) fun x31 => Cv Q O true 49 [a3, x31] h29 n28 fun x32 h33 n34 => n28 ≤ n34 ∧ RK (vFldA 1 p26) fun x35 => RK (vLd none h33 x35) fun x36 => AGK (fun h => vLd none h x35) x36 (Cv Q O true 49 [a3, x36] h33 n34 fun x37 h38 n39 => n34 ≤ n39 ∧ RK (min2 false x32 x37) fun x40 => RK (min2 true x32 x37) fun x41 => RK (vIx (.slice 1) a3 x40) fun x42 => RK (vSt h38 1 x42 x41) fun h43 => RK (bin Q .add 3 a25 (.int .i64 1)) fun x44 => N [a3, a23, a24, x44] h43 n39) 1 [h29]) (e2 [a3, a23, a24, a25] h nx)
def grown (s : Bool) (t0 : Value) (h : Hp) (nx : Nat) (K : KC') : Prop := AR (cellsNB (vcells t0)) h nx fun p1 h2 n3 => RK (vFldA 0 p1) fun x4 => RK (vLd none h2 x4) fun x5 => AR (vMks [(.int .i64 0)] x5 x5) h2 n3 fun p6 h7 n8 => RK (lenS p6) fun x9 => Lp (fL Q O s grownL 48 0) [p1, p6, x9, (.int .i64 0)] h7 n8 [(0, fun v12 h10 n11 => RK (vFldA 1 (nv v12 0)) fun x17 => RK (vLd none h10 x17) fun x18 => RK (lenS x18) fun x19 => Lp (fL Q O s grownL 48 1) [(nv v12 1), x18, x19, (.int .i64 0)] h10 n11 [(2, fun v22 h20 n21 => K (nv v22 0) h20 n21)] (fun _ _ _ => False))] (fun _ _ _ => False)
theorem grownb0 {s : Bool} {a1 a3 a13 a14 : Value} {h : Hp} {nx : Nat} {N e0 R : KVl} : fL Q O s grownL 48 0 [a1, a3, a13, a14] h nx N [(0, e0)] R = grownl0 s a1 a3 a13 a14 h nx N e0 R := by kernel_rfl
theorem grownb1 {s : Bool} {a3 a23 a24 a25 : Value} {h : Hp} {nx : Nat} {N e2 R : KVl} : fL Q O s grownL 48 1 [a3, a23, a24, a25] h nx N [(2, e2)] R = grownl1 s a3 a23 a24 a25 h nx N e2 R := by kernel_rfl
theorem growne {s : Bool} {t0 : Value} {h : Hp} {nx : Nat} {K : KC'} : fF Q O s grownL 48 [t0] h nx K = grown s t0 h nx K := by kernel_rfl
theorem grownv {s : Bool} {t0 : Value} {h : Hp} {nx : Nat} {K : KC'} (w : grown s t0 h nx K) : Cv Q O s 48 [t0] h nx K := Cv.byF grownL rfl (by rw [growne]; exact w)
def rootL : List (List Nat) := []
def root (s : Bool) (t0 t1 : Value) (h : Hp) (nx : Nat) (K : KC') : Prop := RK (vIx (.slice 1) t0 t1) fun x1 => RK (vLd none h x1) fun x2 => RK (bin Q .neq 3 x2 t1) fun x3 => IF x3 (RK (vIx (.slice 1) t0 t1) fun x4 => RK (vLd none h x4) fun x5 => Cv Q O s 49 [t0, x5] h nx fun x6 h7 n8 => RK (vIx (.slice 1) t0 t1) fun x9 => RK (vSt h7 1 x9 x6) fun h10 => RK (vIx (.slice 1) t0 t1) fun x13 => RK (vLd none h10 x13) fun x14 => K x14 h10 n8) (RK (vIx (.slice 1) t0 t1) fun x15 => RK (vLd none h x15) fun x16 => K x16 h nx)
theorem roote {s : Bool} {t0 t1 : Value} {h : Hp} {nx : Nat} {K : KC'} : fF Q O s rootL 49 [t0, t1] h nx K = root s t0 t1 h nx K := by kernel_rfl
theorem rootv {s : Bool} {t0 t1 : Value} {h : Hp} {nx : Nat} {K : KC'} (w : root s t0 t1 h nx K) : Cv Q O s 49 [t0, t1] h nx K := Cv.byF rootL rfl (by rw [roote]; exact w)
def part1L : List (List Nat) := []
def part1 (s : Bool) (t0 t1 t2 : Value) (h : Hp) (nx : Nat) (K : KC') : Prop := AR (cellsNB (vcells t0)) h nx fun p1 h2 n3 => RK (vLd none h2 t1) fun x4 => RK (vFldA 0 p1) fun x5 => RK (vLd none h2 x5) fun x6 => Cv Q O true 49 [x4, x6] h2 n3 fun x7 h8 n9 => n3 ≤ n9 ∧ RK (vLd none h8 t1) fun x10 => AGK (fun h => vLd none h t1) x10 (RK (vLd none h8 t2) fun x11 => AGK (fun h => vLd none h t2) x11 (Cv Q O true 49 [x10, x11] h8 n9 fun x12 h13 n14 => n9 ≤ n14 ∧ RK (bin Q .neq 3 x7 x12) fun x15 => K x15 h13 n14) 1 [h2]) 1 [h2]
theorem part1e {s : Bool} {t0 t1 t2 : Value} {h : Hp} {nx : Nat} {K : KC'} : fF Q O s part1L 54 [t0, t1, t2] h nx K = part1 s t0 t1 t2 h nx K := by kernel_rfl
theorem part1v {s : Bool} {t0 t1 t2 : Value} {h : Hp} {nx : Nat} {K : KC'} (w : part1 s t0 t1 t2 h nx K) : Cv Q O s 54 [t0, t1, t2] h nx K := Cv.byF part1L rfl (by rw [part1e]; exact w)
def delfL : List (List Nat) := [[0, 1, 5, 6]]
def delfl0 (s : Bool) (a0 a1 a5 a6 : Value) (h : Hp) (nx : Nat) (N : KVl) (e0 : KVl) (R : KVl) : Prop := RK (lenS a0) fun x9 => RK (bin Q .lss 3 a6 x9) fun x10 => IF x10 (RK (vIx (.slice 3) a0 a6) fun x11 => RK (vLd (some 3) h x11) fun x12 => AR (.ok (.ptr (.cells [(.int .i64 0), (.int .i64 0), (.int .i64 0)] false))) h nx fun p13 h14 n15 => RK (vSt h14 3 p13 x12) fun h16 => RK (vLd (some 3) h16 p13) fun x17 => CVK Q O s (callV h16 n15 [x17] a1) fun x18 h19 n20 => RK (oUn .not x18) fun x21 => IF x21 (RK (vLd (some 3) h19 p13) fun x22 => RK (vIx (.slice 3) a0 a5) fun x23 => RK (vSt h19 3 x23 x22) fun h24 => RK (bin Q .add 3 a5 (.int .i64 1)) fun x25 => RK (bin Q .add 3 a6 (.int .i64 1)) fun x28 => N [a0, a1, x25, x28] h24 n20) (RK (bin Q .add 3 a6 (.int .i64 1)) fun x29 => N [a0, a1, a5, x29] h19 n20)) (e0 [a0, a1, a5, a6] h nx)
def delf (s : Bool) (t0 t1 : Value) (h : Hp) (nx : Nat) (K : KC') : Prop := Cv Q O s 67 [t0, t1] h nx fun x1 h2 n3 => RK (bin Q .eql 3 x1 (.int .i64 (-1))) fun x4 => IF x4 (K t0 h2 n3) (RK (bin Q .add 3 x1 (.int .i64 1)) fun x5 => Lp (fL Q O s delfL 55 0) [t0, t1, x1, x5] h2 n3 [(0, fun v8 h6 n7 => RK (vSl 3 (nv v8 0) (some (nv v8 2)) none none) fun x30 => EK (orR (builtinA Q .clear [22] h6 n7 [x30])) fun x31 h32 n33 => RK (vSl 3 (nv v8 0) none (some (nv v8 2)) none) fun x34 => K x34 h32 n33)] (fun _ _ _ => False))
theorem delfb0 {s : Bool} {a0 a1 a5 a6 : Value} {h : Hp} {nx : Nat} {N e0 R : KVl} : fL Q O s delfL 55 0 [a0, a1, a5, a6] h nx N [(0, e0)] R = delfl0 s a0 a1 a5 a6 h nx N e0 R := by kernel_rfl
theorem delfe {s : Bool} {t0 t1 : Value} {h : Hp} {nx : Nat} {K : KC'} : fF Q O s delfL 55 [t0, t1] h nx K = delf s t0 t1 h nx K := by kernel_rfl
theorem delfv {s : Bool} {t0 t1 : Value} {h : Hp} {nx : Nat} {K : KC'} (w : delf s t0 t1 h nx K) : Cv Q O s 55 [t0, t1] h nx K := Cv.byF delfL rfl (by rw [delfe]; exact w)
def smeL : List (List Nat) := [[0, 1, 4, 5]]
def smel0 (s : Bool) (a0 a1 a4 a5 : Value) (h : Hp) (nx : Nat) (N : KVl) (e0 : KVl) (R : KVl) : Prop := RK (lenS a0) fun x10 => RK (bin Q .lss 3 a5 x10) fun x11 => IF x11 (RK (vIx (.slice 3) a0 a5) fun x12 => RK (vLd (some 3) h x12) fun x13 => RK (vIx (.slice 3) a1 a5) fun x14 => RK (vLd (some 3) h x14) fun x15 => RK (bin Q .neq 52 x13 x15) fun x16 => IF x16 (R [a0, a1, (.bool false), a5] h nx) (RK (bin Q .add 3 a5 (.int .i64 1)) fun x17 => N [a0, a1, a4, x17] h nx)) (e0 [a0, a1, a4, a5] h nx)
def sme (s : Bool) (t0 t1 : Value) (h : Hp) (nx : Nat) (K : KC') : Prop := RK (lenS t0) fun x1 => RK (lenS t1) fun x2 => RK (bin Q .neq 3 x1 x2) fun x3 => IF x3 (K (.bool false) h nx) (Lp (fL Q O s smeL 57 0) [t0, t1, (.bool false), (.int .i64 0)] h nx [(0, fun v6 h4 n5 => K (.bool true) h4 n5)] (fun v9 h7 n8 => K (nv v9 2) h7 n8))
theorem smeb0 {s : Bool} {a0 a1 a4 a5 : Value} {h : Hp} {nx : Nat} {N e0 R : KVl} : fL Q O s smeL 57 0 [a0, a1, a4, a5] h nx N [(0, e0)] R = smel0 s a0 a1 a4 a5 h nx N e0 R := by kernel_rfl
theorem smee {s : Bool} {t0 t1 : Value} {h : Hp} {nx : Nat} {K : KC'} : fF Q O s smeL 57 [t0, t1] h nx K = sme s t0 t1 h nx K := by kernel_rfl
theorem smev {s : Bool} {t0 t1 : Value} {h : Hp} {nx : Nat} {K : KC'} (w : sme s t0 t1 h nx K) : Cv Q O s 57 [t0, t1] h nx K := Cv.byF smeL rfl (by rw [smee]; exact w)
def rcombL : List (List Nat) := [[0, 1, 4, 5, 6, 7, 8], [0, 1, 4, 5, 6, 7, 8, 9], [0, 1, 4, 5, 6, 7, 8, 9, 10, 11], [4, 5, 6, 7, 12]]
def rcombl1 (s : Bool) (a0 a1 a4 a5 a6 a7 a8 a9 : Value) (h : Hp) (nx : Nat) (N : KVl) (e2 : KVl) (R : KVl) : Prop := RK (lenS a6) fun x13 => RK (bin Q .lss 3 a9 x13) fun x14 => IF x14 (RK (vIx (.slice 3) a6 a9) fun x15 => RK (vLd (some 3) h x15) fun x16 => RK (vIx (.slice 3) a1 a8) fun x17 => RK (vLd (some 3) h x17) fun x18 => Cv Q O true 70 [x16, x18] h nx fun x19 h20 n21 => nx ≤ n21 ∧ IF x19 (RK (bin Q .add 3 a9 (.int .i64 1)) fun x23 => N [a0, a1, a4, a5, a6, a7, a8, x23] h20 n21) (e2 [a0, a1, a4, a5, a6, a7, a8, a9] h20 n21)) (e2 [a0, a1, a4, a5, a6, a7, a8, a9] h nx)
def rcombl2 (s : Bool) (a0 a1 a4 a5 a6 a7 a8 a9 a10 a11 : Value) (h : Hp) (nx : Nat) (N : KVl) (e4 : KVl) (R : KVl) : Prop := RK (bin Q .gtr 3 a11 a9) fun x71 => IF x71 (RK (bin Q .sub 3 a11 (.int .i64 1)) fun x72 => RK (vIx (.slice 3) a6 x72) fun x73 => RK (vLd (some 3) h x73) fun x74 => RK (vIx (.slice 3) a6 a11) fun x75 => RK (vSt h 3 x75 x74) fun h76 => RK (bin Q .sub 3 a11 (.int .i64 1)) fun x77 => RK (vIx (.slice 2) a7 x77) fun x78 => RK (vLd (some 2) h76 x78) fun x79 => RK (vIx (.slice 2) a7 a11) fun x80 => RK (vSt h76 2 x80 x79) fun h81 => RK (bin Q .sub 3 a11 (.int .i64 1)) fun x82 => N [a0, a1, a4, a5, a6, a7, a8, a9, a10, x82] h81 nx) (e4 [a0, a1, a4, a5, a6, a7, a8, a9, a10, a11] h nx)
def rcombk0 (s : Bool) (N : KVl) (e0 : KVl) (R : KVl) (y0 y1 y4 y5 y6 y7 y8 : Value) (h0 : Hp) (n0 : Nat) : Prop := RK (bin Q .add 3 y8 (.int .i64 1)) fun x126 => N [y0, y1, y4, y5, y6, y7, x126] h0 n0
def rcombl0 (s : Bool) (a0 a1 a4 a5 a6 a7 a8 : Value) (h : Hp) (nx : Nat) (N : KVl) (e0 : KVl) (R : KVl) : Prop := RK (lenS a1) fun x8 => RK (bin Q .lss 3 a8 x8) fun x9 => IF x9 (Lp (fL Q O s rcombL 58 1) [a0, a1, a4, a5, a6, a7, a8, (.int .i64 0)] h nx [(2, fun v12 h10 n11 => RK (vIx (.slice 3) (nv v12 1) (nv v12 6)) fun x24 => RK (vFldA 2 x24) fun x25 => RK (vLd none h10 x25) fun x26 => Cv Q O s 71 [x26] h10 n11 fun x27 h28 n29 => AR (.ok (.ptr (.cells [(.int .i64 0), (.int .u64 0)] false))) h28 n29 fun p30 h31 n32 => RK (vSt h31 2 p30 x27) fun h33 => RK (lenS (nv v12 4)) fun x34 => RK (bin Q .lss 3 (nv v12 7) x34) fun x35 => IF x35 (RK (vIx (.slice 3) (nv v12 1) (nv v12 6)) fun x36 => RK (vLd (some 3) h33 x36) fun x37 => RK (vIx (.slice 3) (nv v12 4) (nv v12 7)) fun x38 => RK (vLd (some 3) h33 x38) fun x39 => Cv Q O true 70 [x37, x39] h33 n32 fun x40 h41 n42 => n32 ≤ n42 ∧ RK (oUn .not x40) fun x43 => IF x43 (RK (vIx (.slice 2) (nv v12 5) (nv v12 7)) fun x44 => RK (vLd (some 2) h41 x44) fun x45 => RK (vLd (some 2) h41 p30) fun x46 => Cv Q O true 72 [(nv v12 0), x45, x46] h41 n42 fun x47 h48 n49 => n42 ≤ n49 ∧ RK (vIx (.slice 2) (nv v12 5) (nv v12 7)) fun x50 => RK (vSt h48 2 x50 x47) fun h51 => (rcombk0 s N e0 R (nv v12 0) (nv v12 1) (nv v12 2) (nv v12 3) (nv v12 4) (nv v12 5) (nv v12 6) h51 n49)) (RK (vBld [(.int .i64 0), (.int .i64 0), (.int .i64 0)] []) fun x52 => AR (vBsl 1 [(.int .i64 0), (.int .i64 0), (.int .i64 0)] [(0, 3, x52)]) h41 n42 fun p53 h54 n55 => EK (orR (appendA 3 h54 n55 (nv v12 4) p53)) fun x56 h57 n58 => RK (vBld [(.int .i64 0), (.int .u64 0)] []) fun x59 => AR (vBsl 1 [(.int .i64 0), (.int .u64 0)] [(0, 2, x59)]) h57 n58 fun p60 h61 n62 => EK (orR (appendA 2 h61 n62 (nv v12 5) p60)) fun x63 h64 n65 => RK (lenS x56) fun x66 => RK (bin Q .sub 3 x66 (.int .i64 1)) fun x67 => Lp (fL Q O s rcombL 58 2) [(nv v12 0), (nv v12 1), (nv v12 2), (nv v12 3), x56, x63, (nv v12 6), (nv v12 7), p30, x67] h64 n65 [(4, fun v70 h68 n69 => RK (vIx (.slice 3) (nv v70 1) (nv v70 6)) fun x83 => RK (vFldA 0 x83) fun x84 => RK (vLd none h68 x84) fun x85 => RK (vIx (.slice 3) (nv v70 1) (nv v70 6)) fun x86 => RK (vFldA 1 x86) fun x87 => RK (vLd none h68 x87) fun x88 => RK (vBld [(.int .i64 0), (.int .i64 0), (.int .i64 0)] [(0, 1, x85), (1, 1, x88)]) fun x89 => RK (vIx (.slice 3) (nv v70 4) (nv v70 7)) fun x90 => RK (vSt h68 3 x90 x89) fun h91 => RK (vLd (some 2) h91 (nv v70 8)) fun x92 => RK (vIx (.slice 2) (nv v70 5) (nv v70 7)) fun x93 => RK (vSt h91 2 x93 x92) fun h94 => (rcombk0 s N e0 R (nv v70 0) (nv v70 1) (nv v70 2) (nv v70 3) (nv v70 4) (nv v70 5) (nv v70 6) h94 n69))] (fun _ _ _ => False))) (RK (vBld [(.int .i64 0), (.int .i64 0), (.int .i64 0)] []) fun x95 => AR (vBsl 1 [(.int .i64 0), (.int .i64 0), (.int .i64 0)] [(0, 3, x95)]) h33 n32 fun p96 h97 n98 => EK (orR (appendA 3 h97 n98 (nv v12 4) p96)) fun x99 h100 n101 => RK (vBld [(.int .i64 0), (.int .u64 0)] []) fun x102 => AR (vBsl 1 [(.int .i64 0), (.int .u64 0)] [(0, 2, x102)]) h100 n101 fun p103 h104 n105 => EK (orR (appendA 2 h104 n105 (nv v12 5) p103)) fun x106 h107 n108 => RK (lenS x99) fun x109 => RK (bin Q .sub 3 x109 (.int .i64 1)) fun x110 => Lp (fL Q O s rcombL 58 2) [(nv v12 0), (nv v12 1), (nv v12 2), (nv v12 3), x99, x106, (nv v12 6), (nv v12 7), p30, x110] h107 n108 [(4, fun v113 h111 n112 => RK (vIx (.slice 3) (nv v113 1) (nv v113 6)) fun x114 => RK (vFldA 0 x114) fun x115 => RK (vLd none h111 x115) fun x116 => RK (vIx (.slice 3) (nv v113 1) (nv v113 6)) fun x117 => RK (vFldA 1 x117) fun x118 => RK (vLd none h111 x118) fun x119 => RK (vBld [(.int .i64 0), (.int .i64 0), (.int .i64 0)] [(0, 1, x116), (1, 1, x119)]) fun x120 => RK (vIx (.slice 3) (nv v113 4) (nv v113 7)) fun x121 => RK (vSt h111 3 x121 x120) fun h122 => RK (vLd (some 2) h122 (nv v113 8)) fun x123 => RK (vIx (.slice 2) (nv v113 5) (nv v113 7)) fun x124 => RK (vSt h122 2 x124 x123) fun h125 => (rcombk0 s N e0 R (nv v113 0) (nv v113 1) (nv v113 2) (nv v113 3) (nv v113 4) (nv v113 5) (nv v113 6) h125 n112))] (fun _ _ _ => False)))] (fun _ _ _ => False)) (e0 [a0, a1, a4, a5, a6, a7, a8] h nx)
def rcombl3 (s : Bool) (a4 a5 a6 a7 a12 : Value) (h : Hp) (nx : Nat) (N : KVl) (e6 : KVl) (R : KVl) : Prop := RK (lenS a6) fun x133 => RK (bin Q .lss 3 a12 x133) fun x134 => IF x134 (RK (vIx (.slice 2) a7 a12) fun x135 => RK (vLd (some 2) h x135) fun x136 => Cv Q O s 73 [x136] h nx fun x137 h138 n139 => RK (oExtract x137 0) fun x140 => RK (oExtract x137 1) fun x141 => RK (oUn .not x141) fun x142 => IF x142 (R [(.slice none 0 0), (.int .i64 12), a6, a7, a12] h138 n139) (RK (vIx (.slice 3) a6 a12) fun x143 => RK (vFldA 2 x143) fun x144 => RK (vSt h138 1 x144 x140) fun h145 => RK (bin Q .add 3 a12 (.int .i64 1)) fun x146 => N [a4, a5, a6, a7, x146] h145 n139)) (e6 [a4, a5, a6, a7, a12] h nx)
def rcomb (s : Bool) (t0 t1 : Value) (h : Hp) (nx : Nat) (K : KC') : Prop := Cv Q O s 69 [t0] h nx fun x1 h2 n3 => RK (oUn .not x1) fun x4 => IF x4 (K (.tuple ⟨[(.slice none 0 0), (.int .i64 8)]⟩) h2 n3) (Lp (fL Q O s rcombL 58 0) [t0, t1, (.slice none 0 0), (.int .i64 0), (.slice none 0 0), (.slice none 0 0), (.int .i64 0)] h2 n3 [(0, fun v7 h5 n6 => Lp (fL Q O s rcombL 58 3) [(nv v7 2), (nv v7 3), (nv v7 4), (nv v7 5), (.int .i64 0)] h5 n6 [(6, fun v129 h127 n128 => K (.tuple ⟨[(nv v129 2), (.int .i64 0)]⟩) h127 n128)] (fun v132 h130 n131 => K (.tuple ⟨[(nv v132 0), (nv v132 1)]⟩) h130 n131))] (fun _ _ _ => False))
theorem rcombb1 {s : Bool} {a0 a1 a4 a5 a6 a7 a8 a9 : Value} {h : Hp} {nx : Nat} {N e2 R : KVl} : fL Q O s rcombL 58 1 [a0, a1, a4, a5, a6, a7, a8, a9] h nx N [(2, e2)] R = rcombl1 s a0 a1 a4 a5 a6 a7 a8 a9 h nx N e2 R := by kernel_rfl
theorem rcombb2 {s : Bool} {a0 a1 a4 a5 a6 a7 a8 a9 a10 a11 : Value} {h : Hp} {nx : Nat} {N e4 R : KVl} : fL Q O s rcombL 58 2 [a0, a1, a4, a5, a6, a7, a8, a9, a10, a11] h nx N [(4, e4)] R = rcombl2 s a0 a1 a4 a5 a6 a7 a8 a9 a10 a11 h nx N e4 R := by kernel_rfl
theorem rcombb0 {s : Bool} {a0 a1 a4 a5 a6 a7 a8 : Value} {h : Hp} {nx : Nat} {N e0 R : KVl} : fL Q O s rcombL 58 0 [a0, a1, a4, a5, a6, a7, a8] h nx N [(0, e0)] R = rcombl0 s a0 a1 a4 a5 a6 a7 a8 h nx N e0 R := by kernel_rfl
theorem rcombb3 {s : Bool} {a4 a5 a6 a7 a12 : Value} {h : Hp} {nx : Nat} {N e6 R : KVl} : fL Q O s rcombL 58 3 [a4, a5, a6, a7, a12] h nx N [(6, e6)] R = rcombl3 s a4 a5 a6 a7 a12 h nx N e6 R := by kernel_rfl
theorem rcombe {s : Bool} {t0 t1 : Value} {h : Hp} {nx : Nat} {K : KC'} : fF Q O s rcombL 58 [t0, t1] h nx K = rcomb s t0 t1 h nx K := by kernel_rfl
theorem rcombv {s : Bool} {t0 t1 : Value} {h : Hp} {nx : Nat} {K : KC'} (w : rcomb s t0 t1 h nx K) : Cv Q O s 58 [t0, t1] h nx K := Cv.byF rcombL rfl (by rw [rcombe]; exact w)
def risL : List (List Nat) := []
def ris (s : Bool) (t0 : Value) (h : Hp) (nx : Nat) (K : KC') : Prop := RK (bin Q .geq 93 t0 (.int .i64 1)) fun x1 => IF x1 (RK (bin Q .leq 93 t0 (.int .i64 5)) fun x2 => K x2 h nx) (K (.bool false) h nx)
theorem rise {s : Bool} {t0 : Value} {h : Hp} {nx : Nat} {K : KC'} : fF Q O s risL 69 [t0] h nx K = ris s t0 h nx K := by kernel_rfl
theorem risv {s : Bool} {t0 : Value} {h : Hp} {nx : Nat} {K : KC'} (w : ris s t0 h nx K) : Cv Q O s 69 [t0] h nx K := Cv.byF risL rfl (by rw [rise]; exact w)
def belowL : List (List Nat) := []
def below (s : Bool) (t0 t1 : Value) (h : Hp) (nx : Nat) (K : KC') : Prop := AR (cellsNB (vcells t0)) h nx fun p1 h2 n3 => AR (cellsNB (vcells t1)) h2 n3 fun p4 h5 n6 => RK (vFldA 0 p1) fun x7 => RK (vLd none h5 x7) fun x8 => RK (vFldA 0 p4) fun x9 => RK (vLd none h5 x9) fun x10 => RK (bin Q .lss 3 x8 x10) fun x11 => IF x11 (K (.bool true) h5 n6) (RK (vFldA 0 p1) fun x12 => RK (vLd none h5 x12) fun x13 => RK (vFldA 0 p4) fun x14 => RK (vLd none h5 x14) fun x15 => RK (bin Q .eql 3 x13 x15) fun x16 => IF x16 (RK (vFldA 1 p1) fun x17 => RK (vLd none h5 x17) fun x18 => RK (vFldA 1 p4) fun x19 => RK (vLd none h5 x19) fun x20 => RK (bin Q .lss 3 x18 x20) fun x21 => K x21 h5 n6) (K (.bool false) h5 n6))
theorem belowe {s : Bool} {t0 t1 : Value} {h : Hp} {nx : Nat} {K : KC'} : fF Q O s belowL 70 [t0, t1] h nx K = below s t0 t1 h nx K := by kernel_rfl
theorem belowv {s : Bool} {t0 t1 : Value} {h : Hp} {nx : Nat} {K : KC'} (w : below s t0 t1 h nx K) : Cv Q O s 70 [t0, t1] h nx K := Cv.byF belowL rfl (by rw [belowe]; exact w)
def rofL : List (List Nat) := []
def rof (s : Bool) (t0 : Value) (h : Hp) (nx : Nat) (K : KC') : Prop := AR (.ok (.ptr (.cells [(.int .i64 0), (.int .u64 0)] false))) h nx fun p1 h2 n3 => RK (bin Q .lss 2 t0 (.int .i64 0)) fun x4 => IF x4 (RK (oConv (.int .u64) t0) fun x5 => RK (vBld [(.int .i64 0), (.int .u64 0)] [(0, 1, (.int .i64 (-1))), (1, 1, x5)]) fun x6 => RK (vSt h2 2 p1 x6) fun h7 => RK (vLd (some 2) h7 p1) fun x8 => K x8 h7 n3) (RK (oConv (.int .u64) t0) fun x9 => RK (vBld [(.int .i64 0), (.int .u64 0)] [(1, 1, x9)]) fun x10 => RK (vSt h2 2 p1 x10) fun h11 => RK (vLd (some 2) h11 p1) fun x12 => K x12 h11 n3)
theorem rofe {s : Bool} {t0 : Value} {h : Hp} {nx : Nat} {K : KC'} : fF Q O s rofL 71 [t0] h nx K = rof s t0 h nx K := by kernel_rfl
theorem rofv {s : Bool} {t0 : Value} {h : Hp} {nx : Nat} {K : KC'} (w : rof s t0 h nx K) : Cv Q O s 71 [t0] h nx K := Cv.byF rofL rfl (by rw [rofe]; exact w)
def raddL : List (List Nat) := []
def raddk0 (s : Bool) (K : KC') (y4 y5 y6 y7 y9 : Value) (h0 : Hp) (n0 : Nat) : Prop := IF y9 (RK (vLd (some 2) h0 y5) fun x13 => RK (vLd (some 2) h0 y4) fun x14 => Cv Q O s 86 [x13, x14] h0 n0 fun x15 h16 n17 => RK (bin Q .lss 3 x15 (.int .i64 0)) fun x18 => IF x18 (RK (vLd (some 2) h16 y5) fun x19 => RK (vSt h16 2 y6 x19) fun h20 => RK (vLd (some 2) h20 y6) fun x21 => K x21 h20 n17) (RK (vLd (some 2) h16 y4) fun x22 => RK (vSt h16 2 y6 x22) fun h23 => RK (vLd (some 2) h23 y6) fun x24 => K x24 h23 n17)) (RK (bin Q .eql 93 y7 (.int .i64 2)) fun x25 => IF x25 (RK (vLd (some 2) h0 y4) fun x26 => RK (vBld [(.int .i64 0), (.int .u64 0)] []) fun x27 => RK (bin Q .neq 112 x26 x27) fun x28 => IF x28 (Cv Q O s 87 [(.bool true)] h0 n0 fun x29 h30 n31 => RK (vSt h30 2 y6 x29) fun h32 => RK (vLd (some 2) h32 y6) fun x41 => K x41 h32 n31) (RK (vLd (some 2) h0 y5) fun x33 => RK (vBld [(.int .i64 0), (.int .u64 0)] []) fun x34 => RK (bin Q .neq 112 x33 x34) fun x35 => Cv Q O s 87 [x35] h0 n0 fun x36 h37 n38 => RK (vSt h37 2 y6 x36) fun h39 => RK (vLd (some 2) h39 y6) fun x42 => K x42 h39 n38)) (RK (bin Q .eql 93 y7 (.int .i64 5)) fun x43 => IF x43 (RK (vLd (some 2) h0 y4) fun x44 => RK (vLd (some 2) h0 y5) fun x45 => Cv Q O s 88 [x44, x45] h0 n0 fun x46 h47 n48 => RK (vSt h47 2 y6 x46) fun h49 => RK (vLd (some 2) h49 y6) fun x50 => K x50 h49 n48) (RK (vBld [(.int .i64 0), (.int .u64 0)] []) fun x51 => RK (vSt h0 2 y6 x51) fun h52 => RK (vLd (some 2) h52 y6) fun x53 => K x53 h52 n0)))
def radd (s : Bool) (t0 t1 t2 : Value) (h : Hp) (nx : Nat) (K : KC') : Prop := AR (cellsNB (vcells t1)) h nx fun p1 h2 n3 => AR (cellsNB (vcells t2)) h2 n3 fun p4 h5 n6 => AR (.ok (.ptr (.cells [(.int .i64 0), (.int .u64 0)] false))) h5 n6 fun p7 h8 n9 => RK (bin Q .eql 93 t0 (.int .i64 1)) fun x10 => IF x10 ((raddk0 s K p1 p4 p7 t0 (.bool true) h8 n9)) (RK (bin Q .eql 93 t0 (.int .i64 3)) fun x11 => IF x11 ((raddk0 s K p1 p4 p7 t0 (.bool true) h8 n9)) (RK (bin Q .eql 93 t0 (.int .i64 4)) fun x12 => (raddk0 s K p1 p4 p7 t0 x12 h8 n9)))
theorem radde {s : Bool} {t0 t1 t2 : Value} {h : Hp} {nx : Nat} {K : KC'} : fF Q O s raddL 72 [t0, t1, t2] h nx K = radd s t0 t1 t2 h nx K := by kernel_rfl
theorem raddv {s : Bool} {t0 t1 t2 : Value} {h : Hp} {nx : Nat} {K : KC'} (w : radd s t0 t1 t2 h nx K) : Cv Q O s 72 [t0, t1, t2] h nx K := Cv.byF raddL rfl (by rw [radde]; exact w)
def rnarrowL : List (List Nat) := []
def rnarrowk0 (s : Bool) (K : KC') (y4 y23 : Value) (h0 : Hp) (n0 : Nat) : Prop := IF y23 (K (.tuple ⟨[y4, (.bool true)]⟩) h0 n0) (K (.tuple ⟨[(.int .i64 0), (.bool false)]⟩) h0 n0)
def rnarrow (s : Bool) (t0 : Value) (h : Hp) (nx : Nat) (K : KC') : Prop := AR (cellsNB (vcells t0)) h nx fun p1 h2 n3 => RK (vFldA 1 p1) fun x4 => RK (vLd none h2 x4) fun x5 => RK (oConv (.int .i64) x5) fun x6 => RK (vFldA 0 p1) fun x7 => RK (vLd none h2 x7) fun x8 => RK (bin Q .eql 2 x8 (.int .i64 0)) fun x9 => IF x9 (RK (bin Q .geq 2 x6 (.int .i64 0)) fun x10 => IF x10 ((rnarrowk0 s K x6 (.bool true) h2 n3)) (RK (vFldA 0 p1) fun x11 => RK (vLd none h2 x11) fun x12 => RK (bin Q .eql 2 x12 (.int .i64 (-1))) fun x13 => IF x13 (RK (bin Q .lss 2 x6 (.int .i64 0)) fun x14 => (rnarrowk0 s K x6 x14 h2 n3)) ((rnarrowk0 s K x6 (.bool false) h2 n3)))) (RK (vFldA 0 p1) fun x15 => RK (vLd none h2 x15) fun x16 => RK (bin Q .eql 2 x16 (.int .i64 (-1))) fun x17 => IF x17 (RK (bin Q .lss 2 x6 (.int .i64 0)) fun x18 => (rnarrowk0 s K x6 x18 h2 n3)) ((rnarrowk0 s K x6 (.bool false) h2 n3)))
theorem rnarrowe {s : Bool} {t0 : Value} {h : Hp} {nx : Nat} {K : KC'} : fF Q O s rnarrowL 73 [t0] h nx K = rnarrow s t0 h nx K := by kernel_rfl
theorem rnarrowv {s : Bool} {t0 : Value} {h : Hp} {nx : Nat} {K : KC'} (w : rnarrow s t0 h nx K) : Cv Q O s 73 [t0] h nx K := Cv.byF rnarrowL rfl (by rw [rnarrowe]; exact w)
def rcmpL : List (List Nat) := []
def rcmpk0 (s : Bool) (K : KC') (y2 y3 y23 : Value) (h0 : Hp) (n0 : Nat) : Prop := IF y23 (K (.int .i64 (-1)) h0 n0) (RK (vLd (some 2) h0 y2) fun x22 => RK (vLd (some 2) h0 y3) fun x23 => RK (bin Q .eql 112 x22 x23) fun x24 => IF x24 (K (.int .i64 0) h0 n0) (K (.int .i64 1) h0 n0))
def rcmp (s : Bool) (t0 t1 : Value) (h : Hp) (nx : Nat) (K : KC') : Prop := AR (cellsNB (vcells t0)) h nx fun p1 h2 n3 => AR (cellsNB (vcells t1)) h2 n3 fun p4 h5 n6 => RK (vFldA 0 p1) fun x7 => RK (vLd none h5 x7) fun x8 => RK (vFldA 0 p4) fun x9 => RK (vLd none h5 x9) fun x10 => RK (bin Q .lss 2 x8 x10) fun x11 => IF x11 ((rcmpk0 s K p1 p4 (.bool true) h5 n6)) (RK (vFldA 0 p1) fun x12 => RK (vLd none h5 x12) fun x13 => RK (vFldA 0 p4) fun x14 => RK (vLd none h5 x14) fun x15 => RK (bin Q .eql 2 x13 x15) fun x16 => IF x16 (RK (vFldA 1 p1) fun x17 => RK (vLd none h5 x17) fun x18 => RK (vFldA 1 p4) fun x19 => RK (vLd none h5 x19) fun x20 => RK (bin Q .lss 110 x18 x20) fun x21 => (rcmpk0 s K p1 p4 x21 h5 n6)) ((rcmpk0 s K p1 p4 (.bool false) h5 n6)))
theorem rcmpe {s : Bool} {t0 t1 : Value} {h : Hp} {nx : Nat} {K : KC'} : fF Q O s rcmpL 86 [t0, t1] h nx K = rcmp s t0 t1 h nx K := by kernel_rfl
theorem rcmpv {s : Bool} {t0 t1 : Value} {h : Hp} {nx : Nat} {K : KC'} (w : rcmp s t0 t1 h nx K) : Cv Q O s 86 [t0, t1] h nx K := Cv.byF rcmpL rfl (by rw [rcmpe]; exact w)
def rlabelsL : List (List Nat) := [[1, 3, 4], [1, 3, 5], [1, 3, 5, 6]]
def rlabelsl0 (s : Bool) (a1 a3 a4 : Value) (h : Hp) (nx : Nat) (N : KVl) (e0 : KVl) (R : KVl) : Prop := RK (vFldA 0 a1) fun x7 => RK (vLd none h x7) fun x8 => RK (bin Q .lss 3 a4 x8) fun x9 => IF x9 (AR (vBsl 1 [(.int .i64 0)] [(0, 1, a4)]) h nx fun p10 h11 n12 => EK (orR (appendA 1 h11 n12 a3 p10)) fun x13 h14 n15 => RK (bin Q .add 3 a4 (.int .i64 1)) fun x16 => N [a1, x13, x16] h14 n15) (e0 [a1, a3, a4] h nx)
def rlabelsl2 (s : Bool) (a1 a3 a5 a6 : Value) (h : Hp) (nx : Nat) (N : KVl) (e4 : KVl) (R : KVl) : Prop := RK (vFldA 1 a1) fun x26 => RK (vLd none h x26) fun x27 => RK (lenS x27) fun x28 => RK (bin Q .lss 3 a6 x28) fun x29 => IF x29 (RK (vFldA 1 a1) fun x30 => RK (vLd none h x30) fun x31 => RK (vIx (.slice 3) x31 a6) fun x32 => RK (vLd (some 3) h x32) fun x33 => AR (.ok (.ptr (.cells [(.int .i64 0), (.int .i64 0), (.int .i64 0)] false))) h nx fun p34 h35 n36 => RK (vSt h35 3 p34 x33) fun h37 => RK (vFldA 0 p34) fun x38 => RK (vLd none h37 x38) fun x39 => RK (vIx (.slice 1) a3 x39) fun x40 => RK (vLd none h37 x40) fun x41 => RK (vFldA 1 p34) fun x42 => RK (vLd none h37 x42) fun x43 => RK (vIx (.slice 1) a3 x43) fun x44 => RK (vLd none h37 x44) fun x45 => RK (min2 true x41 x45) fun x46 => RK (vFldA 0 p34) fun x47 => RK (vLd none h37 x47) fun x48 => RK (vIx (.slice 1) a3 x48) fun x49 => RK (vSt h37 1 x49 x46) fun h50 => RK (vFldA 1 p34) fun x51 => RK (vLd none h50 x51) fun x52 => RK (vIx (.slice 1) a3 x52) fun x53 => RK (vSt h50 1 x53 x46) fun h54 => RK (bin Q .add 3 a6 (.int .i64 1)) fun x55 => N [a1, a3, a5, x55] h54 n36) (e4 [a1, a3, a5, a6] h nx)
def rlabelsl1 (s : Bool) (a1 a3 a5 : Value) (h : Hp) (nx : Nat) (N : KVl) (e2 : KVl) (R : KVl) : Prop := RK (vFldA 0 a1) fun x20 => RK (vLd none h x20) fun x21 => RK (bin Q .lss 3 a5 x21) fun x22 => IF x22 (Lp (fL Q O s rlabelsL 23 2) [a1, a3, a5, (.int .i64 0)] h nx [(4, fun v25 h23 n24 => RK (bin Q .add 3 (nv v25 2) (.int .i64 1)) fun x56 => N [(nv v25 0), (nv v25 1), x56] h23 n24)] (fun _ _ _ => False)) (e2 [a1, a3, a5] h nx)
def rlabels (s : Bool) (t0 : Value) (h : Hp) (nx : Nat) (K : KC') : Prop := AR (cellsNB (vcells t0)) h nx fun p1 h2 n3 => Lp (fL Q O s rlabelsL 23 0) [p1, (.slice none 0 0), (.int .i64 0)] h2 n3 [(0, fun v6 h4 n5 => Lp (fL Q O s rlabelsL 23 1) [(nv v6 0), (nv v6 1), (.int .i64 0)] h4 n5 [(2, fun v19 h17 n18 => K (nv v19 1) h17 n18)] (fun _ _ _ => False))] (fun _ _ _ => False)
theorem rlabelsb0 {s : Bool} {a1 a3 a4 : Value} {h : Hp} {nx : Nat} {N e0 R : KVl} : fL Q O s rlabelsL 23 0 [a1, a3, a4] h nx N [(0, e0)] R = rlabelsl0 s a1 a3 a4 h nx N e0 R := by kernel_rfl
theorem rlabelsb2 {s : Bool} {a1 a3 a5 a6 : Value} {h : Hp} {nx : Nat} {N e4 R : KVl} : fL Q O s rlabelsL 23 2 [a1, a3, a5, a6] h nx N [(4, e4)] R = rlabelsl2 s a1 a3 a5 a6 h nx N e4 R := by kernel_rfl
theorem rlabelsb1 {s : Bool} {a1 a3 a5 : Value} {h : Hp} {nx : Nat} {N e2 R : KVl} : fL Q O s rlabelsL 23 1 [a1, a3, a5] h nx N [(2, e2)] R = rlabelsl1 s a1 a3 a5 h nx N e2 R := by kernel_rfl
theorem rlabelse {s : Bool} {t0 : Value} {h : Hp} {nx : Nat} {K : KC'} : fF Q O s rlabelsL 23 [t0] h nx K = rlabels s t0 h nx K := by kernel_rfl
theorem rlabelsv {s : Bool} {t0 : Value} {h : Hp} {nx : Nat} {K : KC'} (w : rlabels s t0 h nx K) : Cv Q O s 23 [t0] h nx K := Cv.byF rlabelsL rfl (by rw [rlabelse]; exact w)
def rrightL : List (List Nat) := [[1, 2, 3], [1, 2, 5]]
def rrightl0 (s : Bool) (a1 a2 a3 : Value) (h : Hp) (nx : Nat) (N : KVl) (e0 : KVl) (R : KVl) : Prop := RK (vFldA 1 a1) fun x20 => RK (vLd none h x20) fun x21 => RK (lenS x21) fun x22 => RK (bin Q .lss 3 a3 x22) fun x23 => IF x23 (RK (vFldA 1 a1) fun x24 => RK (vLd none h x24) fun x25 => RK (vIx (.slice 3) x25 a3) fun x26 => RK (vLd (some 3) h x26) fun x27 => AR (.ok (.ptr (.cells [(.int .i64 0), (.int .i64 0), (.int .i64 0)] false))) h nx fun p28 h29 n30 => RK (vSt h29 3 p28 x27) fun h31 => RK (vFldA 0 p28) fun x32 => RK (vLd none h31 x32) fun x33 => RK (bin Q .lss 3 x33 (.int .i64 0)) fun x34 => IF x34 (R [a1, (.int .i64 3), a3] h31 n30) (RK (vFldA 0 p28) fun x35 => RK (vLd none h31 x35) fun x36 => RK (vFldA 0 a1) fun x37 => RK (vLd none h31 x37) fun x38 => RK (bin Q .geq 3 x36 x38) fun x39 => IF x39 (R [a1, (.int .i64 3), a3] h31 n30) (RK (vFldA 1 p28) fun x40 => RK (vLd none h31 x40) fun x41 => RK (bin Q .lss 3 x41 (.int .i64 0)) fun x42 => IF x42 (R [a1, (.int .i64 3), a3] h31 n30) (RK (vFldA 1 p28) fun x43 => RK (vLd none h31 x43) fun x44 => RK (vFldA 0 a1) fun x45 => RK (vLd none h31 x45) fun x46 => RK (bin Q .geq 3 x44 x46) fun x47 => IF x47 (R [a1, (.int .i64 3), a3] h31 n30) (RK (bin Q .add 3 a3 (.int .i64 1)) fun x50 => N [a1, a2, x50] h31 n30))))) (e0 [a1, a2, a3] h nx)
def rrightl1 (s : Bool) (a1 a2 a5 : Value) (h : Hp) (nx : Nat) (N : KVl) (e2 : KVl) (R : KVl) : Prop := RK (vFldA 1 a1) fun x57 => RK (vLd none h x57) fun x58 => RK (lenS x58) fun x59 => RK (bin Q .lss 3 a5 x59) fun x60 => IF x60 (RK (vFldA 1 a1) fun x61 => RK (vLd none h x61) fun x62 => RK (vIx (.slice 3) x62 a5) fun x63 => RK (vFldA 2 x63) fun x64 => RK (vLd none h x64) fun x65 => RK (bin Q .lss 2 x65 (.int .i64 0)) fun x66 => IF x66 (R [a1, (.int .i64 7), a5] h nx) (RK (vFldA 1 a1) fun x67 => RK (vLd none h x67) fun x68 => RK (vIx (.slice 3) x68 a5) fun x69 => RK (vFldA 2 x69) fun x70 => RK (vLd none h x70) fun x71 => RK (bin Q .gtr 2 x71 (.int .i64 2147483647)) fun x72 => IF x72 (R [a1, (.int .i64 7), a5] h nx) (RK (bin Q .add 3 a5 (.int .i64 1)) fun x75 => N [a1, a2, x75] h nx))) (e2 [a1, a2, a5] h nx)
def rrightk0 (s : Bool) (K : KC') (y1 y17 : Value) (h0 : Hp) (n0 : Nat) : Prop := IF y17 (K (.int .i64 5) h0 n0) (Lp (fL Q O s rrightL 33 0) [y1, (.int .i64 0), (.int .i64 0)] h0 n0 [(0, fun v16 h14 n15 => Lp (fL Q O s rrightL 33 1) [(nv v16 0), (nv v16 1), (.int .i64 0)] h14 n15 [(2, fun v53 h51 n52 => K (.int .i64 0) h51 n52)] (fun v56 h54 n55 => K (nv v56 1) h54 n55))] (fun v19 h17 n18 => K (nv v19 1) h17 n18))
def rright (s : Bool) (t0 : Value) (h : Hp) (nx : Nat) (K : KC') : Prop := AR (cellsNB (vcells t0)) h nx fun p1 h2 n3 => RK (vFldA 0 p1) fun x4 => RK (vLd none h2 x4) fun x5 => RK (bin Q .lss 3 x5 (.int .i64 0)) fun x6 => IF x6 (K (.int .i64 3) h2 n3) (RK (vFldA 0 p1) fun x7 => RK (vLd none h2 x7) fun x8 => RK (bin Q .gtr 3 x8 (.int .i64 4096)) fun x9 => IF x9 ((rrightk0 s K p1 (.bool true) h2 n3)) (RK (vFldA 1 p1) fun x10 => RK (vLd none h2 x10) fun x11 => RK (lenS x11) fun x12 => RK (bin Q .gtr 3 x12 (.int .i64 65536)) fun x13 => (rrightk0 s K p1 x13 h2 n3)))
theorem rrightb0 {s : Bool} {a1 a2 a3 : Value} {h : Hp} {nx : Nat} {N e0 R : KVl} : fL Q O s rrightL 33 0 [a1, a2, a3] h nx N [(0, e0)] R = rrightl0 s a1 a2 a3 h nx N e0 R := by kernel_rfl
theorem rrightb1 {s : Bool} {a1 a2 a5 : Value} {h : Hp} {nx : Nat} {N e2 R : KVl} : fL Q O s rrightL 33 1 [a1, a2, a5] h nx N [(2, e2)] R = rrightl1 s a1 a2 a5 h nx N e2 R := by kernel_rfl
theorem rrighte {s : Bool} {t0 : Value} {h : Hp} {nx : Nat} {K : KC'} : fF Q O s rrightL 33 [t0] h nx K = rright s t0 h nx K := by kernel_rfl
theorem rrightv {s : Bool} {t0 : Value} {h : Hp} {nx : Nat} {K : KC'} (w : rright s t0 h nx K) : Cv Q O s 33 [t0] h nx K := Cv.byF rrightL rfl (by rw [rrighte]; exact w)
def rightL : List (List Nat) := []
def right (s : Bool) (t0 : Value) (h : Hp) (nx : Nat) (K : KC') : Prop := AR (cellsNB (vcells t0)) h nx fun p1 h2 n3 => RK (.ok (.func (.func 62) ⟨[]⟩ ⟨[p1]⟩)) fun x4 => AR (.ok (.ptr (.cells [.nilFunc] false))) h2 n3 fun p5 h6 n7 => RK (vSt h6 1 p5 x4) fun h8 => RK (vFldA 0 p1) fun x9 => RK (vLd none h8 x9) fun x10 => RK (bin Q .lss 3 x10 (.int .i64 0)) fun x11 => IF x11 (K (.int .i64 3) h8 n7) (RK (vFldA 0 p1) fun x12 => RK (vLd none h8 x12) fun x13 => RK (bin Q .gtr 3 x13 (.int .i64 4096)) fun x14 => IF x14 (K (.int .i64 5) h8 n7) (RK (vFldA 1 p1) fun x15 => RK (vLd none h8 x15) fun x16 => RK (lenS x16) fun x17 => RK (bin Q .gtr 3 x17 (.int .i64 65536)) fun x18 => IF x18 (K (.int .i64 5) h8 n7) (RK (vFldA 1 p1) fun x19 => RK (vLd none h8 x19) fun x20 => RK (.ok (.func (.func 64) ⟨[]⟩ ⟨[p5]⟩)) fun x21 => Cv Q O s 63 [x20, x21] h8 n7 fun x22 h23 n24 => IF x22 (K (.int .i64 3) h23 n24) (RK (vFldA 1 p1) fun x25 => RK (vLd none h23 x25) fun x26 => Cv Q O s 63 [x26, (.func (.func 65) #[] #[])] h23 n24 fun x27 h28 n29 => IF x27 (K (.int .i64 7) h28 n29) (K (.int .i64 0) h28 n29)))))
theorem righte {s : Bool} {t0 : Value} {h : Hp} {nx : Nat} {K : KC'} : fF Q O s rightL 47 [t0] h nx K = right s t0 h nx K := by kernel_rfl
theorem rightv {s : Bool} {t0 : Value} {h : Hp} {nx : Nat} {K : KC'} (w : right s t0 h nx K) : Cv Q O s 47 [t0] h nx K := Cv.byF rightL rfl (by rw [righte]; exact w)
def right1L : List (List Nat) := []
def right1 (s : Bool) (t0 t1 : Value) (h : Hp) (nx : Nat) (K : KC') : Prop := RK (bin Q .lss 3 t0 (.int .i64 0)) fun x1 => IF x1 (K (.bool true) h nx) (RK (vFldA 0 t1) fun x2 => RK (vLd none h x2) fun x3 => RK (bin Q .geq 3 t0 x3) fun x4 => K x4 h nx)
theorem right1e {s : Bool} {t0 t1 : Value} {h : Hp} {nx : Nat} {K : KC'} : fF Q O s right1L 62 [t0, t1] h nx K = right1 s t0 t1 h nx K := by kernel_rfl
theorem right1v {s : Bool} {t0 t1 : Value} {h : Hp} {nx : Nat} {K : KC'} (w : right1 s t0 t1 h nx K) : Cv Q O s 62 [t0, t1] h nx K := Cv.byF right1L rfl (by rw [right1e]; exact w)
def right2L : List (List Nat) := []
def right2 (s : Bool) (t0 t1 : Value) (h : Hp) (nx : Nat) (K : KC') : Prop := AR (cellsNB (vcells t0)) h nx fun p1 h2 n3 => RK (vLd none h2 t1) fun x4 => RK (vFldA 0 p1) fun x5 => RK (vLd none h2 x5) fun x6 => CVK Q O s (callV h2 n3 [x6] x4) fun x7 h8 n9 => IF x7 (K (.bool true) h8 n9) (RK (vLd none h8 t1) fun x10 => RK (vFldA 1 p1) fun x11 => RK (vLd none h8 x11) fun x12 => CVK Q O s (callV h8 n9 [x12] x10) fun x13 h14 n15 => K x13 h14 n15)
theorem right2e {s : Bool} {t0 t1 : Value} {h : Hp} {nx : Nat} {K : KC'} : fF Q O s right2L 64 [t0, t1] h nx K = right2 s t0 t1 h nx K := by kernel_rfl
theorem right2v {s : Bool} {t0 t1 : Value} {h : Hp} {nx : Nat} {K : KC'} (w : right2 s t0 t1 h nx K) : Cv Q O s 64 [t0, t1] h nx K := Cv.byF right2L rfl (by rw [right2e]; exact w)
def right3L : List (List Nat) := []
def right3 (s : Bool) (t0 : Value) (h : Hp) (nx : Nat) (K : KC') : Prop := AR (cellsNB (vcells t0)) h nx fun p1 h2 n3 => RK (vFldA 2 p1) fun x4 => RK (vLd none h2 x4) fun x5 => RK (bin Q .lss 2 x5 (.int .i64 0)) fun x6 => IF x6 (K (.bool true) h2 n3) (RK (vFldA 2 p1) fun x7 => RK (vLd none h2 x7) fun x8 => RK (bin Q .gtr 2 x8 (.int .i64 2147483647)) fun x9 => K x9 h2 n3)
theorem right3e {s : Bool} {t0 : Value} {h : Hp} {nx : Nat} {K : KC'} : fF Q O s right3L 65 [t0] h nx K = right3 s t0 h nx K := by kernel_rfl
theorem right3v {s : Bool} {t0 : Value} {h : Hp} {nx : Nat} {K : KC'} (w : right3 s t0 h nx K) : Cv Q O s 65 [t0] h nx K := Cv.byF right3L rfl (by rw [right3e]; exact w)
def contsL : List (List Nat) := []
def conts (s : Bool) (t0 t1 : Value) (h : Hp) (nx : Nat) (K : KC') : Prop := Cv Q O s 67 [t0, t1] h nx fun x1 h2 n3 => RK (bin Q .geq 3 x1 (.int .i64 0)) fun x4 => K x4 h2 n3
theorem contse {s : Bool} {t0 t1 : Value} {h : Hp} {nx : Nat} {K : KC'} : fF Q O s contsL 63 [t0, t1] h nx K = conts s t0 t1 h nx K := by kernel_rfl
theorem contsv {s : Bool} {t0 t1 : Value} {h : Hp} {nx : Nat} {K : KC'} (w : conts s t0 t1 h nx K) : Cv Q O s 63 [t0, t1] h nx K := Cv.byF contsL rfl (by rw [contse]; exact w)
def indexL : List (List Nat) := [[0, 1, 4, 7, 8]]
def indexl0 (s : Bool) (a0 a1 a4 a7 a8 : Value) (h : Hp) (nx : Nat) (N : KVl) (e0 : KVl) (R : KVl) : Prop := RK (bin Q .lss 3 a8 a7) fun x8 => IF x8 (RK (vIx (.slice 3) a0 a8) fun x9 => RK (vLd (some 3) h x9) fun x10 => CVK Q O s (callV h nx [x10] a1) fun x11 h12 n13 => IF x11 (R [a0, a1, a8, a7, a8] h12 n13) (RK (bin Q .add 3 a8 (.int .i64 1)) fun x14 => N [a0, a1, a4, a7, x14] h12 n13)) (e0 [a0, a1, a4, a7, a8] h nx)
def index (s : Bool) (t0 t1 : Value) (h : Hp) (nx : Nat) (K : KC') : Prop := RK (lenS t0) fun x1 => Lp (fL Q O s indexL 67 0) [t0, t1, (.int .i64 0), x1, (.int .i64 0)] h nx [(0, fun v4 h2 n3 => K (.int .i64 (-1)) h2 n3)] (fun v7 h5 n6 => K (nv v7 2) h5 n6)
theorem indexb0 {s : Bool} {a0 a1 a4 a7 a8 : Value} {h : Hp} {nx : Nat} {N e0 R : KVl} : fL Q O s indexL 67 0 [a0, a1, a4, a7, a8] h nx N [(0, e0)] R = indexl0 s a0 a1 a4 a7 a8 h nx N e0 R := by kernel_rfl
theorem indexe {s : Bool} {t0 t1 : Value} {h : Hp} {nx : Nat} {K : KC'} : fF Q O s indexL 67 [t0, t1] h nx K = index s t0 t1 h nx K := by kernel_rfl
theorem indexv {s : Bool} {t0 t1 : Value} {h : Hp} {nx : Nat} {K : KC'} (w : index s t0 t1 h nx K) : Cv Q O s 67 [t0, t1] h nx K := Cv.byF indexL rfl (by rw [indexe]; exact w)
def canonL : List (List Nat) := []
def canon (s : Bool) (t0 : Value) (h : Hp) (nx : Nat) (K : KC') : Prop := AR (cellsNB (vcells t0)) h nx fun p1 h2 n3 => AR (.ok (.ptr (.cells [(.int .i64 0), (.slice none 0 0)] false))) h2 n3 fun p4 h5 n6 => RK (vFldA 1 p1) fun x7 => RK (vLd none h5 x7) fun x8 => Cv Q O s 68 [(.int .i64 1), x8] h5 n6 fun x9 h10 n11 => RK (oExtract x9 0) fun x12 => RK (oExtract x9 1) fun x13 => RK (vFldA 0 p1) fun x14 => RK (vLd none h10 x14) fun x15 => RK (vBld [(.int .i64 0), (.slice none 0 0)] [(0, 1, x15), (1, 1, x12)]) fun x16 => RK (vSt h10 2 p4 x16) fun h17 => RK (vLd (some 2) h17 p4) fun x18 => K x18 h17 n11
theorem canone {s : Bool} {t0 : Value} {h : Hp} {nx : Nat} {K : KC'} : fF Q O s canonL 56 [t0] h nx K = canon s t0 h nx K := by kernel_rfl
theorem canonv {s : Bool} {t0 : Value} {h : Hp} {nx : Nat} {K : KC'} (w : canon s t0 h nx K) : Cv Q O s 56 [t0] h nx K := Cv.byF canonL rfl (by rw [canone]; exact w)
def SlPx {α : Type} (h : Hp) (nx : Nat) (v : Value) (enc : α → List Value) (l : List α) : Prop :=
 ∃ a cap, v = .slice a l.length cap ∧ (l ≠ [] → ∃ b sp ro cs, b < nx ∧ a = some ⟨b, 0, sp⟩ ∧ hget h b = some (.cells (flat enc l ++ cs) ro))
def SlPn {α : Type} (h : Hp) (lo nx : Nat) (v : Value) (enc : α → List Value) (l : List α) : Prop :=
 ∃ a cap, v = .slice a l.length cap ∧ (l ≠ [] → ∃ b sp ro cs, lo ≤ b ∧ b < nx ∧ a = some ⟨b, 0, sp⟩ ∧ hget h b = some (.cells (flat enc l ++ cs) ro))
section
variable {α : Type} {h h' : Hp} {nx nx' : Nat} {v : Value} {enc : α → List Value} {l : List α}
theorem SlPx.keep (hs : SlPx h nx v enc l) (hk : Keep nx h h') (hle : nx ≤ nx') : SlPx h' nx' v enc l := by
 obtain ⟨a, cap, hv, hc⟩ := hs
 refine ⟨a, cap, hv, fun hl => ?_⟩
 obtain ⟨b, sp, ro, cs, hb, ha, hg⟩ := hc hl
 exact ⟨b, sp, ro, cs, by omega, ha, by rw [hk b hb]; exact hg⟩
theorem SlPx.of (hs : SlRd h nx v enc l) : SlPx h nx v enc l := by
 obtain ⟨a, cap, hv, hc⟩ := hs
 refine ⟨a, cap, hv, fun hl => ?_⟩
 obtain ⟨b, sp, ro, hb, ha, hg⟩ := hc hl
 exact ⟨b, sp, ro, [], hb, ha, by rw [List.append_nil]; exact hg⟩
theorem SlPn.px {lo : Nat} (hs : SlPn h lo nx v enc l) : SlPx h nx v enc l := by
 obtain ⟨a, cap, hv, hc⟩ := hs
 refine ⟨a, cap, hv, fun hl => ?_⟩
 obtain ⟨b, sp, ro, cs, h1, h2, h3, h4⟩ := hc hl
 exact ⟨b, sp, ro, cs, h2, h3, h4⟩
theorem SlPn.keep {lo : Nat} (hs : SlPn h lo nx v enc l) (hk : ∀ c, lo ≤ c → c < nx → hget h' c = hget h c) (hle : nx ≤ nx') : SlPn h' lo nx' v enc l := by
 obtain ⟨a, cap, hv, hc⟩ := hs
 refine ⟨a, cap, hv, fun hl => ?_⟩
 obtain ⟨b, sp, ro, cs, h1, h2, h3, h4⟩ := hc hl
 exact ⟨b, sp, ro, cs, h1, by omega, h3, by rw [hk b h1 h2]; exact h4⟩
theorem SlPx.at (hs : SlPx h nx v enc l) {i : Nat} {x : α} (hx : l[i]? = some x) :
  i < l.length ∧ ∃ b sp ro cap cs, b < nx ∧ v = .slice (some ⟨b, 0, sp⟩) l.length cap ∧ hget h b = some (.cells (flat enc l ++ cs) ro) := by
 have hi := (List.getElem?_eq_some_iff.1 hx).1
 obtain ⟨a, cap, hv, hc⟩ := hs
 obtain ⟨b, sp, ro, cs, hb, rfl, hg⟩ := hc (fun e => by rw [e] at hi; exact absurd hi (Nat.not_lt_zero _))
 exact ⟨hi, b, sp, ro, cap, cs, hb, hv, hg⟩
theorem rdP {k : Nat} (hk : ∀ x, (enc x).length = k) {i : Nat} {e : α} (he : l[i]? = some e) {cs : List Value} : loadC (some k) (i * k) (flat enc l ++ cs) = .ok (.agg ⟨enc e⟩) := by
 have hg := flat_get (enc := enc) hk he
 have hi := (List.getElem?_eq_some_iff.1 he).1
 have hl := flat_len (enc := enc) hk (l := l)
 have hm : (i + 1) * k ≤ l.length * k := Nat.mul_le_mul_right k hi
 rw [Nat.add_mul, Nat.one_mul] at hm
 rw [loadC_many, if_pos (by rw [List.length_append, hl]; omega), List.drop_append_of_le_length (by rw [hl]; omega), List.take_append_of_le_length (by rw [List.length_drop, hl]; omega), hg]
theorem cellP {k j : Nat} (hk : ∀ x, (enc x).length = k) {i : Nat} {e : α} (he : l[i]? = some e) (hj : j < k) {cs : List Value} : (flat enc l ++ cs)[i * k + j]? = (enc e)[j]? := by
 have hi := (List.getElem?_eq_some_iff.1 he).1
 have hl := flat_len (enc := enc) hk (l := l)
 have hm : (i + 1) * k ≤ l.length * k := Nat.mul_le_mul_right k hi
 rw [Nat.add_mul, Nat.one_mul] at hm
 rw [List.getElem?_append_left (by omega), flat_cell hk he hj]
end
def BadE (n : Int) (e : Edg3) : Prop := e.1 < 0 ∨ n ≤ e.1 ∨ e.2.1 < 0 ∨ n ≤ e.2.1
def BadW (e : Edg3) : Prop := e.2.2 < 0 ∨ 2147483647 < e.2.2
instance (n : Int) (e : Edg3) : Decidable (BadE n e) := inferInstanceAs (Decidable (_ ∨ _))
instance (e : Edg3) : Decidable (BadW e) := inferInstanceAs (Decidable (_ ∨ _))
def RightV (n : Int) (es : List Edg3) : Prop := 0 ≤ n ∧ n ≤ 4096 ∧ es.length ≤ 65536 ∧ (∀ e ∈ es, ¬ BadE n e) ∧ ∀ e ∈ es, ¬ BadW e
def RightK (n : Int) (es : List Edg3) (nx : Nat) (h : Hp) : KC' := fun r h' nx' => ∃ e : Int, r = .int .i64 e ∧ (e = 0 ↔ RightV n es) ∧ Keep nx h h' ∧ nx ≤ nx'
def IdxJ {α : Type} (p : α → Bool) (es : List α) (J : Hp → Nat → Prop) (v fv : Value) (m : Nat) (vs : List Value) (h' : Hp) (nx' : Nat) : Prop := ∃ i, m = es.length - i ∧ i ≤ es.length ∧ vs = [v, fv, .int .i64 0, .int .i64 (es.length : Int), .int .i64 (i : Int)] ∧ J h' nx' ∧ ∀ x ∈ es.take i, p x = false
theorem index_c {α : Type} {enc : α → List Value} (hk3 : ∀ x, (enc x).length = 3) {s : Bool} {v fv : Value} {es : List α} {h : Hp} {nx : Nat} (p : α → Bool) (J : Hp → Nat → Prop) (hJ : ∀ h' nx', J h' nx' → SlPx h' nx' v enc es) (h0 : J h nx) (hl : es.length ≤ 65536)
  (hf : ∀ g ∈ es, ∀ h' nx' (K : KC'), J h' nx' → (∀ (b : Bool) h2 nx2, b = p g → J h2 nx2 → K (.bool b) h2 nx2) → CVK Q O s (callV h' nx' [.agg ⟨enc g⟩] fv) K) :
  Cv Q O s 67 [v, fv] h nx (fun r h' nx' => J h' nx' ∧ ((r = .int .i64 (-1) ∧ ∀ x ∈ es, p x = false) ∨ ∃ (i : Nat) (x : α), r = .int .i64 (i : Int) ∧ es[i]? = some x ∧ p x = true ∧ ∀ y ∈ es.take i, p y = false)) := by
 refine indexv ?_
 unfold index
 obtain ⟨a, cap, rfl, hc⟩ := id (hJ _ _ h0)
 simp (disch := omega) only [SS, ↓reduceIte, Nat.reduceAdd, Nat.reduceSub, Nat.reduceMul, Nat.reduceLT, Nat.reduceLeDiff, Nat.reduceEqDiff, Int.reduceBEq, Int.reduceLT, Int.reduceNeg]
 refine Lp.mk (IdxJ p es J (.slice a es.length cap) fv) es.length ⟨0, by omega, by omega, rfl, h0, by simp⟩ ?_
 rintro m _ h' nx' ⟨i, rfl, hi, rfl, hj, hno⟩
 rw [indexb0]
 unfold indexl0
 simp (disch := omega) only [SS, ↓reduceIte, Nat.reduceAdd, Nat.reduceSub, Nat.reduceMul, Nat.reduceLT, Nat.reduceLeDiff, Nat.reduceEqDiff, Int.reduceBEq, Int.reduceLT, Int.reduceNeg]
 refine ⟨fun h1 => ?_, fun h1 => ?_⟩
 ·obtain ⟨x, hx⟩ := get_ex h1
  obtain ⟨_, b, sp, ro, cap', cs, hbn, hveq, hbh⟩ := (hJ _ _ hj).at hx
  cases hveq
  simp (disch := omega) only [SS, ↓reduceIte, Nat.reduceAdd, Nat.reduceSub, Nat.reduceMul, Nat.reduceLT, Nat.reduceLeDiff, Nat.reduceEqDiff, Int.reduceBEq, Int.reduceLT, Int.reduceNeg, hbh, rdP (enc := enc) (k := 3) hk3 hx]
  refine hf x (List.mem_of_getElem? hx) h' nx' _ hj (fun b' h2 nx2 hb hj2 => ?_)
  subst hb
  simp (disch := omega) only [SS, ↓reduceIte, Nat.reduceAdd, Nat.reduceSub, Nat.reduceMul, Nat.reduceLT, Nat.reduceLeDiff, Nat.reduceEqDiff, Int.reduceBEq, Int.reduceLT, Int.reduceNeg, wrap_s (show i < 1000000000000 by omega)]
  refine ⟨fun hp => ⟨hj2, .inr ⟨i, x, rfl, hx, hp, hno⟩⟩, fun hp => ⟨es.length - (i + 1), by omega, i + 1, rfl, h1, rfl, hj2, fun y hy => ?_⟩⟩
  rw [List.take_add_one, hx] at hy
  rcases List.mem_append.1 hy with hy | hy
  ·exact hno y hy
  ·have : y = x := by simpa using hy
   rw [this]; exact hp
 ·have : i = es.length := by omega
  subst this
  rw [List.take_length] at hno
  exact ⟨hj, .inl hno⟩
theorem conts_c {s : Bool} {v fv : Value} {es : List Edg3} {h : Hp} {nx : Nat} (p : Edg3 → Bool) (hv : SlPx h nx v enc3 es) (hl : es.length ≤ 65536)
  (hf : ∀ g ∈ es, ∀ h' nx' (K : KC'), Keep nx h h' → nx ≤ nx' → (∀ (b : Bool) h2 nx2, b = p g → Keep nx' h' h2 → nx' ≤ nx2 → K (.bool b) h2 nx2) → CVK Q O s (callV h' nx' [.agg ⟨enc3 g⟩] fv) K) :
  Cv Q O s 63 [v, fv] h nx (fun r h' nx' => r = .bool (es.any p) ∧ Keep nx h h' ∧ nx ≤ nx') := by
 refine contsv ?_
 unfold conts
 refine (index_c (enc := enc3) (fun _ => rfl) p (fun h' nx' => Keep nx h h' ∧ nx ≤ nx') (fun h' nx' hh => hv.keep hh.1 hh.2) ⟨Keep.refl _ _, Nat.le_refl _⟩ hl (fun g hg h' nx' K hj hK => hf g hg h' nx' K hj.1 hj.2 (fun b h2 nx2 hb hk2 hle2 => hK b h2 nx2 hb ⟨hj.1.trans hk2 hj.2, Nat.le_trans hj.2 hle2⟩))).mono ?_
 rintro r h' nx' ⟨⟨hk, hle⟩, ⟨rfl, hno⟩ | ⟨i, x, rfl, hx, hp, _⟩⟩
 ·simp (disch := omega) only [SS, ↓reduceIte, Nat.reduceAdd, Nat.reduceSub, Nat.reduceMul, Nat.reduceLT, Nat.reduceLeDiff, Nat.reduceEqDiff, Int.reduceBEq, Int.reduceLT, Int.reduceNeg]
  exact ⟨by rw [List.any_eq_false.2 (fun x hx => by simp [hno x hx])]; rfl, hk, hle⟩
 ·simp (disch := omega) only [SS, ↓reduceIte, Nat.reduceAdd, Nat.reduceSub, Nat.reduceMul, Nat.reduceLT, Nat.reduceLeDiff, Nat.reduceEqDiff, Int.reduceBEq, Int.reduceLT, Int.reduceNeg]
  exact ⟨by rw [List.any_eq_true.2 ⟨x, List.mem_of_getElem? hx, hp⟩]; simp, hk, hle⟩
def badE (n : Int) (e : Edg3) : Bool := (decide (e.1 < 0) || !decide (e.1 < n)) || (decide (e.2.1 < 0) || !decide (e.2.1 < n))
theorem badE_iff {n : Int} {e : Edg3} : badE n e = true ↔ BadE n e := by
 unfold badE BadE
 simp only [Bool.or_eq_true, decide_eq_true_eq, Bool.not_eq_true', decide_eq_false_iff_not]
 omega
def badW (e : Edg3) : Bool := decide (e.2.2 < 0) || decide (2147483647 < e.2.2)
theorem badW_iff {e : Edg3} : badW e = true ↔ BadW e := by
 unfold badW BadW
 simp only [Bool.or_eq_true, decide_eq_true_eq]
theorem right_g {s : Bool} {n : Int} {v : Value} {es : List Edg3} {h : Hp} {nx : Nat} (hv : SlPx h nx v enc3 es) :
  Cv Q O s 47 [.agg ⟨[.int .i64 n, v]⟩] h nx (RightK n es nx h) := by
 refine rightv ?_
 obtain ⟨a, cap, rfl, hc⟩ := id hv
 unfold right
 simp (disch := omega) only [SS, ↓reduceIte, Nat.reduceAdd, Nat.reduceSub, Nat.reduceMul, Nat.reduceLT, Nat.reduceLeDiff, Nat.reduceEqDiff, Int.reduceBEq, Int.reduceLT, Int.reduceNeg]
 have K1 : Keep nx h (hset (hset (hset h nx (.cells [.int .i64 n, .slice a es.length cap] false)) (nx + 1) (.cells [.nilFunc] false)) (nx + 1) (.cells [.func (.func 62) ⟨[]⟩ ⟨[.pointer (some ⟨nx, 0, none⟩)]⟩] false)) := fun b hb => by rw [hold (by omega), hold (by omega), hold (by omega)]
 have no : ∀ {e : Int}, e ≠ 0 → ¬ RightV n es → ∀ {h' nx'}, Keep nx h h' → nx ≤ nx' → RightK n es nx h (.int .i64 e) h' nx' := fun he hr _ _ hk hle => ⟨_, rfl, ⟨fun e => absurd e he, fun e => absurd e hr⟩, hk, hle⟩
 refine ⟨fun h1 => no (by omega) (fun hr => by have := hr.1; omega) K1 (by omega), fun h1 => ⟨fun h2 => no (by omega) (fun hr => by have := hr.2.1; omega) K1 (by omega), fun h2 => ⟨fun h3 => no (by omega) (fun hr => by have := hr.2.2.1; omega) K1 (by omega), fun h3 => ?_⟩⟩⟩
 refine (conts_c (badE n) (hv.keep K1 (by omega)) (by omega) (fun g hg h' nx' K hk hle hK => ?_)).mono ?_
 ·have g0 := hk nx (by omega)
  have g1 := hk (nx + 1) (by omega)
  rw [hold (by omega), hold (by omega), hnew] at g0
  rw [hnew] at g1
  have kk : ∀ {o}, Keep nx' h' (hset h' nx' o) := (Keep.refl _ _).set (Nat.le_refl _)
  simp (disch := omega) only [SS, ↓reduceIte, Nat.reduceAdd, Nat.reduceSub, Nat.reduceMul, Nat.reduceLT, Nat.reduceLeDiff, Nat.reduceEqDiff, Int.reduceBEq, Int.reduceLT, Int.reduceNeg]
  refine right2v ?_
  unfold right2 enc3
  simp (disch := omega) only [SS, ↓reduceIte, Nat.reduceAdd, Nat.reduceSub, Nat.reduceMul, Nat.reduceLT, Nat.reduceLeDiff, Nat.reduceEqDiff, Int.reduceBEq, Int.reduceLT, Int.reduceNeg, g1]
  refine right1v ?_
  unfold right1
  simp (disch := omega) only [SS, ↓reduceIte, Nat.reduceAdd, Nat.reduceSub, Nat.reduceMul, Nat.reduceLT, Nat.reduceLeDiff, Nat.reduceEqDiff, Int.reduceBEq, Int.reduceLT, Int.reduceNeg, g0]
  refine ⟨fun h1 => hK _ _ _ (by unfold badE; simp [h1]) kk (Nat.le_succ _), fun h1 => ⟨fun h2 => hK _ _ _ (by unfold badE; simp [h1]; omega) kk (Nat.le_succ _), fun h2 => ?_⟩⟩
  simp (disch := omega) only [SS, ↓reduceIte, Nat.reduceAdd, Nat.reduceSub, Nat.reduceMul, Nat.reduceLT, Nat.reduceLeDiff, Nat.reduceEqDiff, Int.reduceBEq, Int.reduceLT, Int.reduceNeg, g1]
  refine right1v ?_
  unfold right1
  simp (disch := omega) only [SS, ↓reduceIte, Nat.reduceAdd, Nat.reduceSub, Nat.reduceMul, Nat.reduceLT, Nat.reduceLeDiff, Nat.reduceEqDiff, Int.reduceBEq, Int.reduceLT, Int.reduceNeg, g0]
  refine ⟨fun h3 => hK _ _ _ (by unfold badE; simp [h3]) kk (Nat.le_succ _), fun h3 => ?_⟩
  refine hK _ _ _ ?_ kk (Nat.le_succ _)
  unfold badE
  rw [decide_eq_false h1, decide_eq_true h2, decide_eq_false h3]
  rfl
 ·rintro r h4 nx4 ⟨rfl, hk4, hle4⟩
  have g0 := hk4 nx (by omega)
  rw [hold (by omega), hold (by omega), hnew] at g0
  have K4 := K1.trans hk4 (by omega)
  simp (disch := omega) only [SS, ↓reduceIte, Nat.reduceAdd, Nat.reduceSub, Nat.reduceMul, Nat.reduceLT, Nat.reduceLeDiff, Nat.reduceEqDiff, Int.reduceBEq, Int.reduceLT, Int.reduceNeg, g0]
  refine ⟨fun h5 => no (by omega) (fun hr => ?_) K4 (by omega), fun h5 => ?_⟩
  ·obtain ⟨x, hx, hb⟩ := List.any_eq_true.1 h5
   exact hr.2.2.2.1 x hx (badE_iff.1 hb)
  have ha : ∀ e ∈ es, ¬ BadE n e := fun e he hb => by
   rw [List.any_eq_false] at h5
   exact h5 e he (badE_iff.2 hb)
  refine (conts_c badW ((hv.keep K1 (by omega)).keep hk4 hle4) (by omega) (fun g hg h' nx' K hk hle hK => ?_)).mono ?_
  ·have kk : ∀ {o}, Keep nx' h' (hset h' nx' o) := (Keep.refl _ _).set (Nat.le_refl _)
   simp (disch := omega) only [SS, ↓reduceIte, Nat.reduceAdd, Nat.reduceSub, Nat.reduceMul, Nat.reduceLT, Nat.reduceLeDiff, Nat.reduceEqDiff, Int.reduceBEq, Int.reduceLT, Int.reduceNeg]
   refine right3v ?_
   unfold right3 enc3
   simp (disch := omega) only [SS, ↓reduceIte, Nat.reduceAdd, Nat.reduceSub, Nat.reduceMul, Nat.reduceLT, Nat.reduceLeDiff, Nat.reduceEqDiff, Int.reduceBEq, Int.reduceLT, Int.reduceNeg]
   refine ⟨fun h1 => hK _ _ _ (by unfold badW; simp [h1]) kk (Nat.le_succ _), fun h1 => hK _ _ _ (by unfold badW; simp [h1]) kk (Nat.le_succ _)⟩
  ·rintro r h6 nx6 ⟨rfl, hk6, hle6⟩
   have K6 := K4.trans hk6 (by omega)
   simp (disch := omega) only [SS, ↓reduceIte, Nat.reduceAdd, Nat.reduceSub, Nat.reduceMul, Nat.reduceLT, Nat.reduceLeDiff, Nat.reduceEqDiff, Int.reduceBEq, Int.reduceLT, Int.reduceNeg]
   refine ⟨fun h7 => no (by omega) (fun hr => ?_) K6 (by omega), fun h7 => ?_⟩
   ·obtain ⟨x, hx, hb⟩ := List.any_eq_true.1 h7
    exact hr.2.2.2.2 x hx (badW_iff.1 hb)
   ·refine ⟨0, rfl, ⟨fun _ => ⟨by omega, by omega, by omega, ha, fun e he hb => ?_⟩, fun _ => rfl⟩, K6, by omega⟩
    rw [List.any_eq_false] at h7
    exact h7 e he (badW_iff.2 hb)
def RriJ (p : Edg3 → Prop) (n : Int) (es : List Edg3) (v w : Value) (nx : Nat) (h : Hp) (m : Nat) (vs : List Value) (h' : Hp) (nx' : Nat) : Prop :=
 ∃ i : Nat, m = es.length - i ∧ i ≤ es.length ∧ vs = [.pointer (some ⟨nx, 0, none⟩), w, .int .i64 (i : Int)] ∧ hget h' nx = some (.cells [.int .i64 n, v] false) ∧ Keep nx h h' ∧ nx + 1 ≤ nx' ∧ ∀ x ∈ es.take i, ¬ p x
theorem take_no {p : Edg3 → Prop} {es : List Edg3} {i : Nat} {x : Edg3} (hx : es[i]? = some x) (h : ∀ y ∈ es.take i, ¬ p y) (hp : ¬ p x) : ∀ y ∈ es.take (i + 1), ¬ p y := fun y hy => by
 rw [List.take_add_one, hx] at hy
 rcases List.mem_append.1 hy with hy | hy
 ·exact h y hy
 ·have : y = x := by simpa using hy
  rw [this]; exact hp
theorem rright_g {s : Bool} {n : Int} {v : Value} {es : List Edg3} {h : Hp} {nx : Nat} (hv : SlPx h nx v enc3 es) :
  Cv Q O s 33 [.agg ⟨[.int .i64 n, v]⟩] h nx (RightK n es nx h) := by
 refine rrightv ?_
 obtain ⟨a, cap, rfl, hc⟩ := id hv
 have K1 : ∀ {o}, Keep nx h (hset h nx o) := (Keep.refl _ _).set (Nat.le_refl _)
 have no : ∀ {e : Int}, e ≠ 0 → ¬ RightV n es → ∀ {h' nx'}, Keep nx h h' → nx ≤ nx' → RightK n es nx h (.int .i64 e) h' nx' := fun he hr _ _ hk hle => ⟨_, rfl, ⟨fun e => absurd e he, fun e => absurd e hr⟩, hk, hle⟩
 unfold rright rrightk0
 simp (disch := omega) only [SS, ↓reduceIte, Nat.reduceAdd, Nat.reduceSub, Nat.reduceMul, Nat.reduceLT, Nat.reduceLeDiff, Nat.reduceEqDiff, Int.reduceBEq, Int.reduceLT, Int.reduceNeg]
 refine ⟨fun h1 => no (by omega) (fun hr => by have := hr.1; omega) K1 (by omega), fun h1 => ⟨fun h2 => no (by omega) (fun hr => by have := hr.2.1; omega) K1 (by omega), fun h2 => ⟨fun h3 => no (by omega) (fun hr => by have := hr.2.2.1; omega) K1 (by omega), fun h3 => ?_⟩⟩⟩
 refine Lp.mk (RriJ (BadE n) n es (.slice a es.length cap) (.int .i64 0) nx h) es.length ⟨0, by omega, by omega, rfl, hnew _ _ _, K1, Nat.le_refl _, by simp⟩ ?_
 rintro _ _ h' nx' ⟨i, rfl, hi, rfl, hg, hk, hle, hno⟩
 rw [rrightb0]
 unfold rrightl0
 simp (disch := omega) only [SS, ↓reduceIte, Nat.reduceAdd, Nat.reduceSub, Nat.reduceMul, Nat.reduceLT, Nat.reduceLeDiff, Nat.reduceEqDiff, Int.reduceBEq, Int.reduceLT, Int.reduceNeg, hg]
 refine ⟨fun hlt => ?_, fun hge => ?_⟩
 ·obtain ⟨x, hx⟩ := get_ex hlt
  obtain ⟨_, b, sp, ro, c1, cs, hb, e1, hgb⟩ := hv.at hx
  cases e1
  have hxm := List.mem_of_getElem? hx
  have kk : ∀ {o o'}, Keep nx h (hset (hset h' nx' o) nx' o') := (hk.set (by omega)).set (by omega)
  have bad : BadE n x → ∀ {o o'}, RightK n es nx h (.int .i64 3) (hset (hset h' nx' o) nx' o') (nx' + 1) := fun hb _ _ => no (by omega) (fun hr => hr.2.2.2.1 x hxm hb) kk (by omega)
  simp (disch := omega) only [SS, ↓reduceIte, Nat.reduceAdd, Nat.reduceSub, Nat.reduceMul, Nat.reduceLT, Nat.reduceLeDiff, Nat.reduceEqDiff, Int.reduceBEq, Int.reduceLT, Int.reduceNeg, (hk b hb).trans hgb, rdP (enc := enc3) (k := 3) (fun _ => rfl) hx, enc3, hg, wrap_s (show i < 1000000000000 by omega)]
  refine ⟨fun h1 => bad (by unfold BadE; omega), fun h1 => ⟨fun h2 => bad (by unfold BadE; omega), fun h2 => ⟨fun h3 => bad (by unfold BadE; omega), fun h3 => ⟨fun h4 => bad (by unfold BadE; omega), fun h4 => ?_⟩⟩⟩⟩
  exact ⟨_, by omega, i + 1, rfl, hlt, rfl, by rw [hold (by omega), hold (by omega)]; exact hg, kk, by omega, take_no hx hno (by unfold BadE; omega)⟩
 ·have : i = es.length := by omega
  subst this
  rw [List.take_length] at hno
  refine Lp.mk (RriJ BadW n es (.slice a es.length cap) (.int .i64 0) nx h) es.length ⟨0, by omega, by omega, rfl, hg, hk, hle, by simp⟩ ?_
  rintro _ _ h' nx' ⟨i, rfl, hi, rfl, hg, hk, hle, hno2⟩
  rw [rrightb1]
  unfold rrightl1
  simp (disch := omega) only [SS, ↓reduceIte, Nat.reduceAdd, Nat.reduceSub, Nat.reduceMul, Nat.reduceLT, Nat.reduceLeDiff, Nat.reduceEqDiff, Int.reduceBEq, Int.reduceLT, Int.reduceNeg, hg]
  refine ⟨fun hlt => ?_, fun hge => ?_⟩
  ·obtain ⟨x, hx⟩ := get_ex hlt
   obtain ⟨_, b, sp, ro, c1, cs, hb, e1, hgb⟩ := hv.at hx
   cases e1
   have hxm := List.mem_of_getElem? hx
   have bad : BadW x → RightK n es nx h (.int .i64 7) h' nx' := fun hb => no (by omega) (fun hr => hr.2.2.2.2 x hxm hb) hk (by omega)
   have hw := cellP (enc := enc3) (k := 3) (fun _ => rfl) hx (j := 2) (by omega) (cs := cs)
   rw [show (enc3 x)[2]? = some (.int .i64 x.2.2) from rfl] at hw
   simp (disch := omega) only [SS, ↓reduceIte, Nat.reduceAdd, Nat.reduceSub, Nat.reduceMul, Nat.reduceLT, Nat.reduceLeDiff, Nat.reduceEqDiff, Int.reduceBEq, Int.reduceLT, Int.reduceNeg, (hk b hb).trans hgb, hw, hg, wrap_s (show i < 1000000000000 by omega)]
   refine ⟨fun h1 => bad (by unfold BadW; omega), fun h1 => ⟨fun h2 => bad (by unfold BadW; omega), fun h2 => ?_⟩⟩
   exact ⟨_, by omega, i + 1, rfl, hlt, rfl, hg, hk, by omega, take_no hx hno2 (by unfold BadW; omega)⟩
  ·have : i = es.length := by omega
   subst this
   rw [List.take_length] at hno2
   exact ⟨0, rfl, ⟨fun _ => ⟨by omega, by omega, by omega, hno, hno2⟩, fun _ => rfl⟩, hk, by omega⟩
def toG (e : Edg3) : GE := ⟨e.1.toNat, e.2.1.toNat, e.2.2⟩
theorem RightV.ges {n : Int} {es : List Edg3} (h : RightV n es) : ∃ N : Nat, n = (N : Int) ∧ N ≤ 4096 ∧ flat enc3 es = flat encG (es.map toG) ∧ ∀ g ∈ es.map toG, GOk N g := by
 obtain ⟨h1, h2, h3, h4, h5⟩ := h
 refine ⟨n.toNat, by omega, by omega, ?_, fun g hg => ?_⟩
 ·have : ∀ l : List Edg3, (∀ e ∈ l, ¬ BadE n e) → flat enc3 l = flat encG (l.map toG) := by
   intro l
   induction l with
   | nil => intro _; rfl
   | cons x l ih =>
    intro hl
    show enc3 x ++ flat enc3 l = encG (toG x) ++ flat encG (l.map toG)
    have hx := hl x (List.mem_cons_self ..)
    unfold BadE at hx
    rw [ih (fun e he => hl e (List.mem_cons_of_mem _ he))]
    congr 1
    unfold enc3 encG toG
    simp only
    rw [Int.toNat_of_nonneg (by omega), Int.toNat_of_nonneg (by omega)]
  exact this es h4
 ·obtain ⟨e, he, rfl⟩ := List.mem_map.1 hg
  have h6 := h4 e he
  have h7 := h5 e he
  unfold BadE at h6
  unfold BadW at h7
  refine ⟨?_, ?_, ?_, ?_⟩
  ·show e.1.toNat < n.toNat; omega
  ·show e.2.1.toNat < n.toNat; omega
  ·show 0 ≤ e.2.2; omega
  ·show e.2.2 ≤ 2147483647; omega
theorem SlPx.map {h : Hp} {nx : Nat} {v : Value} {es : List Edg3} (hs : SlPx h nx v enc3 es) (e : flat enc3 es = flat encG (es.map toG)) : SlPx h nx v encG (es.map toG) := by
 obtain ⟨a, cap, hv, hc⟩ := hs
 refine ⟨a, cap, by rw [List.length_map]; exact hv, fun hl => ?_⟩
 obtain ⟨b, sp, ro, cs, hb, ha, hg⟩ := hc (fun h0 => hl (by rw [h0]; rfl))
 exact ⟨b, sp, ro, cs, hb, ha, by rw [← e]; exact hg⟩
def RootK (N b : Nat) (F : List Nat) (v : Nat) (h : Hp) (nx : Nat) : KC' := fun r h' nx' => ∃ (q : Nat) (F' : List Nat), r = .int .i64 (q : Int) ∧ Root F v q ∧ Forest N F' ∧ (∀ u q, Root F u q → Root F' u q) ∧ hget h' b = some (.cells (ints (nats F')) false) ∧ (∀ b2, b2 ≠ b → hget h' b2 = hget h b2) ∧ nx' = nx
theorem minN {a b : Nat} : min (a : Int) (b : Int) = ((min a b : Nat) : Int) := by omega
theorem maxN {a b : Nat} : max (a : Int) (b : Int) = ((max a b : Nat) : Int) := by omega
theorem nat_get {F : List Nat} {i x : Nat} (h : F[i]? = some x) : (ints (nats F))[i]? = some (.int .i64 (x : Int)) := ints_get (nats_get h)
theorem root_c {N b cap : Nat} {sp : Option Nat} (hN : N < 1000000) : ∀ (v : Nat), v < N → ∀ {s : Bool} (F : List Nat) (h : Hp) (nx : Nat), Forest N F → hget h b = some (.cells (ints (nats F)) false) →
  Cv Q O s 49 [.slice (some ⟨b, 0, sp⟩) N cap, .int .i64 (v : Int)] h nx (RootK N b F v h nx) := by
 intro v
 induction v using Nat.strongRecOn with
 | _ v ih =>
  intro hv s F h nx hF hb
  obtain ⟨u, hu⟩ := get_ex (l := F) (i := v) (by rw [hF.1]; exact hv)
  have huv := hF.2 v u hu
  refine rootv ?_
  unfold root
  simp (disch := omega) only [SS, ↓reduceIte, Nat.reduceAdd, Nat.reduceSub, Nat.reduceMul, Nat.reduceLT, Nat.reduceLeDiff, Nat.reduceEqDiff, Int.reduceBEq, Int.reduceLT, Int.reduceNeg, hb, nat_get hu]
  refine ⟨fun hne => ?_, fun he => ?_⟩
  ·have hne : u ≠ v := fun e => by subst e; simp at hne
   refine (ih u (by omega) (by omega) F h nx hF hb).mono ?_
   rintro r h1 nx1 ⟨q, F1, rfl, hr, hF1, hs, hb1, hk, rfl⟩
   have hr0 : Root F v q := .up hu hne hr
   obtain ⟨hF2, hs2⟩ := Root.short hF1 (hs _ _ hr0)
   have hq : (nats (F1.set v q))[v]? = some ((q : Nat) : Int) := nats_get (by rw [List.getElem?_set, if_pos rfl, if_pos (by rw [hF1.1]; exact hv)])
   simp (disch := omega) only [SS, ↓reduceIte, Nat.reduceAdd, Nat.reduceSub, Nat.reduceMul, Nat.reduceLT, Nat.reduceLeDiff, Nat.reduceEqDiff, Int.reduceBEq, Int.reduceLT, Int.reduceNeg, hb1, nats_set, ints_get hq]
   refine ⟨by rw [nats_len, hF1.1]; exact hv, q, F1.set v q, rfl, hr0, hF2, fun u' q' h' => hs2 _ _ (hs _ _ h'), hnew _ _ _, fun b2 h2 => (hold h2).trans (hk b2 h2), rfl⟩
  ·have he : u = v := by
    have h2 : (u : Int) = (v : Int) := by simpa using he
    omega
   subst he
   exact ⟨u, F, rfl, .here hu, hF, fun _ _ h => h, hb, fun _ _ => rfl, rfl⟩
def GroJ0 (N nx : Nat) (v2 : Value) (h : Hp) (m : Nat) (vs : List Value) (h' : Hp) (nx' : Nat) : Prop :=
 ∃ i : Nat, m = N - i ∧ i ≤ N ∧ vs = [.pointer (some ⟨nx, 0, none⟩), .slice (some ⟨nx + 1, 0, none⟩) N N, .int .i64 (N : Int), .int .i64 (i : Int)] ∧ hget h' nx = some (.cells [.int .i64 (N : Int), v2] false) ∧ hget h' (nx + 1) = some (.cells (ints (nats (upTo N i))) false) ∧ Keep nx h h' ∧ nx' = nx + 1 + 1
def GroJ2 (N nx : Nat) (v2 : Value) (gs : List GE) (h : Hp) (m : Nat) (vs : List Value) (h' : Hp) (nx' : Nat) : Prop :=
 ∃ (i : Nat) (F : List Nat), m = gs.length - i ∧ i ≤ gs.length ∧ ForI N gs i F ∧ vs = [.slice (some ⟨nx + 1, 0, none⟩) N N, v2, .int .i64 (gs.length : Int), .int .i64 (i : Int)] ∧ hget h' (nx + 1) = some (.cells (ints (nats F)) false) ∧ Keep nx h h' ∧ nx + 1 + 1 ≤ nx'
def GrownK (N nx : Nat) (gs : List GE) (h : Hp) : KC' := fun r h' nx' => ∃ (b : Nat) (F : List Nat), r = .slice (some ⟨b, 0, none⟩) N N ∧ hget h' b = some (.cells (ints (nats F)) false) ∧ ForI N gs gs.length F ∧ nx ≤ b ∧ b < nx' ∧ Keep nx h h' ∧ nx ≤ nx'
theorem rep_ints (N : Nat) : List.replicate N (Value.int .i64 0) = ints (nats (upTo N 0)) := by
 rw [upTo_zero]; simp [ints]
theorem grown_c {s : Bool} {N : Nat} {v : Value} {gs : List GE} {h : Hp} {nx : Nat} (hv : SlPx h nx v encG gs) (hN : N ≤ 4096) (hl : gs.length ≤ 65536) (hok : ∀ g ∈ gs, GOk N g) :
  Cv Q O s 48 [.agg ⟨[.int .i64 (N : Int), v]⟩] h nx (GrownK N nx gs h) := by
 refine grownv ?_
 obtain ⟨a, cap, rfl, hc⟩ := id hv
 unfold grown
 simp (disch := omega) only [SS, ↓reduceIte, Nat.reduceAdd, Nat.reduceSub, Nat.reduceMul, Nat.reduceLT, Nat.reduceLeDiff, Nat.reduceEqDiff, Int.reduceBEq, Int.reduceLT, Int.reduceNeg, rep_ints]
 refine Lp.mk (GroJ0 N nx (.slice a gs.length cap) h) N ⟨0, by omega, by omega, rfl, by rw [hold (by omega), hnew], hnew _ _ _, ((Keep.refl _ _).set (Nat.le_refl _)).set (Nat.le_succ _), rfl⟩ ?_
 rintro _ _ h' _ ⟨i, rfl, hi, rfl, g0, g1, hk, rfl⟩
 rw [grownb0]
 unfold grownl0
 simp (disch := omega) only [SS, ↓reduceIte, Nat.reduceAdd, Nat.reduceSub, Nat.reduceMul, Nat.reduceLT, Nat.reduceLeDiff, Nat.reduceEqDiff, Int.reduceBEq, Int.reduceLT, Int.reduceNeg, g0, g1]
 refine ⟨fun hlt => ?_, fun hge => ?_⟩
 ·have ei : IntKind.wrap .i64 ((i : Int) + 1) = ((i + 1 : Nat) : Int) := wrap_s (by omega)
  simp (disch := omega) only [SS, ↓reduceIte, Nat.reduceAdd, Nat.reduceSub, Nat.reduceMul, Nat.reduceLT, Nat.reduceLeDiff, Nat.reduceEqDiff, Int.reduceBEq, Int.reduceLT, Int.reduceNeg, g1, nats_set, upTo_set hlt, ei]
  exact ⟨by rw [nats_len, upTo_len]; exact hlt, N - (i + 1), by omega, i + 1, rfl, hlt, rfl, by rw [hold (by omega)]; exact g0, hnew _ _ _, hk.set (by omega), rfl⟩
 ·have : i = N := by omega
  subst this
  rw [upTo_full] at g1
  refine Lp.mk (GroJ2 i nx (.slice a gs.length cap) gs h) gs.length ⟨0, _, by omega, by omega, ForI.init, rfl, g1, hk, Nat.le_refl _⟩ ?_
  rintro _ _ h' nx' ⟨j, F, rfl, hj, hF, rfl, g1, hk, hle⟩
  rw [grownb1]
  unfold grownl1
  simp (disch := omega) only [SS, ↓reduceIte, Nat.reduceAdd, Nat.reduceSub, Nat.reduceMul, Nat.reduceLT, Nat.reduceLeDiff, Nat.reduceEqDiff, Int.reduceBEq, Int.reduceLT, Int.reduceNeg]
  refine ⟨fun hlt => ?_, fun hge => ?_⟩
  ·obtain ⟨x, hx⟩ := get_ex hlt
   obtain ⟨_, b, sp, ro, c1, cs, hb, e1, hgb⟩ := hv.at hx
   cases e1
   obtain ⟨o1, o2, o3, o4⟩ := hok x (List.mem_of_getElem? hx)
   simp (disch := omega) only [SS, ↓reduceIte, Nat.reduceAdd, Nat.reduceSub, Nat.reduceMul, Nat.reduceLT, Nat.reduceLeDiff, Nat.reduceEqDiff, Int.reduceBEq, Int.reduceLT, Int.reduceNeg, (hk b hb).trans hgb, rdP (enc := encG) (k := 3) (fun _ => rfl) hx, encG]
   refine (root_c (N := i) (b := nx + 1) (by omega) x.f o1 F _ _ hF.forest (by rw [hold (by omega), hold (by omega)]; exact g1)).mono ?_
   rintro r h2 nx2 ⟨q, F2, rfl, hr, hF2, hs2, hb2, hk2, rfl⟩
   have g2 := hk2 nx' (by omega)
   rw [hnew] at g2
   simp (disch := omega) only [SS, ↓reduceIte, Nat.reduceAdd, Nat.reduceSub, Nat.reduceMul, Nat.reduceLT, Nat.reduceLeDiff, Nat.reduceEqDiff, Int.reduceBEq, Int.reduceLT, Int.reduceNeg, g2]
   refine (root_c (N := i) (b := nx + 1) (by omega) x.t o2 F2 _ _ hF2 hb2).mono ?_
   rintro r h3 nx3 ⟨q', F3, rfl, hr3, hF3, hs3, hb3, hk3, rfl⟩
   have r1 := hs3 _ _ (hs2 _ _ hr)
   have r2 := hs3 _ _ hr3
   have hF3' := (hF.same hF2 hs2).same hF3 hs3
   have q1 := r1.le hF3
   have q2 := hr3.le hF2
   have ej : IntKind.wrap .i64 ((j : Int) + 1) = ((j + 1 : Nat) : Int) := wrap_s (by omega)
   have hm : max q q' < i := by omega
   simp (disch := omega) only [SS, ↓reduceIte, Nat.reduceAdd, Nat.reduceSub, Nat.reduceMul, Nat.reduceLT, Nat.reduceLeDiff, Nat.reduceEqDiff, Int.reduceBEq, Int.reduceLT, Int.reduceNeg, minN, maxN, hb3, nats_set, ej, nats_len, hF3.1]
   refine ⟨hm, _, by omega, j + 1, _, rfl, by omega, hF3'.step hx r1 r2, rfl, hnew _ _ _, fun c hc => ?_, by omega⟩
   rw [hold (by omega), hk3 c (by omega), hk2 c (by omega), hold (by omega), hold (by omega)]
   exact hk c hc
  ·have : j = gs.length := by omega
   subst this
   exact ⟨nx + 1, F, rfl, g1, hF, by omega, by omega, hk, by omega⟩
structure FJ (N v fb bx bv : Nat) (L : List Nat) (h : Hp) (nx : Nat) : Prop where
 has : ∃ F, Forest N F ∧ (∀ u q, Root F u q ↔ L[u]? = some q) ∧ hget h fb = some (.cells (ints (nats F)) false)
 box : hget h bx = some (.cells [.slice (some ⟨fb, 0, none⟩) N N] false)
 at_ : hget h bv = some (.cells [.int .i64 (v : Int)] false)
 l1 : fb < nx
 l2 : bx < nx
 l3 : bv < nx
theorem FJ.keep {N v fb bx bv : Nat} {L : List Nat} {h h' : Hp} {nx nx' : Nat} (j : FJ N v fb bx bv L h nx) (hk : ∀ c, c = fb ∨ c = bx ∨ c = bv → hget h' c = hget h c) (hle : nx ≤ nx') : FJ N v fb bx bv L h' nx' := by
 obtain ⟨⟨F, h1, h2, h3⟩, h4, h5, h6, h7, h8⟩ := j
 exact ⟨⟨F, h1, h2, by rw [hk _ (.inl rfl)]; exact h3⟩, by rw [hk _ (.inr (.inl rfl))]; exact h4, by rw [hk _ (.inr (.inr rfl))]; exact h5, by omega, by omega, by omega⟩
def offP (L : List Nat) (v : Nat) (g : GE) : Bool := !(L[g.f]? == L[v]?)
theorem part1_c {N v fb bx bv : Nat} {L : List Nat} {h : Hp} {nx : Nat} {s : Bool} {g : GE} (hN : N ≤ 4096) (hv : v < N) (hg : g.f < N) (hne : fb ≠ bx ∧ fb ≠ bv) (j : FJ N v fb bx bv L h nx) :
  Cv Q O s 54 [.agg ⟨encG g⟩, .pointer (some ⟨bx, 0, none⟩), .pointer (some ⟨bv, 0, none⟩)] h nx (fun r h2 nx2 => r = .bool (offP L v g) ∧ FJ N v fb bx bv L h2 nx2 ∧ nx ≤ nx2 ∧ ∀ c, c < nx → c ≠ fb → hget h2 c = hget h c) := by
 refine part1v ?_
 obtain ⟨⟨F, h1, h2, h3⟩, h4, h5, h6, h7, h8⟩ := j
 unfold part1 encG
 simp (disch := omega) only [SS, ↓reduceIte, Nat.reduceAdd, Nat.reduceSub, Nat.reduceMul, Nat.reduceLT, Nat.reduceLeDiff, Nat.reduceEqDiff, Int.reduceBEq, Int.reduceLT, Int.reduceNeg, h4]
 refine (root_c (N := N) (b := fb) (by omega) g.f hg F _ _ h1 (by rw [hold (by omega)]; exact h3)).mono ?_
 rintro r h10 nx10 ⟨q, F1, rfl, hr, hF1, hs1, hb1, hk1, rfl⟩
 have e4 := (hk1 bx (Ne.symm hne.1)).trans ((hold (by omega)).trans h4)
 have e5 := (hk1 bv (Ne.symm hne.2)).trans ((hold (by omega)).trans h5)
 simp (disch := omega) only [SS, ↓reduceIte, Nat.reduceAdd, Nat.reduceSub, Nat.reduceMul, Nat.reduceLT, Nat.reduceLeDiff, Nat.reduceEqDiff, Int.reduceBEq, Int.reduceLT, Int.reduceNeg, e4, e5, h4, h5]
 refine (root_c (N := N) (b := fb) (by omega) v hv F1 _ _ hF1 hb1).mono ?_
 rintro r h11 nx11 ⟨q2, F2, rfl, hr2, hF2, hs2, hb2, hk2, rfl⟩
 have iff2 : ∀ u q, Root F2 u q ↔ L[u]? = some q := fun u q => ⟨fun hh => (h2 u q).1 (Root.back h1 hF1 hs1 (Root.back hF1 hF2 hs2 hh)), fun hh => hs2 _ _ (hs1 _ _ ((h2 u q).2 hh))⟩
 have l1 := (h2 _ _).1 hr
 have l2 := (h2 _ _).1 (Root.back h1 hF1 hs1 hr2)
 simp (disch := omega) only [SS, ↓reduceIte, Nat.reduceAdd, Nat.reduceSub, Nat.reduceMul, Nat.reduceLT, Nat.reduceLeDiff, Nat.reduceEqDiff, Int.reduceBEq, Int.reduceLT, Int.reduceNeg]
 refine ⟨?_, ⟨⟨F2, hF2, iff2, hb2⟩, (hk2 bx (Ne.symm hne.1)).trans e4, (hk2 bv (Ne.symm hne.2)).trans e5, by omega, by omega, by omega⟩, by omega, fun c hc hcf => ?_⟩
 ·unfold offP
  rw [l1, l2]
  by_cases e : q = q2
  ·subst e; simp
  ·have e' : ¬ ((q : Int) = (q2 : Int)) := by omega
   have h1 : ((q : Int) == (q2 : Int)) = false := by simpa using e'
   have h2 : (q == q2) = false := by simpa using e
   simp [h1, h2]
 ·rw [hk2 c hcf, hk1 c hcf, hold (by omega)]
theorem vSl_lo {n i b z w : Nat} (hi : i ≤ n) : ∃ v, vSl z (.slice (some ⟨b, 0, some (w + 1)⟩) n n) (some (.int .i64 (i : Int))) none none = .ok v ∧ v = (if i = n then .slice (some ⟨b, 0, some 0⟩) 0 0 else .slice (some ⟨b, i * z, some (w + 1)⟩) (n - i) (n - i)) := by
 refine ⟨_, ?_, rfl⟩
 show sliceV z (some ⟨b, 0, some (w + 1)⟩) n false n n i = _
 unfold sliceV
 rw [show (Nat.ble n n && (Nat.ble n n && Nat.ble i n)) = true by simp [hi]]
 show sliceW z (some ⟨b, 0, some (w + 1)⟩) false n n i = _
 unfold sliceW
 by_cases e : i = n
 ·subst e
  rw [Nat.beq_refl, if_pos rfl]; rfl
 ·rw [if_neg e, show Nat.beq n i = false by
   cases hb : Nat.beq n i with
   | true => exact absurd (Nat.eq_of_beq_eq_true hb).symm e
   | false => rfl]
  show R.ok (Value.slice (some ⟨b, Nat.add 0 (Nat.mul i z), some (w + 1)⟩) (Nat.sub n i) (Nat.sub n i)) = _
  simp
theorem vSl_hi {n i b z w : Nat} (hi : i ≤ n) (hn : 0 < n) : vSl z (.slice (some ⟨b, 0, some (w + 1)⟩) n n) none (some (.int .i64 (i : Int))) none = .ok (.slice (some ⟨b, 0, some (w + 1)⟩) i n) := by
 show sliceV z (some ⟨b, 0, some (w + 1)⟩) n false n i 0 = _
 unfold sliceV
 rw [show (Nat.ble n n && (Nat.ble i n && Nat.ble 0 i)) = true by simp [hi]]
 show sliceW z (some ⟨b, 0, some (w + 1)⟩) false n i 0 = _
 unfold sliceW
 rw [show Nat.beq n 0 = false by
  cases hb : Nat.beq n 0 with
  | true => have := Nat.eq_of_beq_eq_true hb; omega
  | false => rfl]
 show R.ok (Value.slice (some ⟨b, Nat.add 0 (Nat.mul 0 z), some (w + 1)⟩) (Nat.sub i 0) (Nat.sub n 0)) = _
 simp
def zG : GE := ⟨0, 0, 0⟩
theorem clear_c {h : Hp} {nx b i n : Nat} {l : List GE} (hl : l.length = n) (hi : i ≤ n) (hb : hget h b = some (.cells (flat encG l) false)) {v : Value} (hv : v = (if i = n then .slice (some ⟨b, 0, some 0⟩) 0 0 else .slice (some ⟨b, i * 3, some 3⟩) (n - i) (n - i))) {K : KC'}
  (hK : ∀ r h', hget h' b = some (.cells (flat encG (l.take i ++ List.replicate (n - i) zG)) false) → (∀ c, c ≠ b → hget h' c = hget h c) → K r h' nx) : EK (orR (builtinA Tryz.prog .clear [22] h nx [v])) K := by
 subst hv
 have ty : isSliceTy Tryz.prog 22 = true := by kernel_rfl
 have mp : isMapTy Tryz.prog 22 = false := by kernel_rfl
 have el : elemOfS Tryz.prog 22 = some 52 := by kernel_rfl
 have ze : zeroOf Tryz.prog 52 = some [.int .i64 0, .int .i64 0, .int .i64 0] := by kernel_rfl
 have e1 : ∀ v, builtinA Tryz.prog .clear [22] h nx [v] = clearA Tryz.prog 22 h nx v := fun v => by
  show (bif isMapTy Tryz.prog 22 || isSliceTy Tryz.prog 22 then clearA Tryz.prog 22 h nx v else .no "clear") = _
  rw [ty, mp]; rfl
 rw [e1]
 by_cases e : i = n
 ·rw [if_pos e]
  refine hK _ _ ?_ (fun _ _ => rfl)
  rw [e, Nat.sub_self, List.take_of_length_le (by omega)]
  simpa using hb
 ·rw [if_neg e]
  obtain ⟨m, hm⟩ : ∃ m, n - i = m + 1 := ⟨n - i - 1, by omega⟩
  have hfl : (flat encG l).length = n * 3 := by rw [flat_len (k := 3) (fun _ => rfl), hl]
  have hr : repL (n - i) [Value.int .i64 0, .int .i64 0, .int .i64 0] = flat encG (List.replicate (n - i) zG) := by
   rw [repL_eq]
   generalize n - i = q
   induction q with
   | zero => rfl
   | succ q ih => rw [List.replicate_succ, List.replicate_succ, List.flatten_cons, ih]; rfl
  have hcell : ∀ q, cellL (flat encG (List.replicate q zG)) = true := by
   intro q
   induction q with
   | zero => rfl
   | succ q ih => rw [List.replicate_succ]; show cellL (encG zG ++ _) = true; exact ih
  have hrl : (flat encG (List.replicate (n - i) zG)).length = (n - i) * 3 := by rw [flat_len (k := 3) (fun _ => rfl), List.length_replicate]
  have e2 : clearA Tryz.prog 22 h nx (.slice (some ⟨b, i * 3, some 3⟩) (n - i) (n - i)) = .ok (.val undefV (hset h b (.cells ((flat encG l).take (i * 3) ++ flat encG (List.replicate (n - i) zG) ++ (flat encG l).drop (i * 3 + (n - i) * 3)) false)) nx) := by
   rw [hm]
   show clearS Tryz.prog 22 h nx ⟨b, i * 3, some 3⟩ (m + 1) = _
   rw [← hm]
   unfold clearS
   rw [el, of_some, ze, of_some]
   simp only []
   rw [hr, writeA_cells hb (hcell _) (by rw [hrl, hfl]; omega), hrl]
   rfl
  rw [e2]
  refine hK _ _ ?_ (fun c hc => hold hc)
  rw [hnew, List.drop_of_length_le (by rw [hfl]; omega), List.append_nil]
  have e3 : (flat encG l).take (i * 3) = flat encG (l.take i) := by
   have : ∀ (l : List GE) (i : Nat), (flat encG l).take (i * 3) = flat encG (l.take i) := by
    intro l
    induction l with
    | nil => intro i; simp [flat]
    | cons x l ih =>
     intro i
     cases i with
     | zero => simp [flat]
     | succ i =>
      show (encG x ++ flat encG l).take ((i + 1) * 3) = encG x ++ flat encG (l.take i)
      rw [show (i + 1) * 3 = i * 3 + 3 by omega, ← ih i]
      rfl
   exact this l i
  have e4 : ∀ (a b : List GE), flat encG (a ++ b) = flat encG a ++ flat encG b := by
   intro a b
   induction a with
   | nil => rfl
   | cons x a ih => show encG x ++ flat encG (a ++ b) = (encG x ++ flat encG a) ++ flat encG b; rw [ih, List.append_assoc]
  rw [e3, e4]
theorem stP {α : Type} {enc : α → List Value} {k : Nat} (hk : ∀ x, (enc x).length = k) (hcell : ∀ x, cellL (enc x) = true) {h : Hp} {b i : Nat} {sp : Option Nat} {m : List α} {x : α} (hb : hget h b = some (.cells (flat enc m) false)) (hi : i < m.length) (hv : vcells (.agg ⟨enc x⟩) = enc x) :
  vSt h k (.pointer (some ⟨b, i * k, sp⟩)) (.agg ⟨enc x⟩) = .ok (hset h b (.cells (flat enc (m.set i x)) false)) := by
 rw [vSt_p, hv, if_pos (hk x)]
 show writeA h b (i * k) (enc x) = _
 unfold writeA
 rw [cellsOf_eq, hb, cellsO_c, hcell]
 show R.of _ (lput (enc x) (flat enc m) (i * k)) _ = _
 rw [flat_put hk x hi]
 rfl
theorem wrG {h : Hp} {b i : Nat} {m : List GE} {x : GE} (hi : i < m.length) : wrO (some (.cells (flat encG m) false)) h b (i * 3) [.int .i64 (x.f : Int), .int .i64 (x.t : Int), .int .i64 x.w] = .ok (hset h b (.cells (flat encG (m.set i x)) false)) := by
 show R.of _ (lput (encG x) (flat encG m) (i * 3)) _ = _
 rw [flat_put (k := 3) (fun _ => rfl) x hi]
 rfl
theorem rdF {α : Type} {enc : α → List Value} {l : List α} {k : Nat} (hk : ∀ x, (enc x).length = k) {i : Nat} {e : α} (he : l[i]? = some e) : loadC (some k) (i * k) (flat enc l) = .ok (.agg ⟨enc e⟩) := by
 have := rdP hk he (cs := [])
 rwa [List.append_nil] at this
def keepP (L : List Nat) (v : Nat) (g : GE) : Bool := !offP L v g
def DelJ (N v fb bx bv b : Nat) (L : List Nat) (l : List GE) (fv : Value) (h : Hp) (nx : Nat) (t : Nat) (vs : List Value) (h' : Hp) (nx' : Nat) : Prop :=
 ∃ (i j : Nat) (m : List GE), t = l.length - j ∧ j ≤ l.length ∧ i < j ∧ vs = [.slice (some ⟨b, 0, some 3⟩) l.length l.length, fv, .int .i64 (i : Int), .int .i64 (j : Int)] ∧ m.length = l.length ∧ hget h' b = some (.cells (flat encG m) false) ∧
  m.take i = (l.take j).filter (keepP L v) ∧ m.drop j = l.drop j ∧ FJ N v fb bx bv L h' nx' ∧ nx ≤ nx' ∧ ∀ c, c < nx → c ≠ fb → c ≠ b → hget h' c = hget h c
theorem delf_c {N v fb bx bv : Nat} {L : List Nat} {h : Hp} {nx : Nat} {s : Bool} {l : List GE} {v0 : Value} (hN : N ≤ 4096) (hv : v < N) (hg : ∀ g ∈ l, g.f < N) (hne : fb ≠ bx ∧ fb ≠ bv) (hll : l.length ≤ 65536) (j : FJ N v fb bx bv L h nx)
  (hsl : (l = [] ∧ v0 = .slice none 0 0) ∨ ∃ b, v0 = .slice (some ⟨b, 0, some 3⟩) l.length l.length ∧ b < nx ∧ b ≠ fb ∧ b ≠ bx ∧ b ≠ bv ∧ hget h b = some (.cells (flat encG l) false)) (lo : Nat) (hlo : lo ≤ nx) (hbl : ∀ b n c, v0 = .slice (some b) n c → lo ≤ b.block) :
  Cv Q O s 55 [v0, .func (.func 54) ⟨[]⟩ ⟨[.pointer (some ⟨bx, 0, none⟩), .pointer (some ⟨bv, 0, none⟩)]⟩] h nx (fun r h2 nx2 => SlPn h2 lo nx2 r encG (l.filter (keepP L v)) ∧ nx ≤ nx2 ∧ ∀ c, c < lo → c ≠ fb → hget h2 c = hget h c) := by
 refine delfv ?_
 unfold delf
 have hpx : SlPx h nx v0 encG l := by
  rcases hsl with ⟨rfl, rfl⟩ | ⟨b, rfl, hb, _, _, _, hg⟩
  ·exact ⟨none, 0, rfl, fun h => absurd rfl h⟩
  ·exact ⟨_, _, rfl, fun _ => ⟨b, some 3, false, [], hb, rfl, by rw [List.append_nil]; exact hg⟩⟩
 refine (index_c (enc := encG) (fun _ => rfl) (offP L v) (fun h' nx' => FJ N v fb bx bv L h' nx' ∧ nx ≤ nx' ∧ ∀ c, c < nx → c ≠ fb → hget h' c = hget h c) (fun h' nx' hh => ?_) ⟨j, Nat.le_refl _, fun _ _ _ => rfl⟩ hll (fun g hgm h' nx' K hj hK => ?_)).mono ?_
 ·rcases hsl with ⟨rfl, rfl⟩ | ⟨b, rfl, hb, hbf, _, _, hg⟩
  ·exact ⟨none, 0, rfl, fun h => absurd rfl h⟩
  ·have := hh.2.1
   exact ⟨_, _, rfl, fun _ => ⟨b, some 3, false, [], by omega, rfl, by rw [List.append_nil, hh.2.2 b hb hbf]; exact hg⟩⟩
 ·simp (disch := omega) only [SS, ↓reduceIte, Nat.reduceAdd, Nat.reduceSub, Nat.reduceMul, Nat.reduceLT, Nat.reduceLeDiff, Nat.reduceEqDiff, Int.reduceBEq, Int.reduceLT, Int.reduceNeg]
  refine (part1_c hN hv (hg g hgm) hne hj.1).mono ?_
  rintro r h2 nx2 ⟨rfl, hj2, hle2, hk2⟩
  exact hK _ _ _ rfl ⟨hj2, Nat.le_trans hj.2.1 hle2, fun c hc hcf => (hk2 c (by have := hj.2.1; omega) hcf).trans (hj.2.2 c hc hcf)⟩
 ·rintro r h1 nx1 ⟨⟨j1, hle1, hk1⟩, ⟨rfl, hno⟩ | ⟨i, x, rfl, hx, hp, hno⟩⟩
  ·simp (disch := omega) only [SS, ↓reduceIte, Nat.reduceAdd, Nat.reduceSub, Nat.reduceMul, Nat.reduceLT, Nat.reduceLeDiff, Nat.reduceEqDiff, Int.reduceBEq, Int.reduceLT, Int.reduceNeg]
   have hfil : l.filter (keepP L v) = l := List.filter_eq_self.2 (fun g hg => by unfold keepP; rw [hno g hg]; rfl)
   rw [hfil]
   refine ⟨?_, hle1, fun c hc hcf => hk1 c (by omega) hcf⟩
   rcases hsl with ⟨rfl, rfl⟩ | ⟨b, rfl, hb, hbf, _, _, hg⟩
   ·exact ⟨none, 0, rfl, fun h => absurd rfl h⟩
   ·exact ⟨_, _, rfl, fun _ => ⟨b, some 3, false, [], hbl _ _ _ rfl, by omega, rfl, by rw [List.append_nil, hk1 b hb hbf]; exact hg⟩⟩
  ·have hil := (List.getElem?_eq_some_iff.1 hx).1
   rcases hsl with ⟨rfl, rfl⟩ | ⟨b, rfl, hb, hbf, hbx, hbv, hgb⟩
   ·cases hx
   have hlob : lo ≤ b := hbl _ _ _ rfl
   have ei : IntKind.wrap .i64 ((i : Int) + 1) = ((i + 1 : Nat) : Int) := wrap_s (by omega)
   simp (disch := omega) only [SS, ↓reduceIte, Nat.reduceAdd, Nat.reduceSub, Nat.reduceMul, Nat.reduceLT, Nat.reduceLeDiff, Nat.reduceEqDiff, Int.reduceBEq, Int.reduceLT, Int.reduceNeg, ei]
   have hf0 : (l.take (i + 1)).filter (keepP L v) = l.take i := by
    rw [List.take_add_one, hx, List.filter_append]
    rw [List.filter_eq_self.2 (fun g hg => by unfold keepP; rw [hno g hg]; rfl)]
    simp [keepP, hp]
   refine ⟨fun h0 => absurd h0 (by simp), fun _ => ?_⟩
   refine Lp.mk (DelJ N v fb bx bv b L l _ h nx) (l.length - (i + 1)) ⟨i, i + 1, l, rfl, hil, by omega, rfl, rfl, (hk1 b hb hbf).trans hgb, hf0.symm, rfl, j1, hle1, fun c hc hcf _ => hk1 c hc hcf⟩ ?_
   rintro _ _ h' nx' ⟨i, k, m, rfl, hk, hik, rfl, hm, hmb, htk, hdr, hj, hle, hkk⟩
   rw [delfb0]
   unfold delfl0
   simp (disch := omega) only [SS, ↓reduceIte, Nat.reduceAdd, Nat.reduceSub, Nat.reduceMul, Nat.reduceLT, Nat.reduceLeDiff, Nat.reduceEqDiff, Int.reduceBEq, Int.reduceLT, Int.reduceNeg]
   have ek : IntKind.wrap .i64 ((k : Int) + 1) = ((k + 1 : Nat) : Int) := wrap_s (by omega)
   have ei2 : IntKind.wrap .i64 ((i : Int) + 1) = ((i + 1 : Nat) : Int) := wrap_s (by omega)
   refine ⟨fun hkl => ?_, fun hkl => ?_⟩
   ·obtain ⟨y, hy⟩ := get_ex (l := m) (i := k) (by omega)
    have hly : l[k]? = some y := by
     have := congrArg (·[0]?) hdr
     simp only [List.getElem?_drop, Nat.add_zero] at this
     rw [← this]; exact hy
    have hnf : nx' ≠ fb := by have := hj.l1; omega
    have hnb : b ≠ nx' := by omega
    simp (disch := omega) only [SS, ↓reduceIte, Nat.reduceAdd, Nat.reduceSub, Nat.reduceMul, Nat.reduceLT, Nat.reduceLeDiff, Nat.reduceEqDiff, Int.reduceBEq, Int.reduceLT, Int.reduceNeg, hmb, rdF (enc := encG) (k := 3) (fun _ => rfl) hy, encG]
    have jj : FJ N v fb bx bv L (hset (hset h' nx' (.cells [.int .i64 0, .int .i64 0, .int .i64 0] false)) nx' (.cells [.int .i64 (y.f : Int), .int .i64 (y.t : Int), .int .i64 y.w] false)) (nx' + 1) :=
     hj.keep (fun c hc => by have := hj.l1; have := hj.l2; have := hj.l3; rw [hold (by omega), hold (by omega)]) (Nat.le_succ _)
    refine (part1_c (g := y) hN hv (hg y (List.mem_of_getElem? hly)) hne jj).mono ?_
    rintro r h2 nx2 ⟨rfl, hj2, hle2, hk2⟩
    have g1 := hk2 nx' (by omega) hnf
    rw [hnew] at g1
    have g2 := hk2 b (by omega) hbf
    rw [hold (by omega), hold (by omega), hmb] at g2
    have hfr : ∀ c, c < nx → c ≠ fb → c ≠ b → hget h2 c = hget h c := fun c hc hcf hcb => by rw [hk2 c (by omega) hcf, hold (by omega), hold (by omega)]; exact hkk c hc hcf hcb
    have hdr1 : ∀ (m' : List GE), (∀ q, k < q → m'[q]? = m[q]?) → m'.drop (k + 1) = l.drop (k + 1) := fun m' hm' => by
     apply List.ext_getElem?
     intro q
     rw [List.getElem?_drop, hm' _ (by omega), ← List.getElem?_drop, ← List.drop_drop, hdr, List.drop_drop]
    simp (disch := omega) only [SS, ↓reduceIte, Nat.reduceAdd, Nat.reduceSub, Nat.reduceMul, Nat.reduceLT, Nat.reduceLeDiff, Nat.reduceEqDiff, Int.reduceBEq, Int.reduceLT, Int.reduceNeg, g1, g2, ei2, ek, wrG (m := m) (x := y) (i := i) (by omega)]
    refine ⟨fun hkp => ?_, fun hkp => ?_⟩
    ·refine ⟨l.length - (k + 1), by omega, i + 1, k + 1, m.set i y, rfl, by omega, by omega, rfl, by rw [List.length_set]; exact hm, hnew _ _ _, ?_, hdr1 _ (fun q hq => by rw [List.getElem?_set, if_neg (by omega)]), hj2.keep (fun c hc => hold (by omega)) (Nat.le_refl _), by omega, fun c hc hcf hcb => (hold hcb).trans (hfr c hc hcf hcb)⟩
     rw [List.take_add_one, List.take_set_of_le (Nat.le_refl _), htk, List.take_add_one, hly, List.filter_append, List.getElem?_set, if_pos rfl, if_pos (by omega)]
     simp [keepP, hkp]
    ·refine ⟨l.length - (k + 1), by omega, i, k + 1, m, rfl, by omega, by omega, rfl, hm, g2, ?_, hdr1 _ (fun _ _ => rfl), hj2, by omega, hfr⟩
     rw [htk, List.take_add_one, hly, List.filter_append]
     simp [keepP, hkp]
   ·have hkn : k = l.length := by omega
    subst hkn
    obtain ⟨v1, hv1, hv2⟩ := vSl_lo (n := l.length) (i := i) (b := b) (z := 3) (w := 2) (by omega)
    rw [List.take_length] at htk
    simp (disch := omega) only [SS, ↓reduceIte, Nat.reduceAdd, Nat.reduceSub, Nat.reduceMul, Nat.reduceLT, Nat.reduceLeDiff, Nat.reduceEqDiff, Int.reduceBEq, Int.reduceLT, Int.reduceNeg, hv1]
    refine clear_c hm (by omega) hmb hv2 (fun r h2 hb2 hk2 => ?_)
    simp (disch := omega) only [SS, ↓reduceIte, Nat.reduceAdd, Nat.reduceSub, Nat.reduceMul, Nat.reduceLT, Nat.reduceLeDiff, Nat.reduceEqDiff, Int.reduceBEq, Int.reduceLT, Int.reduceNeg, vSl_hi (n := l.length) (i := i) (b := b) (z := 3) (w := 2) (by omega) (by omega)]
    refine ⟨?_, by omega, fun c hc hcf => (hk2 c (by omega)).trans (hkk c (by omega) hcf (by omega))⟩
    have hil : i = (l.filter (keepP L v)).length := by rw [← htk, List.length_take]; omega
    have e4 : ∀ (a b : List GE), flat encG (a ++ b) = flat encG a ++ flat encG b := by
     intro a b
     induction a with
     | nil => rfl
     | cons x a ih => show encG x ++ flat encG (a ++ b) = (encG x ++ flat encG a) ++ flat encG b; rw [ih, List.append_assoc]
    rw [e4, htk] at hb2
    exact ⟨some ⟨b, 0, some 3⟩, l.length, by rw [← hil], fun _ => ⟨b, some 3, false, _, hlob, by omega, rfl, hb2⟩⟩
theorem combine_o {gs : List GE} {N : Nat} {s : Bool} {h : Hp} {nx : Nat} {v : Value} (hv : SlPx h nx v encG gs) (hN : N ≤ 2147483648) (hok : ∀ g ∈ gs, GOk N g) (hl : gs.length ≤ 60) :
  Cv Q O s 68 [.int .i64 1, v] h nx (fun r h' nx' => ∃ v2 cs, r = .tuple ⟨[v2, .int .i64 0]⟩ ∧ SlAt h' v2 encG 3 cs nx nx' ∧ CanOf N gs cs ∧ Keep nx h h' ∧ nx ≤ nx') := by
 obtain ⟨a, cap, rfl, hc⟩ := id hv
 have hcan := canOf N gs hN hok
 by_cases h0 : gs = []
 ·subst h0
  have e : gCombF [.int .i64 1, .slice a 0 cap] h nx = .ok (.tuple ⟨[.slice none 0 0, .int .i64 0]⟩) h nx := by
   cases a <;> rfl
  exact Cv.byOrc (g := gCombF) rfl e ⟨_, [], rfl, .inl ⟨rfl, rfl⟩, hcan, Keep.refl _ _, Nat.le_refl _⟩
 ·obtain ⟨b, sp, ro, cx, hb, rfl, hg⟩ := hc h0
  have hlen : gs.length ≠ 0 := fun e => h0 (List.eq_nil_of_length_eq_zero e)
  have hsm : ∀ x ∈ gs.map gE, Small x := fun x hx => by
   obtain ⟨g, hg, rfl⟩ := List.mem_map.1 hx
   exact small_gE hN (hok g hg)
  rw [flat_gE] at hg
  have hfl : (flat encE (gs.map gE)).length = gs.length * 3 := by rw [flat_len (k := 3) (fun _ => rfl), List.length_map]
  generalize hL : sortB ltE (combG [] (gs.map gE)) = L at hcan
  have hgl : gCombF [.int .i64 1, .slice (some ⟨b, 0, sp⟩) gs.length cap] h nx = combResF h nx L := by
   obtain ⟨m, hm⟩ : ∃ m, gs.length = m + 1 := ⟨gs.length - 1, by omega⟩
   have e2 : lcut (gs.length * 3) (ldrop (flat encE (gs.map gE) ++ cx) 0) = some (flat encE (gs.map gE)) := by
    rw [ldrop_eq, List.drop_zero, lcut_eq, if_pos (by rw [List.length_append, hfl]; exact Nat.le_add_right _ _), ← hfl, List.take_left]
   rw [hm] at e2 ⊢
   show (match hget h b with
    | some (.cells cs _) => (match lcut ((m + 1) * 3) (ldrop cs 0) with
     | some l => (match edgesB l with
      | some es => bif Nat.ble es.length 60 then combResF h nx (sortB ltE (combG [] es)) else .no "Combine"
      | none => .no "Combine")
     | none => .no "Combine")
    | _ => .no "Combine") = _
   rw [hg]
   simp only [e2, edgesB_flat hsm, List.length_map, hL]
   rw [show Nat.ble gs.length 60 = true by simpa using hl]
   rfl
  have hLn : L ≠ [] := fun e => by
   have := (sortB_perm (lt := ltE) (combG [] (gs.map gE))).length_eq
   rw [hL, e] at this
   have e1 := (combG_ends (gs.map gE) []).2
   obtain ⟨g, l, rfl⟩ : ∃ g l, gs = g :: l := by cases gs with | nil => exact absurd rfl h0 | cons g l => exact ⟨g, l, rfl⟩
   obtain ⟨x, hx, _⟩ := e1 (gE g) (by simp)
   have : combG [] ((g :: l).map gE) = [] := List.eq_nil_of_length_eq_zero this.symm
   rw [this] at hx; cases hx
  have hso : sortedB ltE L = true := by rw [← hL]; exact sortB_sorted _
  have e3 : combResF h nx L = .ok (.tuple ⟨[.slice (some ⟨nx, 0, some 3⟩) L.length L.length, .int .i64 0]⟩) (hset h nx (.cells (flat encE L) false)) (nx + 1) := by
   cases L with
   | nil => exact absurd rfl hLn
   | cons x l => show (bif sortedB ltE (x :: l) then _ else _) = _; rw [hso]; rfl
  refine Cv.byOrc (g := gCombF) rfl (hgl.trans e3) ⟨_, L.map eG, rfl, .inr ⟨nx, Nat.le_refl _, Nat.lt_succ_self _, by rw [List.length_map], ?_⟩, hcan, fun c hc => hold (by omega), Nat.le_succ _⟩
  rw [hnew, flat_gE, hcan.eq, hL]
def CanK (N : Nat) (gs : List GE) (nx : Nat) (h : Hp) : KC' := fun r h' nx' => ∃ v2 cs, r = .agg ⟨[.int .i64 (N : Int), v2]⟩ ∧ SlAt h' v2 encG 3 cs nx nx' ∧ IsCan (gs.map gE) (cs.map gE) ∧ (∀ g ∈ cs, GOk N g) ∧ cs.length ≤ gs.length ∧ Keep nx h h' ∧ nx ≤ nx'
theorem canon_c {gs : List GE} {N : Nat} {s : Bool} {h : Hp} {nx : Nat} {v : Value} (hv : SlPx h nx v encG gs) (hN : N ≤ 2147483648) (hok : ∀ g ∈ gs, GOk N g) (hl : gs.length ≤ 60) :
  Cv Q O s 56 [.agg ⟨[.int .i64 (N : Int), v]⟩] h nx (CanK N gs nx h) := by
 refine canonv ?_
 obtain ⟨a, cap, rfl, hc⟩ := id hv
 unfold canon
 simp (disch := omega) only [SS, ↓reduceIte, Nat.reduceAdd, Nat.reduceSub, Nat.reduceMul, Nat.reduceLT, Nat.reduceLeDiff, Nat.reduceEqDiff, Int.reduceBEq, Int.reduceLT, Int.reduceNeg]
 have k0 : ∀ {o1 o2 : AObj}, Keep nx h (hset (hset h nx o1) (nx + 1) o2) := fun {o1 o2} b hb => by rw [hold (by omega), hold (by omega)]
 refine (combine_o (hv.keep k0 (by omega)) hN hok hl).mono ?_
 rintro r h1 nx1 ⟨v2, cs, rfl, hcs, hcan, hk, hle⟩
 have g1 := (hk nx (by omega)).trans (hold (by omega))
 have g2 := hk (nx + 1) (by omega)
 rw [hnew] at g1 g2
 obtain ⟨a2, n2, cap2, rfl⟩ := hcs.form
 simp (disch := omega) only [SS, ↓reduceIte, Nat.reduceAdd, Nat.reduceSub, Nat.reduceMul, Nat.reduceLT, Nat.reduceLeDiff, Nat.reduceEqDiff, Int.reduceBEq, Int.reduceLT, Int.reduceNeg, g1, g2]
 have hi : IsCan (gs.map gE) (cs.map gE) := by rw [hcan.eq]; exact isCan_sort _
 refine ⟨_, cs, rfl, ?_, hi, hcan.ok, hcan.len, (k0.trans hk (by omega)).set (by omega), by omega⟩
 rcases hcs with hcs | ⟨b, h1, h2, e, hb⟩
 ·exact .inl hcs
 ·exact .inr ⟨b, by omega, h2, e, by rw [hold (by omega)]; exact hb⟩
def PartOk (n : Int) (es : List Edg3) (v : Int) : Prop := RightV n es ∧ 0 ≤ v ∧ v < n
def PartK (n : Int) (es : List Edg3) (v : Int) (nx : Nat) (h : Hp) : KC' := fun r h' nx' => ∃ n' ve, r = .agg ⟨[.int .i64 n', ve]⟩ ∧ Keep nx h h' ∧ nx ≤ nx' ∧
 ((¬ PartOk n es v ∧ n' = 0 ∧ ve = .slice none 0 0) ∨ (PartOk n es v ∧ n' = n ∧ ∃ (N : Nat) (L : List Nat) (cs : List GE), n = (N : Int) ∧ IsLab N (es.map toG) L ∧ IsCan ((es.map toG).map gE) (cs.map gE) ∧ (∀ g ∈ cs, GOk N g) ∧ cs.length ≤ es.length ∧ SlPx h' nx' ve encG (cs.filter (keepP L v.toNat))))
theorem part_c {s : Bool} {n v : Int} {ve : Value} {es : List Edg3} {h : Hp} {nx : Nat} (hv : SlPx h nx ve enc3 es) (hl : RightV n es → es.length ≤ 60) :
  Cv Q O s 30 [.agg ⟨[.int .i64 n, ve]⟩, .int .i64 v] h nx (PartK n es v nx h) := by
 refine partv ?_
 obtain ⟨a, cap, rfl, hc⟩ := id hv
 have K1 : ∀ {o o' o''}, Keep nx h (hset (hset (hset h nx o) (nx + 1) o') (nx + 1 + 1) o'') := (((Keep.refl _ _).set (Nat.le_refl _)).set (Nat.le_succ _)).set (by omega)
 unfold part
 simp (disch := omega) only [SS, ↓reduceIte, Nat.reduceAdd, Nat.reduceSub, Nat.reduceMul, Nat.reduceLT, Nat.reduceLeDiff, Nat.reduceEqDiff, Int.reduceBEq, Int.reduceLT, Int.reduceNeg]
 refine (right_g (hv.keep K1 (by omega))).mono ?_
 rintro r h1 nx1 ⟨e, rfl, he, hk, hle⟩
 have g0 := hk nx (by omega)
 have g1 := hk (nx + 1) (by omega)
 have g2 := hk (nx + 1 + 1) (by omega)
 rw [hold (by omega), hold (by omega), hnew] at g0
 rw [hold (by omega), hnew] at g1
 rw [hnew] at g2
 have K2 := K1.trans hk (by omega)
 have no : ¬ PartOk n es v → partk0 s (PartK n es v nx h) (.pointer (some ⟨nx, 0, none⟩)) (.pointer (some ⟨nx + 1, 0, none⟩)) (.pointer (some ⟨nx + 1 + 1, 0, none⟩)) (.bool true) h1 nx1 := fun hn => by
  unfold partk0
  simp (disch := omega) only [SS, ↓reduceIte, Nat.reduceAdd, Nat.reduceSub, Nat.reduceMul, Nat.reduceLT, Nat.reduceLeDiff, Nat.reduceEqDiff, Int.reduceBEq, Int.reduceLT, Int.reduceNeg, g2]
  exact ⟨0, _, rfl, K2.set (by omega), by omega, .inl ⟨hn, rfl, rfl⟩⟩
 simp (disch := omega) only [SS, ↓reduceIte, Nat.reduceAdd, Nat.reduceSub, Nat.reduceMul, Nat.reduceLT, Nat.reduceLeDiff, Nat.reduceEqDiff, Int.reduceBEq, Int.reduceLT, Int.reduceNeg, g0, g1]
 refine ⟨fun h2 => no (fun hp => ?_), fun h2 => ⟨fun h3 => no (fun hp => ?_), fun h3 => ?_⟩⟩
 ·have := he.2 hp.1
  subst this
  simp at h2
 ·have := hp.2.1; omega
 by_cases h4 : v < n
 case neg =>
  rw [decide_eq_false h4]
  exact no (fun hp => h4 hp.2.2)
 rw [decide_eq_true h4, Bool.not_true]
 have he0 : e = 0 := by simpa using h2
 have hr := he.1 he0
 have hok : PartOk n es v := ⟨hr, by omega, h4⟩
 obtain ⟨N, rfl, hN, hfl, hG⟩ := hr.ges
 obtain ⟨u, rfl⟩ : ∃ u : Nat, v = (u : Int) := ⟨v.toNat, by omega⟩
 have hv1 := ((hv.keep K1 (by omega)).keep hk hle).map hfl
 have hl60 := hl hr
 unfold partk0
 simp (disch := omega) only [SS, ↓reduceIte, Nat.reduceAdd, Nat.reduceSub, Nat.reduceMul, Nat.reduceLT, Nat.reduceLeDiff, Nat.reduceEqDiff, Int.reduceBEq, Int.reduceLT, Int.reduceNeg, g0]
 refine (grown_c hv1 hN (by rw [List.length_map]; omega) hG).mono ?_
 rintro r h5 nx5 ⟨fb, F, rfl, hfb, hF, hf1, hf2, hk5, hle5⟩
 obtain ⟨L, hL, hLF⟩ := hF.lab (fun e he => ⟨(hG e he).1, (hG e he).2.1⟩)
 have g05 := (hk5 nx (by omega)).trans g0
 have g15 := (hk5 (nx + 1) (by omega)).trans g1
 have g25 := (hk5 (nx + 1 + 1) (by omega)).trans g2
 simp (disch := omega) only [SS, ↓reduceIte, Nat.reduceAdd, Nat.reduceSub, Nat.reduceMul, Nat.reduceLT, Nat.reduceLeDiff, Nat.reduceEqDiff, Int.reduceBEq, Int.reduceLT, Int.reduceNeg, g05]
 have k6 : ∀ {o o'}, Keep nx5 h5 (hset (hset h5 nx5 o) nx5 o') := ((Keep.refl _ _).set (Nat.le_refl _)).set (Nat.le_refl _)
 refine (canon_c ((hv1.keep hk5 hle5).keep k6 (Nat.le_succ _)) (by omega) hG (by rw [List.length_map]; omega)).mono ?_
 rintro r h6 nx6 ⟨v2, cs, rfl, hcs, hcan, hok6, hlen6, hk6, hle6⟩
 have g06 := (hk6 nx (by omega)).trans ((k6 nx (by omega)).trans g05)
 have g16 := (hk6 (nx + 1) (by omega)).trans ((k6 (nx + 1) (by omega)).trans g15)
 have g26 := (hk6 (nx + 1 + 1) (by omega)).trans ((k6 (nx + 1 + 1) (by omega)).trans g25)
 have gb := hk6 nx5 (by omega)
 rw [hnew] at gb
 have gf := (hk6 fb (by omega)).trans ((k6 fb (by omega)).trans hfb)
 obtain ⟨a2, n2, c2, rfl⟩ := hcs.form
 rw [List.length_map] at hlen6
 simp (disch := omega) only [SS, ↓reduceIte, Nat.reduceAdd, Nat.reduceSub, Nat.reduceMul, Nat.reduceLT, Nat.reduceLeDiff, Nat.reduceEqDiff, Int.reduceBEq, Int.reduceLT, Int.reduceNeg]
 refine ⟨by omega, (delf_c (N := N) (v := u) (fb := fb) (bx := nx5) (bv := nx + 1) (L := L) (lo := nx5 + 1) hN (by omega) (fun g hg => (hok6 g hg).1) ⟨by omega, by omega⟩ (by omega) ⟨⟨F, hF.forest, hLF, gf⟩, gb, g16, by omega, by omega, by omega⟩ ?_ (by omega) ?_).mono ?_⟩
 ·rcases hcs with ⟨rfl, e⟩ | ⟨b, hb1, hb2, e, hb⟩
  ·exact .inl ⟨rfl, e⟩
  ·exact .inr ⟨b, e, hb2, by omega, by omega, by omega, hb⟩
 ·intro b n c e
  rcases hcs with ⟨rfl, e2⟩ | ⟨b', hb1, hb2, e2, hb⟩
  ·rw [e2] at e; cases e
  ·rw [e2] at e; cases e; exact hb1
 rintro r h7 nx7 ⟨hr7, hle7, hk7⟩
 have g07 := (hk7 nx (by omega) (by omega)).trans g06
 have g27 := (hk7 (nx + 1 + 1) (by omega) (by omega)).trans g26
 obtain ⟨a7, c7, rfl, hc7⟩ := id hr7
 simp (disch := omega) only [SS, ↓reduceIte, Nat.reduceAdd, Nat.reduceSub, Nat.reduceMul, Nat.reduceLT, Nat.reduceLeDiff, Nat.reduceEqDiff, Int.reduceBEq, Int.reduceLT, Int.reduceNeg, g07, g06, g27, ((k6 nx (by omega)).trans g05)]
 refine ⟨hle7, N, _, rfl, fun c hc => ?_, by omega, .inr ⟨hok, rfl, N, L, cs, rfl, hL, hcan, hok6, hlen6, ?_⟩⟩
 ·rw [hold (by omega), hk7 c (by omega) (by omega), hk6 c (by omega), k6 c (by omega), hk5 c (by omega)]; exact K2 c hc
 ·exact (hr7.keep (fun c h1 h2 => hold (by omega)) (Nat.le_refl _)).px
theorem EK_appS {α : Type} {enc : α → List Value} {k : Nat} (hk : ∀ x, (enc x).length = k) (hcell : ∀ x, cellL (enc x) = true) (hk0 : 0 < k) {h : Hp} {nx lo : Nat} {v : Value} {l : List α} (hv : SlAt h v enc k l lo nx) (hlo : lo ≤ nx)
  {b2 o2 cap2 : Nat} {sp2 : Option Nat} {cs : List Value} {ro : Bool} (x : α) (h2 : hget h b2 = some (.cells cs ro)) (hx : (cs.drop o2).take k = enc x) (hsz : (l.length + 1) * k ≤ 1000000) {K : Value → Hp → Nat → Prop}
  (hK : ∀ v' h', SlAt h' v' enc k (l ++ [x]) lo (nx + 1) → (∀ b, b < lo → hget h' b = hget h b) → K v' h' (nx + 1)) : EK (orR (appendA k h nx v (.slice (some ⟨b2, o2, sp2⟩) 1 cap2))) K := by
 obtain ⟨v', h', e, a, b⟩ := app_cv hk hcell hk0 hv hlo h2 hx hsz
 rw [e]; exact hK _ _ a b
def LbJ0 (N : Nat) (v2 : Value) (nx : Nat) (h : Hp) (m : Nat) (vs : List Value) (h' : Hp) (nx' : Nat) : Prop :=
 ∃ (i : Nat) (o : Value), m = N - i ∧ i ≤ N ∧ vs = [.pointer (some ⟨nx, 0, none⟩), o, .int .i64 (i : Int)] ∧ hget h' nx = some (.cells [.int .i64 (N : Int), v2] false) ∧ SlAt h' o encI 1 (nats (List.range i)) (nx + 1) nx' ∧ Keep nx h h' ∧ nx + 1 ≤ nx'
def LbJ1 (N b : Nat) (gs : List GE) (v2 : Value) (nx : Nat) (h : Hp) (m : Nat) (vs : List Value) (h' : Hp) (nx' : Nat) : Prop :=
 ∃ (k : Nat) (L : List Nat), m = N - k ∧ k ≤ N ∧ vs = [.pointer (some ⟨nx, 0, none⟩), .slice (some ⟨b, 0, some 1⟩) N N, .int .i64 (k : Int)] ∧ hget h' nx = some (.cells [.int .i64 (N : Int), v2] false) ∧ hget h' b = some (.cells (ints (nats L)) false) ∧ LabI N gs k 0 L ∧ Keep nx h h' ∧ b < nx'
def LbJ2 (N b k : Nat) (gs : List GE) (v2 : Value) (nx : Nat) (h : Hp) (m : Nat) (vs : List Value) (h' : Hp) (nx' : Nat) : Prop :=
 ∃ (i : Nat) (L : List Nat), m = gs.length - i ∧ i ≤ gs.length ∧ vs = [.pointer (some ⟨nx, 0, none⟩), .slice (some ⟨b, 0, some 1⟩) N N, .int .i64 (k : Int), .int .i64 (i : Int)] ∧ hget h' nx = some (.cells [.int .i64 (N : Int), v2] false) ∧ hget h' b = some (.cells (ints (nats L)) false) ∧ LabI N gs k i L ∧ Keep nx h h' ∧ b < nx'
def LabsK (N : Nat) (gs : List GE) (nx : Nat) (h : Hp) : KC' := fun r h' nx' => ∃ (b : Nat) (L : List Nat), r = .slice (some ⟨b, 0, some 1⟩) N N ∧ hget h' b = some (.cells (ints (nats L)) false) ∧ IsLab N gs L ∧ nx ≤ b ∧ b < nx' ∧ Keep nx h h' ∧ nx ≤ nx'
theorem rlabels_c {s : Bool} {N : Nat} {v : Value} {gs : List GE} {h : Hp} {nx : Nat} (hv : SlPx h nx v encG gs) (hN0 : 0 < N) (hN : N ≤ 4096) (hl : gs.length ≤ 65536) (hok : ∀ g ∈ gs, GOk N g) :
  Cv Q O s 23 [.agg ⟨[.int .i64 (N : Int), v]⟩] h nx (LabsK N gs nx h) := by
 refine rlabelsv ?_
 obtain ⟨a, cap, rfl, hc⟩ := id hv
 unfold rlabels
 simp (disch := omega) only [SS, ↓reduceIte, Nat.reduceAdd, Nat.reduceSub, Nat.reduceMul, Nat.reduceLT, Nat.reduceLeDiff, Nat.reduceEqDiff, Int.reduceBEq, Int.reduceLT, Int.reduceNeg]
 refine Lp.mk (LbJ0 N (.slice a gs.length cap) nx h) N ⟨0, _, by omega, by omega, rfl, hnew _ _ _, .inl ⟨rfl, rfl⟩, (Keep.refl _ _).set (Nat.le_refl _), Nat.le_refl _⟩ ?_
 rintro _ _ h' nx' ⟨i, o, rfl, hi, rfl, g0, ho, hk, hle⟩
 rw [rlabelsb0]
 unfold rlabelsl0
 simp (disch := omega) only [SS, ↓reduceIte, Nat.reduceAdd, Nat.reduceSub, Nat.reduceMul, Nat.reduceLT, Nat.reduceLeDiff, Nat.reduceEqDiff, Int.reduceBEq, Int.reduceLT, Int.reduceNeg, g0]
 refine ⟨fun hlt => ?_, fun hge => ?_⟩
 ·have ei : IntKind.wrap .i64 ((i : Int) + 1) = ((i + 1 : Nat) : Int) := wrap_s (by omega)
  refine EK_appS (enc := encI) (k := 1) (lo := nx + 1) (fun _ => rfl) (fun _ => rfl) (by omega) (ho.keep (fun b h1 h2 => by rw [hold (by omega)]) (by omega)) (by omega) ((i : Nat) : Int) (hnew _ _ _) rfl (by rw [nats_len, List.length_range]; omega) ?_
  intro v3 h4 hs hk4
  rw [ei]
  refine ⟨N - (i + 1), by omega, i + 1, v3, rfl, by omega, rfl, by rw [hk4 nx (by omega), hold (by omega)]; exact g0, ?_, fun c hc => by rw [hk4 c (by omega), hold (by omega)]; exact hk c hc, by omega⟩
  have : nats (List.range (i + 1)) = nats (List.range i) ++ [((i : Nat) : Int)] := by rw [List.range_succ]; simp [nats]
  rw [this]; exact hs
 ·have : i = N := by omega
  subst this
  obtain ⟨b, hb1, hb2, rfl, hb0⟩ : ∃ b, nx + 1 ≤ b ∧ b < nx' ∧ o = .slice (some ⟨b, 0, some 1⟩) i i ∧ hget h' b = some (.cells (ints (nats (List.range i))) false) := by
   rcases ho with ⟨e, _⟩ | ⟨b, h1, h2, e, hb⟩
   ·have := congrArg List.length e
    rw [nats_len, List.length_range] at this
    simp at this; omega
   ·rw [nats_len, List.length_range] at e
    rw [flat_ints] at hb
    exact ⟨b, h1, h2, e, hb⟩
  refine Lp.mk (LbJ1 i b gs (.slice a gs.length cap) nx h) i ⟨0, _, by omega, by omega, rfl, g0, hb0, LabI.init, hk, hb2⟩ ?_
  rintro _ _ h' nx' ⟨k, L, rfl, hk', rfl, g0, hb, hL, hk, hbn⟩
  rw [rlabelsb1]
  unfold rlabelsl1
  simp (disch := omega) only [SS, ↓reduceIte, Nat.reduceAdd, Nat.reduceSub, Nat.reduceMul, Nat.reduceLT, Nat.reduceLeDiff, Nat.reduceEqDiff, Int.reduceBEq, Int.reduceLT, Int.reduceNeg, g0]
  refine ⟨fun hlt => ?_, fun hge => ?_⟩
  ·have ek : IntKind.wrap .i64 ((k : Int) + 1) = ((k + 1 : Nat) : Int) := wrap_s (by omega)
   refine Lp.mk (LbJ2 i b k gs (.slice a gs.length cap) nx h) gs.length ⟨0, L, by omega, by omega, rfl, g0, hb, hL, hk, hbn⟩ ?_
   rintro _ _ h' nx' ⟨j, L, rfl, hj, rfl, g0, hb, hL, hk, hbn⟩
   rw [rlabelsb2]
   unfold rlabelsl2
   simp (disch := omega) only [SS, ↓reduceIte, Nat.reduceAdd, Nat.reduceSub, Nat.reduceMul, Nat.reduceLT, Nat.reduceLeDiff, Nat.reduceEqDiff, Int.reduceBEq, Int.reduceLT, Int.reduceNeg, g0]
   refine ⟨fun hlt => ?_, fun hge => ?_⟩
   ·obtain ⟨x, hx⟩ := get_ex hlt
    obtain ⟨_, bb, sp, ro, c1, cs, hbb, e1, hgb⟩ := hv.at hx
    cases e1
    obtain ⟨o1, o2, o3, o4⟩ := hok x (List.mem_of_getElem? hx)
    obtain ⟨p, hp⟩ := get_ex (l := L) (i := x.f) (by rw [hL.len]; exact o1)
    obtain ⟨q, hq⟩ := get_ex (l := L) (i := x.t) (by rw [hL.len]; exact o2)
    have ej : IntKind.wrap .i64 ((j : Int) + 1) = ((j + 1 : Nat) : Int) := wrap_s (by omega)
    simp (disch := omega) only [SS, ↓reduceIte, Nat.reduceAdd, Nat.reduceSub, Nat.reduceMul, Nat.reduceLT, Nat.reduceLeDiff, Nat.reduceEqDiff, Int.reduceBEq, Int.reduceLT, Int.reduceNeg, (hk bb hbb).trans hgb, rdP (enc := encG) (k := 3) (fun _ => rfl) hx, encG, hb, nat_get hp, nat_get hq, minN, nats_set, ej, nats_len, hL.len, List.length_set]
    refine ⟨o1, o2, gs.length - (j + 1), by omega, j + 1, _, rfl, hlt, rfl, by rw [hold (by omega), hold (by omega), hold (by omega), hold (by omega)]; exact g0, hnew _ _ _, hL.step hx hp hq, (((hk.set (by omega)).set (by omega)).set (by omega)).set (by omega), by omega⟩
   ·have : j = gs.length := by omega
    subst this
    simp (disch := omega) only [SS, ↓reduceIte, Nat.reduceAdd, Nat.reduceSub, Nat.reduceMul, Nat.reduceLT, Nat.reduceLeDiff, Nat.reduceEqDiff, Int.reduceBEq, Int.reduceLT, Int.reduceNeg, ek]
    exact ⟨i - (k + 1), by omega, k + 1, L, rfl, hlt, rfl, g0, hb, hL.next, hk, hbn⟩
  ·have : k = i := by omega
   subst this
   exact ⟨b, L, rfl, hb, hL.done (fun e he => ⟨(hok e he).1, (hok e he).2.1⟩), by omega, hbn, hk, by omega⟩
theorem k52 : Tryz.prog.keyTypeAt 8 52 = true := by kernel_rfl
theorem ng52 : noGuard Tryz.prog 52 = true := by kernel_rfl
theorem lits52 {g : GE} {w : Nat} (hf : g.f < 4294967296) (ht : g.t < 4294967296) (hw : g.w = (w : Int)) (hw2 : w < 4294967296) : Tryz.prog.keyLits 8 52 (encG g) = some [.int .i64 (g.f : Int), .int .i64 (g.t : Int), .int .i64 (w : Int)] := by
 have one : ∀ {n : Nat}, n < 4294967296 → Tryz.prog.keyLits 7 3 [.int .i64 (n : Int)] = some [.int .i64 (n : Int)] := fun hn => by
  have w0 := wf_nat (k := .i64) (.inl rfl) hn
  unfold Program.keyLits
  simp only [u3, w0, and_self, if_true]
 have two : ∀ {n : Nat}, n < 4294967296 → Tryz.prog.keyLits 7 2 [.int .i64 (n : Int)] = some [.int .i64 (n : Int)] := fun hn => by
  have w0 := wf_nat (k := .i64) (.inl rfl) hn
  unfold Program.keyLits
  simp only [u2, w0, and_self, if_true]
 unfold Program.keyLits encG
 simp only [u52, n52, List.length_cons, List.length_nil, Nat.reduceAdd]
 rw [if_pos ⟨trivial, by kernel_rfl⟩]
 show Option.map List.flatten (List.mapM (fun f : Field => Tryz.prog.keyLits 7 f.type (List.take (Tryz.prog.cellsOf f.type) (List.drop f.offset [.int .i64 (g.f : Int), .int .i64 (g.t : Int), .int .i64 g.w]))) [fFrom, fTo, fW]) = _
 rw [hw]
 simp only [List.mapM_cons, List.mapM_nil, show fFrom.type = 3 from rfl, show fTo.type = 3 from rfl, show fW.type = 2 from rfl, show fFrom.offset = 0 from rfl, show fTo.offset = 1 from rfl, show fW.offset = 2 from rfl, c2, c3, List.drop_zero, List.drop_succ_cons, List.take_succ_cons, List.take_zero, one hf, one ht, two hw2]
 rfl
theorem edge_neq {N : Nat} {g : GE} (hN : N ≤ 4096) (hg : GOk N g) : bin Tryz.prog .neq 52 (.agg ⟨encG g⟩) (.agg ⟨encG g⟩) = .ok (.bool false) := by
 obtain ⟨h1, h2, h3, h4⟩ := hg
 obtain ⟨w, hw⟩ : ∃ w : Nat, g.w = (w : Int) := ⟨g.w.toNat, by omega⟩
 show R.of "compared" (bif noGuard Tryz.prog 52 then eqK Tryz.prog 52 (.agg ⟨encG g⟩) (.agg ⟨encG g⟩) else none) (fun b => rBool (!b)) = _
 have f1 : (Value.agg ⟨encG g⟩).formed Tryz.prog 52 = true := by
  simp [Value.formed, u52, n52, encG]
 unfold eqK
 rw [ng52, k52, f1]
 show R.of "compared" (bif true && (true && true && true && true) then eqL (Tryz.prog.keyLits 8 52 (encG g)) (Tryz.prog.keyLits 8 52 (encG g)) else none) (fun b => rBool (!b)) = _
 rw [lits52 (by omega) (by omega) hw (by omega)]
 show R.ok (Value.bool (!((keq .i64 .i64 && ieq (g.f : Int) g.f) && ((keq .i64 .i64 && ieq (g.t : Int) g.t) && ((keq .i64 .i64 && ieq (w : Int) w) && true))))) = _
 simp only [keq_self, ieq_beq]
 simp
theorem wide_eql {a b : Nat} (ha : a < 4294967296) (hb : b < 4294967296) : ∃ c, bin Tryz.prog .eql 112 (.agg ⟨wideL a⟩) (.agg ⟨wideL b⟩) = .ok (.bool c) := by
 have f1 : ∀ n, (Value.agg ⟨wideL n⟩).formed Tryz.prog 112 = true := fun n => by
  simp [Value.formed, u112, c112, wideL]
 have : bin Tryz.prog .eql 112 (.agg ⟨wideL a⟩) (.agg ⟨wideL b⟩) = R.of "compared" (bif noGuard Tryz.prog 112 then eqK Tryz.prog 112 (.agg ⟨wideL a⟩) (.agg ⟨wideL b⟩) else none) (fun b => rBool b) := rfl
 rw [this]
 unfold eqK
 rw [ng112, k112, f1, f1]
 exact ⟨litsEq [.int .i64 0, .int .u64 (a : Int)] [.int .i64 0, .int .u64 (b : Int)], by
  show R.of "compared" (bif true && (true && true && true && true) then eqL (Tryz.prog.keyLits 8 112 (wideL a)) (Tryz.prog.keyLits 8 112 (wideL b)) else none) (fun b => rBool b) = _
  rw [lits112 ha, lits112 hb]; rfl⟩
def SamJ (l : List GE) (v v' : Value) (h : Hp) (nx : Nat) (m : Nat) (vs : List Value) (h' : Hp) (nx' : Nat) : Prop := ∃ i, m = l.length - i ∧ i ≤ l.length ∧ vs = [v, v', .bool false, .int .i64 (i : Int)] ∧ h' = h ∧ nx' = nx
theorem sme_c {s : Bool} {N : Nat} {h : Hp} {nx : Nat} {v v' : Value} {l : List GE} (hv : SlPx h nx v encG l) (hv' : SlPx h nx v' encG l) (hN : N ≤ 4096) (hok : ∀ g ∈ l, GOk N g) (hl : l.length < 1000000) :
  Cv Q O s 57 [v, v'] h nx (fun r h' nx' => r = .bool true ∧ h' = h ∧ nx' = nx) := by
 refine smev ?_
 obtain ⟨a, cap, rfl, hc⟩ := id hv
 obtain ⟨a', cap', rfl, hc'⟩ := id hv'
 unfold sme
 simp (disch := omega) only [SS, ↓reduceIte, Nat.reduceAdd, Nat.reduceSub, Nat.reduceMul, Nat.reduceLT, Nat.reduceLeDiff, Nat.reduceEqDiff, Int.reduceBEq, Int.reduceLT, Int.reduceNeg]
 refine ⟨fun hne => absurd hne (by simp), fun _ => ?_⟩
 refine Lp.mk (SamJ l (.slice a l.length cap) (.slice a' l.length cap') h nx) l.length ⟨0, rfl, by omega, rfl, rfl, rfl⟩ ?_
 rintro m _ _ _ ⟨i, rfl, hi, rfl, rfl, rfl⟩
 rw [smeb0]
 unfold smel0
 simp (disch := omega) only [SS, ↓reduceIte, Nat.reduceAdd, Nat.reduceSub, Nat.reduceMul, Nat.reduceLT, Nat.reduceLeDiff, Nat.reduceEqDiff, Int.reduceBEq, Int.reduceLT, Int.reduceNeg]
 refine ⟨fun hlt => ?_, fun _ => trivial⟩
 obtain ⟨x, hx⟩ := get_ex hlt
 obtain ⟨_, b, sp, ro, c1, cs, hb, e1, hg⟩ := hv.at hx
 obtain ⟨_, b', sp', ro', c1', cs', hb', e1', hg'⟩ := hv'.at hx
 cases e1; cases e1'
 simp (disch := omega) only [SS, ↓reduceIte, Nat.reduceAdd, Nat.reduceSub, Nat.reduceMul, Nat.reduceLT, Nat.reduceLeDiff, Nat.reduceEqDiff, Int.reduceBEq, Int.reduceLT, Int.reduceNeg, hg, hg', rdP (enc := encG) (k := 3) (fun _ => rfl) hx, edge_neq hN (hok x (List.mem_of_getElem? hx)), wrap_s (show i < 1000000000000 by omega)]
 exact ⟨_, by omega, i + 1, rfl, hlt, rfl, rfl, rfl⟩
theorem smg_c {s : Bool} {N : Nat} {n : Int} {h : Hp} {nx : Nat} {v v' : Value} {l : List GE} (hv : SlPx h nx v encG l) (hv' : SlPx h nx v' encG l) (hN : N ≤ 4096) (hok : ∀ g ∈ l, GOk N g) (hl : l.length < 1000000) :
  Cv Q O s 31 [.agg ⟨[.int .i64 n, v]⟩, .agg ⟨[.int .i64 n, v']⟩] h nx (fun r h' nx' => r = .bool true ∧ Keep nx h h' ∧ nx ≤ nx') := by
 refine smgv ?_
 obtain ⟨a, cap, rfl, hc⟩ := id hv
 obtain ⟨a', cap', rfl, hc'⟩ := id hv'
 have K1 : ∀ {o o'}, Keep nx h (hset (hset h nx o) (nx + 1) o') := ((Keep.refl _ _).set (Nat.le_refl _)).set (Nat.le_succ _)
 unfold smg
 simp (disch := omega) only [SS, ↓reduceIte, Nat.reduceAdd, Nat.reduceSub, Nat.reduceMul, Nat.reduceLT, Nat.reduceLeDiff, Nat.reduceEqDiff, Int.reduceBEq, Int.reduceLT, Int.reduceNeg, beq_self_eq_true]
 refine (sme_c (hv.keep K1 (by omega)) (hv'.keep K1 (by omega)) hN hok hl).mono ?_
 rintro r _ _ ⟨rfl, rfl, rfl⟩
 exact ⟨rfl, K1, by omega⟩
def StK (r : Value) (nx : Nat) (h : Hp) : KC' := fun v h' nx' => v = r ∧ Keep nx h h' ∧ nx ≤ nx'
theorem ris_c {s : Bool} {h : Hp} {nx : Nat} : Cv Q O s 69 [.int .i64 1] h nx (fun v h' nx' => v = .bool true ∧ h' = h ∧ nx' = nx) := by
 refine risv ?_
 unfold ris
 simp (disch := omega) only [SS, ↓reduceIte, Nat.reduceAdd, Nat.reduceSub, Nat.reduceMul, Nat.reduceLT, Nat.reduceLeDiff, Nat.reduceEqDiff, Int.reduceBEq, Int.reduceLT, Int.reduceNeg]
 simp
def ltG (x y : GE) : Bool := decide (x.f < y.f) || (decide (x.f = y.f) && decide (x.t < y.t))
theorem below_c {s : Bool} {x y : GE} {h : Hp} {nx : Nat} : Cv Q O s 70 [.agg ⟨encG x⟩, .agg ⟨encG y⟩] h nx (StK (.bool (ltG x y)) nx h) := by
 refine belowv ?_
 have K1 : ∀ {o o'}, Keep nx h (hset (hset h nx o) (nx + 1) o') := ((Keep.refl _ _).set (Nat.le_refl _)).set (Nat.le_succ _)
 unfold below encG
 simp (disch := omega) only [SS, ↓reduceIte, Nat.reduceAdd, Nat.reduceSub, Nat.reduceMul, Nat.reduceLT, Nat.reduceLeDiff, Nat.reduceEqDiff, Int.reduceBEq, Int.reduceLT, Int.reduceNeg]
 refine ⟨fun h1 => ⟨?_, K1, by omega⟩, fun h1 => ⟨fun h2 => ⟨?_, K1, by omega⟩, fun h2 => ⟨?_, K1, by omega⟩⟩⟩
 ·unfold ltG; simp; omega
 ·have h3 : x.f = y.f := by
   have h4 : (x.f : Int) = y.f := by simpa using h2
   omega
  unfold ltG
  simp [h3]
 ·have h3 : ¬ x.f = y.f := fun e => by rw [e] at h2; simp at h2
  unfold ltG
  simp [h3]; omega
theorem rof_c {s : Bool} {w : Nat} {h : Hp} {nx : Nat} (hw : w < 4294967296) : Cv Q O s 71 [.int .i64 (w : Int)] h nx (StK (.agg ⟨wideL w⟩) nx h) := by
 refine rofv ?_
 have K1 : ∀ {o o'}, Keep nx h (hset (hset h nx o) nx o') := ((Keep.refl _ _).set (Nat.le_refl _)).set (Nat.le_refl _)
 have e1 : IntKind.wrap .u64 (w : Int) = (w : Int) := by
  simp only [IntKind.wrap, IntKind.signed, IntKind.bits]
  simp; omega
 unfold rof
 simp (disch := omega) only [SS, ↓reduceIte, Nat.reduceAdd, Nat.reduceSub, Nat.reduceMul, Nat.reduceLT, Nat.reduceLeDiff, Nat.reduceEqDiff, Int.reduceBEq, Int.reduceLT, Int.reduceNeg, e1]
 refine ⟨fun h1 => absurd h1 (by omega), fun _ => ⟨rfl, K1, by omega⟩⟩
theorem rcmp_c {s : Bool} {a b : Nat} {h : Hp} {nx : Nat} (ha : a < 4294967296) (hb : b < 4294967296) : Cv Q O s 86 [.agg ⟨wideL a⟩, .agg ⟨wideL b⟩] h nx (fun v h' nx' => ∃ c : Int, v = .int .i64 c ∧ (c < 0 ↔ a < b) ∧ Keep nx h h' ∧ nx ≤ nx') := by
 refine rcmpv ?_
 have K1 : ∀ {o o'}, Keep nx h (hset (hset h nx o) (nx + 1) o') := ((Keep.refl _ _).set (Nat.le_refl _)).set (Nat.le_succ _)
 unfold rcmp wideL rcmpk0
 simp (disch := omega) only [SS, ↓reduceIte, Nat.reduceAdd, Nat.reduceSub, Nat.reduceMul, Nat.reduceLT, Nat.reduceLeDiff, Nat.reduceEqDiff, Int.reduceBEq, Int.reduceLT, Int.reduceNeg, beq_self_eq_true]
 obtain ⟨c, hc⟩ := wide_eql ha hb
 unfold wideL at hc
 by_cases h1 : a < b
 ·simp (disch := omega) only [SS, ↓reduceIte, Nat.reduceAdd, Nat.reduceSub, Nat.reduceMul, Nat.reduceLT, Nat.reduceLeDiff, Nat.reduceEqDiff, Int.reduceBEq, Int.reduceLT, Int.reduceNeg, h1, decide_true]
  exact fun _ => ⟨⟨_, rfl, by simp, K1, by omega⟩, fun h => absurd trivial h⟩
 ·simp (disch := omega) only [SS, ↓reduceIte, Nat.reduceAdd, Nat.reduceSub, Nat.reduceMul, Nat.reduceLT, Nat.reduceLeDiff, Nat.reduceEqDiff, Int.reduceBEq, Int.reduceLT, Int.reduceNeg, h1, decide_false, hc]
  exact fun _ _ => ⟨fun _ => ⟨_, rfl, by simp, K1, by omega⟩, fun _ => ⟨_, rfl, by simp, K1, by omega⟩⟩
theorem radd_c {s : Bool} {a b : Nat} {h : Hp} {nx : Nat} (ha : a < 4294967296) (hb : b < 4294967296) : Cv Q O s 72 [.int .i64 1, .agg ⟨wideL a⟩, .agg ⟨wideL b⟩] h nx (StK (.agg ⟨wideL (min a b)⟩) nx h) := by
 refine raddv ?_
 have K1 : ∀ {o o' o''}, Keep nx h (hset (hset (hset h nx o) (nx + 1) o') (nx + 1 + 1) o'') := (((Keep.refl _ _).set (Nat.le_refl _)).set (Nat.le_succ _)).set (by omega)
 unfold radd wideL raddk0
 simp (disch := omega) only [SS, ↓reduceIte, Nat.reduceAdd, Nat.reduceSub, Nat.reduceMul, Nat.reduceLT, Nat.reduceLeDiff, Nat.reduceEqDiff, Int.reduceBEq, Int.reduceLT, Int.reduceNeg, beq_self_eq_true]
 refine (rcmp_c (a := b) (b := a) hb ha).mono ?_
 rintro r h1 nx1 ⟨c, rfl, hc, hk, hle⟩
 have g0 := hk nx (by omega)
 have g1 := hk (nx + 1) (by omega)
 have g2 := hk (nx + 1 + 1) (by omega)
 rw [hold (by omega), hold (by omega), hnew] at g0
 rw [hold (by omega), hnew] at g1
 rw [hnew] at g2
 simp (disch := omega) only [SS, ↓reduceIte, Nat.reduceAdd, Nat.reduceSub, Nat.reduceMul, Nat.reduceLT, Nat.reduceLeDiff, Nat.reduceEqDiff, Int.reduceBEq, Int.reduceLT, Int.reduceNeg, g0, g1, g2]
 refine ⟨fun h1 => ⟨?_, (K1.trans hk (by omega)).set (by omega), by omega⟩, fun h1 => ⟨?_, (K1.trans hk (by omega)).set (by omega), by omega⟩⟩
 ·rw [Nat.min_eq_right (by omega)]
 ·rw [Nat.min_eq_left (by omega)]
theorem rnarrow_c {s : Bool} {w : Nat} {h : Hp} {nx : Nat} (hw : w < 4294967296) : Cv Q O s 73 [.agg ⟨wideL w⟩] h nx (StK (.tuple ⟨[.int .i64 (w : Int), .bool true]⟩) nx h) := by
 refine rnarrowv ?_
 have K1 : ∀ {o}, Keep nx h (hset h nx o) := (Keep.refl _ _).set (Nat.le_refl _)
 have e1 : IntKind.wrap .i64 (w : Int) = (w : Int) := wrapS (by omega) (by omega)
 unfold rnarrow wideL rnarrowk0
 simp (disch := omega) only [SS, ↓reduceIte, Nat.reduceAdd, Nat.reduceSub, Nat.reduceMul, Nat.reduceLT, Nat.reduceLeDiff, Nat.reduceEqDiff, Int.reduceBEq, Int.reduceLT, Int.reduceNeg, e1, beq_self_eq_true]
 refine ⟨fun h1 => ⟨rfl, K1, by omega⟩, fun h1 => absurd h1 (by omega)⟩
structure Shf {α : Type} (o X : List α) (k : Nat) : Prop where
 len : X.length = o.length + 1
 lo : ∀ q, q < k → X[q]? = o[q]?
 hi : ∀ q, k < q → q ≤ o.length → X[q]? = o[q - 1]?
theorem Shf.init {α : Type} (o : List α) (z : α) : Shf o (o ++ [z]) o.length :=
 ⟨by simp, fun q hq => List.getElem?_append_left hq, fun q h1 h2 => absurd h1 (by omega)⟩
theorem Shf.step {α : Type} {o X : List α} {k : Nat} {x : α} (h : Shf o X (k + 1)) (hk : k + 1 ≤ o.length) (hx : X[k]? = some x) : Shf o (X.set (k + 1) x) k := by
 refine ⟨by rw [List.length_set]; exact h.len, fun q hq => ?_, fun q h1 h2 => ?_⟩
 ·rw [List.getElem?_set, if_neg (by omega)]; exact h.lo q (by omega)
 ·rw [List.getElem?_set]
  by_cases e : k + 1 = q
  ·subst e
   rw [if_pos rfl, if_pos (by rw [h.len]; omega), Nat.add_sub_cancel, ← h.lo k (by omega), hx]
  ·rw [if_neg e]; exact h.hi q (by omega) h2
theorem Shf.fin {α : Type} {o X : List α} {k : Nat} (h : Shf o X k) (hk : k ≤ o.length) (x : α) : X.set k x = o.take k ++ x :: o.drop k := by
 apply List.ext_getElem?
 intro q
 rw [List.getElem?_set]
 by_cases e : k = q
 ·subst e
  rw [if_pos rfl, if_pos (by rw [h.len]; omega), List.getElem?_append_right (by rw [List.length_take]; omega), List.length_take]
  rw [show k - min k o.length = 0 by omega]; rfl
 ·rw [if_neg e]
  by_cases h1 : q < k
  ·rw [h.lo q h1, List.getElem?_append_left (by rw [List.length_take]; omega), List.getElem?_take, if_pos h1]
  ·rw [List.getElem?_append_right (by rw [List.length_take]; omega), List.length_take, show q - min k o.length = (q - k - 1) + 1 by omega, List.getElem?_cons_succ, List.getElem?_drop]
   by_cases h2 : q ≤ o.length
   ·rw [h.hi q (by omega) h2]; congr 1; omega
   ·rw [List.getElem?_eq_none (by rw [h.len]; omega), List.getElem?_eq_none (by omega)]
theorem ltG_iff {x y : GE} : ltG x y = true ↔ Ltp (gE x) (gE y) := by
 unfold ltG Ltp gE
 simp only [Bool.or_eq_true, Bool.and_eq_true, decide_eq_true_eq]
 omega
theorem Ltp.tr {x y z : Edg} (h : Ltp x y) (h' : Ltp y z) : Ltp x z := by unfold Ltp at *; omega
theorem ends_of {x y : GE} (h : ltG x y = false) (h' : ltG y x = false) : Ends (gE x) (gE y) := by
 have h1 : ¬ Ltp (gE x) (gE y) := fun e => by rw [ltG_iff.2 e] at h; cases h
 have h2 : ¬ Ltp (gE y) (gE x) := fun e => by rw [ltG_iff.2 e] at h'; cases h'
 unfold Ltp at h1 h2
 unfold Ends
 omega
structure At (B : List GE) (e : GE) (k : Nat) : Prop where
 le : k ≤ B.length
 lo : ∀ q x, q < k → B[q]? = some x → ltG x e = true
theorem up_get {B : List GE} (h : (B.map gE).Pairwise Ltp) {i j : Nat} {x y : GE} (hij : i < j) (hx : B[i]? = some x) (hy : B[j]? = some y) : Ltp (gE x) (gE y) := by
 have hi := (List.getElem?_eq_some_iff.1 hx)
 have hj := (List.getElem?_eq_some_iff.1 hy)
 obtain ⟨hi, rfl⟩ := hi
 obtain ⟨hj, rfl⟩ := hj
 have := List.pairwise_iff_getElem.1 h i j (by simpa using hi) (by simpa using hj) hij
 simpa using this
theorem ins_can {A : List Edg} {B : List GE} {e : GE} {k : Nat} (h : IsCan A (B.map gE)) (ha : At B e k) (hn : ∀ x, B[k]? = some x → ltG e x = true) : IsCan (A ++ [gE e]) ((B.take k ++ e :: B.drop k).map gE) := by
 have hpre : ∀ x ∈ B.take k, Ltp (gE x) (gE e) := fun x hx => by
  obtain ⟨q, hq⟩ := List.getElem?_of_mem hx
  rw [List.getElem?_take] at hq
  split at hq
  ·rename_i hqk; exact ltG_iff.1 (ha.lo q x hqk hq)
  ·cases hq
 have hpost : ∀ x ∈ B.drop k, Ltp (gE e) (gE x) := fun x hx => by
  obtain ⟨q, hq⟩ := List.getElem?_of_mem hx
  rw [List.getElem?_drop] at hq
  by_cases h0 : q = 0
  ·subst h0; exact ltG_iff.1 (hn x hq)
  ·obtain ⟨y, hy⟩ := get_ex (l := B) (i := k) (by have := (List.getElem?_eq_some_iff.1 hq).1; omega)
   exact (ltG_iff.1 (hn y hy)).tr (up_get h.up (by omega) hy hq)
 have hmem : ∀ x : Edg, x ∈ (B.take k ++ e :: B.drop k).map gE ↔ x ∈ B.map gE ∨ x = gE e := fun x => by
  conv => rhs; rw [← List.take_append_drop k B]
  rw [List.map_append, List.map_cons, List.map_append, List.mem_append, List.mem_append, List.mem_cons]
  exact ⟨fun h => h.elim (fun h => .inl (.inl h)) (fun h => h.elim .inr (fun h => .inl (.inr h))), fun h => h.elim (fun h => h.elim .inl (fun h => .inr (.inr h))) (fun h => .inr (.inl h))⟩
 refine ⟨?_, h.rep.step2 (fun z hz he => ?_) hmem⟩
 ·rw [List.map_append, List.map_cons, List.pairwise_append]
  have hup := h.up
  rw [← List.take_append_drop k B, List.map_append, List.pairwise_append] at hup
  refine ⟨hup.1, List.Pairwise.cons (fun y hy => ?_) hup.2.1, fun x hx y hy => ?_⟩
  ·obtain ⟨z, hz, rfl⟩ := List.mem_map.1 hy
   exact hpost z hz
  ·rcases List.mem_cons.1 hy with rfl | hy
   ·obtain ⟨z, hz, rfl⟩ := List.mem_map.1 hx
    exact hpre z hz
   ·exact hup.2.2 x hx y hy
 ·obtain ⟨y, hy, rfl⟩ := List.mem_map.1 hz
  rw [← List.take_append_drop k B, List.mem_append] at hy
  rcases hy with hy | hy
  ·exact (hpre y hy).ne he
  ·exact (hpost y hy).ne he.symm
theorem set_can {A : List Edg} {B : List GE} {e z : GE} {k : Nat} (h : IsCan A (B.map gE)) (hz : B[k]? = some z) (he : Ends (gE z) (gE e)) : IsCan (A ++ [gE e]) ((B.set k ⟨z.f, z.t, min z.w e.w⟩).map gE) := by
 have hk := (List.getElem?_eq_some_iff.1 hz).1
 have hg : ∀ q, (B.set k ⟨z.f, z.t, min z.w e.w⟩)[q]? = if k = q then some ⟨z.f, z.t, min z.w e.w⟩ else B[q]? := fun q => by
  rw [List.getElem?_set]
  by_cases e1 : k = q
  ·subst e1; simp [hk]
  ·simp [e1]
 have hzm : gE ⟨z.f, z.t, min z.w e.w⟩ = zmin (gE z) (gE e) := rfl
 have hsame : ∀ q x, (B.set k ⟨z.f, z.t, min z.w e.w⟩)[q]? = some x → ∃ y, B[q]? = some y ∧ (gE x).1 = (gE y).1 ∧ (gE x).2.1 = (gE y).2.1 := fun q x hx => by
  rw [hg] at hx
  split at hx
  ·rename_i e1; subst e1; cases hx; exact ⟨z, hz, rfl, rfl⟩
  ·exact ⟨x, hx, rfl, rfl⟩
 refine ⟨?_, h.rep.step1 (List.mem_map_of_mem (List.mem_of_getElem? hz)) he fun x => ?_⟩
 ·rw [List.pairwise_iff_getElem]
  intro i j hi hj hij
  rw [List.getElem_map, List.getElem_map]
  have hi' : i < (B.set k ⟨z.f, z.t, min z.w e.w⟩).length := by simpa using hi
  have hj' : j < (B.set k ⟨z.f, z.t, min z.w e.w⟩).length := by simpa using hj
  obtain ⟨y, hy, e1, e2⟩ := hsame i _ (List.getElem?_eq_getElem hi')
  obtain ⟨y', hy', e1', e2'⟩ := hsame j _ (List.getElem?_eq_getElem hj')
  have := up_get h.up hij hy hy'
  unfold Ltp at *
  rw [e1, e2, e1', e2']; exact this
 ·constructor
  ·intro hx
   obtain ⟨y, hy, rfl⟩ := List.mem_map.1 hx
   obtain ⟨q, hq⟩ := List.getElem?_of_mem hy
   rw [hg] at hq
   split at hq
   ·cases hq; exact .inr hzm
   ·rename_i hkq
    refine .inl ⟨List.mem_map_of_mem (List.mem_of_getElem? hq), fun hye => ?_⟩
    have := he.trans hye.symm
    rcases Nat.lt_or_ge k q with h1 | h1
    ·exact (up_get h.up h1 hz hq).ne this
    ·exact (up_get h.up (by omega) hq hz).ne this.symm
  ·rintro (⟨hx, hn⟩ | rfl)
   ·obtain ⟨y, hy, rfl⟩ := List.mem_map.1 hx
    obtain ⟨q, hq⟩ := List.getElem?_of_mem hy
    refine List.mem_map_of_mem (List.mem_of_getElem? (i := q) ?_)
    rw [hg, if_neg, hq]
    intro e1; subst e1; rw [hz] at hq; cases hq; exact hn he
   ·rw [← hzm]
    exact List.mem_map_of_mem (List.mem_of_getElem? (i := k) (by rw [hg, if_pos rfl]))
theorem EK_appG {α : Type} {enc : α → List Value} {k : Nat} (hk : ∀ x, (enc x).length = k) (hcell : ∀ x, cellL (enc x) = true) (hk0 : 0 < k) {h : Hp} {nx : Nat} {v : Value} {l : List α} {o : Option Nat} (g : Gr h enc k v l o)
  {b2 o2 cap2 : Nat} {sp2 : Option Nat} {cs : List Value} {ro : Bool} (x : α) (h2 : hget h b2 = some (.cells cs ro)) (hx : (cs.drop o2).take k = enc x) (hsz : (l.length + 1) * k ≤ 1000000) {K : Value → Hp → Nat → Prop}
  (hK : ∀ h', hget h' nx = some (.cells (flat enc (l ++ [x])) false) → (∀ c, c ≠ nx → o ≠ some c → hget h' c = hget h c) → K (.slice (some ⟨nx, 0, some k⟩) (l.length + 1) (l.length + 1)) h' (nx + 1)) : EK (orR (appendA k h nx v (.slice (some ⟨b2, o2, sp2⟩) 1 cap2))) K := by
 obtain ⟨h', e, a, b⟩ := g.app hk hcell hk0 h2 hx hsz
 rw [e]; exact hK _ a b
def bare (g : GE) : GE := ⟨g.f, g.t, 0⟩
def sums (B : List GE) : List Nat := B.map fun g => g.w.toNat
def CO (h : Hp) (lo nx : Nat) (B : List GE) (oe os : Value) : Prop :=
 (B = [] ∧ oe = .slice none 0 0 ∧ os = .slice none 0 0) ∨ ∃ be bs, be ≠ bs ∧ lo ≤ be ∧ be < nx ∧ lo ≤ bs ∧ bs < nx ∧ oe = .slice (some ⟨be, 0, some 3⟩) B.length B.length ∧ os = .slice (some ⟨bs, 0, some 2⟩) B.length B.length ∧
  hget h be = some (.cells (flat encG (B.map bare)) false) ∧ hget h bs = some (.cells (flat wideL (sums B)) false)
theorem CO.keep {h h' : Hp} {lo nx nx' : Nat} {B : List GE} {oe os : Value} (c : CO h lo nx B oe os) (hk : ∀ b, lo ≤ b → b < nx → hget h' b = hget h b) (hle : nx ≤ nx') : CO h' lo nx' B oe os := by
 rcases c with c | ⟨be, bs, h1, h2, h3, h4, h5, h6, h7, h8, h9⟩
 ·exact .inl c
 ·exact .inr ⟨be, bs, h1, h2, by omega, h4, by omega, h6, h7, by rw [hk be h2 h3]; exact h8, by rw [hk bs h4 h5]; exact h9⟩
theorem CO.gr {h : Hp} {lo nx : Nat} {B : List GE} {oe os : Value} (c : CO h lo nx B oe os) : ∃ o1 o2, Gr h encG 3 oe (B.map bare) o1 ∧ Gr h wideL 2 os (sums B) o2 ∧ (∀ b, o1 = some b → lo ≤ b ∧ b < nx ∧ o2 ≠ some b) ∧ (∀ b, o2 = some b → lo ≤ b ∧ b < nx) := by
 rcases c with ⟨rfl, rfl, rfl⟩ | ⟨be, bs, h1, h2, h3, h4, h5, rfl, rfl, h8, h9⟩
 ·exact ⟨none, none, .nil, .nil, fun b h => (by cases h), fun b h => (by cases h)⟩
 ·refine ⟨some be, some bs, ?_, ?_, fun b h => by cases Option.some.inj h; exact ⟨h2, h3, fun e => h1 (Option.some.inj e).symm⟩, fun b h => by cases Option.some.inj h; exact ⟨h4, h5⟩⟩
  ·have := Gr.own (enc := encG) (k := 3) h8
   rwa [List.length_map] at this
  ·have := Gr.own (enc := wideL) (k := 2) h9
   unfold sums at this ⊢
   rwa [List.length_map] at this
theorem CO.form {h : Hp} {lo nx : Nat} {B : List GE} {oe os : Value} (c : CO h lo nx B oe os) : ∃ ae as_, oe = .slice ae B.length B.length ∧ os = .slice as_ B.length B.length ∧ (B ≠ [] → ∃ be bs, be ≠ bs ∧ lo ≤ be ∧ be < nx ∧ lo ≤ bs ∧ bs < nx ∧ ae = some ⟨be, 0, some 3⟩ ∧ as_ = some ⟨bs, 0, some 2⟩ ∧ hget h be = some (.cells (flat encG (B.map bare)) false) ∧ hget h bs = some (.cells (flat wideL (sums B)) false)) := by
 rcases c with ⟨rfl, rfl, rfl⟩ | ⟨be, bs, h1, h2, h3, h4, h5, rfl, rfl, h8, h9⟩
 ·exact ⟨none, none, rfl, rfl, fun h => absurd rfl h⟩
 ·exact ⟨_, _, rfl, rfl, fun _ => ⟨be, bs, h1, h2, h3, h4, h5, rfl, rfl, h8, h9⟩⟩
theorem wrW {h : Hp} {b i : Nat} {m : List Nat} {w : Nat} (hi : i < m.length) : wrO (some (.cells (flat wideL m) false)) h b (i * 2) [.int .i64 0, .int .u64 (w : Int)] = .ok (hset h b (.cells (flat wideL (m.set i w)) false)) := by
 show R.of _ (lput (wideL w) (flat wideL m) (i * 2)) _ = _
 rw [flat_put (k := 2) (fun _ => rfl) w hi]
 rfl
theorem rdW {m : List Nat} {i w : Nat} (hi : m[i]? = some w) : loadC (some 2) (i * 2) (flat wideL m) = .ok (.agg ⟨[.int .i64 0, .int .u64 (w : Int)]⟩) := rdF (enc := wideL) (k := 2) (fun _ => rfl) hi
theorem rdB {m : List GE} {i : Nat} {x : GE} (hi : m[i]? = some x) : loadC (some 3) (i * 3) (flat encG m) = .ok (.agg ⟨[.int .i64 (x.f : Int), .int .i64 (x.t : Int), .int .i64 x.w]⟩) := rdF (enc := encG) (k := 3) (fun _ => rfl) hi
structure CmI (gs : List GE) (N nx : Nat) (h : Hp) (i : Nat) (B : List GE) (oe os : Value) (h' : Hp) (nx' : Nat) : Prop where
 le : i ≤ gs.length
 co : CO h' nx nx' B oe os
 can : IsCan ((gs.take i).map gE) (B.map gE)
 ok : ∀ g ∈ B, GOk N g
 len : B.length ≤ i
 keep : Keep nx h h'
 nxle : nx ≤ nx'
theorem CmI.more {gs : List GE} {N nx : Nat} {h : Hp} {i : Nat} {B : List GE} {oe os : Value} {h' h2 : Hp} {nx' nx2 : Nat} (c : CmI gs N nx h i B oe os h' nx') (hk : Keep nx' h' h2) (hle : nx' ≤ nx2) : CmI gs N nx h i B oe os h2 nx2 :=
 ⟨c.le, c.co.keep (fun b _ h2 => hk b h2) hle, c.can, c.ok, c.len, c.keep.trans hk c.nxle, Nat.le_trans c.nxle hle⟩
def CmJ (gs : List GE) (v : Value) (N nx : Nat) (h : Hp) (m : Nat) (vs : List Value) (h' : Hp) (nx' : Nat) : Prop :=
 ∃ i B oe os, m = gs.length - i ∧ vs = [.int .i64 1, v, .slice none 0 0, .int .i64 0, oe, os, .int .i64 (i : Int)] ∧ CmI gs N nx h i B oe os h' nx'
def CmF (gs : List GE) (v : Value) (N nx : Nat) (h : Hp) (i : Nat) (B : List GE) (oe os : Value) (e : GE) (m : Nat) (vs : List Value) (h' : Hp) (nx' : Nat) : Prop :=
 ∃ k, m = B.length - k ∧ At B e k ∧ vs = [.int .i64 1, v, .slice none 0 0, .int .i64 0, oe, os, .int .i64 (i : Int), .int .i64 (k : Int)] ∧ CmI gs N nx h i B oe os h' nx'
theorem setS {α : Type} {l : List α} {k : Nat} {x : α} (h : l[k]? = some x) : l.set k x = l := by
 apply List.ext_getElem?
 intro i
 rw [List.getElem?_set]
 by_cases e : k = i
 ·subst e; rw [if_pos rfl, h, if_pos (List.getElem?_eq_some_iff.1 h).1]
 ·rw [if_neg e]
theorem Lp.cut {B : LB} {vs : List Value} {h : Hp} {nx i : Nat} {R C : KVl} (Pre : KVl) (h1 : ∀ vs h nx, Pre vs h nx → C vs h nx) (h2 : ∀ C', (∀ vs h nx, Pre vs h nx → C' vs h nx) → Lp B vs h nx [(i, C')] R) : Lp B vs h nx [(i, C)] R := h2 C h1
def PutP (gs : List GE) (v : Value) (N nx : Nat) (h : Hp) (i : Nat) (B : List GE) (oe os : Value) (e : GE) (vs : List Value) (h' : Hp) (nx' : Nat) : Prop :=
 ∃ k, At B e k ∧ (∀ x, B[k]? = some x → ltG x e = false) ∧ vs = [.int .i64 1, v, .slice none 0 0, .int .i64 0, oe, os, .int .i64 (i : Int), .int .i64 (k : Int)] ∧ CmI gs N nx h i B oe os h' nx'
def ShJ (v : Value) (B : List GE) (i k p be bs : Nat) (H : Hp) (NN : Nat) (m : Nat) (vs : List Value) (h' : Hp) (nx' : Nat) : Prop :=
 ∃ (q : Nat) (X : List GE) (Y : List Nat), m = q ∧ k ≤ q ∧ q ≤ B.length ∧ Shf (B.map bare) X q ∧ Shf (sums B) Y q ∧ vs = [.int .i64 1, v, .slice none 0 0, .int .i64 0, .slice (some ⟨be, 0, some 3⟩) (B.length + 1) (B.length + 1), .slice (some ⟨bs, 0, some 2⟩) (B.length + 1) (B.length + 1), .int .i64 (i : Int), .int .i64 (k : Int), .pointer (some ⟨p, 0, none⟩), .int .i64 (q : Int)] ∧
  hget h' be = some (.cells (flat encG X) false) ∧ hget h' bs = some (.cells (flat wideL Y) false) ∧ (∀ c, c ≠ be → c ≠ bs → hget h' c = hget H c) ∧ nx' = NN
theorem ins_c {s : Bool} {gs : List GE} {N nx : Nat} {h : Hp} {i k w p : Nat} {B : List GE} {e : GE} {oe os : Value} {H : Hp} {NN bg cap : Nat} {spg : Option Nat} {csg : List Value} {rog : Bool} {Nn e0 R : KVl}
  (hl : gs.length ≤ 60) (he : gs[i]? = some e) (hG : GOk N e) (hw : e.w = (w : Int)) (hI : CmI gs N nx h i B oe os H NN) (hat : At B e k) (hn : ∀ x, B[k]? = some x → ltG e x = true) (hgb : hget H bg = some (.cells (flat encG gs ++ csg) rog)) (hbg : bg < nx) (hp : hget H p = some (.cells [.int .i64 0, .int .u64 (w : Int)] false)) (hpn : p < NN) (hpx : nx ≤ p) (hco : CO H nx p B oe os)
  (hN : ∀ B' oe' os' h' nx', CmI gs N nx h (i + 1) B' oe' os' h' nx' → Nn [.int .i64 1, .slice (some ⟨bg, 0, spg⟩) gs.length cap, .slice none 0 0, .int .i64 0, oe', os', .int .i64 ((i + 1 : Nat) : Int)] h' nx') :
  EK (orR (appendA 3 (hset H NN (.cells [.int .i64 0, .int .i64 0, .int .i64 0] false)) (NN + 1) oe (.slice (some ⟨NN, 0, none⟩) 1 1))) fun x56 h57 n58 =>
  EK (orR (appendA 2 (hset h57 n58 (.cells [.int .i64 0, .int .u64 0] false)) (n58 + 1) os (.slice (some ⟨n58, 0, none⟩) 1 1))) fun x63 h64 n65 =>
  RK (lenS x56) fun x66 => RK (bin Q .sub 3 x66 (.int .i64 1)) fun x67 =>
  Lp (fL Q O s rcombL 58 2) [.int .i64 1, .slice (some ⟨bg, 0, spg⟩) gs.length cap, .slice none 0 0, .int .i64 0, x56, x63, .int .i64 (i : Int), .int .i64 (k : Int), .pointer (some ⟨p, 0, none⟩), x67] h64 n65 [(4, fun v70 h68 n69 =>
   RK (vIx (.slice 3) (nv v70 1) (nv v70 6)) fun x83 => RK (vFldA 0 x83) fun x84 => RK (vLd none h68 x84) fun x85 => RK (vIx (.slice 3) (nv v70 1) (nv v70 6)) fun x86 => RK (vFldA 1 x86) fun x87 => RK (vLd none h68 x87) fun x88 =>
   RK ((cfillS (vFill [(1, 1, x88)]) 0 1 (vcells x85) [.int .i64 0, .int .i64 0, .int .i64 0]).bind fun l => .ok (.agg ⟨l⟩)) fun x89 => RK (vIx (.slice 3) (nv v70 4) (nv v70 7)) fun x90 => RK (vSt h68 3 x90 x89) fun h91 => RK (vLd (some 2) h91 (nv v70 8)) fun x92 => RK (vIx (.slice 2) (nv v70 5) (nv v70 7)) fun x93 => RK (vSt h91 2 x93 x92) fun h94 =>
   rcombk0 s Nn e0 R (nv v70 0) (nv v70 1) (nv v70 2) (nv v70 3) (nv v70 4) (nv v70 5) (nv v70 6) h94 n69)] (fun _ _ _ => False) := by
 have hbl : B.length ≤ 60 := by have := hI.len; have := hI.le; omega
 have hnx := hI.nxle
 obtain ⟨o1, o2, g1, g2, hb1, hb2⟩ := hco.gr
 have hm : (B.map bare).length = B.length := List.length_map ..
 have hs : (sums B).length = B.length := List.length_map ..
 refine EK_appG (enc := encG) (k := 3) (fun _ => rfl) (fun _ => rfl) (by omega) (g1.keep (fun b hb => by have := hb1 b hb; rw [hold (by omega)])) zG (hnew _ _ _) rfl (by omega) (fun h5 a1 a2 => ?_)
 refine EK_appG (enc := wideL) (k := 2) (fun _ => rfl) (fun _ => rfl) (by omega) (g2.keep (fun b hb => by have := hb2 b hb; rw [hold (by omega), a2 b (by omega) (fun e => (hb1 b e).2.2 hb), hold (by omega)])) 0 (hnew _ _ _) rfl (by omega) (fun h6 b1 b2 => ?_)
 have fr : ∀ c, c < nx ∨ c = p → hget h6 c = hget H c := fun c hc => by
  rw [b2 c (by omega) (fun e => by have := hb2 c e; omega), hold (by omega), a2 c (by omega) (fun e => by have := hb1 c e; omega), hold (by omega)]
 have e0 : IntKind.wrap .i64 (((B.length + 1 : Nat) : Int) - 1) = (B.length : Int) := by rw [wrapS (by omega) (by omega)]; omega
 have x1 : hget h6 (NN + 1) = some (.cells (flat encG (B.map bare ++ [zG])) false) := by rw [b2 _ (by omega) (fun e => by have := hb2 _ e; omega), hold (by omega)]; exact a1
 rw [hm, hs]
 simp (disch := omega) only [SS, ↓reduceIte, Nat.reduceAdd, Nat.reduceSub, Nat.reduceMul, Nat.reduceLT, Nat.reduceLeDiff, Nat.reduceEqDiff, Int.reduceBEq, Int.reduceLT, Int.reduceNeg, e0]
 have i0 := Shf.init (B.map bare) zG
 have i1 := Shf.init (sums B) 0
 rw [hm] at i0
 rw [hs] at i1
 refine Lp.mk (ShJ (.slice (some ⟨bg, 0, spg⟩) gs.length cap) B i k p (NN + 1) (NN + 1 + 1 + 1) h6 (NN + 1 + 1 + 1 + 1)) B.length ⟨B.length, _, _, rfl, hat.le, Nat.le_refl _, i0, i1, rfl, x1, b1, fun _ _ _ => rfl, rfl⟩ ?_
 rintro q _ h7 _ ⟨_, X, Y, rfl, hkq, hqB, hX, hY, rfl, g3, g4, hf, rfl⟩
 rw [rcombb2]
 unfold rcombl2
 have hXl := hX.len
 have hYl := hY.len
 rw [hm] at hXl
 rw [hs] at hYl
 have fr7 : ∀ c, c < nx ∨ c = p → hget h7 c = hget H c := fun c hc => (hf c (by omega) (by omega)).trans (fr c hc)
 simp (disch := omega) only [SS, ↓reduceIte, Nat.reduceAdd, Nat.reduceSub, Nat.reduceMul, Nat.reduceLT, Nat.reduceLeDiff, Nat.reduceEqDiff, Int.reduceBEq, Int.reduceLT, Int.reduceNeg]
 refine ⟨fun h1 => ?_, fun h1 => ?_⟩
 ·obtain ⟨q, rfl⟩ : ∃ q', q = q' + 1 := ⟨q - 1, by omega⟩
  have e1 : IntKind.wrap .i64 (((q + 1 : Nat) : Int) - 1) = (q : Int) := by rw [wrapS (by omega) (by omega)]; omega
  obtain ⟨x, hx⟩ := get_ex (l := X) (i := q) (by omega)
  obtain ⟨y, hy⟩ := get_ex (l := Y) (i := q) (by omega)
  simp (disch := omega) only [SS, ↓reduceIte, Nat.reduceAdd, Nat.reduceSub, Nat.reduceMul, Nat.reduceLT, Nat.reduceLeDiff, Nat.reduceEqDiff, Int.reduceBEq, Int.reduceLT, Int.reduceNeg, e1, g3, g4, rdB hx, rdW hy, wrG (m := X) (x := x) (i := q + 1) (by omega), wrW (m := Y) (w := y) (i := q + 1) (by omega)]
  refine ⟨q, by omega, q, _, _, rfl, by omega, by omega, hX.step (by omega) hx, hY.step (by omega) hy, rfl, by rw [hold (by omega), hnew], hnew _ _ _, fun c h1 h2 => by rw [hold h2, hold h1]; exact hf c h1 h2, rfl⟩
 ·have hkq : q = k := by omega
  subst hkq
  have hgg := (fr7 bg (.inl hbg)).trans hgb
  have hpp := (fr7 p (.inr rfl)).trans hp
  have c1 := cellP (enc := encG) (k := 3) (fun _ => rfl) he (j := 1) (by omega) (cs := csg)
  rw [show (encG e)[1]? = some (.int .i64 (e.t : Int)) from rfl] at c1
  have c0 := cellP (enc := encG) (k := 3) (fun _ => rfl) he (j := 0) (by omega) (cs := csg)
  rw [show (encG e)[0]? = some (.int .i64 (e.f : Int)) from rfl, Nat.add_zero] at c0
  have hil := (List.getElem?_eq_some_iff.1 he).1
  have ei : IntKind.wrap .i64 ((i : Int) + 1) = ((i + 1 : Nat) : Int) := wrap_s (by omega)
  have wE : wrO (some (.cells (flat encG X) false)) h7 (NN + 1) (q * 3) [.int .i64 (e.f : Int), .int .i64 (e.t : Int), .int .i64 0] = .ok (hset h7 (NN + 1) (.cells (flat encG (X.set q (bare e))) false)) := wrG (x := bare e) (by omega)
  unfold rcombk0
  simp (disch := omega) only [SS, ↓reduceIte, Nat.reduceAdd, Nat.reduceSub, Nat.reduceMul, Nat.reduceLT, Nat.reduceLeDiff, Nat.reduceEqDiff, Int.reduceBEq, Int.reduceLT, Int.reduceNeg, hgg, c0, c1, g3, wE, hpp, g4, wrW (m := Y) (w := w) (i := q) (by omega), ei]
  have hlen : (B.take q ++ e :: B.drop q).length = B.length + 1 := by rw [List.length_append, List.length_cons, List.length_take, List.length_drop]; omega
  rw [← hlen]
  refine hN _ _ _ _ _ ⟨by omega, .inr ⟨NN + 1, NN + 1 + 1 + 1, by omega, by omega, by omega, by omega, by omega, rfl, rfl, ?_, ?_⟩, ?_, fun g hg => ?_, by rw [hlen]; have := hI.len; omega, fun c hc => ?_, by omega⟩
  ·rw [hold (by omega), hnew, hX.fin (by omega), List.map_append, List.map_cons, List.map_take, List.map_drop]
  ·rw [hnew, hY.fin (by omega)]
   unfold sums
   rw [List.map_append, List.map_cons, List.map_take, List.map_drop, hw]; rfl
  ·rw [List.take_add_one, he, List.map_append]
   exact ins_can hI.can hat hn
  ·rcases List.mem_append.1 hg with hg | hg
   ·exact hI.ok g (List.mem_of_mem_take hg)
   ·rcases List.mem_cons.1 hg with rfl | hg
    ·exact hG
    ·exact hI.ok g (List.mem_of_mem_drop hg)
  ·rw [hold (by omega), hold (by omega), fr7 c (.inl hc)]; exact hI.keep c hc
def NaJ (B : List GE) (ae as_ : Option Addr) (nx : Nat) (h : Hp) (m : Nat) (vs : List Value) (h' : Hp) (nx' : Nat) : Prop :=
 ∃ j, m = B.length - j ∧ j ≤ B.length ∧ vs = [.slice none 0 0, .int .i64 0, .slice ae B.length B.length, .slice as_ B.length B.length, .int .i64 (j : Int)] ∧ (B ≠ [] → ∃ be bs, be ≠ bs ∧ nx ≤ be ∧ be < nx' ∧ nx ≤ bs ∧ bs < nx' ∧ ae = some ⟨be, 0, some 3⟩ ∧ as_ = some ⟨bs, 0, some 2⟩ ∧ hget h' be = some (.cells (flat encG (B.take j ++ (B.drop j).map bare)) false) ∧ hget h' bs = some (.cells (flat wideL (sums B)) false)) ∧ Keep nx h h' ∧ nx ≤ nx'
theorem flat_setw : ∀ {m : List GE} {j : Nat} {y : GE} {w : Int}, m[j]? = some y → (flat encG m).set (j * 3 + 2) (.int .i64 w) = flat encG (m.set j ⟨y.f, y.t, w⟩)
 | [], j, y, w, h => by cases h
 | z :: m, 0, y, w, h => by cases h; rfl
 | z :: m, j + 1, y, w, h => by
  have ih := flat_setw (m := m) (j := j) (y := y) (w := w) h
  show (encG z ++ flat encG m).set ((j + 1) * 3 + 2) _ = encG z ++ flat encG (m.set j _)
  rw [← ih, show (j + 1) * 3 + 2 = (j * 3 + 2) + 1 + 1 + 1 by omega]
  rfl
theorem rcomb_c {s : Bool} {N : Nat} {v : Value} {gs : List GE} {h : Hp} {nx : Nat} (hv : SlPx h nx v encG gs) (hN : N ≤ 4096) (hl : gs.length ≤ 60) (hok : ∀ g ∈ gs, GOk N g) :
  Cv Q O s 58 [.int .i64 1, v] h nx (fun r h' nx' => ∃ v2 B, r = .tuple ⟨[v2, .int .i64 0]⟩ ∧ SlNw h' nx nx' v2 encG B ∧ IsCan (gs.map gE) (B.map gE) ∧ (∀ g ∈ B, GOk N g) ∧ B.length ≤ gs.length ∧ Keep nx h h' ∧ nx ≤ nx') := by
 refine rcombv ?_
 obtain ⟨a, cap, rfl, hc⟩ := id hv
 unfold rcomb
 refine ris_c.mono ?_
 rintro r h0 nx0 ⟨rfl, e1, e2⟩
 rw [e1, e2]
 simp (disch := omega) only [SS, ↓reduceIte, Nat.reduceAdd, Nat.reduceSub, Nat.reduceMul, Nat.reduceLT, Nat.reduceLeDiff, Nat.reduceEqDiff, Int.reduceBEq, Int.reduceLT, Int.reduceNeg]
 refine Lp.mk (CmJ gs (.slice a gs.length cap) N nx h) gs.length ⟨0, [], _, _, by omega, rfl, ⟨by omega, .inl ⟨rfl, rfl, rfl⟩, ⟨List.Pairwise.nil, Rep.nil⟩, by simp, by simp, Keep.refl _ _, Nat.le_refl _⟩⟩ ?_
 rintro _ _ h' nx' ⟨i, B, oe, os, rfl, rfl, hI⟩
 rw [rcombb0]
 unfold rcombl0
 simp (disch := omega) only [SS, ↓reduceIte, Nat.reduceAdd, Nat.reduceSub, Nat.reduceMul, Nat.reduceLT, Nat.reduceLeDiff, Nat.reduceEqDiff, Int.reduceBEq, Int.reduceLT, Int.reduceNeg]
 refine ⟨fun hlt => ?_, fun hge => ?_⟩
 ·obtain ⟨e, he⟩ := get_ex hlt
  have ei : IntKind.wrap .i64 ((i : Int) + 1) = ((i + 1 : Nat) : Int) := wrap_s (by omega)
  obtain ⟨_, bg, spg, rog, cg, csg, hbg, e1, hgg⟩ := hv.at he
  cases e1
  refine Lp.cut (PutP gs (.slice (some ⟨bg, 0, spg⟩) gs.length cap) N nx h i B oe os e) ?_ (fun C' hC => ?_)
  ·rintro _ h2 nx2 ⟨k, hat, hnk, rfl, hI⟩
   have hgg2 := (hI.keep bg hbg).trans hgg
   have hGe := hok e (List.mem_of_getElem? he)
   obtain ⟨w, hw⟩ : ∃ w : Nat, e.w = (w : Int) := ⟨e.w.toNat, by have := hGe.2.2.1; omega⟩
   have hwl : w < 4294967296 := by have := hGe.2.2.2; omega
   have c2 := cellP (enc := encG) (k := 3) (fun _ => rfl) he (j := 2) (by omega) (cs := csg)
   rw [show (encG e)[2]? = some (.int .i64 e.w) from rfl, hw] at c2
   have c1 := cellP (enc := encG) (k := 3) (fun _ => rfl) he (j := 1) (by omega) (cs := csg)
   rw [show (encG e)[1]? = some (.int .i64 (e.t : Int)) from rfl] at c1
   have c0 := cellP (enc := encG) (k := 3) (fun _ => rfl) he (j := 0) (by omega) (cs := csg)
   rw [show (encG e)[0]? = some (.int .i64 (e.f : Int)) from rfl, Nat.add_zero] at c0
   have rd := rdP (enc := encG) (k := 3) (fun _ => rfl) he (cs := csg)
   simp (disch := omega) only [SS, ↓reduceIte, Nat.reduceAdd, Nat.reduceSub, Nat.reduceMul, Nat.reduceLT, Nat.reduceLeDiff, Nat.reduceEqDiff, Int.reduceBEq, Int.reduceLT, Int.reduceNeg, hgg2, c2]
   refine (rof_c (w := w) hwl).mono ?_
   rintro r h3 nx3 ⟨rfl, hk3, hle3⟩
   have hbn : bg < nx2 := by have := hI.nxle; omega
   have K3 : ∀ {o o'}, Keep nx2 h2 (hset (hset h3 nx3 o) nx3 o') := (hk3.set hle3).set hle3
   have hI3 := hI.more (h2 := hset (hset h3 nx3 (.cells [.int .i64 0, .int .u64 0] false)) nx3 (.cells [.int .i64 0, .int .u64 (w : Int)] false)) (nx2 := nx3 + 1) K3 (by omega)
   have hgg3 : hget (hset (hset h3 nx3 (.cells [.int .i64 0, .int .u64 0] false)) nx3 (.cells [.int .i64 0, .int .u64 (w : Int)] false)) bg = some (.cells (flat encG gs ++ csg) rog) := (K3 bg hbn).trans hgg2
   obtain ⟨ae, as_, rfl, rfl, hne⟩ := hI.co.form
   have rd3 : loadC (some 3) (i * 3) (flat encG gs ++ csg) = .ok (.agg ⟨[.int .i64 (e.f : Int), .int .i64 (e.t : Int), .int .i64 e.w]⟩) := rd
   have hbl : B.length ≤ 60 := by have := hI.len; omega
   simp (disch := omega) only [SS, ↓reduceIte, Nat.reduceAdd, Nat.reduceSub, Nat.reduceMul, Nat.reduceLT, Nat.reduceLeDiff, Nat.reduceEqDiff, Int.reduceBEq, Int.reduceLT, Int.reduceNeg, wideL, hgg3, rd3]
   refine ⟨fun hk => ?_, fun hk => ?_⟩
   ·obtain ⟨be, bs, h1, h2', h3', h4, h5, rfl, rfl, h8, h9⟩ := hne (fun e => by rw [e] at hk; simp at hk)
    obtain ⟨x, hx⟩ := get_ex hk
    have hx' : (B.map bare)[k]? = some (bare x) := by rw [List.getElem?_map, hx]; rfl
    have hs' : (sums B)[k]? = some x.w.toNat := by unfold sums; rw [List.getElem?_map, hx]; rfl
    have e8 := (hk3 be (by omega)).trans h8
    have e9 := (hk3 bs (by omega)).trans h9
    simp (disch := omega) only [SS, ↓reduceIte, Nat.reduceAdd, Nat.reduceSub, Nat.reduceMul, Nat.reduceLT, Nat.reduceLeDiff, Nat.reduceEqDiff, Int.reduceBEq, Int.reduceLT, Int.reduceNeg, e8, rdB hx', e9]
    refine (below_c (x := e) (y := bare x)).mono ?_
    rintro r h6 nx6 ⟨rfl, hk6, hle6⟩
    have hI6 := hI3.more hk6 hle6
    have p6 := hk6 nx3 (by omega)
    rw [hnew] at p6
    have s6 := (hk6 bs (by omega)).trans ((hold (by omega)).trans ((hold (by omega)).trans e9))
    have hb : ltG e (bare x) = ltG e x := rfl
    rw [hb]
    simp (disch := omega) only [SS, ↓reduceIte, Nat.reduceAdd, Nat.reduceSub, Nat.reduceMul, Nat.reduceLT, Nat.reduceLeDiff, Nat.reduceEqDiff, Int.reduceBEq, Int.reduceLT, Int.reduceNeg, s6, rdW hs', p6]
    refine ⟨hle6, fun hf => ?_, fun ht => ?_⟩
    ·have hGx := hI.ok x (List.mem_of_getElem? hx)
     refine (radd_c (a := x.w.toNat) (b := w) (by have := hGx.2.2.2; omega) hwl).mono ?_
     rintro r h7 nx7 ⟨rfl, hk7, hle7⟩
     have s7 := (hk7 bs (by omega)).trans s6
     unfold rcombk0
     simp (disch := omega) only [SS, ↓reduceIte, Nat.reduceAdd, Nat.reduceSub, Nat.reduceMul, Nat.reduceLT, Nat.reduceLeDiff, Nat.reduceEqDiff, Int.reduceBEq, Int.reduceLT, Int.reduceNeg, wideL, s7, ei, wrW (m := sums B) (i := k) (w := min x.w.toNat w) (by unfold sums; rw [List.length_map]; exact hk)]
     have hy : bare (⟨x.f, x.t, min x.w e.w⟩ : GE) = bare x := rfl
     refine ⟨hle7, gs.length - (i + 1), by omega, i + 1, B.set k ⟨x.f, x.t, min x.w e.w⟩, _, _, rfl, rfl, ⟨by omega, .inr ⟨be, bs, h1, h2', by omega, h4, by omega, by rw [List.length_set], by rw [List.length_set], ?_, ?_⟩, ?_, fun g hg => ?_, by rw [List.length_set]; have := hI.len; omega, (hI6.keep.trans hk7 hI6.nxle).set (by omega), by have := hI6.nxle; omega⟩⟩
     ·rw [hold h1, hk7 be (by omega), hk6 be (by omega), hold (by omega), hold (by omega), e8, List.map_set, hy, setS hx']
     ·rw [hnew]
      unfold sums
      rw [List.map_set]
      have : (min x.w e.w).toNat = min x.w.toNat w := by have := hGx.2.2.1; omega
      rw [this]
     ·rw [List.take_add_one, he, List.map_append]
      exact set_can hI.can hx (ends_of (hnk x hx) hf)
     ·rcases List.mem_or_eq_of_mem_set hg with hg | rfl
      ·exact hI.ok g hg
      ·have a1 := hGx.2.2; have a2 := hGe.2.2
       exact ⟨hGx.1, hGx.2.1, by show 0 ≤ min x.w e.w; omega, by show min x.w e.w ≤ _; omega⟩
    ·have hnk2 : ∀ x', B[k]? = some x' → ltG e x' = true := fun x' hx' => by rw [hx] at hx'; cases hx'; exact ht
     have gg6 := (hk6 bg (by omega)).trans hgg3
     have hnn6 : nx3 < nx6 := by omega
     refine ins_c hl he hGe hw hI6 hat hnk2 gg6 hbg p6 hnn6 (by have := hI.nxle; omega) (hI.co.keep (fun b _ hb => by rw [hk6 b (by omega), hold (by omega), hold (by omega), hk3 b hb]) hle3) (fun B' oe' os' h' nx' hc => ⟨gs.length - (i + 1), by omega, i + 1, B', oe', os', rfl, rfl, hc⟩)
   ·refine ins_c hl he hGe hw hI3 hat (fun x hx => absurd (List.getElem?_eq_some_iff.1 hx).1 hk) hgg3 hbg (hnew _ _ _) (Nat.lt_succ_self _) (by have := hI.nxle; omega) (hI.co.keep (fun b _ hb => by rw [hold (by omega), hold (by omega), hk3 b hb]) hle3) (fun B' oe' os' h' nx' hc => ⟨gs.length - (i + 1), by omega, i + 1, B', oe', os', rfl, rfl, hc⟩)
  ·refine Lp.mk (CmF gs (.slice (some ⟨bg, 0, spg⟩) gs.length cap) N nx h i B oe os e) B.length ⟨0, by omega, ⟨by omega, fun q x hq => absurd hq (by omega)⟩, rfl, hI⟩ ?_
   rintro _ _ h2 nx2 ⟨k, rfl, hat, rfl, hI⟩
   obtain ⟨ae, as_, rfl, rfl, hne⟩ := hI.co.form
   rw [rcombb1]
   unfold rcombl1
   simp (disch := omega) only [SS, ↓reduceIte, Nat.reduceAdd, Nat.reduceSub, Nat.reduceMul, Nat.reduceLT, Nat.reduceLeDiff, Nat.reduceEqDiff, Int.reduceBEq, Int.reduceLT, Int.reduceNeg]
   refine ⟨fun hk => ?_, fun hk => hC _ _ _ ⟨k, hat, fun x hx => absurd (List.getElem?_eq_some_iff.1 hx).1 hk, rfl, hI⟩⟩
   obtain ⟨be, bs, h1, h2', h3, h4, h5, rfl, rfl, h8, h9⟩ := hne (fun e => by rw [e] at hk; simp at hk)
   obtain ⟨x, hx⟩ := get_ex hk
   have hx' : (B.map bare)[k]? = some (bare x) := by rw [List.getElem?_map, hx]; rfl
   simp (disch := omega) only [SS, ↓reduceIte, Nat.reduceAdd, Nat.reduceSub, Nat.reduceMul, Nat.reduceLT, Nat.reduceLeDiff, Nat.reduceEqDiff, Int.reduceBEq, Int.reduceLT, Int.reduceNeg, h8, (hI.keep bg hbg).trans hgg, rdF (enc := encG) (k := 3) (fun _ => rfl) hx', rdP (enc := encG) (k := 3) (fun _ => rfl) he]
   refine (below_c (x := bare x) (y := e)).mono ?_
   rintro r h6 nx6 ⟨rfl, hk6, hle6⟩
   have hb : ltG (bare x) e = ltG x e := rfl
   rw [hb]
   have ek : IntKind.wrap .i64 ((k : Int) + 1) = ((k + 1 : Nat) : Int) := wrap_s (by have := hI.len; omega)
   simp (disch := omega) only [SS, ↓reduceIte, Nat.reduceAdd, Nat.reduceSub, Nat.reduceMul, Nat.reduceLT, Nat.reduceLeDiff, Nat.reduceEqDiff, Int.reduceBEq, Int.reduceLT, Int.reduceNeg, ek]
   refine ⟨hle6, fun ht => ⟨B.length - (k + 1), by omega, k + 1, rfl, ⟨hk, fun q y hq hy => ?_⟩, rfl, hI.more hk6 hle6⟩, fun hf => hC _ _ _ ⟨k, hat, fun y hy => by rw [hx] at hy; cases hy; exact hf, rfl, hI.more hk6 hle6⟩⟩
   by_cases e2 : q = k
   ·subst e2; rw [hx] at hy; cases hy; exact ht
   ·exact hat.lo q y (by omega) hy
 ·have hig : i = gs.length := by have := hI.le; omega
  subst hig
  have hcan := hI.can
  rw [List.take_length] at hcan
  obtain ⟨ae, as_, rfl, rfl, hne⟩ := hI.co.form
  refine Lp.mk (NaJ B ae as_ nx h) B.length ⟨0, by omega, by omega, rfl, fun hb => ?_, hI.keep, hI.nxle⟩ ?_
  ·obtain ⟨be, bs, h1, h2, h3, h4, h5, e1, e2, h8, h9⟩ := hne hb
   exact ⟨be, bs, h1, h2, h3, h4, h5, e1, e2, by simpa using h8, h9⟩
  rintro _ _ h2 nx2 ⟨j, rfl, hj, rfl, hne, hk2, hle2⟩
  rw [rcombb3]
  unfold rcombl3
  simp (disch := omega) only [SS, ↓reduceIte, Nat.reduceAdd, Nat.reduceSub, Nat.reduceMul, Nat.reduceLT, Nat.reduceLeDiff, Nat.reduceEqDiff, Int.reduceBEq, Int.reduceLT, Int.reduceNeg]
  have hbl : B.length ≤ 60 := by have := hI.len; omega
  refine ⟨fun hlt => ?_, fun hge => ?_⟩
  ·obtain ⟨be, bs, h1, h2', h3, h4, h5, rfl, rfl, h8, h9⟩ := hne (fun e => by rw [e] at hlt; simp at hlt)
   obtain ⟨x, hx⟩ := get_ex hlt
   have hGx := hI.ok x (List.mem_of_getElem? hx)
   obtain ⟨w, hw⟩ : ∃ w : Nat, x.w = (w : Int) := ⟨x.w.toNat, by have := hGx.2.2.1; omega⟩
   have hs' : (sums B)[j]? = some w := by unfold sums; rw [List.getElem?_map, hx, Option.map_some, hw]; rfl
   have hC : (B.take j ++ (B.drop j).map bare)[j]? = some (bare x) := by
    rw [List.getElem?_append_right (by rw [List.length_take]; omega), List.length_take, show j - min j B.length = 0 by omega, List.getElem?_map, List.getElem?_drop, Nat.add_zero, hx]; rfl
   simp (disch := omega) only [SS, ↓reduceIte, Nat.reduceAdd, Nat.reduceSub, Nat.reduceMul, Nat.reduceLT, Nat.reduceLeDiff, Nat.reduceEqDiff, Int.reduceBEq, Int.reduceLT, Int.reduceNeg, h9, rdW hs']
   refine (rnarrow_c (w := w) (by have := hGx.2.2.2; omega)).mono ?_
   rintro r h6 nx6 ⟨rfl, hk6, hle6⟩
   have g8 := (hk6 be h3).trans h8
   have ej : IntKind.wrap .i64 ((j : Int) + 1) = ((j + 1 : Nat) : Int) := wrap_s (by omega)
   have hCl : (B.take j ++ (B.drop j).map bare).length = B.length := by rw [List.length_append, List.length_take, List.length_map, List.length_drop]; omega
   have hfl : (flat encG (B.take j ++ (B.drop j).map bare)).length = B.length * 3 := by rw [flat_len (k := 3) (fun _ => rfl), hCl]
   simp (disch := omega) only [SS, ↓reduceIte, Nat.reduceAdd, Nat.reduceSub, Nat.reduceMul, Nat.reduceLT, Nat.reduceLeDiff, Nat.reduceEqDiff, Int.reduceBEq, Int.reduceLT, Int.reduceNeg, g8, ej, hfl, flat_setw hC]
   refine ⟨by omega, B.length - (j + 1), by omega, j + 1, rfl, hlt, rfl, fun _ => ⟨be, bs, h1, h2', by omega, h4, by omega, rfl, rfl, ?_, ?_⟩, fun c hc => ?_, by omega⟩
   ·rw [hnew]
    have : (B.take j ++ (B.drop j).map bare).set j ⟨(bare x).f, (bare x).t, (w : Int)⟩ = B.take (j + 1) ++ (B.drop (j + 1)).map bare := by
     have e3 : (⟨(bare x).f, (bare x).t, (w : Int)⟩ : GE) = x := by rw [← hw]; rfl
     rw [e3, List.set_append, if_neg (by rw [List.length_take]; omega), List.length_take, show j - min j B.length = 0 by omega]
     rw [List.drop_eq_getElem_cons hlt, List.map_cons, List.set_cons_zero, List.take_add_one, hx, List.append_assoc]
     rfl
    rw [this]
   ·rw [hold (Ne.symm h1), hk6 bs h5]; exact h9
   ·rw [hold (by omega), hk6 c (by omega)]; exact hk2 c hc
  ·have hjb : j = B.length := by omega
   subst hjb
   refine ⟨_, B, rfl, ⟨ae, B.length, rfl, fun hb => ?_⟩, hcan, hI.ok, hI.len, hk2, hle2⟩
   obtain ⟨be, bs, h1, h2', h3, h4, h5, e1, e2, h8, h9⟩ := hne hb
   rw [List.take_length, List.drop_length, List.map_nil, List.append_nil] at h8
   exact ⟨be, some 3, false, h2', h3, e1, h8⟩
theorem rcanon_c {gs : List GE} {N : Nat} {s : Bool} {h : Hp} {nx : Nat} {v : Value} (hv : SlPx h nx v encG gs) (hN : N ≤ 4096) (hok : ∀ g ∈ gs, GOk N g) (hl : gs.length ≤ 60) :
  Cv Q O s 34 [.agg ⟨[.int .i64 (N : Int), v]⟩] h nx (fun r h' nx' => ∃ v2 cs, r = .agg ⟨[.int .i64 (N : Int), v2]⟩ ∧ SlNw h' nx nx' v2 encG cs ∧ IsCan (gs.map gE) (cs.map gE) ∧ (∀ g ∈ cs, GOk N g) ∧ cs.length ≤ gs.length ∧ Keep nx h h' ∧ nx ≤ nx') := by
 refine rcanonv ?_
 obtain ⟨a, cap, rfl, hc⟩ := id hv
 unfold rcanon
 simp (disch := omega) only [SS, ↓reduceIte, Nat.reduceAdd, Nat.reduceSub, Nat.reduceMul, Nat.reduceLT, Nat.reduceLeDiff, Nat.reduceEqDiff, Int.reduceBEq, Int.reduceLT, Int.reduceNeg]
 have k0 : ∀ {o1 o2 : AObj}, Keep nx h (hset (hset h nx o1) (nx + 1) o2) := fun {o1 o2} b hb => by rw [hold (by omega), hold (by omega)]
 refine (rcomb_c (hv.keep k0 (by omega)) hN hl hok).mono ?_
 rintro r h1 nx1 ⟨v2, cs, rfl, hcs, hcan, hok', hlen, hk, hle⟩
 have g1 := (hk nx (by omega)).trans (hold (by omega))
 have g2 := hk (nx + 1) (by omega)
 rw [hnew] at g1 g2
 obtain ⟨a2, cap2, rfl, hc2⟩ := id hcs
 simp (disch := omega) only [SS, ↓reduceIte, Nat.reduceAdd, Nat.reduceSub, Nat.reduceMul, Nat.reduceLT, Nat.reduceLeDiff, Nat.reduceEqDiff, Int.reduceBEq, Int.reduceLT, Int.reduceNeg, g1, g2]
 exact ⟨_, cs, rfl, hcs.keep (fun b h1 h2 => hold (by omega)) (by omega) (Nat.le_refl _), hcan, hok', hlen, (k0.trans hk (by omega)).set (by omega), by omega⟩
def RpJ (N v p4 p bl : Nat) (L : List Nat) (cs : List GE) (ve : Value) (lo nx : Nat) (h h0 : Hp) (m : Nat) (vs : List Value) (h' : Hp) (nx' : Nat) : Prop :=
 ∃ (j : Nat) (o : Value), m = cs.length - j ∧ j ≤ cs.length ∧ vs = [.int .i64 (v : Int), .pointer (some ⟨p4, 0, none⟩), .slice (some ⟨bl, 0, some 1⟩) N N, .pointer (some ⟨p, 0, none⟩), ve, .int .i64 (j : Int)] ∧ hget h' p = some (.cells [.int .i64 (N : Int), o] false) ∧
  SlAt h' o encG 3 ((cs.take j).filter (keepP L v)) lo nx' ∧ (∀ c, c < lo → c ≠ p → hget h' c = hget h0 c) ∧ lo ≤ nx'
theorem rpart_c {s : Bool} {n v : Int} {ve : Value} {es : List Edg3} {h : Hp} {nx : Nat} (hv : SlPx h nx ve enc3 es) (hl : RightV n es → es.length ≤ 60) :
  Cv Q O s 32 [.agg ⟨[.int .i64 n, ve]⟩, .int .i64 v] h nx (PartK n es v nx h) := by
 refine rpartv ?_
 obtain ⟨a, cap, rfl, hc⟩ := id hv
 have K1 : ∀ {o o'}, Keep nx h (hset (hset h nx o) (nx + 1) o') := ((Keep.refl _ _).set (Nat.le_refl _)).set (Nat.le_succ _)
 unfold rpart
 simp (disch := omega) only [SS, ↓reduceIte, Nat.reduceAdd, Nat.reduceSub, Nat.reduceMul, Nat.reduceLT, Nat.reduceLeDiff, Nat.reduceEqDiff, Int.reduceBEq, Int.reduceLT, Int.reduceNeg]
 refine (rright_g (hv.keep K1 (by omega))).mono ?_
 rintro r h1 nx1 ⟨e, rfl, he, hk, hle⟩
 have g0 := hk nx (by omega)
 have g1 := hk (nx + 1) (by omega)
 rw [hold (by omega), hnew] at g0
 rw [hnew] at g1
 have K2 := K1.trans hk (by omega)
 have no : ¬ PartOk n es v → rpartk0 s (PartK n es v nx h) (.int .i64 v) (.pointer (some ⟨nx, 0, none⟩)) (.pointer (some ⟨nx + 1, 0, none⟩)) (.bool true) h1 nx1 := fun hn => by
  unfold rpartk0
  simp (disch := omega) only [SS, ↓reduceIte, Nat.reduceAdd, Nat.reduceSub, Nat.reduceMul, Nat.reduceLT, Nat.reduceLeDiff, Nat.reduceEqDiff, Int.reduceBEq, Int.reduceLT, Int.reduceNeg, g1]
  exact ⟨0, _, rfl, K2.set (by omega), by omega, .inl ⟨hn, rfl, rfl⟩⟩
 simp (disch := omega) only [SS, ↓reduceIte, Nat.reduceAdd, Nat.reduceSub, Nat.reduceMul, Nat.reduceLT, Nat.reduceLeDiff, Nat.reduceEqDiff, Int.reduceBEq, Int.reduceLT, Int.reduceNeg, g0]
 refine ⟨fun h2 => no (fun hp => ?_), fun h2 => ⟨fun h3 => no (fun hp => ?_), fun h3 => ?_⟩⟩
 ·have := he.2 hp.1
  subst this
  simp at h2
 ·have := hp.2.1; omega
 by_cases h4 : v < n
 case neg =>
  rw [decide_eq_false h4]
  exact no (fun hp => h4 hp.2.2)
 rw [decide_eq_true h4, Bool.not_true]
 have he0 : e = 0 := by simpa using h2
 have hr := he.1 he0
 have hok : PartOk n es v := ⟨hr, by omega, h4⟩
 obtain ⟨N, rfl, hN, hfl, hG⟩ := hr.ges
 obtain ⟨u, rfl⟩ : ∃ u : Nat, v = (u : Int) := ⟨v.toNat, by omega⟩
 have hv1 := ((hv.keep K1 (by omega)).keep hk hle).map hfl
 have hl60 := hl hr
 unfold rpartk0
 simp (disch := omega) only [SS, ↓reduceIte, Nat.reduceAdd, Nat.reduceSub, Nat.reduceMul, Nat.reduceLT, Nat.reduceLeDiff, Nat.reduceEqDiff, Int.reduceBEq, Int.reduceLT, Int.reduceNeg, g0]
 refine (rlabels_c hv1 (by omega) hN (by rw [List.length_map]; omega) hG).mono ?_
 rintro r h5 nx5 ⟨bl, L, rfl, hbl, hL, hb1, hb2, hk5, hle5⟩
 have g05 := (hk5 nx (by omega)).trans g0
 have g15 := (hk5 (nx + 1) (by omega)).trans g1
 simp (disch := omega) only [SS, ↓reduceIte, Nat.reduceAdd, Nat.reduceSub, Nat.reduceMul, Nat.reduceLT, Nat.reduceLeDiff, Nat.reduceEqDiff, Int.reduceBEq, Int.reduceLT, Int.reduceNeg, g05]
 have k6 : ∀ {o o'}, Keep nx5 h5 (hset (hset h5 nx5 o) nx5 o') := ((Keep.refl _ _).set (Nat.le_refl _)).set (Nat.le_refl _)
 refine (rcanon_c ((hv1.keep hk5 hle5).keep k6 (Nat.le_succ _)) hN hG (by rw [List.length_map]; omega)).mono ?_
 rintro r h6 nx6 ⟨v2, cs, rfl, hcs, hcan, hok6, hlen6, hk6, hle6⟩
 have g16 := (hk6 (nx + 1) (by omega)).trans ((k6 (nx + 1) (by omega)).trans g15)
 have gp := hk6 nx5 (by omega)
 rw [hnew] at gp
 have gl := (hk6 bl (by omega)).trans ((k6 bl (by omega)).trans hbl)
 obtain ⟨a2, c2, rfl, hc2⟩ := id hcs
 rw [List.length_map] at hlen6
 obtain ⟨y, hy⟩ := get_ex (l := L) (i := u) (by rw [hL.len]; omega)
 simp (disch := omega) only [SS, ↓reduceIte, Nat.reduceAdd, Nat.reduceSub, Nat.reduceMul, Nat.reduceLT, Nat.reduceLeDiff, Nat.reduceEqDiff, Int.reduceBEq, Int.reduceLT, Int.reduceNeg]
 refine Lp.mk (RpJ N u (nx + 1) nx5 bl L cs (.slice a2 cs.length c2) nx6 nx h h6) cs.length ⟨0, _, by omega, by omega, rfl, gp, .inl ⟨rfl, rfl⟩, fun _ _ _ => rfl, Nat.le_refl _⟩ ?_
 rintro _ _ h7 nx7 ⟨j, o, rfl, hj, rfl, g7, ho, hf, hle7⟩
 rw [rpartb0]
 unfold rpartl0
 obtain ⟨ao, no', co, rfl⟩ := ho.form
 have gl7 := (hf bl (by omega) (by omega)).trans gl
 simp (disch := omega) only [SS, ↓reduceIte, Nat.reduceAdd, Nat.reduceSub, Nat.reduceMul, Nat.reduceLT, Nat.reduceLeDiff, Nat.reduceEqDiff, Int.reduceBEq, Int.reduceLT, Int.reduceNeg]
 refine ⟨fun hlt => ?_, fun hge => ?_⟩
 ·obtain ⟨x, hx⟩ := get_ex hlt
  obtain ⟨b, sp, ro, hblo, hbhi, rfl, hgb⟩ := hc2 (fun e => by rw [e] at hx; cases hx)
  have hgb7 := (hf b (by omega) (by omega)).trans hgb
  obtain ⟨o1, o2, o3, o4⟩ := hok6 x (List.mem_of_getElem? hx)
  obtain ⟨z, hz⟩ := get_ex (l := L) (i := x.f) (by rw [hL.len]; exact o1)
  have c0 := flat_cell (enc := encG) (k := 3) (fun _ => rfl) hx (j := 0) (by omega)
  rw [show (encG x)[0]? = some (.int .i64 (x.f : Int)) from rfl, Nat.add_zero] at c0
  have ej : IntKind.wrap .i64 ((j : Int) + 1) = ((j + 1 : Nat) : Int) := wrap_s (by omega)
  have hkp : keepP L u x = (z == y) := by unfold keepP offP; rw [hz, hy]; simp
  have hzy : ((z : Int) == (y : Int)) = (z == y) := by
   by_cases e : z = y
   ·subst e; simp
   ·have e' : ¬ ((z : Int) = (y : Int)) := by omega
    have h1 : ((z : Int) == (y : Int)) = false := by simpa using e'
    have h2 : (z == y) = false := by simpa using e
    rw [h1, h2]
  simp (disch := omega) only [SS, ↓reduceIte, Nat.reduceAdd, Nat.reduceSub, Nat.reduceMul, Nat.reduceLT, Nat.reduceLeDiff, Nat.reduceEqDiff, Int.reduceBEq, Int.reduceLT, Int.reduceNeg, hgb7, c0, gl7, nat_get hz, nat_get hy, hzy, g7, rdF (enc := encG) (k := 3) (fun _ => rfl) hx, encG, ej]
  have htk : (cs.take (j + 1)).filter (keepP L u) = (cs.take j).filter (keepP L u) ++ if z == y then [x] else [] := by
   rw [List.take_add_one, hx, List.filter_append]
   congr 1
   simp [hkp, List.filter_cons]
  refine ⟨fun hq => ?_, fun hq => ?_⟩
  ·rw [hq, if_pos rfl] at htk
   have hfl2 : ((cs.take j).filter (keepP L u)).length ≤ 60 := Nat.le_trans (List.length_filter_le _ _) (by rw [List.length_take]; omega)
   refine EK_appS (enc := encG) (k := 3) (lo := nx6) (fun _ => rfl) (fun _ => rfl) (by omega) (ho.keep (fun b h1 h2 => by rw [hold (by omega)]) (by omega)) (by omega) x (hnew _ _ _) rfl (by omega) ?_
   intro v3 h8 hs8 hk8
   obtain ⟨a8, n8, c8, rfl⟩ := hs8.form
   simp (disch := omega) only [SS, ↓reduceIte, Nat.reduceAdd, Nat.reduceSub, Nat.reduceMul, Nat.reduceLT, Nat.reduceLeDiff, Nat.reduceEqDiff, Int.reduceBEq, Int.reduceLT, Int.reduceNeg, hk8 nx5 (by omega), g7]
   refine ⟨by omega, cs.length - (j + 1), by omega, j + 1, _, rfl, hlt, rfl, hnew _ _ _, ?_, fun c h1 h2 => by rw [hold h2, hk8 c (by omega), hold (by omega)]; exact hf c h1 h2, by omega⟩
   rw [htk]
   exact hs8.keep (fun b h1 h2 => hold (by omega)) (Nat.le_refl _)
  ·rw [hq] at htk
   refine ⟨cs.length - (j + 1), by omega, j + 1, _, rfl, hlt, rfl, g7, ?_, hf, hle7⟩
   rw [htk]; simpa using ho
 ·have hjc : j = cs.length := by omega
  subst hjc
  rw [List.take_length] at ho
  have g17 := (hf (nx + 1) (by omega) (by omega)).trans g16
  simp (disch := omega) only [SS, ↓reduceIte, Nat.reduceAdd, Nat.reduceSub, Nat.reduceMul, Nat.reduceLT, Nat.reduceLeDiff, Nat.reduceEqDiff, Int.reduceBEq, Int.reduceLT, Int.reduceNeg, g7, g17]
  refine ⟨N, _, rfl, fun c hc => ?_, by omega, .inr ⟨hok, rfl, N, L, cs, rfl, hL, hcan, hok6, hlen6, ?_⟩⟩
  ·rw [hold (by omega), hf c (by omega) (by omega), hk6 c (by omega), k6 c (by omega), hk5 c (by omega)]; exact K2 c hc
  ·exact SlPx.of ((ho.keep (fun b h1 h2 => hold (by omega)) (Nat.le_refl _)).rd)
theorem gE_inj {a b : List GE} (h : a.map gE = b.map gE) : a = b := by
 induction a generalizing b with
 | nil => cases b with
  | nil => rfl
  | cons y b => cases h
 | cons x a ih =>
  cases b with
  | nil => cases h
  | cons y b =>
   rw [List.map_cons, List.map_cons] at h
   injection h with h1 h2
   rw [ih h2]
   obtain ⟨f, t, w⟩ := x
   obtain ⟨f', t', w'⟩ := y
   unfold gE at h1
   simp only [Prod.mk.injEq] at h1
   obtain ⟨e1, e2, e3⟩ := h1
   have e1 : f = f' := by omega
   have e2 : t = t' := by omega
   rw [e1, e2, e3]
def ofG (g : GE) : Edg3 := ((g.f : Int), (g.t : Int), g.w)
theorem toG_ofG (l : List GE) : (l.map ofG).map toG = l := by
 rw [List.map_map]
 conv => rhs; rw [← List.map_id l]
 exact List.map_congr_left fun x _ => by
  obtain ⟨f, t, w⟩ := x
  rfl
theorem flat_ofG : ∀ l : List GE, flat enc3 (l.map ofG) = flat encG l
 | [] => rfl
 | x :: l => by show enc3 (ofG x) ++ flat enc3 (l.map ofG) = encG x ++ flat encG l; rw [flat_ofG l]; rfl
theorem keep_iff {L : List Nat} {v : Nat} {g : GE} : keepP L v g = true ↔ L[g.f]? = L[v]? := by
 unfold keepP offP
 simp
theorem part_part {N v : Nat} {gs cs : List GE} {L L2 : List Nat} (hL : IsLab N gs L) (hcan : IsCan (gs.map gE) (cs.map gE)) (hok : ∀ g ∈ cs, GOk N g) (hv : v < N) (h2 : IsLab N (cs.filter (keepP L v)) L2) : (cs.filter (keepP L v)).filter (keepP L2 v) = cs.filter (keepP L v) := by
 rw [List.filter_eq_self]
 intro e he
 rw [keep_iff]
 obtain ⟨hec, hek⟩ := List.mem_filter.1 he
 rw [keep_iff] at hek
 have hf := (hok e hec).1
 obtain ⟨a, ha⟩ := get_ex (l := L2) (i := e.f) (by rw [h2.len]; exact hf)
 obtain ⟨b, hb⟩ := get_ex (l := L2) (i := v) (by rw [h2.len]; exact hv)
 obtain ⟨r, hr⟩ := get_ex (l := L) (i := v) (by rw [hL.len]; exact hv)
 have hc : ∀ g ∈ gs, (if L[g.f]? = L[v]? then L2.getD g.f 0 else 0) = (if L[g.t]? = L[v]? then L2.getD g.t 0 else 0) := fun g hg => by
  have hge := hL.edge g hg
  rw [hge]
  by_cases h3 : L[g.t]? = L[v]?
  ·rw [if_pos h3, if_pos h3]
   obtain ⟨z, hz, he1, he2⟩ := hcan.rep.cov (gE g) (List.mem_map_of_mem hg)
   obtain ⟨c, hcm, rfl⟩ := List.mem_map.1 hz
   have e1 : c.f = g.f := by
    have : (c.f : Int) = (g.f : Int) := he1
    omega
   have e2 : c.t = g.t := by
    have : (c.t : Int) = (g.t : Int) := he2
    omega
   have := h2.edge c (List.mem_filter.2 ⟨hcm, keep_iff.2 (by rw [e1, hge, h3])⟩)
   rw [e1, e2] at this
   simp [List.getD, this]
  ·rw [if_neg h3, if_neg h3]
 have key : ∀ u x, L[u]? = some x → x = r → L2.getD x 0 = L2.getD u 0 := fun u x hx hxr => by
  have this : (if L[x]? = L[v]? then L2.getD x 0 else 0) = (if L[u]? = L[v]? then L2.getD u 0 else 0) := hL.con (fun u => if L[u]? = L[v]? then L2.getD u 0 else 0) hc u x hx
  have h4 := hL.own hx
  rw [if_pos (by rw [h4, hr, hxr]), if_pos (by rw [hx, hr, hxr])] at this
  exact this
 have k1 := key e.f r (by rw [hek]; exact hr) rfl
 have k2 := key v r hr rfl
 rw [ha, hb]
 have e1 : L2.getD e.f 0 = a := by simp [List.getD, ha]
 have e2 : L2.getD v 0 = b := by simp [List.getD, hb]
 congr 1
 omega
def cntB (L : List Nat) (cs : List GE) (i : Nat) : Nat := (cs.filter fun g => decide (L.getD g.f 0 < i)).length
theorem cntB_zero (L : List Nat) (cs : List GE) : cntB L cs 0 = 0 := by
 unfold cntB
 rw [List.filter_eq_nil_iff.2 (fun x _ => by simp)]; rfl
theorem cntB_le (L : List Nat) (cs : List GE) (i : Nat) : cntB L cs i ≤ cs.length := List.length_filter_le _ _
theorem cnt_split {N u : Nat} {L : List Nat} {cs : List GE} (hl : L.length = N) (hok : ∀ g ∈ cs, GOk N g) : cntB L cs (u + 1) = cntB L cs u + (cs.filter fun g => decide (L[g.f]? = some u)).length := by
 induction cs with
 | nil => rfl
 | cons g cs ih =>
  have ih := ih fun x hx => hok x (List.mem_cons_of_mem _ hx)
  have hg := (hok g (List.mem_cons_self ..)).1
  have hx : L[g.f]? = some (L[g.f]'(by rw [hl]; exact hg)) := List.getElem?_eq_getElem _
  have hd : L.getD g.f 0 = L[g.f]'(by rw [hl]; exact hg) := by simp [List.getD, hx]
  unfold cntB at ih ⊢
  simp only [List.filter_cons, hd, hx, Option.some.injEq]
  generalize L[g.f]'(by rw [hl]; exact hg) = z at *
  by_cases h1 : z < u
  ·have h2 : z < u + 1 := by omega
   have h3 : ¬ z = u := by omega
   simp only [h1, h2, h3, decide_true, decide_false, if_true, List.length_cons]
   simp only [Bool.false_eq_true, if_false]
   omega
  ·by_cases h3 : z = u
   ·have h2 : z < u + 1 := by omega
    simp only [h1, h2, h3, decide_true, decide_false, if_true, List.length_cons]
    simp only [Nat.lt_irrefl, decide_false, Bool.false_eq_true, if_false, Nat.lt_succ_self, decide_true, if_true, List.length_cons]
    omega
   ·have h2 : ¬ z < u + 1 := by omega
    simp only [h1, h2, h3, decide_false, Bool.false_eq_true, if_false]
    exact ih
theorem cnt_root {N u : Nat} {gs cs : List GE} {L : List Nat} (hL : IsLab N gs L) (hu : L[u]? = some u) : (cs.filter fun g => decide (L[g.f]? = some u)) = cs.filter (keepP L u) := by
 apply List.filter_congr
 intro g _
 by_cases h : L[g.f]? = some u
 ·rw [decide_eq_true h]; exact (keep_iff.2 (by rw [h, hu])).symm
 ·rw [decide_eq_false h]
  cases hk : keepP L u g with
  | false => rfl
  | true => exact absurd ((keep_iff.1 hk).trans hu) h
theorem cnt_no {N u x : Nat} {gs cs : List GE} {L : List Nat} (hL : IsLab N gs L) (hx : L[u]? = some x) (hne : x ≠ u) : (cs.filter fun g => decide (L[g.f]? = some u)).length = 0 := by
 rw [List.filter_eq_nil_iff.2]
 ·rfl
 ·intro g _ h
  have h := of_decide_eq_true h
  have := hL.own h
  rw [hx] at this
  cases this
  exact hne rfl
theorem cnt_all {N : Nat} {gs cs : List GE} {L : List Nat} (hL : IsLab N gs L) (hok : ∀ g ∈ cs, GOk N g) : cntB L cs N = cs.length := by
 unfold cntB
 rw [List.filter_eq_self.2]
 intro g hg
 have hf := (hok g hg).1
 obtain ⟨x, hx⟩ := get_ex (l := L) (i := g.f) (by rw [hL.len]; exact hf)
 have := hL.le _ _ hx
 have hd : L.getD g.f 0 = x := by simp [List.getD, hx]
 rw [hd]
 exact decide_eq_true (by omega)
def TotJ (N v p1 p5 bl : Nat) (L : List Nat) (cs : List GE) (nx : Nat) (h : Hp) (m : Nat) (vs : List Value) (h' : Hp) (nx' : Nat) : Prop :=
 ∃ u, m = N - u ∧ u ≤ N ∧ vs = [.int .i64 (v : Int), .pointer (some ⟨p1, 0, none⟩), .pointer (some ⟨p5, 0, none⟩), .int .i64 ((cntB L cs u : Nat) : Int), .slice (some ⟨bl, 0, some 1⟩) N N, .int .i64 (u : Int)] ∧ Keep nx h h' ∧ nx ≤ nx'
theorem SlPx.of3 {h : Hp} {nx : Nat} {v : Value} {l : List GE} (hs : SlPx h nx v encG l) : SlPx h nx v enc3 (l.map ofG) := by
 obtain ⟨a, cap, hv, hc⟩ := hs
 refine ⟨a, cap, by rw [List.length_map]; exact hv, fun hl => ?_⟩
 obtain ⟨b, sp, ro, cs, hb, ha, hg⟩ := hc (fun h0 => hl (by rw [h0]; rfl))
 exact ⟨b, sp, ro, cs, hb, ha, by rw [flat_ofG]; exact hg⟩
theorem rightV_of {N : Nat} {l : List GE} (hN : N ≤ 4096) (hl : l.length ≤ 65536) (hok : ∀ g ∈ l, GOk N g) : RightV (N : Int) (l.map ofG) := by
 refine ⟨by omega, by omega, by rw [List.length_map]; exact hl, fun e he => ?_, fun e he => ?_⟩ <;> obtain ⟨g, hg, rfl⟩ := List.mem_map.1 he <;> obtain ⟨h1, h2, h3, h4⟩ := hok g hg
 ·unfold BadE ofG; simp only; omega
 ·unfold BadW ofG; simp only; omega
theorem cparts_cv {s : Bool} {n v : Int} {ve : Value} {es : List Edg3} {h : Hp} {nx : Nat} (hv : SlPx h nx ve enc3 es) : Cv Q O s 8 [.agg ⟨[.int .i64 n, ve]⟩, .int .i64 v] h nx TrueK := by
 refine cpartsv ?_
 obtain ⟨a, cap, rfl, hc⟩ := id hv
 have live_o : ∀ {s : Bool} {h : Hp} {nx : Nat} {K : KC'}, K (.bool true) h nx → Cv Q O s 10 [] h nx K := fun hk => live_cv rfl hk
 unfold cparts
 have K1 : ∀ {o}, Keep nx h (hset h nx o) := (Keep.refl _ _).set (Nat.le_refl _)
 have lv : cpartsk2 s TrueK (.int .i64 v) (.pointer (some ⟨nx, 0, none⟩)) (.bool true) (hset h nx (.cells [.int .i64 n, .slice a es.length cap] false)) (nx + 1) := by
  unfold cpartsk2
  simp (disch := omega) only [SS, ↓reduceIte, Nat.reduceAdd, Nat.reduceSub, Nat.reduceMul, Nat.reduceLT, Nat.reduceLeDiff, Nat.reduceEqDiff, Int.reduceBEq, Int.reduceLT, Int.reduceNeg]
  exact live_o rfl
 have main : (RightV n es → es.length ≤ 60) → cpartsk2 s TrueK (.int .i64 v) (.pointer (some ⟨nx, 0, none⟩)) (.bool false) (hset h nx (.cells [.int .i64 n, .slice a es.length cap] false)) (nx + 1) := by
  intro hl
  have hv1 := hv.keep (nx' := nx + 1) (K1 (o := .cells [.int .i64 n, .slice a es.length cap] false)) (Nat.le_succ _)
  generalize hH : hset h nx (.cells [.int .i64 n, .slice a es.length cap] false) = H at hv1 ⊢
  have g0 : hget H nx = some (.cells [.int .i64 n, .slice a es.length cap] false) := by rw [← hH]; exact hnew _ _ _
  unfold cpartsk2
  simp (disch := omega) only [SS, ↓reduceIte, Nat.reduceAdd, Nat.reduceSub, Nat.reduceMul, Nat.reduceLT, Nat.reduceLeDiff, Nat.reduceEqDiff, Int.reduceBEq, Int.reduceLT, Int.reduceNeg, g0]
  refine (part_c hv1 hl).mono ?_
  rintro r h1 nx1 ⟨n', ve', rfl, hk1, hle1, hP⟩
  have g1 := (hk1 nx (by omega)).trans g0
  obtain ⟨a', k', c', rfl⟩ : ∃ a k c, ve' = .slice a k c := by
   rcases hP with ⟨_, _, rfl⟩ | ⟨_, _, N, L, cs, _, _, _, _, _, hs⟩
   ·exact ⟨_, _, _, rfl⟩
   ·obtain ⟨a, c, e, _⟩ := hs; exact ⟨_, _, _, e⟩
  have k2 : ∀ {o o'}, Keep nx1 h1 (hset (hset h1 nx1 o) nx1 o') := ((Keep.refl _ _).set (Nat.le_refl _)).set (Nat.le_refl _)
  simp (disch := omega) only [SS, ↓reduceIte, Nat.reduceAdd, Nat.reduceSub, Nat.reduceMul, Nat.reduceLT, Nat.reduceLeDiff, Nat.reduceEqDiff, Int.reduceBEq, Int.reduceLT, Int.reduceNeg]
  refine live_o ?_
  simp (disch := omega) only [SS, ↓reduceIte, Nat.reduceAdd, Nat.reduceSub, Nat.reduceMul, Nat.reduceLT, Nat.reduceLeDiff, Nat.reduceEqDiff, Int.reduceBEq, Int.reduceLT, Int.reduceNeg, g1]
  have hv2 := (hv1.keep hk1 hle1).keep (nx' := nx1 + 1) (k2 (o := .cells [.int .i64 0, .slice none 0 0] false) (o' := .cells [.int .i64 n', .slice a' k' c'] false)) (Nat.le_succ _)
  refine (rpart_c hv2 hl).mono ?_
  rintro r h3 nx3 ⟨n'', ve'', rfl, hk3, hle3, hP3⟩
  have g3 := (hk3 nx (by omega)).trans ((k2 nx (by omega)).trans g1)
  have g5 := hk3 nx1 (by omega)
  rw [hnew] at g5
  have hv3 := hv2.keep hk3 hle3
  simp (disch := omega) only [SS, ↓reduceIte, Nat.reduceAdd, Nat.reduceSub, Nat.reduceMul, Nat.reduceLT, Nat.reduceLeDiff, Nat.reduceEqDiff, Int.reduceBEq, Int.reduceLT, Int.reduceNeg, g5]
  refine ⟨hle3, ?_⟩
  have hv0 : v.toNat = v.toNat := rfl
  rcases hP with ⟨hno, rfl, e⟩ | ⟨hyes, rfl, N, L, cs, rfl, hL, hcan, hokc, hlenc, hs⟩
  ·obtain ⟨rfl, rfl, rfl⟩ : a' = none ∧ k' = 0 ∧ c' = 0 := by cases e; exact ⟨rfl, rfl, rfl⟩
   rcases hP3 with ⟨_, rfl, rfl⟩ | ⟨hy, _⟩
   case inr => exact absurd hy hno
   refine (smg_c (N := 0) (l := []) ⟨none, 0, rfl, fun h => absurd rfl h⟩ ⟨none, 0, rfl, fun h => absurd rfl h⟩ (by omega) (by simp) (by simp)).mono ?_
   rintro r h4 nx4 ⟨rfl, hk4, hle4⟩
   have g34 := (hk4 nx (by omega)).trans g3
   have g54 := (hk4 nx1 (by omega)).trans g5
   simp (disch := omega) only [SS, ↓reduceIte, Nat.reduceAdd, Nat.reduceSub, Nat.reduceMul, Nat.reduceLT, Nat.reduceLeDiff, Nat.reduceEqDiff, Int.reduceBEq, Int.reduceLT, Int.reduceNeg]
   refine ⟨hle4, ?_⟩
   unfold cpartsk1
   simp (disch := omega) only [SS, ↓reduceIte, Nat.reduceAdd, Nat.reduceSub, Nat.reduceMul, Nat.reduceLT, Nat.reduceLeDiff, Nat.reduceEqDiff, Int.reduceBEq, Int.reduceLT, Int.reduceNeg, g34]
   refine (rright_g (hv3.keep hk4 hle4)).mono ?_
   rintro r h6 nx6 ⟨e, rfl, he, hk6, hle6⟩
   have g36 := (hk6 nx (by omega)).trans g34
   have g56 := (hk6 nx1 (by omega)).trans g54
   have k0 : cpartsk0 s TrueK (.int .i64 v) (.pointer (some ⟨nx, 0, none⟩)) (.pointer (some ⟨nx1, 0, none⟩)) (.bool true) h6 nx6 := by
    unfold cpartsk0
    simp (disch := omega) only [SS, ↓reduceIte, Nat.reduceAdd, Nat.reduceSub, Nat.reduceMul, Nat.reduceLT, Nat.reduceLeDiff, Nat.reduceEqDiff, Int.reduceBEq, Int.reduceLT, Int.reduceNeg, g56, beq_self_eq_true]
    rfl
   simp (disch := omega) only [SS, ↓reduceIte, Nat.reduceAdd, Nat.reduceSub, Nat.reduceMul, Nat.reduceLT, Nat.reduceLeDiff, Nat.reduceEqDiff, Int.reduceBEq, Int.reduceLT, Int.reduceNeg, g36]
   refine ⟨fun _ => k0, fun h5 => ⟨fun _ => k0, fun h7 => ?_⟩⟩
   have he0 : e = 0 := by simpa using h5
   have h8 : ¬ v < n := fun h8 => hno ⟨he.1 he0, by omega, h8⟩
   rw [decide_eq_false h8]
   exact k0
  ·rcases hP3 with ⟨hno, _⟩ | ⟨_, rfl, N3, L3, cs3, eN, hL3, hcan3, _, _, hs3⟩
   ·exact absurd hyes hno
   have eN : N = N3 := by omega
   subst eN
   have := hL.unique hL3
   subst this
   have := gE_inj (hcan.unique hcan3)
   subst this
   obtain ⟨hr, hv00, hvN⟩ := hyes
   obtain ⟨u, rfl⟩ : ∃ u : Nat, v = (u : Int) := ⟨v.toNat, by omega⟩
   rw [Int.toNat_natCast] at hs hs3
   have hN : N ≤ 4096 := by have := hr.2.1; omega
   have hs' : SlPx h3 nx3 (.slice a' k' c') encG (cs.filter (keepP L u)) := (hs.keep (k2) (Nat.le_succ _)).keep hk3 hle3
   have hokf : ∀ g ∈ cs.filter (keepP L u), GOk N g := fun g hg => hokc g ((List.mem_filter.1 hg).1)
   have hl60 := hl hr
   have hlf : (cs.filter (keepP L u)).length ≤ 60 := Nat.le_trans (List.length_filter_le _ _) (by omega)
   refine (smg_c hs' hs3 hN hokf (by omega)).mono ?_
   rintro r h4 nx4 ⟨rfl, hk4, hle4⟩
   have g34 := (hk4 nx (by omega)).trans g3
   have g54 := (hk4 nx1 (by omega)).trans g5
   simp (disch := omega) only [SS, ↓reduceIte, Nat.reduceAdd, Nat.reduceSub, Nat.reduceMul, Nat.reduceLT, Nat.reduceLeDiff, Nat.reduceEqDiff, Int.reduceBEq, Int.reduceLT, Int.reduceNeg]
   refine ⟨hle4, ?_⟩
   unfold cpartsk1
   simp (disch := omega) only [SS, ↓reduceIte, Nat.reduceAdd, Nat.reduceSub, Nat.reduceMul, Nat.reduceLT, Nat.reduceLeDiff, Nat.reduceEqDiff, Int.reduceBEq, Int.reduceLT, Int.reduceNeg, g34]
   refine (rright_g (hv3.keep hk4 hle4)).mono ?_
   rintro r h6 nx6 ⟨e, rfl, he, hk6, hle6⟩
   have he0 := he.2 hr
   subst he0
   have g36 := (hk6 nx (by omega)).trans g34
   have g56 := (hk6 nx1 (by omega)).trans g54
   simp (disch := omega) only [SS, ↓reduceIte, Nat.reduceAdd, Nat.reduceSub, Nat.reduceMul, Nat.reduceLT, Nat.reduceLeDiff, Nat.reduceEqDiff, Int.reduceBEq, Int.reduceLT, Int.reduceNeg, g36]
   refine ⟨fun h => absurd h (by omega), fun _ => ?_⟩
   rw [decide_eq_true (show u < N by omega), Bool.not_true]
   unfold cpartsk0
   obtain ⟨N', eN', _, hfl, hG⟩ := hr.ges
   have eN' : N = N' := by omega
   subst eN'
   have hv6 := (hv3.keep hk4 hle4).keep hk6 hle6
   have hv6' := hv6.map hfl
   simp (disch := omega) only [SS, ↓reduceIte, Nat.reduceAdd, Nat.reduceSub, Nat.reduceMul, Nat.reduceLT, Nat.reduceLeDiff, Nat.reduceEqDiff, Int.reduceBEq, Int.reduceLT, Int.reduceNeg, g36]
   refine (rlabels_c hv6' (by omega) hN (by rw [List.length_map]; omega) hG).mono ?_
   rintro r h7 nx7 ⟨bl, L7, rfl, hbl, hL7, hb1, hb2, hk7, hle7⟩
   have := hL.unique hL7
   subst this
   have g37 := (hk7 nx (by omega)).trans g36
   have g57 := (hk7 nx1 (by omega)).trans g56
   have hv7 := hv6.keep hk7 hle7
   have hc0 := cntB_zero L cs
   refine Lp.mk (TotJ N u nx nx1 bl L cs nx7 h7) N ⟨0, by omega, by omega, by rw [hc0]; rfl, Keep.refl _ _, Nat.le_refl _⟩ ?_
   rintro _ _ h8 nx8 ⟨q, rfl, hq, rfl, hk8, hle8⟩
   have g38 := (hk8 nx (by omega)).trans g37
   have g58 := (hk8 nx1 (by omega)).trans g57
   have gl8 := (hk8 bl (by omega)).trans hbl
   have hv8 := hv7.keep hk8 hle8
   have hcle := cntB_le L cs q
   rw [cpartsb0]
   unfold cpartsl0
   simp (disch := omega) only [SS, ↓reduceIte, Nat.reduceAdd, Nat.reduceSub, Nat.reduceMul, Nat.reduceLT, Nat.reduceLeDiff, Nat.reduceEqDiff, Int.reduceBEq, Int.reduceLT, Int.reduceNeg, g38]
   refine ⟨fun hlt => ?_, fun hge => ?_⟩
   ·obtain ⟨y, hy⟩ := get_ex (l := L) (i := q) (by rw [hL.len]; exact hlt)
    have eq' : IntKind.wrap .i64 ((q : Int) + 1) = ((q + 1 : Nat) : Int) := wrap_s (by omega)
    have hsp := cnt_split (u := q) hL.len hokc
    simp (disch := omega) only [SS, ↓reduceIte, Nat.reduceAdd, Nat.reduceSub, Nat.reduceMul, Nat.reduceLT, Nat.reduceLeDiff, Nat.reduceEqDiff, Int.reduceBEq, Int.reduceLT, Int.reduceNeg, gl8, nat_get hy, eq']
    refine ⟨fun hyq => ?_, fun hyq => ?_⟩
    ·have hyq : y = q := by
      have h2 : (y : Int) = (q : Int) := by simpa using hyq
      omega
     subst hyq
     refine (part_c hv8 hl).mono ?_
     rintro r h9 nx9 ⟨n9, ve9, rfl, hk9, hle9, hP9⟩
     rcases hP9 with ⟨hno, _⟩ | ⟨_, rfl, N9, L9, cs9, eN9, hL9, hcan9, _, _, hs9⟩
     ·exact absurd ⟨hr, by omega, by omega⟩ hno
     have eN9 : N = N9 := by omega
     subst eN9
     have := hL.unique hL9
     subst this
     have := gE_inj (hcan.unique hcan9)
     subst this
     obtain ⟨a9, c9, rfl, _⟩ := hs9
     have hrt := cnt_root (cs := cs) hL hy
     rw [Int.toNat_natCast] at *
     have hcl2 := cntB_le L cs (y + 1)
     have ew : IntKind.wrap .i64 (((cntB L cs y : Nat) : Int) + (((cs.filter (keepP L y)).length : Nat) : Int)) = ((cntB L cs (y + 1) : Nat) : Int) := by
      rw [hrt] at hsp
      rw [wrapS (by omega) (by omega)]; omega
     simp (disch := omega) only [SS, ↓reduceIte, Nat.reduceAdd, Nat.reduceSub, Nat.reduceMul, Nat.reduceLT, Nat.reduceLeDiff, Nat.reduceEqDiff, Int.reduceBEq, Int.reduceLT, Int.reduceNeg, ew]
     exact ⟨N - (y + 1), by omega, y + 1, by omega, hlt, rfl, hk8.trans hk9 hle8, by omega⟩
    ·have hyq : y ≠ q := fun e => by subst e; simp at hyq
     have h0 := cnt_no (cs := cs) hL hy hyq
     have hsp2 : cntB L cs (q + 1) = cntB L cs q := by omega
     exact ⟨N - (q + 1), by omega, q + 1, by omega, hlt, by rw [hsp2], hk8, hle8⟩
   ·have hqN : q = N := by omega
    subst hqN
    have hall := cnt_all hL hokc
    refine (rcanon_c (hv8.map hfl) hN hG (by rw [List.length_map]; omega)).mono ?_
    rintro r h9 nx9 ⟨v9, cs9, rfl, hcs9, hcan9, _, _, hk9, hle9⟩
    have := gE_inj (hcan.unique hcan9)
    subst this
    obtain ⟨a9, c9, rfl, _⟩ := hcs9
    have g59 := (hk9 nx1 (by omega)).trans g58
    simp (disch := omega) only [SS, ↓reduceIte, Nat.reduceAdd, Nat.reduceSub, Nat.reduceMul, Nat.reduceLT, Nat.reduceLeDiff, Nat.reduceEqDiff, Int.reduceBEq, Int.reduceLT, Int.reduceNeg, hall, beq_self_eq_true, g59]
    refine ⟨hle9, ?_⟩
    have hs9 := ((((hs'.keep hk4 hle4).keep hk6 hle6).keep hk7 hle7).keep hk8 hle8).keep hk9 hle9
    have hs93 := hs9.of3
    have hR2 : RightV (q : Int) ((cs.filter (keepP L u)).map ofG) := rightV_of hN (by omega) hokf
    refine (part_c hs93 (fun _ => by rw [List.length_map]; exact hlf)).mono ?_
    rintro r h10 nx10 ⟨n10, ve10, rfl, hk10, hle10, hP10⟩
    rcases hP10 with ⟨hno, _⟩ | ⟨_, rfl, N10, L10, cs10, eN10, hL10, hcan10, _, _, hs10⟩
    ·exact absurd ⟨hR2, by omega, by omega⟩ hno
    have eN10 : q = N10 := by omega
    subst eN10
    rw [toG_ofG] at hL10 hcan10
    have hup : ((cs.filter (keepP L u)).map gE).Pairwise Ltp := hcan.up.sublist (List.Sublist.map gE List.filter_sublist)
    have := gE_inj ((IsCan.self hup).unique hcan10)
    subst this
    rw [Int.toNat_natCast, part_part hL hcan hokc (by omega) hL10] at hs10
    have g510 := (hk10 nx1 (by omega)).trans g59
    simp (disch := omega) only [SS, ↓reduceIte, Nat.reduceAdd, Nat.reduceSub, Nat.reduceMul, Nat.reduceLT, Nat.reduceLeDiff, Nat.reduceEqDiff, Int.reduceBEq, Int.reduceLT, Int.reduceNeg, g510]
    refine ⟨hle10, (smg_c hs10 (hs9.keep hk10 hle10) hN hokf (by omega)).mono ?_⟩
    rintro r h11 nx11 ⟨rfl, hk11, hle11⟩
    exact ⟨hle11, rfl⟩
 simp (disch := omega) only [SS, ↓reduceIte, Nat.reduceAdd, Nat.reduceSub, Nat.reduceMul, Nat.reduceLT, Nat.reduceLeDiff, Nat.reduceEqDiff, Int.reduceBEq, Int.reduceLT, Int.reduceNeg]
 have vac : 65536 < (es.length : Int) → RightV n es → es.length ≤ 60 := fun h1 hr => by have := hr.2.2.1; omega
 have dec : (RightV n es → es.length ≤ 60) → cpartsk2 s TrueK (.int .i64 v) (.pointer (some ⟨nx, 0, none⟩)) (.bool (!decide (4096 < n))) (hset h nx (.cells [.int .i64 n, .slice a es.length cap] false)) (nx + 1) := fun hl => by
  by_cases h1 : 4096 < n
  ·rw [decide_eq_true h1]; exact main hl
  ·rw [decide_eq_false h1]; exact lv
 refine ⟨fun h1 => ⟨fun _ => lv, fun h2 => ⟨fun _ => dec (vac h2), fun _ => main (vac h2)⟩⟩, fun h1 => ⟨fun _ => dec (fun _ => by omega), fun _ => main (fun _ => by omega)⟩⟩
open Go.ChangeShapes Go.WideShapes Go.ChangeAt Go.RowKit
theorem live29_ok : OrcAt Tryz.prog 10 gLive := live_eq pok orcLive_ok live29
theorem O_ok : OrcOk Tryz.prog O := fun f g h => by
 unfold O at h
 cases h1 : Nat.beq f 10 with
 | true =>
  have e := Nat.eq_of_beq_eq_true h1
  subst e
  rw [h1] at h
  cases h
  exact live29_ok
 | false =>
  rw [h1] at h
  cases h2 : Nat.beq f 68 with
  | true =>
   have e := Nat.eq_of_beq_eq_true h2
   subst e
   rw [h2] at h
   cases h
   exact combF_ok
  | false => rw [h2] at h; cases h
theorem ct24 : Tryz.prog.cellTypes Tryz.prog.depth 24 = some [3, 22] := by kernel_rfl
theorem open_graph {H : Type} {enc : TypeId × Value → H} {w : World} {sp : Nat → Bool} {r : Reach} {b0 : Nat} {v : Value} {d : DataW H} {ps : List MemPlace} (hval : Value.okWide Tryz.prog w r b0 24 v) (h : DataW.Trod enc Tryz.prog w 0 sp true 24 v d ps) :
  ∃ (n : Int) (sl : Value) (zs : List Edg3), v = .agg ⟨[.int .i64 n, sl]⟩ ∧ ((zs = [] ∧ sl = .slice none 0 0) ∨ ∃ b off cap, sl = .slice (some ⟨b, off, none⟩) zs.length cap ∧ LiesAt w b off (flat enc3 zs)) := by
 unfold Value.okWide at hval
 rw [u24] at hval
 obtain ⟨cs, rfl, hsz, ts, hts, _, hcell⟩ := hval
 rw [ct24] at hts
 cases hts
 rw [n24] at hsz
 obtain ⟨l⟩ := cs
 match l, hsz with
 | [a, b], _ =>
  obtain ⟨fuel, hf⟩ := h
  have hf : DataW.trod enc Tryz.prog w 0 sp true fuel 24 [a, b] = some (d, ps) := hf
  obtain ⟨xs', n', rfl, _, _, hxl', hall'⟩ := DataW.trod_struct u24 hf
  have hxl' : xs'.length = 2 := hxl'
  have get' : ∀ (i : Nat) (fd : Field), #[fN, fEdges][i]? = some fd → ∃ y, DataW.trod enc Tryz.prog w 0 sp true n' fd.type (([a, b].drop fd.offset).take (Tryz.prog.cellsOf fd.type)) = some y := fun i fd hfd => by
   have hi : i < 2 := (Array.getElem?_eq_some_iff.1 hfd).1
   exact ⟨xs'[i]'(by omega), by rw [hall' i fd hfd, List.getElem?_eq_getElem]⟩
  obtain ⟨z0, k0⟩ := get' 0 fN rfl
  obtain ⟨z1, k1⟩ := get' 1 fEdges rfl
  rw [show fN.type = 3 from rfl, show fN.offset = 0 from rfl, c3] at k0
  rw [show fEdges.type = 22 from rfl, show fEdges.offset = 1 from rfl, n22] at k1
  obtain ⟨N, rfl⟩ := field_int u3 k0
  obtain ⟨u, hu, hok⟩ := hcell 1 b rfl
  cases hu
  obtain ⟨zs, _, hz⟩ := open_sl (e3 := enc3) (k := 3) u22 n52 (fun _ => True) (fun n c y hy => by obtain ⟨e, he, _⟩ := trod_tri tri52 hy; exact ⟨e, he, trivial⟩) k1 hok
  exact ⟨N, b, zs, rfl, hz⟩
theorem walkCP {n v : Int} {sl : Value} {zs : List Edg3} {W : World} (hz : (zs = [] ∧ sl = .slice none 0 0) ∨ ∃ b off cap, sl = .slice (some ⟨b, off, none⟩) zs.length cap ∧ LiesAt W b off (flat enc3 zs)) :
  Calls Tryz.prog 8 #[.agg ⟨[.int .i64 n, sl]⟩, .int .i64 v] W fun e w' => e = .returned (.bool true) ∧ Below W.heap.size W w' := by
 obtain ⟨h1, h2, h3⟩ := in_one (e3 := enc3) (fun _ => rfl) hz
 exact callsIn_wide.1 (run_ok (n := 0) pok O_ok (cparts_cv (n := n) (v := v) (SlPx.of h3)) (in_rel h1) (in_fr _) (.cons (.agg (.cons (.int _ _) (.cons h2 .nil))) (.cons (.int _ _) .nil)))
end Go.Proofs.YtenkechjalngcaaGreat
