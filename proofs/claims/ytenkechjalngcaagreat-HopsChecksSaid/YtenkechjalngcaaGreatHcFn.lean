/- Parts of the proof: HcFn: each statement bears its own conditions. -/
import Derived.Test.YtenkechjalngcaaGreatHcFacts
namespace Go.Proofs.YtenkechjalngcaaGreat
open Go Go.Ax
set_option linter.unusedVariables false
set_option linter.unusedSimpArgs false
set_option maxRecDepth 1000000
noncomputable abbrev Q : Program := Tryz.prog
def O : Orc := fun f => bif Nat.beq f 27 then some gLive else bif Nat.beq f 68 then some gCombF else none
def canonL : List (List Nat) := []
def canon (s : Bool) (t0 : Value) (h : Hp) (nx : Nat) (K : KC') : Prop := AR (cellsNB (vcells t0)) h nx fun p1 h2 n3 => AR (.ok (.ptr (.cells [(.int .i64 0), (.slice none 0 0)] false))) h2 n3 fun p4 h5 n6 => RK (vFldA 1 p1) fun x7 => RK (vLd none h5 x7) fun x8 => Cv Q O s 68 [(.int .i64 1), x8] h5 n6 fun x9 h10 n11 => RK (oExtract x9 0) fun x12 => RK (oExtract x9 1) fun x13 => RK (vFldA 0 p1) fun x14 => RK (vLd none h10 x14) fun x15 => RK (vBld [(.int .i64 0), (.slice none 0 0)] [(0, 1, x15), (1, 1, x12)]) fun x16 => RK (vSt h10 2 p4 x16) fun h17 => RK (vLd (some 2) h17 p4) fun x18 => K x18 h17 n11
theorem canone {s : Bool} {t0 : Value} {h : Hp} {nx : Nat} {K : KC'} : fF Q O s canonL 56 [t0] h nx K = canon s t0 h nx K := by kernel_rfl
theorem canonv {s : Bool} {t0 : Value} {h : Hp} {nx : Nat} {K : KC'} (w : canon s t0 h nx K) : Cv Q O s 56 [t0] h nx K := Cv.byF canonL rfl (by rw [canone]; exact w)
def outsL : List (List Nat) := [[3, 11, 12, 13]]
def outsl0 (s : Bool) (a3 a11 a12 a13 : Value) (h : Hp) (nx : Nat) (N : KVl) (e0 : KVl) (R : KVl) : Prop := RK (bin Q .lss 3 a13 a12) fun x18 => IF x18 (RK (vIx (.slice 3) a11 a13) fun x19 => RK (vLd (some 3) h x19) fun x20 => AR (.ok (.ptr (.cells [(.int .i64 0), (.int .i64 0), (.int .i64 0)] false))) h nx fun p21 h22 n23 => RK (vSt h22 3 p21 x20) fun h24 => RK (vFldA 0 p21) fun x25 => RK (vLd none h24 x25) fun x26 => RK (vIx (.slice 1) a3 x26) fun x27 => RK (vLd none h24 x27) fun x28 => RK (vFldA 1 p21) fun x29 => RK (vLd none h24 x29) fun x30 => AR (vBsl 1 [(.int .i64 0)] [(0, 1, x30)]) h24 n23 fun p31 h32 n33 => EK (orR (appendA 1 h32 n33 x28 p31)) fun x34 h35 n36 => n33 ≤ n36 ∧ RK (vFldA 0 p21) fun x37 => RK (vLd none h35 x37) fun x38 => AGK (fun h => vLd none h x37) x38 (RK (vIx (.slice 1) a3 x38) fun x39 => RK (vSt h35 1 x39 x34) fun h40 => RK (bin Q .add 3 a13 (.int .i64 1)) fun x41 => N [a3, a11, a12, x41] h40 n36) 1 [h24]) (e0 [a3, a11, a12, a13] h nx)
def outs (s : Bool) (t0 : Value) (h : Hp) (nx : Nat) (K : KC') : Prop := AR (cellsNB (vcells t0)) h nx fun p1 h2 n3 => RK (vFldA 0 p1) fun x4 => RK (vLd none h2 x4) fun x5 => AR (vMks [(.slice none 0 0)] x5 x5) h2 n3 fun p6 h7 n8 => RK (vLd (some 2) h7 p1) fun x9 => Cv Q O s 56 [x9] h7 n8 fun x10 h11 n12 => RK (cFld 1 none x10) fun x13 => RK (lenS x13) fun x14 => Lp (fL Q O s outsL 66 0) [p6, x13, x14, (.int .i64 0)] h11 n12 [(0, fun v17 h15 n16 => K (nv v17 0) h15 n16)] (fun _ _ _ => False)
theorem outsb0 {s : Bool} {a3 a11 a12 a13 : Value} {h : Hp} {nx : Nat} {N e0 R : KVl} : fL Q O s outsL 66 0 [a3, a11, a12, a13] h nx N [(0, e0)] R = outsl0 s a3 a11 a12 a13 h nx N e0 R := by kernel_rfl
theorem outse {s : Bool} {t0 : Value} {h : Hp} {nx : Nat} {K : KC'} : fF Q O s outsL 66 [t0] h nx K = outs s t0 h nx K := by kernel_rfl
theorem outsv {s : Bool} {t0 : Value} {h : Hp} {nx : Nat} {K : KC'} (w : outs s t0 h nx K) : Cv Q O s 66 [t0] h nx K := Cv.byF outsL rfl (by rw [outse]; exact w)
def foundL : List (List Nat) := [[1, 2, 4, 5, 12, 13], [4, 5, 6, 7], [4, 5, 6, 7, 8, 44, 45, 46]]
def foundl0 (s : Bool) (a1 a2 a4 a5 a12 a13 : Value) (h : Hp) (nx : Nat) (N : KVl) (e0 : KVl) (R : KVl) : Prop := RK (bin Q .lss 3 a13 a12) fun x9 => IF x9 (AR (vBsl 1 [(.int .i64 0)] [(0, 1, (.int .i64 (-1)))]) h nx fun p10 h11 n12 => EK (orR (appendA 1 h11 n12 a4 p10)) fun x13 h14 n15 => AR (vBsl 1 [(.int .i64 0)] [(0, 1, (.int .i64 (-1)))]) h14 n15 fun p16 h17 n18 => EK (orR (appendA 1 h17 n18 a5 p16)) fun x19 h20 n21 => RK (bin Q .add 3 a13 (.int .i64 1)) fun x22 => N [a1, a2, x13, x19, a12, x22] h20 n21) (e0 [a1, a2, a4, a5, a12, a13] h nx)
def foundk0 (s : Bool) (N : KVl) (e4 : KVl) (R : KVl) (y4 y5 y6 y7 y8 y44 y45 y46 : Value) (h0 : Hp) (n0 : Nat) : Prop := RK (bin Q .add 3 y46 (.int .i64 1)) fun x78 => N [y4, y5, y6, y7, y8, y44, y45, x78] h0 n0
def foundl2 (s : Bool) (a4 a5 a6 a7 a8 a44 a45 a46 : Value) (h : Hp) (nx : Nat) (N : KVl) (e4 : KVl) (R : KVl) : Prop := RK (bin Q .lss 3 a46 a45) fun x48 => IF x48 (RK (vIx (.slice 1) a44 a46) fun x49 => RK (vLd none h x49) fun x50 => RK (vIx (.slice 1) a4 x50) fun x51 => RK (vLd none h x51) fun x52 => RK (bin Q .lss 2 x52 (.int .i64 0)) fun x53 => IF x53 (RK (vIx (.slice 1) a4 a8) fun x54 => RK (vLd none h x54) fun x55 => RK (bin Q .add 2 x55 (.int .i64 1)) fun x56 => RK (vIx (.slice 1) a4 x50) fun x57 => RK (vSt h 1 x57 x56) fun h58 => RK (vIx (.slice 1) a5 x50) fun x59 => RK (vSt h58 1 x59 a8) fun h60 => AR (vBsl 1 [(.int .i64 0)] [(0, 1, x50)]) h60 nx fun p61 h62 n63 => EK (orR (appendA 1 h62 n63 a7 p61)) fun x64 h65 n66 => (foundk0 s N e4 R a4 a5 a6 x64 a8 a44 a45 a46 h65 n66)) (RK (vIx (.slice 1) a4 x50) fun x67 => RK (vLd none h x67) fun x68 => RK (vIx (.slice 1) a4 a8) fun x69 => RK (vLd none h x69) fun x70 => RK (bin Q .add 2 x70 (.int .i64 1)) fun x71 => RK (bin Q .eql 2 x68 x71) fun x72 => IF x72 (RK (vIx (.slice 1) a5 x50) fun x73 => RK (vLd none h x73) fun x74 => RK (min2 true x74 a8) fun x75 => RK (vIx (.slice 1) a5 x50) fun x76 => RK (vSt h 1 x76 x75) fun h77 => (foundk0 s N e4 R a4 a5 a6 a7 a8 a44 a45 a46 h77 nx)) ((foundk0 s N e4 R a4 a5 a6 a7 a8 a44 a45 a46 h nx)))) (e4 [a4, a5, a6, a7, a8, a44, a45, a46] h nx)
def foundl1 (s : Bool) (a4 a5 a6 a7 : Value) (h : Hp) (nx : Nat) (N : KVl) (e2 : KVl) (R : KVl) : Prop := RK (lenS a7) fun x35 => RK (bin Q .eql 3 x35 (.int .i64 0)) fun x36 => IF x36 (e2 [a4, a5, a6, a7] h nx) (RK (vIx (.slice 1) a7 (.int .i64 0)) fun x37 => RK (vLd none h x37) fun x38 => RK (lenS a7) fun x39 => RK (lenS a7) fun x40 => RK (vSl 1 a7 (some (.int .i64 1)) (some x39) (some x40)) fun x41 => RK (vIx (.slice 1) a6 x38) fun x42 => RK (vLd none h x42) fun x43 => RK (lenS x43) fun x44 => Lp (fL Q O s foundL 51 2) [a4, a5, a6, x41, x38, x43, x44, (.int .i64 0)] h nx [(4, fun v47 h45 n46 => N [(nv v47 0), (nv v47 1), (nv v47 2), (nv v47 3)] h45 n46)] (fun _ _ _ => False))
def found (s : Bool) (t0 t1 : Value) (h : Hp) (nx : Nat) (K : KC') : Prop := AR (cellsNB (vcells t0)) h nx fun p1 h2 n3 => RK (vFldA 0 p1) fun x4 => RK (vLd none h2 x4) fun x5 => Lp (fL Q O s foundL 51 0) [t1, p1, (.slice none 0 0), (.slice none 0 0), x5, (.int .i64 0)] h2 n3 [(0, fun v8 h6 n7 => RK (vLd (some 2) h6 (nv v8 1)) fun x23 => Cv Q O s 66 [x23] h6 n7 fun x24 h25 n26 => RK (vIx (.slice 1) (nv v8 2) (nv v8 0)) fun x27 => RK (vSt h25 1 x27 (.int .i64 0)) fun h28 => AR (vBsl 1 [(.int .i64 0)] [(0, 1, (nv v8 0))]) h28 n26 fun p29 h30 n31 => Lp (fL Q O s foundL 51 1) [(nv v8 2), (nv v8 3), x24, p29] h30 n31 [(2, fun v34 h32 n33 => K (.tuple ⟨[(nv v34 0), (nv v34 1)]⟩) h32 n33)] (fun _ _ _ => False))] (fun _ _ _ => False)
theorem foundb0 {s : Bool} {a1 a2 a4 a5 a12 a13 : Value} {h : Hp} {nx : Nat} {N e0 R : KVl} : fL Q O s foundL 51 0 [a1, a2, a4, a5, a12, a13] h nx N [(0, e0)] R = foundl0 s a1 a2 a4 a5 a12 a13 h nx N e0 R := by kernel_rfl
theorem foundb2 {s : Bool} {a4 a5 a6 a7 a8 a44 a45 a46 : Value} {h : Hp} {nx : Nat} {N e4 R : KVl} : fL Q O s foundL 51 2 [a4, a5, a6, a7, a8, a44, a45, a46] h nx N [(4, e4)] R = foundl2 s a4 a5 a6 a7 a8 a44 a45 a46 h nx N e4 R := by kernel_rfl
theorem foundb1 {s : Bool} {a4 a5 a6 a7 : Value} {h : Hp} {nx : Nat} {N e2 R : KVl} : fL Q O s foundL 51 1 [a4, a5, a6, a7] h nx N [(2, e2)] R = foundl1 s a4 a5 a6 a7 h nx N e2 R := by kernel_rfl
theorem founde {s : Bool} {t0 t1 : Value} {h : Hp} {nx : Nat} {K : KC'} : fF Q O s foundL 51 [t0, t1] h nx K = found s t0 t1 h nx K := by kernel_rfl
theorem foundv {s : Bool} {t0 t1 : Value} {h : Hp} {nx : Nat} {K : KC'} (w : found s t0 t1 h nx K) : Cv Q O s 51 [t0, t1] h nx K := Cv.byF foundL rfl (by rw [founde]; exact w)
def eq64L : List (List Nat) := [[0, 1, 4, 12, 13]]
def eq64l0 (s : Bool) (a0 a1 a4 a12 a13 : Value) (h : Hp) (nx : Nat) (N : KVl) (e0 : KVl) (R : KVl) : Prop := RK (bin Q .lss 3 a13 a12) fun x11 => IF x11 (RK (vIx (.slice 1) a0 a13) fun x12 => RK (vLd none h x12) fun x13 => RK (vIx (.slice 1) a1 a13) fun x14 => RK (vLd none h x14) fun x15 => RK (bin Q .neq 2 x13 x15) fun x16 => IF x16 (R [a0, a1, (.bool false), a12, a13] h nx) (RK (bin Q .add 3 a13 (.int .i64 1)) fun x17 => N [a0, a1, a4, a12, x17] h nx)) (e0 [a0, a1, a4, a12, a13] h nx)
def eq64 (s : Bool) (t0 t1 : Value) (h : Hp) (nx : Nat) (K : KC') : Prop := RK (lenS t0) fun x1 => RK (lenS t1) fun x2 => RK (bin Q .neq 3 x1 x2) fun x3 => IF x3 (K (.bool false) h nx) (RK (lenS t0) fun x4 => Lp (fL Q O s eq64L 52 0) [t0, t1, (.bool false), x4, (.int .i64 0)] h nx [(0, fun v7 h5 n6 => K (.bool true) h5 n6)] (fun v10 h8 n9 => K (nv v10 2) h8 n9))
theorem eq64b0 {s : Bool} {a0 a1 a4 a12 a13 : Value} {h : Hp} {nx : Nat} {N e0 R : KVl} : fL Q O s eq64L 52 0 [a0, a1, a4, a12, a13] h nx N [(0, e0)] R = eq64l0 s a0 a1 a4 a12 a13 h nx N e0 R := by kernel_rfl
theorem eq64e {s : Bool} {t0 t1 : Value} {h : Hp} {nx : Nat} {K : KC'} : fF Q O s eq64L 52 [t0, t1] h nx K = eq64 s t0 t1 h nx K := by kernel_rfl
theorem eq64v {s : Bool} {t0 t1 : Value} {h : Hp} {nx : Nat} {K : KC'} (w : eq64 s t0 t1 h nx K) : Cv Q O s 52 [t0, t1] h nx K := Cv.byF eq64L rfl (by rw [eq64e]; exact w)
def hchkL : List (List Nat) := []
def hchkk0 (s : Bool) (K : KC') (y1 y2 y3 y4 y23 : Value) (h0 : Hp) (n0 : Nat) : Prop := IF y23 (K (.bool false) h0 n0) (RK (vLd (some 2) h0 y4) fun x13 => Cv Q O s 51 [x13, y1] h0 n0 fun x14 h15 n16 => RK (oExtract x14 0) fun x17 => RK (oExtract x14 1) fun x18 => Cv Q O s 52 [x17, y2] h15 n16 fun x19 h20 n21 => IF x19 (Cv Q O s 52 [x18, y3] h20 n21 fun x22 h23 n24 => K x22 h23 n24) (K (.bool false) h20 n21))
def hchk (s : Bool) (t0 t1 t2 t3 : Value) (h : Hp) (nx : Nat) (K : KC') : Prop := AR (cellsNB (vcells t0)) h nx fun p1 h2 n3 => RK (vLd (some 2) h2 p1) fun x4 => Cv Q O s 47 [x4] h2 n3 fun x5 h6 n7 => RK (bin Q .neq 61 x5 (.int .i64 0)) fun x8 => IF x8 ((hchkk0 s K t1 t2 t3 p1 (.bool true) h6 n7)) (RK (bin Q .lss 3 t1 (.int .i64 0)) fun x9 => IF x9 ((hchkk0 s K t1 t2 t3 p1 (.bool true) h6 n7)) (RK (vFldA 0 p1) fun x10 => RK (vLd none h6 x10) fun x11 => RK (bin Q .geq 3 t1 x11) fun x12 => (hchkk0 s K t1 t2 t3 p1 x12 h6 n7)))
theorem hchke {s : Bool} {t0 t1 t2 t3 : Value} {h : Hp} {nx : Nat} {K : KC'} : fF Q O s hchkL 28 [t0, t1, t2, t3] h nx K = hchk s t0 t1 t2 t3 h nx K := by kernel_rfl
theorem hchkv {s : Bool} {t0 t1 t2 t3 : Value} {h : Hp} {nx : Nat} {K : KC'} (w : hchk s t0 t1 t2 t3 h nx K) : Cv Q O s 28 [t0, t1, t2, t3] h nx K := Cv.byF hchkL rfl (by rw [hchke]; exact w)
def makeL : List (List Nat) := []
def makek0 (s : Bool) (K : KC') (y1 y2 y6 : Value) (h0 : Hp) (n0 : Nat) : Prop := RK (vFldA 2 y1) fun x21 => RK (vLd none h0 x21) fun x22 => RK (vFldA 0 y6) fun x23 => RK (vLd none h0 x23) fun x24 => Cv Q O true 24 [x22, x24] h0 n0 fun x25 h26 n27 => n0 ≤ n27 ∧ RK (vLd (some 2) h26 y6) fun x28 => AGK (fun h => vLd (some 2) h y6) x28 (RK (vSt h26 2 y2 x28) fun h29 => RK (vFldA 3 y1) fun x30 => RK (vLd none h29 x30) fun x31 => AGK (fun h => vLd none h x30) x31 (RK (oConv (.int .i64) x31) fun x32 => RK (bin Q .rem 3 x32 (.int .i64 4)) fun x33 => RK (bin Q .add 3 x33 (.int .i64 1)) fun x34 => RK (vFldA 4 y1) fun x35 => RK (vLd none h29 x35) fun x36 => AGK (fun h => vLd none h x35) x36 (RK (oConv (.int .i64) x36) fun x37 => RK (bin Q .rem 3 x37 (.int .i64 4)) fun x38 => RK (bin Q .add 3 x38 (.int .i64 1)) fun x39 => RK (vLd (some 2) h29 y2) fun x40 => K (.tuple ⟨[x40, x25, x34, x39]⟩) h29 n27) 2 [h26, h0]) 2 [h26, h0]) 1 [h0]
def make (s : Bool) (t0 : Value) (h : Hp) (nx : Nat) (K : KC') : Prop := AR (cellsNB (vcells t0)) h nx fun p1 h2 n3 => AR (.ok (.ptr (.cells [(.int .i64 0), (.slice none 0 0)] false))) h2 n3 fun p4 h5 n6 => RK (vFldA 0 p1) fun x7 => RK (vLd (some 2) h5 x7) fun x8 => Cv Q O s 44 [x8] h5 n6 fun x9 h10 n11 => AR (.ok (.ptr (.cells [(.int .i64 0), (.slice none 0 0)] false))) h10 n11 fun p12 h13 n14 => RK (vSt h13 2 p12 x9) fun h15 => RK (vFldA 0 p12) fun x16 => RK (vLd none h15 x16) fun x17 => RK (bin Q .eql 3 x17 (.int .i64 0)) fun x18 => IF x18 (RK (vBld [(.int .i64 0), (.slice none 0 0)] [(0, 1, (.int .i64 1))]) fun x19 => RK (vSt h15 2 p12 x19) fun h20 => (makek0 s K p1 p4 p12 h20 n14)) ((makek0 s K p1 p4 p12 h15 n14))
theorem makee {s : Bool} {t0 : Value} {h : Hp} {nx : Nat} {K : KC'} : fF Q O s makeL 11 [t0] h nx K = make s t0 h nx K := by kernel_rfl
theorem makev {s : Bool} {t0 : Value} {h : Hp} {nx : Nat} {K : KC'} (w : make s t0 h nx K) : Cv Q O s 11 [t0] h nx K := Cv.byF makeL rfl (by rw [makee]; exact w)
def graphL : List (List Nat) := [[1, 2, 3, 4]]
def graphk0 (s : Bool) (N : KVl) (e0 : KVl) (R : KVl) (y1 y2 y3 y4 y23 : Value) (h0 : Hp) (n0 : Nat) : Prop := IF y23 (RK (vFldA 1 y1) fun x28 => RK (vLd none h0 x28) fun x29 => RK (vIx (.slice 3) x29 y4) fun x30 => RK (vLd (some 3) h0 x30) fun x31 => AR (.ok (.ptr (.cells [(.int .i64 0), (.int .i64 0), (.int .i64 0)] false))) h0 n0 fun p32 h33 n34 => RK (vSt h33 3 p32 x31) fun h35 => RK (vFldA 0 p32) fun x36 => RK (vLd none h35 x36) fun x37 => RK (vFldA 0 y3) fun x38 => RK (vLd none h35 x38) fun x39 => Cv Q O true 24 [x37, x39] h35 n34 fun x40 h41 n42 => n34 ≤ n42 ∧ RK (vFldA 1 p32) fun x43 => RK (vLd none h41 x43) fun x44 => AGK (fun h => vLd none h x43) x44 (RK (vFldA 0 y3) fun x45 => RK (vLd none h41 x45) fun x46 => AGK (fun h => vLd none h x45) x46 (Cv Q O true 24 [x44, x46] h41 n42 fun x47 h48 n49 => n42 ≤ n49 ∧ RK (vFldA 1 y3) fun x50 => RK (vLd none h48 x50) fun x51 => AGK (fun h => vLd none h x50) x51 (RK (vFldA 2 p32) fun x52 => RK (vLd none h48 x52) fun x53 => AGK (fun h => vLd none h x52) x53 (RK (bin Q .and 2 x53 (.int .i64 2147483647)) fun x54 => RK (vBld [(.int .i64 0), (.int .i64 0), (.int .i64 0)] [(0, 1, x40), (1, 1, x47), (2, 1, x54)]) fun x55 => AR (vBsl 1 [(.int .i64 0), (.int .i64 0), (.int .i64 0)] [(0, 3, x55)]) h48 n49 fun p56 h57 n58 => EK (orR (appendA 3 h57 n58 x51 p56)) fun x59 h60 n61 => n58 ≤ n61 ∧ RK (vFldA 1 y3) fun x62 => RK (vSt h60 1 x62 x59) fun h63 => RK (bin Q .add 3 y4 (.int .i64 1)) fun x64 => N [y1, y2, y3, x64] h63 n61) 2 [h41, h35]) 2 [h41, h35]) 1 [h35]) 1 [h35]) (e0 [y1, y2, y3, y4] h0 n0)
def graphl0 (s : Bool) (a1 a2 a3 a4 : Value) (h : Hp) (nx : Nat) (N : KVl) (e0 : KVl) (R : KVl) : Prop := RK (vFldA 1 a1) fun x20 => RK (vLd none h x20) fun x21 => RK (lenS x21) fun x22 => RK (bin Q .lss 3 a4 x22) fun x23 => IF x23 (RK (bin Q .lss 3 a4 (.int .i64 60)) fun x24 => IF x24 (RK (vFldA 0 a3) fun x25 => RK (vLd none h x25) fun x26 => RK (bin Q .gtr 3 x26 (.int .i64 0)) fun x27 => (graphk0 s N e0 R a1 a2 a3 a4 x27 h nx)) ((graphk0 s N e0 R a1 a2 a3 a4 (.bool false) h nx))) ((graphk0 s N e0 R a1 a2 a3 a4 (.bool false) h nx))
def graph (s : Bool) (t0 : Value) (h : Hp) (nx : Nat) (K : KC') : Prop := AR (cellsNB (vcells t0)) h nx fun p1 h2 n3 => AR (.ok (.ptr (.cells [(.int .i64 0), (.slice none 0 0)] false))) h2 n3 fun p4 h5 n6 => RK (vFldA 0 p1) fun x7 => RK (vLd none h5 x7) fun x8 => Cv Q O s 24 [x8, (.int .i64 24)] h5 n6 fun x9 h10 n11 => RK (vBld [(.int .i64 0), (.slice none 0 0)] [(0, 1, x9)]) fun x12 => AR (.ok (.ptr (.cells [(.int .i64 0), (.slice none 0 0)] false))) h10 n11 fun p13 h14 n15 => RK (vSt h14 2 p13 x12) fun h16 => Lp (fL Q O s graphL 44 0) [p1, p4, p13, (.int .i64 0)] h16 n15 [(0, fun v19 h17 n18 => RK (vLd (some 2) h17 (nv v19 2)) fun x65 => RK (vSt h17 2 (nv v19 1) x65) fun h66 => RK (vLd (some 2) h66 (nv v19 1)) fun x67 => K x67 h66 n18)] (fun _ _ _ => False)
theorem graphb0 {s : Bool} {a1 a2 a3 a4 : Value} {h : Hp} {nx : Nat} {N e0 R : KVl} : fL Q O s graphL 44 0 [a1, a2, a3, a4] h nx N [(0, e0)] R = graphl0 s a1 a2 a3 a4 h nx N e0 R := by kernel_rfl
theorem graphe {s : Bool} {t0 : Value} {h : Hp} {nx : Nat} {K : KC'} : fF Q O s graphL 44 [t0] h nx K = graph s t0 h nx K := by kernel_rfl
theorem graphv {s : Bool} {t0 : Value} {h : Hp} {nx : Nat} {K : KC'} (w : graph s t0 h nx K) : Cv Q O s 44 [t0] h nx K := Cv.byF graphL rfl (by rw [graphe]; exact w)
def withinL : List (List Nat) := []
def within (s : Bool) (t0 t1 : Value) (h : Hp) (nx : Nat) (K : KC') : Prop := RK (bin Q .lss 3 t1 (.int .i64 1)) fun x1 => IF x1 (K (.int .i64 0) h nx) (RK (bin Q .lss 3 t0 (.int .i64 0)) fun x2 => IF x2 (K (.int .i64 0) h nx) (RK (bin Q .rem 3 t0 t1) fun x4 => K x4 h nx))
theorem withine {s : Bool} {t0 t1 : Value} {h : Hp} {nx : Nat} {K : KC'} : fF Q O s withinL 24 [t0, t1] h nx K = within s t0 t1 h nx K := by kernel_rfl
theorem withinv {s : Bool} {t0 t1 : Value} {h : Hp} {nx : Nat} {K : KC'} (w : within s t0 t1 h nx K) : Cv Q O s 24 [t0, t1] h nx K := Cv.byF withinL rfl (by rw [withine]; exact w)
def rightL : List (List Nat) := []
def right (s : Bool) (t0 : Value) (h : Hp) (nx : Nat) (K : KC') : Prop := AR (cellsNB (vcells t0)) h nx fun p1 h2 n3 => RK (.ok (.func (.func 62) ⟨[]⟩ ⟨[p1]⟩)) fun x4 => AR (.ok (.ptr (.cells [.nilFunc] false))) h2 n3 fun p5 h6 n7 => RK (vSt h6 1 p5 x4) fun h8 => RK (vFldA 0 p1) fun x9 => RK (vLd none h8 x9) fun x10 => RK (bin Q .lss 3 x10 (.int .i64 0)) fun x11 => IF x11 (K (.int .i64 3) h8 n7) (RK (vFldA 0 p1) fun x12 => RK (vLd none h8 x12) fun x13 => RK (bin Q .gtr 3 x13 (.int .i64 4096)) fun x14 => IF x14 (K (.int .i64 5) h8 n7) (RK (vFldA 1 p1) fun x15 => RK (vLd none h8 x15) fun x16 => RK (lenS x16) fun x17 => RK (bin Q .gtr 3 x17 (.int .i64 65536)) fun x18 => IF x18 (K (.int .i64 5) h8 n7) (RK (vFldA 1 p1) fun x19 => RK (vLd none h8 x19) fun x20 => RK (.ok (.func (.func 64) ⟨[]⟩ ⟨[p5]⟩)) fun x21 => Cv Q O s 63 [x20, x21] h8 n7 fun x22 h23 n24 => IF x22 (K (.int .i64 3) h23 n24) (RK (vFldA 1 p1) fun x25 => RK (vLd none h23 x25) fun x26 => Cv Q O s 63 [x26, (.func (.func 65) #[] #[])] h23 n24 fun x27 h28 n29 => IF x27 (K (.int .i64 7) h28 n29) (K (.int .i64 0) h28 n29)))))
theorem righte {s : Bool} {t0 : Value} {h : Hp} {nx : Nat} {K : KC'} : fF Q O s rightL 47 [t0] h nx K = right s t0 h nx K := by kernel_rfl
theorem rightv {s : Bool} {t0 : Value} {h : Hp} {nx : Nat} {K : KC'} (w : right s t0 h nx K) : Cv Q O s 47 [t0] h nx K := Cv.byF rightL rfl (by rw [righte]; exact w)
def right1L : List (List Nat) := []
def right1 (s : Bool) (t0 t1 : Value) (h : Hp) (nx : Nat) (K : KC') : Prop := RK (bin Q .lss 3 t0 (.int .i64 0)) fun x1 => IF x1 (K (.bool true) h nx) (RK (vFldA 0 t1) fun x2 => RK (vLd none h x2) fun x3 => RK (bin Q .geq 3 t0 x3) fun x4 => K x4 h nx)
theorem right1e {s : Bool} {t0 t1 : Value} {h : Hp} {nx : Nat} {K : KC'} : fF Q O s right1L 62 [t0, t1] h nx K = right1 s t0 t1 h nx K := by kernel_rfl
theorem right1v {s : Bool} {t0 t1 : Value} {h : Hp} {nx : Nat} {K : KC'} (w : right1 s t0 t1 h nx K) : Cv Q O s 62 [t0, t1] h nx K := Cv.byF right1L rfl (by rw [right1e]; exact w)
def right2L : List (List Nat) := []
def right2 (s : Bool) (t0 t1 : Value) (h : Hp) (nx : Nat) (K : KC') : Prop := AR (cellsNB (vcells t0)) h nx fun p1 h2 n3 => RK (vLd none h2 t1) fun x4 => RK (vFldA 0 p1) fun x5 => RK (vLd none h2 x5) fun x6 => CVK Q O s (callV h2 n3 [x6] x4) fun x7 h8 n9 => IF x7 (K (.bool true) h8 n9) (RK (vLd none h8 t1) fun x10 => RK (vFldA 1 p1) fun x11 => RK (vLd none h8 x11) fun x12 => CVK Q O s (callV h8 n9 [x12] x10) fun x13 h14 n15 => K x13 h14 n15)
theorem right2e {s : Bool} {t0 t1 : Value} {h : Hp} {nx : Nat} {K : KC'} : fF Q O s right2L 64 [t0, t1] h nx K = right2 s t0 t1 h nx K := by kernel_rfl
theorem right2v {s : Bool} {t0 t1 : Value} {h : Hp} {nx : Nat} {K : KC'} (w : right2 s t0 t1 h nx K) : Cv Q O s 64 [t0, t1] h nx K := Cv.byF right2L rfl (by rw [right2e]; exact w)
def right3L : List (List Nat) := []
def right3 (s : Bool) (t0 : Value) (h : Hp) (nx : Nat) (K : KC') : Prop := AR (cellsNB (vcells t0)) h nx fun p1 h2 n3 => RK (vFldA 2 p1) fun x4 => RK (vLd none h2 x4) fun x5 => RK (bin Q .lss 2 x5 (.int .i64 0)) fun x6 => IF x6 (K (.bool true) h2 n3) (RK (vFldA 2 p1) fun x7 => RK (vLd none h2 x7) fun x8 => RK (bin Q .gtr 2 x8 (.int .i64 2147483647)) fun x9 => K x9 h2 n3)
theorem right3e {s : Bool} {t0 : Value} {h : Hp} {nx : Nat} {K : KC'} : fF Q O s right3L 65 [t0] h nx K = right3 s t0 h nx K := by kernel_rfl
theorem right3v {s : Bool} {t0 : Value} {h : Hp} {nx : Nat} {K : KC'} (w : right3 s t0 h nx K) : Cv Q O s 65 [t0] h nx K := Cv.byF right3L rfl (by rw [right3e]; exact w)
def contsL : List (List Nat) := []
def conts (s : Bool) (t0 t1 : Value) (h : Hp) (nx : Nat) (K : KC') : Prop := Cv Q O s 67 [t0, t1] h nx fun x1 h2 n3 => RK (bin Q .geq 3 x1 (.int .i64 0)) fun x4 => K x4 h2 n3
theorem contse {s : Bool} {t0 t1 : Value} {h : Hp} {nx : Nat} {K : KC'} : fF Q O s contsL 63 [t0, t1] h nx K = conts s t0 t1 h nx K := by kernel_rfl
theorem contsv {s : Bool} {t0 t1 : Value} {h : Hp} {nx : Nat} {K : KC'} (w : conts s t0 t1 h nx K) : Cv Q O s 63 [t0, t1] h nx K := Cv.byF contsL rfl (by rw [contse]; exact w)
def indexL : List (List Nat) := [[0, 1, 4, 7, 8]]
def indexl0 (s : Bool) (a0 a1 a4 a7 a8 : Value) (h : Hp) (nx : Nat) (N : KVl) (e0 : KVl) (R : KVl) : Prop := RK (bin Q .lss 3 a8 a7) fun x8 => IF x8 (RK (vIx (.slice 3) a0 a8) fun x9 => RK (vLd (some 3) h x9) fun x10 => CVK Q O s (callV h nx [x10] a1) fun x11 h12 n13 => IF x11 (R [a0, a1, a8, a7, a8] h12 n13) (RK (bin Q .add 3 a8 (.int .i64 1)) fun x14 => N [a0, a1, a4, a7, x14] h12 n13)) (e0 [a0, a1, a4, a7, a8] h nx)
def index (s : Bool) (t0 t1 : Value) (h : Hp) (nx : Nat) (K : KC') : Prop := RK (lenS t0) fun x1 => Lp (fL Q O s indexL 67 0) [t0, t1, (.int .i64 0), x1, (.int .i64 0)] h nx [(0, fun v4 h2 n3 => K (.int .i64 (-1)) h2 n3)] (fun v7 h5 n6 => K (nv v7 2) h5 n6)
theorem indexb0 {s : Bool} {a0 a1 a4 a7 a8 : Value} {h : Hp} {nx : Nat} {N e0 R : KVl} : fL Q O s indexL 67 0 [a0, a1, a4, a7, a8] h nx N [(0, e0)] R = indexl0 s a0 a1 a4 a7 a8 h nx N e0 R := by kernel_rfl
theorem indexe {s : Bool} {t0 t1 : Value} {h : Hp} {nx : Nat} {K : KC'} : fF Q O s indexL 67 [t0, t1] h nx K = index s t0 t1 h nx K := by kernel_rfl
theorem indexv {s : Bool} {t0 t1 : Value} {h : Hp} {nx : Nat} {K : KC'} (w : index s t0 t1 h nx K) : Cv Q O s 67 [t0, t1] h nx K := Cv.byF indexL rfl (by rw [indexe]; exact w)
def hchecksL : List (List Nat) := []
def hchecksk0 (s : Bool) (K : KC') (y2 y3 y7 y8 y30 : Value) (h0 : Hp) (n0 : Nat) : Prop := IF y30 (Cv Q O s 27 [] h0 n0 fun x15 h16 n17 => K x15 h16 n17) (RK (vLd (some 5) h0 y3) fun x18 => Cv Q O s 11 [x18] h0 n0 fun x19 h20 n21 => RK (oExtract x19 0) fun x22 => RK (oExtract x19 1) fun x23 => RK (oExtract x19 2) fun x24 => RK (oExtract x19 3) fun x25 => AR (.ok (.ptr (.cells [(.int .i64 0), (.slice none 0 0)] false))) h20 n21 fun p26 h27 n28 => RK (vSt h27 2 p26 x22) fun h29 => RK (vBld [(.int .i64 0), (.int .i64 0), (.slice none 0 0), (.slice none 0 0), (.slice none 0 0)] [(2, 1, y7), (3, 1, y8)]) fun x30 => Cv Q O s 35 [x30] h29 n28 fun x31 h32 n33 => RK (oExtract x31 0) fun x34 => RK (oExtract x31 1) fun x35 => Cv Q O s 36 [y7] h32 n33 fun x36 h37 n38 => RK (oExtract x36 0) fun x39 => RK (oExtract x36 1) fun x40 => Cv Q O s 37 [y7] h37 n38 fun x41 h42 n43 => RK (oExtract x41 0) fun x44 => RK (oExtract x41 1) fun x45 => Cv Q O true 27 [] h42 n43 fun x46 h47 n48 => n43 ≤ n48 ∧ IF x46 (RK (bin Q .eql 3 x39 x44) fun x49 => IF x49 (RK (bin Q .eql 2 x40 x45) fun x50 => IF x50 (RK (vLd (some 2) h47 p26) fun x51 => Cv Q O true 28 [x51, x23, y7, y8] h47 n48 fun x52 h53 n54 => n48 ≤ n54 ∧ RK (vLd (some 2) h53 p26) fun x55 => AGK (fun h => vLd (some 2) h p26) x55 (Cv Q O true 38 [x55, x23, y7, y8] h53 n54 fun x56 h57 n58 => n54 ≤ n58 ∧ RK (bin Q .eql 4 x52 x56) fun x59 => IF x59 (Cv Q O true 29 [y7, y8, y2] h57 n58 fun x60 h61 n62 => n58 ≤ n62 ∧ Cv Q O true 39 [y7, y8, y2] h61 n62 fun x63 h64 n65 => n62 ≤ n65 ∧ Cv Q O true 22 [x60, x63] h64 n65 fun x66 h67 n68 => n65 ≤ n68 ∧ IF x66 (Cv Q O true 40 [y7] h67 n68 fun x69 h70 n71 => n68 ≤ n71 ∧ Cv Q O true 41 [y7] h70 n71 fun x72 h73 n74 => n71 ≤ n74 ∧ Cv Q O true 22 [x69, x72] h73 n74 fun x75 h76 n77 => n74 ≤ n77 ∧ IF x75 (Cv Q O true 42 [x34, y7] h76 n77 fun x78 h79 n80 => n77 ≤ n80 ∧ IF x78 (Cv Q O true 42 [x35, y8] h79 n80 fun x81 h82 n83 => n80 ≤ n83 ∧ K x81 h82 n83) (K (.bool false) h79 n80)) (K (.bool false) h76 n77)) (K (.bool false) h67 n68)) (K (.bool false) h57 n58)) 1 [h47, h42]) (K (.bool false) h47 n48)) (K (.bool false) h47 n48)) (K (.bool false) h47 n48))
def hchecks (s : Bool) (t0 t1 t2 : Value) (h : Hp) (nx : Nat) (K : KC') : Prop := AR (cellsNB (vcells t0)) h nx fun p1 h2 n3 => AR (cellsNB (vcells t1)) h2 n3 fun p4 h5 n6 => RK (vIx (.array 2 1) p4 (.int .i64 0)) fun x7 => RK (vLd none h5 x7) fun x8 => RK (vIx (.array 2 1) p4 (.int .i64 1)) fun x9 => RK (vLd none h5 x9) fun x10 => RK (lenS x8) fun x11 => RK (bin Q .gtr 3 x11 (.int .i64 60)) fun x12 => IF x12 ((hchecksk0 s K t2 p1 x8 x10 (.bool true) h5 n6)) (RK (lenS x10) fun x13 => RK (bin Q .gtr 3 x13 (.int .i64 60)) fun x14 => (hchecksk0 s K t2 p1 x8 x10 x14 h5 n6))
theorem hcheckse {s : Bool} {t0 t1 t2 : Value} {h : Hp} {nx : Nat} {K : KC'} : fF Q O s hchecksL 9 [t0, t1, t2] h nx K = hchecks s t0 t1 t2 h nx K := by kernel_rfl
theorem hchecksv {s : Bool} {t0 t1 t2 : Value} {h : Hp} {nx : Nat} {K : KC'} (w : hchecks s t0 t1 t2 h nx K) : Cv Q O s 9 [t0, t1, t2] h nx K := Cv.byF hchecksL rfl (by rw [hcheckse]; exact w)
def toldL : List (List Nat) := []
def told (s : Bool) (t0 : Value) (h : Hp) (nx : Nat) (K : KC') : Prop := AR (cellsNB (vcells t0)) h nx fun p1 h2 n3 => RK (vFldA 2 p1) fun x4 => RK (vLd none h2 x4) fun x5 => Cv Q O true 59 [x5] h2 n3 fun x6 h7 n8 => n3 ≤ n8 ∧ RK (vFldA 3 p1) fun x9 => RK (vLd none h7 x9) fun x10 => AGK (fun h => vLd none h x9) x10 (Cv Q O true 59 [x10] h7 n8 fun x11 h12 n13 => n8 ≤ n13 ∧ K (.tuple ⟨[x6, x11]⟩) h12 n13) 1 [h2]
theorem tolde {s : Bool} {t0 : Value} {h : Hp} {nx : Nat} {K : KC'} : fF Q O s toldL 35 [t0] h nx K = told s t0 h nx K := by kernel_rfl
theorem toldv {s : Bool} {t0 : Value} {h : Hp} {nx : Nat} {K : KC'} (w : told s t0 h nx K) : Cv Q O s 35 [t0] h nx K := Cv.byF toldL rfl (by rw [tolde]; exact w)
def clone64L : List (List Nat) := []
def clone64 (s : Bool) (t0 : Value) (h : Hp) (nx : Nat) (K : KC') : Prop := RK (bin Q .eql 27 t0 (.slice none 0 0)) fun x1 => IF x1 (K (.slice none 0 0) h nx) (AR (vBsl 0 [] []) h nx fun p2 h3 n4 => EK (orR (appendA 1 h3 n4 p2 t0)) fun x5 h6 n7 => K x5 h6 n7)
theorem clone64e {s : Bool} {t0 : Value} {h : Hp} {nx : Nat} {K : KC'} : fF Q O s clone64L 59 [t0] h nx K = clone64 s t0 h nx K := by kernel_rfl
theorem clone64v {s : Bool} {t0 : Value} {h : Hp} {nx : Nat} {K : KC'} (w : clone64 s t0 h nx K) : Cv Q O s 59 [t0] h nx K := Cv.byF clone64L rfl (by rw [clone64e]; exact w)
def farL : List (List Nat) := [[2, 3, 6, 7, 8]]
def farl0 (s : Bool) (a2 a3 a6 a7 a8 : Value) (h : Hp) (nx : Nat) (N : KVl) (e0 : KVl) (R : KVl) : Prop := RK (bin Q .lss 3 a8 a7) fun x5 => IF x5 (RK (vIx (.slice 1) a6 a8) fun x6 => RK (vLd none h x6) fun x7 => RK (min2 false a3 (.int .i64 (-1))) fun x8 => RK (bin Q .gtr 2 x7 x8) fun x9 => IF x9 (RK (bin Q .add 3 a8 (.int .i64 1)) fun x12 => N [a8, x7, a6, a7, x12] h nx) (RK (bin Q .add 3 a8 (.int .i64 1)) fun x13 => N [a2, a3, a6, a7, x13] h nx)) (e0 [a2, a3, a6, a7, a8] h nx)
def far (s : Bool) (t0 : Value) (h : Hp) (nx : Nat) (K : KC') : Prop := RK (lenS t0) fun x1 => Lp (fL Q O s farL 36 0) [(.int .i64 (-1)), (.int .i64 (-1)), t0, x1, (.int .i64 0)] h nx [(0, fun v4 h2 n3 => K (.tuple ⟨[(nv v4 0), (nv v4 1)]⟩) h2 n3)] (fun _ _ _ => False)
theorem farb0 {s : Bool} {a2 a3 a6 a7 a8 : Value} {h : Hp} {nx : Nat} {N e0 R : KVl} : fL Q O s farL 36 0 [a2, a3, a6, a7, a8] h nx N [(0, e0)] R = farl0 s a2 a3 a6 a7 a8 h nx N e0 R := by kernel_rfl
theorem fare {s : Bool} {t0 : Value} {h : Hp} {nx : Nat} {K : KC'} : fF Q O s farL 36 [t0] h nx K = far s t0 h nx K := by kernel_rfl
theorem farv {s : Bool} {t0 : Value} {h : Hp} {nx : Nat} {K : KC'} (w : far s t0 h nx K) : Cv Q O s 36 [t0] h nx K := Cv.byF farL rfl (by rw [fare]; exact w)
def rfarL : List (List Nat) := [[0, 4, 5, 6]]
def rfark0 (s : Bool) (N : KVl) (e0 : KVl) (R : KVl) (y0 y4 y5 y6 : Value) (h0 : Hp) (n0 : Nat) : Prop := RK (bin Q .add 3 y6 (.int .i64 1)) fun x14 => N [y0, y4, y5, x14] h0 n0
def rfarl0 (s : Bool) (a0 a4 a5 a6 : Value) (h : Hp) (nx : Nat) (N : KVl) (e0 : KVl) (R : KVl) : Prop := RK (lenS a0) fun x4 => RK (bin Q .lss 3 a6 x4) fun x5 => IF x5 (RK (vIx (.slice 1) a0 a6) fun x6 => RK (vLd none h x6) fun x7 => RK (bin Q .geq 2 x7 (.int .i64 0)) fun x8 => IF x8 (RK (vIx (.slice 1) a0 a6) fun x9 => RK (vLd none h x9) fun x10 => RK (bin Q .gtr 2 x10 a5) fun x11 => IF x11 (RK (vIx (.slice 1) a0 a6) fun x12 => RK (vLd none h x12) fun x13 => (rfark0 s N e0 R a0 a6 x13 a6 h nx)) ((rfark0 s N e0 R a0 a4 a5 a6 h nx))) ((rfark0 s N e0 R a0 a4 a5 a6 h nx))) (e0 [a0, a4, a5, a6] h nx)
def rfar (s : Bool) (t0 : Value) (h : Hp) (nx : Nat) (K : KC') : Prop := Lp (fL Q O s rfarL 37 0) [t0, (.int .i64 (-1)), (.int .i64 (-1)), (.int .i64 0)] h nx [(0, fun v3 h1 n2 => K (.tuple ⟨[(nv v3 1), (nv v3 2)]⟩) h1 n2)] (fun _ _ _ => False)
theorem rfarb0 {s : Bool} {a0 a4 a5 a6 : Value} {h : Hp} {nx : Nat} {N e0 R : KVl} : fL Q O s rfarL 37 0 [a0, a4, a5, a6] h nx N [(0, e0)] R = rfarl0 s a0 a4 a5 a6 h nx N e0 R := by kernel_rfl
theorem rfare {s : Bool} {t0 : Value} {h : Hp} {nx : Nat} {K : KC'} : fF Q O s rfarL 37 [t0] h nx K = rfar s t0 h nx K := by kernel_rfl
theorem rfarv {s : Bool} {t0 : Value} {h : Hp} {nx : Nat} {K : KC'} (w : rfar s t0 h nx K) : Cv Q O s 37 [t0] h nx K := Cv.byF rfarL rfl (by rw [rfare]; exact w)
def rchkL : List (List Nat) := []
def rchkk0 (s : Bool) (K : KC') (y1 y2 y3 y4 y36 : Value) (h0 : Hp) (n0 : Nat) : Prop := IF y36 (K (.bool false) h0 n0) (RK (vLd (some 2) h0 y4) fun x21 => Cv Q O s 25 [x21, y1] h0 n0 fun x22 h23 n24 => Cv Q O s 42 [x22, y2] h23 n24 fun x25 h26 n27 => IF x25 (RK (vLd (some 2) h26 y4) fun x28 => Cv Q O s 26 [x28, x22] h26 n27 fun x29 h30 n31 => Cv Q O s 42 [x29, y3] h30 n31 fun x32 h33 n34 => K x32 h33 n34) (K (.bool false) h26 n27))
def rchk (s : Bool) (t0 t1 t2 t3 : Value) (h : Hp) (nx : Nat) (K : KC') : Prop := AR (cellsNB (vcells t0)) h nx fun p1 h2 n3 => RK (vLd (some 2) h2 p1) fun x4 => Cv Q O s 33 [x4] h2 n3 fun x5 h6 n7 => RK (bin Q .neq 61 x5 (.int .i64 0)) fun x8 => IF x8 ((rchkk0 s K t1 t2 t3 p1 (.bool true) h6 n7)) (RK (bin Q .lss 3 t1 (.int .i64 0)) fun x9 => IF x9 ((rchkk0 s K t1 t2 t3 p1 (.bool true) h6 n7)) (RK (vFldA 0 p1) fun x10 => RK (vLd none h6 x10) fun x11 => RK (bin Q .geq 3 t1 x11) fun x12 => IF x12 ((rchkk0 s K t1 t2 t3 p1 (.bool true) h6 n7)) (RK (lenS t2) fun x13 => RK (vFldA 0 p1) fun x14 => RK (vLd none h6 x14) fun x15 => RK (bin Q .neq 3 x13 x15) fun x16 => IF x16 ((rchkk0 s K t1 t2 t3 p1 (.bool true) h6 n7)) (RK (lenS t3) fun x17 => RK (vFldA 0 p1) fun x18 => RK (vLd none h6 x18) fun x19 => RK (bin Q .neq 3 x17 x19) fun x20 => (rchkk0 s K t1 t2 t3 p1 x20 h6 n7)))))
theorem rchke {s : Bool} {t0 t1 t2 t3 : Value} {h : Hp} {nx : Nat} {K : KC'} : fF Q O s rchkL 38 [t0, t1, t2, t3] h nx K = rchk s t0 t1 t2 t3 h nx K := by kernel_rfl
theorem rchkv {s : Bool} {t0 t1 t2 t3 : Value} {h : Hp} {nx : Nat} {K : KC'} (w : rchk s t0 t1 t2 t3 h nx K) : Cv Q O s 38 [t0, t1, t2, t3] h nx K := Cv.byF rchkL rfl (by rw [rchke]; exact w)
def rrightL : List (List Nat) := [[1, 2, 3], [1, 2, 5]]
def rrightl0 (s : Bool) (a1 a2 a3 : Value) (h : Hp) (nx : Nat) (N : KVl) (e0 : KVl) (R : KVl) : Prop := RK (vFldA 1 a1) fun x20 => RK (vLd none h x20) fun x21 => RK (lenS x21) fun x22 => RK (bin Q .lss 3 a3 x22) fun x23 => IF x23 (RK (vFldA 1 a1) fun x24 => RK (vLd none h x24) fun x25 => RK (vIx (.slice 3) x25 a3) fun x26 => RK (vLd (some 3) h x26) fun x27 => AR (.ok (.ptr (.cells [(.int .i64 0), (.int .i64 0), (.int .i64 0)] false))) h nx fun p28 h29 n30 => RK (vSt h29 3 p28 x27) fun h31 => RK (vFldA 0 p28) fun x32 => RK (vLd none h31 x32) fun x33 => RK (bin Q .lss 3 x33 (.int .i64 0)) fun x34 => IF x34 (R [a1, (.int .i64 3), a3] h31 n30) (RK (vFldA 0 p28) fun x35 => RK (vLd none h31 x35) fun x36 => RK (vFldA 0 a1) fun x37 => RK (vLd none h31 x37) fun x38 => RK (bin Q .geq 3 x36 x38) fun x39 => IF x39 (R [a1, (.int .i64 3), a3] h31 n30) (RK (vFldA 1 p28) fun x40 => RK (vLd none h31 x40) fun x41 => RK (bin Q .lss 3 x41 (.int .i64 0)) fun x42 => IF x42 (R [a1, (.int .i64 3), a3] h31 n30) (RK (vFldA 1 p28) fun x43 => RK (vLd none h31 x43) fun x44 => RK (vFldA 0 a1) fun x45 => RK (vLd none h31 x45) fun x46 => RK (bin Q .geq 3 x44 x46) fun x47 => IF x47 (R [a1, (.int .i64 3), a3] h31 n30) (RK (bin Q .add 3 a3 (.int .i64 1)) fun x50 => N [a1, a2, x50] h31 n30))))) (e0 [a1, a2, a3] h nx)
def rrightl1 (s : Bool) (a1 a2 a5 : Value) (h : Hp) (nx : Nat) (N : KVl) (e2 : KVl) (R : KVl) : Prop := RK (vFldA 1 a1) fun x57 => RK (vLd none h x57) fun x58 => RK (lenS x58) fun x59 => RK (bin Q .lss 3 a5 x59) fun x60 => IF x60 (RK (vFldA 1 a1) fun x61 => RK (vLd none h x61) fun x62 => RK (vIx (.slice 3) x62 a5) fun x63 => RK (vFldA 2 x63) fun x64 => RK (vLd none h x64) fun x65 => RK (bin Q .lss 2 x65 (.int .i64 0)) fun x66 => IF x66 (R [a1, (.int .i64 7), a5] h nx) (RK (vFldA 1 a1) fun x67 => RK (vLd none h x67) fun x68 => RK (vIx (.slice 3) x68 a5) fun x69 => RK (vFldA 2 x69) fun x70 => RK (vLd none h x70) fun x71 => RK (bin Q .gtr 2 x71 (.int .i64 2147483647)) fun x72 => IF x72 (R [a1, (.int .i64 7), a5] h nx) (RK (bin Q .add 3 a5 (.int .i64 1)) fun x75 => N [a1, a2, x75] h nx))) (e2 [a1, a2, a5] h nx)
def rrightk0 (s : Bool) (K : KC') (y1 y17 : Value) (h0 : Hp) (n0 : Nat) : Prop := IF y17 (K (.int .i64 5) h0 n0) (Lp (fL Q O s rrightL 33 0) [y1, (.int .i64 0), (.int .i64 0)] h0 n0 [(0, fun v16 h14 n15 => Lp (fL Q O s rrightL 33 1) [(nv v16 0), (nv v16 1), (.int .i64 0)] h14 n15 [(2, fun v53 h51 n52 => K (.int .i64 0) h51 n52)] (fun v56 h54 n55 => K (nv v56 1) h54 n55))] (fun v19 h17 n18 => K (nv v19 1) h17 n18))
def rright (s : Bool) (t0 : Value) (h : Hp) (nx : Nat) (K : KC') : Prop := AR (cellsNB (vcells t0)) h nx fun p1 h2 n3 => RK (vFldA 0 p1) fun x4 => RK (vLd none h2 x4) fun x5 => RK (bin Q .lss 3 x5 (.int .i64 0)) fun x6 => IF x6 (K (.int .i64 3) h2 n3) (RK (vFldA 0 p1) fun x7 => RK (vLd none h2 x7) fun x8 => RK (bin Q .gtr 3 x8 (.int .i64 4096)) fun x9 => IF x9 ((rrightk0 s K p1 (.bool true) h2 n3)) (RK (vFldA 1 p1) fun x10 => RK (vLd none h2 x10) fun x11 => RK (lenS x11) fun x12 => RK (bin Q .gtr 3 x12 (.int .i64 65536)) fun x13 => (rrightk0 s K p1 x13 h2 n3)))
theorem rrightb0 {s : Bool} {a1 a2 a3 : Value} {h : Hp} {nx : Nat} {N e0 R : KVl} : fL Q O s rrightL 33 0 [a1, a2, a3] h nx N [(0, e0)] R = rrightl0 s a1 a2 a3 h nx N e0 R := by kernel_rfl
theorem rrightb1 {s : Bool} {a1 a2 a5 : Value} {h : Hp} {nx : Nat} {N e2 R : KVl} : fL Q O s rrightL 33 1 [a1, a2, a5] h nx N [(2, e2)] R = rrightl1 s a1 a2 a5 h nx N e2 R := by kernel_rfl
theorem rrighte {s : Bool} {t0 : Value} {h : Hp} {nx : Nat} {K : KC'} : fF Q O s rrightL 33 [t0] h nx K = rright s t0 h nx K := by kernel_rfl
theorem rrightv {s : Bool} {t0 : Value} {h : Hp} {nx : Nat} {K : KC'} (w : rright s t0 h nx K) : Cv Q O s 33 [t0] h nx K := Cv.byF rrightL rfl (by rw [rrighte]; exact w)
def wayL : List (List Nat) := [[0, 1, 6, 7, 8, 9]]
def wayl0 (s : Bool) (a0 a1 a6 a7 a8 a9 : Value) (h : Hp) (nx : Nat) (N : KVl) (e0 : KVl) (R : KVl) : Prop := RK (vIx (.slice 1) a0 a9) fun x21 => RK (vLd none h x21) fun x22 => RK (bin Q .gtr 2 x22 (.int .i64 0)) fun x23 => IF x23 (RK (vIx (.slice 1) a1 a9) fun x24 => RK (vLd none h x24) fun x25 => RK (bin Q .lss 2 x25 (.int .i64 0)) fun x26 => IF x26 (R [a0, a1, (.slice none 0 0), a7, a8, a9] h nx) (RK (bin Q .geq 2 x25 a7) fun x27 => IF x27 (R [a0, a1, (.slice none 0 0), a7, a8, a9] h nx) (RK (vIx (.slice 1) a0 x25) fun x28 => RK (vLd none h x28) fun x29 => RK (vIx (.slice 1) a0 a9) fun x30 => RK (vLd none h x30) fun x31 => RK (bin Q .sub 2 x31 (.int .i64 1)) fun x32 => RK (bin Q .neq 2 x29 x32) fun x33 => IF x33 (R [a0, a1, (.slice none 0 0), a7, a8, a9] h nx) (AR (vBsl 1 [(.int .i64 0)] [(0, 1, x25)]) h nx fun p46 h47 n48 => EK (orR (appendA 1 h47 n48 a8 p46)) fun x49 h50 n51 => N [a0, a1, a6, a7, x49, x25] h50 n51)))) (e0 [a0, a1, a6, a7, a8, a9] h nx)
def wayk0 (s : Bool) (K : KC') (y0 y1 y2 y7 y37 : Value) (h0 : Hp) (n0 : Nat) : Prop := IF y37 (K (.slice none 0 0) h0 n0) (AR (vBsl 1 [(.int .i64 0)] [(0, 1, y2)]) h0 n0 fun p12 h13 n14 => Lp (fL Q O s wayL 29 0) [y0, y1, (.slice none 0 0), y7, p12, y2] h13 n14 [(0, fun v17 h15 n16 => Cv Q O s 53 [(nv v17 4)] h15 n16 fun x52 h53 n54 => K (nv v17 4) h53 n54)] (fun v20 h18 n19 => K (nv v20 2) h18 n19))
def way (s : Bool) (t0 t1 t2 : Value) (h : Hp) (nx : Nat) (K : KC') : Prop := RK (lenS t0) fun x1 => RK (lenS t1) fun x2 => RK (min2 true x1 x2) fun x3 => RK (bin Q .lss 3 t2 (.int .i64 0)) fun x4 => IF x4 ((wayk0 s K t0 t1 t2 x3 (.bool true) h nx)) (RK (bin Q .geq 3 t2 x3) fun x5 => IF x5 ((wayk0 s K t0 t1 t2 x3 (.bool true) h nx)) (RK (vIx (.slice 1) t0 t2) fun x6 => RK (vLd none h x6) fun x7 => RK (bin Q .lss 2 x7 (.int .i64 0)) fun x8 => IF x8 ((wayk0 s K t0 t1 t2 x3 (.bool true) h nx)) (RK (vIx (.slice 1) t0 t2) fun x9 => RK (vLd none h x9) fun x10 => RK (bin Q .geq 2 x10 x3) fun x11 => (wayk0 s K t0 t1 t2 x3 x11 h nx))))
theorem wayb0 {s : Bool} {a0 a1 a6 a7 a8 a9 : Value} {h : Hp} {nx : Nat} {N e0 R : KVl} : fL Q O s wayL 29 0 [a0, a1, a6, a7, a8, a9] h nx N [(0, e0)] R = wayl0 s a0 a1 a6 a7 a8 a9 h nx N e0 R := by kernel_rfl
theorem waye {s : Bool} {t0 t1 t2 : Value} {h : Hp} {nx : Nat} {K : KC'} : fF Q O s wayL 29 [t0, t1, t2] h nx K = way s t0 t1 t2 h nx K := by kernel_rfl
theorem wayv {s : Bool} {t0 t1 t2 : Value} {h : Hp} {nx : Nat} {K : KC'} (w : way s t0 t1 t2 h nx K) : Cv Q O s 29 [t0, t1, t2] h nx K := Cv.byF wayL rfl (by rw [waye]; exact w)
def rwayL : List (List Nat) := [[0, 1, 6, 7, 8, 9]]
def rwayl0 (s : Bool) (a0 a1 a6 a7 a8 a9 : Value) (h : Hp) (nx : Nat) (N : KVl) (R : KVl) : Prop := RK (bin Q .lss 3 a8 (.int .i64 0)) fun x12 => IF x12 (R [a0, a1, (.slice none 0 0), a7, a8, a9] h nx) (RK (lenS a0) fun x13 => RK (bin Q .geq 3 a8 x13) fun x14 => IF x14 (R [a0, a1, (.slice none 0 0), a7, a8, a9] h nx) (RK (lenS a1) fun x15 => RK (bin Q .geq 3 a8 x15) fun x16 => IF x16 (R [a0, a1, (.slice none 0 0), a7, a8, a9] h nx) (RK (vIx (.slice 1) a0 a8) fun x17 => RK (vLd none h x17) fun x18 => RK (bin Q .neq 2 x18 a9) fun x19 => IF x19 (R [a0, a1, (.slice none 0 0), a7, a8, a9] h nx) (AR (vBsl 1 [(.int .i64 0)] [(0, 1, a8)]) h nx fun p20 h21 n22 => EK (orR (appendA 1 h21 n22 p20 a7)) fun x23 h24 n25 => RK (bin Q .eql 2 a9 (.int .i64 0)) fun x26 => IF x26 (R [a0, a1, x23, x23, a8, a9] h24 n25) (RK (vIx (.slice 1) a1 a8) fun x27 => RK (vLd none h24 x27) fun x28 => RK (bin Q .lss 2 x28 (.int .i64 0)) fun x29 => IF x29 (R [a0, a1, (.slice none 0 0), x23, a8, a9] h24 n25) (RK (vIx (.slice 1) a1 a8) fun x30 => RK (vLd none h24 x30) fun x31 => RK (lenS a0) fun x32 => RK (bin Q .geq 2 x31 x32) fun x33 => IF x33 (R [a0, a1, (.slice none 0 0), x23, a8, a9] h24 n25) (RK (vIx (.slice 1) a1 a8) fun x34 => RK (vLd none h24 x34) fun x35 => RK (bin Q .sub 2 a9 (.int .i64 1)) fun x40 => N [a0, a1, a6, x23, x35, x40] h24 n25)))))))
def rwayk0 (s : Bool) (K : KC') (y0 y1 y2 y25 : Value) (h0 : Hp) (n0 : Nat) : Prop := IF y25 (K (.slice none 0 0) h0 n0) (RK (vIx (.slice 1) y0 y2) fun x7 => RK (vLd none h0 x7) fun x8 => Lp (fL Q O s rwayL 39 0) [y0, y1, (.slice none 0 0), (.slice none 0 0), y2, x8] h0 n0 [] (fun v11 h9 n10 => K (nv v11 2) h9 n10))
def rway (s : Bool) (t0 t1 t2 : Value) (h : Hp) (nx : Nat) (K : KC') : Prop := RK (bin Q .lss 3 t2 (.int .i64 0)) fun x1 => IF x1 ((rwayk0 s K t0 t1 t2 (.bool true) h nx)) (RK (lenS t0) fun x2 => RK (bin Q .geq 3 t2 x2) fun x3 => IF x3 ((rwayk0 s K t0 t1 t2 (.bool true) h nx)) (RK (vIx (.slice 1) t0 t2) fun x4 => RK (vLd none h x4) fun x5 => RK (bin Q .lss 2 x5 (.int .i64 0)) fun x6 => (rwayk0 s K t0 t1 t2 x6 h nx)))
theorem rwayb0 {s : Bool} {a0 a1 a6 a7 a8 a9 : Value} {h : Hp} {nx : Nat} {N R : KVl} : fL Q O s rwayL 39 0 [a0, a1, a6, a7, a8, a9] h nx N [] R = rwayl0 s a0 a1 a6 a7 a8 a9 h nx N R := by kernel_rfl
theorem rwaye {s : Bool} {t0 t1 t2 : Value} {h : Hp} {nx : Nat} {K : KC'} : fF Q O s rwayL 39 [t0, t1, t2] h nx K = rway s t0 t1 t2 h nx K := by kernel_rfl
theorem rwayv {s : Bool} {t0 t1 t2 : Value} {h : Hp} {nx : Nat} {K : KC'} (w : rway s t0 t1 t2 h nx K) : Cv Q O s 39 [t0, t1, t2] h nx K := Cv.byF rwayL rfl (by rw [rwaye]; exact w)
def cntpL : List (List Nat) := [[3, 6, 7, 8], [3, 5, 6, 7, 8]]
def cntpl1 (s : Bool) (a3 a5 a6 a7 a8 : Value) (h : Hp) (nx : Nat) (N : KVl) (e2 : KVl) (R : KVl) : Prop := RK (lenS a3) fun x13 => RK (bin Q .leq 2 x13 a5) fun x14 => IF x14 (AR (vBsl 1 [(.int .i64 0)] [(0, 1, (.int .i64 0))]) h nx fun p15 h16 n17 => EK (orR (appendA 1 h16 n17 a3 p15)) fun x18 h19 n20 => N [x18, a5, a6, a7, a8] h19 n20) (e2 [a3, a5, a6, a7, a8] h nx)
def cntpk0 (s : Bool) (N : KVl) (e0 : KVl) (R : KVl) (y3 y6 y7 y8 : Value) (h0 : Hp) (n0 : Nat) : Prop := RK (bin Q .add 3 y8 (.int .i64 1)) fun x26 => N [y3, y6, y7, x26] h0 n0
def cntpl0 (s : Bool) (a3 a6 a7 a8 : Value) (h : Hp) (nx : Nat) (N : KVl) (e0 : KVl) (R : KVl) : Prop := RK (bin Q .lss 3 a8 a7) fun x5 => IF x5 (RK (vIx (.slice 1) a6 a8) fun x6 => RK (vLd none h x6) fun x7 => RK (bin Q .lss 2 x7 (.int .i64 0)) fun x8 => IF x8 ((cntpk0 s N e0 R a3 a6 a7 a8 h nx)) (RK (bin Q .geq 2 x7 (.int .i64 4096)) fun x9 => IF x9 ((cntpk0 s N e0 R a3 a6 a7 a8 h nx)) (Lp (fL Q O s cntpL 40 1) [a3, x7, a6, a7, a8] h nx [(2, fun v12 h10 n11 => RK (vIx (.slice 1) (nv v12 0) (nv v12 1)) fun x21 => RK (vLd none h10 x21) fun x22 => RK (bin Q .add 3 x22 (.int .i64 1)) fun x23 => RK (vIx (.slice 1) (nv v12 0) (nv v12 1)) fun x24 => RK (vSt h10 1 x24 x23) fun h25 => (cntpk0 s N e0 R (nv v12 0) (nv v12 2) (nv v12 3) (nv v12 4) h25 n11))] (fun _ _ _ => False)))) (e0 [a3, a6, a7, a8] h nx)
def cntp (s : Bool) (t0 : Value) (h : Hp) (nx : Nat) (K : KC') : Prop := RK (lenS t0) fun x1 => Lp (fL Q O s cntpL 40 0) [(.slice none 0 0), t0, x1, (.int .i64 0)] h nx [(0, fun v4 h2 n3 => K (nv v4 0) h2 n3)] (fun _ _ _ => False)
theorem cntpb1 {s : Bool} {a3 a5 a6 a7 a8 : Value} {h : Hp} {nx : Nat} {N e2 R : KVl} : fL Q O s cntpL 40 1 [a3, a5, a6, a7, a8] h nx N [(2, e2)] R = cntpl1 s a3 a5 a6 a7 a8 h nx N e2 R := by kernel_rfl
theorem cntpb0 {s : Bool} {a3 a6 a7 a8 : Value} {h : Hp} {nx : Nat} {N e0 R : KVl} : fL Q O s cntpL 40 0 [a3, a6, a7, a8] h nx N [(0, e0)] R = cntpl0 s a3 a6 a7 a8 h nx N e0 R := by kernel_rfl
theorem cntpe {s : Bool} {t0 : Value} {h : Hp} {nx : Nat} {K : KC'} : fF Q O s cntpL 40 [t0] h nx K = cntp s t0 h nx K := by kernel_rfl
theorem cntpv {s : Bool} {t0 : Value} {h : Hp} {nx : Nat} {K : KC'} (w : cntp s t0 h nx K) : Cv Q O s 40 [t0] h nx K := Cv.byF cntpL rfl (by rw [cntpe]; exact w)
def rcntL : List (List Nat) := [[0, 3, 4], [0, 3, 4]]
def rcntl1 (s : Bool) (a0 a3 a4 : Value) (h : Hp) (nx : Nat) (N : KVl) (e2 : KVl) (R : KVl) : Prop := RK (lenS a3) fun x15 => RK (vIx (.slice 1) a0 a4) fun x16 => RK (vLd none h x16) fun x17 => RK (bin Q .leq 3 x15 x17) fun x18 => IF x18 (AR (vBsl 1 [(.int .i64 0)] [(0, 1, (.int .i64 0))]) h nx fun p19 h20 n21 => EK (orR (appendA 1 h20 n21 a3 p19)) fun x22 h23 n24 => N [a0, x22, a4] h23 n24) (e2 [a0, a3, a4] h nx)
def rcntk0 (s : Bool) (N : KVl) (e0 : KVl) (R : KVl) (y0 y3 y4 : Value) (h0 : Hp) (n0 : Nat) : Prop := RK (bin Q .add 3 y4 (.int .i64 1)) fun x32 => N [y0, y3, x32] h0 n0
def rcntl0 (s : Bool) (a0 a3 a4 : Value) (h : Hp) (nx : Nat) (N : KVl) (e0 : KVl) (R : KVl) : Prop := RK (lenS a0) fun x4 => RK (bin Q .lss 3 a4 x4) fun x5 => IF x5 (RK (vIx (.slice 1) a0 a4) fun x6 => RK (vLd none h x6) fun x7 => RK (bin Q .lss 2 x7 (.int .i64 0)) fun x8 => IF x8 ((rcntk0 s N e0 R a0 a3 a4 h nx)) (RK (vIx (.slice 1) a0 a4) fun x9 => RK (vLd none h x9) fun x10 => RK (bin Q .geq 2 x10 (.int .i64 4096)) fun x11 => IF x11 ((rcntk0 s N e0 R a0 a3 a4 h nx)) (Lp (fL Q O s rcntL 41 1) [a0, a3, a4] h nx [(2, fun v14 h12 n13 => RK (vIx (.slice 1) (nv v14 0) (nv v14 2)) fun x25 => RK (vLd none h12 x25) fun x26 => RK (vIx (.slice 1) (nv v14 1) x26) fun x27 => RK (vLd none h12 x27) fun x28 => RK (bin Q .add 3 x28 (.int .i64 1)) fun x29 => RK (vIx (.slice 1) (nv v14 1) x26) fun x30 => RK (vSt h12 1 x30 x29) fun h31 => (rcntk0 s N e0 R (nv v14 0) (nv v14 1) (nv v14 2) h31 n13))] (fun _ _ _ => False)))) (e0 [a0, a3, a4] h nx)
def rcnt (s : Bool) (t0 : Value) (h : Hp) (nx : Nat) (K : KC') : Prop := Lp (fL Q O s rcntL 41 0) [t0, (.slice none 0 0), (.int .i64 0)] h nx [(0, fun v3 h1 n2 => K (nv v3 1) h1 n2)] (fun _ _ _ => False)
theorem rcntb1 {s : Bool} {a0 a3 a4 : Value} {h : Hp} {nx : Nat} {N e2 R : KVl} : fL Q O s rcntL 41 1 [a0, a3, a4] h nx N [(2, e2)] R = rcntl1 s a0 a3 a4 h nx N e2 R := by kernel_rfl
theorem rcntb0 {s : Bool} {a0 a3 a4 : Value} {h : Hp} {nx : Nat} {N e0 R : KVl} : fL Q O s rcntL 41 0 [a0, a3, a4] h nx N [(0, e0)] R = rcntl0 s a0 a3 a4 h nx N e0 R := by kernel_rfl
theorem rcnte {s : Bool} {t0 : Value} {h : Hp} {nx : Nat} {K : KC'} : fF Q O s rcntL 41 [t0] h nx K = rcnt s t0 h nx K := by kernel_rfl
theorem rcntv {s : Bool} {t0 : Value} {h : Hp} {nx : Nat} {K : KC'} (w : rcnt s t0 h nx K) : Cv Q O s 41 [t0] h nx K := Cv.byF rcntL rfl (by rw [rcnte]; exact w)
def sameiL : List (List Nat) := [[0, 1, 4, 5]]
def sameil0 (s : Bool) (a0 a1 a4 a5 : Value) (h : Hp) (nx : Nat) (N : KVl) (e0 : KVl) (R : KVl) : Prop := RK (lenS a0) fun x10 => RK (bin Q .lss 3 a5 x10) fun x11 => IF x11 (RK (vIx (.slice 1) a0 a5) fun x12 => RK (vLd none h x12) fun x13 => RK (vIx (.slice 1) a1 a5) fun x14 => RK (vLd none h x14) fun x15 => RK (bin Q .neq 3 x13 x15) fun x16 => IF x16 (R [a0, a1, (.bool false), a5] h nx) (RK (bin Q .add 3 a5 (.int .i64 1)) fun x17 => N [a0, a1, a4, x17] h nx)) (e0 [a0, a1, a4, a5] h nx)
def samei (s : Bool) (t0 t1 : Value) (h : Hp) (nx : Nat) (K : KC') : Prop := RK (lenS t0) fun x1 => RK (lenS t1) fun x2 => RK (bin Q .neq 3 x1 x2) fun x3 => IF x3 (K (.bool false) h nx) (Lp (fL Q O s sameiL 22 0) [t0, t1, (.bool false), (.int .i64 0)] h nx [(0, fun v6 h4 n5 => K (.bool true) h4 n5)] (fun v9 h7 n8 => K (nv v9 2) h7 n8))
theorem sameib0 {s : Bool} {a0 a1 a4 a5 : Value} {h : Hp} {nx : Nat} {N e0 R : KVl} : fL Q O s sameiL 22 0 [a0, a1, a4, a5] h nx N [(0, e0)] R = sameil0 s a0 a1 a4 a5 h nx N e0 R := by kernel_rfl
theorem sameie {s : Bool} {t0 t1 : Value} {h : Hp} {nx : Nat} {K : KC'} : fF Q O s sameiL 22 [t0, t1] h nx K = samei s t0 t1 h nx K := by kernel_rfl
theorem sameiv {s : Bool} {t0 t1 : Value} {h : Hp} {nx : Nat} {K : KC'} (w : samei s t0 t1 h nx K) : Cv Q O s 22 [t0, t1] h nx K := Cv.byF sameiL rfl (by rw [sameie]; exact w)
def samevL : List (List Nat) := [[0, 1, 4, 5]]
def samevl0 (s : Bool) (a0 a1 a4 a5 : Value) (h : Hp) (nx : Nat) (N : KVl) (e0 : KVl) (R : KVl) : Prop := RK (lenS a0) fun x10 => RK (bin Q .lss 3 a5 x10) fun x11 => IF x11 (RK (vIx (.slice 1) a0 a5) fun x12 => RK (vLd none h x12) fun x13 => RK (vIx (.slice 1) a1 a5) fun x14 => RK (vLd none h x14) fun x15 => RK (bin Q .neq 2 x13 x15) fun x16 => IF x16 (R [a0, a1, (.bool false), a5] h nx) (RK (bin Q .add 3 a5 (.int .i64 1)) fun x17 => N [a0, a1, a4, x17] h nx)) (e0 [a0, a1, a4, a5] h nx)
def samev (s : Bool) (t0 t1 : Value) (h : Hp) (nx : Nat) (K : KC') : Prop := RK (lenS t0) fun x1 => RK (lenS t1) fun x2 => RK (bin Q .neq 3 x1 x2) fun x3 => IF x3 (K (.bool false) h nx) (Lp (fL Q O s samevL 42 0) [t0, t1, (.bool false), (.int .i64 0)] h nx [(0, fun v6 h4 n5 => K (.bool true) h4 n5)] (fun v9 h7 n8 => K (nv v9 2) h7 n8))
theorem samevb0 {s : Bool} {a0 a1 a4 a5 : Value} {h : Hp} {nx : Nat} {N e0 R : KVl} : fL Q O s samevL 42 0 [a0, a1, a4, a5] h nx N [(0, e0)] R = samevl0 s a0 a1 a4 a5 h nx N e0 R := by kernel_rfl
theorem sameve {s : Bool} {t0 t1 : Value} {h : Hp} {nx : Nat} {K : KC'} : fF Q O s samevL 42 [t0, t1] h nx K = samev s t0 t1 h nx K := by kernel_rfl
theorem samevv {s : Bool} {t0 t1 : Value} {h : Hp} {nx : Nat} {K : KC'} (w : samev s t0 t1 h nx K) : Cv Q O s 42 [t0, t1] h nx K := Cv.byF samevL rfl (by rw [sameve]; exact w)
def revL : List (List Nat) := [[0, 2, 3]]
def revl0 (s : Bool) (a0 a2 a3 : Value) (h : Hp) (nx : Nat) (N : KVl) (e0 : KVl) (R : KVl) : Prop := RK (bin Q .lss 3 a2 a3) fun x6 => IF x6 (RK (vIx (.slice 1) a0 a3) fun x7 => RK (vLd none h x7) fun x8 => RK (vIx (.slice 1) a0 a2) fun x9 => RK (vLd none h x9) fun x10 => RK (vIx (.slice 1) a0 a2) fun x11 => RK (vSt h 1 x11 x8) fun h12 => RK (vIx (.slice 1) a0 a3) fun x13 => RK (vSt h12 1 x13 x10) fun h14 => RK (bin Q .add 3 a2 (.int .i64 1)) fun x15 => RK (bin Q .sub 3 a3 (.int .i64 1)) fun x16 => N [a0, x15, x16] h14 nx) (e0 [a0, a2, a3] h nx)
def rev (s : Bool) (t0 : Value) (h : Hp) (nx : Nat) (K : KC') : Prop := RK (lenS t0) fun x1 => RK (bin Q .sub 3 x1 (.int .i64 1)) fun x2 => Lp (fL Q O s revL 53 0) [t0, (.int .i64 0), x2] h nx [(0, fun v5 h3 n4 => K (.tuple ⟨[]⟩) h3 n4)] (fun _ _ _ => False)
theorem revb0 {s : Bool} {a0 a2 a3 : Value} {h : Hp} {nx : Nat} {N e0 R : KVl} : fL Q O s revL 53 0 [a0, a2, a3] h nx N [(0, e0)] R = revl0 s a0 a2 a3 h nx N e0 R := by kernel_rfl
theorem reve {s : Bool} {t0 : Value} {h : Hp} {nx : Nat} {K : KC'} : fF Q O s revL 53 [t0] h nx K = rev s t0 h nx K := by kernel_rfl
theorem revv {s : Bool} {t0 : Value} {h : Hp} {nx : Nat} {K : KC'} (w : rev s t0 h nx K) : Cv Q O s 53 [t0] h nx K := Cv.byF revL rfl (by rw [reve]; exact w)
theorem within_c {s : Bool} {k n : Int} {h : Hp} {nx : Nat} : Cv Q O s 24 [.int .i64 k, .int .i64 n] h nx (fun v h' nx' => v = .int .i64 (wnF k n) ∧ h' = h ∧ nx' = nx) := by
 refine withinv ?_
 unfold within
 simp (disch := omega) only [SS, ↓reduceIte, Nat.reduceAdd, Nat.reduceSub, Nat.reduceMul, Nat.reduceLT, Nat.reduceLeDiff, Nat.reduceEqDiff, Int.reduceBEq, Int.reduceLT, Int.reduceNeg]
 refine ⟨fun h1 => by simp [wnF, h1], fun h1 => ⟨fun h2 => by simp [wnF, h2], fun h2 => ?_⟩⟩
 rw [bin_rem (by omega), RK_ok]
 simp [wnF, h1, h2]
theorem rd3 {es : List Edg3} {i : Nat} {e : Edg3} (he : es[i]? = some e) : loadC (some 3) (i * 3) (flat enc3 es) = .ok (.agg ⟨[.int .i64 e.1, .int .i64 e.2.1, .int .i64 e.2.2]⟩) := by
 have hg := flat_get (enc := enc3) (k := 3) (fun _ => rfl) he
 have hi := (List.getElem?_eq_some_iff.1 he).1
 rw [loadC_many, if_pos (by rw [flat_len (k := 3) (fun _ => rfl)]; omega), hg]
 rfl
def GraphK (nx : Nat) (h : Hp) : KC' := fun r h' nx' => ∃ (N : Nat) (v2 : Value) (gs : List GE), r = .agg ⟨[.int .i64 (N : Int), v2]⟩ ∧ N < 24 ∧ gs.length ≤ 60 ∧ (∀ g ∈ gs, GOk N g) ∧ SlNw h' nx nx' v2 encG gs ∧ nx ≤ nx' ∧ Keep nx h h'
def GraphJ (n : Int) (v : Value) (es : List Edg3) (N nx : Nat) (h : Hp) (m : Nat) (vs : List Value) (h' : Hp) (nx' : Nat) : Prop :=
 ∃ (i : Nat) (v2 : Value) (gs : List GE), m = 60 - i ∧ i ≤ 60 ∧ vs = [.pointer (some ⟨nx, 0, none⟩), .pointer (some ⟨nx + 1, 0, none⟩), .pointer (some ⟨nx + 1 + 1, 0, none⟩), .int .i64 (i : Int)] ∧
  hget h' nx = some (.cells [.int .i64 n, v] false) ∧ hget h' (nx + 1) = some (.cells [.int .i64 0, .slice none 0 0] false) ∧ hget h' (nx + 1 + 1) = some (.cells [.int .i64 (N : Int), v2] false) ∧
  SlAt h' v2 encG 3 gs (nx + 1 + 1 + 1) nx' ∧ gs.length = i ∧ (∀ g ∈ gs, GOk N g) ∧ nx + 1 + 1 + 1 ≤ nx' ∧ Keep nx h h'
theorem EK_appS {α : Type} {enc : α → List Value} {k : Nat} (hk : ∀ x, (enc x).length = k) (hcell : ∀ x, cellL (enc x) = true) (hk0 : 0 < k) {h : Hp} {nx lo : Nat} {v : Value} {l : List α} (hv : SlAt h v enc k l lo nx) (hlo : lo ≤ nx)
  {b2 o2 cap2 : Nat} {sp2 : Option Nat} {cs : List Value} {ro : Bool} (x : α) (h2 : hget h b2 = some (.cells cs ro)) (hx : (cs.drop o2).take k = enc x) (hsz : (l.length + 1) * k ≤ 1000000) {K : Value → Hp → Nat → Prop}
  (hK : ∀ v' h', SlAt h' v' enc k (l ++ [x]) lo (nx + 1) → (∀ b, b < lo → hget h' b = hget h b) → K v' h' (nx + 1)) : EK (orR (appendA k h nx v (.slice (some ⟨b2, o2, sp2⟩) 1 cap2))) K := by
 obtain ⟨v', h', e, a, b⟩ := app_cv hk hcell hk0 hv hlo h2 hx hsz
 rw [e]; exact hK _ _ a b
theorem graph_c {s : Bool} {n : Int} {v : Value} {es : List Edg3} {h : Hp} {nx : Nat} (hv : SlRd h nx v enc3 es) : Cv Q O s 44 [.agg ⟨[.int .i64 n, v]⟩] h nx (GraphK nx h) := by
 refine graphv ?_
 obtain ⟨a, cap, rfl, hc⟩ := id hv
 unfold graph
 simp (disch := omega) only [SS, ↓reduceIte, Nat.reduceAdd, Nat.reduceSub, Nat.reduceMul, Nat.reduceLT, Nat.reduceLeDiff, Nat.reduceEqDiff, Int.reduceBEq, Int.reduceLT, Int.reduceNeg]
 refine within_c.mono ?_
 rintro r h1 nx1 ⟨rfl, rfl, rfl⟩
 obtain ⟨N, hN, hlt⟩ := wnF_nat (k := n) (n := 24)
 have hlt := hlt (by omega)
 rw [hN]
 simp (disch := omega) only [SS, ↓reduceIte, Nat.reduceAdd, Nat.reduceSub, Nat.reduceMul, Nat.reduceLT, Nat.reduceLeDiff, Nat.reduceEqDiff, Int.reduceBEq, Int.reduceLT, Int.reduceNeg]
 refine Lp.mk (GraphJ n (.slice a es.length cap) es N nx h) 60 ⟨0, .slice none 0 0, [], rfl, by omega, rfl, by rw [hold (by omega), hold (by omega), hold (by omega), hnew], by rw [hold (by omega), hold (by omega), hnew], hnew _ _ _, .inl ⟨rfl, rfl⟩, rfl, by simp, by omega, fun b hb => by rw [hold (by omega), hold (by omega), hold (by omega), hold (by omega)]⟩ ?_
 rintro m _ h' nx' ⟨i, v2, gs, rfl, hi, rfl, g0, g1, g2, hsl, hgl, hok, hnx, hk⟩
 obtain ⟨a2, n2, c2, rfl⟩ := hsl.form
 rw [graphb0]
 unfold graphl0
 have stop : graphk0 s (fun vs h_1 nx_1 => ∃ m', m' < 60 - i ∧ GraphJ n (.slice a es.length cap) es N nx h m' vs h_1 nx_1)
   (fun v19 h17 n18 => RK (vLd (some 2) h17 (nv v19 2)) fun x65 => RK (vSt h17 2 (nv v19 1) x65) fun h66 => RK (vLd (some 2) h66 (nv v19 1)) fun x67 => GraphK nx h x67 h66 n18) (fun _ _ _ => False)
   (.pointer (some ⟨nx, 0, none⟩)) (.pointer (some ⟨nx + 1, 0, none⟩)) (.pointer (some ⟨nx + 1 + 1, 0, none⟩)) (.int .i64 (i : Int)) (.bool false) h' nx' := by
  unfold graphk0
  simp (disch := omega) only [SS, ↓reduceIte, Nat.reduceAdd, Nat.reduceSub, Nat.reduceMul, Nat.reduceLT, Nat.reduceLeDiff, Nat.reduceEqDiff, Int.reduceBEq, Int.reduceLT, Int.reduceNeg, g1, g2]
  refine ⟨N, _, gs, rfl, by omega, by omega, hok, hsl.nw.keep (fun b h1 h2 => hold (by omega)) (by omega) (Nat.le_refl _), by omega, hk.set (by omega)⟩
 simp (disch := omega) only [SS, ↓reduceIte, Nat.reduceAdd, Nat.reduceSub, Nat.reduceMul, Nat.reduceLT, Nat.reduceLeDiff, Nat.reduceEqDiff, Int.reduceBEq, Int.reduceLT, Int.reduceNeg, g0, g2]
 refine ⟨fun h1 => ⟨fun h2 => ?_, fun h2 => stop⟩, fun h1 => stop⟩
 by_cases h3 : (0 : Int) < (N : Int)
 case neg => rw [decide_eq_false h3]; exact stop
 unfold graphk0
 obtain ⟨x, hx⟩ := get_ex h1
 obtain ⟨_, b, sp, ro, cap', hbn, hveq, hbh⟩ := hv.at hx
 cases hveq
 have hb' := (hk b hbn).trans hbh
 simp (disch := omega) only [SS, ↓reduceIte, Nat.reduceAdd, Nat.reduceSub, Nat.reduceMul, Nat.reduceLT, Nat.reduceLeDiff, Nat.reduceEqDiff, Int.reduceBEq, Int.reduceLT, Int.reduceNeg, g0, g2, hb', rd3 hx, decide_eq_true h3]
 refine within_c.mono ?_
 rintro r h1 nx1 ⟨rfl, rfl, rfl⟩
 obtain ⟨f, hf, hfl⟩ := wnF_nat (k := x.1) (n := N)
 rw [hf]
 simp (disch := omega) only [SS, ↓reduceIte, Nat.reduceAdd, Nat.reduceSub, Nat.reduceMul, Nat.reduceLT, Nat.reduceLeDiff, Nat.reduceEqDiff, Int.reduceBEq, Int.reduceLT, Int.reduceNeg, g0, g2]
 refine within_c.mono ?_
 rintro r h1 nx1 ⟨rfl, rfl, rfl⟩
 obtain ⟨t, ht, htl⟩ := wnF_nat (k := x.2.1) (n := N)
 rw [ht]
 obtain ⟨w, hw, hw0, hw1⟩ := and_low x.2.2
 simp (disch := omega) only [SS, ↓reduceIte, Nat.reduceAdd, Nat.reduceSub, Nat.reduceMul, Nat.reduceLT, Nat.reduceLeDiff, Nat.reduceEqDiff, Int.reduceBEq, Int.reduceLT, Int.reduceNeg, g0, g2, bin_and, hw]
 refine EK_appS (enc := encG) (lo := nx + 1 + 1 + 1) (fun _ => rfl) (fun _ => rfl) (by omega) (hsl.keep (fun b h1 h2 => by rw [hold (by omega), hold (by omega), hold (by omega)]) (by omega)) (by omega) ⟨f, t, w⟩ (hnew _ _ _) rfl (by omega) ?_
 intro v3 h3 hs3 hk3
 obtain ⟨a3, n3, c3, rfl⟩ := hs3.form
 simp (disch := omega) only [SS, ↓reduceIte, Nat.reduceAdd, Nat.reduceSub, Nat.reduceMul, Nat.reduceLT, Nat.reduceLeDiff, Nat.reduceEqDiff, Int.reduceBEq, Int.reduceLT, Int.reduceNeg, hk3 (nx + 1 + 1) (by omega), hk3 (nx + 1) (by omega), hk3 nx (by omega), g2, wrap_s (show i < 1000000000000 by omega)]
 refine ⟨by omega, 60 - (i + 1), by omega, i + 1, _, gs ++ [⟨f, t, w⟩], rfl, by omega, rfl, ?_, ?_, hnew _ _ _, hs3.keep (fun b h1 h2 => hold (by omega)) (Nat.le_refl _), by simp [hgl], ?_, by omega, ?_⟩
 ·rw [hold (by omega), hk3 nx (by omega), hold (by omega), hold (by omega), hold (by omega)]; exact g0
 ·rw [hold (by omega), hk3 (nx + 1) (by omega), hold (by omega), hold (by omega), hold (by omega)]; exact g1
 ·intro g hg
  rcases List.mem_append.1 hg with hg | hg
  ·exact hok g hg
  ·rw [List.mem_singleton.1 hg]; exact ⟨(by omega : f < N), (by omega : t < N), hw0, hw1⟩
 ·intro b hb
  rw [hold (by omega), hk3 b (by omega), hold (by omega), hold (by omega), hold (by omega)]; exact hk b hb
def MakeG (nx : Nat) (h : Hp) : KC' := fun r h' nx' => ∃ (N sr : Nat) (ra rb : Int) (v2 : Value) (gs : List GE), r = .tuple ⟨[.agg ⟨[.int .i64 (N : Int), v2]⟩, .int .i64 (sr : Int), .int .i64 ra, .int .i64 rb]⟩ ∧ 0 < N ∧ N < 24 ∧ sr < N ∧ gs.length ≤ 60 ∧ (∀ g ∈ gs, GOk N g) ∧ SlNw h' nx nx' v2 encG gs ∧ nx ≤ nx' ∧ Keep nx h h'
theorem make_c {s : Bool} {n V R C : Int} {v : Value} {es : List Edg3} {h : Hp} {nx : Nat} (hv : SlRd h nx v enc3 es) : Cv Q O s 11 [.agg ⟨[.int .i64 n, v, .int .i64 V, .int .u8 R, .int .u8 C]⟩] h nx (MakeG nx h) := by
 refine makev ?_
 obtain ⟨a, cap, rfl, hc⟩ := id hv
 unfold make
 simp (disch := omega) only [SS, ↓reduceIte, Nat.reduceAdd, Nat.reduceSub, Nat.reduceMul, Nat.reduceLT, Nat.reduceLeDiff, Nat.reduceEqDiff, Int.reduceBEq, Int.reduceLT, Int.reduceNeg]
 refine (graph_c (hv.keep (fun b hb => by rw [hold (by omega), hold (by omega)]) (show nx ≤ nx + 1 + 1 by omega))).mono ?_
 rintro r h1 nx1 ⟨N, v2, gs, rfl, hN, hgl, hok, hgs, hle, hk⟩
 obtain ⟨a2, c2, rfl, hc2⟩ := id hgs
 have g0 := hk nx (by omega)
 have g1 := hk (nx + 1) (by omega)
 rw [hold (by omega), hnew] at g0
 rw [hnew] at g1
 have fin : ∀ (M : Nat) (h' : Hp) (a2 : Option Addr) (gs : List GE) (c2 : Nat), SlNw h1 (nx + 1 + 1) nx1 (.slice a2 gs.length c2) encG gs → gs.length ≤ 60 → 0 < M → M < 24 → hget h' nx1 = some (.cells [.int .i64 (M : Int), .slice a2 gs.length c2] false) → hget h' nx = some (.cells [.int .i64 n, .slice a es.length cap, .int .i64 V, .int .u8 R, .int .u8 C] false) → hget h' (nx + 1) = some (.cells [.int .i64 0, .slice none 0 0] false) → (∀ g ∈ gs, GOk M g) →
   (∀ b, nx + 1 + 1 ≤ b → b < nx1 → hget h' b = hget h1 b) → (∀ b, b < nx → hget h' b = hget h1 b) → makek0 s (MakeG nx h) (.pointer (some ⟨nx, 0, none⟩)) (.pointer (some ⟨nx + 1, 0, none⟩)) (.pointer (some ⟨nx1, 0, none⟩)) h' (nx1 + 1) := by
  intro M h' a2 gs c2 hgs hgl hM0 hM e1 e2 e3 hok' hkk hkl
  unfold makek0
  simp (disch := omega) only [SS, ↓reduceIte, Nat.reduceAdd, Nat.reduceSub, Nat.reduceMul, Nat.reduceLT, Nat.reduceLeDiff, Nat.reduceEqDiff, Int.reduceBEq, Int.reduceLT, Int.reduceNeg, e1, e2, e3]
  refine within_c.mono ?_
  rintro r h2 nx2 ⟨rfl, rfl, rfl⟩
  obtain ⟨f, hf, hfl⟩ := wnF_nat (k := V) (n := M)
  rw [hf]
  simp (disch := omega) only [SS, ↓reduceIte, Nat.reduceAdd, Nat.reduceSub, Nat.reduceMul, Nat.reduceLT, Nat.reduceLeDiff, Nat.reduceEqDiff, Int.reduceBEq, Int.reduceLT, Int.reduceNeg, e1, e2, e3, bin_rem]
  refine ⟨M, f, _, _, _, gs, rfl, hM0, hM, by omega, hgl, hok', hgs.keep (fun b h1 h2 => by rw [hold (by omega), hkk b h1 h2]) (by omega) (by omega), by omega, fun b hb => ?_⟩
  rw [hold (by omega), hkl b hb, hk b (by omega), hold (by omega), hold (by omega)]
 simp (disch := omega) only [SS, ↓reduceIte, Nat.reduceAdd, Nat.reduceSub, Nat.reduceMul, Nat.reduceLT, Nat.reduceLeDiff, Nat.reduceEqDiff, Int.reduceBEq, Int.reduceLT, Int.reduceNeg]
 refine ⟨fun h0 => ?_, fun h0 => ?_⟩
 ·have hN0 : N = 0 := by simpa using h0
  subst hN0
  refine fin 1 _ none [] 0 ⟨none, 0, rfl, fun h => absurd rfl h⟩ (by simp) (by omega) (by omega) (by rw [hnew]; rfl) ?_ ?_ (fun g hg => by cases hg) ?_ ?_
  ·rw [hold (by omega), hold (by omega), hold (by omega)]; exact g0
  ·rw [hold (by omega), hold (by omega), hold (by omega)]; exact g1
  ·intro b h1 h2; rw [hold (by omega), hold (by omega), hold (by omega)]
  ·intro b h1; rw [hold (by omega), hold (by omega), hold (by omega)]
 ·have hN0 : N ≠ 0 := by simpa using h0
  refine fin N _ a2 gs c2 hgs hgl (by omega) hN (by rw [hnew]) ?_ ?_ hok ?_ ?_
  ·rw [hold (by omega), hold (by omega)]; exact g0
  ·rw [hold (by omega), hold (by omega)]; exact g1
  ·intro b h1 h2; rw [hold (by omega), hold (by omega)]
  ·intro b h1; rw [hold (by omega), hold (by omega)]
def gE (g : GE) : Edg := ((g.f : Int), (g.t : Int), g.w)
def eG (x : Edg) : GE := ⟨x.1.toNat, x.2.1.toNat, x.2.2⟩
theorem flat_gE : ∀ l : List GE, flat encG l = flat encE (l.map gE)
 | [] => rfl
 | x :: l => by show encG x ++ flat encG l = encE (gE x) ++ flat encE (l.map gE); rw [flat_gE l]; rfl
theorem smallB_of {n : Int} (h0 : 0 ≤ n) (h1 : n < 2147483648) : smallB n = true := by
 obtain ⟨m, rfl⟩ := Int.eq_ofNat_of_zero_le h0
 show Nat.blt m 2147483648 = true
 rw [blt_dec]
 exact decide_eq_true (by omega)
theorem small_gE {N : Nat} {g : GE} (hN : N ≤ 2147483648) (h : GOk N g) : Small (gE g) := ⟨smallB_of (by show (0 : Int) ≤ (g.f : Int); omega) (by have := h.1; show ((g.f : Int)) < _; omega), smallB_of (by show (0 : Int) ≤ (g.t : Int); omega) (by have := h.2.1; show ((g.t : Int)) < _; omega), smallB_of h.2.2.1 (by have := h.2.2.2; show g.w < _; omega)⟩
theorem edgesB_flat : ∀ {es : List Edg}, (∀ x ∈ es, Small x) → edgesB (flat encE es) = some es
 | [], _ => rfl
 | x :: es, h => by
  obtain ⟨a, b, c⟩ := x
  obtain ⟨h1, h2, h3⟩ := h (a, b, c) (List.mem_cons_self ..)
  have ih := edgesB_flat (es := es) fun y hy => h y (List.mem_cons_of_mem _ hy)
  show (match edgesB (flat encE es) with
  | some r => bif smallB a && (smallB b && smallB c) then some ((a, b, c) :: r) else none
  | none => none) = _
  rw [ih, show smallB a = true from h1, show smallB b = true from h2, show smallB c = true from h3]
  rfl
theorem noneB_ok {x : Edg} : ∀ {l : List Edg}, (∀ y ∈ l, ltE y x = false) → noneB ltE x l = true
 | [], _ => rfl
 | y :: l, h => by
  show (bif ltE y x then false else noneB ltE x l) = true
  rw [h y (List.mem_cons_self ..)]
  exact noneB_ok fun z hz => h z (List.mem_cons_of_mem _ hz)
theorem ltE_f {x y : Edg} : ltE x y = false ↔ ¬ cmpE x y < 0 := ltE_eq
theorem ltE_t {x y : Edg} : ltE x y = true ↔ cmpE x y < 0 := by
 rw [← Decidable.not_iff_not, ← ltE_f]; simp
theorem sortedB_mk : ∀ {l : List Edg}, l.Pairwise (fun x y => ltE y x = false) → sortedB ltE l = true
 | [], _ => rfl
 | x :: l, h => by
  show (bif noneB ltE x l then sortedB ltE l else false) = true
  rw [noneB_ok fun y hy => List.rel_of_pairwise_cons h hy]
  exact sortedB_mk h.of_cons
theorem insB_mem {x z : Edg} : ∀ {l : List Edg}, z ∈ insB ltE x l → z = x ∨ z ∈ l
 | [], h => .inl (by simpa [insB] using h)
 | y :: l, h => by
  have h : z ∈ (bif ltE x y then x :: y :: l else y :: insB ltE x l) := h
  cases hb : ltE x y with
  | true => rw [hb] at h; simpa using h
  | false =>
   rw [hb] at h
   rcases List.mem_cons.1 h with h | h
   ·exact .inr (by simp [h])
   ·rcases insB_mem h with h | h
    ·exact .inl h
    ·exact .inr (by simp [h])
theorem insB_sorted {x : Edg} : ∀ {l : List Edg}, l.Pairwise (fun x y => ltE y x = false) → (insB ltE x l).Pairwise (fun x y => ltE y x = false)
 | [], _ => by simp [insB]
 | y :: l, h => by
  show (bif ltE x y then x :: y :: l else y :: insB ltE x l).Pairwise _
  cases hb : ltE x y with
  | true =>
   have hxy := ltE_f.2 (cmpE_as x y (ltE_t.1 hb))
   refine List.Pairwise.cons (fun z hz => ?_) h
   rcases List.mem_cons.1 hz with rfl | hz
   ·exact hxy
   ·exact ltE_f.2 (cmpE_tr x y z (ltE_f.1 hxy) (ltE_f.1 (List.rel_of_pairwise_cons h hz)))
  | false =>
   refine List.Pairwise.cons (fun z hz => ?_) (insB_sorted h.of_cons)
   rcases insB_mem hz with rfl | hz
   ·exact hb
   ·exact List.rel_of_pairwise_cons h hz
theorem sortB_sorted : ∀ (l : List Edg), sortedB ltE (sortB ltE l) = true := fun l => sortedB_mk (by
 induction l with
 | nil => exact List.Pairwise.nil
 | cons x l ih => exact insB_sorted ih)
def Ends (x y : Edg) : Prop := x.1 = y.1 ∧ x.2.1 = y.2.1
theorem combS_ends (e : Edg) : ∀ (l : List Edg), (∀ x ∈ combS e l, ∃ y ∈ e :: l, Ends x y) ∧ ∀ y ∈ e :: l, ∃ x ∈ combS e l, Ends x y
 | [] => ⟨fun x hx => ⟨x, hx, rfl, rfl⟩, fun y hy => ⟨y, hy, rfl, rfl⟩⟩
 | z :: l => by
  obtain ⟨h1, h2⟩ := combS_ends e l
  have hc : combS e (z :: l) = (bif ieq z.1 e.1 && ieq z.2.1 e.2.1 then (z.1, z.2.1, bif iblt e.2.2 z.2.2 then e.2.2 else z.2.2) :: l else z :: combS e l) := rfl
  rw [hc]
  cases hb : (ieq z.1 e.1 && ieq z.2.1 e.2.1) with
  | true =>
   simp only [Bool.and_eq_true, ieq_beq, beq_iff_eq] at hb
   simp only [cond_true]
   refine ⟨fun x hx => ?_, fun y hy => ?_⟩
   ·rcases List.mem_cons.1 hx with rfl | hx
    ·exact ⟨z, by simp, rfl, rfl⟩
    ·exact ⟨x, by simp [hx], rfl, rfl⟩
   ·rcases List.mem_cons.1 hy with rfl | hy
    ·exact ⟨_, List.mem_cons_self .., hb.1, hb.2⟩
    ·rcases List.mem_cons.1 hy with rfl | hy
     ·exact ⟨_, List.mem_cons_self .., rfl, rfl⟩
     ·exact ⟨y, List.mem_cons_of_mem _ hy, rfl, rfl⟩
  | false =>
   simp only [cond_false]
   refine ⟨fun x hx => ?_, fun y hy => ?_⟩
   ·rcases List.mem_cons.1 hx with rfl | hx
    ·exact ⟨x, by simp, rfl, rfl⟩
    ·obtain ⟨y, hy, he⟩ := h1 x hx
     refine ⟨y, ?_, he⟩
     rcases List.mem_cons.1 hy with rfl | hy
     ·simp
     ·simp [hy]
   ·rcases List.mem_cons.1 hy with rfl | hy
    ·obtain ⟨x, hx, he⟩ := h2 y (List.mem_cons_self ..)
     exact ⟨x, List.mem_cons_of_mem _ hx, he⟩
    ·rcases List.mem_cons.1 hy with rfl | hy
     ·exact ⟨y, List.mem_cons_self .., rfl, rfl⟩
     ·obtain ⟨x, hx, he⟩ := h2 y (List.mem_cons_of_mem _ hy)
      exact ⟨x, List.mem_cons_of_mem _ hx, he⟩
theorem combG_ends : ∀ (l acc : List Edg), (∀ x ∈ combG acc l, ∃ y ∈ acc ++ l, Ends x y) ∧ ∀ y ∈ acc ++ l, ∃ x ∈ combG acc l, Ends x y
 | [], acc => ⟨fun x hx => ⟨x, by simpa [combG] using hx, rfl, rfl⟩, fun y hy => ⟨y, by simpa [combG] using hy, rfl, rfl⟩⟩
 | e :: l, acc => by
  obtain ⟨h1, h2⟩ := combG_ends l (combS e acc)
  obtain ⟨h3, h4⟩ := combS_ends e acc
  refine ⟨fun x hx => ?_, fun y hy => ?_⟩
  ·obtain ⟨y, hy, he⟩ := h1 x hx
   rcases List.mem_append.1 hy with hy | hy
   ·obtain ⟨z, hz, he2⟩ := h3 y hy
    refine ⟨z, ?_, he.1.trans he2.1, he.2.trans he2.2⟩
    rcases List.mem_cons.1 hz with rfl | hz
    ·simp
    ·simp [hz]
   ·exact ⟨y, by simp [hy], he⟩
  ·have key : ∀ z ∈ e :: acc, ∃ x ∈ combG (combS e acc) l, Ends x z := fun z hz => by
    obtain ⟨x, hx, he⟩ := h4 z hz
    obtain ⟨x2, hx2, he2⟩ := h2 x (List.mem_append_left _ hx)
    exact ⟨x2, hx2, he2.1.trans he.1, he2.2.trans he.2⟩
   rcases List.mem_append.1 hy with hy | hy
   ·exact key y (List.mem_cons_of_mem _ hy)
   ·rcases List.mem_cons.1 hy with rfl | hy
    ·exact key _ (List.mem_cons_self ..)
    ·exact h2 y (List.mem_append_right _ hy)
structure CanOf (N : Nat) (gs cs : List GE) : Prop where
 eq : cs.map gE = sortB ltE (combG [] (gs.map gE))
 ends : SameEnds gs cs
 ok : ∀ g ∈ cs, GOk N g
 len : cs.length ≤ gs.length
theorem canOf (N : Nat) (gs : List GE) (hN : N ≤ 2147483648) (hok : ∀ g ∈ gs, GOk N g) : CanOf N gs ((sortB ltE (combG [] (gs.map gE))).map eG) := by
 have hsm : ∀ x ∈ combG [] (gs.map gE), Small x := combG_small (fun x hx => by
  obtain ⟨g, hg, rfl⟩ := List.mem_map.1 hx
  exact small_gE hN (hok g hg)) (fun x hx => by cases hx)
 have hp := sortB_perm (lt := ltE) (combG [] (gs.map gE))
 obtain ⟨e1, e2⟩ := combG_ends (gs.map gE) []
 have hback : ∀ x ∈ combG [] (gs.map gE), gE (eG x) = x := fun x hx => by
  obtain ⟨h1, h2, h3⟩ := hsm x hx
  obtain ⟨a, ha, _⟩ := smallB_nat h1
  obtain ⟨b, hb, _⟩ := smallB_nat h2
  obtain ⟨x1, x2, x3⟩ := x
  simp only at ha hb
  subst ha; subst hb
  rfl
 have heq : ((sortB ltE (combG [] (gs.map gE))).map eG).map gE = sortB ltE (combG [] (gs.map gE)) := by
  rw [List.map_map]
  conv => rhs; rw [← List.map_id (sortB ltE (combG [] (gs.map gE)))]
  exact List.map_congr_left fun x hx => hback x (hp.subset hx)
 have from_ : ∀ x ∈ combG [] (gs.map gE), ∃ g ∈ gs, (eG x).f = g.f ∧ (eG x).t = g.t := fun x hx => by
  obtain ⟨y, hy, h1, h2⟩ := e1 x hx
  obtain ⟨g, hg, rfl⟩ := List.mem_map.1 (by simpa using hy)
  exact ⟨g, hg, by show x.1.toNat = _; rw [h1]; rfl, by show x.2.1.toNat = _; rw [h2]; rfl⟩
 refine ⟨heq, ⟨fun g hg => ?_, fun c hc => ?_⟩, fun c hc => ?_, ?_⟩
 ·obtain ⟨x, hx, h1, h2⟩ := e2 (gE g) (by simpa using List.mem_map_of_mem hg)
  exact ⟨eG x, List.mem_map_of_mem (hp.symm.subset hx), by show x.1.toNat = _; rw [h1]; rfl, by show x.2.1.toNat = _; rw [h2]; rfl⟩
 ·obtain ⟨x, hx, rfl⟩ := List.mem_map.1 hc
  obtain ⟨g, hg, h1, h2⟩ := from_ x (hp.subset hx)
  exact ⟨g, hg, h1.symm, h2.symm⟩
 ·obtain ⟨x, hx, rfl⟩ := List.mem_map.1 hc
  have hx := hp.subset hx
  obtain ⟨g, hg, h1, h2⟩ := from_ x hx
  obtain ⟨_, _, h3⟩ := hsm x hx
  obtain ⟨w, hw, hwl⟩ := smallB_nat h3
  exact ⟨by rw [h1]; exact (hok g hg).1, by rw [h2]; exact (hok g hg).2.1, by show 0 ≤ x.2.2; rw [hw]; omega, by show x.2.2 ≤ _; rw [hw]; omega⟩
 ·rw [List.length_map, hp.length_eq]
  have := combG_len (gs.map gE) []
  simpa using this
def CanK (N : Nat) (gs : List GE) (nx : Nat) (h : Hp) : KC' := fun r h' nx' => ∃ v2 cs, r = .agg ⟨[.int .i64 (N : Int), v2]⟩ ∧ SlNw h' nx nx' v2 encG cs ∧ CanOf N gs cs ∧ Keep nx h h' ∧ nx ≤ nx'
theorem combine_o {gs : List GE} {N : Nat} {s : Bool} {h : Hp} {nx : Nat} {v : Value} (hv : SlRd h nx v encG gs) (hN : N ≤ 2147483648) (hok : ∀ g ∈ gs, GOk N g) (hl : gs.length ≤ 60) :
  Cv Q O s 68 [.int .i64 1, v] h nx (fun r h' nx' => ∃ v2 cs, r = .tuple ⟨[v2, .int .i64 0]⟩ ∧ SlNw h' nx nx' v2 encG cs ∧ CanOf N gs cs ∧ Keep nx h h' ∧ nx ≤ nx') := by
 obtain ⟨a, cap, rfl, hc⟩ := id hv
 have hcan := canOf N gs hN hok
 by_cases h0 : gs = []
 ·subst h0
  have e : gCombF [.int .i64 1, .slice a 0 cap] h nx = .ok (.tuple ⟨[.slice none 0 0, .int .i64 0]⟩) h nx := by
   cases a <;> rfl
  exact Cv.byOrc (g := gCombF) rfl e ⟨_, [], rfl, ⟨none, 0, rfl, fun h => absurd rfl h⟩, hcan, Keep.refl _ _, Nat.le_refl _⟩
 ·obtain ⟨b, sp, ro, hb, rfl, hg⟩ := hc h0
  have hlen : gs.length ≠ 0 := fun e => h0 (List.eq_nil_of_length_eq_zero e)
  have hsm : ∀ x ∈ gs.map gE, Small x := fun x hx => by
   obtain ⟨g, hg, rfl⟩ := List.mem_map.1 hx
   exact small_gE hN (hok g hg)
  rw [flat_gE] at hg
  have hfl : (flat encE (gs.map gE)).length = gs.length * 3 := by rw [flat_len (k := 3) (fun _ => rfl), List.length_map]
  generalize hL : sortB ltE (combG [] (gs.map gE)) = L at hcan
  have hgl : gCombF [.int .i64 1, .slice (some ⟨b, 0, sp⟩) gs.length cap] h nx = combResF h nx L := by
   obtain ⟨m, hm⟩ : ∃ m, gs.length = m + 1 := ⟨gs.length - 1, by omega⟩
   have e2 : lcut (gs.length * 3) (ldrop (flat encE (gs.map gE)) 0) = some (flat encE (gs.map gE)) := by
    rw [ldrop_eq, List.drop_zero, lcut_eq, if_pos (by rw [hfl]; exact Nat.le_refl _), ← hfl, List.take_length]
   rw [hm] at e2 ⊢
   show (match hget h b with
    | some (.cells cs _) => (match lcut ((m + 1) * 3) (ldrop cs 0) with
     | some l => (match edgesB l with
      | some es => bif Nat.ble es.length 60 then combResF h nx (sortB ltE (combG [] es)) else .no "Combine"
      | none => .no "Combine")
     | none => .no "Combine")
    | _ => .no "Combine") = _
   rw [hg]
   simp only [e2, edgesB_flat hsm, List.length_map, hL]
   rw [show Nat.ble gs.length 60 = true by simpa using hl]
   rfl
  have hLn : L ≠ [] := fun e => by
   have := (sortB_perm (lt := ltE) (combG [] (gs.map gE))).length_eq
   rw [hL, e] at this
   have e1 := (combG_ends (gs.map gE) []).2
   obtain ⟨g, l, rfl⟩ : ∃ g l, gs = g :: l := by cases gs with | nil => exact absurd rfl h0 | cons g l => exact ⟨g, l, rfl⟩
   obtain ⟨x, hx, _⟩ := e1 (gE g) (by simp)
   have : combG [] ((g :: l).map gE) = [] := List.eq_nil_of_length_eq_zero this.symm
   rw [this] at hx; cases hx
  have hso : sortedB ltE L = true := by rw [← hL]; exact sortB_sorted _
  have e3 : combResF h nx L = .ok (.tuple ⟨[.slice (some ⟨nx, 0, some 3⟩) L.length L.length, .int .i64 0]⟩) (hset h nx (.cells (flat encE L) false)) (nx + 1) := by
   cases L with
   | nil => exact absurd rfl hLn
   | cons x l => show (bif sortedB ltE (x :: l) then _ else _) = _; rw [hso]; rfl
  refine Cv.byOrc (g := gCombF) rfl (hgl.trans e3) ⟨_, L.map eG, rfl, ⟨some ⟨nx, 0, some 3⟩, L.length, by rw [List.length_map], fun _ => ⟨nx, some 3, false, Nat.le_refl _, Nat.lt_succ_self _, rfl, ?_⟩⟩, hcan, fun c hc => hold (by omega), Nat.le_succ _⟩
  rw [hnew, flat_gE, hcan.eq, hL]
theorem canon_cv {gs : List GE} {N : Nat} {s : Bool} {h : Hp} {nx : Nat} {v : Value} (hv : SlRd h nx v encG gs) (hN : N ≤ 2147483648) (hok : ∀ g ∈ gs, GOk N g) (hl : gs.length ≤ 60) :
  Cv Q O s 56 [.agg ⟨[.int .i64 (N : Int), v]⟩] h nx (CanK N gs nx h) := by
 refine canonv ?_
 obtain ⟨a, cap, rfl, hc⟩ := id hv
 unfold canon
 simp (disch := omega) only [SS, ↓reduceIte, Nat.reduceAdd, Nat.reduceSub, Nat.reduceMul, Nat.reduceLT, Nat.reduceLeDiff, Nat.reduceEqDiff, Int.reduceBEq, Int.reduceLT, Int.reduceNeg]
 have k0 : ∀ {o1 o2 : AObj}, Keep nx h (hset (hset h nx o1) (nx + 1) o2) := fun {o1 o2} b hb => by rw [hold (by omega), hold (by omega)]
 refine (combine_o (hv.keep k0 (by omega)) hN hok hl).mono ?_
 rintro r h1 nx1 ⟨v2, cs, rfl, hcs, hcan, hk, hle⟩
 have g1 := (hk nx (by omega)).trans (hold (by omega))
 have g2 := hk (nx + 1) (by omega)
 rw [hnew] at g1 g2
 obtain ⟨a2, cap2, rfl, hc2⟩ := id hcs
 simp (disch := omega) only [SS, ↓reduceIte, Nat.reduceAdd, Nat.reduceSub, Nat.reduceMul, Nat.reduceLT, Nat.reduceLeDiff, Nat.reduceEqDiff, Int.reduceBEq, Int.reduceLT, Int.reduceNeg, g1, g2]
 refine ⟨_, cs, rfl, hcs.keep (fun b h1 h2 => hold (by omega)) (by omega) (Nat.le_refl _), hcan, (k0.trans hk (by omega)).set (by omega), by omega⟩
def outsOf : Nat → List GE → List (List Nat)
 | N, [] => List.replicate N []
 | N, e :: es => let g := outsOf N es; g.set e.f (e.t :: g.getD e.f [])
def outL (N : Nat) (es : List GE) : List (List Nat) := (List.range N).map fun u => (es.filter fun e => e.f == u).map GE.t
theorem outL_len (N : Nat) (es : List GE) : (outL N es).length = N := by simp [outL]
theorem outL_get {N : Nat} {es : List GE} {u : Nat} (hu : u < N) : (outL N es)[u]? = some ((es.filter fun e => e.f == u).map GE.t) := by simp [outL, hu]
theorem outL_nil (N : Nat) : outL N [] = List.replicate N [] := by
 apply List.ext_getElem?
 intro i
 by_cases h : i < N <;> simp [outL, h]
theorem outL_snoc {N : Nat} {es : List GE} {e : GE} (he : e.f < N) : outL N (es ++ [e]) = (outL N es).set e.f ((es.filter fun x => x.f == e.f).map GE.t ++ [e.t]) := by
 apply List.ext_getElem?
 intro i
 rw [List.getElem?_set]
 by_cases h : i < N
 ·rw [outL_get h]
  by_cases hi : e.f = i
  ·subst hi
   rw [if_pos rfl, if_pos (by rw [outL_len]; exact h)]
   simp [List.filter_append]
  ·rw [if_neg hi, outL_get h]
   simp [List.filter_append, hi]
 ·rw [List.getElem?_eq_none (by rw [outL_len]; omega)]
  by_cases hi : e.f = i
  ·omega
  ·rw [if_neg hi, List.getElem?_eq_none (by rw [outL_len]; omega)]
theorem rd_edge {i : Nat} {cs : List GE} {e : GE} (he : cs[i]? = some e) : loadC (some 3) (i * 3) (flat encG cs) = .ok (.agg ⟨[.int .i64 (e.f : Int), .int .i64 (e.t : Int), .int .i64 e.w]⟩) := by
 have hg := flat_get (enc := encG) (k := 3) (fun _ => rfl) he
 have hi := (List.getElem?_eq_some_iff.1 he).1
 rw [loadC_many, if_pos (by rw [flat_len (k := 3) (fun _ => rfl)]; omega), hg]
 rfl
def OutK (N : Nat) (gs : List GE) (nx : Nat) (h : Hp) : KC' := fun r h' nx' => ∃ bo cs sv, r = .slice (some ⟨bo, 0, none⟩) N N ∧ CanOf N gs cs ∧ Lls h' bo nx nx' sv (outL N cs) ∧ nx ≤ bo ∧ Keep nx h h' ∧ nx ≤ nx'
def OutJ (N bo nL : Nat) (a : Option Addr) (cap : Nat) (cs : List GE) (hL : Hp) (m : Nat) (vs : List Value) (h' : Hp) (nx' : Nat) : Prop :=
 ∃ (i : Nat) (sv : List SV), m = cs.length - i ∧ i ≤ cs.length ∧ vs = [.slice (some ⟨bo, 0, none⟩) N N, .slice a cs.length cap, .int .i64 (cs.length : Int), .int .i64 (i : Int)] ∧ Lls h' bo nL nx' sv (outL N (cs.take i)) ∧ (∀ c, c < nL → c ≠ bo → hget h' c = hget hL c) ∧ nL ≤ nx'
theorem outs_cv {gs : List GE} {N : Nat} {s : Bool} {h : Hp} {nx : Nat} {v : Value} (hv : SlRd h nx v encG gs) (hN : N ≤ 100000) (hok : ∀ g ∈ gs, GOk N g) (hl : gs.length ≤ 60) :
  Cv Q O s 66 [.agg ⟨[.int .i64 (N : Int), v]⟩] h nx (OutK N gs nx h) := by
 refine outsv ?_
 obtain ⟨a, cap, rfl, hc⟩ := id hv
 unfold outs
 simp (disch := omega) only [SS, ↓reduceIte, Nat.reduceAdd, Nat.reduceSub, Nat.reduceMul, Nat.reduceLT, Nat.reduceLeDiff, Nat.reduceEqDiff, Int.reduceBEq, Int.reduceLT, Int.reduceNeg]
 have k0 : ∀ {o1 o2 : AObj}, Keep nx h (hset (hset h nx o1) (nx + 1) o2) := fun {o1 o2} b hb => by rw [hold (by omega), hold (by omega)]
 refine (canon_cv (hv.keep k0 (show nx ≤ nx + 1 + 1 by omega)) (by omega) hok hl).mono ?_
 rintro r h1 nx1 ⟨v2, cs, rfl, hcs, hcan, hk, hle⟩
 have g2 := hk (nx + 1) (by omega)
 rw [hnew] at g2
 obtain ⟨a2, cap2, rfl, hc2⟩ := id hcs
 simp (disch := omega) only [SS, ↓reduceIte, Nat.reduceAdd, Nat.reduceSub, Nat.reduceMul, Nat.reduceLT, Nat.reduceLeDiff, Nat.reduceEqDiff, Int.reduceBEq, Int.reduceLT, Int.reduceNeg]
 refine Lp.mk (OutJ N (nx + 1) nx1 a2 cap2 cs h1) cs.length ⟨0, List.replicate N (none, 0), rfl, by omega, rfl, ⟨?_, by omega, by simp [outL_len], fun j s g hs hg => .inl ?_, fun j k b nj nk hj => ?_, fun j nj hj => ?_⟩, fun c _ _ => rfl, Nat.le_refl _⟩ ?_
 ·rw [g2]; simp [svs, svV]
 ·simp only [List.getElem?_replicate] at hs
  rw [List.take_zero, outL_nil, List.getElem?_replicate] at hg
  split at hs
  ·rw [if_pos ‹_›] at hg; cases hs; cases hg; exact ⟨rfl, rfl⟩
  ·cases hs
 ·rw [List.getElem?_replicate] at hj; split at hj <;> cases hj
 ·rw [List.getElem?_replicate] at hj; split at hj <;> cases hj
 rintro m _ h2 nx2 ⟨i, sv, rfl, hi, rfl, L, hfr, hnx2⟩
 rw [outsb0]
 unfold outsl0
 simp (disch := omega) only [SS, ↓reduceIte, Nat.reduceAdd, Nat.reduceSub, Nat.reduceMul, Nat.reduceLT, Nat.reduceLeDiff, Nat.reduceEqDiff, Int.reduceBEq, Int.reduceLT, Int.reduceNeg]
 refine ⟨fun hlt => ?_, fun hge => ?_⟩
 ·obtain ⟨e, he⟩ := get_ex hlt
  have hef := (hcan.ok e (List.mem_of_getElem? he)).1
  obtain ⟨b, sp, ro, hb1, hb2, rfl, hb⟩ := hc2 (fun e0 => by rw [e0] at hlt; exact absurd hlt (Nat.not_lt_zero _))
  have hb3 := (hfr b hb2 (by omega)).trans hb
  obtain ⟨sq, hs⟩ := get_ex (l := sv) (i := e.f) (by rw [L.len, outL_len]; exact hef)
  have hbo := L.bel
  simp (disch := omega) only [SS, ↓reduceIte, Nat.reduceAdd, Nat.reduceSub, Nat.reduceMul, Nat.reduceLT, Nat.reduceLeDiff, Nat.reduceEqDiff, Int.reduceBEq, Int.reduceLT, Int.reduceNeg, hb3, rd_edge he, L.at_, svs_get hs]
  have hg : (outL N (cs.take i))[e.f]? = some (((cs.take i).filter fun x => x.f == e.f).map GE.t) := outL_get hef
  generalize hgd : ((cs.take i).filter fun x => x.f == e.f).map GE.t = g at hg
  have hgl : g.length ≤ 60 := by
   rw [← hgd, List.length_map]
   have := List.length_filter_le (fun x : GE => x.f == e.f) (cs.take i)
   have := List.length_take_le i cs
   have := hcan.len
   omega
  have hsb : ∀ c, sq.1 = some c → c < nx2 := fun c hc => by
   obtain ⟨s1, s2⟩ := sq
   have hc : s1 = some c := hc
   subst hc
   exact (L.below hs).2
  refine EK_appI ((L.gr hs hg).keep (fun c hc => ?_)) (hnew _ _ _) (by rw [nats_len]; omega) fun h3 hn3 hf3 => ?_
  ·have := hsb c hc
   rw [hold (by omega), hold (by omega), hold (by omega)]
  rw [← nats_app] at hn3
  have hx3 : hget h3 nx2 = some (.cells [.int .i64 (e.f : Int), .int .i64 (e.t : Int), .int .i64 e.w] false) := by
   rw [hf3 nx2 (by omega) (fun e => by have := hsb nx2 e; omega), hold (by omega), hnew]
  have hf4 : ∀ c, c < nx2 → sq.1 ≠ some c → hget h3 c = hget h2 c := fun c hc hne => by
   rw [hf3 c (by omega) hne, hold (by omega), hold (by omega), hold (by omega)]
  have L2 := L.keep (h' := hset (hset (hset h2 nx2 (.cells [.int .i64 0, .int .i64 0, .int .i64 0] false)) nx2 (.cells [.int .i64 (e.f : Int), .int .i64 (e.t : Int), .int .i64 e.w] false)) (nx2 + 1) (.cells [.int .i64 (e.t : Int)] false)) (hi' := nx2 + 1 + 1) ?_ ?_ (by omega)
  obtain ⟨ho3, L3⟩ := L2.add (h' := h3) (nx' := nx2 + 1 + 1 + 1) (by omega) (by omega) hs hg (v := e.t) hn3 (fun c hc hne => hf3 c (by omega) hne)
  ·simp (disch := omega) only [SS, ↓reduceIte, Nat.reduceAdd, Nat.reduceSub, Nat.reduceMul, Nat.reduceLT, Nat.reduceLeDiff, Nat.reduceEqDiff, Int.reduceBEq, Int.reduceLT, Int.reduceNeg, hx3, ho3, nats_len]
   refine ⟨by omega, by rw [L.len, outL_len]; exact hef, cs.length - (i + 1), by omega, i + 1, sv.set e.f (some (nx2 + 1 + 1), g.length + 1), rfl, by omega, by rw [wrap_s (by have := hcan.len; omega)], ?_, fun c h1 h2 => ?_, by omega⟩
   ·have e1 : outL N (cs.take (i + 1)) = (outL N (cs.take i)).set e.f (g ++ [e.t]) := by
     rw [List.take_add_one, he, ← hgd]; exact outL_snoc hef
    rw [e1]
    have := svs_set sv e.f (some (nx2 + 1 + 1), g.length + 1)
    rw [← this] at L3
    exact L3
   ·rw [hold h2, hf4 c (by omega) (fun e0 => ?_)]
    ·exact hfr c h1 h2
    ·obtain ⟨s1, s2⟩ := sq
     have e0 : s1 = some c := e0
     subst e0
     have := (L.below hs).1
     omega
  ·rw [hold (by omega), hold (by omega), hold (by omega)]
  ·intro c h1 h2
   rw [hold (by omega), hold (by omega), hold (by omega)]
 ·have hie : i = cs.length := by omega
  subst hie
  rw [List.take_length] at L
  refine ⟨nx + 1, cs, sv, rfl, hcan, L.lower (by omega), by omega, fun c hc => ?_, by omega⟩
  rw [hfr c (by omega) (by omega), hk c (by omega)]
  exact k0 c hc
def EqJ (l l' : List Int) (a a' : Option Addr) (cap cap' : Nat) (h : Hp) (nx : Nat) (m : Nat) (vs : List Value) (h' : Hp) (nx' : Nat) : Prop :=
 ∃ i, m = l.length - i ∧ i ≤ l.length ∧ vs = [.slice a l.length cap, .slice a' l'.length cap', .bool false, .int .i64 (l.length : Int), .int .i64 (i : Int)] ∧ h' = h ∧ nx' = nx ∧ l.take i = l'.take i
theorem eq64_cv {s : Bool} {h : Hp} {nx : Nat} {v v' : Value} {l l' : List Int} (hv : SlRd h nx v encI l) (hv' : SlRd h nx v' encI l') (hl : l.length < 1000000) :
  Cv Q O s 52 [v, v'] h nx (fun r h' nx' => r = .bool (decide (l = l')) ∧ h' = h ∧ nx' = nx) := by
 refine eq64v ?_
 obtain ⟨a, cap, rfl, hc⟩ := id hv
 obtain ⟨a', cap', rfl, hc'⟩ := id hv'
 unfold eq64
 simp (disch := omega) only [SS, ↓reduceIte, Nat.reduceAdd, Nat.reduceSub, Nat.reduceMul, Nat.reduceLT, Nat.reduceLeDiff, Nat.reduceEqDiff, Int.reduceBEq, Int.reduceLT, Int.reduceNeg]
 refine ⟨fun hne => ?_, fun he => ?_⟩
 ·have : ¬ l = l' := fun e => by subst e; simp at hne
  simp [this]
 have he : l.length = l'.length := by
  have h2 : (l.length : Int) = (l'.length : Int) := by simpa using he
  omega
 refine Lp.mk (EqJ l l' a a' cap cap' h nx) l.length ⟨0, rfl, by omega, rfl, rfl, rfl, rfl⟩ ?_
 rintro m _ _ _ ⟨i, rfl, hi, rfl, rfl, rfl, ht⟩
 rw [eq64b0]
 unfold eq64l0
 simp (disch := omega) only [SS, ↓reduceIte, Nat.reduceAdd, Nat.reduceSub, Nat.reduceMul, Nat.reduceLT, Nat.reduceLeDiff, Nat.reduceEqDiff, Int.reduceBEq, Int.reduceLT, Int.reduceNeg]
 refine ⟨fun hlt => ?_, fun hge => ?_⟩
 ·obtain ⟨x, hx⟩ := get_ex hlt
  obtain ⟨y, hy⟩ := get_ex (l := l') (i := i) (by omega)
  obtain ⟨_, b, sp, ro, c1, hb, e1, hg⟩ := hv.at hx
  obtain ⟨_, b', sp', ro', c1', hb', e1', hg'⟩ := hv'.at hy
  cases e1; cases e1'
  rw [flat_ints] at hg hg'
  simp (disch := omega) only [SS, ↓reduceIte, Nat.reduceAdd, Nat.reduceSub, Nat.reduceMul, Nat.reduceLT, Nat.reduceLeDiff, Nat.reduceEqDiff, Int.reduceBEq, Int.reduceLT, Int.reduceNeg, hg, hg', ints_get hx, ints_get hy]
  refine ⟨fun hne => ?_, fun he2 => ?_⟩
  ·have : ¬ l = l' := fun e => by subst e; rw [hx] at hy; cases hy; simp at hne
   simp [this]
  ·have hxy : x = y := by simpa using he2
   subst hxy
   refine ⟨l.length - (i + 1), by omega, i + 1, rfl, by omega, by rw [wrap_s (by omega)], rfl, rfl, ?_⟩
   rw [List.take_add_one, List.take_add_one, hx, hy, ht]
 ·have : i = l.length := by omega
  subst this
  rw [List.take_length, he, List.take_length] at ht
  simp [ht]
def unre (l : List Int) : Nat := l.count (-1)
theorem unre_set {l : List Int} {w : Nat} {x : Int} (hw : l[w]? = some (-1)) (hx : x ≠ -1) : unre (l.set w x) + 1 = unre l := by
 unfold unre
 induction l generalizing w with
 | nil => simp at hw
 | cons y l ih =>
  cases w with
  | zero =>
   have hw : y = -1 := by simpa using hw
   subst hw
   simp [List.count_cons, hx]
  | succ w =>
   have := ih (w := w) (by simpa using hw)
   simp only [List.set_cons_succ, List.count_cons]
   omega
def FoundK (N : Nat) (gs : List GE) (sr : Nat) (nx : Nat) (h : Hp) : KC' := fun r h' nx' => ∃ (b1 b2 : Nat) (l p : List Int), r = .tuple ⟨[.slice (some ⟨b1, 0, some 1⟩) N N, .slice (some ⟨b2, 0, some 1⟩) N N]⟩ ∧ b1 < nx' ∧ b2 < nx' ∧
 hget h' b1 = some (.cells (ints l) false) ∧ hget h' b2 = some (.cells (ints p) false) ∧ Lev N gs sr l ∧ Par gs l N p ∧ Keep nx h h' ∧ nx ≤ nx'
def TwoI (h : Hp) (v1 v2 : Value) (l1 l2 : List Int) (lo hi : Nat) : Prop :=
 (l1 = [] ∧ l2 = [] ∧ v1 = .slice none 0 0 ∧ v2 = .slice none 0 0) ∨ ∃ b1 b2, b1 ≠ b2 ∧ lo ≤ b1 ∧ b1 < hi ∧ lo ≤ b2 ∧ b2 < hi ∧ v1 = .slice (some ⟨b1, 0, some 1⟩) l1.length l1.length ∧ v2 = .slice (some ⟨b2, 0, some 1⟩) l2.length l2.length ∧
  hget h b1 = some (.cells (ints l1) false) ∧ hget h b2 = some (.cells (ints l2) false)
theorem TwoI.gr {h : Hp} {v1 v2 : Value} {l1 l2 : List Int} {lo hi : Nat} (T : TwoI h v1 v2 l1 l2 lo hi) : ∃ o1 o2, Gr h encI 1 v1 l1 o1 ∧ Gr h encI 1 v2 l2 o2 ∧ (∀ b, o1 = some b → lo ≤ b ∧ b < hi ∧ o2 ≠ some b) ∧ ∀ b, o2 = some b → lo ≤ b ∧ b < hi := by
 rcases T with ⟨rfl, rfl, rfl, rfl⟩ | ⟨b1, b2, hne, h1, h2, h3, h4, rfl, rfl, g1, g2⟩
 ·exact ⟨none, none, Gr.nil, Gr.nil, ⟨fun b e => (by cases e), fun b e => (by cases e)⟩⟩
 ·rw [← flat_ints] at g1 g2
  exact ⟨some b1, some b2, .own g1, .own g2, fun b e => by cases e; exact ⟨h1, h2, fun e => hne (by cases e; rfl)⟩, fun b e => by cases e; exact ⟨h3, h4⟩⟩
def FJ0 (N sr nx : Nat) (h2 : Hp) (m : Nat) (vs : List Value) (h' : Hp) (nx' : Nat) : Prop :=
 ∃ (i : Nat) (v1 v2 : Value), m = N - i ∧ i ≤ N ∧ vs = [.int .i64 (sr : Int), .pointer (some ⟨nx, 0, none⟩), v1, v2, .int .i64 (N : Int), .int .i64 (i : Int)] ∧ TwoI h' v1 v2 (List.replicate i (-1)) (List.replicate i (-1)) (nx + 1) nx' ∧ Keep (nx + 1) h2 h' ∧ nx + 1 ≤ nx'
structure FQ (N nA nB b1 b2 bo : Nat) (sv : List SV) (gss : List (List Nat)) (nx : Nat) (h : Hp) (h' : Hp) (nx' : Nat) (l p : List Int) (q : List Nat) (vq : Value) (oq : Option Nat) : Prop where
 g1 : hget h' b1 = some (.cells (ints l) false)
 g2 : hget h' b2 = some (.cells (ints p) false)
 L : Lls h' bo nA nB sv gss
 row : Gr h' encI 1 vq (nats q) oq
 ro : ∀ b, oq = some b → nB ≤ b ∧ b < nx'
 lt : ∀ a ∈ q, a < N
 keep : Keep nx h h'
 le : nB ≤ nx'
def FJ1 (N sr nA nB b1 b2 bo : Nat) (cs : List GE) (sv : List SV) (nx : Nat) (h : Hp) (m : Nat) (vs : List Value) (h' : Hp) (nx' : Nat) : Prop :=
 ∃ (l p : List Int) (q D : List Nat) (vq : Value) (oq : Option Nat), m = unre l + q.length ∧ unre l + q.length ≤ N ∧ vs = [.slice (some ⟨b1, 0, some 1⟩) N N, .slice (some ⟨b2, 0, some 1⟩) N N, .slice (some ⟨bo, 0, none⟩) N N, vq] ∧ Bfs N cs sr l p q D ∧ FQ N nA nB b1 b2 bo sv (outL N cs) nx h h' nx' l p q vq oq
def FJ2 (N sr nA nB b1 b2 bo c0 u k : Nat) (cs : List GE) (sv : List SV) (g : List Nat) (D : List Nat) (vg : Value) (nx : Nat) (h : Hp) (m : Nat) (vs : List Value) (h' : Hp) (nx' : Nat) : Prop :=
 ∃ (j : Nat) (l p : List Int) (q : List Nat) (vq : Value) (oq : Option Nat), m = g.length - j ∧ j ≤ g.length ∧ unre l + q.length = c0 ∧ vs = [.slice (some ⟨b1, 0, some 1⟩) N N, .slice (some ⟨b2, 0, some 1⟩) N N, .slice (some ⟨bo, 0, none⟩) N N, vq, .int .i64 (u : Int), vg, .int .i64 (g.length : Int), .int .i64 (j : Int)] ∧
  BfsI N cs sr l p q D u k (g.take j) ∧ FQ N nA nB b1 b2 bo sv (outL N cs) nx h h' nx' l p q vq oq
theorem found_cv {gs : List GE} {N sr : Nat} {s : Bool} {h : Hp} {nx : Nat} {v : Value} (hv : SlRd h nx v encG gs) (hN : N ≤ 100000) (hsr : sr < N) (hok : ∀ g ∈ gs, GOk N g) (hl : gs.length ≤ 60) :
  Cv Q O s 51 [.agg ⟨[.int .i64 (N : Int), v]⟩, .int .i64 (sr : Int)] h nx (FoundK N gs sr nx h) := by
 refine foundv ?_
 obtain ⟨a, cap, rfl, hc⟩ := id hv
 unfold found
 simp (disch := omega) only [SS, ↓reduceIte, Nat.reduceAdd, Nat.reduceSub, Nat.reduceMul, Nat.reduceLT, Nat.reduceLeDiff, Nat.reduceEqDiff, Int.reduceBEq, Int.reduceLT, Int.reduceNeg]
 refine Lp.mk (FJ0 N sr nx (hset h nx (.cells [.int .i64 (N : Int), .slice a gs.length cap] false))) N ⟨0, _, _, rfl, by omega, rfl, .inl ⟨rfl, rfl, rfl, rfl⟩, Keep.refl _ _, Nat.le_refl _⟩ ?_
 rintro m _ h2 nx2 ⟨i, v1, v2, rfl, hi, rfl, T, hk, hle⟩
 rw [foundb0]
 unfold foundl0
 simp (disch := omega) only [SS, ↓reduceIte, Nat.reduceAdd, Nat.reduceSub, Nat.reduceMul, Nat.reduceLT, Nat.reduceLeDiff, Nat.reduceEqDiff, Int.reduceBEq, Int.reduceLT, Int.reduceNeg]
 obtain ⟨o1, o2, G1, G2, B1, B2⟩ := T.gr
 refine ⟨fun hlt => ?_, fun hge => ?_⟩
 ·refine EK_appI (G1.keep fun b hb => hold (by have := B1 b hb; omega)) (hnew _ _ _) (by simp; omega) fun h3 hn3 hf3 => ?_
  (try simp (disch := omega) only [SS, ↓reduceIte, Nat.reduceAdd, Nat.reduceSub, Nat.reduceMul, Nat.reduceLT, Nat.reduceLeDiff, Nat.reduceEqDiff, Int.reduceBEq, Int.reduceLT, Int.reduceNeg])
  refine EK_appI (G2.keep fun b hb => ?_) (hnew _ _ _) (by simp; omega) fun h4 hn4 hf4 => ?_
  ·have := B2 b hb
   rw [hold (by omega), hf3 b (by omega) (fun e => (B1 b e).2.2 hb), hold (by omega)]
  have e1 : (List.replicate i (-1 : Int)).length + 1 = (List.replicate (i + 1) (-1 : Int)).length := by simp
  have e2 : List.replicate i (-1 : Int) ++ [-1] = List.replicate (i + 1) (-1) := by rw [← List.replicate_succ']
  rw [e2] at hn3 hn4
  (try simp (disch := omega) only [SS, ↓reduceIte, Nat.reduceAdd, Nat.reduceSub, Nat.reduceMul, Nat.reduceLT, Nat.reduceLeDiff, Nat.reduceEqDiff, Int.reduceBEq, Int.reduceLT, Int.reduceNeg])
  rw [e1, wrap_s (by omega)]
  refine ⟨N - (i + 1), by omega, i + 1, _, _, rfl, by omega, rfl, .inr ⟨nx2 + 1, nx2 + 1 + 1 + 1, by omega, by omega, by omega, by omega, by omega, rfl, rfl, ?_, hn4⟩, fun b hb => ?_, by omega⟩
  ·rw [hf4 _ (by omega) (fun e => by have := B2 _ e; omega), hold (by omega), hn3]
  ·rw [hf4 b (by omega) (fun e => by have := B2 _ e; omega), hold (by omega), hf3 b (by omega) (fun e => by have := B1 _ e; omega), hold (by omega)]
   exact hk b hb
 have : i = N := by omega
 subst this
 rcases T with ⟨e, _⟩ | ⟨b1, b2, hne', p1, p2, p3, p4, rfl, rfl, g1, g2⟩
 ·have := congrArg List.length e; simp at this; omega
 have gx := hk nx (by omega)
 rw [hnew] at gx
 simp only [List.length_replicate]
 simp (disch := omega) only [SS, ↓reduceIte, Nat.reduceAdd, Nat.reduceSub, Nat.reduceMul, Nat.reduceLT, Nat.reduceLeDiff, Nat.reduceEqDiff, Int.reduceBEq, Int.reduceLT, Int.reduceNeg, gx]
 have k0 : Keep nx h h2 := fun b hb => by rw [hk b (by omega), hold (by omega)]
 refine (outs_cv (hv.keep k0 (show nx ≤ nx2 by omega)) hN hok hl).mono ?_
 rintro r h3 nx3 ⟨bo, cs, sv, rfl, hcan, L, hbo, hk3, hle3⟩
 have g1' := (hk3 b1 p2).trans g1
 have g2' := (hk3 b2 p4).trans g2
 simp (disch := omega) only [SS, ↓reduceIte, Nat.reduceAdd, Nat.reduceSub, Nat.reduceMul, Nat.reduceLT, Nat.reduceLeDiff, Nat.reduceEqDiff, Int.reduceBEq, Int.reduceLT, Int.reduceNeg, g1', List.length_replicate]
 refine ⟨hsr, Lp.mk (FJ1 i sr nx2 nx3 b1 b2 bo cs sv nx h) (unre ((List.replicate i (-1)).set sr 0) + 1) ⟨_, _, [sr], [], _, some nx3, rfl, ?_, rfl, Bfs.init hsr, ?_⟩ ?_⟩
 ·have := unre_set (l := List.replicate i (-1)) (w := sr) (x := 0) (by simp [hsr]) (by omega)
  have e : unre (List.replicate i (-1)) = i := by simp [unre]
  show _ + 1 ≤ i
  omega
 ·have hb1 := L.bel
  refine ⟨by rw [hold (by omega), hnew], by rw [hold (by omega), hold (by omega)]; exact g2', L.keep ?_ (fun b h1 h2 => ?_) (Nat.le_refl _), ?_, fun b e => by cases e; exact ⟨Nat.le_refl _, by omega⟩, fun a ha => by simp at ha; omega, fun b hb => ?_, by omega⟩
  ·rw [hold (by omega), hold (by omega)]
  ·rw [hold (by omega), hold (by omega)]
  ·exact Gr.part (enc := encI) (k := 1) (b := nx3) (o := 0) (l := nats [sr]) (cs := [.int .i64 (sr : Int)]) (ro := false) (hnew _ _ _) (by simp [nats]) (by simp [nats, flat, encI])
  ·rw [hold (by omega), hold (by omega), hk3 b (by omega)]; exact k0 b hb
 rintro m _ h4 nx4 ⟨l, p, q, D, vq, oq, rfl, hcN, rfl, B, F⟩
 rw [foundb1]
 unfold foundl1
 simp (disch := omega) only [SS, ↓reduceIte, Nat.reduceAdd, Nat.reduceSub, Nat.reduceMul, Nat.reduceLT, Nat.reduceLeDiff, Nat.reduceEqDiff, Int.reduceBEq, Int.reduceLT, Int.reduceNeg, F.row.lens]
 refine ⟨fun h0 => ?_, fun hne => ?_⟩
 ·have hq : q = [] := by
   cases q with
   | nil => rfl
   | cons x q => simp [nats] at h0; omega
  subst hq
  obtain ⟨hL, hP⟩ := B.lev
  have hs : SameEnds cs gs := ⟨hcan.ends.2, hcan.ends.1⟩
  have := F.le
  exact ⟨b1, b2, l, p, rfl, by omega, by omega, F.g1, F.g2, hL.ends hs, hP.ends hs, F.keep, by omega⟩
 ·obtain ⟨u, q', rfl⟩ : ∃ u q', q = u :: q' := by
   cases q with
   | nil => simp [nats] at hne
   | cons x q => exact ⟨x, q, rfl⟩
  obtain ⟨k, BI⟩ := B.pop
  have hu := F.lt u (by simp)
  have G := F.row
  rw [nats_cons] at G
  obtain ⟨br, or_, spr, cr, ror, v', rfl, rfl, hcr, hcx, hsl, G'⟩ := G.head
  obtain ⟨sq, hsq⟩ := get_ex (l := sv) (i := u) (by rw [F.L.len, outL_len]; exact hu)
  have hg : (outL i cs)[u]? = some ((cs.filter fun e => e.f == u).map GE.t) := outL_get hu
  have GL := F.L.gr hsq hg
  have hbr := F.ro br rfl
  have hbo2 := F.L.bel
  simp (disch := omega) only [SS, ↓reduceIte, Nat.reduceAdd, Nat.reduceSub, Nat.reduceMul, Nat.reduceLT, Nat.reduceLeDiff, Nat.reduceEqDiff, Int.reduceBEq, Int.reduceLT, Int.reduceNeg, hcr, hcx, F.L.at_, svs_get hsq, GL.lens, nats_cons]
  generalize hgd : (cs.filter fun e => e.f == u).map GE.t = g at *
  have hgw : ∀ w ∈ g, w < i ∧ ∃ e ∈ cs, e.f = u ∧ e.t = w := fun w hw => by
   rw [← hgd] at hw
   obtain ⟨e, he, rfl⟩ := List.mem_map.1 hw
   obtain ⟨he1, he2⟩ := List.mem_filter.1 he
   exact ⟨(hcan.ok e he1).2.1, e, he1, by simpa using he2, rfl⟩
  have hgl : g.length ≤ 60 := by
   rw [← hgd, List.length_map]
   have := List.length_filter_le (fun x : GE => x.f == u) cs
   have := hcan.len
   omega
  simp only [nats_len] at hsl
  simp only [List.length_cons, nats_len, hsl, RK_ok]
  refine Lp.mk (FJ2 i sr nx2 nx3 b1 b2 bo (unre l + q'.length) u k cs sv g D (svV sq) nx h) g.length ⟨0, l, p, q', v', some br, rfl, by omega, rfl, rfl, by simpa using BI, F.g1, F.g2, F.L, G', fun b e => by cases e; exact hbr, fun a ha => F.lt a (by simp [ha]), F.keep, F.le⟩ ?_
  clear BI F B G G' hcr hcx hsl GL hbr
  rintro m _ h5 nx5 ⟨j, l, p, q, vq, oq, rfl, hj, hcnt, rfl, BI, F⟩
  rw [foundb2]
  unfold foundl2
  simp (disch := omega) only [SS, ↓reduceIte, Nat.reduceAdd, Nat.reduceSub, Nat.reduceMul, Nat.reduceLT, Nat.reduceLeDiff, Nat.reduceEqDiff, Int.reduceBEq, Int.reduceLT, Int.reduceNeg]
  refine ⟨fun hlt => ?_, fun hge => ?_⟩
  ·obtain ⟨w, hw⟩ := get_ex hlt
   obtain ⟨hwN, e0, he0, hf0, ht0⟩ := hgw w (List.mem_of_getElem? hw)
   rcases F.L.each u sq g hsq hg with ⟨e, _⟩ | ⟨bg, hbg1, hbg2, rfl, hbg⟩
   ·rw [e] at hlt; simp at hlt
   obtain ⟨x, hx⟩ := get_ex (l := l) (i := w) (by rw [BI.len]; exact hwN)
   obtain ⟨z, hz⟩ := get_ex (l := p) (i := w) (by rw [BI.plen]; exact hwN)
   have hkN := BI.lt
   have hro := F.ro
   have hle5 := F.le
   simp only [svV]
   simp (disch := omega) only [SS, ↓reduceIte, Nat.reduceAdd, Nat.reduceSub, Nat.reduceMul, Nat.reduceLT, Nat.reduceLeDiff, Nat.reduceEqDiff, Int.reduceBEq, Int.reduceLT, Int.reduceNeg, hbg, ints_get (nats_get hw), F.g1, F.g2, ints_get hx, ints_get hz, ints_get BI.lu, wrap_s (show k < 1000000000000 by omega)]
   have htk : g.take (j + 1) = g.take j ++ [w] := by rw [List.take_add_one, hw]; rfl
   refine ⟨fun hneg => ?_, fun hpos => ?_⟩
   ·have hx1 : x = -1 := by have := (BI.rng w x hx).1; omega
    subst hx1
    have hun := unre_set (x := (k : Int) + 1) hx (by omega)
    refine ⟨by rw [← BI.len] at hwN; exact hwN, by rw [← BI.plen] at hwN; exact hwN, ?_⟩
    have hro1 : ∀ b, oq = some b → nx3 ≤ b ∧ b < nx5 := hro
    refine EK_appI (F.row.keep fun b hb => ?_) (hnew _ _ _) ?_ fun h6 hn6 hf6 => ?_
    ·have := hro b hb
     rw [hold (by omega), hold (by omega), hold (by omega)]
    ·rw [nats_len]
     simp only [List.length_cons] at hcN
     omega
    unfold foundk0
    simp (disch := omega) only [SS, ↓reduceIte, Nat.reduceAdd, Nat.reduceSub, Nat.reduceMul, Nat.reduceLT, Nat.reduceLeDiff, Nat.reduceEqDiff, Int.reduceBEq, Int.reduceLT, Int.reduceNeg, wrap_s (show j < 1000000000000 by omega)]
    have hfr : ∀ c, c < nx3 → c ≠ b1 → c ≠ b2 → hget h6 c = hget h5 c := fun c h1 h2 h3 => by
     rw [hf6 c (by omega) (fun e => by have := hro c e; omega), hold (by omega), hold h3, hold h2]
    have e1 : ((k + 1 : Nat) : Int) = (k : Int) + 1 := by simp
    rw [e1] at hf6
    rw [← nats_app] at hn6
    refine ⟨g.length - (j + 1), by omega, j + 1, l.set w ((k : Int) + 1), p.set w (u : Int), q ++ [w], .slice (some ⟨nx5 + 1, 0, some 1⟩) ((nats q).length + 1) ((nats q).length + 1), some (nx5 + 1), rfl, by omega, ?_, rfl, by rw [htk]; exact BI.new hx he0 hf0 ht0, ?_⟩
    ·rw [List.length_append, List.length_singleton]; omega
    ·refine ⟨?_, ?_, F.L.keep (hfr bo (by omega) (by omega) (by omega)) (fun c h1 h2 => hfr c h2 (by omega) (by omega)) (Nat.le_refl _), ?_, fun b e => by cases e; omega, fun a ha => ?_, fun c hc => ?_, by omega⟩
     ·rw [hf6 b1 (by omega) (fun e => by have := hro b1 e; omega), hold (by omega), hold hne', hnew]
     ·rw [hf6 b2 (by omega) (fun e => by have := hro b2 e; omega), hold (by omega), hnew]
     ·have := Gr.own (enc := encI) (k := 1) (l := nats (q ++ [w])) (b := nx5 + 1) (h := h6) (by rw [flat_ints]; exact hn6)
      simpa [nats_len] using this
     ·rcases List.mem_append.1 ha with ha | ha
      ·exact F.lt a ha
      ·simp at ha; omega
     ·rw [hfr c (by omega) (by omega) (by omega)]; exact F.keep c hc
   ·refine ⟨fun heq => ?_, fun hne => ?_⟩
    ·have hxk : x = (k : Int) + 1 := by simpa using heq
     subst hxk
     refine ⟨by rw [← BI.plen] at hwN; exact hwN, ?_⟩
     unfold foundk0
     simp (disch := omega) only [SS, ↓reduceIte, Nat.reduceAdd, Nat.reduceSub, Nat.reduceMul, Nat.reduceLT, Nat.reduceLeDiff, Nat.reduceEqDiff, Int.reduceBEq, Int.reduceLT, Int.reduceNeg, wrap_s (show j < 1000000000000 by omega)]
     refine ⟨g.length - (j + 1), by omega, j + 1, l, p.set w (min z (u : Int)), q, vq, oq, rfl, by omega, hcnt, rfl, by rw [htk]; exact BI.same hx hz he0 hf0 ht0, ?_⟩
     exact ⟨by rw [hold hne']; exact F.g1, hnew _ _ _, F.L.keep (hold (by omega)) (fun c h1 h2 => hold (by omega)) (Nat.le_refl _), F.row.keep fun b hb => hold (by have := hro b hb; omega), hro, F.lt, F.keep.set (by omega), F.le⟩
    ·have hxk : x ≠ (k : Int) + 1 := by simpa using hne
     unfold foundk0
     simp (disch := omega) only [SS, ↓reduceIte, Nat.reduceAdd, Nat.reduceSub, Nat.reduceMul, Nat.reduceLT, Nat.reduceLeDiff, Nat.reduceEqDiff, Int.reduceBEq, Int.reduceLT, Int.reduceNeg, wrap_s (show j < 1000000000000 by omega)]
     exact ⟨g.length - (j + 1), by omega, j + 1, l, p, q, vq, oq, rfl, by omega, hcnt, rfl, by rw [htk]; exact BI.skip hx (by omega) hxk, F⟩
  ·have : j = g.length := by omega
   subst this
   rw [List.take_length] at BI
   have BD := BI.done fun e he hf => by rw [← hgd]; exact List.mem_map.2 ⟨e, List.mem_filter.2 ⟨he, by simp [hf]⟩, rfl⟩
   exact ⟨_, by rw [hcnt]; omega, l, p, q, u :: D, vq, oq, rfl, by rw [hcnt]; simp only [List.length_cons] at hcN; omega, rfl, BD, F⟩
def IdxJ (v fv : Value) (n nx : Nat) (h : Hp) (m : Nat) (vs : List Value) (h' : Hp) (nx' : Nat) : Prop := ∃ i, m = n - i ∧ i ≤ n ∧ vs = [v, fv, .int .i64 0, .int .i64 (n : Int), .int .i64 (i : Int)] ∧ Keep nx h h' ∧ nx ≤ nx'
def Still (r : Value) (nx : Nat) (h : Hp) : KC' := fun v h' nx' => v = r ∧ Keep nx h h' ∧ nx ≤ nx'
theorem rdG {gs : List GE} {i : Nat} {e : GE} (he : gs[i]? = some e) : loadC (some 3) (i * 3) (flat encG gs) = .ok (.agg ⟨encG e⟩) := by
 have hg := flat_get (enc := encG) (k := 3) (fun _ => rfl) he
 have hi := (List.getElem?_eq_some_iff.1 he).1
 rw [loadC_many, if_pos (by rw [flat_len (k := 3) (fun _ => rfl)]; omega), hg]
theorem conts_c {s : Bool} {v fv : Value} {gs : List GE} {h : Hp} {nx : Nat} (hv : SlRd h nx v encG gs) (hl : gs.length ≤ 60)
  (hf : ∀ g ∈ gs, ∀ h' nx' (K : KC'), Keep nx h h' → nx ≤ nx' → (∀ (b : Bool) h2 nx2, b = false → Keep nx' h' h2 → nx' ≤ nx2 → K (.bool b) h2 nx2) → CVK Q O s (callV h' nx' [.agg ⟨encG g⟩] fv) K) :
  Cv Q O s 63 [v, fv] h nx (Still (.bool false) nx h) := by
 refine contsv ?_
 unfold conts
 obtain ⟨a, cap, rfl, hc⟩ := id hv
 refine indexv ?_
 unfold index
 simp (disch := omega) only [SS, ↓reduceIte, Nat.reduceAdd, Nat.reduceSub, Nat.reduceMul, Nat.reduceLT, Nat.reduceLeDiff, Nat.reduceEqDiff, Int.reduceBEq, Int.reduceLT, Int.reduceNeg]
 refine Lp.mk (IdxJ (.slice a gs.length cap) fv gs.length nx h) gs.length ⟨0, by omega, by omega, rfl, Keep.refl _ _, Nat.le_refl _⟩ ?_
 rintro m _ h' nx' ⟨i, rfl, hi, rfl, hk, hnx⟩
 rw [indexb0]
 unfold indexl0
 simp (disch := omega) only [SS, ↓reduceIte, Nat.reduceAdd, Nat.reduceSub, Nat.reduceMul, Nat.reduceLT, Nat.reduceLeDiff, Nat.reduceEqDiff, Int.reduceBEq, Int.reduceLT, Int.reduceNeg]
 refine ⟨fun h1 => ?_, fun h1 => ?_⟩
 ·obtain ⟨x, hx⟩ := get_ex h1
  obtain ⟨_, b, sp, ro, cap', hbn, hveq, hbh⟩ := hv.at hx
  cases hveq
  simp (disch := omega) only [SS, ↓reduceIte, Nat.reduceAdd, Nat.reduceSub, Nat.reduceMul, Nat.reduceLT, Nat.reduceLeDiff, Nat.reduceEqDiff, Int.reduceBEq, Int.reduceLT, Int.reduceNeg, (hk b hbn).trans hbh, rdG hx]
  refine hf x (List.mem_of_getElem? hx) h' nx' _ hk hnx (fun b h2 nx2 hb hk2 hle => ?_)
  subst hb
  simp (disch := omega) only [SS, ↓reduceIte, Nat.reduceAdd, Nat.reduceSub, Nat.reduceMul, Nat.reduceLT, Nat.reduceLeDiff, Nat.reduceEqDiff, Int.reduceBEq, Int.reduceLT, Int.reduceNeg, wrap_s (show i < 1000000000000 by omega)]
  exact ⟨_, by omega, i + 1, rfl, h1, rfl, hk.trans hk2 hnx, by omega⟩
 ·exact ⟨rfl, hk, hnx⟩
theorem right_c {s : Bool} {N : Nat} {v : Value} {gs : List GE} {h : Hp} {nx : Nat} (hv : SlRd h nx v encG gs) (hN : N < 24) (hl : gs.length ≤ 60) (hok : ∀ g ∈ gs, GOk N g) :
  Cv Q O s 47 [.agg ⟨[.int .i64 (N : Int), v]⟩] h nx (Still (.int .i64 0) nx h) := by
 refine rightv ?_
 obtain ⟨a, cap, rfl, hc⟩ := id hv
 unfold right
 simp (disch := omega) only [SS, ↓reduceIte, Nat.reduceAdd, Nat.reduceSub, Nat.reduceMul, Nat.reduceLT, Nat.reduceLeDiff, Nat.reduceEqDiff, Int.reduceBEq, Int.reduceLT, Int.reduceNeg]
 refine ⟨fun h1 => absurd h1 (by omega), fun _ => ⟨fun h1 => absurd h1 (by omega), fun _ => ⟨fun h1 => absurd h1 (by omega), fun _ => ?_⟩⟩⟩
 have K1 : Keep nx h (hset (hset (hset h nx (.cells [.int .i64 (N : Int), .slice a gs.length cap] false)) (nx + 1) (.cells [.nilFunc] false)) (nx + 1) (.cells [.func (.func 62) ⟨[]⟩ ⟨[.pointer (some ⟨nx, 0, none⟩)]⟩] false)) := fun b hb => by rw [hold (by omega), hold (by omega), hold (by omega)]
 refine (conts_c (hv.keep K1 (by omega)) hl (fun g hg h' nx' K hk hle hK => ?_)).mono ?_
 ·have g0 := hk nx (by omega)
  have g1 := hk (nx + 1) (by omega)
  rw [hold (by omega), hold (by omega), hnew] at g0
  rw [hnew] at g1
  obtain ⟨o1, o2, o3, o4⟩ := hok g hg
  simp (disch := omega) only [SS, ↓reduceIte, Nat.reduceAdd, Nat.reduceSub, Nat.reduceMul, Nat.reduceLT, Nat.reduceLeDiff, Nat.reduceEqDiff, Int.reduceBEq, Int.reduceLT, Int.reduceNeg]
  refine right2v ?_
  unfold right2 encG
  simp (disch := omega) only [SS, ↓reduceIte, Nat.reduceAdd, Nat.reduceSub, Nat.reduceMul, Nat.reduceLT, Nat.reduceLeDiff, Nat.reduceEqDiff, Int.reduceBEq, Int.reduceLT, Int.reduceNeg, g1]
  refine right1v ?_
  unfold right1
  simp (disch := omega) only [SS, ↓reduceIte, Nat.reduceAdd, Nat.reduceSub, Nat.reduceMul, Nat.reduceLT, Nat.reduceLeDiff, Nat.reduceEqDiff, Int.reduceBEq, Int.reduceLT, Int.reduceNeg, g0]
  refine ⟨fun h1 => absurd h1 (by omega), fun _ => ⟨fun h1 => absurd h1 (by omega), fun _ => ?_⟩⟩
  simp (disch := omega) only [SS, ↓reduceIte, Nat.reduceAdd, Nat.reduceSub, Nat.reduceMul, Nat.reduceLT, Nat.reduceLeDiff, Nat.reduceEqDiff, Int.reduceBEq, Int.reduceLT, Int.reduceNeg, g1]
  refine right1v ?_
  unfold right1
  simp (disch := omega) only [SS, ↓reduceIte, Nat.reduceAdd, Nat.reduceSub, Nat.reduceMul, Nat.reduceLT, Nat.reduceLeDiff, Nat.reduceEqDiff, Int.reduceBEq, Int.reduceLT, Int.reduceNeg, g0]
  refine ⟨fun h1 => absurd h1 (by omega), fun _ => ?_⟩
  exact hK _ _ _ (by simp; omega) (Keep.set (Keep.refl _ _) (Nat.le_refl _)) (Nat.le_succ _)
 ·rintro r h1 nx1 ⟨rfl, hk1, hle1⟩
  have g0 := hk1 nx (by omega)
  rw [hold (by omega), hold (by omega), hnew] at g0
  simp (disch := omega) only [SS, ↓reduceIte, Nat.reduceAdd, Nat.reduceSub, Nat.reduceMul, Nat.reduceLT, Nat.reduceLeDiff, Nat.reduceEqDiff, Int.reduceBEq, Int.reduceLT, Int.reduceNeg, g0]
  refine (conts_c ((hv.keep K1 (by omega)).keep hk1 hle1) hl (fun g hg h' nx' K hk hle hK => ?_)).mono ?_
  ·obtain ⟨o1, o2, o3, o4⟩ := hok g hg
   simp (disch := omega) only [SS, ↓reduceIte, Nat.reduceAdd, Nat.reduceSub, Nat.reduceMul, Nat.reduceLT, Nat.reduceLeDiff, Nat.reduceEqDiff, Int.reduceBEq, Int.reduceLT, Int.reduceNeg]
   refine right3v ?_
   unfold right3 encG
   simp (disch := omega) only [SS, ↓reduceIte, Nat.reduceAdd, Nat.reduceSub, Nat.reduceMul, Nat.reduceLT, Nat.reduceLeDiff, Nat.reduceEqDiff, Int.reduceBEq, Int.reduceLT, Int.reduceNeg]
   refine ⟨fun h1 => absurd h1 (by omega), fun _ => ?_⟩
   exact hK _ _ _ (by simp; omega) (Keep.set (Keep.refl _ _) (Nat.le_refl _)) (Nat.le_succ _)
  ·rintro r h2 nx2 ⟨rfl, hk2, hle2⟩
   simp (disch := omega) only [SS, ↓reduceIte, Nat.reduceAdd, Nat.reduceSub, Nat.reduceMul, Nat.reduceLT, Nat.reduceLeDiff, Nat.reduceEqDiff, Int.reduceBEq, Int.reduceLT, Int.reduceNeg]
   exact ⟨rfl, (K1.trans hk1 (by omega)).trans hk2 (by omega), by omega⟩
theorem rightG {s : Bool} {N : Nat} {v : Value} {gs : List GE} {h : Hp} {nx : Nat} (hv : SlRd h nx v encG gs) (hN : N < 24) (hl : gs.length ≤ 60) (hok : ∀ g ∈ gs, GOk N g) :
  Cv Q O s 47 [.agg ⟨[.int .i64 (N : Int), v]⟩] h nx (Still (.int .i64 0) nx h) := right_c hv hN hl hok
def CheckK (L P l p : List Int) (nx : Nat) (h : Hp) : KC' := fun r h' nx' => r = .bool (decide (L = l) && decide (P = p)) ∧ Keep nx h h' ∧ nx ≤ nx'
def CheckE (N sr : Nat) (gs : List GE) (l p : List Int) (nx : Nat) (h : Hp) : KC' := fun r h' nx' => ∃ L P, Lev N gs sr L ∧ Par gs L N P ∧ r = .bool (decide (L = l) && decide (P = p)) ∧ Keep nx h h' ∧ nx ≤ nx'
theorem hchkE_cv {s : Bool} {N sr : Nat} {v vl vp : Value} {gs : List GE} {l p : List Int} {h : Hp} {nx : Nat} (hv : SlRd h nx v encG gs) (hvl : SlRd h nx vl encI l) (hvp : SlRd h nx vp encI p) (hN : N < 24) (hsr : sr < N) (hl : gs.length ≤ 60) (hok : ∀ g ∈ gs, GOk N g) :
  Cv Q O s 28 [.agg ⟨[.int .i64 (N : Int), v]⟩, .int .i64 (sr : Int), vl, vp] h nx (CheckE N sr gs l p nx h) := by
 refine hchkv ?_
 obtain ⟨a, cap, rfl, hc⟩ := id hv
 unfold hchk
 simp (disch := omega) only [SS, ↓reduceIte, Nat.reduceAdd, Nat.reduceSub, Nat.reduceMul, Nat.reduceLT, Nat.reduceLeDiff, Nat.reduceEqDiff, Int.reduceBEq, Int.reduceLT, Int.reduceNeg]
 have k0 : ∀ {o1 : AObj}, Keep nx h (hset h nx o1) := fun {o1} b hb => hold (by omega)
 refine (rightG (hv.keep k0 (Nat.le_succ _)) hN hl hok).mono ?_
 rintro r h1 nx1 ⟨rfl, hk, hle⟩
 have g1 := hk nx (Nat.lt_succ_self _)
 rw [hnew] at g1
 simp (disch := omega) only [SS, ↓reduceIte, Nat.reduceAdd, Nat.reduceSub, Nat.reduceMul, Nat.reduceLT, Nat.reduceLeDiff, Nat.reduceEqDiff, Int.reduceBEq, Int.reduceLT, Int.reduceNeg, g1]
 refine ⟨fun h0 => absurd h0 (by omega), fun _ => ?_⟩
 unfold hchkk0
 have hv1 := (hv.keep k0 (Nat.le_succ _)).keep hk hle
 have hvl1 := (hvl.keep k0 (Nat.le_succ _)).keep hk hle
 have hvp1 := (hvp.keep k0 (Nat.le_succ _)).keep hk hle
 simp (disch := omega) only [SS, ↓reduceIte, Nat.reduceAdd, Nat.reduceSub, Nat.reduceMul, Nat.reduceLT, Nat.reduceLeDiff, Nat.reduceEqDiff, Int.reduceBEq, Int.reduceLT, Int.reduceNeg, g1]
 refine ⟨fun h0 => absurd hsr h0, fun _ => ?_⟩
 refine (found_cv hv1 (by omega) hsr hok hl).mono ?_
 rintro r h2 nx2 ⟨b1, b2, L, P, rfl, hb1, hb2, e1, e2, hL, hP, hk2, hle2⟩
 rw [← flat_ints] at e1 e2
 have s1 : SlRd h2 nx2 (.slice (some ⟨b1, 0, some 1⟩) N N) encI L := ⟨some ⟨b1, 0, some 1⟩, N, by rw [hL.len], fun _ => ⟨b1, some 1, false, hb1, rfl, e1⟩⟩
 have s2 : SlRd h2 nx2 (.slice (some ⟨b2, 0, some 1⟩) N N) encI P := ⟨some ⟨b2, 0, some 1⟩, N, by rw [hP.1], fun _ => ⟨b2, some 1, false, hb2, rfl, e2⟩⟩
 have kk : Keep nx h h2 := ((k0.trans hk (Nat.le_succ _)).trans hk2 (by omega))
 simp (disch := omega) only [SS, ↓reduceIte, Nat.reduceAdd, Nat.reduceSub, Nat.reduceMul, Nat.reduceLT, Nat.reduceLeDiff, Nat.reduceEqDiff, Int.reduceBEq, Int.reduceLT, Int.reduceNeg]
 refine (eq64_cv s1 (hvl1.keep hk2 hle2) (by rw [hL.len]; omega)).mono ?_
 rintro r _ _ ⟨rfl, rfl, rfl⟩
 simp (disch := omega) only [SS, ↓reduceIte, Nat.reduceAdd, Nat.reduceSub, Nat.reduceMul, Nat.reduceLT, Nat.reduceLeDiff, Nat.reduceEqDiff, Int.reduceBEq, Int.reduceLT, Int.reduceNeg]
 refine ⟨fun ht => ?_, fun hf => ?_⟩
 ·refine (eq64_cv s2 (hvp1.keep hk2 hle2) (by rw [hP.1]; omega)).mono ?_
  rintro r _ _ ⟨rfl, rfl, rfl⟩
  (try simp (disch := omega) only [SS, ↓reduceIte, Nat.reduceAdd, Nat.reduceSub, Nat.reduceMul, Nat.reduceLT, Nat.reduceLeDiff, Nat.reduceEqDiff, Int.reduceBEq, Int.reduceLT, Int.reduceNeg])
  exact ⟨L, P, hL, hP, by simp [ht], kk, by omega⟩
 ·exact ⟨L, P, hL, hP, by simp [hf], kk, by omega⟩
theorem hchk_cv {s : Bool} {N sr : Nat} {v vl vp : Value} {gs : List GE} {L P l p : List Int} {h : Hp} {nx : Nat} (hv : SlRd h nx v encG gs) (hvl : SlRd h nx vl encI l) (hvp : SlRd h nx vp encI p) (hN : N < 24) (hsr : sr < N) (hl : gs.length ≤ 60) (hok : ∀ g ∈ gs, GOk N g) (hL : Lev N gs sr L) (hP : Par gs L N P) :
  Cv Q O s 28 [.agg ⟨[.int .i64 (N : Int), v]⟩, .int .i64 (sr : Int), vl, vp] h nx (CheckK L P l p nx h) := by
 refine (hchkE_cv hv hvl hvp hN hsr hl hok).mono ?_
 rintro r h' nx' ⟨L', P', hL', hP', rfl, hk, hle⟩
 have := hL.unique hL'
 subst this
 have := hP.unique hP'
 subst this
 exact ⟨rfl, hk, hle⟩
def SamJ (l l' : List Int) (v v' : Value) (h : Hp) (nx : Nat) (m : Nat) (vs : List Value) (h' : Hp) (nx' : Nat) : Prop := ∃ i, m = l.length - i ∧ i ≤ l.length ∧ vs = [v, v', .bool false, .int .i64 (i : Int)] ∧ h' = h ∧ nx' = nx ∧ l.take i = l'.take i
theorem samei_c {s : Bool} {h : Hp} {nx : Nat} {v v' : Value} {l l' : List Int} (hv : SlRd h nx v encI l) (hv' : SlRd h nx v' encI l') (hl : l.length < 1000000) :
  Cv Q O s 22 [v, v'] h nx (fun r h' nx' => r = .bool (decide (l = l')) ∧ h' = h ∧ nx' = nx) := by
 refine sameiv ?_
 obtain ⟨a, cap, rfl, hc⟩ := id hv
 obtain ⟨a', cap', rfl, hc'⟩ := id hv'
 unfold samei
 simp (disch := omega) only [SS, ↓reduceIte, Nat.reduceAdd, Nat.reduceSub, Nat.reduceMul, Nat.reduceLT, Nat.reduceLeDiff, Nat.reduceEqDiff, Int.reduceBEq, Int.reduceLT, Int.reduceNeg]
 refine ⟨fun hne => ?_, fun he => ?_⟩
 ·have : ¬ l = l' := fun e => by subst e; simp at hne
  simp [this]
 have he : l.length = l'.length := by
  have h2 : (l.length : Int) = (l'.length : Int) := by simpa using he
  omega
 refine Lp.mk (SamJ l l' (.slice a l.length cap) (.slice a' l'.length cap') h nx) l.length ⟨0, rfl, by omega, rfl, rfl, rfl, rfl⟩ ?_
 rintro m _ _ _ ⟨i, rfl, hi, rfl, rfl, rfl, ht⟩
 rw [sameib0]
 unfold sameil0
 simp (disch := omega) only [SS, ↓reduceIte, Nat.reduceAdd, Nat.reduceSub, Nat.reduceMul, Nat.reduceLT, Nat.reduceLeDiff, Nat.reduceEqDiff, Int.reduceBEq, Int.reduceLT, Int.reduceNeg]
 refine ⟨fun hlt => ?_, fun hge => ?_⟩
 ·obtain ⟨x, hx⟩ := get_ex hlt
  obtain ⟨y, hy⟩ := get_ex (l := l') (i := i) (by omega)
  obtain ⟨_, b, sp, ro, c1, hb, e1, hg⟩ := hv.at hx
  obtain ⟨_, b', sp', ro', c1', hb', e1', hg'⟩ := hv'.at hy
  cases e1; cases e1'
  rw [flat_ints] at hg hg'
  simp (disch := omega) only [SS, ↓reduceIte, Nat.reduceAdd, Nat.reduceSub, Nat.reduceMul, Nat.reduceLT, Nat.reduceLeDiff, Nat.reduceEqDiff, Int.reduceBEq, Int.reduceLT, Int.reduceNeg, hg, hg', ints_get hx, ints_get hy]
  refine ⟨fun hne => ?_, fun he2 => ?_⟩
  ·have : ¬ l = l' := fun e => by subst e; rw [hx] at hy; cases hy; simp at hne
   simp [this]
  ·have hxy : x = y := by simpa using he2
   subst hxy
   refine ⟨l.length - (i + 1), by omega, i + 1, rfl, by omega, by rw [wrap_s (by omega)], rfl, rfl, ?_⟩
   rw [List.take_add_one, List.take_add_one, hx, hy, ht]
 ·have : i = l.length := by omega
  subst this
  rw [List.take_length, he, List.take_length] at ht
  simp [ht]
theorem samev_c {s : Bool} {h : Hp} {nx : Nat} {v v' : Value} {l l' : List Int} (hv : SlRd h nx v encI l) (hv' : SlRd h nx v' encI l') (hl : l.length < 1000000) :
  Cv Q O s 42 [v, v'] h nx (fun r h' nx' => r = .bool (decide (l = l')) ∧ h' = h ∧ nx' = nx) := by
 refine samevv ?_
 obtain ⟨a, cap, rfl, hc⟩ := id hv
 obtain ⟨a', cap', rfl, hc'⟩ := id hv'
 unfold samev
 simp (disch := omega) only [SS, ↓reduceIte, Nat.reduceAdd, Nat.reduceSub, Nat.reduceMul, Nat.reduceLT, Nat.reduceLeDiff, Nat.reduceEqDiff, Int.reduceBEq, Int.reduceLT, Int.reduceNeg]
 refine ⟨fun hne => ?_, fun he => ?_⟩
 ·have : ¬ l = l' := fun e => by subst e; simp at hne
  simp [this]
 have he : l.length = l'.length := by
  have h2 : (l.length : Int) = (l'.length : Int) := by simpa using he
  omega
 refine Lp.mk (SamJ l l' (.slice a l.length cap) (.slice a' l'.length cap') h nx) l.length ⟨0, rfl, by omega, rfl, rfl, rfl, rfl⟩ ?_
 rintro m _ _ _ ⟨i, rfl, hi, rfl, rfl, rfl, ht⟩
 rw [samevb0]
 unfold samevl0
 simp (disch := omega) only [SS, ↓reduceIte, Nat.reduceAdd, Nat.reduceSub, Nat.reduceMul, Nat.reduceLT, Nat.reduceLeDiff, Nat.reduceEqDiff, Int.reduceBEq, Int.reduceLT, Int.reduceNeg]
 refine ⟨fun hlt => ?_, fun hge => ?_⟩
 ·obtain ⟨x, hx⟩ := get_ex hlt
  obtain ⟨y, hy⟩ := get_ex (l := l') (i := i) (by omega)
  obtain ⟨_, b, sp, ro, c1, hb, e1, hg⟩ := hv.at hx
  obtain ⟨_, b', sp', ro', c1', hb', e1', hg'⟩ := hv'.at hy
  cases e1; cases e1'
  rw [flat_ints] at hg hg'
  simp (disch := omega) only [SS, ↓reduceIte, Nat.reduceAdd, Nat.reduceSub, Nat.reduceMul, Nat.reduceLT, Nat.reduceLeDiff, Nat.reduceEqDiff, Int.reduceBEq, Int.reduceLT, Int.reduceNeg, hg, hg', ints_get hx, ints_get hy]
  refine ⟨fun hne => ?_, fun he2 => ?_⟩
  ·have : ¬ l = l' := fun e => by subst e; rw [hx] at hy; cases hy; simp at hne
   simp [this]
  ·have hxy : x = y := by simpa using he2
   subst hxy
   refine ⟨l.length - (i + 1), by omega, i + 1, rfl, by omega, by rw [wrap_s (by omega)], rfl, rfl, ?_⟩
   rw [List.take_add_one, List.take_add_one, hx, hy, ht]
 ·have : i = l.length := by omega
  subst this
  rw [List.take_length, he, List.take_length] at ht
  simp [ht]
def farI (l : List Int) : Nat → Int × Int
 | 0 => (-1, -1)
 | i + 1 => match l[i]? with
  | some x => if 0 ≤ x ∧ (farI l i).2 < x then ((i : Int), x) else farI l i
  | none => farI l i
theorem farI_ge (l : List Int) : ∀ i, -1 ≤ (farI l i).2
 | 0 => by simp [farI]
 | i + 1 => by
  have := farI_ge l i
  unfold farI
  split
  ·split
   ·simp; omega
   ·exact this
  ·exact this
def FarJ (l : List Int) (v : Value) (h : Hp) (nx : Nat) (m : Nat) (vs : List Value) (h' : Hp) (nx' : Nat) : Prop := ∃ i, m = l.length - i ∧ i ≤ l.length ∧ vs = [.int .i64 (farI l i).1, .int .i64 (farI l i).2, v, .int .i64 (l.length : Int), .int .i64 (i : Int)] ∧ h' = h ∧ nx' = nx
theorem far_c {s : Bool} {h : Hp} {nx : Nat} {v : Value} {l : List Int} (hv : SlRd h nx v encI l) (hl : l.length < 1000000) :
  Cv Q O s 36 [v] h nx (fun r h' nx' => r = .tuple ⟨[.int .i64 (farI l l.length).1, .int .i64 (farI l l.length).2]⟩ ∧ h' = h ∧ nx' = nx) := by
 refine farv ?_
 obtain ⟨a, cap, rfl, hc⟩ := id hv
 unfold far
 simp (disch := omega) only [SS, ↓reduceIte, Nat.reduceAdd, Nat.reduceSub, Nat.reduceMul, Nat.reduceLT, Nat.reduceLeDiff, Nat.reduceEqDiff, Int.reduceBEq, Int.reduceLT, Int.reduceNeg]
 refine Lp.mk (FarJ l (.slice a l.length cap) h nx) l.length ⟨0, rfl, by omega, rfl, rfl, rfl⟩ ?_
 rintro m _ _ _ ⟨i, rfl, hi, rfl, rfl, rfl⟩
 rw [farb0]
 unfold farl0
 simp (disch := omega) only [SS, ↓reduceIte, Nat.reduceAdd, Nat.reduceSub, Nat.reduceMul, Nat.reduceLT, Nat.reduceLeDiff, Nat.reduceEqDiff, Int.reduceBEq, Int.reduceLT, Int.reduceNeg]
 refine ⟨fun hlt => ?_, fun hge => ?_⟩
 ·obtain ⟨x, hx⟩ := get_ex hlt
  obtain ⟨_, b, sp, ro, c1, hb, e1, hg⟩ := hv.at hx
  cases e1
  rw [flat_ints] at hg
  have hge := farI_ge l i
  have e : farI l (i + 1) = if 0 ≤ x ∧ (farI l i).2 < x then ((i : Int), x) else farI l i := by
   rw [farI, hx]
  simp (disch := omega) only [SS, ↓reduceIte, Nat.reduceAdd, Nat.reduceSub, Nat.reduceMul, Nat.reduceLT, Nat.reduceLeDiff, Nat.reduceEqDiff, Int.reduceBEq, Int.reduceLT, Int.reduceNeg, hg, ints_get hx, wrap_s (show i < 1000000000000 by omega)]
  refine ⟨fun h1 => ⟨_, by omega, i + 1, rfl, by omega, ?_, rfl, rfl⟩, fun h1 => ⟨_, by omega, i + 1, rfl, by omega, ?_, rfl, rfl⟩⟩
  ·rw [e, if_pos (by omega)]
  ·rw [e, if_neg (by omega)]
 ·have : i = l.length := by omega
  subst this
  rfl
def RfarJ (l : List Int) (v : Value) (h : Hp) (nx : Nat) (m : Nat) (vs : List Value) (h' : Hp) (nx' : Nat) : Prop := ∃ i, m = l.length - i ∧ i ≤ l.length ∧ vs = [v, .int .i64 (farI l i).1, .int .i64 (farI l i).2, .int .i64 (i : Int)] ∧ h' = h ∧ nx' = nx
theorem rfar_c {s : Bool} {h : Hp} {nx : Nat} {v : Value} {l : List Int} (hv : SlRd h nx v encI l) (hl : l.length < 1000000) :
  Cv Q O s 37 [v] h nx (fun r h' nx' => r = .tuple ⟨[.int .i64 (farI l l.length).1, .int .i64 (farI l l.length).2]⟩ ∧ h' = h ∧ nx' = nx) := by
 refine rfarv ?_
 obtain ⟨a, cap, rfl, hc⟩ := id hv
 unfold rfar
 refine Lp.mk (RfarJ l (.slice a l.length cap) h nx) l.length ⟨0, rfl, by omega, rfl, rfl, rfl⟩ ?_
 rintro m _ _ _ ⟨i, rfl, hi, rfl, rfl, rfl⟩
 rw [rfarb0]
 unfold rfarl0
 simp (disch := omega) only [SS, ↓reduceIte, Nat.reduceAdd, Nat.reduceSub, Nat.reduceMul, Nat.reduceLT, Nat.reduceLeDiff, Nat.reduceEqDiff, Int.reduceBEq, Int.reduceLT, Int.reduceNeg]
 refine ⟨fun hlt => ?_, fun hge => ?_⟩
 ·obtain ⟨x, hx⟩ := get_ex hlt
  obtain ⟨_, b, sp, ro, c1, hb, e1, hg⟩ := hv.at hx
  cases e1
  rw [flat_ints] at hg
  have hge := farI_ge l i
  have e : farI l (i + 1) = if 0 ≤ x ∧ (farI l i).2 < x then ((i : Int), x) else farI l i := by
   rw [farI, hx]
  unfold rfark0
  simp (disch := omega) only [SS, ↓reduceIte, Nat.reduceAdd, Nat.reduceSub, Nat.reduceMul, Nat.reduceLT, Nat.reduceLeDiff, Nat.reduceEqDiff, Int.reduceBEq, Int.reduceLT, Int.reduceNeg, hg, ints_get hx, wrap_s (show i < 1000000000000 by omega)]
  refine ⟨fun h1 => ⟨fun h2 => ⟨_, by omega, i + 1, rfl, by omega, ?_, rfl, rfl⟩, fun h2 => ⟨_, by omega, i + 1, rfl, by omega, ?_, rfl, rfl⟩⟩, fun h1 => ⟨_, by omega, i + 1, rfl, by omega, ?_, rfl, rfl⟩⟩
  ·rw [e, if_pos (by omega)]
  ·rw [e, if_neg (by omega)]
  ·rw [e, if_neg (by omega)]
 ·have : i = l.length := by omega
  subst this
  rfl
theorem appA_0 {h : Hp} {nx b b2 n c2 : Nat} {sp2 : Option Nat} {ro rd : Bool} {l : List Int} {cs : List Value} (hn : l.length = n) (hd : hget h b = some (.cells cs rd)) (hb : hget h b2 = some (.cells (ints l) ro)) (h0 : 0 < n) (h1 : n < 1000000) :
  appendA 1 h nx (.slice (some ⟨b, 0, none⟩) 0 0) (.slice (some ⟨b2, 0, sp2⟩) n c2) = .ok (.val (.slice (some ⟨nx, 0, some 1⟩) n n) (hset h nx (.cells (ints l) false)) (nx + 1)) := by
 subst hn
 have hr : readA h (some ⟨b2, 0, sp2⟩) (l.length.mul 1) (fun new => appGo 1 h nx (some ⟨b, 0, none⟩) 0 0 l.length new) = appGo 1 h nx (some ⟨b, 0, none⟩) 0 0 l.length (ints l) := by
  rw [show l.length.mul 1 = l.length from Nat.mul_one _, readA_eq hb h0 (by rw [ints_len]; omega)]
  rw [List.drop_zero, List.take_of_length_le (by rw [ints_len]; omega)]
 show readA h (some ⟨b2, 0, sp2⟩) (l.length.mul 1) (fun new => appGo 1 h nx (some ⟨b, 0, none⟩) 0 0 l.length new) = _
 rw [hr]
 unfold appGo
 rw [show Nat.ble (Nat.add 0 l.length) 0 = false by
  cases hb : Nat.ble (Nat.add 0 l.length) 0 with
  | false => rfl
  | true => have := Nat.le_of_ble_eq_true hb; have : 0 + l.length ≤ 0 := this; omega]
 rw [show (Nat.ble (Nat.mul (Nat.add 0 l.length) 1) 1000000 && Nat.ble (Nat.add 0 l.length) 1000000) = true by
  simp only [Bool.and_eq_true, Nat.ble_eq]
  exact ⟨by show (0 + l.length) * 1 ≤ _; omega, by show 0 + l.length ≤ _; omega⟩]
 show appUp h nx 1 (some ⟨b, 0, none⟩) 0 0 (0 + l.length) (ints l) = _
 unfold appUp
 simp only [cellsOf_some hd]
 rw [show lcut (Nat.mul 0 1) (ldrop cs 0) = some [] by rw [Nat.mul_eq, Nat.zero_mul]; rfl]
 show growN h nx 1 (lapp [] (ints l)) (0 + l.length) = _
 rw [lapp_eq, List.nil_append, Nat.zero_add]
 exact growN_eq (by omega)
theorem bin_snil {P : Program} {t : TypeId} (ht : isSliceTy P t = true) (a : Option Addr) (n c : Nat) : bin P .eql t (.slice a n c) (.slice none 0 0) = .ok (.bool a.isNone) := by
 show R.of "compared" (eqlV P t (.slice a n c) (.slice none 0 0)) _ = _
 unfold eqlV
 cases a <;> simp [ht, eqlS, rBool]
theorem ty27 : isSliceTy Tryz.prog 27 = true := by kernel_rfl
theorem clone64_c {s : Bool} {h : Hp} {nx : Nat} {v : Value} {l : List Int} (hv : SlRd h nx v encI l) (hl : l.length < 1000000) :
  Cv Q O s 59 [v] h nx (fun r h' nx' => SlRd h' nx' r encI l ∧ Keep nx h h' ∧ nx ≤ nx') := by
 refine clone64v ?_
 obtain ⟨a, cap, rfl, hc⟩ := id hv
 unfold clone64
 simp (disch := omega) only [SS, ↓reduceIte, Nat.reduceAdd, Nat.reduceSub, Nat.reduceMul, Nat.reduceLT, Nat.reduceLeDiff, Nat.reduceEqDiff, Int.reduceBEq, Int.reduceLT, Int.reduceNeg, bin_snil ty27]
 refine ⟨fun h0 => ⟨?_, Keep.refl _ _⟩, fun h0 => ?_⟩
 ·have : l = [] := by
   rcases Classical.em (l = []) with e | e
   ·exact e
   ·obtain ⟨b, sp, ro, _, rfl, _⟩ := hc e
    cases h0
  subst this
  exact ⟨none, 0, rfl, fun h => absurd rfl h⟩
 have K1 : Keep nx h (hset h nx (.cells [] false)) := (Keep.refl _ _).set (Nat.le_refl _)
 rcases Classical.em (l = []) with e | e
 ·subst e
  show SlRd _ _ (.slice (some ⟨nx, 0, none⟩) 0 0) _ _ ∧ _ ∧ _
  exact ⟨⟨some ⟨nx, 0, none⟩, 0, rfl, fun h => absurd rfl h⟩, K1, by omega⟩
 ·obtain ⟨b, sp, ro, hb, rfl, hg⟩ := hc e
  rw [flat_ints] at hg
  rw [appA_0 (l := l) rfl (hnew _ _ _) ((K1 b hb).trans hg) (List.length_pos_iff.2 e) hl]
  refine ⟨⟨some ⟨nx + 1, 0, some 1⟩, l.length, rfl, fun _ => ⟨nx + 1, some 1, false, by omega, rfl, ?_⟩⟩, K1.set (by omega), by omega⟩
  rw [flat_ints]; exact hnew _ _ _
theorem told_c {s : Bool} {h : Hp} {nx : Nat} {w0 w1 w4 v v' : Value} {l l' : List Int} (hv : SlRd h nx v encI l) (hl : l.length < 1000000) (hv' : SlRd h nx v' encI l') (hl' : l'.length < 1000000) (hw0 : ∃ i, w0 = .int .i64 i) (hw1 : ∃ i, w1 = .int .i64 i) (hw4 : w4 = .slice none 0 0) :
  Cv Q O s 35 [.agg ⟨[w0, w1, v, v', w4]⟩] h nx (fun r h' nx' => ∃ r1 r2, r = .tuple ⟨[r1, r2]⟩ ∧ SlRd h' nx' r1 encI l ∧ SlRd h' nx' r2 encI l' ∧ Keep nx h h' ∧ nx ≤ nx') := by
 refine toldv ?_
 obtain ⟨i0, rfl⟩ := hw0
 obtain ⟨i1, rfl⟩ := hw1
 subst hw4
 obtain ⟨a, cap, rfl, hc⟩ := id hv
 obtain ⟨a', cap', rfl, hc'⟩ := id hv'
 unfold told
 simp (disch := omega) only [SS, ↓reduceIte, Nat.reduceAdd, Nat.reduceSub, Nat.reduceMul, Nat.reduceLT, Nat.reduceLeDiff, Nat.reduceEqDiff, Int.reduceBEq, Int.reduceLT, Int.reduceNeg]
 have K1 : ∀ {o}, Keep nx h (hset h nx o) := (Keep.refl _ _).set (Nat.le_refl _)
 refine (clone64_c (hv.keep K1 (by omega)) hl).mono ?_
 rintro r h1 nx1 ⟨hr, hk, hle⟩
 have g0 := hk nx (by omega)
 rw [hnew] at g0
 simp (disch := omega) only [SS, ↓reduceIte, Nat.reduceAdd, Nat.reduceSub, Nat.reduceMul, Nat.reduceLT, Nat.reduceLeDiff, Nat.reduceEqDiff, Int.reduceBEq, Int.reduceLT, Int.reduceNeg, g0]
 refine ⟨by omega, (clone64_c ((hv'.keep K1 (by omega)).keep hk hle) hl').mono ?_⟩
 rintro r' h2 nx2 ⟨hr', hk', hle'⟩
 (try simp (disch := omega) only [SS, ↓reduceIte, Nat.reduceAdd, Nat.reduceSub, Nat.reduceMul, Nat.reduceLT, Nat.reduceLeDiff, Nat.reduceEqDiff, Int.reduceBEq, Int.reduceLT, Int.reduceNeg])
 exact ⟨by omega, _, _, rfl, hr.keep hk' hle', hr', (K1.trans hk (by omega)).trans hk' (by omega), by omega⟩
def RevJ (l : List Int) (b : Nat) (sp : Option Nat) (h : Hp) (nx : Nat) (t : Nat) (vs : List Value) (h' : Hp) (nx' : Nat) : Prop :=
 ∃ (i j : Nat) (m : List Int), t = l.length - i ∧ i + j + 1 = l.length ∧ vs = [.slice (some ⟨b, 0, sp⟩) l.length l.length, .int .i64 (i : Int), .int .i64 (j : Int)] ∧ i ≤ j + 1 ∧ m.length = l.length ∧
  hget h' b = some (.cells (ints m) false) ∧ (∀ c, c ≠ b → hget h' c = hget h c) ∧ nx' = nx ∧ ∀ k, k < l.length → m[k]? = if k < i ∨ j < k then l[l.length - 1 - k]? else l[k]?
theorem rev_c {s : Bool} {h : Hp} {nx b : Nat} {sp : Option Nat} {l : List Int} (hb : hget h b = some (.cells (ints l) false)) (h0 : 0 < l.length) (hl : l.length < 1000000) :
  Cv Q O s 53 [.slice (some ⟨b, 0, sp⟩) l.length l.length] h nx (fun r h' nx' => hget h' b = some (.cells (ints l.reverse) false) ∧ (∀ c, c ≠ b → hget h' c = hget h c) ∧ nx' = nx) := by
 refine revv ?_
 unfold rev
 have e0 : IntKind.wrap .i64 ((l.length : Int) - 1) = ((l.length - 1 : Nat) : Int) := by rw [wrapS (by omega) (by omega)]; omega
 simp (disch := omega) only [SS, ↓reduceIte, Nat.reduceAdd, Nat.reduceSub, Nat.reduceMul, Nat.reduceLT, Nat.reduceLeDiff, Nat.reduceEqDiff, Int.reduceBEq, Int.reduceLT, Int.reduceNeg, e0]
 refine Lp.mk (RevJ l b sp h nx) l.length ⟨0, l.length - 1, l, rfl, by omega, rfl, by omega, rfl, hb, fun c _ => rfl, rfl, fun k hk => by rw [if_neg (by omega)]⟩ ?_
 rintro t _ h' _ ⟨i, j, m, rfl, hij, rfl, hle, hm, hg, hk, rfl, hp⟩
 rw [revb0]
 unfold revl0
 simp (disch := omega) only [SS, ↓reduceIte, Nat.reduceAdd, Nat.reduceSub, Nat.reduceMul, Nat.reduceLT, Nat.reduceLeDiff, Nat.reduceEqDiff, Int.reduceBEq, Int.reduceLT, Int.reduceNeg]
 refine ⟨fun hlt => ?_, fun hge => ?_⟩
 ·obtain ⟨x, hx⟩ := get_ex (l := m) (i := i) (by omega)
  obtain ⟨y, hy⟩ := get_ex (l := m) (i := j) (by omega)
  have ei : IntKind.wrap .i64 ((i : Int) + 1) = ((i + 1 : Nat) : Int) := wrap_s (by omega)
  have ej : IntKind.wrap .i64 ((j : Int) - 1) = ((j - 1 : Nat) : Int) := by rw [wrapS (by omega) (by omega)]; omega
  simp (disch := omega) only [SS, ↓reduceIte, Nat.reduceAdd, Nat.reduceSub, Nat.reduceMul, Nat.reduceLT, Nat.reduceLeDiff, Nat.reduceEqDiff, Int.reduceBEq, Int.reduceLT, Int.reduceNeg, hg, ints_get hx, ints_get hy, ei, ej, List.length_set]
  refine ⟨by omega, by omega, l.length - (i + 1), by omega, i + 1, j - 1, _, rfl, by omega, rfl, by omega, ?_, hnew _ _ _, fun c hc => ?_, rfl, fun k hk' => ?_⟩
  ·simp [hm]
  ·rw [hold hc, hold hc]; exact hk c hc
  ·have hx' := hp i (by omega)
   have hy' := hp j (by omega)
   rw [if_neg (by omega), hx] at hx'
   rw [if_neg (by omega), hy] at hy'
   rw [List.getElem?_set, List.getElem?_set]
   simp only [List.length_set]
   by_cases e1 : j = k
   ·subst e1
    rw [if_pos rfl, if_pos (by omega), if_pos (by omega), show l.length - 1 - j = i by omega, ← hx']
   ·rw [if_neg e1]
    by_cases e2 : i = k
    ·subst e2
     rw [if_pos rfl, if_pos (by omega), if_pos (by omega), show l.length - 1 - i = j by omega, ← hy']
    ·rw [if_neg e2, hp k hk']
     by_cases e3 : k < i ∨ j < k
     ·rw [if_pos e3, if_pos (by omega)]
     ·rw [if_neg e3, if_neg (by omega)]
 ·have : m = l.reverse := by
   apply List.ext_getElem?
   intro k
   by_cases hk' : k < l.length
   ·rw [hp k hk', List.getElem?_reverse hk']
    by_cases e3 : k < i ∨ j < k
    ·rw [if_pos e3]
    ·rw [if_neg e3]
     congr 1
     omega
   ·rw [List.getElem?_eq_none (by omega), List.getElem?_eq_none (by simp; omega)]
  subst this
  exact ⟨hg, hk⟩
def inn (l p : List Int) (k : Int) : Prop := 0 ≤ k ∧ k < l.length ∧ k < p.length
instance (l p : List Int) (k : Int) : Decidable (inn l p k) := inferInstanceAs (Decidable (_ ∧ _))
def wg (l p : List Int) : Nat → Int → Option (List Int)
 | 0, k => if inn l p k ∧ l[k.toNat]? = some 0 then some [k] else none
 | w + 1, k => if inn l p k ∧ l[k.toNat]? = some ((w + 1 : Nat) : Int) then (wg l p w ((p[k.toNat]?).getD 0)).map (k :: ·) else none
def wayR (l p : List Int) (t : Int) : List Int := match l[t.toNat]? with
 | some x => if 0 ≤ t ∧ 0 ≤ x then ((wg l p x.toNat t).getD []).reverse else []
 | none => []
theorem wg_some (l p : List Int) : ∀ (w : Nat) (k : Int) (r : List Int), wg l p w k = some r → r.length = w + 1 ∧ (∀ x ∈ r, inn l p x ∧ ∃ y : Nat, y ≤ w ∧ l[x.toNat]? = some (y : Int)) ∧ r.Nodup
 | 0, k, r, h => by
  unfold wg at h
  split at h
  ·rename_i hh
   cases h
   refine ⟨rfl, fun x hx => ?_, by simp⟩
   rw [List.mem_singleton.1 hx]
   exact ⟨hh.1, 0, Nat.le_refl _, hh.2⟩
  ·cases h
 | w + 1, k, r, h => by
  unfold wg at h
  split at h
  ·rename_i hh
   cases hw : wg l p w ((p[k.toNat]?).getD 0) with
   | none => rw [hw] at h; cases h
   | some r' =>
    rw [hw] at h
    cases h
    obtain ⟨h1, h2, h3⟩ := wg_some l p w _ r' hw
    refine ⟨by simp [h1], fun x hx => ?_, List.nodup_cons.2 ⟨fun hk => ?_, h3⟩⟩
    ·rcases List.mem_cons.1 hx with rfl | hx
     ·exact ⟨hh.1, w + 1, Nat.le_refl _, hh.2⟩
     ·obtain ⟨a, y, hy, e⟩ := h2 x hx
      exact ⟨a, y, by omega, e⟩
    ·obtain ⟨a, y, hy, e⟩ := h2 k hk
     rw [hh.2] at e
     have : ((w + 1 : Nat) : Int) = (y : Int) := by simpa using e
     omega
  ·cases h
theorem nodup_le {n : Nat} {r : List Int} (hd : r.Nodup) (hr : ∀ x ∈ r, 0 ≤ x ∧ x < n) : r.length ≤ n := by
 have := le_of_nodup r ((List.range n).map (fun y : Nat => (y : Int))) hd (fun x hx => by
  have := hr x hx
  exact List.mem_map.2 ⟨x.toNat, by rw [List.mem_range]; omega, by omega⟩)
 simpa using this
theorem wg_le {l p : List Int} {w : Nat} {k : Int} {r : List Int} (h : wg l p w k = some r) : w + 1 ≤ min l.length p.length := by
 obtain ⟨h1, h2, h3⟩ := wg_some l p w k r h
 have := nodup_le (n := min l.length p.length) h3 (fun x hx => by have := (h2 x hx).1; unfold inn at this; omega)
 omega
theorem wg_out {l p : List Int} {w : Nat} {k : Int} (h : ¬ inn l p k) : wg l p w k = none := by
 cases w <;> simp [wg, h]
theorem wg_at {l p : List Int} {w : Nat} {k : Int} (h : l[k.toNat]? ≠ some (w : Int)) : wg l p w k = none := by
 cases w with
 | zero => unfold wg; rw [if_neg (fun e => h e.2)]
 | succ w => unfold wg; rw [if_neg (fun e => h e.2)]
theorem wg_0 {l p : List Int} {k : Nat} (h : k < l.length) (hp : k < p.length) (e : l[k]? = some 0) : wg l p 0 (k : Int) = some [(k : Int)] := by
 unfold wg
 rw [if_pos ⟨⟨by omega, by omega, by omega⟩, e⟩]
theorem wg_s {l p : List Int} {w k : Nat} {y : Int} (h : k < l.length) (hy : p[k]? = some y) (e : l[k]? = some ((w + 1 : Nat) : Int)) : wg l p (w + 1) (k : Int) = (wg l p w y).map ((k : Int) :: ·) := by
 have := (List.getElem?_eq_some_iff.1 hy).1
 conv => lhs; unfold wg
 rw [if_pos ⟨⟨by omega, by omega, by omega⟩, e⟩, Int.toNat_natCast, hy]; rfl
def Ob (h : Hp) (v : Value) (l : List Int) (b : Nat) : Prop := ∃ sp, (sp = none ∨ sp = some 1) ∧ v = .slice (some ⟨b, 0, sp⟩) l.length l.length ∧ hget h b = some (.cells (ints l) false)
theorem Ob.gr {h : Hp} {v : Value} {l : List Int} {b : Nat} (o : Ob h v l b) : Gr h encI 1 v l (some b) := by
 obtain ⟨sp, rfl | rfl, rfl, hb⟩ := o
 ·exact .part (enc := encI) (k := 1) hb (by rw [ints_len]; omega) (by rw [List.drop_zero, Nat.mul_one, List.take_of_length_le (by rw [ints_len]; omega), flat_ints])
 ·exact .own (enc := encI) (k := 1) (by rw [flat_ints]; exact hb)
def WayJ (l p : List Int) (vl vp : Value) (L0 to : Nat) (nx : Nat) (h : Hp) (m : Nat) (vs : List Value) (h' : Hp) (nx' : Nat) : Prop :=
 ∃ (pre : List Int) (k b : Nat) (o : Value), vs = [vl, vp, .slice none 0 0, .int .i64 ((min l.length p.length : Nat) : Int), o, .int .i64 (k : Int)] ∧ Ob h' o (pre ++ [(k : Int)]) b ∧ nx ≤ b ∧ b < nx' ∧ Keep nx h h' ∧ k < min l.length p.length ∧
  l[k]? = some (m : Int) ∧ pre.length + m = L0 ∧ wg l p L0 (to : Int) = (wg l p m (k : Int)).map (pre ++ ·)
def WayK (l p : List Int) (t : Int) (nx : Nat) (h : Hp) : KC' := fun r h' nx' => SlRd h' nx' r encI (wayR l p t) ∧ Keep nx h h' ∧ nx ≤ nx'
theorem sl_nil (h : Hp) (nx : Nat) : SlRd h nx (.slice none 0 0) encI ([] : List Int) := ⟨none, 0, rfl, fun h => absurd rfl h⟩
theorem minN {a b : Nat} : min (a : Int) (b : Int) = ((min a b : Nat) : Int) := by omega
theorem way_c {s : Bool} {h : Hp} {nx : Nat} {vl vp : Value} {l p : List Int} {t : Int} (hl : SlRd h nx vl encI l) (hp : SlRd h nx vp encI p) (hl6 : l.length ≤ 60) :
  Cv Q O s 29 [vl, vp, .int .i64 t] h nx (WayK l p t nx h) := by
 refine wayv ?_
 obtain ⟨a, cap, rfl, hc⟩ := id hl
 obtain ⟨a', cap', rfl, hc'⟩ := id hp
 unfold way
 have no : wayR l p t = [] → wayk0 s (WayK l p t nx h) (.slice a l.length cap) (.slice a' p.length cap') (.int .i64 t) (.int .i64 ((min l.length p.length : Nat) : Int)) (.bool true) h nx := fun e => by
  unfold wayk0
  simp (disch := omega) only [SS, ↓reduceIte, Nat.reduceAdd, Nat.reduceSub, Nat.reduceMul, Nat.reduceLT, Nat.reduceLeDiff, Nat.reduceEqDiff, Int.reduceBEq, Int.reduceLT, Int.reduceNeg]
  exact ⟨by rw [e]; exact sl_nil _ _, Keep.refl _ _, Nat.le_refl _⟩
 have go : ∀ (k x : Nat), t = (k : Int) → k < min l.length p.length → l[k]? = some (x : Int) → x < min l.length p.length → wayk0 s (WayK l p t nx h) (.slice a l.length cap) (.slice a' p.length cap') (.int .i64 t) (.int .i64 ((min l.length p.length : Nat) : Int)) (.bool false) h nx := by
  rintro k0 x0 rfl hk0 hx0 hxn
  have hR : wayR l p (k0 : Int) = ((wg l p x0 (k0 : Int)).getD []).reverse := by
   unfold wayR
   rw [Int.toNat_natCast, hx0]
   simp
  unfold wayk0
  simp (disch := omega) only [SS, ↓reduceIte, Nat.reduceAdd, Nat.reduceSub, Nat.reduceMul, Nat.reduceLT, Nat.reduceLeDiff, Nat.reduceEqDiff, Int.reduceBEq, Int.reduceLT, Int.reduceNeg]
  refine Lp.mk (WayJ l p (.slice a l.length cap) (.slice a' p.length cap') x0 k0 nx h) x0 ⟨[], k0, nx, _, rfl, ⟨none, .inl rfl, rfl, hnew _ _ _⟩, Nat.le_refl _, Nat.lt_succ_self _, (Keep.refl _ _).set (Nat.le_refl _), hk0, hx0, by simp, by cases wg l p x0 (k0 : Int) <;> simp⟩ ?_
  rintro m _ h' nx' ⟨pre, k, b, o, rfl, ho, hb, hb', hk, hkn, hx, hpm, hw⟩
  obtain ⟨sp, hsp, rfl, hob⟩ := id ho
  obtain ⟨_, bl, spl, rol, c1, hbl, e1, hgl⟩ := hl.at hx
  obtain ⟨y, hy⟩ := get_ex (l := p) (i := k) (by omega)
  obtain ⟨_, bp, spp, rop, c2, hbp, e2, hgp⟩ := hp.at hy
  cases e1; cases e2
  rw [flat_ints] at hgl hgp
  have hgl := (hk bl hbl).trans hgl
  have hgp := (hk bp hbp).trans hgp
  rw [wayb0]
  unfold wayl0
  simp (disch := omega) only [SS, ↓reduceIte, Nat.reduceAdd, Nat.reduceSub, Nat.reduceMul, Nat.reduceLT, Nat.reduceLeDiff, Nat.reduceEqDiff, Int.reduceBEq, Int.reduceLT, Int.reduceNeg, hgl, hgp, ints_get hx, ints_get hy]
  have stop : wg l p m (k : Int) = none → SlRd h' nx' (.slice none 0 0) encI (wayR l p (k0 : Int)) := fun e => by
   rw [hR, hw, e]; exact sl_nil _ _
  have hkl : k < l.length := by omega
  refine ⟨fun h1 => ⟨fun h2 => ?_, fun h2 => ⟨fun h3 => ?_, fun h3 => ?_⟩⟩, fun h1 => ?_⟩
  ·refine ⟨stop ?_, hk, by omega⟩
   obtain ⟨m', rfl⟩ : ∃ m', m = m' + 1 := ⟨m - 1, by omega⟩
   rw [wg_s hkl hy hx, wg_out (by unfold inn; omega)]; rfl
  ·refine ⟨stop ?_, hk, by omega⟩
   obtain ⟨m', rfl⟩ : ∃ m', m = m' + 1 := ⟨m - 1, by omega⟩
   rw [wg_s hkl hy hx, wg_out (by unfold inn; omega)]; rfl
  ·obtain ⟨m', rfl⟩ : ∃ m', m = m' + 1 := ⟨m - 1, by omega⟩
   obtain ⟨u, rfl⟩ : ∃ u : Nat, y = (u : Int) := ⟨y.toNat, by omega⟩
   obtain ⟨z, hz⟩ := get_ex (l := l) (i := u) (by omega)
   have ew : IntKind.wrap .i64 (((m' + 1 : Nat) : Int) - 1) = (m' : Int) := by rw [wrapS (by omega) (by omega)]; omega
   rw [ew]
   have hul : u < l.length := by omega
   simp (disch := omega) only [SS, ↓reduceIte, Nat.reduceAdd, Nat.reduceSub, Nat.reduceMul, Nat.reduceLT, Nat.reduceLeDiff, Nat.reduceEqDiff, Int.reduceBEq, Int.reduceLT, Int.reduceNeg, hgl, ints_get hz]
   refine ⟨fun h4 => ?_, fun h4 => ?_⟩
   ·refine ⟨stop ?_, hk, by omega⟩
    rw [wg_s hkl hy hx, wg_at (by rw [Int.toNat_natCast, hz]; simp at h4; simpa using h4)]; rfl
   ·have hzm : z = (m' : Int) := by simpa using h4
    subst hzm
    refine EK_appI (ho.gr.keep (fun c hc => by cases hc; exact hold (by omega))) (hnew _ _ _) (by simp; omega) (fun h2 e1 e2 => ?_)
    refine ⟨m', by omega, pre ++ [(k : Int)], u, nx' + 1, _, rfl, ⟨some 1, .inr rfl, by simp, e1⟩, by omega, by omega, fun c hc => ?_, by omega, hz, by simp; omega, ?_⟩
    ·rw [e2 c (by omega) (fun e => by cases e; omega), hold (by omega)]; exact hk c hc
    ·rw [hw, wg_s hkl hy hx]
     cases wg l p m' (u : Int) <;> simp
  ·have hm0 : m = 0 := by omega
   subst hm0
   refine (rev_c hob (by simp) (by simp; omega)).mono ?_
   rintro r h3 nx3 ⟨g1, g2, rfl⟩
   refine ⟨?_, fun c hc => (g2 c (by omega)).trans (hk c hc), by omega⟩
   rw [hR, hw, wg_0 hkl (by omega) hx]
   exact ⟨some ⟨b, 0, sp⟩, (pre ++ [(k : Int)]).length, by simp, fun _ => ⟨b, sp, false, hb', rfl, by rw [flat_ints]; exact g1⟩⟩
 simp (disch := omega) only [SS, ↓reduceIte, Nat.reduceAdd, Nat.reduceSub, Nat.reduceMul, Nat.reduceLT, Nat.reduceLeDiff, Nat.reduceEqDiff, Int.reduceBEq, Int.reduceLT, Int.reduceNeg, minN]
 refine ⟨fun h1 => no ?_, fun h1 => ⟨fun h2 => no ?_, fun h2 => ?_⟩⟩
 ·unfold wayR
  split
  ·rw [if_neg (by omega)]
  ·rfl
 ·unfold wayR
  split
  ·split
   ·rw [wg_out (by unfold inn; omega)]; rfl
   ·rfl
  ·rfl
 ·obtain ⟨k, rfl⟩ : ∃ k : Nat, t = (k : Int) := ⟨t.toNat, by omega⟩
  obtain ⟨x, hx⟩ := get_ex (l := l) (i := k) (by omega)
  obtain ⟨_, bl, spl, rol, c1, hbl, e1, hgl⟩ := hl.at hx
  cases e1
  rw [flat_ints] at hgl
  have hkl : k < l.length := by omega
  simp (disch := omega) only [SS, ↓reduceIte, Nat.reduceAdd, Nat.reduceSub, Nat.reduceMul, Nat.reduceLT, Nat.reduceLeDiff, Nat.reduceEqDiff, Int.reduceBEq, Int.reduceLT, Int.reduceNeg, hgl, ints_get hx]
  refine ⟨fun h3 => no ?_, fun h3 => ?_⟩
  ·unfold wayR
   rw [Int.toNat_natCast, hx]
   simp only
   rw [if_neg (by omega)]
  ·by_cases h4 : x < ((min l.length p.length : Nat) : Int)
   ·rw [decide_eq_true h4, Bool.not_true]
    exact go k x.toNat rfl (by omega) (by rw [hx]; congr 1; omega) (by omega)
   ·rw [decide_eq_false h4, Bool.not_false]
    refine no ?_
    unfold wayR
    rw [Int.toNat_natCast, hx]
    simp only
    rw [if_pos ⟨by omega, by omega⟩]
    cases hw : wg l p x.toNat (k : Int) with
    | none => rfl
    | some r => have := wg_le hw; omega
def okI (n : Int) : Prop := -9223372036854775808 ≤ n ∧ n ≤ 9223372036854775807
theorem appA_1 {h : Hp} {nx b : Nat} {v : Value} {x : Int} {l : List Int} {ro : Bool} (hv : SlRd h nx v encI l) (hb : hget h b = some (.cells [.int .i64 x] ro)) (hbn : b < nx) (h1 : l.length < 999999) {K : Value → Hp → Nat → Prop}
  (hK : ∀ r h' nx', SlRd h' nx' r encI (x :: l) → Keep nx h h' → nx ≤ nx' → K r h' nx') : EK (orR (appendA 1 h nx (.slice (some ⟨b, 0, none⟩) 1 1) v)) K := by
 obtain ⟨a, cap, rfl, hc⟩ := hv
 rcases Classical.em (l = []) with e | e
 ·subst e
  exact hK _ _ _ ⟨some ⟨b, 0, none⟩, 1, rfl, fun _ => ⟨b, none, ro, hbn, rfl, by rw [flat_ints]; exact hb⟩⟩ (Keep.refl _ _) (Nat.le_refl _)
 ·obtain ⟨b2, sp2, ro2, hb2, rfl, hg⟩ := hc e
  have h0 : 0 < l.length := List.length_pos_iff.2 e
  rw [flat_ints] at hg
  have hr : readA h (some ⟨b2, 0, sp2⟩) (l.length.mul 1) (fun new => appGo 1 h nx (some ⟨b, 0, none⟩) 1 1 l.length new) = appGo 1 h nx (some ⟨b, 0, none⟩) 1 1 l.length (ints l) := by
   rw [show l.length.mul 1 = l.length from Nat.mul_one _, readA_eq hg h0 (by rw [ints_len]; omega)]
   rw [List.drop_zero, List.take_of_length_le (by rw [ints_len]; omega)]
  have e2 : appendA 1 h nx (.slice (some ⟨b, 0, none⟩) 1 1) (.slice (some ⟨b2, 0, sp2⟩) l.length cap) = .ok (.val (.slice (some ⟨nx, 0, some 1⟩) (1 + l.length) (1 + l.length)) (hset h nx (.cells (ints (x :: l)) false)) (nx + 1)) := by
   show readA h (some ⟨b2, 0, sp2⟩) (l.length.mul 1) (fun new => appGo 1 h nx (some ⟨b, 0, none⟩) 1 1 l.length new) = _
   rw [hr]
   unfold appGo
   rw [show Nat.ble (Nat.add 1 l.length) 1 = false by
    cases hb : Nat.ble (Nat.add 1 l.length) 1 with
    | false => rfl
    | true => have := Nat.le_of_ble_eq_true hb; have : 1 + l.length ≤ 1 := this; omega]
   rw [show (Nat.ble (Nat.mul (Nat.add 1 l.length) 1) 1000000 && Nat.ble (Nat.add 1 l.length) 1000000) = true by
    simp only [Bool.and_eq_true, Nat.ble_eq]
    exact ⟨by show (1 + l.length) * 1 ≤ _; omega, by show 1 + l.length ≤ _; omega⟩]
   show appUp h nx 1 (some ⟨b, 0, none⟩) 1 1 (1 + l.length) (ints l) = _
   unfold appUp
   simp only [cellsOf_some hb]
   show growN h nx 1 (lapp [.int .i64 x] (ints l)) (1 + l.length) = _
   rw [lapp_eq]
   exact growN_eq (by omega)
  rw [e2]
  exact hK _ _ _ ⟨some ⟨nx, 0, some 1⟩, 1 + l.length, by rw [List.length_cons, Nat.add_comm], fun _ => ⟨nx, some 1, false, by omega, rfl, by rw [flat_ints]; exact hnew _ _ _⟩⟩ ((Keep.refl _ _).set (Nat.le_refl _)) (by omega)
def RwayJ (l p : List Int) (vl vp : Value) (L0 : Nat) (to : Int) (nx : Nat) (h : Hp) (m : Nat) (vs : List Value) (h' : Hp) (nx' : Nat) : Prop :=
 ∃ (pre : List Int) (k : Int) (w : Nat) (o : Value), m = 61 - pre.length ∧ vs = [vl, vp, .slice none 0 0, o, .int .i64 k, .int .i64 (w : Int)] ∧ w < 9223372036854775808 ∧ SlRd h' nx' o encI pre.reverse ∧ Keep nx h h' ∧ nx ≤ nx' ∧
  wg l p L0 to = (wg l p w k).map (pre ++ ·) ∧ pre.Nodup ∧ ∀ x ∈ pre, inn l p x ∧ ∃ y : Nat, w < y ∧ l[x.toNat]? = some (y : Int)
theorem rway_c {s : Bool} {h : Hp} {nx : Nat} {vl vp : Value} {l p : List Int} {t : Int} (hl : SlRd h nx vl encI l) (hp : SlRd h nx vp encI p) (hl6 : l.length ≤ 60) (hok : ∀ x ∈ l, okI x) :
  Cv Q O s 39 [vl, vp, .int .i64 t] h nx (WayK l p t nx h) := by
 refine rwayv ?_
 obtain ⟨a, cap, rfl, hc⟩ := id hl
 obtain ⟨a', cap', rfl, hc'⟩ := id hp
 unfold rway
 have no : wayR l p t = [] → rwayk0 s (WayK l p t nx h) (.slice a l.length cap) (.slice a' p.length cap') (.int .i64 t) (.bool true) h nx := fun e => by
  unfold rwayk0
  simp (disch := omega) only [SS, ↓reduceIte, Nat.reduceAdd, Nat.reduceSub, Nat.reduceMul, Nat.reduceLT, Nat.reduceLeDiff, Nat.reduceEqDiff, Int.reduceBEq, Int.reduceLT, Int.reduceNeg]
  exact ⟨by rw [e]; exact sl_nil _ _, Keep.refl _ _, Nat.le_refl _⟩
 have go : ∀ (k x : Nat), t = (k : Int) → k < l.length → l[k]? = some (x : Int) → rwayk0 s (WayK l p t nx h) (.slice a l.length cap) (.slice a' p.length cap') (.int .i64 t) (.bool false) h nx := by
  rintro k0 x0 rfl hk0 hx0
  have hR : wayR l p (k0 : Int) = ((wg l p x0 (k0 : Int)).getD []).reverse := by
   unfold wayR
   rw [Int.toNat_natCast, hx0]
   simp
  unfold rwayk0
  obtain ⟨_, bl, spl, rol, c1, hbl, e1, hgl⟩ := hl.at hx0
  cases e1
  rw [flat_ints] at hgl
  have hx6 := (hok _ (List.mem_of_getElem? hx0)).2
  simp (disch := omega) only [SS, ↓reduceIte, Nat.reduceAdd, Nat.reduceSub, Nat.reduceMul, Nat.reduceLT, Nat.reduceLeDiff, Nat.reduceEqDiff, Int.reduceBEq, Int.reduceLT, Int.reduceNeg, hgl, ints_get hx0]
  refine Lp.mk (RwayJ l p (.slice (some ⟨bl, 0, spl⟩) l.length cap) (.slice a' p.length cap') x0 (k0 : Int) nx h) 61 ⟨[], k0, x0, _, by simp, rfl, by omega, sl_nil _ _, Keep.refl _ _, Nat.le_refl _, by cases wg l p x0 (k0 : Int) <;> simp, by simp, by simp⟩ ?_
  rintro _ _ h' nx' ⟨pre, k, w, o, rfl, rfl, hw9, ho, hk, hle, hw, hnd, hpr⟩
  have hpl := nodup_le (n := l.length) hnd (fun x hx => by have := (hpr x hx).1; unfold inn at this; omega)
  have hgl := (hk bl hbl).trans hgl
  rw [rwayb0]
  unfold rwayl0
  simp (disch := omega) only [SS, ↓reduceIte, Nat.reduceAdd, Nat.reduceSub, Nat.reduceMul, Nat.reduceLT, Nat.reduceLeDiff, Nat.reduceEqDiff, Int.reduceBEq, Int.reduceLT, Int.reduceNeg, hgl]
  have stop : ∀ h2 nx2, wg l p w k = none → Keep nx h h2 → nx ≤ nx2 → WayK l p (k0 : Int) nx h (.slice none 0 0) h2 nx2 := fun h2 nx2 e hk2 hle2 => ⟨by rw [hR, hw, e]; exact sl_nil _ _, hk2, hle2⟩
  refine ⟨fun h1 => stop _ _ (wg_out (by unfold inn; omega)) hk hle, fun h1 => ⟨fun h2 => stop _ _ (wg_out (by unfold inn; omega)) hk hle, fun h2 => ⟨fun h3 => stop _ _ (wg_out (by unfold inn; omega)) hk hle, fun h3 => ?_⟩⟩⟩
  obtain ⟨u, rfl⟩ : ∃ u : Nat, k = (u : Int) := ⟨k.toNat, by omega⟩
  have hul : u < l.length := by omega
  obtain ⟨z, hz⟩ := get_ex (l := l) (i := u) hul
  obtain ⟨y, hy⟩ := get_ex (l := p) (i := u) (by omega)
  obtain ⟨_, bp, spp, rop, c2, hbp, e2, hgp⟩ := hp.at hy
  cases e2
  rw [flat_ints] at hgp
  have hgp := (hk bp hbp).trans hgp
  simp (disch := omega) only [SS, ↓reduceIte, Nat.reduceAdd, Nat.reduceSub, Nat.reduceMul, Nat.reduceLT, Nat.reduceLeDiff, Nat.reduceEqDiff, Int.reduceBEq, Int.reduceLT, Int.reduceNeg, hgl, ints_get hz]
  refine ⟨fun h4 => stop _ _ (wg_at (by rw [Int.toNat_natCast, hz]; simp at h4; simpa using h4)) hk hle, fun h4 => ?_⟩
  have hzw : z = (w : Int) := by simpa using h4
  subst hzw
  refine appA_1 (ho.keep ((Keep.refl nx' h').set (Nat.le_refl _)) (Nat.le_succ _)) (hnew _ _ _) (Nat.lt_succ_self _) (by simp; omega) (fun r h2 nx2 hr hk2 hle2 => ?_)
  have K2 : Keep nx h h2 := (hk.set hle).trans hk2 (by omega)
  have hgl2 := (hk2 bl (by omega)).trans ((hold (show bl ≠ nx' by omega)).trans hgl)
  have hgp2 := (hk2 bp (by omega)).trans ((hold (show bp ≠ nx' by omega)).trans hgp)
  simp (disch := omega) only [SS, ↓reduceIte, Nat.reduceAdd, Nat.reduceSub, Nat.reduceMul, Nat.reduceLT, Nat.reduceLeDiff, Nat.reduceEqDiff, Int.reduceBEq, Int.reduceLT, Int.reduceNeg, hgp2, ints_get hy]
  refine ⟨fun h5 => ?_, fun h5 => ?_⟩
  ·have hw0 : w = 0 := by simpa using h5
   subst hw0
   refine ⟨?_, K2, by omega⟩
   rw [hR, hw, wg_0 hul (by omega) hz]
   simpa using hr
  ·have hw0 : w ≠ 0 := by simpa using h5
   obtain ⟨w', rfl⟩ : ∃ w', w = w' + 1 := ⟨w - 1, by omega⟩
   have e3 := wg_s (p := p) hul hy hz
   refine ⟨fun h6 => stop _ _ (by rw [e3, wg_out (by unfold inn; omega)]; rfl) K2 (by omega), fun h6 => ⟨fun h7 => stop _ _ (by rw [e3, wg_out (by unfold inn; omega)]; rfl) K2 (by omega), fun h7 => ?_⟩⟩
   have ew : IntKind.wrap .i64 (((w' + 1 : Nat) : Int) - 1) = (w' : Int) := by rw [wrapS (by omega) (by omega)]; omega
   rw [ew]
   have hnu : (u : Int) ∉ pre := fun hm => by
    obtain ⟨_, y', hy', e⟩ := hpr _ hm
    rw [Int.toNat_natCast, hz] at e
    have : ((w' + 1 : Nat) : Int) = (y' : Int) := by simpa using e
    omega
   refine ⟨61 - (pre.length + 1), by omega, pre ++ [(u : Int)], y, w', r, by simp, rfl, by omega, by simpa using hr, K2, by omega, ?_, ?_, fun x hx => ?_⟩
   ·rw [hw, e3]
    cases wg l p w' y <;> simp
   ·exact List.nodup_append.2 ⟨hnd, by simp, fun a ha b hb => by rw [List.mem_singleton.1 hb]; exact fun e => hnu (e ▸ ha)⟩
   ·rcases List.mem_append.1 hx with hx | hx
    ·obtain ⟨h8, y', h9, e⟩ := hpr x hx
     exact ⟨h8, y', by omega, e⟩
    ·rw [List.mem_singleton.1 hx]
     exact ⟨⟨by omega, by omega, by omega⟩, w' + 1, by omega, by rw [Int.toNat_natCast]; exact hz⟩
 simp (disch := omega) only [SS, ↓reduceIte, Nat.reduceAdd, Nat.reduceSub, Nat.reduceMul, Nat.reduceLT, Nat.reduceLeDiff, Nat.reduceEqDiff, Int.reduceBEq, Int.reduceLT, Int.reduceNeg]
 refine ⟨fun h1 => no ?_, fun h1 => ⟨fun h2 => no ?_, fun h2 => ?_⟩⟩
 ·unfold wayR
  split
  ·rw [if_neg (by omega)]
  ·rfl
 ·unfold wayR
  rw [List.getElem?_eq_none (by omega)]
 ·obtain ⟨k, rfl⟩ : ∃ k : Nat, t = (k : Int) := ⟨t.toNat, by omega⟩
  obtain ⟨x, hx⟩ := get_ex (l := l) (i := k) (by omega)
  obtain ⟨_, bl, spl, rol, c1, hbl, e1, hgl⟩ := hl.at hx
  cases e1
  rw [flat_ints] at hgl
  have hkl : k < l.length := by omega
  simp (disch := omega) only [SS, ↓reduceIte, Nat.reduceAdd, Nat.reduceSub, Nat.reduceMul, Nat.reduceLT, Nat.reduceLeDiff, Nat.reduceEqDiff, Int.reduceBEq, Int.reduceLT, Int.reduceNeg, hgl, ints_get hx]
  by_cases h4 : x < 0
  ·rw [decide_eq_true h4]
   refine no ?_
   unfold wayR
   rw [Int.toNat_natCast, hx]
   simp only
   rw [if_neg (by omega)]
  ·rw [decide_eq_false h4]
   exact go k x.toNat rfl (by omega) (by rw [hx]; congr 1; omega)
def grow (c : List Int) (n : Nat) : List Int := c ++ List.replicate (n - c.length) 0
def cstep (c : List Int) (v : Int) : List Int := if v < 0 ∨ 4096 ≤ v then c else (grow c (v.toNat + 1)).set v.toNat (IntKind.wrap .i64 (((grow c (v.toNat + 1))[v.toNat]?).getD 0 + 1))
def cntL (l : List Int) (i : Nat) : List Int := (l.take i).foldl cstep []
theorem grow_len (c : List Int) (n : Nat) : (grow c n).length = max c.length n := by unfold grow; simp; omega
theorem cstep_len {c : List Int} {v : Int} (h : c.length ≤ 4096) : (cstep c v).length ≤ 4096 := by
 unfold cstep
 split
 ·exact h
 ·rw [List.length_set, grow_len]; omega
theorem foldl_len : ∀ (l c : List Int), c.length ≤ 4096 → (l.foldl cstep c).length ≤ 4096
 | [], c, h => h
 | x :: l, c, h => foldl_len l _ (cstep_len h)
theorem cntL_len (l : List Int) (i : Nat) : (cntL l i).length ≤ 4096 := foldl_len _ _ (by simp)
theorem cntL_s {l : List Int} {i : Nat} {x : Int} (h : l[i]? = some x) : cntL l (i + 1) = cstep (cntL l i) x := by
 unfold cntL
 rw [List.take_add_one, h]
 simp
theorem SlAt.form2 {h : Hp} {v : Value} {l : List Int} {lo hi : Nat} (hs : SlAt h v encI 1 l lo hi) : ∃ a, v = .slice a l.length l.length ∧ (l ≠ [] → ∃ b, lo ≤ b ∧ b < hi ∧ a = some ⟨b, 0, some 1⟩ ∧ hget h b = some (.cells (ints l) false)) := by
 rcases hs with ⟨rfl, rfl⟩ | ⟨b, h1, h2, rfl, h3⟩
 ·exact ⟨none, rfl, fun h => absurd rfl h⟩
 ·exact ⟨_, rfl, fun _ => ⟨b, h1, h2, rfl, by rw [← flat_ints]; exact h3⟩⟩
theorem rep_grow {c : List Int} {k : Nat} : c ++ List.replicate k 0 ++ [0] = c ++ List.replicate (k + 1) 0 := by
 rw [List.append_assoc, List.replicate_succ']
def CntK (l : List Int) (nx : Nat) (h : Hp) : KC' := fun r h' nx' => SlRd h' nx' r encI (cntL l l.length) ∧ Keep nx h h' ∧ nx ≤ nx'
def CntJ (l : List Int) (vl : Value) (nx : Nat) (h : Hp) (m : Nat) (vs : List Value) (h' : Hp) (nx' : Nat) : Prop := ∃ (i : Nat) (o : Value), m = l.length - i ∧ i ≤ l.length ∧ vs = [o, vl, .int .i64 (l.length : Int), .int .i64 (i : Int)] ∧ SlAt h' o encI 1 (cntL l i) nx nx' ∧ Keep nx h h' ∧ nx ≤ nx'
def CnuJ (c : List Int) (w : List Value) (v : Nat) (nx : Nat) (h : Hp) (m : Nat) (vs : List Value) (h' : Hp) (nx' : Nat) : Prop := ∃ (k : Nat) (o : Value), m = v + 1 - (c.length + k) ∧ k ≤ v + 1 - c.length ∧ vs = o :: w ∧ SlAt h' o encI 1 (c ++ List.replicate k 0) nx nx' ∧ Keep nx h h' ∧ nx ≤ nx'
theorem cntp_c {s : Bool} {h : Hp} {nx : Nat} {vl : Value} {l : List Int} (hl : SlRd h nx vl encI l) (hl6 : l.length ≤ 60) : Cv Q O s 40 [vl] h nx (CntK l nx h) := by
 refine cntpv ?_
 obtain ⟨a, cap, rfl, hc⟩ := id hl
 unfold cntp
 simp (disch := omega) only [SS, ↓reduceIte, Nat.reduceAdd, Nat.reduceSub, Nat.reduceMul, Nat.reduceLT, Nat.reduceLeDiff, Nat.reduceEqDiff, Int.reduceBEq, Int.reduceLT, Int.reduceNeg]
 refine Lp.mk (CntJ l (.slice a l.length cap) nx h) l.length ⟨0, _, by omega, by omega, rfl, .inl ⟨rfl, rfl⟩, Keep.refl _ _, Nat.le_refl _⟩ ?_
 rintro _ _ h' nx' ⟨i, o, rfl, hi, rfl, ho, hk, hle⟩
 rw [cntpb0]
 unfold cntpl0
 simp (disch := omega) only [SS, ↓reduceIte, Nat.reduceAdd, Nat.reduceSub, Nat.reduceMul, Nat.reduceLT, Nat.reduceLeDiff, Nat.reduceEqDiff, Int.reduceBEq, Int.reduceLT, Int.reduceNeg]
 refine ⟨fun hlt => ?_, fun hge => ?_⟩
 ·obtain ⟨x, hx⟩ := get_ex hlt
  obtain ⟨_, bl, spl, rol, c1, hbl, e1, hgl⟩ := hl.at hx
  cases e1
  rw [flat_ints] at hgl
  have ei : IntKind.wrap .i64 ((i : Int) + 1) = ((i + 1 : Nat) : Int) := wrap_s (by omega)
  have skip : x < 0 ∨ 4096 ≤ x → CntJ l (.slice (some ⟨bl, 0, spl⟩) l.length cap) nx h (l.length - (i + 1)) [o, .slice (some ⟨bl, 0, spl⟩) l.length cap, .int .i64 (l.length : Int), .int .i64 ((i + 1 : Nat) : Int)] h' nx' := fun e =>
   ⟨i + 1, o, rfl, hlt, rfl, by rw [cntL_s hx, cstep, if_pos e]; exact ho, hk, hle⟩
  unfold cntpk0
  simp (disch := omega) only [SS, ↓reduceIte, Nat.reduceAdd, Nat.reduceSub, Nat.reduceMul, Nat.reduceLT, Nat.reduceLeDiff, Nat.reduceEqDiff, Int.reduceBEq, Int.reduceLT, Int.reduceNeg, (hk bl hbl).trans hgl, ints_get hx, ei]
  refine ⟨fun h1 => ⟨_, by omega, skip (.inl h1)⟩, fun h1 => ⟨fun h2 => ⟨_, by omega, skip (.inr (by omega))⟩, fun h2 => ?_⟩⟩
  obtain ⟨v, rfl⟩ : ∃ v : Nat, x = (v : Int) := ⟨x.toNat, by omega⟩
  refine Lp.mk (CnuJ (cntL l i) [.int .i64 (v : Int), .slice (some ⟨bl, 0, spl⟩) l.length cap, .int .i64 (l.length : Int), .int .i64 (i : Int)] v nx h) (v + 1 - (cntL l i).length) ⟨0, o, by omega, by omega, rfl, by simpa using ho, hk, hle⟩ ?_
  rintro _ _ h2 nx2 ⟨k, o2, rfl, hkk, rfl, ho2, hk2, hle2⟩
  have hcl := cntL_len l i
  obtain ⟨a2, rfl, hne⟩ := SlAt.form2 ho2
  rw [cntpb1]
  unfold cntpl1
  have e0 : (cntL l i ++ List.replicate k 0).length = (cntL l i).length + k := by simp
  simp (disch := omega) only [SS, ↓reduceIte, Nat.reduceAdd, Nat.reduceSub, Nat.reduceMul, Nat.reduceLT, Nat.reduceLeDiff, Nat.reduceEqDiff, Int.reduceBEq, Int.reduceLT, Int.reduceNeg, e0]
  refine ⟨fun h3 => ?_, fun h3 => ?_⟩
  ·rw [← e0]
   refine EK_appS (enc := encI) (k := 1) (lo := nx) (fun _ => rfl) (fun _ => rfl) (by omega) (ho2.keep (fun b h1 h2 => by rw [hold (by omega)]) (by omega)) (by omega) (0 : Int) (hnew _ _ _) rfl (by rw [e0, Nat.mul_one]; omega) ?_
   intro v3 h4 hs hk4
   refine ⟨v + 1 - ((cntL l i).length + (k + 1)), by omega, k + 1, v3, rfl, by omega, rfl, by rw [← rep_grow]; exact hs, fun b hb => ?_, by omega⟩
   rw [hk4 b hb, hold (by omega)]; exact hk2 b hb
  ·have hg : cntL l i ++ List.replicate k 0 = grow (cntL l i) (v + 1) := by
    unfold grow
    congr 2
    omega
   rw [hg] at hne ho2
   have hgl2 : (grow (cntL l i) (v + 1)).length = (cntL l i).length + k := by rw [← hg, e0]
   obtain ⟨b, hb1, hb2, rfl, hb⟩ := hne (fun e => by rw [e] at hgl2; simp at hgl2; omega)
   obtain ⟨y, hy⟩ := get_ex (l := grow (cntL l i) (v + 1)) (i := v) (by omega)
   simp (disch := omega) only [SS, ↓reduceIte, Nat.reduceAdd, Nat.reduceSub, Nat.reduceMul, Nat.reduceLT, Nat.reduceLeDiff, Nat.reduceEqDiff, Int.reduceBEq, Int.reduceLT, Int.reduceNeg, hb, ints_get hy, ei]
   have ew : cntL l (i + 1) = (grow (cntL l i) (v + 1)).set v (IntKind.wrap .i64 (y + 1)) := by
    rw [cntL_s hx, cstep, if_neg (by omega), Int.toNat_natCast, hy]; rfl
   refine ⟨by omega, l.length - (i + 1), by omega, i + 1, _, rfl, by omega, rfl, ?_, fun c hc => (hold (by omega)).trans (hk2 c hc), by omega⟩
   rw [ew]
   refine .inr ⟨b, hb1, hb2, by rw [List.length_set, hgl2], ?_⟩
   rw [flat_ints]; exact hnew _ _ _
 ·have : i = l.length := by omega
  subst this
  exact ⟨ho.rd, hk, hle⟩
def CnrJ (l : List Int) (vl : Value) (nx : Nat) (h : Hp) (m : Nat) (vs : List Value) (h' : Hp) (nx' : Nat) : Prop := ∃ (i : Nat) (o : Value), m = l.length - i ∧ i ≤ l.length ∧ vs = [vl, o, .int .i64 (i : Int)] ∧ SlAt h' o encI 1 (cntL l i) nx nx' ∧ Keep nx h h' ∧ nx ≤ nx'
def CnvJ (c : List Int) (w w' : Value) (v : Nat) (nx : Nat) (h : Hp) (m : Nat) (vs : List Value) (h' : Hp) (nx' : Nat) : Prop := ∃ (k : Nat) (o : Value), m = v + 1 - (c.length + k) ∧ k ≤ v + 1 - c.length ∧ vs = [w, o, w'] ∧ SlAt h' o encI 1 (c ++ List.replicate k 0) nx nx' ∧ Keep nx h h' ∧ nx ≤ nx'
theorem rcnt_c {s : Bool} {h : Hp} {nx : Nat} {vl : Value} {l : List Int} (hl : SlRd h nx vl encI l) (hl6 : l.length ≤ 60) : Cv Q O s 41 [vl] h nx (CntK l nx h) := by
 refine rcntv ?_
 obtain ⟨a, cap, rfl, hc⟩ := id hl
 unfold rcnt
 refine Lp.mk (CnrJ l (.slice a l.length cap) nx h) l.length ⟨0, _, by omega, by omega, rfl, .inl ⟨rfl, rfl⟩, Keep.refl _ _, Nat.le_refl _⟩ ?_
 rintro _ _ h' nx' ⟨i, o, rfl, hi, rfl, ho, hk, hle⟩
 rw [rcntb0]
 unfold rcntl0
 simp (disch := omega) only [SS, ↓reduceIte, Nat.reduceAdd, Nat.reduceSub, Nat.reduceMul, Nat.reduceLT, Nat.reduceLeDiff, Nat.reduceEqDiff, Int.reduceBEq, Int.reduceLT, Int.reduceNeg]
 refine ⟨fun hlt => ?_, fun hge => ?_⟩
 ·obtain ⟨x, hx⟩ := get_ex hlt
  obtain ⟨_, bl, spl, rol, c1, hbl, e1, hgl⟩ := hl.at hx
  cases e1
  rw [flat_ints] at hgl
  have ei : IntKind.wrap .i64 ((i : Int) + 1) = ((i + 1 : Nat) : Int) := wrap_s (by omega)
  have skip : x < 0 ∨ 4096 ≤ x → CnrJ l (.slice (some ⟨bl, 0, spl⟩) l.length cap) nx h (l.length - (i + 1)) [.slice (some ⟨bl, 0, spl⟩) l.length cap, o, .int .i64 ((i + 1 : Nat) : Int)] h' nx' := fun e =>
   ⟨i + 1, o, rfl, hlt, rfl, by rw [cntL_s hx, cstep, if_pos e]; exact ho, hk, hle⟩
  unfold rcntk0
  simp (disch := omega) only [SS, ↓reduceIte, Nat.reduceAdd, Nat.reduceSub, Nat.reduceMul, Nat.reduceLT, Nat.reduceLeDiff, Nat.reduceEqDiff, Int.reduceBEq, Int.reduceLT, Int.reduceNeg, (hk bl hbl).trans hgl, ints_get hx, ei]
  refine ⟨fun h1 => ⟨_, by omega, skip (.inl h1)⟩, fun h1 => ⟨fun h2 => ⟨_, by omega, skip (.inr (by omega))⟩, fun h2 => ?_⟩⟩
  obtain ⟨v, rfl⟩ : ∃ v : Nat, x = (v : Int) := ⟨x.toNat, by omega⟩
  refine Lp.mk (CnvJ (cntL l i) (.slice (some ⟨bl, 0, spl⟩) l.length cap) (.int .i64 (i : Int)) v nx h) (v + 1 - (cntL l i).length) ⟨0, o, by omega, by omega, rfl, by simpa using ho, hk, hle⟩ ?_
  rintro _ _ h2 nx2 ⟨k, o2, rfl, hkk, rfl, ho2, hk2, hle2⟩
  have hcl := cntL_len l i
  obtain ⟨a2, rfl, hne⟩ := SlAt.form2 ho2
  rw [rcntb1]
  unfold rcntl1
  have e0 : (cntL l i ++ List.replicate k 0).length = (cntL l i).length + k := by simp
  simp (disch := omega) only [SS, ↓reduceIte, Nat.reduceAdd, Nat.reduceSub, Nat.reduceMul, Nat.reduceLT, Nat.reduceLeDiff, Nat.reduceEqDiff, Int.reduceBEq, Int.reduceLT, Int.reduceNeg, e0, (hk2 bl hbl).trans hgl, ints_get hx]
  refine ⟨fun h3 => ?_, fun h3 => ?_⟩
  ·rw [← e0]
   refine EK_appS (enc := encI) (k := 1) (lo := nx) (fun _ => rfl) (fun _ => rfl) (by omega) (ho2.keep (fun b h1 h2 => by rw [hold (by omega)]) (by omega)) (by omega) (0 : Int) (hnew _ _ _) rfl (by rw [e0, Nat.mul_one]; omega) ?_
   intro v3 h4 hs hk4
   refine ⟨v + 1 - ((cntL l i).length + (k + 1)), by omega, k + 1, v3, rfl, by omega, rfl, by rw [← rep_grow]; exact hs, fun b hb => ?_, by omega⟩
   rw [hk4 b hb, hold (by omega)]; exact hk2 b hb
  ·have hg : cntL l i ++ List.replicate k 0 = grow (cntL l i) (v + 1) := by
    unfold grow
    congr 2
    omega
   rw [hg] at hne ho2
   have hgl2 : (grow (cntL l i) (v + 1)).length = (cntL l i).length + k := by rw [← hg, e0]
   obtain ⟨b, hb1, hb2, rfl, hb⟩ := hne (fun e => by rw [e] at hgl2; simp at hgl2; omega)
   obtain ⟨y, hy⟩ := get_ex (l := grow (cntL l i) (v + 1)) (i := v) (by omega)
   simp (disch := omega) only [SS, ↓reduceIte, Nat.reduceAdd, Nat.reduceSub, Nat.reduceMul, Nat.reduceLT, Nat.reduceLeDiff, Nat.reduceEqDiff, Int.reduceBEq, Int.reduceLT, Int.reduceNeg, hb, ints_get hy, ei]
   have ew : cntL l (i + 1) = (grow (cntL l i) (v + 1)).set v (IntKind.wrap .i64 (y + 1)) := by
    rw [cntL_s hx, cstep, if_neg (by omega), Int.toNat_natCast, hy]; rfl
   refine ⟨by omega, l.length - (i + 1), by omega, i + 1, _, rfl, by omega, rfl, ?_, fun c hc => (hold (by omega)).trans (hk2 c hc), by omega⟩
   rw [ew]
   refine .inr ⟨b, hb1, hb2, by rw [List.length_set, hgl2], ?_⟩
   rw [flat_ints]; exact hnew _ _ _
 ·have : i = l.length := by omega
  subst this
  exact ⟨ho.rd, hk, hle⟩
def RriJ (N : Nat) (v w : Value) (n nx : Nat) (h : Hp) (m : Nat) (vs : List Value) (h' : Hp) (nx' : Nat) : Prop :=
 ∃ i : Nat, m = n - i ∧ i ≤ n ∧ vs = [.pointer (some ⟨nx, 0, none⟩), w, .int .i64 (i : Int)] ∧ hget h' nx = some (.cells [.int .i64 (N : Int), v] false) ∧ Keep nx h h' ∧ nx + 1 ≤ nx'
theorem rright_c {s : Bool} {N : Nat} {v : Value} {gs : List GE} {h : Hp} {nx : Nat} (hv : SlRd h nx v encG gs) (hN : N < 24) (hl : gs.length ≤ 60) (hok : ∀ g ∈ gs, GOk N g) :
  Cv Q O s 33 [.agg ⟨[.int .i64 (N : Int), v]⟩] h nx (Still (.int .i64 0) nx h) := by
 refine rrightv ?_
 obtain ⟨a, cap, rfl, hc⟩ := id hv
 unfold rright rrightk0
 simp (disch := omega) only [SS, ↓reduceIte, Nat.reduceAdd, Nat.reduceSub, Nat.reduceMul, Nat.reduceLT, Nat.reduceLeDiff, Nat.reduceEqDiff, Int.reduceBEq, Int.reduceLT, Int.reduceNeg]
 refine ⟨fun h1 => absurd h1 (by omega), fun _ => ⟨fun h1 => absurd h1 (by omega), fun _ => ⟨fun h1 => absurd h1 (by omega), fun _ => ?_⟩⟩⟩
 refine Lp.mk (RriJ N (.slice a gs.length cap) (.int .i64 0) gs.length nx h) gs.length ⟨0, by omega, by omega, rfl, hnew _ _ _, (Keep.refl _ _).set (Nat.le_refl _), Nat.le_refl _⟩ ?_
 rintro _ _ h' nx' ⟨i, rfl, hi, rfl, hg, hk, hle⟩
 rw [rrightb0]
 unfold rrightl0
 simp (disch := omega) only [SS, ↓reduceIte, Nat.reduceAdd, Nat.reduceSub, Nat.reduceMul, Nat.reduceLT, Nat.reduceLeDiff, Nat.reduceEqDiff, Int.reduceBEq, Int.reduceLT, Int.reduceNeg, hg]
 refine ⟨fun hlt => ?_, fun hge => ?_⟩
 ·obtain ⟨x, hx⟩ := get_ex hlt
  obtain ⟨_, b, sp, ro, c1, hb, e1, hgb⟩ := hv.at hx
  cases e1
  obtain ⟨o1, o2, o3, o4⟩ := hok x (List.mem_of_getElem? hx)
  simp (disch := omega) only [SS, ↓reduceIte, Nat.reduceAdd, Nat.reduceSub, Nat.reduceMul, Nat.reduceLT, Nat.reduceLeDiff, Nat.reduceEqDiff, Int.reduceBEq, Int.reduceLT, Int.reduceNeg, (hk b hb).trans hgb, rdG hx, encG, hg, wrap_s (show i < 1000000000000 by omega)]
  refine ⟨fun h1 => absurd h1 (by omega), fun _ => ⟨fun h1 => absurd h1 (by omega), fun _ => ⟨fun h1 => absurd h1 (by omega), fun _ => ⟨fun h1 => absurd h1 (by omega), fun _ => ?_⟩⟩⟩⟩
  exact ⟨_, by omega, i + 1, rfl, hlt, rfl, by rw [hold (by omega), hold (by omega)]; exact hg, (hk.set (by omega)).set (by omega), by omega⟩
 ·refine Lp.mk (RriJ N (.slice a gs.length cap) (.int .i64 0) gs.length nx h) gs.length ⟨0, by omega, by omega, rfl, hg, hk, hle⟩ ?_
  rintro _ _ h' nx' ⟨i, rfl, hi, rfl, hg, hk, hle⟩
  rw [rrightb1]
  unfold rrightl1
  simp (disch := omega) only [SS, ↓reduceIte, Nat.reduceAdd, Nat.reduceSub, Nat.reduceMul, Nat.reduceLT, Nat.reduceLeDiff, Nat.reduceEqDiff, Int.reduceBEq, Int.reduceLT, Int.reduceNeg, hg]
  refine ⟨fun hlt => ?_, fun hge => ⟨rfl, hk, by omega⟩⟩
  obtain ⟨x, hx⟩ := get_ex hlt
  obtain ⟨_, b, sp, ro, c1, hb, e1, hgb⟩ := hv.at hx
  cases e1
  obtain ⟨o1, o2, o3, o4⟩ := hok x (List.mem_of_getElem? hx)
  have hw := flat_cell (enc := encG) (k := 3) (fun _ => rfl) hx (j := 2) (by omega)
  rw [show (encG x)[2]? = some (.int .i64 x.w) from rfl] at hw
  simp (disch := omega) only [SS, ↓reduceIte, Nat.reduceAdd, Nat.reduceSub, Nat.reduceMul, Nat.reduceLT, Nat.reduceLeDiff, Nat.reduceEqDiff, Int.reduceBEq, Int.reduceLT, Int.reduceNeg, (hk b hb).trans hgb, hw, hg, wrap_s (show i < 1000000000000 by omega)]
  refine ⟨fun h1 => absurd h1 (by omega), fun _ => ⟨fun h1 => absurd h1 (by omega), fun _ => ?_⟩⟩
  exact ⟨_, by omega, i + 1, rfl, hlt, rfl, hg, hk, by omega⟩
theorem kL25 : compAt Tryz.prog 25 = some cfLevels := by kernel_rfl
theorem kP26 : compAt Tryz.prog 26 = some cfParents := by kernel_rfl
theorem rchk_c {s : Bool} {N sr : Nat} {v vl vp : Value} {gs : List GE} {L P l p : List Int} {h : Hp} {nx : Nat} (hv : SlRd h nx v encG gs) (hvl : SlRd h nx vl encI l) (hvp : SlRd h nx vp encI p) (hN : N < 24) (hsr : sr < N) (hl : gs.length ≤ 60) (hok : ∀ g ∈ gs, GOk N g) (hL : Lev N gs sr L) (hP : Par gs L N P) :
  Cv Q O s 38 [.agg ⟨[.int .i64 (N : Int), v]⟩, .int .i64 (sr : Int), vl, vp] h nx (CheckK L P l p nx h) := by
 refine rchkv ?_
 obtain ⟨a, cap, rfl, hc⟩ := id hv
 obtain ⟨al, capl, rfl, hcl⟩ := id hvl
 obtain ⟨ap, capp, rfl, hcp⟩ := id hvp
 unfold rchk
 have K1 : ∀ {o}, Keep nx h (hset h nx o) := (Keep.refl _ _).set (Nat.le_refl _)
 simp (disch := omega) only [SS, ↓reduceIte, Nat.reduceAdd, Nat.reduceSub, Nat.reduceMul, Nat.reduceLT, Nat.reduceLeDiff, Nat.reduceEqDiff, Int.reduceBEq, Int.reduceLT, Int.reduceNeg]
 refine (rright_c (hv.keep K1 (Nat.le_succ _)) hN hl hok).mono ?_
 rintro r h1 nx1 ⟨rfl, hk, hle⟩
 have g0 := hk nx (by omega)
 rw [hnew] at g0
 have K2 : Keep nx h h1 := K1.trans hk (by omega)
 have no : CheckK L P l p nx h (.bool false) h1 nx1 ∨ (l.length = N ∧ p.length = N) := by
  by_cases e : l.length = N ∧ p.length = N
  ·exact .inr e
  ·refine .inl ⟨?_, K2, by omega⟩
   rcases Classical.em (l.length = N) with e1 | e1
   ·rw [decide_eq_false (fun e2 : P = p => e ⟨e1, by rw [← e2]; exact hP.1⟩), Bool.and_false]
   ·rw [decide_eq_false (fun e2 : L = l => e1 (by rw [← e2]; exact hL.len)), Bool.false_and]
 unfold rchkk0
 simp (disch := omega) only [SS, ↓reduceIte, Nat.reduceAdd, Nat.reduceSub, Nat.reduceMul, Nat.reduceLT, Nat.reduceLeDiff, Nat.reduceEqDiff, Int.reduceBEq, Int.reduceLT, Int.reduceNeg, g0]
 refine ⟨fun h2 => absurd h2 (by omega), fun _ => ⟨fun h2 => absurd h2 (by omega), fun _ => ⟨fun h2 => ?_, fun h2 => ⟨fun h3 => ?_, fun h3 => ?_⟩⟩⟩⟩
 ·rcases no with h3 | h3
  ·exact h3
  ·exfalso; simp at h2; omega
 ·rcases no with h4 | h4
  ·exact h4
  ·exfalso; simp at h3; omega
 have hv1 := (hv.keep K1 (Nat.le_succ _)).keep hk hle
 refine (levels_cv kL25 rfl hv1 (by omega) hN hsr hl hok).mono ?_
 rintro r h4 nx4 ⟨bl, L', rfl, hbl, hL', hbl1, hbl2, hk4⟩
 have := hL.unique hL'
 subst this
 have K4 : Keep nx h h4 := K2.trans hk4 (by omega)
 have s1 : SlRd h4 nx4 (.slice (some ⟨bl, 0, some 1⟩) N N) encI L := ⟨some ⟨bl, 0, some 1⟩, N, by rw [hL.len], fun _ => ⟨bl, some 1, false, hbl2, rfl, by rw [flat_ints]; exact hbl⟩⟩
 refine (samev_c s1 (hvl.keep K4 (by omega)) (by rw [hL.len]; omega)).mono ?_
 rintro r _ _ ⟨rfl, rfl, rfl⟩
 have g4 := (hk4 nx (by omega)).trans g0
 simp (disch := omega) only [SS, ↓reduceIte, Nat.reduceAdd, Nat.reduceSub, Nat.reduceMul, Nat.reduceLT, Nat.reduceLeDiff, Nat.reduceEqDiff, Int.reduceBEq, Int.reduceLT, Int.reduceNeg, g4]
 refine ⟨fun ht => ?_, fun hf => ⟨by simp [hf], K4, by omega⟩⟩
 have hLr : ∀ (v : Nat) (x : Int), L[v]? = some x → -1 ≤ x ∧ x < 1000000 := fun v x hx => ⟨(hL.rng v x hx).1, by have := (hL.rng v x hx).2; omega⟩
 refine (parents_cv kP26 rfl (hv1.keep hk4 (by omega)) (by omega) hN hl hok hL.len hLr hbl hbl2).mono ?_
 rintro r h5 nx5 ⟨bp, P', rfl, hbp, hP', hbp1, hbp2, hk5⟩
 have := hP.unique hP'
 subst this
 have K5 : Keep nx h h5 := K4.trans hk5 (by omega)
 have s2 : SlRd h5 nx5 (.slice (some ⟨bp, 0, some 1⟩) N N) encI P := ⟨some ⟨bp, 0, some 1⟩, N, by rw [hP.1], fun _ => ⟨bp, some 1, false, hbp2, rfl, by rw [flat_ints]; exact hbp⟩⟩
 refine (samev_c s2 (hvp.keep K5 (by omega)) (by rw [hP.1]; omega)).mono ?_
 rintro r _ _ ⟨rfl, rfl, rfl⟩
 exact ⟨by simp [ht], K5, by omega⟩
theorem bin_beq4 {a b : Bool} : bin Tryz.prog .eql 4 (.bool a) (.bool b) = .ok (.bool (a == b)) := by
 have ht : isBoolTy Tryz.prog 4 = true := by kernel_rfl
 show R.of "compared" (bif isBoolTy Tryz.prog 4 then eqlB a (.bool b) else none) (fun b => rBool b) = _
 rw [ht]; rfl
theorem wayR_len (l p : List Int) (t : Int) : (wayR l p t).length ≤ l.length := by
 unfold wayR
 split
 ·split
  ·cases hw : wg l p _ t with
   | none => simp
   | some r =>
    have h1 := (wg_some l p _ t r hw).1
    have h2 := wg_le hw
    simp only [Option.getD_some, List.length_reverse]
    omega
  ·simp
 ·simp
theorem hchecks_cv {s : Bool} {n V R C to : Int} {v vl vp : Value} {es : List Edg3} {l p : List Int} {h : Hp} {nx : Nat} (hes : SlRd h nx v enc3 es) (hvl : SlRd h nx vl encI l) (hvp : SlRd h nx vp encI p) (hlo : ∀ x ∈ l, okI x) :
  Cv Q O s 9 [.agg ⟨[.int .i64 n, v, .int .i64 V, .int .u8 R, .int .u8 C]⟩, .agg ⟨[vl, vp]⟩, .int .i64 to] h nx TrueK := by
 refine hchecksv ?_
 obtain ⟨a, cap, rfl, hc⟩ := id hes
 obtain ⟨al, capl, rfl, hcl⟩ := id hvl
 obtain ⟨ap, capp, rfl, hcp⟩ := id hvp
 have live_o : ∀ {s : Bool} {h : Hp} {nx : Nat} {K : KC'}, K (.bool true) h nx → Cv Q O s 27 [] h nx K := fun hk => live_cv rfl hk
 have K0 : ∀ {o o'}, Keep nx h (hset (hset h nx o) (nx + 1) o') := ((Keep.refl _ _).set (Nat.le_refl _)).set (Nat.le_succ _)
 unfold hchecks hchecksk0
 simp (disch := omega) only [SS, ↓reduceIte, Nat.reduceAdd, Nat.reduceSub, Nat.reduceMul, Nat.reduceLT, Nat.reduceLeDiff, Nat.reduceEqDiff, Int.reduceBEq, Int.reduceLT, Int.reduceNeg]
 refine ⟨fun _ => live_o rfl, fun h1 => ⟨fun _ => live_o rfl, fun h2 => ?_⟩⟩
 refine (make_c (hes.keep K0 (by omega))).mono ?_
 rintro r h1 nx1 ⟨N, sr, ra, rb, v2, gs, rfl, hN0, hN, hsr, hgl, hok, hgs, hle1, hk1⟩
 obtain ⟨a2, cap2, rfl, hc2⟩ := id hgs
 simp (disch := omega) only [SS, ↓reduceIte, Nat.reduceAdd, Nat.reduceSub, Nat.reduceMul, Nat.reduceLT, Nat.reduceLeDiff, Nat.reduceEqDiff, Int.reduceBEq, Int.reduceLT, Int.reduceNeg]
 have K1 := K0.trans hk1 (by omega)
 have K2 : Keep nx1 h1 (hset (hset h1 nx1 (.cells [.int .i64 0, .slice none 0 0] false)) nx1 (.cells [.int .i64 (N : Int), .slice a2 gs.length cap2] false)) := ((Keep.refl _ _).set (Nat.le_refl _)).set (Nat.le_refl _)
 have gv : SlRd (hset (hset h1 nx1 (.cells [.int .i64 0, .slice none 0 0] false)) nx1 (.cells [.int .i64 (N : Int), .slice a2 gs.length cap2] false)) (nx1 + 1) (.slice a2 gs.length cap2) encG gs := hgs.rd.keep K2 (by omega)
 have K3 := K1.trans K2 (by omega)
 refine (told_c (hvl.keep K3 (by omega)) (by omega) (hvp.keep K3 (by omega)) (by omega) ⟨_, rfl⟩ ⟨_, rfl⟩ rfl).mono ?_
 rintro r h4 nx4 ⟨r1, r2, rfl, hr1, hr2, hk4, hle4⟩
 have g4 := hk4 nx1 (by omega)
 rw [hnew] at g4
 have K4 := K3.trans hk4 (by omega)
 have gv4 := gv.keep hk4 hle4
 have vl4 := hvl.keep K4 (show nx ≤ nx4 by omega)
 have vp4 := hvp.keep K4 (show nx ≤ nx4 by omega)
 simp (disch := omega) only [SS, ↓reduceIte, Nat.reduceAdd, Nat.reduceSub, Nat.reduceMul, Nat.reduceLT, Nat.reduceLeDiff, Nat.reduceEqDiff, Int.reduceBEq, Int.reduceLT, Int.reduceNeg]
 refine (far_c vl4 (by omega)).mono ?_
 rintro r _ _ ⟨rfl, rfl, rfl⟩
 simp (disch := omega) only [SS, ↓reduceIte, Nat.reduceAdd, Nat.reduceSub, Nat.reduceMul, Nat.reduceLT, Nat.reduceLeDiff, Nat.reduceEqDiff, Int.reduceBEq, Int.reduceLT, Int.reduceNeg]
 refine (rfar_c vl4 (by omega)).mono ?_
 rintro r _ _ ⟨rfl, rfl, rfl⟩
 simp (disch := omega) only [SS, ↓reduceIte, Nat.reduceAdd, Nat.reduceSub, Nat.reduceMul, Nat.reduceLT, Nat.reduceLeDiff, Nat.reduceEqDiff, Int.reduceBEq, Int.reduceLT, Int.reduceNeg]
 refine live_o ?_
 simp (disch := omega) only [SS, ↓reduceIte, Nat.reduceAdd, Nat.reduceSub, Nat.reduceMul, Nat.reduceLT, Nat.reduceLeDiff, Nat.reduceEqDiff, Int.reduceBEq, Int.reduceLT, Int.reduceNeg, g4, beq_self_eq_true]
 refine (hchkE_cv gv4 vl4 vp4 hN hsr hgl hok).mono ?_
 rintro r h5 nx5 ⟨L, P, hL, hP, rfl, hk5, hle5⟩
 have g5 := (hk5 nx1 (by omega)).trans g4
 have gv5 := gv4.keep hk5 hle5
 have vl5 := vl4.keep hk5 hle5
 have vp5 := vp4.keep hk5 hle5
 simp (disch := omega) only [SS, ↓reduceIte, Nat.reduceAdd, Nat.reduceSub, Nat.reduceMul, Nat.reduceLT, Nat.reduceLeDiff, Nat.reduceEqDiff, Int.reduceBEq, Int.reduceLT, Int.reduceNeg, g5]
 refine ⟨hle5, (rchk_c gv5 vl5 vp5 hN hsr hgl hok hL hP).mono ?_⟩
 rintro r h6 nx6 ⟨rfl, hk6, hle6⟩
 have vl6 := vl5.keep hk6 hle6
 have vp6 := vp5.keep hk6 hle6
 simp (disch := omega) only [SS, ↓reduceIte, Nat.reduceAdd, Nat.reduceSub, Nat.reduceMul, Nat.reduceLT, Nat.reduceLeDiff, Nat.reduceEqDiff, Int.reduceBEq, Int.reduceLT, Int.reduceNeg, bin_beq4, beq_self_eq_true]
 refine ⟨hle6, (way_c vl6 vp6 (by omega)).mono ?_⟩
 rintro r3 h7 nx7 ⟨hw1, hk7, hle7⟩
 refine ⟨hle7, (rway_c (vl6.keep hk7 hle7) (vp6.keep hk7 hle7) (by omega) hlo).mono ?_⟩
 rintro r4 h8 nx8 ⟨hw2, hk8, hle8⟩
 have vl8 := (vl6.keep hk7 hle7).keep hk8 hle8
 have vp8 := (vp6.keep hk7 hle7).keep hk8 hle8
 refine ⟨hle8, (samei_c (hw1.keep hk8 hle8) hw2 ?_).mono ?_⟩
 ·exact Nat.lt_of_le_of_lt (wayR_len l p to) (by omega)
 rintro r _ _ ⟨rfl, rfl, rfl⟩
 simp (disch := omega) only [SS, ↓reduceIte, Nat.reduceAdd, Nat.reduceSub, Nat.reduceMul, Nat.reduceLT, Nat.reduceLeDiff, Nat.reduceEqDiff, Int.reduceBEq, Int.reduceLT, Int.reduceNeg, decide_true]
 refine (cntp_c vl8 (by omega)).mono ?_
 rintro r5 h9 nx9 ⟨hc1, hk9, hle9⟩
 refine ⟨hle9, (rcnt_c (vl8.keep hk9 hle9) (by omega)).mono ?_⟩
 rintro r6 h10 nx10 ⟨hc2, hk10, hle10⟩
 have vl10 := (vl8.keep hk9 hle9).keep hk10 hle10
 have vp10 := (vp8.keep hk9 hle9).keep hk10 hle10
 have hcl := cntL_len l l.length
 refine ⟨hle10, (samei_c (hc1.keep hk10 hle10) hc2 (by omega)).mono ?_⟩
 rintro r _ _ ⟨rfl, rfl, rfl⟩
 simp (disch := omega) only [SS, ↓reduceIte, Nat.reduceAdd, Nat.reduceSub, Nat.reduceMul, Nat.reduceLT, Nat.reduceLeDiff, Nat.reduceEqDiff, Int.reduceBEq, Int.reduceLT, Int.reduceNeg, decide_true]
 have mv1 := (((((hr1.keep hk5 hle5).keep hk6 hle6).keep hk7 hle7).keep hk8 hle8).keep hk9 hle9).keep hk10 hle10
 have mv2 := (((((hr2.keep hk5 hle5).keep hk6 hle6).keep hk7 hle7).keep hk8 hle8).keep hk9 hle9).keep hk10 hle10
 refine (samev_c mv1 vl10 (by omega)).mono ?_
 rintro r _ _ ⟨rfl, rfl, rfl⟩
 simp (disch := omega) only [SS, ↓reduceIte, Nat.reduceAdd, Nat.reduceSub, Nat.reduceMul, Nat.reduceLT, Nat.reduceLeDiff, Nat.reduceEqDiff, Int.reduceBEq, Int.reduceLT, Int.reduceNeg, decide_true]
 refine (samev_c mv2 vp10 (by omega)).mono ?_
 rintro r _ _ ⟨rfl, rfl, rfl⟩
 simp [TrueK]
open Go.ChangeShapes Go.WideShapes Go.ChangeAt Go.RowKit
theorem O_ok : OrcOk Tryz.prog O := fun f g h => by
 unfold O at h
 cases h1 : Nat.beq f 27 with
 | true =>
  have e := Nat.eq_of_beq_eq_true h1
  subst e
  rw [h1] at h
  cases h
  exact live27_ok
 | false =>
  rw [h1] at h
  cases h2 : Nat.beq f 68 with
  | true =>
   have e := Nat.eq_of_beq_eq_true h2
   subst e
   rw [h2] at h
   cases h
   exact combF_ok
  | false => rw [h2] at h; cases h
theorem w27 : Tryz.prog.underlying 27 = some (.slice 2) := by kernel_rfl
theorem w65 : Tryz.prog.underlying 65 = some (.array 2 27) := by kernel_rfl
theorem m65 : Tryz.prog.cellsOf 65 = 2 := by kernel_rfl
theorem m27 : Tryz.prog.cellsOf 27 = 1 := by kernel_rfl
theorem ct65 : Tryz.prog.cellTypes Tryz.prog.depth 65 = some [27, 27] := by kernel_rfl
theorem okI_wf {n : Int} (h : (Lit.int .i64 n).wf = true) : okI n := by
 simp [Lit.wf, IntKind.min, IntKind.max, IntKind.signed, IntKind.bits] at h
 unfold okI
 omega
abbrev CameI (w : World) (v : Value) (ys : List Int) : Prop := (ys = [] ∧ v = .slice none 0 0) ∨ ∃ b off cap, v = .slice (some ⟨b, off, none⟩) ys.length cap ∧ LiesAt w b off (flat encI ys)
theorem open_two {H : Type} {enc : TypeId × Value → H} {w : World} {sp : Nat → Bool} {r : Reach} {b0 : Nat} {v : Value} {d : DataW H} {ps : List MemPlace} (hval : Value.okWide Tryz.prog w r b0 65 v) (h : DataW.Trod enc Tryz.prog w 0 sp true 65 v d ps) :
  ∃ (v1 v2 : Value) (l p : List Int), v = .agg ⟨[v1, v2]⟩ ∧ CameI w v1 l ∧ CameI w v2 p ∧ ∀ x ∈ l, okI x := by
 unfold Value.okWide at hval
 rw [w65] at hval
 obtain ⟨cs, rfl, hsz, ts, hts, _, hcell⟩ := hval
 rw [ct65] at hts
 cases hts
 rw [m65] at hsz
 obtain ⟨l⟩ := cs
 match l, hsz with
 | [a, b], _ =>
  obtain ⟨fuel, hf⟩ := h
  have hf : DataW.trod enc Tryz.prog w 0 sp true fuel 65 [a, b] = some (d, ps) := hf
  obtain ⟨xs, n, rfl, _, hlen, hxl, hall⟩ := DataW.trod_array w65 hf
  have get : ∀ i, i < 2 → ∃ y, DataW.trod enc Tryz.prog w 0 sp true n 27 (([a, b].drop (i * Tryz.prog.cellsOf 27)).take (Tryz.prog.cellsOf 27)) = some y := fun i hi => by
   have hx : i < xs.length := by rw [hxl]; exact hi
   exact ⟨xs[i], by rw [hall i hi, List.getElem?_eq_getElem hx]⟩
  obtain ⟨y0, h0⟩ := get 0 (by omega)
  obtain ⟨y1, h1⟩ := get 1 (by omega)
  rw [m27] at h0 h1
  obtain ⟨t0, ht0, hok0⟩ := hcell 0 a rfl
  obtain ⟨t1, ht1, hok1⟩ := hcell 1 b rfl
  cases ht0; cases ht1
  have one : ∀ (n : Nat) (c : List Value) y, DataW.trod enc Tryz.prog w 0 sp true n 2 c = some y → ∃ z : Int, c = encI z ∧ okI z := fun n c y hy => by
   obtain ⟨m, hm, _, hw⟩ := DataW.trod_int u2 hy
   exact ⟨m, hm, okI_wf hw⟩
  obtain ⟨l, hl, hy⟩ := open_sl (e3 := encI) (k := 1) w27 c2 okI one h0 hok0
  obtain ⟨p, hp, hy2⟩ := open_sl (e3 := encI) (k := 1) w27 c2 okI one h1 hok1
  exact ⟨a, b, l, p, rfl, hy, hy2, hl⟩
theorem in_three {α β γ : Type} {e3 : α → List Value} {e1 : β → List Value} {e2 : γ → List Value} {w : World} {v u t : Value} {zs : List α} {ys : List β} {xs : List γ} (hpl : ∀ z, plainL (e3 z) = true) (hpl1 : ∀ z, plainL (e1 z) = true) (hpl2 : ∀ z, plainL (e2 z) = true)
  (h : (zs = [] ∧ v = .slice none 0 0) ∨ ∃ b off cap, v = .slice (some ⟨b, off, none⟩) zs.length cap ∧ LiesAt w b off (flat e3 zs))
  (g : (ys = [] ∧ u = .slice none 0 0) ∨ ∃ b off cap, u = .slice (some ⟨b, off, none⟩) ys.length cap ∧ LiesAt w b off (flat e1 ys))
  (f : (xs = [] ∧ t = .slice none 0 0) ∨ ∃ b off cap, t = .slice (some ⟨b, off, none⟩) xs.length cap ∧ LiesAt w b off (flat e2 xs)) :
  ∃ ps v' u' t', InW w ps ∧ VR (rhoL ps) v' v ∧ VR (rhoL ps) u' u ∧ VR (rhoL ps) t' t ∧ SlRd (hpL 0 ps hp0) ps.length v' e3 zs ∧ SlRd (hpL 0 ps hp0) ps.length u' e1 ys ∧ SlRd (hpL 0 ps hp0) ps.length t' e2 xs := by
 obtain ⟨a1, a2⟩ := in_at (ps := inPs v (flat e3 zs) ++ (inPs u (flat e1 ys) ++ inPs t (flat e2 xs))) (k := 0) h (fun p hp => by rw [inPs_one hp]; rfl)
 obtain ⟨b1, b2⟩ := in_at (ps := inPs v (flat e3 zs) ++ (inPs u (flat e1 ys) ++ inPs t (flat e2 xs))) (k := (inPs v (flat e3 zs)).length) g (fun p hp => by rw [inPs_one hp, List.getElem?_append_right (Nat.le_refl _), Nat.sub_self]; rfl)
 obtain ⟨c1, c2⟩ := in_at (ps := inPs v (flat e3 zs) ++ (inPs u (flat e1 ys) ++ inPs t (flat e2 xs))) (k := (inPs v (flat e3 zs)).length + (inPs u (flat e1 ys)).length) f (fun p hp => by rw [inPs_one hp, List.getElem?_append_right (by omega), List.getElem?_append_right (by omega)]; simp)
 refine ⟨_, _, _, _, fun p hp => ?_, a1, b1, c1, a2, b2, c2⟩
 rcases List.mem_append.1 hp with hp | hp
 ·exact in_w hpl h _ p hp
 ·rcases List.mem_append.1 hp with hp | hp
  ·exact in_w hpl1 g _ p hp
  ·exact in_w hpl2 f _ p hp
theorem walkHC {n V R C to : Int} {sl v1 v2 : Value} {zs : List Edg3} {l p : List Int} {W : World} (hz : (zs = [] ∧ sl = .slice none 0 0) ∨ ∃ b off cap, sl = .slice (some ⟨b, off, none⟩) zs.length cap ∧ LiesAt W b off (flat enc3 zs))
  (hl : CameI W v1 l) (hp : CameI W v2 p) (hlo : ∀ x ∈ l, okI x) :
  Calls Tryz.prog 9 #[.agg ⟨[.int .i64 n, sl, .int .i64 V, .int .u8 R, .int .u8 C]⟩, .agg ⟨[v1, v2]⟩, .int .i64 to] W fun e w' => e = .returned (.bool true) ∧ Below W.heap.size W w' := by
 obtain ⟨ps, v', u', t', h1, h2, h3, h4, h5, h6, h7⟩ := in_three (e3 := enc3) (e1 := encI) (e2 := encI) (fun _ => rfl) (fun _ => rfl) (fun _ => rfl) hz hl hp
 exact callsIn_wide.1 (run_ok (n := 0) pok O_ok (hchecks_cv (n := n) (V := V) (R := R) (C := C) (to := to) h5 h6 h7 hlo) (in_rel h1) (in_fr _) (.cons (.agg (.cons (.int _ _) (.cons h2 (.cons (.int _ _) (.cons (.int _ _) (.cons (.int _ _) .nil)))))) (.cons (.agg (.cons h3 (.cons h4 .nil))) (.cons (.int _ _) .nil))))
end Go.Proofs.YtenkechjalngcaaGreat
