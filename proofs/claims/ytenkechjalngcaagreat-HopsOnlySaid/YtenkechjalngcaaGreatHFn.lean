/- Parts of the proof: HFn: each statement bears its own conditions. -/
import Derived.Test.YtenkechjalngcaaGreatHFacts
namespace Go.Proofs.YtenkechjalngcaaGreat
open Go Go.Ax
set_option linter.unusedVariables false
set_option linter.unusedSimpArgs false
set_option maxRecDepth 1000000
noncomputable abbrev Q : Program := Tryz.prog
def O : Orc := fun f => bif Nat.beq f 27 then some gLive else bif Nat.beq f 68 then some gCombF else none
/-- edges.Canon -/
def canonL : List (List Nat) := []
def canon (s : Bool) (t0 : Value) (h : Hp) (nx : Nat) (K : KC') : Prop := AR (cellsNB (vcells t0)) h nx fun p1 h2 n3 => AR (.ok (.ptr (.cells [(.int .i64 0), (.slice none 0 0)] false))) h2 n3 fun p4 h5 n6 => RK (vFldA 1 p1) fun x7 => RK (vLd none h5 x7) fun x8 => Cv Q O s 68 [(.int .i64 1), x8] h5 n6 fun x9 h10 n11 => RK (oExtract x9 0) fun x12 => RK (oExtract x9 1) fun x13 => RK (vFldA 0 p1) fun x14 => RK (vLd none h10 x14) fun x15 => RK (vBld [(.int .i64 0), (.slice none 0 0)] [(0, 1, x15), (1, 1, x12)]) fun x16 => RK (vSt h10 2 p4 x16) fun h17 => RK (vLd (some 2) h17 p4) fun x18 => K x18 h17 n11
theorem canone {s : Bool} {t0 : Value} {h : Hp} {nx : Nat} {K : KC'} : fF Q O s canonL 56 [t0] h nx K = canon s t0 h nx K := by kernel_rfl
theorem canonv {s : Bool} {t0 : Value} {h : Hp} {nx : Nat} {K : KC'} (w : canon s t0 h nx K) : Cv Q O s 56 [t0] h nx K := Cv.byF canonL rfl (by rw [canone]; exact w)
/-- hops.outs -/
def outsL : List (List Nat) := [[3, 11, 12, 13]]
def outsl0 (s : Bool) (a3 a11 a12 a13 : Value) (h : Hp) (nx : Nat) (N : KVl) (e0 : KVl) (R : KVl) : Prop := RK (bin Q .lss 3 a13 a12) fun x18 => IF x18 (RK (vIx (.slice 3) a11 a13) fun x19 => RK (vLd (some 3) h x19) fun x20 => AR (.ok (.ptr (.cells [(.int .i64 0), (.int .i64 0), (.int .i64 0)] false))) h nx fun p21 h22 n23 => RK (vSt h22 3 p21 x20) fun h24 => RK (vFldA 0 p21) fun x25 => RK (vLd none h24 x25) fun x26 => RK (vIx (.slice 1) a3 x26) fun x27 => RK (vLd none h24 x27) fun x28 => RK (vFldA 1 p21) fun x29 => RK (vLd none h24 x29) fun x30 => AR (vBsl 1 [(.int .i64 0)] [(0, 1, x30)]) h24 n23 fun p31 h32 n33 => EK (orR (appendA 1 h32 n33 x28 p31)) fun x34 h35 n36 => n33 ≤ n36 ∧ RK (vFldA 0 p21) fun x37 => RK (vLd none h35 x37) fun x38 => AGK (fun h => vLd none h x37) x38 (RK (vIx (.slice 1) a3 x38) fun x39 => RK (vSt h35 1 x39 x34) fun h40 => RK (bin Q .add 3 a13 (.int .i64 1)) fun x41 => N [a3, a11, a12, x41] h40 n36) 1 [h24]) (e0 [a3, a11, a12, a13] h nx)
def outs (s : Bool) (t0 : Value) (h : Hp) (nx : Nat) (K : KC') : Prop := AR (cellsNB (vcells t0)) h nx fun p1 h2 n3 => RK (vFldA 0 p1) fun x4 => RK (vLd none h2 x4) fun x5 => AR (vMks [(.slice none 0 0)] x5 x5) h2 n3 fun p6 h7 n8 => RK (vLd (some 2) h7 p1) fun x9 => Cv Q O s 56 [x9] h7 n8 fun x10 h11 n12 => RK (cFld 1 none x10) fun x13 => RK (lenS x13) fun x14 => Lp (fL Q O s outsL 66 0) [p6, x13, x14, (.int .i64 0)] h11 n12 [(0, fun v17 h15 n16 => K (nv v17 0) h15 n16)] (fun _ _ _ => False)
theorem outsb0 {s : Bool} {a3 a11 a12 a13 : Value} {h : Hp} {nx : Nat} {N e0 R : KVl} : fL Q O s outsL 66 0 [a3, a11, a12, a13] h nx N [(0, e0)] R = outsl0 s a3 a11 a12 a13 h nx N e0 R := by kernel_rfl
theorem outse {s : Bool} {t0 : Value} {h : Hp} {nx : Nat} {K : KC'} : fF Q O s outsL 66 [t0] h nx K = outs s t0 h nx K := by kernel_rfl
theorem outsv {s : Bool} {t0 : Value} {h : Hp} {nx : Nat} {K : KC'} (w : outs s t0 h nx K) : Cv Q O s 66 [t0] h nx K := Cv.byF outsL rfl (by rw [outse]; exact w)
/-- hops.found -/
def foundL : List (List Nat) := [[1, 2, 4, 5, 12, 13], [4, 5, 6, 7], [4, 5, 6, 7, 8, 44, 45, 46]]
def foundl0 (s : Bool) (a1 a2 a4 a5 a12 a13 : Value) (h : Hp) (nx : Nat) (N : KVl) (e0 : KVl) (R : KVl) : Prop := RK (bin Q .lss 3 a13 a12) fun x9 => IF x9 (AR (vBsl 1 [(.int .i64 0)] [(0, 1, (.int .i64 (-1)))]) h nx fun p10 h11 n12 => EK (orR (appendA 1 h11 n12 a4 p10)) fun x13 h14 n15 => AR (vBsl 1 [(.int .i64 0)] [(0, 1, (.int .i64 (-1)))]) h14 n15 fun p16 h17 n18 => EK (orR (appendA 1 h17 n18 a5 p16)) fun x19 h20 n21 => RK (bin Q .add 3 a13 (.int .i64 1)) fun x22 => N [a1, a2, x13, x19, a12, x22] h20 n21) (e0 [a1, a2, a4, a5, a12, a13] h nx)
def foundk0 (s : Bool) (N : KVl) (e4 : KVl) (R : KVl) (y4 y5 y6 y7 y8 y44 y45 y46 : Value) (h0 : Hp) (n0 : Nat) : Prop := RK (bin Q .add 3 y46 (.int .i64 1)) fun x78 => N [y4, y5, y6, y7, y8, y44, y45, x78] h0 n0
def foundl2 (s : Bool) (a4 a5 a6 a7 a8 a44 a45 a46 : Value) (h : Hp) (nx : Nat) (N : KVl) (e4 : KVl) (R : KVl) : Prop := RK (bin Q .lss 3 a46 a45) fun x48 => IF x48 (RK (vIx (.slice 1) a44 a46) fun x49 => RK (vLd none h x49) fun x50 => RK (vIx (.slice 1) a4 x50) fun x51 => RK (vLd none h x51) fun x52 => RK (bin Q .lss 2 x52 (.int .i64 0)) fun x53 => IF x53 (RK (vIx (.slice 1) a4 a8) fun x54 => RK (vLd none h x54) fun x55 => RK (bin Q .add 2 x55 (.int .i64 1)) fun x56 => RK (vIx (.slice 1) a4 x50) fun x57 => RK (vSt h 1 x57 x56) fun h58 => RK (vIx (.slice 1) a5 x50) fun x59 => RK (vSt h58 1 x59 a8) fun h60 => AR (vBsl 1 [(.int .i64 0)] [(0, 1, x50)]) h60 nx fun p61 h62 n63 => EK (orR (appendA 1 h62 n63 a7 p61)) fun x64 h65 n66 => (foundk0 s N e4 R a4 a5 a6 x64 a8 a44 a45 a46 h65 n66)) (RK (vIx (.slice 1) a4 x50) fun x67 => RK (vLd none h x67) fun x68 => RK (vIx (.slice 1) a4 a8) fun x69 => RK (vLd none h x69) fun x70 => RK (bin Q .add 2 x70 (.int .i64 1)) fun x71 => RK (bin Q .eql 2 x68 x71) fun x72 => IF x72 (RK (vIx (.slice 1) a5 x50) fun x73 => RK (vLd none h x73) fun x74 => RK (min2 true x74 a8) fun x75 => RK (vIx (.slice 1) a5 x50) fun x76 => RK (vSt h 1 x76 x75) fun h77 => (foundk0 s N e4 R a4 a5 a6 a7 a8 a44 a45 a46 h77 nx)) ((foundk0 s N e4 R a4 a5 a6 a7 a8 a44 a45 a46 h nx)))) (e4 [a4, a5, a6, a7, a8, a44, a45, a46] h nx)
def foundl1 (s : Bool) (a4 a5 a6 a7 : Value) (h : Hp) (nx : Nat) (N : KVl) (e2 : KVl) (R : KVl) : Prop := RK (lenS a7) fun x35 => RK (bin Q .eql 3 x35 (.int .i64 0)) fun x36 => IF x36 (e2 [a4, a5, a6, a7] h nx) (RK (vIx (.slice 1) a7 (.int .i64 0)) fun x37 => RK (vLd none h x37) fun x38 => RK (lenS a7) fun x39 => RK (lenS a7) fun x40 => RK (vSl 1 a7 (some (.int .i64 1)) (some x39) (some x40)) fun x41 => RK (vIx (.slice 1) a6 x38) fun x42 => RK (vLd none h x42) fun x43 => RK (lenS x43) fun x44 => Lp (fL Q O s foundL 51 2) [a4, a5, a6, x41, x38, x43, x44, (.int .i64 0)] h nx [(4, fun v47 h45 n46 => N [(nv v47 0), (nv v47 1), (nv v47 2), (nv v47 3)] h45 n46)] (fun _ _ _ => False))
def found (s : Bool) (t0 t1 : Value) (h : Hp) (nx : Nat) (K : KC') : Prop := AR (cellsNB (vcells t0)) h nx fun p1 h2 n3 => RK (vFldA 0 p1) fun x4 => RK (vLd none h2 x4) fun x5 => Lp (fL Q O s foundL 51 0) [t1, p1, (.slice none 0 0), (.slice none 0 0), x5, (.int .i64 0)] h2 n3 [(0, fun v8 h6 n7 => RK (vLd (some 2) h6 (nv v8 1)) fun x23 => Cv Q O s 66 [x23] h6 n7 fun x24 h25 n26 => RK (vIx (.slice 1) (nv v8 2) (nv v8 0)) fun x27 => RK (vSt h25 1 x27 (.int .i64 0)) fun h28 => AR (vBsl 1 [(.int .i64 0)] [(0, 1, (nv v8 0))]) h28 n26 fun p29 h30 n31 => Lp (fL Q O s foundL 51 1) [(nv v8 2), (nv v8 3), x24, p29] h30 n31 [(2, fun v34 h32 n33 => K (.tuple ⟨[(nv v34 0), (nv v34 1)]⟩) h32 n33)] (fun _ _ _ => False))] (fun _ _ _ => False)
theorem foundb0 {s : Bool} {a1 a2 a4 a5 a12 a13 : Value} {h : Hp} {nx : Nat} {N e0 R : KVl} : fL Q O s foundL 51 0 [a1, a2, a4, a5, a12, a13] h nx N [(0, e0)] R = foundl0 s a1 a2 a4 a5 a12 a13 h nx N e0 R := by kernel_rfl
theorem foundb2 {s : Bool} {a4 a5 a6 a7 a8 a44 a45 a46 : Value} {h : Hp} {nx : Nat} {N e4 R : KVl} : fL Q O s foundL 51 2 [a4, a5, a6, a7, a8, a44, a45, a46] h nx N [(4, e4)] R = foundl2 s a4 a5 a6 a7 a8 a44 a45 a46 h nx N e4 R := by kernel_rfl
theorem foundb1 {s : Bool} {a4 a5 a6 a7 : Value} {h : Hp} {nx : Nat} {N e2 R : KVl} : fL Q O s foundL 51 1 [a4, a5, a6, a7] h nx N [(2, e2)] R = foundl1 s a4 a5 a6 a7 h nx N e2 R := by kernel_rfl
theorem founde {s : Bool} {t0 t1 : Value} {h : Hp} {nx : Nat} {K : KC'} : fF Q O s foundL 51 [t0, t1] h nx K = found s t0 t1 h nx K := by kernel_rfl
theorem foundv {s : Bool} {t0 t1 : Value} {h : Hp} {nx : Nat} {K : KC'} (w : found s t0 t1 h nx K) : Cv Q O s 51 [t0, t1] h nx K := Cv.byF foundL rfl (by rw [founde]; exact w)
/-- slices.Equal[[]int64,int64] -/
def eq64L : List (List Nat) := [[0, 1, 4, 12, 13]]
def eq64l0 (s : Bool) (a0 a1 a4 a12 a13 : Value) (h : Hp) (nx : Nat) (N : KVl) (e0 : KVl) (R : KVl) : Prop := RK (bin Q .lss 3 a13 a12) fun x11 => IF x11 (RK (vIx (.slice 1) a0 a13) fun x12 => RK (vLd none h x12) fun x13 => RK (vIx (.slice 1) a1 a13) fun x14 => RK (vLd none h x14) fun x15 => RK (bin Q .neq 2 x13 x15) fun x16 => IF x16 (R [a0, a1, (.bool false), a12, a13] h nx) (RK (bin Q .add 3 a13 (.int .i64 1)) fun x17 => N [a0, a1, a4, a12, x17] h nx)) (e0 [a0, a1, a4, a12, a13] h nx)
def eq64 (s : Bool) (t0 t1 : Value) (h : Hp) (nx : Nat) (K : KC') : Prop := RK (lenS t0) fun x1 => RK (lenS t1) fun x2 => RK (bin Q .neq 3 x1 x2) fun x3 => IF x3 (K (.bool false) h nx) (RK (lenS t0) fun x4 => Lp (fL Q O s eq64L 52 0) [t0, t1, (.bool false), x4, (.int .i64 0)] h nx [(0, fun v7 h5 n6 => K (.bool true) h5 n6)] (fun v10 h8 n9 => K (nv v10 2) h8 n9))
theorem eq64b0 {s : Bool} {a0 a1 a4 a12 a13 : Value} {h : Hp} {nx : Nat} {N e0 R : KVl} : fL Q O s eq64L 52 0 [a0, a1, a4, a12, a13] h nx N [(0, e0)] R = eq64l0 s a0 a1 a4 a12 a13 h nx N e0 R := by kernel_rfl
theorem eq64e {s : Bool} {t0 t1 : Value} {h : Hp} {nx : Nat} {K : KC'} : fF Q O s eq64L 52 [t0, t1] h nx K = eq64 s t0 t1 h nx K := by kernel_rfl
theorem eq64v {s : Bool} {t0 t1 : Value} {h : Hp} {nx : Nat} {K : KC'} (w : eq64 s t0 t1 h nx K) : Cv Q O s 52 [t0, t1] h nx K := Cv.byF eq64L rfl (by rw [eq64e]; exact w)
/-- hops.Check -/
def hchkL : List (List Nat) := []
def hchkk0 (s : Bool) (K : KC') (y1 y2 y3 y4 y23 : Value) (h0 : Hp) (n0 : Nat) : Prop := IF y23 (K (.bool false) h0 n0) (RK (vLd (some 2) h0 y4) fun x22 => Cv Q O s 51 [x22, y1] h0 n0 fun x23 h24 n25 => RK (oExtract x23 0) fun x26 => RK (oExtract x23 1) fun x27 => Cv Q O s 52 [x26, y2] h24 n25 fun x28 h29 n30 => IF x28 (Cv Q O s 52 [x27, y3] h29 n30 fun x31 h32 n33 => RK (vPick (.bool true) x31 (.bool false)) fun x34 => K x34 h32 n33) (RK (vPick (.bool false) undefV (.bool false)) fun x35 => K x35 h29 n30))
def hchk (s : Bool) (t0 t1 t2 t3 : Value) (h : Hp) (nx : Nat) (K : KC') : Prop := AR (cellsNB (vcells t0)) h nx fun p1 h2 n3 => RK (vLd (some 2) h2 p1) fun x4 => Cv Q O s 47 [x4] h2 n3 fun x5 h6 n7 => RK (bin Q .neq 61 x5 (.int .i64 0)) fun x8 => IF x8 (RK (vPick (.bool true) (.bool true) undefV) fun x9 => IF x9 (RK (vPick (.bool true) (.bool true) undefV) fun x10 => (hchkk0 s K t1 t2 t3 p1 x10 h6 n7)) (RK (vFldA 0 p1) fun x11 => RK (vLd none h6 x11) fun x12 => RK (bin Q .geq 3 t1 x12) fun x13 => RK (vPick (.bool false) (.bool true) x13) fun x14 => (hchkk0 s K t1 t2 t3 p1 x14 h6 n7))) (RK (bin Q .lss 3 t1 (.int .i64 0)) fun x15 => RK (vPick (.bool false) (.bool true) x15) fun x16 => IF x16 (RK (vPick (.bool true) (.bool true) undefV) fun x17 => (hchkk0 s K t1 t2 t3 p1 x17 h6 n7)) (RK (vFldA 0 p1) fun x18 => RK (vLd none h6 x18) fun x19 => RK (bin Q .geq 3 t1 x19) fun x20 => RK (vPick (.bool false) (.bool true) x20) fun x21 => (hchkk0 s K t1 t2 t3 p1 x21 h6 n7)))
theorem hchke {s : Bool} {t0 t1 t2 t3 : Value} {h : Hp} {nx : Nat} {K : KC'} : fF Q O s hchkL 28 [t0, t1, t2, t3] h nx K = hchk s t0 t1 t2 t3 h nx K := by kernel_rfl
theorem hchkv {s : Bool} {t0 t1 t2 t3 : Value} {h : Hp} {nx : Nat} {K : KC'} (w : hchk s t0 t1 t2 t3 h nx K) : Cv Q O s 28 [t0, t1, t2, t3] h nx K := Cv.byF hchkL rfl (by rw [hchke]; exact w)
/-- law27.HopsOnly -/
def honlyL : List (List Nat) := []
def honly (s : Bool) (t0 t1 t2 : Value) (h : Hp) (nx : Nat) (K : KC') : Prop := AR (cellsNB (vcells t0)) h nx fun p1 h2 n3 => RK (vLd (some 5) h2 p1) fun x4 => Cv Q O s 11 [x4] h2 n3 fun x5 h6 n7 => RK (oExtract x5 0) fun x8 => RK (oExtract x5 1) fun x9 => RK (oExtract x5 2) fun x10 => RK (oExtract x5 3) fun x11 => AR (.ok (.ptr (.cells [(.int .i64 0), (.slice none 0 0)] false))) h6 n7 fun p12 h13 n14 => RK (vSt h13 2 p12 x8) fun h15 => RK (vLd (some 2) h15 p12) fun x16 => Cv Q O s 25 [x16, x9] h15 n14 fun x17 h18 n19 => RK (vLd (some 2) h18 p12) fun x20 => Cv Q O s 26 [x20, x17] h18 n19 fun x21 h22 n23 => RK (vFldA 0 p12) fun x24 => RK (vLd none h22 x24) fun x25 => Cv Q O s 24 [t1, x25] h22 n23 fun x26 h27 n28 => RK (bin Q .eql 2 t2 (.int .i64 0)) fun x29 => IF x29 (Cv Q O s 27 [] h27 n28 fun x30 h31 n32 => IF x30 (RK (vLd (some 2) h31 p12) fun x33 => Cv Q O s 28 [x33, x9, x17, x21] h31 n32 fun x34 h35 n36 => RK (vPick (.bool true) x34 (.bool false)) fun x37 => K x37 h35 n36) (RK (vPick (.bool false) undefV (.bool false)) fun x38 => K x38 h31 n32)) (RK (vIx (.slice 1) x17 x26) fun x39 => RK (vLd none h27 x39) fun x40 => RK (bin Q .add 2 x40 t2) fun x41 => RK (vIx (.slice 1) x17 x26) fun x42 => RK (vSt h27 1 x42 x41) fun h43 => RK (vLd (some 2) h43 p12) fun x44 => Cv Q O s 28 [x44, x9, x17, x21] h43 n28 fun x45 h46 n47 => RK (vIx (.slice 1) x17 x26) fun x48 => RK (vLd none h46 x48) fun x49 => RK (bin Q .sub 2 x49 t2) fun x50 => RK (vIx (.slice 1) x17 x26) fun x51 => RK (vSt h46 1 x51 x50) fun h52 => RK (vIx (.slice 1) x21 x26) fun x53 => RK (vLd none h52 x53) fun x54 => RK (bin Q .add 2 x54 t2) fun x55 => RK (vIx (.slice 1) x21 x26) fun x56 => RK (vSt h52 1 x56 x55) fun h57 => Cv Q O s 27 [] h57 n47 fun x58 h59 n60 => IF x58 (RK (oUn .not x45) fun x61 => RK (vPick (.bool true) x61 (.bool false)) fun x62 => IF x62 (RK (vLd (some 2) h59 p12) fun x63 => Cv Q O s 28 [x63, x9, x17, x21] h59 n60 fun x64 h65 n66 => RK (oUn .not x64) fun x67 => RK (vPick (.bool true) x67 (.bool false)) fun x68 => K x68 h65 n66) (RK (vPick (.bool false) undefV (.bool false)) fun x69 => K x69 h59 n60)) (RK (vPick (.bool false) undefV (.bool false)) fun x70 => IF x70 (RK (vLd (some 2) h59 p12) fun x71 => Cv Q O s 28 [x71, x9, x17, x21] h59 n60 fun x72 h73 n74 => RK (oUn .not x72) fun x75 => RK (vPick (.bool true) x75 (.bool false)) fun x76 => K x76 h73 n74) (RK (vPick (.bool false) undefV (.bool false)) fun x77 => K x77 h59 n60)))
theorem honlye {s : Bool} {t0 t1 t2 : Value} {h : Hp} {nx : Nat} {K : KC'} : fF Q O s honlyL 6 [t0, t1, t2] h nx K = honly s t0 t1 t2 h nx K := by kernel_rfl
theorem honlyv {s : Bool} {t0 t1 t2 : Value} {h : Hp} {nx : Nat} {K : KC'} (w : honly s t0 t1 t2 h nx K) : Cv Q O s 6 [t0, t1, t2] h nx K := Cv.byF honlyL rfl (by rw [honlye]; exact w)
end Go.Proofs.YtenkechjalngcaaGreat

namespace Go.Proofs.YtenkechjalngcaaGreat
open Go Go.Ax
set_option linter.unusedVariables false
set_option linter.unusedSimpArgs false
set_option maxRecDepth 1000000
/-! # edges.Canon of a graph that can be -/
def gE (g : GE) : Edg := ((g.f : Int), (g.t : Int), g.w)
def eG (x : Edg) : GE := ⟨x.1.toNat, x.2.1.toNat, x.2.2⟩
theorem flat_gE : ∀ l : List GE, flat encG l = flat encE (l.map gE)
  | [] => rfl
  | x :: l => by show encG x ++ flat encG l = encE (gE x) ++ flat encE (l.map gE); rw [flat_gE l]; rfl
theorem smallB_of {n : Int} (h0 : 0 ≤ n) (h1 : n < 2147483648) : smallB n = true := by
  obtain ⟨m, rfl⟩ := Int.eq_ofNat_of_zero_le h0
  show Nat.blt m 2147483648 = true
  rw [blt_dec]
  exact decide_eq_true (by omega)
theorem small_gE {N : Nat} {g : GE} (hN : N ≤ 2147483648) (h : GOk N g) : Small (gE g) := ⟨smallB_of (by show (0 : Int) ≤ (g.f : Int); omega) (by have := h.1; show ((g.f : Int)) < _; omega), smallB_of (by show (0 : Int) ≤ (g.t : Int); omega) (by have := h.2.1; show ((g.t : Int)) < _; omega), smallB_of h.2.2.1 (by have := h.2.2.2; show g.w < _; omega)⟩
theorem edgesB_flat : ∀ {es : List Edg}, (∀ x ∈ es, Small x) → edgesB (flat encE es) = some es
  | [], _ => rfl
  | x :: es, h => by
    obtain ⟨a, b, c⟩ := x
    obtain ⟨h1, h2, h3⟩ := h (a, b, c) (List.mem_cons_self ..)
    have ih := edgesB_flat (es := es) fun y hy => h y (List.mem_cons_of_mem _ hy)
    show (match edgesB (flat encE es) with
    | some r => bif smallB a && (smallB b && smallB c) then some ((a, b, c) :: r) else none
    | none => none) = _
    rw [ih, show smallB a = true from h1, show smallB b = true from h2, show smallB c = true from h3]
    rfl
theorem noneB_ok {x : Edg} : ∀ {l : List Edg}, (∀ y ∈ l, ltE y x = false) → noneB ltE x l = true
  | [], _ => rfl
  | y :: l, h => by
    show (bif ltE y x then false else noneB ltE x l) = true
    rw [h y (List.mem_cons_self ..)]
    exact noneB_ok fun z hz => h z (List.mem_cons_of_mem _ hz)
theorem ltE_f {x y : Edg} : ltE x y = false ↔ ¬ cmpE x y < 0 := ltE_eq
theorem ltE_t {x y : Edg} : ltE x y = true ↔ cmpE x y < 0 := by
  rw [← Decidable.not_iff_not, ← ltE_f]; simp
theorem sortedB_mk : ∀ {l : List Edg}, l.Pairwise (fun x y => ltE y x = false) → sortedB ltE l = true
  | [], _ => rfl
  | x :: l, h => by
    show (bif noneB ltE x l then sortedB ltE l else false) = true
    rw [noneB_ok fun y hy => List.rel_of_pairwise_cons h hy]
    exact sortedB_mk h.of_cons
theorem insB_mem {x z : Edg} : ∀ {l : List Edg}, z ∈ insB ltE x l → z = x ∨ z ∈ l
  | [], h => .inl (by simpa [insB] using h)
  | y :: l, h => by
    have h : z ∈ (bif ltE x y then x :: y :: l else y :: insB ltE x l) := h
    cases hb : ltE x y with
    | true => rw [hb] at h; simpa using h
    | false =>
      rw [hb] at h
      rcases List.mem_cons.1 h with h | h
      · exact .inr (by simp [h])
      · rcases insB_mem h with h | h
        · exact .inl h
        · exact .inr (by simp [h])
theorem insB_sorted {x : Edg} : ∀ {l : List Edg}, l.Pairwise (fun x y => ltE y x = false) → (insB ltE x l).Pairwise (fun x y => ltE y x = false)
  | [], _ => by simp [insB]
  | y :: l, h => by
    show (bif ltE x y then x :: y :: l else y :: insB ltE x l).Pairwise _
    cases hb : ltE x y with
    | true =>
      have hxy := ltE_f.2 (cmpE_as x y (ltE_t.1 hb))
      refine List.Pairwise.cons (fun z hz => ?_) h
      rcases List.mem_cons.1 hz with rfl | hz
      · exact hxy
      · exact ltE_f.2 (cmpE_tr x y z (ltE_f.1 hxy) (ltE_f.1 (List.rel_of_pairwise_cons h hz)))
    | false =>
      refine List.Pairwise.cons (fun z hz => ?_) (insB_sorted h.of_cons)
      rcases insB_mem hz with rfl | hz
      · exact hb
      · exact List.rel_of_pairwise_cons h hz
theorem sortB_sorted : ∀ (l : List Edg), sortedB ltE (sortB ltE l) = true := fun l => sortedB_mk (by
  induction l with
  | nil => exact List.Pairwise.nil
  | cons x l ih => exact insB_sorted ih)
/-- the same ends -/
def Ends (x y : Edg) : Prop := x.1 = y.1 ∧ x.2.1 = y.2.1
theorem combS_ends (e : Edg) : ∀ (l : List Edg), (∀ x ∈ combS e l, ∃ y ∈ e :: l, Ends x y) ∧ ∀ y ∈ e :: l, ∃ x ∈ combS e l, Ends x y
  | [] => ⟨fun x hx => ⟨x, hx, rfl, rfl⟩, fun y hy => ⟨y, hy, rfl, rfl⟩⟩
  | z :: l => by
    obtain ⟨h1, h2⟩ := combS_ends e l
    have hc : combS e (z :: l) = (bif ieq z.1 e.1 && ieq z.2.1 e.2.1 then (z.1, z.2.1, bif iblt e.2.2 z.2.2 then e.2.2 else z.2.2) :: l else z :: combS e l) := rfl
    rw [hc]
    cases hb : (ieq z.1 e.1 && ieq z.2.1 e.2.1) with
    | true =>
      simp only [Bool.and_eq_true, ieq_beq, beq_iff_eq] at hb
      simp only [cond_true]
      refine ⟨fun x hx => ?_, fun y hy => ?_⟩
      · rcases List.mem_cons.1 hx with rfl | hx
        · exact ⟨z, by simp, rfl, rfl⟩
        · exact ⟨x, by simp [hx], rfl, rfl⟩
      · rcases List.mem_cons.1 hy with rfl | hy
        · exact ⟨_, List.mem_cons_self .., hb.1, hb.2⟩
        · rcases List.mem_cons.1 hy with rfl | hy
          · exact ⟨_, List.mem_cons_self .., rfl, rfl⟩
          · exact ⟨y, List.mem_cons_of_mem _ hy, rfl, rfl⟩
    | false =>
      simp only [cond_false]
      refine ⟨fun x hx => ?_, fun y hy => ?_⟩
      · rcases List.mem_cons.1 hx with rfl | hx
        · exact ⟨x, by simp, rfl, rfl⟩
        · obtain ⟨y, hy, he⟩ := h1 x hx
          refine ⟨y, ?_, he⟩
          rcases List.mem_cons.1 hy with rfl | hy
          · simp
          · simp [hy]
      · rcases List.mem_cons.1 hy with rfl | hy
        · obtain ⟨x, hx, he⟩ := h2 y (List.mem_cons_self ..)
          exact ⟨x, List.mem_cons_of_mem _ hx, he⟩
        · rcases List.mem_cons.1 hy with rfl | hy
          · exact ⟨y, List.mem_cons_self .., rfl, rfl⟩
          · obtain ⟨x, hx, he⟩ := h2 y (List.mem_cons_of_mem _ hy)
            exact ⟨x, List.mem_cons_of_mem _ hx, he⟩
theorem combG_ends : ∀ (l acc : List Edg), (∀ x ∈ combG acc l, ∃ y ∈ acc ++ l, Ends x y) ∧ ∀ y ∈ acc ++ l, ∃ x ∈ combG acc l, Ends x y
  | [], acc => ⟨fun x hx => ⟨x, by simpa [combG] using hx, rfl, rfl⟩, fun y hy => ⟨y, by simpa [combG] using hy, rfl, rfl⟩⟩
  | e :: l, acc => by
    obtain ⟨h1, h2⟩ := combG_ends l (combS e acc)
    obtain ⟨h3, h4⟩ := combS_ends e acc
    refine ⟨fun x hx => ?_, fun y hy => ?_⟩
    · obtain ⟨y, hy, he⟩ := h1 x hx
      rcases List.mem_append.1 hy with hy | hy
      · obtain ⟨z, hz, he2⟩ := h3 y hy
        refine ⟨z, ?_, he.1.trans he2.1, he.2.trans he2.2⟩
        rcases List.mem_cons.1 hz with rfl | hz
        · simp
        · simp [hz]
      · exact ⟨y, by simp [hy], he⟩
    · have key : ∀ z ∈ e :: acc, ∃ x ∈ combG (combS e acc) l, Ends x z := fun z hz => by
        obtain ⟨x, hx, he⟩ := h4 z hz
        obtain ⟨x2, hx2, he2⟩ := h2 x (List.mem_append_left _ hx)
        exact ⟨x2, hx2, he2.1.trans he.1, he2.2.trans he.2⟩
      rcases List.mem_append.1 hy with hy | hy
      · exact key y (List.mem_cons_of_mem _ hy)
      · rcases List.mem_cons.1 hy with rfl | hy
        · exact key _ (List.mem_cons_self ..)
        · exact h2 y (List.mem_append_right _ hy)
/-- what Canon makes of edges -/
structure CanOf (N : Nat) (gs cs : List GE) : Prop where
  eq : cs.map gE = sortB ltE (combG [] (gs.map gE))
  ends : SameEnds gs cs
  ok : ∀ g ∈ cs, GOk N g
  len : cs.length ≤ gs.length
theorem canOf (N : Nat) (gs : List GE) (hN : N ≤ 2147483648) (hok : ∀ g ∈ gs, GOk N g) : CanOf N gs ((sortB ltE (combG [] (gs.map gE))).map eG) := by
  have hsm : ∀ x ∈ combG [] (gs.map gE), Small x := combG_small (fun x hx => by
    obtain ⟨g, hg, rfl⟩ := List.mem_map.1 hx
    exact small_gE hN (hok g hg)) (fun x hx => by cases hx)
  have hp := sortB_perm (lt := ltE) (combG [] (gs.map gE))
  obtain ⟨e1, e2⟩ := combG_ends (gs.map gE) []
  have hback : ∀ x ∈ combG [] (gs.map gE), gE (eG x) = x := fun x hx => by
    obtain ⟨h1, h2, h3⟩ := hsm x hx
    obtain ⟨a, ha, _⟩ := smallB_nat h1
    obtain ⟨b, hb, _⟩ := smallB_nat h2
    obtain ⟨x1, x2, x3⟩ := x
    simp only at ha hb
    subst ha; subst hb
    rfl
  have heq : ((sortB ltE (combG [] (gs.map gE))).map eG).map gE = sortB ltE (combG [] (gs.map gE)) := by
    rw [List.map_map]
    conv => rhs; rw [← List.map_id (sortB ltE (combG [] (gs.map gE)))]
    exact List.map_congr_left fun x hx => hback x (hp.subset hx)
  have from_ : ∀ x ∈ combG [] (gs.map gE), ∃ g ∈ gs, (eG x).f = g.f ∧ (eG x).t = g.t := fun x hx => by
    obtain ⟨y, hy, h1, h2⟩ := e1 x hx
    obtain ⟨g, hg, rfl⟩ := List.mem_map.1 (by simpa using hy)
    exact ⟨g, hg, by show x.1.toNat = _; rw [h1]; rfl, by show x.2.1.toNat = _; rw [h2]; rfl⟩
  refine ⟨heq, ⟨fun g hg => ?_, fun c hc => ?_⟩, fun c hc => ?_, ?_⟩
  · obtain ⟨x, hx, h1, h2⟩ := e2 (gE g) (by simpa using List.mem_map_of_mem hg)
    exact ⟨eG x, List.mem_map_of_mem (hp.symm.subset hx), by show x.1.toNat = _; rw [h1]; rfl, by show x.2.1.toNat = _; rw [h2]; rfl⟩
  · obtain ⟨x, hx, rfl⟩ := List.mem_map.1 hc
    obtain ⟨g, hg, h1, h2⟩ := from_ x (hp.subset hx)
    exact ⟨g, hg, h1.symm, h2.symm⟩
  · obtain ⟨x, hx, rfl⟩ := List.mem_map.1 hc
    have hx := hp.subset hx
    obtain ⟨g, hg, h1, h2⟩ := from_ x hx
    obtain ⟨_, _, h3⟩ := hsm x hx
    obtain ⟨w, hw, hwl⟩ := smallB_nat h3
    exact ⟨by rw [h1]; exact (hok g hg).1, by rw [h2]; exact (hok g hg).2.1, by show 0 ≤ x.2.2; rw [hw]; omega, by show x.2.2 ≤ _; rw [hw]; omega⟩
  · rw [List.length_map, hp.length_eq]
    have := combG_len (gs.map gE) []
    simpa using this
def CanK (N : Nat) (gs : List GE) (nx : Nat) (h : Hp) : KC' := fun r h' nx' => ∃ v2 cs, r = .agg ⟨[.int .i64 (N : Int), v2]⟩ ∧ SlNw h' nx nx' v2 encG cs ∧ CanOf N gs cs ∧ Keep nx h h' ∧ nx ≤ nx'
theorem combine_o {gs : List GE} {N : Nat} {s : Bool} {h : Hp} {nx : Nat} {v : Value} (hv : SlRd h nx v encG gs) (hN : N ≤ 2147483648) (hok : ∀ g ∈ gs, GOk N g) (hl : gs.length ≤ 60) :
    Cv Q O s 68 [.int .i64 1, v] h nx (fun r h' nx' => ∃ v2 cs, r = .tuple ⟨[v2, .int .i64 0]⟩ ∧ SlNw h' nx nx' v2 encG cs ∧ CanOf N gs cs ∧ Keep nx h h' ∧ nx ≤ nx') := by
  obtain ⟨a, cap, rfl, hc⟩ := id hv
  have hcan := canOf N gs hN hok
  by_cases h0 : gs = []
  · subst h0
    have e : gCombF [.int .i64 1, .slice a 0 cap] h nx = .ok (.tuple ⟨[.slice none 0 0, .int .i64 0]⟩) h nx := by
      cases a <;> rfl
    exact Cv.byOrc (g := gCombF) rfl e ⟨_, [], rfl, ⟨none, 0, rfl, fun h => absurd rfl h⟩, hcan, Keep.refl _ _, Nat.le_refl _⟩
  · obtain ⟨b, sp, ro, hb, rfl, hg⟩ := hc h0
    have hlen : gs.length ≠ 0 := fun e => h0 (List.eq_nil_of_length_eq_zero e)
    have hsm : ∀ x ∈ gs.map gE, Small x := fun x hx => by
      obtain ⟨g, hg, rfl⟩ := List.mem_map.1 hx
      exact small_gE hN (hok g hg)
    rw [flat_gE] at hg
    have hfl : (flat encE (gs.map gE)).length = gs.length * 3 := by rw [flat_len (k := 3) (fun _ => rfl), List.length_map]
    generalize hL : sortB ltE (combG [] (gs.map gE)) = L at hcan
    have hgl : gCombF [.int .i64 1, .slice (some ⟨b, 0, sp⟩) gs.length cap] h nx = combResF h nx L := by
      obtain ⟨m, hm⟩ : ∃ m, gs.length = m + 1 := ⟨gs.length - 1, by omega⟩
      have e2 : lcut (gs.length * 3) (ldrop (flat encE (gs.map gE)) 0) = some (flat encE (gs.map gE)) := by
        rw [ldrop_eq, List.drop_zero, lcut_eq, if_pos (by rw [hfl]; exact Nat.le_refl _), ← hfl, List.take_length]
      rw [hm] at e2 ⊢
      show (match hget h b with
        | some (.cells cs _) => (match lcut ((m + 1) * 3) (ldrop cs 0) with
          | some l => (match edgesB l with
            | some es => bif Nat.ble es.length 60 then combResF h nx (sortB ltE (combG [] es)) else .no "Combine"
            | none => .no "Combine")
          | none => .no "Combine")
        | _ => .no "Combine") = _
      rw [hg]
      simp only [e2, edgesB_flat hsm, List.length_map, hL]
      rw [show Nat.ble gs.length 60 = true by simpa using hl]
      rfl
    have hLn : L ≠ [] := fun e => by
      have := (sortB_perm (lt := ltE) (combG [] (gs.map gE))).length_eq
      rw [hL, e] at this
      have e1 := (combG_ends (gs.map gE) []).2
      obtain ⟨g, l, rfl⟩ : ∃ g l, gs = g :: l := by cases gs with | nil => exact absurd rfl h0 | cons g l => exact ⟨g, l, rfl⟩
      obtain ⟨x, hx, _⟩ := e1 (gE g) (by simp)
      have : combG [] ((g :: l).map gE) = [] := List.eq_nil_of_length_eq_zero this.symm
      rw [this] at hx; cases hx
    have hso : sortedB ltE L = true := by rw [← hL]; exact sortB_sorted _
    have e3 : combResF h nx L = .ok (.tuple ⟨[.slice (some ⟨nx, 0, some 3⟩) L.length L.length, .int .i64 0]⟩) (hset h nx (.cells (flat encE L) false)) (nx + 1) := by
      cases L with
      | nil => exact absurd rfl hLn
      | cons x l => show (bif sortedB ltE (x :: l) then _ else _) = _; rw [hso]; rfl
    refine Cv.byOrc (g := gCombF) rfl (hgl.trans e3) ⟨_, L.map eG, rfl, ⟨some ⟨nx, 0, some 3⟩, L.length, by rw [List.length_map], fun _ => ⟨nx, some 3, false, Nat.le_refl _, Nat.lt_succ_self _, rfl, ?_⟩⟩, hcan, fun c hc => hold (by omega), Nat.le_succ _⟩
    rw [hnew, flat_gE, hcan.eq, hL]
theorem canon_cv {gs : List GE} {N : Nat} {s : Bool} {h : Hp} {nx : Nat} {v : Value} (hv : SlRd h nx v encG gs) (hN : N ≤ 2147483648) (hok : ∀ g ∈ gs, GOk N g) (hl : gs.length ≤ 60) :
    Cv Q O s 56 [.agg ⟨[.int .i64 (N : Int), v]⟩] h nx (CanK N gs nx h) := by
  refine canonv ?_
  obtain ⟨a, cap, rfl, hc⟩ := id hv
  unfold canon
  simp (disch := omega) only [SS, ↓reduceIte, Nat.reduceAdd, Nat.reduceSub, Nat.reduceMul, Nat.reduceLT, Nat.reduceLeDiff, Nat.reduceEqDiff, Int.reduceBEq, Int.reduceLT, Int.reduceNeg]
  have k0 : ∀ {o1 o2 : AObj}, Keep nx h (hset (hset h nx o1) (nx + 1) o2) := fun {o1 o2} b hb => by rw [hold (by omega), hold (by omega)]
  refine (combine_o (hv.keep k0 (by omega)) hN hok hl).mono ?_
  rintro r h1 nx1 ⟨v2, cs, rfl, hcs, hcan, hk, hle⟩
  have g1 := (hk nx (by omega)).trans (hold (by omega))
  have g2 := hk (nx + 1) (by omega)
  rw [hnew] at g1 g2
  obtain ⟨a2, cap2, rfl, hc2⟩ := id hcs
  simp (disch := omega) only [SS, ↓reduceIte, Nat.reduceAdd, Nat.reduceSub, Nat.reduceMul, Nat.reduceLT, Nat.reduceLeDiff, Nat.reduceEqDiff, Int.reduceBEq, Int.reduceLT, Int.reduceNeg, g1, g2]
  refine ⟨_, cs, rfl, hcs.keep (fun b h1 h2 => hold (by omega)) (by omega) (Nat.le_refl _), hcan, (k0.trans hk (by omega)).set (by omega), by omega⟩
end Go.Proofs.YtenkechjalngcaaGreat

namespace Go.Proofs.YtenkechjalngcaaGreat
open Go Go.Ax
set_option linter.unusedVariables false
set_option linter.unusedSimpArgs false
set_option maxRecDepth 1000000
/-! # hops.outs -/
def outsOf : Nat → List GE → List (List Nat)
  | N, [] => List.replicate N []
  | N, e :: es => let g := outsOf N es; g.set e.f (e.t :: g.getD e.f [])
/-- of each vertex those to which edges lead, in order -/
def outL (N : Nat) (es : List GE) : List (List Nat) := (List.range N).map fun u => (es.filter fun e => e.f == u).map GE.t
theorem outL_len (N : Nat) (es : List GE) : (outL N es).length = N := by simp [outL]
theorem outL_get {N : Nat} {es : List GE} {u : Nat} (hu : u < N) : (outL N es)[u]? = some ((es.filter fun e => e.f == u).map GE.t) := by simp [outL, hu]
theorem outL_nil (N : Nat) : outL N [] = List.replicate N [] := by
  apply List.ext_getElem?
  intro i
  by_cases h : i < N <;> simp [outL, h]
theorem outL_snoc {N : Nat} {es : List GE} {e : GE} (he : e.f < N) : outL N (es ++ [e]) = (outL N es).set e.f ((es.filter fun x => x.f == e.f).map GE.t ++ [e.t]) := by
  apply List.ext_getElem?
  intro i
  rw [List.getElem?_set]
  by_cases h : i < N
  · rw [outL_get h]
    by_cases hi : e.f = i
    · subst hi
      rw [if_pos rfl, if_pos (by rw [outL_len]; exact h)]
      simp [List.filter_append]
    · rw [if_neg hi, outL_get h]
      simp [List.filter_append, hi]
  · rw [List.getElem?_eq_none (by rw [outL_len]; omega)]
    by_cases hi : e.f = i
    · omega
    · rw [if_neg hi, List.getElem?_eq_none (by rw [outL_len]; omega)]
theorem rd_edge {i : Nat} {cs : List GE} {e : GE} (he : cs[i]? = some e) : loadC (some 3) (i * 3) (flat encG cs) = .ok (.agg ⟨[.int .i64 (e.f : Int), .int .i64 (e.t : Int), .int .i64 e.w]⟩) := by
  have hg := flat_get (enc := encG) (k := 3) (fun _ => rfl) he
  have hi := (List.getElem?_eq_some_iff.1 he).1
  rw [loadC_many, if_pos (by rw [flat_len (k := 3) (fun _ => rfl)]; omega), hg]
  rfl
def OutK (N : Nat) (gs : List GE) (nx : Nat) (h : Hp) : KC' := fun r h' nx' => ∃ bo cs sv, r = .slice (some ⟨bo, 0, none⟩) N N ∧ CanOf N gs cs ∧ Lls h' bo nx nx' sv (outL N cs) ∧ nx ≤ bo ∧ Keep nx h h' ∧ nx ≤ nx'
def OutJ (N bo nL : Nat) (a : Option Addr) (cap : Nat) (cs : List GE) (hL : Hp) (m : Nat) (vs : List Value) (h' : Hp) (nx' : Nat) : Prop :=
  ∃ (i : Nat) (sv : List SV), m = cs.length - i ∧ i ≤ cs.length ∧ vs = [.slice (some ⟨bo, 0, none⟩) N N, .slice a cs.length cap, .int .i64 (cs.length : Int), .int .i64 (i : Int)] ∧ Lls h' bo nL nx' sv (outL N (cs.take i)) ∧ (∀ c, c < nL → c ≠ bo → hget h' c = hget hL c) ∧ nL ≤ nx'
theorem outs_cv {gs : List GE} {N : Nat} {s : Bool} {h : Hp} {nx : Nat} {v : Value} (hv : SlRd h nx v encG gs) (hN : N ≤ 100000) (hok : ∀ g ∈ gs, GOk N g) (hl : gs.length ≤ 60) :
    Cv Q O s 66 [.agg ⟨[.int .i64 (N : Int), v]⟩] h nx (OutK N gs nx h) := by
  refine outsv ?_
  obtain ⟨a, cap, rfl, hc⟩ := id hv
  unfold outs
  simp (disch := omega) only [SS, ↓reduceIte, Nat.reduceAdd, Nat.reduceSub, Nat.reduceMul, Nat.reduceLT, Nat.reduceLeDiff, Nat.reduceEqDiff, Int.reduceBEq, Int.reduceLT, Int.reduceNeg]
  have k0 : ∀ {o1 o2 : AObj}, Keep nx h (hset (hset h nx o1) (nx + 1) o2) := fun {o1 o2} b hb => by rw [hold (by omega), hold (by omega)]
  refine (canon_cv (hv.keep k0 (show nx ≤ nx + 1 + 1 by omega)) (by omega) hok hl).mono ?_
  rintro r h1 nx1 ⟨v2, cs, rfl, hcs, hcan, hk, hle⟩
  have g2 := hk (nx + 1) (by omega)
  rw [hnew] at g2
  obtain ⟨a2, cap2, rfl, hc2⟩ := id hcs
  simp (disch := omega) only [SS, ↓reduceIte, Nat.reduceAdd, Nat.reduceSub, Nat.reduceMul, Nat.reduceLT, Nat.reduceLeDiff, Nat.reduceEqDiff, Int.reduceBEq, Int.reduceLT, Int.reduceNeg]
  refine Lp.mk (OutJ N (nx + 1) nx1 a2 cap2 cs h1) cs.length ⟨0, List.replicate N (none, 0), rfl, by omega, rfl, ⟨?_, by omega, by simp [outL_len], fun j s g hs hg => .inl ?_, fun j k b nj nk hj => ?_, fun j nj hj => ?_⟩, fun c _ _ => rfl, Nat.le_refl _⟩ ?_
  · rw [g2]; simp [svs, svV]
  · simp only [List.getElem?_replicate] at hs
    rw [List.take_zero, outL_nil, List.getElem?_replicate] at hg
    split at hs
    · rw [if_pos ‹_›] at hg; cases hs; cases hg; exact ⟨rfl, rfl⟩
    · cases hs
  · rw [List.getElem?_replicate] at hj; split at hj <;> cases hj
  · rw [List.getElem?_replicate] at hj; split at hj <;> cases hj
  rintro m _ h2 nx2 ⟨i, sv, rfl, hi, rfl, L, hfr, hnx2⟩
  rw [outsb0]
  unfold outsl0
  simp (disch := omega) only [SS, ↓reduceIte, Nat.reduceAdd, Nat.reduceSub, Nat.reduceMul, Nat.reduceLT, Nat.reduceLeDiff, Nat.reduceEqDiff, Int.reduceBEq, Int.reduceLT, Int.reduceNeg]
  refine ⟨fun hlt => ?_, fun hge => ?_⟩
  · obtain ⟨e, he⟩ := get_ex hlt
    have hef := (hcan.ok e (List.mem_of_getElem? he)).1
    obtain ⟨b, sp, ro, hb1, hb2, rfl, hb⟩ := hc2 (fun e0 => by rw [e0] at hlt; exact absurd hlt (Nat.not_lt_zero _))
    have hb3 := (hfr b hb2 (by omega)).trans hb
    obtain ⟨sq, hs⟩ := get_ex (l := sv) (i := e.f) (by rw [L.len, outL_len]; exact hef)
    have hbo := L.bel
    simp (disch := omega) only [SS, ↓reduceIte, Nat.reduceAdd, Nat.reduceSub, Nat.reduceMul, Nat.reduceLT, Nat.reduceLeDiff, Nat.reduceEqDiff, Int.reduceBEq, Int.reduceLT, Int.reduceNeg, hb3, rd_edge he, L.at_, svs_get hs]
    have hg : (outL N (cs.take i))[e.f]? = some (((cs.take i).filter fun x => x.f == e.f).map GE.t) := outL_get hef
    generalize hgd : ((cs.take i).filter fun x => x.f == e.f).map GE.t = g at hg
    have hgl : g.length ≤ 60 := by
      rw [← hgd, List.length_map]
      have := List.length_filter_le (fun x : GE => x.f == e.f) (cs.take i)
      have := List.length_take_le i cs
      have := hcan.len
      omega
    have hsb : ∀ c, sq.1 = some c → c < nx2 := fun c hc => by
      obtain ⟨s1, s2⟩ := sq
      have hc : s1 = some c := hc
      subst hc
      exact (L.below hs).2
    refine EK_appI ((L.gr hs hg).keep (fun c hc => ?_)) (hnew _ _ _) (by rw [nats_len]; omega) fun h3 hn3 hf3 => ?_
    · have := hsb c hc
      rw [hold (by omega), hold (by omega), hold (by omega)]
    rw [← nats_app] at hn3
    have hx3 : hget h3 nx2 = some (.cells [.int .i64 (e.f : Int), .int .i64 (e.t : Int), .int .i64 e.w] false) := by
      rw [hf3 nx2 (by omega) (fun e => by have := hsb nx2 e; omega), hold (by omega), hnew]
    have hf4 : ∀ c, c < nx2 → sq.1 ≠ some c → hget h3 c = hget h2 c := fun c hc hne => by
      rw [hf3 c (by omega) hne, hold (by omega), hold (by omega), hold (by omega)]
    have L2 := L.keep (h' := hset (hset (hset h2 nx2 (.cells [.int .i64 0, .int .i64 0, .int .i64 0] false)) nx2 (.cells [.int .i64 (e.f : Int), .int .i64 (e.t : Int), .int .i64 e.w] false)) (nx2 + 1) (.cells [.int .i64 (e.t : Int)] false)) (hi' := nx2 + 1 + 1) ?_ ?_ (by omega)
    obtain ⟨ho3, L3⟩ := L2.add (h' := h3) (nx' := nx2 + 1 + 1 + 1) (by omega) (by omega) hs hg (v := e.t) hn3 (fun c hc hne => hf3 c (by omega) hne)
    · simp (disch := omega) only [SS, ↓reduceIte, Nat.reduceAdd, Nat.reduceSub, Nat.reduceMul, Nat.reduceLT, Nat.reduceLeDiff, Nat.reduceEqDiff, Int.reduceBEq, Int.reduceLT, Int.reduceNeg, hx3, ho3, nats_len]
      refine ⟨by omega, by rw [L.len, outL_len]; exact hef, cs.length - (i + 1), by omega, i + 1, sv.set e.f (some (nx2 + 1 + 1), g.length + 1), rfl, by omega, by rw [wrap_s (by have := hcan.len; omega)], ?_, fun c h1 h2 => ?_, by omega⟩
      · have e1 : outL N (cs.take (i + 1)) = (outL N (cs.take i)).set e.f (g ++ [e.t]) := by
          rw [List.take_add_one, he, ← hgd]; exact outL_snoc hef
        rw [e1]
        have := svs_set sv e.f (some (nx2 + 1 + 1), g.length + 1)
        rw [← this] at L3
        exact L3
      · rw [hold h2, hf4 c (by omega) (fun e0 => ?_)]
        · exact hfr c h1 h2
        · obtain ⟨s1, s2⟩ := sq
          have e0 : s1 = some c := e0
          subst e0
          have := (L.below hs).1
          omega
    · rw [hold (by omega), hold (by omega), hold (by omega)]
    · intro c h1 h2
      rw [hold (by omega), hold (by omega), hold (by omega)]
  · have hie : i = cs.length := by omega
    subst hie
    rw [List.take_length] at L
    refine ⟨nx + 1, cs, sv, rfl, hcan, L.lower (by omega), by omega, fun c hc => ?_, by omega⟩
    rw [hfr c (by omega) (by omega), hk c (by omega)]
    exact k0 c hc
end Go.Proofs.YtenkechjalngcaaGreat

namespace Go.Proofs.YtenkechjalngcaaGreat
open Go Go.Ax
set_option linter.unusedVariables false
set_option linter.unusedSimpArgs false
set_option maxRecDepth 1000000
/-! # slices.Equal -/
def EqJ (l l' : List Int) (a a' : Option Addr) (cap cap' : Nat) (h : Hp) (nx : Nat) (m : Nat) (vs : List Value) (h' : Hp) (nx' : Nat) : Prop :=
  ∃ i, m = l.length - i ∧ i ≤ l.length ∧ vs = [.slice a l.length cap, .slice a' l'.length cap', .bool false, .int .i64 (l.length : Int), .int .i64 (i : Int)] ∧ h' = h ∧ nx' = nx ∧ l.take i = l'.take i
theorem eq64_cv {s : Bool} {h : Hp} {nx : Nat} {v v' : Value} {l l' : List Int} (hv : SlRd h nx v encI l) (hv' : SlRd h nx v' encI l') (hl : l.length < 1000000) :
    Cv Q O s 52 [v, v'] h nx (fun r h' nx' => r = .bool (decide (l = l')) ∧ h' = h ∧ nx' = nx) := by
  refine eq64v ?_
  obtain ⟨a, cap, rfl, hc⟩ := id hv
  obtain ⟨a', cap', rfl, hc'⟩ := id hv'
  unfold eq64
  simp (disch := omega) only [SS, ↓reduceIte, Nat.reduceAdd, Nat.reduceSub, Nat.reduceMul, Nat.reduceLT, Nat.reduceLeDiff, Nat.reduceEqDiff, Int.reduceBEq, Int.reduceLT, Int.reduceNeg]
  refine ⟨fun hne => ?_, fun he => ?_⟩
  · have : ¬ l = l' := fun e => by subst e; simp at hne
    simp [this]
  have he : l.length = l'.length := by
    have h2 : (l.length : Int) = (l'.length : Int) := by simpa using he
    omega
  refine Lp.mk (EqJ l l' a a' cap cap' h nx) l.length ⟨0, rfl, by omega, rfl, rfl, rfl, rfl⟩ ?_
  rintro m _ _ _ ⟨i, rfl, hi, rfl, rfl, rfl, ht⟩
  rw [eq64b0]
  unfold eq64l0
  simp (disch := omega) only [SS, ↓reduceIte, Nat.reduceAdd, Nat.reduceSub, Nat.reduceMul, Nat.reduceLT, Nat.reduceLeDiff, Nat.reduceEqDiff, Int.reduceBEq, Int.reduceLT, Int.reduceNeg]
  refine ⟨fun hlt => ?_, fun hge => ?_⟩
  · obtain ⟨x, hx⟩ := get_ex hlt
    obtain ⟨y, hy⟩ := get_ex (l := l') (i := i) (by omega)
    obtain ⟨_, b, sp, ro, c1, hb, e1, hg⟩ := hv.at hx
    obtain ⟨_, b', sp', ro', c1', hb', e1', hg'⟩ := hv'.at hy
    cases e1; cases e1'
    rw [flat_ints] at hg hg'
    simp (disch := omega) only [SS, ↓reduceIte, Nat.reduceAdd, Nat.reduceSub, Nat.reduceMul, Nat.reduceLT, Nat.reduceLeDiff, Nat.reduceEqDiff, Int.reduceBEq, Int.reduceLT, Int.reduceNeg, hg, hg', ints_get hx, ints_get hy]
    refine ⟨fun hne => ?_, fun he2 => ?_⟩
    · have : ¬ l = l' := fun e => by subst e; rw [hx] at hy; cases hy; simp at hne
      simp [this]
    · have hxy : x = y := by simpa using he2
      subst hxy
      refine ⟨l.length - (i + 1), by omega, i + 1, rfl, by omega, by rw [wrap_s (by omega)], rfl, rfl, ?_⟩
      rw [List.take_add_one, List.take_add_one, hx, hy, ht]
  · have : i = l.length := by omega
    subst this
    rw [List.take_length, he, List.take_length] at ht
    simp [ht]
/-! # hops.found -/
def unre (l : List Int) : Nat := l.count (-1)
theorem unre_set {l : List Int} {w : Nat} {x : Int} (hw : l[w]? = some (-1)) (hx : x ≠ -1) : unre (l.set w x) + 1 = unre l := by
  unfold unre
  induction l generalizing w with
  | nil => simp at hw
  | cons y l ih =>
    cases w with
    | zero =>
      have hw : y = -1 := by simpa using hw
      subst hw
      simp [List.count_cons, hx]
    | succ w =>
      have := ih (w := w) (by simpa using hw)
      simp only [List.set_cons_succ, List.count_cons]
      omega
def FoundK (N : Nat) (gs : List GE) (sr : Nat) (nx : Nat) (h : Hp) : KC' := fun r h' nx' => ∃ (b1 b2 : Nat) (l p : List Int), r = .tuple ⟨[.slice (some ⟨b1, 0, some 1⟩) N N, .slice (some ⟨b2, 0, some 1⟩) N N]⟩ ∧ b1 < nx' ∧ b2 < nx' ∧
  hget h' b1 = some (.cells (ints l) false) ∧ hget h' b2 = some (.cells (ints p) false) ∧ Lev N gs sr l ∧ Par gs l N p ∧ Keep nx h h' ∧ nx ≤ nx'
/-- two slices that grow side by side -/
def TwoI (h : Hp) (v1 v2 : Value) (l1 l2 : List Int) (lo hi : Nat) : Prop :=
  (l1 = [] ∧ l2 = [] ∧ v1 = .slice none 0 0 ∧ v2 = .slice none 0 0) ∨ ∃ b1 b2, b1 ≠ b2 ∧ lo ≤ b1 ∧ b1 < hi ∧ lo ≤ b2 ∧ b2 < hi ∧ v1 = .slice (some ⟨b1, 0, some 1⟩) l1.length l1.length ∧ v2 = .slice (some ⟨b2, 0, some 1⟩) l2.length l2.length ∧
    hget h b1 = some (.cells (ints l1) false) ∧ hget h b2 = some (.cells (ints l2) false)
theorem TwoI.gr {h : Hp} {v1 v2 : Value} {l1 l2 : List Int} {lo hi : Nat} (T : TwoI h v1 v2 l1 l2 lo hi) : ∃ o1 o2, Gr h encI 1 v1 l1 o1 ∧ Gr h encI 1 v2 l2 o2 ∧ (∀ b, o1 = some b → lo ≤ b ∧ b < hi ∧ o2 ≠ some b) ∧ ∀ b, o2 = some b → lo ≤ b ∧ b < hi := by
  rcases T with ⟨rfl, rfl, rfl, rfl⟩ | ⟨b1, b2, hne, h1, h2, h3, h4, rfl, rfl, g1, g2⟩
  · exact ⟨none, none, Gr.nil, Gr.nil, ⟨fun b e => (by cases e), fun b e => (by cases e)⟩⟩
  · rw [← flat_ints] at g1 g2
    exact ⟨some b1, some b2, .own g1, .own g2, fun b e => by cases e; exact ⟨h1, h2, fun e => hne (by cases e; rfl)⟩, fun b e => by cases e; exact ⟨h3, h4⟩⟩
def FJ0 (N sr nx : Nat) (h2 : Hp) (m : Nat) (vs : List Value) (h' : Hp) (nx' : Nat) : Prop :=
  ∃ (i : Nat) (v1 v2 : Value), m = N - i ∧ i ≤ N ∧ vs = [.int .i64 (sr : Int), .pointer (some ⟨nx, 0, none⟩), v1, v2, .int .i64 (N : Int), .int .i64 (i : Int)] ∧ TwoI h' v1 v2 (List.replicate i (-1)) (List.replicate i (-1)) (nx + 1) nx' ∧ Keep (nx + 1) h2 h' ∧ nx + 1 ≤ nx'
/-- all that lies still while vertices wait -/
structure FQ (N nA nB b1 b2 bo : Nat) (sv : List SV) (gss : List (List Nat)) (nx : Nat) (h : Hp) (h' : Hp) (nx' : Nat) (l p : List Int) (q : List Nat) (vq : Value) (oq : Option Nat) : Prop where
  g1 : hget h' b1 = some (.cells (ints l) false)
  g2 : hget h' b2 = some (.cells (ints p) false)
  L : Lls h' bo nA nB sv gss
  row : Gr h' encI 1 vq (nats q) oq
  ro : ∀ b, oq = some b → nB ≤ b ∧ b < nx'
  lt : ∀ a ∈ q, a < N
  keep : Keep nx h h'
  le : nB ≤ nx'
def FJ1 (N sr nA nB b1 b2 bo : Nat) (cs : List GE) (sv : List SV) (nx : Nat) (h : Hp) (m : Nat) (vs : List Value) (h' : Hp) (nx' : Nat) : Prop :=
  ∃ (l p : List Int) (q D : List Nat) (vq : Value) (oq : Option Nat), m = unre l + q.length ∧ unre l + q.length ≤ N ∧ vs = [.slice (some ⟨b1, 0, some 1⟩) N N, .slice (some ⟨b2, 0, some 1⟩) N N, .slice (some ⟨bo, 0, none⟩) N N, vq] ∧ Bfs N cs sr l p q D ∧ FQ N nA nB b1 b2 bo sv (outL N cs) nx h h' nx' l p q vq oq
def FJ2 (N sr nA nB b1 b2 bo c0 u k : Nat) (cs : List GE) (sv : List SV) (g : List Nat) (D : List Nat) (vg : Value) (nx : Nat) (h : Hp) (m : Nat) (vs : List Value) (h' : Hp) (nx' : Nat) : Prop :=
  ∃ (j : Nat) (l p : List Int) (q : List Nat) (vq : Value) (oq : Option Nat), m = g.length - j ∧ j ≤ g.length ∧ unre l + q.length = c0 ∧ vs = [.slice (some ⟨b1, 0, some 1⟩) N N, .slice (some ⟨b2, 0, some 1⟩) N N, .slice (some ⟨bo, 0, none⟩) N N, vq, .int .i64 (u : Int), vg, .int .i64 (g.length : Int), .int .i64 (j : Int)] ∧
    BfsI N cs sr l p q D u k (g.take j) ∧ FQ N nA nB b1 b2 bo sv (outL N cs) nx h h' nx' l p q vq oq
theorem found_cv {gs : List GE} {N sr : Nat} {s : Bool} {h : Hp} {nx : Nat} {v : Value} (hv : SlRd h nx v encG gs) (hN : N ≤ 100000) (hsr : sr < N) (hok : ∀ g ∈ gs, GOk N g) (hl : gs.length ≤ 60) :
    Cv Q O s 51 [.agg ⟨[.int .i64 (N : Int), v]⟩, .int .i64 (sr : Int)] h nx (FoundK N gs sr nx h) := by
  refine foundv ?_
  obtain ⟨a, cap, rfl, hc⟩ := id hv
  unfold found
  simp (disch := omega) only [SS, ↓reduceIte, Nat.reduceAdd, Nat.reduceSub, Nat.reduceMul, Nat.reduceLT, Nat.reduceLeDiff, Nat.reduceEqDiff, Int.reduceBEq, Int.reduceLT, Int.reduceNeg]
  refine Lp.mk (FJ0 N sr nx (hset h nx (.cells [.int .i64 (N : Int), .slice a gs.length cap] false))) N ⟨0, _, _, rfl, by omega, rfl, .inl ⟨rfl, rfl, rfl, rfl⟩, Keep.refl _ _, Nat.le_refl _⟩ ?_
  rintro m _ h2 nx2 ⟨i, v1, v2, rfl, hi, rfl, T, hk, hle⟩
  rw [foundb0]
  unfold foundl0
  simp (disch := omega) only [SS, ↓reduceIte, Nat.reduceAdd, Nat.reduceSub, Nat.reduceMul, Nat.reduceLT, Nat.reduceLeDiff, Nat.reduceEqDiff, Int.reduceBEq, Int.reduceLT, Int.reduceNeg]
  obtain ⟨o1, o2, G1, G2, B1, B2⟩ := T.gr
  refine ⟨fun hlt => ?_, fun hge => ?_⟩
  · refine EK_appI (G1.keep fun b hb => hold (by have := B1 b hb; omega)) (hnew _ _ _) (by simp; omega) fun h3 hn3 hf3 => ?_
    (try simp (disch := omega) only [SS, ↓reduceIte, Nat.reduceAdd, Nat.reduceSub, Nat.reduceMul, Nat.reduceLT, Nat.reduceLeDiff, Nat.reduceEqDiff, Int.reduceBEq, Int.reduceLT, Int.reduceNeg])
    refine EK_appI (G2.keep fun b hb => ?_) (hnew _ _ _) (by simp; omega) fun h4 hn4 hf4 => ?_
    · have := B2 b hb
      rw [hold (by omega), hf3 b (by omega) (fun e => (B1 b e).2.2 hb), hold (by omega)]
    have e1 : (List.replicate i (-1 : Int)).length + 1 = (List.replicate (i + 1) (-1 : Int)).length := by simp
    have e2 : List.replicate i (-1 : Int) ++ [-1] = List.replicate (i + 1) (-1) := by rw [← List.replicate_succ']
    rw [e2] at hn3 hn4
    (try simp (disch := omega) only [SS, ↓reduceIte, Nat.reduceAdd, Nat.reduceSub, Nat.reduceMul, Nat.reduceLT, Nat.reduceLeDiff, Nat.reduceEqDiff, Int.reduceBEq, Int.reduceLT, Int.reduceNeg])
    rw [e1, wrap_s (by omega)]
    refine ⟨N - (i + 1), by omega, i + 1, _, _, rfl, by omega, rfl, .inr ⟨nx2 + 1, nx2 + 1 + 1 + 1, by omega, by omega, by omega, by omega, by omega, rfl, rfl, ?_, hn4⟩, fun b hb => ?_, by omega⟩
    · rw [hf4 _ (by omega) (fun e => by have := B2 _ e; omega), hold (by omega), hn3]
    · rw [hf4 b (by omega) (fun e => by have := B2 _ e; omega), hold (by omega), hf3 b (by omega) (fun e => by have := B1 _ e; omega), hold (by omega)]
      exact hk b hb
  have : i = N := by omega
  subst this
  rcases T with ⟨e, _⟩ | ⟨b1, b2, hne', p1, p2, p3, p4, rfl, rfl, g1, g2⟩
  · have := congrArg List.length e; simp at this; omega
  have gx := hk nx (by omega)
  rw [hnew] at gx
  simp only [List.length_replicate]
  simp (disch := omega) only [SS, ↓reduceIte, Nat.reduceAdd, Nat.reduceSub, Nat.reduceMul, Nat.reduceLT, Nat.reduceLeDiff, Nat.reduceEqDiff, Int.reduceBEq, Int.reduceLT, Int.reduceNeg, gx]
  have k0 : Keep nx h h2 := fun b hb => by rw [hk b (by omega), hold (by omega)]
  refine (outs_cv (hv.keep k0 (show nx ≤ nx2 by omega)) hN hok hl).mono ?_
  rintro r h3 nx3 ⟨bo, cs, sv, rfl, hcan, L, hbo, hk3, hle3⟩
  have g1' := (hk3 b1 p2).trans g1
  have g2' := (hk3 b2 p4).trans g2
  simp (disch := omega) only [SS, ↓reduceIte, Nat.reduceAdd, Nat.reduceSub, Nat.reduceMul, Nat.reduceLT, Nat.reduceLeDiff, Nat.reduceEqDiff, Int.reduceBEq, Int.reduceLT, Int.reduceNeg, g1', List.length_replicate]
  refine ⟨hsr, Lp.mk (FJ1 i sr nx2 nx3 b1 b2 bo cs sv nx h) (unre ((List.replicate i (-1)).set sr 0) + 1) ⟨_, _, [sr], [], _, some nx3, rfl, ?_, rfl, Bfs.init hsr, ?_⟩ ?_⟩
  · have := unre_set (l := List.replicate i (-1)) (w := sr) (x := 0) (by simp [hsr]) (by omega)
    have e : unre (List.replicate i (-1)) = i := by simp [unre]
    show _ + 1 ≤ i
    omega
  · have hb1 := L.bel
    refine ⟨by rw [hold (by omega), hnew], by rw [hold (by omega), hold (by omega)]; exact g2', L.keep ?_ (fun b h1 h2 => ?_) (Nat.le_refl _), ?_, fun b e => by cases e; exact ⟨Nat.le_refl _, by omega⟩, fun a ha => by simp at ha; omega, fun b hb => ?_, by omega⟩
    · rw [hold (by omega), hold (by omega)]
    · rw [hold (by omega), hold (by omega)]
    · exact Gr.part (enc := encI) (k := 1) (b := nx3) (o := 0) (l := nats [sr]) (cs := [.int .i64 (sr : Int)]) (ro := false) (hnew _ _ _) (by simp [nats]) (by simp [nats, flat, encI])
    · rw [hold (by omega), hold (by omega), hk3 b (by omega)]; exact k0 b hb
  rintro m _ h4 nx4 ⟨l, p, q, D, vq, oq, rfl, hcN, rfl, B, F⟩
  rw [foundb1]
  unfold foundl1
  simp (disch := omega) only [SS, ↓reduceIte, Nat.reduceAdd, Nat.reduceSub, Nat.reduceMul, Nat.reduceLT, Nat.reduceLeDiff, Nat.reduceEqDiff, Int.reduceBEq, Int.reduceLT, Int.reduceNeg, F.row.lens]
  refine ⟨fun h0 => ?_, fun hne => ?_⟩
  · have hq : q = [] := by
      cases q with
      | nil => rfl
      | cons x q => simp [nats] at h0; omega
    subst hq
    obtain ⟨hL, hP⟩ := B.lev
    have hs : SameEnds cs gs := ⟨hcan.ends.2, hcan.ends.1⟩
    have := F.le
    exact ⟨b1, b2, l, p, rfl, by omega, by omega, F.g1, F.g2, hL.ends hs, hP.ends hs, F.keep, by omega⟩
  · obtain ⟨u, q', rfl⟩ : ∃ u q', q = u :: q' := by
      cases q with
      | nil => simp [nats] at hne
      | cons x q => exact ⟨x, q, rfl⟩
    obtain ⟨k, BI⟩ := B.pop
    have hu := F.lt u (by simp)
    have G := F.row
    rw [nats_cons] at G
    obtain ⟨br, or_, spr, cr, ror, v', rfl, rfl, hcr, hcx, hsl, G'⟩ := G.head
    obtain ⟨sq, hsq⟩ := get_ex (l := sv) (i := u) (by rw [F.L.len, outL_len]; exact hu)
    have hg : (outL i cs)[u]? = some ((cs.filter fun e => e.f == u).map GE.t) := outL_get hu
    have GL := F.L.gr hsq hg
    have hbr := F.ro br rfl
    have hbo2 := F.L.bel
    simp (disch := omega) only [SS, ↓reduceIte, Nat.reduceAdd, Nat.reduceSub, Nat.reduceMul, Nat.reduceLT, Nat.reduceLeDiff, Nat.reduceEqDiff, Int.reduceBEq, Int.reduceLT, Int.reduceNeg, hcr, hcx, F.L.at_, svs_get hsq, GL.lens, nats_cons]
    generalize hgd : (cs.filter fun e => e.f == u).map GE.t = g at *
    have hgw : ∀ w ∈ g, w < i ∧ ∃ e ∈ cs, e.f = u ∧ e.t = w := fun w hw => by
      rw [← hgd] at hw
      obtain ⟨e, he, rfl⟩ := List.mem_map.1 hw
      obtain ⟨he1, he2⟩ := List.mem_filter.1 he
      exact ⟨(hcan.ok e he1).2.1, e, he1, by simpa using he2, rfl⟩
    have hgl : g.length ≤ 60 := by
      rw [← hgd, List.length_map]
      have := List.length_filter_le (fun x : GE => x.f == u) cs
      have := hcan.len
      omega
    simp only [nats_len] at hsl
    simp only [List.length_cons, nats_len, hsl, RK_ok]
    refine Lp.mk (FJ2 i sr nx2 nx3 b1 b2 bo (unre l + q'.length) u k cs sv g D (svV sq) nx h) g.length ⟨0, l, p, q', v', some br, rfl, by omega, rfl, rfl, by simpa using BI, F.g1, F.g2, F.L, G', fun b e => by cases e; exact hbr, fun a ha => F.lt a (by simp [ha]), F.keep, F.le⟩ ?_
    clear BI F B G G' hcr hcx hsl GL hbr
    rintro m _ h5 nx5 ⟨j, l, p, q, vq, oq, rfl, hj, hcnt, rfl, BI, F⟩
    rw [foundb2]
    unfold foundl2
    simp (disch := omega) only [SS, ↓reduceIte, Nat.reduceAdd, Nat.reduceSub, Nat.reduceMul, Nat.reduceLT, Nat.reduceLeDiff, Nat.reduceEqDiff, Int.reduceBEq, Int.reduceLT, Int.reduceNeg]
    refine ⟨fun hlt => ?_, fun hge => ?_⟩
    · obtain ⟨w, hw⟩ := get_ex hlt
      obtain ⟨hwN, e0, he0, hf0, ht0⟩ := hgw w (List.mem_of_getElem? hw)
      rcases F.L.each u sq g hsq hg with ⟨e, _⟩ | ⟨bg, hbg1, hbg2, rfl, hbg⟩
      · rw [e] at hlt; simp at hlt
      obtain ⟨x, hx⟩ := get_ex (l := l) (i := w) (by rw [BI.len]; exact hwN)
      obtain ⟨z, hz⟩ := get_ex (l := p) (i := w) (by rw [BI.plen]; exact hwN)
      have hkN := BI.lt
      have hro := F.ro
      have hle5 := F.le
      simp only [svV]
      simp (disch := omega) only [SS, ↓reduceIte, Nat.reduceAdd, Nat.reduceSub, Nat.reduceMul, Nat.reduceLT, Nat.reduceLeDiff, Nat.reduceEqDiff, Int.reduceBEq, Int.reduceLT, Int.reduceNeg, hbg, ints_get (nats_get hw), F.g1, F.g2, ints_get hx, ints_get hz, ints_get BI.lu, wrap_s (show k < 1000000000000 by omega)]
      have htk : g.take (j + 1) = g.take j ++ [w] := by rw [List.take_add_one, hw]; rfl
      refine ⟨fun hneg => ?_, fun hpos => ?_⟩
      · have hx1 : x = -1 := by have := (BI.rng w x hx).1; omega
        subst hx1
        have hun := unre_set (x := (k : Int) + 1) hx (by omega)
        refine ⟨by rw [← BI.len] at hwN; exact hwN, by rw [← BI.plen] at hwN; exact hwN, ?_⟩
        have hro1 : ∀ b, oq = some b → nx3 ≤ b ∧ b < nx5 := hro
        refine EK_appI (F.row.keep fun b hb => ?_) (hnew _ _ _) ?_ fun h6 hn6 hf6 => ?_
        · have := hro b hb
          rw [hold (by omega), hold (by omega), hold (by omega)]
        · rw [nats_len]
          simp only [List.length_cons] at hcN
          omega
        unfold foundk0
        simp (disch := omega) only [SS, ↓reduceIte, Nat.reduceAdd, Nat.reduceSub, Nat.reduceMul, Nat.reduceLT, Nat.reduceLeDiff, Nat.reduceEqDiff, Int.reduceBEq, Int.reduceLT, Int.reduceNeg, wrap_s (show j < 1000000000000 by omega)]
        have hfr : ∀ c, c < nx3 → c ≠ b1 → c ≠ b2 → hget h6 c = hget h5 c := fun c h1 h2 h3 => by
          rw [hf6 c (by omega) (fun e => by have := hro c e; omega), hold (by omega), hold h3, hold h2]
        have e1 : ((k + 1 : Nat) : Int) = (k : Int) + 1 := by simp
        rw [e1] at hf6
        rw [← nats_app] at hn6
        refine ⟨g.length - (j + 1), by omega, j + 1, l.set w ((k : Int) + 1), p.set w (u : Int), q ++ [w], .slice (some ⟨nx5 + 1, 0, some 1⟩) ((nats q).length + 1) ((nats q).length + 1), some (nx5 + 1), rfl, by omega, ?_, rfl, by rw [htk]; exact BI.new hx he0 hf0 ht0, ?_⟩
        · rw [List.length_append, List.length_singleton]; omega
        · refine ⟨?_, ?_, F.L.keep (hfr bo (by omega) (by omega) (by omega)) (fun c h1 h2 => hfr c h2 (by omega) (by omega)) (Nat.le_refl _), ?_, fun b e => by cases e; omega, fun a ha => ?_, fun c hc => ?_, by omega⟩
          · rw [hf6 b1 (by omega) (fun e => by have := hro b1 e; omega), hold (by omega), hold hne', hnew]
          · rw [hf6 b2 (by omega) (fun e => by have := hro b2 e; omega), hold (by omega), hnew]
          · have := Gr.own (enc := encI) (k := 1) (l := nats (q ++ [w])) (b := nx5 + 1) (h := h6) (by rw [flat_ints]; exact hn6)
            simpa [nats_len] using this
          · rcases List.mem_append.1 ha with ha | ha
            · exact F.lt a ha
            · simp at ha; omega
          · rw [hfr c (by omega) (by omega) (by omega)]; exact F.keep c hc
      · refine ⟨fun heq => ?_, fun hne => ?_⟩
        · have hxk : x = (k : Int) + 1 := by simpa using heq
          subst hxk
          refine ⟨by rw [← BI.plen] at hwN; exact hwN, ?_⟩
          unfold foundk0
          simp (disch := omega) only [SS, ↓reduceIte, Nat.reduceAdd, Nat.reduceSub, Nat.reduceMul, Nat.reduceLT, Nat.reduceLeDiff, Nat.reduceEqDiff, Int.reduceBEq, Int.reduceLT, Int.reduceNeg, wrap_s (show j < 1000000000000 by omega)]
          refine ⟨g.length - (j + 1), by omega, j + 1, l, p.set w (min z (u : Int)), q, vq, oq, rfl, by omega, hcnt, rfl, by rw [htk]; exact BI.same hx hz he0 hf0 ht0, ?_⟩
          exact ⟨by rw [hold hne']; exact F.g1, hnew _ _ _, F.L.keep (hold (by omega)) (fun c h1 h2 => hold (by omega)) (Nat.le_refl _), F.row.keep fun b hb => hold (by have := hro b hb; omega), hro, F.lt, F.keep.set (by omega), F.le⟩
        · have hxk : x ≠ (k : Int) + 1 := by simpa using hne
          unfold foundk0
          simp (disch := omega) only [SS, ↓reduceIte, Nat.reduceAdd, Nat.reduceSub, Nat.reduceMul, Nat.reduceLT, Nat.reduceLeDiff, Nat.reduceEqDiff, Int.reduceBEq, Int.reduceLT, Int.reduceNeg, wrap_s (show j < 1000000000000 by omega)]
          exact ⟨g.length - (j + 1), by omega, j + 1, l, p, q, vq, oq, rfl, by omega, hcnt, rfl, by rw [htk]; exact BI.skip hx (by omega) hxk, F⟩
    · have : j = g.length := by omega
      subst this
      rw [List.take_length] at BI
      have BD := BI.done fun e he hf => by rw [← hgd]; exact List.mem_map.2 ⟨e, List.mem_filter.2 ⟨he, by simp [hf]⟩, rfl⟩
      exact ⟨_, by rw [hcnt]; omega, l, p, q, u :: D, vq, oq, rfl, by rw [hcnt]; simp only [List.length_cons] at hcN; omega, rfl, BD, F⟩
end Go.Proofs.YtenkechjalngcaaGreat

namespace Go.Proofs.YtenkechjalngcaaGreat
open Go Go.Ax
set_option linter.unusedVariables false
set_option linter.unusedSimpArgs false
set_option maxRecDepth 1000000
theorem k47 : compAt Tryz.prog 47 = some (cfRight 62 64 65 63 61) := by kernel_rfl
theorem k62 : compAt Tryz.prog 62 = some cfOut := by kernel_rfl
theorem k64 : compAt Tryz.prog 64 = some cfEnds := by kernel_rfl
theorem k65 : compAt Tryz.prog 65 = some cfWeighs := by kernel_rfl
theorem k63 : compAt Tryz.prog 63 = some (cfContains 67) := by kernel_rfl
theorem k67 : compAt Tryz.prog 67 = some cfIndex := by kernel_rfl
theorem rightG {s : Bool} {N : Nat} {v : Value} {gs : List GE} {h : Hp} {nx : Nat} (hv : SlRd h nx v encG gs) (hN : N < 24) (hl : gs.length ≤ 60) (hok : ∀ g ∈ gs, GOk N g) :
    Cv Q O s 47 [.agg ⟨[.int .i64 (N : Int), v]⟩] h nx (StillK (.int .i64 0) nx h) := right_cv k47 rfl k62 rfl k64 rfl k65 rfl k63 rfl k67 rfl hv hN hl hok
/-! # hops.Check -/
def CheckK (L P l p : List Int) (nx : Nat) (h : Hp) : KC' := fun r h' nx' => r = .bool (decide (L = l) && decide (P = p)) ∧ Keep nx h h' ∧ nx ≤ nx'
theorem hchk_cv {s : Bool} {N sr : Nat} {v vl vp : Value} {gs : List GE} {L P l p : List Int} {h : Hp} {nx : Nat} (hv : SlRd h nx v encG gs) (hvl : SlRd h nx vl encI l) (hvp : SlRd h nx vp encI p) (hN : N < 24) (hsr : sr < N) (hl : gs.length ≤ 60) (hok : ∀ g ∈ gs, GOk N g) (hL : Lev N gs sr L) (hP : Par gs L N P) :
    Cv Q O s 28 [.agg ⟨[.int .i64 (N : Int), v]⟩, .int .i64 (sr : Int), vl, vp] h nx (CheckK L P l p nx h) := by
  refine hchkv ?_
  obtain ⟨a, cap, rfl, hc⟩ := id hv
  unfold hchk
  simp (disch := omega) only [SS, ↓reduceIte, Nat.reduceAdd, Nat.reduceSub, Nat.reduceMul, Nat.reduceLT, Nat.reduceLeDiff, Nat.reduceEqDiff, Int.reduceBEq, Int.reduceLT, Int.reduceNeg]
  have k0 : ∀ {o1 : AObj}, Keep nx h (hset h nx o1) := fun {o1} b hb => hold (by omega)
  refine (rightG (hv.keep k0 (Nat.le_succ _)) hN hl hok).mono ?_
  rintro r h1 nx1 ⟨rfl, hk, hle⟩
  have g1 := hk nx (Nat.lt_succ_self _)
  rw [hnew] at g1
  simp (disch := omega) only [SS, ↓reduceIte, Nat.reduceAdd, Nat.reduceSub, Nat.reduceMul, Nat.reduceLT, Nat.reduceLeDiff, Nat.reduceEqDiff, Int.reduceBEq, Int.reduceLT, Int.reduceNeg, g1]
  refine ⟨fun h0 => absurd h0 (by omega), fun _ => ?_⟩
  unfold hchkk0
  have hv1 := (hv.keep k0 (Nat.le_succ _)).keep hk hle
  have hvl1 := (hvl.keep k0 (Nat.le_succ _)).keep hk hle
  have hvp1 := (hvp.keep k0 (Nat.le_succ _)).keep hk hle
  simp (disch := omega) only [SS, ↓reduceIte, Nat.reduceAdd, Nat.reduceSub, Nat.reduceMul, Nat.reduceLT, Nat.reduceLeDiff, Nat.reduceEqDiff, Int.reduceBEq, Int.reduceLT, Int.reduceNeg, g1]
  refine ⟨fun h0 => absurd hsr h0, fun _ => ?_⟩
  refine (found_cv hv1 (by omega) hsr hok hl).mono ?_
  rintro r h2 nx2 ⟨b1, b2, L', P', rfl, hb1, hb2, e1, e2, hL', hP', hk2, hle2⟩
  have := hL.unique hL'
  subst this
  have := hP.unique hP'
  subst this
  rw [← flat_ints] at e1 e2
  have s1 : SlRd h2 nx2 (.slice (some ⟨b1, 0, some 1⟩) N N) encI L := ⟨some ⟨b1, 0, some 1⟩, N, by rw [hL.len], fun _ => ⟨b1, some 1, false, hb1, rfl, e1⟩⟩
  have s2 : SlRd h2 nx2 (.slice (some ⟨b2, 0, some 1⟩) N N) encI P := ⟨some ⟨b2, 0, some 1⟩, N, by rw [hP.1], fun _ => ⟨b2, some 1, false, hb2, rfl, e2⟩⟩
  have kk : Keep nx h h2 := ((k0.trans hk (Nat.le_succ _)).trans hk2 (by omega))
  simp (disch := omega) only [SS, ↓reduceIte, Nat.reduceAdd, Nat.reduceSub, Nat.reduceMul, Nat.reduceLT, Nat.reduceLeDiff, Nat.reduceEqDiff, Int.reduceBEq, Int.reduceLT, Int.reduceNeg]
  refine (eq64_cv s1 (hvl1.keep hk2 hle2) (by rw [hL.len]; omega)).mono ?_
  rintro r _ _ ⟨rfl, rfl, rfl⟩
  simp (disch := omega) only [SS, ↓reduceIte, Nat.reduceAdd, Nat.reduceSub, Nat.reduceMul, Nat.reduceLT, Nat.reduceLeDiff, Nat.reduceEqDiff, Int.reduceBEq, Int.reduceLT, Int.reduceNeg]
  refine ⟨fun ht => ?_, fun hf => ?_⟩
  · refine (eq64_cv s2 (hvp1.keep hk2 hle2) (by rw [hP.1]; omega)).mono ?_
    rintro r _ _ ⟨rfl, rfl, rfl⟩
    (try simp (disch := omega) only [SS, ↓reduceIte, Nat.reduceAdd, Nat.reduceSub, Nat.reduceMul, Nat.reduceLT, Nat.reduceLeDiff, Nat.reduceEqDiff, Int.reduceBEq, Int.reduceLT, Int.reduceNeg])
    exact ⟨by simp [ht], kk, by omega⟩
  · exact ⟨by simp [hf], kk, by omega⟩
end Go.Proofs.YtenkechjalngcaaGreat

namespace Go.Proofs.YtenkechjalngcaaGreat
open Go Go.Ax
set_option linter.unusedVariables false
set_option linter.unusedSimpArgs false
set_option maxRecDepth 1000000
/-! # law27.HopsOnly -/
def i64ok (n : Int) : Prop := -9223372036854775808 ≤ n ∧ n ≤ 9223372036854775807
theorem wrapI {n : Int} : IntKind.wrap .i64 n = (if n % 18446744073709551616 ≥ 9223372036854775808 then n % 18446744073709551616 - 18446744073709551616 else n % 18446744073709551616) := by
  simp only [IntKind.wrap, IntKind.signed, IntKind.bits]
  simp
theorem wrap_ne2 {a b : Int} (ha : i64ok a) (hb : i64ok b) (h0 : b ≠ 0) : IntKind.wrap .i64 (a + b) ≠ a := by
  unfold i64ok at *
  rw [wrapI]
  split <;> omega
theorem wrap_back {a b : Int} (ha : i64ok a) (hb : i64ok b) : IntKind.wrap .i64 (IntKind.wrap .i64 (a + b) - b) = a := by
  unfold i64ok at *
  rw [wrapI, wrapI]
  split <;> split <;> omega
theorem k11 : compAt Tryz.prog 11 = some (cfMake 44 24 24) := by kernel_rfl
theorem k44 : compAt Tryz.prog 44 = some (cfGraph 24 24) := by kernel_rfl
theorem k24 : compAt Tryz.prog 24 = some cfWithin := by kernel_rfl
theorem kl25 : compAt Tryz.prog 25 = some cfLevels := by kernel_rfl
theorem kp26 : compAt Tryz.prog 26 = some cfParents := by kernel_rfl
theorem t24 : aggOf Tryz.prog 24 = some (some 2) := by kernel_rfl
theorem set_same {l : List Int} {k : Nat} {x : Int} (h : l[k]? = some x) : l.set k x = l := by
  apply List.ext_getElem?
  intro i
  rw [List.getElem?_set]
  by_cases e : k = i
  · subst e; rw [if_pos rfl, h, if_pos (List.getElem?_eq_some_iff.1 h).1]
  · rw [if_neg e]
theorem set_ne {l : List Int} {k : Nat} {x y : Int} (h : l[k]? = some x) (hne : y ≠ x) : ¬ l = l.set k y := fun e => by
  have hk := (List.getElem?_eq_some_iff.1 h).1
  have : (l.set k y)[k]? = some x := by rw [← e]; exact h
  rw [List.getElem?_set, if_pos rfl, if_pos hk] at this
  exact hne (by simpa using this)
theorem live_o {s : Bool} {h : Hp} {nx : Nat} {K : KC'} (hk : K (.bool true) h nx) : Cv Q O s 27 [] h nx K := live_cv rfl hk
theorem honly_cv {s : Bool} {n V R C at_ by_ : Int} {v : Value} {es : List Edg3} {h : Hp} {nx : Nat} (hes : SlRd h nx v enc3 es) (hby : i64ok by_) :
    Cv Q O s 6 [.agg ⟨[.int .i64 n, v, .int .i64 V, .int .u8 R, .int .u8 C]⟩, .int .i64 at_, .int .i64 by_] h nx TrueK := by
  refine honlyv ?_
  obtain ⟨a, cap, rfl, hc⟩ := id hes
  unfold honly
  simp (disch := omega) only [SS, ↓reduceIte, Nat.reduceAdd, Nat.reduceSub, Nat.reduceMul, Nat.reduceLT, Nat.reduceLeDiff, Nat.reduceEqDiff, Int.reduceBEq, Int.reduceLT, Int.reduceNeg]
  refine (make_cv k11 rfl t24 k44 rfl k24 rfl (hes.keep (fun b hb => hold (show b ≠ nx by omega)) (Nat.le_succ nx))).mono ?_
  rintro r h1 nx1 ⟨N, sr, ra, rb, v2, gs, rfl, hN0, hN, hsr, hgl, hok, hgs, hle1, hk1⟩
  obtain ⟨a2, cap2, rfl, hc2⟩ := id hgs
  simp (disch := omega) only [SS, ↓reduceIte, Nat.reduceAdd, Nat.reduceSub, Nat.reduceMul, Nat.reduceLT, Nat.reduceLeDiff, Nat.reduceEqDiff, Int.reduceBEq, Int.reduceLT, Int.reduceNeg]
  have k2 : Keep nx1 h1 (hset h1 nx1 (.cells [.int .i64 (N : Int), .slice a2 gs.length cap2] false)) := fun b hb => hold (by omega)
  refine (levels_cv kl25 rfl (hgs.rd.keep ((Keep.refl nx1 h1).set (Nat.le_refl _) |>.set (Nat.le_refl _)) (Nat.le_succ _)) hN0 hN hsr hgl hok).mono ?_
  rintro r h2 nx2 ⟨bl, L, rfl, hbl, hL, hbl1, hbl2, hk2⟩
  have gA2 := hk2 nx1 (by omega)
  rw [hnew] at gA2
  have hv2 : SlRd h2 nx2 (.slice a2 gs.length cap2) encG gs := (hgs.rd.keep ((Keep.refl nx1 h1).set (Nat.le_refl _) |>.set (Nat.le_refl _)) (Nat.le_succ _)).keep hk2 (by omega)
  have hLr : ∀ (v : Nat) (x : Int), L[v]? = some x → -1 ≤ x ∧ x < 1000000 := fun v x hx => ⟨(hL.rng v x hx).1, by have := (hL.rng v x hx).2; omega⟩
  simp (disch := omega) only [SS, ↓reduceIte, Nat.reduceAdd, Nat.reduceSub, Nat.reduceMul, Nat.reduceLT, Nat.reduceLeDiff, Nat.reduceEqDiff, Int.reduceBEq, Int.reduceLT, Int.reduceNeg, gA2]
  refine (parents_cv kp26 rfl hv2 hN0 hN hgl hok hL.len hLr hbl hbl2).mono ?_
  rintro r h3 nx3 ⟨bp, Pp, rfl, hbp, hP, hbp1, hbp2, hk3⟩
  have gA3 := (hk3 nx1 (by omega)).trans gA2
  have gL3 := (hk3 bl (by omega)).trans hbl
  have hv3 := hv2.keep hk3 (show nx2 ≤ nx3 by omega)
  simp (disch := omega) only [SS, ↓reduceIte, Nat.reduceAdd, Nat.reduceSub, Nat.reduceMul, Nat.reduceLT, Nat.reduceLeDiff, Nat.reduceEqDiff, Int.reduceBEq, Int.reduceLT, Int.reduceNeg, gA3]
  refine (within_cv k24 rfl).mono ?_
  rintro r h4 nx4 ⟨rfl, rfl, rfl⟩
  obtain ⟨kk, hkk, hkn⟩ := wnF_nat (k := at_) (n := (N : Int))
  have hkN : kk < N := by have := hkn (by omega); omega
  rw [hkk]
  have slL : ∀ {h' : Hp} {nx' : Nat} {l : List Int}, l.length = N → bl < nx' → hget h' bl = some (.cells (ints l) false) → SlRd h' nx' (.slice (some ⟨bl, 0, some 1⟩) N N) encI l := fun {h' nx' l} hl hb hg => ⟨some ⟨bl, 0, some 1⟩, N, by rw [hl], fun _ => ⟨bl, some 1, false, hb, rfl, by rw [flat_ints]; exact hg⟩⟩
  have slP : ∀ {h' : Hp} {nx' : Nat} {l : List Int}, l.length = N → bp < nx' → hget h' bp = some (.cells (ints l) false) → SlRd h' nx' (.slice (some ⟨bp, 0, some 1⟩) N N) encI l := fun {h' nx' l} hl hb hg => ⟨some ⟨bp, 0, some 1⟩, N, by rw [hl], fun _ => ⟨bp, some 1, false, hb, rfl, by rw [flat_ints]; exact hg⟩⟩
  refine ⟨fun h0 => ?_, fun hne => ?_⟩
  · refine live_o ?_
    simp (disch := omega) only [SS, ↓reduceIte, Nat.reduceAdd, Nat.reduceSub, Nat.reduceMul, Nat.reduceLT, Nat.reduceLeDiff, Nat.reduceEqDiff, Int.reduceBEq, Int.reduceLT, Int.reduceNeg, gA3]
    refine (hchk_cv hv3 (slL hL.len (by omega) gL3) (slP hP.1 hbp2 hbp) hN hsr hgl hok hL hP).mono ?_
    rintro r h5 nx5 ⟨rfl, _⟩
    simp [TrueK]
  have hby0 : by_ ≠ 0 := by simpa using hne
  obtain ⟨x, hx⟩ := get_ex (l := L) (i := kk) (by rw [hL.len]; exact hkN)
  obtain ⟨y, hy⟩ := get_ex (l := Pp) (i := kk) (by rw [hP.1]; exact hkN)
  have hxr := hLr kk x hx
  have hyr : -1 ≤ y ∧ y < 1000000 := by
    rcases hP.2 kk y hy with ⟨e, _⟩ | ⟨e, he, _, e1, _⟩
    · omega
    · have := (hok e (List.mem_of_mem_take he)).1
      omega
  have hxo : i64ok x := ⟨by omega, by omega⟩
  have hyo : i64ok y := ⟨by omega, by omega⟩
  simp (disch := omega) only [SS, ↓reduceIte, Nat.reduceAdd, Nat.reduceSub, Nat.reduceMul, Nat.reduceLT, Nat.reduceLeDiff, Nat.reduceEqDiff, Int.reduceBEq, Int.reduceLT, Int.reduceNeg, gL3, ints_get hx, gA3]
  have hxn := wrap_ne2 hxo hby hby0
  have hyn := wrap_ne2 hyo hby hby0
  refine ⟨by rw [hL.len]; exact hkN, ?_⟩
  have hLs : ∀ z : Int, (L.set kk z).length = N := fun z => by rw [List.length_set, hL.len]
  have hPs : ∀ z : Int, (Pp.set kk z).length = N := fun z => by rw [List.length_set, hP.1]
  have hbn : bl ≠ bp := by
    intro e
    subst e
    omega
  have K4 : Keep nx1 h1 h4 := (((Keep.refl nx1 h1).set (Nat.le_refl _) |>.set (Nat.le_refl _)).trans hk2 (by omega)).trans hk3 (by omega)
  refine (hchk_cv (hgs.rd.keep (K4.set (show nx1 ≤ bl by omega)) (by omega)) (slL (hLs _) (by omega) (hnew _ _ _)) (slP hP.1 hbp2 ((hold (by omega)).trans hbp)) hN hsr hgl hok hL hP).mono ?_
  rintro r h5 nx5 ⟨rfl, hk5, hle5⟩
  have g1 := hk5 bl (by omega)
  have g2 := hk5 bp (by omega)
  have g3 := hk5 nx1 (by omega)
  rw [hnew] at g1
  rw [hold (by omega)] at g2 g3
  have hlk : (L.set kk (IntKind.wrap .i64 (x + by_)))[kk]? = some (IntKind.wrap .i64 (x + by_)) := by rw [List.getElem?_set, if_pos rfl, if_pos (by rw [hL.len]; exact hkN)]
  simp (disch := omega) only [SS, ↓reduceIte, Nat.reduceAdd, Nat.reduceSub, Nat.reduceMul, Nat.reduceLT, Nat.reduceLeDiff, Nat.reduceEqDiff, Int.reduceBEq, Int.reduceLT, Int.reduceNeg, g1, g2.trans hbp, ints_get hlk, ints_get hy, wrap_back hxo hby, List.set_set, set_same hx, decide_eq_false (set_ne hx hxn), Bool.false_and]
  refine ⟨by rw [hLs]; exact hkN, by rw [hP.1]; exact hkN, live_o ?_⟩
  simp (disch := omega) only [SS, ↓reduceIte, Nat.reduceAdd, Nat.reduceSub, Nat.reduceMul, Nat.reduceLT, Nat.reduceLeDiff, Nat.reduceEqDiff, Int.reduceBEq, Int.reduceLT, Int.reduceNeg, g3.trans gA3]
  refine (hchk_cv (hgs.rd.keep ((((K4.set (show nx1 ≤ bl by omega)).trans hk5 (by omega)).set (show nx1 ≤ bl by omega)).set (show nx1 ≤ bp by omega)) (by omega)) (slL hL.len (by omega) ((hold (by omega)).trans (hnew _ _ _))) (slP (hPs _) (by omega) (hnew _ _ _)) hN hsr hgl hok hL hP).mono ?_
  rintro r h6 nx6 ⟨rfl, _⟩
  simp (disch := omega) only [SS, ↓reduceIte, Nat.reduceAdd, Nat.reduceSub, Nat.reduceMul, Nat.reduceLT, Nat.reduceLeDiff, Nat.reduceEqDiff, Int.reduceBEq, Int.reduceLT, Int.reduceNeg, decide_eq_false (set_ne hy hyn), Bool.and_false]
  rfl
end Go.Proofs.YtenkechjalngcaaGreat

namespace Go.Proofs.YtenkechjalngcaaGreat
open Go Go.Ax
open Go.ChangeShapes Go.WideShapes Go.ChangeAt Go.RowKit
set_option maxRecDepth 1000000
set_option linter.unusedVariables false
set_option linter.unusedSimpArgs false
theorem O_ok : OrcOk Tryz.prog O := fun f g h => by
  unfold O at h
  cases h1 : Nat.beq f 27 with
  | true =>
    have e := Nat.eq_of_beq_eq_true h1
    subst e
    rw [h1] at h
    cases h
    exact live27_ok
  | false =>
    rw [h1] at h
    cases h2 : Nat.beq f 68 with
    | true =>
      have e := Nat.eq_of_beq_eq_true h2
      subst e
      rw [h2] at h
      cases h
      exact combF_ok
    | false => rw [h2] at h; cases h
theorem wf_bounds {n : Int} (h : (Lit.int .i64 n).wf = true) : i64ok n := by
  simp [Lit.wf, IntKind.min, IntKind.max, IntKind.signed, IntKind.bits] at h
  unfold i64ok
  omega
theorem walkHO {n V R C a1 a2 : Int} {sl : Value} {zs : List Edg3} {W : World} (hz : (zs = [] ∧ sl = .slice none 0 0) ∨ ∃ b off cap, sl = .slice (some ⟨b, off, none⟩) zs.length cap ∧ LiesAt W b off (flat enc3 zs)) (hw : (Lit.int .i64 a2).wf = true) :
    Calls Tryz.prog 6 #[.agg ⟨[.int .i64 n, sl, .int .i64 V, .int .u8 R, .int .u8 C]⟩, .int .i64 a1, .int .i64 a2] W fun e w' => e = .returned (.bool true) ∧ Below W.heap.size W w' := by
  obtain ⟨h1, h2, h3⟩ := in_one (e3 := enc3) (fun _ => rfl) hz
  exact callsIn_wide.1 (run_ok (n := 0) pok O_ok (honly_cv (n := n) (V := V) (R := R) (C := C) (at_ := a1) (by_ := a2) h3 (wf_bounds hw)) (in_rel h1) (in_fr _) (.cons (.agg (.cons (.int _ _) (.cons h2 (.cons (.int _ _) (.cons (.int _ _) (.cons (.int _ _) .nil)))))) (.cons (.int _ _) (.cons (.int _ _) .nil))))
end Go.Proofs.YtenkechjalngcaaGreat
