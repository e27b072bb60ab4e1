/- Parts of the proof: RkFn1: each statement bears its own conditions. -/
import Derived.Test.YtcjochjiegiliaaGreatRbFacts
namespace Go.Proofs.YtcjochjiegiliaaGreat
open Go Go.Ax
set_option linter.unusedVariables false
set_option linter.unusedSimpArgs false
set_option maxRecDepth 1000000
noncomputable abbrev Q : Program := Tryz.prog
noncomputable def O : Orc := fun f => bif Nat.beq f 21 then some gLive else bif Nat.beq f 82 then some (gTake (gRun Q 183)) else bif Nat.beq f 85 then some (gU32 (gRun Q 183) (gRun Q 184)) else none
def need0L : List (List Nat) := []
def need0k0 (s : Bool) (K : KC') (y0 y1 : Value) (h0 : Hp) (n0 : Nat) : Prop := RK (nilChk y0) fun x17 => RK (vFldA 0 x17) fun x18 => RK (vLd none h0 x18) fun x19 => RK (lenS x19) fun x20 => RK (nilChk y0) fun x21 => RK (vFldA 1 x21) fun x22 => RK (vLd none h0 x22) fun x23 => RK (bin Q .sub 3 x20 x23) fun x24 => RK (bin Q .gtr 3 y1 x24) fun x25 => IF x25 (RK (nilChk y0) fun x26 => RK (vFldA 0 x26) fun x27 => RK (vLd none h0 x27) fun x28 => RK (lenS x28) fun x29 => Cv Q orc0 s 336 [(.int .i64 2), x29] h0 n0 fun x30 h31 n32 => K (.tuple ⟨[]⟩) h31 n32) (K (.tuple ⟨[]⟩) h0 n0)
def need0k1 (s : Bool) (K : KC') (y0 y1 : Value) (h0 : Hp) (n0 : Nat) : Prop := RK (bin Q .lss 3 y1 (.int .i64 0)) fun x10 => IF x10 (RK (nilChk y0) fun x11 => RK (vFldA 1 x11) fun x12 => RK (vLd none h0 x12) fun x13 => Cv Q orc0 s 336 [(.int .i64 3), x13] h0 n0 fun x14 h15 n16 => (need0k0 s K y0 y1 h15 n16)) ((need0k0 s K y0 y1 h0 n0))
def need0k2 (s : Bool) (K : KC') (y0 y1 y13 : Value) (h0 : Hp) (n0 : Nat) : Prop := IF y13 (Cv Q orc0 s 336 [(.int .i64 10), (.int .i64 0)] h0 n0 fun x7 h8 n9 => (need0k1 s K y0 y1 h8 n9)) ((need0k1 s K y0 y1 h0 n0))
def need0 (s : Bool) (t0 t1 : Value) (h : Hp) (nx : Nat) (K : KC') : Prop := RK (bin Q .eql 149 t0 (.pointer none)) fun x1 => IF x1 ((need0k2 s K t0 t1 (.bool true) h nx)) (RK (nilChk t0) fun x2 => RK (vFldA 2 x2) fun x3 => RK (vFldA 0 x3) fun x4 => RK (vLd none h x4) fun x5 => RK (bin Q .neq 34 x5 (.int .i64 0)) fun x6 => (need0k2 s K t0 t1 x6 h nx))
theorem need0e {s : Bool} {t0 t1 : Value} {h : Hp} {nx : Nat} {K : KC'} : fF Q orc0 s need0L 269 [t0, t1] h nx K = need0 s t0 t1 h nx K := by kernel_rfl
theorem need0v {s : Bool} {t0 t1 : Value} {h : Hp} {nx : Nat} {K : KC'} (w : need0 s t0 t1 h nx K) : Cv Q orc0 s 269 [t0, t1] h nx K := Cv.byF need0L rfl (by rw [need0e]; exact w)
def next0L : List (List Nat) := []
def next0 (s : Bool) (t0 t1 : Value) (h : Hp) (nx : Nat) (K : KC') : Prop := Cv Q orc0 s 269 [t0, t1] h nx fun x1 h2 n3 => RK (nilChk t0) fun x4 => RK (vFldA 0 x4) fun x5 => RK (vLd none h2 x5) fun x6 => RK (nilChk t0) fun x7 => RK (vFldA 1 x7) fun x8 => RK (vLd none h2 x8) fun x9 => RK (nilChk t0) fun x10 => RK (vFldA 1 x10) fun x11 => RK (vLd none h2 x11) fun x12 => RK (bin Q .add 3 x12 t1) fun x13 => RK (vSl 1 x6 (some x9) (some x13) none) fun x14 => Cv Q orc0 true 181 [x14] h2 n3 fun x15 h16 n17 => n3 ≤ n17 ∧ RK (nilChk t0) fun x18 => RK (vFldA 1 x18) fun x19 => RK (vLd none h16 x19) fun x20 => RK (bin Q .add 3 x20 t1) fun x21 => RK (nilChk t0) fun x22 => RK (vFldA 1 x22) fun x23 => RK (vSt h16 1 x23 x21) fun h24 => K x15 h24 n17
theorem next0e {s : Bool} {t0 t1 : Value} {h : Hp} {nx : Nat} {K : KC'} : fF Q orc0 s next0L 183 [t0, t1] h nx K = next0 s t0 t1 h nx K := by kernel_rfl
theorem next0v {s : Bool} {t0 t1 : Value} {h : Hp} {nx : Nat} {K : KC'} (w : next0 s t0 t1 h nx K) : Cv Q orc0 s 183 [t0, t1] h nx K := Cv.byF next0L rfl (by rw [next0e]; exact w)
def num0L : List (List Nat) := [[3, 6, 7, 8]]
def num0l0 (s : Bool) (a3 a6 a7 a8 : Value) (h : Hp) (nx : Nat) (N : KVl) (e0 : KVl) (R : KVl) : Prop := RK (bin Q .lss 3 a8 a7) fun x5 => IF x5 (RK (vIx (.slice 1) a6 a8) fun x6 => RK (vLd none h x6) fun x7 => RK (oConv (.int .u64) x7) fun x8 => RK (oConv (.int .u64) a8) fun x9 => RK (bin Q .mul 236 (.int .u64 8) x9) fun x10 => RK (bin Q .shl 221 x8 x10) fun x11 => RK (bin Q .or 221 a3 x11) fun x12 => RK (bin Q .add 3 a8 (.int .i64 1)) fun x13 => N [x12, a6, a7, x13] h nx) (e0 [a3, a6, a7, a8] h nx)
def num0 (s : Bool) (t0 : Value) (h : Hp) (nx : Nat) (K : KC') : Prop := RK (lenS t0) fun x1 => Lp (fL Q orc0 s num0L 184 0) [(.int .u64 0), t0, x1, (.int .i64 0)] h nx [(0, fun v4 h2 n3 => RK (oConv (.int .u32) (nv v4 0)) fun x14 => K x14 h2 n3)] (fun _ _ _ => False)
theorem num0b0 {s : Bool} {a3 a6 a7 a8 : Value} {h : Hp} {nx : Nat} {N e0 R : KVl} : fL Q orc0 s num0L 184 0 [a3, a6, a7, a8] h nx N [(0, e0)] R = num0l0 s a3 a6 a7 a8 h nx N e0 R := by kernel_rfl
theorem num0e {s : Bool} {t0 : Value} {h : Hp} {nx : Nat} {K : KC'} : fF Q orc0 s num0L 184 [t0] h nx K = num0 s t0 h nx K := by kernel_rfl
theorem num0v {s : Bool} {t0 : Value} {h : Hp} {nx : Nat} {K : KC'} (w : num0 s t0 h nx K) : Cv Q orc0 s 184 [t0] h nx K := Cv.byF num0L rfl (by rw [num0e]; exact w)
def clone0L : List (List Nat) := []
def clone0 (s : Bool) (t0 : Value) (h : Hp) (nx : Nat) (K : KC') : Prop := RK (bin Q .eql 51 t0 (.slice none 0 0)) fun x1 => IF x1 (K (.slice none 0 0) h nx) (AR (vBsl 0 [] []) h nx fun p2 h3 n4 => EK (orR (appendA 1 h3 n4 p2 t0)) fun x5 h6 n7 => K x5 h6 n7)
theorem clone0e {s : Bool} {t0 : Value} {h : Hp} {nx : Nat} {K : KC'} : fF Q orc0 s clone0L 181 [t0] h nx K = clone0 s t0 h nx K := by kernel_rfl
theorem clone0v {s : Bool} {t0 : Value} {h : Hp} {nx : Nat} {K : KC'} (w : clone0 s t0 h nx K) : Cv Q orc0 s 181 [t0] h nx K := Cv.byF clone0L rfl (by rw [clone0e]; exact w)
def rbackL : List (List Nat) := []
def rbackk1 (s : Bool) (K : KC') (y1 : Value) (h0 : Hp) (n0 : Nat) : Prop := Cv Q O s 24 [y1] h0 n0 fun x48 h49 n50 => RK (oExtract x48 0) fun x51 => RK (oExtract x48 1) fun x52 => AR (.ok (.ptr (.cells [(.int .i64 0), (.int .i64 0)] false))) h49 n50 fun p53 h54 n55 => RK (vSt h54 2 p53 x52) fun h56 => RK (vFldA 0 p53) fun x57 => RK (vLd none h56 x57) fun x58 => RK (bin Q .neq 34 x58 (.int .i64 0)) fun x59 => IF x59 (Cv Q O s 21 [] h56 n55 fun x60 h61 n62 => IF x60 (RK (lenS x51) fun x63 => RK (bin Q .eql 3 x63 (.int .i64 0)) fun x64 => K x64 h61 n62) (K (.bool false) h61 n62)) (Cv Q O s 22 [x51] h56 n55 fun x65 h66 n67 => RK (oExtract x65 0) fun x68 => RK (oExtract x65 1) fun x69 => Cv Q O s 21 [] h66 n67 fun x70 h71 n72 => IF x70 (RK (bin Q .eql 34 x69 (.int .i64 0)) fun x73 => IF x73 (Cv Q O s 26 [x68, y1] h71 n72 fun x74 h75 n76 => K x74 h75 n76) (K (.bool false) h71 n72)) (K (.bool false) h71 n72))
def rbackk0 (s : Bool) (K : KC') (y1 y2 y7 y52 : Value) (h0 : Hp) (n0 : Nat) : Prop := IF y52 (K (.bool false) h0 n0) (RK (oConv (.int .i64) y2) fun x32 => RK (lenS y7) fun x33 => RK (bin Q .rem 3 x32 x33) fun x34 => RK (vSl 1 y7 none (some x34) none) fun x35 => Cv Q O s 24 [x35] h0 n0 fun x36 h37 n38 => RK (oExtract x36 0) fun x39 => RK (oExtract x36 1) fun x40 => AR (.ok (.ptr (.cells [(.int .i64 0), (.int .i64 0)] false))) h37 n38 fun p41 h42 n43 => RK (vSt h42 2 p41 x40) fun h44 => RK (vLd (some 2) h44 p41) fun x45 => RK (vBld [(.int .i64 0), (.int .i64 0)] [(0, 1, (.int .i64 2)), (1, 1, x34)]) fun x46 => RK (bin Q .neq 55 x45 x46) fun x47 => IF x47 (K (.bool false) h44 n43) ((rbackk1 s K y1 h44 n43)))
def rbackk2 (s : Bool) (K : KC') (y0 y1 y2 y25 : Value) (h0 : Hp) (n0 : Nat) : Prop := IF y25 (Cv Q O s 21 [] h0 n0 fun x5 h6 n7 => K x5 h6 n7) (Cv Q O s 22 [y0] h0 n0 fun x8 h9 n10 => RK (oExtract x8 0) fun x11 => RK (oExtract x8 1) fun x12 => RK (bin Q .eql 34 x12 (.int .i64 0)) fun x13 => IF x13 (Cv Q O s 24 [x11] h9 n10 fun x14 h15 n16 => RK (oExtract x14 0) fun x17 => RK (oExtract x14 1) fun x18 => AR (.ok (.ptr (.cells [(.int .i64 0), (.int .i64 0)] false))) h15 n16 fun p19 h20 n21 => RK (vSt h20 2 p19 x18) fun h22 => RK (vFldA 0 p19) fun x23 => RK (vLd none h22 x23) fun x24 => RK (bin Q .neq 34 x24 (.int .i64 0)) fun x25 => IF x25 ((rbackk0 s K y1 y2 x11 (.bool true) h22 n21)) (Cv Q O s 27 [y0, x17] h22 n21 fun x26 h27 n28 => RK (oUn .not x26) fun x29 => IF x29 ((rbackk0 s K y1 y2 x11 (.bool true) h27 n28)) (RK (lenS x11) fun x30 => RK (bin Q .eql 3 x30 (.int .i64 0)) fun x31 => (rbackk0 s K y1 y2 x11 x31 h27 n28)))) ((rbackk1 s K y1 h9 n10)))
def rback (s : Bool) (t0 t1 t2 : Value) (h : Hp) (nx : Nat) (K : KC') : Prop := RK (lenS t0) fun x1 => RK (bin Q .gtr 3 x1 (.int .i64 100)) fun x2 => IF x2 ((rbackk2 s K t0 t1 t2 (.bool true) h nx)) (RK (lenS t1) fun x3 => RK (bin Q .gtr 3 x3 (.int .i64 2000)) fun x4 => (rbackk2 s K t0 t1 t2 x4 h nx))
theorem rbacke {s : Bool} {t0 t1 t2 : Value} {h : Hp} {nx : Nat} {K : KC'} : fF Q O s rbackL 6 [t0, t1, t2] h nx K = rback s t0 t1 t2 h nx K := by kernel_rfl
theorem rbackv {s : Bool} {t0 t1 t2 : Value} {h : Hp} {nx : Nat} {K : KC'} (w : rback s t0 t1 t2 h nx K) : Cv Q O s 6 [t0, t1, t2] h nx K := Cv.byF rbackL rfl (by rw [rbacke]; exact w)
def plrightL : List (List Nat) := []
def plrightk0 (s : Bool) (K : KC') (y1 y18 : Value) (h0 : Hp) (n0 : Nat) : Prop := IF y18 (K (.bool false) h0 n0) (RK (vFldA 0 y1) fun x22 => RK (vLd none h0 x22) fun x23 => RK (bin Q .gtr 44 x23 (.int .i64 0)) fun x24 => IF x24 (RK (vFldA 0 y1) fun x25 => RK (vLd none h0 x25) fun x26 => RK (bin Q .leq 44 x26 (.int .i64 5)) fun x27 => K x27 h0 n0) (K (.bool false) h0 n0))
def plright (s : Bool) (t0 : Value) (h : Hp) (nx : Nat) (K : KC') : Prop := AR (cellsNB (vcells t0)) h nx fun p1 h2 n3 => RK (vFldA 1 p1) fun x4 => RK (vLd none h2 x4) fun x5 => Cv Q O s 70 [x5, (.int .i64 63)] h2 n3 fun x6 h7 n8 => RK (oUn .not x6) fun x9 => IF x9 ((plrightk0 s K p1 (.bool true) h7 n8)) (RK (vFldA 2 p1) fun x10 => RK (vLd none h7 x10) fun x11 => Cv Q O s 70 [x11, (.int .i64 63)] h7 n8 fun x12 h13 n14 => RK (oUn .not x12) fun x15 => IF x15 ((plrightk0 s K p1 (.bool true) h13 n14)) (RK (vFldA 3 p1) fun x16 => RK (vLd none h13 x16) fun x17 => Cv Q O s 70 [x17, (.int .i64 63)] h13 n14 fun x18 h19 n20 => RK (oUn .not x18) fun x21 => (plrightk0 s K p1 x21 h19 n20)))
theorem plrighte {s : Bool} {t0 : Value} {h : Hp} {nx : Nat} {K : KC'} : fF Q O s plrightL 19 [t0] h nx K = plright s t0 h nx K := by kernel_rfl
theorem plrightv {s : Bool} {t0 : Value} {h : Hp} {nx : Nat} {K : KC'} (w : plright s t0 h nx K) : Cv Q O s 19 [t0] h nx K := Cv.byF plrightL rfl (by rw [plrighte]; exact w)
def encL : List (List Nat) := []
def enc (s : Bool) (t0 : Value) (h : Hp) (nx : Nat) (K : KC') : Prop := RK (lenS t0) fun x1 => RK (bin Q .gtr 3 x1 (.int .i64 1048576)) fun x2 => IF x2 (K (.tuple ⟨[(.slice none 0 0), (.int .i64 5)]⟩) h nx) (Cv Q O s 68 [t0, (.func (.func 75) #[] #[])] h nx fun x3 h4 n5 => IF x3 (K (.tuple ⟨[(.slice none 0 0), (.int .i64 8)]⟩) h4 n5) (Cv Q O s 76 [t0, (.func (.func 77) #[] #[])] h4 n5 fun x6 h7 n8 => AR (vBsl 4 [(.int .u8 0), (.int .u8 0), (.int .u8 0), (.int .u8 0)] [(0, 1, (.int .u8 70)), (1, 1, (.int .u8 82)), (2, 1, (.int .u8 83)), (3, 1, (.int .u8 49))]) h7 n8 fun p9 h10 n11 => EK (oMark Q h10 n11 51 51 p9) fun x12 h13 n14 => RK (lenS t0) fun x15 => RK (oConv (.int .u32) x15) fun x16 => Cv Q O s 79 [x16] h13 n14 fun x17 h18 n19 => AR (vBsl 3 [(.slice none 0 0), (.slice none 0 0), (.slice none 0 0)] [(0, 1, x12), (1, 1, x17), (2, 1, x6)]) h18 n19 fun p20 h21 n22 => Cv Q O s 78 [p20] h21 n22 fun x23 h24 n25 => K (.tuple ⟨[x23, (.int .i64 0)]⟩) h24 n25))
theorem ence {s : Bool} {t0 : Value} {h : Hp} {nx : Nat} {K : KC'} : fF Q O s encL 22 [t0] h nx K = enc s t0 h nx K := by kernel_rfl
theorem encv {s : Bool} {t0 : Value} {h : Hp} {nx : Nat} {K : KC'} (w : enc s t0 h nx K) : Cv Q O s 22 [t0] h nx K := Cv.byF encL rfl (by rw [ence]; exact w)
def decL : List (List Nat) := [[3, 4, 6, 7]]
def deck0 (s : Bool) (N : KVl) (e0 : KVl) (R : KVl) (y3 y4 y6 y7 y40 : Value) (h0 : Hp) (n0 : Nat) : Prop := IF y40 (Cv Q O s 86 [y4] h0 n0 fun x38 h39 n40 => AR (vBsl 1 [(.int .i64 0), (.int .i64 0), (.int .i64 0), (.int .i64 0)] [(0, 4, x38)]) h39 n40 fun p41 h42 n43 => EK (orR (appendA 4 h42 n43 y7 p41)) fun x44 h45 n46 => N [y3, y4, y6, x44] h45 n46) (e0 [y3, y4, y6, y7] h0 n0)
def decl0 (s : Bool) (a3 a4 a6 a7 : Value) (h : Hp) (nx : Nat) (N : KVl) (e0 : KVl) (R : KVl) : Prop := RK (lenS a7) fun x31 => RK (bin Q .lss 3 x31 a6) fun x32 => IF x32 (Cv Q O s 83 [a4] h nx fun x33 h34 n35 => RK (cFld 0 none x33) fun x36 => RK (bin Q .eql 34 x36 (.int .i64 0)) fun x37 => (deck0 s N e0 R a3 a4 a6 a7 x37 h34 n35)) ((deck0 s N e0 R a3 a4 a6 a7 (.bool false) h nx))
def deck1 (s : Bool) (K : KC') (y3 y4 y7 : Value) (h0 : Hp) (n0 : Nat) : Prop := Cv Q O s 83 [y4] h0 n0 fun x57 h58 n59 => AR (.ok (.ptr (.cells [(.int .i64 0), (.int .i64 0)] false))) h58 n59 fun p60 h61 n62 => RK (vSt h61 2 p60 x57) fun h63 => RK (vFldA 0 p60) fun x64 => RK (vLd none h63 x64) fun x65 => RK (bin Q .neq 34 x65 (.int .i64 0)) fun x66 => IF x66 (RK (vLd (some 2) h63 p60) fun x67 => RK (vSt h63 2 y3 x67) fun h68 => RK (vLd (some 2) h68 y3) fun x69 => K (.tuple ⟨[(.slice none 0 0), x69]⟩) h68 n62) (RK (vBld [(.int .i64 0), (.int .i64 0)] []) fun x70 => RK (vSt h63 2 y3 x70) fun h71 => RK (vLd (some 2) h71 y3) fun x72 => K (.tuple ⟨[y7, x72]⟩) h71 n62)
def deck2 (s : Bool) (K : KC') (y3 y4 y6 : Value) (h0 : Hp) (n0 : Nat) : Prop := Lp (fL Q O s decL 24 0) [y3, y4, y6, (.slice none 0 0)] h0 n0 [(0, fun v30 h28 n29 => Cv Q O s 87 [(nv v30 1)] h28 n29 fun x47 h48 n49 => RK (bin Q .gtr 3 x47 (.int .i64 0)) fun x50 => IF x50 (Cv Q O s 88 [(nv v30 1)] h48 n49 fun x51 h52 n53 => Cv Q O s 84 [(nv v30 1), (.int .i64 4), x51] h52 n53 fun x54 h55 n56 => (deck1 s K (nv v30 0) (nv v30 1) (nv v30 3) h55 n56)) ((deck1 s K (nv v30 0) (nv v30 1) (nv v30 3) h48 n49)))] (fun _ _ _ => False)
def deck3 (s : Bool) (K : KC') (y3 y4 : Value) (h0 : Hp) (n0 : Nat) : Prop := Cv Q O s 85 [y4] h0 n0 fun x20 h21 n22 => RK (oConv (.int .i64) x20) fun x23 => RK (bin Q .gtr 3 x23 (.int .i64 1048576)) fun x24 => IF x24 (Cv Q O s 84 [y4, (.int .i64 5), (.int .i64 4)] h21 n22 fun x25 h26 n27 => (deck2 s K y3 y4 x23 h26 n27)) ((deck2 s K y3 y4 x23 h21 n22))
def deck4 (s : Bool) (K : KC') (y3 y4 y21 : Value) (h0 : Hp) (n0 : Nat) : Prop := IF y21 (Cv Q O s 84 [y4, (.int .i64 1), (.int .i64 0)] h0 n0 fun x17 h18 n19 => (deck3 s K y3 y4 h18 n19)) ((deck3 s K y3 y4 h0 n0))
def dec (s : Bool) (t0 : Value) (h : Hp) (nx : Nat) (K : KC') : Prop := AR (.ok (.ptr (.cells [(.int .i64 0), (.int .i64 0)] false))) h nx fun p1 h2 n3 => Cv Q O s 81 [t0] h2 n3 fun x4 h5 n6 => Cv Q O s 82 [x4, (.int .i64 4)] h5 n6 fun x7 h8 n9 => Cv Q O s 83 [x4] h8 n9 fun x10 h11 n12 => RK (cFld 0 none x10) fun x13 => RK (bin Q .eql 34 x13 (.int .i64 0)) fun x14 => IF x14 (RK (oStr Q h11 51 9 x7) fun x15 => RK (bin Q .neq 9 x15 (.string ⟨#[70, 82, 83, 49]⟩)) fun x16 => (deck4 s K p1 x4 x16 h11 n12)) ((deck4 s K p1 x4 (.bool false) h11 n12))
theorem decb0 {s : Bool} {a3 a4 a6 a7 : Value} {h : Hp} {nx : Nat} {N e0 R : KVl} : fL Q O s decL 24 0 [a3, a4, a6, a7] h nx N [(0, e0)] R = decl0 s a3 a4 a6 a7 h nx N e0 R := by kernel_rfl
theorem dece {s : Bool} {t0 : Value} {h : Hp} {nx : Nat} {K : KC'} : fF Q O s decL 24 [t0] h nx K = dec s t0 h nx K := by kernel_rfl
theorem decv {s : Bool} {t0 : Value} {h : Hp} {nx : Nat} {K : KC'} (w : dec s t0 h nx K) : Cv Q O s 24 [t0] h nx K := Cv.byF decL rfl (by rw [dece]; exact w)
def samebL : List (List Nat) := [[0, 1, 4, 5]]
def samebl0 (s : Bool) (a0 a1 a4 a5 : Value) (h : Hp) (nx : Nat) (N : KVl) (e0 : KVl) (R : KVl) : Prop := RK (lenS a0) fun x10 => RK (bin Q .lss 3 a5 x10) fun x11 => IF x11 (RK (vIx (.slice 1) a0 a5) fun x12 => RK (vLd none h x12) fun x13 => RK (vIx (.slice 1) a1 a5) fun x14 => RK (vLd none h x14) fun x15 => RK (bin Q .neq 5 x13 x15) fun x16 => IF x16 (R [a0, a1, (.bool false), a5] h nx) (RK (bin Q .add 3 a5 (.int .i64 1)) fun x17 => N [a0, a1, a4, x17] h nx)) (e0 [a0, a1, a4, a5] h nx)
def sameb (s : Bool) (t0 t1 : Value) (h : Hp) (nx : Nat) (K : KC') : Prop := RK (lenS t0) fun x1 => RK (lenS t1) fun x2 => RK (bin Q .neq 3 x1 x2) fun x3 => IF x3 (K (.bool false) h nx) (Lp (fL Q O s samebL 26 0) [t0, t1, (.bool false), (.int .i64 0)] h nx [(0, fun v6 h4 n5 => K (.bool true) h4 n5)] (fun v9 h7 n8 => K (nv v9 2) h7 n8))
theorem samebb0 {s : Bool} {a0 a1 a4 a5 : Value} {h : Hp} {nx : Nat} {N e0 R : KVl} : fL Q O s samebL 26 0 [a0, a1, a4, a5] h nx N [(0, e0)] R = samebl0 s a0 a1 a4 a5 h nx N e0 R := by kernel_rfl
theorem samebe {s : Bool} {t0 t1 : Value} {h : Hp} {nx : Nat} {K : KC'} : fF Q O s samebL 26 [t0, t1] h nx K = sameb s t0 t1 h nx K := by kernel_rfl
theorem samebv {s : Bool} {t0 t1 : Value} {h : Hp} {nx : Nat} {K : KC'} (w : sameb s t0 t1 h nx K) : Cv Q O s 26 [t0, t1] h nx K := Cv.byF samebL rfl (by rw [samebe]; exact w)
def samemL : List (List Nat) := [[0, 1, 4, 5]]
def sameml0 (s : Bool) (a0 a1 a4 a5 : Value) (h : Hp) (nx : Nat) (N : KVl) (e0 : KVl) (R : KVl) : Prop := RK (lenS a0) fun x10 => RK (bin Q .lss 3 a5 x10) fun x11 => IF x11 (RK (vIx (.slice 4) a0 a5) fun x12 => RK (vLd (some 4) h x12) fun x13 => RK (vIx (.slice 4) a1 a5) fun x14 => RK (vLd (some 4) h x14) fun x15 => RK (bin Q .neq 46 x13 x15) fun x16 => IF x16 (R [a0, a1, (.bool false), a5] h nx) (RK (bin Q .add 3 a5 (.int .i64 1)) fun x17 => N [a0, a1, a4, x17] h nx)) (e0 [a0, a1, a4, a5] h nx)
def samem (s : Bool) (t0 t1 : Value) (h : Hp) (nx : Nat) (K : KC') : Prop := RK (lenS t0) fun x1 => RK (lenS t1) fun x2 => RK (bin Q .neq 3 x1 x2) fun x3 => IF x3 (K (.bool false) h nx) (Lp (fL Q O s samemL 27 0) [t0, t1, (.bool false), (.int .i64 0)] h nx [(0, fun v6 h4 n5 => K (.bool true) h4 n5)] (fun v9 h7 n8 => K (nv v9 2) h7 n8))
theorem samemb0 {s : Bool} {a0 a1 a4 a5 : Value} {h : Hp} {nx : Nat} {N e0 R : KVl} : fL Q O s samemL 27 0 [a0, a1, a4, a5] h nx N [(0, e0)] R = sameml0 s a0 a1 a4 a5 h nx N e0 R := by kernel_rfl
theorem sameme {s : Bool} {t0 t1 : Value} {h : Hp} {nx : Nat} {K : KC'} : fF Q O s samemL 27 [t0, t1] h nx K = samem s t0 t1 h nx K := by kernel_rfl
theorem samemv {s : Bool} {t0 t1 : Value} {h : Hp} {nx : Nat} {K : KC'} (w : samem s t0 t1 h nx K) : Cv Q O s 27 [t0, t1] h nx K := Cv.byF samemL rfl (by rw [sameme]; exact w)
def contsML : List (List Nat) := []
def contsM (s : Bool) (t0 t1 : Value) (h : Hp) (nx : Nat) (K : KC') : Prop := Cv Q O s 168 [t0, t1] h nx fun x1 h2 n3 => RK (bin Q .geq 3 x1 (.int .i64 0)) fun x4 => K x4 h2 n3
theorem contsMe {s : Bool} {t0 t1 : Value} {h : Hp} {nx : Nat} {K : KC'} : fF Q O s contsML 68 [t0, t1] h nx K = contsM s t0 t1 h nx K := by kernel_rfl
theorem contsMv {s : Bool} {t0 t1 : Value} {h : Hp} {nx : Nat} {K : KC'} (w : contsM s t0 t1 h nx K) : Cv Q O s 68 [t0, t1] h nx K := Cv.byF contsML rfl (by rw [contsMe]; exact w)
def plwithinL : List (List Nat) := []
def plwithin (s : Bool) (t0 t1 : Value) (h : Hp) (nx : Nat) (K : KC') : Prop := RK (bin Q .geq 3 t0 (.int .i64 0)) fun x1 => IF x1 (RK (bin Q .leq 3 t0 t1) fun x2 => K x2 h nx) (K (.bool false) h nx)
theorem plwithine {s : Bool} {t0 t1 : Value} {h : Hp} {nx : Nat} {K : KC'} : fF Q O s plwithinL 70 [t0, t1] h nx K = plwithin s t0 t1 h nx K := by kernel_rfl
theorem plwithinv {s : Bool} {t0 t1 : Value} {h : Hp} {nx : Nat} {K : KC'} (w : plwithin s t0 t1 h nx K) : Cv Q O s 70 [t0, t1] h nx K := Cv.byF plwithinL rfl (by rw [plwithine]; exact w)
def enc1L : List (List Nat) := []
def enc1 (s : Bool) (t0 : Value) (h : Hp) (nx : Nat) (K : KC') : Prop := AR (cellsNB (vcells t0)) h nx fun p1 h2 n3 => RK (vLd (some 4) h2 p1) fun x4 => Cv Q O s 19 [x4] h2 n3 fun x5 h6 n7 => RK (oUn .not x5) fun x8 => K x8 h6 n7
theorem enc1e {s : Bool} {t0 : Value} {h : Hp} {nx : Nat} {K : KC'} : fF Q O s enc1L 75 [t0] h nx K = enc1 s t0 h nx K := by kernel_rfl
theorem enc1v {s : Bool} {t0 : Value} {h : Hp} {nx : Nat} {K : KC'} (w : enc1 s t0 h nx K) : Cv Q O s 75 [t0] h nx K := Cv.byF enc1L rfl (by rw [enc1e]; exact w)
def writtenL : List (List Nat) := [[1, 5, 8, 9, 10]]
def writtenl0 (s : Bool) (a1 a5 a8 a9 a10 : Value) (h : Hp) (nx : Nat) (N : KVl) (e0 : KVl) (R : KVl) : Prop := RK (bin Q .lss 3 a10 a9) fun x5 => IF x5 (RK (vIx (.slice 4) a8 a10) fun x6 => RK (vLd (some 4) h x6) fun x7 => AR (.ok (.ptr (.cells [(.int .i64 0), (.int .i64 0), (.int .i64 0), (.int .i64 0)] false))) h nx fun p8 h9 n10 => RK (vSt h9 4 p8 x7) fun h11 => RK (vLd (some 4) h11 p8) fun x12 => CVK Q O s (callV h11 n10 [x12] a1) fun x13 h14 n15 => EK (orR (appendA 1 h14 n15 a5 x13)) fun x16 h17 n18 => RK (bin Q .add 3 a10 (.int .i64 1)) fun x19 => N [a1, x16, a8, a9, x19] h17 n18) (e0 [a1, a5, a8, a9, a10] h nx)
def written (s : Bool) (t0 t1 : Value) (h : Hp) (nx : Nat) (K : KC') : Prop := RK (lenS t0) fun x1 => Lp (fL Q O s writtenL 76 0) [t1, (.slice none 0 0), t0, x1, (.int .i64 0)] h nx [(0, fun v4 h2 n3 => K (nv v4 1) h2 n3)] (fun _ _ _ => False)
theorem writtenb0 {s : Bool} {a1 a5 a8 a9 a10 : Value} {h : Hp} {nx : Nat} {N e0 R : KVl} : fL Q O s writtenL 76 0 [a1, a5, a8, a9, a10] h nx N [(0, e0)] R = writtenl0 s a1 a5 a8 a9 a10 h nx N e0 R := by kernel_rfl
theorem writtene {s : Bool} {t0 t1 : Value} {h : Hp} {nx : Nat} {K : KC'} : fF Q O s writtenL 76 [t0, t1] h nx K = written s t0 t1 h nx K := by kernel_rfl
theorem writtenv {s : Bool} {t0 t1 : Value} {h : Hp} {nx : Nat} {K : KC'} (w : written s t0 t1 h nx K) : Cv Q O s 76 [t0, t1] h nx K := Cv.byF writtenL rfl (by rw [writtene]; exact w)
def enc2L : List (List Nat) := []
def enc2 (s : Bool) (t0 : Value) (h : Hp) (nx : Nat) (K : KC') : Prop := AR (cellsNB (vcells t0)) h nx fun p1 h2 n3 => RK (vFldA 0 p1) fun x4 => RK (vLd none h2 x4) fun x5 => RK (oConv (.int .u8) x5) fun x6 => RK (vFldA 1 p1) fun x7 => RK (vLd none h2 x7) fun x8 => RK (oConv (.int .u8) x8) fun x9 => RK (vFldA 2 p1) fun x10 => RK (vLd none h2 x10) fun x11 => RK (oConv (.int .u8) x11) fun x12 => RK (vFldA 3 p1) fun x13 => RK (vLd none h2 x13) fun x14 => RK (oConv (.int .u8) x14) fun x15 => AR (vBsl 4 [(.int .u8 0), (.int .u8 0), (.int .u8 0), (.int .u8 0)] [(0, 1, x6), (1, 1, x9), (2, 1, x12), (3, 1, x15)]) h2 n3 fun p16 h17 n18 => K p16 h17 n18
theorem enc2e {s : Bool} {t0 : Value} {h : Hp} {nx : Nat} {K : KC'} : fF Q O s enc2L 77 [t0] h nx K = enc2 s t0 h nx K := by kernel_rfl
theorem enc2v {s : Bool} {t0 : Value} {h : Hp} {nx : Nat} {K : KC'} (w : enc2 s t0 h nx K) : Cv Q O s 77 [t0] h nx K := Cv.byF enc2L rfl (by rw [enc2e]; exact w)
def concbL : List (List Nat) := [[0, 3, 9, 10, 11], [6, 25, 26, 27]]
def concbl0 (s : Bool) (a0 a3 a9 a10 a11 : Value) (h : Hp) (nx : Nat) (N : KVl) (e0 : KVl) (R : KVl) : Prop := RK (bin Q .lss 3 a11 a10) fun x5 => IF x5 (RK (vIx (.slice 1) a9 a11) fun x6 => RK (vLd none h x6) fun x7 => RK (lenS x7) fun x8 => RK (bin Q .add 3 a3 x8) fun x9 => RK (bin Q .lss 3 x9 (.int .i64 0)) fun x10 => IF x10 (RK (.ok (Value.iface 9 (.string ⟨#[108, 101, 110, 32, 111, 117, 116, 32, 111, 102, 32, 114, 97, 110, 103, 101]⟩))) fun x11 => False) (RK (bin Q .add 3 a11 (.int .i64 1)) fun x12 => N [a0, x9, a9, a10, x12] h nx)) (e0 [a0, a3, a9, a10, a11] h nx)
def concbl1 (s : Bool) (a6 a25 a26 a27 : Value) (h : Hp) (nx : Nat) (N : KVl) (e2 : KVl) (R : KVl) : Prop := RK (bin Q .lss 3 a27 a26) fun x20 => IF x20 (RK (vIx (.slice 1) a25 a27) fun x21 => RK (vLd none h x21) fun x22 => EK (orR (appendA 1 h nx a6 x22)) fun x23 h24 n25 => RK (bin Q .add 3 a27 (.int .i64 1)) fun x26 => N [x23, a25, a26, x26] h24 n25) (e2 [a6, a25, a26, a27] h nx)
def concb (s : Bool) (t0 : Value) (h : Hp) (nx : Nat) (K : KC') : Prop := RK (lenS t0) fun x1 => Lp (fL Q O s concbL 78 0) [t0, (.int .i64 0), t0, x1, (.int .i64 0)] h nx [(0, fun v4 h2 n3 => Cv Q O s 178 [(.slice none 0 0), (nv v4 1)] h2 n3 fun x13 h14 n15 => RK (lenS (nv v4 0)) fun x16 => Lp (fL Q O s concbL 78 1) [x13, (nv v4 0), x16, (.int .i64 0)] h14 n15 [(2, fun v19 h17 n18 => K (nv v19 0) h17 n18)] (fun _ _ _ => False))] (fun _ _ _ => False)
theorem concbb0 {s : Bool} {a0 a3 a9 a10 a11 : Value} {h : Hp} {nx : Nat} {N e0 R : KVl} : fL Q O s concbL 78 0 [a0, a3, a9, a10, a11] h nx N [(0, e0)] R = concbl0 s a0 a3 a9 a10 a11 h nx N e0 R := by kernel_rfl
theorem concbb1 {s : Bool} {a6 a25 a26 a27 : Value} {h : Hp} {nx : Nat} {N e2 R : KVl} : fL Q O s concbL 78 1 [a6, a25, a26, a27] h nx N [(2, e2)] R = concbl1 s a6 a25 a26 a27 h nx N e2 R := by kernel_rfl
theorem concbe {s : Bool} {t0 : Value} {h : Hp} {nx : Nat} {K : KC'} : fF Q O s concbL 78 [t0] h nx K = concb s t0 h nx K := by kernel_rfl
theorem concbv {s : Bool} {t0 : Value} {h : Hp} {nx : Nat} {K : KC'} (w : concb s t0 h nx K) : Cv Q O s 78 [t0] h nx K := Cv.byF concbL rfl (by rw [concbe]; exact w)
def growbL : List (List Nat) := []
def growb (s : Bool) (t0 t1 : Value) (h : Hp) (nx : Nat) (K : KC') : Prop := RK (bin Q .lss 3 t1 (.int .i64 0)) fun x1 => IF x1 (RK (.ok (Value.iface 9 (.string ⟨#[99, 97, 110, 110, 111, 116, 32, 98, 101, 32, 110, 101, 103, 97, 116, 105, 118, 101]⟩))) fun x2 => False) (RK (vCap Q (.builtin .cap) [51] [t0]) fun x3 => RK (lenS t0) fun x4 => RK (bin Q .sub 3 x3 x4) fun x5 => RK (bin Q .sub 3 t1 x5) fun x6 => RK (bin Q .gtr 3 x6 (.int .i64 0)) fun x7 => IF x7 (RK (vCap Q (.builtin .cap) [51] [t0]) fun x8 => RK (vSl 1 t0 none (some x8) none) fun x9 => EK (orR (builtinA Q .append [51, 3] h nx [x9, x6])) fun x10 h11 n12 => RK (lenS t0) fun x13 => RK (vSl 1 x10 none (some x13) none) fun x14 => K x14 h11 n12) (K t0 h nx))
theorem growbe {s : Bool} {t0 t1 : Value} {h : Hp} {nx : Nat} {K : KC'} : fF Q O s growbL 178 [t0, t1] h nx K = growb s t0 t1 h nx K := by kernel_rfl
theorem growbv {s : Bool} {t0 t1 : Value} {h : Hp} {nx : Nat} {K : KC'} (w : growb s t0 t1 h nx K) : Cv Q O s 178 [t0, t1] h nx K := Cv.byF growbL rfl (by rw [growbe]; exact w)
def put32L : List (List Nat) := []
def put32 (s : Bool) (t0 : Value) (h : Hp) (nx : Nat) (K : KC') : Prop := RK (oConv (.int .u64) t0) fun x1 => Cv Q O s 179 [x1, (.int .i64 4)] h nx fun x2 h3 n4 => K x2 h3 n4
theorem put32e {s : Bool} {t0 : Value} {h : Hp} {nx : Nat} {K : KC'} : fF Q O s put32L 79 [t0] h nx K = put32 s t0 h nx K := by kernel_rfl
theorem put32v {s : Bool} {t0 : Value} {h : Hp} {nx : Nat} {K : KC'} (w : put32 s t0 h nx K) : Cv Q O s 79 [t0] h nx K := Cv.byF put32L rfl (by rw [put32e]; exact w)
def opnL : List (List Nat) := []
def opn (s : Bool) (t0 : Value) (h : Hp) (nx : Nat) (K : KC') : Prop := Cv Q O s 181 [t0] h nx fun x1 h2 n3 => RK (vBld [(.slice none 0 0), (.int .i64 0), (.int .i64 0), (.int .i64 0)] [(0, 1, x1)]) fun x4 => AR (cellsNB (vcells x4)) h2 n3 fun p5 h6 n7 => K p5 h6 n7
theorem opne {s : Bool} {t0 : Value} {h : Hp} {nx : Nat} {K : KC'} : fF Q O s opnL 81 [t0] h nx K = opn s t0 h nx K := by kernel_rfl
theorem opnv {s : Bool} {t0 : Value} {h : Hp} {nx : Nat} {K : KC'} (w : opn s t0 h nx K) : Cv Q O s 81 [t0] h nx K := Cv.byF opnL rfl (by rw [opne]; exact w)
def faultrL : List (List Nat) := []
def faultr (s : Bool) (t0 : Value) (h : Hp) (nx : Nat) (K : KC') : Prop := AR (.ok (.ptr (.cells [(.int .i64 0), (.int .i64 0)] false))) h nx fun p1 h2 n3 => RK (bin Q .eql 149 t0 (.pointer none)) fun x4 => IF x4 (RK (vBld [(.int .i64 0), (.int .i64 0)] []) fun x5 => RK (vSt h2 2 p1 x5) fun h6 => RK (vLd (some 2) h6 p1) fun x7 => K x7 h6 n3) (RK (nilChk t0) fun x8 => RK (vFldA 2 x8) fun x9 => RK (vLd (some 2) h2 x9) fun x10 => RK (vSt h2 2 p1 x10) fun h11 => RK (vLd (some 2) h11 p1) fun x12 => K x12 h11 n3)
theorem faultre {s : Bool} {t0 : Value} {h : Hp} {nx : Nat} {K : KC'} : fF Q O s faultrL 83 [t0] h nx K = faultr s t0 h nx K := by kernel_rfl
theorem faultrv {s : Bool} {t0 : Value} {h : Hp} {nx : Nat} {K : KC'} (w : faultr s t0 h nx K) : Cv Q O s 83 [t0] h nx K := Cv.byF faultrL rfl (by rw [faultre]; exact w)
def failrL : List (List Nat) := []
def failrk0 (s : Bool) (K : KC') (y0 y1 y2 y19 : Value) (h0 : Hp) (n0 : Nat) : Prop := IF y19 (RK (vBld [(.int .i64 0), (.int .i64 0)] [(0, 1, y1), (1, 1, y2)]) fun x8 => RK (nilChk y0) fun x9 => RK (vFldA 2 x9) fun x10 => RK (vSt h0 2 x10 x8) fun h11 => K (.tuple ⟨[]⟩) h11 n0) (K (.tuple ⟨[]⟩) h0 n0)
def failr (s : Bool) (t0 t1 t2 : Value) (h : Hp) (nx : Nat) (K : KC') : Prop := RK (bin Q .neq 149 t0 (.pointer none)) fun x1 => IF x1 (RK (nilChk t0) fun x2 => RK (vFldA 2 x2) fun x3 => RK (vFldA 0 x3) fun x4 => RK (vLd none h x4) fun x5 => RK (bin Q .eql 34 x5 (.int .i64 0)) fun x6 => IF x6 (RK (bin Q .neq 34 t1 (.int .i64 0)) fun x7 => (failrk0 s K t0 t1 t2 x7 h nx)) ((failrk0 s K t0 t1 t2 (.bool false) h nx))) ((failrk0 s K t0 t1 t2 (.bool false) h nx))
theorem failre {s : Bool} {t0 t1 t2 : Value} {h : Hp} {nx : Nat} {K : KC'} : fF Q O s failrL 84 [t0, t1, t2] h nx K = failr s t0 t1 t2 h nx K := by kernel_rfl
theorem failrv {s : Bool} {t0 t1 t2 : Value} {h : Hp} {nx : Nat} {K : KC'} (w : failr s t0 t1 t2 h nx K) : Cv Q O s 84 [t0, t1, t2] h nx K := Cv.byF failrL rfl (by rw [failre]; exact w)
def readmL : List (List Nat) := []
def readm (s : Bool) (t0 : Value) (h : Hp) (nx : Nat) (K : KC') : Prop := AR (.ok (.ptr (.cells [(.int .i64 0), (.int .i64 0), (.int .i64 0), (.int .i64 0)] false))) h nx fun p1 h2 n3 => Cv Q O s 88 [t0] h2 n3 fun x4 h5 n6 => Cv Q O s 82 [t0, (.int .i64 4)] h5 n6 fun x7 h8 n9 => RK (lenS x7) fun x10 => RK (bin Q .lss 3 x10 (.int .i64 4)) fun x11 => IF x11 (RK (vBld [(.int .i64 0), (.int .i64 0), (.int .i64 0), (.int .i64 0)] []) fun x12 => RK (vSt h8 4 p1 x12) fun h13 => RK (vLd (some 4) h13 p1) fun x14 => K x14 h13 n9) (RK (vIx (.slice 1) x7 (.int .i64 0)) fun x15 => RK (vLd none h8 x15) fun x16 => RK (oConv (.int .i64) x16) fun x17 => RK (vIx (.slice 1) x7 (.int .i64 1)) fun x18 => RK (vLd none h8 x18) fun x19 => RK (oConv (.int .i64) x19) fun x20 => RK (vIx (.slice 1) x7 (.int .i64 2)) fun x21 => RK (vLd none h8 x21) fun x22 => RK (oConv (.int .i64) x22) fun x23 => RK (vIx (.slice 1) x7 (.int .i64 3)) fun x24 => RK (vLd none h8 x24) fun x25 => RK (oConv (.int .i64) x25) fun x26 => RK (vBld [(.int .i64 0), (.int .i64 0), (.int .i64 0), (.int .i64 0)] [(0, 1, x17), (1, 1, x20), (2, 1, x23), (3, 1, x26)]) fun x27 => AR (.ok (.ptr (.cells [(.int .i64 0), (.int .i64 0), (.int .i64 0), (.int .i64 0)] false))) h8 n9 fun p28 h29 n30 => RK (vSt h29 4 p28 x27) fun h31 => RK (vLd (some 4) h31 p28) fun x32 => Cv Q O s 19 [x32] h31 n30 fun x33 h34 n35 => RK (oUn .not x33) fun x36 => IF x36 (Cv Q O s 84 [t0, (.int .i64 8), x4] h34 n35 fun x37 h38 n39 => RK (vLd (some 4) h38 p28) fun x43 => RK (vSt h38 4 p1 x43) fun h44 => RK (vLd (some 4) h44 p1) fun x45 => K x45 h44 n39) (RK (vLd (some 4) h34 p28) fun x46 => RK (vSt h34 4 p1 x46) fun h47 => RK (vLd (some 4) h47 p1) fun x48 => K x48 h47 n35))
theorem readme {s : Bool} {t0 : Value} {h : Hp} {nx : Nat} {K : KC'} : fF Q O s readmL 86 [t0] h nx K = readm s t0 h nx K := by kernel_rfl
theorem readmv {s : Bool} {t0 : Value} {h : Hp} {nx : Nat} {K : KC'} (w : readm s t0 h nx K) : Cv Q O s 86 [t0] h nx K := Cv.byF readmL rfl (by rw [readme]; exact w)
def leftrL : List (List Nat) := []
def leftrk0 (s : Bool) (K : KC') (y0 y12 : Value) (h0 : Hp) (n0 : Nat) : Prop := IF y12 (K (.int .i64 0) h0 n0) (RK (nilChk y0) fun x7 => RK (vFldA 0 x7) fun x8 => RK (vLd none h0 x8) fun x9 => RK (lenS x9) fun x10 => RK (nilChk y0) fun x11 => RK (vFldA 1 x11) fun x12 => RK (vLd none h0 x12) fun x13 => RK (bin Q .sub 3 x10 x13) fun x14 => K x14 h0 n0)
def leftr (s : Bool) (t0 : Value) (h : Hp) (nx : Nat) (K : KC') : Prop := RK (bin Q .eql 149 t0 (.pointer none)) fun x1 => IF x1 ((leftrk0 s K t0 (.bool true) h nx)) (RK (nilChk t0) fun x2 => RK (vFldA 2 x2) fun x3 => RK (vFldA 0 x3) fun x4 => RK (vLd none h x4) fun x5 => RK (bin Q .neq 34 x5 (.int .i64 0)) fun x6 => (leftrk0 s K t0 x6 h nx))
theorem leftre {s : Bool} {t0 : Value} {h : Hp} {nx : Nat} {K : KC'} : fF Q O s leftrL 87 [t0] h nx K = leftr s t0 h nx K := by kernel_rfl
theorem leftrv {s : Bool} {t0 : Value} {h : Hp} {nx : Nat} {K : KC'} (w : leftr s t0 h nx K) : Cv Q O s 87 [t0] h nx K := Cv.byF leftrL rfl (by rw [leftre]; exact w)
def atrL : List (List Nat) := []
def atr (s : Bool) (t0 : Value) (h : Hp) (nx : Nat) (K : KC') : Prop := RK (bin Q .eql 149 t0 (.pointer none)) fun x1 => IF x1 (K (.int .i64 0) h nx) (RK (nilChk t0) fun x2 => RK (vFldA 1 x2) fun x3 => RK (vLd none h x3) fun x4 => K x4 h nx)
theorem atre {s : Bool} {t0 : Value} {h : Hp} {nx : Nat} {K : KC'} : fF Q O s atrL 88 [t0] h nx K = atr s t0 h nx K := by kernel_rfl
theorem atrv {s : Bool} {t0 : Value} {h : Hp} {nx : Nat} {K : KC'} (w : atr s t0 h nx K) : Cv Q O s 88 [t0] h nx K := Cv.byF atrL rfl (by rw [atre]; exact w)
def bytesnL : List (List Nat) := [[0, 5, 10, 11]]
def bytesnl0 (s : Bool) (a0 a5 a10 a11 : Value) (h : Hp) (nx : Nat) (N : KVl) (e0 : KVl) (R : KVl) : Prop := RK (bin Q .lss 3 a11 a10) fun x8 => IF x8 (RK (oConv (.int .u64) a11) fun x9 => RK (bin Q .mul 236 (.int .u64 8) x9) fun x10 => RK (bin Q .shr 221 a0 x10) fun x11 => RK (oConv (.int .u8) x11) fun x12 => RK (vIx (.slice 1) a5 a11) fun x13 => RK (vSt h 1 x13 x12) fun h14 => RK (bin Q .add 3 a11 (.int .i64 1)) fun x15 => N [a0, a5, a10, x15] h14 nx) (e0 [a0, a5, a10, a11] h nx)
def bytesn (s : Bool) (t0 t1 : Value) (h : Hp) (nx : Nat) (K : KC') : Prop := AR (vMks [(.int .u8 0)] t1 t1) h nx fun p1 h2 n3 => RK (lenS p1) fun x4 => Lp (fL Q O s bytesnL 179 0) [t0, p1, x4, (.int .i64 0)] h2 n3 [(0, fun v7 h5 n6 => K (nv v7 1) h5 n6)] (fun _ _ _ => False)
theorem bytesnb0 {s : Bool} {a0 a5 a10 a11 : Value} {h : Hp} {nx : Nat} {N e0 R : KVl} : fL Q O s bytesnL 179 0 [a0, a5, a10, a11] h nx N [(0, e0)] R = bytesnl0 s a0 a5 a10 a11 h nx N e0 R := by kernel_rfl
theorem bytesne {s : Bool} {t0 t1 : Value} {h : Hp} {nx : Nat} {K : KC'} : fF Q O s bytesnL 179 [t0, t1] h nx K = bytesn s t0 t1 h nx K := by kernel_rfl
theorem bytesnv {s : Bool} {t0 t1 : Value} {h : Hp} {nx : Nat} {K : KC'} (w : bytesn s t0 t1 h nx K) : Cv Q O s 179 [t0, t1] h nx K := Cv.byF bytesnL rfl (by rw [bytesne]; exact w)
def clonebL : List (List Nat) := []
def cloneb (s : Bool) (t0 : Value) (h : Hp) (nx : Nat) (K : KC') : Prop := RK (bin Q .eql 51 t0 (.slice none 0 0)) fun x1 => IF x1 (K (.slice none 0 0) h nx) (AR (vBsl 0 [] []) h nx fun p2 h3 n4 => EK (orR (appendA 1 h3 n4 p2 t0)) fun x5 h6 n7 => K x5 h6 n7)
theorem clonebe {s : Bool} {t0 : Value} {h : Hp} {nx : Nat} {K : KC'} : fF Q O s clonebL 181 [t0] h nx K = cloneb s t0 h nx K := by kernel_rfl
theorem clonebv {s : Bool} {t0 : Value} {h : Hp} {nx : Nat} {K : KC'} (w : cloneb s t0 h nx K) : Cv Q O s 181 [t0] h nx K := Cv.byF clonebL rfl (by rw [clonebe]; exact w)
def indexML : List (List Nat) := [[0, 1, 4, 7, 8]]
def indexMl0 (s : Bool) (a0 a1 a4 a7 a8 : Value) (h : Hp) (nx : Nat) (N : KVl) (e0 : KVl) (R : KVl) : Prop := RK (bin Q .lss 3 a8 a7) fun x8 => IF x8 (RK (vIx (.slice 4) a0 a8) fun x9 => RK (vLd (some 4) h x9) fun x10 => CVK Q O s (callV h nx [x10] a1) fun x11 h12 n13 => IF x11 (R [a0, a1, a8, a7, a8] h12 n13) (RK (bin Q .add 3 a8 (.int .i64 1)) fun x14 => N [a0, a1, a4, a7, x14] h12 n13)) (e0 [a0, a1, a4, a7, a8] h nx)
def indexM (s : Bool) (t0 t1 : Value) (h : Hp) (nx : Nat) (K : KC') : Prop := RK (lenS t0) fun x1 => Lp (fL Q O s indexML 168 0) [t0, t1, (.int .i64 0), x1, (.int .i64 0)] h nx [(0, fun v4 h2 n3 => K (.int .i64 (-1)) h2 n3)] (fun v7 h5 n6 => K (nv v7 2) h5 n6)
theorem indexMb0 {s : Bool} {a0 a1 a4 a7 a8 : Value} {h : Hp} {nx : Nat} {N e0 R : KVl} : fL Q O s indexML 168 0 [a0, a1, a4, a7, a8] h nx N [(0, e0)] R = indexMl0 s a0 a1 a4 a7 a8 h nx N e0 R := by kernel_rfl
theorem indexMe {s : Bool} {t0 t1 : Value} {h : Hp} {nx : Nat} {K : KC'} : fF Q O s indexML 168 [t0, t1] h nx K = indexM s t0 t1 h nx K := by kernel_rfl
theorem indexMv {s : Bool} {t0 t1 : Value} {h : Hp} {nx : Nat} {K : KC'} (w : indexM s t0 t1 h nx K) : Cv Q O s 168 [t0, t1] h nx K := Cv.byF indexML rfl (by rw [indexMe]; exact w)
def SlPx {α : Type} (h : Hp) (nx : Nat) (v : Value) (enc : α → List Value) (l : List α) : Prop :=
 ∃ a cap, v = .slice a l.length cap ∧ (l ≠ [] → ∃ b sp ro cs, b < nx ∧ a = some ⟨b, 0, sp⟩ ∧ hget h b = some (.cells (flat enc l ++ cs) ro))
section
variable {α : Type} {h h' : Hp} {nx nx' : Nat} {v : Value} {enc : α → List Value} {l : List α}
theorem SlPx.keep (hs : SlPx h nx v enc l) (hk : Keep nx h h') (hle : nx ≤ nx') : SlPx h' nx' v enc l := by
 obtain ⟨a, cap, hv, hc⟩ := hs
 refine ⟨a, cap, hv, fun hl => ?_⟩
 obtain ⟨b, sp, ro, cs, hb, ha, hg⟩ := hc hl
 exact ⟨b, sp, ro, cs, by omega, ha, by rw [hk b hb]; exact hg⟩
theorem SlPx.of (hs : SlRd h nx v enc l) : SlPx h nx v enc l := by
 obtain ⟨a, cap, hv, hc⟩ := hs
 refine ⟨a, cap, hv, fun hl => ?_⟩
 obtain ⟨b, sp, ro, hb, ha, hg⟩ := hc hl
 exact ⟨b, sp, ro, [], hb, ha, by rw [List.append_nil]; exact hg⟩
theorem SlPx.at (hs : SlPx h nx v enc l) {i : Nat} {x : α} (hx : l[i]? = some x) :
  i < l.length ∧ ∃ b sp ro cap cs, b < nx ∧ v = .slice (some ⟨b, 0, sp⟩) l.length cap ∧ hget h b = some (.cells (flat enc l ++ cs) ro) := by
 have hi := (List.getElem?_eq_some_iff.1 hx).1
 obtain ⟨a, cap, hv, hc⟩ := hs
 obtain ⟨b, sp, ro, cs, hb, rfl, hg⟩ := hc (fun e => by rw [e] at hi; exact absurd hi (Nat.not_lt_zero _))
 exact ⟨hi, b, sp, ro, cap, cs, hb, hv, hg⟩
end
def EqK (v : Value) (nx : Nat) (h : Hp) : KC' := fun r h' nx' => r = v ∧ Keep nx h h' ∧ nx ≤ nx'
def inB (n m : Int) : Bool := decide (0 ≤ n ∧ n ≤ m)
theorem inB_t {n m : Int} (h : 0 ≤ n ∧ n ≤ m) : inB n m = true := decide_eq_true h
theorem inB_f {n m : Int} (h : ¬ (0 ≤ n ∧ n ≤ m)) : inB n m = false := decide_eq_false h
theorem plwithin_c {s : Bool} {n m : Int} {h : Hp} {nx : Nat} : Cv Q O s 70 [.int .i64 n, .int .i64 m] h nx (fun r h' nx' => r = .bool (inB n m) ∧ h' = h ∧ nx' = nx) := by
 refine plwithinv ?_
 unfold plwithin
 simp (disch := omega) only [SS, ↓reduceIte, Nat.reduceAdd, Nat.reduceSub, Nat.reduceMul, Nat.reduceLT, Nat.reduceLeDiff, Nat.reduceEqDiff, Int.reduceBEq, Int.reduceLT, Int.reduceNeg]
 refine ⟨fun h0 => ?_, fun h0 => by rw [inB_f (by omega)]⟩
 by_cases h1 : m < n
 ·rw [decide_eq_true h1, inB_f (by omega)]; rfl
 ·rw [decide_eq_false h1, inB_t (by omega)]; rfl
def IxJ {α : Type} (p : α → Bool) (l : List α) (v fv : Value) (nx : Nat) (h : Hp) (m : Nat) (vs : List Value) (h' : Hp) (nx' : Nat) : Prop := ∃ i, m = l.length - i ∧ i ≤ l.length ∧ vs = [v, fv, .int .i64 0, .int .i64 (l.length : Int), .int .i64 (i : Int)] ∧ Keep nx h h' ∧ nx ≤ nx' ∧ ∀ x ∈ l.take i, p x = false
theorem take_s {α : Type} {p : α → Bool} {l : List α} {i : Nat} {x : α} (hx : l[i]? = some x) (h : ∀ y ∈ l.take i, p y = false) (hp : p x = false) : ∀ y ∈ l.take (i + 1), p y = false := fun y hy => by
 rw [List.take_add_one, hx] at hy
 rcases List.mem_append.1 hy with hy | hy
 ·exact h y hy
 ·have : y = x := by simpa using hy
  rw [this]; exact hp
theorem any_f {α : Type} {p : α → Bool} {l : List α} (h : ∀ x ∈ l, p x = false) : l.any p = false := List.any_eq_false.2 fun x hx => by rw [h x hx]; simp
abbrev Mv := Int × Int × Int × Int
def encM (m : Mv) : List Value := [.int .i64 m.1, .int .i64 m.2.1, .int .i64 m.2.2.1, .int .i64 m.2.2.2]
def rightM (m : Mv) : Bool := (inB m.2.1 63 && inB m.2.2.1 63 && inB m.2.2.2 63) && decide (0 < m.1 ∧ m.1 ≤ 5)
theorem plright_c {s : Bool} {m : Mv} {h : Hp} {nx : Nat} : Cv Q O s 19 [.agg ⟨encM m⟩] h nx (EqK (.bool (rightM m)) nx h) := by
 refine plrightv ?_
 unfold plright encM
 have K1 : ∀ {o}, Keep nx h (hset h nx o) := (Keep.refl _ _).set (Nat.le_refl _)
 have no : (inB m.2.1 63 && inB m.2.2.1 63 && inB m.2.2.2 63) = false → ∀ {o}, plrightk0 s (EqK (.bool (rightM m)) nx h) (.pointer (some ⟨nx, 0, none⟩)) (.bool true) (hset h nx o) (nx + 1) := fun e {o} => by
  unfold plrightk0
  simp (disch := omega) only [SS, ↓reduceIte, Nat.reduceAdd, Nat.reduceSub, Nat.reduceMul, Nat.reduceLT, Nat.reduceLeDiff, Nat.reduceEqDiff, Int.reduceBEq, Int.reduceLT, Int.reduceNeg]
  exact ⟨by unfold rightM; rw [e]; rfl, K1, by omega⟩
 simp (disch := omega) only [SS, ↓reduceIte, Nat.reduceAdd, Nat.reduceSub, Nat.reduceMul, Nat.reduceLT, Nat.reduceLeDiff, Nat.reduceEqDiff, Int.reduceBEq, Int.reduceLT, Int.reduceNeg]
 refine plwithin_c.mono ?_
 rintro r h1 n1 ⟨rfl, e1, e2⟩
 rw [e1, e2]
 cases ha : inB m.2.1 63 with
 | false =>
  simp (disch := omega) only [SS, ↓reduceIte, Nat.reduceAdd, Nat.reduceSub, Nat.reduceMul, Nat.reduceLT, Nat.reduceLeDiff, Nat.reduceEqDiff, Int.reduceBEq, Int.reduceLT, Int.reduceNeg]
  exact no (by rw [ha]; rfl)
 | true =>
  simp (disch := omega) only [SS, ↓reduceIte, Nat.reduceAdd, Nat.reduceSub, Nat.reduceMul, Nat.reduceLT, Nat.reduceLeDiff, Nat.reduceEqDiff, Int.reduceBEq, Int.reduceLT, Int.reduceNeg]
  refine plwithin_c.mono ?_
  rintro r h1 n1 ⟨rfl, e1, e2⟩
  rw [e1, e2]
  cases hb : inB m.2.2.1 63 with
  | false =>
   simp (disch := omega) only [SS, ↓reduceIte, Nat.reduceAdd, Nat.reduceSub, Nat.reduceMul, Nat.reduceLT, Nat.reduceLeDiff, Nat.reduceEqDiff, Int.reduceBEq, Int.reduceLT, Int.reduceNeg]
   exact no (by rw [ha, hb]; rfl)
  | true =>
   simp (disch := omega) only [SS, ↓reduceIte, Nat.reduceAdd, Nat.reduceSub, Nat.reduceMul, Nat.reduceLT, Nat.reduceLeDiff, Nat.reduceEqDiff, Int.reduceBEq, Int.reduceLT, Int.reduceNeg]
   refine plwithin_c.mono ?_
   rintro r h1 n1 ⟨rfl, e1, e2⟩
   rw [e1, e2]
   cases hc : inB m.2.2.2 63 with
   | false =>
    simp (disch := omega) only [SS, ↓reduceIte, Nat.reduceAdd, Nat.reduceSub, Nat.reduceMul, Nat.reduceLT, Nat.reduceLeDiff, Nat.reduceEqDiff, Int.reduceBEq, Int.reduceLT, Int.reduceNeg]
    exact no (by rw [ha, hb, hc]; rfl)
   | true =>
    unfold plrightk0
    simp (disch := omega) only [SS, ↓reduceIte, Nat.reduceAdd, Nat.reduceSub, Nat.reduceMul, Nat.reduceLT, Nat.reduceLeDiff, Nat.reduceEqDiff, Int.reduceBEq, Int.reduceLT, Int.reduceNeg]
    have e3 : rightM m = decide (0 < m.1 ∧ m.1 ≤ 5) := by unfold rightM; rw [ha, hb, hc]; rfl
    refine ⟨fun h0 => ⟨?_, K1, by omega⟩, fun h0 => ⟨?_, K1, by omega⟩⟩
    ·rw [e3]
     by_cases h5 : m.1 ≤ 5
     ·rw [decide_eq_true (show 0 < m.1 ∧ m.1 ≤ 5 by omega), decide_eq_false (show ¬ 5 < m.1 by omega)]; rfl
     ·rw [decide_eq_false (show ¬ (0 < m.1 ∧ m.1 ≤ 5) by omega), decide_eq_true (show 5 < m.1 by omega)]; rfl
    ·rw [e3, decide_eq_false (show ¬ (0 < m.1 ∧ m.1 ≤ 5) by omega)]
theorem rdF {α : Type} {enc : α → List Value} {l : List α} {k : Nat} (hk : ∀ x, (enc x).length = k) {i : Nat} {e : α} (he : l[i]? = some e) : loadC (some k) (i * k) (flat enc l) = .ok (.agg ⟨enc e⟩) := load_flat' hk he
theorem contsM_c {s : Bool} {f : Nat} {p : Mv → Bool} {v : Value} {l : List Mv} {h : Hp} {nx : Nat} (hv : SlRd h nx v encM l) (hl : l.length < 1000000) (hf : ∀ (x : Mv) (h : Hp) (nx : Nat), Cv Q O s f [.agg ⟨encM x⟩] h nx (EqK (.bool (p x)) nx h)) :
  Cv Q O s 68 [v, .func (.func f) ⟨[]⟩ ⟨[]⟩] h nx (EqK (.bool (l.any p)) nx h) := by
 refine contsMv ?_
 obtain ⟨a, cap, rfl, hc⟩ := id hv
 unfold contsM
 refine (indexMv (K := fun r h' nx' => Keep nx h h' ∧ nx ≤ nx' ∧ ∃ i : Int, r = .int .i64 i ∧ (i < 0 ↔ l.any p = false)) ?_).mono ?_
 ·unfold indexM
  simp (disch := omega) only [SS, ↓reduceIte, Nat.reduceAdd, Nat.reduceSub, Nat.reduceMul, Nat.reduceLT, Nat.reduceLeDiff, Nat.reduceEqDiff, Int.reduceBEq, Int.reduceLT, Int.reduceNeg]
  refine Lp.mk (IxJ p l (.slice a l.length cap) (.func (.func f) ⟨[]⟩ ⟨[]⟩) nx h) l.length ⟨0, rfl, by omega, rfl, Keep.refl _ _, Nat.le_refl _, fun x hx => by simp at hx⟩ ?_
  rintro m _ h' nx' ⟨i, rfl, hi, rfl, hk, hle, hno⟩
  rw [indexMb0]
  unfold indexMl0
  simp (disch := omega) only [SS, ↓reduceIte, Nat.reduceAdd, Nat.reduceSub, Nat.reduceMul, Nat.reduceLT, Nat.reduceLeDiff, Nat.reduceEqDiff, Int.reduceBEq, Int.reduceLT, Int.reduceNeg]
  refine ⟨fun hlt => ?_, fun hge => ?_⟩
  ·obtain ⟨x, hx⟩ := get_ex hlt
   obtain ⟨_, b, sp, ro, c1, hb, e1, hg⟩ := hv.at hx
   cases e1
   simp (disch := omega) only [SS, ↓reduceIte, Nat.reduceAdd, Nat.reduceSub, Nat.reduceMul, Nat.reduceLT, Nat.reduceLeDiff, Nat.reduceEqDiff, Int.reduceBEq, Int.reduceLT, Int.reduceNeg, (hk b hb).trans hg, rdF (enc := encM) (k := 4) (fun _ => rfl) hx]
   refine (hf x h' nx').mono ?_
   rintro r h2 nx2 ⟨rfl, hk2, hle2⟩
   rw [IF_b]
   refine ⟨fun hp => ?_, fun hp => ?_⟩
   ·refine ⟨hk.trans hk2 hle, by omega, _, rfl, ⟨fun h => absurd h (by omega), fun h => ?_⟩⟩
    rw [List.any_eq_false] at h
    exact absurd hp (h x (List.mem_of_getElem? hx))
   ·simp (disch := omega) only [SS, ↓reduceIte, Nat.reduceAdd, Nat.reduceSub, Nat.reduceMul, Nat.reduceLT, Nat.reduceLeDiff, Nat.reduceEqDiff, Int.reduceBEq, Int.reduceLT, Int.reduceNeg, wrap_s (show i < 1000000000000 by omega)]
    exact ⟨l.length - (i + 1), by omega, i + 1, rfl, by omega, rfl, hk.trans hk2 hle, by omega, take_s hx hno hp⟩
  ·have : i = l.length := by omega
   subst this
   rw [List.take_length] at hno
   exact ⟨hk, hle, _, rfl, ⟨fun _ => any_f hno, fun _ => by omega⟩⟩
 ·rintro r h' nx' ⟨hk, hle, i, rfl, hi⟩
  simp (disch := omega) only [SS, ↓reduceIte, Nat.reduceAdd, Nat.reduceSub, Nat.reduceMul, Nat.reduceLT, Nat.reduceLeDiff, Nat.reduceEqDiff, Int.reduceBEq, Int.reduceLT, Int.reduceNeg]
  refine ⟨?_, hk, hle⟩
  cases ha : l.any p with
  | false => rw [decide_eq_true (hi.2 ha)]; rfl
  | true =>
   have : ¬ i < 0 := fun h => by rw [hi.1 h] at ha; cases ha
   rw [decide_eq_false this]; rfl
def encB (x : Nat) : List Value := [.int .u8 (x : Int)]
theorem encB_len (l : List Nat) : (flat encB l).length = l.length := by
 have := flat_len (enc := encB) (k := 1) (fun _ => rfl) l
 omega
theorem encB_get {l : List Nat} {i x : Nat} (h : l[i]? = some x) : (flat encB l)[i]? = some (.int .u8 (x : Int)) := by
 have := cell_get (enc := encB) (k := 1) (j := 0) (fun _ => rfl) h rfl
 simpa using this
theorem encB_dt (l : List Nat) (o n : Nat) : ((flat encB l).drop o).take n = flat encB ((l.drop o).take n) := by
 have e : ∀ l : List Nat, flat encB l = l.map fun (x : Nat) => Value.int .u8 (x : Int) := fun l => by
  induction l with
  | nil => rfl
  | cons x l ih => show encB x ++ flat encB l = _; rw [ih]; rfl
 rw [e, e, List.map_take, List.map_drop]
def SubB (h : Hp) (nx : Nat) (v : Value) (l : List Nat) : Prop :=
 ∃ a cap, v = .slice a l.length cap ∧ (l ≠ [] → ∃ b o sp ro cs, b < nx ∧ a = some ⟨b, o, sp⟩ ∧ hget h b = some (.cells cs ro) ∧ o + l.length ≤ cs.length ∧ (cs.drop o).take l.length = flat encB l)
theorem SubB.of {h : Hp} {nx : Nat} {v : Value} {l : List Nat} (hs : SlPx h nx v encB l) : SubB h nx v l := by
 obtain ⟨a, cap, hv, hc⟩ := hs
 refine ⟨a, cap, hv, fun hl => ?_⟩
 obtain ⟨b, sp, ro, cs, hb, ha, hg⟩ := hc hl
 exact ⟨b, 0, sp, ro, _, hb, ha, hg, by simp [encB_len], by rw [List.drop_zero, List.take_left' (encB_len l)]⟩
theorem SubB.keep {h h' : Hp} {nx nx' : Nat} {v : Value} {l : List Nat} (hs : SubB h nx v l) (hk : Keep nx h h') (hle : nx ≤ nx') : SubB h' nx' v l := by
 obtain ⟨a, cap, hv, hc⟩ := hs
 refine ⟨a, cap, hv, fun hl => ?_⟩
 obtain ⟨b, o, sp, ro, cs, hb, ha, hg, ho, hd⟩ := hc hl
 exact ⟨b, o, sp, ro, cs, by omega, ha, (hk b hb).trans hg, ho, hd⟩
def SlNe (h : Hp) (lo hi : Nat) (v : Value) (l : List Nat) : Prop :=
 ∃ a, v = .slice a l.length l.length ∧ (l ≠ [] → ∃ b ro, lo ≤ b ∧ b < hi ∧ a = some ⟨b, 0, some 1⟩ ∧ hget h b = some (.cells (flat encB l) ro))
theorem SlNe.nw {h : Hp} {lo hi : Nat} {v : Value} {l : List Nat} (hs : SlNe h lo hi v l) : SlNw h lo hi v encB l := by
 obtain ⟨a, e, k⟩ := hs
 refine ⟨a, _, e, fun hl => ?_⟩
 obtain ⟨b, ro, q⟩ := k hl
 exact ⟨b, some 1, ro, q⟩
theorem appB_k {h : Hp} {nx b b2 o n c2 : Nat} {sp2 : Option Nat} {ro rd : Bool} {l cs : List Value} (hd : hget h b = some (.cells cs rd)) (hb : hget h b2 = some (.cells l ro)) (ho : o + n ≤ l.length) (h0 : 0 < n) (h1 : n < 1000000) :
  appendA 1 h nx (.slice (some ⟨b, 0, none⟩) 0 0) (.slice (some ⟨b2, o, sp2⟩) n c2) = .ok (.val (.slice (some ⟨nx, 0, some 1⟩) n n) (hset h nx (.cells ((l.drop o).take n) false)) (nx + 1)) := by
 have hr : readA h (some ⟨b2, o, sp2⟩) (n.mul 1) (fun new => appGo 1 h nx (some ⟨b, 0, none⟩) 0 0 n new) = appGo 1 h nx (some ⟨b, 0, none⟩) 0 0 n ((l.drop o).take n) := by
  rw [show n.mul 1 = n from Nat.mul_one n, readA_eq hb (by omega) (by omega)]
 show readA h (some ⟨b2, o, sp2⟩) (n.mul 1) (fun new => appGo 1 h nx (some ⟨b, 0, none⟩) 0 0 n new) = _
 rw [hr]
 unfold appGo
 rw [show Nat.ble (Nat.add 0 n) 0 = false by
  cases hb : Nat.ble (Nat.add 0 n) 0 with
  | false => rfl
  | true => have := Nat.le_of_ble_eq_true hb; have : 0 + n ≤ 0 := this; omega]
 rw [show (Nat.ble (Nat.mul (Nat.add 0 n) 1) 1000000 && Nat.ble (Nat.add 0 n) 1000000) = true by
  simp only [Bool.and_eq_true, Nat.ble_eq]
  exact ⟨by show (0 + n) * 1 ≤ _; omega, by show 0 + n ≤ _; omega⟩]
 show appUp h nx 1 (some ⟨b, 0, none⟩) 0 0 (0 + n) ((l.drop o).take n) = _
 unfold appUp
 simp only [cellsOf_some hd]
 rw [show lcut (Nat.mul 0 1) (ldrop cs 0) = some [] by rfl]
 show growN h nx 1 (lapp [] ((l.drop o).take n)) (0 + n) = _
 rw [lapp_eq, List.nil_append, Nat.zero_add]
 exact growN_eq (by omega)
theorem bin_snil {P : Program} {t : TypeId} (ht : isSliceTy P t = true) (a : Option Addr) (n c : Nat) : bin P .eql t (.slice a n c) (.slice none 0 0) = .ok (.bool a.isNone) := by
 show R.of "compared" (eqlV P t (.slice a n c) (.slice none 0 0)) _ = _
 unfold eqlV
 cases a <;> simp [ht, eqlS, rBool]
theorem ty51 : isSliceTy Tryz.prog 51 = true := by kernel_rfl
theorem clone0_c {s : Bool} {h : Hp} {nx : Nat} {v : Value} {l : List Nat} (hv : SubB h nx v l) (hl : l.length < 100000) :
  Cv Q orc0 s 181 [v] h nx (fun r h' nx' => SlNe h' nx nx' r l ∧ Keep nx h h' ∧ nx ≤ nx') := by
 refine clone0v ?_
 obtain ⟨a, cap, rfl, hc⟩ := id hv
 unfold clone0
 simp (disch := omega) only [SS, ↓reduceIte, Nat.reduceAdd, Nat.reduceSub, Nat.reduceMul, Nat.reduceLT, Nat.reduceLeDiff, Nat.reduceEqDiff, Int.reduceBEq, Int.reduceLT, Int.reduceNeg, bin_snil ty51]
 refine ⟨fun h0 => ⟨?_, Keep.refl _ _⟩, fun h0 => ?_⟩
 ·have : l = [] := by
   rcases Classical.em (l = []) with e | e
   ·exact e
   ·obtain ⟨b, o, sp, ro, cs, _, rfl, _⟩ := hc e
    cases h0
  subst this
  exact ⟨none, rfl, fun h => absurd rfl h⟩
 have K1 : Keep nx h (hset h nx (.cells [] false)) := (Keep.refl _ _).set (Nat.le_refl _)
 rcases Classical.em (l = []) with e | e
 ·subst e
  show SlNe _ _ _ (.slice (some ⟨nx, 0, none⟩) 0 0) _ ∧ _ ∧ _
  exact ⟨⟨some ⟨nx, 0, none⟩, rfl, fun h => absurd rfl h⟩, K1, by omega⟩
 ·obtain ⟨b, o, sp, ro, cs, hb, rfl, hg, ho, hd⟩ := hc e
  rw [appB_k (hnew _ _ _) ((K1 b hb).trans hg) ho (List.length_pos_iff.2 e) (by omega), hd]
  exact ⟨⟨some ⟨nx + 1, 0, some 1⟩, rfl, fun _ => ⟨nx + 1, false, by omega, by omega, rfl, hnew _ _ _⟩⟩, K1.set (by omega), by omega⟩
theorem cloneb_c {s : Bool} {h : Hp} {nx : Nat} {v : Value} {l : List Nat} (hv : SubB h nx v l) (hl : l.length < 100000) :
  Cv Q O s 181 [v] h nx (fun r h' nx' => SlNe h' nx nx' r l ∧ Keep nx h h' ∧ nx ≤ nx') := by
 refine clonebv ?_
 obtain ⟨a, cap, rfl, hc⟩ := id hv
 unfold cloneb
 simp (disch := omega) only [SS, ↓reduceIte, Nat.reduceAdd, Nat.reduceSub, Nat.reduceMul, Nat.reduceLT, Nat.reduceLeDiff, Nat.reduceEqDiff, Int.reduceBEq, Int.reduceLT, Int.reduceNeg, bin_snil ty51]
 refine ⟨fun h0 => ⟨?_, Keep.refl _ _⟩, fun h0 => ?_⟩
 ·have : l = [] := by
   rcases Classical.em (l = []) with e | e
   ·exact e
   ·obtain ⟨b, o, sp, ro, cs, _, rfl, _⟩ := hc e
    cases h0
  subst this
  exact ⟨none, rfl, fun h => absurd rfl h⟩
 have K1 : Keep nx h (hset h nx (.cells [] false)) := (Keep.refl _ _).set (Nat.le_refl _)
 rcases Classical.em (l = []) with e | e
 ·subst e
  show SlNe _ _ _ (.slice (some ⟨nx, 0, none⟩) 0 0) _ ∧ _ ∧ _
  exact ⟨⟨some ⟨nx, 0, none⟩, rfl, fun h => absurd rfl h⟩, K1, by omega⟩
 ·obtain ⟨b, o, sp, ro, cs, hb, rfl, hg, ho, hd⟩ := hc e
  rw [appB_k (hnew _ _ _) ((K1 b hb).trans hg) ho (List.length_pos_iff.2 e) (by omega), hd]
  exact ⟨⟨some ⟨nx + 1, 0, some 1⟩, rfl, fun _ => ⟨nx + 1, false, by omega, by omega, rfl, hnew _ _ _⟩⟩, K1.set (by omega), by omega⟩
def KeepX (r nx : Nat) (h h' : Hp) : Prop := ∀ c, c < nx → c ≠ r → hget h' c = hget h c
theorem KeepX.trans {r nx nx' : Nat} {h h' h2 : Hp} (a : KeepX r nx h h') (b : KeepX r nx' h' h2) (hle : nx ≤ nx') : KeepX r nx h h2 := fun c hc hr => (b c (by omega) hr).trans (a c hc hr)
theorem keepx {r nx : Nat} {h h' : Hp} (a : Keep nx h h') : KeepX r nx h h' := fun c hc _ => a c hc
structure RdI (h : Hp) (nx r bk : Nat) (bs : List Nat) (pos : Nat) (er fa : Int) : Prop where
 lt : r < nx
 le : pos ≤ bs.length
 sz : bs.length < 100000
 c : ∃ a cap, bs.length ≤ cap ∧ hget h r = some (.cells [.slice a bs.length cap, .int .i64 (pos : Int), .int .i64 er, .int .i64 fa] false) ∧ (bs ≠ [] → ∃ sp ro, bk < nx ∧ bk ≠ r ∧ a = some ⟨bk, 0, sp⟩ ∧ hget h bk = some (.cells (flat encB bs) ro))
theorem RdI.keep {h h' : Hp} {nx nx' r bk : Nat} {bs : List Nat} {pos : Nat} {er fa : Int} (R : RdI h nx r bk bs pos er fa) (hk : Keep nx h h') (hle : nx ≤ nx') : RdI h' nx' r bk bs pos er fa := by
 obtain ⟨h1, h2, h3, a, cap, hcap, h4, h5⟩ := R
 refine ⟨by omega, h2, h3, a, cap, hcap, (hk r h1).trans h4, fun e => ?_⟩
 obtain ⟨sp, ro, q1, q2, q3, q4⟩ := h5 e
 exact ⟨sp, ro, by omega, q2, q3, (hk bk q1).trans q4⟩
theorem rdi_mk {h : Hp} {nx r bk : Nat} {bs : List Nat} {a : Option Addr} {cap pos : Nat} {er fa : Int} (h1 : r < nx) (h2 : pos ≤ bs.length) (h3 : bs.length < 100000) (hcap : bs.length ≤ cap) (h5 : bs ≠ [] → ∃ sp ro, bk < nx ∧ bk ≠ r ∧ a = some ⟨bk, 0, sp⟩ ∧ hget h bk = some (.cells (flat encB bs) ro)) :
  RdI (hset h r (.cells [.slice a bs.length cap, .int .i64 (pos : Int), .int .i64 er, .int .i64 fa] false)) nx r bk bs pos er fa := by
 refine ⟨h1, h2, h3, a, cap, hcap, hnew _ _ _, fun e => ?_⟩
 obtain ⟨sp, ro, q1, q2, q3, q4⟩ := h5 e
 exact ⟨sp, ro, q1, q2, q3, by rw [hold q2]; exact q4⟩
theorem RdI.other {h h' : Hp} {nx nx' r bk : Nat} {bs : List Nat} {pos : Nat} {er fa : Int} (R : RdI h nx r bk bs pos er fa) (hr : hget h' r = hget h r) (hb : hget h' bk = hget h bk) (hle : nx ≤ nx') : RdI h' nx' r bk bs pos er fa := by
 obtain ⟨h1, h2, h3, a, cap, hcap, h4, h5⟩ := R
 refine ⟨by omega, h2, h3, a, cap, hcap, hr.trans h4, fun e => ?_⟩
 obtain ⟨sp, ro, q1, q2, q3, q4⟩ := h5 e
 exact ⟨sp, ro, by omega, q2, q3, hb.trans q4⟩
theorem SlNe.put {h : Hp} {lo hi r : Nat} {v : Value} {l : List Nat} {o : AObj} (hs : SlNe h lo hi v l) (hr : r < lo) : SlNe (hset h r o) lo hi v l := by
 obtain ⟨a, e, k⟩ := hs
 refine ⟨a, e, fun hl => ?_⟩
 obtain ⟨b, ro, q1, q2, q3, q4⟩ := k hl
 exact ⟨b, ro, q1, q2, q3, by rw [hold (by omega)]; exact q4⟩
theorem KeepX.put {r nx : Nat} {h h' : Hp} {o : AObj} (a : KeepX r nx h h') : KeepX r nx h (hset h' r o) := fun c hc hr => by rw [hold hr]; exact a c hc hr
theorem vSl_m {z n cap lo hi : Nat} {a : Option Addr} (h1 : lo < hi) (h2 : hi ≤ cap) :
  vSl z (.slice a n cap) (some (.int .i64 (lo : Int))) (some (.int .i64 (hi : Int))) none = .ok (.slice (cutAddr a (lo * z) false) (hi - lo) (cap - lo)) := by
 show sliceV z a cap false cap hi lo = _
 unfold sliceV
 rw [show (Nat.ble cap cap && (Nat.ble hi cap && Nat.ble lo hi)) = true by simp; omega]
 show sliceW z a false cap hi lo = _
 unfold sliceW
 rw [show Nat.beq cap lo = false by
  cases hb : Nat.beq cap lo with
  | true => have := Nat.eq_of_beq_eq_true hb; omega
  | false => rfl]
 rfl
theorem need_c {s : Bool} {h : Hp} {nx r bk : Nat} {bs : List Nat} {pos n : Nat} {fa : Int} (R : RdI h nx r bk bs pos 0 fa) (hn : pos + n ≤ bs.length) : Cv Q orc0 s 269 [.pointer (some ⟨r, 0, none⟩), .int .i64 (n : Int)] h nx (fun v h' nx' => h' = h ∧ nx' = nx) := by
 obtain ⟨h1, h2, h3, a, cap, hcap, h4, h5⟩ := R
 have p149 : isPtrTy Tryz.prog 149 = true := by kernel_rfl
 refine need0v ?_
 unfold need0
 simp (disch := omega) only [SS, ↓reduceIte, Nat.reduceAdd, Nat.reduceSub, Nat.reduceMul, Nat.reduceLT, Nat.reduceLeDiff, Nat.reduceEqDiff, Int.reduceBEq, Int.reduceLT, Int.reduceNeg, bin_ptr_eql p149, h4]
 unfold need0k2
 simp (disch := omega) only [SS, ↓reduceIte, Nat.reduceAdd, Nat.reduceSub, Nat.reduceMul, Nat.reduceLT, Nat.reduceLeDiff, Nat.reduceEqDiff, Int.reduceBEq, Int.reduceLT, Int.reduceNeg, h4]
 unfold need0k1
 simp (disch := omega) only [SS, ↓reduceIte, Nat.reduceAdd, Nat.reduceSub, Nat.reduceMul, Nat.reduceLT, Nat.reduceLeDiff, Nat.reduceEqDiff, Int.reduceBEq, Int.reduceLT, Int.reduceNeg, h4, show ¬ (n : Int) < 0 by omega]
 unfold need0k0
 simp (disch := omega) only [SS, ↓reduceIte, Nat.reduceAdd, Nat.reduceSub, Nat.reduceMul, Nat.reduceLT, Nat.reduceLeDiff, Nat.reduceEqDiff, Int.reduceBEq, Int.reduceLT, Int.reduceNeg, h4]
 rw [wrapS (by omega) (by omega)]
 exact fun _ => ⟨fun h => absurd h (by omega), fun _ => trivial⟩
theorem next_c {s : Bool} {h : Hp} {nx r bk : Nat} {bs : List Nat} {pos n : Nat} {fa : Int} (R : RdI h nx r bk bs pos 0 fa) (h0 : 0 < n) (hn : pos + n ≤ bs.length) :
  Cv Q orc0 s 183 [.pointer (some ⟨r, 0, none⟩), .int .i64 (n : Int)] h nx (fun v h' nx' => SlNe h' nx nx' v ((bs.drop pos).take n) ∧ RdI h' nx' r bk bs (pos + n) 0 fa ∧ KeepX r nx h h' ∧ nx ≤ nx') := by
 refine next0v ?_
 unfold next0
 refine (need_c R hn).mono ?_
 rintro _ _ _ ⟨rfl, rfl⟩
 obtain ⟨h1, h2, h3, a, cap, hcap, h4, h5⟩ := R
 have hne : bs ≠ [] := fun e => by subst e; simp at hn; omega
 obtain ⟨sp, ro, q1, q2, rfl, q4⟩ := h5 hne
 rename_i H NX
 have w1 : IntKind.wrap .i64 ((pos : Int) + n) = ((pos + n : Nat) : Int) := by rw [wrapS (by omega) (by omega)]; simp
 simp (disch := omega) only [SS, ↓reduceIte, Nat.reduceAdd, Nat.reduceSub, Nat.reduceMul, Nat.reduceLT, Nat.reduceLeDiff, Nat.reduceEqDiff, Int.reduceBEq, Int.reduceLT, Int.reduceNeg, h4, w1]
 rw [vSl_m (show pos < pos + n by omega) (by omega), RK_ok]
 have hlen : ((bs.drop pos).take n).length = n := by simp; omega
 have hsub : SubB H NX (.slice (cutAddr (some ⟨bk, 0, sp⟩) (pos * 1) false) (pos + n - pos) (cap - pos)) ((bs.drop pos).take n) := by
  refine ⟨_, _, by rw [hlen, show pos + n - pos = n by omega], fun _ => ⟨bk, pos, sp, ro, _, q1, ?_, q4, by rw [hlen, encB_len]; omega, by rw [hlen, encB_dt]⟩⟩
  show some (⟨bk, 0 + pos * 1, sp⟩ : Addr) = _
  rw [Nat.mul_one, Nat.zero_add]
 refine (clone0_c hsub (by omega)).mono ?_
 rintro v h' nx' ⟨k1, k2, k3⟩
 simp (disch := omega) only [SS, ↓reduceIte, Nat.reduceAdd, Nat.reduceSub, Nat.reduceMul, Nat.reduceLT, Nat.reduceLeDiff, Nat.reduceEqDiff, Int.reduceBEq, Int.reduceLT, Int.reduceNeg, (k2 r h1).trans h4, w1, k3]
 exact ⟨k1.put h1, rdi_mk (by omega) hn h3 hcap fun _ => ⟨sp, ro, by omega, q2, rfl, (k2 bk q1).trans q4⟩, (keepx k2).put⟩
def RdE (bs : List Nat) (pos n : Nat) (er : Int) : Prop := er ≠ 0 ∨ bs.length < pos + n
theorem go_good {h : Hp} {nx r bk : Nat} {bs : List Nat} {pos n : Nat} {fa : Int} {v : Value} {good : CR} (R : RdI h nx r bk bs pos 0 fa) (hn : pos + n ≤ bs.length) : rdGo r h nx (n : Int) v good = good := by
 obtain ⟨h1, h2, h3, a, cap, hcap, h4, h5⟩ := R
 unfold rdGo
 rw [h4]
 show (bif !decide ((0 : Int) = 0) then _ else _) = _
 rw [show decide ((0 : Int) = 0) = true from rfl, decide_eq_false (show ¬ (n : Int) < 0 by omega), decide_eq_false (show ¬ (bs.length : Int) - pos < n by omega)]
 simp
theorem go_bad {h : Hp} {nx r bk : Nat} {bs : List Nat} {pos n : Nat} {er fa : Int} {v : Value} {good : CR} (R : RdI h nx r bk bs pos er fa) (hb : RdE bs pos n er) :
  ∃ h', rdGo r h nx (n : Int) v good = .ok v h' nx ∧ RdI h' nx r bk bs pos (if er = 0 then 2 else er) (if er = 0 then (bs.length : Int) else fa) ∧ KeepX r nx h h' := by
 obtain ⟨h1, h2, h3, a, cap, hcap, h4, h5⟩ := id R
 unfold rdGo rdBad
 rw [h4]
 by_cases he : er = 0
 ·subst he
  have hl : bs.length < pos + n := by
   rcases hb with h | h
   ·exact absurd rfl h
   ·exact h
  refine ⟨hset h r (.cells [.slice a bs.length cap, .int .i64 (pos : Int), .int .i64 2, .int .i64 (bs.length : Int)] false), ?_, rdi_mk h1 h2 h3 hcap h5, fun c hc hr => hold hr⟩
  show (bif !decide ((0 : Int) = 0) then _ else _) = _
  rw [show decide ((0 : Int) = 0) = true from rfl, decide_eq_false (show ¬ (n : Int) < 0 by omega), decide_eq_true (show (bs.length : Int) - pos < n by omega)]
  rw [show (Nat.ble pos bs.length && (Nat.blt bs.length 1000000 && true)) = true by simp [Nat.blt_eq]; omega]
  rfl
 ·refine ⟨h, ?_, by rw [if_neg he, if_neg he]; exact R, fun _ _ _ => rfl⟩
  show (bif !decide (er = 0) then _ else _) = _
  rw [decide_eq_false he]
  rfl
theorem take_c {s : Bool} {h : Hp} {nx r bk : Nat} {bs : List Nat} {pos n : Nat} {er fa : Int} {K : KC'} (R : RdI h nx r bk bs pos er fa) (h0 : 0 < n)
  (hg : er = 0 → pos + n ≤ bs.length → ∀ v h' nx', SlNe h' nx nx' v ((bs.drop pos).take n) → RdI h' nx' r bk bs (pos + n) er fa → KeepX r nx h h' → nx ≤ nx' → K v h' nx')
  (hb : RdE bs pos n er → ∀ h', RdI h' nx r bk bs pos (if er = 0 then 2 else er) (if er = 0 then (bs.length : Int) else fa) → KeepX r nx h h' → K (.slice none 0 0) h' nx) :
  Cv Q O s 82 [.pointer (some ⟨r, 0, none⟩), .int .i64 (n : Int)] h nx K := by
 by_cases hE : RdE bs pos n er
 ·obtain ⟨h', e, R', k⟩ := go_bad (v := .slice none 0 0) (good := gRun Q 183 [.pointer (some ⟨r, 0, none⟩), .int .i64 (n : Int)] h nx) R hE
  exact Cv.byOrc (g := gTake (gRun Q 183)) rfl e (hb hE h' R' k)
 ·have he : er = 0 := Classical.byContradiction fun e => hE (.inl e)
  have hl : pos + n ≤ bs.length := Nat.le_of_not_lt fun e => hE (.inr e)
  subst he
  obtain ⟨v, h', nx', e, k1, k2, k3, k4⟩ := gRun_val (next_c (s := true) R h0 hl)
  refine Cv.byOrc (g := gTake (gRun Q 183)) rfl (v := v) (h' := h') (nx' := nx') ?_ (hg rfl hl v h' nx' k1 k2 k3 k4)
  show rdGo r h nx (n : Int) _ _ = _
  rw [go_good R hl]; exact e
def le : List Nat → Nat
 | [] => 0
 | x :: l => x + 256 * le l
def BsOk (l : List Nat) : Prop := ∀ x ∈ l, x < 256
theorem le_app : ∀ (l : List Nat) (x : Nat), le (l ++ [x]) = le l + 256 ^ l.length * x
 | [], x => by simp [le]
 | y :: l, x => by
  show y + 256 * le (l ++ [x]) = _
  rw [le_app l x, List.length_cons, Nat.pow_succ]
  show _ = y + 256 * le l + _
  rw [Nat.mul_add, Nat.add_assoc, Nat.mul_comm (256 ^ l.length) 256, Nat.mul_assoc]
theorem le_lt : ∀ {l : List Nat}, BsOk l → le l < 256 ^ l.length
 | [], _ => by simp [le]
 | y :: l, h => by
  have h1 := h y (List.mem_cons_self ..)
  have h2 := le_lt (l := l) fun x hx => h x (List.mem_cons_of_mem _ hx)
  show y + 256 * le l < _
  rw [List.length_cons, Nat.pow_succ]
  omega
theorem le_take {l : List Nat} {i x : Nat} (hx : l[i]? = some x) : le (l.take (i + 1)) = le (l.take i) + 256 ^ i * x := by
 have hi := (List.getElem?_eq_some_iff.1 hx).1
 rw [List.take_add_one, hx]
 show le (l.take i ++ [x]) = _
 rw [le_app, List.length_take, show min i l.length = i by omega]
theorem bin_shlN {P : Program} {t : TypeId} {a k : Nat} (hk : k < 64) (h : a * 2 ^ k < 18446744073709551616) : bin P .shl t (.int .u64 (a : Int)) (.int .u64 (k : Int)) = .ok (.int .u64 ((a * 2 ^ k : Nat) : Int)) := by
 show iShift .shl .u64 (a : Int) (k : Int) = _
 unfold iShift
 rw [show iblt (k : Int) 0 = false by rw [iblt_dec]; exact decide_eq_false (by omega)]
 show R.ok (Value.int .u64 (fwrap .u64 ((a : Int) * 2 ^ (min (k : Int).toNat 64)))) = _
 rw [show min (k : Int).toNat 64 = k by simp; omega, fwrap_eq]
 have : ((a : Int) * (2 : Int) ^ k) = ((a * 2 ^ k : Nat) : Int) := by norm_cast
 rw [this, wrapUw h]
theorem conv_u64 {P : Nat} {k : IntKind} {n : Nat} (h : n < 18446744073709551616) : oConv (.int .u64) (.int k (n : Int)) = .ok (.int .u64 (n : Int)) := by
 rw [conv_int, wrapUw h]
theorem or_sum {a x i : Nat} (h : a < 256 ^ i) : a ||| x * 2 ^ (8 * i) = a + 256 ^ i * x := by
 rw [show (256 : Nat) = 2 ^ 8 from rfl, ← Nat.pow_mul] at *
 rw [Nat.or_comm, Nat.mul_comm x, Nat.add_comm]
 exact (Nat.two_pow_add_eq_or_of_lt h x).symm
def NumJ (l : List Nat) (v : Value) (h : Hp) (nx : Nat) (m : Nat) (vs : List Value) (h' : Hp) (nx' : Nat) : Prop := ∃ i, m = l.length - i ∧ i ≤ l.length ∧ vs = [.int .u64 (le (l.take i) : Int), v, .int .i64 (l.length : Int), .int .i64 (i : Int)] ∧ h' = h ∧ nx' = nx
theorem wrapU32 {n : Nat} (h : n < 4294967296) : IntKind.wrap .u32 (n : Int) = (n : Int) := by
 unfold IntKind.wrap
 simp [IntKind.bits, IntKind.signed]
 omega
theorem num_c {s : Bool} {h : Hp} {nx : Nat} {v : Value} {l : List Nat} (hv : SlRd h nx v encB l) (hl : l.length ≤ 4) (hb : BsOk l) : Cv Q orc0 s 184 [v] h nx (fun r h' nx' => r = .int .u32 (le l : Int) ∧ h' = h ∧ nx' = nx) := by
 refine num0v ?_
 obtain ⟨a, cap, rfl, hc⟩ := id hv
 unfold num0
 simp (disch := omega) only [SS, ↓reduceIte, Nat.reduceAdd, Nat.reduceSub, Nat.reduceMul, Nat.reduceLT, Nat.reduceLeDiff, Nat.reduceEqDiff, Int.reduceBEq, Int.reduceLT, Int.reduceNeg]
 refine Lp.mk (NumJ l (.slice a l.length cap) h nx) l.length ⟨0, rfl, by omega, rfl, rfl, rfl⟩ ?_
 rintro m _ h' nx' ⟨i, rfl, hi, rfl, rfl, rfl⟩
 rw [num0b0]
 unfold num0l0
 have hp : (256 : Nat) ^ 4 = 4294967296 := rfl
 simp (disch := omega) only [SS, ↓reduceIte, Nat.reduceAdd, Nat.reduceSub, Nat.reduceMul, Nat.reduceLT, Nat.reduceLeDiff, Nat.reduceEqDiff, Int.reduceBEq, Int.reduceLT, Int.reduceNeg]
 refine ⟨fun hlt => ?_, fun hge => ?_⟩
 ·obtain ⟨x, hx⟩ := get_ex hlt
  obtain ⟨_, b, sp, ro, c1, hbn, e1, hg⟩ := hv.at hx
  cases e1
  have hx8 : x < 256 := hb x (List.mem_of_getElem? hx)
  have hlt1 : le (l.take i) < 256 ^ i := by
   have := le_lt (l := l.take i) fun y hy => hb y (List.mem_of_mem_take hy)
   rwa [List.length_take, show min i l.length = i by omega] at this
  have hi4 : 256 ^ (i + 1) ≤ 256 ^ 4 := Nat.pow_le_pow_right (by omega) (by omega)
  have hs : x * 2 ^ (8 * i) < 4294967296 := by
   have e : (2 : Nat) ^ (8 * i) = 256 ^ i := by rw [Nat.pow_mul]
   have : x * 256 ^ i < 256 * 256 ^ i := Nat.mul_lt_mul_of_pos_right hx8 (Nat.pow_pos (by omega))
   rw [e]
   rw [Nat.pow_succ] at hi4
   omega
  have hle : le (l.take i) < 4294967296 := by
   rw [Nat.pow_succ] at hi4
   omega
  have e8 : IntKind.wrap .u64 (8 * (i : Int)) = ((8 * i : Nat) : Int) := by rw [show (8 * (i : Int)) = ((8 * i : Nat) : Int) by omega, wrapUw (by omega)]
  simp (disch := omega) only [SS, ↓reduceIte, Nat.reduceAdd, Nat.reduceSub, Nat.reduceMul, Nat.reduceLT, Nat.reduceLeDiff, Nat.reduceEqDiff, Int.reduceBEq, Int.reduceLT, Int.reduceNeg, hg, encB_get hx, wrapUw (show x < 18446744073709551616 by omega), wrapUw (show i < 18446744073709551616 by omega), bin_mul, e8, bin_shlN (show 8 * i < 64 by omega) (show x * 2 ^ (8 * i) < 18446744073709551616 by omega), bin_orU (show le (l.take i) < 18446744073709551616 by omega) (show x * 2 ^ (8 * i) < 18446744073709551616 by omega), or_sum hlt1, wrap_s (show i < 1000000000000 by omega)]
  exact ⟨l.length - (i + 1), by omega, i + 1, rfl, by omega, by rw [le_take hx], rfl, rfl⟩
 ·have : i = l.length := by omega
  subst this
  rw [List.take_length]
  have : le l < 4294967296 := Nat.lt_of_lt_of_le (le_lt hb) (hp ▸ Nat.pow_le_pow_right (by omega) hl)
  rw [wrapU32 this]
theorem BsOk.sub {l : List Nat} (h : BsOk l) (o n : Nat) : BsOk ((l.drop o).take n) := fun x hx => h x (List.mem_of_mem_drop (List.mem_of_mem_take hx))
theorem u32_c {s : Bool} {h : Hp} {nx r bk : Nat} {bs : List Nat} {pos : Nat} {er fa : Int} {K : KC'} (R : RdI h nx r bk bs pos er fa) (hB : BsOk bs)
  (hg : er = 0 → pos + 4 ≤ bs.length → ∀ h' nx', RdI h' nx' r bk bs (pos + 4) er fa → KeepX r nx h h' → nx ≤ nx' → K (.int .u32 (le ((bs.drop pos).take 4) : Int)) h' nx')
  (hb : RdE bs pos 4 er → ∀ h', RdI h' nx r bk bs pos (if er = 0 then 2 else er) (if er = 0 then (bs.length : Int) else fa) → KeepX r nx h h' → K (.int .u32 0) h' nx) :
  Cv Q O s 85 [.pointer (some ⟨r, 0, none⟩)] h nx K := by
 by_cases hE : RdE bs pos 4 er
 ·obtain ⟨h', e, R', k⟩ := go_bad (n := 4) (v := .int .u32 0) (good := (CR.casesOn (gRun Q 183 [.pointer (some ⟨r, 0, none⟩), .int .i64 4] h nx) (fun v h1 nx1 => gRun Q 184 [v] h1 nx1) (fun w => .no w) (fun _ _ => .no "U32") : CR)) R hE
  exact Cv.byOrc (g := gU32 (gRun Q 183) (gRun Q 184)) rfl e (hb hE h' R' k)
 ·have he : er = 0 := Classical.byContradiction fun e => hE (.inl e)
  have hl : pos + 4 ≤ bs.length := Nat.le_of_not_lt fun e => hE (.inr e)
  subst he
  obtain ⟨v, h', nx', e, k1, k2, k3, k4⟩ := gRun_val (next_c (s := true) (n := 4) R (by omega) hl)
  obtain ⟨v2, h2, nx2, e2, rfl, rfl, rfl⟩ := gRun_val (num_c (s := true) k1.nw.rd (by simp; omega) (hB.sub pos 4))
  refine Cv.byOrc (g := gU32 (gRun Q 183) (gRun Q 184)) rfl (v := .int .u32 (le ((bs.drop pos).take 4) : Int)) (h' := h2) (nx' := nx2) ?_ (hg rfl hl h2 nx2 k2 k3 k4)
  show rdGo r h nx ((4 : Nat) : Int) _ _ = _
  rw [go_good R hl]
  rw [show gRun Q 183 [.pointer (some ⟨r, 0, none⟩), .int .i64 4] h nx = _ from e]
  exact e2
theorem p149 : isPtrTy Tryz.prog 149 = true := by kernel_rfl
theorem open_c {s : Bool} {h : Hp} {nx : Nat} {v : Value} {bs : List Nat} (hv : SubB h nx v bs) (hl : bs.length < 100000) :
  Cv Q O s 81 [v] h nx (fun x h' nx' => ∃ r bk, x = .pointer (some ⟨r, 0, none⟩) ∧ nx ≤ r ∧ nx ≤ bk ∧ bk < nx' ∧ RdI h' nx' r bk bs 0 0 0 ∧ Keep nx h h' ∧ nx ≤ nx') := by
 refine opnv ?_
 unfold opn
 refine (cloneb_c hv hl).mono ?_
 rintro x h1 n1 ⟨⟨a, rfl, hc⟩, k2, k3⟩
 simp (disch := omega) only [SS, ↓reduceIte, Nat.reduceAdd, Nat.reduceSub, Nat.reduceMul, Nat.reduceLT, Nat.reduceLeDiff, Nat.reduceEqDiff, Int.reduceBEq, Int.reduceLT, Int.reduceNeg]
 rcases Classical.em (bs = []) with e | e
 ·exact ⟨n1, nx, rfl, k3, Nat.le_refl _, by omega, rdi_mk (by omega) (Nat.zero_le _) hl (Nat.le_refl _) (fun h => absurd e h), k2.set (by omega), by omega⟩
 ·obtain ⟨b, ro, q1, q2, q3, q4⟩ := hc e
  exact ⟨n1, b, rfl, k3, q1, by omega, rdi_mk (by omega) (Nat.zero_le _) hl (Nat.le_refl _) (fun _ => ⟨some 1, ro, by omega, by omega, q3, q4⟩), k2.set (by omega), by omega⟩
theorem fault_c {s : Bool} {h : Hp} {nx r bk : Nat} {bs : List Nat} {pos : Nat} {er fa : Int} (R : RdI h nx r bk bs pos er fa) :
  Cv Q O s 83 [.pointer (some ⟨r, 0, none⟩)] h nx (EqK (.agg ⟨[.int .i64 er, .int .i64 fa]⟩) nx h) := by
 obtain ⟨h1, h2, h3, a, cap, hcap, h4, h5⟩ := R
 refine faultrv ?_
 unfold faultr
 have hne : r ≠ nx := by omega
 simp (disch := omega) only [SS, ↓reduceIte, Nat.reduceAdd, Nat.reduceSub, Nat.reduceMul, Nat.reduceLT, Nat.reduceLeDiff, Nat.reduceEqDiff, Int.reduceBEq, Int.reduceLT, Int.reduceNeg, bin_ptr_eql p149, hold hne, h4]
 exact ⟨rfl, ((Keep.refl _ _).set (Nat.le_refl _)).set (Nat.le_refl _), by omega⟩
theorem at_c {s : Bool} {h : Hp} {nx r bk : Nat} {bs : List Nat} {pos : Nat} {er fa : Int} (R : RdI h nx r bk bs pos er fa) :
  Cv Q O s 88 [.pointer (some ⟨r, 0, none⟩)] h nx (fun v h' nx' => v = .int .i64 (pos : Int) ∧ h' = h ∧ nx' = nx) := by
 obtain ⟨h1, h2, h3, a, cap, hcap, h4, h5⟩ := R
 refine atrv ?_
 unfold atr
 simp (disch := omega) only [SS, ↓reduceIte, Nat.reduceAdd, Nat.reduceSub, Nat.reduceMul, Nat.reduceLT, Nat.reduceLeDiff, Nat.reduceEqDiff, Int.reduceBEq, Int.reduceLT, Int.reduceNeg, bin_ptr_eql p149, h4]
theorem left_c {s : Bool} {h : Hp} {nx r bk : Nat} {bs : List Nat} {pos : Nat} {er fa : Int} (R : RdI h nx r bk bs pos er fa) :
  Cv Q O s 87 [.pointer (some ⟨r, 0, none⟩)] h nx (fun v h' nx' => v = .int .i64 (if er = 0 then ((bs.length - pos : Nat) : Int) else 0) ∧ h' = h ∧ nx' = nx) := by
 obtain ⟨h1, h2, h3, a, cap, hcap, h4, h5⟩ := R
 refine leftrv ?_
 unfold leftr
 simp (disch := omega) only [SS, ↓reduceIte, Nat.reduceAdd, Nat.reduceSub, Nat.reduceMul, Nat.reduceLT, Nat.reduceLeDiff, Nat.reduceEqDiff, Int.reduceBEq, Int.reduceLT, Int.reduceNeg, bin_ptr_eql p149, h4]
 unfold leftrk0
 by_cases he : er = 0
 ·subst he
  simp (disch := omega) only [SS, ↓reduceIte, Nat.reduceAdd, Nat.reduceSub, Nat.reduceMul, Nat.reduceLT, Nat.reduceLeDiff, Nat.reduceEqDiff, Int.reduceBEq, Int.reduceLT, Int.reduceNeg, h4]
  rw [wrapS (by omega) (by omega)]
  rw [Int.ofNat_sub h2]
 ·have : (er != 0) = true := by simpa using he
  simp (disch := omega) only [SS, ↓reduceIte, Nat.reduceAdd, Nat.reduceSub, Nat.reduceMul, Nat.reduceLT, Nat.reduceLeDiff, Nat.reduceEqDiff, Int.reduceBEq, Int.reduceLT, Int.reduceNeg, this, if_neg he]
  exact ⟨fun _ => trivial, fun h => absurd (by simpa using h) he⟩
theorem failr_c {s : Bool} {h : Hp} {nx r bk : Nat} {bs : List Nat} {pos : Nat} {er fa e x : Int} (R : RdI h nx r bk bs pos er fa) (he0 : e ≠ 0) :
  Cv Q O s 84 [.pointer (some ⟨r, 0, none⟩), .int .i64 e, .int .i64 x] h nx (fun v h' nx' => RdI h' nx r bk bs pos (if er = 0 then e else er) (if er = 0 then x else fa) ∧ KeepX r nx h h' ∧ nx' = nx) := by
 obtain ⟨h1, h2, h3, a, cap, hcap, h4, h5⟩ := id R
 refine failrv ?_
 unfold failr
 simp (disch := omega) only [SS, ↓reduceIte, Nat.reduceAdd, Nat.reduceSub, Nat.reduceMul, Nat.reduceLT, Nat.reduceLeDiff, Nat.reduceEqDiff, Int.reduceBEq, Int.reduceLT, Int.reduceNeg, bin_ptr_neq p149, h4]
 have hb : (!e == 0) = true := by simpa using he0
 refine ⟨fun h0 => ?_, fun h0 => ?_⟩
 ·have h0 : er = 0 := by simpa using h0
  subst h0
  unfold failrk0
  simp (disch := omega) only [SS, ↓reduceIte, Nat.reduceAdd, Nat.reduceSub, Nat.reduceMul, Nat.reduceLT, Nat.reduceLeDiff, Nat.reduceEqDiff, Int.reduceBEq, Int.reduceLT, Int.reduceNeg, hb, h4]
  exact ⟨rdi_mk h1 h2 h3 hcap h5, fun c hc hr => hold hr⟩
 ·have h0 : er ≠ 0 := by simpa using h0
  unfold failrk0
  simp (disch := omega) only [SS, ↓reduceIte, Nat.reduceAdd, Nat.reduceSub, Nat.reduceMul, Nat.reduceLT, Nat.reduceLeDiff, Nat.reduceEqDiff, Int.reduceBEq, Int.reduceLT, Int.reduceNeg, if_neg h0]
  exact ⟨R, fun _ _ _ => rfl⟩
def mvOf (l : List Nat) : Mv := match l with
 | [a, b, c, d] => ((a : Int), (b : Int), (c : Int), (d : Int))
 | _ => (0, 0, 0, 0)
def rdM (bs : List Nat) (pos : Nat) : Mv := mvOf ((bs.drop pos).take 4)
def rdP (bs : List Nat) (pos : Nat) : Nat := if bs.length < pos + 4 then pos else pos + 4
def rdR (bs : List Nat) (pos : Nat) : Int := if bs.length < pos + 4 then 2 else if rightM (rdM bs pos) = true then 0 else 8
def rdF2 (bs : List Nat) (pos : Nat) (fa : Int) : Int := if bs.length < pos + 4 then (bs.length : Int) else if rightM (rdM bs pos) = true then fa else (pos : Int)
theorem four {l : List Nat} (h : l.length = 4) : ∃ a b c d, l = [a, b, c, d] := by
 match l, h with
 | [a, b, c, d], _ => exact ⟨a, b, c, d, rfl⟩
theorem wrapB {x : Nat} (h : x < 256) : IntKind.wrap .i64 (x : Int) = (x : Int) := wrapS (by omega) (by omega)
theorem wr4 {h : Hp} {b : Nat} {l : List Value} (hg : hget h b = some (.cells [.int .i64 0, .int .i64 0, .int .i64 0, .int .i64 0] false)) (hc : cellL l = true) (hl : l.length = 4) : wrO (hget h b) h b 0 l = .ok (hset h b (.cells l false)) := by
 rw [hg]
 show (bif cellL l then _ else _) = _
 rw [hc]
 match l, hl with
 | [a, b, c, d], _ => rfl
theorem read_c {s : Bool} {h : Hp} {nx r bk : Nat} {bs : List Nat} {pos : Nat} {fa : Int} (R : RdI h nx r bk bs pos 0 fa) (hbk : bk < nx) (hB : BsOk bs) :
  Cv Q O s 86 [.pointer (some ⟨r, 0, none⟩)] h nx (fun v h' nx' => v = .agg ⟨encM (rdM bs pos)⟩ ∧ RdI h' nx' r bk bs (rdP bs pos) (rdR bs pos) (rdF2 bs pos fa) ∧ KeepX r nx h h' ∧ nx ≤ nx') := by
 refine readmv ?_
 unfold readm
 have hr := R.lt
 simp (disch := omega) only [SS, ↓reduceIte, Nat.reduceAdd, Nat.reduceSub, Nat.reduceMul, Nat.reduceLT, Nat.reduceLeDiff, Nat.reduceEqDiff, Int.reduceBEq, Int.reduceLT, Int.reduceNeg]
 have K0 : Keep nx h (hset h nx (.cells [.int .i64 0, .int .i64 0, .int .i64 0, .int .i64 0] false)) := (Keep.refl _ _).set (Nat.le_refl _)
 have g0 : hget (hset h nx (.cells [.int .i64 0, .int .i64 0, .int .i64 0, .int .i64 0] false)) nx = some (.cells [.int .i64 0, .int .i64 0, .int .i64 0, .int .i64 0] false) := hnew _ _ _
 have R0 := R.keep K0 (Nat.le_succ nx)
 generalize hset h nx (.cells [.int .i64 0, .int .i64 0, .int .i64 0, .int .i64 0] false) = H at *
 refine (at_c R0).mono ?_
 rintro _ _ _ ⟨rfl, rfl, rfl⟩
 refine take_c (n := 4) R0 (by omega) (fun _ hl v h1 n1 k1 k2 k3 k4 => ?_) (fun hE h1 R1 k3 => ?_)
 ·obtain ⟨a, b, c, d, e4⟩ := four (l := (bs.drop pos).take 4) (by simp; omega)
  have hb4 : ∀ x ∈ [a, b, c, d], x < 256 := by rw [← e4]; exact hB.sub pos 4
  have ha : a < 256 := hb4 a (by simp)
  have hb : b < 256 := hb4 b (by simp)
  have hc : c < 256 := hb4 c (by simp)
  have hd : d < 256 := hb4 d (by simp)
  rw [e4] at k1
  obtain ⟨ad, rfl, kc⟩ := k1
  obtain ⟨b1, ro1, q1, q2, rfl, q4⟩ := kc (by simp)
  have q4 : _ = some (AObj.cells [.int .u8 (a : Int), .int .u8 (b : Int), .int .u8 (c : Int), .int .u8 (d : Int)] ro1) := q4
  have i2 : ∀ {n b o cap : Nat} {sp : Option Nat}, 2 < n → vIx (.slice 1) (.slice (some ⟨b, o, sp⟩) n cap) (.int .i64 2) = .ok (.pointer (some ⟨b, o + 2, none⟩)) := fun {n b o cap sp} h => ix_s (t := .i64) (n := n) (b := b) (o := o) (cap := cap) (sp := sp) (z := 1) (i := 2) h
  have i3 : ∀ {n b o cap : Nat} {sp : Option Nat}, 3 < n → vIx (.slice 1) (.slice (some ⟨b, o, sp⟩) n cap) (.int .i64 3) = .ok (.pointer (some ⟨b, o + 3, none⟩)) := fun {n b o cap sp} h => ix_s (t := .i64) (n := n) (b := b) (o := o) (cap := cap) (sp := sp) (z := 1) (i := 3) h
  have hm : rdM bs pos = ((a : Int), (b : Int), (c : Int), (d : Int)) := by unfold rdM; rw [e4]; rfl
  simp (disch := omega) only [SS, ↓reduceIte, Nat.reduceAdd, Nat.reduceSub, Nat.reduceMul, Nat.reduceLT, Nat.reduceLeDiff, Nat.reduceEqDiff, Int.reduceBEq, Int.reduceLT, Int.reduceNeg, show [a, b, c, d].length = 4 from rfl]
  refine ⟨fun h => absurd h (by decide), fun _ => ?_⟩
  simp (disch := omega) only [SS, ↓reduceIte, Nat.reduceAdd, Nat.reduceSub, Nat.reduceMul, Nat.reduceLT, Nat.reduceLeDiff, Nat.reduceEqDiff, Int.reduceBEq, Int.reduceLT, Int.reduceNeg, q4, i2, i3, wrapB ha, wrapB hb, wrapB hc, wrapB hd]
  refine (plright_c (m := ((a : Int), (b : Int), (c : Int), (d : Int)))).mono ?_
  rintro _ h2 n2 ⟨rfl, e2, l2⟩
  have g1 : hget h1 nx = _ := (k3 nx (by omega) (by omega)).trans g0
  have eM : [Value.int .i64 (a : Int), .int .i64 (b : Int), .int .i64 (c : Int), .int .i64 (d : Int)] = encM (rdM bs pos) := by rw [hm]; rfl
  rw [eM] at e2
  generalize hH2 : hset (hset h1 n1 (.cells [.int .i64 0, .int .i64 0, .int .i64 0, .int .i64 0] false)) n1 (.cells (encM (rdM bs pos)) false) = H2 at *
  have g2 : hget H2 n1 = some (.cells (encM (rdM bs pos)) false) := by rw [← hH2]; exact hnew _ _ _
  have o2 : ∀ c, c < n1 → hget H2 c = hget h1 c := fun c hc => by rw [← hH2]; exact (hold (by omega)).trans (hold (by omega))
  have g3 : hget h2 n1 = _ := (e2 n1 (by omega)).trans g2
  have g4 : hget h2 nx = _ := (e2 nx (by omega)).trans ((o2 nx (by omega)).trans g1)
  have R2 : RdI h2 n2 r bk bs (pos + 4) 0 fa := k2.other ((e2 r (by omega)).trans (o2 r (by omega))) ((e2 bk (by omega)).trans (o2 bk (by omega))) (by omega)
  have KX : KeepX r nx h h2 := fun c hc hr' => (e2 c (by omega)).trans ((o2 c (by omega)).trans ((k3 c (by omega) hr').trans (K0 c hc)))
  rw [← hm]
  have l4 : ∀ m : Mv, loadC (some 4) 0 (encM m) = .ok (.agg ⟨encM m⟩) := fun m => rfl
  have ln : ∀ m : Mv, (encM m).length = 4 := fun m => rfl
  have cl : ∀ m : Mv, cellL (encM m) = true := fun m => rfl
  simp (disch := omega) only [SS, ↓reduceIte, Nat.reduceAdd, Nat.reduceSub, Nat.reduceMul, Nat.reduceLT, Nat.reduceLeDiff, Nat.reduceEqDiff, Int.reduceBEq, Int.reduceLT, Int.reduceNeg]
  refine ⟨fun hr0 => ?_, fun hr0 => ?_⟩
  ·refine (failr_c (e := 8) (x := (pos : Int)) R2 (by decide)).mono ?_
   rintro _ h3 _ ⟨R3, k5, rfl⟩
   have g5 : hget h3 n1 = _ := (k5 n1 (by omega) (by omega)).trans g3
   have g6 : hget h3 nx = _ := (k5 nx (by omega) (by omega)).trans g4
   simp (disch := omega) only [SS, ↓reduceIte, Nat.reduceAdd, Nat.reduceSub, Nat.reduceMul, Nat.reduceLT, Nat.reduceLeDiff, Nat.reduceEqDiff, Int.reduceBEq, Int.reduceLT, Int.reduceNeg, g5, l4, ln]
   rw [wr4 g6 (cl _) (ln _), RK_ok]
   simp (disch := omega) only [SS, ↓reduceIte, Nat.reduceAdd, Nat.reduceSub, Nat.reduceMul, Nat.reduceLT, Nat.reduceLeDiff, Nat.reduceEqDiff, Int.reduceBEq, Int.reduceLT, Int.reduceNeg, l4]
   have hrr : (!rightM (rdM bs pos)) = true := by rw [hr0]; rfl
   have hlr : ¬ bs.length < pos + 4 := by omega
   refine ⟨?_, fun c hc hr' => (hold (by omega)).trans ((k5 c (by omega) hr').trans (KX c hc hr')), by omega⟩
   unfold rdP rdR rdF2
   rw [if_neg hlr, if_neg hlr, if_neg hlr, if_neg (by simpa using hrr), if_neg (by simpa using hrr)]
   exact R3.other (hold (by omega)) (hold (by omega)) (Nat.le_refl _)
  ·simp (disch := omega) only [SS, ↓reduceIte, Nat.reduceAdd, Nat.reduceSub, Nat.reduceMul, Nat.reduceLT, Nat.reduceLeDiff, Nat.reduceEqDiff, Int.reduceBEq, Int.reduceLT, Int.reduceNeg, g3, l4, ln]
   rw [wr4 g4 (cl _) (ln _), RK_ok]
   simp (disch := omega) only [SS, ↓reduceIte, Nat.reduceAdd, Nat.reduceSub, Nat.reduceMul, Nat.reduceLT, Nat.reduceLeDiff, Nat.reduceEqDiff, Int.reduceBEq, Int.reduceLT, Int.reduceNeg, l4]
   have hrr : (!rightM (rdM bs pos)) = false := by rw [hr0]; rfl
   have hlr : ¬ bs.length < pos + 4 := by omega
   refine ⟨?_, fun c hc hr' => (hold (by omega)).trans (KX c hc hr'), by omega⟩
   unfold rdP rdR rdF2
   rw [if_neg hlr, if_neg hlr, if_neg hlr, if_pos (by simpa using hrr), if_pos (by simpa using hrr)]
   exact R2.other (hold (by omega)) (hold (by omega)) (Nat.le_refl _)
 ·have hl : bs.length < pos + 4 := by
   rcases hE with h | h
   ·exact absurd rfl h
   ·exact h
  have g1 : hget h1 nx = _ := (k3 nx (by omega) (by omega)).trans g0
  have hm : rdM bs pos = (0, 0, 0, 0) := by
   unfold rdM mvOf
   split
   ·rename_i h
    have := congrArg List.length h
    simp at this
    omega
   ·rfl
  simp (disch := omega) only [SS, ↓reduceIte, Nat.reduceAdd, Nat.reduceSub, Nat.reduceMul, Nat.reduceLT, Nat.reduceLeDiff, Nat.reduceEqDiff, Int.reduceBEq, Int.reduceLT, Int.reduceNeg, g1]
  refine ⟨fun _ => ⟨by rw [hm]; rfl, ?_, ?_, by omega⟩, fun h => absurd (by decide) h⟩
  ·have R2 : RdI h1 (nx + 1) r bk bs (rdP bs pos) (rdR bs pos) (rdF2 bs pos fa) := by
    unfold rdP rdR rdF2
    rw [if_pos hl, if_pos hl, if_pos hl]
    exact R1
   exact R2.other (hold (by omega)) (hold (by omega)) (Nat.le_refl _)
  ·exact fun c hc hr' => (hold (by omega)).trans ((k3 c (by omega) hr').trans (K0 c hc))
def OwK {α : Type} (h : Hp) (enc : α → List Value) (k : Nat) (v : Value) (l : List α) (bo : Option Nat) : Prop := (l = [] ∧ v = .slice none 0 0 ∧ bo = none) ∨ ∃ b, bo = some b ∧ v = .slice (some ⟨b, 0, some k⟩) l.length l.length ∧ hget h b = some (.cells (flat enc l) false)
section
variable {α : Type} {h h' : Hp} {enc : α → List Value} {k : Nat} {v : Value} {l : List α} {bo : Option Nat}
theorem OwK.gr (w : OwK h enc k v l bo) : Gr h enc k v l bo := by
 rcases w with ⟨rfl, rfl, rfl⟩ | ⟨b, rfl, rfl, hb⟩
 ·exact .nil
 ·exact .own hb
theorem OwK.keep (w : OwK h enc k v l bo) (hk : ∀ c, bo = some c → hget h' c = hget h c) : OwK h' enc k v l bo := by
 rcases w with w | ⟨b, e, e2, hb⟩
 ·exact .inl w
 ·exact .inr ⟨b, e, e2, by rw [hk b e]; exact hb⟩
theorem OwK.nw {lo hi : Nat} (w : OwK h enc k v l bo) (hb : ∀ c, bo = some c → lo ≤ c ∧ c < hi) : SlNw h lo hi v enc l := by
 rcases w with ⟨rfl, rfl, rfl⟩ | ⟨b, rfl, rfl, hg⟩
 ·exact ⟨none, 0, rfl, fun e => absurd rfl e⟩
 ·exact ⟨_, _, rfl, fun _ => ⟨b, some k, false, (hb b rfl).1, (hb b rfl).2, rfl, hg⟩⟩
end
structure DS where
 p : Nat
 e : Int
 f : Int
def loopS (bs : List Nat) : Nat → DS → List Mv → List Mv × DS
 | 0, d, l => (l, d)
 | k + 1, d, l => if d.e = 0 then loopS bs k ⟨rdP bs d.p, rdR bs d.p, rdF2 bs d.p d.f⟩ (l ++ [rdM bs d.p]) else (l, d)
def magS (bs : List Nat) : DS := if bs.length < 4 then ⟨0, 2, bs.length⟩ else if bs.take 4 = [70, 82, 83, 49] then ⟨4, 0, 0⟩ else ⟨4, 1, 0⟩
def u32D (bs : List Nat) (d : DS) : DS := if d.e = 0 then if bs.length < d.p + 4 then ⟨d.p, 2, bs.length⟩ else ⟨d.p + 4, 0, d.f⟩ else d
def u32N (bs : List Nat) (d : DS) : Nat := if d.e = 0 then if bs.length < d.p + 4 then 0 else le ((bs.drop d.p).take 4) else 0
def failS (d : DS) (e f : Int) : DS := if d.e = 0 then ⟨d.p, e, f⟩ else d
def longS (d : DS) (n : Nat) : DS := if 1048576 < n then failS d 5 4 else d
def endS (bs : List Nat) (d : DS) : DS := if d.e = 0 ∧ d.p < bs.length then ⟨d.p, 4, d.p⟩ else d
def decS (bs : List Nat) : List Mv × DS :=
 let m := magS bs
 let r := loopS bs (u32N bs m) (longS (u32D bs m) (u32N bs m)) []
 (r.1, endS bs r.2)
def RdD (h : Hp) (nx r bk : Nat) (bs : List Nat) (d : DS) : Prop := RdI h nx r bk bs d.p d.e d.f
def DecK (bs : List Nat) (nx : Nat) (h : Hp) : KC' := fun v h' nx' => ∃ lv, v = .tuple ⟨[lv, .agg ⟨[.int .i64 (decS bs).2.e, .int .i64 (if (decS bs).2.e = 0 then 0 else (decS bs).2.f)]⟩]⟩ ∧ SlNw h' nx nx' lv encM (if (decS bs).2.e = 0 then (decS bs).1 else []) ∧ Keep nx h h' ∧ nx ≤ nx'
theorem deck1_c {s : Bool} {bs : List Nat} {d : DS} {l : List Mv} {lv : Value} {o : Option Nat} {p1 r bk lo : Nat} {h0 h : Hp} {nx : Nat} (R : RdD h nx r bk bs d) (hp : hget h p1 = some (.cells [.int .i64 0, .int .i64 0] false)) (hp1 : p1 < nx) (hlo : lo ≤ p1)
  (G : OwK h encM 4 lv l o) (ho : ∀ b, o = some b → lo ≤ b ∧ b < nx ∧ b ≠ p1) (K0 : Keep lo h0 h) :
  deck1 s (fun v h' nx' => ∃ lv, v = .tuple ⟨[lv, .agg ⟨[.int .i64 d.e, .int .i64 (if d.e = 0 then 0 else d.f)]⟩]⟩ ∧ SlNw h' lo nx' lv encM (if d.e = 0 then l else []) ∧ Keep lo h0 h' ∧ lo ≤ nx') (.pointer (some ⟨p1, 0, none⟩)) (.pointer (some ⟨r, 0, none⟩)) lv h nx := by
 unfold deck1
 refine (fault_c R).mono ?_
 rintro _ h1 n1 ⟨rfl, k1, l1⟩
 have g1 : hget h1 p1 = _ := (k1 p1 hp1).trans hp
 have hne : p1 ≠ n1 := by omega
 simp (disch := omega) only [SS, ↓reduceIte, Nat.reduceAdd, Nat.reduceSub, Nat.reduceMul, Nat.reduceLT, Nat.reduceLeDiff, Nat.reduceEqDiff, Int.reduceBEq, Int.reduceLT, Int.reduceNeg, hold hne, g1]
 refine ⟨fun he => ?_, fun he => ?_⟩
 ·have he : d.e ≠ 0 := by simpa using he
  refine ⟨_, by rw [if_neg he], by rw [if_neg he]; exact ⟨none, 0, rfl, fun h => absurd rfl h⟩, ?_, by omega⟩
  exact ((((K0.trans (k1.mono (by omega)) (Nat.le_refl _)).set (by omega)).set (by omega)).set (by omega))
 ·have he : d.e = 0 := by simpa using he
  refine ⟨lv, by rw [if_pos he, he], ?_, (((K0.trans (k1.mono (by omega)) (Nat.le_refl _)).set (by omega)).set (by omega)).set (by omega), by omega⟩
  rw [if_pos he]
  exact (G.keep fun c hc => by
   have := ho c hc
   rw [hold (by omega), hold (by omega), hold (by omega)]
   exact k1 c (by omega)).nw fun c hc => by have := ho c hc; omega
theorem loopS_stop {bs : List Nat} {d : DS} {l : List Mv} (h : d.e ≠ 0) : ∀ k, loopS bs k d l = (l, d)
 | 0 => rfl
 | k + 1 => if_neg h
structure DecI (n : Nat) (bs : List Nat) (fin : List Mv × DS) (lo : Nat) (h0 : Hp) (p1 r bk : Nat) (l : List Mv) (d : DS) (lv : Value) (o : Option Nat) (h : Hp) (nx : Nat) : Prop where
 fin : loopS bs (n - l.length) d l = fin
 rd : RdD h nx r bk bs d
 ow : OwK h encM 4 lv l o
 ob : ∀ b, o = some b → lo ≤ b ∧ b < nx ∧ b ≠ p1 ∧ b ≠ r ∧ b ≠ bk
 g1 : hget h p1 = some (.cells [.int .i64 0, .int .i64 0] false)
 keep : Keep lo h0 h
 sz : 4 * l.length ≤ bs.length + 4
 le : d.e = 0 → 4 * l.length ≤ d.p
 lt : lo ≤ p1 ∧ p1 < nx ∧ lo ≤ r ∧ bk < nx ∧ p1 ≠ r ∧ p1 ≠ bk
def DecJ (n : Nat) (bs : List Nat) (fin : List Mv × DS) (lo : Nat) (h0 : Hp) (p1 r bk : Nat) (m : Nat) (vs : List Value) (h : Hp) (nx : Nat) : Prop :=
 ∃ l d lv o, m = n - l.length ∧ vs = [.pointer (some ⟨p1, 0, none⟩), .pointer (some ⟨r, 0, none⟩), .int .i64 (n : Int), lv] ∧ DecI n bs fin lo h0 p1 r bk l d lv o h nx
theorem rdP_le {bs : List Nat} {p : Nat} : p ≤ rdP bs p := by unfold rdP; split <;> omega
theorem rdP_4 {bs : List Nat} {p : Nat} (h : rdR bs p = 0) : rdP bs p = p + 4 := by
 unfold rdP rdR at *
 split
 ·rename_i e; rw [if_pos e] at h; cases h
 ·rfl
def DecQ (bs : List Nat) (fin : List Mv × DS) (lo : Nat) (h0 : Hp) : KC' := fun v h' nx' => ∃ lv, v = .tuple ⟨[lv, .agg ⟨[.int .i64 (endS bs fin.2).e, .int .i64 (if (endS bs fin.2).e = 0 then 0 else (endS bs fin.2).f)]⟩]⟩ ∧ SlNw h' lo nx' lv encM (if (endS bs fin.2).e = 0 then fin.1 else []) ∧ Keep lo h0 h' ∧ lo ≤ nx'
theorem deck2_c {s : Bool} {n : Nat} {bs : List Nat} (hB : BsOk bs) (hn : n ≤ 4294967296) {fin : List Mv × DS} {lo : Nat} {h0 : Hp} {p1 r bk : Nat} {d : DS} {h : Hp} {nx : Nat} (I : DecI n bs fin lo h0 p1 r bk [] d (.slice none 0 0) none h nx) :
  deck2 s (DecQ bs fin lo h0) (.pointer (some ⟨p1, 0, none⟩)) (.pointer (some ⟨r, 0, none⟩)) (.int .i64 (n : Int)) h nx := by
 unfold deck2
 refine Lp.mk (DecJ n bs fin lo h0 p1 r bk) n ⟨[], d, _, none, by simp, rfl, I⟩ ?_
 rintro m _ h1 n1 ⟨l, d, lv, o, rfl, rfl, I⟩
 rw [decb0]
 unfold decl0
 have done : ∀ {h1 : Hp} {n1 : Nat}, DecI n bs fin lo h0 p1 r bk l d lv o h1 n1 → fin = (l, d) → Cv Q O s 87 [.pointer (some ⟨r, 0, none⟩)] h1 n1 fun x47 h48 n49 => RK (bin Q .gtr 3 x47 (.int .i64 0)) fun x50 => IF x50 (Cv Q O s 88 [.pointer (some ⟨r, 0, none⟩)] h48 n49 fun x51 h52 n53 => Cv Q O s 84 [.pointer (some ⟨r, 0, none⟩), (.int .i64 4), x51] h52 n53 fun x54 h55 n56 => (deck1 s (DecQ bs fin lo h0) (.pointer (some ⟨p1, 0, none⟩)) (.pointer (some ⟨r, 0, none⟩)) lv h55 n56)) (deck1 s (DecQ bs fin lo h0) (.pointer (some ⟨p1, 0, none⟩)) (.pointer (some ⟨r, 0, none⟩)) lv h48 n49) := by
  rintro h1 n1 I rfl
  obtain ⟨_, rd, ow, ob, g1, kp, sz, le, lt⟩ := I
  refine (left_c rd).mono ?_
  rintro _ _ _ ⟨rfl, rfl, rfl⟩
  have hle := rd.le
  by_cases he : d.e = 0 ∧ d.p < bs.length
  ·have ee : endS bs d = ⟨d.p, 4, d.p⟩ := if_pos he
   rw [if_pos he.1]
   simp (disch := omega) only [SS, ↓reduceIte, Nat.reduceAdd, Nat.reduceSub, Nat.reduceMul, Nat.reduceLT, Nat.reduceLeDiff, Nat.reduceEqDiff, Int.reduceBEq, Int.reduceLT, Int.reduceNeg, show (0 : Int) < ((bs.length - d.p : Nat) : Int) by omega]
   refine ⟨?_, fun h => absurd trivial h⟩
   refine (at_c rd).mono ?_
   rintro _ _ _ ⟨rfl, rfl, rfl⟩
   refine (failr_c (e := 4) (x := (d.p : Int)) rd (by decide)).mono ?_
   rintro _ h2 _ ⟨R2, k2, rfl⟩
   rw [if_pos he.1, if_pos he.1] at R2
   have := deck1_c (s := s) (d := ⟨d.p, 4, d.p⟩) (l := l) (lv := lv) (o := o) (lo := lo) (h0 := h0) R2 ((k2 p1 lt.2.1 lt.2.2.2.2.1).trans g1) lt.2.1 lt.1 (ow.keep fun c hc => k2 c (ob c hc).2.1 (ob c hc).2.2.2.1) (fun b hb => ⟨(ob b hb).1, (ob b hb).2.1, (ob b hb).2.2.1⟩) (fun c hc => (k2 c (by have := lt.2.1; omega) (by have := lt.2.2.1; omega)).trans (kp c hc))
   unfold DecQ
   simp only [ee]
   exact this
  ·have ee : endS bs d = d := if_neg he
   have := deck1_c (s := s) (d := d) (l := l) (lv := lv) (o := o) (lo := lo) (h0 := h0) rd g1 lt.2.1 lt.1 ow (fun b hb => ⟨(ob b hb).1, (ob b hb).2.1, (ob b hb).2.2.1⟩) kp
   have hz : ¬ (0 : Int) < (if d.e = 0 then ((bs.length - d.p : Nat) : Int) else 0) := by
    split
    ·rename_i e
     have : ¬ d.p < bs.length := fun h => he ⟨e, h⟩
     omega
    ·omega
   simp (disch := omega) only [SS, ↓reduceIte, Nat.reduceAdd, Nat.reduceSub, Nat.reduceMul, Nat.reduceLT, Nat.reduceLeDiff, Nat.reduceEqDiff, Int.reduceBEq, Int.reduceLT, Int.reduceNeg, hz]
   unfold DecQ
   simp only [ee]
   first | exact this | exact fun _ => this | exact ⟨fun h => h.elim, fun _ => this⟩
 obtain ⟨fi, rd, ow, ob, g1, kp, sz, le, lt⟩ := id I
 have hll : lenS lv = .ok (.int .i64 (l.length : Int)) := ow.gr.lens
 have hle := rd.le
 have hbs := rd.sz
 simp (disch := omega) only [SS, ↓reduceIte, Nat.reduceAdd, Nat.reduceSub, Nat.reduceMul, Nat.reduceLT, Nat.reduceLeDiff, Nat.reduceEqDiff, Int.reduceBEq, Int.reduceLT, Int.reduceNeg, hll]
 refine ⟨fun hlt => ?_, fun hge => ?_⟩
 ·refine (fault_c rd).mono ?_
  rintro _ h2 n2 ⟨rfl, k2, l2⟩
  simp (disch := omega) only [SS, ↓reduceIte, Nat.reduceAdd, Nat.reduceSub, Nat.reduceMul, Nat.reduceLT, Nat.reduceLeDiff, Nat.reduceEqDiff, Int.reduceBEq, Int.reduceLT, Int.reduceNeg]
  unfold deck0
  have I2 : DecI n bs fin lo h0 p1 r bk l d lv o h2 n2 := ⟨fi, rd.keep k2 l2, ow.keep fun c hc => k2 c (ob c hc).2.1, fun b hb => ⟨(ob b hb).1, by have := (ob b hb).2.1; omega, (ob b hb).2.2⟩, (k2 p1 lt.2.1).trans g1, kp.trans (k2.mono (by omega)) (Nat.le_refl _), sz, le, lt.1, by omega, lt.2.2.1, by omega, lt.2.2.2.2⟩
  rw [IF_b]
  refine ⟨fun he => ?_, fun he => ?_⟩
  ·have he : d.e = 0 := by simpa using he
   have hk1 : n - l.length = n - (l.length + 1) + 1 := by omega
   have R2 : RdI h2 n2 r bk bs d.p 0 d.f := by have := I2.rd; unfold RdD at this; rw [he] at this; exact this
   have lt2 := I2.lt
   refine (read_c R2 lt2.2.2.2.1 hB).mono ?_
   rintro _ h3 n3 ⟨rfl, R3, k3, l3⟩
   have hr3 := R3.lt
   have ob2 := I2.ob
   have G3 : OwK h3 encM 4 lv l o := I2.ow.keep fun c hc => k3 c (ob2 c hc).2.1 (ob2 c hc).2.2.2.1
   have l4 := le he
   simp (disch := omega) only [SS, ↓reduceIte, Nat.reduceAdd, Nat.reduceSub, Nat.reduceMul, Nat.reduceLT, Nat.reduceLeDiff, Nat.reduceEqDiff, Int.reduceBEq, Int.reduceLT, Int.reduceNeg, show ∀ m, vcells (.agg ⟨encM m⟩) = [.int .i64 m.1, .int .i64 m.2.1, .int .i64 m.2.2.1, .int .i64 m.2.2.2] from fun _ => rfl]
   have G4 := G3.keep (h' := hset h3 n3 (.cells (encM (rdM bs d.p)) false)) fun c hc => hold (by have := (ob2 c hc).2.1; omega)
   refine EK_appg (enc := encM) (k := 4) (fun _ => rfl) (fun _ => rfl) (by omega) G4.gr (rdM bs d.p) (hnew _ _ _) rfl (by omega) fun h5 a5 b5 => ?_
   have o5 : ∀ c, c < n3 → o ≠ some c → hget h5 c = hget h3 c := fun c hc hn => (b5 c (by omega) hn).trans (hold (by omega))
   have np : ∀ c, (∀ b, o = some b → b ≠ c) → o ≠ some c := fun c hh e => hh c e rfl
   refine ⟨n - (l.length + 1), by omega, l ++ [rdM bs d.p], ⟨rdP bs d.p, rdR bs d.p, rdF2 bs d.p d.f⟩, _, some (n3 + 1), by simp, rfl, ?_⟩
   have hP := rdP_le (bs := bs) (p := d.p)
   refine ⟨?_, ?_, .inr ⟨n3 + 1, rfl, by simp, a5⟩, fun b e => ?_, ?_, ?_, ?_, fun e => ?_, lt.1, by omega, lt.2.2.1, by omega, lt.2.2.2.2⟩
   ·rw [List.length_append, List.length_singleton]
    rw [← fi, hk1]
    show _ = if d.e = 0 then _ else _
    rw [if_pos he]
   ·exact R3.other (o5 r hr3 (np r fun b e => (ob2 b e).2.2.2.1)) (o5 bk (by omega) (np bk fun b e => (ob2 b e).2.2.2.2)) (by omega)
   ·cases e; have := lt.2.1; omega
   ·exact (o5 p1 (by omega) (np p1 fun b e => (ob2 b e).2.2.1)).trans ((k3 p1 (by omega) lt.2.2.2.2.1).trans I2.g1)
   ·exact fun c hc => (o5 c (by omega) (np c fun b e => by have := (ob2 b e).1; omega)).trans ((k3 c (by omega) (by omega)).trans (I2.keep c hc))
   ·rw [List.length_append, List.length_singleton]; omega
   ·have := rdP_4 e
    rw [List.length_append, List.length_singleton]
    show _ ≤ rdP bs d.p
    omega
  ·have he : d.e ≠ 0 := by simpa using he
   exact done I2 (by rw [← fi]; exact loopS_stop he _)
 ·unfold deck0
  have : n - l.length = 0 := by omega
  rw [this] at fi
  exact done I fi.symm
theorem wrapIN {n : Nat} (h : n < 9223372036854775808) : IntKind.wrap .i64 (n : Int) = (n : Int) := wrapS (by omega) (by omega)
theorem u32N_lt {bs : List Nat} {d : DS} (hB : BsOk bs) : u32N bs d < 4294967296 := by
 unfold u32N
 split
 ·split
  ·omega
  ·have := le_lt (hB.sub d.p 4)
   have h2 : (256 : Nat) ^ ((bs.drop d.p).take 4).length ≤ 256 ^ 4 := Nat.pow_le_pow_right (by omega) (by simp; omega)
   have h3 : (256 : Nat) ^ 4 = 4294967296 := rfl
   omega
 ·omega
theorem deck3_c {s : Bool} {bs : List Nat} (hB : BsOk bs) {lo : Nat} {h0 : Hp} {p1 r bk : Nat} {d : DS} {h : Hp} {nx : Nat} (R : RdD h nx r bk bs d) (g1 : hget h p1 = some (.cells [.int .i64 0, .int .i64 0] false)) (K0 : Keep lo h0 h)
  (lt : lo ≤ p1 ∧ p1 < nx ∧ lo ≤ r ∧ bk < nx ∧ p1 ≠ r ∧ p1 ≠ bk) :
  deck3 s (DecQ bs (loopS bs (u32N bs d) (longS (u32D bs d) (u32N bs d)) []) lo h0) (.pointer (some ⟨p1, 0, none⟩)) (.pointer (some ⟨r, 0, none⟩)) h nx := by
 have hN := u32N_lt (d := d) hB
 have go : ∀ {h1 : Hp} {n1 : Nat}, RdD h1 n1 r bk bs (u32D bs d) → KeepX r nx h h1 → nx ≤ n1 → RK (oConv (.int .i64) (.int .u32 (u32N bs d : Int))) fun x23 => RK (bin Q .gtr 3 x23 (.int .i64 1048576)) fun x24 => IF x24 (Cv Q O s 84 [(.pointer (some ⟨r, 0, none⟩)), (.int .i64 5), (.int .i64 4)] h1 n1 fun x25 h26 n27 => (deck2 s (DecQ bs (loopS bs (u32N bs d) (longS (u32D bs d) (u32N bs d)) []) lo h0) (.pointer (some ⟨p1, 0, none⟩)) (.pointer (some ⟨r, 0, none⟩)) x23 h26 n27)) ((deck2 s (DecQ bs (loopS bs (u32N bs d) (longS (u32D bs d) (u32N bs d)) []) lo h0) (.pointer (some ⟨p1, 0, none⟩)) (.pointer (some ⟨r, 0, none⟩)) x23 h1 n1)) := by
  intro h1 n1 R1 k1 l1
  have mk : ∀ {h2 : Hp} {D : DS}, RdD h2 n1 r bk bs D → KeepX r nx h h2 → DecI (u32N bs d) bs (loopS bs (u32N bs d) D []) lo h0 p1 r bk [] D (.slice none 0 0) none h2 n1 := fun R2 k2 =>
   ⟨rfl, R2, .inl ⟨rfl, rfl, rfl⟩, fun b e => (by cases e), (k2 p1 lt.2.1 lt.2.2.2.2.1).trans g1, fun c hc => (k2 c (by omega) (by omega)).trans (K0 c hc), by simp, fun _ => (by simp), lt.1, by omega, lt.2.2.1, by omega, lt.2.2.2.2⟩
  simp (disch := omega) only [SS, ↓reduceIte, Nat.reduceAdd, Nat.reduceSub, Nat.reduceMul, Nat.reduceLT, Nat.reduceLeDiff, Nat.reduceEqDiff, Int.reduceBEq, Int.reduceLT, Int.reduceNeg, wrapIN (show u32N bs d < 9223372036854775808 by omega)]
  by_cases hl : 1048576 < u32N bs d
  ·have e1 : longS (u32D bs d) (u32N bs d) = failS (u32D bs d) 5 4 := if_pos hl
   simp (disch := omega) only [SS, ↓reduceIte, Nat.reduceAdd, Nat.reduceSub, Nat.reduceMul, Nat.reduceLT, Nat.reduceLeDiff, Nat.reduceEqDiff, Int.reduceBEq, Int.reduceLT, Int.reduceNeg, show (1048576 : Int) < (u32N bs d : Int) by omega]
   refine ⟨?_, fun h => absurd trivial h⟩
   refine (failr_c (e := 5) (x := 4) R1 (by decide)).mono ?_
   rintro _ h2 _ ⟨R2, k2, rfl⟩
   rw [e1]
   refine deck2_c hB (by omega) (mk ?_ (k1.trans k2 l1))
   unfold failS
   split
   ·rename_i e; rw [if_pos e, if_pos e] at R2; exact R2
   ·rename_i e; rw [if_neg e, if_neg e] at R2; exact R2
  ·have e1 : longS (u32D bs d) (u32N bs d) = u32D bs d := if_neg hl
   simp (disch := omega) only [SS, ↓reduceIte, Nat.reduceAdd, Nat.reduceSub, Nat.reduceMul, Nat.reduceLT, Nat.reduceLeDiff, Nat.reduceEqDiff, Int.reduceBEq, Int.reduceLT, Int.reduceNeg, show ¬ (1048576 : Int) < (u32N bs d : Int) by omega]
   rw [e1]
   exact fun _ => deck2_c hB (by omega) (mk R1 k1)
 unfold deck3
 refine u32_c R hB (fun he hle h1 n1 R1 k1 l1 => ?_) (fun hE h1 R1 k1 => ?_)
 ·have e1 : u32D bs d = ⟨d.p + 4, 0, d.f⟩ := by unfold u32D; rw [if_pos he, if_neg (by omega)]
  have e2 : u32N bs d = le ((bs.drop d.p).take 4) := by unfold u32N; rw [if_pos he, if_neg (by omega)]
  have := go (h1 := h1) (n1 := n1) (by rw [e1]; rw [he] at R1; exact R1) k1 l1
  rw [e2] at this ⊢
  exact this
 ·have e2 : u32N bs d = 0 := by
   unfold u32N
   split
   ·rename_i e
    rcases hE with h | h
    ·exact absurd e h
    ·rw [if_pos h]
   ·rfl
  have e1 : u32D bs d = ⟨d.p, if d.e = 0 then 2 else d.e, if d.e = 0 then (bs.length : Int) else d.f⟩ := by
   unfold u32D
   split
   ·rename_i e
    rcases hE with h | h
    ·exact absurd e h
    ·rw [if_pos h]
   ·rfl
  have := go (h1 := h1) (n1 := nx) (by rw [e1]; exact R1) k1 (Nat.le_refl _)
  rw [e2] at this ⊢
  exact this
theorem strOf_4 (a b c d : Nat) : strOf [(a : Int), (b : Int), (c : Int), (d : Int)] = .string ⟨#[UInt8.ofNat a, UInt8.ofNat b, UInt8.ofNat c, UInt8.ofNat d]⟩ := rfl
theorem tl4 (a b c d : UInt8) : (ByteArray.mk #[a, b, c, d]).toList = [a, b, c, d] := by
 unfold ByteArray.toList
 iterate 5 (unfold ByteArray.toList.loop)
 rfl
theorem u8_inj {a b : Nat} (ha : a < 256) (hb : b < 256) : (UInt8.ofNat a == UInt8.ofNat b) = decide (a = b) := by
 by_cases h : a = b
 ·subst h; simp
 ·rw [decide_eq_false h]
  have : UInt8.ofNat a ≠ UInt8.ofNat b := fun e => h (by
   have := congrArg UInt8.toNat e
   rw [UInt8.toNat_ofNat', UInt8.toNat_ofNat'] at this
   omega)
  simpa using this
theorem neq_mark {a b c d : Nat} (ha : a < 256) (hb : b < 256) (hc : c < 256) (hd : d < 256) : bin Q .neq 9 (strOf [(a : Int), (b : Int), (c : Int), (d : Int)]) (.string ⟨#[70, 82, 83, 49]⟩) = .ok (.bool (!decide ([a, b, c, d] = [70, 82, 83, 49]))) := by
 rw [strOf_4]
 show rBool (!((ByteArray.mk #[UInt8.ofNat a, UInt8.ofNat b, UInt8.ofNat c, UInt8.ofNat d]).toList == (ByteArray.mk #[UInt8.ofNat 70, UInt8.ofNat 82, UInt8.ofNat 83, UInt8.ofNat 49]).toList)) = _
 rw [tl4, tl4]
 show R.ok (Value.bool (!((UInt8.ofNat a == UInt8.ofNat 70) && ((UInt8.ofNat b == UInt8.ofNat 82) && ((UInt8.ofNat c == UInt8.ofNat 83) && ((UInt8.ofNat d == UInt8.ofNat 49) && true)))))) = _
 rw [u8_inj ha (by omega), u8_inj hb (by omega), u8_inj hc (by omega), u8_inj hd (by omega)]
 congr 3
 by_cases h : [a, b, c, d] = [70, 82, 83, 49]
 ·injection h with h1 h; injection h with h2 h; injection h with h3 h; injection h with h4 h
  subst h1 h2 h3 h4; rfl
 ·rw [decide_eq_false h]
  simp at h ⊢
  exact h
theorem by51 : isBytes Tryz.prog 51 = true := by kernel_rfl
theorem st9 : isStrT Tryz.prog 9 = true := by kernel_rfl
theorem oStr_4 {h : Hp} {b a1 a2 a3 a4 cap : Nat} {ro : Bool} (hg : hget h b = some (.cells (flat encB [a1, a2, a3, a4]) ro)) : oStr Q h 51 9 (.slice (some ⟨b, 0, some 1⟩) 4 cap) = .ok (strOf [(a1 : Int), (a2 : Int), (a3 : Int), (a4 : Int)]) := by
 show (bif isBytes Tryz.prog 51 && isStrT Tryz.prog 9 && !isZ (some (⟨b, 0, some 1⟩ : Addr)) then cellsOf h b (fun cs _ => oStrC 4 0 cs) else .no "string") = _
 rw [by51, st9]
 show cellsOf h b (fun cs _ => oStrC 4 0 cs) = _
 rw [cellsOf_eq, hg]
 rfl
theorem dec_c {s : Bool} {h : Hp} {nx : Nat} {v : Value} {bs : List Nat} (hv : SubB h nx v bs) (hB : BsOk bs) (hl : bs.length < 100000) : Cv Q O s 24 [v] h nx (DecK bs nx h) := by
 refine decv ?_
 unfold dec
 simp (disch := omega) only [SS, ↓reduceIte, Nat.reduceAdd, Nat.reduceSub, Nat.reduceMul, Nat.reduceLT, Nat.reduceLeDiff, Nat.reduceEqDiff, Int.reduceBEq, Int.reduceLT, Int.reduceNeg]
 have K1 : Keep nx h (hset h nx (.cells [.int .i64 0, .int .i64 0] false)) := (Keep.refl _ _).set (Nat.le_refl _)
 have g1 : hget (hset h nx (.cells [.int .i64 0, .int .i64 0] false)) nx = some (.cells [.int .i64 0, .int .i64 0] false) := hnew _ _ _
 have hv1 := hv.keep K1 (Nat.le_succ nx)
 generalize hset h nx (.cells [.int .i64 0, .int .i64 0] false) = H at *
 refine (open_c hv1 hl).mono ?_
 rintro _ h1 n1 ⟨r, bk, rfl, q1, q2, q3, R, k1, l1⟩
 have g2 : hget h1 nx = _ := (k1 nx (by omega)).trans g1
 have K2 : Keep nx h h1 := K1.trans (k1.mono (by omega)) (Nat.le_refl _)
 have hr := R.lt
 have fin : ∀ {d : DS} {h2 : Hp} {n2 : Nat}, magS bs = d → RdD h2 n2 r bk bs d → KeepX r n1 h1 h2 → n1 ≤ n2 → deck3 s (DecK bs nx h) (.pointer (some ⟨nx, 0, none⟩)) (.pointer (some ⟨r, 0, none⟩)) h2 n2 := by
  rintro d h2 n2 rfl R2 k2 l2
  exact deck3_c hB R2 ((k2 nx (by omega) (by omega)).trans g2) (fun c hc => (k2 c (by omega) (by omega)).trans (K2 c hc)) ⟨Nat.le_refl _, by omega, by omega, by omega, by omega, by omega⟩
 refine take_c (n := 4) R (by omega) (fun _ hle v h2 n2 k2 R2 k3 l2 => ?_) (fun hE h2 R2 k3 => ?_)
 ·rw [List.drop_zero] at k2
  obtain ⟨a, b, c, d, e4⟩ := four (l := bs.take 4) (by simp; omega)
  have hb4 : ∀ x ∈ [a, b, c, d], x < 256 := by rw [← e4]; exact fun x hx => hB x (List.mem_of_mem_take hx)
  rw [e4] at k2
  obtain ⟨ad, rfl, kc⟩ := k2
  obtain ⟨b1, ro1, z1, z2, rfl, z4⟩ := kc (by simp)
  refine (fault_c R2).mono ?_
  rintro _ h3 n3 ⟨rfl, k4, l3⟩
  have R3 := R2.keep k4 l3
  have z5 := (k4 b1 z2).trans z4
  simp (disch := omega) only [SS, ↓reduceIte, Nat.reduceAdd, Nat.reduceSub, Nat.reduceMul, Nat.reduceLT, Nat.reduceLeDiff, Nat.reduceEqDiff, Int.reduceBEq, Int.reduceLT, Int.reduceNeg, show [a, b, c, d].length = 4 from rfl, oStr_4 z5, neq_mark (hb4 a (by simp)) (hb4 b (by simp)) (hb4 c (by simp)) (hb4 d (by simp))]
  unfold deck4
  rw [IF_b]
  refine ⟨fun hn => ?_, fun hn => ?_⟩
  ·have hn : ¬ [a, b, c, d] = [70, 82, 83, 49] := of_decide_eq_false (by cases hq : decide ([a, b, c, d] = [70, 82, 83, 49]) with
    | true => rw [hq] at hn; cases hn
    | false => rfl)
   refine (failr_c (e := 1) (x := 0) R3 (by decide)).mono ?_
   rintro _ h4 _ ⟨R4, k5, rfl⟩
   exact fin (d := ⟨4, 1, 0⟩) (by unfold magS; rw [if_neg (by omega), e4, if_neg hn]) R4 ((k3.trans (fun c hc _ => k4 c hc) l2).trans k5 (by omega)) (by omega)
  ·have hn : [a, b, c, d] = [70, 82, 83, 49] := of_decide_eq_true (by cases hq : decide ([a, b, c, d] = [70, 82, 83, 49]) with
    | true => rfl
    | false => rw [hq] at hn; cases hn)
   exact fin (d := ⟨4, 0, 0⟩) (by unfold magS; rw [if_neg (by omega), e4, if_pos hn]) R3 (k3.trans (fun c hc _ => k4 c hc) l2) (by omega)
 ·have hl4 : bs.length < 4 := by
   rcases hE with h | h
   ·exact absurd rfl h
   ·omega
  refine (fault_c R2).mono ?_
  rintro _ h3 n3 ⟨rfl, k4, l3⟩
  have R3 := R2.keep k4 l3
  simp (disch := omega) only [SS, ↓reduceIte, Nat.reduceAdd, Nat.reduceSub, Nat.reduceMul, Nat.reduceLT, Nat.reduceLeDiff, Nat.reduceEqDiff, Int.reduceBEq, Int.reduceLT, Int.reduceNeg]
  unfold deck4
  simp (disch := omega) only [SS, ↓reduceIte, Nat.reduceAdd, Nat.reduceSub, Nat.reduceMul, Nat.reduceLT, Nat.reduceLeDiff, Nat.reduceEqDiff, Int.reduceBEq, Int.reduceLT, Int.reduceNeg]
  exact fin (d := ⟨0, 2, bs.length⟩) (by unfold magS; rw [if_pos hl4]) R3 (k3.trans (fun c hc _ => k4 c hc) (by omega)) (by omega)
theorem BsOk.drop {l : List Nat} (h : BsOk l) (k : Nat) : BsOk (l.drop k) := fun x hx => h x (List.mem_of_mem_drop hx)
theorem ble_f {n m : Nat} (h : 0 < m) : Nat.ble (n + m) n = false := by
 cases hb : Nat.ble (n + m) n with
 | false => rfl
 | true => have := Nat.le_of_ble_eq_true hb; omega
theorem flat_apps (l m : List Nat) : flat encB (l ++ m) = flat encB l ++ flat encB m := by
 induction l with
 | nil => rfl
 | cons x l ih => show encB x ++ flat encB (l ++ m) = _; rw [ih]; rfl
theorem EK_appm {h : Hp} {nx b2 c2 : Nat} {sp2 : Option Nat} {ro : Bool} {v : Value} {l m : List Nat} {o : Option Nat} (g : Gr h encB 1 v l o) (h2 : hget h b2 = some (.cells (flat encB m) ro)) (hm : m ≠ []) (hsz : l.length + m.length ≤ 1000000) {K : Value → Hp → Nat → Prop}
  (hK : ∀ h', hget h' nx = some (.cells (flat encB (l ++ m)) false) → (∀ c, c ≠ nx → o ≠ some c → hget h' c = hget h c) → K (.slice (some ⟨nx, 0, some 1⟩) (l ++ m).length (l ++ m).length) h' (nx + 1)) : EK (orR (appendA 1 h nx v (.slice (some ⟨b2, 0, sp2⟩) m.length c2))) K := by
 have hm0 : 0 < m.length := by cases m with
  | nil => exact absurd rfl hm
  | cons a b => simp
 have hr : ∀ k : List Value → R OR, readA h (some ⟨b2, 0, sp2⟩) (m.length.mul 1) k = k (flat encB m) := fun k => by
  rw [show m.length.mul 1 = m.length from Nat.mul_one _, readA_eq h2 (by omega) (by rw [encB_len]; omega), List.drop_zero, List.take_of_length_le (by rw [encB_len]; exact Nat.le_refl _)]
 have e2 : (Nat.ble (Nat.mul (Nat.add l.length m.length) 1) 1000000 && Nat.ble (Nat.add l.length m.length) 1000000) = true := by
  simp only [Bool.and_eq_true, Nat.ble_eq]
  exact ⟨by show (l.length + m.length) * 1 ≤ _; omega, hsz⟩
 rw [List.length_append] at hK
 cases g with
 | nil =>
  show EK (orR (readA h (some ⟨b2, 0, sp2⟩) (m.length.mul 1) (fun new => appGo 1 h nx none 0 0 m.length new))) K
  rw [hr]
  unfold appGo
  rw [show Nat.ble (Nat.add 0 m.length) 0 = false from ble_f hm0, show (Nat.ble (Nat.mul (Nat.add 0 m.length) 1) 1000000 && Nat.ble (Nat.add 0 m.length) 1000000) = true from e2]
  exact hK (hset h nx (.cells (flat encB m) false)) (hnew _ _ _) (fun c hc _ => hold hc)
 | @own b _ hb =>
  show EK (orR (readA h (some ⟨b2, 0, sp2⟩) (m.length.mul 1) (fun new => appGo 1 h nx (some ⟨b, 0, some 1⟩) l.length l.length m.length new))) K
  rw [hr]
  unfold appGo
  rw [show Nat.ble (Nat.add l.length m.length) l.length = false from ble_f hm0, e2]
  show EK (orR (appUp h nx 1 (some ⟨b, 0, some 1⟩) l.length l.length (l.length + m.length) (flat encB m))) K
  unfold appUp
  simp only [cellsOf_some hb]
  rw [show lcut (Nat.mul l.length 1) (ldrop (flat encB l) 0) = some (flat encB l) by
   rw [ldrop_eq, List.drop_zero, lcut_eq, if_pos (by rw [encB_len]; show l.length * 1 ≤ _; omega), List.take_of_length_le (by rw [encB_len]; show _ ≤ l.length * 1; omega)]]
  have hc : cellL (flat encB m) = true := by
   clear hr h2 hm hm0 hsz hK e2
   induction m with
   | nil => rfl
   | cons x m ih => exact ih
  show EK (orR (bif (!false && Nat.beq 0 0 && Nat.beq (llen (flat encB l)) (Nat.mul l.length 1) && Nat.beq 1 1 && Nat.beq l.length l.length && cellL (flat encB m)) then _ else _)) K
  rw [show (!false && Nat.beq 0 0 && Nat.beq (llen (flat encB l)) (Nat.mul l.length 1) && Nat.beq 1 1 && Nat.beq l.length l.length && cellL (flat encB m)) = true by
   rw [llen_eq, encB_len, hc]; simp, lapp_eq, ← flat_apps]
  exact hK (hset (hdel h b) nx (.cells (flat encB (l ++ m)) false)) (hnew _ _ _) (fun c hc hne => by rw [hgs, if_neg hc, hgd, if_neg (fun e => hne (by rw [e]))])
 | @part b o _ cs ro hb hl hc =>
  show EK (orR (readA h (some ⟨b2, 0, sp2⟩) (m.length.mul 1) (fun new => appGo 1 h nx (some ⟨b, o, none⟩) l.length l.length m.length new))) K
  rw [hr]
  unfold appGo
  rw [show Nat.ble (Nat.add l.length m.length) l.length = false from ble_f hm0, e2]
  show EK (orR (appUp h nx 1 (some ⟨b, o, none⟩) l.length l.length (l.length + m.length) (flat encB m))) K
  unfold appUp
  simp only [cellsOf_some hb]
  rw [show lcut (Nat.mul l.length 1) (ldrop cs o) = some (flat encB l) by
   rw [ldrop_eq, lcut_eq, if_pos (by rw [List.length_drop]; show l.length * 1 ≤ _; omega), show Nat.mul l.length 1 = l.length * 1 from rfl, hc]]
  show EK (orR (growN h nx 1 (lapp (flat encB l) (flat encB m)) (l.length + m.length))) K
  rw [lapp_eq, ← flat_apps]
  exact hK (hset h nx (.cells (flat encB (l ++ m)) false)) (hnew _ _ _) (fun c hc _ => hold hc)
def leB : Nat → Nat → List Nat
 | 0, _ => []
 | k + 1, n => n % 256 :: leB k (n / 256)
theorem leB_len : ∀ (k n : Nat), (leB k n).length = k
 | 0, _ => rfl
 | k + 1, n => by show (leB k (n / 256)).length + 1 = _; rw [leB_len k]
theorem leB_get : ∀ {k n i : Nat}, i < k → (leB k n)[i]? = some (n / 256 ^ i % 256)
 | k + 1, n, 0, _ => by show some (n % 256) = _; rw [Nat.pow_zero, Nat.div_one]
 | k + 1, n, i + 1, h => by
  show (leB k (n / 256))[i]? = _
  rw [leB_get (show i < k by omega), Nat.div_div_eq_div_mul, Nat.pow_succ, Nat.mul_comm]
theorem leB_ok : ∀ (k n : Nat), BsOk (leB k n)
 | 0, _ => fun x hx => by cases hx
 | k + 1, n => fun x hx => by
  rcases List.mem_cons.1 hx with rfl | h
  ·omega
  ·exact leB_ok k _ x h
theorem bin_shrN {P : Program} {t : TypeId} {a k : Nat} (hk : k < 64) : bin P .shr t (.int .u64 (a : Int)) (.int .u64 (k : Int)) = .ok (.int .u64 ((a / 2 ^ k : Nat) : Int)) := by
 show iShift .shr .u64 (a : Int) (k : Int) = _
 unfold iShift
 rw [show iblt (k : Int) 0 = false by rw [iblt_dec]; exact decide_eq_false (by omega)]
 show R.ok (Value.int .u64 ((a : Int).fdiv (2 ^ (min (k : Int).toNat 64)))) = _
 rw [show min (k : Int).toNat 64 = k by simp; omega, Int.fdiv_eq_ediv_of_nonneg _ (by exact Int.le_of_lt (Int.pow_pos (by omega)))]
 have : (a : Int) / (2 : Int) ^ k = ((a / 2 ^ k : Nat) : Int) := by norm_cast
 rw [this]
theorem wrapU8 {n : Nat} : IntKind.wrap .u8 (n : Int) = ((n % 256 : Nat) : Int) := by
 unfold IntKind.wrap
 simp [IntKind.bits, IntKind.signed]
theorem conv_u8 {k : IntKind} {n : Nat} : oConv (.int .u8) (.int k (n : Int)) = .ok (.int .u8 ((n % 256 : Nat) : Int)) := by
 rw [conv_int]
 rw [wrapU8]
theorem flat_map : ∀ l : List Nat, flat encB l = l.map fun (x : Nat) => Value.int .u8 (x : Int)
 | [] => rfl
 | x :: l => by show encB x ++ flat encB l = _; rw [flat_map l]; rfl
theorem flat_set {l : List Nat} {i x : Nat} : (flat encB l).set i (.int .u8 (x : Int)) = flat encB (l.set i x) := by
 rw [flat_map, flat_map, List.map_set]
theorem set_next {l : List Nat} {k i x : Nat} (hl : l.length = k) (h : i < k) (hx : l[i]? = some x) : (l.take i ++ List.replicate (k - i) 0).set i x = l.take (i + 1) ++ List.replicate (k - (i + 1)) 0 := by
 have e : (l.take i).length = i := by simp; omega
 rw [List.set_append_right _ _ (by omega), e, Nat.sub_self, show k - i = k - (i + 1) + 1 by omega, List.replicate_succ, List.set_cons_zero, List.take_add_one, hx]
 simp
def BynJ (k n : Nat) (b : Nat) (h0 : Hp) (nx0 : Nat) (m : Nat) (vs : List Value) (h : Hp) (nx : Nat) : Prop := ∃ i, m = k - i ∧ i ≤ k ∧ vs = [.int .u64 (n : Int), .slice (some ⟨b, 0, none⟩) k k, .int .i64 (k : Int), .int .i64 (i : Int)] ∧ hget h b = some (.cells (flat encB ((leB k n).take i ++ List.replicate (k - i) 0)) false) ∧ Keep b h0 h ∧ nx = nx0
theorem bytesn_c {s : Bool} {h : Hp} {nx n : Nat} (hn : n < 18446744073709551616) : Cv Q O s 179 [.int .u64 (n : Int), .int .i64 4] h nx (fun v h' nx' => v = .slice (some ⟨nx, 0, none⟩) 4 4 ∧ hget h' nx = some (.cells (flat encB (leB 4 n)) false) ∧ Keep nx h h' ∧ nx' = nx + 1) := by
 refine bytesnv ?_
 unfold bytesn
 have m4 : vMks [.int .u8 0] (.int .i64 4) (.int .i64 4) = .ok (.slice (.cells (List.replicate 4 (.int .u8 0)) false) 4 4) := mks_i (n := 4) (by omega)
 simp (disch := omega) only [SS, ↓reduceIte, Nat.reduceAdd, Nat.reduceSub, Nat.reduceMul, Nat.reduceLT, Nat.reduceLeDiff, Nat.reduceEqDiff, Int.reduceBEq, Int.reduceLT, Int.reduceNeg, m4]
 refine Lp.mk (BynJ 4 n nx (hset h nx (.cells (List.replicate 4 (.int .u8 0)) false)) (nx + 1)) 4 ⟨0, rfl, by omega, rfl, hnew _ _ _, Keep.refl _ _, rfl⟩ ?_
 rintro m _ h1 n1 ⟨i, rfl, hi, rfl, g, k1, rfl⟩
 rw [bytesnb0]
 unfold bytesnl0
 by_cases h4 : i < 4
 ·have w8 : IntKind.wrap .u64 (i : Int) = (i : Int) := wrapUw (by omega)
  have w9 : bin Q .mul 236 (.int .u64 8) (.int .u64 (i : Int)) = .ok (.int .u64 ((8 * i : Nat) : Int)) := by
   rw [bin_mul]
   rw [show (8 : Int) * (i : Int) = ((8 * i : Nat) : Int) by omega, wrapUw (by omega)]
  have w10 := bin_shrN (P := Q) (t := 221) (a := n) (k := 8 * i) (by omega)
  simp (disch := omega) only [SS, ↓reduceIte, Nat.reduceAdd, Nat.reduceSub, Nat.reduceMul, Nat.reduceLT, Nat.reduceLeDiff, Nat.reduceEqDiff, Int.reduceBEq, Int.reduceLT, Int.reduceNeg, w8, w9, w10, conv_u8, g, show (i : Int) < ((4 : Nat) : Int) by omega]
  have hp : n / 2 ^ (8 * i) = n / 256 ^ i := by rw [show (256 : Nat) = 2 ^ 8 from rfl, ← Nat.pow_mul]
  have hlen : ((leB 4 n).take i ++ List.replicate (4 - i) 0).length = 4 := by simp [leB_len]; omega
  refine ⟨⟨by rw [encB_len, hlen]; omega, 4 - (i + 1), by omega, i + 1, rfl, by omega, by rw [wrapS (by omega) (by omega)]; rfl, ?_, fun c hc => (hold (by omega)).trans (k1 c hc), rfl⟩, fun h => absurd trivial h⟩
  rw [hnew, wrapU8, hp, flat_set, set_next (leB_len _ _) h4 (leB_get h4)]
 ·obtain rfl : i = 4 := by omega
  simp (disch := omega) only [SS, ↓reduceIte, Nat.reduceAdd, Nat.reduceSub, Nat.reduceMul, Nat.reduceLT, Nat.reduceLeDiff, Nat.reduceEqDiff, Int.reduceBEq, Int.reduceLT, Int.reduceNeg]
  refine fun _ => ⟨?_, fun c hc => (k1 c hc).trans (hold (by omega))⟩
  rw [g, List.take_of_length_le (by rw [leB_len]; omega)]
  simp
def OwB (h : Hp) (lo hi : Nat) (v : Value) (l : List Nat) : Prop := ∃ o, OwK h encB 1 v l o ∧ ∀ b, o = some b → lo ≤ b ∧ b < hi
theorem OwB.keep {h h' : Hp} {lo hi hi' : Nat} {v : Value} {l : List Nat} (w : OwB h lo hi v l) (hk : ∀ c, lo ≤ c → c < hi → hget h' c = hget h c) (hh : hi ≤ hi') : OwB h' lo hi' v l := by
 obtain ⟨o, g, hb⟩ := w
 exact ⟨o, g.keep fun c hc => hk c (hb c hc).1 (hb c hc).2, fun c hc => ⟨(hb c hc).1, by have := (hb c hc).2; omega⟩⟩
theorem OwB.px {h : Hp} {lo hi nx : Nat} {v : Value} {l : List Nat} (w : OwB h lo hi v l) (hh : hi ≤ nx) : SlPx h nx v encB l := by
 obtain ⟨o, ⟨rfl, rfl, rfl⟩ | ⟨b, rfl, rfl, hg⟩, hb⟩ := w
 ·exact ⟨none, 0, rfl, fun h => absurd rfl h⟩
 ·exact ⟨_, _, rfl, fun _ => ⟨b, some 1, false, [], by have := (hb b rfl).2; omega, rfl, by rw [List.append_nil]; exact hg⟩⟩
theorem OwB.nil {h : Hp} {lo hi : Nat} : OwB h lo hi (.slice none 0 0) [] := ⟨none, .inl ⟨rfl, rfl, rfl⟩, fun b e => by cases e⟩
theorem OwB.rd {h : Hp} {lo hi nx : Nat} {v : Value} {l : List Nat} (w : OwB h lo hi v l) (hh : hi ≤ nx) : SlRd h nx v encB l := by
 obtain ⟨o, ⟨rfl, rfl, rfl⟩ | ⟨b, rfl, rfl, hg⟩, hb⟩ := w
 ·exact ⟨none, 0, rfl, fun h => absurd rfl h⟩
 ·exact ⟨_, _, rfl, fun _ => ⟨b, some 1, false, by have := (hb b rfl).2; omega, rfl, hg⟩⟩
theorem put32_c {s : Bool} {h : Hp} {nx n : Nat} (hn : n < 4294967296) : Cv Q O s 79 [.int .u32 (n : Int)] h nx (fun v h' nx' => v = .slice (some ⟨nx, 0, none⟩) 4 4 ∧ hget h' nx = some (.cells (flat encB (leB 4 n)) false) ∧ Keep nx h h' ∧ nx' = nx + 1) := by
 refine put32v ?_
 unfold put32
 rw [conv_u64 (P := 0) (by omega), RK_ok]
 exact bytesn_c (by omega)
theorem enc1_c {s : Bool} {m : Mv} {h : Hp} {nx : Nat} : Cv Q O s 75 [.agg ⟨encM m⟩] h nx (EqK (.bool (!rightM m)) nx h) := by
 refine enc1v ?_
 unfold enc1
 have vc : vcells (.agg ⟨encM m⟩) = encM m := rfl
 have nb : cellsNB (encM m) = .ok (.ptr (.cells (encM m) false)) := rfl
 have lm : loadC (some 4) 0 (encM m) = .ok (.agg ⟨encM m⟩) := rfl
 rw [vc, nb]
 simp (disch := omega) only [SS, ↓reduceIte, Nat.reduceAdd, Nat.reduceSub, Nat.reduceMul, Nat.reduceLT, Nat.reduceLeDiff, Nat.reduceEqDiff, Int.reduceBEq, Int.reduceLT, Int.reduceNeg, lm]
 refine (plright_c (m := m)).mono ?_
 rintro _ h2 n2 ⟨rfl, k2, l2⟩
 simp (disch := omega) only [SS, ↓reduceIte, Nat.reduceAdd, Nat.reduceSub, Nat.reduceMul, Nat.reduceLT, Nat.reduceLeDiff, Nat.reduceEqDiff, Int.reduceBEq, Int.reduceLT, Int.reduceNeg]
 exact ⟨rfl, fun c hc => (k2 c (by omega)).trans (hold (by omega)), by omega⟩
def mv4 (m : Mv) : List Nat := [(m.1 % 256).toNat, (m.2.1 % 256).toNat, (m.2.2.1 % 256).toNat, (m.2.2.2 % 256).toNat]
theorem wrapU8i {n : Int} : IntKind.wrap .u8 n = ((n % 256).toNat : Int) := by
 unfold IntKind.wrap
 simp [IntKind.bits, IntKind.signed]
 omega
theorem enc2_c {s : Bool} {m : Mv} {h : Hp} {nx : Nat} : Cv Q O s 77 [.agg ⟨encM m⟩] h nx (fun v h' nx' => ∃ b, v = .slice (some ⟨b, 0, none⟩) 4 4 ∧ nx ≤ b ∧ b < nx' ∧ hget h' b = some (.cells (flat encB (mv4 m)) false) ∧ Keep nx h h') := by
 refine enc2v ?_
 unfold enc2 encM
 simp (disch := omega) only [SS, ↓reduceIte, Nat.reduceAdd, Nat.reduceSub, Nat.reduceMul, Nat.reduceLT, Nat.reduceLeDiff, Nat.reduceEqDiff, Int.reduceBEq, Int.reduceLT, Int.reduceNeg, wrapU8i]
 exact ⟨nx + 1, rfl, by omega, by omega, hnew _ _ _, fun c hc => (hold (by omega)).trans (hold (by omega))⟩
def mvs (l : List Mv) : List Nat := l.flatMap mv4
theorem mvs_len (l : List Mv) : (mvs l).length = 4 * l.length := by
 induction l with
 | nil => rfl
 | cons x l ih => show (mv4 x ++ mvs l).length = _; rw [List.length_append, ih]; show 4 + _ = _; simp; omega
theorem mvs_take {l : List Mv} {i : Nat} {x : Mv} (h : l[i]? = some x) : mvs (l.take (i + 1)) = mvs (l.take i) ++ mv4 x := by
 unfold mvs
 rw [List.take_add_one, h, List.flatMap_append]
 simp
def WriJ (l : List Mv) (v fv : Value) (lo : Nat) (h0 : Hp) (m : Nat) (vs : List Value) (h : Hp) (nx : Nat) : Prop := ∃ i w, m = l.length - i ∧ i ≤ l.length ∧ vs = [fv, w, v, .int .i64 (l.length : Int), .int .i64 (i : Int)] ∧ OwB h lo nx w (mvs (l.take i)) ∧ Keep lo h0 h ∧ lo ≤ nx
theorem written_c {s : Bool} {v : Value} {l : List Mv} {h : Hp} {nx : Nat} (hv : SlRd h nx v encM l) (hl : l.length < 100000) :
  Cv Q O s 76 [v, .func (.func 77) #[] #[]] h nx (fun w h' nx' => OwB h' nx nx' w (mvs l) ∧ Keep nx h h' ∧ nx ≤ nx') := by
 refine writtenv ?_
 obtain ⟨a, cap, rfl, hc⟩ := id hv
 unfold written
 simp (disch := omega) only [SS, ↓reduceIte, Nat.reduceAdd, Nat.reduceSub, Nat.reduceMul, Nat.reduceLT, Nat.reduceLeDiff, Nat.reduceEqDiff, Int.reduceBEq, Int.reduceLT, Int.reduceNeg]
 refine Lp.mk (WriJ l (.slice a l.length cap) (.func (.func 77) #[] #[]) nx h) l.length ⟨0, _, rfl, by omega, rfl, OwB.nil, Keep.refl _ _, Nat.le_refl _⟩ ?_
 rintro m _ h1 n1 ⟨i, w, rfl, hi, rfl, g, k1, l1⟩
 rw [writtenb0]
 unfold writtenl0
 simp (disch := omega) only [SS, ↓reduceIte, Nat.reduceAdd, Nat.reduceSub, Nat.reduceMul, Nat.reduceLT, Nat.reduceLeDiff, Nat.reduceEqDiff, Int.reduceBEq, Int.reduceLT, Int.reduceNeg]
 refine ⟨fun hlt => ?_, fun hge => ?_⟩
 ·have hlt : i < l.length := by omega
  obtain ⟨x, hx⟩ := get_ex hlt
  obtain ⟨_, b, sp, ro, c1, hbn, e1, hg⟩ := hv.at hx
  cases e1
  have hg1 := (k1 b hbn).trans hg
  have w4 : ∀ {h : Hp} {b : Nat} {m : Mv}, wrO (some (AObj.cells [.int .i64 0, .int .i64 0, .int .i64 0, .int .i64 0] false)) h b 0 (encM m) = .ok (hset h b (.cells (encM m) false)) := fun {h b m} => rfl
  have vc : vcells (.agg ⟨encM x⟩) = encM x := rfl
  have lm : loadC (some 4) 0 (encM x) = .ok (.agg ⟨encM x⟩) := rfl
  simp (disch := omega) only [SS, ↓reduceIte, Nat.reduceAdd, Nat.reduceSub, Nat.reduceMul, Nat.reduceLT, Nat.reduceLeDiff, Nat.reduceEqDiff, Int.reduceBEq, Int.reduceLT, Int.reduceNeg, hg1, rdF (enc := encM) (k := 4) (fun _ => rfl) hx, vc, w4, lm]
  refine ⟨rfl, ?_⟩
  refine (enc2_c (m := x)).mono ?_
  rintro _ h3 n3 ⟨q, rfl, q1, q2, gq, k3⟩
  obtain ⟨o, g, hb⟩ := g
  have g3 := g.keep (h' := h3) fun c hc => by
   have := (hb c hc).2
   rw [k3 c (by omega), hold (by omega), hold (by omega)]
  refine EK_appm (m := mv4 x) g3.gr gq (by unfold mv4; simp) (by rw [mvs_len, List.length_take]; show _ + 4 ≤ _; omega) fun h5 a5 b5 => ?_
  rw [← mvs_take hx] at a5 ⊢
  refine ⟨l.length - (i + 1), by omega, i + 1, _, rfl, by omega, by rw [wrapS (by omega) (by omega)]; rfl, ⟨some n3, .inr ⟨_, rfl, rfl, a5⟩, fun b e => ?_⟩, fun c hc => ?_, by omega⟩
  ·cases e; omega
  ·refine (b5 c (by omega) fun e => ?_).trans ((k3 c (by omega)).trans ((hold (by omega)).trans ((hold (by omega)).trans (k1 c hc))))
   have := (hb c e).1; omega
 ·obtain rfl : i = l.length := by omega
  refine ⟨?_, k1, l1⟩
  rw [List.take_length] at g
  exact g
theorem cellL_flat : ∀ l : List Nat, cellL (flat encB l) = true
 | [] => rfl
 | x :: l => cellL_flat l
theorem app_many {h : Hp} {nx b k n : Nat} {acc y : List Nat} {cs : List Value} {v2 : Value} (hb : hget h b = some (.cells (flat encB acc ++ cs) false)) (hk : acc.length = k) (hn : k + y.length ≤ n) (hcs : cs.length = (n - k) * 1) (hv : SlPx h nx v2 encB y) :
  ∃ h', appendA 1 h nx (.slice (some ⟨b, 0, some 1⟩) k n) v2 = .ok (.val (.slice (some ⟨b, 0, some 1⟩) (k + y.length) n) h' nx) ∧ hget h' b = some (.cells (flat encB (acc ++ y) ++ cs.drop (y.length * 1)) false) ∧ ∀ c, c ≠ b → hget h' c = hget h c := by
 obtain ⟨a2, c2, rfl, hc⟩ := hv
 by_cases h0 : y = []
 ·subst h0
  refine ⟨h, ?_, by rw [List.append_nil, List.length_nil, Nat.zero_mul, List.drop_zero]; exact hb, fun c _ => rfl⟩
  have hr : ∀ (K : List Value → R OR), readA h a2 (Nat.mul 0 1) K = K [] := fun K => by
   cases a2 <;> rfl
  show readA h a2 (Nat.mul 0 1) (fun new => appGo 1 h nx (some ⟨b, 0, some 1⟩) k n 0 new) = _
  rw [hr]
  unfold appGo
  rw [show Nat.ble (Nat.add k 0) n = true from Nat.ble_eq_true_of_le (by simpa using hn)]
  rfl
 ·obtain ⟨b2, sp, ro, cs2, hb2, rfl, hg⟩ := hc h0
  have hyl : 0 < y.length := List.length_pos_iff.2 h0
  have hfl := flat_len (enc := encB) (k := 1) (fun _ => rfl) (l := y)
  have hfa := flat_len (enc := encB) (k := 1) (fun _ => rfl) (l := acc)
  show ∃ h', readA h (some ⟨b2, 0, sp⟩) (Nat.mul y.length 1) (fun new => appGo 1 h nx (some ⟨b, 0, some 1⟩) k n y.length new) = _ ∧ _
  rw [show Nat.mul y.length 1 = y.length * 1 from rfl, readA_eq hg (by omega) (by rw [List.length_append, hfl]; omega), List.drop_zero, ← hfl, List.take_left]
  unfold appGo
  rw [show Nat.ble (Nat.add k y.length) n = true from Nat.ble_eq_true_of_le hn]
  obtain ⟨x, r, hxr⟩ : ∃ x r, flat encB y = x :: r := by
   cases hf : flat encB y with
   | nil => rw [hf] at hfl; simp at hfl; omega
   | cons x r => exact ⟨x, r, rfl⟩
  have hw : writeA h b (Nat.add 0 (Nat.mul k 1)) (flat encB y) = .ok (hset h b (.cells (flat encB (acc ++ y) ++ cs.drop (y.length * 1)) false)) := by
   rw [show Nat.add 0 (Nat.mul k 1) = k * 1 from Nat.zero_add _, writeA_cells hb (cellL_flat y) (by rw [List.length_append, hfa, hfl, hcs, hk]; omega)]
   have e1 : (flat encB acc ++ cs).take (k * 1) = flat encB acc := by rw [← hk, ← hfa, List.take_left]
   have e2 : (flat encB acc ++ cs).drop (k * 1 + (flat encB y).length) = cs.drop (y.length * 1) := by rw [← hk, ← hfa, hfl, List.drop_length_add_append]
   rw [e1, e2, flat_apps]
  refine ⟨hset h b (.cells (flat encB (acc ++ y) ++ cs.drop (y.length * 1)) false), ?_, by rw [hgs, if_pos rfl, hfl], fun c hc => by rw [hgs, if_neg hc]⟩
  rw [hxr] at hw ⊢
  show R.bind (writeA h b (Nat.add 0 (Nat.mul k 1)) (x :: r)) _ = _
  rw [hw]; rfl
theorem cap22 {P : Program} {x : Value} {n : Nat} : vCap Tryz.prog (.builtin .cap) [51] [.slice none 0 0] = .ok (.int .i64 0) := by kernel_rfl
theorem ze1 : elemOfS Tryz.prog 51 = some 5 := by kernel_rfl
theorem ze2 : szOf Tryz.prog 5 = some 1 := by kernel_rfl
theorem ze3 : zeroOf Tryz.prog 5 = some [.int .u8 0] := by kernel_rfl
theorem ze4 : smallT Tryz.prog 5 = true := by kernel_rfl
theorem ze5 : isIntT Tryz.prog (some 3) = true := by kernel_rfl
theorem repL_len (n : Nat) (z : List Value) : (repL n z).length = n * z.length := by
 induction n with
 | zero => simp [repL]
 | succ n ih => simp [repL, ih, Nat.add_mul, lapp_eq]; omega
theorem apz {n : Nat} {h : Hp} {nx : Nat} (h0 : 0 < n) (h1 : n ≤ 500000) : builtinA Tryz.prog .append [51, 3] h nx [.slice none 0 0, .int .i64 (n : Int)] = .ok (.val (.slice (some ⟨nx, 0, some 1⟩) n n) (hset h nx (.cells (repL n [.int .u8 0]) false)) (nx + 1)) := by
 show R.of "append" (elemOfS Tryz.prog 51) (fun e => R.of "append" (szOf Tryz.prog e) (fun s => R.of "append" (zeroOf Tryz.prog e) (fun z => bif Nat.beq (llen z) s && smallT Tryz.prog e then append2 Tryz.prog [51, 3] z s h nx (.slice none 0 0) (.int .i64 (n : Int)) else .no "append - element"))) = _
 rw [ze1]
 show R.of "append" (szOf Tryz.prog 5) (fun s => R.of "append" (zeroOf Tryz.prog 5) (fun z => bif Nat.beq (llen z) s && smallT Tryz.prog 5 then append2 Tryz.prog [51, 3] z s h nx (.slice none 0 0) (.int .i64 (n : Int)) else .no "append - element")) = _
 rw [ze2, ze3, ze4]
 show append2 Tryz.prog [51, 3] [.int .u8 0] 1 h nx (.slice none 0 0) (.int .i64 (n : Int)) = _
 unfold append2
 rw [show lget [51, 3] 1 = some 3 from rfl, ze5]
 show (bif Nat.ble n 1000000 then appGo 1 h nx none 0 0 n (repL n [.int .u8 0]) else .no "append") = _
 rw [show Nat.ble n 1000000 = true from Nat.ble_eq_true_of_le (by omega)]
 show appGo 1 h nx none 0 0 n _ = _
 unfold appGo
 rw [show Nat.ble (Nat.add 0 n) 0 = false from by
  cases hb : Nat.ble (Nat.add 0 n) 0 with
  | false => rfl
  | true => have := Nat.le_of_ble_eq_true hb; have e : Nat.add 0 n = n := Nat.zero_add n; omega]
 rw [show (Nat.ble (Nat.mul (Nat.add 0 n) 1) 1000000 && Nat.ble (Nat.add 0 n) 1000000) = true from by
  rw [show Nat.add 0 n = n from Nat.zero_add n]
  simp only [Bool.and_eq_true, Nat.ble_eq]
  constructor
  ·show n * 1 ≤ _; omega
  ·omega]
 show growN h nx 1 _ (Nat.add 0 n) = _
 rw [show Nat.add 0 n = n from Nat.zero_add n]
 exact growN_eq (by omega)
theorem growb_c {s : Bool} {n : Nat} {h : Hp} {nx : Nat} (hn : n ≤ 500000) : Cv Q O s 178 [.slice none 0 0, .int .i64 (n : Int)] h nx (fun r h' nx' => (n = 0 ∧ r = .slice none 0 0 ∧ h' = h ∧ nx' = nx) ∨ (0 < n ∧ r = .slice (some ⟨nx, 0, some 1⟩) 0 n ∧ (∃ cs, hget h' nx = some (.cells cs false) ∧ cs.length = n * 1) ∧ Keep nx h h' ∧ nx' = nx + 1)) := by
 refine growbv ?_
 unfold growb
 rw [cap22 (P := Tryz.prog) (x := .nilFunc) (n := 0)]
 have w0 : IntKind.wrap .i64 (0 - ((0 : Nat) : Int)) = 0 := by rfl
 have w1 : IntKind.wrap .i64 ((n : Int) - 0) = (n : Int) := by rw [Int.sub_zero]; exact wrapN n (by omega)
 simp (disch := omega) only [SS, ↓reduceIte, Nat.reduceAdd, Nat.reduceSub, Nat.reduceMul, Nat.reduceLT, Nat.reduceLeDiff, Nat.reduceEqDiff, Int.reduceBEq, Int.reduceLT, Int.reduceNeg, w0, w1]
 refine ⟨fun h => absurd h (by omega), fun _ => ⟨fun h0 => ?_, fun h0 => .inl (by omega)⟩⟩
 rw [show vSl 1 (.slice none 0 0) none (some (.int .i64 0)) none = .ok (.slice none 0 0) from rfl, RK_ok, show Q = Tryz.prog from rfl, apz (by omega) hn]
 show RK (vSl 1 (.slice (some ⟨nx, 0, some 1⟩) n n) none (some (.int .i64 ((0 : Nat) : Int))) none) _
 have hsl : vSl 1 (.slice (some ⟨nx, 0, some 1⟩) n n) none (some (.int .i64 ((0 : Nat) : Int))) none = .ok (.slice (some ⟨nx, 0, some 1⟩) 0 n) := by
  obtain ⟨m, rfl⟩ : ∃ m, n = m + 1 := ⟨n - 1, by omega⟩
  show sliceV 1 (some ⟨nx, 0, some 1⟩) (m + 1) false (m + 1) 0 0 = _
  unfold sliceV
  rw [show (Nat.ble (m + 1) (m + 1) && (Nat.ble 0 (m + 1) && Nat.ble 0 0)) = true by simp only [Bool.and_eq_true, Nat.ble_eq]; omega]
  rfl
 rw [hsl, RK_ok]
 exact .inr ⟨by omega, rfl, ⟨_, hnew _ _ _, by rw [repL_len]; simp⟩, fun c hc => hold (by omega), rfl⟩
def ac2 (l1 l2 l3 : List Nat) : Nat → List Nat
 | 0 => []
 | 1 => l1
 | 2 => l1 ++ l2
 | _ => l1 ++ l2 ++ l3
def CcJ0 (l1 l2 l3 : List Nat) (p : Nat) (h : Hp) (nx : Nat) (m : Nat) (vs : List Value) (h' : Hp) (nx' : Nat) : Prop :=
 ∃ i, m = 3 - i ∧ i ≤ 3 ∧ vs = [.slice (some ⟨p, 0, none⟩) 3 3, .int .i64 ((ac2 l1 l2 l3 i).length : Int), .slice (some ⟨p, 0, none⟩) 3 3, .int .i64 3, .int .i64 (i : Int)] ∧ h' = h ∧ nx' = nx
def CcO (h : Hp) (lo hi n : Nat) (acc : List Nat) (o : Value) : Prop := (n = 0 ∧ acc = [] ∧ o = .slice none 0 0) ∨ ∃ b cs, lo ≤ b ∧ b < hi ∧ o = .slice (some ⟨b, 0, some 1⟩) acc.length n ∧ hget h b = some (.cells (flat encB acc ++ cs) false) ∧ cs.length = (n - acc.length) * 1
def CcJ1 (l1 l2 l3 : List Nat) (n p : Nat) (h : Hp) (nx : Nat) (m : Nat) (vs : List Value) (h' : Hp) (nx' : Nat) : Prop :=
 ∃ (i : Nat) (o : Value), m = 3 - i ∧ i ≤ 3 ∧ vs = [o, .slice (some ⟨p, 0, none⟩) 3 3, .int .i64 3, .int .i64 (i : Int)] ∧ CcO h' nx nx' n (ac2 l1 l2 l3 i) o ∧ Keep nx h h' ∧ nx ≤ nx'
theorem concb_c {s : Bool} {p c : Nat} {l1 l2 l3 : List Nat} {v1 v2 v3 : Value} {ro : Bool} {h : Hp} {nx : Nat} (hp : hget h p = some (.cells [v1, v2, v3] ro)) (hpn : p < nx) (h1 : SlPx h nx v1 encB l1) (h2 : SlPx h nx v2 encB l2) (h3' : SlPx h nx v3 encB l3) (hl : l1.length + l2.length + l3.length ≤ 500000) :
  Cv Q O s 78 [.slice (some ⟨p, 0, none⟩) 3 3] h nx (fun r h' nx' => OwB h' nx nx' r (l1 ++ l2 ++ l3) ∧ Keep nx h h' ∧ nx ≤ nx') := by
 refine concbv ?_
 obtain ⟨a1, c1, rfl, hc1⟩ := id h1
 obtain ⟨a2, c2, rfl, hc2⟩ := id h2
 obtain ⟨a3, c3, rfl, hc3⟩ := id h3'
 unfold concb
 simp (disch := omega) only [SS, ↓reduceIte, Nat.reduceAdd, Nat.reduceSub, Nat.reduceMul, Nat.reduceLT, Nat.reduceLeDiff, Nat.reduceEqDiff, Int.reduceBEq, Int.reduceLT, Int.reduceNeg]
 refine Lp.mk (CcJ0 l1 l2 l3 p h nx) 3 ⟨0, rfl, by omega, rfl, rfl, rfl⟩ ?_
 rintro m _ h3 nx3 ⟨i, rfl, hi, rfl, e1, e2⟩
 rw [e1, e2, concbb0]
 unfold concbl0
 match i, hi with
 | 0, _ =>
  have w : IntKind.wrap .i64 (((ac2 l1 l2 l3 0).length : Int) + (l1.length : Int)) = ((ac2 l1 l2 l3 1).length : Int) := by
   rw [show ((ac2 l1 l2 l3 0).length : Int) + (l1.length : Int) = (l1.length : Int) by simp [ac2]]
   exact wrapN _ (by omega)
  simp (disch := omega) only [SS, ↓reduceIte, Nat.reduceAdd, Nat.reduceSub, Nat.reduceMul, Nat.reduceLT, Nat.reduceLeDiff, Nat.reduceEqDiff, Int.reduceBEq, Int.reduceLT, Int.reduceNeg, hp, w]
  exact ⟨fun _ => ⟨fun h => absurd h (by omega), fun _ => ⟨2, by omega, 1, rfl, by omega, rfl, rfl, rfl⟩⟩, fun h => absurd (show ((0 : Nat) : Int) < 3 by omega) h⟩
 | 1, _ =>
  have w : IntKind.wrap .i64 (((ac2 l1 l2 l3 1).length : Int) + (l2.length : Int)) = ((ac2 l1 l2 l3 2).length : Int) := by
   rw [show ((ac2 l1 l2 l3 1).length : Int) + (l2.length : Int) = ((l1.length + l2.length : Nat) : Int) by simp [ac2]]
   rw [wrapN _ (by omega)]; simp [ac2]
  simp (disch := omega) only [SS, ↓reduceIte, Nat.reduceAdd, Nat.reduceSub, Nat.reduceMul, Nat.reduceLT, Nat.reduceLeDiff, Nat.reduceEqDiff, Int.reduceBEq, Int.reduceLT, Int.reduceNeg, hp, w]
  exact ⟨fun _ => ⟨fun h => absurd h (by omega), fun _ => ⟨1, by omega, 2, rfl, by omega, rfl, rfl, rfl⟩⟩, fun h => absurd (show ((1 : Nat) : Int) < 3 by omega) h⟩
 | 2, _ =>
  have w : IntKind.wrap .i64 (((ac2 l1 l2 l3 2).length : Int) + (l3.length : Int)) = ((ac2 l1 l2 l3 3).length : Int) := by
   rw [show ((ac2 l1 l2 l3 2).length : Int) + (l3.length : Int) = ((l1.length + l2.length + l3.length : Nat) : Int) by simp [ac2]]
   rw [wrapN _ (by omega)]; simp [ac2, Nat.add_assoc]
  simp (disch := omega) only [SS, ↓reduceIte, Nat.reduceAdd, Nat.reduceSub, Nat.reduceMul, Nat.reduceLT, Nat.reduceLeDiff, Nat.reduceEqDiff, Int.reduceBEq, Int.reduceLT, Int.reduceNeg, hp, w]
  exact ⟨fun _ => ⟨fun h => absurd h (by omega), fun _ => ⟨0, by omega, 3, rfl, by omega, rfl, rfl, rfl⟩⟩, fun h => absurd (show ((2 : Nat) : Int) < 3 by omega) h⟩
 | 3, _ =>
  simp (disch := omega) only [SS, ↓reduceIte, Nat.reduceAdd, Nat.reduceSub, Nat.reduceMul, Nat.reduceLT, Nat.reduceLeDiff, Nat.reduceEqDiff, Int.reduceBEq, Int.reduceLT, Int.reduceNeg]
  refine ⟨fun h => absurd h (by omega), fun _ => ?_⟩
  have htot : (ac2 l1 l2 l3 3).length = l1.length + l2.length + l3.length := by simp [ac2, Nat.add_assoc]
  refine (growb_c (by omega)).mono ?_
  intro r h4 nx4 hg
  generalize hn : (ac2 l1 l2 l3 3).length = n at hg htot
  have st : CcO h4 nx nx4 n [] r ∧ Keep nx h h4 ∧ nx ≤ nx4 := by
   rcases hg with ⟨h0, rfl, rfl, rfl⟩ | ⟨h0, rfl, ⟨cs, hb, hcs⟩, hk, rfl⟩
   ·exact ⟨.inl ⟨h0, rfl, rfl⟩, Keep.refl _ _, Nat.le_refl _⟩
   ·exact ⟨.inr ⟨nx, cs, Nat.le_refl _, by omega, rfl, hb, by rw [hcs]; rfl⟩, hk, by omega⟩
  obtain ⟨st, hk4, hle4⟩ := st
  refine Lp.mk (CcJ1 l1 l2 l3 n p h nx) 3 ⟨0, r, rfl, by omega, rfl, st, hk4, hle4⟩ ?_
  clear st hk4 hle4 hg
  rintro m _ h5 nx5 ⟨i, o, rfl, hi, rfl, st, hk5, hle5⟩
  rw [concbb1]
  unfold concbl1
  have hp5 := (hk5 p hpn).trans hp
  have step : ∀ (j : Nat) (y : List Nat) (vy : Value), SlPx h nx vy encB y → ac2 l1 l2 l3 (j + 1) = ac2 l1 l2 l3 j ++ y → (ac2 l1 l2 l3 (j + 1)).length ≤ n → CcO h5 nx nx5 n (ac2 l1 l2 l3 j) o → j + 1 ≤ 3 →
    EK (orR (appendA 1 h5 nx5 o vy)) fun x23 h24 n25 => RK (bin Q .add 3 (.int .i64 (j : Int)) (.int .i64 1)) fun x26 => ∃ m', m' < 3 - j ∧ CcJ1 l1 l2 l3 n p h nx m' [x23, .slice (some ⟨p, 0, none⟩) 3 3, .int .i64 3, x26] h24 n25 := by
   intro j y vy hy he hlen st hj
   rcases st with ⟨hn0, hac, rfl⟩ | ⟨b, cs, hb1, hb2, rfl, hb, hcs⟩
   ·have hy0 : y = [] := by
     rw [he, hac, hn0] at hlen
     exact List.eq_nil_of_length_eq_zero (by simpa using hlen)
    subst hy0
    obtain ⟨a3, c3, rfl, _⟩ := hy
    have ea : appendA 1 h5 nx5 (.slice none 0 0) (.slice a3 ([] : List Nat).length c3) = .ok (.val (.slice none 0 0) h5 nx5) := by cases a3 <;> rfl
    rw [ea]
    simp (disch := omega) only [SS, ↓reduceIte, Nat.reduceAdd, Nat.reduceSub, Nat.reduceMul, Nat.reduceLT, Nat.reduceLeDiff, Nat.reduceEqDiff, Int.reduceBEq, Int.reduceLT, Int.reduceNeg, orR, EK_v, wrap_s (show j < 1000000000000 by omega)]
    exact ⟨3 - (j + 1), by omega, j + 1, _, rfl, hj, rfl, .inl ⟨hn0, by rw [he, hac]; rfl, rfl⟩, hk5, hle5⟩
   ·rw [he, List.length_append] at hlen
    obtain ⟨h6, e6, hb6, hf6⟩ := app_many (nx := nx5) hb rfl (by omega) hcs (hy.keep hk5 hle5)
    rw [e6]
    simp (disch := omega) only [SS, ↓reduceIte, Nat.reduceAdd, Nat.reduceSub, Nat.reduceMul, Nat.reduceLT, Nat.reduceLeDiff, Nat.reduceEqDiff, Int.reduceBEq, Int.reduceLT, Int.reduceNeg, orR, EK_v, wrap_s (show j < 1000000000000 by omega)]
    refine ⟨3 - (j + 1), by omega, j + 1, _, rfl, hj, rfl, .inr ⟨b, cs.drop (y.length * 1), hb1, hb2, ?_, ?_, ?_⟩, fun c hc => by rw [hf6 c (by omega)]; exact hk5 c hc, hle5⟩
    ·rw [he, List.length_append]
    ·rw [he]; exact hb6
    ·rw [he, List.length_append, List.length_drop, hcs]; omega
  match i, hi with
  | 0, _ =>
   simp (disch := omega) only [SS, ↓reduceIte, Nat.reduceAdd, Nat.reduceSub, Nat.reduceMul, Nat.reduceLT, Nat.reduceLeDiff, Nat.reduceEqDiff, Int.reduceBEq, Int.reduceLT, Int.reduceNeg, hp5]
   exact ⟨fun _ => step 0 l1 _ h1 rfl (by rw [htot]; simp [ac2]; omega) st (by omega), fun h => absurd (show ((0 : Nat) : Int) < 3 by omega) h⟩
  | 1, _ =>
   simp (disch := omega) only [SS, ↓reduceIte, Nat.reduceAdd, Nat.reduceSub, Nat.reduceMul, Nat.reduceLT, Nat.reduceLeDiff, Nat.reduceEqDiff, Int.reduceBEq, Int.reduceLT, Int.reduceNeg, hp5]
   exact ⟨fun _ => step 1 l2 _ h2 rfl (by rw [htot]; simp [ac2]) st (by omega), fun h => absurd (show ((1 : Nat) : Int) < 3 by omega) h⟩
  | 2, _ =>
   simp (disch := omega) only [SS, ↓reduceIte, Nat.reduceAdd, Nat.reduceSub, Nat.reduceMul, Nat.reduceLT, Nat.reduceLeDiff, Nat.reduceEqDiff, Int.reduceBEq, Int.reduceLT, Int.reduceNeg, hp5]
   exact ⟨fun _ => step 2 l3 _ h3' rfl (by rw [hn]; exact Nat.le_refl _) st (by omega), fun h => absurd (show ((2 : Nat) : Int) < 3 by omega) h⟩
  | 3, _ =>
   simp (disch := omega) only [SS, ↓reduceIte, Nat.reduceAdd, Nat.reduceSub, Nat.reduceMul, Nat.reduceLT, Nat.reduceLeDiff, Nat.reduceEqDiff, Int.reduceBEq, Int.reduceLT, Int.reduceNeg]
   refine ⟨fun h => absurd h (by omega), fun _ => ⟨?_, hk5, hle5⟩⟩
   rcases st with ⟨hn0, hac, rfl⟩ | ⟨b, cs, hb1, hb2, rfl, hb, hcs⟩
   ·have hac : l1 ++ l2 ++ l3 = [] := hac
    rw [hac]
    exact OwB.nil
   ·have e : (ac2 l1 l2 l3 3).length = n := hn
    rw [e] at hcs ⊢
    have : cs = [] := List.eq_nil_of_length_eq_zero (by omega)
    subst this
    rw [List.append_nil] at hb
    rw [← e]
    exact ⟨some b, .inr ⟨b, rfl, rfl, hb⟩, fun c hc => by cases hc; exact ⟨hb1, hb2⟩⟩
def badM (l : List Mv) : Bool := l.any fun m => !rightM m
def encS (l : List Mv) : List Nat := [70, 82, 83, 49] ++ leB 4 l.length ++ mvs l
def EncK (l : List Mv) (nx : Nat) (h : Hp) : KC' := fun v h' nx' => ∃ w, v = .tuple ⟨[w, .int .i64 (if badM l = true then 8 else 0)]⟩ ∧ OwB h' nx nx' w (if badM l = true then [] else encS l) ∧ Keep nx h h' ∧ nx ≤ nx'
theorem oMark_ok {h : Hp} {nx b l c : Nat} {cs : List Value} (hg : hget h b = some (.cells cs false)) : oMark Q h nx 51 51 (.slice (some ⟨b, 0, none⟩) l c) = .val (.slice (some ⟨b, 0, none⟩) l c) h nx := by
 show (bif isBytes Tryz.prog 51 && Nat.beq 51 51 && !isZ (some (⟨b, 0, none⟩ : Addr)) then orR (cellsOf h b (fun _ ro => bif ro then .no "convert" else .ok (.val (.slice (some ⟨b, 0, none⟩) l c) h nx))) else .no "convert") = _
 rw [by51]
 show orR (cellsOf h b _) = _
 rw [cellsOf_eq, hg]
 rfl
theorem enc_c {s : Bool} {v : Value} {l : List Mv} {h : Hp} {nx : Nat} (hv : SlRd h nx v encM l) (hl : l.length < 100000) : Cv Q O s 22 [v] h nx (EncK l nx h) := by
 refine encv ?_
 obtain ⟨a, cap, rfl, hc⟩ := id hv
 unfold enc
 simp (disch := omega) only [SS, ↓reduceIte, Nat.reduceAdd, Nat.reduceSub, Nat.reduceMul, Nat.reduceLT, Nat.reduceLeDiff, Nat.reduceEqDiff, Int.reduceBEq, Int.reduceLT, Int.reduceNeg]
 refine ⟨fun h => absurd h (by omega), fun _ => ?_⟩
 refine (contsM_c (p := fun m => !rightM m) hv (by omega) fun x h nx => enc1_c).mono ?_
 rintro _ h1 n1 ⟨rfl, k1, l1⟩
 rw [IF_b]
 refine ⟨fun hb => ?_, fun hb => ?_⟩
 ·have e : badM l = true := hb
  exact ⟨_, by rw [if_pos e], by rw [if_pos e]; exact OwB.nil, k1, l1⟩
 ·have e : ¬ badM l = true := by rw [show badM l = false from hb]; decide
  refine (written_c (hv.keep k1 l1) hl).mono ?_
  rintro w3 h2 n2 ⟨g3, k2, l2⟩
  have gm : ∀ {o}, hget (hset h2 n2 o) n2 = some o := hnew _ _ _
  rw [oMark_ok gm, EK_v, wrapU32 (by omega)]
  have K3 : Keep n2 h2 (hset h2 n2 (.cells [.int .u8 70, .int .u8 82, .int .u8 83, .int .u8 49] false)) := (Keep.refl _ _).set (Nat.le_refl _)
  have g1 : hget (hset h2 n2 (.cells [.int .u8 70, .int .u8 82, .int .u8 83, .int .u8 49] false)) n2 = some (.cells (flat encB [70, 82, 83, 49]) false) := hnew _ _ _
  generalize hset h2 n2 (.cells [.int .u8 70, .int .u8 82, .int .u8 83, .int .u8 49] false) = H at *
  refine (put32_c (by omega)).mono ?_
  rintro _ h4 n4 ⟨rfl, g4, k4, rfl⟩
  obtain ⟨a3, c3, rfl⟩ : ∃ a c, w3 = .slice a (mvs l).length c := by
   obtain ⟨o, ⟨e, rfl, rfl⟩ | ⟨b, rfl, rfl, hg⟩, hb⟩ := g3
   ·exact ⟨none, 0, by rw [e]; rfl⟩
   ·exact ⟨_, _, rfl⟩
  simp (disch := omega) only [SS, ↓reduceIte, Nat.reduceAdd, Nat.reduceSub, Nat.reduceMul, Nat.reduceLT, Nat.reduceLeDiff, Nat.reduceEqDiff, Int.reduceBEq, Int.reduceLT, Int.reduceNeg]
  have K5 : Keep nx h h4 := ((k1.trans (k2.mono l1) (Nat.le_refl _)).trans (K3.mono (by omega)) (Nat.le_refl _)).trans (k4.mono (by omega)) (Nat.le_refl _)
  have px : ∀ {b : Nat} {l : List Nat} {n c : Nat} {o}, b < n2 + 1 + 1 → l.length = n → hget h4 b = some (.cells (flat encB l) false) → SlPx (hset h4 (n2 + 1 + 1) o) (n2 + 1 + 1 + 1) (.slice (some ⟨b, 0, none⟩) n c) encB l := fun {b l n c o} hb e hg => by
   subst e
   exact ⟨_, _, rfl, fun _ => ⟨b, none, false, [], by omega, rfl, by rw [List.append_nil, hold (by omega)]; exact hg⟩⟩
  refine (concb_c (c := 0) (l1 := [70, 82, 83, 49]) (l2 := leB 4 l.length) (l3 := mvs l) (hnew _ _ _) (by omega) (px (by omega) rfl ((k4 n2 (by omega)).trans g1)) (px (by omega) (leB_len _ _) g4) ?_ ?_).mono ?_
  ·refine SlPx.keep (nx := n2) (g3.px (by omega)) (fun c hc => (hold (by omega)).trans ((k4 c (by omega)).trans (K3 c hc))) (by omega)
  ·rw [leB_len, mvs_len]; show 4 + 4 + _ ≤ _; omega
  rintro w h6 n6 ⟨g6, k6, l6⟩
  obtain ⟨o, q1, q2⟩ := g6
  have g7 : OwB h6 nx n6 w (encS l) := ⟨o, q1, fun b hb => by have := q2 b hb; omega⟩
  exact ⟨w, by rw [if_neg e], by rw [if_neg e]; exact g7, (K5.set (by omega)).trans (k6.mono (by omega)) (Nat.le_refl _), by omega⟩
def fKind : Field := { name := "Kind", type := 44, offset := 0, embedded := false, tag := "", pkgPath := "", byteOffset := 0 }
def fA : Field := { name := "A", type := 3, offset := 1, embedded := false, tag := "", pkgPath := "", byteOffset := 8 }
def fB : Field := { name := "B", type := 3, offset := 2, embedded := false, tag := "", pkgPath := "", byteOffset := 16 }
def fK : Field := { name := "K", type := 3, offset := 3, embedded := false, tag := "", pkgPath := "", byteOffset := 24 }
def fErrno : Field := { name := "Errno", type := 34, offset := 0, embedded := false, tag := "", pkgPath := "", byteOffset := 0 }
def fAt : Field := { name := "At", type := 3, offset := 1, embedded := false, tag := "", pkgPath := "", byteOffset := 8 }
theorem uM : Tryz.prog.underlying 46 = some (.struct #[fKind, fA, fB, fK]) := by kernel_rfl
theorem uF : Tryz.prog.underlying 55 = some (.struct #[fErrno, fAt]) := by kernel_rfl
theorem u44 : Tryz.prog.underlying 44 = some (.int .i64) := by kernel_rfl
theorem u34 : Tryz.prog.underlying 34 = some (.int .i64) := by kernel_rfl
theorem c44 : Tryz.prog.cellsOf 44 = 1 := by kernel_rfl
theorem c34 : Tryz.prog.cellsOf 34 = 1 := by kernel_rfl
theorem nM : Tryz.prog.cellsOf 46 = 4 := by kernel_rfl
theorem nF : Tryz.prog.cellsOf 55 = 2 := by kernel_rfl
theorem kM : Tryz.prog.keyTypeAt 8 46 = true := by kernel_rfl
theorem kF : Tryz.prog.keyTypeAt 8 55 = true := by kernel_rfl
theorem ngM : noGuard Tryz.prog 46 = true := by kernel_rfl
theorem ngF : noGuard Tryz.prog 55 = true := by kernel_rfl
def In4 (n : Int) : Prop := 0 ≤ n ∧ n < 4294967296
theorem wfI {n : Int} (h : In4 n) : (Lit.int .i64 n).wf = true := by
 obtain ⟨h1, h2⟩ := h
 simp [Lit.wf, IntKind.min, IntKind.max, IntKind.bits, IntKind.signed]; omega
def MvOk (m : Mv) : Prop := In4 m.1 ∧ In4 m.2.1 ∧ In4 m.2.2.1 ∧ In4 m.2.2.2
theorem one3 {n : Int} (h : In4 n) : Tryz.prog.keyLits 7 3 [.int .i64 n] = some [.int .i64 n] := by
 unfold Program.keyLits
 simp only [u3, wfI h, and_self, if_true]
theorem one44 {n : Int} (h : In4 n) : Tryz.prog.keyLits 7 44 [.int .i64 n] = some [.int .i64 n] := by
 unfold Program.keyLits
 simp only [u44, wfI h, and_self, if_true]
theorem one34 {n : Int} (h : In4 n) : Tryz.prog.keyLits 7 34 [.int .i64 n] = some [.int .i64 n] := by
 unfold Program.keyLits
 simp only [u34, wfI h, and_self, if_true]
theorem litsM {m : Mv} (h : MvOk m) : Tryz.prog.keyLits 8 46 (encM m) = some [.int .i64 m.1, .int .i64 m.2.1, .int .i64 m.2.2.1, .int .i64 m.2.2.2] := by
 unfold Program.keyLits encM
 simp only [uM, nM, List.length_cons, List.length_nil, Nat.reduceAdd]
 rw [if_pos ⟨trivial, by kernel_rfl⟩]
 show Option.map List.flatten (List.mapM (fun f : Field => Tryz.prog.keyLits 7 f.type (List.take (Tryz.prog.cellsOf f.type) (List.drop f.offset [.int .i64 m.1, .int .i64 m.2.1, .int .i64 m.2.2.1, .int .i64 m.2.2.2]))) [fKind, fA, fB, fK]) = _
 simp only [List.mapM_cons, List.mapM_nil, show fKind.type = 44 from rfl, show fA.type = 3 from rfl, show fB.type = 3 from rfl, show fK.type = 3 from rfl, show fKind.offset = 0 from rfl, show fA.offset = 1 from rfl, show fB.offset = 2 from rfl, show fK.offset = 3 from rfl, c44, c3, List.drop_zero, List.drop_succ_cons, List.take_succ_cons, List.take_zero, one44 h.1, one3 h.2.1, one3 h.2.2.1, one3 h.2.2.2]
 rfl
def encF (e f : Int) : List Value := [.int .i64 e, .int .i64 f]
theorem litsF {e f : Int} (h1 : In4 e) (h2 : In4 f) : Tryz.prog.keyLits 8 55 (encF e f) = some [.int .i64 e, .int .i64 f] := by
 unfold Program.keyLits encF
 simp only [uF, nF, List.length_cons, List.length_nil, Nat.reduceAdd]
 rw [if_pos ⟨trivial, by kernel_rfl⟩]
 show Option.map List.flatten (List.mapM (fun x : Field => Tryz.prog.keyLits 7 x.type (List.take (Tryz.prog.cellsOf x.type) (List.drop x.offset [.int .i64 e, .int .i64 f]))) [fErrno, fAt]) = _
 simp only [List.mapM_cons, List.mapM_nil, show fErrno.type = 34 from rfl, show fAt.type = 3 from rfl, show fErrno.offset = 0 from rfl, show fAt.offset = 1 from rfl, c34, c3, List.drop_zero, List.drop_succ_cons, List.take_succ_cons, List.take_zero, one34 h1, one3 h2]
 rfl
theorem eqlV_M {a b : Mv} (ha : MvOk a) (hb : MvOk b) : (bif noGuard Tryz.prog 46 then eqK Tryz.prog 46 (.agg ⟨encM a⟩) (.agg ⟨encM b⟩) else none) = some (decide (a = b)) := by
 have f1 : ∀ m, (Value.agg ⟨encM m⟩).formed Tryz.prog 46 = true := fun m => by simp [Value.formed, uM, nM, encM]
 unfold eqK
 rw [ngM, kM, f1, f1]
 show (bif true && (true && true && true && true) then eqL (Tryz.prog.keyLits 8 46 (encM a)) (Tryz.prog.keyLits 8 46 (encM b)) else none) = _
 rw [litsM ha, litsM hb]
 show some ((keq .i64 .i64 && ieq a.1 b.1) && ((keq .i64 .i64 && ieq a.2.1 b.2.1) && ((keq .i64 .i64 && ieq a.2.2.1 b.2.2.1) && ((keq .i64 .i64 && ieq a.2.2.2 b.2.2.2) && true)))) = _
 simp only [keq_self, ieq_beq]
 congr 1
 obtain ⟨a1, a2, a3, a4⟩ := a
 obtain ⟨b1, b2, b3, b4⟩ := b
 rw [Bool.eq_iff_iff]
 simp
theorem neqM {a b : Mv} (ha : MvOk a) (hb : MvOk b) : bin Q .neq 46 (.agg ⟨encM a⟩) (.agg ⟨encM b⟩) = .ok (.bool (!decide (a = b))) := by
 show R.of "compared" (bif noGuard Tryz.prog 46 then eqK Tryz.prog 46 (.agg ⟨encM a⟩) (.agg ⟨encM b⟩) else none) (fun b => rBool (!b)) = _
 rw [eqlV_M ha hb]; rfl
theorem eqlV_F {a b c d : Int} (ha : In4 a) (hb : In4 b) (hc : In4 c) (hd : In4 d) : (bif noGuard Tryz.prog 55 then eqK Tryz.prog 55 (.agg ⟨encF a b⟩) (.agg ⟨encF c d⟩) else none) = some (decide (a = c ∧ b = d)) := by
 have f1 : ∀ m n, (Value.agg ⟨encF m n⟩).formed Tryz.prog 55 = true := fun m n => by simp [Value.formed, uF, nF, encF]
 unfold eqK
 rw [ngF, kF, f1, f1]
 show (bif true && (true && true && true && true) then eqL (Tryz.prog.keyLits 8 55 (encF a b)) (Tryz.prog.keyLits 8 55 (encF c d)) else none) = _
 rw [litsF ha hb, litsF hc hd]
 show some ((keq .i64 .i64 && ieq a c) && ((keq .i64 .i64 && ieq b d) && true)) = _
 simp only [keq_self, ieq_beq]
 congr 1
 rw [Bool.eq_iff_iff]
 simp
theorem neqF {a b c d : Int} (ha : In4 a) (hb : In4 b) (hc : In4 c) (hd : In4 d) : bin Q .neq 55 (.agg ⟨encF a b⟩) (.agg ⟨encF c d⟩) = .ok (.bool (!decide (a = c ∧ b = d))) := by
 show R.of "compared" (bif noGuard Tryz.prog 55 then eqK Tryz.prog 55 (.agg ⟨encF a b⟩) (.agg ⟨encF c d⟩) else none) (fun b => rBool (!b)) = _
 rw [eqlV_F ha hb hc hd]; rfl
def SamJ {α : Type} (l1 l2 : List α) (v1 v2 : Value) (h0 : Hp) (nx0 : Nat) (m : Nat) (vs : List Value) (h : Hp) (nx : Nat) : Prop := ∃ i, m = l1.length - i ∧ i ≤ l1.length ∧ vs = [v1, v2, .bool false, .int .i64 (i : Int)] ∧ h = h0 ∧ nx = nx0 ∧ l1.take i = l2.take i
theorem take_eqs {α : Type} {l1 l2 : List α} {i : Nat} {x : α} (h : l1.take i = l2.take i) (h1 : l1[i]? = some x) (h2 : l2[i]? = some x) : l1.take (i + 1) = l2.take (i + 1) := by
 rw [List.take_add_one, List.take_add_one, h, h1, h2]
def SmK (b : Bool) (h : Hp) (nx : Nat) : KC' := fun r h' nx' => r = .bool b ∧ h' = h ∧ nx' = nx
theorem sameb_c {s : Bool} {v1 v2 : Value} {l1 l2 : List Nat} {h : Hp} {nx : Nat} (h1 : SlRd h nx v1 encB l1) (h2 : SlRd h nx v2 encB l2) (hl : l1.length < 100000) (hl2 : l2.length < 100000) : Cv Q O s 26 [v1, v2] h nx (SmK (decide (l1 = l2)) h nx) := by
 refine samebv ?_
 obtain ⟨a, cap, rfl, hc⟩ := id h1
 obtain ⟨a2, cap2, rfl, hc2⟩ := id h2
 unfold sameb
 simp (disch := omega) only [SS, ↓reduceIte, Nat.reduceAdd, Nat.reduceSub, Nat.reduceMul, Nat.reduceLT, Nat.reduceLeDiff, Nat.reduceEqDiff, Int.reduceBEq, Int.reduceLT, Int.reduceNeg]
 refine ⟨fun hn => ?_, fun hn => ?_⟩
 ·have : l1 ≠ l2 := fun e => by rw [e] at hn; simp at hn
  exact ⟨by rw [decide_eq_false this], rfl, rfl⟩
 ·have hn : l1.length = l2.length := by simp at hn; omega
  refine Lp.mk (SamJ l1 l2 (.slice a l1.length cap) (.slice a2 l2.length cap2) h nx) l1.length ⟨0, rfl, by omega, rfl, rfl, rfl, rfl⟩ ?_
  rintro m _ _ _ ⟨i, rfl, hi, rfl, rfl, rfl, ht⟩
  rw [samebb0]
  unfold samebl0
  simp (disch := omega) only [SS, ↓reduceIte, Nat.reduceAdd, Nat.reduceSub, Nat.reduceMul, Nat.reduceLT, Nat.reduceLeDiff, Nat.reduceEqDiff, Int.reduceBEq, Int.reduceLT, Int.reduceNeg]
  refine ⟨fun hlt => ?_, fun hge => ?_⟩
  ·obtain ⟨x, hx⟩ := get_ex (show i < l1.length by omega)
   obtain ⟨y, hy⟩ := get_ex (show i < l2.length by omega)
   obtain ⟨_, b, sp, ro, c1, hbn, e1, hg⟩ := h1.at hx
   obtain ⟨_, b2, sp2, ro2, c2, hbn2, e2, hg2⟩ := h2.at hy
   cases e1
   cases e2
   simp (disch := omega) only [SS, ↓reduceIte, Nat.reduceAdd, Nat.reduceSub, Nat.reduceMul, Nat.reduceLT, Nat.reduceLeDiff, Nat.reduceEqDiff, Int.reduceBEq, Int.reduceLT, Int.reduceNeg, hg, hg2, encB_get hx, encB_get hy]
   refine ⟨fun he => ?_, fun he => ?_⟩
   ·have hne : x ≠ y := fun e => by subst e; simp at he
    have : l1 ≠ l2 := fun e => by subst e; rw [hx] at hy; cases hy; exact hne rfl
    exact ⟨by rw [decide_eq_false this], rfl, rfl⟩
   ·have he : x = y := by have := of_decide_eq_true he; omega
    subst he
    exact ⟨l1.length - (i + 1), by omega, i + 1, rfl, by omega, by rw [wrapS (by omega) (by omega)]; rfl, rfl, rfl, take_eqs ht hx hy⟩
  ·obtain rfl : i = l1.length := by omega
   rw [List.take_length, List.take_of_length_le (by omega)] at ht
   exact ⟨by rw [decide_eq_true ht], rfl, rfl⟩
theorem samem_c {s : Bool} {v1 v2 : Value} {l1 l2 : List Mv} {h : Hp} {nx : Nat} (h1 : SlRd h nx v1 encM l1) (h2 : SlRd h nx v2 encM l2) (hl : l1.length < 100000) (hl2 : l2.length < 100000) (hb1 : ∀ m ∈ l1, MvOk m) (hb2 : ∀ m ∈ l2, MvOk m) : Cv Q O s 27 [v1, v2] h nx (SmK (decide (l1 = l2)) h nx) := by
 refine samemv ?_
 obtain ⟨a, cap, rfl, hc⟩ := id h1
 obtain ⟨a2, cap2, rfl, hc2⟩ := id h2
 unfold samem
 simp (disch := omega) only [SS, ↓reduceIte, Nat.reduceAdd, Nat.reduceSub, Nat.reduceMul, Nat.reduceLT, Nat.reduceLeDiff, Nat.reduceEqDiff, Int.reduceBEq, Int.reduceLT, Int.reduceNeg]
 refine ⟨fun hn => ?_, fun hn => ?_⟩
 ·have : l1 ≠ l2 := fun e => by rw [e] at hn; simp at hn
  exact ⟨by rw [decide_eq_false this], rfl, rfl⟩
 ·have hn : l1.length = l2.length := by simp at hn; omega
  refine Lp.mk (SamJ l1 l2 (.slice a l1.length cap) (.slice a2 l2.length cap2) h nx) l1.length ⟨0, rfl, by omega, rfl, rfl, rfl, rfl⟩ ?_
  rintro m _ _ _ ⟨i, rfl, hi, rfl, rfl, rfl, ht⟩
  rw [samemb0]
  unfold sameml0
  simp (disch := omega) only [SS, ↓reduceIte, Nat.reduceAdd, Nat.reduceSub, Nat.reduceMul, Nat.reduceLT, Nat.reduceLeDiff, Nat.reduceEqDiff, Int.reduceBEq, Int.reduceLT, Int.reduceNeg]
  refine ⟨fun hlt => ?_, fun hge => ?_⟩
  ·obtain ⟨x, hx⟩ := get_ex (show i < l1.length by omega)
   obtain ⟨y, hy⟩ := get_ex (show i < l2.length by omega)
   obtain ⟨_, b, sp, ro, c1, hbn, e1, hg⟩ := h1.at hx
   obtain ⟨_, b2, sp2, ro2, c2, hbn2, e2, hg2⟩ := h2.at hy
   cases e1
   cases e2
   simp (disch := omega) only [SS, ↓reduceIte, Nat.reduceAdd, Nat.reduceSub, Nat.reduceMul, Nat.reduceLT, Nat.reduceLeDiff, Nat.reduceEqDiff, Int.reduceBEq, Int.reduceLT, Int.reduceNeg, hg, hg2, rdF (enc := encM) (k := 4) (fun _ => rfl) hx, rdF (enc := encM) (k := 4) (fun _ => rfl) hy, neqM (hb1 x (List.mem_of_getElem? hx)) (hb2 y (List.mem_of_getElem? hy))]
   refine ⟨fun he => ?_, fun he => ?_⟩
   ·have hne : x ≠ y := fun e => by subst e; simp at he
    have : l1 ≠ l2 := fun e => by subst e; rw [hx] at hy; cases hy; exact hne rfl
    exact ⟨by rw [decide_eq_false this], rfl, rfl⟩
   ·have he : x = y := he
    subst he
    exact ⟨l1.length - (i + 1), by omega, i + 1, rfl, by omega, by rw [wrapS (by omega) (by omega)]; rfl, rfl, rfl, take_eqs ht hx hy⟩
  ·obtain rfl : i = l1.length := by omega
   rw [List.take_length, List.take_of_length_le (by omega)] at ht
   exact ⟨by rw [decide_eq_true ht], rfl, rfl⟩
theorem rightM_b {m : Mv} (h : rightM m = true) : (0 ≤ m.2.1 ∧ m.2.1 ≤ 63) ∧ (0 ≤ m.2.2.1 ∧ m.2.2.1 ≤ 63) ∧ (0 ≤ m.2.2.2 ∧ m.2.2.2 ≤ 63) ∧ (0 < m.1 ∧ m.1 ≤ 5) := by
 unfold rightM inB at h
 simp only [Bool.and_eq_true, decide_eq_true_eq] at h
 exact ⟨h.1.1.1, h.1.1.2, h.1.2, h.2⟩
theorem rightM_ok {m : Mv} (h : rightM m = true) : MvOk m := by
 have := rightM_b h
 refine ⟨⟨?_, ?_⟩, ⟨?_, ?_⟩, ⟨?_, ?_⟩, ⟨?_, ?_⟩⟩ <;> omega
theorem mv_back {m : Mv} (h : rightM m = true) : mvOf (mv4 m) = m := by
 have hb := rightM_b h
 obtain ⟨a, b, c, d⟩ := m
 simp only at hb
 show ((((a % 256).toNat : Nat) : Int), (((b % 256).toNat : Nat) : Int), (((c % 256).toNat : Nat) : Int), (((d % 256).toNat : Nat) : Int)) = _
 rw [show (((a % 256).toNat : Nat) : Int) = a by omega, show (((b % 256).toNat : Nat) : Int) = b by omega, show (((c % 256).toNat : Nat) : Int) = c by omega, show (((d % 256).toNat : Nat) : Int) = d by omega]
theorem mv4_len (m : Mv) : (mv4 m).length = 4 := rfl
theorem mv4_ok (m : Mv) : BsOk (mv4 m) := fun x hx => by
 unfold mv4 at hx
 simp only [List.mem_cons, List.not_mem_nil, or_false] at hx
 rcases hx with rfl | rfl | rfl | rfl <;> omega
theorem mvs_ok (l : List Mv) : BsOk (mvs l) := fun x hx => by
 obtain ⟨m, _, h⟩ := List.mem_flatMap.1 hx
 exact mv4_ok m x h
theorem BsOk.app {a b : List Nat} (h1 : BsOk a) (h2 : BsOk b) : BsOk (a ++ b) := fun x hx => by
 rcases List.mem_append.1 hx with h | h
 ·exact h1 x h
 ·exact h2 x h
theorem encS_ok (l : List Mv) : BsOk (encS l) := ((show BsOk [70, 82, 83, 49] from fun x hx => by simp at hx; omega).app (leB_ok _ _)).app (mvs_ok l)
theorem encS_len (l : List Mv) : (encS l).length = 8 + 4 * l.length := by
 unfold encS
 rw [List.length_append, List.length_append, leB_len, mvs_len]; rfl
theorem le_leB : ∀ {k n : Nat}, n < 256 ^ k → le (leB k n) = n
 | 0, n, h => by
  have : n = 0 := by simpa using h
  rw [this]; rfl
 | k + 1, n, h => by
  show n % 256 + 256 * le (leB k (n / 256)) = n
  rw [le_leB (Nat.div_lt_of_lt_mul (by rw [Nat.pow_succ, Nat.mul_comm] at h; exact h))]
  omega
theorem leB_le : ∀ {l : List Nat}, BsOk l → leB l.length (le l) = l
 | [], _ => rfl
 | x :: l, h => by
  have hx : x < 256 := h x (List.mem_cons_self ..)
  show (x + 256 * le l) % 256 :: leB l.length ((x + 256 * le l) / 256) = _
  rw [show (x + 256 * le l) % 256 = x by omega, show (x + 256 * le l) / 256 = le l by omega, leB_le (fun y hy => h y (List.mem_cons_of_mem _ hy))]
theorem mvOf_back {l : List Nat} (h : l.length = 4) (hB : BsOk l) : mv4 (mvOf l) = l := by
 obtain ⟨a, b, c, d, rfl⟩ := four h
 have ha := hB a (by simp)
 have hb := hB b (by simp)
 have hc := hB c (by simp)
 have hd := hB d (by simp)
 show [(((a : Int) % 256).toNat), (((b : Int) % 256).toNat), (((c : Int) % 256).toNat), (((d : Int) % 256).toNat)] = _
 rw [show (((a : Int) % 256).toNat) = a by omega, show (((b : Int) % 256).toNat) = b by omega, show (((c : Int) % 256).toNat) = c by omega, show (((d : Int) % 256).toNat) = d by omega]
theorem mvOf_ok {l : List Nat} (hB : BsOk l) : MvOk (mvOf l) := by
 unfold mvOf
 split
 ·rename_i a b c d
  have ha := hB a (by simp)
  have hb := hB b (by simp)
  have hc := hB c (by simp)
  have hd := hB d (by simp)
  refine ⟨⟨?_, ?_⟩, ⟨?_, ?_⟩, ⟨?_, ?_⟩, ⟨?_, ?_⟩⟩ <;> simp only <;> omega
 ·exact ⟨⟨by decide, by decide⟩, ⟨by decide, by decide⟩, ⟨by decide, by decide⟩, ⟨by decide, by decide⟩⟩
theorem loop_app : ∀ (l : List Mv) (pre : List Nat) (f : Int) (acc : List Mv), (∀ m ∈ l, rightM m = true) → loopS (pre ++ mvs l) l.length ⟨pre.length, 0, f⟩ acc = (acc ++ l, ⟨pre.length + 4 * l.length, 0, f⟩)
 | [], pre, f, acc, _ => by show (acc, _) = (acc ++ [], _); rw [List.append_nil]; rfl
 | m :: l, pre, f, acc, h => by
  have hm := h m (List.mem_cons_self ..)
  have e1 : pre ++ mvs (m :: l) = (pre ++ mv4 m) ++ mvs l := by rw [List.append_assoc]; rfl
  have el : (pre ++ mvs (m :: l)).length = pre.length + 4 + 4 * l.length := by rw [List.length_append, mvs_len]; simp; omega
  have hr : rdM (pre ++ mvs (m :: l)) pre.length = m := by
   unfold rdM
   rw [List.drop_left]
   show mvOf ((mv4 m ++ mvs l).take 4) = m
   rw [List.take_left' (mv4_len m), mv_back hm]
  have h1 : rdP (pre ++ mvs (m :: l)) pre.length = pre.length + 4 := if_neg (by omega)
  have h2 : rdR (pre ++ mvs (m :: l)) pre.length = 0 := by unfold rdR; rw [if_neg (by omega), hr, if_pos hm]
  have h3 : rdF2 (pre ++ mvs (m :: l)) pre.length f = f := by unfold rdF2; rw [if_neg (by omega), hr, if_pos hm]
  show (if (0 : Int) = 0 then loopS _ l.length ⟨rdP _ _, rdR _ _, rdF2 _ _ f⟩ (acc ++ [rdM _ _]) else _) = _
  rw [if_pos rfl]
  simp only
  rw [h1, h2, h3, hr, e1]
  have := loop_app l (pre ++ mv4 m) f (acc ++ [m]) (fun x hx => h x (List.mem_cons_of_mem _ hx))
  rw [List.length_append, mv4_len] at this
  rw [this]
  simp
  omega
theorem loop_cut : ∀ (l : List Mv) (pre : List Nat) (f : Int) (acc : List Mv) (q : Nat), (∀ m ∈ l, rightM m = true) → q < 4 * l.length → ∃ p, (loopS (pre ++ (mvs l).take q) l.length ⟨pre.length, 0, f⟩ acc).2 = ⟨p, 2, ((pre ++ (mvs l).take q).length : Int)⟩
 | [], _, _, _, _, _, h => by simp at h
 | m :: l, pre, f, acc, q, h, hq => by
  have hm := h m (List.mem_cons_self ..)
  have hml : (mvs (m :: l)).length = 4 + 4 * l.length := by rw [mvs_len]; simp; omega
  have el : (pre ++ (mvs (m :: l)).take q).length = pre.length + q := by rw [List.length_append, List.length_take, hml]; simp at hq; omega
  by_cases h4 : q < 4
  ·refine ⟨pre.length, ?_⟩
   have h1 : rdP (pre ++ (mvs (m :: l)).take q) pre.length = pre.length := if_pos (by omega)
   have h2 : rdR (pre ++ (mvs (m :: l)).take q) pre.length = 2 := if_pos (by omega)
   have h3 : rdF2 (pre ++ (mvs (m :: l)).take q) pre.length f = ((pre ++ (mvs (m :: l)).take q).length : Int) := if_pos (by omega)
   show (if (0 : Int) = 0 then loopS _ l.length ⟨rdP _ _, rdR _ _, rdF2 _ _ f⟩ (acc ++ [rdM _ _]) else _).2 = _
   rw [if_pos rfl, loopS_stop (by show rdR _ _ ≠ 0; rw [h2]; decide)]
   simp only
   rw [h1, h2, h3]
  ·have e1 : pre ++ (mvs (m :: l)).take q = (pre ++ mv4 m) ++ (mvs l).take (q - 4) := by
    rw [List.append_assoc]
    congr 1
    show (mv4 m ++ mvs l).take q = _
    rw [List.take_append, mv4_len, List.take_of_length_le (by rw [mv4_len]; omega)]
   have hr : rdM (pre ++ (mvs (m :: l)).take q) pre.length = m := by
    unfold rdM
    rw [e1, List.append_assoc, List.drop_left, List.take_left' (mv4_len m), mv_back hm]
   have h1 : rdP (pre ++ (mvs (m :: l)).take q) pre.length = pre.length + 4 := if_neg (by omega)
   have h2 : rdR (pre ++ (mvs (m :: l)).take q) pre.length = 0 := by unfold rdR; rw [if_neg (by omega), hr, if_pos hm]
   have h3 : rdF2 (pre ++ (mvs (m :: l)).take q) pre.length f = f := by unfold rdF2; rw [if_neg (by omega), hr, if_pos hm]
   obtain ⟨p, hp⟩ := loop_cut l (pre ++ mv4 m) f (acc ++ [m]) (q - 4) (fun x hx => h x (List.mem_cons_of_mem _ hx)) (by simp at hq; omega)
   refine ⟨p, ?_⟩
   show (if (0 : Int) = 0 then loopS _ l.length ⟨rdP _ _, rdR _ _, rdF2 _ _ f⟩ (acc ++ [rdM _ _]) else _).2 = _
   rw [if_pos rfl]
   simp only
   rw [h1, h2, h3, hr, e1]
   rw [List.length_append, mv4_len] at hp
   exact hp
theorem loop_back {bs : List Nat} (hB : BsOk bs) : ∀ (n : Nat) (d : DS) (acc : List Mv), (loopS bs n d acc).2.e = 0 → ∃ L, loopS bs n d acc = (acc ++ L, ⟨d.p + 4 * n, 0, d.f⟩) ∧ L.length = n ∧ (∀ m ∈ L, rightM m = true) ∧ (0 < n → d.p + 4 * n ≤ bs.length) ∧ (bs.drop d.p).take (4 * n) = mvs L
 | 0, d, acc, h => by
  refine ⟨[], ?_, rfl, (fun m hm => by cases hm), (fun h => absurd h (by omega)), by simp [mvs]⟩
  show (acc, d) = _
  obtain ⟨p, e, f⟩ := d
  have : e = 0 := h
  rw [this, List.append_nil]; rfl
 | n + 1, d, acc, h => by
  have he : d.e = 0 := by
   refine Decidable.byContradiction fun hn => ?_
   rw [loopS_stop hn] at h
   exact hn h
  have ed : loopS bs (n + 1) d acc = loopS bs n ⟨rdP bs d.p, rdR bs d.p, rdF2 bs d.p d.f⟩ (acc ++ [rdM bs d.p]) := if_pos he
  rw [ed] at h
  have hr0 : rdR bs d.p = 0 := by
   refine Decidable.byContradiction fun hn => ?_
   rw [loopS_stop (show (⟨rdP bs d.p, rdR bs d.p, rdF2 bs d.p d.f⟩ : DS).e ≠ 0 from hn)] at h
   exact hn h
  have hl : ¬ bs.length < d.p + 4 := fun hn => by unfold rdR at hr0; rw [if_pos hn] at hr0; cases hr0
  have hm : rightM (rdM bs d.p) = true := by
   unfold rdR at hr0
   rw [if_neg hl] at hr0
   refine Decidable.byContradiction fun hn => ?_
   rw [if_neg hn] at hr0; cases hr0
  have h1 : rdP bs d.p = d.p + 4 := if_neg hl
  have h3 : rdF2 bs d.p d.f = d.f := by unfold rdF2; rw [if_neg hl, if_pos hm]
  obtain ⟨L, e1, e2, e3, e4, e5⟩ := loop_back hB n _ _ h
  simp only [h1, h3] at e1 e4 e5
  refine ⟨rdM bs d.p :: L, ?_, by simp [e2], fun m hm' => ?_, fun _ => ?_, ?_⟩
  ·rw [ed]
   simp only [h1, h3]
   rw [e1]
   simp
   omega
  ·rcases List.mem_cons.1 hm' with rfl | h
   ·exact hm
   ·exact e3 m h
  ·by_cases hn : 0 < n
   ·have := e4 hn; omega
   ·omega
  ·show _ = mv4 (rdM bs d.p) ++ mvs L
   unfold rdM
   rw [mvOf_back (by simp; omega) (hB.sub d.p 4), ← e5, show 4 * (n + 1) = 4 + 4 * n by omega, List.take_add, List.drop_drop]
theorem encS_take4 (l : List Mv) : (encS l).take 4 = [70, 82, 83, 49] := rfl
theorem encS_num (l : List Mv) : ((encS l).drop 4).take 4 = leB 4 l.length := by
 show (leB 4 l.length ++ mvs l).take 4 = _
 rw [List.take_left' (leB_len _ _)]
theorem encS_pre (l : List Mv) : encS l = ([70, 82, 83, 49] ++ leB 4 l.length) ++ mvs l := rfl
theorem pre_len (n : Nat) : (([70, 82, 83, 49] : List Nat) ++ leB 4 n).length = 8 := by rw [List.length_append, leB_len]; rfl
theorem dec_enc {l : List Mv} (h : ∀ m ∈ l, rightM m = true) (hl : l.length ≤ 1048576) : decS (encS l) = (l, ⟨8 + 4 * l.length, 0, 0⟩) := by
 have hlen := encS_len l
 have hm : magS (encS l) = ⟨4, 0, 0⟩ := by unfold magS; rw [if_neg (by omega), encS_take4, if_pos rfl]
 have hD : u32D (encS l) ⟨4, 0, 0⟩ = ⟨8, 0, 0⟩ := by
  unfold u32D
  rw [if_pos rfl, if_neg (by show ¬ _ < 4 + 4; omega)]
 have hN : u32N (encS l) ⟨4, 0, 0⟩ = l.length := by
  unfold u32N
  rw [if_pos rfl, if_neg (by show ¬ _ < 4 + 4; omega)]
  show le (((encS l).drop 4).take 4) = _
  rw [encS_num, le_leB (by show _ < 4294967296; omega)]
 have hg := loop_app l ([70, 82, 83, 49] ++ leB 4 l.length) 0 [] h
 rw [pre_len, ← encS_pre] at hg
 unfold decS
 simp only
 rw [hm, hD, hN, show longS ⟨8, 0, 0⟩ l.length = ⟨8, 0, 0⟩ from if_neg (by omega), hg]
 simp only
 rw [show endS (encS l) ⟨8 + 4 * l.length, 0, 0⟩ = ⟨8 + 4 * l.length, 0, 0⟩ from if_neg (by simp only; omega)]
 rfl
theorem dec_cut {l : List Mv} (h : ∀ m ∈ l, rightM m = true) (hl : l.length ≤ 1048576) {k : Nat} (hk : k < (encS l).length) : ∃ L p, decS ((encS l).take k) = (L, ⟨p, 2, (k : Int)⟩) := by
 have hlen := encS_len l
 have hkl : ((encS l).take k).length = k := by rw [List.length_take]; omega
 have stop : ∀ (D : DS), D.e ≠ 0 → endS ((encS l).take k) D = D := fun D hD => if_neg (fun hh => hD hh.1)
 by_cases h4 : k < 4
 ·have hm : magS ((encS l).take k) = ⟨0, 2, (k : Int)⟩ := by unfold magS; rw [if_pos (by omega), hkl]
  unfold decS
  simp only
  rw [hm, show u32D ((encS l).take k) ⟨0, 2, (k : Int)⟩ = ⟨0, 2, (k : Int)⟩ from if_neg (show ¬ (2 : Int) = 0 by decide), show u32N ((encS l).take k) ⟨0, 2, (k : Int)⟩ = 0 from if_neg (show ¬ (2 : Int) = 0 by decide)]
  exact ⟨[], 0, rfl⟩
 ·have ht4 : ((encS l).take k).take 4 = [70, 82, 83, 49] := by rw [List.take_take, show min 4 k = 4 by omega, encS_take4]
  have hm : magS ((encS l).take k) = ⟨4, 0, 0⟩ := by unfold magS; rw [if_neg (by omega), ht4, if_pos rfl]
  by_cases h8 : k < 8
  ·unfold decS
   simp only
   rw [hm, show u32D ((encS l).take k) ⟨4, 0, 0⟩ = ⟨4, 2, (k : Int)⟩ by unfold u32D; rw [if_pos rfl, if_pos (by show _ < 4 + 4; omega), hkl], show u32N ((encS l).take k) ⟨4, 0, 0⟩ = 0 by unfold u32N; rw [if_pos rfl, if_pos (by show _ < 4 + 4; omega)]]
   exact ⟨[], 4, rfl⟩
  ·have hD : u32D ((encS l).take k) ⟨4, 0, 0⟩ = ⟨8, 0, 0⟩ := by unfold u32D; rw [if_pos rfl, if_neg (by show ¬ _ < 4 + 4; omega)]
   have hN : u32N ((encS l).take k) ⟨4, 0, 0⟩ = l.length := by
    unfold u32N
    rw [if_pos rfl, if_neg (by show ¬ _ < 4 + 4; omega)]
    show le ((((encS l).take k).drop 4).take 4) = _
    rw [List.drop_take, List.take_take, show min 4 (k - 4) = 4 by omega, encS_num, le_leB (by show _ < 4294967296; omega)]
   have he : (encS l).take k = ([70, 82, 83, 49] ++ leB 4 l.length) ++ (mvs l).take (k - 8) := by
    rw [encS_pre, List.take_append, pre_len, List.take_of_length_le (by rw [pre_len]; omega)]
   obtain ⟨p, hp⟩ := loop_cut l ([70, 82, 83, 49] ++ leB 4 l.length) 0 [] (k - 8) h (by omega)
   rw [pre_len, ← he, hkl] at hp
   unfold decS
   simp only
   rw [hm, hD, hN, show longS ⟨8, 0, 0⟩ l.length = ⟨8, 0, 0⟩ from if_neg (by omega), hp, stop _ (by show (2 : Int) ≠ 0; decide)]
   exact ⟨_, p, rfl⟩
theorem enc_dec {bs : List Nat} (hB : BsOk bs) (he : (decS bs).2.e = 0) : (∀ m ∈ (decS bs).1, rightM m = true) ∧ encS (decS bs).1 = bs := by
 unfold decS at he ⊢
 simp only at he ⊢
 generalize hr : loopS bs (u32N bs (magS bs)) (longS (u32D bs (magS bs)) (u32N bs (magS bs))) [] = r at *
 have h1 : r.2.e = 0 ∧ ¬ r.2.p < bs.length := by
  unfold endS at he
  split at he
  ·cases he
  ·rename_i hn
   exact ⟨he, fun h => hn ⟨he, h⟩⟩
 obtain ⟨L, e1, e2, e3, e4, e5⟩ := loop_back hB _ _ _ (show (loopS bs (u32N bs (magS bs)) (longS (u32D bs (magS bs)) (u32N bs (magS bs))) []).2.e = 0 by rw [hr]; exact h1.1)
 have hlS : (longS (u32D bs (magS bs)) (u32N bs (magS bs))).e = 0 := by
  refine Decidable.byContradiction fun hn => ?_
  have := loopS_stop (bs := bs) (l := []) hn (u32N bs (magS bs))
  rw [hr] at this
  rw [this] at h1
  exact hn h1.1
 have hll : longS (u32D bs (magS bs)) (u32N bs (magS bs)) = u32D bs (magS bs) := by
  unfold longS at hlS ⊢
  split
  ·rename_i hh
   rw [if_pos hh] at hlS
   unfold failS at hlS
   split at hlS
   ·cases hlS
   ·rename_i h; exact absurd hlS h
  ·rfl
 rw [hll] at hlS e1 e4 e5
 have hme : (magS bs).e = 0 ∧ ¬ bs.length < (magS bs).p + 4 := by
  unfold u32D at hlS
  split at hlS
  ·rename_i h
   refine ⟨h, fun hn => ?_⟩
   rw [if_pos hn] at hlS; cases hlS
  ·rename_i h; exact absurd hlS h
 have hmg : bs.take 4 = [70, 82, 83, 49] ∧ magS bs = ⟨4, 0, 0⟩ := by
  have h1 := hme.1
  unfold magS at h1 ⊢
  split
  ·rename_i h; rw [if_pos h] at h1; cases h1
  ·rename_i h
   rw [if_neg h] at h1
   split
   ·rename_i h2; exact ⟨h2, rfl⟩
   ·rename_i h2; rw [if_neg h2] at h1; cases h1
 rw [hmg.2] at hme e1 e2 e4 e5 hr hll
 have h8 : 8 ≤ bs.length := by have := hme.2; simp only at this; omega
 have hD : u32D bs ⟨4, 0, 0⟩ = ⟨8, 0, 0⟩ := by unfold u32D; rw [if_pos rfl, if_neg (by show ¬ _ < 4 + 4; omega)]
 have hN : u32N bs ⟨4, 0, 0⟩ = le ((bs.drop 4).take 4) := by unfold u32N; rw [if_pos rfl, if_neg (by show ¬ _ < 4 + 4; omega)]
 rw [hD] at e1 e4 e5 hll hr
 rw [hll] at hr
 rw [hr] at e1
 rw [e1] at h1 ⊢
 simp only [List.nil_append] at h1 ⊢
 refine ⟨e3, ?_⟩
 have hb4 : BsOk ((bs.drop 4).take 4) := hB.sub 4 4
 have hl4 : ((bs.drop 4).take 4).length = 4 := by simp; omega
 have hlen : leB 4 L.length = (bs.drop 4).take 4 := by
  rw [e2, hN]
  have := leB_le hb4
  rw [hl4] at this
  exact this
 unfold encS
 rw [hlen, ← e5, ← hmg.1]
 have h9 := h1.2
 rw [List.take_of_length_le (i := 4 * u32N bs ⟨4, 0, 0⟩) (by rw [List.length_drop]; simp only; omega)]
 simp only
 rw [← List.take_add, List.take_append_drop]
def DsOk (bs : List Nat) (d : DS) : Prop := In4 d.e ∧ In4 d.f ∧ d.p ≤ bs.length
theorem loop_ok {bs : List Nat} (hB : BsOk bs) (hl : bs.length < 100000) : ∀ (n : Nat) (d : DS) (acc : List Mv), DsOk bs d → (∀ m ∈ acc, MvOk m) → DsOk bs (loopS bs n d acc).2 ∧ ∀ m ∈ (loopS bs n d acc).1, MvOk m
 | 0, d, acc, h1, h2 => ⟨h1, h2⟩
 | n + 1, d, acc, h1, h2 => by
  by_cases he : d.e = 0
  ·rw [show loopS bs (n + 1) d acc = loopS bs n ⟨rdP bs d.p, rdR bs d.p, rdF2 bs d.p d.f⟩ (acc ++ [rdM bs d.p]) from if_pos he]
   refine loop_ok hB hl n _ _ ⟨?_, ?_, ?_⟩ fun m hm => ?_
   ·show In4 (rdR bs d.p)
    unfold rdR
    split
    ·exact ⟨by decide, by decide⟩
    ·split
     ·exact ⟨by decide, by decide⟩
     ·exact ⟨by decide, by decide⟩
   ·have := h1.2.2
    show In4 (rdF2 bs d.p d.f)
    unfold rdF2
    split
    ·exact ⟨by omega, by omega⟩
    ·split
     ·exact h1.2.1
     ·exact ⟨by omega, by omega⟩
   ·have := h1.2.2
    show rdP bs d.p ≤ bs.length
    unfold rdP
    split <;> omega
   ·rcases List.mem_append.1 hm with h | h
    ·exact h2 m h
    ·have : m = rdM bs d.p := by simpa using h
     rw [this]
     exact mvOf_ok (hB.sub d.p 4)
  ·rw [loopS_stop he]; exact ⟨h1, h2⟩
theorem dec_ok {bs : List Nat} (hB : BsOk bs) (hl : bs.length < 100000) : In4 (decS bs).2.e ∧ In4 (decS bs).2.f ∧ ∀ m ∈ (decS bs).1, MvOk m := by
 have i0 : In4 0 := ⟨by decide, by decide⟩
 have i1 : In4 1 := ⟨by decide, by decide⟩
 have i2 : In4 2 := ⟨by decide, by decide⟩
 have i4 : In4 4 := ⟨by decide, by decide⟩
 have i5 : In4 5 := ⟨by decide, by decide⟩
 have h1 : DsOk bs (magS bs) := by
  unfold magS
  split
  ·exact ⟨i2, ⟨by simp only; omega, by simp only; omega⟩, by simp⟩
  ·split
   ·exact ⟨i0, i0, by simp only; omega⟩
   ·exact ⟨i1, i0, by simp only; omega⟩
 have h2 : DsOk bs (u32D bs (magS bs)) := by
  unfold u32D
  split
  ·split
   ·exact ⟨i2, ⟨by simp only; omega, by simp only; omega⟩, h1.2.2⟩
   ·exact ⟨i0, h1.2.1, by simp only; omega⟩
  ·exact h1
 have h3 : DsOk bs (longS (u32D bs (magS bs)) (u32N bs (magS bs))) := by
  unfold longS
  split
  ·unfold failS
   split
   ·exact ⟨i5, i4, h2.2.2⟩
   ·exact h2
  ·exact h2
 have h4 := loop_ok hB hl (u32N bs (magS bs)) _ [] h3 (fun m hm => by cases hm)
 unfold decS
 simp only
 refine ⟨?_, ?_, h4.2⟩
 ·unfold endS
  split
  ·exact i4
  ·exact h4.1.1
 ·unfold endS
  have := h4.1.2.2
  split
  ·exact ⟨by simp only; omega, by simp only; omega⟩
  ·exact h4.1.2.1
def TrK : KC' := fun v _ _ => v = .bool true
theorem live_c {s : Bool} {h : Hp} {nx : Nat} {K : KC'} (hk : K (.bool true) h nx) : Cv Q O s 21 [] h nx K := Cv.byOrc (g := gLive) rfl (v := .bool true) (h' := h) (nx' := nx) rfl hk
theorem RdKeep {α : Type} {h h' : Hp} {lo nx nx' : Nat} {v : Value} {enc : α → List Value} {l : List α} (w : SlNw h lo nx v enc l) (k : Keep nx h h') (hh : nx ≤ nx') : SlRd h' nx' v enc l := by
 obtain ⟨a, cap, rfl, hc⟩ := w
 refine ⟨a, cap, rfl, fun hl => ?_⟩
 obtain ⟨b, sp, ro, _, h2, e, hg⟩ := hc hl
 exact ⟨b, sp, ro, by omega, e, (k b h2).trans hg⟩
def dLst (bs : List Nat) : List Mv := if (decS bs).2.e = 0 then (decS bs).1 else []
def dFt (bs : List Nat) : Int := if (decS bs).2.e = 0 then 0 else (decS bs).2.f
theorem dLst_ok {bs : List Nat} (hB : BsOk bs) (hl : bs.length < 100000) : (∀ m ∈ dLst bs, MvOk m) ∧ (dLst bs).length < 100000 := by
 unfold dLst
 split
 ·rename_i h
  refine ⟨(dec_ok hB hl).2.2, ?_⟩
  have := congrArg List.length (enc_dec hB h).2
  rw [encS_len] at this
  omega
 ·exact ⟨(fun m hm => by cases hm), by simp⟩
theorem dFt_ok {bs : List Nat} (hB : BsOk bs) (hl : bs.length < 100000) : In4 (dFt bs) := by
 unfold dFt
 split
 ·exact ⟨by decide, by decide⟩
 ·exact (dec_ok hB hl).2.1
def DcK (e f : Int) (L : List Mv) (nx : Nat) (h : Hp) : KC' := fun v h' nx' => ∃ lv, v = .tuple ⟨[lv, .agg ⟨encF e f⟩]⟩ ∧ SlNw h' nx nx' lv encM L ∧ Keep nx h h' ∧ nx ≤ nx'
theorem vcF (e f : Int) : vcells (.agg ⟨encF e f⟩) = encF e f := rfl
theorem lnF (e f : Int) : (encF e f).length = 2 := rfl
theorem wrF {h : Hp} {b : Nat} (e f : Int) : wrO (some (AObj.cells [.int .i64 0, .int .i64 0] false)) h b 0 (encF e f) = .ok (hset h b (.cells (encF e f) false)) := rfl
theorem ldF (e f : Int) : loadC (some 2) 0 (encF e f) = .ok (.agg ⟨encF e f⟩) := rfl
end Go.Proofs.YtcjochjiegiliaaGreat
