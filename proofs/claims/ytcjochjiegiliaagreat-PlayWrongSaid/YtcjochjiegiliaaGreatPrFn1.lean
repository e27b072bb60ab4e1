/- Parts of the proof: PrFn1: each statement bears its own conditions. -/
import Derived.Test.YtcjochjiegiliaaGreatPrFacts
namespace Go.Proofs.YtcjochjiegiliaaGreat
open Go Go.Ax
set_option linter.unusedVariables false
set_option linter.unusedSimpArgs false
set_option maxRecDepth 1000000
noncomputable abbrev Q:Program:=Tryz.prog
def O:Orc:=fun f=>bif Nat.beq f 14 then some gLive else bif Nat.beq f 307 then some gCombF else none
def makek0 (s:Bool) (K:KC') (y1 y2 y6:Value) (h0:Hp) (n0:Nat):Prop:=RK (vFldA 2 y1) fun x21=>RK (vLd none h0 x21) fun x22=>RK (vFldA 0 y6) fun x23=>RK (vLd none h0 x23) fun x24=>Cv Q O true 98 [x22,x24] h0 n0 fun x25 h26 n27=>n0≤n27∧RK (vLd (some 2) h26 y6) fun x28=>AGK (fun h=>vLd (some 2) h y6) x28 (RK (vSt h26 2 y2 x28) fun h29=>RK (vFldA 3 y1) fun x30=>RK (vLd none h29 x30) fun x31=>AGK (fun h=>vLd none h x30) x31 (RK (oConv (.int .i64) x31) fun x32=>RK (bin Q .rem 3 x32 (.int .i64 4)) fun x33=>RK (bin Q .add 3 x33 (.int .i64 1)) fun x34=>RK (vFldA 4 y1) fun x35=>RK (vLd none h29 x35) fun x36=>AGK (fun h=>vLd none h x35) x36 (RK (oConv (.int .i64) x36) fun x37=>RK (bin Q .rem 3 x37 (.int .i64 4)) fun x38=>RK (bin Q .add 3 x38 (.int .i64 1)) fun x39=>RK (vLd (some 2) h29 y2) fun x40=>K (.tuple ⟨[x40,x25,x34,x39]⟩) h29 n27) 2 [h26,h0]) 2 [h26,h0]) 1 [h0]
def make (s:Bool) (t0:Value) (h:Hp) (nx:Nat) (K:KC'):Prop:=AR (cellsNB (vcells t0)) h nx fun p1 h2 n3=>AR (.ok (.ptr (.cells [(.int .i64 0),(.slice none 0 0)] false))) h2 n3 fun p4 h5 n6=>RK (vFldA 0 p1) fun x7=>RK (vLd (some 2) h5 x7) fun x8=>Cv Q O s 97 [x8] h5 n6 fun x9 h10 n11=>AR (.ok (.ptr (.cells [(.int .i64 0),(.slice none 0 0)] false))) h10 n11 fun p12 h13 n14=>RK (vSt h13 2 p12 x9) fun h15=>RK (vFldA 0 p12) fun x16=>RK (vLd none h15 x16) fun x17=>RK (bin Q .eql 3 x17 (.int .i64 0)) fun x18=>IF x18 (RK (vBld [(.int .i64 0),(.slice none 0 0)] [(0,1,(.int .i64 1))]) fun x19=>RK (vSt h15 2 p12 x19) fun h20=>(makek0 s K p1 p4 p12 h20 n14)) ((makek0 s K p1 p4 p12 h15 n14))
def rightL:List (List Nat):=[]
def right (s:Bool) (t0:Value) (h:Hp) (nx:Nat) (K:KC'):Prop:=AR (cellsNB (vcells t0)) h nx fun p1 h2 n3=>RK (.ok (Value.func (.func 192) ⟨[]⟩ ⟨[p1]⟩)) fun x4=>AR (.ok (.ptr (.cells [.nilFunc] false))) h2 n3 fun p5 h6 n7=>RK (vSt h6 1 p5 x4) fun h8=>RK (vFldA 0 p1) fun x9=>RK (vLd none h8 x9) fun x10=>RK (bin Q .lss 3 x10 (.int .i64 0)) fun x11=>IF x11 (K (.int .i64 3) h8 n7) (RK (vFldA 0 p1) fun x12=>RK (vLd none h8 x12) fun x13=>RK (bin Q .gtr 3 x13 (.int .i64 4096)) fun x14=>IF x14 (K (.int .i64 5) h8 n7) (RK (vFldA 1 p1) fun x15=>RK (vLd none h8 x15) fun x16=>RK (lenS x16) fun x17=>RK (bin Q .gtr 3 x17 (.int .i64 65536)) fun x18=>IF x18 (K (.int .i64 5) h8 n7) (RK (vFldA 1 p1) fun x19=>RK (vLd none h8 x19) fun x20=>RK (.ok (Value.func (.func 194) ⟨[]⟩ ⟨[p5]⟩)) fun x21=>Cv Q O s 193 [x20,x21] h8 n7 fun x22 h23 n24=>IF x22 (K (.int .i64 3) h23 n24) (RK (vFldA 1 p1) fun x25=>RK (vLd none h23 x25) fun x26=>Cv Q O s 193 [x26,(.func (.func 195) #[] #[])] h23 n24 fun x27 h28 n29=>IF x27 (K (.int .i64 7) h28 n29) (K (.int .i64 0) h28 n29)))))
theorem righte {s:Bool} {t0:Value} {h:Hp} {nx:Nat} {K:KC'}:fF Q O s rightL 107 [t0] h nx K=right s t0 h nx K:=by kernel_rfl
theorem rightv {s:Bool} {t0:Value} {h:Hp} {nx:Nat} {K:KC'} (w:right s t0 h nx K):Cv Q O s 107 [t0] h nx K:=Cv.byF rightL rfl (by rw [righte]; exact w)
def right1L:List (List Nat):=[]
def right1 (s:Bool) (t0 t1:Value) (h:Hp) (nx:Nat) (K:KC'):Prop:=RK (bin Q .lss 3 t0 (.int .i64 0)) fun x1=>IF x1 (K (.bool true) h nx) (RK (vFldA 0 t1) fun x2=>RK (vLd none h x2) fun x3=>RK (bin Q .geq 3 t0 x3) fun x4=>K x4 h nx)
theorem right1e {s:Bool} {t0 t1:Value} {h:Hp} {nx:Nat} {K:KC'}:fF Q O s right1L 192 [t0,t1] h nx K=right1 s t0 t1 h nx K:=by kernel_rfl
theorem right1v {s:Bool} {t0 t1:Value} {h:Hp} {nx:Nat} {K:KC'} (w:right1 s t0 t1 h nx K):Cv Q O s 192 [t0,t1] h nx K:=Cv.byF right1L rfl (by rw [right1e]; exact w)
def right2L:List (List Nat):=[]
def right2 (s:Bool) (t0 t1:Value) (h:Hp) (nx:Nat) (K:KC'):Prop:=AR (cellsNB (vcells t0)) h nx fun p1 h2 n3=>RK (vLd none h2 t1) fun x4=>RK (vFldA 0 p1) fun x5=>RK (vLd none h2 x5) fun x6=>CVK Q O s (callV h2 n3 [x6] x4) fun x7 h8 n9=>IF x7 (K (.bool true) h8 n9) (RK (vLd none h8 t1) fun x10=>RK (vFldA 1 p1) fun x11=>RK (vLd none h8 x11) fun x12=>CVK Q O s (callV h8 n9 [x12] x10) fun x13 h14 n15=>K x13 h14 n15)
theorem right2e {s:Bool} {t0 t1:Value} {h:Hp} {nx:Nat} {K:KC'}:fF Q O s right2L 194 [t0,t1] h nx K=right2 s t0 t1 h nx K:=by kernel_rfl
theorem right2v {s:Bool} {t0 t1:Value} {h:Hp} {nx:Nat} {K:KC'} (w:right2 s t0 t1 h nx K):Cv Q O s 194 [t0,t1] h nx K:=Cv.byF right2L rfl (by rw [right2e]; exact w)
def right3L:List (List Nat):=[]
def right3 (s:Bool) (t0:Value) (h:Hp) (nx:Nat) (K:KC'):Prop:=AR (cellsNB (vcells t0)) h nx fun p1 h2 n3=>RK (vFldA 2 p1) fun x4=>RK (vLd none h2 x4) fun x5=>RK (bin Q .lss 2 x5 (.int .i64 0)) fun x6=>IF x6 (K (.bool true) h2 n3) (RK (vFldA 2 p1) fun x7=>RK (vLd none h2 x7) fun x8=>RK (bin Q .gtr 2 x8 (.int .i64 2147483647)) fun x9=>K x9 h2 n3)
theorem right3e {s:Bool} {t0:Value} {h:Hp} {nx:Nat} {K:KC'}:fF Q O s right3L 195 [t0] h nx K=right3 s t0 h nx K:=by kernel_rfl
theorem right3v {s:Bool} {t0:Value} {h:Hp} {nx:Nat} {K:KC'} (w:right3 s t0 h nx K):Cv Q O s 195 [t0] h nx K:=Cv.byF right3L rfl (by rw [right3e]; exact w)
def contsL:List (List Nat):=[]
def conts (s:Bool) (t0 t1:Value) (h:Hp) (nx:Nat) (K:KC'):Prop:=Cv Q O s 275 [t0,t1] h nx fun x1 h2 n3=>RK (bin Q .geq 3 x1 (.int .i64 0)) fun x4=>K x4 h2 n3
theorem contse {s:Bool} {t0 t1:Value} {h:Hp} {nx:Nat} {K:KC'}:fF Q O s contsL 193 [t0,t1] h nx K=conts s t0 t1 h nx K:=by kernel_rfl
theorem contsv {s:Bool} {t0 t1:Value} {h:Hp} {nx:Nat} {K:KC'} (w:conts s t0 t1 h nx K):Cv Q O s 193 [t0,t1] h nx K:=Cv.byF contsL rfl (by rw [contse]; exact w)
def indexL:List (List Nat):=[[0,1,4,7,8]]
def indexl0 (s:Bool) (a0 a1 a4 a7 a8:Value) (h:Hp) (nx:Nat) (N:KVl) (e0:KVl) (R:KVl):Prop:=RK (bin Q .lss 3 a8 a7) fun x8=>IF x8 (RK (vIx (.slice 3) a0 a8) fun x9=>RK (vLd (some 3) h x9) fun x10=>CVK Q O s (callV h nx [x10] a1) fun x11 h12 n13=>IF x11 (R [a0,a1,a8,a7,a8] h12 n13) (RK (bin Q .add 3 a8 (.int .i64 1)) fun x14=>N [a0,a1,a4,a7,x14] h12 n13)) (e0 [a0,a1,a4,a7,a8] h nx)
def index (s:Bool) (t0 t1:Value) (h:Hp) (nx:Nat) (K:KC'):Prop:=RK (lenS t0) fun x1=>Lp (fL Q O s indexL 275 0) [t0,t1,(.int .i64 0),x1,(.int .i64 0)] h nx [(0,fun v4 h2 n3=>K (.int .i64 (-1)) h2 n3)] (fun v7 h5 n6=>K (nv v7 2) h5 n6)
theorem indexb0 {s:Bool} {a0 a1 a4 a7 a8:Value} {h:Hp} {nx:Nat} {N e0 R:KVl}:fL Q O s indexL 275 0 [a0,a1,a4,a7,a8] h nx N [(0,e0)] R=indexl0 s a0 a1 a4 a7 a8 h nx N e0 R:=by kernel_rfl
theorem indexe {s:Bool} {t0 t1:Value} {h:Hp} {nx:Nat} {K:KC'}:fF Q O s indexL 275 [t0,t1] h nx K=index s t0 t1 h nx K:=by kernel_rfl
theorem indexv {s:Bool} {t0 t1:Value} {h:Hp} {nx:Nat} {K:KC'} (w:index s t0 t1 h nx K):Cv Q O s 275 [t0,t1] h nx K:=Cv.byF indexL rfl (by rw [indexe]; exact w)
def rrightL:List (List Nat):=[[1,2,3],[1,2,5]]
def rrightl0 (s:Bool) (a1 a2 a3:Value) (h:Hp) (nx:Nat) (N:KVl) (e0:KVl) (R:KVl):Prop:=RK (vFldA 1 a1) fun x20=>RK (vLd none h x20) fun x21=>RK (lenS x21) fun x22=>RK (bin Q .lss 3 a3 x22) fun x23=>IF x23 (RK (vFldA 1 a1) fun x24=>RK (vLd none h x24) fun x25=>RK (vIx (.slice 3) x25 a3) fun x26=>RK (vLd (some 3) h x26) fun x27=>AR (.ok (.ptr (.cells [(.int .i64 0),(.int .i64 0),(.int .i64 0)] false))) h nx fun p28 h29 n30=>RK (vSt h29 3 p28 x27) fun h31=>RK (vFldA 0 p28) fun x32=>RK (vLd none h31 x32) fun x33=>RK (bin Q .lss 3 x33 (.int .i64 0)) fun x34=>IF x34 (R [a1,(.int .i64 3),a3] h31 n30) (RK (vFldA 0 p28) fun x35=>RK (vLd none h31 x35) fun x36=>RK (vFldA 0 a1) fun x37=>RK (vLd none h31 x37) fun x38=>RK (bin Q .geq 3 x36 x38) fun x39=>IF x39 (R [a1,(.int .i64 3),a3] h31 n30) (RK (vFldA 1 p28) fun x40=>RK (vLd none h31 x40) fun x41=>RK (bin Q .lss 3 x41 (.int .i64 0)) fun x42=>IF x42 (R [a1,(.int .i64 3),a3] h31 n30) (RK (vFldA 1 p28) fun x43=>RK (vLd none h31 x43) fun x44=>RK (vFldA 0 a1) fun x45=>RK (vLd none h31 x45) fun x46=>RK (bin Q .geq 3 x44 x46) fun x47=>IF x47 (R [a1,(.int .i64 3),a3] h31 n30) (RK (bin Q .add 3 a3 (.int .i64 1)) fun x50=>N [a1,a2,x50] h31 n30))))) (e0 [a1,a2,a3] h nx)
def rrightl1 (s:Bool) (a1 a2 a5:Value) (h:Hp) (nx:Nat) (N:KVl) (e2:KVl) (R:KVl):Prop:=RK (vFldA 1 a1) fun x57=>RK (vLd none h x57) fun x58=>RK (lenS x58) fun x59=>RK (bin Q .lss 3 a5 x59) fun x60=>IF x60 (RK (vFldA 1 a1) fun x61=>RK (vLd none h x61) fun x62=>RK (vIx (.slice 3) x62 a5) fun x63=>RK (vFldA 2 x63) fun x64=>RK (vLd none h x64) fun x65=>RK (bin Q .lss 2 x65 (.int .i64 0)) fun x66=>IF x66 (R [a1,(.int .i64 7),a5] h nx) (RK (vFldA 1 a1) fun x67=>RK (vLd none h x67) fun x68=>RK (vIx (.slice 3) x68 a5) fun x69=>RK (vFldA 2 x69) fun x70=>RK (vLd none h x70) fun x71=>RK (bin Q .gtr 2 x71 (.int .i64 2147483647)) fun x72=>IF x72 (R [a1,(.int .i64 7),a5] h nx) (RK (bin Q .add 3 a5 (.int .i64 1)) fun x75=>N [a1,a2,x75] h nx))) (e2 [a1,a2,a5] h nx)
def rrightk0 (s:Bool) (K:KC') (y1 y17:Value) (h0:Hp) (n0:Nat):Prop:=IF y17 (K (.int .i64 5) h0 n0) (Lp (fL Q O s rrightL 114 0) [y1,(.int .i64 0),(.int .i64 0)] h0 n0 [(0,fun v16 h14 n15=>Lp (fL Q O s rrightL 114 1) [(nv v16 0),(nv v16 1),(.int .i64 0)] h14 n15 [(2,fun v53 h51 n52=>K (.int .i64 0) h51 n52)] (fun v56 h54 n55=>K (nv v56 1) h54 n55))] (fun v19 h17 n18=>K (nv v19 1) h17 n18))
def rright (s:Bool) (t0:Value) (h:Hp) (nx:Nat) (K:KC'):Prop:=AR (cellsNB (vcells t0)) h nx fun p1 h2 n3=>RK (vFldA 0 p1) fun x4=>RK (vLd none h2 x4) fun x5=>RK (bin Q .lss 3 x5 (.int .i64 0)) fun x6=>IF x6 (K (.int .i64 3) h2 n3) (RK (vFldA 0 p1) fun x7=>RK (vLd none h2 x7) fun x8=>RK (bin Q .gtr 3 x8 (.int .i64 4096)) fun x9=>IF x9 ((rrightk0 s K p1 (.bool true) h2 n3)) (RK (vFldA 1 p1) fun x10=>RK (vLd none h2 x10) fun x11=>RK (lenS x11) fun x12=>RK (bin Q .gtr 3 x12 (.int .i64 65536)) fun x13=>(rrightk0 s K p1 x13 h2 n3)))
theorem rrightb0 {s:Bool} {a1 a2 a3:Value} {h:Hp} {nx:Nat} {N e0 R:KVl}:fL Q O s rrightL 114 0 [a1,a2,a3] h nx N [(0,e0)] R=rrightl0 s a1 a2 a3 h nx N e0 R:=by kernel_rfl
theorem rrightb1 {s:Bool} {a1 a2 a5:Value} {h:Hp} {nx:Nat} {N e2 R:KVl}:fL Q O s rrightL 114 1 [a1,a2,a5] h nx N [(2,e2)] R=rrightl1 s a1 a2 a5 h nx N e2 R:=by kernel_rfl
theorem rrighte {s:Bool} {t0:Value} {h:Hp} {nx:Nat} {K:KC'}:fF Q O s rrightL 114 [t0] h nx K=rright s t0 h nx K:=by kernel_rfl
theorem rrightv {s:Bool} {t0:Value} {h:Hp} {nx:Nat} {K:KC'} (w:rright s t0 h nx K):Cv Q O s 114 [t0] h nx K:=Cv.byF rrightL rfl (by rw [rrighte]; exact w)
def canonL:List (List Nat):=[]
def canon (s:Bool) (t0:Value) (h:Hp) (nx:Nat) (K:KC'):Prop:=AR (cellsNB (vcells t0)) h nx fun p1 h2 n3=>AR (.ok (.ptr (.cells [(.int .i64 0),(.slice none 0 0)] false))) h2 n3 fun p4 h5 n6=>RK (vFldA 1 p1) fun x7=>RK (vLd none h5 x7) fun x8=>Cv Q O s 307 [(.int .i64 1),x8] h5 n6 fun x9 h10 n11=>RK (oExtract x9 0) fun x12=>RK (oExtract x9 1) fun x13=>RK (vFldA 0 p1) fun x14=>RK (vLd none h10 x14) fun x15=>RK (vBld [(.int .i64 0),(.slice none 0 0)] [(0,1,x15),(1,1,x12)]) fun x16=>RK (vSt h10 2 p4 x16) fun h17=>RK (vLd (some 2) h17 p4) fun x18=>K x18 h17 n11
theorem canone {s:Bool} {t0:Value} {h:Hp} {nx:Nat} {K:KC'}:fF Q O s canonL 227 [t0] h nx K=canon s t0 h nx K:=by kernel_rfl
theorem canonv {s:Bool} {t0:Value} {h:Hp} {nx:Nat} {K:KC'} (w:canon s t0 h nx K):Cv Q O s 227 [t0] h nx K:=Cv.byF canonL rfl (by rw [canone]; exact w)
def rcanonL:List (List Nat):=[]
def rcanon (s:Bool) (t0:Value) (h:Hp) (nx:Nat) (K:KC'):Prop:=AR (cellsNB (vcells t0)) h nx fun p1 h2 n3=>AR (.ok (.ptr (.cells [(.int .i64 0),(.slice none 0 0)] false))) h2 n3 fun p4 h5 n6=>RK (vFldA 1 p1) fun x7=>RK (vLd none h5 x7) fun x8=>Cv Q O s 317 [(.int .i64 1),x8] h5 n6 fun x9 h10 n11=>RK (oExtract x9 0) fun x12=>RK (oExtract x9 1) fun x13=>RK (vFldA 0 p1) fun x14=>RK (vLd none h10 x14) fun x15=>RK (vBld [(.int .i64 0),(.slice none 0 0)] [(0,1,x15),(1,1,x12)]) fun x16=>RK (vSt h10 2 p4 x16) fun h17=>RK (vLd (some 2) h17 p4) fun x18=>K x18 h17 n11
theorem rcanone {s:Bool} {t0:Value} {h:Hp} {nx:Nat} {K:KC'}:fF Q O s rcanonL 243 [t0] h nx K=rcanon s t0 h nx K:=by kernel_rfl
theorem rcanonv {s:Bool} {t0:Value} {h:Hp} {nx:Nat} {K:KC'} (w:rcanon s t0 h nx K):Cv Q O s 243 [t0] h nx K:=Cv.byF rcanonL rfl (by rw [rcanone]; exact w)
def rcombL:List (List Nat):=[[0,1,4,5,6,7,8],[0,1,4,5,6,7,8,9],[0,1,4,5,6,7,8,9,10,11],[4,5,6,7,12]]
def rcombl1 (s:Bool) (a0 a1 a4 a5 a6 a7 a8 a9:Value) (h:Hp) (nx:Nat) (N:KVl) (e2:KVl) (R:KVl):Prop:=RK (lenS a6) fun x13=>RK (bin Q .lss 3 a9 x13) fun x14=>IF x14 (RK (vIx (.slice 3) a6 a9) fun x15=>RK (vLd (some 3) h x15) fun x16=>RK (vIx (.slice 3) a1 a8) fun x17=>RK (vLd (some 3) h x17) fun x18=>Cv Q O true 380 [x16,x18] h nx fun x19 h20 n21=>nx≤n21∧IF x19 (RK (bin Q .add 3 a9 (.int .i64 1)) fun x23=>N [a0,a1,a4,a5,a6,a7,a8,x23] h20 n21) (e2 [a0,a1,a4,a5,a6,a7,a8,a9] h20 n21)) (e2 [a0,a1,a4,a5,a6,a7,a8,a9] h nx)
def rcombl2 (s:Bool) (a0 a1 a4 a5 a6 a7 a8 a9 a10 a11:Value) (h:Hp) (nx:Nat) (N:KVl) (e4:KVl) (R:KVl):Prop:=RK (bin Q .gtr 3 a11 a9) fun x71=>IF x71 (RK (bin Q .sub 3 a11 (.int .i64 1)) fun x72=>RK (vIx (.slice 3) a6 x72) fun x73=>RK (vLd (some 3) h x73) fun x74=>RK (vIx (.slice 3) a6 a11) fun x75=>RK (vSt h 3 x75 x74) fun h76=>RK (bin Q .sub 3 a11 (.int .i64 1)) fun x77=>RK (vIx (.slice 2) a7 x77) fun x78=>RK (vLd (some 2) h76 x78) fun x79=>RK (vIx (.slice 2) a7 a11) fun x80=>RK (vSt h76 2 x80 x79) fun h81=>RK (bin Q .sub 3 a11 (.int .i64 1)) fun x82=>N [a0,a1,a4,a5,a6,a7,a8,a9,a10,x82] h81 nx) (e4 [a0,a1,a4,a5,a6,a7,a8,a9,a10,a11] h nx)
def rcombk0 (s:Bool) (N:KVl) (e0:KVl) (R:KVl) (y0 y1 y4 y5 y6 y7 y8:Value) (h0:Hp) (n0:Nat):Prop:=RK (bin Q .add 3 y8 (.int .i64 1)) fun x126=>N [y0,y1,y4,y5,y6,y7,x126] h0 n0
def rcombl0 (s:Bool) (a0 a1 a4 a5 a6 a7 a8:Value) (h:Hp) (nx:Nat) (N:KVl) (e0:KVl) (R:KVl):Prop:=RK (lenS a1) fun x8=>RK (bin Q .lss 3 a8 x8) fun x9=>IF x9 (Lp (fL Q O s rcombL 317 1) [a0,a1,a4,a5,a6,a7,a8,(.int .i64 0)] h nx [(2,fun v12 h10 n11=>RK (vIx (.slice 3) (nv v12 1) (nv v12 6)) fun x24=>RK (vFldA 2 x24) fun x25=>RK (vLd none h10 x25) fun x26=>Cv Q O s 381 [x26] h10 n11 fun x27 h28 n29=>AR (.ok (.ptr (.cells [(.int .i64 0),(.int .u64 0)] false))) h28 n29 fun p30 h31 n32=>RK (vSt h31 2 p30 x27) fun h33=>RK (lenS (nv v12 4)) fun x34=>RK (bin Q .lss 3 (nv v12 7) x34) fun x35=>IF x35 (RK (vIx (.slice 3) (nv v12 1) (nv v12 6)) fun x36=>RK (vLd (some 3) h33 x36) fun x37=>RK (vIx (.slice 3) (nv v12 4) (nv v12 7)) fun x38=>RK (vLd (some 3) h33 x38) fun x39=>Cv Q O true 380 [x37,x39] h33 n32 fun x40 h41 n42=>n32≤n42∧RK (oUn .not x40) fun x43=>IF x43 (RK (vIx (.slice 2) (nv v12 5) (nv v12 7)) fun x44=>RK (vLd (some 2) h41 x44) fun x45=>RK (vLd (some 2) h41 p30) fun x46=>Cv Q O true 382 [(nv v12 0),x45,x46] h41 n42 fun x47 h48 n49=>n42≤n49∧RK (vIx (.slice 2) (nv v12 5) (nv v12 7)) fun x50=>RK (vSt h48 2 x50 x47) fun h51=>(rcombk0 s N e0 R (nv v12 0) (nv v12 1) (nv v12 2) (nv v12 3) (nv v12 4) (nv v12 5) (nv v12 6) h51 n49)) (RK (vBld [(.int .i64 0),(.int .i64 0),(.int .i64 0)] []) fun x52=>AR (vBsl 1 [(.int .i64 0),(.int .i64 0),(.int .i64 0)] [(0,3,x52)]) h41 n42 fun p53 h54 n55=>EK (orR (appendA 3 h54 n55 (nv v12 4) p53)) fun x56 h57 n58=>RK (vBld [(.int .i64 0),(.int .u64 0)] []) fun x59=>AR (vBsl 1 [(.int .i64 0),(.int .u64 0)] [(0,2,x59)]) h57 n58 fun p60 h61 n62=>EK (orR (appendA 2 h61 n62 (nv v12 5) p60)) fun x63 h64 n65=>RK (lenS x56) fun x66=>RK (bin Q .sub 3 x66 (.int .i64 1)) fun x67=>Lp (fL Q O s rcombL 317 2) [(nv v12 0),(nv v12 1),(nv v12 2),(nv v12 3),x56,x63,(nv v12 6),(nv v12 7),p30,x67] h64 n65 [(4,fun v70 h68 n69=>RK (vIx (.slice 3) (nv v70 1) (nv v70 6)) fun x83=>RK (vFldA 0 x83) fun x84=>RK (vLd none h68 x84) fun x85=>RK (vIx (.slice 3) (nv v70 1) (nv v70 6)) fun x86=>RK (vFldA 1 x86) fun x87=>RK (vLd none h68 x87) fun x88=>RK (vBld [(.int .i64 0),(.int .i64 0),(.int .i64 0)] [(0,1,x85),(1,1,x88)]) fun x89=>RK (vIx (.slice 3) (nv v70 4) (nv v70 7)) fun x90=>RK (vSt h68 3 x90 x89) fun h91=>RK (vLd (some 2) h91 (nv v70 8)) fun x92=>RK (vIx (.slice 2) (nv v70 5) (nv v70 7)) fun x93=>RK (vSt h91 2 x93 x92) fun h94=>(rcombk0 s N e0 R (nv v70 0) (nv v70 1) (nv v70 2) (nv v70 3) (nv v70 4) (nv v70 5) (nv v70 6) h94 n69))] (fun _ _ _=>False))) (RK (vBld [(.int .i64 0),(.int .i64 0),(.int .i64 0)] []) fun x95=>AR (vBsl 1 [(.int .i64 0),(.int .i64 0),(.int .i64 0)] [(0,3,x95)]) h33 n32 fun p96 h97 n98=>EK (orR (appendA 3 h97 n98 (nv v12 4) p96)) fun x99 h100 n101=>RK (vBld [(.int .i64 0),(.int .u64 0)] []) fun x102=>AR (vBsl 1 [(.int .i64 0),(.int .u64 0)] [(0,2,x102)]) h100 n101 fun p103 h104 n105=>EK (orR (appendA 2 h104 n105 (nv v12 5) p103)) fun x106 h107 n108=>RK (lenS x99) fun x109=>RK (bin Q .sub 3 x109 (.int .i64 1)) fun x110=>Lp (fL Q O s rcombL 317 2) [(nv v12 0),(nv v12 1),(nv v12 2),(nv v12 3),x99,x106,(nv v12 6),(nv v12 7),p30,x110] h107 n108 [(4,fun v113 h111 n112=>RK (vIx (.slice 3) (nv v113 1) (nv v113 6)) fun x114=>RK (vFldA 0 x114) fun x115=>RK (vLd none h111 x115) fun x116=>RK (vIx (.slice 3) (nv v113 1) (nv v113 6)) fun x117=>RK (vFldA 1 x117) fun x118=>RK (vLd none h111 x118) fun x119=>RK (vBld [(.int .i64 0),(.int .i64 0),(.int .i64 0)] [(0,1,x116),(1,1,x119)]) fun x120=>RK (vIx (.slice 3) (nv v113 4) (nv v113 7)) fun x121=>RK (vSt h111 3 x121 x120) fun h122=>RK (vLd (some 2) h122 (nv v113 8)) fun x123=>RK (vIx (.slice 2) (nv v113 5) (nv v113 7)) fun x124=>RK (vSt h122 2 x124 x123) fun h125=>(rcombk0 s N e0 R (nv v113 0) (nv v113 1) (nv v113 2) (nv v113 3) (nv v113 4) (nv v113 5) (nv v113 6) h125 n112))] (fun _ _ _=>False)))] (fun _ _ _=>False)) (e0 [a0,a1,a4,a5,a6,a7,a8] h nx)
def rcombl3 (s:Bool) (a4 a5 a6 a7 a12:Value) (h:Hp) (nx:Nat) (N:KVl) (e6:KVl) (R:KVl):Prop:=RK (lenS a6) fun x133=>RK (bin Q .lss 3 a12 x133) fun x134=>IF x134 (RK (vIx (.slice 2) a7 a12) fun x135=>RK (vLd (some 2) h x135) fun x136=>Cv Q O s 383 [x136] h nx fun x137 h138 n139=>RK (oExtract x137 0) fun x140=>RK (oExtract x137 1) fun x141=>RK (oUn .not x141) fun x142=>IF x142 (R [(.slice none 0 0),(.int .i64 12),a6,a7,a12] h138 n139) (RK (vIx (.slice 3) a6 a12) fun x143=>RK (vFldA 2 x143) fun x144=>RK (vSt h138 1 x144 x140) fun h145=>RK (bin Q .add 3 a12 (.int .i64 1)) fun x146=>N [a4,a5,a6,a7,x146] h145 n139)) (e6 [a4,a5,a6,a7,a12] h nx)
def rcomb (s:Bool) (t0 t1:Value) (h:Hp) (nx:Nat) (K:KC'):Prop:=Cv Q O s 379 [t0] h nx fun x1 h2 n3=>RK (oUn .not x1) fun x4=>IF x4 (K (.tuple ⟨[(.slice none 0 0),(.int .i64 8)]⟩) h2 n3) (Lp (fL Q O s rcombL 317 0) [t0,t1,(.slice none 0 0),(.int .i64 0),(.slice none 0 0),(.slice none 0 0),(.int .i64 0)] h2 n3 [(0,fun v7 h5 n6=>Lp (fL Q O s rcombL 317 3) [(nv v7 2),(nv v7 3),(nv v7 4),(nv v7 5),(.int .i64 0)] h5 n6 [(6,fun v129 h127 n128=>K (.tuple ⟨[(nv v129 2),(.int .i64 0)]⟩) h127 n128)] (fun v132 h130 n131=>K (.tuple ⟨[(nv v132 0),(nv v132 1)]⟩) h130 n131))] (fun _ _ _=>False))
theorem rcombb1 {s:Bool} {a0 a1 a4 a5 a6 a7 a8 a9:Value} {h:Hp} {nx:Nat} {N e2 R:KVl}:fL Q O s rcombL 317 1 [a0,a1,a4,a5,a6,a7,a8,a9] h nx N [(2,e2)] R=rcombl1 s a0 a1 a4 a5 a6 a7 a8 a9 h nx N e2 R:=by kernel_rfl
theorem rcombb2 {s:Bool} {a0 a1 a4 a5 a6 a7 a8 a9 a10 a11:Value} {h:Hp} {nx:Nat} {N e4 R:KVl}:fL Q O s rcombL 317 2 [a0,a1,a4,a5,a6,a7,a8,a9,a10,a11] h nx N [(4,e4)] R=rcombl2 s a0 a1 a4 a5 a6 a7 a8 a9 a10 a11 h nx N e4 R:=by kernel_rfl
theorem rcombb0 {s:Bool} {a0 a1 a4 a5 a6 a7 a8:Value} {h:Hp} {nx:Nat} {N e0 R:KVl}:fL Q O s rcombL 317 0 [a0,a1,a4,a5,a6,a7,a8] h nx N [(0,e0)] R=rcombl0 s a0 a1 a4 a5 a6 a7 a8 h nx N e0 R:=by kernel_rfl
theorem rcombb3 {s:Bool} {a4 a5 a6 a7 a12:Value} {h:Hp} {nx:Nat} {N e6 R:KVl}:fL Q O s rcombL 317 3 [a4,a5,a6,a7,a12] h nx N [(6,e6)] R=rcombl3 s a4 a5 a6 a7 a12 h nx N e6 R:=by kernel_rfl
theorem rcombe {s:Bool} {t0 t1:Value} {h:Hp} {nx:Nat} {K:KC'}:fF Q O s rcombL 317 [t0,t1] h nx K=rcomb s t0 t1 h nx K:=by kernel_rfl
theorem rcombv {s:Bool} {t0 t1:Value} {h:Hp} {nx:Nat} {K:KC'} (w:rcomb s t0 t1 h nx K):Cv Q O s 317 [t0,t1] h nx K:=Cv.byF rcombL rfl (by rw [rcombe]; exact w)
def risL:List (List Nat):=[]
def ris (s:Bool) (t0:Value) (h:Hp) (nx:Nat) (K:KC'):Prop:=RK (bin Q .geq 259 t0 (.int .i64 1)) fun x1=>IF x1 (RK (bin Q .leq 259 t0 (.int .i64 5)) fun x2=>K x2 h nx) (K (.bool false) h nx)
theorem rise {s:Bool} {t0:Value} {h:Hp} {nx:Nat} {K:KC'}:fF Q O s risL 379 [t0] h nx K=ris s t0 h nx K:=by kernel_rfl
theorem risv {s:Bool} {t0:Value} {h:Hp} {nx:Nat} {K:KC'} (w:ris s t0 h nx K):Cv Q O s 379 [t0] h nx K:=Cv.byF risL rfl (by rw [rise]; exact w)
def belowL:List (List Nat):=[]
def below (s:Bool) (t0 t1:Value) (h:Hp) (nx:Nat) (K:KC'):Prop:=AR (cellsNB (vcells t0)) h nx fun p1 h2 n3=>AR (cellsNB (vcells t1)) h2 n3 fun p4 h5 n6=>RK (vFldA 0 p1) fun x7=>RK (vLd none h5 x7) fun x8=>RK (vFldA 0 p4) fun x9=>RK (vLd none h5 x9) fun x10=>RK (bin Q .lss 3 x8 x10) fun x11=>IF x11 (K (.bool true) h5 n6) (RK (vFldA 0 p1) fun x12=>RK (vLd none h5 x12) fun x13=>RK (vFldA 0 p4) fun x14=>RK (vLd none h5 x14) fun x15=>RK (bin Q .eql 3 x13 x15) fun x16=>IF x16 (RK (vFldA 1 p1) fun x17=>RK (vLd none h5 x17) fun x18=>RK (vFldA 1 p4) fun x19=>RK (vLd none h5 x19) fun x20=>RK (bin Q .lss 3 x18 x20) fun x21=>K x21 h5 n6) (K (.bool false) h5 n6))
theorem belowe {s:Bool} {t0 t1:Value} {h:Hp} {nx:Nat} {K:KC'}:fF Q O s belowL 380 [t0,t1] h nx K=below s t0 t1 h nx K:=by kernel_rfl
theorem belowv {s:Bool} {t0 t1:Value} {h:Hp} {nx:Nat} {K:KC'} (w:below s t0 t1 h nx K):Cv Q O s 380 [t0,t1] h nx K:=Cv.byF belowL rfl (by rw [belowe]; exact w)
def rofL:List (List Nat):=[]
def rof (s:Bool) (t0:Value) (h:Hp) (nx:Nat) (K:KC'):Prop:=AR (.ok (.ptr (.cells [(.int .i64 0),(.int .u64 0)] false))) h nx fun p1 h2 n3=>RK (bin Q .lss 2 t0 (.int .i64 0)) fun x4=>IF x4 (RK (oConv (.int .u64) t0) fun x5=>RK (vBld [(.int .i64 0),(.int .u64 0)] [(0,1,(.int .i64 (-1))),(1,1,x5)]) fun x6=>RK (vSt h2 2 p1 x6) fun h7=>RK (vLd (some 2) h7 p1) fun x8=>K x8 h7 n3) (RK (oConv (.int .u64) t0) fun x9=>RK (vBld [(.int .i64 0),(.int .u64 0)] [(1,1,x9)]) fun x10=>RK (vSt h2 2 p1 x10) fun h11=>RK (vLd (some 2) h11 p1) fun x12=>K x12 h11 n3)
theorem rofe {s:Bool} {t0:Value} {h:Hp} {nx:Nat} {K:KC'}:fF Q O s rofL 381 [t0] h nx K=rof s t0 h nx K:=by kernel_rfl
theorem rofv {s:Bool} {t0:Value} {h:Hp} {nx:Nat} {K:KC'} (w:rof s t0 h nx K):Cv Q O s 381 [t0] h nx K:=Cv.byF rofL rfl (by rw [rofe]; exact w)
def raddL:List (List Nat):=[]
def raddk0 (s:Bool) (K:KC') (y4 y5 y6 y7 y9:Value) (h0:Hp) (n0:Nat):Prop:=IF y9 (RK (vLd (some 2) h0 y5) fun x13=>RK (vLd (some 2) h0 y4) fun x14=>Cv Q O s 427 [x13,x14] h0 n0 fun x15 h16 n17=>RK (bin Q .lss 3 x15 (.int .i64 0)) fun x18=>IF x18 (RK (vLd (some 2) h16 y5) fun x19=>RK (vSt h16 2 y6 x19) fun h20=>RK (vLd (some 2) h20 y6) fun x21=>K x21 h20 n17) (RK (vLd (some 2) h16 y4) fun x22=>RK (vSt h16 2 y6 x22) fun h23=>RK (vLd (some 2) h23 y6) fun x24=>K x24 h23 n17)) (RK (bin Q .eql 259 y7 (.int .i64 2)) fun x25=>IF x25 (RK (vLd (some 2) h0 y4) fun x26=>RK (vBld [(.int .i64 0),(.int .u64 0)] []) fun x27=>RK (bin Q .neq 251 x26 x27) fun x28=>IF x28 (Cv Q O s 428 [(.bool true)] h0 n0 fun x29 h30 n31=>RK (vSt h30 2 y6 x29) fun h32=>RK (vLd (some 2) h32 y6) fun x41=>K x41 h32 n31) (RK (vLd (some 2) h0 y5) fun x33=>RK (vBld [(.int .i64 0),(.int .u64 0)] []) fun x34=>RK (bin Q .neq 251 x33 x34) fun x35=>Cv Q O s 428 [x35] h0 n0 fun x36 h37 n38=>RK (vSt h37 2 y6 x36) fun h39=>RK (vLd (some 2) h39 y6) fun x42=>K x42 h39 n38)) (RK (bin Q .eql 259 y7 (.int .i64 5)) fun x43=>IF x43 (RK (vLd (some 2) h0 y4) fun x44=>RK (vLd (some 2) h0 y5) fun x45=>Cv Q O s 429 [x44,x45] h0 n0 fun x46 h47 n48=>RK (vSt h47 2 y6 x46) fun h49=>RK (vLd (some 2) h49 y6) fun x50=>K x50 h49 n48) (RK (vBld [(.int .i64 0),(.int .u64 0)] []) fun x51=>RK (vSt h0 2 y6 x51) fun h52=>RK (vLd (some 2) h52 y6) fun x53=>K x53 h52 n0)))
def radd (s:Bool) (t0 t1 t2:Value) (h:Hp) (nx:Nat) (K:KC'):Prop:=AR (cellsNB (vcells t1)) h nx fun p1 h2 n3=>AR (cellsNB (vcells t2)) h2 n3 fun p4 h5 n6=>AR (.ok (.ptr (.cells [(.int .i64 0),(.int .u64 0)] false))) h5 n6 fun p7 h8 n9=>RK (bin Q .eql 259 t0 (.int .i64 1)) fun x10=>IF x10 ((raddk0 s K p1 p4 p7 t0 (.bool true) h8 n9)) (RK (bin Q .eql 259 t0 (.int .i64 3)) fun x11=>IF x11 ((raddk0 s K p1 p4 p7 t0 (.bool true) h8 n9)) (RK (bin Q .eql 259 t0 (.int .i64 4)) fun x12=>(raddk0 s K p1 p4 p7 t0 x12 h8 n9)))
theorem radde {s:Bool} {t0 t1 t2:Value} {h:Hp} {nx:Nat} {K:KC'}:fF Q O s raddL 382 [t0,t1,t2] h nx K=radd s t0 t1 t2 h nx K:=by kernel_rfl
theorem raddv {s:Bool} {t0 t1 t2:Value} {h:Hp} {nx:Nat} {K:KC'} (w:radd s t0 t1 t2 h nx K):Cv Q O s 382 [t0,t1,t2] h nx K:=Cv.byF raddL rfl (by rw [radde]; exact w)
def rnarrowL:List (List Nat):=[]
def rnarrowk0 (s:Bool) (K:KC') (y4 y23:Value) (h0:Hp) (n0:Nat):Prop:=IF y23 (K (.tuple ⟨[y4,(.bool true)]⟩) h0 n0) (K (.tuple ⟨[(.int .i64 0),(.bool false)]⟩) h0 n0)
def rnarrow (s:Bool) (t0:Value) (h:Hp) (nx:Nat) (K:KC'):Prop:=AR (cellsNB (vcells t0)) h nx fun p1 h2 n3=>RK (vFldA 1 p1) fun x4=>RK (vLd none h2 x4) fun x5=>RK (oConv (.int .i64) x5) fun x6=>RK (vFldA 0 p1) fun x7=>RK (vLd none h2 x7) fun x8=>RK (bin Q .eql 2 x8 (.int .i64 0)) fun x9=>IF x9 (RK (bin Q .geq 2 x6 (.int .i64 0)) fun x10=>IF x10 ((rnarrowk0 s K x6 (.bool true) h2 n3)) (RK (vFldA 0 p1) fun x11=>RK (vLd none h2 x11) fun x12=>RK (bin Q .eql 2 x12 (.int .i64 (-1))) fun x13=>IF x13 (RK (bin Q .lss 2 x6 (.int .i64 0)) fun x14=>(rnarrowk0 s K x6 x14 h2 n3)) ((rnarrowk0 s K x6 (.bool false) h2 n3)))) (RK (vFldA 0 p1) fun x15=>RK (vLd none h2 x15) fun x16=>RK (bin Q .eql 2 x16 (.int .i64 (-1))) fun x17=>IF x17 (RK (bin Q .lss 2 x6 (.int .i64 0)) fun x18=>(rnarrowk0 s K x6 x18 h2 n3)) ((rnarrowk0 s K x6 (.bool false) h2 n3)))
theorem rnarrowe {s:Bool} {t0:Value} {h:Hp} {nx:Nat} {K:KC'}:fF Q O s rnarrowL 383 [t0] h nx K=rnarrow s t0 h nx K:=by kernel_rfl
theorem rnarrowv {s:Bool} {t0:Value} {h:Hp} {nx:Nat} {K:KC'} (w:rnarrow s t0 h nx K):Cv Q O s 383 [t0] h nx K:=Cv.byF rnarrowL rfl (by rw [rnarrowe]; exact w)
def rcmpL:List (List Nat):=[]
def rcmpk0 (s:Bool) (K:KC') (y2 y3 y23:Value) (h0:Hp) (n0:Nat):Prop:=IF y23 (K (.int .i64 (-1)) h0 n0) (RK (vLd (some 2) h0 y2) fun x22=>RK (vLd (some 2) h0 y3) fun x23=>RK (bin Q .eql 251 x22 x23) fun x24=>IF x24 (K (.int .i64 0) h0 n0) (K (.int .i64 1) h0 n0))
def rcmp (s:Bool) (t0 t1:Value) (h:Hp) (nx:Nat) (K:KC'):Prop:=AR (cellsNB (vcells t0)) h nx fun p1 h2 n3=>AR (cellsNB (vcells t1)) h2 n3 fun p4 h5 n6=>RK (vFldA 0 p1) fun x7=>RK (vLd none h5 x7) fun x8=>RK (vFldA 0 p4) fun x9=>RK (vLd none h5 x9) fun x10=>RK (bin Q .lss 2 x8 x10) fun x11=>IF x11 ((rcmpk0 s K p1 p4 (.bool true) h5 n6)) (RK (vFldA 0 p1) fun x12=>RK (vLd none h5 x12) fun x13=>RK (vFldA 0 p4) fun x14=>RK (vLd none h5 x14) fun x15=>RK (bin Q .eql 2 x13 x15) fun x16=>IF x16 (RK (vFldA 1 p1) fun x17=>RK (vLd none h5 x17) fun x18=>RK (vFldA 1 p4) fun x19=>RK (vLd none h5 x19) fun x20=>RK (bin Q .lss 221 x18 x20) fun x21=>(rcmpk0 s K p1 p4 x21 h5 n6)) ((rcmpk0 s K p1 p4 (.bool false) h5 n6)))
theorem rcmpe {s:Bool} {t0 t1:Value} {h:Hp} {nx:Nat} {K:KC'}:fF Q O s rcmpL 427 [t0,t1] h nx K=rcmp s t0 t1 h nx K:=by kernel_rfl
theorem rcmpv {s:Bool} {t0 t1:Value} {h:Hp} {nx:Nat} {K:KC'} (w:rcmp s t0 t1 h nx K):Cv Q O s 427 [t0,t1] h nx K:=Cv.byF rcmpL rfl (by rw [rcmpe]; exact w)
def matrixL:List (List Nat):=[]
def matrixk0 (s:Bool) (K:KC') (y3 y4:Value) (h0:Hp) (n0:Nat):Prop:=RK (vLd (some 2) h0 y3) fun x74=>Cv Q O s 132 [x74] h0 n0 fun x75 h76 n77=>RK (oExtract x75 0) fun x78=>RK (oExtract x75 1) fun x79=>RK (vSt h76 5 y4 x78) fun h80=>RK (vLd (some 5) h80 y4) fun x81=>K (.tuple ⟨[x81,x79]⟩) h80 n77
def matrix (s:Bool) (t0 t1:Value) (h:Hp) (nx:Nat) (K:KC'):Prop:=AR (cellsNB (vcells t0)) h nx fun p1 h2 n3=>AR (cellsNB (vcells t1)) h2 n3 fun p4 h5 n6=>AR (.ok (.ptr (.cells [(.int .i64 0),(.int .i64 0),(.slice none 0 0),(.slice none 0 0),(.slice none 0 0)] false))) h5 n6 fun p7 h8 n9=>RK (vLd (some 5) h8 p1) fun x10=>Cv Q O s 128 [x10] h8 n9 fun x11 h12 n13=>RK (bin Q .neq 34 x11 (.int .i64 0)) fun x14=>IF x14 (RK (vBld [(.int .i64 0),(.int .i64 0),(.slice none 0 0),(.slice none 0 0),(.slice none 0 0)] []) fun x15=>RK (vSt h12 5 p7 x15) fun h16=>RK (vLd (some 5) h16 p7) fun x17=>K (.tuple ⟨[x17,x11]⟩) h16 n13) (RK (vFldA 0 p4) fun x18=>RK (vLd none h12 x18) fun x19=>RK (vFldA 1 p1) fun x20=>RK (vLd none h12 x20) fun x21=>RK (bin Q .neq 3 x19 x21) fun x22=>IF x22 (RK (vBld [(.int .i64 0),(.int .i64 0),(.slice none 0 0),(.slice none 0 0),(.slice none 0 0)] []) fun x23=>RK (vSt h12 5 p7 x23) fun h24=>RK (vLd (some 5) h24 p7) fun x25=>K (.tuple ⟨[x25,(.int .i64 4)]⟩) h24 n13) (RK (vLd (some 2) h12 p4) fun x26=>Cv Q O s 107 [x26] h12 n13 fun x27 h28 n29=>RK (bin Q .neq 34 x27 (.int .i64 0)) fun x30=>IF x30 (RK (vBld [(.int .i64 0),(.int .i64 0),(.slice none 0 0),(.slice none 0 0),(.slice none 0 0)] []) fun x31=>RK (vSt h28 5 p7 x31) fun h32=>RK (vLd (some 5) h32 p7) fun x33=>K (.tuple ⟨[x33,x27]⟩) h32 n29) (RK (vFldA 0 p1) fun x34=>RK (vLd none h28 x34) fun x35=>RK (bin Q .eql 22 x35 (.int .i64 5)) fun x36=>IF x36 (RK (vLd (some 2) h28 p4) fun x39=>Cv Q O s 129 [x39] h28 n29 fun x40 h41 n42=>RK (vSt h41 2 p4 x40) fun h43=>RK (vLd (some 2) h43 p4) fun x49=>Cv Q O s 130 [x49] h43 n42 fun x50 h51 n52=>RK (vSt h51 2 p4 x50) fun h53=>RK (vLd (some 2) h53 p4) fun x69=>Cv Q O s 131 [x69] h53 n52 fun x70 h71 n72=>RK (vSt h71 2 p4 x70) fun h73=>(matrixk0 s K p4 p7 h73 n72)) (RK (bin Q .eql 22 x35 (.int .i64 3)) fun x37=>IF x37 (RK (vLd (some 2) h28 p4) fun x44=>Cv Q O s 130 [x44] h28 n29 fun x45 h46 n47=>RK (vSt h46 2 p4 x45) fun h48=>RK (vLd (some 2) h48 p4) fun x64=>Cv Q O s 131 [x64] h48 n47 fun x65 h66 n67=>RK (vSt h66 2 p4 x65) fun h68=>(matrixk0 s K p4 p7 h68 n67)) (RK (bin Q .eql 22 x35 (.int .i64 1)) fun x38=>IF x38 (RK (vLd (some 2) h28 p4) fun x54=>Cv Q O s 131 [x54] h28 n29 fun x55 h56 n57=>RK (vSt h56 2 p4 x55) fun h58=>(matrixk0 s K p4 p7 h58 n57)) ((matrixk0 s K p4 p7 h28 n29)))))))
theorem matrixe {s:Bool} {t0 t1:Value} {h:Hp} {nx:Nat} {K:KC'}:fF Q O s matrixL 49 [t0,t1] h nx K=matrix s t0 t1 h nx K:=by kernel_rfl
theorem matrixv {s:Bool} {t0 t1:Value} {h:Hp} {nx:Nat} {K:KC'} (w:matrix s t0 t1 h nx K):Cv Q O s 49 [t0,t1] h nx K:=Cv.byF matrixL rfl (by rw [matrixe]; exact w)
def pright0L:List (List Nat):=[]
def pright0k0 (s:Bool) (K:KC') (y1:Value) (h0:Hp) (n0:Nat):Prop:=RK (vFldA 4 y1) fun x63=>RK (vLd none h0 x63) fun x64=>RK (lenS x64) fun x65=>RK (bin Q .gtr 3 x65 (.int .i64 65536)) fun x66=>IF x66 (K (.int .i64 5) h0 n0) (RK (vFldA 4 y1) fun x67=>RK (vLd none h0 x67) fun x68=>Cv Q O s 223 [x68,(.func (.func 224) #[] #[])] h0 n0 fun x69 h70 n71=>IF x69 (K (.int .i64 7) h70 n71) (K (.int .i64 0) h70 n71))
def pright0k1 (s:Bool) (K:KC') (y1 y10:Value) (h0:Hp) (n0:Nat):Prop:=IF y10 (K (.int .i64 8) h0 n0) (RK (vFldA 1 y1) fun x10=>RK (vLd none h0 x10) fun x11=>Cv Q O s 222 [x11,(.int .i64 4096)] h0 n0 fun x12 h13 n14=>RK (oUn .not x12) fun x15=>IF x15 (K (.int .i64 3) h13 n14) (RK (vFldA 0 y1) fun x16=>RK (vLd none h13 x16) fun x17=>RK (bin Q .eql 22 x17 (.int .i64 4)) fun x18=>IF x18 (RK (vFldA 3 y1) fun x21=>RK (vLd none h13 x21) fun x22=>Cv Q O s 222 [x22,(.int .i64 8192)] h13 n14 fun x23 h24 n25=>RK (oUn .not x23) fun x26=>IF x26 (K (.int .i64 3) h24 n25) (RK (vFldA 2 y1) fun x54=>RK (vLd none h24 x54) fun x55=>RK (vFldA 1 y1) fun x56=>RK (vLd none h24 x56) fun x57=>RK (bin Q .sub 3 x57 (.int .i64 1)) fun x58=>Cv Q O s 222 [x55,x58] h24 n25 fun x59 h60 n61=>RK (oUn .not x59) fun x62=>IF x62 (K (.int .i64 3) h60 n61) ((pright0k0 s K y1 h60 n61)))) (RK (bin Q .eql 22 x17 (.int .i64 1)) fun x19=>IF x19 (RK (vFldA 2 y1) fun x36=>RK (vLd none h13 x36) fun x37=>RK (vFldA 1 y1) fun x38=>RK (vLd none h13 x38) fun x39=>RK (bin Q .sub 3 x39 (.int .i64 1)) fun x40=>Cv Q O s 222 [x37,x40] h13 n14 fun x41 h42 n43=>RK (oUn .not x41) fun x44=>IF x44 (K (.int .i64 3) h42 n43) ((pright0k0 s K y1 h42 n43))) (RK (bin Q .eql 22 x17 (.int .i64 2)) fun x20=>IF x20 (RK (vFldA 2 y1) fun x45=>RK (vLd none h13 x45) fun x46=>RK (vFldA 1 y1) fun x47=>RK (vLd none h13 x47) fun x48=>RK (bin Q .sub 3 x48 (.int .i64 1)) fun x49=>Cv Q O s 222 [x46,x49] h13 n14 fun x50 h51 n52=>RK (oUn .not x50) fun x53=>IF x53 (K (.int .i64 3) h51 n52) ((pright0k0 s K y1 h51 n52))) ((pright0k0 s K y1 h13 n14))))))
def pright0 (s:Bool) (t0:Value) (h:Hp) (nx:Nat) (K:KC'):Prop:=AR (cellsNB (vcells t0)) h nx fun p1 h2 n3=>RK (vFldA 0 p1) fun x4=>RK (vLd none h2 x4) fun x5=>RK (bin Q .leq 22 x5 (.int .i64 0)) fun x6=>IF x6 ((pright0k1 s K p1 (.bool true) h2 n3)) (RK (vFldA 0 p1) fun x7=>RK (vLd none h2 x7) fun x8=>RK (bin Q .gtr 22 x8 (.int .i64 5)) fun x9=>(pright0k1 s K p1 x9 h2 n3))
theorem pright0e {s:Bool} {t0:Value} {h:Hp} {nx:Nat} {K:KC'}:fF Q O s pright0L 128 [t0] h nx K=pright0 s t0 h nx K:=by kernel_rfl
theorem pright0v {s:Bool} {t0:Value} {h:Hp} {nx:Nat} {K:KC'} (w:pright0 s t0 h nx K):Cv Q O s 128 [t0] h nx K:=Cv.byF pright0L rfl (by rw [pright0e]; exact w)
def pwithinL:List (List Nat):=[]
def pwithin (s:Bool) (t0 t1:Value) (h:Hp) (nx:Nat) (K:KC'):Prop:=RK (bin Q .geq 3 t0 (.int .i64 0)) fun x1=>IF x1 (RK (bin Q .leq 3 t0 t1) fun x2=>K x2 h nx) (K (.bool false) h nx)
theorem pwithine {s:Bool} {t0 t1:Value} {h:Hp} {nx:Nat} {K:KC'}:fF Q O s pwithinL 222 [t0,t1] h nx K=pwithin s t0 t1 h nx K:=by kernel_rfl
theorem pwithinv {s:Bool} {t0 t1:Value} {h:Hp} {nx:Nat} {K:KC'} (w:pwithin s t0 t1 h nx K):Cv Q O s 222 [t0,t1] h nx K:=Cv.byF pwithinL rfl (by rw [pwithine]; exact w)
def contsIL:List (List Nat):=[]
def contsI (s:Bool) (t0 t1:Value) (h:Hp) (nx:Nat) (K:KC'):Prop:=Cv Q O s 306 [t0,t1] h nx fun x1 h2 n3=>RK (bin Q .geq 3 x1 (.int .i64 0)) fun x4=>K x4 h2 n3
theorem contsIe {s:Bool} {t0 t1:Value} {h:Hp} {nx:Nat} {K:KC'}:fF Q O s contsIL 223 [t0,t1] h nx K=contsI s t0 t1 h nx K:=by kernel_rfl
theorem contsIv {s:Bool} {t0 t1:Value} {h:Hp} {nx:Nat} {K:KC'} (w:contsI s t0 t1 h nx K):Cv Q O s 223 [t0,t1] h nx K:=Cv.byF contsIL rfl (by rw [contsIe]; exact w)
def pright1L:List (List Nat):=[]
def pright1 (s:Bool) (t0:Value) (h:Hp) (nx:Nat) (K:KC'):Prop:=RK (bin Q .lss 2 t0 (.int .i64 0)) fun x1=>IF x1 (K (.bool true) h nx) (RK (bin Q .gtr 2 t0 (.int .i64 2147483647)) fun x2=>K x2 h nx)
theorem pright1e {s:Bool} {t0:Value} {h:Hp} {nx:Nat} {K:KC'}:fF Q O s pright1L 224 [t0] h nx K=pright1 s t0 h nx K:=by kernel_rfl
theorem pright1v {s:Bool} {t0:Value} {h:Hp} {nx:Nat} {K:KC'} (w:pright1 s t0 h nx K):Cv Q O s 224 [t0] h nx K:=Cv.byF pright1L rfl (by rw [pright1e]; exact w)
def indexIL:List (List Nat):=[[0,1,4,7,8]]
def indexIl0 (s:Bool) (a0 a1 a4 a7 a8:Value) (h:Hp) (nx:Nat) (N:KVl) (e0:KVl) (R:KVl):Prop:=RK (bin Q .lss 3 a8 a7) fun x8=>IF x8 (RK (vIx (.slice 1) a0 a8) fun x9=>RK (vLd none h x9) fun x10=>CVK Q O s (callV h nx [x10] a1) fun x11 h12 n13=>IF x11 (R [a0,a1,a8,a7,a8] h12 n13) (RK (bin Q .add 3 a8 (.int .i64 1)) fun x14=>N [a0,a1,a4,a7,x14] h12 n13)) (e0 [a0,a1,a4,a7,a8] h nx)
def indexI (s:Bool) (t0 t1:Value) (h:Hp) (nx:Nat) (K:KC'):Prop:=RK (lenS t0) fun x1=>Lp (fL Q O s indexIL 306 0) [t0,t1,(.int .i64 0),x1,(.int .i64 0)] h nx [(0,fun v4 h2 n3=>K (.int .i64 (-1)) h2 n3)] (fun v7 h5 n6=>K (nv v7 2) h5 n6)
theorem indexIb0 {s:Bool} {a0 a1 a4 a7 a8:Value} {h:Hp} {nx:Nat} {N e0 R:KVl}:fL Q O s indexIL 306 0 [a0,a1,a4,a7,a8] h nx N [(0,e0)] R=indexIl0 s a0 a1 a4 a7 a8 h nx N e0 R:=by kernel_rfl
theorem indexIe {s:Bool} {t0 t1:Value} {h:Hp} {nx:Nat} {K:KC'}:fF Q O s indexIL 306 [t0,t1] h nx K=indexI s t0 t1 h nx K:=by kernel_rfl
theorem indexIv {s:Bool} {t0 t1:Value} {h:Hp} {nx:Nat} {K:KC'} (w:indexI s t0 t1 h nx K):Cv Q O s 306 [t0,t1] h nx K:=Cv.byF indexIL rfl (by rw [indexIe]; exact w)
def simpleL:List (List Nat):=[]
def simple (s:Bool) (t0:Value) (h:Hp) (nx:Nat) (K:KC'):Prop:=AR (cellsNB (vcells t0)) h nx fun p1 h2 n3=>AR (.ok (.ptr (.cells [(.int .i64 0),(.slice none 0 0)] false))) h2 n3 fun p4 h5 n6=>RK (vLd (some 2) h5 p1) fun x7=>Cv Q O s 225 [x7,(.func (.func 226) #[] #[])] h5 n6 fun x8 h9 n10=>RK (vSt h9 2 p4 x8) fun h11=>RK (vLd (some 2) h11 p4) fun x12=>K x12 h11 n10
theorem simplee {s:Bool} {t0:Value} {h:Hp} {nx:Nat} {K:KC'}:fF Q O s simpleL 129 [t0] h nx K=simple s t0 h nx K:=by kernel_rfl
theorem simplev {s:Bool} {t0:Value} {h:Hp} {nx:Nat} {K:KC'} (w:simple s t0 h nx K):Cv Q O s 129 [t0] h nx K:=Cv.byF simpleL rfl (by rw [simplee]; exact w)
def bothL:List (List Nat):=[]
def both (s:Bool) (t0:Value) (h:Hp) (nx:Nat) (K:KC'):Prop:=AR (cellsNB (vcells t0)) h nx fun p1 h2 n3=>AR (.ok (.ptr (.cells [(.int .i64 0),(.slice none 0 0)] false))) h2 n3 fun p4 h5 n6=>RK (vLd (some 2) h5 p1) fun x7=>Cv Q O true 229 [x7] h5 n6 fun x8 h9 n10=>n6≤n10∧RK (vFldA 1 p1) fun x11=>RK (vLd none h9 x11) fun x12=>AGK (fun h=>vLd none h x11) x12 (RK (cFld 1 none x8) fun x13=>AR (vBsl 2 [(.slice none 0 0),(.slice none 0 0)] [(0,1,x12),(1,1,x13)]) h9 n10 fun p14 h15 n16=>Cv Q O true 228 [p14] h15 n16 fun x17 h18 n19=>n16≤n19∧RK (vFldA 0 p1) fun x20=>RK (vLd none h18 x20) fun x21=>AGK (fun h=>vLd none h x20) x21 (RK (vBld [(.int .i64 0),(.slice none 0 0)] [(0,1,x21),(1,1,x17)]) fun x22=>Cv Q O true 227 [x22] h18 n19 fun x23 h24 n25=>n19≤n25∧RK (vSt h24 2 p4 x23) fun h26=>RK (vLd (some 2) h26 p4) fun x27=>K x27 h26 n25) 2 [h9,h5]) 1 [h5]
theorem bothe {s:Bool} {t0:Value} {h:Hp} {nx:Nat} {K:KC'}:fF Q O s bothL 130 [t0] h nx K=both s t0 h nx K:=by kernel_rfl
theorem bothv {s:Bool} {t0:Value} {h:Hp} {nx:Nat} {K:KC'} (w:both s t0 h nx K):Cv Q O s 130 [t0] h nx K:=Cv.byF bothL rfl (by rw [bothe]; exact w)
def plainL:List (List Nat):=[]
def plain (s:Bool) (t0:Value) (h:Hp) (nx:Nat) (K:KC'):Prop:=AR (cellsNB (vcells t0)) h nx fun p1 h2 n3=>AR (.ok (.ptr (.cells [(.int .i64 0),(.slice none 0 0)] false))) h2 n3 fun p4 h5 n6=>RK (vLd (some 2) h5 p1) fun x7=>Cv Q O s 225 [x7,(.func (.func 230) #[] #[])] h5 n6 fun x8 h9 n10=>RK (vSt h9 2 p4 x8) fun h11=>RK (vLd (some 2) h11 p4) fun x12=>K x12 h11 n10
theorem plaine {s:Bool} {t0:Value} {h:Hp} {nx:Nat} {K:KC'}:fF Q O s plainL 131 [t0] h nx K=plain s t0 h nx K:=by kernel_rfl
theorem plainv {s:Bool} {t0:Value} {h:Hp} {nx:Nat} {K:KC'} (w:plain s t0 h nx K):Cv Q O s 131 [t0] h nx K:=Cv.byF plainL rfl (by rw [plaine]; exact w)
def csrgL:List (List Nat):=[[1,2,5,16,17,18]]
def csrgl0 (s:Bool) (a1 a2 a5 a16 a17 a18:Value) (h:Hp) (nx:Nat) (N:KVl) (e0:KVl) (R:KVl):Prop:=RK (bin Q .lss 3 a18 a17) fun x24=>IF x24 (RK (vIx (.slice 3) a16 a18) fun x25=>RK (vLd (some 3) h x25) fun x26=>AR (.ok (.ptr (.cells [(.int .i64 0),(.int .i64 0),(.int .i64 0)] false))) h nx fun p27 h28 n29=>RK (vSt h28 3 p27 x26) fun h30=>RK (vFldA 0 p27) fun x31=>RK (vLd none h30 x31) fun x32=>RK (vFldA 1 p27) fun x33=>RK (vLd none h30 x33) fun x34=>RK (vFldA 2 p27) fun x35=>RK (vLd none h30 x35) fun x36=>RK (vBld [(.int .i64 0),(.int .i64 0),(.int .i64 0)] [(0,1,x32),(1,1,x34),(2,1,x36)]) fun x37=>AR (vBsl 1 [(.int .i64 0),(.int .i64 0),(.int .i64 0)] [(0,3,x37)]) h30 n29 fun p38 h39 n40=>EK (orR (appendA 3 h39 n40 a5 p38)) fun x41 h42 n43=>RK (bin Q .add 3 a18 (.int .i64 1)) fun x44=>N [a1,a2,x41,a16,a17,x44] h42 n43) (e0 [a1,a2,a5,a16,a17,a18] h nx)
def csrg (s:Bool) (t0:Value) (h:Hp) (nx:Nat) (K:KC'):Prop:=AR (cellsNB (vcells t0)) h nx fun p1 h2 n3=>AR (.ok (.ptr (.cells [(.int .i64 0),(.int .i64 0),(.slice none 0 0),(.slice none 0 0),(.slice none 0 0)] false))) h2 n3 fun p4 h5 n6=>RK (vLd (some 2) h5 p1) fun x7=>Cv Q O s 107 [x7] h5 n6 fun x8 h9 n10=>RK (bin Q .neq 34 x8 (.int .i64 0)) fun x11=>IF x11 (RK (vBld [(.int .i64 0),(.int .i64 0),(.slice none 0 0),(.slice none 0 0),(.slice none 0 0)] []) fun x12=>RK (vSt h9 5 p4 x12) fun h13=>RK (vLd (some 5) h13 p4) fun x14=>K (.tuple ⟨[x14,x8]⟩) h13 n10) (RK (vLd (some 2) h9 p1) fun x15=>Cv Q O s 229 [x15] h9 n10 fun x16 h17 n18=>RK (cFld 1 none x16) fun x19=>RK (lenS x19) fun x20=>Lp (fL Q O s csrgL 132 0) [p1,p4,(.slice none 0 0),x19,x20,(.int .i64 0)] h17 n18 [(0,fun v23 h21 n22=>RK (vFldA 0 (nv v23 0)) fun x45=>RK (vLd none h21 x45) fun x46=>RK (vFldA 0 (nv v23 0)) fun x47=>RK (vLd none h21 x47) fun x48=>Cv Q O s 231 [x46,x48,(nv v23 2)] h21 n22 fun x49 h50 n51=>RK (vSt h50 5 (nv v23 1) x49) fun h52=>RK (vLd (some 5) h52 (nv v23 1)) fun x53=>K (.tuple ⟨[x53,(.int .i64 0)]⟩) h52 n51)] (fun _ _ _=>False))
theorem csrgb0 {s:Bool} {a1 a2 a5 a16 a17 a18:Value} {h:Hp} {nx:Nat} {N e0 R:KVl}:fL Q O s csrgL 132 0 [a1,a2,a5,a16,a17,a18] h nx N [(0,e0)] R=csrgl0 s a1 a2 a5 a16 a17 a18 h nx N e0 R:=by kernel_rfl
theorem csrge {s:Bool} {t0:Value} {h:Hp} {nx:Nat} {K:KC'}:fF Q O s csrgL 132 [t0] h nx K=csrg s t0 h nx K:=by kernel_rfl
theorem csrgv {s:Bool} {t0:Value} {h:Hp} {nx:Nat} {K:KC'} (w:csrg s t0 h nx K):Cv Q O s 132 [t0] h nx K:=Cv.byF csrgL rfl (by rw [csrge]; exact w)
def concatL:List (List Nat):=[[0,3,9,10,11],[6,25,26,27]]
def concatl0 (s:Bool) (a0 a3 a9 a10 a11:Value) (h:Hp) (nx:Nat) (N:KVl) (e0:KVl) (R:KVl):Prop:=RK (bin Q .lss 3 a11 a10) fun x5=>IF x5 (RK (vIx (.slice 1) a9 a11) fun x6=>RK (vLd none h x6) fun x7=>RK (lenS x7) fun x8=>RK (bin Q .add 3 a3 x8) fun x9=>RK (bin Q .lss 3 x9 (.int .i64 0)) fun x10=>IF x10 (RK (.ok (Value.iface 9 (.string ⟨#[108,101,110,32,111,117,116,32,111,102,32,114,97,110,103,101]⟩))) fun x11=>False) (RK (bin Q .add 3 a11 (.int .i64 1)) fun x12=>N [a0,x9,a9,a10,x12] h nx)) (e0 [a0,a3,a9,a10,a11] h nx)
def concatl1 (s:Bool) (a6 a25 a26 a27:Value) (h:Hp) (nx:Nat) (N:KVl) (e2:KVl) (R:KVl):Prop:=RK (bin Q .lss 3 a27 a26) fun x20=>IF x20 (RK (vIx (.slice 1) a25 a27) fun x21=>RK (vLd none h x21) fun x22=>EK (orR (appendA 3 h nx a6 x22)) fun x23 h24 n25=>RK (bin Q .add 3 a27 (.int .i64 1)) fun x26=>N [x23,a25,a26,x26] h24 n25) (e2 [a6,a25,a26,a27] h nx)
def concat (s:Bool) (t0:Value) (h:Hp) (nx:Nat) (K:KC'):Prop:=RK (lenS t0) fun x1=>Lp (fL Q O s concatL 228 0) [t0,(.int .i64 0),t0,x1,(.int .i64 0)] h nx [(0,fun v4 h2 n3=>Cv Q O s 308 [(.slice none 0 0),(nv v4 1)] h2 n3 fun x13 h14 n15=>RK (lenS (nv v4 0)) fun x16=>Lp (fL Q O s concatL 228 1) [x13,(nv v4 0),x16,(.int .i64 0)] h14 n15 [(2,fun v19 h17 n18=>K (nv v19 0) h17 n18)] (fun _ _ _=>False))] (fun _ _ _=>False)
theorem concatb0 {s:Bool} {a0 a3 a9 a10 a11:Value} {h:Hp} {nx:Nat} {N e0 R:KVl}:fL Q O s concatL 228 0 [a0,a3,a9,a10,a11] h nx N [(0,e0)] R=concatl0 s a0 a3 a9 a10 a11 h nx N e0 R:=by kernel_rfl
theorem concatb1 {s:Bool} {a6 a25 a26 a27:Value} {h:Hp} {nx:Nat} {N e2 R:KVl}:fL Q O s concatL 228 1 [a6,a25,a26,a27] h nx N [(2,e2)] R=concatl1 s a6 a25 a26 a27 h nx N e2 R:=by kernel_rfl
theorem concate {s:Bool} {t0:Value} {h:Hp} {nx:Nat} {K:KC'}:fF Q O s concatL 228 [t0] h nx K=concat s t0 h nx K:=by kernel_rfl
theorem concatv {s:Bool} {t0:Value} {h:Hp} {nx:Nat} {K:KC'} (w:concat s t0 h nx K):Cv Q O s 228 [t0] h nx K:=Cv.byF concatL rfl (by rw [concate]; exact w)
def turnL:List (List Nat):=[]
def turn (s:Bool) (t0:Value) (h:Hp) (nx:Nat) (K:KC'):Prop:=AR (cellsNB (vcells t0)) h nx fun p1 h2 n3=>AR (.ok (.ptr (.cells [(.int .i64 0),(.slice none 0 0)] false))) h2 n3 fun p4 h5 n6=>RK (vLd (some 2) h5 p1) fun x7=>Cv Q O s 225 [x7,(.func (.func 309) #[] #[])] h5 n6 fun x8 h9 n10=>RK (vSt h9 2 p4 x8) fun h11=>RK (vLd (some 2) h11 p4) fun x12=>K x12 h11 n10
theorem turne {s:Bool} {t0:Value} {h:Hp} {nx:Nat} {K:KC'}:fF Q O s turnL 229 [t0] h nx K=turn s t0 h nx K:=by kernel_rfl
theorem turnv {s:Bool} {t0:Value} {h:Hp} {nx:Nat} {K:KC'} (w:turn s t0 h nx K):Cv Q O s 229 [t0] h nx K:=Cv.byF turnL rfl (by rw [turne]; exact w)
def madeL:List (List Nat):=[[1,2,4,5,11,12,13]]
def madel0 (s:Bool) (a1 a2 a4 a5 a11 a12 a13:Value) (h:Hp) (nx:Nat) (N:KVl) (e0:KVl) (R:KVl):Prop:=RK (bin Q .lss 3 a13 a12) fun x13=>IF x13 (RK (vIx (.slice 3) a11 a13) fun x14=>RK (vLd (some 3) h x14) fun x15=>AR (.ok (.ptr (.cells [(.int .i64 0),(.int .i64 0),(.int .i64 0)] false))) h nx fun p16 h17 n18=>RK (vSt h17 3 p16 x15) fun h19=>RK (vLd (some 3) h19 p16) fun x20=>CVK Q O s (callV h19 n18 [x20] a1) fun x21 h22 n23=>RK (oExtract x21 0) fun x24=>RK (oExtract x21 1) fun x25=>AR (.ok (.ptr (.cells [(.int .i64 0),(.int .i64 0),(.int .i64 0)] false))) h22 n23 fun p26 h27 n28=>RK (vSt h27 3 p26 x24) fun h29=>IF x25 (RK (vLd (some 3) h29 p26) fun x30=>AR (vBsl 1 [(.int .i64 0),(.int .i64 0),(.int .i64 0)] [(0,3,x30)]) h29 n28 fun p31 h32 n33=>EK (orR (appendA 3 h32 n33 a5 p31)) fun x34 h35 n36=>RK (bin Q .add 3 a13 (.int .i64 1)) fun x39=>N [a1,a2,a4,x34,a11,a12,x39] h35 n36) (RK (bin Q .add 3 a13 (.int .i64 1)) fun x40=>N [a1,a2,a4,a5,a11,a12,x40] h29 n28)) (e0 [a1,a2,a4,a5,a11,a12,a13] h nx)
def made (s:Bool) (t0 t1:Value) (h:Hp) (nx:Nat) (K:KC'):Prop:=AR (cellsNB (vcells t0)) h nx fun p1 h2 n3=>AR (.ok (.ptr (.cells [(.int .i64 0),(.slice none 0 0)] false))) h2 n3 fun p4 h5 n6=>RK (vFldA 1 p1) fun x7=>RK (vLd none h5 x7) fun x8=>RK (lenS x8) fun x9=>Lp (fL Q O s madeL 225 0) [t1,p1,p4,(.slice none 0 0),x8,x9,(.int .i64 0)] h5 n6 [(0,fun v12 h10 n11=>RK (vFldA 0 (nv v12 1)) fun x41=>RK (vLd none h10 x41) fun x42=>RK (vBld [(.int .i64 0),(.slice none 0 0)] [(0,1,x42),(1,1,(nv v12 3))]) fun x43=>Cv Q O s 227 [x43] h10 n11 fun x44 h45 n46=>RK (vSt h45 2 (nv v12 2) x44) fun h47=>RK (vLd (some 2) h47 (nv v12 2)) fun x48=>K x48 h47 n46)] (fun _ _ _=>False)
theorem madeb0 {s:Bool} {a1 a2 a4 a5 a11 a12 a13:Value} {h:Hp} {nx:Nat} {N e0 R:KVl}:fL Q O s madeL 225 0 [a1,a2,a4,a5,a11,a12,a13] h nx N [(0,e0)] R=madel0 s a1 a2 a4 a5 a11 a12 a13 h nx N e0 R:=by kernel_rfl
theorem madee {s:Bool} {t0 t1:Value} {h:Hp} {nx:Nat} {K:KC'}:fF Q O s madeL 225 [t0,t1] h nx K=made s t0 t1 h nx K:=by kernel_rfl
theorem madev {s:Bool} {t0 t1:Value} {h:Hp} {nx:Nat} {K:KC'} (w:made s t0 t1 h nx K):Cv Q O s 225 [t0,t1] h nx K:=Cv.byF madeL rfl (by rw [madee]; exact w)
def simple1L:List (List Nat):=[]
def simple1 (s:Bool) (t0:Value) (h:Hp) (nx:Nat) (K:KC'):Prop:=AR (cellsNB (vcells t0)) h nx fun p1 h2 n3=>AR (.ok (.ptr (.cells [(.int .i64 0),(.int .i64 0),(.int .i64 0)] false))) h2 n3 fun p4 h5 n6=>RK (vLd (some 3) h5 p1) fun x7=>RK (vSt h5 3 p4 x7) fun h8=>RK (vFldA 0 p1) fun x9=>RK (vLd none h8 x9) fun x10=>AGK (fun h=>vLd none h x9) x10 (RK (vFldA 1 p1) fun x11=>RK (vLd none h8 x11) fun x12=>AGK (fun h=>vLd none h x11) x12 (RK (bin Q .neq 3 x10 x12) fun x13=>RK (vLd (some 3) h8 p4) fun x14=>K (.tuple ⟨[x14,x13]⟩) h8 n6) 1 [h5]) 1 [h5]
theorem simple1e {s:Bool} {t0:Value} {h:Hp} {nx:Nat} {K:KC'}:fF Q O s simple1L 226 [t0] h nx K=simple1 s t0 h nx K:=by kernel_rfl
theorem simple1v {s:Bool} {t0:Value} {h:Hp} {nx:Nat} {K:KC'} (w:simple1 s t0 h nx K):Cv Q O s 226 [t0] h nx K:=Cv.byF simple1L rfl (by rw [simple1e]; exact w)
def plain1L:List (List Nat):=[]
def plain1 (s:Bool) (t0:Value) (h:Hp) (nx:Nat) (K:KC'):Prop:=AR (cellsNB (vcells t0)) h nx fun p1 h2 n3=>AR (.ok (.ptr (.cells [(.int .i64 0),(.int .i64 0),(.int .i64 0)] false))) h2 n3 fun p4 h5 n6=>RK (vFldA 2 p1) fun x7=>RK (vSt h5 1 x7 (.int .i64 1)) fun h8=>RK (vLd (some 3) h8 p1) fun x9=>RK (vSt h8 3 p4 x9) fun h10=>RK (vLd (some 3) h10 p4) fun x11=>K (.tuple ⟨[x11,(.bool true)]⟩) h10 n6
theorem plain1e {s:Bool} {t0:Value} {h:Hp} {nx:Nat} {K:KC'}:fF Q O s plain1L 230 [t0] h nx K=plain1 s t0 h nx K:=by kernel_rfl
theorem plain1v {s:Bool} {t0:Value} {h:Hp} {nx:Nat} {K:KC'} (w:plain1 s t0 h nx K):Cv Q O s 230 [t0] h nx K:=Cv.byF plain1L rfl (by rw [plain1e]; exact w)
def builtL:List (List Nat):=[[0,6,7,14,15,16],[6,7,44,45]]
def builtl0 (s:Bool) (a0 a6 a7 a14 a15 a16:Value) (h:Hp) (nx:Nat) (N:KVl) (e0:KVl) (R:KVl):Prop:=RK (bin Q .lss 3 a16 a15) fun x15=>IF x15 (RK (vIx (.slice 3) a14 a16) fun x16=>RK (vLd (some 3) h x16) fun x17=>AR (.ok (.ptr (.cells [(.int .i64 0),(.int .i64 0),(.int .i64 0)] false))) h nx fun p18 h19 n20=>RK (vSt h19 3 p18 x17) fun h21=>RK (vFldA 2 a7) fun x22=>RK (vLd none h21 x22) fun x23=>RK (vFldA 0 p18) fun x24=>RK (vLd none h21 x24) fun x25=>RK (bin Q .add 3 x25 (.int .i64 1)) fun x26=>RK (vIx (.slice 1) x23 x26) fun x27=>RK (vLd none h21 x27) fun x28=>RK (bin Q .add 3 x28 (.int .i64 1)) fun x29=>RK (vIx (.slice 1) x23 x26) fun x30=>RK (vSt h21 1 x30 x29) fun h31=>RK (vFldA 3 a7) fun x32=>RK (vLd none h31 x32) fun x33=>RK (vFldA 1 p18) fun x34=>RK (vLd none h31 x34) fun x35=>AR (vBsl 1 [(.int .i64 0)] [(0,1,x35)]) h31 n20 fun p36 h37 n38=>EK (orR (appendA 1 h37 n38 x33 p36)) fun x39 h40 n41=>RK (vFldA 3 a7) fun x42=>RK (vSt h40 1 x42 x39) fun h43=>RK (vFldA 4 a7) fun x44=>RK (vLd none h43 x44) fun x45=>RK (vFldA 2 p18) fun x46=>RK (vLd none h43 x46) fun x47=>AR (vBsl 1 [(.int .i64 0)] [(0,1,x47)]) h43 n41 fun p48 h49 n50=>EK (orR (appendA 1 h49 n50 x45 p48)) fun x51 h52 n53=>RK (vFldA 4 a7) fun x54=>RK (vSt h52 1 x54 x51) fun h55=>RK (bin Q .add 3 a16 (.int .i64 1)) fun x56=>N [a0,a6,a7,a14,a15,x56] h55 n53) (e0 [a0,a6,a7,a14,a15,a16] h nx)
def builtl1 (s:Bool) (a6 a7 a44 a45:Value) (h:Hp) (nx:Nat) (N:KVl) (e2:KVl) (R:KVl):Prop:=RK (bin Q .lss 3 a45 a44) fun x60=>IF x60 (RK (vFldA 2 a7) fun x61=>RK (vLd none h x61) fun x62=>RK (bin Q .add 3 a45 (.int .i64 1)) fun x63=>RK (vIx (.slice 1) x62 x63) fun x64=>RK (vLd none h x64) fun x65=>RK (vFldA 2 a7) fun x66=>RK (vLd none h x66) fun x67=>RK (vIx (.slice 1) x67 a45) fun x68=>RK (vLd none h x68) fun x69=>RK (bin Q .add 3 x65 x69) fun x70=>RK (vIx (.slice 1) x62 x63) fun x71=>RK (vSt h 1 x71 x70) fun h72=>RK (bin Q .add 3 a45 (.int .i64 1)) fun x73=>N [a6,a7,a44,x73] h72 nx) (e2 [a6,a7,a44,a45] h nx)
def built (s:Bool) (t0 t1 t2:Value) (h:Hp) (nx:Nat) (K:KC'):Prop:=AR (.ok (.ptr (.cells [(.int .i64 0),(.int .i64 0),(.slice none 0 0),(.slice none 0 0),(.slice none 0 0)] false))) h nx fun p1 h2 n3=>Cv Q O s 310 [t0,t1] h2 n3 fun x4 h5 n6=>AR (.ok (.ptr (.cells [(.int .i64 0),(.int .i64 0),(.slice none 0 0),(.slice none 0 0),(.slice none 0 0)] false))) h5 n6 fun p7 h8 n9=>RK (vSt h8 5 p7 x4) fun h10=>RK (lenS t2) fun x11=>Lp (fL Q O s builtL 231 0) [t0,p1,p7,t2,x11,(.int .i64 0)] h10 n9 [(0,fun v14 h12 n13=>Lp (fL Q O s builtL 231 1) [(nv v14 1),(nv v14 2),(nv v14 0),(.int .i64 0)] h12 n13 [(2,fun v59 h57 n58=>RK (vLd (some 5) h57 (nv v59 1)) fun x74=>RK (vSt h57 5 (nv v59 0) x74) fun h75=>RK (vLd (some 5) h75 (nv v59 0)) fun x76=>K x76 h75 n58)] (fun _ _ _=>False))] (fun _ _ _=>False)
theorem builtb0 {s:Bool} {a0 a6 a7 a14 a15 a16:Value} {h:Hp} {nx:Nat} {N e0 R:KVl}:fL Q O s builtL 231 0 [a0,a6,a7,a14,a15,a16] h nx N [(0,e0)] R=builtl0 s a0 a6 a7 a14 a15 a16 h nx N e0 R:=by kernel_rfl
theorem builtb1 {s:Bool} {a6 a7 a44 a45:Value} {h:Hp} {nx:Nat} {N e2 R:KVl}:fL Q O s builtL 231 1 [a6,a7,a44,a45] h nx N [(2,e2)] R=builtl1 s a6 a7 a44 a45 h nx N e2 R:=by kernel_rfl
theorem builte {s:Bool} {t0 t1 t2:Value} {h:Hp} {nx:Nat} {K:KC'}:fF Q O s builtL 231 [t0,t1,t2] h nx K=built s t0 t1 t2 h nx K:=by kernel_rfl
theorem builtv {s:Bool} {t0 t1 t2:Value} {h:Hp} {nx:Nat} {K:KC'} (w:built s t0 t1 t2 h nx K):Cv Q O s 231 [t0,t1,t2] h nx K:=Cv.byF builtL rfl (by rw [builte]; exact w)
def growL:List (List Nat):=[]
def grow (s:Bool) (t0 t1:Value) (h:Hp) (nx:Nat) (K:KC'):Prop:=RK (bin Q .lss 3 t1 (.int .i64 0)) fun x1=>IF x1 (RK (.ok (Value.iface 9 (.string ⟨#[99,97,110,110,111,116,32,98,101,32,110,101,103,97,116,105,118,101]⟩))) fun x2=>False) (RK (vCap Q (.builtin .cap) [26] [t0]) fun x3=>RK (lenS t0) fun x4=>RK (bin Q .sub 3 x3 x4) fun x5=>RK (bin Q .sub 3 t1 x5) fun x6=>RK (bin Q .gtr 3 x6 (.int .i64 0)) fun x7=>IF x7 (RK (vCap Q (.builtin .cap) [26] [t0]) fun x8=>RK (vSl 3 t0 none (some x8) none) fun x9=>EK (orR (builtinA Q .append [26,3] h nx [x9,x6])) fun x10 h11 n12=>RK (lenS t0) fun x13=>RK (vSl 3 x10 none (some x13) none) fun x14=>K x14 h11 n12) (K t0 h nx))
theorem growe {s:Bool} {t0 t1:Value} {h:Hp} {nx:Nat} {K:KC'}:fF Q O s growL 308 [t0,t1] h nx K=grow s t0 t1 h nx K:=by kernel_rfl
theorem growv {s:Bool} {t0 t1:Value} {h:Hp} {nx:Nat} {K:KC'} (w:grow s t0 t1 h nx K):Cv Q O s 308 [t0,t1] h nx K:=Cv.byF growL rfl (by rw [growe]; exact w)
def turnedL:List (List Nat):=[]
def turned (s:Bool) (t0:Value) (h:Hp) (nx:Nat) (K:KC'):Prop:=AR (cellsNB (vcells t0)) h nx fun p1 h2 n3=>AR (.ok (.ptr (.cells [(.int .i64 0),(.int .i64 0),(.int .i64 0)] false))) h2 n3 fun p4 h5 n6=>RK (vFldA 1 p1) fun x7=>RK (vLd none h5 x7) fun x8=>RK (vFldA 0 p1) fun x9=>RK (vLd none h5 x9) fun x10=>RK (vFldA 2 p1) fun x11=>RK (vLd none h5 x11) fun x12=>RK (vBld [(.int .i64 0),(.int .i64 0),(.int .i64 0)] [(0,1,x8),(1,1,x10),(2,1,x12)]) fun x13=>RK (vSt h5 3 p4 x13) fun h14=>RK (vLd (some 3) h14 p4) fun x15=>K (.tuple ⟨[x15,(.bool true)]⟩) h14 n6
theorem turnede {s:Bool} {t0:Value} {h:Hp} {nx:Nat} {K:KC'}:fF Q O s turnedL 309 [t0] h nx K=turned s t0 h nx K:=by kernel_rfl
theorem turnedv {s:Bool} {t0:Value} {h:Hp} {nx:Nat} {K:KC'} (w:turned s t0 h nx K):Cv Q O s 309 [t0] h nx K:=Cv.byF turnedL rfl (by rw [turnede]; exact w)
def emptyL:List (List Nat):=[]
def empty (s:Bool) (t0 t1:Value) (h:Hp) (nx:Nat) (K:KC'):Prop:=AR (.ok (.ptr (.cells [(.int .i64 0),(.int .i64 0),(.slice none 0 0),(.slice none 0 0),(.slice none 0 0)] false))) h nx fun p1 h2 n3=>RK (bin Q .add 3 t0 (.int .i64 1)) fun x4=>AR (vMks [(.int .i64 0)] x4 x4) h2 n3 fun p5 h6 n7=>RK (vBld [(.int .i64 0),(.int .i64 0),(.slice none 0 0),(.slice none 0 0),(.slice none 0 0)] [(0,1,t0),(1,1,t1),(2,1,p5)]) fun x8=>RK (vSt h6 5 p1 x8) fun h9=>RK (vLd (some 5) h9 p1) fun x10=>K x10 h9 n7
theorem emptye {s:Bool} {t0 t1:Value} {h:Hp} {nx:Nat} {K:KC'}:fF Q O s emptyL 310 [t0,t1] h nx K=empty s t0 t1 h nx K:=by kernel_rfl
theorem emptyv {s:Bool} {t0 t1:Value} {h:Hp} {nx:Nat} {K:KC'} (w:empty s t0 t1 h nx K):Cv Q O s 310 [t0,t1] h nx K:=Cv.byF emptyL rfl (by rw [emptye]; exact w)
def wcheckL:List (List Nat):=[]
def wcheck (s:Bool) (t0:Value) (h:Hp) (nx:Nat) (K:KC'):Prop:=AR (cellsNB (vcells t0)) h nx fun p1 h2 n3=>RK (vFldA 0 p1) fun x4=>RK (vLd (some 5) h2 x4) fun x5=>RK (vFldA 5 p1) fun x6=>RK (vLd (some 2) h2 x6) fun x7=>RK (vFldA 10 p1) fun x8=>RK (vLd none h2 x8) fun x9=>Cv Q O s 63 [x5,x7,x9] h2 n3 fun x10 h11 n12=>RK (bin Q .neq 34 x10 (.int .i64 0)) fun x13=>IF x13 (K x10 h11 n12) (RK (vFldA 7 p1) fun x14=>RK (vLd none h11 x14) fun x15=>CVK Q O s (callV h11 n12 [x15,(.int .i64 8)] (.func (.func 62) #[] #[])) fun x16 h17 n18=>RK (oUn .not x16) fun x19=>IF x19 (K (.int .i64 3) h17 n18) (RK (vFldA 8 p1) fun x20=>RK (vLd none h17 x20) fun x21=>CVK Q O s (callV h17 n18 [x21,(.int .i64 8)] (.func (.func 62) #[] #[])) fun x22 h23 n24=>RK (oUn .not x22) fun x25=>IF x25 (K (.int .i64 3) h23 n24) (RK (vFldA 9 p1) fun x26=>RK (vLd none h23 x26) fun x27=>CVK Q O s (callV h23 n24 [x27,(.int .i64 64)] (.func (.func 62) #[] #[])) fun x28 h29 n30=>RK (oUn .not x28) fun x31=>IF x31 (K (.int .i64 3) h29 n30) (RK (vFldA 11 p1) fun x36=>RK (vLd none h29 x36) fun x37=>RK (lenS x37) fun x38=>RK (bin Q .gtr 3 x38 (.int .i64 8192)) fun x39=>IF x39 (K (.int .i64 5) h29 n30) (K (.int .i64 0) h29 n30)))))
theorem wchecke {s:Bool} {t0:Value} {h:Hp} {nx:Nat} {K:KC'}:fF Q O s wcheckL 12 [t0] h nx K=wcheck s t0 h nx K:=by kernel_rfl
theorem wcheckv {s:Bool} {t0:Value} {h:Hp} {nx:Nat} {K:KC'} (w:wcheck s t0 h nx K):Cv Q O s 12 [t0] h nx K:=Cv.byF wcheckL rfl (by rw [wchecke]; exact w)
def wcheck1L:List (List Nat):=[]
def wcheck1 (s:Bool) (t0 t1:Value) (h:Hp) (nx:Nat) (K:KC'):Prop:=RK (bin Q .geq 3 t0 (.int .i64 1)) fun x1=>IF x1 (RK (bin Q .leq 3 t0 t1) fun x2=>K x2 h nx) (K (.bool false) h nx)
theorem wcheck1e {s:Bool} {t0 t1:Value} {h:Hp} {nx:Nat} {K:KC'}:fF Q O s wcheck1L 62 [t0,t1] h nx K=wcheck1 s t0 t1 h nx K:=by kernel_rfl
theorem wcheck1v {s:Bool} {t0 t1:Value} {h:Hp} {nx:Nat} {K:KC'} (w:wcheck1 s t0 t1 h nx K):Cv Q O s 62 [t0,t1] h nx K:=Cv.byF wcheck1L rfl (by rw [wcheck1e]; exact w)
def mcheckL:List (List Nat):=[]
def mcheck (s:Bool) (t0 t1 t2:Value) (h:Hp) (nx:Nat) (K:KC'):Prop:=AR (cellsNB (vcells t0)) h nx fun p1 h2 n3=>AR (cellsNB (vcells t1)) h2 n3 fun p4 h5 n6=>RK (vLd (some 5) h5 p1) fun x7=>RK (vLd (some 2) h5 p4) fun x8=>Cv Q O s 49 [x7,x8] h5 n6 fun x9 h10 n11=>RK (oExtract x9 0) fun x12=>RK (oExtract x9 1) fun x13=>AR (.ok (.ptr (.cells [(.int .i64 0),(.int .i64 0),(.slice none 0 0),(.slice none 0 0),(.slice none 0 0)] false))) h10 n11 fun p14 h15 n16=>RK (vSt h15 5 p14 x12) fun h17=>RK (bin Q .neq 34 x13 (.int .i64 0)) fun x18=>IF x18 (K x13 h17 n16) (RK (bin Q .lss 3 t2 (.int .i64 0)) fun x19=>IF x19 (K (.int .i64 3) h17 n16) (RK (bin Q .gtr 3 t2 (.int .i64 8192)) fun x20=>IF x20 (K (.int .i64 3) h17 n16) (K (.int .i64 0) h17 n16)))
theorem mchecke {s:Bool} {t0 t1 t2:Value} {h:Hp} {nx:Nat} {K:KC'}:fF Q O s mcheckL 63 [t0,t1,t2] h nx K=mcheck s t0 t1 t2 h nx K:=by kernel_rfl
theorem mcheckv {s:Bool} {t0 t1 t2:Value} {h:Hp} {nx:Nat} {K:KC'} (w:mcheck s t0 t1 t2 h nx K):Cv Q O s 63 [t0,t1,t2] h nx K:=Cv.byF mcheckL rfl (by rw [mchecke]; exact w)
def plcheckL:List (List Nat):=[]
def plcheck (s:Bool) (t0 t1 t2:Value) (h:Hp) (nx:Nat) (K:KC'):Prop:=AR (cellsNB (vcells t0)) h nx fun p1 h2 n3=>RK (vLd (some 12) h2 p1) fun x4=>Cv Q O s 12 [x4] h2 n3 fun x5 h6 n7=>RK (bin Q .neq 34 x5 (.int .i64 0)) fun x8=>IF x8 (K x5 h6 n7) (RK (lenS t1) fun x9=>RK (bin Q .gtr 3 x9 (.int .i64 1048576)) fun x10=>IF x10 (K (.int .i64 5) h6 n7) (Cv Q O s 68 [t1,(.func (.func 69) #[] #[])] h6 n7 fun x11 h12 n13=>IF x11 (K (.int .i64 8) h12 n13) (Cv Q O s 70 [t2,(.int .i64 1048576)] h12 n13 fun x14 h15 n16=>RK (oUn .not x14) fun x17=>IF x17 (K (.int .i64 3) h15 n16) (K (.int .i64 0) h15 n16))))
theorem plchecke {s:Bool} {t0 t1 t2:Value} {h:Hp} {nx:Nat} {K:KC'}:fF Q O s plcheckL 15 [t0,t1,t2] h nx K=plcheck s t0 t1 t2 h nx K:=by kernel_rfl
theorem plcheckv {s:Bool} {t0 t1 t2:Value} {h:Hp} {nx:Nat} {K:KC'} (w:plcheck s t0 t1 t2 h nx K):Cv Q O s 15 [t0,t1,t2] h nx K:=Cv.byF plcheckL rfl (by rw [plchecke]; exact w)
def plcheck1L:List (List Nat):=[]
def plcheck1 (s:Bool) (t0:Value) (h:Hp) (nx:Nat) (K:KC'):Prop:=AR (cellsNB (vcells t0)) h nx fun p1 h2 n3=>RK (vLd (some 4) h2 p1) fun x4=>Cv Q O s 19 [x4] h2 n3 fun x5 h6 n7=>RK (oUn .not x5) fun x8=>K x8 h6 n7
theorem plcheck1e {s:Bool} {t0:Value} {h:Hp} {nx:Nat} {K:KC'}:fF Q O s plcheck1L 69 [t0] h nx K=plcheck1 s t0 h nx K:=by kernel_rfl
theorem plcheck1v {s:Bool} {t0:Value} {h:Hp} {nx:Nat} {K:KC'} (w:plcheck1 s t0 h nx K):Cv Q O s 69 [t0] h nx K:=Cv.byF plcheck1L rfl (by rw [plcheck1e]; exact w)
def plrightL:List (List Nat):=[]
def plrightk0 (s:Bool) (K:KC') (y1 y18:Value) (h0:Hp) (n0:Nat):Prop:=IF y18 (K (.bool false) h0 n0) (RK (vFldA 0 y1) fun x22=>RK (vLd none h0 x22) fun x23=>RK (bin Q .gtr 44 x23 (.int .i64 0)) fun x24=>IF x24 (RK (vFldA 0 y1) fun x25=>RK (vLd none h0 x25) fun x26=>RK (bin Q .leq 44 x26 (.int .i64 5)) fun x27=>K x27 h0 n0) (K (.bool false) h0 n0))
def plright (s:Bool) (t0:Value) (h:Hp) (nx:Nat) (K:KC'):Prop:=AR (cellsNB (vcells t0)) h nx fun p1 h2 n3=>RK (vFldA 1 p1) fun x4=>RK (vLd none h2 x4) fun x5=>Cv Q O s 70 [x5,(.int .i64 63)] h2 n3 fun x6 h7 n8=>RK (oUn .not x6) fun x9=>IF x9 ((plrightk0 s K p1 (.bool true) h7 n8)) (RK (vFldA 2 p1) fun x10=>RK (vLd none h7 x10) fun x11=>Cv Q O s 70 [x11,(.int .i64 63)] h7 n8 fun x12 h13 n14=>RK (oUn .not x12) fun x15=>IF x15 ((plrightk0 s K p1 (.bool true) h13 n14)) (RK (vFldA 3 p1) fun x16=>RK (vLd none h13 x16) fun x17=>Cv Q O s 70 [x17,(.int .i64 63)] h13 n14 fun x18 h19 n20=>RK (oUn .not x18) fun x21=>(plrightk0 s K p1 x21 h19 n20)))
theorem plrighte {s:Bool} {t0:Value} {h:Hp} {nx:Nat} {K:KC'}:fF Q O s plrightL 19 [t0] h nx K=plright s t0 h nx K:=by kernel_rfl
theorem plrightv {s:Bool} {t0:Value} {h:Hp} {nx:Nat} {K:KC'} (w:plright s t0 h nx K):Cv Q O s 19 [t0] h nx K:=Cv.byF plrightL rfl (by rw [plrighte]; exact w)
def contsML:List (List Nat):=[]
def contsM (s:Bool) (t0 t1:Value) (h:Hp) (nx:Nat) (K:KC'):Prop:=Cv Q O s 168 [t0,t1] h nx fun x1 h2 n3=>RK (bin Q .geq 3 x1 (.int .i64 0)) fun x4=>K x4 h2 n3
theorem contsMe {s:Bool} {t0 t1:Value} {h:Hp} {nx:Nat} {K:KC'}:fF Q O s contsML 68 [t0,t1] h nx K=contsM s t0 t1 h nx K:=by kernel_rfl
theorem contsMv {s:Bool} {t0 t1:Value} {h:Hp} {nx:Nat} {K:KC'} (w:contsM s t0 t1 h nx K):Cv Q O s 68 [t0,t1] h nx K:=Cv.byF contsML rfl (by rw [contsMe]; exact w)
def indexML:List (List Nat):=[[0,1,4,7,8]]
def indexMl0 (s:Bool) (a0 a1 a4 a7 a8:Value) (h:Hp) (nx:Nat) (N:KVl) (e0:KVl) (R:KVl):Prop:=RK (bin Q .lss 3 a8 a7) fun x8=>IF x8 (RK (vIx (.slice 4) a0 a8) fun x9=>RK (vLd (some 4) h x9) fun x10=>CVK Q O s (callV h nx [x10] a1) fun x11 h12 n13=>IF x11 (R [a0,a1,a8,a7,a8] h12 n13) (RK (bin Q .add 3 a8 (.int .i64 1)) fun x14=>N [a0,a1,a4,a7,x14] h12 n13)) (e0 [a0,a1,a4,a7,a8] h nx)
def indexM (s:Bool) (t0 t1:Value) (h:Hp) (nx:Nat) (K:KC'):Prop:=RK (lenS t0) fun x1=>Lp (fL Q O s indexML 168 0) [t0,t1,(.int .i64 0),x1,(.int .i64 0)] h nx [(0,fun v4 h2 n3=>K (.int .i64 (-1)) h2 n3)] (fun v7 h5 n6=>K (nv v7 2) h5 n6)
theorem indexMb0 {s:Bool} {a0 a1 a4 a7 a8:Value} {h:Hp} {nx:Nat} {N e0 R:KVl}:fL Q O s indexML 168 0 [a0,a1,a4,a7,a8] h nx N [(0,e0)] R=indexMl0 s a0 a1 a4 a7 a8 h nx N e0 R:=by kernel_rfl
theorem indexMe {s:Bool} {t0 t1:Value} {h:Hp} {nx:Nat} {K:KC'}:fF Q O s indexML 168 [t0,t1] h nx K=indexM s t0 t1 h nx K:=by kernel_rfl
theorem indexMv {s:Bool} {t0 t1:Value} {h:Hp} {nx:Nat} {K:KC'} (w:indexM s t0 t1 h nx K):Cv Q O s 168 [t0,t1] h nx K:=Cv.byF indexML rfl (by rw [indexMe]; exact w)
def plboundL:List (List Nat):=[]
def plboundk0 (s:Bool) (K:KC') (y1 y2 y12:Value) (h0:Hp) (n0:Nat):Prop:=IF y12 (K (.int .i64 0) h0 n0) (RK (vFldA 7 y2) fun x13=>RK (vLd none h0 x13) fun x14=>RK (vFldA 8 y2) fun x15=>RK (vLd none h0 x15) fun x16=>RK (bin Q .add 3 x14 x16) fun x17=>RK (bin Q .add 3 x17 (.int .i64 4)) fun x18=>RK (bin Q .mul 3 (.int .i64 4) x18) fun x19=>RK (bin Q .add 3 y1 (.int .i64 2)) fun x20=>RK (bin Q .mul 3 x19 x20) fun x21=>K x21 h0 n0)
def plbound (s:Bool) (t0 t1:Value) (h:Hp) (nx:Nat) (K:KC'):Prop:=AR (cellsNB (vcells t0)) h nx fun p1 h2 n3=>Cv Q O s 70 [t1,(.int .i64 8192)] h2 n3 fun x4 h5 n6=>RK (oUn .not x4) fun x7=>IF x7 ((plboundk0 s K t1 p1 (.bool true) h5 n6)) (RK (vLd (some 12) h5 p1) fun x8=>Cv Q O s 12 [x8] h5 n6 fun x9 h10 n11=>RK (bin Q .neq 34 x9 (.int .i64 0)) fun x12=>(plboundk0 s K t1 p1 x12 h10 n11))
theorem plbounde {s:Bool} {t0 t1:Value} {h:Hp} {nx:Nat} {K:KC'}:fF Q O s plboundL 17 [t0,t1] h nx K=plbound s t0 t1 h nx K:=by kernel_rfl
theorem plboundv {s:Bool} {t0 t1:Value} {h:Hp} {nx:Nat} {K:KC'} (w:plbound s t0 t1 h nx K):Cv Q O s 17 [t0,t1] h nx K:=Cv.byF plboundL rfl (by rw [plbounde]; exact w)
def plwithinL:List (List Nat):=[]
def plwithin (s:Bool) (t0 t1:Value) (h:Hp) (nx:Nat) (K:KC'):Prop:=RK (bin Q .geq 3 t0 (.int .i64 0)) fun x1=>IF x1 (RK (bin Q .leq 3 t0 t1) fun x2=>K x2 h nx) (K (.bool false) h nx)
theorem plwithine {s:Bool} {t0 t1:Value} {h:Hp} {nx:Nat} {K:KC'}:fF Q O s plwithinL 70 [t0,t1] h nx K=plwithin s t0 t1 h nx K:=by kernel_rfl
theorem plwithinv {s:Bool} {t0 t1:Value} {h:Hp} {nx:Nat} {K:KC'} (w:plwithin s t0 t1 h nx K):Cv Q O s 70 [t0,t1] h nx K:=Cv.byF plwithinL rfl (by rw [plwithine]; exact w)
def playwrongL:List (List Nat):=[]
def playwrongk0 (s:Bool) (K:KC') (y1 y3 y5 y7:Value) (h0:Hp) (n0:Nat):Prop:=Cv Q O true 14 [] h0 n0 fun x46 h47 n48=>n0≤n48∧IF x46 (RK (vLd (some 12) h47 y3) fun x49=>RK (vIx (.array 2 1) y5 (.int .i64 0)) fun x50=>RK (vLd none h47 x50) fun x51=>Cv Q O true 15 [x49,y1,x51] h47 n48 fun x52 h53 n54=>n48≤n54∧RK (vLd (some 12) h53 y3) fun x55=>AGK (fun h=>vLd (some 12) h y3) x55 (RK (vIx (.array 2 1) y5 (.int .i64 0)) fun x56=>RK (vLd none h53 x56) fun x57=>AGK (fun h=>vLd none h x56) x57 (Cv Q O true 16 [x55,y1,x57] h53 n54 fun x58 h59 n60=>n54≤n60∧RK (bin Q .eql 34 x52 x58) fun x61=>IF x61 (RK (vLd (some 12) h59 y3) fun x62=>RK (vIx (.array 2 1) y5 (.int .i64 1)) fun x63=>RK (vLd none h59 x63) fun x64=>Cv Q O true 17 [x62,x64] h59 n60 fun x65 h66 n67=>n60≤n67∧RK (vLd (some 12) h66 y3) fun x68=>AGK (fun h=>vLd (some 12) h y3) x68 (RK (vIx (.array 2 1) y5 (.int .i64 1)) fun x69=>RK (vLd none h66 x69) fun x70=>AGK (fun h=>vLd none h x69) x70 (Cv Q O true 18 [x68,x70] h66 n67 fun x71 h72 n73=>n67≤n73∧RK (bin Q .eql 3 x65 x71) fun x74=>IF x74 (RK (vLd (some 4) h72 y7) fun x75=>Cv Q O true 19 [x75] h72 n73 fun x76 h77 n78=>n73≤n78∧RK (vLd (some 4) h77 y7) fun x79=>AGK (fun h=>vLd (some 4) h y7) x79 (Cv Q O true 20 [x79] h77 n78 fun x80 h81 n82=>n78≤n82∧RK (bin Q .eql 4 x76 x80) fun x83=>K x83 h81 n82) 1 [h72,h66,h59,h53,h47,h0]) (K (.bool false) h72 n73)) 1 [h59,h53,h47,h0]) 1 [h59,h53,h47,h0]) (K (.bool false) h59 n60)) 1 [h47,h0]) 1 [h47,h0]) (K (.bool false) h47 n48)
def playwrongk1 (s:Bool) (K:KC') (y1 y3 y5 y41:Value) (h0:Hp) (n0:Nat):Prop:=IF y41 (Cv Q O s 14 [] h0 n0 fun x33 h34 n35=>K x33 h34 n35) (RK (vBld [(.int .i64 0),(.int .i64 0),(.int .i64 0),(.int .i64 0)] []) fun x36=>AR (.ok (.ptr (.cells [(.int .i64 0),(.int .i64 0),(.int .i64 0),(.int .i64 0)] false))) h0 n0 fun p37 h38 n39=>RK (vSt h38 4 p37 x36) fun h40=>RK (lenS y1) fun x41=>RK (bin Q .gtr 3 x41 (.int .i64 0)) fun x42=>IF x42 (RK (vIx (.slice 4) y1 (.int .i64 0)) fun x43=>RK (vLd (some 4) h40 x43) fun x44=>RK (vSt h40 4 p37 x44) fun h45=>(playwrongk0 s K y1 y3 y5 p37 h45 n39)) ((playwrongk0 s K y1 y3 y5 p37 h40 n39)))
def playwrong (s:Bool) (t0 t1 t2:Value) (h:Hp) (nx:Nat) (K:KC'):Prop:=AR (cellsNB (vcells t0)) h nx fun p1 h2 n3=>AR (cellsNB (vcells t2)) h2 n3 fun p4 h5 n6=>RK (vFldA 5 p1) fun x7=>RK (vFldA 1 x7) fun x8=>RK (vLd none h5 x8) fun x9=>RK (lenS x9) fun x10=>RK (bin Q .gtr 3 x10 (.int .i64 30)) fun x11=>IF x11 ((playwrongk1 s K t1 p1 p4 (.bool true) h5 n6)) (RK (vFldA 0 p1) fun x12=>RK (vFldA 4 x12) fun x13=>RK (vLd none h5 x13) fun x14=>RK (lenS x14) fun x15=>RK (bin Q .gtr 3 x15 (.int .i64 30)) fun x16=>IF x16 ((playwrongk1 s K t1 p1 p4 (.bool true) h5 n6)) (RK (vFldA 0 p1) fun x17=>RK (vFldA 1 x17) fun x18=>RK (vLd none h5 x18) fun x19=>RK (bin Q .gtr 3 x19 (.int .i64 60)) fun x20=>IF x20 (RK (vFldA 0 p1) fun x21=>RK (vFldA 1 x21) fun x22=>RK (vLd none h5 x22) fun x23=>RK (bin Q .leq 3 x23 (.int .i64 4096)) fun x24=>IF x24 ((playwrongk1 s K t1 p1 p4 (.bool true) h5 n6)) (RK (lenS t1) fun x25=>RK (bin Q .gtr 3 x25 (.int .i64 60)) fun x26=>IF x26 (RK (lenS t1) fun x27=>RK (bin Q .leq 3 x27 (.int .i64 1048576)) fun x28=>(playwrongk1 s K t1 p1 p4 x28 h5 n6)) ((playwrongk1 s K t1 p1 p4 (.bool false) h5 n6)))) (RK (lenS t1) fun x29=>RK (bin Q .gtr 3 x29 (.int .i64 60)) fun x30=>IF x30 (RK (lenS t1) fun x31=>RK (bin Q .leq 3 x31 (.int .i64 1048576)) fun x32=>(playwrongk1 s K t1 p1 p4 x32 h5 n6)) ((playwrongk1 s K t1 p1 p4 (.bool false) h5 n6)))))
theorem playwronge {s:Bool} {t0 t1 t2:Value} {h:Hp} {nx:Nat} {K:KC'}:fF Q O s playwrongL 4 [t0,t1,t2] h nx K=playwrong s t0 t1 t2 h nx K:=by kernel_rfl
theorem playwrongv {s:Bool} {t0 t1 t2:Value} {h:Hp} {nx:Nat} {K:KC'} (w:playwrong s t0 t1 t2 h nx K):Cv Q O s 4 [t0,t1,t2] h nx K:=Cv.byF playwrongL rfl (by rw [playwronge]; exact w)
def rplcheckL:List (List Nat):=[[1,2,6,8]]
def rplcheckl0 (s:Bool) (a1 a2 a6 a8:Value) (h:Hp) (nx:Nat) (N:KVl) (e0:KVl) (R:KVl):Prop:=RK (lenS a1) fun x17=>RK (bin Q .lss 3 a8 x17) fun x18=>IF x18 (RK (vIx (.slice 4) a1 a8) fun x19=>RK (vLd (some 4) h x19) fun x20=>Cv Q O s 20 [x20] h nx fun x21 h22 n23=>RK (oUn .not x21) fun x24=>IF x24 (R [a1,a2,(.int .i64 8),a8] h22 n23) (RK (bin Q .add 3 a8 (.int .i64 1)) fun x25=>N [a1,a2,a6,x25] h22 n23)) (e0 [a1,a2,a6,a8] h nx)
def rplcheck (s:Bool) (t0 t1 t2:Value) (h:Hp) (nx:Nat) (K:KC'):Prop:=AR (cellsNB (vcells t0)) h nx fun p1 h2 n3=>RK (vLd (some 12) h2 p1) fun x4=>Cv Q O s 13 [x4] h2 n3 fun x5 h6 n7=>RK (bin Q .neq 34 x5 (.int .i64 0)) fun x8=>IF x8 (K x5 h6 n7) (RK (lenS t1) fun x9=>RK (bin Q .gtr 3 x9 (.int .i64 1048576)) fun x10=>IF x10 (K (.int .i64 5) h6 n7) (Lp (fL Q O s rplcheckL 16 0) [t1,t2,(.int .i64 0),(.int .i64 0)] h6 n7 [(0,fun v13 h11 n12=>RK (bin Q .lss 3 (nv v13 1) (.int .i64 0)) fun x26=>IF x26 (K (.int .i64 3) h11 n12) (RK (bin Q .gtr 3 (nv v13 1) (.int .i64 1048576)) fun x27=>IF x27 (K (.int .i64 3) h11 n12) (K (.int .i64 0) h11 n12)))] (fun v16 h14 n15=>K (nv v16 2) h14 n15)))
theorem rplcheckb0 {s:Bool} {a1 a2 a6 a8:Value} {h:Hp} {nx:Nat} {N e0 R:KVl}:fL Q O s rplcheckL 16 0 [a1,a2,a6,a8] h nx N [(0,e0)] R=rplcheckl0 s a1 a2 a6 a8 h nx N e0 R:=by kernel_rfl
theorem rplchecke {s:Bool} {t0 t1 t2:Value} {h:Hp} {nx:Nat} {K:KC'}:fF Q O s rplcheckL 16 [t0,t1,t2] h nx K=rplcheck s t0 t1 t2 h nx K:=by kernel_rfl
theorem rplcheckv {s:Bool} {t0 t1 t2:Value} {h:Hp} {nx:Nat} {K:KC'} (w:rplcheck s t0 t1 t2 h nx K):Cv Q O s 16 [t0,t1,t2] h nx K:=Cv.byF rplcheckL rfl (by rw [rplchecke]; exact w)
def rplboundL:List (List Nat):=[]
def rplboundk0 (s:Bool) (K:KC') (y1 y2 y15:Value) (h0:Hp) (n0:Nat):Prop:=IF y15 (K (.int .i64 0) h0 n0) (RK (vFldA 7 y2) fun x11=>RK (vLd none h0 x11) fun x12=>RK (vFldA 8 y2) fun x13=>RK (vLd none h0 x13) fun x14=>RK (bin Q .add 3 x12 x14) fun x15=>RK (bin Q .add 3 x15 (.int .i64 4)) fun x16=>RK (bin Q .mul 3 (.int .i64 4) x16) fun x17=>RK (bin Q .add 3 y1 (.int .i64 2)) fun x18=>RK (bin Q .mul 3 x17 x18) fun x19=>K x19 h0 n0)
def rplbound (s:Bool) (t0 t1:Value) (h:Hp) (nx:Nat) (K:KC'):Prop:=AR (cellsNB (vcells t0)) h nx fun p1 h2 n3=>RK (vLd (some 12) h2 p1) fun x4=>Cv Q O s 13 [x4] h2 n3 fun x5 h6 n7=>RK (bin Q .neq 34 x5 (.int .i64 0)) fun x8=>IF x8 ((rplboundk0 s K t1 p1 (.bool true) h6 n7)) (RK (bin Q .lss 3 t1 (.int .i64 0)) fun x9=>IF x9 ((rplboundk0 s K t1 p1 (.bool true) h6 n7)) (RK (bin Q .gtr 3 t1 (.int .i64 8192)) fun x10=>(rplboundk0 s K t1 p1 x10 h6 n7)))
theorem rplbounde {s:Bool} {t0 t1:Value} {h:Hp} {nx:Nat} {K:KC'}:fF Q O s rplboundL 18 [t0,t1] h nx K=rplbound s t0 t1 h nx K:=by kernel_rfl
theorem rplboundv {s:Bool} {t0 t1:Value} {h:Hp} {nx:Nat} {K:KC'} (w:rplbound s t0 t1 h nx K):Cv Q O s 18 [t0,t1] h nx K:=Cv.byF rplboundL rfl (by rw [rplbounde]; exact w)
def rplrightL:List (List Nat):=[]
def rplright (s:Bool) (t0:Value) (h:Hp) (nx:Nat) (K:KC'):Prop:=AR (cellsNB (vcells t0)) h nx fun p1 h2 n3=>RK (vFldA 0 p1) fun x4=>RK (vLd none h2 x4) fun x5=>RK (bin Q .geq 44 x5 (.int .i64 1)) fun x6=>IF x6 (RK (vFldA 0 p1) fun x7=>RK (vLd none h2 x7) fun x8=>RK (bin Q .leq 44 x8 (.int .i64 5)) fun x9=>IF x9 (RK (vFldA 1 p1) fun x10=>RK (vLd none h2 x10) fun x11=>RK (bin Q .geq 3 x11 (.int .i64 0)) fun x12=>IF x12 (RK (vFldA 1 p1) fun x13=>RK (vLd none h2 x13) fun x14=>RK (bin Q .lss 3 x14 (.int .i64 64)) fun x15=>IF x15 (RK (vFldA 2 p1) fun x16=>RK (vLd none h2 x16) fun x17=>RK (bin Q .geq 3 x17 (.int .i64 0)) fun x18=>IF x18 (RK (vFldA 2 p1) fun x19=>RK (vLd none h2 x19) fun x20=>RK (bin Q .lss 3 x20 (.int .i64 64)) fun x21=>IF x21 (RK (vFldA 3 p1) fun x22=>RK (vLd none h2 x22) fun x23=>RK (bin Q .geq 3 x23 (.int .i64 0)) fun x24=>IF x24 (RK (vFldA 3 p1) fun x25=>RK (vLd none h2 x25) fun x26=>RK (bin Q .lss 3 x26 (.int .i64 64)) fun x27=>K x27 h2 n3) (K (.bool false) h2 n3)) (K (.bool false) h2 n3)) (K (.bool false) h2 n3)) (K (.bool false) h2 n3)) (K (.bool false) h2 n3)) (K (.bool false) h2 n3)) (K (.bool false) h2 n3)
theorem rplrighte {s:Bool} {t0:Value} {h:Hp} {nx:Nat} {K:KC'}:fF Q O s rplrightL 20 [t0] h nx K=rplright s t0 h nx K:=by kernel_rfl
theorem rplrightv {s:Bool} {t0:Value} {h:Hp} {nx:Nat} {K:KC'} (w:rplright s t0 h nx K):Cv Q O s 20 [t0] h nx K:=Cv.byF rplrightL rfl (by rw [rplrighte]; exact w)
def rwcheckL:List (List Nat):=[]
def rwcheckk0 (s:Bool) (K:KC') (y1 y41:Value) (h0:Hp) (n0:Nat):Prop:=IF y41 (K (.int .i64 3) h0 n0) (RK (vFldA 11 y1) fun x32=>RK (vLd none h0 x32) fun x33=>RK (lenS x33) fun x34=>RK (bin Q .gtr 3 x34 (.int .i64 8192)) fun x35=>IF x35 (K (.int .i64 5) h0 n0) (K (.int .i64 0) h0 n0))
def rwcheck (s:Bool) (t0:Value) (h:Hp) (nx:Nat) (K:KC'):Prop:=AR (cellsNB (vcells t0)) h nx fun p1 h2 n3=>RK (vFldA 0 p1) fun x4=>RK (vLd (some 5) h2 x4) fun x5=>RK (vFldA 5 p1) fun x6=>RK (vLd (some 2) h2 x6) fun x7=>RK (vFldA 10 p1) fun x8=>RK (vLd none h2 x8) fun x9=>Cv Q O s 64 [x5,x7,x9] h2 n3 fun x10 h11 n12=>RK (bin Q .neq 34 x10 (.int .i64 0)) fun x13=>IF x13 (K x10 h11 n12) (RK (vFldA 7 p1) fun x14=>RK (vLd none h11 x14) fun x15=>RK (bin Q .lss 3 x15 (.int .i64 1)) fun x16=>IF x16 ((rwcheckk0 s K p1 (.bool true) h11 n12)) (RK (vFldA 7 p1) fun x17=>RK (vLd none h11 x17) fun x18=>RK (bin Q .gtr 3 x18 (.int .i64 8)) fun x19=>IF x19 ((rwcheckk0 s K p1 (.bool true) h11 n12)) (RK (vFldA 8 p1) fun x20=>RK (vLd none h11 x20) fun x21=>RK (bin Q .lss 3 x21 (.int .i64 1)) fun x22=>IF x22 ((rwcheckk0 s K p1 (.bool true) h11 n12)) (RK (vFldA 8 p1) fun x23=>RK (vLd none h11 x23) fun x24=>RK (bin Q .gtr 3 x24 (.int .i64 8)) fun x25=>IF x25 ((rwcheckk0 s K p1 (.bool true) h11 n12)) (RK (vFldA 9 p1) fun x26=>RK (vLd none h11 x26) fun x27=>RK (bin Q .lss 3 x27 (.int .i64 1)) fun x28=>IF x28 ((rwcheckk0 s K p1 (.bool true) h11 n12)) (RK (vFldA 9 p1) fun x29=>RK (vLd none h11 x29) fun x30=>RK (bin Q .gtr 3 x30 (.int .i64 64)) fun x31=>(rwcheckk0 s K p1 x31 h11 n12)))))))
theorem rwchecke {s:Bool} {t0:Value} {h:Hp} {nx:Nat} {K:KC'}:fF Q O s rwcheckL 13 [t0] h nx K=rwcheck s t0 h nx K:=by kernel_rfl
theorem rwcheckv {s:Bool} {t0:Value} {h:Hp} {nx:Nat} {K:KC'} (w:rwcheck s t0 h nx K):Cv Q O s 13 [t0] h nx K:=Cv.byF rwcheckL rfl (by rw [rwchecke]; exact w)
def rmcheckL:List (List Nat):=[]
def rmcheck (s:Bool) (t0 t1 t2:Value) (h:Hp) (nx:Nat) (K:KC'):Prop:=AR (cellsNB (vcells t0)) h nx fun p1 h2 n3=>AR (cellsNB (vcells t1)) h2 n3 fun p4 h5 n6=>RK (vLd (some 5) h5 p1) fun x7=>RK (vLd (some 2) h5 p4) fun x8=>Cv Q O s 57 [x7,x8] h5 n6 fun x9 h10 n11=>RK (oExtract x9 0) fun x12=>RK (oExtract x9 1) fun x13=>AR (.ok (.ptr (.cells [(.int .i64 0),(.int .i64 0),(.slice none 0 0),(.slice none 0 0),(.slice none 0 0)] false))) h10 n11 fun p14 h15 n16=>RK (vSt h15 5 p14 x12) fun h17=>RK (bin Q .neq 34 x13 (.int .i64 0)) fun x18=>IF x18 (K x13 h17 n16) (RK (bin Q .lss 3 t2 (.int .i64 0)) fun x19=>IF x19 (K (.int .i64 3) h17 n16) (RK (bin Q .gtr 3 t2 (.int .i64 8192)) fun x20=>IF x20 (K (.int .i64 3) h17 n16) (K (.int .i64 0) h17 n16)))
theorem rmchecke {s:Bool} {t0 t1 t2:Value} {h:Hp} {nx:Nat} {K:KC'}:fF Q O s rmcheckL 64 [t0,t1,t2] h nx K=rmcheck s t0 t1 t2 h nx K:=by kernel_rfl
theorem rmcheckv {s:Bool} {t0 t1 t2:Value} {h:Hp} {nx:Nat} {K:KC'} (w:rmcheck s t0 t1 t2 h nx K):Cv Q O s 64 [t0,t1,t2] h nx K:=Cv.byF rmcheckL rfl (by rw [rmchecke]; exact w)
def rmatrixL:List (List Nat):=[]
def rmatrixk0 (s:Bool) (K:KC') (y3 y4:Value) (h0:Hp) (n0:Nat):Prop:=RK (vLd (some 2) h0 y3) fun x63=>Cv Q O s 150 [x63] h0 n0 fun x64 h65 n66=>RK (oExtract x64 0) fun x67=>RK (oExtract x64 1) fun x68=>RK (vSt h65 5 y4 x67) fun h69=>RK (vLd (some 5) h69 y4) fun x70=>K (.tuple ⟨[x70,x68]⟩) h69 n66
def rmatrix (s:Bool) (t0 t1:Value) (h:Hp) (nx:Nat) (K:KC'):Prop:=AR (cellsNB (vcells t0)) h nx fun p1 h2 n3=>AR (cellsNB (vcells t1)) h2 n3 fun p4 h5 n6=>AR (.ok (.ptr (.cells [(.int .i64 0),(.int .i64 0),(.slice none 0 0),(.slice none 0 0),(.slice none 0 0)] false))) h5 n6 fun p7 h8 n9=>RK (vLd (some 5) h8 p1) fun x10=>Cv Q O s 146 [x10] h8 n9 fun x11 h12 n13=>RK (bin Q .neq 34 x11 (.int .i64 0)) fun x14=>IF x14 (RK (vBld [(.int .i64 0),(.int .i64 0),(.slice none 0 0),(.slice none 0 0),(.slice none 0 0)] []) fun x15=>RK (vSt h12 5 p7 x15) fun h16=>RK (vLd (some 5) h16 p7) fun x17=>K (.tuple ⟨[x17,x11]⟩) h16 n13) (RK (vFldA 0 p4) fun x18=>RK (vLd none h12 x18) fun x19=>RK (vFldA 1 p1) fun x20=>RK (vLd none h12 x20) fun x21=>RK (bin Q .neq 3 x19 x21) fun x22=>IF x22 (RK (vBld [(.int .i64 0),(.int .i64 0),(.slice none 0 0),(.slice none 0 0),(.slice none 0 0)] []) fun x23=>RK (vSt h12 5 p7 x23) fun h24=>RK (vLd (some 5) h24 p7) fun x25=>K (.tuple ⟨[x25,(.int .i64 4)]⟩) h24 n13) (RK (vLd (some 2) h12 p4) fun x26=>Cv Q O s 114 [x26] h12 n13 fun x27 h28 n29=>RK (bin Q .neq 34 x27 (.int .i64 0)) fun x30=>IF x30 (RK (vBld [(.int .i64 0),(.int .i64 0),(.slice none 0 0),(.slice none 0 0),(.slice none 0 0)] []) fun x31=>RK (vSt h28 5 p7 x31) fun h32=>RK (vLd (some 5) h32 p7) fun x33=>K (.tuple ⟨[x33,x27]⟩) h32 n29) (RK (vFldA 0 p1) fun x34=>RK (vLd none h28 x34) fun x35=>RK (bin Q .eql 22 x35 (.int .i64 1)) fun x36=>IF x36 (RK (vLd (some 2) h28 p4) fun x37=>Cv Q O s 147 [x37] h28 n29 fun x38 h39 n40=>RK (vSt h39 2 p4 x38) fun h41=>(rmatrixk0 s K p4 p7 h41 n40)) (RK (bin Q .eql 22 x35 (.int .i64 3)) fun x42=>IF x42 (RK (vLd (some 2) h28 p4) fun x43=>Cv Q O s 148 [x43] h28 n29 fun x44 h45 n46=>Cv Q O s 147 [x44] h45 n46 fun x47 h48 n49=>RK (vSt h48 2 p4 x47) fun h50=>(rmatrixk0 s K p4 p7 h50 n49)) (RK (bin Q .eql 22 x35 (.int .i64 5)) fun x51=>IF x51 (RK (vLd (some 2) h28 p4) fun x52=>Cv Q O s 149 [x52] h28 n29 fun x53 h54 n55=>Cv Q O s 148 [x53] h54 n55 fun x56 h57 n58=>Cv Q O s 147 [x56] h57 n58 fun x59 h60 n61=>RK (vSt h60 2 p4 x59) fun h62=>(rmatrixk0 s K p4 p7 h62 n61)) ((rmatrixk0 s K p4 p7 h28 n29)))))))
theorem rmatrixe {s:Bool} {t0 t1:Value} {h:Hp} {nx:Nat} {K:KC'}:fF Q O s rmatrixL 57 [t0,t1] h nx K=rmatrix s t0 t1 h nx K:=by kernel_rfl
theorem rmatrixv {s:Bool} {t0 t1:Value} {h:Hp} {nx:Nat} {K:KC'} (w:rmatrix s t0 t1 h nx K):Cv Q O s 57 [t0,t1] h nx K:=Cv.byF rmatrixL rfl (by rw [rmatrixe]; exact w)
def rpright0L:List (List Nat):=[[1,2,3]]
def rpright0l0 (s:Bool) (a1 a2 a3:Value) (h:Hp) (nx:Nat) (N:KVl) (e0:KVl) (R:KVl):Prop:=RK (vFldA 4 a1) fun x57=>RK (vLd none h x57) fun x58=>RK (lenS x58) fun x59=>RK (bin Q .lss 3 a3 x59) fun x60=>IF x60 (RK (vFldA 4 a1) fun x61=>RK (vLd none h x61) fun x62=>RK (vIx (.slice 1) x62 a3) fun x63=>RK (vLd none h x63) fun x64=>RK (bin Q .lss 2 x64 (.int .i64 0)) fun x65=>IF x65 (R [a1,(.int .i64 7),a3] h nx) (RK (vFldA 4 a1) fun x66=>RK (vLd none h x66) fun x67=>RK (vIx (.slice 1) x67 a3) fun x68=>RK (vLd none h x68) fun x69=>RK (bin Q .gtr 2 x69 (.int .i64 2147483647)) fun x70=>IF x70 (R [a1,(.int .i64 7),a3] h nx) (RK (bin Q .add 3 a3 (.int .i64 1)) fun x73=>N [a1,a2,x73] h nx))) (e0 [a1,a2,a3] h nx)
def rpright0k0 (s:Bool) (K:KC') (y1 y51:Value) (h0:Hp) (n0:Nat):Prop:=IF y51 (K (.int .i64 3) h0 n0) (RK (vFldA 4 y1) fun x47=>RK (vLd none h0 x47) fun x48=>RK (lenS x48) fun x49=>RK (bin Q .gtr 3 x49 (.int .i64 65536)) fun x50=>IF x50 (K (.int .i64 5) h0 n0) (Lp (fL Q O s rpright0L 146 0) [y1,(.int .i64 0),(.int .i64 0)] h0 n0 [(0,fun v53 h51 n52=>K (.int .i64 0) h51 n52)] (fun v56 h54 n55=>K (nv v56 1) h54 n55)))
def rpright0k1 (s:Bool) (K:KC') (y1 y11:Value) (h0:Hp) (n0:Nat):Prop:=IF y11 (K (.int .i64 8) h0 n0) (RK (vFldA 1 y1) fun x10=>RK (vLd none h0 x10) fun x11=>RK (bin Q .lss 3 x11 (.int .i64 0)) fun x12=>IF x12 ((rpright0k0 s K y1 (.bool true) h0 n0)) (RK (vFldA 1 y1) fun x13=>RK (vLd none h0 x13) fun x14=>RK (bin Q .gtr 3 x14 (.int .i64 4096)) fun x15=>IF x15 ((rpright0k0 s K y1 (.bool true) h0 n0)) (RK (vFldA 0 y1) fun x16=>RK (vLd none h0 x16) fun x17=>Cv Q O s 156 [x17] h0 n0 fun x18 h19 n20=>IF x18 (RK (vFldA 2 y1) fun x21=>RK (vLd none h19 x21) fun x22=>RK (bin Q .lss 3 x22 (.int .i64 0)) fun x23=>IF x23 ((rpright0k0 s K y1 (.bool true) h19 n20)) (RK (vFldA 2 y1) fun x24=>RK (vLd none h19 x24) fun x25=>RK (vFldA 1 y1) fun x26=>RK (vLd none h19 x26) fun x27=>RK (bin Q .geq 3 x25 x27) fun x28=>IF x28 ((rpright0k0 s K y1 (.bool true) h19 n20)) (RK (vFldA 0 y1) fun x29=>RK (vLd none h19 x29) fun x30=>RK (bin Q .eql 22 x30 (.int .i64 4)) fun x31=>IF x31 (RK (vFldA 3 y1) fun x32=>RK (vLd none h19 x32) fun x33=>RK (bin Q .lss 3 x33 (.int .i64 0)) fun x34=>IF x34 ((rpright0k0 s K y1 (.bool true) h19 n20)) (RK (vFldA 3 y1) fun x35=>RK (vLd none h19 x35) fun x36=>RK (bin Q .gtr 3 x36 (.int .i64 8192)) fun x37=>(rpright0k0 s K y1 x37 h19 n20))) ((rpright0k0 s K y1 (.bool false) h19 n20))))) (RK (vFldA 0 y1) fun x38=>RK (vLd none h19 x38) fun x39=>RK (bin Q .eql 22 x39 (.int .i64 4)) fun x40=>IF x40 (RK (vFldA 3 y1) fun x41=>RK (vLd none h19 x41) fun x42=>RK (bin Q .lss 3 x42 (.int .i64 0)) fun x43=>IF x43 ((rpright0k0 s K y1 (.bool true) h19 n20)) (RK (vFldA 3 y1) fun x44=>RK (vLd none h19 x44) fun x45=>RK (bin Q .gtr 3 x45 (.int .i64 8192)) fun x46=>(rpright0k0 s K y1 x46 h19 n20))) ((rpright0k0 s K y1 (.bool false) h19 n20))))))
def rpright0 (s:Bool) (t0:Value) (h:Hp) (nx:Nat) (K:KC'):Prop:=AR (cellsNB (vcells t0)) h nx fun p1 h2 n3=>RK (vFldA 0 p1) fun x4=>RK (vLd none h2 x4) fun x5=>RK (bin Q .lss 22 x5 (.int .i64 1)) fun x6=>IF x6 ((rpright0k1 s K p1 (.bool true) h2 n3)) (RK (vFldA 0 p1) fun x7=>RK (vLd none h2 x7) fun x8=>RK (bin Q .gtr 22 x8 (.int .i64 5)) fun x9=>(rpright0k1 s K p1 x9 h2 n3))
theorem rpright0b0 {s:Bool} {a1 a2 a3:Value} {h:Hp} {nx:Nat} {N e0 R:KVl}:fL Q O s rpright0L 146 0 [a1,a2,a3] h nx N [(0,e0)] R=rpright0l0 s a1 a2 a3 h nx N e0 R:=by kernel_rfl
theorem rpright0e {s:Bool} {t0:Value} {h:Hp} {nx:Nat} {K:KC'}:fF Q O s rpright0L 146 [t0] h nx K=rpright0 s t0 h nx K:=by kernel_rfl
theorem rpright0v {s:Bool} {t0:Value} {h:Hp} {nx:Nat} {K:KC'} (w:rpright0 s t0 h nx K):Cv Q O s 146 [t0] h nx K:=Cv.byF rpright0L rfl (by rw [rpright0e]; exact w)
def rfromL:List (List Nat):=[]
def rfrom (s:Bool) (t0:Value) (h:Hp) (nx:Nat) (K:KC'):Prop:=RK (bin Q .eql 22 t0 (.int .i64 1)) fun x1=>IF x1 (K (.bool true) h nx) (RK (bin Q .eql 22 t0 (.int .i64 2)) fun x2=>IF x2 (K (.bool true) h nx) (RK (bin Q .eql 22 t0 (.int .i64 4)) fun x3=>K x3 h nx))
theorem rfrome {s:Bool} {t0:Value} {h:Hp} {nx:Nat} {K:KC'}:fF Q O s rfromL 156 [t0] h nx K=rfrom s t0 h nx K:=by kernel_rfl
theorem rfromv {s:Bool} {t0:Value} {h:Hp} {nx:Nat} {K:KC'} (w:rfrom s t0 h nx K):Cv Q O s 156 [t0] h nx K:=Cv.byF rfromL rfl (by rw [rfrome]; exact w)
def rturnL:List (List Nat):=[[1,2,3,4]]
def rturnl0 (s:Bool) (a1 a2 a3 a4:Value) (h:Hp) (nx:Nat) (N:KVl) (e0:KVl) (R:KVl):Prop:=RK (vFldA 1 a1) fun x17=>RK (vLd none h x17) fun x18=>RK (lenS x18) fun x19=>RK (bin Q .lss 3 a4 x19) fun x20=>IF x20 (RK (vFldA 1 a1) fun x21=>RK (vLd none h x21) fun x22=>RK (vIx (.slice 3) x22 a4) fun x23=>RK (vLd (some 3) h x23) fun x24=>AR (.ok (.ptr (.cells [(.int .i64 0),(.int .i64 0),(.int .i64 0)] false))) h nx fun p25 h26 n27=>RK (vSt h26 3 p25 x24) fun h28=>RK (vFldA 1 a3) fun x29=>RK (vLd none h28 x29) fun x30=>RK (vFldA 1 p25) fun x31=>RK (vLd none h28 x31) fun x32=>RK (vFldA 0 p25) fun x33=>RK (vLd none h28 x33) fun x34=>RK (vFldA 2 p25) fun x35=>RK (vLd none h28 x35) fun x36=>RK (vBld [(.int .i64 0),(.int .i64 0),(.int .i64 0)] [(0,1,x32),(1,1,x34),(2,1,x36)]) fun x37=>AR (vBsl 1 [(.int .i64 0),(.int .i64 0),(.int .i64 0)] [(0,3,x37)]) h28 n27 fun p38 h39 n40=>EK (orR (appendA 3 h39 n40 x30 p38)) fun x41 h42 n43=>RK (vFldA 1 a3) fun x44=>RK (vSt h42 1 x44 x41) fun h45=>RK (bin Q .add 3 a4 (.int .i64 1)) fun x46=>N [a1,a2,a3,x46] h45 n43) (e0 [a1,a2,a3,a4] h nx)
def rturn (s:Bool) (t0:Value) (h:Hp) (nx:Nat) (K:KC'):Prop:=AR (cellsNB (vcells t0)) h nx fun p1 h2 n3=>AR (.ok (.ptr (.cells [(.int .i64 0),(.slice none 0 0)] false))) h2 n3 fun p4 h5 n6=>RK (vFldA 0 p1) fun x7=>RK (vLd none h5 x7) fun x8=>RK (vBld [(.int .i64 0),(.slice none 0 0)] [(0,1,x8)]) fun x9=>AR (.ok (.ptr (.cells [(.int .i64 0),(.slice none 0 0)] false))) h5 n6 fun p10 h11 n12=>RK (vSt h11 2 p10 x9) fun h13=>Lp (fL Q O s rturnL 244 0) [p1,p4,p10,(.int .i64 0)] h13 n12 [(0,fun v16 h14 n15=>RK (vLd (some 2) h14 (nv v16 2)) fun x47=>Cv Q O s 243 [x47] h14 n15 fun x48 h49 n50=>RK (vSt h49 2 (nv v16 1) x48) fun h51=>RK (vLd (some 2) h51 (nv v16 1)) fun x52=>K x52 h51 n50)] (fun _ _ _=>False)
theorem rturnb0 {s:Bool} {a1 a2 a3 a4:Value} {h:Hp} {nx:Nat} {N e0 R:KVl}:fL Q O s rturnL 244 0 [a1,a2,a3,a4] h nx N [(0,e0)] R=rturnl0 s a1 a2 a3 a4 h nx N e0 R:=by kernel_rfl
theorem rturne {s:Bool} {t0:Value} {h:Hp} {nx:Nat} {K:KC'}:fF Q O s rturnL 244 [t0] h nx K=rturn s t0 h nx K:=by kernel_rfl
theorem rturnv {s:Bool} {t0:Value} {h:Hp} {nx:Nat} {K:KC'} (w:rturn s t0 h nx K):Cv Q O s 244 [t0] h nx K:=Cv.byF rturnL rfl (by rw [rturne]; exact w)
def rbothL:List (List Nat):=[]
def rboth (s:Bool) (t0:Value) (h:Hp) (nx:Nat) (K:KC'):Prop:=AR (cellsNB (vcells t0)) h nx fun p1 h2 n3=>AR (.ok (.ptr (.cells [(.int .i64 0),(.slice none 0 0)] false))) h2 n3 fun p4 h5 n6=>RK (vLd (some 2) h5 p1) fun x7=>Cv Q O s 244 [x7] h5 n6 fun x8 h9 n10=>AR (.ok (.ptr (.cells [(.int .i64 0),(.slice none 0 0)] false))) h9 n10 fun p11 h12 n13=>RK (vSt h12 2 p11 x8) fun h14=>RK (vFldA 1 p11) fun x15=>RK (vLd none h14 x15) fun x16=>RK (vFldA 1 p1) fun x17=>RK (vLd none h14 x17) fun x18=>EK (orR (appendA 3 h14 n13 x16 x18)) fun x19 h20 n21=>RK (vFldA 1 p11) fun x22=>RK (vSt h20 1 x22 x19) fun h23=>RK (vLd (some 2) h23 p11) fun x24=>Cv Q O s 243 [x24] h23 n21 fun x25 h26 n27=>RK (vSt h26 2 p4 x25) fun h28=>RK (vLd (some 2) h28 p4) fun x29=>K x29 h28 n27
theorem rbothe {s:Bool} {t0:Value} {h:Hp} {nx:Nat} {K:KC'}:fF Q O s rbothL 148 [t0] h nx K=rboth s t0 h nx K:=by kernel_rfl
theorem rbothv {s:Bool} {t0:Value} {h:Hp} {nx:Nat} {K:KC'} (w:rboth s t0 h nx K):Cv Q O s 148 [t0] h nx K:=Cv.byF rbothL rfl (by rw [rbothe]; exact w)
def rsimpleL:List (List Nat):=[[1,2,3,4]]
def rsimplel0 (s:Bool) (a1 a2 a3 a4:Value) (h:Hp) (nx:Nat) (N:KVl) (e0:KVl) (R:KVl):Prop:=RK (vFldA 1 a1) fun x17=>RK (vLd none h x17) fun x18=>RK (lenS x18) fun x19=>RK (bin Q .lss 3 a4 x19) fun x20=>IF x20 (RK (vFldA 1 a1) fun x21=>RK (vLd none h x21) fun x22=>RK (vIx (.slice 3) x22 a4) fun x23=>RK (vFldA 0 x23) fun x24=>RK (vLd none h x24) fun x25=>RK (vFldA 1 a1) fun x26=>RK (vLd none h x26) fun x27=>RK (vIx (.slice 3) x27 a4) fun x28=>RK (vFldA 1 x28) fun x29=>RK (vLd none h x29) fun x30=>RK (bin Q .neq 3 x25 x30) fun x31=>IF x31 (RK (vFldA 1 a3) fun x32=>RK (vLd none h x32) fun x33=>RK (vFldA 1 a1) fun x34=>RK (vLd none h x34) fun x35=>RK (vIx (.slice 3) x35 a4) fun x36=>RK (vLd (some 3) h x36) fun x37=>AR (vBsl 1 [(.int .i64 0),(.int .i64 0),(.int .i64 0)] [(0,3,x37)]) h nx fun p38 h39 n40=>EK (orR (appendA 3 h39 n40 x33 p38)) fun x41 h42 n43=>n40≤n43∧RK (vFldA 1 a3) fun x44=>RK (vSt h42 1 x44 x41) fun h45=>RK (bin Q .add 3 a4 (.int .i64 1)) fun x48=>N [a1,a2,a3,x48] h45 n43) (RK (bin Q .add 3 a4 (.int .i64 1)) fun x49=>N [a1,a2,a3,x49] h nx)) (e0 [a1,a2,a3,a4] h nx)
def rsimple (s:Bool) (t0:Value) (h:Hp) (nx:Nat) (K:KC'):Prop:=AR (cellsNB (vcells t0)) h nx fun p1 h2 n3=>AR (.ok (.ptr (.cells [(.int .i64 0),(.slice none 0 0)] false))) h2 n3 fun p4 h5 n6=>RK (vFldA 0 p1) fun x7=>RK (vLd none h5 x7) fun x8=>RK (vBld [(.int .i64 0),(.slice none 0 0)] [(0,1,x8)]) fun x9=>AR (.ok (.ptr (.cells [(.int .i64 0),(.slice none 0 0)] false))) h5 n6 fun p10 h11 n12=>RK (vSt h11 2 p10 x9) fun h13=>Lp (fL Q O s rsimpleL 149 0) [p1,p4,p10,(.int .i64 0)] h13 n12 [(0,fun v16 h14 n15=>RK (vLd (some 2) h14 (nv v16 2)) fun x50=>Cv Q O s 243 [x50] h14 n15 fun x51 h52 n53=>RK (vSt h52 2 (nv v16 1) x51) fun h54=>RK (vLd (some 2) h54 (nv v16 1)) fun x55=>K x55 h54 n53)] (fun _ _ _=>False)
theorem rsimpleb0 {s:Bool} {a1 a2 a3 a4:Value} {h:Hp} {nx:Nat} {N e0 R:KVl}:fL Q O s rsimpleL 149 0 [a1,a2,a3,a4] h nx N [(0,e0)] R=rsimplel0 s a1 a2 a3 a4 h nx N e0 R:=by kernel_rfl
theorem rsimplee {s:Bool} {t0:Value} {h:Hp} {nx:Nat} {K:KC'}:fF Q O s rsimpleL 149 [t0] h nx K=rsimple s t0 h nx K:=by kernel_rfl
theorem rsimplev {s:Bool} {t0:Value} {h:Hp} {nx:Nat} {K:KC'} (w:rsimple s t0 h nx K):Cv Q O s 149 [t0] h nx K:=Cv.byF rsimpleL rfl (by rw [rsimplee]; exact w)
def rplainL:List (List Nat):=[[1,2,3,4]]
def rplainl0 (s:Bool) (a1 a2 a3 a4:Value) (h:Hp) (nx:Nat) (N:KVl) (e0:KVl) (R:KVl):Prop:=RK (vFldA 1 a1) fun x17=>RK (vLd none h x17) fun x18=>RK (lenS x18) fun x19=>RK (bin Q .lss 3 a4 x19) fun x20=>IF x20 (RK (vFldA 1 a3) fun x21=>RK (vLd none h x21) fun x22=>RK (vFldA 1 a1) fun x23=>RK (vLd none h x23) fun x24=>RK (vIx (.slice 3) x24 a4) fun x25=>RK (vFldA 0 x25) fun x26=>RK (vLd none h x26) fun x27=>RK (vFldA 1 a1) fun x28=>RK (vLd none h x28) fun x29=>RK (vIx (.slice 3) x29 a4) fun x30=>RK (vFldA 1 x30) fun x31=>RK (vLd none h x31) fun x32=>RK (vBld [(.int .i64 0),(.int .i64 0),(.int .i64 0)] [(0,1,x27),(1,1,x32),(2,1,(.int .i64 1))]) fun x33=>AR (vBsl 1 [(.int .i64 0),(.int .i64 0),(.int .i64 0)] [(0,3,x33)]) h nx fun p34 h35 n36=>EK (orR (appendA 3 h35 n36 x22 p34)) fun x37 h38 n39=>n36≤n39∧RK (vFldA 1 a3) fun x40=>RK (vSt h38 1 x40 x37) fun h41=>RK (bin Q .add 3 a4 (.int .i64 1)) fun x42=>N [a1,a2,a3,x42] h41 n39) (e0 [a1,a2,a3,a4] h nx)
def rplain (s:Bool) (t0:Value) (h:Hp) (nx:Nat) (K:KC'):Prop:=AR (cellsNB (vcells t0)) h nx fun p1 h2 n3=>AR (.ok (.ptr (.cells [(.int .i64 0),(.slice none 0 0)] false))) h2 n3 fun p4 h5 n6=>RK (vFldA 0 p1) fun x7=>RK (vLd none h5 x7) fun x8=>RK (vBld [(.int .i64 0),(.slice none 0 0)] [(0,1,x8)]) fun x9=>AR (.ok (.ptr (.cells [(.int .i64 0),(.slice none 0 0)] false))) h5 n6 fun p10 h11 n12=>RK (vSt h11 2 p10 x9) fun h13=>Lp (fL Q O s rplainL 147 0) [p1,p4,p10,(.int .i64 0)] h13 n12 [(0,fun v16 h14 n15=>RK (vLd (some 2) h14 (nv v16 2)) fun x43=>Cv Q O s 243 [x43] h14 n15 fun x44 h45 n46=>RK (vSt h45 2 (nv v16 1) x44) fun h47=>RK (vLd (some 2) h47 (nv v16 1)) fun x48=>K x48 h47 n46)] (fun _ _ _=>False)
theorem rplainb0 {s:Bool} {a1 a2 a3 a4:Value} {h:Hp} {nx:Nat} {N e0 R:KVl}:fL Q O s rplainL 147 0 [a1,a2,a3,a4] h nx N [(0,e0)] R=rplainl0 s a1 a2 a3 a4 h nx N e0 R:=by kernel_rfl
theorem rplaine {s:Bool} {t0:Value} {h:Hp} {nx:Nat} {K:KC'}:fF Q O s rplainL 147 [t0] h nx K=rplain s t0 h nx K:=by kernel_rfl
theorem rplainv {s:Bool} {t0:Value} {h:Hp} {nx:Nat} {K:KC'} (w:rplain s t0 h nx K):Cv Q O s 147 [t0] h nx K:=Cv.byF rplainL rfl (by rw [rplaine]; exact w)
def rgraphL:List (List Nat):=[[1,2,5,6,7]]
def rgraphl0 (s:Bool) (a1 a2 a5 a6 a7:Value) (h:Hp) (nx:Nat) (N:KVl) (e0:KVl) (R:KVl):Prop:=RK (vFldA 1 a5) fun x26=>RK (vLd none h x26) fun x27=>RK (lenS x27) fun x28=>RK (bin Q .lss 3 a7 x28) fun x29=>IF x29 (RK (vFldA 1 a5) fun x30=>RK (vLd none h x30) fun x31=>RK (vIx (.slice 3) x31 a7) fun x32=>RK (vFldA 0 x32) fun x33=>RK (vLd none h x33) fun x34=>RK (vFldA 1 a5) fun x35=>RK (vLd none h x35) fun x36=>RK (vIx (.slice 3) x36 a7) fun x37=>RK (vFldA 1 x37) fun x38=>RK (vLd none h x38) fun x39=>RK (vFldA 1 a5) fun x40=>RK (vLd none h x40) fun x41=>RK (vIx (.slice 3) x41 a7) fun x42=>RK (vFldA 2 x42) fun x43=>RK (vLd none h x43) fun x44=>RK (vBld [(.int .i64 0),(.int .i64 0),(.int .i64 0)] [(0,1,x34),(1,1,x39),(2,1,x44)]) fun x45=>AR (vBsl 1 [(.int .i64 0),(.int .i64 0),(.int .i64 0)] [(0,3,x45)]) h nx fun p46 h47 n48=>EK (orR (appendA 3 h47 n48 a6 p46)) fun x49 h50 n51=>n48≤n51∧RK (bin Q .add 3 a7 (.int .i64 1)) fun x52=>N [a1,a2,a5,x49,x52] h50 n51) (e0 [a1,a2,a5,a6,a7] h nx)
def rgraph (s:Bool) (t0:Value) (h:Hp) (nx:Nat) (K:KC'):Prop:=AR (cellsNB (vcells t0)) h nx fun p1 h2 n3=>AR (.ok (.ptr (.cells [(.int .i64 0),(.int .i64 0),(.slice none 0 0),(.slice none 0 0),(.slice none 0 0)] false))) h2 n3 fun p4 h5 n6=>RK (vLd (some 2) h5 p1) fun x7=>Cv Q O s 114 [x7] h5 n6 fun x8 h9 n10=>RK (bin Q .neq 34 x8 (.int .i64 0)) fun x11=>IF x11 (RK (vBld [(.int .i64 0),(.int .i64 0),(.slice none 0 0),(.slice none 0 0),(.slice none 0 0)] []) fun x12=>RK (vSt h9 5 p4 x12) fun h13=>RK (vLd (some 5) h13 p4) fun x14=>K (.tuple ⟨[x14,x8]⟩) h13 n10) (RK (vLd (some 2) h9 p1) fun x15=>Cv Q O s 244 [x15] h9 n10 fun x16 h17 n18=>AR (.ok (.ptr (.cells [(.int .i64 0),(.slice none 0 0)] false))) h17 n18 fun p19 h20 n21=>RK (vSt h20 2 p19 x16) fun h22=>Lp (fL Q O s rgraphL 150 0) [p1,p4,p19,(.slice none 0 0),(.int .i64 0)] h22 n21 [(0,fun v25 h23 n24=>RK (vFldA 0 (nv v25 0)) fun x53=>RK (vLd none h23 x53) fun x54=>RK (vFldA 0 (nv v25 0)) fun x55=>RK (vLd none h23 x55) fun x56=>Cv Q O s 245 [x54,x56,(nv v25 3)] h23 n24 fun x57 h58 n59=>RK (vSt h58 5 (nv v25 1) x57) fun h60=>RK (vLd (some 5) h60 (nv v25 1)) fun x61=>K (.tuple ⟨[x61,(.int .i64 0)]⟩) h60 n59)] (fun _ _ _=>False))
theorem rgraphb0 {s:Bool} {a1 a2 a5 a6 a7:Value} {h:Hp} {nx:Nat} {N e0 R:KVl}:fL Q O s rgraphL 150 0 [a1,a2,a5,a6,a7] h nx N [(0,e0)] R=rgraphl0 s a1 a2 a5 a6 a7 h nx N e0 R:=by kernel_rfl
theorem rgraphe {s:Bool} {t0:Value} {h:Hp} {nx:Nat} {K:KC'}:fF Q O s rgraphL 150 [t0] h nx K=rgraph s t0 h nx K:=by kernel_rfl
theorem rgraphv {s:Bool} {t0:Value} {h:Hp} {nx:Nat} {K:KC'} (w:rgraph s t0 h nx K):Cv Q O s 150 [t0] h nx K:=Cv.byF rgraphL rfl (by rw [rgraphe]; exact w)
def rbuiltL:List (List Nat):=[[0,2,6,7,8],[0,2,6,7,8,9]]
def rbuiltl1 (s:Bool) (a0 a2 a6 a7 a8 a9:Value) (h:Hp) (nx:Nat) (N:KVl) (e2:KVl) (R:KVl):Prop:=RK (bin Q .leq 3 a9 a0) fun x49=>IF x49 (RK (vFldA 2 a7) fun x50=>RK (vLd none h x50) fun x51=>RK (vIx (.slice 1) x51 a9) fun x52=>RK (vLd none h x52) fun x53=>RK (bin Q .add 3 x53 (.int .i64 1)) fun x54=>RK (vIx (.slice 1) x51 a9) fun x55=>RK (vSt h 1 x55 x54) fun h56=>RK (bin Q .add 3 a9 (.int .i64 1)) fun x57=>N [a0,a2,a6,a7,a8,x57] h56 nx) (e2 [a0,a2,a6,a7,a8,a9] h nx)
def rbuiltl0 (s:Bool) (a0 a2 a6 a7 a8:Value) (h:Hp) (nx:Nat) (N:KVl) (e0:KVl) (R:KVl):Prop:=RK (lenS a2) fun x14=>RK (bin Q .lss 3 a8 x14) fun x15=>IF x15 (RK (vFldA 3 a7) fun x16=>RK (vLd none h x16) fun x17=>RK (vIx (.slice 3) a2 a8) fun x18=>RK (vFldA 1 x18) fun x19=>RK (vLd none h x19) fun x20=>AR (vBsl 1 [(.int .i64 0)] [(0,1,x20)]) h nx fun p21 h22 n23=>EK (orR (appendA 1 h22 n23 x17 p21)) fun x24 h25 n26=>n23≤n26∧RK (vFldA 3 a7) fun x27=>RK (vSt h25 1 x27 x24) fun h28=>RK (vFldA 4 a7) fun x29=>RK (vLd none h28 x29) fun x30=>RK (vIx (.slice 3) a2 a8) fun x31=>RK (vFldA 2 x31) fun x32=>RK (vLd none h28 x32) fun x33=>AR (vBsl 1 [(.int .i64 0)] [(0,1,x33)]) h28 n26 fun p34 h35 n36=>EK (orR (appendA 1 h35 n36 x30 p34)) fun x37 h38 n39=>n36≤n39∧RK (vFldA 4 a7) fun x40=>RK (vSt h38 1 x40 x37) fun h41=>RK (vIx (.slice 3) a2 a8) fun x42=>RK (vFldA 0 x42) fun x43=>RK (vLd none h41 x43) fun x44=>RK (bin Q .add 3 x44 (.int .i64 1)) fun x45=>Lp (fL Q O s rbuiltL 245 1) [a0,a2,a6,a7,a8,x45] h41 n39 [(2,fun v48 h46 n47=>RK (bin Q .add 3 (nv v48 4) (.int .i64 1)) fun x58=>N [(nv v48 0),(nv v48 1),(nv v48 2),(nv v48 3),x58] h46 n47)] (fun _ _ _=>False)) (e0 [a0,a2,a6,a7,a8] h nx)
def rbuilt (s:Bool) (t0 t1 t2:Value) (h:Hp) (nx:Nat) (K:KC'):Prop:=AR (.ok (.ptr (.cells [(.int .i64 0),(.int .i64 0),(.slice none 0 0),(.slice none 0 0),(.slice none 0 0)] false))) h nx fun p1 h2 n3=>Cv Q O s 153 [t0,t1] h2 n3 fun x4 h5 n6=>AR (.ok (.ptr (.cells [(.int .i64 0),(.int .i64 0),(.slice none 0 0),(.slice none 0 0),(.slice none 0 0)] false))) h5 n6 fun p7 h8 n9=>RK (vSt h8 5 p7 x4) fun h10=>Lp (fL Q O s rbuiltL 245 0) [t0,t2,p1,p7,(.int .i64 0)] h10 n9 [(0,fun v13 h11 n12=>RK (vLd (some 5) h11 (nv v13 3)) fun x59=>RK (vSt h11 5 (nv v13 2) x59) fun h60=>RK (vLd (some 5) h60 (nv v13 2)) fun x61=>K x61 h60 n12)] (fun _ _ _=>False)
theorem rbuiltb1 {s:Bool} {a0 a2 a6 a7 a8 a9:Value} {h:Hp} {nx:Nat} {N e2 R:KVl}:fL Q O s rbuiltL 245 1 [a0,a2,a6,a7,a8,a9] h nx N [(2,e2)] R=rbuiltl1 s a0 a2 a6 a7 a8 a9 h nx N e2 R:=by kernel_rfl
theorem rbuiltb0 {s:Bool} {a0 a2 a6 a7 a8:Value} {h:Hp} {nx:Nat} {N e0 R:KVl}:fL Q O s rbuiltL 245 0 [a0,a2,a6,a7,a8] h nx N [(0,e0)] R=rbuiltl0 s a0 a2 a6 a7 a8 h nx N e0 R:=by kernel_rfl
theorem rbuilte {s:Bool} {t0 t1 t2:Value} {h:Hp} {nx:Nat} {K:KC'}:fF Q O s rbuiltL 245 [t0,t1,t2] h nx K=rbuilt s t0 t1 t2 h nx K:=by kernel_rfl
theorem rbuiltv {s:Bool} {t0 t1 t2:Value} {h:Hp} {nx:Nat} {K:KC'} (w:rbuilt s t0 t1 t2 h nx K):Cv Q O s 245 [t0,t1,t2] h nx K:=Cv.byF rbuiltL rfl (by rw [rbuilte]; exact w)
def remptyL:List (List Nat):=[]
def rempty (s:Bool) (t0 t1:Value) (h:Hp) (nx:Nat) (K:KC'):Prop:=AR (.ok (.ptr (.cells [(.int .i64 0),(.int .i64 0),(.slice none 0 0),(.slice none 0 0),(.slice none 0 0)] false))) h nx fun p1 h2 n3=>RK (bin Q .add 3 t0 (.int .i64 1)) fun x4=>AR (vMks [(.int .i64 0)] x4 x4) h2 n3 fun p5 h6 n7=>RK (vBld [(.int .i64 0),(.int .i64 0),(.slice none 0 0),(.slice none 0 0),(.slice none 0 0)] [(0,1,t0),(1,1,t1),(2,1,p5)]) fun x8=>RK (vSt h6 5 p1 x8) fun h9=>RK (vLd (some 5) h9 p1) fun x10=>K x10 h9 n7
theorem remptye {s:Bool} {t0 t1:Value} {h:Hp} {nx:Nat} {K:KC'}:fF Q O s remptyL 153 [t0,t1] h nx K=rempty s t0 t1 h nx K:=by kernel_rfl
theorem remptyv {s:Bool} {t0 t1:Value} {h:Hp} {nx:Nat} {K:KC'} (w:rempty s t0 t1 h nx K):Cv Q O s 153 [t0,t1] h nx K:=Cv.byF remptyL rfl (by rw [remptye]; exact w)
theorem rd3 {es:List Edg3} {i:Nat} {e:Edg3} (he:es[i]? = some e):loadC (some 3) (i*3) (flat enc3 es) = .ok (.agg ⟨[.int .i64 e.1,.int .i64 e.2.1,.int .i64 e.2.2]⟩):=by
 have hg:=flat_get (enc:=enc3) (k:=3) (fun _=>rfl) he
 have hi:=(List.getElem?_eq_some_iff.1 he).1
 rw [loadC_many,if_pos (by rw [flat_len (k:=3) (fun _=>rfl)]; omega),hg]
 rfl
theorem EK_appS {α:Type} {enc:α→List Value} {k:Nat} (hk:∀ x,(enc x).length=k) (hcell:∀ x,cellL (enc x)=true) (hk0:0<k) {h:Hp} {nx lo:Nat} {v:Value} {l:List α} (hv:SlAt h v enc k l lo nx) (hlo:lo≤nx)
  {b2 o2 cap2:Nat} {sp2:Option Nat} {cs:List Value} {ro:Bool} (x:α) (h2:hget h b2=some (.cells cs ro)) (hx:(cs.drop o2).take k=enc x) (hsz:(l.length+1)*k≤1000000) {K:Value→Hp→Nat→Prop}
  (hK:∀ v' h',SlAt h' v' enc k (l++[x]) lo (nx+1)→(∀ b,b<lo→hget h' b=hget h b)→K v' h' (nx+1)):EK (orR (appendA k h nx v (.slice (some ⟨b2,o2,sp2⟩) 1 cap2))) K:=by
 obtain ⟨v',h',e,a,b⟩:=app_cv hk hcell hk0 hv hlo h2 hx hsz
 rw [e]; exact hK _ _ a b
def SlPx {α:Type} (h:Hp) (nx:Nat) (v:Value) (enc:α→List Value) (l:List α):Prop :=
 ∃ a cap,v = .slice a l.length cap∧(l≠[]→∃ b sp ro cs,b<nx∧a=some ⟨b,0,sp⟩∧hget h b=some (.cells (flat enc l++cs) ro))
section
variable {α:Type} {h h':Hp} {nx nx':Nat} {v:Value} {enc:α→List Value} {l:List α}
theorem SlPx.keep (hs:SlPx h nx v enc l) (hk:Keep nx h h') (hle:nx≤nx'):SlPx h' nx' v enc l:=by
 obtain ⟨a,cap,hv,hc⟩:=hs
 refine ⟨a,cap,hv,fun hl=>?_⟩
 obtain ⟨b,sp,ro,cs,hb,ha,hg⟩:=hc hl
 exact ⟨b,sp,ro,cs,by omega,ha,by rw [hk b hb]; exact hg⟩
theorem SlPx.of (hs:SlRd h nx v enc l):SlPx h nx v enc l:=by
 obtain ⟨a,cap,hv,hc⟩:=hs
 refine ⟨a,cap,hv,fun hl=>?_⟩
 obtain ⟨b,sp,ro,hb,ha,hg⟩:=hc hl
 exact ⟨b,sp,ro,[],hb,ha,by rw [List.append_nil]; exact hg⟩
theorem SlPx.at (hs:SlPx h nx v enc l) {i:Nat} {x:α} (hx:l[i]? = some x) :
  i<l.length∧∃ b sp ro cap cs,b<nx∧v = .slice (some ⟨b,0,sp⟩) l.length cap∧hget h b=some (.cells (flat enc l++cs) ro):=by
 have hi:=(List.getElem?_eq_some_iff.1 hx).1
 obtain ⟨a,cap,hv,hc⟩:=hs
 obtain ⟨b,sp,ro,cs,hb,rfl,hg⟩:=hc (fun e=>by rw [e] at hi; exact absurd hi (Nat.not_lt_zero _))
 exact ⟨hi,b,sp,ro,cap,cs,hb,hv,hg⟩
theorem rdP {k:Nat} (hk:∀ x,(enc x).length=k) {i:Nat} {e:α} (he:l[i]? = some e) {cs:List Value}:loadC (some k) (i*k) (flat enc l++cs) = .ok (.agg ⟨enc e⟩):=by
 have hg:=flat_get (enc:=enc) hk he
 have hi:=(List.getElem?_eq_some_iff.1 he).1
 have hl:=flat_len (enc:=enc) hk (l:=l)
 have hm:(i+1)*k≤l.length*k:=Nat.mul_le_mul_right k hi
 rw [Nat.add_mul,Nat.one_mul] at hm
 rw [loadC_many,if_pos (by rw [List.length_append,hl]; omega),List.drop_append_of_le_length (by rw [hl]; omega),List.take_append_of_le_length (by rw [List.length_drop,hl]; omega),hg]
theorem cellP {k j:Nat} (hk:∀ x,(enc x).length=k) {i:Nat} {e:α} (he:l[i]? = some e) (hj:j<k) {cs:List Value}:(flat enc l++cs)[i*k+j]? = (enc e)[j]?:=by
 have hi:=(List.getElem?_eq_some_iff.1 he).1
 have hl:=flat_len (enc:=enc) hk (l:=l)
 have hm:(i+1)*k≤l.length*k:=Nat.mul_le_mul_right k hi
 rw [Nat.add_mul,Nat.one_mul] at hm
 rw [List.getElem?_append_left (by omega),flat_cell hk he hj]
end
def BadE (n:Int) (e:Edg3):Prop:=e.1<0∨n≤e.1∨e.2.1<0∨n≤e.2.1
def BadW (e:Edg3):Prop:=e.2.2<0∨2147483647<e.2.2
instance (n:Int) (e:Edg3):Decidable (BadE n e):=inferInstanceAs (Decidable (_∨_))
instance (e:Edg3):Decidable (BadW e):=inferInstanceAs (Decidable (_∨_))
def RightV (n:Int) (es:List Edg3):Prop:=0≤n∧n≤4096∧es.length≤65536∧(∀ e∈es,¬ BadE n e)∧∀ e∈es,¬ BadW e
def IdxJ {α:Type} (p:α→Bool) (es:List α) (J:Hp→Nat→Prop) (v fv:Value) (m:Nat) (vs:List Value) (h':Hp) (nx':Nat):Prop:=∃ i,m=es.length-i∧i≤es.length∧vs=[v,fv,.int .i64 0,.int .i64 (es.length:Int),.int .i64 (i:Int)]∧J h' nx'∧∀ x∈es.take i,p x=false
theorem index_c {α:Type} {enc:α→List Value} (hk3:∀ x,(enc x).length=3) {s:Bool} {v fv:Value} {es:List α} {h:Hp} {nx:Nat} (p:α→Bool) (J:Hp→Nat→Prop) (hJ:∀ h' nx',J h' nx'→SlPx h' nx' v enc es) (h0:J h nx) (hl:es.length≤65536)
  (hf:∀ g∈es,∀ h' nx' (K:KC'),J h' nx'→(∀ (b:Bool) h2 nx2,b=p g→J h2 nx2→K (.bool b) h2 nx2)→CVK Q O s (callV h' nx' [.agg ⟨enc g⟩] fv) K) :
  Cv Q O s 275 [v,fv] h nx (fun r h' nx'=>J h' nx'∧((r = .int .i64 (-1)∧∀ x∈es,p x=false)∨∃ (i:Nat) (x:α),r = .int .i64 (i:Int)∧es[i]? = some x∧p x=true∧∀ y∈es.take i,p y=false)):=by
 refine indexv ?_
 unfold index
 obtain ⟨a,cap,rfl,hc⟩:=id (hJ _ _ h0)
 simp (disch:=omega) only [SS,seval]
 refine Lp.mk (IdxJ p es J (.slice a es.length cap) fv) es.length ⟨0,by omega,by omega,rfl,h0,by simp⟩ ?_
 rintro m _ h' nx' ⟨i,rfl,hi,rfl,hj,hno⟩
 rw [indexb0]
 unfold indexl0
 simp (disch:=omega) only [SS,seval]
 refine ⟨fun h1=>?_,fun h1=>?_⟩
 ·obtain ⟨x,hx⟩:=get_ex h1
  obtain ⟨_,b,sp,ro,cap',cs,hbn,hveq,hbh⟩:=(hJ _ _ hj).at hx
  cases hveq
  simp (disch:=omega) only [SS,hbh,rdP (enc:=enc) (k:=3) hk3 hx,seval]
  refine hf x (List.mem_of_getElem? hx) h' nx' _ hj (fun b' h2 nx2 hb hj2=>?_)
  subst hb
  simp (disch:=omega) only [SS,wrap_s (show i<1000000000000 by omega),seval]
  refine ⟨fun hp=>⟨hj2,.inr ⟨i,x,rfl,hx,hp,hno⟩⟩,fun hp=>⟨es.length-(i+1),by omega,i+1,rfl,h1,rfl,hj2,fun y hy=>?_⟩⟩
  rw [List.take_add_one,hx] at hy
  rcases List.mem_append.1 hy with hy | hy
  ·exact hno y hy
  ·have:y=x:=by simpa using hy
   rw [this]; exact hp
 ·have:i=es.length:=by omega
  subst this
  rw [List.take_length] at hno
  exact ⟨hj,.inl hno⟩
theorem conts_c {s:Bool} {v fv:Value} {es:List Edg3} {h:Hp} {nx:Nat} (p:Edg3→Bool) (hv:SlPx h nx v enc3 es) (hl:es.length≤65536)
  (hf:∀ g∈es,∀ h' nx' (K:KC'),Keep nx h h'→nx≤nx'→(∀ (b:Bool) h2 nx2,b=p g→Keep nx' h' h2→nx'≤nx2→K (.bool b) h2 nx2)→CVK Q O s (callV h' nx' [.agg ⟨enc3 g⟩] fv) K) :
  Cv Q O s 193 [v,fv] h nx (fun r h' nx'=>r = .bool (es.any p)∧Keep nx h h'∧nx≤nx'):=by
 refine contsv ?_
 unfold conts
 refine (index_c (enc:=enc3) (fun _=>rfl) p (fun h' nx'=>Keep nx h h'∧nx≤nx') (fun h' nx' hh=>hv.keep hh.1 hh.2) ⟨Keep.refl _ _,Nat.le_refl _⟩ hl (fun g hg h' nx' K hj hK=>hf g hg h' nx' K hj.1 hj.2 (fun b h2 nx2 hb hk2 hle2=>hK b h2 nx2 hb ⟨hj.1.trans hk2 hj.2,Nat.le_trans hj.2 hle2⟩))).mono ?_
 rintro r h' nx' ⟨⟨hk,hle⟩,⟨rfl,hno⟩ | ⟨i,x,rfl,hx,hp,_⟩⟩
 ·simp (disch:=omega) only [SS,seval]
  exact ⟨by rw [List.any_eq_false.2 (fun x hx=>by simp [hno x hx])]; rfl,hk,hle⟩
 ·simp (disch:=omega) only [SS,seval]
  exact ⟨by rw [List.any_eq_true.2 ⟨x,List.mem_of_getElem? hx,hp⟩]; simp,hk,hle⟩
def badE (n:Int) (e:Edg3):Bool:=(decide (e.1<0)||!decide (e.1<n))||(decide (e.2.1<0)||!decide (e.2.1<n))
theorem badE_iff {n:Int} {e:Edg3}:badE n e=true↔BadE n e:=by
 unfold badE BadE
 simp only [Bool.or_eq_true,decide_eq_true_eq,Bool.not_eq_true',decide_eq_false_iff_not]
 omega
def badW (e:Edg3):Bool:=decide (e.2.2<0)||decide (2147483647<e.2.2)
theorem badW_iff {e:Edg3}:badW e=true↔BadW e:=by
 unfold badW BadW
 simp only [Bool.or_eq_true,decide_eq_true_eq]
def RriJ (p:Edg3→Prop) (n:Int) (es:List Edg3) (v w:Value) (nx:Nat) (h:Hp) (m:Nat) (vs:List Value) (h':Hp) (nx':Nat):Prop :=
 ∃ i:Nat,m=es.length-i∧i≤es.length∧vs=[.pointer (some ⟨nx,0,none⟩),w,.int .i64 (i:Int)]∧hget h' nx=some (.cells [.int .i64 n,v] false)∧Keep nx h h'∧nx+1≤nx'∧∀ x∈es.take i,¬ p x
theorem take_no {p:Edg3→Prop} {es:List Edg3} {i:Nat} {x:Edg3} (hx:es[i]? = some x) (h:∀ y∈es.take i,¬ p y) (hp:¬ p x):∀ y∈es.take (i+1),¬ p y:=fun y hy=>by
 rw [List.take_add_one,hx] at hy
 rcases List.mem_append.1 hy with hy | hy
 ·exact h y hy
 ·have:y=x:=by simpa using hy
  rw [this]; exact hp
def toG (e:Edg3):GE:=⟨e.1.toNat,e.2.1.toNat,e.2.2⟩
theorem RightV.ges {n:Int} {es:List Edg3} (h:RightV n es):∃ N:Nat,n=(N:Int)∧N≤4096∧flat enc3 es=flat encG (es.map toG)∧∀ g∈es.map toG,GOk N g:=by
 obtain ⟨h1,h2,h3,h4,h5⟩:=h
 refine ⟨n.toNat,by omega,by omega,?_,fun g hg=>?_⟩
 ·have:∀ l:List Edg3,(∀ e∈l,¬ BadE n e)→flat enc3 l=flat encG (l.map toG):=by
   intro l
   induction l with
   | nil=>intro _; rfl
   | cons x l ih =>
    intro hl
    show enc3 x++flat enc3 l=encG (toG x)++flat encG (l.map toG)
    have hx:=hl x (List.mem_cons_self ..)
    unfold BadE at hx
    rw [ih (fun e he=>hl e (List.mem_cons_of_mem _ he))]
    congr 1
    unfold enc3 encG toG
    simp only
    rw [Int.toNat_of_nonneg (by omega),Int.toNat_of_nonneg (by omega)]
  exact this es h4
 ·obtain ⟨e,he,rfl⟩:=List.mem_map.1 hg
  have h6:=h4 e he
  have h7:=h5 e he
  unfold BadE at h6
  unfold BadW at h7
  refine ⟨?_,?_,?_,?_⟩
  ·show e.1.toNat<n.toNat; omega
  ·show e.2.1.toNat<n.toNat; omega
  ·show 0≤e.2.2; omega
  ·show e.2.2≤2147483647; omega
theorem SlPx.map {h:Hp} {nx:Nat} {v:Value} {es:List Edg3} (hs:SlPx h nx v enc3 es) (e:flat enc3 es=flat encG (es.map toG)):SlPx h nx v encG (es.map toG):=by
 obtain ⟨a,cap,hv,hc⟩:=hs
 refine ⟨a,cap,by rw [List.length_map]; exact hv,fun hl=>?_⟩
 obtain ⟨b,sp,ro,cs,hb,ha,hg⟩:=hc (fun h0=>hl (by rw [h0]; rfl))
 exact ⟨b,sp,ro,cs,hb,ha,by rw [← e]; exact hg⟩
def zG:GE:=⟨0,0,0⟩
theorem wrG {h:Hp} {b i:Nat} {m:List GE} {x:GE} (hi:i<m.length):wrO (some (.cells (flat encG m) false)) h b (i*3) [.int .i64 (x.f:Int),.int .i64 (x.t:Int),.int .i64 x.w] = .ok (hset h b (.cells (flat encG (m.set i x)) false)):=by
 show R.of _ (lput (encG x) (flat encG m) (i*3)) _=_
 rw [flat_put (k:=3) (fun _=>rfl) x hi]
 rfl
theorem rdF {α:Type} {enc:α→List Value} {l:List α} {k:Nat} (hk:∀ x,(enc x).length=k) {i:Nat} {e:α} (he:l[i]? = some e):loadC (some k) (i*k) (flat enc l) = .ok (.agg ⟨enc e⟩):=by
 have:=rdP hk he (cs:=[])
 rwa [List.append_nil] at this
theorem combine_o {gs:List GE} {N:Nat} {s:Bool} {h:Hp} {nx:Nat} {v:Value} (hv:SlPx h nx v encG gs) (hN:N≤2147483648) (hok:∀ g∈gs,GOk N g) (hl:gs.length≤120) :
  Cv Q O s 307 [.int .i64 1,v] h nx (fun r h' nx'=>∃ v2 cs,r = .tuple ⟨[v2,.int .i64 0]⟩∧SlAt h' v2 encG 3 cs nx nx'∧CanOf N gs cs∧Keep nx h h'∧nx≤nx'):=by
 obtain ⟨a,cap,rfl,hc⟩:=id hv
 have hcan:=canOf N gs hN hok
 by_cases h0:gs=[]
 ·subst h0
  have e:gCombF [.int .i64 1,.slice a 0 cap] h nx = .ok (.tuple ⟨[.slice none 0 0,.int .i64 0]⟩) h nx:=by
   cases a <;> rfl
  exact Cv.byOrc (g:=gCombF) rfl e ⟨_,[],rfl,.inl ⟨rfl,rfl⟩,hcan,Keep.refl _ _,Nat.le_refl _⟩
 ·obtain ⟨b,sp,ro,cx,hb,rfl,hg⟩:=hc h0
  have hlen:gs.length≠0:=fun e=>h0 (List.eq_nil_of_length_eq_zero e)
  have hsm:∀ x∈gs.map gE,Small x:=fun x hx=>by
   obtain ⟨g,hg,rfl⟩:=List.mem_map.1 hx
   exact small_gE hN (hok g hg)
  rw [flat_gE] at hg
  have hfl:(flat encE (gs.map gE)).length=gs.length*3:=by rw [flat_len (k:=3) (fun _=>rfl),List.length_map]
  generalize hL:sortB ltE (combG [] (gs.map gE))=L at hcan
  have hgl:gCombF [.int .i64 1,.slice (some ⟨b,0,sp⟩) gs.length cap] h nx=combResF h nx L:=by
   obtain ⟨m,hm⟩:∃ m,gs.length=m+1:=⟨gs.length-1,by omega⟩
   have e2:lcut (gs.length*3) (ldrop (flat encE (gs.map gE)++cx) 0)=some (flat encE (gs.map gE)):=by
    rw [ldrop_eq,List.drop_zero,lcut_eq,if_pos (by rw [List.length_append,hfl]; exact Nat.le_add_right _ _),← hfl,List.take_left]
   rw [hm] at e2 ⊢
   show (match hget h b with
    | some (.cells cs _)=>(match lcut ((m+1)*3) (ldrop cs 0) with
     | some l=>(match edgesB l with
      | some es=>bif Nat.ble es.length 120 then combResF h nx (sortB ltE (combG [] es)) else .no "Combine"
      | none=>.no "Combine")
     | none=>.no "Combine")
    | _=>.no "Combine")=_
   rw [hg]
   simp only [e2,edgesB_flat hsm,List.length_map,hL]
   rw [show Nat.ble gs.length 120=true by simpa using hl]
   rfl
  have hLn:L≠[]:=fun e=>by
   have:=(sortB_perm (lt:=ltE) (combG [] (gs.map gE))).length_eq
   rw [hL,e] at this
   have e1:=(combG_ends (gs.map gE) []).2
   obtain ⟨g,l,rfl⟩:∃ g l,gs=g::l:=by cases gs with | nil=>exact absurd rfl h0 | cons g l=>exact ⟨g,l,rfl⟩
   obtain ⟨x,hx,_⟩:=e1 (gE g) (by simp)
   have:combG [] ((g::l).map gE)=[]:=List.eq_nil_of_length_eq_zero this.symm
   rw [this] at hx; cases hx
  have hso:sortedB ltE L=true:=by rw [← hL]; exact sortB_sorted _
  have e3:combResF h nx L = .ok (.tuple ⟨[.slice (some ⟨nx,0,some 3⟩) L.length L.length,.int .i64 0]⟩) (hset h nx (.cells (flat encE L) false)) (nx+1):=by
   cases L with
   | nil=>exact absurd rfl hLn
   | cons x l=>show (bif sortedB ltE (x::l) then _ else _)=_; rw [hso]; rfl
  refine Cv.byOrc (g:=gCombF) rfl (hgl.trans e3) ⟨_,L.map eG,rfl,.inr ⟨nx,Nat.le_refl _,Nat.lt_succ_self _,by rw [List.length_map],?_⟩,hcan,fun c hc=>hold (by omega),Nat.le_succ _⟩
  rw [hnew,flat_gE,hcan.eq,hL]
def CanK (N:Nat) (gs:List GE) (nx:Nat) (h:Hp):KC':=fun r h' nx'=>∃ v2 cs,r = .agg ⟨[.int .i64 (N:Int),v2]⟩∧SlAt h' v2 encG 3 cs nx nx'∧IsCan (gs.map gE) (cs.map gE)∧(∀ g∈cs,GOk N g)∧cs.length≤gs.length∧Keep nx h h'∧nx≤nx'
theorem canon_c {gs:List GE} {N:Nat} {s:Bool} {h:Hp} {nx:Nat} {v:Value} (hv:SlPx h nx v encG gs) (hN:N≤2147483648) (hok:∀ g∈gs,GOk N g) (hl:gs.length≤120) :
  Cv Q O s 227 [.agg ⟨[.int .i64 (N:Int),v]⟩] h nx (CanK N gs nx h):=by
 refine canonv ?_
 obtain ⟨a,cap,rfl,hc⟩:=id hv
 unfold canon
 simp (disch:=omega) only [SS,seval]
 have k0:∀ {o1 o2:AObj},Keep nx h (hset (hset h nx o1) (nx+1) o2):=fun {o1 o2} b hb=>by rw [hold (by omega),hold (by omega)]
 refine (combine_o (hv.keep k0 (by omega)) hN hok hl).mono ?_
 rintro r h1 nx1 ⟨v2,cs,rfl,hcs,hcan,hk,hle⟩
 have g1:=(hk nx (by omega)).trans (hold (by omega))
 have g2:=hk (nx+1) (by omega)
 rw [hnew] at g1 g2
 obtain ⟨a2,n2,cap2,rfl⟩:=hcs.form
 simp (disch:=omega) only [SS,g1,g2,seval]
 have hi:IsCan (gs.map gE) (cs.map gE):=by rw [hcan.eq]; exact isCan_sort _
 refine ⟨_,cs,rfl,?_,hi,hcan.ok,hcan.len,(k0.trans hk (by omega)).set (by omega),by omega⟩
 rcases hcs with hcs | ⟨b,h1,h2,e,hb⟩
 ·exact .inl hcs
 ·exact .inr ⟨b,by omega,h2,e,by rw [hold (by omega)]; exact hb⟩
theorem wide_eql {a b:Nat} (ha:a<4294967296) (hb:b<4294967296):∃ c,bin Tryz.prog .eql 251 (.agg ⟨wideL a⟩) (.agg ⟨wideL b⟩) = .ok (.bool c):=by
 have f1:∀ n,(Value.agg ⟨wideL n⟩).formed Tryz.prog 251=true:=fun n=>by
  simp [Value.formed,u112,c112,wideL]
 have:bin Tryz.prog .eql 251 (.agg ⟨wideL a⟩) (.agg ⟨wideL b⟩)=R.of "compared" (bif noGuard Tryz.prog 251 then eqK Tryz.prog 251 (.agg ⟨wideL a⟩) (.agg ⟨wideL b⟩) else none) (fun b=>rBool b):=rfl
 rw [this]
 unfold eqK
 rw [ng112,k112,f1,f1]
 exact ⟨litsEq [.int .i64 0,.int .u64 (a:Int)] [.int .i64 0,.int .u64 (b:Int)],by
  show R.of "compared" (bif true&&(true&&true&&true&&true) then eqL (Tryz.prog.keyLits 8 251 (wideL a)) (Tryz.prog.keyLits 8 251 (wideL b)) else none) (fun b=>rBool b)=_
  rw [lits112 ha,lits112 hb]; rfl⟩
def StK (r:Value) (nx:Nat) (h:Hp):KC':=fun v h' nx'=>v=r∧Keep nx h h'∧nx≤nx'
theorem ris_c {s:Bool} {h:Hp} {nx:Nat}:Cv Q O s 379 [.int .i64 1] h nx (fun v h' nx'=>v = .bool true∧h'=h∧nx'=nx):=by
 refine risv ?_
 unfold ris
 simp (disch:=omega) only [SS,seval]
 simp
def ltG (x y:GE):Bool:=decide (x.f<y.f)||(decide (x.f=y.f)&&decide (x.t<y.t))
theorem below_c {s:Bool} {x y:GE} {h:Hp} {nx:Nat}:Cv Q O s 380 [.agg ⟨encG x⟩,.agg ⟨encG y⟩] h nx (StK (.bool (ltG x y)) nx h):=by
 refine belowv ?_
 have K1:∀ {o o'},Keep nx h (hset (hset h nx o) (nx+1) o'):=((Keep.refl _ _).set (Nat.le_refl _)).set (Nat.le_succ _)
 unfold below encG
 simp (disch:=omega) only [SS,seval]
 refine ⟨fun h1=>⟨?_,K1,by omega⟩,fun h1=>⟨fun h2=>⟨?_,K1,by omega⟩,fun h2=>⟨?_,K1,by omega⟩⟩⟩
 ·unfold ltG; simp; omega
 ·have h3:x.f=y.f:=by
   have h4:(x.f:Int)=y.f:=by simpa using h2
   omega
  unfold ltG
  simp [h3]
 ·have h3:¬ x.f=y.f:=fun e=>by rw [e] at h2; simp at h2
  unfold ltG
  simp [h3]; omega
theorem rof_c {s:Bool} {w:Nat} {h:Hp} {nx:Nat} (hw:w<4294967296):Cv Q O s 381 [.int .i64 (w:Int)] h nx (StK (.agg ⟨wideL w⟩) nx h):=by
 refine rofv ?_
 have K1:∀ {o o'},Keep nx h (hset (hset h nx o) nx o'):=((Keep.refl _ _).set (Nat.le_refl _)).set (Nat.le_refl _)
 have e1:IntKind.wrap .u64 (w:Int)=(w:Int):=by
  simp only [IntKind.wrap,IntKind.signed,IntKind.bits]
  simp; omega
 unfold rof
 simp (disch:=omega) only [SS,e1,seval]
 refine ⟨fun h1=>absurd h1 (by omega),fun _=>⟨rfl,K1,by omega⟩⟩
theorem rcmp_c {s:Bool} {a b:Nat} {h:Hp} {nx:Nat} (ha:a<4294967296) (hb:b<4294967296):Cv Q O s 427 [.agg ⟨wideL a⟩,.agg ⟨wideL b⟩] h nx (fun v h' nx'=>∃ c:Int,v = .int .i64 c∧(c<0↔a<b)∧Keep nx h h'∧nx≤nx'):=by
 refine rcmpv ?_
 have K1:∀ {o o'},Keep nx h (hset (hset h nx o) (nx+1) o'):=((Keep.refl _ _).set (Nat.le_refl _)).set (Nat.le_succ _)
 unfold rcmp wideL rcmpk0
 simp (disch:=omega) only [SS,beq_self_eq_true,seval]
 obtain ⟨c,hc⟩:=wide_eql ha hb
 unfold wideL at hc
 by_cases h1:a<b
 ·simp (disch:=omega) only [SS,h1,decide_true,seval]
  exact fun _=>⟨⟨_,rfl,by simp,K1,by omega⟩,fun h=>absurd trivial h⟩
 ·simp (disch:=omega) only [SS,h1,decide_false,hc,seval]
  exact fun _ _=>⟨fun _=>⟨_,rfl,by simp,K1,by omega⟩,fun _=>⟨_,rfl,by simp,K1,by omega⟩⟩
theorem radd_c {s:Bool} {a b:Nat} {h:Hp} {nx:Nat} (ha:a<4294967296) (hb:b<4294967296):Cv Q O s 382 [.int .i64 1,.agg ⟨wideL a⟩,.agg ⟨wideL b⟩] h nx (StK (.agg ⟨wideL (min a b)⟩) nx h):=by
 refine raddv ?_
 have K1:∀ {o o' o''},Keep nx h (hset (hset (hset h nx o) (nx+1) o') (nx+1+1) o''):=(((Keep.refl _ _).set (Nat.le_refl _)).set (Nat.le_succ _)).set (by omega)
 unfold radd wideL raddk0
 simp (disch:=omega) only [SS,beq_self_eq_true,seval]
 refine (rcmp_c (a:=b) (b:=a) hb ha).mono ?_
 rintro r h1 nx1 ⟨c,rfl,hc,hk,hle⟩
 have g0:=hk nx (by omega)
 have g1:=hk (nx+1) (by omega)
 have g2:=hk (nx+1+1) (by omega)
 rw [hold (by omega),hold (by omega),hnew] at g0
 rw [hold (by omega),hnew] at g1
 rw [hnew] at g2
 simp (disch:=omega) only [SS,g0,g1,g2,seval]
 refine ⟨fun h1=>⟨?_,(K1.trans hk (by omega)).set (by omega),by omega⟩,fun h1=>⟨?_,(K1.trans hk (by omega)).set (by omega),by omega⟩⟩
 ·rw [Nat.min_eq_right (by omega)]
 ·rw [Nat.min_eq_left (by omega)]
theorem rnarrow_c {s:Bool} {w:Nat} {h:Hp} {nx:Nat} (hw:w<4294967296):Cv Q O s 383 [.agg ⟨wideL w⟩] h nx (StK (.tuple ⟨[.int .i64 (w:Int),.bool true]⟩) nx h):=by
 refine rnarrowv ?_
 have K1:∀ {o},Keep nx h (hset h nx o):=(Keep.refl _ _).set (Nat.le_refl _)
 have e1:IntKind.wrap .i64 (w:Int)=(w:Int):=wrapS (by omega) (by omega)
 unfold rnarrow wideL rnarrowk0
 simp (disch:=omega) only [SS,e1,beq_self_eq_true,seval]
 refine ⟨fun h1=>⟨rfl,K1,by omega⟩,fun h1=>absurd h1 (by omega)⟩
structure Shf {α:Type} (o X:List α) (k:Nat):Prop where
 len:X.length=o.length+1
 lo:∀ q,q<k→X[q]? = o[q]?
 hi:∀ q,k<q→q≤o.length→X[q]? = o[q-1]?
theorem Shf.init {α:Type} (o:List α) (z:α):Shf o (o++[z]) o.length :=
 ⟨by simp,fun q hq=>List.getElem?_append_left hq,fun q h1 h2=>absurd h1 (by omega)⟩
theorem Shf.step {α:Type} {o X:List α} {k:Nat} {x:α} (h:Shf o X (k+1)) (hk:k+1≤o.length) (hx:X[k]? = some x):Shf o (X.set (k+1) x) k:=by
 refine ⟨by rw [List.length_set]; exact h.len,fun q hq=>?_,fun q h1 h2=>?_⟩
 ·rw [List.getElem?_set,if_neg (by omega)]; exact h.lo q (by omega)
 ·rw [List.getElem?_set]
  by_cases e:k+1=q
  ·subst e
   rw [if_pos rfl,if_pos (by rw [h.len]; omega),Nat.add_sub_cancel,← h.lo k (by omega),hx]
  ·rw [if_neg e]; exact h.hi q (by omega) h2
theorem Shf.fin {α:Type} {o X:List α} {k:Nat} (h:Shf o X k) (hk:k≤o.length) (x:α):X.set k x=o.take k++x::o.drop k:=by
 apply List.ext_getElem?
 intro q
 rw [List.getElem?_set]
 by_cases e:k=q
 ·subst e
  rw [if_pos rfl,if_pos (by rw [h.len]; omega),List.getElem?_append_right (by rw [List.length_take]; omega),List.length_take]
  rw [show k-min k o.length=0 by omega]; rfl
 ·rw [if_neg e]
  by_cases h1:q<k
  ·rw [h.lo q h1,List.getElem?_append_left (by rw [List.length_take]; omega),List.getElem?_take,if_pos h1]
  ·rw [List.getElem?_append_right (by rw [List.length_take]; omega),List.length_take,show q-min k o.length=(q-k-1)+1 by omega,List.getElem?_cons_succ,List.getElem?_drop]
   by_cases h2:q≤o.length
   ·rw [h.hi q (by omega) h2]; congr 1; omega
   ·rw [List.getElem?_eq_none (by rw [h.len]; omega),List.getElem?_eq_none (by omega)]
theorem ltG_iff {x y:GE}:ltG x y=true↔Ltp (gE x) (gE y):=by
 unfold ltG Ltp gE
 simp only [Bool.or_eq_true,Bool.and_eq_true,decide_eq_true_eq]
 omega
theorem Ltp.tr {x y z:Edg} (h:Ltp x y) (h':Ltp y z):Ltp x z:=by unfold Ltp at *; omega
theorem ends_of {x y:GE} (h:ltG x y=false) (h':ltG y x=false):Ends (gE x) (gE y):=by
 have h1:¬ Ltp (gE x) (gE y):=fun e=>by rw [ltG_iff.2 e] at h; cases h
 have h2:¬ Ltp (gE y) (gE x):=fun e=>by rw [ltG_iff.2 e] at h'; cases h'
 unfold Ltp at h1 h2
 unfold Ends
 omega
structure At (B:List GE) (e:GE) (k:Nat):Prop where
 le:k≤B.length
 lo:∀ q x,q<k→B[q]? = some x→ltG x e=true
theorem up_get {B:List GE} (h:(B.map gE).Pairwise Ltp) {i j:Nat} {x y:GE} (hij:i<j) (hx:B[i]? = some x) (hy:B[j]? = some y):Ltp (gE x) (gE y):=by
 have hi:=(List.getElem?_eq_some_iff.1 hx)
 have hj:=(List.getElem?_eq_some_iff.1 hy)
 obtain ⟨hi,rfl⟩:=hi
 obtain ⟨hj,rfl⟩:=hj
 have:=List.pairwise_iff_getElem.1 h i j (by simpa using hi) (by simpa using hj) hij
 simpa using this
theorem ins_can {A:List Edg} {B:List GE} {e:GE} {k:Nat} (h:IsCan A (B.map gE)) (ha:At B e k) (hn:∀ x,B[k]? = some x→ltG e x=true):IsCan (A++[gE e]) ((B.take k++e::B.drop k).map gE):=by
 have hpre:∀ x∈B.take k,Ltp (gE x) (gE e):=fun x hx=>by
  obtain ⟨q,hq⟩:=List.getElem?_of_mem hx
  rw [List.getElem?_take] at hq
  split at hq
  ·rename_i hqk; exact ltG_iff.1 (ha.lo q x hqk hq)
  ·cases hq
 have hpost:∀ x∈B.drop k,Ltp (gE e) (gE x):=fun x hx=>by
  obtain ⟨q,hq⟩:=List.getElem?_of_mem hx
  rw [List.getElem?_drop] at hq
  by_cases h0:q=0
  ·subst h0; exact ltG_iff.1 (hn x hq)
  ·obtain ⟨y,hy⟩:=get_ex (l:=B) (i:=k) (by have:=(List.getElem?_eq_some_iff.1 hq).1; omega)
   exact (ltG_iff.1 (hn y hy)).tr (up_get h.up (by omega) hy hq)
 have hmem:∀ x:Edg,x∈(B.take k++e::B.drop k).map gE↔x∈B.map gE∨x=gE e:=fun x=>by
  conv=>rhs; rw [← List.take_append_drop k B]
  rw [List.map_append,List.map_cons,List.map_append,List.mem_append,List.mem_append,List.mem_cons]
  exact ⟨fun h=>h.elim (fun h=>.inl (.inl h)) (fun h=>h.elim .inr (fun h=>.inl (.inr h))),fun h=>h.elim (fun h=>h.elim .inl (fun h=>.inr (.inr h))) (fun h=>.inr (.inl h))⟩
 refine ⟨?_,h.rep.step2 (fun z hz he=>?_) hmem⟩
 ·rw [List.map_append,List.map_cons,List.pairwise_append]
  have hup:=h.up
  rw [← List.take_append_drop k B,List.map_append,List.pairwise_append] at hup
  refine ⟨hup.1,List.Pairwise.cons (fun y hy=>?_) hup.2.1,fun x hx y hy=>?_⟩
  ·obtain ⟨z,hz,rfl⟩:=List.mem_map.1 hy
   exact hpost z hz
  ·rcases List.mem_cons.1 hy with rfl | hy
   ·obtain ⟨z,hz,rfl⟩:=List.mem_map.1 hx
    exact hpre z hz
   ·exact hup.2.2 x hx y hy
 ·obtain ⟨y,hy,rfl⟩:=List.mem_map.1 hz
  rw [← List.take_append_drop k B,List.mem_append] at hy
  rcases hy with hy | hy
  ·exact (hpre y hy).ne he
  ·exact (hpost y hy).ne he.symm
theorem set_can {A:List Edg} {B:List GE} {e z:GE} {k:Nat} (h:IsCan A (B.map gE)) (hz:B[k]? = some z) (he:Ends (gE z) (gE e)):IsCan (A++[gE e]) ((B.set k ⟨z.f,z.t,min z.w e.w⟩).map gE):=by
 have hk:=(List.getElem?_eq_some_iff.1 hz).1
 have hg:∀ q,(B.set k ⟨z.f,z.t,min z.w e.w⟩)[q]? = if k=q then some ⟨z.f,z.t,min z.w e.w⟩ else B[q]?:=fun q=>by
  rw [List.getElem?_set]
  by_cases e1:k=q
  ·subst e1; simp [hk]
  ·simp [e1]
 have hzm:gE ⟨z.f,z.t,min z.w e.w⟩=zmin (gE z) (gE e):=rfl
 have hsame:∀ q x,(B.set k ⟨z.f,z.t,min z.w e.w⟩)[q]? = some x→∃ y,B[q]? = some y∧(gE x).1=(gE y).1∧(gE x).2.1=(gE y).2.1:=fun q x hx=>by
  rw [hg] at hx
  split at hx
  ·rename_i e1; subst e1; cases hx; exact ⟨z,hz,rfl,rfl⟩
  ·exact ⟨x,hx,rfl,rfl⟩
 refine ⟨?_,h.rep.step1 (List.mem_map_of_mem (List.mem_of_getElem? hz)) he fun x=>?_⟩
 ·rw [List.pairwise_iff_getElem]
  intro i j hi hj hij
  rw [List.getElem_map,List.getElem_map]
  have hi':i<(B.set k ⟨z.f,z.t,min z.w e.w⟩).length:=by simpa using hi
  have hj':j<(B.set k ⟨z.f,z.t,min z.w e.w⟩).length:=by simpa using hj
  obtain ⟨y,hy,e1,e2⟩:=hsame i _ (List.getElem?_eq_getElem hi')
  obtain ⟨y',hy',e1',e2'⟩:=hsame j _ (List.getElem?_eq_getElem hj')
  have:=up_get h.up hij hy hy'
  unfold Ltp at *
  rw [e1,e2,e1',e2']; exact this
 ·constructor
  ·intro hx
   obtain ⟨y,hy,rfl⟩:=List.mem_map.1 hx
   obtain ⟨q,hq⟩:=List.getElem?_of_mem hy
   rw [hg] at hq
   split at hq
   ·cases hq; exact .inr hzm
   ·rename_i hkq
    refine .inl ⟨List.mem_map_of_mem (List.mem_of_getElem? hq),fun hye=>?_⟩
    have:=he.trans hye.symm
    rcases Nat.lt_or_ge k q with h1 | h1
    ·exact (up_get h.up h1 hz hq).ne this
    ·exact (up_get h.up (by omega) hq hz).ne this.symm
  ·rintro (⟨hx,hn⟩ | rfl)
   ·obtain ⟨y,hy,rfl⟩:=List.mem_map.1 hx
    obtain ⟨q,hq⟩:=List.getElem?_of_mem hy
    refine List.mem_map_of_mem (List.mem_of_getElem? (i:=q) ?_)
    rw [hg,if_neg,hq]
    intro e1; subst e1; rw [hz] at hq; cases hq; exact hn he
   ·rw [← hzm]
    exact List.mem_map_of_mem (List.mem_of_getElem? (i:=k) (by rw [hg,if_pos rfl]))
theorem EK_appG {α:Type} {enc:α→List Value} {k:Nat} (hk:∀ x,(enc x).length=k) (hcell:∀ x,cellL (enc x)=true) (hk0:0<k) {h:Hp} {nx:Nat} {v:Value} {l:List α} {o:Option Nat} (g:Gr h enc k v l o)
  {b2 o2 cap2:Nat} {sp2:Option Nat} {cs:List Value} {ro:Bool} (x:α) (h2:hget h b2=some (.cells cs ro)) (hx:(cs.drop o2).take k=enc x) (hsz:(l.length+1)*k≤1000000) {K:Value→Hp→Nat→Prop}
  (hK:∀ h',hget h' nx=some (.cells (flat enc (l++[x])) false)→(∀ c,c≠nx→o≠some c→hget h' c=hget h c)→K (.slice (some ⟨nx,0,some k⟩) (l.length+1) (l.length+1)) h' (nx+1)):EK (orR (appendA k h nx v (.slice (some ⟨b2,o2,sp2⟩) 1 cap2))) K:=by
 obtain ⟨h',e,a,b⟩:=g.app hk hcell hk0 h2 hx hsz
 rw [e]; exact hK _ a b
def bare (g:GE):GE:=⟨g.f,g.t,0⟩
def sums (B:List GE):List Nat:=B.map fun g=>g.w.toNat
def CO (h:Hp) (lo nx:Nat) (B:List GE) (oe os:Value):Prop :=
 (B=[]∧oe = .slice none 0 0∧os = .slice none 0 0)∨∃ be bs,(0<B.length∧be≠bs)∧lo≤be∧be<nx∧lo≤bs∧bs<nx∧oe = .slice (some ⟨be,0,some 3⟩) B.length B.length∧os = .slice (some ⟨bs,0,some 2⟩) B.length B.length ∧
  hget h be=some (.cells (flat encG (B.map bare)) false)∧hget h bs=some (.cells (flat wideL (sums B)) false)
theorem CO.keep {h h':Hp} {lo nx nx':Nat} {B:List GE} {oe os:Value} (c:CO h lo nx B oe os) (hk:∀ b,lo≤b→b<nx→hget h' b=hget h b) (hle:nx≤nx'):CO h' lo nx' B oe os:=by
 rcases c with c | ⟨be,bs,h1,h2,h3,h4,h5,h6,h7,h8,h9⟩
 ·exact .inl c
 ·exact .inr ⟨be,bs,h1,h2,by omega,h4,by omega,h6,h7,by rw [hk be h2 h3]; exact h8,by rw [hk bs h4 h5]; exact h9⟩
theorem CO.gr {h:Hp} {lo nx:Nat} {B:List GE} {oe os:Value} (c:CO h lo nx B oe os):∃ o1 o2,Gr h encG 3 oe (B.map bare) o1∧Gr h wideL 2 os (sums B) o2∧(∀ b,o1=some b→lo≤b∧b<nx∧o2≠some b)∧(∀ b,o2=some b→lo≤b∧b<nx):=by
 rcases c with ⟨rfl,rfl,rfl⟩ | ⟨be,bs,h1,h2,h3,h4,h5,rfl,rfl,h8,h9⟩
 ·exact ⟨none,none,.nil,.nil,fun b h=>(by cases h),fun b h=>(by cases h)⟩
 ·refine ⟨some be,some bs,?_,?_,fun b h=>by cases Option.some.inj h; exact ⟨h2,h3,fun e=>h1.2 (Option.some.inj e).symm⟩,fun b h=>by cases Option.some.inj h; exact ⟨h4,h5⟩⟩
  ·have:=Gr.own (enc:=encG) (k:=3) h8
   rwa [List.length_map] at this
  ·have:=Gr.own (enc:=wideL) (k:=2) h9
   unfold sums at this ⊢
   rwa [List.length_map] at this
theorem CO.form {h:Hp} {lo nx:Nat} {B:List GE} {oe os:Value} (c:CO h lo nx B oe os):∃ ae as_,oe = .slice ae B.length B.length∧os = .slice as_ B.length B.length∧(B=[]→ae=none)∧(B≠[]→∃ be bs,be≠bs∧lo≤be∧be<nx∧lo≤bs∧bs<nx∧ae=some ⟨be,0,some 3⟩∧as_=some ⟨bs,0,some 2⟩∧hget h be=some (.cells (flat encG (B.map bare)) false)∧hget h bs=some (.cells (flat wideL (sums B)) false)):=by
 rcases c with ⟨rfl,rfl,rfl⟩ | ⟨be,bs,h1,h2,h3,h4,h5,rfl,rfl,h8,h9⟩
 ·exact ⟨none,none,rfl,rfl,fun _=>rfl,fun h=>absurd rfl h⟩
 ·exact ⟨_,_,rfl,rfl,fun e=>(by rw [e] at h1; exact absurd h1.1 (Nat.lt_irrefl 0)),fun _=>⟨be,bs,h1.2,h2,h3,h4,h5,rfl,rfl,h8,h9⟩⟩
theorem wrW {h:Hp} {b i:Nat} {m:List Nat} {w:Nat} (hi:i<m.length):wrO (some (.cells (flat wideL m) false)) h b (i*2) [.int .i64 0,.int .u64 (w:Int)] = .ok (hset h b (.cells (flat wideL (m.set i w)) false)):=by
 show R.of _ (lput (wideL w) (flat wideL m) (i*2)) _=_
 rw [flat_put (k:=2) (fun _=>rfl) w hi]
 rfl
theorem rdW {m:List Nat} {i w:Nat} (hi:m[i]? = some w):loadC (some 2) (i*2) (flat wideL m) = .ok (.agg ⟨[.int .i64 0,.int .u64 (w:Int)]⟩):=rdF (enc:=wideL) (k:=2) (fun _=>rfl) hi
theorem rdB {m:List GE} {i:Nat} {x:GE} (hi:m[i]? = some x):loadC (some 3) (i*3) (flat encG m) = .ok (.agg ⟨[.int .i64 (x.f:Int),.int .i64 (x.t:Int),.int .i64 x.w]⟩):=rdF (enc:=encG) (k:=3) (fun _=>rfl) hi
structure CmI (gs:List GE) (N nx:Nat) (h:Hp) (i:Nat) (B:List GE) (oe os:Value) (h':Hp) (nx':Nat):Prop where
 le:i≤gs.length
 co:CO h' nx nx' B oe os
 can:IsCan ((gs.take i).map gE) (B.map gE)
 ok:∀ g∈B,GOk N g
 len:B.length≤i
 keep:Keep nx h h'
 nxle:nx≤nx'
theorem CmI.more {gs:List GE} {N nx:Nat} {h:Hp} {i:Nat} {B:List GE} {oe os:Value} {h' h2:Hp} {nx' nx2:Nat} (c:CmI gs N nx h i B oe os h' nx') (hk:Keep nx' h' h2) (hle:nx'≤nx2):CmI gs N nx h i B oe os h2 nx2 :=
 ⟨c.le,c.co.keep (fun b _ h2=>hk b h2) hle,c.can,c.ok,c.len,c.keep.trans hk c.nxle,Nat.le_trans c.nxle hle⟩
def CmJ (gs:List GE) (v:Value) (N nx:Nat) (h:Hp) (m:Nat) (vs:List Value) (h':Hp) (nx':Nat):Prop :=
 ∃ i B oe os,m=gs.length-i∧vs=[.int .i64 1,v,.slice none 0 0,.int .i64 0,oe,os,.int .i64 (i:Int)]∧CmI gs N nx h i B oe os h' nx'
def CmF (gs:List GE) (v:Value) (N nx:Nat) (h:Hp) (i:Nat) (B:List GE) (oe os:Value) (e:GE) (m:Nat) (vs:List Value) (h':Hp) (nx':Nat):Prop :=
 ∃ k,m=B.length-k∧At B e k∧vs=[.int .i64 1,v,.slice none 0 0,.int .i64 0,oe,os,.int .i64 (i:Int),.int .i64 (k:Int)]∧CmI gs N nx h i B oe os h' nx'
theorem setS {α:Type} {l:List α} {k:Nat} {x:α} (h:l[k]? = some x):l.set k x=l:=by
 apply List.ext_getElem?
 intro i
 rw [List.getElem?_set]
 by_cases e:k=i
 ·subst e; rw [if_pos rfl,h,if_pos (List.getElem?_eq_some_iff.1 h).1]
 ·rw [if_neg e]
theorem Lp.cut {B:LB} {vs:List Value} {h:Hp} {nx i:Nat} {R C:KVl} (Pre:KVl) (h1:∀ vs h nx,Pre vs h nx→C vs h nx) (h2:∀ C',(∀ vs h nx,Pre vs h nx→C' vs h nx)→Lp B vs h nx [(i,C')] R):Lp B vs h nx [(i,C)] R:=h2 C h1
def PutP (gs:List GE) (v:Value) (N nx:Nat) (h:Hp) (i:Nat) (B:List GE) (oe os:Value) (e:GE) (vs:List Value) (h':Hp) (nx':Nat):Prop :=
 ∃ k,At B e k∧(∀ x,B[k]? = some x→ltG x e=false)∧vs=[.int .i64 1,v,.slice none 0 0,.int .i64 0,oe,os,.int .i64 (i:Int),.int .i64 (k:Int)]∧CmI gs N nx h i B oe os h' nx'
def ShJ (v:Value) (B:List GE) (i k p be bs:Nat) (H:Hp) (NN:Nat) (m:Nat) (vs:List Value) (h':Hp) (nx':Nat):Prop :=
 ∃ (q:Nat) (X:List GE) (Y:List Nat),m=q∧k≤q∧q≤B.length∧Shf (B.map bare) X q∧Shf (sums B) Y q∧vs=[.int .i64 1,v,.slice none 0 0,.int .i64 0,.slice (some ⟨be,0,some 3⟩) (B.length+1) (B.length+1),.slice (some ⟨bs,0,some 2⟩) (B.length+1) (B.length+1),.int .i64 (i:Int),.int .i64 (k:Int),.pointer (some ⟨p,0,none⟩),.int .i64 (q:Int)] ∧
  hget h' be=some (.cells (flat encG X) false)∧hget h' bs=some (.cells (flat wideL Y) false)∧(∀ c,c≠be→c≠bs→hget h' c=hget H c)∧nx'=NN
theorem ins_c {s:Bool} {gs:List GE} {N nx:Nat} {h:Hp} {i k w p:Nat} {B:List GE} {e:GE} {oe os:Value} {H:Hp} {NN bg cap:Nat} {spg:Option Nat} {csg:List Value} {rog:Bool} {Nn e0 R:KVl}
  (hl:gs.length≤120) (he:gs[i]? = some e) (hG:GOk N e) (hw:e.w=(w:Int)) (hI:CmI gs N nx h i B oe os H NN) (hat:At B e k) (hn:∀ x,B[k]? = some x→ltG e x=true) (hgb:hget H bg=some (.cells (flat encG gs++csg) rog)) (hbg:bg<nx) (hp:hget H p=some (.cells [.int .i64 0,.int .u64 (w:Int)] false)) (hpn:p<NN) (hpx:nx≤p) (hco:CO H nx p B oe os)
  (hN:∀ B' oe' os' h' nx',CmI gs N nx h (i+1) B' oe' os' h' nx'→Nn [.int .i64 1,.slice (some ⟨bg,0,spg⟩) gs.length cap,.slice none 0 0,.int .i64 0,oe',os',.int .i64 ((i+1:Nat):Int)] h' nx') :
  EK (orR (appendA 3 (hset H NN (.cells [.int .i64 0,.int .i64 0,.int .i64 0] false)) (NN+1) oe (.slice (some ⟨NN,0,none⟩) 1 1))) fun x56 h57 n58 =>
  EK (orR (appendA 2 (hset h57 n58 (.cells [.int .i64 0,.int .u64 0] false)) (n58+1) os (.slice (some ⟨n58,0,none⟩) 1 1))) fun x63 h64 n65 =>
  RK (lenS x56) fun x66=>RK (bin Q .sub 3 x66 (.int .i64 1)) fun x67 =>
  Lp (fL Q O s rcombL 317 2) [.int .i64 1,.slice (some ⟨bg,0,spg⟩) gs.length cap,.slice none 0 0,.int .i64 0,x56,x63,.int .i64 (i:Int),.int .i64 (k:Int),.pointer (some ⟨p,0,none⟩),x67] h64 n65 [(4,fun v70 h68 n69 =>
   RK (vIx (.slice 3) (nv v70 1) (nv v70 6)) fun x83=>RK (vFldA 0 x83) fun x84=>RK (vLd none h68 x84) fun x85=>RK (vIx (.slice 3) (nv v70 1) (nv v70 6)) fun x86=>RK (vFldA 1 x86) fun x87=>RK (vLd none h68 x87) fun x88 =>
   RK ((cfillS (vFill [(1,1,x88)]) 0 1 (vcells x85) [.int .i64 0,.int .i64 0,.int .i64 0]).bind fun l=>.ok (.agg ⟨l⟩)) fun x89=>RK (vIx (.slice 3) (nv v70 4) (nv v70 7)) fun x90=>RK (vSt h68 3 x90 x89) fun h91=>RK (vLd (some 2) h91 (nv v70 8)) fun x92=>RK (vIx (.slice 2) (nv v70 5) (nv v70 7)) fun x93=>RK (vSt h91 2 x93 x92) fun h94 =>
   rcombk0 s Nn e0 R (nv v70 0) (nv v70 1) (nv v70 2) (nv v70 3) (nv v70 4) (nv v70 5) (nv v70 6) h94 n69)] (fun _ _ _=>False):=by
 have hbl:B.length≤120:=by have:=hI.len; have:=hI.le; omega
 have hnx:=hI.nxle
 obtain ⟨o1,o2,g1,g2,hb1,hb2⟩:=hco.gr
 have hm:(B.map bare).length=B.length:=List.length_map ..
 have hs:(sums B).length=B.length:=List.length_map ..
 refine EK_appG (enc:=encG) (k:=3) (fun _=>rfl) (fun _=>rfl) (by omega) (g1.keep (fun b hb=>by have:=hb1 b hb; rw [hold (by omega)])) zG (hnew _ _ _) rfl (by omega) (fun h5 a1 a2=>?_)
 refine EK_appG (enc:=wideL) (k:=2) (fun _=>rfl) (fun _=>rfl) (by omega) (g2.keep (fun b hb=>by have:=hb2 b hb; rw [hold (by omega),a2 b (by omega) (fun e=>(hb1 b e).2.2 hb),hold (by omega)])) 0 (hnew _ _ _) rfl (by omega) (fun h6 b1 b2=>?_)
 have fr:∀ c,c<nx∨c=p→hget h6 c=hget H c:=fun c hc=>by
  rw [b2 c (by omega) (fun e=>by have:=hb2 c e; omega),hold (by omega),a2 c (by omega) (fun e=>by have:=hb1 c e; omega),hold (by omega)]
 have e0:IntKind.wrap .i64 (((B.length+1:Nat):Int)-1)=(B.length:Int):=by rw [wrapS (by omega) (by omega)]; omega
 have x1:hget h6 (NN+1)=some (.cells (flat encG (B.map bare++[zG])) false):=by rw [b2 _ (by omega) (fun e=>by have:=hb2 _ e; omega),hold (by omega)]; exact a1
 rw [hm,hs]
 simp (disch:=omega) only [SS,e0,seval]
 have i0:=Shf.init (B.map bare) zG
 have i1:=Shf.init (sums B) 0
 rw [hm] at i0
 rw [hs] at i1
 refine Lp.mk (ShJ (.slice (some ⟨bg,0,spg⟩) gs.length cap) B i k p (NN+1) (NN+1+1+1) h6 (NN+1+1+1+1)) B.length ⟨B.length,_,_,rfl,hat.le,Nat.le_refl _,i0,i1,rfl,x1,b1,fun _ _ _=>rfl,rfl⟩ ?_
 rintro q _ h7 _ ⟨_,X,Y,rfl,hkq,hqB,hX,hY,rfl,g3,g4,hf,rfl⟩
 rw [rcombb2]
 unfold rcombl2
 have hXl:=hX.len
 have hYl:=hY.len
 rw [hm] at hXl
 rw [hs] at hYl
 have fr7:∀ c,c<nx∨c=p→hget h7 c=hget H c:=fun c hc=>(hf c (by omega) (by omega)).trans (fr c hc)
 simp (disch:=omega) only [SS,seval]
 refine ⟨fun h1=>?_,fun h1=>?_⟩
 ·obtain ⟨q,rfl⟩:∃ q',q=q'+1:=⟨q-1,by omega⟩
  have e1:IntKind.wrap .i64 (((q+1:Nat):Int)-1)=(q:Int):=by rw [wrapS (by omega) (by omega)]; omega
  obtain ⟨x,hx⟩:=get_ex (l:=X) (i:=q) (by omega)
  obtain ⟨y,hy⟩:=get_ex (l:=Y) (i:=q) (by omega)
  simp (disch:=omega) only [SS,e1,g3,g4,rdB hx,rdW hy,wrG (m:=X) (x:=x) (i:=q+1) (by omega),wrW (m:=Y) (w:=y) (i:=q+1) (by omega),seval]
  refine ⟨q,by omega,q,_,_,rfl,by omega,by omega,hX.step (by omega) hx,hY.step (by omega) hy,rfl,by rw [hold (by omega),hnew],hnew _ _ _,fun c h1 h2=>by rw [hold h2,hold h1]; exact hf c h1 h2,rfl⟩
 ·have hkq:q=k:=by omega
  subst hkq
  have hgg:=(fr7 bg (.inl hbg)).trans hgb
  have hpp:=(fr7 p (.inr rfl)).trans hp
  have c1:=cellP (enc:=encG) (k:=3) (fun _=>rfl) he (j:=1) (by omega) (cs:=csg)
  rw [show (encG e)[1]? = some (.int .i64 (e.t:Int)) from rfl] at c1
  have c0:=cellP (enc:=encG) (k:=3) (fun _=>rfl) he (j:=0) (by omega) (cs:=csg)
  rw [show (encG e)[0]? = some (.int .i64 (e.f:Int)) from rfl,Nat.add_zero] at c0
  have hil:=(List.getElem?_eq_some_iff.1 he).1
  have ei:IntKind.wrap .i64 ((i:Int)+1)=((i+1:Nat):Int):=wrap_s (by omega)
  have wE:wrO (some (.cells (flat encG X) false)) h7 (NN+1) (q*3) [.int .i64 (e.f:Int),.int .i64 (e.t:Int),.int .i64 0] = .ok (hset h7 (NN+1) (.cells (flat encG (X.set q (bare e))) false)):=wrG (x:=bare e) (by omega)
  unfold rcombk0
  simp (disch:=omega) only [SS,hgg,c0,c1,g3,wE,hpp,g4,wrW (m:=Y) (w:=w) (i:=q) (by omega),ei,seval]
  have hlen:(B.take q++e::B.drop q).length=B.length+1:=by rw [List.length_append,List.length_cons,List.length_take,List.length_drop]; omega
  rw [← hlen]
  refine hN _ _ _ _ _ ⟨by omega,.inr ⟨NN+1,NN+1+1+1,⟨by omega,by omega⟩,by omega,by omega,by omega,by omega,rfl,rfl,?_,?_⟩,?_,fun g hg=>?_,by rw [hlen]; have:=hI.len; omega,fun c hc=>?_,by omega⟩
  ·rw [hold (by omega),hnew,hX.fin (by omega),List.map_append,List.map_cons,List.map_take,List.map_drop]
  ·rw [hnew,hY.fin (by omega)]
   unfold sums
   rw [List.map_append,List.map_cons,List.map_take,List.map_drop,hw]; rfl
  ·rw [List.take_add_one,he,List.map_append]
   exact ins_can hI.can hat hn
  ·rcases List.mem_append.1 hg with hg | hg
   ·exact hI.ok g (List.mem_of_mem_take hg)
   ·rcases List.mem_cons.1 hg with rfl | hg
    ·exact hG
    ·exact hI.ok g (List.mem_of_mem_drop hg)
  ·rw [hold (by omega),hold (by omega),fr7 c (.inl hc)]; exact hI.keep c hc
def NaJ (B:List GE) (ae as_:Option Addr) (nx:Nat) (h:Hp) (m:Nat) (vs:List Value) (h':Hp) (nx':Nat):Prop :=
 ∃ j,m=B.length-j∧j≤B.length∧vs=[.slice none 0 0,.int .i64 0,.slice ae B.length B.length,.slice as_ B.length B.length,.int .i64 (j:Int)]∧(B≠[]→∃ be bs,be≠bs∧nx≤be∧be<nx'∧nx≤bs∧bs<nx'∧ae=some ⟨be,0,some 3⟩∧as_=some ⟨bs,0,some 2⟩∧hget h' be=some (.cells (flat encG (B.take j++(B.drop j).map bare)) false)∧hget h' bs=some (.cells (flat wideL (sums B)) false))∧Keep nx h h'∧nx≤nx'
theorem flat_setw:∀ {m:List GE} {j:Nat} {y:GE} {w:Int},m[j]? = some y→(flat encG m).set (j*3+2) (.int .i64 w)=flat encG (m.set j ⟨y.f,y.t,w⟩)
 | [],j,y,w,h=>by cases h
 | z::m,0,y,w,h=>by cases h; rfl
 | z::m,j+1,y,w,h=>by
  have ih:=flat_setw (m:=m) (j:=j) (y:=y) (w:=w) h
  show (encG z++flat encG m).set ((j+1)*3+2) _=encG z++flat encG (m.set j _)
  rw [← ih,show (j+1)*3+2=(j*3+2)+1+1+1 by omega]
  rfl
theorem rcomb_c {s:Bool} {N:Nat} {v:Value} {gs:List GE} {h:Hp} {nx:Nat} (hv:SlPx h nx v encG gs) (hN:N≤4096) (hl:gs.length≤120) (hok:∀ g∈gs,GOk N g) :
  Cv Q O s 317 [.int .i64 1,v] h nx (fun r h' nx'=>∃ v2 B,r = .tuple ⟨[v2,.int .i64 0]⟩∧SlAt h' v2 encG 3 B nx nx'∧IsCan (gs.map gE) (B.map gE)∧(∀ g∈B,GOk N g)∧B.length≤gs.length∧Keep nx h h'∧nx≤nx'):=by
 refine rcombv ?_
 obtain ⟨a,cap,rfl,hc⟩:=id hv
 unfold rcomb
 refine ris_c.mono ?_
 rintro r h0 nx0 ⟨rfl,e1,e2⟩
 rw [e1,e2]
 simp (disch:=omega) only [SS,seval]
 refine Lp.mk (CmJ gs (.slice a gs.length cap) N nx h) gs.length ⟨0,[],_,_,by omega,rfl,⟨by omega,.inl ⟨rfl,rfl,rfl⟩,⟨List.Pairwise.nil,Rep.nil⟩,by simp,by simp,Keep.refl _ _,Nat.le_refl _⟩⟩ ?_
 rintro _ _ h' nx' ⟨i,B,oe,os,rfl,rfl,hI⟩
 rw [rcombb0]
 unfold rcombl0
 simp (disch:=omega) only [SS,seval]
 refine ⟨fun hlt=>?_,fun hge=>?_⟩
 ·obtain ⟨e,he⟩:=get_ex hlt
  have ei:IntKind.wrap .i64 ((i:Int)+1)=((i+1:Nat):Int):=wrap_s (by omega)
  obtain ⟨_,bg,spg,rog,cg,csg,hbg,e1,hgg⟩:=hv.at he
  cases e1
  refine Lp.cut (PutP gs (.slice (some ⟨bg,0,spg⟩) gs.length cap) N nx h i B oe os e) ?_ (fun C' hC=>?_)
  ·rintro _ h2 nx2 ⟨k,hat,hnk,rfl,hI⟩
   have hgg2:=(hI.keep bg hbg).trans hgg
   have hGe:=hok e (List.mem_of_getElem? he)
   obtain ⟨w,hw⟩:∃ w:Nat,e.w=(w:Int):=⟨e.w.toNat,by have:=hGe.2.2.1; omega⟩
   have hwl:w<4294967296:=by have:=hGe.2.2.2; omega
   have c2:=cellP (enc:=encG) (k:=3) (fun _=>rfl) he (j:=2) (by omega) (cs:=csg)
   rw [show (encG e)[2]? = some (.int .i64 e.w) from rfl,hw] at c2
   have c1:=cellP (enc:=encG) (k:=3) (fun _=>rfl) he (j:=1) (by omega) (cs:=csg)
   rw [show (encG e)[1]? = some (.int .i64 (e.t:Int)) from rfl] at c1
   have c0:=cellP (enc:=encG) (k:=3) (fun _=>rfl) he (j:=0) (by omega) (cs:=csg)
   rw [show (encG e)[0]? = some (.int .i64 (e.f:Int)) from rfl,Nat.add_zero] at c0
   have rd:=rdP (enc:=encG) (k:=3) (fun _=>rfl) he (cs:=csg)
   simp (disch:=omega) only [SS,hgg2,c2,seval]
   refine (rof_c (w:=w) hwl).mono ?_
   rintro r h3 nx3 ⟨rfl,hk3,hle3⟩
   have hbn:bg<nx2:=by have:=hI.nxle; omega
   have K3:∀ {o o'},Keep nx2 h2 (hset (hset h3 nx3 o) nx3 o'):=(hk3.set hle3).set hle3
   have hI3:=hI.more (h2:=hset (hset h3 nx3 (.cells [.int .i64 0,.int .u64 0] false)) nx3 (.cells [.int .i64 0,.int .u64 (w:Int)] false)) (nx2:=nx3+1) K3 (by omega)
   have hgg3:hget (hset (hset h3 nx3 (.cells [.int .i64 0,.int .u64 0] false)) nx3 (.cells [.int .i64 0,.int .u64 (w:Int)] false)) bg=some (.cells (flat encG gs++csg) rog):=(K3 bg hbn).trans hgg2
   obtain ⟨ae,as_,rfl,rfl,hae,hne⟩:=hI.co.form
   have rd3:loadC (some 3) (i*3) (flat encG gs++csg) = .ok (.agg ⟨[.int .i64 (e.f:Int),.int .i64 (e.t:Int),.int .i64 e.w]⟩):=rd
   have hbl:B.length≤120:=by have:=hI.len; omega
   simp (disch:=omega) only [SS,wideL,hgg3,rd3,seval]
   refine ⟨fun hk=>?_,fun hk=>?_⟩
   ·obtain ⟨be,bs,h1,h2',h3',h4,h5,rfl,rfl,h8,h9⟩:=hne (fun e=>by rw [e] at hk; simp at hk)
    obtain ⟨x,hx⟩:=get_ex hk
    have hx':(B.map bare)[k]? = some (bare x):=by rw [List.getElem?_map,hx]; rfl
    have hs':(sums B)[k]? = some x.w.toNat:=by unfold sums; rw [List.getElem?_map,hx]; rfl
    have e8:=(hk3 be (by omega)).trans h8
    have e9:=(hk3 bs (by omega)).trans h9
    simp (disch:=omega) only [SS,e8,rdB hx',e9,seval]
    refine (below_c (x:=e) (y:=bare x)).mono ?_
    rintro r h6 nx6 ⟨rfl,hk6,hle6⟩
    have hI6:=hI3.more hk6 hle6
    have p6:=hk6 nx3 (by omega)
    rw [hnew] at p6
    have s6:=(hk6 bs (by omega)).trans ((hold (by omega)).trans ((hold (by omega)).trans e9))
    have hb:ltG e (bare x)=ltG e x:=rfl
    rw [hb]
    simp (disch:=omega) only [SS,s6,rdW hs',p6,seval]
    refine ⟨hle6,fun hf=>?_,fun ht=>?_⟩
    ·have hGx:=hI.ok x (List.mem_of_getElem? hx)
     refine (radd_c (a:=x.w.toNat) (b:=w) (by have:=hGx.2.2.2; omega) hwl).mono ?_
     rintro r h7 nx7 ⟨rfl,hk7,hle7⟩
     have s7:=(hk7 bs (by omega)).trans s6
     unfold rcombk0
     simp (disch:=omega) only [SS,wideL,s7,ei,wrW (m:=sums B) (i:=k) (w:=min x.w.toNat w) (by unfold sums; rw [List.length_map]; exact hk),seval]
     have hy:bare (⟨x.f,x.t,min x.w e.w⟩:GE)=bare x:=rfl
     refine ⟨hle7,gs.length-(i+1),by omega,i+1,B.set k ⟨x.f,x.t,min x.w e.w⟩,_,_,rfl,rfl,⟨by omega,.inr ⟨be,bs,⟨by rw [List.length_set]; omega,h1⟩,h2',by omega,h4,by omega,by rw [List.length_set],by rw [List.length_set],?_,?_⟩,?_,fun g hg=>?_,by rw [List.length_set]; have:=hI.len; omega,(hI6.keep.trans hk7 hI6.nxle).set (by omega),by have:=hI6.nxle; omega⟩⟩
     ·rw [hold h1,hk7 be (by omega),hk6 be (by omega),hold (by omega),hold (by omega),e8,List.map_set,hy,setS hx']
     ·rw [hnew]
      unfold sums
      rw [List.map_set]
      have:(min x.w e.w).toNat=min x.w.toNat w:=by have:=hGx.2.2.1; omega
      rw [this]
     ·rw [List.take_add_one,he,List.map_append]
      exact set_can hI.can hx (ends_of (hnk x hx) hf)
     ·rcases List.mem_or_eq_of_mem_set hg with hg | rfl
      ·exact hI.ok g hg
      ·have a1:=hGx.2.2; have a2:=hGe.2.2
       exact ⟨hGx.1,hGx.2.1,by show 0≤min x.w e.w; omega,by show min x.w e.w≤_; omega⟩
    ·have hnk2:∀ x',B[k]? = some x'→ltG e x'=true:=fun x' hx'=>by rw [hx] at hx'; cases hx'; exact ht
     have gg6:=(hk6 bg (by omega)).trans hgg3
     have hnn6:nx3<nx6:=by omega
     refine ins_c hl he hGe hw hI6 hat hnk2 gg6 hbg p6 hnn6 (by have:=hI.nxle; omega) (hI.co.keep (fun b _ hb=>by rw [hk6 b (by omega),hold (by omega),hold (by omega),hk3 b hb]) hle3) (fun B' oe' os' h' nx' hc=>⟨gs.length-(i+1),by omega,i+1,B',oe',os',rfl,rfl,hc⟩)
   ·refine ins_c hl he hGe hw hI3 hat (fun x hx=>absurd (List.getElem?_eq_some_iff.1 hx).1 hk) hgg3 hbg (hnew _ _ _) (Nat.lt_succ_self _) (by have:=hI.nxle; omega) (hI.co.keep (fun b _ hb=>by rw [hold (by omega),hold (by omega),hk3 b hb]) hle3) (fun B' oe' os' h' nx' hc=>⟨gs.length-(i+1),by omega,i+1,B',oe',os',rfl,rfl,hc⟩)
  ·refine Lp.mk (CmF gs (.slice (some ⟨bg,0,spg⟩) gs.length cap) N nx h i B oe os e) B.length ⟨0,by omega,⟨by omega,fun q x hq=>absurd hq (by omega)⟩,rfl,hI⟩ ?_
   rintro _ _ h2 nx2 ⟨k,rfl,hat,rfl,hI⟩
   obtain ⟨ae,as_,rfl,rfl,hae,hne⟩:=hI.co.form
   rw [rcombb1]
   unfold rcombl1
   simp (disch:=omega) only [SS,seval]
   refine ⟨fun hk=>?_,fun hk=>hC _ _ _ ⟨k,hat,fun x hx=>absurd (List.getElem?_eq_some_iff.1 hx).1 hk,rfl,hI⟩⟩
   obtain ⟨be,bs,h1,h2',h3,h4,h5,rfl,rfl,h8,h9⟩:=hne (fun e=>by rw [e] at hk; simp at hk)
   obtain ⟨x,hx⟩:=get_ex hk
   have hx':(B.map bare)[k]? = some (bare x):=by rw [List.getElem?_map,hx]; rfl
   simp (disch:=omega) only [SS,h8,(hI.keep bg hbg).trans hgg,rdF (enc:=encG) (k:=3) (fun _=>rfl) hx',rdP (enc:=encG) (k:=3) (fun _=>rfl) he,seval]
   refine (below_c (x:=bare x) (y:=e)).mono ?_
   rintro r h6 nx6 ⟨rfl,hk6,hle6⟩
   have hb:ltG (bare x) e=ltG x e:=rfl
   rw [hb]
   have ek:IntKind.wrap .i64 ((k:Int)+1)=((k+1:Nat):Int):=wrap_s (by have:=hI.len; omega)
   simp (disch:=omega) only [SS,ek,seval]
   refine ⟨hle6,fun ht=>⟨B.length-(k+1),by omega,k+1,rfl,⟨hk,fun q y hq hy=>?_⟩,rfl,hI.more hk6 hle6⟩,fun hf=>hC _ _ _ ⟨k,hat,fun y hy=>by rw [hx] at hy; cases hy; exact hf,rfl,hI.more hk6 hle6⟩⟩
   by_cases e2:q=k
   ·subst e2; rw [hx] at hy; cases hy; exact ht
   ·exact hat.lo q y (by omega) hy
 ·have hig:i=gs.length:=by have:=hI.le; omega
  subst hig
  have hcan:=hI.can
  rw [List.take_length] at hcan
  obtain ⟨ae,as_,rfl,rfl,hae,hne⟩:=hI.co.form
  refine Lp.mk (NaJ B ae as_ nx h) B.length ⟨0,by omega,by omega,rfl,fun hb=>?_,hI.keep,hI.nxle⟩ ?_
  ·obtain ⟨be,bs,h1,h2,h3,h4,h5,e1,e2,h8,h9⟩:=hne hb
   exact ⟨be,bs,h1,h2,h3,h4,h5,e1,e2,by simpa using h8,h9⟩
  rintro _ _ h2 nx2 ⟨j,rfl,hj,rfl,hne,hk2,hle2⟩
  rw [rcombb3]
  unfold rcombl3
  simp (disch:=omega) only [SS,seval]
  have hbl:B.length≤120:=by have:=hI.len; omega
  refine ⟨fun hlt=>?_,fun hge=>?_⟩
  ·obtain ⟨be,bs,h1,h2',h3,h4,h5,rfl,rfl,h8,h9⟩:=hne (fun e=>by rw [e] at hlt; simp at hlt)
   obtain ⟨x,hx⟩:=get_ex hlt
   have hGx:=hI.ok x (List.mem_of_getElem? hx)
   obtain ⟨w,hw⟩:∃ w:Nat,x.w=(w:Int):=⟨x.w.toNat,by have:=hGx.2.2.1; omega⟩
   have hs':(sums B)[j]? = some w:=by unfold sums; rw [List.getElem?_map,hx,Option.map_some,hw]; rfl
   have hC:(B.take j++(B.drop j).map bare)[j]? = some (bare x):=by
    rw [List.getElem?_append_right (by rw [List.length_take]; omega),List.length_take,show j-min j B.length=0 by omega,List.getElem?_map,List.getElem?_drop,Nat.add_zero,hx]; rfl
   simp (disch:=omega) only [SS,h9,rdW hs',seval]
   refine (rnarrow_c (w:=w) (by have:=hGx.2.2.2; omega)).mono ?_
   rintro r h6 nx6 ⟨rfl,hk6,hle6⟩
   have g8:=(hk6 be h3).trans h8
   have ej:IntKind.wrap .i64 ((j:Int)+1)=((j+1:Nat):Int):=wrap_s (by omega)
   have hCl:(B.take j++(B.drop j).map bare).length=B.length:=by rw [List.length_append,List.length_take,List.length_map,List.length_drop]; omega
   have hfl:(flat encG (B.take j++(B.drop j).map bare)).length=B.length*3:=by rw [flat_len (k:=3) (fun _=>rfl),hCl]
   simp (disch:=omega) only [SS,g8,ej,hfl,flat_setw hC,seval]
   refine ⟨by omega,B.length-(j+1),by omega,j+1,rfl,hlt,rfl,fun _=>⟨be,bs,h1,h2',by omega,h4,by omega,rfl,rfl,?_,?_⟩,fun c hc=>?_,by omega⟩
   ·rw [hnew]
    have:(B.take j++(B.drop j).map bare).set j ⟨(bare x).f,(bare x).t,(w:Int)⟩=B.take (j+1)++(B.drop (j+1)).map bare:=by
     have e3:(⟨(bare x).f,(bare x).t,(w:Int)⟩:GE)=x:=by rw [← hw]; rfl
     rw [e3,List.set_append,if_neg (by rw [List.length_take]; omega),List.length_take,show j-min j B.length=0 by omega]
     rw [List.drop_eq_getElem_cons hlt,List.map_cons,List.set_cons_zero,List.take_add_one,hx,List.append_assoc]
     rfl
    rw [this]
   ·rw [hold (Ne.symm h1),hk6 bs h5]; exact h9
   ·rw [hold (by omega),hk6 c (by omega)]; exact hk2 c hc
  ·have hjb:j=B.length:=by omega
   subst hjb
   refine ⟨_,B,rfl,?_,hcan,hI.ok,hI.len,hk2,hle2⟩
   by_cases hb:B=[]
   ·exact .inl ⟨hb,by rw [hae hb,hb]; rfl⟩
   obtain ⟨be,bs,h1,h2',h3,h4,h5,e1,e2,h8,h9⟩:=hne hb
   rw [List.take_length,List.drop_length,List.map_nil,List.append_nil] at h8
   exact .inr ⟨be,h2',h3,by rw [e1],h8⟩
theorem rcanon_c {gs:List GE} {N:Nat} {s:Bool} {h:Hp} {nx:Nat} {v:Value} (hv:SlPx h nx v encG gs) (hN:N≤4096) (hok:∀ g∈gs,GOk N g) (hl:gs.length≤120) :
  Cv Q O s 243 [.agg ⟨[.int .i64 (N:Int),v]⟩] h nx (CanK N gs nx h):=by
 refine rcanonv ?_
 obtain ⟨a,cap,rfl,hc⟩:=id hv
 unfold rcanon
 simp (disch:=omega) only [SS,seval]
 have k0:∀ {o1 o2:AObj},Keep nx h (hset (hset h nx o1) (nx+1) o2):=fun {o1 o2} b hb=>by rw [hold (by omega),hold (by omega)]
 refine (rcomb_c (hv.keep k0 (by omega)) hN hl hok).mono ?_
 rintro r h1 nx1 ⟨v2,cs,rfl,hcs,hcan,hok',hlen,hk,hle⟩
 have g1:=(hk nx (by omega)).trans (hold (by omega))
 have g2:=hk (nx+1) (by omega)
 rw [hnew] at g1 g2
 obtain ⟨a2,n2,cap2,rfl⟩:=hcs.form
 simp (disch:=omega) only [SS,g1,g2,seval]
 refine ⟨_,cs,rfl,?_,hcan,hok',hlen,(k0.trans hk (by omega)).set (by omega),by omega⟩
 rcases hcs with hcs | ⟨b,h1,h2,e,hb⟩
 ·exact .inl hcs
 ·exact .inr ⟨b,by omega,h2,e,by rw [hold (by omega)]; exact hb⟩
def EqK (v:Value) (nx:Nat) (h:Hp):KC':=fun r h' nx'=>r=v∧Keep nx h h'∧nx≤nx'
def inB (n m:Int):Bool:=decide (0≤n∧n≤m)
theorem inB_t {n m:Int} (h:0≤n∧n≤m):inB n m=true:=decide_eq_true h
theorem inB_f {n m:Int} (h:¬ (0≤n∧n≤m)):inB n m=false:=decide_eq_false h
theorem pwithin_c {s:Bool} {n m:Int} {h:Hp} {nx:Nat}:Cv Q O s 222 [.int .i64 n,.int .i64 m] h nx (fun r h' nx'=>r = .bool (inB n m)∧h'=h∧nx'=nx):=by
 refine pwithinv ?_
 unfold pwithin
 simp (disch:=omega) only [SS,seval]
 refine ⟨fun h0=>?_,fun h0=>by rw [inB_f (by omega)]⟩
 by_cases h1:m<n
 ·rw [decide_eq_true h1,inB_f (by omega)]; rfl
 ·rw [decide_eq_false h1,inB_t (by omega)]; rfl
theorem plwithin_c {s:Bool} {n m:Int} {h:Hp} {nx:Nat}:Cv Q O s 70 [.int .i64 n,.int .i64 m] h nx (fun r h' nx'=>r = .bool (inB n m)∧h'=h∧nx'=nx):=by
 refine plwithinv ?_
 unfold plwithin
 simp (disch:=omega) only [SS,seval]
 refine ⟨fun h0=>?_,fun h0=>by rw [inB_f (by omega)]⟩
 by_cases h1:m<n
 ·rw [decide_eq_true h1,inB_f (by omega)]; rfl
 ·rw [decide_eq_false h1,inB_t (by omega)]; rfl
theorem wcheck1_c {s:Bool} {n m:Int} {h:Hp} {nx:Nat}:Cv Q O s 62 [.int .i64 n,.int .i64 m] h nx (fun r h' nx'=>r = .bool (decide (1≤n∧n≤m))∧h'=h∧nx'=nx):=by
 refine wcheck1v ?_
 unfold wcheck1
 simp (disch:=omega) only [SS,seval]
 refine ⟨fun h0=>?_,fun h0=>by rw [decide_eq_false (show ¬ (1≤n∧n≤m) by omega)]⟩
 by_cases h1:m<n
 ·rw [decide_eq_true h1,decide_eq_false (show ¬ (1≤n∧n≤m) by omega)]; rfl
 ·rw [decide_eq_false h1,decide_eq_true (show 1≤n∧n≤m by omega)]; rfl
def badD (d:Int):Bool:=decide (d<0∨2147483647<d)
theorem pright1_c {s:Bool} {d:Int} {h:Hp} {nx:Nat}:Cv Q O s 224 [.int .i64 d] h nx (EqK (.bool (badD d)) nx h):=by
 refine pright1v ?_
 unfold pright1
 simp (disch:=omega) only [SS,seval]
 refine ⟨fun h0=>⟨by unfold badD; simp [h0],Keep.refl _ _,Nat.le_refl _⟩,fun h0=>⟨?_,Keep.refl _ _,Nat.le_refl _⟩⟩
 unfold badD; simp [h0]
def IxJ {α:Type} (p:α→Bool) (l:List α) (v fv:Value) (nx:Nat) (h:Hp) (m:Nat) (vs:List Value) (h':Hp) (nx':Nat):Prop:=∃ i,m=l.length-i∧i≤l.length∧vs=[v,fv,.int .i64 0,.int .i64 (l.length:Int),.int .i64 (i:Int)]∧Keep nx h h'∧nx≤nx'∧∀ x∈l.take i,p x=false
theorem take_s {α:Type} {p:α→Bool} {l:List α} {i:Nat} {x:α} (hx:l[i]? = some x) (h:∀ y∈l.take i,p y=false) (hp:p x=false):∀ y∈l.take (i+1),p y=false:=fun y hy=>by
 rw [List.take_add_one,hx] at hy
 rcases List.mem_append.1 hy with hy | hy
 ·exact h y hy
 ·have:y=x:=by simpa using hy
  rw [this]; exact hp
theorem any_f {α:Type} {p:α→Bool} {l:List α} (h:∀ x∈l,p x=false):l.any p=false:=List.any_eq_false.2 fun x hx=>by rw [h x hx]; simp
theorem contsI_c {s:Bool} {f:Nat} {p:Int→Bool} {v:Value} {l:List Int} {h:Hp} {nx:Nat} (hv:SlRd h nx v encI l) (hl:l.length<1000000) (hf:∀ (x:Int) (h:Hp) (nx:Nat),Cv Q O s f [.int .i64 x] h nx (EqK (.bool (p x)) nx h)) :
  Cv Q O s 223 [v,.func (.func f) ⟨[]⟩ ⟨[]⟩] h nx (EqK (.bool (l.any p)) nx h):=by
 refine contsIv ?_
 obtain ⟨a,cap,rfl,hc⟩:=id hv
 unfold contsI
 refine (indexIv (K:=fun r h' nx'=>Keep nx h h'∧nx≤nx'∧∃ i:Int,r = .int .i64 i∧(i<0↔l.any p=false)) ?_).mono ?_
 ·unfold indexI
  simp (disch:=omega) only [SS,seval]
  refine Lp.mk (IxJ p l (.slice a l.length cap) (.func (.func f) ⟨[]⟩ ⟨[]⟩) nx h) l.length ⟨0,rfl,by omega,rfl,Keep.refl _ _,Nat.le_refl _,fun x hx=>by simp at hx⟩ ?_
  rintro m _ h' nx' ⟨i,rfl,hi,rfl,hk,hle,hno⟩
  rw [indexIb0]
  unfold indexIl0
  simp (disch:=omega) only [SS,seval]
  refine ⟨fun hlt=>?_,fun hge=>?_⟩
  ·obtain ⟨x,hx⟩:=get_ex hlt
   obtain ⟨_,b,sp,ro,c1,hb,e1,hg⟩:=hv.at hx
   cases e1
   rw [flat_ints] at hg
   simp (disch:=omega) only [SS,(hk b hb).trans hg,ints_get hx,seval]
   refine (hf x h' nx').mono ?_
   rintro r h2 nx2 ⟨rfl,hk2,hle2⟩
   rw [IF_b]
   refine ⟨fun hp=>?_,fun hp=>?_⟩
   ·refine ⟨hk.trans hk2 hle,by omega,_,rfl,⟨fun h=>absurd h (by omega),fun h=>?_⟩⟩
    rw [List.any_eq_false] at h
    exact absurd hp (h x (List.mem_of_getElem? hx))
   ·simp (disch:=omega) only [SS,wrap_s (show i<1000000000000 by omega),seval]
    exact ⟨l.length-(i+1),by omega,i+1,rfl,by omega,rfl,hk.trans hk2 hle,by omega,take_s hx hno hp⟩
  ·have:i=l.length:=by omega
   subst this
   rw [List.take_length] at hno
   exact ⟨hk,hle,_,rfl,⟨fun _=>any_f hno,fun _=>by omega⟩⟩
 ·rintro r h' nx' ⟨hk,hle,i,rfl,hi⟩
  simp (disch:=omega) only [SS,seval]
  refine ⟨?_,hk,hle⟩
  cases ha:l.any p with
  | false=>rw [decide_eq_true (hi.2 ha)]; rfl
  | true =>
   have:¬ i<0:=fun h=>by rw [hi.1 h] at ha; cases ha
   rw [decide_eq_false this]; rfl
abbrev Mv:=Int × Int × Int × Int
def encM (m:Mv):List Value:=[.int .i64 m.1,.int .i64 m.2.1,.int .i64 m.2.2.1,.int .i64 m.2.2.2]
def rightM (m:Mv):Bool:=(inB m.2.1 63&&inB m.2.2.1 63&&inB m.2.2.2 63)&&decide (0<m.1∧m.1≤5)
theorem plright_c {s:Bool} {m:Mv} {h:Hp} {nx:Nat}:Cv Q O s 19 [.agg ⟨encM m⟩] h nx (EqK (.bool (rightM m)) nx h):=by
 refine plrightv ?_
 unfold plright encM
 have K1:∀ {o},Keep nx h (hset h nx o):=(Keep.refl _ _).set (Nat.le_refl _)
 have no:(inB m.2.1 63&&inB m.2.2.1 63&&inB m.2.2.2 63)=false→∀ {o},plrightk0 s (EqK (.bool (rightM m)) nx h) (.pointer (some ⟨nx,0,none⟩)) (.bool true) (hset h nx o) (nx+1):=fun e {o}=>by
  unfold plrightk0
  simp (disch:=omega) only [SS,seval]
  exact ⟨by unfold rightM; rw [e]; rfl,K1,by omega⟩
 simp (disch:=omega) only [SS,seval]
 refine plwithin_c.mono ?_
 rintro r h1 n1 ⟨rfl,e1,e2⟩
 rw [e1,e2]
 cases ha:inB m.2.1 63 with
 | false =>
  simp (disch:=omega) only [SS,seval]
  exact no (by rw [ha]; rfl)
 | true =>
  simp (disch:=omega) only [SS,seval]
  refine plwithin_c.mono ?_
  rintro r h1 n1 ⟨rfl,e1,e2⟩
  rw [e1,e2]
  cases hb:inB m.2.2.1 63 with
  | false =>
   simp (disch:=omega) only [SS,seval]
   exact no (by rw [ha,hb]; rfl)
  | true =>
   simp (disch:=omega) only [SS,seval]
   refine plwithin_c.mono ?_
   rintro r h1 n1 ⟨rfl,e1,e2⟩
   rw [e1,e2]
   cases hc:inB m.2.2.2 63 with
   | false =>
    simp (disch:=omega) only [SS,seval]
    exact no (by rw [ha,hb,hc]; rfl)
   | true =>
    unfold plrightk0
    simp (disch:=omega) only [SS,seval]
    have e3:rightM m=decide (0<m.1∧m.1≤5):=by unfold rightM; rw [ha,hb,hc]; rfl
    refine ⟨fun h0=>⟨?_,K1,by omega⟩,fun h0=>⟨?_,K1,by omega⟩⟩
    ·rw [e3]
     by_cases h5:m.1≤5
     ·rw [decide_eq_true (show 0<m.1∧m.1≤5 by omega),decide_eq_false (show ¬ 5<m.1 by omega)]; rfl
     ·rw [decide_eq_false (show ¬ (0<m.1∧m.1≤5) by omega),decide_eq_true (show 5<m.1 by omega)]; rfl
    ·rw [e3,decide_eq_false (show ¬ (0<m.1∧m.1≤5) by omega)]
theorem plcheck1_c {s:Bool} {m:Mv} {h:Hp} {nx:Nat}:Cv Q O s 69 [.agg ⟨encM m⟩] h nx (EqK (.bool (!rightM m)) nx h):=by
 refine plcheck1v ?_
 unfold plcheck1 encM
 simp (disch:=omega) only [SS,seval]
 have K1:∀ {o},Keep nx h (hset h nx o):=(Keep.refl _ _).set (Nat.le_refl _)
 refine (plright_c (m:=m)).mono ?_
 rintro r h1 n1 ⟨rfl,hk,hle⟩
 simp (disch:=omega) only [SS,seval]
 exact ⟨rfl,K1.trans hk (by omega),by omega⟩
theorem contsM_c {s:Bool} {f:Nat} {p:Mv→Bool} {v:Value} {l:List Mv} {h:Hp} {nx:Nat} (hv:SlRd h nx v encM l) (hl:l.length<1000000) (hf:∀ (x:Mv) (h:Hp) (nx:Nat),Cv Q O s f [.agg ⟨encM x⟩] h nx (EqK (.bool (p x)) nx h)) :
  Cv Q O s 68 [v,.func (.func f) ⟨[]⟩ ⟨[]⟩] h nx (EqK (.bool (l.any p)) nx h):=by
 refine contsMv ?_
 obtain ⟨a,cap,rfl,hc⟩:=id hv
 unfold contsM
 refine (indexMv (K:=fun r h' nx'=>Keep nx h h'∧nx≤nx'∧∃ i:Int,r = .int .i64 i∧(i<0↔l.any p=false)) ?_).mono ?_
 ·unfold indexM
  simp (disch:=omega) only [SS,seval]
  refine Lp.mk (IxJ p l (.slice a l.length cap) (.func (.func f) ⟨[]⟩ ⟨[]⟩) nx h) l.length ⟨0,rfl,by omega,rfl,Keep.refl _ _,Nat.le_refl _,fun x hx=>by simp at hx⟩ ?_
  rintro m _ h' nx' ⟨i,rfl,hi,rfl,hk,hle,hno⟩
  rw [indexMb0]
  unfold indexMl0
  simp (disch:=omega) only [SS,seval]
  refine ⟨fun hlt=>?_,fun hge=>?_⟩
  ·obtain ⟨x,hx⟩:=get_ex hlt
   obtain ⟨_,b,sp,ro,c1,hb,e1,hg⟩:=hv.at hx
   cases e1
   simp (disch:=omega) only [SS,(hk b hb).trans hg,rdF (enc:=encM) (k:=4) (fun _=>rfl) hx,seval]
   refine (hf x h' nx').mono ?_
   rintro r h2 nx2 ⟨rfl,hk2,hle2⟩
   rw [IF_b]
   refine ⟨fun hp=>?_,fun hp=>?_⟩
   ·refine ⟨hk.trans hk2 hle,by omega,_,rfl,⟨fun h=>absurd h (by omega),fun h=>?_⟩⟩
    rw [List.any_eq_false] at h
    exact absurd hp (h x (List.mem_of_getElem? hx))
   ·simp (disch:=omega) only [SS,wrap_s (show i<1000000000000 by omega),seval]
    exact ⟨l.length-(i+1),by omega,i+1,rfl,by omega,rfl,hk.trans hk2 hle,by omega,take_s hx hno hp⟩
  ·have:i=l.length:=by omega
   subst this
   rw [List.take_length] at hno
   exact ⟨hk,hle,_,rfl,⟨fun _=>any_f hno,fun _=>by omega⟩⟩
 ·rintro r h' nx' ⟨hk,hle,i,rfl,hi⟩
  simp (disch:=omega) only [SS,seval]
  refine ⟨?_,hk,hle⟩
  cases ha:l.any p with
  | false=>rw [decide_eq_true (hi.2 ha)]; rfl
  | true =>
   have:¬ i<0:=fun h=>by rw [hi.1 h] at ha; cases ha
   rw [decide_eq_false this]; rfl
def planE (k n src len:Int) (ds:List Int):Int :=
 if k≤0∨5<k then 8 else if ¬ (0≤n∧n≤4096) then 3 else if k=4∧¬ (0≤len∧len≤8192) then 3 else if (k=4∨k=1∨k=2)∧¬ (0≤src∧src≤n-1) then 3
 else if 65536<ds.length then 5 else if ds.any badD=true then 7 else 0
theorem wrapI0 {n:Int}:IntKind.wrap .i64 n=(if n % 18446744073709551616≥9223372036854775808 then n % 18446744073709551616-18446744073709551616 else n % 18446744073709551616):=by
 simp only [IntKind.wrap,IntKind.signed,IntKind.bits]
 simp
theorem wrapD0 {n:Int} (h0 : -9223372036854775808≤n) (h1:n≤9223372036854775807):IntKind.wrap .i64 n=n:=by
 rw [wrapI0]; split <;> omega
theorem pright0_c {s:Bool} {k n src len:Int} {ds:List Int} {v:Value} {h:Hp} {nx:Nat} (hv:SlRd h nx v encI ds):Cv Q O s 128 [.agg ⟨[.int .i64 k,.int .i64 n,.int .i64 src,.int .i64 len,v]⟩] h nx (EqK (.int .i64 (planE k n src len ds)) nx h):=by
 refine pright0v ?_
 obtain ⟨a,cap,rfl,hc⟩:=id hv
 unfold pright0
 have K1:∀ {o},Keep nx h (hset h nx o):=(Keep.refl _ _).set (Nat.le_refl _)
 have fin:∀ {e:Int},planE k n src len ds=e→∀ {o},EqK (.int .i64 (planE k n src len ds)) nx h (.int .i64 e) (hset h nx o) (nx+1):=fun {e} he {o}=>⟨by rw [he],K1,by omega⟩
 have last:¬ (k≤0∨5<k)→(0≤n∧n≤4096)→¬ (k=4∧¬ (0≤len∧len≤8192))→¬ ((k=4∨k=1∨k=2)∧¬ (0≤src∧src≤n-1))→pright0k0 s (EqK (.int .i64 (planE k n src len ds)) nx h) (.pointer (some ⟨nx,0,none⟩)) (hset h nx (.cells [.int .i64 k,.int .i64 n,.int .i64 src,.int .i64 len,.slice a ds.length cap] false)) (nx+1):=fun h1 h2 h3 h4=>by
  have e:planE k n src len ds=if 65536<ds.length then 5 else if ds.any badD=true then 7 else 0:=by
   unfold planE; rw [if_neg h1,if_neg (fun h=>h h2),if_neg h3,if_neg h4]
  unfold pright0k0
  simp (disch:=omega) only [SS,seval]
  refine ⟨fun h5=>fin (by rw [e,if_pos (by omega)]),fun h5=>?_⟩
  refine (contsI_c (hv.keep K1 (Nat.le_succ _)) (by omega) (fun x h nx=>pright1_c)).mono ?_
  rintro r h1 n1 ⟨rfl,hk,hle⟩
  simp (disch:=omega) only [SS,seval]
  refine ⟨fun h6=>⟨by rw [e,if_neg (by omega),if_pos h6],K1.trans hk (by omega),by omega⟩,fun h6=>⟨?_,K1.trans hk (by omega),by omega⟩⟩
  rw [e,if_neg (by omega),if_neg (by rw [h6]; simp)]
 have k1:(k≤0∨5<k)→∀ {o},pright0k1 s (EqK (.int .i64 (planE k n src len ds)) nx h) (.pointer (some ⟨nx,0,none⟩)) (.bool true) (hset h nx o) (nx+1):=fun hk {o}=>by
  unfold pright0k1
  simp (disch:=omega) only [SS,seval]
  exact fin (by unfold planE; rw [if_pos hk])
 simp (disch:=omega) only [SS,seval]
 refine ⟨fun h0=>k1 (.inl (by omega)),fun h0=>?_⟩
 by_cases h5:5<k
 ·rw [decide_eq_true h5]; exact k1 (.inr h5)
 rw [decide_eq_false h5]
 have hk:¬ (k≤0∨5<k):=by omega
 unfold pright0k1
 simp (disch:=omega) only [SS,seval]
 refine pwithin_c.mono ?_
 rintro r h1 n1 ⟨rfl,e1,e2⟩
 rw [e1,e2]
 by_cases hn:0≤n∧n≤4096
 case neg =>
  rw [inB_f hn]
  simp (disch:=omega) only [SS,seval]
  exact fin (by unfold planE; rw [if_neg hk,if_pos hn])
 rw [inB_t hn]
 have hw:IntKind.wrap .i64 (n-1)=n-1:=wrapD0 (by omega) (by omega)
 have hsrc:(k=4∨k=1∨k=2)→¬ (k=4∧¬ (0≤len∧len≤8192))→Cv Q O s 222 [.int .i64 src,.int .i64 (n-1)] (hset h nx (.cells [.int .i64 k,.int .i64 n,.int .i64 src,.int .i64 len,.slice a ds.length cap] false)) (nx+1) fun x41 h42 n43=>RK (oUn .not x41) fun x44=>IF x44 (EqK (.int .i64 (planE k n src len ds)) nx h (.int .i64 3) h42 n43) (pright0k0 s (EqK (.int .i64 (planE k n src len ds)) nx h) (.pointer (some ⟨nx,0,none⟩)) h42 n43):=fun hk3 h4=>by
  refine pwithin_c.mono ?_
  rintro r h1 n1 ⟨rfl,e1,e2⟩
  rw [e1,e2]
  by_cases hs:0≤src∧src≤n-1
  ·rw [inB_t hs]
   simp (disch:=omega) only [SS,seval]
   exact last hk hn h4 (fun h=>h.2 hs)
  ·rw [inB_f hs]
   simp (disch:=omega) only [SS,seval]
   exact fin (by unfold planE; rw [if_neg hk,if_neg (fun h=>h hn),if_neg h4,if_pos ⟨hk3,hs⟩])
 simp (disch:=omega) only [SS,hw,seval]
 refine ⟨fun h4=>?_,fun h4=>?_⟩
 ·have h4:k=4:=by simpa using h4
  refine pwithin_c.mono ?_
  rintro r h1 n1 ⟨rfl,e1,e2⟩
  rw [e1,e2]
  by_cases hl:0≤len∧len≤8192
  ·rw [inB_t hl]
   simp (disch:=omega) only [SS,hw,seval]
   exact hsrc (.inl h4) (fun h=>h.2 hl)
  ·rw [inB_f hl]
   simp (disch:=omega) only [SS,seval]
   exact fin (by unfold planE; rw [if_neg hk,if_neg (fun h=>h hn),if_pos ⟨h4,hl⟩])
 ·have h4:k≠4:=by simpa using h4
  refine ⟨fun h1=>?_,fun h1=>⟨fun h2=>?_,fun h2=>?_⟩⟩
  ·have h1:k=1:=by simpa using h1
   exact hsrc (.inr (.inl h1)) (fun h=>h4 h.1)
  ·have h2:k=2:=by simpa using h2
   exact hsrc (.inr (.inr h2)) (fun h=>h4 h.1)
  ·have h1:k≠1:=by simpa using h1
   have h2:k≠2:=by simpa using h2
   exact last hk hn (fun h=>h4 h.1) (fun h=>by rcases h.1 with h | h | h <;> contradiction)
def rightE (n:Int) (es:List Edg3):Int:=if n<0 then 3 else if 4096<n∨65536<es.length then 5 else if es.any (badE n)=true then 3 else if es.any badW=true then 7 else 0
theorem rightE_V {n:Int} {es:List Edg3}:rightE n es=0↔RightV n es:=by
 unfold rightE RightV
 constructor
 ·intro h
  split at h
  ·cases h
  ·split at h
   ·cases h
   ·split at h
    ·cases h
    ·split at h
     ·cases h
     ·rename_i h1 h2 h3 h4
      refine ⟨by omega,by omega,by omega,fun e he hb=>h3 (List.any_eq_true.2 ⟨e,he,badE_iff.2 hb⟩),fun e he hb=>h4 (List.any_eq_true.2 ⟨e,he,badW_iff.2 hb⟩)⟩
 ·rintro ⟨h1,h2,h3,h4,h5⟩
  rw [if_neg (by omega),if_neg (by omega),if_neg,if_neg]
  ·intro h
   obtain ⟨e,he,hb⟩:=List.any_eq_true.1 h
   exact h5 e he (badW_iff.1 hb)
  ·intro h
   obtain ⟨e,he,hb⟩:=List.any_eq_true.1 h
   exact h4 e he (badE_iff.1 hb)
theorem right_x {s:Bool} {n:Int} {v:Value} {es:List Edg3} {h:Hp} {nx:Nat} (hv:SlPx h nx v enc3 es) :
  Cv Q O s 107 [.agg ⟨[.int .i64 n,v]⟩] h nx (EqK (.int .i64 (rightE n es)) nx h):=by
 refine rightv ?_
 obtain ⟨a,cap,rfl,hc⟩:=id hv
 unfold right
 simp (disch:=omega) only [SS,seval]
 have K1:Keep nx h (hset (hset (hset h nx (.cells [.int .i64 n,.slice a es.length cap] false)) (nx+1) (.cells [.nilFunc] false)) (nx+1) (.cells [.func (.func 192) ⟨[]⟩ ⟨[.pointer (some ⟨nx,0,none⟩)]⟩] false)):=fun b hb=>by rw [hold (by omega),hold (by omega),hold (by omega)]
 have no:∀ {e:Int},rightE n es=e→∀ {h':Hp} {nx':Nat},Keep nx h h'→nx≤nx'→EqK (.int .i64 (rightE n es)) nx h (.int .i64 e) h' nx':=fun {e} he {h' nx'} hk hle=>⟨by rw [he],hk,hle⟩
 refine ⟨fun h1=>no (by unfold rightE; rw [if_pos h1]) K1 (by omega),fun h1=>⟨fun h2=>no (by unfold rightE; rw [if_neg h1,if_pos (.inl h2)]) K1 (by omega),fun h2=>⟨fun h3=>no (by unfold rightE; rw [if_neg h1,if_pos (.inr (by omega))]) K1 (by omega),fun h3=>?_⟩⟩⟩
 have h23:¬ (4096<n∨65536<es.length):=by omega
 refine (conts_c (badE n) (hv.keep K1 (by omega)) (by omega) (fun g hg h' nx' K hk hle hK=>?_)).mono ?_
 ·have g0:=hk nx (by omega)
  have g1:=hk (nx+1) (by omega)
  rw [hold (by omega),hold (by omega),hnew] at g0
  rw [hnew] at g1
  have kk:∀ {o},Keep nx' h' (hset h' nx' o):=(Keep.refl _ _).set (Nat.le_refl _)
  simp (disch:=omega) only [SS,seval]
  refine right2v ?_
  unfold right2 enc3
  simp (disch:=omega) only [SS,g1,seval]
  refine right1v ?_
  unfold right1
  simp (disch:=omega) only [SS,g0,seval]
  refine ⟨fun h1=>hK _ _ _ (by unfold badE; simp [h1]) kk (Nat.le_succ _),fun h1=>⟨fun h2=>hK _ _ _ (by unfold badE; simp [h1]; omega) kk (Nat.le_succ _),fun h2=>?_⟩⟩
  simp (disch:=omega) only [SS,g1,seval]
  refine right1v ?_
  unfold right1
  simp (disch:=omega) only [SS,g0,seval]
  refine ⟨fun h3=>hK _ _ _ (by unfold badE; simp [h3]) kk (Nat.le_succ _),fun h3=>?_⟩
  refine hK _ _ _ ?_ kk (Nat.le_succ _)
  unfold badE
  rw [decide_eq_false h1,decide_eq_true h2,decide_eq_false h3]
  rfl
 ·rintro r h4 nx4 ⟨rfl,hk4,hle4⟩
  have g0:=hk4 nx (by omega)
  rw [hold (by omega),hold (by omega),hnew] at g0
  have K4:=K1.trans hk4 (by omega)
  simp (disch:=omega) only [SS,g0,seval]
  refine ⟨fun h5=>no (by unfold rightE; rw [if_neg h1,if_neg h23,if_pos h5]) K4 (by omega),fun h5=>?_⟩
  have h5':¬ es.any (badE n)=true:=by rw [h5]; simp
  refine (conts_c badW ((hv.keep K1 (by omega)).keep hk4 hle4) (by omega) (fun g hg h' nx' K hk hle hK=>?_)).mono ?_
  ·have kk:∀ {o},Keep nx' h' (hset h' nx' o):=(Keep.refl _ _).set (Nat.le_refl _)
   simp (disch:=omega) only [SS,seval]
   refine right3v ?_
   unfold right3 enc3
   simp (disch:=omega) only [SS,seval]
   refine ⟨fun h1=>hK _ _ _ (by unfold badW; simp [h1]) kk (Nat.le_succ _),fun h1=>hK _ _ _ (by unfold badW; simp [h1]) kk (Nat.le_succ _)⟩
  ·rintro r h6 nx6 ⟨rfl,hk6,hle6⟩
   have K6:=K4.trans hk6 (by omega)
   simp (disch:=omega) only [SS,seval]
   refine ⟨fun h7=>no (by unfold rightE; rw [if_neg h1,if_neg h23,if_neg h5',if_pos h7]) K6 (by omega),fun h7=>no ?_ K6 (by omega)⟩
   unfold rightE; rw [if_neg h1,if_neg h23,if_neg h5',if_neg (by rw [h7]; simp)]
def turnG (e:GE):GE:=⟨e.t,e.f,e.w⟩
def oneG (e:GE):GE:=⟨e.f,e.t,1⟩
def PassK (e:GE) (b:Bool) (nx:Nat) (h:Hp):KC':=EqK (.tuple ⟨[.agg ⟨[.int .i64 (e.f:Int),.int .i64 (e.t:Int),.int .i64 e.w]⟩,.bool b]⟩) nx h
theorem turned_c {s:Bool} {e:GE} {h:Hp} {nx:Nat}:Cv Q O s 309 [.agg ⟨[.int .i64 (e.f:Int),.int .i64 (e.t:Int),.int .i64 e.w]⟩] h nx (PassK (turnG e) true nx h):=by
 refine turnedv ?_
 unfold turned
 simp (disch:=omega) only [SS,seval]
 exact ⟨rfl,(((Keep.refl _ _).set (Nat.le_refl _)).set (Nat.le_succ _)).set (Nat.le_succ _),by omega⟩
theorem plain1_c {s:Bool} {e:GE} {h:Hp} {nx:Nat}:Cv Q O s 230 [.agg ⟨[.int .i64 (e.f:Int),.int .i64 (e.t:Int),.int .i64 e.w]⟩] h nx (PassK (oneG e) true nx h):=by
 refine plain1v ?_
 unfold plain1
 simp (disch:=omega) only [SS,seval]
 exact ⟨rfl,((((Keep.refl _ _).set (Nat.le_refl _)).set (Nat.le_succ _)).set (Nat.le_refl _)).set (Nat.le_succ _),by omega⟩
def noLoop (e:GE):Bool:=decide (e.f≠e.t)
theorem simple1_c {s:Bool} {e:GE} {h:Hp} {nx:Nat}:Cv Q O s 226 [.agg ⟨[.int .i64 (e.f:Int),.int .i64 (e.t:Int),.int .i64 e.w]⟩] h nx (PassK e (noLoop e) nx h):=by
 refine simple1v ?_
 unfold simple1
 simp (disch:=omega) only [SS,seval]
 refine ⟨?_,(((Keep.refl _ _).set (Nat.le_refl _)).set (Nat.le_succ _)).set (Nat.le_succ _),by omega⟩
 have:(!((e.f:Int) == (e.t:Int)))=noLoop e:=by
  unfold noLoop
  by_cases h:e.f=e.t
  ·rw [h]; simp
  ·rw [decide_eq_true h,beq_eq_false_iff_ne.2 (by omega)]; rfl
 rw [this]
def MaJ (N p1 p4 f:Nat) (v0:Value) (p:GE→Bool) (m:GE→GE) (gs:List GE) (nx:Nat) (h:Hp) (q:Nat) (vs:List Value) (h':Hp) (nx':Nat):Prop :=
 ∃ (i:Nat) (o:Value),q=gs.length-i∧i≤gs.length∧vs=[.func (.func f) ⟨[]⟩ ⟨[]⟩,.pointer (some ⟨p1,0,none⟩),.pointer (some ⟨p4,0,none⟩),o,v0,.int .i64 (gs.length:Int),.int .i64 (i:Int)] ∧
  hget h' p1=some (.cells [.int .i64 (N:Int),v0] false)∧hget h' p4=some (.cells [.int .i64 0,.slice none 0 0] false)∧SlAt h' o encG 3 (((gs.take i).filter p).map m) (nx+1+1) nx'∧Keep nx h h'∧nx+1+1≤nx'
theorem made_c {s:Bool} {N f:Nat} {p:GE→Bool} {m:GE→GE} {gs:List GE} {v:Value} {h:Hp} {nx:Nat} (hv:SlPx h nx v encG gs) (hN:N≤2147483648) (hl:gs.length≤120) (hok:∀ g∈(gs.filter p).map m,GOk N g)
  (hf:∀ (e:GE) (h:Hp) (nx:Nat),Cv Q O s f [.agg ⟨[.int .i64 (e.f:Int),.int .i64 (e.t:Int),.int .i64 e.w]⟩] h nx (PassK (m e) (p e) nx h)) :
  Cv Q O s 225 [.agg ⟨[.int .i64 (N:Int),v]⟩,.func (.func f) ⟨[]⟩ ⟨[]⟩] h nx (CanK N ((gs.filter p).map m) nx h):=by
 refine madev ?_
 obtain ⟨a,cap,rfl,hc⟩:=id hv
 unfold made
 simp (disch:=omega) only [SS,seval]
 have hml:((gs.filter p).map m).length≤gs.length:=by rw [List.length_map]; exact List.length_filter_le _ _
 have K0:∀ {o o'},Keep nx h (hset (hset h nx o) (nx+1) o'):=((Keep.refl _ _).set (Nat.le_refl _)).set (Nat.le_succ _)
 refine Lp.mk (MaJ N nx (nx+1) f (.slice a gs.length cap) p m gs nx h) gs.length ⟨0,_,rfl,by omega,rfl,by rw [hold (by omega),hnew],hnew _ _ _,.inl ⟨rfl,rfl⟩,K0,Nat.le_refl _⟩ ?_
 rintro q _ h1 nx1 ⟨i,o,rfl,hi,rfl,g1,g4,S,hk,hle⟩
 rw [madeb0]
 unfold madel0
 simp (disch:=omega) only [SS,seval]
 refine ⟨fun hlt=>?_,fun hge=>?_⟩
 ·obtain ⟨e,he⟩:=get_ex hlt
  obtain ⟨_,b,sp,ro,c1,cs,hb,e1,hg⟩:=hv.at he
  cases e1
  have hrd:loadC (some 3) (i*3) (flat encG gs++cs) = .ok (.agg ⟨[.int .i64 (e.f:Int),.int .i64 (e.t:Int),.int .i64 e.w]⟩):=rdP (enc:=encG) (k:=3) (fun _=>rfl) he (cs:=cs)
  simp (disch:=omega) only [SS,(hk b hb).trans hg,hrd,seval]
  refine (hf e _ _).mono ?_
  rintro r h2 nx2 ⟨rfl,hk2,hle2⟩
  have kk:Keep nx1 h1 h2:=(((Keep.refl nx1 h1).set (Nat.le_refl _)).set (Nat.le_refl _)).trans hk2 (Nat.le_succ _)
  have ht:((gs.take (i+1)).filter p).map m=((gs.take i).filter p).map m++(if p e then [m e] else []):=by
   rw [List.take_add_one,he,List.filter_append,List.map_append]
   cases hp:p e <;> simp [hp]
  simp (disch:=omega) only [SS,seval]
  refine ⟨fun hp=>?_,fun hp=>?_⟩
  ·refine EK_appS (enc:=encG) (k:=3) (lo:=nx+1+1) (fun _=>rfl) (fun _=>rfl) (by omega) (S.keep (fun c h1 h2=>by rw [hold (by omega),hold (by omega),hold (by omega),kk c h2]) (by omega)) (by omega) (m e) (hnew _ _ _) rfl ?_ fun v5 h5 hs5 hk5=>?_
   ·have h1:=List.length_filter_le p (gs.take i)
    have h2:=List.length_take_le i gs
    rw [List.length_map]
    omega
   ·refine ⟨gs.length-(i+1),by omega,i+1,v5,rfl,by omega,by rw [wrap_s (by omega)],?_,?_,by rw [ht,hp]; exact hs5,fun c hc=>?_,by omega⟩
    ·rw [hk5 _ (by omega),hold (by omega),hold (by omega),hold (by omega),kk _ (by omega)]; exact g1
    ·rw [hk5 _ (by omega),hold (by omega),hold (by omega),hold (by omega),kk _ (by omega)]; exact g4
    ·rw [hk5 _ (by omega),hold (by omega),hold (by omega),hold (by omega),kk _ (by omega)]; exact hk c hc
  ·refine ⟨gs.length-(i+1),by omega,i+1,o,rfl,by omega,by rw [wrap_s (by omega)],?_,?_,?_,fun c hc=>?_,by omega⟩
   ·rw [hold (by omega),hold (by omega),kk _ (by omega)]; exact g1
   ·rw [hold (by omega),hold (by omega),kk _ (by omega)]; exact g4
   ·rw [ht,hp]
    simp only [Bool.false_eq_true,if_false,List.append_nil]
    exact S.keep (fun c h1 h2=>by rw [hold (by omega),hold (by omega),kk c h2]) (by omega)
   ·rw [hold (by omega),hold (by omega),kk _ (by omega)]; exact hk c hc
 ·have hie:i=gs.length:=by omega
  subst hie
  rw [List.take_length] at S
  obtain ⟨a2,n2,c2,rfl⟩:=S.form
  simp (disch:=omega) only [SS,g1,seval]
  refine (canon_c (SlPx.of S.rd) hN hok (by omega)).mono ?_
  rintro r h2 nx2 ⟨v2,cs,rfl,hcs,hcan,hcok,hcl,hk2,hle2⟩
  obtain ⟨a3,n3,c3,rfl⟩:=hcs.form
  have g4':=(hk2 (nx+1) (by omega)).trans g4
  simp (disch:=omega) only [SS,g4',seval]
  refine ⟨_,cs,rfl,?_,hcan,hcok,hcl,fun c hc=>by rw [hold (by omega),hk2 c (by omega)]; exact hk c hc,by omega⟩
  rcases hcs with hcs | ⟨b,h1,h2,e,hb⟩
  ·exact .inl hcs
  ·exact .inr ⟨b,by omega,h2,e,by rw [hold (by omega)]; exact hb⟩
def turnM (gs:List GE):List GE:=(gs.filter fun _=>true).map turnG
def simpleM (gs:List GE):List GE:=(gs.filter noLoop).map id
def plainM (gs:List GE):List GE:=(gs.filter fun _=>true).map oneG
theorem turnM_ok {N:Nat} {gs:List GE} (h:∀ g∈gs,GOk N g):∀ g∈turnM gs,GOk N g:=fun g hg=>by
 obtain ⟨e,he,rfl⟩:=List.mem_map.1 hg
 have:=h e (List.mem_filter.1 he).1
 exact ⟨this.2.1,this.1,this.2.2⟩
theorem simpleM_ok {N:Nat} {gs:List GE} (h:∀ g∈gs,GOk N g):∀ g∈simpleM gs,GOk N g:=fun g hg=>by
 obtain ⟨e,he,rfl⟩:=List.mem_map.1 hg
 exact h e (List.mem_filter.1 he).1
theorem plainM_ok {N:Nat} {gs:List GE} (h:∀ g∈gs,GOk N g):∀ g∈plainM gs,GOk N g:=fun g hg=>by
 obtain ⟨e,he,rfl⟩:=List.mem_map.1 hg
 have:=h e (List.mem_filter.1 he).1
 exact ⟨this.1,this.2.1,by show (0:Int)≤1; omega,by show (1:Int)≤2147483647; omega⟩
theorem mapf_len {p:GE→Bool} {m:GE→GE} (gs:List GE):((gs.filter p).map m).length≤gs.length:=by rw [List.length_map]; exact List.length_filter_le _ _
theorem turn_c {s:Bool} {N:Nat} {gs:List GE} {v:Value} {h:Hp} {nx:Nat} (hv:SlPx h nx v encG gs) (hN:N≤2147483648) (hl:gs.length≤120) (hok:∀ g∈gs,GOk N g) :
  Cv Q O s 229 [.agg ⟨[.int .i64 (N:Int),v]⟩] h nx (CanK N (turnM gs) nx h):=by
 refine turnv ?_
 obtain ⟨a,cap,rfl,hc⟩:=id hv
 unfold turn
 simp (disch:=omega) only [SS,seval]
 have K0:∀ {o o'},Keep nx h (hset (hset h nx o) (nx+1) o'):=((Keep.refl _ _).set (Nat.le_refl _)).set (Nat.le_succ _)
 refine (made_c (p:=fun _=>true) (m:=turnG) (hv.keep K0 (by omega)) hN hl (turnM_ok hok) fun e h nx=>turned_c).mono ?_
 rintro r h2 nx2 ⟨v2,cs,rfl,hcs,hcan,hcok,hcl,hk2,hle2⟩
 obtain ⟨a3,n3,c3,rfl⟩:=hcs.form
 have g4':=hk2 (nx+1) (by omega)
 rw [hnew] at g4'
 simp (disch:=omega) only [SS,g4',seval]
 refine ⟨_,cs,rfl,?_,hcan,hcok,Nat.le_trans hcl (Nat.le_refl _),fun c hc=>by rw [hold (by omega),hk2 c (by omega)]; exact K0 c hc,by omega⟩
 rcases hcs with hcs | ⟨b,h1,h2,e,hb⟩
 ·exact .inl hcs
 ·exact .inr ⟨b,by omega,h2,e,by rw [hold (by omega)]; exact hb⟩
theorem simple_c {s:Bool} {N:Nat} {gs:List GE} {v:Value} {h:Hp} {nx:Nat} (hv:SlPx h nx v encG gs) (hN:N≤2147483648) (hl:gs.length≤120) (hok:∀ g∈gs,GOk N g) :
  Cv Q O s 129 [.agg ⟨[.int .i64 (N:Int),v]⟩] h nx (CanK N (simpleM gs) nx h):=by
 refine simplev ?_
 obtain ⟨a,cap,rfl,hc⟩:=id hv
 unfold simple
 simp (disch:=omega) only [SS,seval]
 have K0:∀ {o o'},Keep nx h (hset (hset h nx o) (nx+1) o'):=((Keep.refl _ _).set (Nat.le_refl _)).set (Nat.le_succ _)
 refine (made_c (p:=noLoop) (m:=id) (hv.keep K0 (by omega)) hN hl (simpleM_ok hok) fun e h nx=>simple1_c).mono ?_
 rintro r h2 nx2 ⟨v2,cs,rfl,hcs,hcan,hcok,hcl,hk2,hle2⟩
 obtain ⟨a3,n3,c3,rfl⟩:=hcs.form
 have g4':=hk2 (nx+1) (by omega)
 rw [hnew] at g4'
 simp (disch:=omega) only [SS,g4',seval]
 refine ⟨_,cs,rfl,?_,hcan,hcok,Nat.le_trans hcl (Nat.le_refl _),fun c hc=>by rw [hold (by omega),hk2 c (by omega)]; exact K0 c hc,by omega⟩
 rcases hcs with hcs | ⟨b,h1,h2,e,hb⟩
 ·exact .inl hcs
 ·exact .inr ⟨b,by omega,h2,e,by rw [hold (by omega)]; exact hb⟩
theorem plain_c {s:Bool} {N:Nat} {gs:List GE} {v:Value} {h:Hp} {nx:Nat} (hv:SlPx h nx v encG gs) (hN:N≤2147483648) (hl:gs.length≤120) (hok:∀ g∈gs,GOk N g) :
  Cv Q O s 131 [.agg ⟨[.int .i64 (N:Int),v]⟩] h nx (CanK N (plainM gs) nx h):=by
 refine plainv ?_
 obtain ⟨a,cap,rfl,hc⟩:=id hv
 unfold plain
 simp (disch:=omega) only [SS,seval]
 have K0:∀ {o o'},Keep nx h (hset (hset h nx o) (nx+1) o'):=((Keep.refl _ _).set (Nat.le_refl _)).set (Nat.le_succ _)
 refine (made_c (p:=fun _=>true) (m:=oneG) (hv.keep K0 (by omega)) hN hl (plainM_ok hok) fun e h nx=>plain1_c).mono ?_
 rintro r h2 nx2 ⟨v2,cs,rfl,hcs,hcan,hcok,hcl,hk2,hle2⟩
 obtain ⟨a3,n3,c3,rfl⟩:=hcs.form
 have g4':=hk2 (nx+1) (by omega)
 rw [hnew] at g4'
 simp (disch:=omega) only [SS,g4',seval]
 refine ⟨_,cs,rfl,?_,hcan,hcok,Nat.le_trans hcl (Nat.le_refl _),fun c hc=>by rw [hold (by omega),hk2 c (by omega)]; exact K0 c hc,by omega⟩
 rcases hcs with hcs | ⟨b,h1,h2,e,hb⟩
 ·exact .inl hcs
 ·exact .inr ⟨b,by omega,h2,e,by rw [hold (by omega)]; exact hb⟩
theorem flat_cat {α:Type} {enc:α→List Value}:∀ (l m:List α),flat enc (l++m)=flat enc l++flat enc m
 | [],m=>rfl
 | x::l,m=>by show enc x++flat enc (l++m)=enc x++flat enc l++flat enc m; rw [flat_cat l m,List.append_assoc]
theorem cellL_flat:∀ l:List GE,cellL (flat encG l)=true
 | []=>rfl
 | x::l=>by
  show cellL (encG x++flat encG l)=true
  have ih:=cellL_flat l
  show (cellV (.int .i64 (x.f:Int))&&(cellV (.int .i64 (x.t:Int))&&(cellV (.int .i64 x.w)&&cellL (flat encG l))))=true
  rw [ih]; rfl
theorem app_many {h:Hp} {nx b k n:Nat} {acc y:List GE} {cs:List Value} {v2:Value} (hb:hget h b=some (.cells (flat encG acc++cs) false)) (hk:acc.length=k) (hn:k+y.length≤n) (hcs:cs.length=(n-k)*3) (hv:SlPx h nx v2 encG y) :
  ∃ h',appendA 3 h nx (.slice (some ⟨b,0,some 3⟩) k n) v2 = .ok (.val (.slice (some ⟨b,0,some 3⟩) (k+y.length) n) h' nx)∧hget h' b=some (.cells (flat encG (acc++y)++cs.drop (y.length*3)) false)∧∀ c,c≠b→hget h' c=hget h c:=by
 obtain ⟨a2,c2,rfl,hc⟩:=hv
 by_cases h0:y=[]
 ·subst h0
  refine ⟨h,?_,by rw [List.append_nil,List.length_nil,Nat.zero_mul,List.drop_zero]; exact hb,fun c _=>rfl⟩
  have hr:∀ (K:List Value→R OR),readA h a2 (Nat.mul 0 3) K=K []:=fun K=>by
   cases a2 <;> rfl
  show readA h a2 (Nat.mul 0 3) (fun new=>appGo 3 h nx (some ⟨b,0,some 3⟩) k n 0 new)=_
  rw [hr]
  unfold appGo
  rw [show Nat.ble (Nat.add k 0) n=true from Nat.ble_eq_true_of_le (by simpa using hn)]
  rfl
 ·obtain ⟨b2,sp,ro,cs2,hb2,rfl,hg⟩:=hc h0
  have hyl:0<y.length:=List.length_pos_iff.2 h0
  have hfl:=flat_len (enc:=encG) (k:=3) (fun _=>rfl) (l:=y)
  have hfa:=flat_len (enc:=encG) (k:=3) (fun _=>rfl) (l:=acc)
  show ∃ h',readA h (some ⟨b2,0,sp⟩) (Nat.mul y.length 3) (fun new=>appGo 3 h nx (some ⟨b,0,some 3⟩) k n y.length new)=_∧_
  rw [show Nat.mul y.length 3=y.length*3 from rfl,readA_eq hg (by omega) (by rw [List.length_append,hfl]; omega),List.drop_zero,← hfl,List.take_left]
  unfold appGo
  rw [show Nat.ble (Nat.add k y.length) n=true from Nat.ble_eq_true_of_le hn]
  obtain ⟨x,r,hxr⟩:∃ x r,flat encG y=x::r:=by
   cases hf:flat encG y with
   | nil=>rw [hf] at hfl; simp at hfl; omega
   | cons x r=>exact ⟨x,r,rfl⟩
  have hw:writeA h b (Nat.add 0 (Nat.mul k 3)) (flat encG y) = .ok (hset h b (.cells (flat encG (acc++y)++cs.drop (y.length*3)) false)):=by
   rw [show Nat.add 0 (Nat.mul k 3)=k*3 from Nat.zero_add _,writeA_cells hb (cellL_flat y) (by rw [List.length_append,hfa,hfl,hcs,hk]; omega)]
   have e1:(flat encG acc++cs).take (k*3)=flat encG acc:=by rw [← hk,← hfa,List.take_left]
   have e2:(flat encG acc++cs).drop (k*3+(flat encG y).length)=cs.drop (y.length*3):=by rw [← hk,← hfa,hfl,List.drop_length_add_append]
   rw [e1,e2,flat_cat]
  refine ⟨hset h b (.cells (flat encG (acc++y)++cs.drop (y.length*3)) false),?_,by rw [hgs,if_pos rfl,hfl],fun c hc=>by rw [hgs,if_neg hc]⟩
  rw [hxr] at hw ⊢
  show R.bind (writeA h b (Nat.add 0 (Nat.mul k 3)) (x::r)) _=_
  rw [hw]; rfl
theorem cap22 {P:Program} {x:Value} {n:Nat}:vCap Tryz.prog (.builtin .cap) [26] [.slice none 0 0] = .ok (.int .i64 0):=by kernel_rfl
theorem ze1:elemOfS Tryz.prog 26=some 84:=by kernel_rfl
theorem ze2:szOf Tryz.prog 84=some 3:=by kernel_rfl
theorem ze3:zeroOf Tryz.prog 84=some [.int .i64 0,.int .i64 0,.int .i64 0]:=by kernel_rfl
theorem ze4:smallT Tryz.prog 84=true:=by kernel_rfl
theorem ze5:isIntT Tryz.prog (some 3)=true:=by kernel_rfl
theorem repL_len (n:Nat) (z:List Value):(repL n z).length=n*z.length:=by
 induction n with
 | zero=>simp [repL]
 | succ n ih=>simp [repL,ih,Nat.add_mul,lapp_eq]; omega
theorem apz {n:Nat} {h:Hp} {nx:Nat} (h0:0<n) (h1:n≤1000):builtinA Tryz.prog .append [26,3] h nx [.slice none 0 0,.int .i64 (n:Int)] = .ok (.val (.slice (some ⟨nx,0,some 3⟩) n n) (hset h nx (.cells (repL n [.int .i64 0,.int .i64 0,.int .i64 0]) false)) (nx+1)):=by
 show R.of "append" (elemOfS Tryz.prog 26) (fun e=>R.of "append" (szOf Tryz.prog e) (fun s=>R.of "append" (zeroOf Tryz.prog e) (fun z=>bif Nat.beq (llen z) s&&smallT Tryz.prog e then append2 Tryz.prog [26,3] z s h nx (.slice none 0 0) (.int .i64 (n:Int)) else .no "append - element")))=_
 rw [ze1]
 show R.of "append" (szOf Tryz.prog 84) (fun s=>R.of "append" (zeroOf Tryz.prog 84) (fun z=>bif Nat.beq (llen z) s&&smallT Tryz.prog 84 then append2 Tryz.prog [26,3] z s h nx (.slice none 0 0) (.int .i64 (n:Int)) else .no "append - element"))=_
 rw [ze2,ze3,ze4]
 show append2 Tryz.prog [26,3] [.int .i64 0,.int .i64 0,.int .i64 0] 3 h nx (.slice none 0 0) (.int .i64 (n:Int))=_
 unfold append2
 rw [show lget [26,3] 1=some 3 from rfl,ze5]
 show (bif Nat.ble n 1000000 then appGo 3 h nx none 0 0 n (repL n [.int .i64 0,.int .i64 0,.int .i64 0]) else .no "append")=_
 rw [show Nat.ble n 1000000=true from Nat.ble_eq_true_of_le (by omega)]
 show appGo 3 h nx none 0 0 n _=_
 unfold appGo
 rw [show Nat.ble (Nat.add 0 n) 0=false from by
  cases hb:Nat.ble (Nat.add 0 n) 0 with
  | false=>rfl
  | true=>have:=Nat.le_of_ble_eq_true hb; have e:Nat.add 0 n=n:=Nat.zero_add n; omega]
 rw [show (Nat.ble (Nat.mul (Nat.add 0 n) 3) 1000000&&Nat.ble (Nat.add 0 n) 1000000)=true from by
  rw [show Nat.add 0 n=n from Nat.zero_add n]
  simp only [Bool.and_eq_true,Nat.ble_eq]
  constructor
  ·show n*3≤_; omega
  ·omega]
 show growN h nx 3 _ (Nat.add 0 n)=_
 rw [show Nat.add 0 n=n from Nat.zero_add n]
 exact growN_eq (by omega)
theorem grow_c {s:Bool} {n:Nat} {h:Hp} {nx:Nat} (hn:n≤1000):Cv Q O s 308 [.slice none 0 0,.int .i64 (n:Int)] h nx (fun r h' nx'=>(n=0∧r = .slice none 0 0∧h'=h∧nx'=nx)∨(0<n∧r = .slice (some ⟨nx,0,some 3⟩) 0 n∧(∃ cs,hget h' nx=some (.cells cs false)∧cs.length=n*3)∧Keep nx h h'∧nx'=nx+1)):=by
 refine growv ?_
 unfold grow
 rw [cap22 (P:=Tryz.prog) (x:=.nilFunc) (n:=0)]
 have w0:IntKind.wrap .i64 (0-((0:Nat):Int))=0:=by rfl
 have w1:IntKind.wrap .i64 ((n:Int)-0)=(n:Int):=by rw [Int.sub_zero]; exact wrapN n (by omega)
 simp (disch:=omega) only [SS,↓reduceIte,Nat.reduceAdd,Nat.reduceSub,Nat.reduceMul,Nat.reduceLT,Nat.reduceLeDiff,Nat.reduceEqDiff,Int.reduceBEq,Int.reduceLT,Int.reduceNeg,w0,w1]
 refine ⟨fun h=>absurd h (by omega),fun _=>⟨fun h0=>?_,fun h0=>.inl (by omega)⟩⟩
 rw [show vSl 3 (.slice none 0 0) none (some (.int .i64 0)) none = .ok (.slice none 0 0) from rfl,RK_ok,show Q=Tryz.prog from rfl,apz (by omega) hn]
 show RK (vSl 3 (.slice (some ⟨nx,0,some 3⟩) n n) none (some (.int .i64 ((0:Nat):Int))) none) _
 have hsl:vSl 3 (.slice (some ⟨nx,0,some 3⟩) n n) none (some (.int .i64 ((0:Nat):Int))) none = .ok (.slice (some ⟨nx,0,some 3⟩) 0 n):=by
  obtain ⟨m,rfl⟩:∃ m,n=m+1:=⟨n-1,by omega⟩
  show sliceV 3 (some ⟨nx,0,some 3⟩) (m+1) false (m+1) 0 0=_
  unfold sliceV
  rw [show (Nat.ble (m+1) (m+1)&&(Nat.ble 0 (m+1)&&Nat.ble 0 0))=true by simp only [Bool.and_eq_true,Nat.ble_eq]; omega]
  rfl
 rw [hsl,RK_ok]
 exact .inr ⟨by omega,rfl,⟨_,hnew _ _ _,by rw [repL_len]; rfl⟩,fun c hc=>hold (by omega),rfl⟩
def ac2 (l1 l2:List GE):Nat→List GE
 | 0=>[]
 | 1=>l1
 | _=>l1++l2
def CcJ0 (l1 l2:List GE) (p:Nat) (h:Hp) (nx:Nat) (m:Nat) (vs:List Value) (h':Hp) (nx':Nat):Prop :=
 ∃ i,m=2-i∧i≤2∧vs=[.slice (some ⟨p,0,none⟩) 2 2,.int .i64 ((ac2 l1 l2 i).length:Int),.slice (some ⟨p,0,none⟩) 2 2,.int .i64 2,.int .i64 (i:Int)]∧h'=h∧nx'=nx
def CcO (h:Hp) (lo hi n:Nat) (acc:List GE) (o:Value):Prop:=(n=0∧acc=[]∧o = .slice none 0 0)∨∃ b cs,lo≤b∧b<hi∧o = .slice (some ⟨b,0,some 3⟩) acc.length n∧hget h b=some (.cells (flat encG acc++cs) false)∧cs.length=(n-acc.length)*3
def CcJ1 (l1 l2:List GE) (n p:Nat) (h:Hp) (nx:Nat) (m:Nat) (vs:List Value) (h':Hp) (nx':Nat):Prop :=
 ∃ (i:Nat) (o:Value),m=2-i∧i≤2∧vs=[o,.slice (some ⟨p,0,none⟩) 2 2,.int .i64 2,.int .i64 (i:Int)]∧CcO h' nx nx' n (ac2 l1 l2 i) o∧Keep nx h h'∧nx≤nx'
theorem concat_c {s:Bool} {p c:Nat} {l1 l2:List GE} {v1 v2:Value} {ro:Bool} {h:Hp} {nx:Nat} (hp:hget h p=some (.cells [v1,v2] ro)) (hpn:p<nx) (h1:SlPx h nx v1 encG l1) (h2:SlPx h nx v2 encG l2) (hl:l1.length+l2.length≤1000) :
  Cv Q O s 228 [.slice (some ⟨p,0,none⟩) 2 2] h nx (fun r h' nx'=>SlPx h' nx' r encG (l1++l2)∧Keep nx h h'∧nx≤nx'):=by
 refine concatv ?_
 obtain ⟨a1,c1,rfl,hc1⟩:=id h1
 obtain ⟨a2,c2,rfl,hc2⟩:=id h2
 unfold concat
 simp (disch:=omega) only [SS,↓reduceIte,Nat.reduceAdd,Nat.reduceSub,Nat.reduceMul,Nat.reduceLT,Nat.reduceLeDiff,Nat.reduceEqDiff,Int.reduceBEq,Int.reduceLT,Int.reduceNeg]
 refine Lp.mk (CcJ0 l1 l2 p h nx) 2 ⟨0,rfl,by omega,rfl,rfl,rfl⟩ ?_
 rintro m _ h3 nx3 ⟨i,rfl,hi,rfl,e1,e2⟩
 rw [e1,e2,concatb0]
 unfold concatl0
 match i,hi with
 | 0,_ =>
  have w:IntKind.wrap .i64 (((ac2 l1 l2 0).length:Int)+(l1.length:Int))=((ac2 l1 l2 1).length:Int):=by
   rw [show ((ac2 l1 l2 0).length:Int)+(l1.length:Int)=(l1.length:Int) by simp [ac2]]
   exact wrapN _ (by omega)
  simp (disch:=omega) only [SS,↓reduceIte,Nat.reduceAdd,Nat.reduceSub,Nat.reduceMul,Nat.reduceLT,Nat.reduceLeDiff,Nat.reduceEqDiff,Int.reduceBEq,Int.reduceLT,Int.reduceNeg,hp,w]
  exact ⟨fun _=>⟨fun h=>absurd h (by omega),fun _=>⟨1,by omega,1,rfl,by omega,rfl,rfl,rfl⟩⟩,fun h=>absurd (show ((0:Nat):Int)<2 by omega) h⟩
 | 1,_ =>
  have w:IntKind.wrap .i64 (((ac2 l1 l2 1).length:Int)+(l2.length:Int))=((ac2 l1 l2 2).length:Int):=by
   rw [show ((ac2 l1 l2 1).length:Int)+(l2.length:Int)=((l1.length+l2.length:Nat):Int) by simp [ac2]]
   rw [wrapN _ (by omega)]; simp [ac2]
  simp (disch:=omega) only [SS,↓reduceIte,Nat.reduceAdd,Nat.reduceSub,Nat.reduceMul,Nat.reduceLT,Nat.reduceLeDiff,Nat.reduceEqDiff,Int.reduceBEq,Int.reduceLT,Int.reduceNeg,hp,w]
  exact ⟨fun _=>⟨fun h=>absurd h (by omega),fun _=>⟨0,by omega,2,rfl,by omega,rfl,rfl,rfl⟩⟩,fun h=>absurd (show ((1:Nat):Int)<2 by omega) h⟩
 | 2,_ =>
  simp (disch:=omega) only [SS,↓reduceIte,Nat.reduceAdd,Nat.reduceSub,Nat.reduceMul,Nat.reduceLT,Nat.reduceLeDiff,Nat.reduceEqDiff,Int.reduceBEq,Int.reduceLT,Int.reduceNeg]
  refine ⟨fun h=>absurd h (by omega),fun _=>?_⟩
  have htot:(ac2 l1 l2 2).length=l1.length+l2.length:=by simp [ac2]
  refine (grow_c (by omega)).mono ?_
  intro r h4 nx4 hg
  generalize hn:(ac2 l1 l2 2).length=n at hg htot
  have st:CcO h4 nx nx4 n [] r∧Keep nx h h4∧nx≤nx4:=by
   rcases hg with ⟨h0,rfl,rfl,rfl⟩ | ⟨h0,rfl,⟨cs,hb,hcs⟩,hk,rfl⟩
   ·exact ⟨.inl ⟨h0,rfl,rfl⟩,Keep.refl _ _,Nat.le_refl _⟩
   ·exact ⟨.inr ⟨nx,cs,Nat.le_refl _,by omega,rfl,hb,by rw [hcs]; rfl⟩,hk,by omega⟩
  obtain ⟨st,hk4,hle4⟩:=st
  refine Lp.mk (CcJ1 l1 l2 n p h nx) 2 ⟨0,r,rfl,by omega,rfl,st,hk4,hle4⟩ ?_
  clear st hk4 hle4 hg
  rintro m _ h5 nx5 ⟨i,o,rfl,hi,rfl,st,hk5,hle5⟩
  rw [concatb1]
  unfold concatl1
  have hp5:=(hk5 p hpn).trans hp
  have step:∀ (j:Nat) (y:List GE) (vy:Value),SlPx h nx vy encG y→ac2 l1 l2 (j+1)=ac2 l1 l2 j++y→(ac2 l1 l2 (j+1)).length≤n→CcO h5 nx nx5 n (ac2 l1 l2 j) o→j+1≤2 →
    EK (orR (appendA 3 h5 nx5 o vy)) fun x23 h24 n25=>RK (bin Q .add 3 (.int .i64 (j:Int)) (.int .i64 1)) fun x26=>∃ m',m'<2-j∧CcJ1 l1 l2 n p h nx m' [x23,.slice (some ⟨p,0,none⟩) 2 2,.int .i64 2,x26] h24 n25:=by
   intro j y vy hy he hlen st hj
   rcases st with ⟨hn0,hac,rfl⟩ | ⟨b,cs,hb1,hb2,rfl,hb,hcs⟩
   ·have hy0:y=[]:=by
     rw [he,hac,hn0] at hlen
     exact List.eq_nil_of_length_eq_zero (by simpa using hlen)
    subst hy0
    obtain ⟨a3,c3,rfl,_⟩:=hy
    have ea:appendA 3 h5 nx5 (.slice none 0 0) (.slice a3 ([]:List GE).length c3) = .ok (.val (.slice none 0 0) h5 nx5):=by cases a3 <;> rfl
    rw [ea]
    simp (disch:=omega) only [SS,↓reduceIte,Nat.reduceAdd,Nat.reduceSub,Nat.reduceMul,Nat.reduceLT,Nat.reduceLeDiff,Nat.reduceEqDiff,Int.reduceBEq,Int.reduceLT,Int.reduceNeg,orR,EK_v,wrap_s (show j<1000000000000 by omega)]
    exact ⟨2-(j+1),by omega,j+1,_,rfl,hj,rfl,.inl ⟨hn0,by rw [he,hac]; rfl,rfl⟩,hk5,hle5⟩
   ·rw [he,List.length_append] at hlen
    obtain ⟨h6,e6,hb6,hf6⟩:=app_many (nx:=nx5) hb rfl (by omega) hcs (hy.keep hk5 hle5)
    rw [e6]
    simp (disch:=omega) only [SS,↓reduceIte,Nat.reduceAdd,Nat.reduceSub,Nat.reduceMul,Nat.reduceLT,Nat.reduceLeDiff,Nat.reduceEqDiff,Int.reduceBEq,Int.reduceLT,Int.reduceNeg,orR,EK_v,wrap_s (show j<1000000000000 by omega)]
    refine ⟨2-(j+1),by omega,j+1,_,rfl,hj,rfl,.inr ⟨b,cs.drop (y.length*3),hb1,hb2,?_,?_,?_⟩,fun c hc=>by rw [hf6 c (by omega)]; exact hk5 c hc,hle5⟩
    ·rw [he,List.length_append]
    ·rw [he]; exact hb6
    ·rw [he,List.length_append,List.length_drop,hcs]; omega
  match i,hi with
  | 0,_ =>
   simp (disch:=omega) only [SS,↓reduceIte,Nat.reduceAdd,Nat.reduceSub,Nat.reduceMul,Nat.reduceLT,Nat.reduceLeDiff,Nat.reduceEqDiff,Int.reduceBEq,Int.reduceLT,Int.reduceNeg,hp5]
   exact ⟨fun _=>step 0 l1 _ h1 rfl (by rw [htot]; simp [ac2]) st (by omega),fun h=>absurd (show ((0:Nat):Int)<2 by omega) h⟩
  | 1,_ =>
   simp (disch:=omega) only [SS,↓reduceIte,Nat.reduceAdd,Nat.reduceSub,Nat.reduceMul,Nat.reduceLT,Nat.reduceLeDiff,Nat.reduceEqDiff,Int.reduceBEq,Int.reduceLT,Int.reduceNeg,hp5]
   exact ⟨fun _=>step 1 l2 _ h2 rfl (by rw [hn]; exact Nat.le_refl _) st (by omega),fun h=>absurd (show ((1:Nat):Int)<2 by omega) h⟩
  | 2,_ =>
   simp (disch:=omega) only [SS,↓reduceIte,Nat.reduceAdd,Nat.reduceSub,Nat.reduceMul,Nat.reduceLT,Nat.reduceLeDiff,Nat.reduceEqDiff,Int.reduceBEq,Int.reduceLT,Int.reduceNeg]
   refine ⟨fun h=>absurd h (by omega),fun _=>⟨?_,hk5,hle5⟩⟩
   rcases st with ⟨hn0,hac,rfl⟩ | ⟨b,cs,hb1,hb2,rfl,hb,hcs⟩
   ·have hac:l1++l2=[]:=hac
    rw [hac]
    exact ⟨none,0,rfl,fun h=>absurd rfl h⟩
   ·exact ⟨some ⟨b,0,some 3⟩,n,rfl,fun _=>⟨b,some 3,false,cs,hb2,rfl,hb⟩⟩
end Go.Proofs.YtcjochjiegiliaaGreat
