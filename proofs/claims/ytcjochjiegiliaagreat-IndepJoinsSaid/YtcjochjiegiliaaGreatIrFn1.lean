/- Parts of the proof: IrFn1: each statement bears its own conditions. -/
import Derived.Test.YtcjochjiegiliaaGreatIrFacts
namespace Go.Proofs.YtcjochjiegiliaaGreat
open Go Go.Ax
set_option linter.unusedVariables false
set_option linter.unusedSimpArgs false
set_option maxRecDepth 1000000
noncomputable abbrev Q:Program:=Tryz.prog
def O:Orc:=fun f=>bif Nat.beq f 28 then some gLive else bif Nat.beq f 307 then some gCombF else none
def withinL:List (List Nat):=[]
def within (s:Bool) (t0 t1:Value) (h:Hp) (nx:Nat) (K:KC'):Prop:=RK (bin Q .lss 3 t1 (.int .i64 1)) fun x1=>IF x1 (K (.int .i64 0) h nx) (RK (bin Q .lss 3 t0 (.int .i64 0)) fun x2=>IF x2 (K (.int .i64 0) h nx) (RK (bin Q .rem 3 t0 t1) fun x4=>K x4 h nx))
theorem withine {s:Bool} {t0 t1:Value} {h:Hp} {nx:Nat} {K:KC'}:fF Q O s withinL 98 [t0,t1] h nx K=within s t0 t1 h nx K:=by kernel_rfl
theorem withinv {s:Bool} {t0 t1:Value} {h:Hp} {nx:Nat} {K:KC'} (w:within s t0 t1 h nx K):Cv Q O s 98 [t0,t1] h nx K:=Cv.byF withinL rfl (by rw [withine]; exact w)
def graphL:List (List Nat):=[[1,2,3,4]]
def graphk0 (s:Bool) (N:KVl) (e0:KVl) (R:KVl) (y1 y2 y3 y4 y23:Value) (h0:Hp) (n0:Nat):Prop:=IF y23 (RK (vFldA 1 y1) fun x28=>RK (vLd none h0 x28) fun x29=>RK (vIx (.slice 3) x29 y4) fun x30=>RK (vLd (some 3) h0 x30) fun x31=>AR (.ok (.ptr (.cells [(.int .i64 0),(.int .i64 0),(.int .i64 0)] false))) h0 n0 fun p32 h33 n34=>RK (vSt h33 3 p32 x31) fun h35=>RK (vFldA 0 p32) fun x36=>RK (vLd none h35 x36) fun x37=>RK (vFldA 0 y3) fun x38=>RK (vLd none h35 x38) fun x39=>Cv Q O true 98 [x37,x39] h35 n34 fun x40 h41 n42=>n34≤n42∧RK (vFldA 1 p32) fun x43=>RK (vLd none h41 x43) fun x44=>AGK (fun h=>vLd none h x43) x44 (RK (vFldA 0 y3) fun x45=>RK (vLd none h41 x45) fun x46=>AGK (fun h=>vLd none h x45) x46 (Cv Q O true 98 [x44,x46] h41 n42 fun x47 h48 n49=>n42≤n49∧RK (vFldA 1 y3) fun x50=>RK (vLd none h48 x50) fun x51=>AGK (fun h=>vLd none h x50) x51 (RK (vFldA 2 p32) fun x52=>RK (vLd none h48 x52) fun x53=>AGK (fun h=>vLd none h x52) x53 (RK (bin Q .and 2 x53 (.int .i64 2147483647)) fun x54=>RK (vBld [(.int .i64 0),(.int .i64 0),(.int .i64 0)] [(0,1,x40),(1,1,x47),(2,1,x54)]) fun x55=>AR (vBsl 1 [(.int .i64 0),(.int .i64 0),(.int .i64 0)] [(0,3,x55)]) h48 n49 fun p56 h57 n58=>EK (orR (appendA 3 h57 n58 x51 p56)) fun x59 h60 n61=>n58≤n61∧RK (vFldA 1 y3) fun x62=>RK (vSt h60 1 x62 x59) fun h63=>RK (bin Q .add 3 y4 (.int .i64 1)) fun x64=>N [y1,y2,y3,x64] h63 n61) 2 [h41,h35]) 2 [h41,h35]) 1 [h35]) 1 [h35]) (e0 [y1,y2,y3,y4] h0 n0)
def graphl0 (s:Bool) (a1 a2 a3 a4:Value) (h:Hp) (nx:Nat) (N:KVl) (e0:KVl) (R:KVl):Prop:=RK (vFldA 1 a1) fun x20=>RK (vLd none h x20) fun x21=>RK (lenS x21) fun x22=>RK (bin Q .lss 3 a4 x22) fun x23=>IF x23 (RK (bin Q .lss 3 a4 (.int .i64 60)) fun x24=>IF x24 (RK (vFldA 0 a3) fun x25=>RK (vLd none h x25) fun x26=>RK (bin Q .gtr 3 x26 (.int .i64 0)) fun x27=>(graphk0 s N e0 R a1 a2 a3 a4 x27 h nx)) ((graphk0 s N e0 R a1 a2 a3 a4 (.bool false) h nx))) ((graphk0 s N e0 R a1 a2 a3 a4 (.bool false) h nx))
def graph (s:Bool) (t0:Value) (h:Hp) (nx:Nat) (K:KC'):Prop:=AR (cellsNB (vcells t0)) h nx fun p1 h2 n3=>AR (.ok (.ptr (.cells [(.int .i64 0),(.slice none 0 0)] false))) h2 n3 fun p4 h5 n6=>RK (vFldA 0 p1) fun x7=>RK (vLd none h5 x7) fun x8=>Cv Q O s 98 [x8,(.int .i64 24)] h5 n6 fun x9 h10 n11=>RK (vBld [(.int .i64 0),(.slice none 0 0)] [(0,1,x9)]) fun x12=>AR (.ok (.ptr (.cells [(.int .i64 0),(.slice none 0 0)] false))) h10 n11 fun p13 h14 n15=>RK (vSt h14 2 p13 x12) fun h16=>Lp (fL Q O s graphL 97 0) [p1,p4,p13,(.int .i64 0)] h16 n15 [(0,fun v19 h17 n18=>RK (vLd (some 2) h17 (nv v19 2)) fun x65=>RK (vSt h17 2 (nv v19 1) x65) fun h66=>RK (vLd (some 2) h66 (nv v19 1)) fun x67=>K x67 h66 n18)] (fun _ _ _=>False)
theorem graphb0 {s:Bool} {a1 a2 a3 a4:Value} {h:Hp} {nx:Nat} {N e0 R:KVl}:fL Q O s graphL 97 0 [a1,a2,a3,a4] h nx N [(0,e0)] R=graphl0 s a1 a2 a3 a4 h nx N e0 R:=by kernel_rfl
theorem graphe {s:Bool} {t0:Value} {h:Hp} {nx:Nat} {K:KC'}:fF Q O s graphL 97 [t0] h nx K=graph s t0 h nx K:=by kernel_rfl
theorem graphv {s:Bool} {t0:Value} {h:Hp} {nx:Nat} {K:KC'} (w:graph s t0 h nx K):Cv Q O s 97 [t0] h nx K:=Cv.byF graphL rfl (by rw [graphe]; exact w)
def makeL:List (List Nat):=[]
def makek0 (s:Bool) (K:KC') (y1 y2 y6:Value) (h0:Hp) (n0:Nat):Prop:=RK (vFldA 2 y1) fun x21=>RK (vLd none h0 x21) fun x22=>RK (vFldA 0 y6) fun x23=>RK (vLd none h0 x23) fun x24=>Cv Q O true 98 [x22,x24] h0 n0 fun x25 h26 n27=>n0≤n27∧RK (vLd (some 2) h26 y6) fun x28=>AGK (fun h=>vLd (some 2) h y6) x28 (RK (vSt h26 2 y2 x28) fun h29=>RK (vFldA 3 y1) fun x30=>RK (vLd none h29 x30) fun x31=>AGK (fun h=>vLd none h x30) x31 (RK (oConv (.int .i64) x31) fun x32=>RK (bin Q .rem 3 x32 (.int .i64 4)) fun x33=>RK (bin Q .add 3 x33 (.int .i64 1)) fun x34=>RK (vFldA 4 y1) fun x35=>RK (vLd none h29 x35) fun x36=>AGK (fun h=>vLd none h x35) x36 (RK (oConv (.int .i64) x36) fun x37=>RK (bin Q .rem 3 x37 (.int .i64 4)) fun x38=>RK (bin Q .add 3 x38 (.int .i64 1)) fun x39=>RK (vLd (some 2) h29 y2) fun x40=>K (.tuple ⟨[x40,x25,x34,x39]⟩) h29 n27) 2 [h26,h0]) 2 [h26,h0]) 1 [h0]
def make (s:Bool) (t0:Value) (h:Hp) (nx:Nat) (K:KC'):Prop:=AR (cellsNB (vcells t0)) h nx fun p1 h2 n3=>AR (.ok (.ptr (.cells [(.int .i64 0),(.slice none 0 0)] false))) h2 n3 fun p4 h5 n6=>RK (vFldA 0 p1) fun x7=>RK (vLd (some 2) h5 x7) fun x8=>Cv Q O s 97 [x8] h5 n6 fun x9 h10 n11=>AR (.ok (.ptr (.cells [(.int .i64 0),(.slice none 0 0)] false))) h10 n11 fun p12 h13 n14=>RK (vSt h13 2 p12 x9) fun h15=>RK (vFldA 0 p12) fun x16=>RK (vLd none h15 x16) fun x17=>RK (bin Q .eql 3 x17 (.int .i64 0)) fun x18=>IF x18 (RK (vBld [(.int .i64 0),(.slice none 0 0)] [(0,1,(.int .i64 1))]) fun x19=>RK (vSt h15 2 p12 x19) fun h20=>(makek0 s K p1 p4 p12 h20 n14)) ((makek0 s K p1 p4 p12 h15 n14))
theorem makee {s:Bool} {t0:Value} {h:Hp} {nx:Nat} {K:KC'}:fF Q O s makeL 29 [t0] h nx K=make s t0 h nx K:=by kernel_rfl
theorem makev {s:Bool} {t0:Value} {h:Hp} {nx:Nat} {K:KC'} (w:make s t0 h nx K):Cv Q O s 29 [t0] h nx K:=Cv.byF makeL rfl (by rw [makee]; exact w)
def rightL:List (List Nat):=[]
def right (s:Bool) (t0:Value) (h:Hp) (nx:Nat) (K:KC'):Prop:=AR (cellsNB (vcells t0)) h nx fun p1 h2 n3=>RK (.ok (Value.func (.func 192) ⟨[]⟩ ⟨[p1]⟩)) fun x4=>AR (.ok (.ptr (.cells [.nilFunc] false))) h2 n3 fun p5 h6 n7=>RK (vSt h6 1 p5 x4) fun h8=>RK (vFldA 0 p1) fun x9=>RK (vLd none h8 x9) fun x10=>RK (bin Q .lss 3 x10 (.int .i64 0)) fun x11=>IF x11 (K (.int .i64 3) h8 n7) (RK (vFldA 0 p1) fun x12=>RK (vLd none h8 x12) fun x13=>RK (bin Q .gtr 3 x13 (.int .i64 4096)) fun x14=>IF x14 (K (.int .i64 5) h8 n7) (RK (vFldA 1 p1) fun x15=>RK (vLd none h8 x15) fun x16=>RK (lenS x16) fun x17=>RK (bin Q .gtr 3 x17 (.int .i64 65536)) fun x18=>IF x18 (K (.int .i64 5) h8 n7) (RK (vFldA 1 p1) fun x19=>RK (vLd none h8 x19) fun x20=>RK (.ok (Value.func (.func 194) ⟨[]⟩ ⟨[p5]⟩)) fun x21=>Cv Q O s 193 [x20,x21] h8 n7 fun x22 h23 n24=>IF x22 (K (.int .i64 3) h23 n24) (RK (vFldA 1 p1) fun x25=>RK (vLd none h23 x25) fun x26=>Cv Q O s 193 [x26,(.func (.func 195) #[] #[])] h23 n24 fun x27 h28 n29=>IF x27 (K (.int .i64 7) h28 n29) (K (.int .i64 0) h28 n29)))))
theorem righte {s:Bool} {t0:Value} {h:Hp} {nx:Nat} {K:KC'}:fF Q O s rightL 107 [t0] h nx K=right s t0 h nx K:=by kernel_rfl
theorem rightv {s:Bool} {t0:Value} {h:Hp} {nx:Nat} {K:KC'} (w:right s t0 h nx K):Cv Q O s 107 [t0] h nx K:=Cv.byF rightL rfl (by rw [righte]; exact w)
def right1L:List (List Nat):=[]
def right1 (s:Bool) (t0 t1:Value) (h:Hp) (nx:Nat) (K:KC'):Prop:=RK (bin Q .lss 3 t0 (.int .i64 0)) fun x1=>IF x1 (K (.bool true) h nx) (RK (vFldA 0 t1) fun x2=>RK (vLd none h x2) fun x3=>RK (bin Q .geq 3 t0 x3) fun x4=>K x4 h nx)
theorem right1e {s:Bool} {t0 t1:Value} {h:Hp} {nx:Nat} {K:KC'}:fF Q O s right1L 192 [t0,t1] h nx K=right1 s t0 t1 h nx K:=by kernel_rfl
theorem right1v {s:Bool} {t0 t1:Value} {h:Hp} {nx:Nat} {K:KC'} (w:right1 s t0 t1 h nx K):Cv Q O s 192 [t0,t1] h nx K:=Cv.byF right1L rfl (by rw [right1e]; exact w)
def right2L:List (List Nat):=[]
def right2 (s:Bool) (t0 t1:Value) (h:Hp) (nx:Nat) (K:KC'):Prop:=AR (cellsNB (vcells t0)) h nx fun p1 h2 n3=>RK (vLd none h2 t1) fun x4=>RK (vFldA 0 p1) fun x5=>RK (vLd none h2 x5) fun x6=>CVK Q O s (callV h2 n3 [x6] x4) fun x7 h8 n9=>IF x7 (K (.bool true) h8 n9) (RK (vLd none h8 t1) fun x10=>RK (vFldA 1 p1) fun x11=>RK (vLd none h8 x11) fun x12=>CVK Q O s (callV h8 n9 [x12] x10) fun x13 h14 n15=>K x13 h14 n15)
theorem right2e {s:Bool} {t0 t1:Value} {h:Hp} {nx:Nat} {K:KC'}:fF Q O s right2L 194 [t0,t1] h nx K=right2 s t0 t1 h nx K:=by kernel_rfl
theorem right2v {s:Bool} {t0 t1:Value} {h:Hp} {nx:Nat} {K:KC'} (w:right2 s t0 t1 h nx K):Cv Q O s 194 [t0,t1] h nx K:=Cv.byF right2L rfl (by rw [right2e]; exact w)
def right3L:List (List Nat):=[]
def right3 (s:Bool) (t0:Value) (h:Hp) (nx:Nat) (K:KC'):Prop:=AR (cellsNB (vcells t0)) h nx fun p1 h2 n3=>RK (vFldA 2 p1) fun x4=>RK (vLd none h2 x4) fun x5=>RK (bin Q .lss 2 x5 (.int .i64 0)) fun x6=>IF x6 (K (.bool true) h2 n3) (RK (vFldA 2 p1) fun x7=>RK (vLd none h2 x7) fun x8=>RK (bin Q .gtr 2 x8 (.int .i64 2147483647)) fun x9=>K x9 h2 n3)
theorem right3e {s:Bool} {t0:Value} {h:Hp} {nx:Nat} {K:KC'}:fF Q O s right3L 195 [t0] h nx K=right3 s t0 h nx K:=by kernel_rfl
theorem right3v {s:Bool} {t0:Value} {h:Hp} {nx:Nat} {K:KC'} (w:right3 s t0 h nx K):Cv Q O s 195 [t0] h nx K:=Cv.byF right3L rfl (by rw [right3e]; exact w)
def contsL:List (List Nat):=[]
def conts (s:Bool) (t0 t1:Value) (h:Hp) (nx:Nat) (K:KC'):Prop:=Cv Q O s 275 [t0,t1] h nx fun x1 h2 n3=>RK (bin Q .geq 3 x1 (.int .i64 0)) fun x4=>K x4 h2 n3
theorem contse {s:Bool} {t0 t1:Value} {h:Hp} {nx:Nat} {K:KC'}:fF Q O s contsL 193 [t0,t1] h nx K=conts s t0 t1 h nx K:=by kernel_rfl
theorem contsv {s:Bool} {t0 t1:Value} {h:Hp} {nx:Nat} {K:KC'} (w:conts s t0 t1 h nx K):Cv Q O s 193 [t0,t1] h nx K:=Cv.byF contsL rfl (by rw [contse]; exact w)
def indexL:List (List Nat):=[[0,1,4,7,8]]
def indexl0 (s:Bool) (a0 a1 a4 a7 a8:Value) (h:Hp) (nx:Nat) (N:KVl) (e0:KVl) (R:KVl):Prop:=RK (bin Q .lss 3 a8 a7) fun x8=>IF x8 (RK (vIx (.slice 3) a0 a8) fun x9=>RK (vLd (some 3) h x9) fun x10=>CVK Q O s (callV h nx [x10] a1) fun x11 h12 n13=>IF x11 (R [a0,a1,a8,a7,a8] h12 n13) (RK (bin Q .add 3 a8 (.int .i64 1)) fun x14=>N [a0,a1,a4,a7,x14] h12 n13)) (e0 [a0,a1,a4,a7,a8] h nx)
def index (s:Bool) (t0 t1:Value) (h:Hp) (nx:Nat) (K:KC'):Prop:=RK (lenS t0) fun x1=>Lp (fL Q O s indexL 275 0) [t0,t1,(.int .i64 0),x1,(.int .i64 0)] h nx [(0,fun v4 h2 n3=>K (.int .i64 (-1)) h2 n3)] (fun v7 h5 n6=>K (nv v7 2) h5 n6)
theorem indexb0 {s:Bool} {a0 a1 a4 a7 a8:Value} {h:Hp} {nx:Nat} {N e0 R:KVl}:fL Q O s indexL 275 0 [a0,a1,a4,a7,a8] h nx N [(0,e0)] R=indexl0 s a0 a1 a4 a7 a8 h nx N e0 R:=by kernel_rfl
theorem indexe {s:Bool} {t0 t1:Value} {h:Hp} {nx:Nat} {K:KC'}:fF Q O s indexL 275 [t0,t1] h nx K=index s t0 t1 h nx K:=by kernel_rfl
theorem indexv {s:Bool} {t0 t1:Value} {h:Hp} {nx:Nat} {K:KC'} (w:index s t0 t1 h nx K):Cv Q O s 275 [t0,t1] h nx K:=Cv.byF indexL rfl (by rw [indexe]; exact w)
def clone64L:List (List Nat):=[]
def clone64 (s:Bool) (t0:Value) (h:Hp) (nx:Nat) (K:KC'):Prop:=RK (bin Q .eql 23 t0 (.slice none 0 0)) fun x1=>IF x1 (K (.slice none 0 0) h nx) (AR (vBsl 0 [] []) h nx fun p2 h3 n4=>EK (orR (appendA 1 h3 n4 p2 t0)) fun x5 h6 n7=>K x5 h6 n7)
theorem clone64e {s:Bool} {t0:Value} {h:Hp} {nx:Nat} {K:KC'}:fF Q O s clone64L 51 [t0] h nx K=clone64 s t0 h nx K:=by kernel_rfl
theorem clone64v {s:Bool} {t0:Value} {h:Hp} {nx:Nat} {K:KC'} (w:clone64 s t0 h nx K):Cv Q O s 51 [t0] h nx K:=Cv.byF clone64L rfl (by rw [clone64e]; exact w)
def canonL:List (List Nat):=[]
def canon (s:Bool) (t0:Value) (h:Hp) (nx:Nat) (K:KC'):Prop:=AR (cellsNB (vcells t0)) h nx fun p1 h2 n3=>AR (.ok (.ptr (.cells [(.int .i64 0),(.slice none 0 0)] false))) h2 n3 fun p4 h5 n6=>RK (vFldA 1 p1) fun x7=>RK (vLd none h5 x7) fun x8=>Cv Q O s 307 [(.int .i64 1),x8] h5 n6 fun x9 h10 n11=>RK (oExtract x9 0) fun x12=>RK (oExtract x9 1) fun x13=>RK (vFldA 0 p1) fun x14=>RK (vLd none h10 x14) fun x15=>RK (vBld [(.int .i64 0),(.slice none 0 0)] [(0,1,x15),(1,1,x12)]) fun x16=>RK (vSt h10 2 p4 x16) fun h17=>RK (vLd (some 2) h17 p4) fun x18=>K x18 h17 n11
theorem canone {s:Bool} {t0:Value} {h:Hp} {nx:Nat} {K:KC'}:fF Q O s canonL 227 [t0] h nx K=canon s t0 h nx K:=by kernel_rfl
theorem canonv {s:Bool} {t0:Value} {h:Hp} {nx:Nat} {K:KC'} (w:canon s t0 h nx K):Cv Q O s 227 [t0] h nx K:=Cv.byF canonL rfl (by rw [canone]; exact w)
def matrixL:List (List Nat):=[]
def matrixk0 (s:Bool) (K:KC') (y3 y4:Value) (h0:Hp) (n0:Nat):Prop:=RK (vLd (some 2) h0 y3) fun x74=>Cv Q O s 132 [x74] h0 n0 fun x75 h76 n77=>RK (oExtract x75 0) fun x78=>RK (oExtract x75 1) fun x79=>RK (vSt h76 5 y4 x78) fun h80=>RK (vLd (some 5) h80 y4) fun x81=>K (.tuple ⟨[x81,x79]⟩) h80 n77
def matrix (s:Bool) (t0 t1:Value) (h:Hp) (nx:Nat) (K:KC'):Prop:=AR (cellsNB (vcells t0)) h nx fun p1 h2 n3=>AR (cellsNB (vcells t1)) h2 n3 fun p4 h5 n6=>AR (.ok (.ptr (.cells [(.int .i64 0),(.int .i64 0),(.slice none 0 0),(.slice none 0 0),(.slice none 0 0)] false))) h5 n6 fun p7 h8 n9=>RK (vLd (some 5) h8 p1) fun x10=>Cv Q O s 128 [x10] h8 n9 fun x11 h12 n13=>RK (bin Q .neq 34 x11 (.int .i64 0)) fun x14=>IF x14 (RK (vBld [(.int .i64 0),(.int .i64 0),(.slice none 0 0),(.slice none 0 0),(.slice none 0 0)] []) fun x15=>RK (vSt h12 5 p7 x15) fun h16=>RK (vLd (some 5) h16 p7) fun x17=>K (.tuple ⟨[x17,x11]⟩) h16 n13) (RK (vFldA 0 p4) fun x18=>RK (vLd none h12 x18) fun x19=>RK (vFldA 1 p1) fun x20=>RK (vLd none h12 x20) fun x21=>RK (bin Q .neq 3 x19 x21) fun x22=>IF x22 (RK (vBld [(.int .i64 0),(.int .i64 0),(.slice none 0 0),(.slice none 0 0),(.slice none 0 0)] []) fun x23=>RK (vSt h12 5 p7 x23) fun h24=>RK (vLd (some 5) h24 p7) fun x25=>K (.tuple ⟨[x25,(.int .i64 4)]⟩) h24 n13) (RK (vLd (some 2) h12 p4) fun x26=>Cv Q O s 107 [x26] h12 n13 fun x27 h28 n29=>RK (bin Q .neq 34 x27 (.int .i64 0)) fun x30=>IF x30 (RK (vBld [(.int .i64 0),(.int .i64 0),(.slice none 0 0),(.slice none 0 0),(.slice none 0 0)] []) fun x31=>RK (vSt h28 5 p7 x31) fun h32=>RK (vLd (some 5) h32 p7) fun x33=>K (.tuple ⟨[x33,x27]⟩) h32 n29) (RK (vFldA 0 p1) fun x34=>RK (vLd none h28 x34) fun x35=>RK (bin Q .eql 22 x35 (.int .i64 5)) fun x36=>IF x36 (RK (vLd (some 2) h28 p4) fun x39=>Cv Q O s 129 [x39] h28 n29 fun x40 h41 n42=>RK (vSt h41 2 p4 x40) fun h43=>RK (vLd (some 2) h43 p4) fun x49=>Cv Q O s 130 [x49] h43 n42 fun x50 h51 n52=>RK (vSt h51 2 p4 x50) fun h53=>RK (vLd (some 2) h53 p4) fun x69=>Cv Q O s 131 [x69] h53 n52 fun x70 h71 n72=>RK (vSt h71 2 p4 x70) fun h73=>(matrixk0 s K p4 p7 h73 n72)) (RK (bin Q .eql 22 x35 (.int .i64 3)) fun x37=>IF x37 (RK (vLd (some 2) h28 p4) fun x44=>Cv Q O s 130 [x44] h28 n29 fun x45 h46 n47=>RK (vSt h46 2 p4 x45) fun h48=>RK (vLd (some 2) h48 p4) fun x64=>Cv Q O s 131 [x64] h48 n47 fun x65 h66 n67=>RK (vSt h66 2 p4 x65) fun h68=>(matrixk0 s K p4 p7 h68 n67)) (RK (bin Q .eql 22 x35 (.int .i64 1)) fun x38=>IF x38 (RK (vLd (some 2) h28 p4) fun x54=>Cv Q O s 131 [x54] h28 n29 fun x55 h56 n57=>RK (vSt h56 2 p4 x55) fun h58=>(matrixk0 s K p4 p7 h58 n57)) ((matrixk0 s K p4 p7 h28 n29)))))))
theorem matrixe {s:Bool} {t0 t1:Value} {h:Hp} {nx:Nat} {K:KC'}:fF Q O s matrixL 49 [t0,t1] h nx K=matrix s t0 t1 h nx K:=by kernel_rfl
theorem matrixv {s:Bool} {t0 t1:Value} {h:Hp} {nx:Nat} {K:KC'} (w:matrix s t0 t1 h nx K):Cv Q O s 49 [t0,t1] h nx K:=Cv.byF matrixL rfl (by rw [matrixe]; exact w)
def pright0L:List (List Nat):=[]
def pright0k0 (s:Bool) (K:KC') (y1:Value) (h0:Hp) (n0:Nat):Prop:=RK (vFldA 4 y1) fun x63=>RK (vLd none h0 x63) fun x64=>RK (lenS x64) fun x65=>RK (bin Q .gtr 3 x65 (.int .i64 65536)) fun x66=>IF x66 (K (.int .i64 5) h0 n0) (RK (vFldA 4 y1) fun x67=>RK (vLd none h0 x67) fun x68=>Cv Q O s 223 [x68,(.func (.func 224) #[] #[])] h0 n0 fun x69 h70 n71=>IF x69 (K (.int .i64 7) h70 n71) (K (.int .i64 0) h70 n71))
def pright0k1 (s:Bool) (K:KC') (y1 y10:Value) (h0:Hp) (n0:Nat):Prop:=IF y10 (K (.int .i64 8) h0 n0) (RK (vFldA 1 y1) fun x10=>RK (vLd none h0 x10) fun x11=>Cv Q O s 222 [x11,(.int .i64 4096)] h0 n0 fun x12 h13 n14=>RK (oUn .not x12) fun x15=>IF x15 (K (.int .i64 3) h13 n14) (RK (vFldA 0 y1) fun x16=>RK (vLd none h13 x16) fun x17=>RK (bin Q .eql 22 x17 (.int .i64 4)) fun x18=>IF x18 (RK (vFldA 3 y1) fun x21=>RK (vLd none h13 x21) fun x22=>Cv Q O s 222 [x22,(.int .i64 8192)] h13 n14 fun x23 h24 n25=>RK (oUn .not x23) fun x26=>IF x26 (K (.int .i64 3) h24 n25) (RK (vFldA 2 y1) fun x54=>RK (vLd none h24 x54) fun x55=>RK (vFldA 1 y1) fun x56=>RK (vLd none h24 x56) fun x57=>RK (bin Q .sub 3 x57 (.int .i64 1)) fun x58=>Cv Q O s 222 [x55,x58] h24 n25 fun x59 h60 n61=>RK (oUn .not x59) fun x62=>IF x62 (K (.int .i64 3) h60 n61) ((pright0k0 s K y1 h60 n61)))) (RK (bin Q .eql 22 x17 (.int .i64 1)) fun x19=>IF x19 (RK (vFldA 2 y1) fun x36=>RK (vLd none h13 x36) fun x37=>RK (vFldA 1 y1) fun x38=>RK (vLd none h13 x38) fun x39=>RK (bin Q .sub 3 x39 (.int .i64 1)) fun x40=>Cv Q O s 222 [x37,x40] h13 n14 fun x41 h42 n43=>RK (oUn .not x41) fun x44=>IF x44 (K (.int .i64 3) h42 n43) ((pright0k0 s K y1 h42 n43))) (RK (bin Q .eql 22 x17 (.int .i64 2)) fun x20=>IF x20 (RK (vFldA 2 y1) fun x45=>RK (vLd none h13 x45) fun x46=>RK (vFldA 1 y1) fun x47=>RK (vLd none h13 x47) fun x48=>RK (bin Q .sub 3 x48 (.int .i64 1)) fun x49=>Cv Q O s 222 [x46,x49] h13 n14 fun x50 h51 n52=>RK (oUn .not x50) fun x53=>IF x53 (K (.int .i64 3) h51 n52) ((pright0k0 s K y1 h51 n52))) ((pright0k0 s K y1 h13 n14))))))
def pright0 (s:Bool) (t0:Value) (h:Hp) (nx:Nat) (K:KC'):Prop:=AR (cellsNB (vcells t0)) h nx fun p1 h2 n3=>RK (vFldA 0 p1) fun x4=>RK (vLd none h2 x4) fun x5=>RK (bin Q .leq 22 x5 (.int .i64 0)) fun x6=>IF x6 ((pright0k1 s K p1 (.bool true) h2 n3)) (RK (vFldA 0 p1) fun x7=>RK (vLd none h2 x7) fun x8=>RK (bin Q .gtr 22 x8 (.int .i64 5)) fun x9=>(pright0k1 s K p1 x9 h2 n3))
theorem pright0e {s:Bool} {t0:Value} {h:Hp} {nx:Nat} {K:KC'}:fF Q O s pright0L 128 [t0] h nx K=pright0 s t0 h nx K:=by kernel_rfl
theorem pright0v {s:Bool} {t0:Value} {h:Hp} {nx:Nat} {K:KC'} (w:pright0 s t0 h nx K):Cv Q O s 128 [t0] h nx K:=Cv.byF pright0L rfl (by rw [pright0e]; exact w)
def pwithinL:List (List Nat):=[]
def pwithin (s:Bool) (t0 t1:Value) (h:Hp) (nx:Nat) (K:KC'):Prop:=RK (bin Q .geq 3 t0 (.int .i64 0)) fun x1=>IF x1 (RK (bin Q .leq 3 t0 t1) fun x2=>K x2 h nx) (K (.bool false) h nx)
theorem pwithine {s:Bool} {t0 t1:Value} {h:Hp} {nx:Nat} {K:KC'}:fF Q O s pwithinL 222 [t0,t1] h nx K=pwithin s t0 t1 h nx K:=by kernel_rfl
theorem pwithinv {s:Bool} {t0 t1:Value} {h:Hp} {nx:Nat} {K:KC'} (w:pwithin s t0 t1 h nx K):Cv Q O s 222 [t0,t1] h nx K:=Cv.byF pwithinL rfl (by rw [pwithine]; exact w)
def contsIL:List (List Nat):=[]
def contsI (s:Bool) (t0 t1:Value) (h:Hp) (nx:Nat) (K:KC'):Prop:=Cv Q O s 306 [t0,t1] h nx fun x1 h2 n3=>RK (bin Q .geq 3 x1 (.int .i64 0)) fun x4=>K x4 h2 n3
theorem contsIe {s:Bool} {t0 t1:Value} {h:Hp} {nx:Nat} {K:KC'}:fF Q O s contsIL 223 [t0,t1] h nx K=contsI s t0 t1 h nx K:=by kernel_rfl
theorem contsIv {s:Bool} {t0 t1:Value} {h:Hp} {nx:Nat} {K:KC'} (w:contsI s t0 t1 h nx K):Cv Q O s 223 [t0,t1] h nx K:=Cv.byF contsIL rfl (by rw [contsIe]; exact w)
def pright1L:List (List Nat):=[]
def pright1 (s:Bool) (t0:Value) (h:Hp) (nx:Nat) (K:KC'):Prop:=RK (bin Q .lss 2 t0 (.int .i64 0)) fun x1=>IF x1 (K (.bool true) h nx) (RK (bin Q .gtr 2 t0 (.int .i64 2147483647)) fun x2=>K x2 h nx)
theorem pright1e {s:Bool} {t0:Value} {h:Hp} {nx:Nat} {K:KC'}:fF Q O s pright1L 224 [t0] h nx K=pright1 s t0 h nx K:=by kernel_rfl
theorem pright1v {s:Bool} {t0:Value} {h:Hp} {nx:Nat} {K:KC'} (w:pright1 s t0 h nx K):Cv Q O s 224 [t0] h nx K:=Cv.byF pright1L rfl (by rw [pright1e]; exact w)
def indexIL:List (List Nat):=[[0,1,4,7,8]]
def indexIl0 (s:Bool) (a0 a1 a4 a7 a8:Value) (h:Hp) (nx:Nat) (N:KVl) (e0:KVl) (R:KVl):Prop:=RK (bin Q .lss 3 a8 a7) fun x8=>IF x8 (RK (vIx (.slice 1) a0 a8) fun x9=>RK (vLd none h x9) fun x10=>CVK Q O s (callV h nx [x10] a1) fun x11 h12 n13=>IF x11 (R [a0,a1,a8,a7,a8] h12 n13) (RK (bin Q .add 3 a8 (.int .i64 1)) fun x14=>N [a0,a1,a4,a7,x14] h12 n13)) (e0 [a0,a1,a4,a7,a8] h nx)
def indexI (s:Bool) (t0 t1:Value) (h:Hp) (nx:Nat) (K:KC'):Prop:=RK (lenS t0) fun x1=>Lp (fL Q O s indexIL 306 0) [t0,t1,(.int .i64 0),x1,(.int .i64 0)] h nx [(0,fun v4 h2 n3=>K (.int .i64 (-1)) h2 n3)] (fun v7 h5 n6=>K (nv v7 2) h5 n6)
theorem indexIb0 {s:Bool} {a0 a1 a4 a7 a8:Value} {h:Hp} {nx:Nat} {N e0 R:KVl}:fL Q O s indexIL 306 0 [a0,a1,a4,a7,a8] h nx N [(0,e0)] R=indexIl0 s a0 a1 a4 a7 a8 h nx N e0 R:=by kernel_rfl
theorem indexIe {s:Bool} {t0 t1:Value} {h:Hp} {nx:Nat} {K:KC'}:fF Q O s indexIL 306 [t0,t1] h nx K=indexI s t0 t1 h nx K:=by kernel_rfl
theorem indexIv {s:Bool} {t0 t1:Value} {h:Hp} {nx:Nat} {K:KC'} (w:indexI s t0 t1 h nx K):Cv Q O s 306 [t0,t1] h nx K:=Cv.byF indexIL rfl (by rw [indexIe]; exact w)
def simpleL:List (List Nat):=[]
def simple (s:Bool) (t0:Value) (h:Hp) (nx:Nat) (K:KC'):Prop:=AR (cellsNB (vcells t0)) h nx fun p1 h2 n3=>AR (.ok (.ptr (.cells [(.int .i64 0),(.slice none 0 0)] false))) h2 n3 fun p4 h5 n6=>RK (vLd (some 2) h5 p1) fun x7=>Cv Q O s 225 [x7,(.func (.func 226) #[] #[])] h5 n6 fun x8 h9 n10=>RK (vSt h9 2 p4 x8) fun h11=>RK (vLd (some 2) h11 p4) fun x12=>K x12 h11 n10
theorem simplee {s:Bool} {t0:Value} {h:Hp} {nx:Nat} {K:KC'}:fF Q O s simpleL 129 [t0] h nx K=simple s t0 h nx K:=by kernel_rfl
theorem simplev {s:Bool} {t0:Value} {h:Hp} {nx:Nat} {K:KC'} (w:simple s t0 h nx K):Cv Q O s 129 [t0] h nx K:=Cv.byF simpleL rfl (by rw [simplee]; exact w)
def bothL:List (List Nat):=[]
def both (s:Bool) (t0:Value) (h:Hp) (nx:Nat) (K:KC'):Prop:=AR (cellsNB (vcells t0)) h nx fun p1 h2 n3=>AR (.ok (.ptr (.cells [(.int .i64 0),(.slice none 0 0)] false))) h2 n3 fun p4 h5 n6=>RK (vLd (some 2) h5 p1) fun x7=>Cv Q O true 229 [x7] h5 n6 fun x8 h9 n10=>n6≤n10∧RK (vFldA 1 p1) fun x11=>RK (vLd none h9 x11) fun x12=>AGK (fun h=>vLd none h x11) x12 (RK (cFld 1 none x8) fun x13=>AR (vBsl 2 [(.slice none 0 0),(.slice none 0 0)] [(0,1,x12),(1,1,x13)]) h9 n10 fun p14 h15 n16=>Cv Q O true 228 [p14] h15 n16 fun x17 h18 n19=>n16≤n19∧RK (vFldA 0 p1) fun x20=>RK (vLd none h18 x20) fun x21=>AGK (fun h=>vLd none h x20) x21 (RK (vBld [(.int .i64 0),(.slice none 0 0)] [(0,1,x21),(1,1,x17)]) fun x22=>Cv Q O true 227 [x22] h18 n19 fun x23 h24 n25=>n19≤n25∧RK (vSt h24 2 p4 x23) fun h26=>RK (vLd (some 2) h26 p4) fun x27=>K x27 h26 n25) 2 [h9,h5]) 1 [h5]
theorem bothe {s:Bool} {t0:Value} {h:Hp} {nx:Nat} {K:KC'}:fF Q O s bothL 130 [t0] h nx K=both s t0 h nx K:=by kernel_rfl
theorem bothv {s:Bool} {t0:Value} {h:Hp} {nx:Nat} {K:KC'} (w:both s t0 h nx K):Cv Q O s 130 [t0] h nx K:=Cv.byF bothL rfl (by rw [bothe]; exact w)
def plainL:List (List Nat):=[]
def plain (s:Bool) (t0:Value) (h:Hp) (nx:Nat) (K:KC'):Prop:=AR (cellsNB (vcells t0)) h nx fun p1 h2 n3=>AR (.ok (.ptr (.cells [(.int .i64 0),(.slice none 0 0)] false))) h2 n3 fun p4 h5 n6=>RK (vLd (some 2) h5 p1) fun x7=>Cv Q O s 225 [x7,(.func (.func 230) #[] #[])] h5 n6 fun x8 h9 n10=>RK (vSt h9 2 p4 x8) fun h11=>RK (vLd (some 2) h11 p4) fun x12=>K x12 h11 n10
theorem plaine {s:Bool} {t0:Value} {h:Hp} {nx:Nat} {K:KC'}:fF Q O s plainL 131 [t0] h nx K=plain s t0 h nx K:=by kernel_rfl
theorem plainv {s:Bool} {t0:Value} {h:Hp} {nx:Nat} {K:KC'} (w:plain s t0 h nx K):Cv Q O s 131 [t0] h nx K:=Cv.byF plainL rfl (by rw [plaine]; exact w)
def csrgL:List (List Nat):=[[1,2,5,16,17,18]]
def csrgl0 (s:Bool) (a1 a2 a5 a16 a17 a18:Value) (h:Hp) (nx:Nat) (N:KVl) (e0:KVl) (R:KVl):Prop:=RK (bin Q .lss 3 a18 a17) fun x24=>IF x24 (RK (vIx (.slice 3) a16 a18) fun x25=>RK (vLd (some 3) h x25) fun x26=>AR (.ok (.ptr (.cells [(.int .i64 0),(.int .i64 0),(.int .i64 0)] false))) h nx fun p27 h28 n29=>RK (vSt h28 3 p27 x26) fun h30=>RK (vFldA 0 p27) fun x31=>RK (vLd none h30 x31) fun x32=>RK (vFldA 1 p27) fun x33=>RK (vLd none h30 x33) fun x34=>RK (vFldA 2 p27) fun x35=>RK (vLd none h30 x35) fun x36=>RK (vBld [(.int .i64 0),(.int .i64 0),(.int .i64 0)] [(0,1,x32),(1,1,x34),(2,1,x36)]) fun x37=>AR (vBsl 1 [(.int .i64 0),(.int .i64 0),(.int .i64 0)] [(0,3,x37)]) h30 n29 fun p38 h39 n40=>EK (orR (appendA 3 h39 n40 a5 p38)) fun x41 h42 n43=>RK (bin Q .add 3 a18 (.int .i64 1)) fun x44=>N [a1,a2,x41,a16,a17,x44] h42 n43) (e0 [a1,a2,a5,a16,a17,a18] h nx)
def csrg (s:Bool) (t0:Value) (h:Hp) (nx:Nat) (K:KC'):Prop:=AR (cellsNB (vcells t0)) h nx fun p1 h2 n3=>AR (.ok (.ptr (.cells [(.int .i64 0),(.int .i64 0),(.slice none 0 0),(.slice none 0 0),(.slice none 0 0)] false))) h2 n3 fun p4 h5 n6=>RK (vLd (some 2) h5 p1) fun x7=>Cv Q O s 107 [x7] h5 n6 fun x8 h9 n10=>RK (bin Q .neq 34 x8 (.int .i64 0)) fun x11=>IF x11 (RK (vBld [(.int .i64 0),(.int .i64 0),(.slice none 0 0),(.slice none 0 0),(.slice none 0 0)] []) fun x12=>RK (vSt h9 5 p4 x12) fun h13=>RK (vLd (some 5) h13 p4) fun x14=>K (.tuple ⟨[x14,x8]⟩) h13 n10) (RK (vLd (some 2) h9 p1) fun x15=>Cv Q O s 229 [x15] h9 n10 fun x16 h17 n18=>RK (cFld 1 none x16) fun x19=>RK (lenS x19) fun x20=>Lp (fL Q O s csrgL 132 0) [p1,p4,(.slice none 0 0),x19,x20,(.int .i64 0)] h17 n18 [(0,fun v23 h21 n22=>RK (vFldA 0 (nv v23 0)) fun x45=>RK (vLd none h21 x45) fun x46=>RK (vFldA 0 (nv v23 0)) fun x47=>RK (vLd none h21 x47) fun x48=>Cv Q O s 231 [x46,x48,(nv v23 2)] h21 n22 fun x49 h50 n51=>RK (vSt h50 5 (nv v23 1) x49) fun h52=>RK (vLd (some 5) h52 (nv v23 1)) fun x53=>K (.tuple ⟨[x53,(.int .i64 0)]⟩) h52 n51)] (fun _ _ _=>False))
theorem csrgb0 {s:Bool} {a1 a2 a5 a16 a17 a18:Value} {h:Hp} {nx:Nat} {N e0 R:KVl}:fL Q O s csrgL 132 0 [a1,a2,a5,a16,a17,a18] h nx N [(0,e0)] R=csrgl0 s a1 a2 a5 a16 a17 a18 h nx N e0 R:=by kernel_rfl
theorem csrge {s:Bool} {t0:Value} {h:Hp} {nx:Nat} {K:KC'}:fF Q O s csrgL 132 [t0] h nx K=csrg s t0 h nx K:=by kernel_rfl
theorem csrgv {s:Bool} {t0:Value} {h:Hp} {nx:Nat} {K:KC'} (w:csrg s t0 h nx K):Cv Q O s 132 [t0] h nx K:=Cv.byF csrgL rfl (by rw [csrge]; exact w)
def concatL:List (List Nat):=[[0,3,9,10,11],[6,25,26,27]]
def concatl0 (s:Bool) (a0 a3 a9 a10 a11:Value) (h:Hp) (nx:Nat) (N:KVl) (e0:KVl) (R:KVl):Prop:=RK (bin Q .lss 3 a11 a10) fun x5=>IF x5 (RK (vIx (.slice 1) a9 a11) fun x6=>RK (vLd none h x6) fun x7=>RK (lenS x7) fun x8=>RK (bin Q .add 3 a3 x8) fun x9=>RK (bin Q .lss 3 x9 (.int .i64 0)) fun x10=>IF x10 (RK (.ok (Value.iface 9 (.string ⟨#[108,101,110,32,111,117,116,32,111,102,32,114,97,110,103,101]⟩))) fun x11=>False) (RK (bin Q .add 3 a11 (.int .i64 1)) fun x12=>N [a0,x9,a9,a10,x12] h nx)) (e0 [a0,a3,a9,a10,a11] h nx)
def concatl1 (s:Bool) (a6 a25 a26 a27:Value) (h:Hp) (nx:Nat) (N:KVl) (e2:KVl) (R:KVl):Prop:=RK (bin Q .lss 3 a27 a26) fun x20=>IF x20 (RK (vIx (.slice 1) a25 a27) fun x21=>RK (vLd none h x21) fun x22=>EK (orR (appendA 3 h nx a6 x22)) fun x23 h24 n25=>RK (bin Q .add 3 a27 (.int .i64 1)) fun x26=>N [x23,a25,a26,x26] h24 n25) (e2 [a6,a25,a26,a27] h nx)
def concat (s:Bool) (t0:Value) (h:Hp) (nx:Nat) (K:KC'):Prop:=RK (lenS t0) fun x1=>Lp (fL Q O s concatL 228 0) [t0,(.int .i64 0),t0,x1,(.int .i64 0)] h nx [(0,fun v4 h2 n3=>Cv Q O s 308 [(.slice none 0 0),(nv v4 1)] h2 n3 fun x13 h14 n15=>RK (lenS (nv v4 0)) fun x16=>Lp (fL Q O s concatL 228 1) [x13,(nv v4 0),x16,(.int .i64 0)] h14 n15 [(2,fun v19 h17 n18=>K (nv v19 0) h17 n18)] (fun _ _ _=>False))] (fun _ _ _=>False)
theorem concatb0 {s:Bool} {a0 a3 a9 a10 a11:Value} {h:Hp} {nx:Nat} {N e0 R:KVl}:fL Q O s concatL 228 0 [a0,a3,a9,a10,a11] h nx N [(0,e0)] R=concatl0 s a0 a3 a9 a10 a11 h nx N e0 R:=by kernel_rfl
theorem concatb1 {s:Bool} {a6 a25 a26 a27:Value} {h:Hp} {nx:Nat} {N e2 R:KVl}:fL Q O s concatL 228 1 [a6,a25,a26,a27] h nx N [(2,e2)] R=concatl1 s a6 a25 a26 a27 h nx N e2 R:=by kernel_rfl
theorem concate {s:Bool} {t0:Value} {h:Hp} {nx:Nat} {K:KC'}:fF Q O s concatL 228 [t0] h nx K=concat s t0 h nx K:=by kernel_rfl
theorem concatv {s:Bool} {t0:Value} {h:Hp} {nx:Nat} {K:KC'} (w:concat s t0 h nx K):Cv Q O s 228 [t0] h nx K:=Cv.byF concatL rfl (by rw [concate]; exact w)
def turnL:List (List Nat):=[]
def turn (s:Bool) (t0:Value) (h:Hp) (nx:Nat) (K:KC'):Prop:=AR (cellsNB (vcells t0)) h nx fun p1 h2 n3=>AR (.ok (.ptr (.cells [(.int .i64 0),(.slice none 0 0)] false))) h2 n3 fun p4 h5 n6=>RK (vLd (some 2) h5 p1) fun x7=>Cv Q O s 225 [x7,(.func (.func 309) #[] #[])] h5 n6 fun x8 h9 n10=>RK (vSt h9 2 p4 x8) fun h11=>RK (vLd (some 2) h11 p4) fun x12=>K x12 h11 n10
theorem turne {s:Bool} {t0:Value} {h:Hp} {nx:Nat} {K:KC'}:fF Q O s turnL 229 [t0] h nx K=turn s t0 h nx K:=by kernel_rfl
theorem turnv {s:Bool} {t0:Value} {h:Hp} {nx:Nat} {K:KC'} (w:turn s t0 h nx K):Cv Q O s 229 [t0] h nx K:=Cv.byF turnL rfl (by rw [turne]; exact w)
def madeL:List (List Nat):=[[1,2,4,5,11,12,13]]
def madel0 (s:Bool) (a1 a2 a4 a5 a11 a12 a13:Value) (h:Hp) (nx:Nat) (N:KVl) (e0:KVl) (R:KVl):Prop:=RK (bin Q .lss 3 a13 a12) fun x13=>IF x13 (RK (vIx (.slice 3) a11 a13) fun x14=>RK (vLd (some 3) h x14) fun x15=>AR (.ok (.ptr (.cells [(.int .i64 0),(.int .i64 0),(.int .i64 0)] false))) h nx fun p16 h17 n18=>RK (vSt h17 3 p16 x15) fun h19=>RK (vLd (some 3) h19 p16) fun x20=>CVK Q O s (callV h19 n18 [x20] a1) fun x21 h22 n23=>RK (oExtract x21 0) fun x24=>RK (oExtract x21 1) fun x25=>AR (.ok (.ptr (.cells [(.int .i64 0),(.int .i64 0),(.int .i64 0)] false))) h22 n23 fun p26 h27 n28=>RK (vSt h27 3 p26 x24) fun h29=>IF x25 (RK (vLd (some 3) h29 p26) fun x30=>AR (vBsl 1 [(.int .i64 0),(.int .i64 0),(.int .i64 0)] [(0,3,x30)]) h29 n28 fun p31 h32 n33=>EK (orR (appendA 3 h32 n33 a5 p31)) fun x34 h35 n36=>RK (bin Q .add 3 a13 (.int .i64 1)) fun x39=>N [a1,a2,a4,x34,a11,a12,x39] h35 n36) (RK (bin Q .add 3 a13 (.int .i64 1)) fun x40=>N [a1,a2,a4,a5,a11,a12,x40] h29 n28)) (e0 [a1,a2,a4,a5,a11,a12,a13] h nx)
def made (s:Bool) (t0 t1:Value) (h:Hp) (nx:Nat) (K:KC'):Prop:=AR (cellsNB (vcells t0)) h nx fun p1 h2 n3=>AR (.ok (.ptr (.cells [(.int .i64 0),(.slice none 0 0)] false))) h2 n3 fun p4 h5 n6=>RK (vFldA 1 p1) fun x7=>RK (vLd none h5 x7) fun x8=>RK (lenS x8) fun x9=>Lp (fL Q O s madeL 225 0) [t1,p1,p4,(.slice none 0 0),x8,x9,(.int .i64 0)] h5 n6 [(0,fun v12 h10 n11=>RK (vFldA 0 (nv v12 1)) fun x41=>RK (vLd none h10 x41) fun x42=>RK (vBld [(.int .i64 0),(.slice none 0 0)] [(0,1,x42),(1,1,(nv v12 3))]) fun x43=>Cv Q O s 227 [x43] h10 n11 fun x44 h45 n46=>RK (vSt h45 2 (nv v12 2) x44) fun h47=>RK (vLd (some 2) h47 (nv v12 2)) fun x48=>K x48 h47 n46)] (fun _ _ _=>False)
theorem madeb0 {s:Bool} {a1 a2 a4 a5 a11 a12 a13:Value} {h:Hp} {nx:Nat} {N e0 R:KVl}:fL Q O s madeL 225 0 [a1,a2,a4,a5,a11,a12,a13] h nx N [(0,e0)] R=madel0 s a1 a2 a4 a5 a11 a12 a13 h nx N e0 R:=by kernel_rfl
theorem madee {s:Bool} {t0 t1:Value} {h:Hp} {nx:Nat} {K:KC'}:fF Q O s madeL 225 [t0,t1] h nx K=made s t0 t1 h nx K:=by kernel_rfl
theorem madev {s:Bool} {t0 t1:Value} {h:Hp} {nx:Nat} {K:KC'} (w:made s t0 t1 h nx K):Cv Q O s 225 [t0,t1] h nx K:=Cv.byF madeL rfl (by rw [madee]; exact w)
def simple1L:List (List Nat):=[]
def simple1 (s:Bool) (t0:Value) (h:Hp) (nx:Nat) (K:KC'):Prop:=AR (cellsNB (vcells t0)) h nx fun p1 h2 n3=>AR (.ok (.ptr (.cells [(.int .i64 0),(.int .i64 0),(.int .i64 0)] false))) h2 n3 fun p4 h5 n6=>RK (vLd (some 3) h5 p1) fun x7=>RK (vSt h5 3 p4 x7) fun h8=>RK (vFldA 0 p1) fun x9=>RK (vLd none h8 x9) fun x10=>AGK (fun h=>vLd none h x9) x10 (RK (vFldA 1 p1) fun x11=>RK (vLd none h8 x11) fun x12=>AGK (fun h=>vLd none h x11) x12 (RK (bin Q .neq 3 x10 x12) fun x13=>RK (vLd (some 3) h8 p4) fun x14=>K (.tuple ⟨[x14,x13]⟩) h8 n6) 1 [h5]) 1 [h5]
theorem simple1e {s:Bool} {t0:Value} {h:Hp} {nx:Nat} {K:KC'}:fF Q O s simple1L 226 [t0] h nx K=simple1 s t0 h nx K:=by kernel_rfl
theorem simple1v {s:Bool} {t0:Value} {h:Hp} {nx:Nat} {K:KC'} (w:simple1 s t0 h nx K):Cv Q O s 226 [t0] h nx K:=Cv.byF simple1L rfl (by rw [simple1e]; exact w)
def plain1L:List (List Nat):=[]
def plain1 (s:Bool) (t0:Value) (h:Hp) (nx:Nat) (K:KC'):Prop:=AR (cellsNB (vcells t0)) h nx fun p1 h2 n3=>AR (.ok (.ptr (.cells [(.int .i64 0),(.int .i64 0),(.int .i64 0)] false))) h2 n3 fun p4 h5 n6=>RK (vFldA 2 p1) fun x7=>RK (vSt h5 1 x7 (.int .i64 1)) fun h8=>RK (vLd (some 3) h8 p1) fun x9=>RK (vSt h8 3 p4 x9) fun h10=>RK (vLd (some 3) h10 p4) fun x11=>K (.tuple ⟨[x11,(.bool true)]⟩) h10 n6
theorem plain1e {s:Bool} {t0:Value} {h:Hp} {nx:Nat} {K:KC'}:fF Q O s plain1L 230 [t0] h nx K=plain1 s t0 h nx K:=by kernel_rfl
theorem plain1v {s:Bool} {t0:Value} {h:Hp} {nx:Nat} {K:KC'} (w:plain1 s t0 h nx K):Cv Q O s 230 [t0] h nx K:=Cv.byF plain1L rfl (by rw [plain1e]; exact w)
def builtL:List (List Nat):=[[0,6,7,14,15,16],[6,7,44,45]]
def builtl0 (s:Bool) (a0 a6 a7 a14 a15 a16:Value) (h:Hp) (nx:Nat) (N:KVl) (e0:KVl) (R:KVl):Prop:=RK (bin Q .lss 3 a16 a15) fun x15=>IF x15 (RK (vIx (.slice 3) a14 a16) fun x16=>RK (vLd (some 3) h x16) fun x17=>AR (.ok (.ptr (.cells [(.int .i64 0),(.int .i64 0),(.int .i64 0)] false))) h nx fun p18 h19 n20=>RK (vSt h19 3 p18 x17) fun h21=>RK (vFldA 2 a7) fun x22=>RK (vLd none h21 x22) fun x23=>RK (vFldA 0 p18) fun x24=>RK (vLd none h21 x24) fun x25=>RK (bin Q .add 3 x25 (.int .i64 1)) fun x26=>RK (vIx (.slice 1) x23 x26) fun x27=>RK (vLd none h21 x27) fun x28=>RK (bin Q .add 3 x28 (.int .i64 1)) fun x29=>RK (vIx (.slice 1) x23 x26) fun x30=>RK (vSt h21 1 x30 x29) fun h31=>RK (vFldA 3 a7) fun x32=>RK (vLd none h31 x32) fun x33=>RK (vFldA 1 p18) fun x34=>RK (vLd none h31 x34) fun x35=>AR (vBsl 1 [(.int .i64 0)] [(0,1,x35)]) h31 n20 fun p36 h37 n38=>EK (orR (appendA 1 h37 n38 x33 p36)) fun x39 h40 n41=>RK (vFldA 3 a7) fun x42=>RK (vSt h40 1 x42 x39) fun h43=>RK (vFldA 4 a7) fun x44=>RK (vLd none h43 x44) fun x45=>RK (vFldA 2 p18) fun x46=>RK (vLd none h43 x46) fun x47=>AR (vBsl 1 [(.int .i64 0)] [(0,1,x47)]) h43 n41 fun p48 h49 n50=>EK (orR (appendA 1 h49 n50 x45 p48)) fun x51 h52 n53=>RK (vFldA 4 a7) fun x54=>RK (vSt h52 1 x54 x51) fun h55=>RK (bin Q .add 3 a16 (.int .i64 1)) fun x56=>N [a0,a6,a7,a14,a15,x56] h55 n53) (e0 [a0,a6,a7,a14,a15,a16] h nx)
def builtl1 (s:Bool) (a6 a7 a44 a45:Value) (h:Hp) (nx:Nat) (N:KVl) (e2:KVl) (R:KVl):Prop:=RK (bin Q .lss 3 a45 a44) fun x60=>IF x60 (RK (vFldA 2 a7) fun x61=>RK (vLd none h x61) fun x62=>RK (bin Q .add 3 a45 (.int .i64 1)) fun x63=>RK (vIx (.slice 1) x62 x63) fun x64=>RK (vLd none h x64) fun x65=>RK (vFldA 2 a7) fun x66=>RK (vLd none h x66) fun x67=>RK (vIx (.slice 1) x67 a45) fun x68=>RK (vLd none h x68) fun x69=>RK (bin Q .add 3 x65 x69) fun x70=>RK (vIx (.slice 1) x62 x63) fun x71=>RK (vSt h 1 x71 x70) fun h72=>RK (bin Q .add 3 a45 (.int .i64 1)) fun x73=>N [a6,a7,a44,x73] h72 nx) (e2 [a6,a7,a44,a45] h nx)
def built (s:Bool) (t0 t1 t2:Value) (h:Hp) (nx:Nat) (K:KC'):Prop:=AR (.ok (.ptr (.cells [(.int .i64 0),(.int .i64 0),(.slice none 0 0),(.slice none 0 0),(.slice none 0 0)] false))) h nx fun p1 h2 n3=>Cv Q O s 310 [t0,t1] h2 n3 fun x4 h5 n6=>AR (.ok (.ptr (.cells [(.int .i64 0),(.int .i64 0),(.slice none 0 0),(.slice none 0 0),(.slice none 0 0)] false))) h5 n6 fun p7 h8 n9=>RK (vSt h8 5 p7 x4) fun h10=>RK (lenS t2) fun x11=>Lp (fL Q O s builtL 231 0) [t0,p1,p7,t2,x11,(.int .i64 0)] h10 n9 [(0,fun v14 h12 n13=>Lp (fL Q O s builtL 231 1) [(nv v14 1),(nv v14 2),(nv v14 0),(.int .i64 0)] h12 n13 [(2,fun v59 h57 n58=>RK (vLd (some 5) h57 (nv v59 1)) fun x74=>RK (vSt h57 5 (nv v59 0) x74) fun h75=>RK (vLd (some 5) h75 (nv v59 0)) fun x76=>K x76 h75 n58)] (fun _ _ _=>False))] (fun _ _ _=>False)
theorem builtb0 {s:Bool} {a0 a6 a7 a14 a15 a16:Value} {h:Hp} {nx:Nat} {N e0 R:KVl}:fL Q O s builtL 231 0 [a0,a6,a7,a14,a15,a16] h nx N [(0,e0)] R=builtl0 s a0 a6 a7 a14 a15 a16 h nx N e0 R:=by kernel_rfl
theorem builtb1 {s:Bool} {a6 a7 a44 a45:Value} {h:Hp} {nx:Nat} {N e2 R:KVl}:fL Q O s builtL 231 1 [a6,a7,a44,a45] h nx N [(2,e2)] R=builtl1 s a6 a7 a44 a45 h nx N e2 R:=by kernel_rfl
theorem builte {s:Bool} {t0 t1 t2:Value} {h:Hp} {nx:Nat} {K:KC'}:fF Q O s builtL 231 [t0,t1,t2] h nx K=built s t0 t1 t2 h nx K:=by kernel_rfl
theorem builtv {s:Bool} {t0 t1 t2:Value} {h:Hp} {nx:Nat} {K:KC'} (w:built s t0 t1 t2 h nx K):Cv Q O s 231 [t0,t1,t2] h nx K:=Cv.byF builtL rfl (by rw [builte]; exact w)
def growL:List (List Nat):=[]
def grow (s:Bool) (t0 t1:Value) (h:Hp) (nx:Nat) (K:KC'):Prop:=RK (bin Q .lss 3 t1 (.int .i64 0)) fun x1=>IF x1 (RK (.ok (Value.iface 9 (.string ⟨#[99,97,110,110,111,116,32,98,101,32,110,101,103,97,116,105,118,101]⟩))) fun x2=>False) (RK (vCap Q (.builtin .cap) [26] [t0]) fun x3=>RK (lenS t0) fun x4=>RK (bin Q .sub 3 x3 x4) fun x5=>RK (bin Q .sub 3 t1 x5) fun x6=>RK (bin Q .gtr 3 x6 (.int .i64 0)) fun x7=>IF x7 (RK (vCap Q (.builtin .cap) [26] [t0]) fun x8=>RK (vSl 3 t0 none (some x8) none) fun x9=>EK (orR (builtinA Q .append [26,3] h nx [x9,x6])) fun x10 h11 n12=>RK (lenS t0) fun x13=>RK (vSl 3 x10 none (some x13) none) fun x14=>K x14 h11 n12) (K t0 h nx))
theorem growe {s:Bool} {t0 t1:Value} {h:Hp} {nx:Nat} {K:KC'}:fF Q O s growL 308 [t0,t1] h nx K=grow s t0 t1 h nx K:=by kernel_rfl
theorem growv {s:Bool} {t0 t1:Value} {h:Hp} {nx:Nat} {K:KC'} (w:grow s t0 t1 h nx K):Cv Q O s 308 [t0,t1] h nx K:=Cv.byF growL rfl (by rw [growe]; exact w)
def turnedL:List (List Nat):=[]
def turned (s:Bool) (t0:Value) (h:Hp) (nx:Nat) (K:KC'):Prop:=AR (cellsNB (vcells t0)) h nx fun p1 h2 n3=>AR (.ok (.ptr (.cells [(.int .i64 0),(.int .i64 0),(.int .i64 0)] false))) h2 n3 fun p4 h5 n6=>RK (vFldA 1 p1) fun x7=>RK (vLd none h5 x7) fun x8=>RK (vFldA 0 p1) fun x9=>RK (vLd none h5 x9) fun x10=>RK (vFldA 2 p1) fun x11=>RK (vLd none h5 x11) fun x12=>RK (vBld [(.int .i64 0),(.int .i64 0),(.int .i64 0)] [(0,1,x8),(1,1,x10),(2,1,x12)]) fun x13=>RK (vSt h5 3 p4 x13) fun h14=>RK (vLd (some 3) h14 p4) fun x15=>K (.tuple ⟨[x15,(.bool true)]⟩) h14 n6
theorem turnede {s:Bool} {t0:Value} {h:Hp} {nx:Nat} {K:KC'}:fF Q O s turnedL 309 [t0] h nx K=turned s t0 h nx K:=by kernel_rfl
theorem turnedv {s:Bool} {t0:Value} {h:Hp} {nx:Nat} {K:KC'} (w:turned s t0 h nx K):Cv Q O s 309 [t0] h nx K:=Cv.byF turnedL rfl (by rw [turnede]; exact w)
def emptyL:List (List Nat):=[]
def empty (s:Bool) (t0 t1:Value) (h:Hp) (nx:Nat) (K:KC'):Prop:=AR (.ok (.ptr (.cells [(.int .i64 0),(.int .i64 0),(.slice none 0 0),(.slice none 0 0),(.slice none 0 0)] false))) h nx fun p1 h2 n3=>RK (bin Q .add 3 t0 (.int .i64 1)) fun x4=>AR (vMks [(.int .i64 0)] x4 x4) h2 n3 fun p5 h6 n7=>RK (vBld [(.int .i64 0),(.int .i64 0),(.slice none 0 0),(.slice none 0 0),(.slice none 0 0)] [(0,1,t0),(1,1,t1),(2,1,p5)]) fun x8=>RK (vSt h6 5 p1 x8) fun h9=>RK (vLd (some 5) h9 p1) fun x10=>K x10 h9 n7
theorem emptye {s:Bool} {t0 t1:Value} {h:Hp} {nx:Nat} {K:KC'}:fF Q O s emptyL 310 [t0,t1] h nx K=empty s t0 t1 h nx K:=by kernel_rfl
theorem emptyv {s:Bool} {t0 t1:Value} {h:Hp} {nx:Nat} {K:KC'} (w:empty s t0 t1 h nx K):Cv Q O s 310 [t0,t1] h nx K:=Cv.byF emptyL rfl (by rw [emptye]; exact w)
def indepjoinsL:List (List Nat):=[[4,5,9,10,11]]
def indepjoinsl0 (s:Bool) (a4 a5 a9 a10 a11:Value) (h:Hp) (nx:Nat) (N:KVl) (e0:KVl) (R:KVl):Prop:=RK (lenS a9) fun x29=>RK (bin Q .lss 3 a11 x29) fun x30=>IF x30 (RK (vIx (.slice 1) a9 a11) fun x31=>RK (vLd none h x31) fun x32=>RK (lenS x32) fun x33=>RK (bin Q .eql 3 x33 (.int .i64 0)) fun x34=>IF x34 (R [(.bool false),a5,a9,a10,a11] h nx) (RK (vIx (.slice 1) a9 a11) fun x35=>RK (vLd none h x35) fun x36=>RK (lenS x36) fun x37=>RK (bin Q .add 3 a10 x37) fun x38=>RK (bin Q .add 3 a11 (.int .i64 1)) fun x39=>N [a4,a5,a9,x38,x39] h nx)) (e0 [a4,a5,a9,a10,a11] h nx)
def indepjoins (s:Bool) (t0 t1:Value) (h:Hp) (nx:Nat) (K:KC'):Prop:=AR (cellsNB (vcells t0)) h nx fun p1 h2 n3=>RK (vLd (some 5) h2 p1) fun x4=>Cv Q O s 29 [x4] h2 n3 fun x5 h6 n7=>RK (oExtract x5 0) fun x8=>RK (oExtract x5 1) fun x9=>RK (oExtract x5 2) fun x10=>RK (oExtract x5 3) fun x11=>AR (.ok (.ptr (.cells [(.int .i64 0),(.slice none 0 0)] false))) h6 n7 fun p12 h13 n14=>RK (vSt h13 2 p12 x8) fun h15=>Cv Q O true 42 [t1] h15 n14 fun x16 h17 n18=>n14≤n18∧RK (vLd (some 2) h17 p12) fun x19=>AGK (fun h=>vLd (some 2) h p12) x19 (Cv Q O true 30 [x19,x16] h17 n18 fun x20 h21 n22=>n18≤n22∧Lp (fL Q O s indepjoinsL 8 0) [(.bool false),p12,x20,(.int .i64 0),(.int .i64 0)] h21 n22 [(0,fun v25 h23 n24=>Cv Q O true 28 [] h23 n24 fun x40 h41 n42=>n24≤n42∧IF x40 (RK (lenS (nv v25 2)) fun x43=>RK (vFldA 0 (nv v25 1)) fun x44=>RK (vLd none h41 x44) fun x45=>RK (bin Q .leq 3 x43 x45) fun x46=>IF x46 (RK (vFldA 0 (nv v25 1)) fun x47=>RK (vLd none h41 x47) fun x48=>RK (bin Q .leq 3 (nv v25 3) x48) fun x49=>IF x49 (RK (vFldA 0 (nv v25 1)) fun x50=>RK (vLd none h41 x50) fun x51=>Cv Q O true 43 [(nv v25 2),x51] h41 n42 fun x52 h53 n54=>n42≤n54∧RK (lenS x52) fun x55=>RK (bin Q .eql 3 x55 (nv v25 3)) fun x56=>IF x56 (RK (vFldA 0 (nv v25 1)) fun x57=>RK (vLd none h53 x57) fun x58=>Cv Q O true 43 [(nv v25 2),x58] h53 n54 fun x59 h60 n61=>n54≤n61∧RK (vLd (some 2) h60 (nv v25 1)) fun x62=>AGK (fun h=>vLd (some 2) h (nv v25 1)) x62 (Cv Q O true 34 [x62,x59] h60 n61 fun x63 h64 n65=>n61≤n65∧K x63 h64 n65) 1 [h53,h41,h23]) (K (.bool false) h53 n54)) (K (.bool false) h41 n42)) (K (.bool false) h41 n42)) (K (.bool false) h41 n42))] (fun v28 h26 n27=>K (nv v28 0) h26 n27)) 1 [h15]
theorem indepjoinsb0 {s:Bool} {a4 a5 a9 a10 a11:Value} {h:Hp} {nx:Nat} {N e0 R:KVl}:fL Q O s indepjoinsL 8 0 [a4,a5,a9,a10,a11] h nx N [(0,e0)] R=indepjoinsl0 s a4 a5 a9 a10 a11 h nx N e0 R:=by kernel_rfl
theorem indepjoinse {s:Bool} {t0 t1:Value} {h:Hp} {nx:Nat} {K:KC'}:fF Q O s indepjoinsL 8 [t0,t1] h nx K=indepjoins s t0 t1 h nx K:=by kernel_rfl
theorem indepjoinsv {s:Bool} {t0 t1:Value} {h:Hp} {nx:Nat} {K:KC'} (w:indepjoins s t0 t1 h nx K):Cv Q O s 8 [t0,t1] h nx K:=Cv.byF indepjoinsL rfl (by rw [indepjoinse]; exact w)
def ijoinsL:List (List Nat):=[]
def ijoins (s:Bool) (t0 t1:Value) (h:Hp) (nx:Nat) (K:KC'):Prop:=AR (cellsNB (vcells t0)) h nx fun p1 h2 n3=>RK (vLd (some 2) h2 p1) fun x4=>Cv Q O s 32 [x4,t1,(.int .i64 1),(.int .i64 1)] h2 n3 fun x5 h6 n7=>RK (cFld 0 (some 5) x5) fun x8=>AR (.ok (.ptr (.cells [(.int .i64 0),(.int .i64 0),(.int .i64 0),(.int .i64 0),(.slice none 0 0)] false))) h6 n7 fun p9 h10 n11=>RK (vSt h10 5 p9 x8) fun h12=>RK (vLd (some 5) h12 p9) fun x13=>RK (vLd (some 2) h12 p1) fun x14=>Cv Q O s 49 [x13,x14] h12 n11 fun x15 h16 n17=>RK (oExtract x15 0) fun x18=>RK (oExtract x15 1) fun x19=>AR (.ok (.ptr (.cells [(.int .i64 0),(.int .i64 0),(.slice none 0 0),(.slice none 0 0),(.slice none 0 0)] false))) h16 n17 fun p20 h21 n22=>RK (vSt h21 5 p20 x18) fun h23=>RK (bin Q .neq 34 x19 (.int .i64 0)) fun x24=>IF x24 (K (.slice none 0 0) h23 n22) (RK (vLd (some 2) h23 p1) fun x25=>RK (vLd (some 5) h23 p9) fun x26=>Cv Q O s 100 [x25,x26] h23 n22 fun x27 h28 n29=>Cv Q O s 99 [x27] h28 n29 fun x30 h31 n32=>K x30 h31 n32)
theorem ijoinse {s:Bool} {t0 t1:Value} {h:Hp} {nx:Nat} {K:KC'}:fF Q O s ijoinsL 30 [t0,t1] h nx K=ijoins s t0 t1 h nx K:=by kernel_rfl
theorem ijoinsv {s:Bool} {t0 t1:Value} {h:Hp} {nx:Nat} {K:KC'} (w:ijoins s t0 t1 h nx K):Cv Q O s 30 [t0,t1] h nx K:=Cv.byF ijoinsL rfl (by rw [ijoinse]; exact w)
def isetupL:List (List Nat):=[]
def isetup (s:Bool) (t0 t1 t2 t3:Value) (h:Hp) (nx:Nat) (K:KC'):Prop:=AR (cellsNB (vcells t0)) h nx fun p1 h2 n3=>AR (.ok (.ptr (.cells [(.int .i64 0),(.int .i64 0),(.int .i64 0),(.int .i64 0),(.slice none 0 0),(.int .i64 0),(.slice none 0 0),(.int .i64 0),(.int .i64 0),(.int .i64 0),(.int .i64 0),(.slice none 0 0)] false))) h2 n3 fun p4 h5 n6=>RK (vLd (some 2) h5 p1) fun x7=>Cv Q O s 105 [x7,(.int .i64 0),t2,t3] h5 n6 fun x8 h9 n10=>AR (.ok (.ptr (.cells [(.int .i64 0),(.int .i64 0),(.int .i64 0),(.int .i64 0),(.slice none 0 0),(.int .i64 0),(.slice none 0 0),(.int .i64 0),(.int .i64 0),(.int .i64 0),(.int .i64 0),(.slice none 0 0)] false))) h9 n10 fun p11 h12 n13=>RK (vSt h12 12 p11 x8) fun h14=>Cv Q O s 51 [t1] h14 n13 fun x15 h16 n17=>RK (vFldA 0 p11) fun x18=>RK (vFldA 0 x18) fun x19=>RK (vSt h16 1 x19 (.int .i64 5)) fun h20=>RK (vFldA 0 p11) fun x21=>RK (vFldA 4 x21) fun x22=>RK (vSt h20 1 x22 x15) fun h23=>RK (vFldA 0 p1) fun x24=>RK (vLd none h23 x24) fun x25=>RK (min2 false x25 (.int .i64 0)) fun x26=>RK (min2 true x26 (.int .i64 4096)) fun x27=>RK (bin Q .mul 3 (.int .i64 2) x27) fun x28=>RK (vFldA 10 p11) fun x29=>RK (vSt h23 1 x29 x28) fun h30=>RK (vLd (some 12) h30 p11) fun x31=>RK (vSt h30 12 p4 x31) fun h32=>RK (vLd (some 12) h32 p4) fun x33=>K x33 h32 n17
theorem isetupe {s:Bool} {t0 t1 t2 t3:Value} {h:Hp} {nx:Nat} {K:KC'}:fF Q O s isetupL 32 [t0,t1,t2,t3] h nx K=isetup s t0 t1 t2 t3 h nx K:=by kernel_rfl
theorem isetupv {s:Bool} {t0 t1 t2 t3:Value} {h:Hp} {nx:Nat} {K:KC'} (w:isetup s t0 t1 t2 t3 h nx K):Cv Q O s 32 [t0,t1,t2,t3] h nx K:=Cv.byF isetupL rfl (by rw [isetupe]; exact w)
def icheckL:List (List Nat):=[[1,2,4,12,13,14]]
def icheckl0 (s:Bool) (a1 a2 a4 a12 a13 a14:Value) (h:Hp) (nx:Nat) (N:KVl) (e0:KVl) (R:KVl):Prop:=RK (bin Q .lss 3 a14 a13) fun x16=>IF x16 (RK (vIx (.slice 1) a12 a14) fun x17=>RK (vLd none h x17) fun x18=>RK (bin Q .lss 3 x18 (.int .i64 0)) fun x19=>IF x19 (R [a1,a2,(.bool false),a12,a13,a14] h nx) (RK (vFldA 0 a2) fun x20=>RK (vLd none h x20) fun x21=>RK (bin Q .geq 3 x18 x21) fun x22=>IF x22 (R [a1,a2,(.bool false),a12,a13,a14] h nx) (RK (bin Q .gtr 3 a14 (.int .i64 0)) fun x23=>IF x23 (RK (bin Q .sub 3 a14 (.int .i64 1)) fun x24=>RK (vIx (.slice 1) a1 x24) fun x25=>RK (vLd none h x25) fun x26=>RK (bin Q .geq 3 x26 x18) fun x27=>IF x27 (R [a1,a2,(.bool false),a12,a13,a14] h nx) (RK (bin Q .add 3 a14 (.int .i64 1)) fun x30=>N [a1,a2,a4,a12,a13,x30] h nx)) (RK (bin Q .add 3 a14 (.int .i64 1)) fun x31=>N [a1,a2,a4,a12,a13,x31] h nx)))) (e0 [a1,a2,a4,a12,a13,a14] h nx)
def icheck (s:Bool) (t0 t1:Value) (h:Hp) (nx:Nat) (K:KC'):Prop:=AR (cellsNB (vcells t0)) h nx fun p1 h2 n3=>RK (vLd (some 2) h2 p1) fun x4=>Cv Q O s 107 [x4] h2 n3 fun x5 h6 n7=>RK (bin Q .neq 34 x5 (.int .i64 0)) fun x8=>IF x8 (K (.bool false) h6 n7) (RK (lenS t1) fun x9=>Lp (fL Q O s icheckL 34 0) [t1,p1,(.bool false),t1,x9,(.int .i64 0)] h6 n7 [(0,fun v12 h10 n11=>RK (vFldA 0 (nv v12 1)) fun x32=>RK (vLd none h10 x32) fun x33=>Cv Q O s 108 [x33,(nv v12 0)] h10 n11 fun x34 h35 n36=>RK (vLd (some 2) h35 (nv v12 1)) fun x37=>Cv Q O true 110 [x37] h35 n36 fun x38 h39 n40=>n36≤n40∧RK (vFldA 0 (nv v12 1)) fun x41=>RK (vLd none h39 x41) fun x42=>AGK (fun h=>vLd none h x41) x42 (Cv Q O true 109 [x42,x38,(nv v12 0)] h39 n40 fun x43 h44 n45=>n40≤n45∧Cv Q O true 112 [x34,x43] h44 n45 fun x46 h47 n48=>n45≤n48∧Cv Q O true 111 [x46] h47 n48 fun x49 h50 n51=>n48≤n51∧RK (bin Q .eql 3 x49 (.int .i64 0)) fun x52=>IF x52 (Cv Q O true 113 [x34,x43] h50 n51 fun x53 h54 n55=>n51≤n55∧Cv Q O true 111 [x53] h54 n55 fun x56 h57 n58=>n55≤n58∧RK (vFldA 0 (nv v12 1)) fun x59=>RK (vLd none h57 x59) fun x60=>AGK (fun h=>vLd none h x59) x60 (RK (bin Q .eql 3 x56 x60) fun x61=>K x61 h57 n58) 2 [h54,h50,h47,h44]) (K (.bool false) h50 n51)) 1 [h35])] (fun v15 h13 n14=>K (nv v15 2) h13 n14))
theorem icheckb0 {s:Bool} {a1 a2 a4 a12 a13 a14:Value} {h:Hp} {nx:Nat} {N e0 R:KVl}:fL Q O s icheckL 34 0 [a1,a2,a4,a12,a13,a14] h nx N [(0,e0)] R=icheckl0 s a1 a2 a4 a12 a13 a14 h nx N e0 R:=by kernel_rfl
theorem ichecke {s:Bool} {t0 t1:Value} {h:Hp} {nx:Nat} {K:KC'}:fF Q O s icheckL 34 [t0,t1] h nx K=icheck s t0 t1 h nx K:=by kernel_rfl
theorem icheckv {s:Bool} {t0 t1:Value} {h:Hp} {nx:Nat} {K:KC'} (w:icheck s t0 t1 h nx K):Cv Q O s 34 [t0,t1] h nx K:=Cv.byF icheckL rfl (by rw [ichecke]; exact w)
def idrawnL:List (List Nat):=[[0,3,4]]
def idrawnk0 (s:Bool) (N:KVl) (e0:KVl) (R:KVl) (y0 y3 y4 y12:Value) (h0:Hp) (n0:Nat):Prop:=IF y12 (RK (vIx (.slice 1) y0 y4) fun x7=>RK (vLd none h0 x7) fun x8=>RK (bin Q .and 2 x8 (.int .i64 2147483647)) fun x9=>AR (vBsl 1 [(.int .i64 0)] [(0,1,x9)]) h0 n0 fun p10 h11 n12=>EK (orR (appendA 1 h11 n12 y3 p10)) fun x13 h14 n15=>RK (bin Q .add 3 y4 (.int .i64 1)) fun x16=>N [y0,x13,x16] h14 n15) (e0 [y0,y3,y4] h0 n0)
def idrawnl0 (s:Bool) (a0 a3 a4:Value) (h:Hp) (nx:Nat) (N:KVl) (e0:KVl) (R:KVl):Prop:=RK (lenS a0) fun x4=>RK (bin Q .lss 3 a4 x4) fun x5=>IF x5 (RK (bin Q .lss 3 a4 (.int .i64 50)) fun x6=>(idrawnk0 s N e0 R a0 a3 a4 x6 h nx)) ((idrawnk0 s N e0 R a0 a3 a4 (.bool false) h nx))
def idrawn (s:Bool) (t0:Value) (h:Hp) (nx:Nat) (K:KC'):Prop:=Lp (fL Q O s idrawnL 42 0) [t0,(.slice none 0 0),(.int .i64 0)] h nx [(0,fun v3 h1 n2=>K (nv v3 1) h1 n2)] (fun _ _ _=>False)
theorem idrawnb0 {s:Bool} {a0 a3 a4:Value} {h:Hp} {nx:Nat} {N e0 R:KVl}:fL Q O s idrawnL 42 0 [a0,a3,a4] h nx N [(0,e0)] R=idrawnl0 s a0 a3 a4 h nx N e0 R:=by kernel_rfl
theorem idrawne {s:Bool} {t0:Value} {h:Hp} {nx:Nat} {K:KC'}:fF Q O s idrawnL 42 [t0] h nx K=idrawn s t0 h nx K:=by kernel_rfl
theorem idrawnv {s:Bool} {t0:Value} {h:Hp} {nx:Nat} {K:KC'} (w:idrawn s t0 h nx K):Cv Q O s 42 [t0] h nx K:=Cv.byF idrawnL rfl (by rw [idrawne]; exact w)
def ijoinedL:List (List Nat):=[[0,1,5,6],[0,1,5,6,7],[0,1,5,6,7,8]]
def ijoinedl2 (s:Bool) (a0 a1 a5 a6 a7 a8:Value) (h:Hp) (nx:Nat) (N:KVl) (e4:KVl) (R:KVl):Prop:=RK (vIx (.slice 1) a0 a7) fun x13=>RK (vLd none h x13) fun x14=>RK (lenS x14) fun x15=>RK (bin Q .lss 3 a8 x15) fun x16=>IF x16 (RK (vIx (.slice 1) a0 a7) fun x17=>RK (vLd none h x17) fun x18=>RK (vIx (.slice 1) x18 a8) fun x19=>RK (vLd none h x19) fun x20=>RK (bin Q .eql 3 x20 a6) fun x21=>IF x21 (AR (vBsl 1 [(.int .i64 0)] [(0,1,a6)]) h nx fun p22 h23 n24=>EK (orR (appendA 1 h23 n24 a5 p22)) fun x25 h26 n27=>RK (bin Q .add 3 a8 (.int .i64 1)) fun x30=>N [a0,a1,x25,a6,a7,x30] h26 n27) (RK (bin Q .add 3 a8 (.int .i64 1)) fun x31=>N [a0,a1,a5,a6,a7,x31] h nx)) (e4 [a0,a1,a5,a6,a7,a8] h nx)
def ijoinedl1 (s:Bool) (a0 a1 a5 a6 a7:Value) (h:Hp) (nx:Nat) (N:KVl) (e2:KVl) (R:KVl):Prop:=RK (lenS a0) fun x8=>RK (bin Q .lss 3 a7 x8) fun x9=>IF x9 (Lp (fL Q O s ijoinedL 43 2) [a0,a1,a5,a6,a7,(.int .i64 0)] h nx [(4,fun v12 h10 n11=>RK (bin Q .add 3 (nv v12 4) (.int .i64 1)) fun x32=>N [(nv v12 0),(nv v12 1),(nv v12 2),(nv v12 3),x32] h10 n11)] (fun _ _ _=>False)) (e2 [a0,a1,a5,a6,a7] h nx)
def ijoinedl0 (s:Bool) (a0 a1 a5 a6:Value) (h:Hp) (nx:Nat) (N:KVl) (e0:KVl) (R:KVl):Prop:=RK (bin Q .lss 3 a6 a1) fun x4=>IF x4 (Lp (fL Q O s ijoinedL 43 1) [a0,a1,a5,a6,(.int .i64 0)] h nx [(2,fun v7 h5 n6=>RK (bin Q .add 3 (nv v7 3) (.int .i64 1)) fun x33=>N [(nv v7 0),(nv v7 1),(nv v7 2),x33] h5 n6)] (fun _ _ _=>False)) (e0 [a0,a1,a5,a6] h nx)
def ijoined (s:Bool) (t0 t1:Value) (h:Hp) (nx:Nat) (K:KC'):Prop:=Lp (fL Q O s ijoinedL 43 0) [t0,t1,(.slice none 0 0),(.int .i64 0)] h nx [(0,fun v3 h1 n2=>K (nv v3 2) h1 n2)] (fun _ _ _=>False)
theorem ijoinedb2 {s:Bool} {a0 a1 a5 a6 a7 a8:Value} {h:Hp} {nx:Nat} {N e4 R:KVl}:fL Q O s ijoinedL 43 2 [a0,a1,a5,a6,a7,a8] h nx N [(4,e4)] R=ijoinedl2 s a0 a1 a5 a6 a7 a8 h nx N e4 R:=by kernel_rfl
theorem ijoinedb1 {s:Bool} {a0 a1 a5 a6 a7:Value} {h:Hp} {nx:Nat} {N e2 R:KVl}:fL Q O s ijoinedL 43 1 [a0,a1,a5,a6,a7] h nx N [(2,e2)] R=ijoinedl1 s a0 a1 a5 a6 a7 h nx N e2 R:=by kernel_rfl
theorem ijoinedb0 {s:Bool} {a0 a1 a5 a6:Value} {h:Hp} {nx:Nat} {N e0 R:KVl}:fL Q O s ijoinedL 43 0 [a0,a1,a5,a6] h nx N [(0,e0)] R=ijoinedl0 s a0 a1 a5 a6 h nx N e0 R:=by kernel_rfl
theorem ijoinede {s:Bool} {t0 t1:Value} {h:Hp} {nx:Nat} {K:KC'}:fF Q O s ijoinedL 43 [t0,t1] h nx K=ijoined s t0 t1 h nx K:=by kernel_rfl
theorem ijoinedv {s:Bool} {t0 t1:Value} {h:Hp} {nx:Nat} {K:KC'} (w:ijoined s t0 t1 h nx K):Cv Q O s 43 [t0,t1] h nx K:=Cv.byF ijoinedL rfl (by rw [ijoinede]; exact w)
def collectlL:List (List Nat):=[]
def collectl (s:Bool) (t0:Value) (h:Hp) (nx:Nat) (K:KC'):Prop:=Cv Q O s 187 [(.slice none 0 0),t0] h nx fun x1 h2 n3=>K x1 h2 n3
theorem collectle {s:Bool} {t0:Value} {h:Hp} {nx:Nat} {K:KC'}:fF Q O s collectlL 99 [t0] h nx K=collectl s t0 h nx K:=by kernel_rfl
theorem collectlv {s:Bool} {t0:Value} {h:Hp} {nx:Nat} {K:KC'} (w:collectl s t0 h nx K):Cv Q O s 99 [t0] h nx K:=Cv.byF collectlL rfl (by rw [collectle]; exact w)
def joins0L:List (List Nat):=[]
def joins0 (s:Bool) (t0 t1:Value) (h:Hp) (nx:Nat) (K:KC'):Prop:=AR (cellsNB (vcells t0)) h nx fun p1 h2 n3=>AR (cellsNB (vcells t1)) h2 n3 fun p4 h5 n6=>RK (.ok (Value.func (.func 188) ⟨[]⟩ ⟨[p1,p4]⟩)) fun x7=>K x7 h5 n6
theorem joins0e {s:Bool} {t0 t1:Value} {h:Hp} {nx:Nat} {K:KC'}:fF Q O s joins0L 100 [t0,t1] h nx K=joins0 s t0 t1 h nx K:=by kernel_rfl
theorem joins0v {s:Bool} {t0 t1:Value} {h:Hp} {nx:Nat} {K:KC'} (w:joins0 s t0 t1 h nx K):Cv Q O s 100 [t0,t1] h nx K:=Cv.byF joins0L rfl (by rw [joins0e]; exact w)
def hsetupL:List (List Nat):=[]
def hsetupk0 (s:Bool) (K:KC') (y1 y2 y3 y4 y8 y9:Value) (h0:Hp) (n0:Nat):Prop:=RK (vFldA 0 y4) fun x14=>RK (vLd none h0 x14) fun x15=>RK (vBld [(.int .i64 0),(.int .i64 0),(.int .i64 0),(.int .i64 0),(.slice none 0 0)] [(0,1,(.int .i64 1)),(1,1,x15),(2,1,y1)]) fun x16=>RK (vLd (some 2) h0 y4) fun x17=>RK (vBld [(.int .i64 0),(.int .i64 0),(.int .i64 0),(.int .i64 0),(.slice none 0 0),(.int .i64 0),(.slice none 0 0),(.int .i64 0),(.int .i64 0),(.int .i64 0),(.int .i64 0),(.slice none 0 0)] [(0,5,x16),(5,2,x17),(7,1,y2),(8,1,y3),(9,1,(.int .i64 4)),(10,1,y9)]) fun x18=>RK (vSt h0 12 y8 x18) fun h19=>RK (vLd (some 12) h19 y8) fun x20=>K x20 h19 n0
def hsetup (s:Bool) (t0 t1 t2 t3:Value) (h:Hp) (nx:Nat) (K:KC'):Prop:=AR (cellsNB (vcells t0)) h nx fun p1 h2 n3=>AR (.ok (.ptr (.cells [(.int .i64 0),(.int .i64 0),(.int .i64 0),(.int .i64 0),(.slice none 0 0),(.int .i64 0),(.slice none 0 0),(.int .i64 0),(.int .i64 0),(.int .i64 0),(.int .i64 0),(.slice none 0 0)] false))) h2 n3 fun p4 h5 n6=>RK (vFldA 0 p1) fun x7=>RK (vLd none h5 x7) fun x8=>RK (bin Q .geq 3 x8 (.int .i64 0)) fun x9=>IF x9 (RK (vFldA 0 p1) fun x10=>RK (vLd none h5 x10) fun x11=>RK (min2 true x11 (.int .i64 8191)) fun x12=>RK (bin Q .add 3 x12 (.int .i64 1)) fun x13=>(hsetupk0 s K t1 t2 t3 p1 p4 x13 h5 n6)) ((hsetupk0 s K t1 t2 t3 p1 p4 (.int .i64 0) h5 n6))
theorem hsetupe {s:Bool} {t0 t1 t2 t3:Value} {h:Hp} {nx:Nat} {K:KC'}:fF Q O s hsetupL 105 [t0,t1,t2,t3] h nx K=hsetup s t0 t1 t2 t3 h nx K:=by kernel_rfl
theorem hsetupv {s:Bool} {t0 t1 t2 t3:Value} {h:Hp} {nx:Nat} {K:KC'} (w:hsetup s t0 t1 t2 t3 h nx K):Cv Q O s 105 [t0,t1,t2,t3] h nx K:=Cv.byF hsetupL rfl (by rw [hsetupe]; exact w)
def fofL:List (List Nat):=[[0,5,10,11,12]]
def fofk0 (s:Bool) (N:KVl) (e0:KVl) (R:KVl) (y0 y5 y10 y11 y12:Value) (h0:Hp) (n0:Nat):Prop:=RK (bin Q .add 3 y12 (.int .i64 1)) fun x24=>N [y0,y5,y10,y11,x24] h0 n0
def fofl0 (s:Bool) (a0 a5 a10 a11 a12:Value) (h:Hp) (nx:Nat) (N:KVl) (e0:KVl) (R:KVl):Prop:=RK (bin Q .lss 3 a12 a11) fun x8=>IF x8 (RK (vIx (.slice 1) a10 a12) fun x9=>RK (vLd none h x9) fun x10=>RK (bin Q .lss 3 x10 a0) fun x11=>IF x11 (Cv Q O s 196 [a5,x10] h nx fun x12 h13 n14=>IF x12 (Cv Q O true 197 [x10] h13 n14 fun x15 h16 n17=>n14≤n17∧RK (bin Q .shr 3 x10 (.int .u64 6)) fun x18=>RK (vIx (.slice 1) a5 x18) fun x19=>RK (vLd none h16 x19) fun x20=>AGK (fun h=>vLd none h x19) x20 (RK (bin Q .or 221 x20 x15) fun x21=>RK (vIx (.slice 1) a5 x18) fun x22=>RK (vSt h16 1 x22 x21) fun h23=>(fofk0 s N e0 R a0 a5 a10 a11 a12 h23 n17)) 1 [h13]) ((fofk0 s N e0 R a0 a5 a10 a11 a12 h13 n14))) ((fofk0 s N e0 R a0 a5 a10 a11 a12 h nx))) (e0 [a0,a5,a10,a11,a12] h nx)
def fof (s:Bool) (t0 t1:Value) (h:Hp) (nx:Nat) (K:KC'):Prop:=Cv Q O s 115 [t0] h nx fun x1 h2 n3=>RK (lenS t1) fun x4=>Lp (fL Q O s fofL 108 0) [t0,x1,t1,x4,(.int .i64 0)] h2 n3 [(0,fun v7 h5 n6=>K (nv v7 1) h5 n6)] (fun _ _ _=>False)
theorem fofb0 {s:Bool} {a0 a5 a10 a11 a12:Value} {h:Hp} {nx:Nat} {N e0 R:KVl}:fL Q O s fofL 108 0 [a0,a5,a10,a11,a12] h nx N [(0,e0)] R=fofl0 s a0 a5 a10 a11 a12 h nx N e0 R:=by kernel_rfl
theorem fofe {s:Bool} {t0 t1:Value} {h:Hp} {nx:Nat} {K:KC'}:fF Q O s fofL 108 [t0,t1] h nx K=fof s t0 t1 h nx K:=by kernel_rfl
theorem fofv {s:Bool} {t0 t1:Value} {h:Hp} {nx:Nat} {K:KC'} (w:fof s t0 t1 h nx K):Cv Q O s 108 [t0,t1] h nx K:=Cv.byF fofL rfl (by rw [fofe]; exact w)
def touchedL:List (List Nat):=[[1,7,12,13,14]]
def touchedl0 (s:Bool) (a1 a7 a12 a13 a14:Value) (h:Hp) (nx:Nat) (N:KVl) (e0:KVl) (R:KVl):Prop:=RK (bin Q .lss 3 a14 a13) fun x8=>IF x8 (RK (vIx (.slice 1) a12 a14) fun x9=>RK (vLd none h x9) fun x10=>RK (vIx (.slice 1) a1 x10) fun x11=>RK (vLd none h x11) fun x12=>Cv Q O s 113 [a7,x12] h nx fun x13 h14 n15=>RK (bin Q .add 3 a14 (.int .i64 1)) fun x16=>N [a1,x13,a12,a13,x16] h14 n15) (e0 [a1,a7,a12,a13,a14] h nx)
def touched (s:Bool) (t0 t1 t2:Value) (h:Hp) (nx:Nat) (K:KC'):Prop:=Cv Q O s 115 [t0] h nx fun x1 h2 n3=>RK (lenS t2) fun x4=>Lp (fL Q O s touchedL 109 0) [t1,x1,t2,x4,(.int .i64 0)] h2 n3 [(0,fun v7 h5 n6=>K (nv v7 1) h5 n6)] (fun _ _ _=>False)
theorem touchedb0 {s:Bool} {a1 a7 a12 a13 a14:Value} {h:Hp} {nx:Nat} {N e0 R:KVl}:fL Q O s touchedL 109 0 [a1,a7,a12,a13,a14] h nx N [(0,e0)] R=touchedl0 s a1 a7 a12 a13 a14 h nx N e0 R:=by kernel_rfl
theorem touchede {s:Bool} {t0 t1 t2:Value} {h:Hp} {nx:Nat} {K:KC'}:fF Q O s touchedL 109 [t0,t1,t2] h nx K=touched s t0 t1 t2 h nx K:=by kernel_rfl
theorem touchedv {s:Bool} {t0 t1 t2:Value} {h:Hp} {nx:Nat} {K:KC'} (w:touched s t0 t1 t2 h nx K):Cv Q O s 109 [t0,t1,t2] h nx K:=Cv.byF touchedL rfl (by rw [touchede]; exact w)
def nearL:List (List Nat):=[[1,3,15,16,17],[1,6,35,36,37]]
def nearl0 (s:Bool) (a1 a3 a15 a16 a17:Value) (h:Hp) (nx:Nat) (N:KVl) (e0:KVl) (R:KVl):Prop:=RK (bin Q .lss 3 a17 a16) fun x21=>IF x21 (RK (vIx (.slice 3) a15 a17) fun x22=>RK (vLd (some 3) h x22) fun x23=>AR (.ok (.ptr (.cells [(.int .i64 0),(.int .i64 0),(.int .i64 0)] false))) h nx fun p24 h25 n26=>RK (vSt h25 3 p24 x23) fun h27=>RK (vFldA 0 p24) fun x28=>RK (vLd none h27 x28) fun x29=>RK (vIx (.slice 1) a3 x29) fun x30=>RK (vLd none h27 x30) fun x31=>RK (vFldA 1 p24) fun x32=>RK (vLd none h27 x32) fun x33=>AR (vBsl 1 [(.int .i64 0)] [(0,1,x33)]) h27 n26 fun p34 h35 n36=>EK (orR (appendA 1 h35 n36 x31 p34)) fun x37 h38 n39=>n36≤n39∧RK (vFldA 0 p24) fun x40=>RK (vLd none h38 x40) fun x41=>AGK (fun h=>vLd none h x40) x41 (RK (vIx (.slice 1) a3 x41) fun x42=>RK (vSt h38 1 x42 x37) fun h43=>RK (bin Q .add 3 a17 (.int .i64 1)) fun x44=>N [a1,a3,a15,a16,x44] h43 n39) 1 [h27]) (e0 [a1,a3,a15,a16,a17] h nx)
def nearl1 (s:Bool) (a1 a6 a35 a36 a37:Value) (h:Hp) (nx:Nat) (N:KVl) (e2:KVl) (R:KVl):Prop:=RK (bin Q .lss 3 a37 a36) fun x49=>IF x49 (RK (vIx (.slice 1) a35 a37) fun x50=>RK (vLd none h x50) fun x51=>RK (vFldA 0 a1) fun x52=>RK (vLd none h x52) fun x53=>Cv Q O s 108 [x53,x51] h nx fun x54 h55 n56=>AR (vBsl 1 [(.slice none 0 0)] [(0,1,x54)]) h55 n56 fun p57 h58 n59=>EK (orR (appendA 1 h58 n59 a6 p57)) fun x60 h61 n62=>RK (bin Q .add 3 a37 (.int .i64 1)) fun x63=>N [a1,x60,a35,a36,x63] h61 n62) (e2 [a1,a6,a35,a36,a37] h nx)
def near (s:Bool) (t0:Value) (h:Hp) (nx:Nat) (K:KC'):Prop:=AR (cellsNB (vcells t0)) h nx fun p1 h2 n3=>RK (vFldA 0 p1) fun x4=>RK (vLd none h2 x4) fun x5=>AR (vMks [(.slice none 0 0)] x5 x5) h2 n3 fun p6 h7 n8=>RK (vLd (some 2) h7 p1) fun x9=>Cv Q O s 129 [x9] h7 n8 fun x10 h11 n12=>Cv Q O s 130 [x10] h11 n12 fun x13 h14 n15=>RK (cFld 1 none x13) fun x16=>RK (lenS x16) fun x17=>Lp (fL Q O s nearL 110 0) [p1,p6,x16,x17,(.int .i64 0)] h14 n15 [(0,fun v20 h18 n19=>RK (lenS (nv v20 1)) fun x45=>Lp (fL Q O s nearL 110 1) [(nv v20 0),(.slice none 0 0),(nv v20 1),x45,(.int .i64 0)] h18 n19 [(2,fun v48 h46 n47=>K (nv v48 1) h46 n47)] (fun _ _ _=>False))] (fun _ _ _=>False)
theorem nearb0 {s:Bool} {a1 a3 a15 a16 a17:Value} {h:Hp} {nx:Nat} {N e0 R:KVl}:fL Q O s nearL 110 0 [a1,a3,a15,a16,a17] h nx N [(0,e0)] R=nearl0 s a1 a3 a15 a16 a17 h nx N e0 R:=by kernel_rfl
theorem nearb1 {s:Bool} {a1 a6 a35 a36 a37:Value} {h:Hp} {nx:Nat} {N e2 R:KVl}:fL Q O s nearL 110 1 [a1,a6,a35,a36,a37] h nx N [(2,e2)] R=nearl1 s a1 a6 a35 a36 a37 h nx N e2 R:=by kernel_rfl
theorem neare {s:Bool} {t0:Value} {h:Hp} {nx:Nat} {K:KC'}:fF Q O s nearL 110 [t0] h nx K=near s t0 h nx K:=by kernel_rfl
theorem nearv {s:Bool} {t0:Value} {h:Hp} {nx:Nat} {K:KC'} (w:near s t0 h nx K):Cv Q O s 110 [t0] h nx K:=Cv.byF nearL rfl (by rw [neare]; exact w)
def fcountL:List (List Nat):=[[3,6,7,8]]
def fcountl0 (s:Bool) (a3 a6 a7 a8:Value) (h:Hp) (nx:Nat) (N:KVl) (e0:KVl) (R:KVl):Prop:=RK (bin Q .lss 3 a8 a7) fun x5=>IF x5 (RK (vIx (.slice 1) a6 a8) fun x6=>RK (vLd none h x6) fun x7=>Cv Q O s 198 [x7] h nx fun x8 h9 n10=>RK (bin Q .add 3 a3 x8) fun x11=>RK (bin Q .add 3 a8 (.int .i64 1)) fun x12=>N [x11,a6,a7,x12] h9 n10) (e0 [a3,a6,a7,a8] h nx)
def fcount (s:Bool) (t0:Value) (h:Hp) (nx:Nat) (K:KC'):Prop:=RK (lenS t0) fun x1=>Lp (fL Q O s fcountL 111 0) [(.int .i64 0),t0,x1,(.int .i64 0)] h nx [(0,fun v4 h2 n3=>K (nv v4 0) h2 n3)] (fun _ _ _=>False)
theorem fcountb0 {s:Bool} {a3 a6 a7 a8:Value} {h:Hp} {nx:Nat} {N e0 R:KVl}:fL Q O s fcountL 111 0 [a3,a6,a7,a8] h nx N [(0,e0)] R=fcountl0 s a3 a6 a7 a8 h nx N e0 R:=by kernel_rfl
theorem fcounte {s:Bool} {t0:Value} {h:Hp} {nx:Nat} {K:KC'}:fF Q O s fcountL 111 [t0] h nx K=fcount s t0 h nx K:=by kernel_rfl
theorem fcountv {s:Bool} {t0:Value} {h:Hp} {nx:Nat} {K:KC'} (w:fcount s t0 h nx K):Cv Q O s 111 [t0] h nx K:=Cv.byF fcountL rfl (by rw [fcounte]; exact w)
def fbothL:List (List Nat):=[]
def fboth (s:Bool) (t0 t1:Value) (h:Hp) (nx:Nat) (K:KC'):Prop:=RK (lenS t0) fun x1=>Cv Q O s 199 [x1,t0,t1,(.func (.func 200) #[] #[])] h nx fun x2 h3 n4=>K x2 h3 n4
theorem fbothe {s:Bool} {t0 t1:Value} {h:Hp} {nx:Nat} {K:KC'}:fF Q O s fbothL 112 [t0,t1] h nx K=fboth s t0 t1 h nx K:=by kernel_rfl
theorem fbothv {s:Bool} {t0 t1:Value} {h:Hp} {nx:Nat} {K:KC'} (w:fboth s t0 t1 h nx K):Cv Q O s 112 [t0,t1] h nx K:=Cv.byF fbothL rfl (by rw [fbothe]; exact w)
def funionL:List (List Nat):=[]
def funion (s:Bool) (t0 t1:Value) (h:Hp) (nx:Nat) (K:KC'):Prop:=RK (lenS t0) fun x1=>RK (lenS t1) fun x2=>RK (min2 false x1 x2) fun x3=>Cv Q O s 199 [x3,t0,t1,(.func (.func 201) #[] #[])] h nx fun x4 h5 n6=>K x4 h5 n6
theorem funione {s:Bool} {t0 t1:Value} {h:Hp} {nx:Nat} {K:KC'}:fF Q O s funionL 113 [t0,t1] h nx K=funion s t0 t1 h nx K:=by kernel_rfl
theorem funionv {s:Bool} {t0 t1:Value} {h:Hp} {nx:Nat} {K:KC'} (w:funion s t0 t1 h nx K):Cv Q O s 113 [t0,t1] h nx K:=Cv.byF funionL rfl (by rw [funione]; exact w)
def fnewL:List (List Nat):=[]
def fnew (s:Bool) (t0:Value) (h:Hp) (nx:Nat) (K:KC'):Prop:=Cv Q O s 202 [t0] h nx fun x1 h2 n3=>AR (vMks [(.int .u64 0)] x1 x1) h2 n3 fun p4 h5 n6=>K p4 h5 n6
theorem fnewe {s:Bool} {t0:Value} {h:Hp} {nx:Nat} {K:KC'}:fF Q O s fnewL 115 [t0] h nx K=fnew s t0 h nx K:=by kernel_rfl
theorem fnewv {s:Bool} {t0:Value} {h:Hp} {nx:Nat} {K:KC'} (w:fnew s t0 h nx K):Cv Q O s 115 [t0] h nx K:=Cv.byF fnewL rfl (by rw [fnewe]; exact w)
def flistL:List (List Nat):=[]
def flist (s:Bool) (t0:Value) (h:Hp) (nx:Nat) (K:KC'):Prop:=Cv Q O s 205 [t0] h nx fun x1 h2 n3=>Cv Q O s 204 [x1] h2 n3 fun x4 h5 n6=>K x4 h5 n6
theorem fliste {s:Bool} {t0:Value} {h:Hp} {nx:Nat} {K:KC'}:fF Q O s flistL 117 [t0] h nx K=flist s t0 h nx K:=by kernel_rfl
theorem flistv {s:Bool} {t0:Value} {h:Hp} {nx:Nat} {K:KC'} (w:flist s t0 h nx K):Cv Q O s 117 [t0] h nx K:=Cv.byF flistL rfl (by rw [fliste]; exact w)
def joins1L:List (List Nat):=[[0,1,2,4,5,6],[0,1,2,4,5,6,7,18,19,20]]
def joins1l1 (s:Bool) (a0 a1 a2 a4 a5 a6 a7 a18 a19 a20:Value) (h:Hp) (nx:Nat) (N:KVl) (e2:KVl) (R:KVl):Prop:=RK (bin Q .lss 3 a20 a19) fun x20=>IF x20 (RK (vIx (.slice 1) a18 a20) fun x21=>RK (vLd none h x21) fun x22=>RK (vIx (.slice 1) a4 x22) fun x23=>RK (vLd none h x23) fun x24=>Cv Q O true 112 [x24,a5] h nx fun x25 h26 n27=>nx≤n27∧RK (vLd (some 5) h26 a2) fun x28=>AGK (fun h=>vLd (some 5) h a2) x28 (Cv Q O true 190 [x28,a6,x22,x25] h26 n27 fun x29 h30 n31=>n27≤n31∧IF x29 (AR (vBsl 1 [(.int .i64 0)] [(0,1,x22)]) h30 n31 fun p32 h33 n34=>EK (orR (appendA 1 h33 n34 a7 p32)) fun x35 h36 n37=>RK (bin Q .add 3 a20 (.int .i64 1)) fun x40=>N [a0,a1,a2,a4,a5,a6,x35,a18,a19,x40] h36 n37) (RK (bin Q .add 3 a20 (.int .i64 1)) fun x41=>N [a0,a1,a2,a4,a5,a6,a7,a18,a19,x41] h30 n31)) 1 [h]) (e2 [a0,a1,a2,a4,a5,a6,a7,a18,a19,a20] h nx)
def joins1l0 (s:Bool) (a0 a1 a2 a4 a5 a6:Value) (h:Hp) (nx:Nat) (N:KVl) (e0:KVl) (R:KVl):Prop:=Cv Q O s 117 [a5] h nx fun x13 h14 n15=>RK (lenS x13) fun x16=>Lp (fL Q O s joins1L 188 1) [a0,a1,a2,a4,a5,a6,(.slice none 0 0),x13,x16,(.int .i64 0)] h14 n15 [(2,fun v19 h17 n18=>Cv Q O s 111 [(nv v19 4)] h17 n18 fun x42 h43 n44=>RK (bin Q .eql 3 x42 (.int .i64 0)) fun x45=>IF x45 (e0 [(nv v19 0),(nv v19 1),(nv v19 2),(nv v19 3),(nv v19 4),(nv v19 5)] h43 n44) (CVK Q O s (callV h43 n44 [(nv v19 6)] (nv v19 0)) fun x46 h47 n48=>RK (oUn .not x46) fun x49=>IF x49 (e0 [(nv v19 0),(nv v19 1),(nv v19 2),(nv v19 3),(nv v19 4),(nv v19 5)] h47 n48) (RK (vFldA 0 (nv v19 1)) fun x50=>RK (vLd none h47 x50) fun x51=>Cv Q O true 108 [x51,(nv v19 6)] h47 n48 fun x52 h53 n54=>n48≤n54∧Cv Q O true 191 [(nv v19 4),x52] h53 n54 fun x55 h56 n57=>n54≤n57∧RK (vFldA 0 (nv v19 1)) fun x58=>RK (vLd none h56 x58) fun x59=>AGK (fun h=>vLd none h x58) x59 (Cv Q O true 109 [x59,(nv v19 3),(nv v19 6)] h56 n57 fun x60 h61 n62=>n57≤n62∧Cv Q O true 191 [x55,x60] h61 n62 fun x63 h64 n65=>n62≤n65∧RK (bin Q .add 3 (nv v19 5) (.int .i64 1)) fun x68=>N [(nv v19 0),(nv v19 1),(nv v19 2),(nv v19 3),x63,x68] h64 n65) 2 [h53,h47])))] (fun _ _ _=>False)
def joins1 (s:Bool) (t0 t1 t2:Value) (h:Hp) (nx:Nat) (K:KC'):Prop:=RK (vLd (some 2) h t1) fun x1=>Cv Q O s 110 [x1] h nx fun x2 h3 n4=>RK (vFldA 0 t1) fun x5=>RK (vLd none h3 x5) fun x6=>Cv Q O s 189 [(.slice none 0 0),x6] h3 n4 fun x7 h8 n9=>Lp (fL Q O s joins1L 188 0) [t0,t1,t2,x2,x7,(.int .i64 0)] h8 n9 [(0,fun v12 h10 n11=>K (.tuple ⟨[]⟩) h10 n11)] (fun _ _ _=>False)
theorem joins1b1 {s:Bool} {a0 a1 a2 a4 a5 a6 a7 a18 a19 a20:Value} {h:Hp} {nx:Nat} {N e2 R:KVl}:fL Q O s joins1L 188 1 [a0,a1,a2,a4,a5,a6,a7,a18,a19,a20] h nx N [(2,e2)] R=joins1l1 s a0 a1 a2 a4 a5 a6 a7 a18 a19 a20 h nx N e2 R:=by kernel_rfl
theorem joins1b0 {s:Bool} {a0 a1 a2 a4 a5 a6:Value} {h:Hp} {nx:Nat} {N e0 R:KVl}:fL Q O s joins1L 188 0 [a0,a1,a2,a4,a5,a6] h nx N [(0,e0)] R=joins1l0 s a0 a1 a2 a4 a5 a6 h nx N e0 R:=by kernel_rfl
theorem joins1e {s:Bool} {t0 t1 t2:Value} {h:Hp} {nx:Nat} {K:KC'}:fF Q O s joins1L 188 [t0,t1,t2] h nx K=joins1 s t0 t1 t2 h nx K:=by kernel_rfl
theorem joins1v {s:Bool} {t0 t1 t2:Value} {h:Hp} {nx:Nat} {K:KC'} (w:joins1 s t0 t1 t2 h nx K):Cv Q O s 188 [t0,t1,t2] h nx K:=Cv.byF joins1L rfl (by rw [joins1e]; exact w)
def fflipL:List (List Nat):=[]
def fflipk0 (s:Bool) (K:KC') (y5 y6 y22:Value) (h0:Hp) (n0:Nat):Prop:=IF y22 (RK (lenS y5) fun x11=>RK (bin Q .sub 3 x11 (.int .i64 1)) fun x12=>RK (vIx (.slice 1) y5 x12) fun x13=>RK (vLd none h0 x13) fun x14=>RK (oConv (.int .u64) y6) fun x15=>RK (bin Q .shl 221 (.int .u64 1) x15) fun x16=>RK (bin Q .sub 221 x16 (.int .u64 1)) fun x17=>RK (bin Q .and 221 x14 x17) fun x18=>RK (vIx (.slice 1) y5 x12) fun x19=>RK (vSt h0 1 x19 x18) fun h20=>K y5 h20 n0) (K y5 h0 n0)
def fflip (s:Bool) (t0 t1:Value) (h:Hp) (nx:Nat) (K:KC'):Prop:=Cv Q O s 202 [t1] h nx fun x1 h2 n3=>Cv Q O s 199 [x1,t0,(.slice none 0 0),(.func (.func 270) #[] #[])] h2 n3 fun x4 h5 n6=>RK (bin Q .and 3 t1 (.int .i64 63)) fun x7=>RK (bin Q .neq 3 x7 (.int .i64 0)) fun x8=>IF x8 (RK (bin Q .gtr 3 t1 (.int .i64 0)) fun x9=>IF x9 (RK (bin Q .lss 3 t1 (.int .i64 4096)) fun x10=>(fflipk0 s K x4 x7 x10 h5 n6)) ((fflipk0 s K x4 x7 (.bool false) h5 n6))) ((fflipk0 s K x4 x7 (.bool false) h5 n6))
theorem fflipe {s:Bool} {t0 t1:Value} {h:Hp} {nx:Nat} {K:KC'}:fF Q O s fflipL 189 [t0,t1] h nx K=fflip s t0 t1 h nx K:=by kernel_rfl
theorem fflipv {s:Bool} {t0 t1:Value} {h:Hp} {nx:Nat} {K:KC'} (w:fflip s t0 t1 h nx K):Cv Q O s 189 [t0,t1] h nx K:=Cv.byF fflipL rfl (by rw [fflipe]; exact w)
def leastL:List (List Nat):=[]
def least (s:Bool) (t0 t1 t2 t3:Value) (h:Hp) (nx:Nat) (K:KC'):Prop:=AR (cellsNB (vcells t0)) h nx fun p1 h2 n3=>AR (cellsNB (vcells t1)) h2 n3 fun p4 h5 n6=>RK (vLd (some 5) h5 p1) fun x7=>RK (vLd none h5 p4) fun x8=>Cv Q O s 271 [x7,x8,t2] h5 n6 fun x9 h10 n11=>AR (.ok (.ptr (.cells [(.int .i64 0)] false))) h10 n11 fun p12 h13 n14=>RK (vSt h13 1 p12 x9) fun h15=>Cv Q O s 117 [t3] h15 n14 fun x16 h17 n18=>RK (.ok (Value.func (.func 273) ⟨[]⟩ ⟨[p1,p4,p12]⟩)) fun x19=>Cv Q O s 272 [x16,x19] h17 n18 fun x20 h21 n22=>RK (oUn .not x20) fun x23=>K x23 h21 n22
theorem leaste {s:Bool} {t0 t1 t2 t3:Value} {h:Hp} {nx:Nat} {K:KC'}:fF Q O s leastL 190 [t0,t1,t2,t3] h nx K=least s t0 t1 t2 t3 h nx K:=by kernel_rfl
theorem leastv {s:Bool} {t0 t1 t2 t3:Value} {h:Hp} {nx:Nat} {K:KC'} (w:least s t0 t1 t2 t3 h nx K):Cv Q O s 190 [t0,t1,t2,t3] h nx K:=Cv.byF leastL rfl (by rw [leaste]; exact w)
def fminusL:List (List Nat):=[]
def fminus (s:Bool) (t0 t1:Value) (h:Hp) (nx:Nat) (K:KC'):Prop:=RK (lenS t0) fun x1=>Cv Q O s 199 [x1,t0,t1,(.func (.func 274) #[] #[])] h nx fun x2 h3 n4=>K x2 h3 n4
theorem fminuse {s:Bool} {t0 t1:Value} {h:Hp} {nx:Nat} {K:KC'}:fF Q O s fminusL 191 [t0,t1] h nx K=fminus s t0 t1 h nx K:=by kernel_rfl
theorem fminusv {s:Bool} {t0 t1:Value} {h:Hp} {nx:Nat} {K:KC'} (w:fminus s t0 t1 h nx K):Cv Q O s 191 [t0,t1] h nx K:=Cv.byF fminusL rfl (by rw [fminuse]; exact w)
def fwithinL:List (List Nat):=[]
def fwithin (s:Bool) (t0 t1:Value) (h:Hp) (nx:Nat) (K:KC'):Prop:=RK (bin Q .geq 3 t1 (.int .i64 0)) fun x1=>IF x1 (RK (bin Q .shr 3 t1 (.int .u64 6)) fun x2=>RK (lenS t0) fun x3=>RK (bin Q .lss 3 x2 x3) fun x4=>K x4 h nx) (K (.bool false) h nx)
theorem fwithine {s:Bool} {t0 t1:Value} {h:Hp} {nx:Nat} {K:KC'}:fF Q O s fwithinL 196 [t0,t1] h nx K=fwithin s t0 t1 h nx K:=by kernel_rfl
theorem fwithinv {s:Bool} {t0 t1:Value} {h:Hp} {nx:Nat} {K:KC'} (w:fwithin s t0 t1 h nx K):Cv Q O s 196 [t0,t1] h nx K:=Cv.byF fwithinL rfl (by rw [fwithine]; exact w)
def fbitL:List (List Nat):=[]
def fbit (s:Bool) (t0:Value) (h:Hp) (nx:Nat) (K:KC'):Prop:=RK (oConv (.int .u64) t0) fun x1=>RK (bin Q .and 236 x1 (.int .u64 63)) fun x2=>RK (bin Q .shl 221 (.int .u64 1) x2) fun x3=>K x3 h nx
theorem fbite {s:Bool} {t0:Value} {h:Hp} {nx:Nat} {K:KC'}:fF Q O s fbitL 197 [t0] h nx K=fbit s t0 h nx K:=by kernel_rfl
theorem fbitv {s:Bool} {t0:Value} {h:Hp} {nx:Nat} {K:KC'} (w:fbit s t0 h nx K):Cv Q O s 197 [t0] h nx K:=Cv.byF fbitL rfl (by rw [fbite]; exact w)
def fonesL:List (List Nat):=[[0,3]]
def fonesl0 (s:Bool) (a0 a3:Value) (h:Hp) (nx:Nat) (N:KVl) (e0:KVl) (R:KVl):Prop:=RK (bin Q .eql 221 a0 (.int .u64 0)) fun x4=>IF x4 (e0 [a0,a3] h nx) (RK (bin Q .sub 221 a0 (.int .u64 1)) fun x5=>RK (bin Q .and 221 a0 x5) fun x6=>RK (bin Q .add 3 a3 (.int .i64 1)) fun x7=>N [x6,x7] h nx)
def fones (s:Bool) (t0:Value) (h:Hp) (nx:Nat) (K:KC'):Prop:=Lp (fL Q O s fonesL 198 0) [t0,(.int .i64 0)] h nx [(0,fun v3 h1 n2=>K (nv v3 1) h1 n2)] (fun _ _ _=>False)
theorem fonesb0 {s:Bool} {a0 a3:Value} {h:Hp} {nx:Nat} {N e0 R:KVl}:fL Q O s fonesL 198 0 [a0,a3] h nx N [(0,e0)] R=fonesl0 s a0 a3 h nx N e0 R:=by kernel_rfl
theorem fonese {s:Bool} {t0:Value} {h:Hp} {nx:Nat} {K:KC'}:fF Q O s fonesL 198 [t0] h nx K=fones s t0 h nx K:=by kernel_rfl
theorem fonesv {s:Bool} {t0:Value} {h:Hp} {nx:Nat} {K:KC'} (w:fones s t0 h nx K):Cv Q O s 198 [t0] h nx K:=Cv.byF fonesL rfl (by rw [fonese]; exact w)
def fbothwL:List (List Nat):=[[1,2,3,9,16,17]]
def fbothwk0 (s:Bool) (N:KVl) (e0:KVl) (R:KVl) (y1 y2 y3 y9 y16 y17:Value) (h0:Hp) (n0:Nat):Prop:=RK (bin Q .add 3 y17 (.int .i64 1)) fun x41=>N [y1,y2,y3,y9,y16,x41] h0 n0
def fbothwl0 (s:Bool) (a1 a2 a3 a9 a16 a17:Value) (h:Hp) (nx:Nat) (N:KVl) (e0:KVl) (R:KVl):Prop:=RK (bin Q .lss 3 a17 a16) fun x8=>IF x8 (RK (lenS a1) fun x9=>RK (bin Q .lss 3 a17 x9) fun x10=>IF x10 (RK (vIx (.slice 1) a1 a17) fun x11=>RK (vLd none h x11) fun x12=>RK (lenS a2) fun x13=>RK (bin Q .lss 3 a17 x13) fun x14=>IF x14 (RK (vIx (.slice 1) a2 a17) fun x15=>RK (vLd none h x15) fun x16=>CVK Q O s (callV h nx [x12,x16] a3) fun x17 h18 n19=>RK (vIx (.slice 1) a9 a17) fun x20=>RK (vSt h18 1 x20 x17) fun h21=>(fbothwk0 s N e0 R a1 a2 a3 a9 a16 a17 h21 n19)) (CVK Q O s (callV h nx [x12,(.int .u64 0)] a3) fun x22 h23 n24=>RK (vIx (.slice 1) a9 a17) fun x25=>RK (vSt h23 1 x25 x22) fun h26=>(fbothwk0 s N e0 R a1 a2 a3 a9 a16 a17 h26 n24))) (RK (lenS a2) fun x27=>RK (bin Q .lss 3 a17 x27) fun x28=>IF x28 (RK (vIx (.slice 1) a2 a17) fun x29=>RK (vLd none h x29) fun x30=>CVK Q O s (callV h nx [(.int .u64 0),x30] a3) fun x31 h32 n33=>RK (vIx (.slice 1) a9 a17) fun x34=>RK (vSt h32 1 x34 x31) fun h35=>(fbothwk0 s N e0 R a1 a2 a3 a9 a16 a17 h35 n33)) (CVK Q O s (callV h nx [(.int .u64 0),(.int .u64 0)] a3) fun x36 h37 n38=>RK (vIx (.slice 1) a9 a17) fun x39=>RK (vSt h37 1 x39 x36) fun h40=>(fbothwk0 s N e0 R a1 a2 a3 a9 a16 a17 h40 n38)))) (e0 [a1,a2,a3,a9,a16,a17] h nx)
def fbothw (s:Bool) (t0 t1 t2 t3:Value) (h:Hp) (nx:Nat) (K:KC'):Prop:=AR (vMks [(.int .u64 0)] t0 t0) h nx fun p1 h2 n3=>RK (lenS p1) fun x4=>Lp (fL Q O s fbothwL 199 0) [t1,t2,t3,p1,x4,(.int .i64 0)] h2 n3 [(0,fun v7 h5 n6=>K (nv v7 3) h5 n6)] (fun _ _ _=>False)
theorem fbothwb0 {s:Bool} {a1 a2 a3 a9 a16 a17:Value} {h:Hp} {nx:Nat} {N e0 R:KVl}:fL Q O s fbothwL 199 0 [a1,a2,a3,a9,a16,a17] h nx N [(0,e0)] R=fbothwl0 s a1 a2 a3 a9 a16 a17 h nx N e0 R:=by kernel_rfl
theorem fbothwe {s:Bool} {t0 t1 t2 t3:Value} {h:Hp} {nx:Nat} {K:KC'}:fF Q O s fbothwL 199 [t0,t1,t2,t3] h nx K=fbothw s t0 t1 t2 t3 h nx K:=by kernel_rfl
theorem fbothwv {s:Bool} {t0 t1 t2 t3:Value} {h:Hp} {nx:Nat} {K:KC'} (w:fbothw s t0 t1 t2 t3 h nx K):Cv Q O s 199 [t0,t1,t2,t3] h nx K:=Cv.byF fbothwL rfl (by rw [fbothwe]; exact w)
def fboth1L:List (List Nat):=[]
def fboth1 (s:Bool) (t0 t1:Value) (h:Hp) (nx:Nat) (K:KC'):Prop:=RK (bin Q .and 221 t0 t1) fun x1=>K x1 h nx
theorem fboth1e {s:Bool} {t0 t1:Value} {h:Hp} {nx:Nat} {K:KC'}:fF Q O s fboth1L 200 [t0,t1] h nx K=fboth1 s t0 t1 h nx K:=by kernel_rfl
theorem fboth1v {s:Bool} {t0 t1:Value} {h:Hp} {nx:Nat} {K:KC'} (w:fboth1 s t0 t1 h nx K):Cv Q O s 200 [t0,t1] h nx K:=Cv.byF fboth1L rfl (by rw [fboth1e]; exact w)
def funion1L:List (List Nat):=[]
def funion1 (s:Bool) (t0 t1:Value) (h:Hp) (nx:Nat) (K:KC'):Prop:=RK (bin Q .or 221 t0 t1) fun x1=>K x1 h nx
theorem funion1e {s:Bool} {t0 t1:Value} {h:Hp} {nx:Nat} {K:KC'}:fF Q O s funion1L 201 [t0,t1] h nx K=funion1 s t0 t1 h nx K:=by kernel_rfl
theorem funion1v {s:Bool} {t0 t1:Value} {h:Hp} {nx:Nat} {K:KC'} (w:funion1 s t0 t1 h nx K):Cv Q O s 201 [t0,t1] h nx K:=Cv.byF funion1L rfl (by rw [funion1e]; exact w)
def fwordsL:List (List Nat):=[]
def fwords (s:Bool) (t0:Value) (h:Hp) (nx:Nat) (K:KC'):Prop:=RK (min2 false t0 (.int .i64 0)) fun x1=>RK (min2 true x1 (.int .i64 4096)) fun x2=>RK (bin Q .add 3 x2 (.int .i64 63)) fun x3=>RK (bin Q .shr 3 x3 (.int .u64 6)) fun x4=>K x4 h nx
theorem fwordse {s:Bool} {t0:Value} {h:Hp} {nx:Nat} {K:KC'}:fF Q O s fwordsL 202 [t0] h nx K=fwords s t0 h nx K:=by kernel_rfl
theorem fwordsv {s:Bool} {t0:Value} {h:Hp} {nx:Nat} {K:KC'} (w:fwords s t0 h nx K):Cv Q O s 202 [t0] h nx K:=Cv.byF fwordsL rfl (by rw [fwordse]; exact w)
def collectL:List (List Nat):=[]
def collect (s:Bool) (t0:Value) (h:Hp) (nx:Nat) (K:KC'):Prop:=Cv Q O s 276 [(.slice none 0 0),t0] h nx fun x1 h2 n3=>K x1 h2 n3
theorem collecte {s:Bool} {t0:Value} {h:Hp} {nx:Nat} {K:KC'}:fF Q O s collectL 204 [t0] h nx K=collect s t0 h nx K:=by kernel_rfl
theorem collectv {s:Bool} {t0:Value} {h:Hp} {nx:Nat} {K:KC'} (w:collect s t0 h nx K):Cv Q O s 204 [t0] h nx K:=Cv.byF collectL rfl (by rw [collecte]; exact w)
def eachL:List (List Nat):=[]
def each (s:Bool) (t0:Value) (h:Hp) (nx:Nat) (K:KC'):Prop:=AR (cellsNB (vcells t0)) h nx fun p1 h2 n3=>RK (.ok (Value.func (.func 277) ⟨[]⟩ ⟨[p1]⟩)) fun x4=>K x4 h2 n3
theorem eache {s:Bool} {t0:Value} {h:Hp} {nx:Nat} {K:KC'}:fF Q O s eachL 205 [t0] h nx K=each s t0 h nx K:=by kernel_rfl
theorem eachv {s:Bool} {t0:Value} {h:Hp} {nx:Nat} {K:KC'} (w:each s t0 h nx K):Cv Q O s 205 [t0] h nx K:=Cv.byF eachL rfl (by rw [eache]; exact w)
def fflip1L:List (List Nat):=[]
def fflip1 (s:Bool) (t0 t1:Value) (h:Hp) (nx:Nat) (K:KC'):Prop:=RK (oUn .xor t0) fun x1=>K x1 h nx
theorem fflip1e {s:Bool} {t0 t1:Value} {h:Hp} {nx:Nat} {K:KC'}:fF Q O s fflip1L 270 [t0,t1] h nx K=fflip1 s t0 t1 h nx K:=by kernel_rfl
theorem fflip1v {s:Bool} {t0 t1:Value} {h:Hp} {nx:Nat} {K:KC'} (w:fflip1 s t0 t1 h nx K):Cv Q O s 270 [t0,t1] h nx K:=Cv.byF fflip1L rfl (by rw [fflip1e]; exact w)
def pdrawL:List (List Nat):=[]
def pdraw (s:Bool) (t0 t1 t2:Value) (h:Hp) (nx:Nat) (K:KC'):Prop:=AR (cellsNB (vcells t0)) h nx fun p1 h2 n3=>RK (vLd (some 5) h2 p1) fun x4=>Cv Q O s 128 [x4] h2 n3 fun x5 h6 n7=>RK (bin Q .neq 34 x5 (.int .i64 0)) fun x8=>IF x8 (K (.int .i64 0) h6 n7) (RK (vLd (some 5) h6 p1) fun x9=>Cv Q O s 337 [x9,t1,t2] h6 n7 fun x10 h11 n12=>K x10 h11 n12)
theorem pdrawe {s:Bool} {t0 t1 t2:Value} {h:Hp} {nx:Nat} {K:KC'}:fF Q O s pdrawL 271 [t0,t1,t2] h nx K=pdraw s t0 t1 t2 h nx K:=by kernel_rfl
theorem pdrawv {s:Bool} {t0 t1 t2:Value} {h:Hp} {nx:Nat} {K:KC'} (w:pdraw s t0 t1 t2 h nx K):Cv Q O s 271 [t0,t1,t2] h nx K:=Cv.byF pdrawL rfl (by rw [pdrawe]; exact w)
def contiL:List (List Nat):=[]
def conti (s:Bool) (t0 t1:Value) (h:Hp) (nx:Nat) (K:KC'):Prop:=Cv Q O s 334 [t0,t1] h nx fun x1 h2 n3=>RK (bin Q .geq 3 x1 (.int .i64 0)) fun x4=>K x4 h2 n3
theorem contie {s:Bool} {t0 t1:Value} {h:Hp} {nx:Nat} {K:KC'}:fF Q O s contiL 272 [t0,t1] h nx K=conti s t0 t1 h nx K:=by kernel_rfl
theorem contiv {s:Bool} {t0 t1:Value} {h:Hp} {nx:Nat} {K:KC'} (w:conti s t0 t1 h nx K):Cv Q O s 272 [t0,t1] h nx K:=Cv.byF contiL rfl (by rw [contie]; exact w)
def least1L:List (List Nat):=[]
def least1 (s:Bool) (t0 t1 t2 t3:Value) (h:Hp) (nx:Nat) (K:KC'):Prop:=RK (vLd (some 5) h t1) fun x1=>RK (vLd none h t2) fun x2=>Cv Q O true 271 [x1,x2,t0] h nx fun x3 h4 n5=>nx≤n5∧RK (vLd none h4 t3) fun x6=>AGK (fun h=>vLd none h t3) x6 (RK (bin Q .leq 2 x3 x6) fun x7=>K x7 h4 n5) 1 [h]
theorem least1e {s:Bool} {t0 t1 t2 t3:Value} {h:Hp} {nx:Nat} {K:KC'}:fF Q O s least1L 273 [t0,t1,t2,t3] h nx K=least1 s t0 t1 t2 t3 h nx K:=by kernel_rfl
theorem least1v {s:Bool} {t0 t1 t2 t3:Value} {h:Hp} {nx:Nat} {K:KC'} (w:least1 s t0 t1 t2 t3 h nx K):Cv Q O s 273 [t0,t1,t2,t3] h nx K:=Cv.byF least1L rfl (by rw [least1e]; exact w)
def fminus1L:List (List Nat):=[]
def fminus1 (s:Bool) (t0 t1:Value) (h:Hp) (nx:Nat) (K:KC'):Prop:=RK (bin Q .andNot 221 t0 t1) fun x1=>K x1 h nx
theorem fminus1e {s:Bool} {t0 t1:Value} {h:Hp} {nx:Nat} {K:KC'}:fF Q O s fminus1L 274 [t0,t1] h nx K=fminus1 s t0 t1 h nx K:=by kernel_rfl
theorem fminus1v {s:Bool} {t0 t1:Value} {h:Hp} {nx:Nat} {K:KC'} (w:fminus1 s t0 t1 h nx K):Cv Q O s 274 [t0,t1] h nx K:=Cv.byF fminus1L rfl (by rw [fminus1e]; exact w)
def each1L:List (List Nat):=[[0,6,7,8],[0,4,5,6,7,8]]
def each1k0 (s:Bool) (N:KVl) (e2:KVl) (R:KVl) (y0 y4 y5 y6 y7 y8:Value) (h0:Hp) (n0:Nat):Prop:=RK (bin Q .shr 221 y4 (.int .u64 1)) fun x26=>RK (bin Q .add 3 y5 (.int .i64 1)) fun x27=>N [y0,x26,x27,y6,y7,y8] h0 n0
def each1l1 (s:Bool) (a0 a4 a5 a6 a7 a8:Value) (h:Hp) (nx:Nat) (N:KVl) (e2:KVl) (R:KVl):Prop:=RK (bin Q .neq 221 a4 (.int .u64 0)) fun x19=>IF x19 (RK (bin Q .and 221 a4 (.int .u64 1)) fun x20=>RK (bin Q .eql 221 x20 (.int .u64 1)) fun x21=>IF x21 (CVK Q O s (callV h nx [a5] a0) fun x22 h23 n24=>RK (oUn .not x22) fun x25=>IF x25 (R [a0,a4,a5,a6,a7,a8] h23 n24) ((each1k0 s N e2 R a0 a4 a5 a6 a7 a8 h23 n24))) ((each1k0 s N e2 R a0 a4 a5 a6 a7 a8 h nx))) (e2 [a0,a4,a5,a6,a7,a8] h nx)
def each1l0 (s:Bool) (a0 a6 a7 a8:Value) (h:Hp) (nx:Nat) (N:KVl) (e0:KVl) (R:KVl):Prop:=RK (bin Q .lss 3 a8 a7) fun x9=>IF x9 (RK (vIx (.slice 1) a6 a8) fun x10=>RK (vLd none h x10) fun x11=>RK (bin Q .shl 3 a8 (.int .u64 6)) fun x12=>Lp (fL Q O s each1L 277 1) [a0,x11,x12,a6,a7,a8] h nx [(2,fun v15 h13 n14=>RK (bin Q .add 3 (nv v15 5) (.int .i64 1)) fun x28=>N [(nv v15 0),(nv v15 3),(nv v15 4),x28] h13 n14)] (fun v18 h16 n17=>R [(nv v18 0),(nv v18 3),(nv v18 4),(nv v18 5)] h16 n17)) (e0 [a0,a6,a7,a8] h nx)
def each1 (s:Bool) (t0 t1:Value) (h:Hp) (nx:Nat) (K:KC'):Prop:=RK (vLd none h t1) fun x1=>RK (lenS x1) fun x2=>Lp (fL Q O s each1L 277 0) [t0,x1,x2,(.int .i64 0)] h nx [(0,fun v5 h3 n4=>K (.tuple ⟨[]⟩) h3 n4)] (fun v8 h6 n7=>K (.tuple ⟨[]⟩) h6 n7)
theorem each1b1 {s:Bool} {a0 a4 a5 a6 a7 a8:Value} {h:Hp} {nx:Nat} {N e2 R:KVl}:fL Q O s each1L 277 1 [a0,a4,a5,a6,a7,a8] h nx N [(2,e2)] R=each1l1 s a0 a4 a5 a6 a7 a8 h nx N e2 R:=by kernel_rfl
theorem each1b0 {s:Bool} {a0 a6 a7 a8:Value} {h:Hp} {nx:Nat} {N e0 R:KVl}:fL Q O s each1L 277 0 [a0,a6,a7,a8] h nx N [(0,e0)] R=each1l0 s a0 a6 a7 a8 h nx N e0 R:=by kernel_rfl
theorem each1e {s:Bool} {t0 t1:Value} {h:Hp} {nx:Nat} {K:KC'}:fF Q O s each1L 277 [t0,t1] h nx K=each1 s t0 t1 h nx K:=by kernel_rfl
theorem each1v {s:Bool} {t0 t1:Value} {h:Hp} {nx:Nat} {K:KC'} (w:each1 s t0 t1 h nx K):Cv Q O s 277 [t0,t1] h nx K:=Cv.byF each1L rfl (by rw [each1e]; exact w)
def indexiL:List (List Nat):=[[0,1,4,7,8]]
def indexil0 (s:Bool) (a0 a1 a4 a7 a8:Value) (h:Hp) (nx:Nat) (N:KVl) (e0:KVl) (R:KVl):Prop:=RK (bin Q .lss 3 a8 a7) fun x8=>IF x8 (RK (vIx (.slice 1) a0 a8) fun x9=>RK (vLd none h x9) fun x10=>CVK Q O s (callV h nx [x10] a1) fun x11 h12 n13=>IF x11 (R [a0,a1,a8,a7,a8] h12 n13) (RK (bin Q .add 3 a8 (.int .i64 1)) fun x14=>N [a0,a1,a4,a7,x14] h12 n13)) (e0 [a0,a1,a4,a7,a8] h nx)
def indexi (s:Bool) (t0 t1:Value) (h:Hp) (nx:Nat) (K:KC'):Prop:=RK (lenS t0) fun x1=>Lp (fL Q O s indexiL 334 0) [t0,t1,(.int .i64 0),x1,(.int .i64 0)] h nx [(0,fun v4 h2 n3=>K (.int .i64 (-1)) h2 n3)] (fun v7 h5 n6=>K (nv v7 2) h5 n6)
theorem indexib0 {s:Bool} {a0 a1 a4 a7 a8:Value} {h:Hp} {nx:Nat} {N e0 R:KVl}:fL Q O s indexiL 334 0 [a0,a1,a4,a7,a8] h nx N [(0,e0)] R=indexil0 s a0 a1 a4 a7 a8 h nx N e0 R:=by kernel_rfl
theorem indexie {s:Bool} {t0 t1:Value} {h:Hp} {nx:Nat} {K:KC'}:fF Q O s indexiL 334 [t0,t1] h nx K=indexi s t0 t1 h nx K:=by kernel_rfl
theorem indexiv {s:Bool} {t0 t1:Value} {h:Hp} {nx:Nat} {K:KC'} (w:indexi s t0 t1 h nx K):Cv Q O s 334 [t0,t1] h nx K:=Cv.byF indexiL rfl (by rw [indexie]; exact w)
def pnumberL:List (List Nat):=[]
def pnumberk0 (s:Bool) (K:KC') (y1 y2 y3 y19:Value) (h0:Hp) (n0:Nat):Prop:=IF y19 (K (.int .i64 0) h0 n0) (RK (vFldA 4 y3) fun x15=>RK (vLd none h0 x15) fun x16=>RK (lenS x16) fun x17=>RK (bin Q .gtr 3 x17 (.int .i64 0)) fun x18=>IF x18 (RK (vFldA 4 y3) fun x19=>RK (vLd none h0 x19) fun x20=>RK (vFldA 1 y3) fun x21=>RK (vLd none h0 x21) fun x22=>RK (bin Q .mul 3 y1 x22) fun x23=>RK (bin Q .add 3 x23 y2) fun x24=>RK (bin Q .rem 3 x24 x17) fun x25=>RK (vIx (.slice 1) x20 x25) fun x26=>RK (vLd none h0 x26) fun x27=>RK (bin Q .shl 2 x27 (.int .u64 12)) fun x30=>RK (bin Q .or 2 x30 y2) fun x31=>K x31 h0 n0) (RK (bin Q .shl 2 (.int .i64 0) (.int .u64 12)) fun x32=>RK (bin Q .or 2 x32 y2) fun x33=>K x33 h0 n0))
def pnumber (s:Bool) (t0 t1 t2:Value) (h:Hp) (nx:Nat) (K:KC'):Prop:=AR (cellsNB (vcells t0)) h nx fun p1 h2 n3=>Cv Q O s 222 [t1,(.int .i64 8192)] h2 n3 fun x4 h5 n6=>RK (oUn .not x4) fun x7=>IF x7 ((pnumberk0 s K t1 t2 p1 (.bool true) h5 n6)) (RK (vFldA 1 p1) fun x8=>RK (vLd none h5 x8) fun x9=>RK (bin Q .sub 3 x9 (.int .i64 1)) fun x10=>Cv Q O s 222 [t2,x10] h5 n6 fun x11 h12 n13=>RK (oUn .not x11) fun x14=>(pnumberk0 s K t1 t2 p1 x14 h12 n13))
theorem pnumbere {s:Bool} {t0 t1 t2:Value} {h:Hp} {nx:Nat} {K:KC'}:fF Q O s pnumberL 337 [t0,t1,t2] h nx K=pnumber s t0 t1 t2 h nx K:=by kernel_rfl
theorem pnumberv {s:Bool} {t0 t1 t2:Value} {h:Hp} {nx:Nat} {K:KC'} (w:pnumber s t0 t1 t2 h nx K):Cv Q O s 337 [t0,t1,t2] h nx K:=Cv.byF pnumberL rfl (by rw [pnumbere]; exact w)
theorem within_c {s:Bool} {k n:Int} {h:Hp} {nx:Nat}:Cv Q O s 98 [.int .i64 k,.int .i64 n] h nx (fun v h' nx'=>v = .int .i64 (wnF k n)∧h'=h∧nx'=nx):=by
 refine withinv ?_
 unfold within
 simp (disch:=omega) only [SS,seval]
 refine ⟨fun h1=>by simp [wnF,h1],fun h1=>⟨fun h2=>by simp [wnF,h2],fun h2=>?_⟩⟩
 rw [bin_rem (by omega),RK_ok]
 simp [wnF,h1,h2]
theorem rd3 {es:List Edg3} {i:Nat} {e:Edg3} (he:es[i]? = some e):loadC (some 3) (i*3) (flat enc3 es) = .ok (.agg ⟨[.int .i64 e.1,.int .i64 e.2.1,.int .i64 e.2.2]⟩):=by
 have hg:=flat_get (enc:=enc3) (k:=3) (fun _=>rfl) he
 have hi:=(List.getElem?_eq_some_iff.1 he).1
 rw [loadC_many,if_pos (by rw [flat_len (k:=3) (fun _=>rfl)]; omega),hg]
 rfl
def GraphK (nx:Nat) (h:Hp):KC':=fun r h' nx'=>∃ (N:Nat) (v2:Value) (gs:List GE),r = .agg ⟨[.int .i64 (N:Int),v2]⟩∧N<24∧gs.length≤60∧(∀ g∈gs,GOk N g)∧SlNw h' nx nx' v2 encG gs∧nx≤nx'∧Keep nx h h'
def GraphJ (n:Int) (v:Value) (es:List Edg3) (N nx:Nat) (h:Hp) (m:Nat) (vs:List Value) (h':Hp) (nx':Nat):Prop :=
 ∃ (i:Nat) (v2:Value) (gs:List GE),m=60-i∧i≤60∧vs=[.pointer (some ⟨nx,0,none⟩),.pointer (some ⟨nx+1,0,none⟩),.pointer (some ⟨nx+1+1,0,none⟩),.int .i64 (i:Int)] ∧
  hget h' nx=some (.cells [.int .i64 n,v] false)∧hget h' (nx+1)=some (.cells [.int .i64 0,.slice none 0 0] false)∧hget h' (nx+1+1)=some (.cells [.int .i64 (N:Int),v2] false) ∧
  SlAt h' v2 encG 3 gs (nx+1+1+1) nx'∧gs.length=i∧(∀ g∈gs,GOk N g)∧nx+1+1+1≤nx'∧Keep nx h h'
theorem EK_appS {α:Type} {enc:α→List Value} {k:Nat} (hk:∀ x,(enc x).length=k) (hcell:∀ x,cellL (enc x)=true) (hk0:0<k) {h:Hp} {nx lo:Nat} {v:Value} {l:List α} (hv:SlAt h v enc k l lo nx) (hlo:lo≤nx)
  {b2 o2 cap2:Nat} {sp2:Option Nat} {cs:List Value} {ro:Bool} (x:α) (h2:hget h b2=some (.cells cs ro)) (hx:(cs.drop o2).take k=enc x) (hsz:(l.length+1)*k≤1000000) {K:Value→Hp→Nat→Prop}
  (hK:∀ v' h',SlAt h' v' enc k (l++[x]) lo (nx+1)→(∀ b,b<lo→hget h' b=hget h b)→K v' h' (nx+1)):EK (orR (appendA k h nx v (.slice (some ⟨b2,o2,sp2⟩) 1 cap2))) K:=by
 obtain ⟨v',h',e,a,b⟩:=app_cv hk hcell hk0 hv hlo h2 hx hsz
 rw [e]; exact hK _ _ a b
theorem graph_c {s:Bool} {n:Int} {v:Value} {es:List Edg3} {h:Hp} {nx:Nat} (hv:SlRd h nx v enc3 es):Cv Q O s 97 [.agg ⟨[.int .i64 n,v]⟩] h nx (GraphK nx h):=by
 refine graphv ?_
 obtain ⟨a,cap,rfl,hc⟩:=id hv
 unfold graph
 simp (disch:=omega) only [SS,seval]
 refine within_c.mono ?_
 rintro r h1 nx1 ⟨rfl,rfl,rfl⟩
 obtain ⟨N,hN,hlt⟩:=wnF_nat (k:=n) (n:=24)
 have hlt:=hlt (by omega)
 rw [hN]
 simp (disch:=omega) only [SS,seval]
 refine Lp.mk (GraphJ n (.slice a es.length cap) es N nx h) 60 ⟨0,.slice none 0 0,[],rfl,by omega,rfl,by rw [hold (by omega),hold (by omega),hold (by omega),hnew],by rw [hold (by omega),hold (by omega),hnew],hnew _ _ _,.inl ⟨rfl,rfl⟩,rfl,by simp,by omega,fun b hb=>by rw [hold (by omega),hold (by omega),hold (by omega),hold (by omega)]⟩ ?_
 rintro m _ h' nx' ⟨i,v2,gs,rfl,hi,rfl,g0,g1,g2,hsl,hgl,hok,hnx,hk⟩
 obtain ⟨a2,n2,c2,rfl⟩:=hsl.form
 rw [graphb0]
 unfold graphl0
 have stop:graphk0 s (fun vs h_1 nx_1=>∃ m',m'<60-i∧GraphJ n (.slice a es.length cap) es N nx h m' vs h_1 nx_1)
   (fun v19 h17 n18=>RK (vLd (some 2) h17 (nv v19 2)) fun x65=>RK (vSt h17 2 (nv v19 1) x65) fun h66=>RK (vLd (some 2) h66 (nv v19 1)) fun x67=>GraphK nx h x67 h66 n18) (fun _ _ _=>False)
   (.pointer (some ⟨nx,0,none⟩)) (.pointer (some ⟨nx+1,0,none⟩)) (.pointer (some ⟨nx+1+1,0,none⟩)) (.int .i64 (i:Int)) (.bool false) h' nx':=by
  unfold graphk0
  simp (disch:=omega) only [SS,g1,g2,seval]
  refine ⟨N,_,gs,rfl,by omega,by omega,hok,hsl.nw.keep (fun b h1 h2=>hold (by omega)) (by omega) (Nat.le_refl _),by omega,hk.set (by omega)⟩
 simp (disch:=omega) only [SS,g0,g2,seval]
 refine ⟨fun h1=>⟨fun h2=>?_,fun h2=>stop⟩,fun h1=>stop⟩
 by_cases h3:(0:Int)<(N:Int)
 case neg=>rw [decide_eq_false h3]; exact stop
 unfold graphk0
 obtain ⟨x,hx⟩:=get_ex h1
 obtain ⟨_,b,sp,ro,cap',hbn,hveq,hbh⟩:=hv.at hx
 cases hveq
 have hb':=(hk b hbn).trans hbh
 simp (disch:=omega) only [SS,g0,g2,hb',rd3 hx,decide_eq_true h3,seval]
 refine within_c.mono ?_
 rintro r h1 nx1 ⟨rfl,rfl,rfl⟩
 obtain ⟨f,hf,hfl⟩:=wnF_nat (k:=x.1) (n:=N)
 rw [hf]
 simp (disch:=omega) only [SS,g0,g2,seval]
 refine within_c.mono ?_
 rintro r h1 nx1 ⟨rfl,rfl,rfl⟩
 obtain ⟨t,ht,htl⟩:=wnF_nat (k:=x.2.1) (n:=N)
 rw [ht]
 obtain ⟨w,hw,hw0,hw1⟩:=and_low x.2.2
 simp (disch:=omega) only [SS,↓reduceIte,Nat.reduceAdd,Nat.reduceSub,Nat.reduceMul,Nat.reduceLT,Nat.reduceLeDiff,Nat.reduceEqDiff,Int.reduceBEq,Int.reduceLT,Int.reduceNeg,g0,g2,bin_and,hw]
 refine EK_appS (enc:=encG) (lo:=nx+1+1+1) (fun _=>rfl) (fun _=>rfl) (by omega) (hsl.keep (fun b h1 h2=>by rw [hold (by omega),hold (by omega),hold (by omega)]) (by omega)) (by omega) ⟨f,t,w⟩ (hnew _ _ _) rfl (by omega) ?_
 intro v3 h3 hs3 hk3
 obtain ⟨a3,n3,c3,rfl⟩:=hs3.form
 simp (disch:=omega) only [SS,hk3 (nx+1+1) (by omega),hk3 (nx+1) (by omega),hk3 nx (by omega),g2,wrap_s (show i<1000000000000 by omega),seval]
 refine ⟨by omega,60-(i+1),by omega,i+1,_,gs++[⟨f,t,w⟩],rfl,by omega,rfl,?_,?_,hnew _ _ _,hs3.keep (fun b h1 h2=>hold (by omega)) (Nat.le_refl _),by simp [hgl],?_,by omega,?_⟩
 ·rw [hold (by omega),hk3 nx (by omega),hold (by omega),hold (by omega),hold (by omega)]; exact g0
 ·rw [hold (by omega),hk3 (nx+1) (by omega),hold (by omega),hold (by omega),hold (by omega)]; exact g1
 ·intro g hg
  rcases List.mem_append.1 hg with hg | hg
  ·exact hok g hg
  ·rw [List.mem_singleton.1 hg]; exact ⟨(by omega:f<N),(by omega:t<N),hw0,hw1⟩
 ·intro b hb
  rw [hold (by omega),hk3 b (by omega),hold (by omega),hold (by omega),hold (by omega)]; exact hk b hb
def MakeG (nx:Nat) (h:Hp):KC':=fun r h' nx'=>∃ (N sr:Nat) (ra rb:Int) (v2:Value) (gs:List GE),r = .tuple ⟨[.agg ⟨[.int .i64 (N:Int),v2]⟩,.int .i64 (sr:Int),.int .i64 ra,.int .i64 rb]⟩∧0<N∧N<24∧sr<N∧gs.length≤60∧(∀ g∈gs,GOk N g)∧SlNw h' nx nx' v2 encG gs∧nx≤nx'∧Keep nx h h'
theorem make_c {s:Bool} {n V R C:Int} {v:Value} {es:List Edg3} {h:Hp} {nx:Nat} (hv:SlRd h nx v enc3 es):Cv Q O s 29 [.agg ⟨[.int .i64 n,v,.int .i64 V,.int .u8 R,.int .u8 C]⟩] h nx (MakeG nx h):=by
 refine makev ?_
 obtain ⟨a,cap,rfl,hc⟩:=id hv
 unfold make
 simp (disch:=omega) only [SS,seval]
 refine (graph_c (hv.keep (fun b hb=>by rw [hold (by omega),hold (by omega)]) (show nx≤nx+1+1 by omega))).mono ?_
 rintro r h1 nx1 ⟨N,v2,gs,rfl,hN,hgl,hok,hgs,hle,hk⟩
 obtain ⟨a2,c2,rfl,hc2⟩:=id hgs
 have g0:=hk nx (by omega)
 have g1:=hk (nx+1) (by omega)
 rw [hold (by omega),hnew] at g0
 rw [hnew] at g1
 have fin:∀ (M:Nat) (h':Hp) (a2:Option Addr) (gs:List GE) (c2:Nat),SlNw h1 (nx+1+1) nx1 (.slice a2 gs.length c2) encG gs→gs.length≤60→0<M→M<24→hget h' nx1=some (.cells [.int .i64 (M:Int),.slice a2 gs.length c2] false)→hget h' nx=some (.cells [.int .i64 n,.slice a es.length cap,.int .i64 V,.int .u8 R,.int .u8 C] false)→hget h' (nx+1)=some (.cells [.int .i64 0,.slice none 0 0] false)→(∀ g∈gs,GOk M g) →
   (∀ b,nx+1+1≤b→b<nx1→hget h' b=hget h1 b)→(∀ b,b<nx→hget h' b=hget h1 b)→makek0 s (MakeG nx h) (.pointer (some ⟨nx,0,none⟩)) (.pointer (some ⟨nx+1,0,none⟩)) (.pointer (some ⟨nx1,0,none⟩)) h' (nx1+1):=by
  intro M h' a2 gs c2 hgs hgl hM0 hM e1 e2 e3 hok' hkk hkl
  unfold makek0
  simp (disch:=omega) only [SS,e1,e2,e3,seval]
  refine within_c.mono ?_
  rintro r h2 nx2 ⟨rfl,rfl,rfl⟩
  obtain ⟨f,hf,hfl⟩:=wnF_nat (k:=V) (n:=M)
  rw [hf]
  simp (disch:=omega) only [SS,e1,e2,e3,bin_rem,seval]
  refine ⟨M,f,_,_,_,gs,rfl,hM0,hM,by omega,hgl,hok',hgs.keep (fun b h1 h2=>by rw [hold (by omega),hkk b h1 h2]) (by omega) (by omega),by omega,fun b hb=>?_⟩
  rw [hold (by omega),hkl b hb,hk b (by omega),hold (by omega),hold (by omega)]
 simp (disch:=omega) only [SS,seval]
 refine ⟨fun h0=>?_,fun h0=>?_⟩
 ·have hN0:N=0:=by simpa using h0
  subst hN0
  refine fin 1 _ none [] 0 ⟨none,0,rfl,fun h=>absurd rfl h⟩ (by simp) (by omega) (by omega) (by rw [hnew]; rfl) ?_ ?_ (fun g hg=>by cases hg) ?_ ?_
  ·rw [hold (by omega),hold (by omega),hold (by omega)]; exact g0
  ·rw [hold (by omega),hold (by omega),hold (by omega)]; exact g1
  ·intro b h1 h2; rw [hold (by omega),hold (by omega),hold (by omega)]
  ·intro b h1; rw [hold (by omega),hold (by omega),hold (by omega)]
 ·have hN0:N≠0:=by simpa using h0
  refine fin N _ a2 gs c2 hgs hgl (by omega) hN (by rw [hnew]) ?_ ?_ hok ?_ ?_
  ·rw [hold (by omega),hold (by omega)]; exact g0
  ·rw [hold (by omega),hold (by omega)]; exact g1
  ·intro b h1 h2; rw [hold (by omega),hold (by omega)]
  ·intro b h1; rw [hold (by omega),hold (by omega)]
def SlPx {α:Type} (h:Hp) (nx:Nat) (v:Value) (enc:α→List Value) (l:List α):Prop :=
 ∃ a cap,v = .slice a l.length cap∧(l≠[]→∃ b sp ro cs,b<nx∧a=some ⟨b,0,sp⟩∧hget h b=some (.cells (flat enc l++cs) ro))
section
variable {α:Type} {h h':Hp} {nx nx':Nat} {v:Value} {enc:α→List Value} {l:List α}
theorem SlPx.keep (hs:SlPx h nx v enc l) (hk:Keep nx h h') (hle:nx≤nx'):SlPx h' nx' v enc l:=by
 obtain ⟨a,cap,hv,hc⟩:=hs
 refine ⟨a,cap,hv,fun hl=>?_⟩
 obtain ⟨b,sp,ro,cs,hb,ha,hg⟩:=hc hl
 exact ⟨b,sp,ro,cs,by omega,ha,by rw [hk b hb]; exact hg⟩
theorem SlPx.of (hs:SlRd h nx v enc l):SlPx h nx v enc l:=by
 obtain ⟨a,cap,hv,hc⟩:=hs
 refine ⟨a,cap,hv,fun hl=>?_⟩
 obtain ⟨b,sp,ro,hb,ha,hg⟩:=hc hl
 exact ⟨b,sp,ro,[],hb,ha,by rw [List.append_nil]; exact hg⟩
theorem SlPx.at (hs:SlPx h nx v enc l) {i:Nat} {x:α} (hx:l[i]? = some x) :
  i<l.length∧∃ b sp ro cap cs,b<nx∧v = .slice (some ⟨b,0,sp⟩) l.length cap∧hget h b=some (.cells (flat enc l++cs) ro):=by
 have hi:=(List.getElem?_eq_some_iff.1 hx).1
 obtain ⟨a,cap,hv,hc⟩:=hs
 obtain ⟨b,sp,ro,cs,hb,rfl,hg⟩:=hc (fun e=>by rw [e] at hi; exact absurd hi (Nat.not_lt_zero _))
 exact ⟨hi,b,sp,ro,cap,cs,hb,hv,hg⟩
theorem rdP {k:Nat} (hk:∀ x,(enc x).length=k) {i:Nat} {e:α} (he:l[i]? = some e) {cs:List Value}:loadC (some k) (i*k) (flat enc l++cs) = .ok (.agg ⟨enc e⟩):=by
 have hg:=flat_get (enc:=enc) hk he
 have hi:=(List.getElem?_eq_some_iff.1 he).1
 have hl:=flat_len (enc:=enc) hk (l:=l)
 have hm:(i+1)*k≤l.length*k:=Nat.mul_le_mul_right k hi
 rw [Nat.add_mul,Nat.one_mul] at hm
 rw [loadC_many,if_pos (by rw [List.length_append,hl]; omega),List.drop_append_of_le_length (by rw [hl]; omega),List.take_append_of_le_length (by rw [List.length_drop,hl]; omega),hg]
end
def BadE (n:Int) (e:Edg3):Prop:=e.1<0∨n≤e.1∨e.2.1<0∨n≤e.2.1
def BadW (e:Edg3):Prop:=e.2.2<0∨2147483647<e.2.2
instance (n:Int) (e:Edg3):Decidable (BadE n e):=inferInstanceAs (Decidable (_∨_))
instance (e:Edg3):Decidable (BadW e):=inferInstanceAs (Decidable (_∨_))
def RightV (n:Int) (es:List Edg3):Prop:=0≤n∧n≤4096∧es.length≤65536∧(∀ e∈es,¬ BadE n e)∧∀ e∈es,¬ BadW e
def IdxJ {α:Type} (p:α→Bool) (es:List α) (J:Hp→Nat→Prop) (v fv:Value) (m:Nat) (vs:List Value) (h':Hp) (nx':Nat):Prop:=∃ i,m=es.length-i∧i≤es.length∧vs=[v,fv,.int .i64 0,.int .i64 (es.length:Int),.int .i64 (i:Int)]∧J h' nx'∧∀ x∈es.take i,p x=false
theorem index_c {α:Type} {enc:α→List Value} (hk3:∀ x,(enc x).length=3) {s:Bool} {v fv:Value} {es:List α} {h:Hp} {nx:Nat} (p:α→Bool) (J:Hp→Nat→Prop) (hJ:∀ h' nx',J h' nx'→SlPx h' nx' v enc es) (h0:J h nx) (hl:es.length≤65536)
  (hf:∀ g∈es,∀ h' nx' (K:KC'),J h' nx'→(∀ (b:Bool) h2 nx2,b=p g→J h2 nx2→K (.bool b) h2 nx2)→CVK Q O s (callV h' nx' [.agg ⟨enc g⟩] fv) K) :
  Cv Q O s 275 [v,fv] h nx (fun r h' nx'=>J h' nx'∧((r = .int .i64 (-1)∧∀ x∈es,p x=false)∨∃ (i:Nat) (x:α),r = .int .i64 (i:Int)∧es[i]? = some x∧p x=true∧∀ y∈es.take i,p y=false)):=by
 refine indexv ?_
 unfold index
 obtain ⟨a,cap,rfl,hc⟩:=id (hJ _ _ h0)
 simp (disch:=omega) only [SS,seval]
 refine Lp.mk (IdxJ p es J (.slice a es.length cap) fv) es.length ⟨0,by omega,by omega,rfl,h0,by simp⟩ ?_
 rintro m _ h' nx' ⟨i,rfl,hi,rfl,hj,hno⟩
 rw [indexb0]
 unfold indexl0
 simp (disch:=omega) only [SS,seval]
 refine ⟨fun h1=>?_,fun h1=>?_⟩
 ·obtain ⟨x,hx⟩:=get_ex h1
  obtain ⟨_,b,sp,ro,cap',cs,hbn,hveq,hbh⟩:=(hJ _ _ hj).at hx
  cases hveq
  simp (disch:=omega) only [SS,hbh,rdP (enc:=enc) (k:=3) hk3 hx,seval]
  refine hf x (List.mem_of_getElem? hx) h' nx' _ hj (fun b' h2 nx2 hb hj2=>?_)
  subst hb
  simp (disch:=omega) only [SS,wrap_s (show i<1000000000000 by omega),seval]
  refine ⟨fun hp=>⟨hj2,.inr ⟨i,x,rfl,hx,hp,hno⟩⟩,fun hp=>⟨es.length-(i+1),by omega,i+1,rfl,h1,rfl,hj2,fun y hy=>?_⟩⟩
  rw [List.take_add_one,hx] at hy
  rcases List.mem_append.1 hy with hy | hy
  ·exact hno y hy
  ·have:y=x:=by simpa using hy
   rw [this]; exact hp
 ·have:i=es.length:=by omega
  subst this
  rw [List.take_length] at hno
  exact ⟨hj,.inl hno⟩
theorem conts_c {s:Bool} {v fv:Value} {es:List Edg3} {h:Hp} {nx:Nat} (p:Edg3→Bool) (hv:SlPx h nx v enc3 es) (hl:es.length≤65536)
  (hf:∀ g∈es,∀ h' nx' (K:KC'),Keep nx h h'→nx≤nx'→(∀ (b:Bool) h2 nx2,b=p g→Keep nx' h' h2→nx'≤nx2→K (.bool b) h2 nx2)→CVK Q O s (callV h' nx' [.agg ⟨enc3 g⟩] fv) K) :
  Cv Q O s 193 [v,fv] h nx (fun r h' nx'=>r = .bool (es.any p)∧Keep nx h h'∧nx≤nx'):=by
 refine contsv ?_
 unfold conts
 refine (index_c (enc:=enc3) (fun _=>rfl) p (fun h' nx'=>Keep nx h h'∧nx≤nx') (fun h' nx' hh=>hv.keep hh.1 hh.2) ⟨Keep.refl _ _,Nat.le_refl _⟩ hl (fun g hg h' nx' K hj hK=>hf g hg h' nx' K hj.1 hj.2 (fun b h2 nx2 hb hk2 hle2=>hK b h2 nx2 hb ⟨hj.1.trans hk2 hj.2,Nat.le_trans hj.2 hle2⟩))).mono ?_
 rintro r h' nx' ⟨⟨hk,hle⟩,⟨rfl,hno⟩ | ⟨i,x,rfl,hx,hp,_⟩⟩
 ·simp (disch:=omega) only [SS,seval]
  exact ⟨by rw [List.any_eq_false.2 (fun x hx=>by simp [hno x hx])]; rfl,hk,hle⟩
 ·simp (disch:=omega) only [SS,seval]
  exact ⟨by rw [List.any_eq_true.2 ⟨x,List.mem_of_getElem? hx,hp⟩]; simp,hk,hle⟩
def badE (n:Int) (e:Edg3):Bool:=(decide (e.1<0)||!decide (e.1<n))||(decide (e.2.1<0)||!decide (e.2.1<n))
theorem badE_iff {n:Int} {e:Edg3}:badE n e=true↔BadE n e:=by
 unfold badE BadE
 simp only [Bool.or_eq_true,decide_eq_true_eq,Bool.not_eq_true',decide_eq_false_iff_not]
 omega
def badW (e:Edg3):Bool:=decide (e.2.2<0)||decide (2147483647<e.2.2)
theorem badW_iff {e:Edg3}:badW e=true↔BadW e:=by
 unfold badW BadW
 simp only [Bool.or_eq_true,decide_eq_true_eq]
def toG (e:Edg3):GE:=⟨e.1.toNat,e.2.1.toNat,e.2.2⟩
theorem RightV.ges {n:Int} {es:List Edg3} (h:RightV n es):∃ N:Nat,n=(N:Int)∧N≤4096∧flat enc3 es=flat encG (es.map toG)∧∀ g∈es.map toG,GOk N g:=by
 obtain ⟨h1,h2,h3,h4,h5⟩:=h
 refine ⟨n.toNat,by omega,by omega,?_,fun g hg=>?_⟩
 ·have:∀ l:List Edg3,(∀ e∈l,¬ BadE n e)→flat enc3 l=flat encG (l.map toG):=by
   intro l
   induction l with
   | nil=>intro _; rfl
   | cons x l ih =>
    intro hl
    show enc3 x++flat enc3 l=encG (toG x)++flat encG (l.map toG)
    have hx:=hl x (List.mem_cons_self ..)
    unfold BadE at hx
    rw [ih (fun e he=>hl e (List.mem_cons_of_mem _ he))]
    congr 1
    unfold enc3 encG toG
    simp only
    rw [Int.toNat_of_nonneg (by omega),Int.toNat_of_nonneg (by omega)]
  exact this es h4
 ·obtain ⟨e,he,rfl⟩:=List.mem_map.1 hg
  have h6:=h4 e he
  have h7:=h5 e he
  unfold BadE at h6
  unfold BadW at h7
  refine ⟨?_,?_,?_,?_⟩
  ·show e.1.toNat<n.toNat; omega
  ·show e.2.1.toNat<n.toNat; omega
  ·show 0≤e.2.2; omega
  ·show e.2.2≤2147483647; omega
theorem SlPx.map {h:Hp} {nx:Nat} {v:Value} {es:List Edg3} (hs:SlPx h nx v enc3 es) (e:flat enc3 es=flat encG (es.map toG)):SlPx h nx v encG (es.map toG):=by
 obtain ⟨a,cap,hv,hc⟩:=hs
 refine ⟨a,cap,by rw [List.length_map]; exact hv,fun hl=>?_⟩
 obtain ⟨b,sp,ro,cs,hb,ha,hg⟩:=hc (fun h0=>hl (by rw [h0]; rfl))
 exact ⟨b,sp,ro,cs,hb,ha,by rw [← e]; exact hg⟩
theorem rdF {α:Type} {enc:α→List Value} {l:List α} {k:Nat} (hk:∀ x,(enc x).length=k) {i:Nat} {e:α} (he:l[i]? = some e):loadC (some k) (i*k) (flat enc l) = .ok (.agg ⟨enc e⟩):=by
 have:=rdP hk he (cs:=[])
 rwa [List.append_nil] at this
theorem combine_o {gs:List GE} {N:Nat} {s:Bool} {h:Hp} {nx:Nat} {v:Value} (hv:SlPx h nx v encG gs) (hN:N≤2147483648) (hok:∀ g∈gs,GOk N g) (hl:gs.length≤120) :
  Cv Q O s 307 [.int .i64 1,v] h nx (fun r h' nx'=>∃ v2 cs,r = .tuple ⟨[v2,.int .i64 0]⟩∧SlAt h' v2 encG 3 cs nx nx'∧CanOf N gs cs∧Keep nx h h'∧nx≤nx'):=by
 obtain ⟨a,cap,rfl,hc⟩:=id hv
 have hcan:=canOf N gs hN hok
 by_cases h0:gs=[]
 ·subst h0
  have e:gCombF [.int .i64 1,.slice a 0 cap] h nx = .ok (.tuple ⟨[.slice none 0 0,.int .i64 0]⟩) h nx:=by
   cases a <;> rfl
  exact Cv.byOrc (g:=gCombF) rfl e ⟨_,[],rfl,.inl ⟨rfl,rfl⟩,hcan,Keep.refl _ _,Nat.le_refl _⟩
 ·obtain ⟨b,sp,ro,cx,hb,rfl,hg⟩:=hc h0
  have hlen:gs.length≠0:=fun e=>h0 (List.eq_nil_of_length_eq_zero e)
  have hsm:∀ x∈gs.map gE,Small x:=fun x hx=>by
   obtain ⟨g,hg,rfl⟩:=List.mem_map.1 hx
   exact small_gE hN (hok g hg)
  rw [flat_gE] at hg
  have hfl:(flat encE (gs.map gE)).length=gs.length*3:=by rw [flat_len (k:=3) (fun _=>rfl),List.length_map]
  generalize hL:sortB ltE (combG [] (gs.map gE))=L at hcan
  have hgl:gCombF [.int .i64 1,.slice (some ⟨b,0,sp⟩) gs.length cap] h nx=combResF h nx L:=by
   obtain ⟨m,hm⟩:∃ m,gs.length=m+1:=⟨gs.length-1,by omega⟩
   have e2:lcut (gs.length*3) (ldrop (flat encE (gs.map gE)++cx) 0)=some (flat encE (gs.map gE)):=by
    rw [ldrop_eq,List.drop_zero,lcut_eq,if_pos (by rw [List.length_append,hfl]; exact Nat.le_add_right _ _),← hfl,List.take_left]
   rw [hm] at e2 ⊢
   show (match hget h b with
    | some (.cells cs _)=>(match lcut ((m+1)*3) (ldrop cs 0) with
     | some l=>(match edgesB l with
      | some es=>bif Nat.ble es.length 120 then combResF h nx (sortB ltE (combG [] es)) else .no "Combine"
      | none=>.no "Combine")
     | none=>.no "Combine")
    | _=>.no "Combine")=_
   rw [hg]
   simp only [e2,edgesB_flat hsm,List.length_map,hL]
   rw [show Nat.ble gs.length 120=true by simpa using hl]
   rfl
  have hLn:L≠[]:=fun e=>by
   have:=(sortB_perm (lt:=ltE) (combG [] (gs.map gE))).length_eq
   rw [hL,e] at this
   have e1:=(combG_ends (gs.map gE) []).2
   obtain ⟨g,l,rfl⟩:∃ g l,gs=g::l:=by cases gs with | nil=>exact absurd rfl h0 | cons g l=>exact ⟨g,l,rfl⟩
   obtain ⟨x,hx,_⟩:=e1 (gE g) (by simp)
   have:combG [] ((g::l).map gE)=[]:=List.eq_nil_of_length_eq_zero this.symm
   rw [this] at hx; cases hx
  have hso:sortedB ltE L=true:=by rw [← hL]; exact sortB_sorted _
  have e3:combResF h nx L = .ok (.tuple ⟨[.slice (some ⟨nx,0,some 3⟩) L.length L.length,.int .i64 0]⟩) (hset h nx (.cells (flat encE L) false)) (nx+1):=by
   cases L with
   | nil=>exact absurd rfl hLn
   | cons x l=>show (bif sortedB ltE (x::l) then _ else _)=_; rw [hso]; rfl
  refine Cv.byOrc (g:=gCombF) rfl (hgl.trans e3) ⟨_,L.map eG,rfl,.inr ⟨nx,Nat.le_refl _,Nat.lt_succ_self _,by rw [List.length_map],?_⟩,hcan,fun c hc=>hold (by omega),Nat.le_succ _⟩
  rw [hnew,flat_gE,hcan.eq,hL]
def CanK (N:Nat) (gs:List GE) (nx:Nat) (h:Hp):KC':=fun r h' nx'=>∃ v2 cs,r = .agg ⟨[.int .i64 (N:Int),v2]⟩∧SlAt h' v2 encG 3 cs nx nx'∧IsCan (gs.map gE) (cs.map gE)∧(∀ g∈cs,GOk N g)∧cs.length≤gs.length∧Keep nx h h'∧nx≤nx'
theorem canon_c {gs:List GE} {N:Nat} {s:Bool} {h:Hp} {nx:Nat} {v:Value} (hv:SlPx h nx v encG gs) (hN:N≤2147483648) (hok:∀ g∈gs,GOk N g) (hl:gs.length≤120) :
  Cv Q O s 227 [.agg ⟨[.int .i64 (N:Int),v]⟩] h nx (CanK N gs nx h):=by
 refine canonv ?_
 obtain ⟨a,cap,rfl,hc⟩:=id hv
 unfold canon
 simp (disch:=omega) only [SS,seval]
 have k0:∀ {o1 o2:AObj},Keep nx h (hset (hset h nx o1) (nx+1) o2):=fun {o1 o2} b hb=>by rw [hold (by omega),hold (by omega)]
 refine (combine_o (hv.keep k0 (by omega)) hN hok hl).mono ?_
 rintro r h1 nx1 ⟨v2,cs,rfl,hcs,hcan,hk,hle⟩
 have g1:=(hk nx (by omega)).trans (hold (by omega))
 have g2:=hk (nx+1) (by omega)
 rw [hnew] at g1 g2
 obtain ⟨a2,n2,cap2,rfl⟩:=hcs.form
 simp (disch:=omega) only [SS,g1,g2,seval]
 have hi:IsCan (gs.map gE) (cs.map gE):=by rw [hcan.eq]; exact isCan_sort _
 refine ⟨_,cs,rfl,?_,hi,hcan.ok,hcan.len,(k0.trans hk (by omega)).set (by omega),by omega⟩
 rcases hcs with hcs | ⟨b,h1,h2,e,hb⟩
 ·exact .inl hcs
 ·exact .inr ⟨b,by omega,h2,e,by rw [hold (by omega)]; exact hb⟩
theorem Ltp.tr {x y z:Edg} (h:Ltp x y) (h':Ltp y z):Ltp x z:=by unfold Ltp at *; omega
end Go.Proofs.YtcjochjiegiliaaGreat
