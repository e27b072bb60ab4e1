/- Parts of the proof: PrFn1: each statement bears its own conditions. -/
import Derived.Test.YtfebipifehfjlaaGreatPrFacts
namespace Go.Proofs.YtfebipifehfjlaaGreat
open Go Go.Ax
set_option linter.unusedVariables false
set_option linter.unusedSimpArgs false
set_option maxRecDepth 1000000
noncomputable abbrev Q:Program:=Tryz.prog
def O:Orc:=fun f=>bif Nat.beq f 6 then some gLive else bif Nat.beq f 43 then some gCombF else none
def withinL:List (List Nat):=[]
def within (s:Bool) (t0 t1:Value) (h:Hp) (nx:Nat) (K:KC'):Prop:=RK (bin Q .lss 3 t1 (.int .i64 1)) fun x1=>IF x1 (K (.int .i64 0) h nx) (RK (bin Q .lss 3 t0 (.int .i64 0)) fun x2=>IF x2 (K (.int .i64 0) h nx) (RK (bin Q .rem 3 t0 t1) fun x4=>K x4 h nx))
theorem withine {s:Bool} {t0 t1:Value} {h:Hp} {nx:Nat} {K:KC'}:fF Q O s withinL 21 [t0,t1] h nx K=within s t0 t1 h nx K:=by kernel_rfl
theorem withinv {s:Bool} {t0 t1:Value} {h:Hp} {nx:Nat} {K:KC'} (w:within s t0 t1 h nx K):Cv Q O s 21 [t0,t1] h nx K:=Cv.byF withinL rfl (by rw [withine]; exact w)
def graphL:List (List Nat):=[[1,2,3,4]]
def graphk0 (s:Bool) (N:KVl) (e0:KVl) (R:KVl) (y1 y2 y3 y4 y23:Value) (h0:Hp) (n0:Nat):Prop:=IF y23 (RK (vFldA 1 y1) fun x28=>RK (vLd none h0 x28) fun x29=>RK (vIx (.slice 3) x29 y4) fun x30=>RK (vLd (some 3) h0 x30) fun x31=>AR (.ok (.ptr (.cells [(.int .i64 0),(.int .i64 0),(.int .i64 0)] false))) h0 n0 fun p32 h33 n34=>RK (vSt h33 3 p32 x31) fun h35=>RK (vFldA 0 p32) fun x36=>RK (vLd none h35 x36) fun x37=>RK (vFldA 0 y3) fun x38=>RK (vLd none h35 x38) fun x39=>Cv Q O true 21 [x37,x39] h35 n34 fun x40 h41 n42=>n34≤n42∧RK (vFldA 1 p32) fun x43=>RK (vLd none h41 x43) fun x44=>AGK (fun h=>vLd none h x43) x44 (RK (vFldA 0 y3) fun x45=>RK (vLd none h41 x45) fun x46=>AGK (fun h=>vLd none h x45) x46 (Cv Q O true 21 [x44,x46] h41 n42 fun x47 h48 n49=>n42≤n49∧RK (vFldA 1 y3) fun x50=>RK (vLd none h48 x50) fun x51=>AGK (fun h=>vLd none h x50) x51 (RK (vFldA 2 p32) fun x52=>RK (vLd none h48 x52) fun x53=>AGK (fun h=>vLd none h x52) x53 (RK (bin Q .and 2 x53 (.int .i64 2147483647)) fun x54=>RK (vBld [(.int .i64 0),(.int .i64 0),(.int .i64 0)] [(0,1,x40),(1,1,x47),(2,1,x54)]) fun x55=>AR (vBsl 1 [(.int .i64 0),(.int .i64 0),(.int .i64 0)] [(0,3,x55)]) h48 n49 fun p56 h57 n58=>EK (orR (appendA 3 h57 n58 x51 p56)) fun x59 h60 n61=>n58≤n61∧RK (vFldA 1 y3) fun x62=>RK (vSt h60 1 x62 x59) fun h63=>RK (bin Q .add 3 y4 (.int .i64 1)) fun x64=>N [y1,y2,y3,x64] h63 n61) 2 [h41,h35]) 2 [h41,h35]) 1 [h35]) 1 [h35]) (e0 [y1,y2,y3,y4] h0 n0)
def graphl0 (s:Bool) (a1 a2 a3 a4:Value) (h:Hp) (nx:Nat) (N:KVl) (e0:KVl) (R:KVl):Prop:=RK (vFldA 1 a1) fun x20=>RK (vLd none h x20) fun x21=>RK (lenS x21) fun x22=>RK (bin Q .lss 3 a4 x22) fun x23=>IF x23 (RK (bin Q .lss 3 a4 (.int .i64 60)) fun x24=>IF x24 (RK (vFldA 0 a3) fun x25=>RK (vLd none h x25) fun x26=>RK (bin Q .gtr 3 x26 (.int .i64 0)) fun x27=>(graphk0 s N e0 R a1 a2 a3 a4 x27 h nx)) ((graphk0 s N e0 R a1 a2 a3 a4 (.bool false) h nx))) ((graphk0 s N e0 R a1 a2 a3 a4 (.bool false) h nx))
def graph (s:Bool) (t0:Value) (h:Hp) (nx:Nat) (K:KC'):Prop:=AR (cellsNB (vcells t0)) h nx fun p1 h2 n3=>AR (.ok (.ptr (.cells [(.int .i64 0),(.slice none 0 0)] false))) h2 n3 fun p4 h5 n6=>RK (vFldA 0 p1) fun x7=>RK (vLd none h5 x7) fun x8=>Cv Q O s 21 [x8,(.int .i64 24)] h5 n6 fun x9 h10 n11=>RK (vBld [(.int .i64 0),(.slice none 0 0)] [(0,1,x9)]) fun x12=>AR (.ok (.ptr (.cells [(.int .i64 0),(.slice none 0 0)] false))) h10 n11 fun p13 h14 n15=>RK (vSt h14 2 p13 x12) fun h16=>Lp (fL Q O s graphL 24 0) [p1,p4,p13,(.int .i64 0)] h16 n15 [(0,fun v19 h17 n18=>RK (vLd (some 2) h17 (nv v19 2)) fun x65=>RK (vSt h17 2 (nv v19 1) x65) fun h66=>RK (vLd (some 2) h66 (nv v19 1)) fun x67=>K x67 h66 n18)] (fun _ _ _=>False)
theorem graphb0 {s:Bool} {a1 a2 a3 a4:Value} {h:Hp} {nx:Nat} {N e0 R:KVl}:fL Q O s graphL 24 0 [a1,a2,a3,a4] h nx N [(0,e0)] R=graphl0 s a1 a2 a3 a4 h nx N e0 R:=by kernel_rfl
theorem graphe {s:Bool} {t0:Value} {h:Hp} {nx:Nat} {K:KC'}:fF Q O s graphL 24 [t0] h nx K=graph s t0 h nx K:=by kernel_rfl
theorem graphv {s:Bool} {t0:Value} {h:Hp} {nx:Nat} {K:KC'} (w:graph s t0 h nx K):Cv Q O s 24 [t0] h nx K:=Cv.byF graphL rfl (by rw [graphe]; exact w)
def makeL:List (List Nat):=[]
def makek0 (s:Bool) (K:KC') (y1 y2 y6:Value) (h0:Hp) (n0:Nat):Prop:=RK (vFldA 2 y1) fun x21=>RK (vLd none h0 x21) fun x22=>RK (vFldA 0 y6) fun x23=>RK (vLd none h0 x23) fun x24=>Cv Q O true 21 [x22,x24] h0 n0 fun x25 h26 n27=>n0≤n27∧RK (vLd (some 2) h26 y6) fun x28=>AGK (fun h=>vLd (some 2) h y6) x28 (RK (vSt h26 2 y2 x28) fun h29=>RK (vFldA 3 y1) fun x30=>RK (vLd none h29 x30) fun x31=>AGK (fun h=>vLd none h x30) x31 (RK (oConv (.int .i64) x31) fun x32=>RK (bin Q .rem 3 x32 (.int .i64 4)) fun x33=>RK (bin Q .add 3 x33 (.int .i64 1)) fun x34=>RK (vFldA 4 y1) fun x35=>RK (vLd none h29 x35) fun x36=>AGK (fun h=>vLd none h x35) x36 (RK (oConv (.int .i64) x36) fun x37=>RK (bin Q .rem 3 x37 (.int .i64 4)) fun x38=>RK (bin Q .add 3 x38 (.int .i64 1)) fun x39=>RK (vLd (some 2) h29 y2) fun x40=>K (.tuple ⟨[x40,x25,x34,x39]⟩) h29 n27) 2 [h26,h0]) 2 [h26,h0]) 1 [h0]
def make (s:Bool) (t0:Value) (h:Hp) (nx:Nat) (K:KC'):Prop:=AR (cellsNB (vcells t0)) h nx fun p1 h2 n3=>AR (.ok (.ptr (.cells [(.int .i64 0),(.slice none 0 0)] false))) h2 n3 fun p4 h5 n6=>RK (vFldA 0 p1) fun x7=>RK (vLd (some 2) h5 x7) fun x8=>Cv Q O s 24 [x8] h5 n6 fun x9 h10 n11=>AR (.ok (.ptr (.cells [(.int .i64 0),(.slice none 0 0)] false))) h10 n11 fun p12 h13 n14=>RK (vSt h13 2 p12 x9) fun h15=>RK (vFldA 0 p12) fun x16=>RK (vLd none h15 x16) fun x17=>RK (bin Q .eql 3 x17 (.int .i64 0)) fun x18=>IF x18 (RK (vBld [(.int .i64 0),(.slice none 0 0)] [(0,1,(.int .i64 1))]) fun x19=>RK (vSt h15 2 p12 x19) fun h20=>(makek0 s K p1 p4 p12 h20 n14)) ((makek0 s K p1 p4 p12 h15 n14))
theorem makee {s:Bool} {t0:Value} {h:Hp} {nx:Nat} {K:KC'}:fF Q O s makeL 7 [t0] h nx K=make s t0 h nx K:=by kernel_rfl
theorem makev {s:Bool} {t0:Value} {h:Hp} {nx:Nat} {K:KC'} (w:make s t0 h nx K):Cv Q O s 7 [t0] h nx K:=Cv.byF makeL rfl (by rw [makee]; exact w)
def rightL:List (List Nat):=[]
def right (s:Bool) (t0:Value) (h:Hp) (nx:Nat) (K:KC'):Prop:=AR (cellsNB (vcells t0)) h nx fun p1 h2 n3=>RK (.ok (.func (.func 47) ⟨[]⟩ ⟨[p1]⟩)) fun x4=>AR (.ok (.ptr (.cells [.nilFunc] false))) h2 n3 fun p5 h6 n7=>RK (vSt h6 1 p5 x4) fun h8=>RK (vFldA 0 p1) fun x9=>RK (vLd none h8 x9) fun x10=>RK (bin Q .lss 3 x10 (.int .i64 0)) fun x11=>IF x11 (K (.int .i64 3) h8 n7) (RK (vFldA 0 p1) fun x12=>RK (vLd none h8 x12) fun x13=>RK (bin Q .gtr 3 x13 (.int .i64 4096)) fun x14=>IF x14 (K (.int .i64 5) h8 n7) (RK (vFldA 1 p1) fun x15=>RK (vLd none h8 x15) fun x16=>RK (lenS x16) fun x17=>RK (bin Q .gtr 3 x17 (.int .i64 65536)) fun x18=>IF x18 (K (.int .i64 5) h8 n7) (RK (vFldA 1 p1) fun x19=>RK (vLd none h8 x19) fun x20=>RK (.ok (.func (.func 49) ⟨[]⟩ ⟨[p5]⟩)) fun x21=>Cv Q O s 48 [x20,x21] h8 n7 fun x22 h23 n24=>IF x22 (K (.int .i64 3) h23 n24) (RK (vFldA 1 p1) fun x25=>RK (vLd none h23 x25) fun x26=>Cv Q O s 48 [x26,(.func (.func 50) #[] #[])] h23 n24 fun x27 h28 n29=>IF x27 (K (.int .i64 7) h28 n29) (K (.int .i64 0) h28 n29)))))
theorem righte {s:Bool} {t0:Value} {h:Hp} {nx:Nat} {K:KC'}:fF Q O s rightL 32 [t0] h nx K=right s t0 h nx K:=by kernel_rfl
theorem rightv {s:Bool} {t0:Value} {h:Hp} {nx:Nat} {K:KC'} (w:right s t0 h nx K):Cv Q O s 32 [t0] h nx K:=Cv.byF rightL rfl (by rw [righte]; exact w)
def right1L:List (List Nat):=[]
def right1 (s:Bool) (t0 t1:Value) (h:Hp) (nx:Nat) (K:KC'):Prop:=RK (bin Q .lss 3 t0 (.int .i64 0)) fun x1=>IF x1 (K (.bool true) h nx) (RK (vFldA 0 t1) fun x2=>RK (vLd none h x2) fun x3=>RK (bin Q .geq 3 t0 x3) fun x4=>K x4 h nx)
theorem right1e {s:Bool} {t0 t1:Value} {h:Hp} {nx:Nat} {K:KC'}:fF Q O s right1L 47 [t0,t1] h nx K=right1 s t0 t1 h nx K:=by kernel_rfl
theorem right1v {s:Bool} {t0 t1:Value} {h:Hp} {nx:Nat} {K:KC'} (w:right1 s t0 t1 h nx K):Cv Q O s 47 [t0,t1] h nx K:=Cv.byF right1L rfl (by rw [right1e]; exact w)
def right2L:List (List Nat):=[]
def right2 (s:Bool) (t0 t1:Value) (h:Hp) (nx:Nat) (K:KC'):Prop:=AR (cellsNB (vcells t0)) h nx fun p1 h2 n3=>RK (vLd none h2 t1) fun x4=>RK (vFldA 0 p1) fun x5=>RK (vLd none h2 x5) fun x6=>CVK Q O s (callV h2 n3 [x6] x4) fun x7 h8 n9=>IF x7 (K (.bool true) h8 n9) (RK (vLd none h8 t1) fun x10=>RK (vFldA 1 p1) fun x11=>RK (vLd none h8 x11) fun x12=>CVK Q O s (callV h8 n9 [x12] x10) fun x13 h14 n15=>K x13 h14 n15)
theorem right2e {s:Bool} {t0 t1:Value} {h:Hp} {nx:Nat} {K:KC'}:fF Q O s right2L 49 [t0,t1] h nx K=right2 s t0 t1 h nx K:=by kernel_rfl
theorem right2v {s:Bool} {t0 t1:Value} {h:Hp} {nx:Nat} {K:KC'} (w:right2 s t0 t1 h nx K):Cv Q O s 49 [t0,t1] h nx K:=Cv.byF right2L rfl (by rw [right2e]; exact w)
def right3L:List (List Nat):=[]
def right3 (s:Bool) (t0:Value) (h:Hp) (nx:Nat) (K:KC'):Prop:=AR (cellsNB (vcells t0)) h nx fun p1 h2 n3=>RK (vFldA 2 p1) fun x4=>RK (vLd none h2 x4) fun x5=>RK (bin Q .lss 2 x5 (.int .i64 0)) fun x6=>IF x6 (K (.bool true) h2 n3) (RK (vFldA 2 p1) fun x7=>RK (vLd none h2 x7) fun x8=>RK (bin Q .gtr 2 x8 (.int .i64 2147483647)) fun x9=>K x9 h2 n3)
theorem right3e {s:Bool} {t0:Value} {h:Hp} {nx:Nat} {K:KC'}:fF Q O s right3L 50 [t0] h nx K=right3 s t0 h nx K:=by kernel_rfl
theorem right3v {s:Bool} {t0:Value} {h:Hp} {nx:Nat} {K:KC'} (w:right3 s t0 h nx K):Cv Q O s 50 [t0] h nx K:=Cv.byF right3L rfl (by rw [right3e]; exact w)
def contsL:List (List Nat):=[]
def conts (s:Bool) (t0 t1:Value) (h:Hp) (nx:Nat) (K:KC'):Prop:=Cv Q O s 68 [t0,t1] h nx fun x1 h2 n3=>RK (bin Q .geq 3 x1 (.int .i64 0)) fun x4=>K x4 h2 n3
theorem contse {s:Bool} {t0 t1:Value} {h:Hp} {nx:Nat} {K:KC'}:fF Q O s contsL 48 [t0,t1] h nx K=conts s t0 t1 h nx K:=by kernel_rfl
theorem contsv {s:Bool} {t0 t1:Value} {h:Hp} {nx:Nat} {K:KC'} (w:conts s t0 t1 h nx K):Cv Q O s 48 [t0,t1] h nx K:=Cv.byF contsL rfl (by rw [contse]; exact w)
def indexL:List (List Nat):=[[0,1,4,7,8]]
def indexl0 (s:Bool) (a0 a1 a4 a7 a8:Value) (h:Hp) (nx:Nat) (N:KVl) (e0:KVl) (R:KVl):Prop:=RK (bin Q .lss 3 a8 a7) fun x8=>IF x8 (RK (vIx (.slice 3) a0 a8) fun x9=>RK (vLd (some 3) h x9) fun x10=>CVK Q O s (callV h nx [x10] a1) fun x11 h12 n13=>IF x11 (R [a0,a1,a8,a7,a8] h12 n13) (RK (bin Q .add 3 a8 (.int .i64 1)) fun x14=>N [a0,a1,a4,a7,x14] h12 n13)) (e0 [a0,a1,a4,a7,a8] h nx)
def index (s:Bool) (t0 t1:Value) (h:Hp) (nx:Nat) (K:KC'):Prop:=RK (lenS t0) fun x1=>Lp (fL Q O s indexL 68 0) [t0,t1,(.int .i64 0),x1,(.int .i64 0)] h nx [(0,fun v4 h2 n3=>K (.int .i64 (-1)) h2 n3)] (fun v7 h5 n6=>K (nv v7 2) h5 n6)
theorem indexb0 {s:Bool} {a0 a1 a4 a7 a8:Value} {h:Hp} {nx:Nat} {N e0 R:KVl}:fL Q O s indexL 68 0 [a0,a1,a4,a7,a8] h nx N [(0,e0)] R=indexl0 s a0 a1 a4 a7 a8 h nx N e0 R:=by kernel_rfl
theorem indexe {s:Bool} {t0 t1:Value} {h:Hp} {nx:Nat} {K:KC'}:fF Q O s indexL 68 [t0,t1] h nx K=index s t0 t1 h nx K:=by kernel_rfl
theorem indexv {s:Bool} {t0 t1:Value} {h:Hp} {nx:Nat} {K:KC'} (w:index s t0 t1 h nx K):Cv Q O s 68 [t0,t1] h nx K:=Cv.byF indexL rfl (by rw [indexe]; exact w)
def eq64L:List (List Nat):=[[0,1,4,12,13]]
def eq64l0 (s:Bool) (a0 a1 a4 a12 a13:Value) (h:Hp) (nx:Nat) (N:KVl) (e0:KVl) (R:KVl):Prop:=RK (bin Q .lss 3 a13 a12) fun x11=>IF x11 (RK (vIx (.slice 1) a0 a13) fun x12=>RK (vLd none h x12) fun x13=>RK (vIx (.slice 1) a1 a13) fun x14=>RK (vLd none h x14) fun x15=>RK (bin Q .neq 2 x13 x15) fun x16=>IF x16 (R [a0,a1,(.bool false),a12,a13] h nx) (RK (bin Q .add 3 a13 (.int .i64 1)) fun x17=>N [a0,a1,a4,a12,x17] h nx)) (e0 [a0,a1,a4,a12,a13] h nx)
def eq64 (s:Bool) (t0 t1:Value) (h:Hp) (nx:Nat) (K:KC'):Prop:=RK (lenS t0) fun x1=>RK (lenS t1) fun x2=>RK (bin Q .neq 3 x1 x2) fun x3=>IF x3 (K (.bool false) h nx) (RK (lenS t0) fun x4=>Lp (fL Q O s eq64L 30 0) [t0,t1,(.bool false),x4,(.int .i64 0)] h nx [(0,fun v7 h5 n6=>K (.bool true) h5 n6)] (fun v10 h8 n9=>K (nv v10 2) h8 n9))
theorem eq64b0 {s:Bool} {a0 a1 a4 a12 a13:Value} {h:Hp} {nx:Nat} {N e0 R:KVl}:fL Q O s eq64L 30 0 [a0,a1,a4,a12,a13] h nx N [(0,e0)] R=eq64l0 s a0 a1 a4 a12 a13 h nx N e0 R:=by kernel_rfl
theorem eq64e {s:Bool} {t0 t1:Value} {h:Hp} {nx:Nat} {K:KC'}:fF Q O s eq64L 30 [t0,t1] h nx K=eq64 s t0 t1 h nx K:=by kernel_rfl
theorem eq64v {s:Bool} {t0 t1:Value} {h:Hp} {nx:Nat} {K:KC'} (w:eq64 s t0 t1 h nx K):Cv Q O s 30 [t0,t1] h nx K:=Cv.byF eq64L rfl (by rw [eq64e]; exact w)
def clone64L:List (List Nat):=[]
def clone64 (s:Bool) (t0:Value) (h:Hp) (nx:Nat) (K:KC'):Prop:=RK (bin Q .eql 27 t0 (.slice none 0 0)) fun x1=>IF x1 (K (.slice none 0 0) h nx) (AR (vBsl 0 [] []) h nx fun p2 h3 n4=>EK (orR (appendA 1 h3 n4 p2 t0)) fun x5 h6 n7=>K x5 h6 n7)
theorem clone64e {s:Bool} {t0:Value} {h:Hp} {nx:Nat} {K:KC'}:fF Q O s clone64L 36 [t0] h nx K=clone64 s t0 h nx K:=by kernel_rfl
theorem clone64v {s:Bool} {t0:Value} {h:Hp} {nx:Nat} {K:KC'} (w:clone64 s t0 h nx K):Cv Q O s 36 [t0] h nx K:=Cv.byF clone64L rfl (by rw [clone64e]; exact w)
def wayL:List (List Nat):=[[0,1,6,7,8,9]]
def wayl0 (s:Bool) (a0 a1 a6 a7 a8 a9:Value) (h:Hp) (nx:Nat) (N:KVl) (e0:KVl) (R:KVl):Prop:=RK (vIx (.slice 1) a0 a9) fun x21=>RK (vLd none h x21) fun x22=>RK (bin Q .gtr 2 x22 (.int .i64 0)) fun x23=>IF x23 (RK (vIx (.slice 1) a1 a9) fun x24=>RK (vLd none h x24) fun x25=>RK (bin Q .lss 2 x25 (.int .i64 0)) fun x26=>IF x26 (R [a0,a1,(.slice none 0 0),a7,a8,a9] h nx) (RK (bin Q .geq 2 x25 a7) fun x27=>IF x27 (R [a0,a1,(.slice none 0 0),a7,a8,a9] h nx) (RK (vIx (.slice 1) a0 x25) fun x28=>RK (vLd none h x28) fun x29=>RK (vIx (.slice 1) a0 a9) fun x30=>RK (vLd none h x30) fun x31=>RK (bin Q .sub 2 x31 (.int .i64 1)) fun x32=>RK (bin Q .neq 2 x29 x32) fun x33=>IF x33 (R [a0,a1,(.slice none 0 0),a7,a8,a9] h nx) (AR (vBsl 1 [(.int .i64 0)] [(0,1,x25)]) h nx fun p46 h47 n48=>EK (orR (appendA 1 h47 n48 a8 p46)) fun x49 h50 n51=>N [a0,a1,a6,a7,x49,x25] h50 n51)))) (e0 [a0,a1,a6,a7,a8,a9] h nx)
def wayk0 (s:Bool) (K:KC') (y0 y1 y2 y7 y37:Value) (h0:Hp) (n0:Nat):Prop:=IF y37 (K (.slice none 0 0) h0 n0) (AR (vBsl 1 [(.int .i64 0)] [(0,1,y2)]) h0 n0 fun p12 h13 n14=>Lp (fL Q O s wayL 37 0) [y0,y1,(.slice none 0 0),y7,p12,y2] h13 n14 [(0,fun v17 h15 n16=>Cv Q O s 53 [(nv v17 4)] h15 n16 fun x52 h53 n54=>K (nv v17 4) h53 n54)] (fun v20 h18 n19=>K (nv v20 2) h18 n19))
def way (s:Bool) (t0 t1 t2:Value) (h:Hp) (nx:Nat) (K:KC'):Prop:=RK (lenS t0) fun x1=>RK (lenS t1) fun x2=>RK (min2 true x1 x2) fun x3=>RK (bin Q .lss 3 t2 (.int .i64 0)) fun x4=>IF x4 ((wayk0 s K t0 t1 t2 x3 (.bool true) h nx)) (RK (bin Q .geq 3 t2 x3) fun x5=>IF x5 ((wayk0 s K t0 t1 t2 x3 (.bool true) h nx)) (RK (vIx (.slice 1) t0 t2) fun x6=>RK (vLd none h x6) fun x7=>RK (bin Q .lss 2 x7 (.int .i64 0)) fun x8=>IF x8 ((wayk0 s K t0 t1 t2 x3 (.bool true) h nx)) (RK (vIx (.slice 1) t0 t2) fun x9=>RK (vLd none h x9) fun x10=>RK (bin Q .geq 2 x10 x3) fun x11=>(wayk0 s K t0 t1 t2 x3 x11 h nx))))
theorem wayb0 {s:Bool} {a0 a1 a6 a7 a8 a9:Value} {h:Hp} {nx:Nat} {N e0 R:KVl}:fL Q O s wayL 37 0 [a0,a1,a6,a7,a8,a9] h nx N [(0,e0)] R=wayl0 s a0 a1 a6 a7 a8 a9 h nx N e0 R:=by kernel_rfl
theorem waye {s:Bool} {t0 t1 t2:Value} {h:Hp} {nx:Nat} {K:KC'}:fF Q O s wayL 37 [t0,t1,t2] h nx K=way s t0 t1 t2 h nx K:=by kernel_rfl
theorem wayv {s:Bool} {t0 t1 t2:Value} {h:Hp} {nx:Nat} {K:KC'} (w:way s t0 t1 t2 h nx K):Cv Q O s 37 [t0,t1,t2] h nx K:=Cv.byF wayL rfl (by rw [waye]; exact w)
def revL:List (List Nat):=[[0,2,3]]
def revl0 (s:Bool) (a0 a2 a3:Value) (h:Hp) (nx:Nat) (N:KVl) (e0:KVl) (R:KVl):Prop:=RK (bin Q .lss 3 a2 a3) fun x6=>IF x6 (RK (vIx (.slice 1) a0 a3) fun x7=>RK (vLd none h x7) fun x8=>RK (vIx (.slice 1) a0 a2) fun x9=>RK (vLd none h x9) fun x10=>RK (vIx (.slice 1) a0 a2) fun x11=>RK (vSt h 1 x11 x8) fun h12=>RK (vIx (.slice 1) a0 a3) fun x13=>RK (vSt h12 1 x13 x10) fun h14=>RK (bin Q .add 3 a2 (.int .i64 1)) fun x15=>RK (bin Q .sub 3 a3 (.int .i64 1)) fun x16=>N [a0,x15,x16] h14 nx) (e0 [a0,a2,a3] h nx)
def rev (s:Bool) (t0:Value) (h:Hp) (nx:Nat) (K:KC'):Prop:=RK (lenS t0) fun x1=>RK (bin Q .sub 3 x1 (.int .i64 1)) fun x2=>Lp (fL Q O s revL 53 0) [t0,(.int .i64 0),x2] h nx [(0,fun v5 h3 n4=>K (.tuple ⟨[]⟩) h3 n4)] (fun _ _ _=>False)
theorem revb0 {s:Bool} {a0 a2 a3:Value} {h:Hp} {nx:Nat} {N e0 R:KVl}:fL Q O s revL 53 0 [a0,a2,a3] h nx N [(0,e0)] R=revl0 s a0 a2 a3 h nx N e0 R:=by kernel_rfl
theorem reve {s:Bool} {t0:Value} {h:Hp} {nx:Nat} {K:KC'}:fF Q O s revL 53 [t0] h nx K=rev s t0 h nx K:=by kernel_rfl
theorem revv {s:Bool} {t0:Value} {h:Hp} {nx:Nat} {K:KC'} (w:rev s t0 h nx K):Cv Q O s 53 [t0] h nx K:=Cv.byF revL rfl (by rw [reve]; exact w)
def canonL:List (List Nat):=[]
def canon (s:Bool) (t0:Value) (h:Hp) (nx:Nat) (K:KC'):Prop:=AR (cellsNB (vcells t0)) h nx fun p1 h2 n3=>AR (.ok (.ptr (.cells [(.int .i64 0),(.slice none 0 0)] false))) h2 n3 fun p4 h5 n6=>RK (vFldA 1 p1) fun x7=>RK (vLd none h5 x7) fun x8=>Cv Q O s 43 [(.int .i64 1),x8] h5 n6 fun x9 h10 n11=>RK (oExtract x9 0) fun x12=>RK (oExtract x9 1) fun x13=>RK (vFldA 0 p1) fun x14=>RK (vLd none h10 x14) fun x15=>RK (vBld [(.int .i64 0),(.slice none 0 0)] [(0,1,x15),(1,1,x12)]) fun x16=>RK (vSt h10 2 p4 x16) fun h17=>RK (vLd (some 2) h17 p4) fun x18=>K x18 h17 n11
theorem canone {s:Bool} {t0:Value} {h:Hp} {nx:Nat} {K:KC'}:fF Q O s canonL 26 [t0] h nx K=canon s t0 h nx K:=by kernel_rfl
theorem canonv {s:Bool} {t0:Value} {h:Hp} {nx:Nat} {K:KC'} (w:canon s t0 h nx K):Cv Q O s 26 [t0] h nx K:=Cv.byF canonL rfl (by rw [canone]; exact w)
def below (s:Bool) (t0 t1:Value) (h:Hp) (nx:Nat) (K:KC'):Prop:=AR (cellsNB (vcells t0)) h nx fun p1 h2 n3=>AR (cellsNB (vcells t1)) h2 n3 fun p4 h5 n6=>RK (vFldA 0 p1) fun x7=>RK (vLd none h5 x7) fun x8=>RK (vFldA 0 p4) fun x9=>RK (vLd none h5 x9) fun x10=>RK (bin Q .lss 3 x8 x10) fun x11=>IF x11 (K (.bool true) h5 n6) (RK (vFldA 0 p1) fun x12=>RK (vLd none h5 x12) fun x13=>RK (vFldA 0 p4) fun x14=>RK (vLd none h5 x14) fun x15=>RK (bin Q .eql 3 x13 x15) fun x16=>IF x16 (RK (vFldA 1 p1) fun x17=>RK (vLd none h5 x17) fun x18=>RK (vFldA 1 p4) fun x19=>RK (vLd none h5 x19) fun x20=>RK (bin Q .lss 3 x18 x20) fun x21=>K x21 h5 n6) (K (.bool false) h5 n6))
def pwaysL:List (List Nat):=[[2,7,11,16,17]]
def pwaysk0 (s:Bool) (N:KVl) (e0:KVl) (R:KVl) (y2 y7 y11 y16 y17 y97:Value) (h0:Hp) (n0:Nat):Prop:=IF y97 (RK (vIx (.slice 1) y2 y17) fun x66=>RK (vLd none h0 x66) fun x67=>RK (vFldA 0 y7) fun x68=>RK (vLd none h0 x68) fun x69=>Cv Q O true 21 [x67,x69] h0 n0 fun x70 h71 n72=>n0≤n72∧AR (vBsl 1 [(.int .i64 0)] [(0,1,x70)]) h71 n72 fun p73 h74 n75=>EK (orR (appendA 1 h74 n75 y16 p73)) fun x76 h77 n78=>n75≤n78∧RK (bin Q .add 3 y17 (.int .i64 1)) fun x79=>N [y2,y7,y11,x76,x79] h77 n78) (e0 [y2,y7,y11,y16,y17] h0 n0)
def pwaysl0 (s:Bool) (a2 a7 a11 a16 a17:Value) (h:Hp) (nx:Nat) (N:KVl) (e0:KVl) (R:KVl):Prop:=RK (lenS a2) fun x63=>RK (bin Q .lss 3 a17 x63) fun x64=>IF x64 (RK (bin Q .lss 3 a17 (.int .i64 10)) fun x65=>(pwaysk0 s N e0 R a2 a7 a11 a16 a17 x65 h nx)) ((pwaysk0 s N e0 R a2 a7 a11 a16 a17 (.bool false) h nx))
def pwaysk1 (s:Bool) (K:KC') (y2 y7 y8 y11 y87:Value) (h0:Hp) (n0:Nat):Prop:=IF y87 (K (.bool false) h0 n0) (AR (vBsl 1 [(.int .i64 0)] [(0,1,y8)]) h0 n0 fun p57 h58 n59=>Lp (fL Q O s pwaysL 5 0) [y2,y7,y11,p57,(.int .i64 0)] h58 n59 [(0,fun v62 h60 n61=>RK (vLd (some 2) h60 (nv v62 1)) fun x80=>Cv Q O s 8 [x80,(nv v62 3)] h60 n61 fun x81 h82 n83=>RK (oExtract x81 0) fun x84=>RK (oExtract x81 1) fun x85=>Cv Q O s 6 [] h82 n83 fun x86 h87 n88=>IF x86 (RK (oUn .not x85) fun x89=>IF x89 (K (.bool true) h87 n88) (RK (lenS (nv v62 3)) fun x90=>RK (bin Q .sub 3 x90 (.int .i64 1)) fun x91=>RK (vIx (.slice 1) (nv v62 3) x91) fun x92=>RK (vLd none h87 x92) fun x93=>RK (vIx (.slice 1) (nv v62 2) x93) fun x94=>RK (vLd none h87 x94) fun x95=>RK (bin Q .geq 2 x84 x95) fun x96=>K x96 h87 n88)) (K (.bool false) h87 n88))] (fun _ _ _=>False))
def pways (s:Bool) (t0 t1 t2:Value) (h:Hp) (nx:Nat) (K:KC'):Prop:=AR (cellsNB (vcells t0)) h nx fun p1 h2 n3=>RK (vLd (some 5) h2 p1) fun x4=>Cv Q O s 7 [x4] h2 n3 fun x5 h6 n7=>RK (oExtract x5 0) fun x8=>RK (oExtract x5 1) fun x9=>RK (oExtract x5 2) fun x10=>RK (oExtract x5 3) fun x11=>AR (.ok (.ptr (.cells [(.int .i64 0),(.slice none 0 0)] false))) h6 n7 fun p12 h13 n14=>RK (vSt h13 2 p12 x8) fun h15=>RK (vLd (some 2) h15 p12) fun x16=>Cv Q O s 20 [x16,x9] h15 n14 fun x17 h18 n19=>RK (vFldA 0 p12) fun x20=>RK (vLd none h18 x20) fun x21=>Cv Q O s 21 [t1,x21] h18 n19 fun x22 h23 n24=>RK (vLd (some 2) h23 p12) fun x25=>Cv Q O s 18 [x25,x9,x17,x22] h23 n24 fun x26 h27 n28=>RK (vIx (.slice 1) x17 x22) fun x29=>RK (vLd none h27 x29) fun x30=>RK (bin Q .eql 2 x30 (.int .i64 4611686018427387904)) fun x31=>IF x31 (Cv Q O s 6 [] h27 n28 fun x32 h33 n34=>IF x32 (RK (lenS x26) fun x35=>RK (bin Q .eql 3 x35 (.int .i64 0)) fun x36=>K x36 h33 n34) (K (.bool false) h33 n34)) (RK (vLd (some 2) h27 p12) fun x37=>Cv Q O s 8 [x37,x26] h27 n28 fun x38 h39 n40=>RK (oExtract x38 0) fun x41=>RK (oExtract x38 1) fun x42=>RK (oUn .not x42) fun x43=>IF x43 ((pwaysk1 s K t2 p12 x9 x17 (.bool true) h39 n40)) (RK (vIx (.slice 1) x17 x22) fun x44=>RK (vLd none h39 x44) fun x45=>RK (bin Q .neq 2 x41 x45) fun x46=>IF x46 ((pwaysk1 s K t2 p12 x9 x17 (.bool true) h39 n40)) (RK (lenS x26) fun x47=>RK (bin Q .eql 3 x47 (.int .i64 0)) fun x48=>IF x48 ((pwaysk1 s K t2 p12 x9 x17 (.bool true) h39 n40)) (RK (vIx (.slice 1) x26 (.int .i64 0)) fun x49=>RK (vLd none h39 x49) fun x50=>RK (bin Q .neq 3 x50 x9) fun x51=>IF x51 ((pwaysk1 s K t2 p12 x9 x17 (.bool true) h39 n40)) (RK (lenS x26) fun x52=>RK (bin Q .sub 3 x52 (.int .i64 1)) fun x53=>RK (vIx (.slice 1) x26 x53) fun x54=>RK (vLd none h39 x54) fun x55=>RK (bin Q .neq 3 x55 x22) fun x56=>(pwaysk1 s K t2 p12 x9 x17 x56 h39 n40))))))
theorem pwaysb0 {s:Bool} {a2 a7 a11 a16 a17:Value} {h:Hp} {nx:Nat} {N e0 R:KVl}:fL Q O s pwaysL 5 0 [a2,a7,a11,a16,a17] h nx N [(0,e0)] R=pwaysl0 s a2 a7 a11 a16 a17 h nx N e0 R:=by kernel_rfl
theorem pwayse {s:Bool} {t0 t1 t2:Value} {h:Hp} {nx:Nat} {K:KC'}:fF Q O s pwaysL 5 [t0,t1,t2] h nx K=pways s t0 t1 t2 h nx K:=by kernel_rfl
theorem pwaysv {s:Bool} {t0 t1 t2:Value} {h:Hp} {nx:Nat} {K:KC'} (w:pways s t0 t1 t2 h nx K):Cv Q O s 5 [t0,t1,t2] h nx K:=Cv.byF pwaysL rfl (by rw [pwayse]; exact w)
def wgtL:List (List Nat):=[[1,4,5,6,27,28,29],[1,4,5,6,9,10]]
def wgtl0 (s:Bool) (a1 a4 a5 a6 a27 a28 a29:Value) (h:Hp) (nx:Nat) (N:KVl) (e0:KVl) (R:KVl):Prop:=RK (bin Q .lss 3 a29 a28) fun x25=>IF x25 (RK (vIx (.slice 3) a27 a29) fun x26=>RK (vLd (some 3) h x26) fun x27=>AR (.ok (.ptr (.cells [(.int .i64 0),(.int .i64 0),(.int .i64 0)] false))) h nx fun p28 h29 n30=>RK (vSt h29 3 p28 x27) fun h31=>RK (vFldA 0 p28) fun x32=>RK (vLd none h31 x32) fun x33=>RK (vFldA 1 p28) fun x34=>RK (vLd none h31 x34) fun x35=>RK (vBld [(.int .i64 0),(.int .i64 0)] [(0,1,x33),(1,1,x35)]) fun x36=>RK (vFldA 2 p28) fun x37=>RK (vLd none h31 x37) fun x38=>RK (cMup Q 60 h31 a6 x36 x38) fun h39=>RK (bin Q .add 3 a29 (.int .i64 1)) fun x40=>N [a1,a4,a5,a6,a27,a28,x40] h39 n30) (e0 [a1,a4,a5,a6,a27,a28,a29] h nx)
def wgtl1 (s:Bool) (a1 a4 a5 a6 a9 a10:Value) (h:Hp) (nx:Nat) (N:KVl) (e2:KVl) (R:KVl):Prop:=RK (lenS a1) fun x47=>RK (bin Q .lss 3 a10 x47) fun x48=>IF x48 (RK (bin Q .sub 3 a10 (.int .i64 1)) fun x49=>RK (vIx (.slice 1) a1 x49) fun x50=>RK (vLd none h x50) fun x51=>RK (vIx (.slice 1) a1 a10) fun x52=>RK (vLd none h x52) fun x53=>RK (vBld [(.int .i64 0),(.int .i64 0)] [(0,1,x51),(1,1,x53)]) fun x54=>RK (cLkp Q h 60 (.int .i64 0) true a6 x54) fun x55=>RK (oExtract x55 0) fun x56=>RK (oExtract x55 1) fun x57=>RK (oUn .not x57) fun x58=>IF x58 (R [a1,(.int .i64 0),(.bool false),a6,a9,a10] h nx) (RK (bin Q .add 2 a9 x56) fun x59=>RK (bin Q .add 3 a10 (.int .i64 1)) fun x60=>N [a1,a4,a5,a6,x59,x60] h nx)) (e2 [a1,a4,a5,a6,a9,a10] h nx)
def wgtk0 (s:Bool) (K:KC') (y1 y2 y23:Value) (h0:Hp) (n0:Nat):Prop:=IF y23 (K (.tuple ⟨[(.int .i64 0),(.bool false)]⟩) h0 n0) (AR (.ok .map) h0 n0 fun p13 h14 n15=>RK (vLd (some 2) h14 y2) fun x16=>Cv Q O s 26 [x16] h14 n15 fun x17 h18 n19=>RK (cFld 1 none x17) fun x20=>RK (lenS x20) fun x21=>Lp (fL Q O s wgtL 8 0) [y1,(.int .i64 0),(.bool false),p13,x20,x21,(.int .i64 0)] h18 n19 [(0,fun v24 h22 n23=>Lp (fL Q O s wgtL 8 1) [(nv v24 0),(nv v24 1),(nv v24 2),(nv v24 3),(.int .i64 0),(.int .i64 1)] h22 n23 [(2,fun v43 h41 n42=>K (.tuple ⟨[(nv v43 4),(.bool true)]⟩) h41 n42)] (fun v46 h44 n45=>K (.tuple ⟨[(nv v46 1),(nv v46 2)]⟩) h44 n45))] (fun _ _ _=>False))
def wgt (s:Bool) (t0 t1:Value) (h:Hp) (nx:Nat) (K:KC'):Prop:=AR (cellsNB (vcells t0)) h nx fun p1 h2 n3=>RK (lenS t1) fun x4=>RK (bin Q .eql 3 x4 (.int .i64 0)) fun x5=>IF x5 ((wgtk0 s K t1 p1 (.bool true) h2 n3)) (RK (vLd (some 2) h2 p1) fun x6=>RK (vIx (.slice 1) t1 (.int .i64 0)) fun x7=>RK (vLd none h2 x7) fun x8=>Cv Q O true 25 [x6,x8] h2 n3 fun x9 h10 n11=>n3≤n11∧RK (oUn .not x9) fun x12=>(wgtk0 s K t1 p1 x12 h10 n11))
theorem wgtb0 {s:Bool} {a1 a4 a5 a6 a27 a28 a29:Value} {h:Hp} {nx:Nat} {N e0 R:KVl}:fL Q O s wgtL 8 0 [a1,a4,a5,a6,a27,a28,a29] h nx N [(0,e0)] R=wgtl0 s a1 a4 a5 a6 a27 a28 a29 h nx N e0 R:=by kernel_rfl
theorem wgtb1 {s:Bool} {a1 a4 a5 a6 a9 a10:Value} {h:Hp} {nx:Nat} {N e2 R:KVl}:fL Q O s wgtL 8 1 [a1,a4,a5,a6,a9,a10] h nx N [(2,e2)] R=wgtl1 s a1 a4 a5 a6 a9 a10 h nx N e2 R:=by kernel_rfl
theorem wgte {s:Bool} {t0 t1:Value} {h:Hp} {nx:Nat} {K:KC'}:fF Q O s wgtL 8 [t0,t1] h nx K=wgt s t0 t1 h nx K:=by kernel_rfl
theorem wgtv {s:Bool} {t0 t1:Value} {h:Hp} {nx:Nat} {K:KC'} (w:wgt s t0 t1 h nx K):Cv Q O s 8 [t0,t1] h nx K:=Cv.byF wgtL rfl (by rw [wgte]; exact w)
def pcheckL:List (List Nat):=[]
def pcheck (s:Bool) (t0 t1 t2:Value) (h:Hp) (nx:Nat) (K:KC'):Prop:=AR (cellsNB (vcells t0)) h nx fun p1 h2 n3=>RK (vLd (some 2) h2 p1) fun x4=>Cv Q O s 25 [x4,t1] h2 n3 fun x5 h6 n7=>IF x5 (RK (vLd (some 2) h6 p1) fun x8=>Cv Q O s 31 [x8,t1] h6 n7 fun x9 h10 n11=>Cv Q O s 30 [x9,t2] h10 n11 fun x12 h13 n14=>K x12 h13 n14) (K (.bool false) h6 n7)
theorem pchecke {s:Bool} {t0 t1 t2:Value} {h:Hp} {nx:Nat} {K:KC'}:fF Q O s pcheckL 12 [t0,t1,t2] h nx K=pcheck s t0 t1 t2 h nx K:=by kernel_rfl
theorem pcheckv {s:Bool} {t0 t1 t2:Value} {h:Hp} {nx:Nat} {K:KC'} (w:pcheck s t0 t1 t2 h nx K):Cv Q O s 12 [t0,t1,t2] h nx K:=Cv.byF pcheckL rfl (by rw [pchecke]; exact w)
def tightL:List (List Nat):=[[1,5,6,23,24,25]]
def tightk0 (s:Bool) (N:KVl) (e0:KVl) (R:KVl) (y1 y5 y6 y23 y24 y25:Value) (h0:Hp) (n0:Nat):Prop:=RK (bin Q .add 3 y25 (.int .i64 1)) fun x54=>N [y1,y5,y6,y23,y24,x54] h0 n0
def tightl0 (s:Bool) (a1 a5 a6 a23 a24 a25:Value) (h:Hp) (nx:Nat) (N:KVl) (e0:KVl) (R:KVl):Prop:=RK (bin Q .lss 3 a25 a24) fun x22=>IF x22 (RK (vIx (.slice 3) a23 a25) fun x23=>RK (vLd (some 3) h x23) fun x24=>AR (.ok (.ptr (.cells [(.int .i64 0),(.int .i64 0),(.int .i64 0)] false))) h nx fun p25 h26 n27=>RK (vSt h26 3 p25 x24) fun h28=>RK (vFldA 0 p25) fun x29=>RK (vLd none h28 x29) fun x30=>RK (vIx (.slice 1) a1 x30) fun x31=>RK (vLd none h28 x31) fun x32=>RK (vFldA 1 p25) fun x33=>RK (vLd none h28 x33) fun x34=>RK (vIx (.slice 1) a1 x34) fun x35=>RK (vLd none h28 x35) fun x36=>CVK Q O s (callV h28 n27 [x32] a5) fun x37 h38 n39=>IF x37 (CVK Q O s (callV h38 n39 [x36] a5) fun x40 h41 n42=>IF x40 (RK (bin Q .sub 2 x36 x32) fun x43=>RK (vFldA 2 p25) fun x44=>RK (vLd none h41 x44) fun x45=>RK (bin Q .eql 2 x43 x45) fun x46=>IF x46 (RK (vLd (some 3) h41 p25) fun x47=>AR (vBsl 1 [(.int .i64 0),(.int .i64 0),(.int .i64 0)] [(0,3,x47)]) h41 n42 fun p48 h49 n50=>EK (orR (appendA 3 h49 n50 a6 p48)) fun x51 h52 n53=>(tightk0 s N e0 R a1 a5 x51 a23 a24 a25 h52 n53)) ((tightk0 s N e0 R a1 a5 a6 a23 a24 a25 h41 n42))) ((tightk0 s N e0 R a1 a5 a6 a23 a24 a25 h41 n42))) ((tightk0 s N e0 R a1 a5 a6 a23 a24 a25 h38 n39))) (e0 [a1,a5,a6,a23,a24,a25] h nx)
def tightk1 (s:Bool) (K:KC') (y1 y2 y20:Value) (h0:Hp) (n0:Nat):Prop:=IF y20 (K (.slice none 0 0) h0 n0) (RK (vLd (some 2) h0 y2) fun x13=>Cv Q O s 26 [x13] h0 n0 fun x14 h15 n16=>RK (cFld 1 none x14) fun x17=>RK (lenS x17) fun x18=>Lp (fL Q O s tightL 15 0) [y1,(.func (.func 33) #[] #[]),(.slice none 0 0),x17,x18,(.int .i64 0)] h15 n16 [(0,fun v21 h19 n20=>K (nv v21 2) h19 n20)] (fun _ _ _=>False))
def tight (s:Bool) (t0 t1:Value) (h:Hp) (nx:Nat) (K:KC'):Prop:=AR (cellsNB (vcells t0)) h nx fun p1 h2 n3=>RK (vLd (some 2) h2 p1) fun x4=>Cv Q O s 32 [x4] h2 n3 fun x5 h6 n7=>RK (bin Q .neq 53 x5 (.int .i64 0)) fun x8=>IF x8 ((tightk1 s K t1 p1 (.bool true) h6 n7)) (RK (lenS t1) fun x9=>RK (vFldA 0 p1) fun x10=>RK (vLd none h6 x10) fun x11=>RK (bin Q .neq 3 x9 x11) fun x12=>(tightk1 s K t1 p1 x12 h6 n7))
theorem tightb0 {s:Bool} {a1 a5 a6 a23 a24 a25:Value} {h:Hp} {nx:Nat} {N e0 R:KVl}:fL Q O s tightL 15 0 [a1,a5,a6,a23,a24,a25] h nx N [(0,e0)] R=tightl0 s a1 a5 a6 a23 a24 a25 h nx N e0 R:=by kernel_rfl
theorem tighte {s:Bool} {t0 t1:Value} {h:Hp} {nx:Nat} {K:KC'}:fF Q O s tightL 15 [t0,t1] h nx K=tight s t0 t1 h nx K:=by kernel_rfl
theorem tightv {s:Bool} {t0 t1:Value} {h:Hp} {nx:Nat} {K:KC'} (w:tight s t0 t1 h nx K):Cv Q O s 15 [t0,t1] h nx K:=Cv.byF tightL rfl (by rw [tighte]; exact w)
def pwayL:List (List Nat):=[[3,8,9,10,11,12],[3,8,9,10,11,12,13,56,57,58]]
def pwayk0 (s:Bool) (N:KVl) (e2:KVl) (R:KVl) (y3 y8 y9 y10 y11 y12 y13 y56 y57 y58:Value) (h0:Hp) (n0:Nat):Prop:=RK (bin Q .add 3 y58 (.int .i64 1)) fun x77=>N [y3,y8,y9,y10,y11,y12,y13,y56,y57,x77] h0 n0
def pwayl1 (s:Bool) (a3 a8 a9 a10 a11 a12 a13 a56 a57 a58:Value) (h:Hp) (nx:Nat) (N:KVl) (e2:KVl) (R:KVl):Prop:=RK (bin Q .lss 3 a58 a57) fun x49=>IF x49 (RK (vIx (.slice 3) a56 a58) fun x50=>RK (vLd (some 3) h x50) fun x51=>AR (.ok (.ptr (.cells [(.int .i64 0),(.int .i64 0),(.int .i64 0)] false))) h nx fun p52 h53 n54=>RK (vSt h53 3 p52 x51) fun h55=>RK (vFldA 0 p52) fun x56=>RK (vLd none h55 x56) fun x57=>RK (vIx (.slice 1) a10 x57) fun x58=>RK (vLd none h55 x58) fun x59=>RK (bin Q .eql 2 x59 a12) fun x60=>IF x60 (RK (vFldA 1 p52) fun x61=>RK (vLd none h55 x61) fun x62=>RK (vIx (.slice 1) a10 x62) fun x63=>RK (vLd none h55 x63) fun x64=>RK (bin Q .lss 2 x64 (.int .i64 0)) fun x65=>IF x65 (RK (vFldA 1 p52) fun x66=>RK (vLd none h55 x66) fun x67=>RK (bin Q .add 2 a12 (.int .i64 1)) fun x68=>RK (vIx (.slice 1) a10 x67) fun x69=>RK (vSt h55 1 x69 x68) fun h70=>RK (vFldA 1 p52) fun x71=>RK (vLd none h70 x71) fun x72=>AGK (fun h=>vLd none h x71) x72 (RK (vFldA 0 p52) fun x73=>RK (vLd none h70 x73) fun x74=>AGK (fun h=>vLd none h x73) x74 (RK (vIx (.slice 1) a11 x72) fun x75=>RK (vSt h70 1 x75 x74) fun h76=>(pwayk0 s N e2 R a3 a8 a9 a10 a11 a12 (.bool true) a56 a57 a58 h76 n54)) 1 [h55]) 1 [h55]) ((pwayk0 s N e2 R a3 a8 a9 a10 a11 a12 a13 a56 a57 a58 h55 n54))) ((pwayk0 s N e2 R a3 a8 a9 a10 a11 a12 a13 a56 a57 a58 h55 n54))) (e2 [a3,a8,a9,a10,a11,a12,a13,a56,a57,a58] h nx)
def pwayl0 (s:Bool) (a3 a8 a9 a10 a11 a12:Value) (h:Hp) (nx:Nat) (N:KVl) (R:KVl):Prop:=RK (vFldA 1 a9) fun x43=>RK (vLd none h x43) fun x44=>RK (lenS x44) fun x45=>Lp (fL Q O s pwayL 18 1) [a3,a8,a9,a10,a11,a12,(.bool false),x44,x45,(.int .i64 0)] h nx [(2,fun v48 h46 n47=>RK (oUn .not (nv v48 6)) fun x78=>IF x78 (Cv Q O s 37 [(nv v48 3),(nv v48 4),(nv v48 0)] h46 n47 fun x79 h80 n81=>R [(nv v48 0),x79,(nv v48 2),(nv v48 3),(nv v48 4),(nv v48 5)] h80 n81) (RK (bin Q .add 2 (nv v48 5) (.int .i64 1)) fun x82=>N [(nv v48 0),(nv v48 1),(nv v48 2),(nv v48 3),(nv v48 4),x82] h46 n47))] (fun _ _ _=>False)
def pwayk1 (s:Bool) (K:KC') (y1 y2 y3 y4 y37:Value) (h0:Hp) (n0:Nat):Prop:=IF y37 (K (.slice none 0 0) h0 n0) (RK (vLd (some 2) h0 y4) fun x16=>Cv Q O true 15 [x16,y2] h0 n0 fun x17 h18 n19=>n0≤n19∧RK (vFldA 0 y4) fun x20=>RK (vLd none h18 x20) fun x21=>AGK (fun h=>vLd none h x20) x21 (RK (vBld [(.int .i64 0),(.slice none 0 0)] [(0,1,x21),(1,1,x17)]) fun x22=>AR (.ok (.ptr (.cells [(.int .i64 0),(.slice none 0 0)] false))) h18 n19 fun p23 h24 n25=>RK (vSt h24 2 p23 x22) fun h26=>AR (vBsl 1 [(.int .i64 0)] [(0,1,(.int .i64 (-1)))]) h26 n25 fun p27 h28 n29=>RK (vFldA 0 p23) fun x30=>RK (vLd none h28 x30) fun x31=>Cv Q O s 35 [p27,x31] h28 n29 fun x32 h33 n34=>Cv Q O s 36 [x32] h33 n34 fun x35 h36 n37=>RK (vIx (.slice 1) x32 y1) fun x38=>RK (vSt h36 1 x38 (.int .i64 0)) fun h39=>Lp (fL Q O s pwayL 18 0) [y3,(.slice none 0 0),p23,x32,x35,(.int .i64 0)] h39 n37 [] (fun v42 h40 n41=>K (nv v42 1) h40 n41)) 1 [h0])
def pway (s:Bool) (t0 t1 t2 t3:Value) (h:Hp) (nx:Nat) (K:KC'):Prop:=AR (cellsNB (vcells t0)) h nx fun p1 h2 n3=>RK (vLd (some 2) h2 p1) fun x4=>Cv Q O s 12 [x4,t1,t2] h2 n3 fun x5 h6 n7=>RK (oUn .not x5) fun x8=>IF x8 ((pwayk1 s K t1 t2 t3 p1 (.bool true) h6 n7)) (RK (bin Q .lss 3 t3 (.int .i64 0)) fun x9=>IF x9 ((pwayk1 s K t1 t2 t3 p1 (.bool true) h6 n7)) (RK (vFldA 0 p1) fun x10=>RK (vLd none h6 x10) fun x11=>RK (bin Q .geq 3 t3 x11) fun x12=>IF x12 ((pwayk1 s K t1 t2 t3 p1 (.bool true) h6 n7)) (RK (vIx (.slice 1) t2 t3) fun x13=>RK (vLd none h6 x13) fun x14=>RK (bin Q .geq 2 x14 (.int .i64 4611686018427387904)) fun x15=>(pwayk1 s K t1 t2 t3 p1 x15 h6 n7))))
theorem pwayb1 {s:Bool} {a3 a8 a9 a10 a11 a12 a13 a56 a57 a58:Value} {h:Hp} {nx:Nat} {N e2 R:KVl}:fL Q O s pwayL 18 1 [a3,a8,a9,a10,a11,a12,a13,a56,a57,a58] h nx N [(2,e2)] R=pwayl1 s a3 a8 a9 a10 a11 a12 a13 a56 a57 a58 h nx N e2 R:=by kernel_rfl
theorem pwayb0 {s:Bool} {a3 a8 a9 a10 a11 a12:Value} {h:Hp} {nx:Nat} {N R:KVl}:fL Q O s pwayL 18 0 [a3,a8,a9,a10,a11,a12] h nx N [] R=pwayl0 s a3 a8 a9 a10 a11 a12 h nx N R:=by kernel_rfl
theorem pwaye {s:Bool} {t0 t1 t2 t3:Value} {h:Hp} {nx:Nat} {K:KC'}:fF Q O s pwayL 18 [t0,t1,t2,t3] h nx K=pway s t0 t1 t2 t3 h nx K:=by kernel_rfl
theorem pwayv {s:Bool} {t0 t1 t2 t3:Value} {h:Hp} {nx:Nat} {K:KC'} (w:pway s t0 t1 t2 t3 h nx K):Cv Q O s 18 [t0,t1,t2,t3] h nx K:=Cv.byF pwayL rfl (by rw [pwaye]; exact w)
def rfarL:List (List Nat):=[[1,2,5,6],[2,5,7],[2,5,7,8]]
def rfarl0 (s:Bool) (a1 a2 a5 a6:Value) (h:Hp) (nx:Nat) (N:KVl) (e0:KVl) (R:KVl):Prop:=RK (vFldA 0 a2) fun x7=>RK (vLd none h x7) fun x8=>RK (bin Q .lss 3 a6 x8) fun x9=>IF x9 (AR (vBsl 1 [(.int .i64 0)] [(0,1,(.int .i64 4611686018427387904))]) h nx fun p10 h11 n12=>EK (orR (appendA 1 h11 n12 a5 p10)) fun x13 h14 n15=>RK (bin Q .add 3 a6 (.int .i64 1)) fun x16=>N [a1,a2,x13,x16] h14 n15) (e0 [a1,a2,a5,a6] h nx)
def rfark0 (s:Bool) (N:KVl) (e4:KVl) (R:KVl) (y2 y5 y7 y8:Value) (h0:Hp) (n0:Nat):Prop:=RK (bin Q .add 3 y8 (.int .i64 1)) fun x68=>N [y2,y5,y7,x68] h0 n0
def rfarl2 (s:Bool) (a2 a5 a7 a8:Value) (h:Hp) (nx:Nat) (N:KVl) (e4:KVl) (R:KVl):Prop:=RK (vFldA 1 a2) fun x28=>RK (vLd none h x28) fun x29=>RK (lenS x29) fun x30=>RK (bin Q .lss 3 a8 x30) fun x31=>IF x31 (RK (vFldA 1 a2) fun x32=>RK (vLd none h x32) fun x33=>RK (vIx (.slice 3) x33 a8) fun x34=>RK (vLd (some 3) h x34) fun x35=>AR (.ok (.ptr (.cells [(.int .i64 0),(.int .i64 0),(.int .i64 0)] false))) h nx fun p36 h37 n38=>RK (vSt h37 3 p36 x35) fun h39=>RK (vFldA 0 p36) fun x40=>RK (vLd none h39 x40) fun x41=>RK (vIx (.slice 1) a5 x41) fun x42=>RK (vLd none h39 x42) fun x43=>RK (bin Q .lss 2 x43 (.int .i64 4611686018427387904)) fun x44=>IF x44 (RK (vFldA 0 p36) fun x45=>RK (vLd none h39 x45) fun x46=>RK (vIx (.slice 1) a5 x46) fun x47=>RK (vLd none h39 x47) fun x48=>RK (vFldA 2 p36) fun x49=>RK (vLd none h39 x49) fun x50=>RK (bin Q .add 2 x48 x50) fun x51=>RK (vFldA 1 p36) fun x52=>RK (vLd none h39 x52) fun x53=>RK (vIx (.slice 1) a5 x53) fun x54=>RK (vLd none h39 x54) fun x55=>RK (bin Q .lss 2 x51 x55) fun x56=>IF x56 (RK (vFldA 1 p36) fun x57=>RK (vLd none h39 x57) fun x58=>RK (vFldA 0 p36) fun x59=>RK (vLd none h39 x59) fun x60=>RK (vIx (.slice 1) a5 x60) fun x61=>RK (vLd none h39 x61) fun x62=>RK (vFldA 2 p36) fun x63=>RK (vLd none h39 x63) fun x64=>RK (bin Q .add 2 x62 x64) fun x65=>RK (vIx (.slice 1) a5 x58) fun x66=>RK (vSt h39 1 x66 x65) fun h67=>(rfark0 s N e4 R a2 a5 a7 a8 h67 n38)) ((rfark0 s N e4 R a2 a5 a7 a8 h39 n38))) ((rfark0 s N e4 R a2 a5 a7 a8 h39 n38))) (e4 [a2,a5,a7,a8] h nx)
def rfarl1 (s:Bool) (a2 a5 a7:Value) (h:Hp) (nx:Nat) (N:KVl) (e2:KVl) (R:KVl):Prop:=RK (vFldA 0 a2) fun x22=>RK (vLd none h x22) fun x23=>RK (bin Q .lss 3 a7 x23) fun x24=>IF x24 (Lp (fL Q O s rfarL 20 2) [a2,a5,a7,(.int .i64 0)] h nx [(4,fun v27 h25 n26=>RK (bin Q .add 3 (nv v27 2) (.int .i64 1)) fun x69=>N [(nv v27 0),(nv v27 1),x69] h25 n26)] (fun _ _ _=>False)) (e2 [a2,a5,a7] h nx)
def rfar (s:Bool) (t0 t1:Value) (h:Hp) (nx:Nat) (K:KC'):Prop:=AR (cellsNB (vcells t0)) h nx fun p1 h2 n3=>Lp (fL Q O s rfarL 20 0) [t1,p1,(.slice none 0 0),(.int .i64 0)] h2 n3 [(0,fun v6 h4 n5=>RK (vIx (.slice 1) (nv v6 2) (nv v6 0)) fun x17=>RK (vSt h4 1 x17 (.int .i64 0)) fun h18=>Lp (fL Q O s rfarL 20 1) [(nv v6 1),(nv v6 2),(.int .i64 0)] h18 n5 [(2,fun v21 h19 n20=>K (nv v21 1) h19 n20)] (fun _ _ _=>False))] (fun _ _ _=>False)
theorem rfarb0 {s:Bool} {a1 a2 a5 a6:Value} {h:Hp} {nx:Nat} {N e0 R:KVl}:fL Q O s rfarL 20 0 [a1,a2,a5,a6] h nx N [(0,e0)] R=rfarl0 s a1 a2 a5 a6 h nx N e0 R:=by kernel_rfl
theorem rfarb2 {s:Bool} {a2 a5 a7 a8:Value} {h:Hp} {nx:Nat} {N e4 R:KVl}:fL Q O s rfarL 20 2 [a2,a5,a7,a8] h nx N [(4,e4)] R=rfarl2 s a2 a5 a7 a8 h nx N e4 R:=by kernel_rfl
theorem rfarb1 {s:Bool} {a2 a5 a7:Value} {h:Hp} {nx:Nat} {N e2 R:KVl}:fL Q O s rfarL 20 1 [a2,a5,a7] h nx N [(2,e2)] R=rfarl1 s a2 a5 a7 h nx N e2 R:=by kernel_rfl
theorem rfare {s:Bool} {t0 t1:Value} {h:Hp} {nx:Nat} {K:KC'}:fF Q O s rfarL 20 [t0,t1] h nx K=rfar s t0 t1 h nx K:=by kernel_rfl
theorem rfarv {s:Bool} {t0 t1:Value} {h:Hp} {nx:Nat} {K:KC'} (w:rfar s t0 t1 h nx K):Cv Q O s 20 [t0,t1] h nx K:=Cv.byF rfarL rfl (by rw [rfare]; exact w)
def prightL:List (List Nat):=[]
def pright (s:Bool) (t0 t1:Value) (h:Hp) (nx:Nat) (K:KC'):Prop:=AR (cellsNB (vcells t0)) h nx fun p1 h2 n3=>RK (vLd (some 2) h2 p1) fun x4=>Cv Q O s 32 [x4] h2 n3 fun x5 h6 n7=>RK (bin Q .eql 53 x5 (.int .i64 0)) fun x8=>IF x8 (RK (bin Q .geq 3 t1 (.int .i64 0)) fun x9=>IF x9 (RK (vFldA 0 p1) fun x10=>RK (vLd none h6 x10) fun x11=>RK (bin Q .lss 3 t1 x11) fun x12=>K x12 h6 n7) (K (.bool false) h6 n7)) (K (.bool false) h6 n7)
theorem prighte {s:Bool} {t0 t1:Value} {h:Hp} {nx:Nat} {K:KC'}:fF Q O s prightL 25 [t0,t1] h nx K=pright s t0 t1 h nx K:=by kernel_rfl
theorem prightv {s:Bool} {t0 t1:Value} {h:Hp} {nx:Nat} {K:KC'} (w:pright s t0 t1 h nx K):Cv Q O s 25 [t0,t1] h nx K:=Cv.byF prightL rfl (by rw [prighte]; exact w)
def foundL:List (List Nat):=[[1,5,6,26,27,28],[5,6,9],[5,6,9,10,74,75,76]]
def foundl0 (s:Bool) (a1 a5 a6 a26 a27 a28:Value) (h:Hp) (nx:Nat) (N:KVl) (e0:KVl) (R:KVl):Prop:=RK (bin Q .lss 3 a28 a27) fun x28=>IF x28 (RK (vIx (.slice 3) a26 a28) fun x29=>RK (vLd (some 3) h x29) fun x30=>AR (.ok (.ptr (.cells [(.int .i64 0),(.int .i64 0),(.int .i64 0)] false))) h nx fun p31 h32 n33=>RK (vSt h32 3 p31 x30) fun h34=>RK (vFldA 0 p31) fun x35=>RK (vLd none h34 x35) fun x36=>RK (vIx (.slice 1) a6 x36) fun x37=>RK (vLd none h34 x37) fun x38=>RK (vLd (some 3) h34 p31) fun x39=>AR (vBsl 1 [(.int .i64 0),(.int .i64 0),(.int .i64 0)] [(0,3,x39)]) h34 n33 fun p40 h41 n42=>EK (orR (appendA 3 h41 n42 x38 p40)) fun x43 h44 n45=>n42≤n45∧RK (vFldA 0 p31) fun x46=>RK (vLd none h44 x46) fun x47=>AGK (fun h=>vLd none h x46) x47 (RK (vIx (.slice 1) a6 x47) fun x48=>RK (vSt h44 1 x48 x43) fun h49=>RK (bin Q .add 3 a28 (.int .i64 1)) fun x50=>N [a1,a5,a6,a26,a27,x50] h49 n45) 1 [h34]) (e0 [a1,a5,a6,a26,a27,a28] h nx)
def foundl2 (s:Bool) (a5 a6 a9 a10 a74 a75 a76:Value) (h:Hp) (nx:Nat) (N:KVl) (e4:KVl) (R:KVl):Prop:=RK (bin Q .lss 3 a76 a75) fun x94=>IF x94 (RK (vIx (.slice 3) a74 a76) fun x95=>RK (vLd (some 3) h x95) fun x96=>AR (.ok (.ptr (.cells [(.int .i64 0),(.int .i64 0),(.int .i64 0)] false))) h nx fun p97 h98 n99=>RK (vSt h98 3 p97 x96) fun h100=>RK (vFldA 1 a10) fun x101=>RK (vLd none h100 x101) fun x102=>RK (vFldA 2 p97) fun x103=>RK (vLd none h100 x103) fun x104=>RK (bin Q .add 2 x102 x104) fun x105=>RK (vFldA 1 p97) fun x106=>RK (vLd none h100 x106) fun x107=>RK (vIx (.slice 1) a5 x107) fun x108=>RK (vLd none h100 x108) fun x109=>RK (bin Q .lss 2 x105 x109) fun x110=>IF x110 (RK (vFldA 1 p97) fun x111=>RK (vLd none h100 x111) fun x112=>RK (vIx (.slice 1) a5 x112) fun x113=>RK (vSt h100 1 x113 x105) fun h114=>RK (.ok (Value.iface 82 a9)) fun x115=>RK (vFldA 1 p97) fun x116=>RK (vLd none h114 x116) fun x117=>RK (vBld [(.int .i64 0),(.int .i64 0)] [(0,1,x117),(1,1,x105)]) fun x118=>RK (.ok (Value.iface 84 x118)) fun x119=>Cv Q O s 46 [x115,x119] h114 n99 fun x120 h121 n122=>RK (bin Q .add 3 a76 (.int .i64 1)) fun x125=>N [a5,a6,a9,a10,a74,a75,x125] h121 n122) (RK (bin Q .add 3 a76 (.int .i64 1)) fun x126=>N [a5,a6,a9,a10,a74,a75,x126] h100 n99)) (e4 [a5,a6,a9,a10,a74,a75,a76] h nx)
def foundl1 (s:Bool) (a5 a6 a9:Value) (h:Hp) (nx:Nat) (N:KVl) (e2:KVl) (R:KVl):Prop:=RK (nilChk a9) fun x61=>RK (vLd none h x61) fun x62=>Cv Q O s 44 [x62] h nx fun x63 h64 n65=>RK (bin Q .gtr 3 x63 (.int .i64 0)) fun x66=>IF x66 (RK (nilChk a9) fun x67=>RK (vLd none h64 x67) fun x68=>RK (vIx (.slice 2) x68 (.int .i64 0)) fun x69=>RK (vLd (some 2) h64 x69) fun x70=>AR (.ok (.ptr (.cells [(.int .i64 0),(.int .i64 0)] false))) h64 n65 fun p71 h72 n73=>RK (vSt h72 2 p71 x70) fun h74=>RK (.ok (Value.iface 82 a9)) fun x75=>Cv Q O s 45 [x75] h74 n73 fun x76 h77 n78=>RK (vFldA 1 p71) fun x79=>RK (vLd none h77 x79) fun x80=>RK (vFldA 0 p71) fun x81=>RK (vLd none h77 x81) fun x82=>RK (vIx (.slice 1) a5 x82) fun x83=>RK (vLd none h77 x83) fun x84=>RK (bin Q .gtr 2 x80 x84) fun x85=>IF x85 (N [a5,a6,a9] h77 n78) (RK (vFldA 0 p71) fun x86=>RK (vLd none h77 x86) fun x87=>RK (vIx (.slice 1) a6 x87) fun x88=>RK (vLd none h77 x88) fun x89=>RK (lenS x89) fun x90=>Lp (fL Q O s foundL 31 2) [a5,a6,a9,p71,x89,x90,(.int .i64 0)] h77 n78 [(4,fun v93 h91 n92=>N [(nv v93 0),(nv v93 1),(nv v93 2)] h91 n92)] (fun _ _ _=>False))) (e2 [a5,a6,a9] h64 n65)
def found (s:Bool) (t0 t1:Value) (h:Hp) (nx:Nat) (K:KC'):Prop:=AR (cellsNB (vcells t0)) h nx fun p1 h2 n3=>AR (vBsl 1 [(.int .i64 0)] [(0,1,(.int .i64 4611686018427387904))]) h2 n3 fun p4 h5 n6=>RK (vFldA 0 p1) fun x7=>RK (vLd none h5 x7) fun x8=>Cv Q O s 35 [p4,x8] h5 n6 fun x9 h10 n11=>RK (vIx (.slice 1) x9 t1) fun x12=>RK (vSt h10 1 x12 (.int .i64 0)) fun h13=>RK (vFldA 0 p1) fun x14=>RK (vLd none h13 x14) fun x15=>AR (vMks [(.slice none 0 0)] x15 x15) h13 n11 fun p16 h17 n18=>RK (vLd (some 2) h17 p1) fun x19=>Cv Q O s 26 [x19] h17 n18 fun x20 h21 n22=>RK (cFld 1 none x20) fun x23=>RK (lenS x23) fun x24=>Lp (fL Q O s foundL 31 0) [t1,x9,p16,x23,x24,(.int .i64 0)] h21 n22 [(0,fun v27 h25 n26=>RK (vBld [(.int .i64 0),(.int .i64 0)] [(0,1,(nv v27 0)),(1,1,(.int .i64 0))]) fun x51=>AR (vBsl 1 [(.int .i64 0),(.int .i64 0)] [(0,2,x51)]) h25 n26 fun p52 h53 n54=>AR (cellsNB (vcells p52)) h53 n54 fun p55 h56 n57=>Lp (fL Q O s foundL 31 1) [(nv v27 1),(nv v27 2),p55] h56 n57 [(2,fun v60 h58 n59=>K (nv v60 0) h58 n59)] (fun _ _ _=>False))] (fun _ _ _=>False)
theorem foundb0 {s:Bool} {a1 a5 a6 a26 a27 a28:Value} {h:Hp} {nx:Nat} {N e0 R:KVl}:fL Q O s foundL 31 0 [a1,a5,a6,a26,a27,a28] h nx N [(0,e0)] R=foundl0 s a1 a5 a6 a26 a27 a28 h nx N e0 R:=by kernel_rfl
theorem foundb2 {s:Bool} {a5 a6 a9 a10 a74 a75 a76:Value} {h:Hp} {nx:Nat} {N e4 R:KVl}:fL Q O s foundL 31 2 [a5,a6,a9,a10,a74,a75,a76] h nx N [(4,e4)] R=foundl2 s a5 a6 a9 a10 a74 a75 a76 h nx N e4 R:=by kernel_rfl
theorem foundb1 {s:Bool} {a5 a6 a9:Value} {h:Hp} {nx:Nat} {N e2 R:KVl}:fL Q O s foundL 31 1 [a5,a6,a9] h nx N [(2,e2)] R=foundl1 s a5 a6 a9 h nx N e2 R:=by kernel_rfl
theorem founde {s:Bool} {t0 t1:Value} {h:Hp} {nx:Nat} {K:KC'}:fF Q O s foundL 31 [t0,t1] h nx K=found s t0 t1 h nx K:=by kernel_rfl
theorem foundv {s:Bool} {t0 t1:Value} {h:Hp} {nx:Nat} {K:KC'} (w:found s t0 t1 h nx K):Cv Q O s 31 [t0,t1] h nx K:=Cv.byF foundL rfl (by rw [founde]; exact w)
def tight1L:List (List Nat):=[]
def tight1 (s:Bool) (t0:Value) (h:Hp) (nx:Nat) (K:KC'):Prop:=RK (bin Q .geq 2 t0 (.int .i64 0)) fun x1=>IF x1 (RK (bin Q .lss 2 t0 (.int .i64 4611686018427387904)) fun x2=>K x2 h nx) (K (.bool false) h nx)
theorem tight1e {s:Bool} {t0:Value} {h:Hp} {nx:Nat} {K:KC'}:fF Q O s tight1L 33 [t0] h nx K=tight1 s t0 h nx K:=by kernel_rfl
theorem tight1v {s:Bool} {t0:Value} {h:Hp} {nx:Nat} {K:KC'} (w:tight1 s t0 h nx K):Cv Q O s 33 [t0] h nx K:=Cv.byF tight1L rfl (by rw [tight1e]; exact w)
def repeL:List (List Nat):=[[7,8]]
def repel0 (s:Bool) (a7 a8:Value) (h:Hp) (nx:Nat) (N:KVl) (e0:KVl) (R:KVl):Prop:=RK (lenS a7) fun x24=>RK (bin Q .lss 3 a8 x24) fun x25=>IF x25 (RK (vSl 1 a7 (some a8) none none) fun x26=>RK (vSl 1 a7 none (some a8) none) fun x27=>EK (orR (builtinA Q .copy [27,27] h nx [x26,x27])) fun x28 h29 n30=>nx≤n30∧RK (bin Q .add 3 a8 x28) fun x31=>N [a7,x31] h29 n30) (e0 [a7,a8] h nx)
def repek0 (s:Bool) (K:KC') (y0 y6 y26:Value) (h0:Hp) (n0:Nat):Prop:=IF y26 (RK (.ok (Value.iface 9 (.string ⟨#[116,104,101,32,114,101,115,117,108,116,32,111,102,32,40,108,101,110,40,120,41,32,42,32,99,111,117,110,116,41,32,111,118,101,114,102,108,111,119,115]⟩))) fun x13=>False) (RK (oConv (.int .i64) y6) fun x14=>AR (vMks [(.int .i64 0)] x14 x14) h0 n0 fun p15 h16 n17=>EK (orR (builtinA Q .copy [27,27] h16 n17 [p15,y0])) fun x18 h19 n20=>Lp (fL Q O s repeL 35 0) [p15,x18] h19 n20 [(0,fun v23 h21 n22=>K (nv v23 0) h21 n22)] (fun _ _ _=>False))
def repe (s:Bool) (t0 t1:Value) (h:Hp) (nx:Nat) (K:KC'):Prop:=RK (bin Q .lss 3 t1 (.int .i64 0)) fun x1=>IF x1 (RK (.ok (Value.iface 9 (.string ⟨#[99,97,110,110,111,116,32,98,101,32,110,101,103,97,116,105,118,101]⟩))) fun x2=>False) (RK (lenS t0) fun x3=>RK (oConv (.int .u64) x3) fun x4=>RK (oConv (.int .u64) t1) fun x5=>Cv Q O s 52 [x4,x5] h nx fun x6 h7 n8=>RK (oExtract x6 0) fun x9=>RK (oExtract x6 1) fun x10=>RK (bin Q .gtr 93 x9 (.int .u64 0)) fun x11=>IF x11 ((repek0 s K t0 x10 (.bool true) h7 n8)) (RK (bin Q .gtr 93 x10 (.int .u64 9223372036854775807)) fun x12=>(repek0 s K t0 x10 x12 h7 n8)))
theorem repeb0 {s:Bool} {a7 a8:Value} {h:Hp} {nx:Nat} {N e0 R:KVl}:fL Q O s repeL 35 0 [a7,a8] h nx N [(0,e0)] R=repel0 s a7 a8 h nx N e0 R:=by kernel_rfl
theorem repee {s:Bool} {t0 t1:Value} {h:Hp} {nx:Nat} {K:KC'}:fF Q O s repeL 35 [t0,t1] h nx K=repe s t0 t1 h nx K:=by kernel_rfl
theorem repev {s:Bool} {t0 t1:Value} {h:Hp} {nx:Nat} {K:KC'} (w:repe s t0 t1 h nx K):Cv Q O s 35 [t0,t1] h nx K:=Cv.byF repeL rfl (by rw [repee]; exact w)
def slenL:List (List Nat):=[]
def slen (s:Bool) (t0:Value) (h:Hp) (nx:Nat) (K:KC'):Prop:=RK (lenS t0) fun x1=>K x1 h nx
theorem slene {s:Bool} {t0:Value} {h:Hp} {nx:Nat} {K:KC'}:fF Q O s slenL 44 [t0] h nx K=slen s t0 h nx K:=by kernel_rfl
theorem slenv {s:Bool} {t0:Value} {h:Hp} {nx:Nat} {K:KC'} (w:slen s t0 h nx K):Cv Q O s 44 [t0] h nx K:=Cv.byF slenL rfl (by rw [slene]; exact w)
def hpopL:List (List Nat):=[]
def hpop (s:Bool) (t0:Value) (h:Hp) (nx:Nat) (K:KC'):Prop:=CVK Q O s (oInvoke Q h nx [] "Len" t0) fun x1 h2 n3=>RK (bin Q .sub 3 x1 (.int .i64 1)) fun x4=>CVK Q O s (oInvoke Q h2 n3 [(.int .i64 0),x4] "Swap" t0) fun x5 h6 n7=>Cv Q O s 66 [t0,(.int .i64 0),x4] h6 n7 fun x8 h9 n10=>CVK Q O s (oInvoke Q h9 n10 [] "Pop" t0) fun x11 h12 n13=>K x11 h12 n13
theorem hpope {s:Bool} {t0:Value} {h:Hp} {nx:Nat} {K:KC'}:fF Q O s hpopL 45 [t0] h nx K=hpop s t0 h nx K:=by kernel_rfl
theorem hpopv {s:Bool} {t0:Value} {h:Hp} {nx:Nat} {K:KC'} (w:hpop s t0 h nx K):Cv Q O s 45 [t0] h nx K:=Cv.byF hpopL rfl (by rw [hpope]; exact w)
def hpushL:List (List Nat):=[]
def hpush (s:Bool) (t0 t1:Value) (h:Hp) (nx:Nat) (K:KC'):Prop:=CVK Q O s (oInvoke Q h nx [t1] "Push" t0) fun x1 h2 n3=>CVK Q O s (oInvoke Q h2 n3 [] "Len" t0) fun x4 h5 n6=>RK (bin Q .sub 3 x4 (.int .i64 1)) fun x7=>Cv Q O s 67 [t0,x7] h5 n6 fun x8 h9 n10=>K (.tuple ⟨[]⟩) h9 n10
theorem hpushe {s:Bool} {t0 t1:Value} {h:Hp} {nx:Nat} {K:KC'}:fF Q O s hpushL 46 [t0,t1] h nx K=hpush s t0 t1 h nx K:=by kernel_rfl
theorem hpushv {s:Bool} {t0 t1:Value} {h:Hp} {nx:Nat} {K:KC'} (w:hpush s t0 t1 h nx K):Cv Q O s 46 [t0,t1] h nx K:=Cv.byF hpushL rfl (by rw [hpushe]; exact w)
def hdownL:List (List Nat):=[[0,1,2,7]]
def hdownk0 (s:Bool) (N:KVl) (e0:KVl) (R:KVl) (y0 y1 y2 y7:Value) (h0:Hp) (n0:Nat):Prop:=N [y0,y1,y2,y7] h0 n0
def hdownl0 (s:Bool) (a0 a1 a2 a7:Value) (h:Hp) (nx:Nat) (N:KVl) (e0:KVl) (R:KVl):Prop:=RK (bin Q .mul 3 (.int .i64 2) a7) fun x4=>RK (bin Q .add 3 x4 (.int .i64 1)) fun x5=>RK (bin Q .geq 3 x5 a2) fun x6=>IF x6 (e0 [a0,a1,a2,a7] h nx) (RK (bin Q .lss 3 x5 (.int .i64 0)) fun x7=>IF x7 (e0 [a0,a1,a2,a7] h nx) (RK (bin Q .add 3 x5 (.int .i64 1)) fun x8=>RK (bin Q .lss 3 x8 a2) fun x9=>IF x9 (CVK Q O s (oInvoke Q h nx [x8,x5] "Less" a0) fun x10 h11 n12=>IF x10 (CVK Q O s (oInvoke Q h11 n12 [x8,a7] "Less" a0) fun x13 h14 n15=>RK (oUn .not x13) fun x16=>IF x16 (e0 [a0,a1,a2,a7] h14 n15) (CVK Q O s (oInvoke Q h14 n15 [a7,x8] "Swap" a0) fun x17 h18 n19=>(hdownk0 s N e0 R a0 a1 a2 x8 h18 n19))) (CVK Q O s (oInvoke Q h11 n12 [x5,a7] "Less" a0) fun x20 h21 n22=>RK (oUn .not x20) fun x23=>IF x23 (e0 [a0,a1,a2,a7] h21 n22) (CVK Q O s (oInvoke Q h21 n22 [a7,x5] "Swap" a0) fun x24 h25 n26=>(hdownk0 s N e0 R a0 a1 a2 x5 h25 n26)))) (CVK Q O s (oInvoke Q h nx [x5,a7] "Less" a0) fun x27 h28 n29=>RK (oUn .not x27) fun x30=>IF x30 (e0 [a0,a1,a2,a7] h28 n29) (CVK Q O s (oInvoke Q h28 n29 [a7,x5] "Swap" a0) fun x31 h32 n33=>(hdownk0 s N e0 R a0 a1 a2 x5 h32 n33)))))
def hdown (s:Bool) (t0 t1 t2:Value) (h:Hp) (nx:Nat) (K:KC'):Prop:=Lp (fL Q O s hdownL 66 0) [t0,t1,t2,t1] h nx [(0,fun v3 h1 n2=>RK (bin Q .gtr 3 (nv v3 3) (nv v3 1)) fun x34=>K x34 h1 n2)] (fun _ _ _=>False)
theorem hdownb0 {s:Bool} {a0 a1 a2 a7:Value} {h:Hp} {nx:Nat} {N e0 R:KVl}:fL Q O s hdownL 66 0 [a0,a1,a2,a7] h nx N [(0,e0)] R=hdownl0 s a0 a1 a2 a7 h nx N e0 R:=by kernel_rfl
theorem hdowne {s:Bool} {t0 t1 t2:Value} {h:Hp} {nx:Nat} {K:KC'}:fF Q O s hdownL 66 [t0,t1,t2] h nx K=hdown s t0 t1 t2 h nx K:=by kernel_rfl
theorem hdownv {s:Bool} {t0 t1 t2:Value} {h:Hp} {nx:Nat} {K:KC'} (w:hdown s t0 t1 t2 h nx K):Cv Q O s 66 [t0,t1,t2] h nx K:=Cv.byF hdownL rfl (by rw [hdowne]; exact w)
def hupL:List (List Nat):=[[0,1]]
def hupl0 (s:Bool) (a0 a1:Value) (h:Hp) (nx:Nat) (N:KVl) (e0:KVl) (R:KVl):Prop:=RK (bin Q .sub 3 a1 (.int .i64 1)) fun x4=>RK (bin Q .quo 3 x4 (.int .i64 2)) fun x5=>RK (bin Q .eql 3 x5 a1) fun x6=>IF x6 (e0 [a0,a1] h nx) (CVK Q O s (oInvoke Q h nx [a1,x5] "Less" a0) fun x7 h8 n9=>RK (oUn .not x7) fun x10=>IF x10 (e0 [a0,a1] h8 n9) (CVK Q O s (oInvoke Q h8 n9 [x5,a1] "Swap" a0) fun x11 h12 n13=>N [a0,x5] h12 n13))
def hup (s:Bool) (t0 t1:Value) (h:Hp) (nx:Nat) (K:KC'):Prop:=Lp (fL Q O s hupL 67 0) [t0,t1] h nx [(0,fun v3 h1 n2=>K (.tuple ⟨[]⟩) h1 n2)] (fun _ _ _=>False)
theorem hupb0 {s:Bool} {a0 a1:Value} {h:Hp} {nx:Nat} {N e0 R:KVl}:fL Q O s hupL 67 0 [a0,a1] h nx N [(0,e0)] R=hupl0 s a0 a1 h nx N e0 R:=by kernel_rfl
theorem hupe {s:Bool} {t0 t1:Value} {h:Hp} {nx:Nat} {K:KC'}:fF Q O s hupL 67 [t0,t1] h nx K=hup s t0 t1 h nx K:=by kernel_rfl
theorem hupv {s:Bool} {t0 t1:Value} {h:Hp} {nx:Nat} {K:KC'} (w:hup s t0 t1 h nx K):Cv Q O s 67 [t0,t1] h nx K:=Cv.byF hupL rfl (by rw [hupe]; exact w)
def slessL:List (List Nat):=[]
def sless (s:Bool) (t0 t1 t2:Value) (h:Hp) (nx:Nat) (K:KC'):Prop:=RK (vIx (.slice 2) t0 t1) fun x1=>RK (vFldA 1 x1) fun x2=>RK (vLd none h x2) fun x3=>RK (vIx (.slice 2) t0 t2) fun x4=>RK (vFldA 1 x4) fun x5=>RK (vLd none h x5) fun x6=>RK (bin Q .lss 2 x3 x6) fun x7=>K x7 h nx
theorem slesse {s:Bool} {t0 t1 t2:Value} {h:Hp} {nx:Nat} {K:KC'}:fF Q O s slessL 385 [t0,t1,t2] h nx K=sless s t0 t1 t2 h nx K:=by kernel_rfl
theorem slessv {s:Bool} {t0 t1 t2:Value} {h:Hp} {nx:Nat} {K:KC'} (w:sless s t0 t1 t2 h nx K):Cv Q O s 385 [t0,t1,t2] h nx K:=Cv.byF slessL rfl (by rw [slesse]; exact w)
def spopL:List (List Nat):=[]
def spop (s:Bool) (t0:Value) (h:Hp) (nx:Nat) (K:KC'):Prop:=RK (nilChk t0) fun x1=>RK (vLd none h x1) fun x2=>RK (lenS x2) fun x3=>RK (bin Q .sub 3 x3 (.int .i64 1)) fun x4=>RK (nilChk t0) fun x5=>RK (vLd none h x5) fun x6=>RK (vIx (.slice 2) x6 x4) fun x7=>RK (vLd (some 2) h x7) fun x8=>AR (.ok (.ptr (.cells [(.int .i64 0),(.int .i64 0)] false))) h nx fun p9 h10 n11=>RK (vSt h10 2 p9 x8) fun h12=>RK (nilChk t0) fun x13=>RK (vLd none h12 x13) fun x14=>RK (vSl 2 x14 none (some x4) none) fun x15=>RK (nilChk t0) fun x16=>RK (vSt h12 1 x16 x15) fun h17=>RK (vLd (some 2) h17 p9) fun x18=>RK (.ok (Value.iface 84 x18)) fun x19=>K x19 h17 n11
theorem spope {s:Bool} {t0:Value} {h:Hp} {nx:Nat} {K:KC'}:fF Q O s spopL 386 [t0] h nx K=spop s t0 h nx K:=by kernel_rfl
theorem spopv {s:Bool} {t0:Value} {h:Hp} {nx:Nat} {K:KC'} (w:spop s t0 h nx K):Cv Q O s 386 [t0] h nx K:=Cv.byF spopL rfl (by rw [spope]; exact w)
def spushL:List (List Nat):=[]
def spush (s:Bool) (t0 t1:Value) (h:Hp) (nx:Nat) (K:KC'):Prop:=RK (oAssert Q 84 true t1) fun x1=>RK (oExtract x1 0) fun x2=>RK (oExtract x1 1) fun x3=>AR (.ok (.ptr (.cells [(.int .i64 0),(.int .i64 0)] false))) h nx fun p4 h5 n6=>RK (vSt h5 2 p4 x2) fun h7=>IF x3 (RK (nilChk t0) fun x8=>RK (vLd none h7 x8) fun x9=>RK (vLd (some 2) h7 p4) fun x10=>AR (vBsl 1 [(.int .i64 0),(.int .i64 0)] [(0,2,x10)]) h7 n6 fun p11 h12 n13=>EK (orR (appendA 2 h12 n13 x9 p11)) fun x14 h15 n16=>n13≤n16∧RK (nilChk t0) fun x17=>RK (vSt h15 1 x17 x14) fun h18=>K (.tuple ⟨[]⟩) h18 n16) (K (.tuple ⟨[]⟩) h7 n6)
theorem spushe {s:Bool} {t0 t1:Value} {h:Hp} {nx:Nat} {K:KC'}:fF Q O s spushL 387 [t0,t1] h nx K=spush s t0 t1 h nx K:=by kernel_rfl
theorem spushv {s:Bool} {t0 t1:Value} {h:Hp} {nx:Nat} {K:KC'} (w:spush s t0 t1 h nx K):Cv Q O s 387 [t0,t1] h nx K:=Cv.byF spushL rfl (by rw [spushe]; exact w)
def sswapL:List (List Nat):=[]
def sswap (s:Bool) (t0 t1 t2:Value) (h:Hp) (nx:Nat) (K:KC'):Prop:=RK (vIx (.slice 2) t0 t2) fun x1=>RK (vLd (some 2) h x1) fun x2=>RK (vIx (.slice 2) t0 t1) fun x3=>RK (vLd (some 2) h x3) fun x4=>RK (vIx (.slice 2) t0 t1) fun x5=>RK (vSt h 2 x5 x2) fun h6=>RK (vIx (.slice 2) t0 t2) fun x7=>RK (vSt h6 2 x7 x4) fun h8=>K (.tuple ⟨[]⟩) h8 nx
theorem sswape {s:Bool} {t0 t1 t2:Value} {h:Hp} {nx:Nat} {K:KC'}:fF Q O s sswapL 388 [t0,t1,t2] h nx K=sswap s t0 t1 t2 h nx K:=by kernel_rfl
theorem sswapv {s:Bool} {t0 t1 t2:Value} {h:Hp} {nx:Nat} {K:KC'} (w:sswap s t0 t1 t2 h nx K):Cv Q O s 388 [t0,t1,t2] h nx K:=Cv.byF sswapL rfl (by rw [sswape]; exact w)
theorem within_c {s:Bool} {k n:Int} {h:Hp} {nx:Nat}:Cv Q O s 21 [.int .i64 k,.int .i64 n] h nx (fun v h' nx'=>v = .int .i64 (wnF k n)∧h'=h∧nx'=nx):=by
 refine withinv ?_
 unfold within
 simp (disch:=omega) only [SS,seval]
 refine ⟨fun h1=>by simp [wnF,h1],fun h1=>⟨fun h2=>by simp [wnF,h2],fun h2=>?_⟩⟩
 rw [bin_rem (by omega),RK_ok]
 simp [wnF,h1,h2]
theorem rd3 {es:List Edg3} {i:Nat} {e:Edg3} (he:es[i]? = some e):loadC (some 3) (i*3) (flat enc3 es) = .ok (.agg ⟨[.int .i64 e.1,.int .i64 e.2.1,.int .i64 e.2.2]⟩):=by
 have hg:=flat_get (enc:=enc3) (k:=3) (fun _=>rfl) he
 have hi:=(List.getElem?_eq_some_iff.1 he).1
 rw [loadC_many,if_pos (by rw [flat_len (k:=3) (fun _=>rfl)]; omega),hg]
 rfl
def GraphK (nx:Nat) (h:Hp):KC':=fun r h' nx'=>∃ (N:Nat) (v2:Value) (gs:List GE),r = .agg ⟨[.int .i64 (N:Int),v2]⟩∧N<24∧gs.length≤60∧(∀ g∈gs,GOk N g)∧SlNw h' nx nx' v2 encG gs∧nx≤nx'∧Keep nx h h'
def GraphJ (n:Int) (v:Value) (es:List Edg3) (N nx:Nat) (h:Hp) (m:Nat) (vs:List Value) (h':Hp) (nx':Nat):Prop :=
 ∃ (i:Nat) (v2:Value) (gs:List GE),m=60-i∧i≤60∧vs=[.pointer (some ⟨nx,0,none⟩),.pointer (some ⟨nx+1,0,none⟩),.pointer (some ⟨nx+1+1,0,none⟩),.int .i64 (i:Int)] ∧
  hget h' nx=some (.cells [.int .i64 n,v] false)∧hget h' (nx+1)=some (.cells [.int .i64 0,.slice none 0 0] false)∧hget h' (nx+1+1)=some (.cells [.int .i64 (N:Int),v2] false) ∧
  SlAt h' v2 encG 3 gs (nx+1+1+1) nx'∧gs.length=i∧(∀ g∈gs,GOk N g)∧nx+1+1+1≤nx'∧Keep nx h h'
theorem EK_appS {α:Type} {enc:α→List Value} {k:Nat} (hk:∀ x,(enc x).length=k) (hcell:∀ x,cellL (enc x)=true) (hk0:0<k) {h:Hp} {nx lo:Nat} {v:Value} {l:List α} (hv:SlAt h v enc k l lo nx) (hlo:lo≤nx)
  {b2 o2 cap2:Nat} {sp2:Option Nat} {cs:List Value} {ro:Bool} (x:α) (h2:hget h b2=some (.cells cs ro)) (hx:(cs.drop o2).take k=enc x) (hsz:(l.length+1)*k≤1000000) {K:Value→Hp→Nat→Prop}
  (hK:∀ v' h',SlAt h' v' enc k (l++[x]) lo (nx+1)→(∀ b,b<lo→hget h' b=hget h b)→K v' h' (nx+1)):EK (orR (appendA k h nx v (.slice (some ⟨b2,o2,sp2⟩) 1 cap2))) K:=by
 obtain ⟨v',h',e,a,b⟩:=app_cv hk hcell hk0 hv hlo h2 hx hsz
 rw [e]; exact hK _ _ a b
theorem graph_c {s:Bool} {n:Int} {v:Value} {es:List Edg3} {h:Hp} {nx:Nat} (hv:SlRd h nx v enc3 es):Cv Q O s 24 [.agg ⟨[.int .i64 n,v]⟩] h nx (GraphK nx h):=by
 refine graphv ?_
 obtain ⟨a,cap,rfl,hc⟩:=id hv
 unfold graph
 simp (disch:=omega) only [SS,seval]
 refine within_c.mono ?_
 rintro r h1 nx1 ⟨rfl,rfl,rfl⟩
 obtain ⟨N,hN,hlt⟩:=wnF_nat (k:=n) (n:=24)
 have hlt:=hlt (by omega)
 rw [hN]
 simp (disch:=omega) only [SS,seval]
 refine Lp.mk (GraphJ n (.slice a es.length cap) es N nx h) 60 ⟨0,.slice none 0 0,[],rfl,by omega,rfl,by rw [hold (by omega),hold (by omega),hold (by omega),hnew],by rw [hold (by omega),hold (by omega),hnew],hnew _ _ _,.inl ⟨rfl,rfl⟩,rfl,by simp,by omega,fun b hb=>by rw [hold (by omega),hold (by omega),hold (by omega),hold (by omega)]⟩ ?_
 rintro m _ h' nx' ⟨i,v2,gs,rfl,hi,rfl,g0,g1,g2,hsl,hgl,hok,hnx,hk⟩
 obtain ⟨a2,n2,c2,rfl⟩:=hsl.form
 rw [graphb0]
 unfold graphl0
 have stop:graphk0 s (fun vs h_1 nx_1=>∃ m',m'<60-i∧GraphJ n (.slice a es.length cap) es N nx h m' vs h_1 nx_1)
   (fun v19 h17 n18=>RK (vLd (some 2) h17 (nv v19 2)) fun x65=>RK (vSt h17 2 (nv v19 1) x65) fun h66=>RK (vLd (some 2) h66 (nv v19 1)) fun x67=>GraphK nx h x67 h66 n18) (fun _ _ _=>False)
   (.pointer (some ⟨nx,0,none⟩)) (.pointer (some ⟨nx+1,0,none⟩)) (.pointer (some ⟨nx+1+1,0,none⟩)) (.int .i64 (i:Int)) (.bool false) h' nx':=by
  unfold graphk0
  simp (disch:=omega) only [SS,g1,g2,seval]
  refine ⟨N,_,gs,rfl,by omega,by omega,hok,hsl.nw.keep (fun b h1 h2=>hold (by omega)) (by omega) (Nat.le_refl _),by omega,hk.set (by omega)⟩
 simp (disch:=omega) only [SS,g0,g2,seval]
 refine ⟨fun h1=>⟨fun h2=>?_,fun h2=>stop⟩,fun h1=>stop⟩
 by_cases h3:(0:Int)<(N:Int)
 case neg=>rw [decide_eq_false h3]; exact stop
 unfold graphk0
 obtain ⟨x,hx⟩:=get_ex h1
 obtain ⟨_,b,sp,ro,cap',hbn,hveq,hbh⟩:=hv.at hx
 cases hveq
 have hb':=(hk b hbn).trans hbh
 simp (disch:=omega) only [SS,g0,g2,hb',rd3 hx,decide_eq_true h3,seval]
 refine within_c.mono ?_
 rintro r h1 nx1 ⟨rfl,rfl,rfl⟩
 obtain ⟨f,hf,hfl⟩:=wnF_nat (k:=x.1) (n:=N)
 rw [hf]
 simp (disch:=omega) only [SS,g0,g2,seval]
 refine within_c.mono ?_
 rintro r h1 nx1 ⟨rfl,rfl,rfl⟩
 obtain ⟨t,ht,htl⟩:=wnF_nat (k:=x.2.1) (n:=N)
 rw [ht]
 obtain ⟨w,hw,hw0,hw1⟩:=and_low x.2.2
 simp (disch:=omega) only [SS,↓reduceIte,Nat.reduceAdd,Nat.reduceSub,Nat.reduceMul,Nat.reduceLT,Nat.reduceLeDiff,Nat.reduceEqDiff,Int.reduceBEq,Int.reduceLT,Int.reduceNeg,g0,g2,bin_and,hw]
 refine EK_appS (enc:=encG) (lo:=nx+1+1+1) (fun _=>rfl) (fun _=>rfl) (by omega) (hsl.keep (fun b h1 h2=>by rw [hold (by omega),hold (by omega),hold (by omega)]) (by omega)) (by omega) ⟨f,t,w⟩ (hnew _ _ _) rfl (by omega) ?_
 intro v3 h3 hs3 hk3
 obtain ⟨a3,n3,c3,rfl⟩:=hs3.form
 simp (disch:=omega) only [SS,hk3 (nx+1+1) (by omega),hk3 (nx+1) (by omega),hk3 nx (by omega),g2,wrap_s (show i<1000000000000 by omega),seval]
 refine ⟨by omega,60-(i+1),by omega,i+1,_,gs++[⟨f,t,w⟩],rfl,by omega,rfl,?_,?_,hnew _ _ _,hs3.keep (fun b h1 h2=>hold (by omega)) (Nat.le_refl _),by simp [hgl],?_,by omega,?_⟩
 ·rw [hold (by omega),hk3 nx (by omega),hold (by omega),hold (by omega),hold (by omega)]; exact g0
 ·rw [hold (by omega),hk3 (nx+1) (by omega),hold (by omega),hold (by omega),hold (by omega)]; exact g1
 ·intro g hg
  rcases List.mem_append.1 hg with hg | hg
  ·exact hok g hg
  ·rw [List.mem_singleton.1 hg]; exact ⟨(by omega:f<N),(by omega:t<N),hw0,hw1⟩
 ·intro b hb
  rw [hold (by omega),hk3 b (by omega),hold (by omega),hold (by omega),hold (by omega)]; exact hk b hb
def MakeG (nx:Nat) (h:Hp):KC':=fun r h' nx'=>∃ (N sr:Nat) (ra rb:Int) (v2:Value) (gs:List GE),r = .tuple ⟨[.agg ⟨[.int .i64 (N:Int),v2]⟩,.int .i64 (sr:Int),.int .i64 ra,.int .i64 rb]⟩∧0<N∧N<24∧sr<N∧gs.length≤60∧(∀ g∈gs,GOk N g)∧SlNw h' nx nx' v2 encG gs∧nx≤nx'∧Keep nx h h'
theorem make_c {s:Bool} {n V R C:Int} {v:Value} {es:List Edg3} {h:Hp} {nx:Nat} (hv:SlRd h nx v enc3 es):Cv Q O s 7 [.agg ⟨[.int .i64 n,v,.int .i64 V,.int .u8 R,.int .u8 C]⟩] h nx (MakeG nx h):=by
 refine makev ?_
 obtain ⟨a,cap,rfl,hc⟩:=id hv
 unfold make
 simp (disch:=omega) only [SS,seval]
 refine (graph_c (hv.keep (fun b hb=>by rw [hold (by omega),hold (by omega)]) (show nx≤nx+1+1 by omega))).mono ?_
 rintro r h1 nx1 ⟨N,v2,gs,rfl,hN,hgl,hok,hgs,hle,hk⟩
 obtain ⟨a2,c2,rfl,hc2⟩:=id hgs
 have g0:=hk nx (by omega)
 have g1:=hk (nx+1) (by omega)
 rw [hold (by omega),hnew] at g0
 rw [hnew] at g1
 have fin:∀ (M:Nat) (h':Hp) (a2:Option Addr) (gs:List GE) (c2:Nat),SlNw h1 (nx+1+1) nx1 (.slice a2 gs.length c2) encG gs→gs.length≤60→0<M→M<24→hget h' nx1=some (.cells [.int .i64 (M:Int),.slice a2 gs.length c2] false)→hget h' nx=some (.cells [.int .i64 n,.slice a es.length cap,.int .i64 V,.int .u8 R,.int .u8 C] false)→hget h' (nx+1)=some (.cells [.int .i64 0,.slice none 0 0] false)→(∀ g∈gs,GOk M g) →
   (∀ b,nx+1+1≤b→b<nx1→hget h' b=hget h1 b)→(∀ b,b<nx→hget h' b=hget h1 b)→makek0 s (MakeG nx h) (.pointer (some ⟨nx,0,none⟩)) (.pointer (some ⟨nx+1,0,none⟩)) (.pointer (some ⟨nx1,0,none⟩)) h' (nx1+1):=by
  intro M h' a2 gs c2 hgs hgl hM0 hM e1 e2 e3 hok' hkk hkl
  unfold makek0
  simp (disch:=omega) only [SS,e1,e2,e3,seval]
  refine within_c.mono ?_
  rintro r h2 nx2 ⟨rfl,rfl,rfl⟩
  obtain ⟨f,hf,hfl⟩:=wnF_nat (k:=V) (n:=M)
  rw [hf]
  simp (disch:=omega) only [SS,e1,e2,e3,bin_rem,seval]
  refine ⟨M,f,_,_,_,gs,rfl,hM0,hM,by omega,hgl,hok',hgs.keep (fun b h1 h2=>by rw [hold (by omega),hkk b h1 h2]) (by omega) (by omega),by omega,fun b hb=>?_⟩
  rw [hold (by omega),hkl b hb,hk b (by omega),hold (by omega),hold (by omega)]
 simp (disch:=omega) only [SS,seval]
 refine ⟨fun h0=>?_,fun h0=>?_⟩
 ·have hN0:N=0:=by simpa using h0
  subst hN0
  refine fin 1 _ none [] 0 ⟨none,0,rfl,fun h=>absurd rfl h⟩ (by simp) (by omega) (by omega) (by rw [hnew]; rfl) ?_ ?_ (fun g hg=>by cases hg) ?_ ?_
  ·rw [hold (by omega),hold (by omega),hold (by omega)]; exact g0
  ·rw [hold (by omega),hold (by omega),hold (by omega)]; exact g1
  ·intro b h1 h2; rw [hold (by omega),hold (by omega),hold (by omega)]
  ·intro b h1; rw [hold (by omega),hold (by omega),hold (by omega)]
 ·have hN0:N≠0:=by simpa using h0
  refine fin N _ a2 gs c2 hgs hgl (by omega) hN (by rw [hnew]) ?_ ?_ hok ?_ ?_
  ·rw [hold (by omega),hold (by omega)]; exact g0
  ·rw [hold (by omega),hold (by omega)]; exact g1
  ·intro b h1 h2; rw [hold (by omega),hold (by omega)]
  ·intro b h1; rw [hold (by omega),hold (by omega)]
def SlPx {α:Type} (h:Hp) (nx:Nat) (v:Value) (enc:α→List Value) (l:List α):Prop :=
 ∃ a cap,v = .slice a l.length cap∧(l≠[]→∃ b sp ro cs,b<nx∧a=some ⟨b,0,sp⟩∧hget h b=some (.cells (flat enc l++cs) ro))
section
variable {α:Type} {h h':Hp} {nx nx':Nat} {v:Value} {enc:α→List Value} {l:List α}
theorem SlPx.keep (hs:SlPx h nx v enc l) (hk:Keep nx h h') (hle:nx≤nx'):SlPx h' nx' v enc l:=by
 obtain ⟨a,cap,hv,hc⟩:=hs
 refine ⟨a,cap,hv,fun hl=>?_⟩
 obtain ⟨b,sp,ro,cs,hb,ha,hg⟩:=hc hl
 exact ⟨b,sp,ro,cs,by omega,ha,by rw [hk b hb]; exact hg⟩
theorem SlPx.of (hs:SlRd h nx v enc l):SlPx h nx v enc l:=by
 obtain ⟨a,cap,hv,hc⟩:=hs
 refine ⟨a,cap,hv,fun hl=>?_⟩
 obtain ⟨b,sp,ro,hb,ha,hg⟩:=hc hl
 exact ⟨b,sp,ro,[],hb,ha,by rw [List.append_nil]; exact hg⟩
theorem SlPx.at (hs:SlPx h nx v enc l) {i:Nat} {x:α} (hx:l[i]? = some x) :
  i<l.length∧∃ b sp ro cap cs,b<nx∧v = .slice (some ⟨b,0,sp⟩) l.length cap∧hget h b=some (.cells (flat enc l++cs) ro):=by
 have hi:=(List.getElem?_eq_some_iff.1 hx).1
 obtain ⟨a,cap,hv,hc⟩:=hs
 obtain ⟨b,sp,ro,cs,hb,rfl,hg⟩:=hc (fun e=>by rw [e] at hi; exact absurd hi (Nat.not_lt_zero _))
 exact ⟨hi,b,sp,ro,cap,cs,hb,hv,hg⟩
theorem rdP {k:Nat} (hk:∀ x,(enc x).length=k) {i:Nat} {e:α} (he:l[i]? = some e) {cs:List Value}:loadC (some k) (i*k) (flat enc l++cs) = .ok (.agg ⟨enc e⟩):=by
 have hg:=flat_get (enc:=enc) hk he
 have hi:=(List.getElem?_eq_some_iff.1 he).1
 have hl:=flat_len (enc:=enc) hk (l:=l)
 have hm:(i+1)*k≤l.length*k:=Nat.mul_le_mul_right k hi
 rw [Nat.add_mul,Nat.one_mul] at hm
 rw [loadC_many,if_pos (by rw [List.length_append,hl]; omega),List.drop_append_of_le_length (by rw [hl]; omega),List.take_append_of_le_length (by rw [List.length_drop,hl]; omega),hg]
end
def BadE (n:Int) (e:Edg3):Prop:=e.1<0∨n≤e.1∨e.2.1<0∨n≤e.2.1
def BadW (e:Edg3):Prop:=e.2.2<0∨2147483647<e.2.2
instance (n:Int) (e:Edg3):Decidable (BadE n e):=inferInstanceAs (Decidable (_∨_))
instance (e:Edg3):Decidable (BadW e):=inferInstanceAs (Decidable (_∨_))
def RightV (n:Int) (es:List Edg3):Prop:=0≤n∧n≤4096∧es.length≤65536∧(∀ e∈es,¬ BadE n e)∧∀ e∈es,¬ BadW e
def RightK (n:Int) (es:List Edg3) (nx:Nat) (h:Hp):KC':=fun r h' nx'=>∃ e:Int,r = .int .i64 e∧(e=0↔RightV n es)∧Keep nx h h'∧nx≤nx'
def IdxJ {α:Type} (p:α→Bool) (es:List α) (J:Hp→Nat→Prop) (v fv:Value) (m:Nat) (vs:List Value) (h':Hp) (nx':Nat):Prop:=∃ i,m=es.length-i∧i≤es.length∧vs=[v,fv,.int .i64 0,.int .i64 (es.length:Int),.int .i64 (i:Int)]∧J h' nx'∧∀ x∈es.take i,p x=false
theorem index_c {α:Type} {enc:α→List Value} (hk3:∀ x,(enc x).length=3) {s:Bool} {v fv:Value} {es:List α} {h:Hp} {nx:Nat} (p:α→Bool) (J:Hp→Nat→Prop) (hJ:∀ h' nx',J h' nx'→SlPx h' nx' v enc es) (h0:J h nx) (hl:es.length≤65536)
  (hf:∀ g∈es,∀ h' nx' (K:KC'),J h' nx'→(∀ (b:Bool) h2 nx2,b=p g→J h2 nx2→K (.bool b) h2 nx2)→CVK Q O s (callV h' nx' [.agg ⟨enc g⟩] fv) K) :
  Cv Q O s 68 [v,fv] h nx (fun r h' nx'=>J h' nx'∧((r = .int .i64 (-1)∧∀ x∈es,p x=false)∨∃ (i:Nat) (x:α),r = .int .i64 (i:Int)∧es[i]? = some x∧p x=true∧∀ y∈es.take i,p y=false)):=by
 refine indexv ?_
 unfold index
 obtain ⟨a,cap,rfl,hc⟩:=id (hJ _ _ h0)
 simp (disch:=omega) only [SS,seval]
 refine Lp.mk (IdxJ p es J (.slice a es.length cap) fv) es.length ⟨0,by omega,by omega,rfl,h0,by simp⟩ ?_
 rintro m _ h' nx' ⟨i,rfl,hi,rfl,hj,hno⟩
 rw [indexb0]
 unfold indexl0
 simp (disch:=omega) only [SS,seval]
 refine ⟨fun h1=>?_,fun h1=>?_⟩
 ·obtain ⟨x,hx⟩:=get_ex h1
  obtain ⟨_,b,sp,ro,cap',cs,hbn,hveq,hbh⟩:=(hJ _ _ hj).at hx
  cases hveq
  simp (disch:=omega) only [SS,hbh,rdP (enc:=enc) (k:=3) hk3 hx,seval]
  refine hf x (List.mem_of_getElem? hx) h' nx' _ hj (fun b' h2 nx2 hb hj2=>?_)
  subst hb
  simp (disch:=omega) only [SS,wrap_s (show i<1000000000000 by omega),seval]
  refine ⟨fun hp=>⟨hj2,.inr ⟨i,x,rfl,hx,hp,hno⟩⟩,fun hp=>⟨es.length-(i+1),by omega,i+1,rfl,h1,rfl,hj2,fun y hy=>?_⟩⟩
  rw [List.take_add_one,hx] at hy
  rcases List.mem_append.1 hy with hy | hy
  ·exact hno y hy
  ·have:y=x:=by simpa using hy
   rw [this]; exact hp
 ·have:i=es.length:=by omega
  subst this
  rw [List.take_length] at hno
  exact ⟨hj,.inl hno⟩
theorem conts_c {s:Bool} {v fv:Value} {es:List Edg3} {h:Hp} {nx:Nat} (p:Edg3→Bool) (hv:SlPx h nx v enc3 es) (hl:es.length≤65536)
  (hf:∀ g∈es,∀ h' nx' (K:KC'),Keep nx h h'→nx≤nx'→(∀ (b:Bool) h2 nx2,b=p g→Keep nx' h' h2→nx'≤nx2→K (.bool b) h2 nx2)→CVK Q O s (callV h' nx' [.agg ⟨enc3 g⟩] fv) K) :
  Cv Q O s 48 [v,fv] h nx (fun r h' nx'=>r = .bool (es.any p)∧Keep nx h h'∧nx≤nx'):=by
 refine contsv ?_
 unfold conts
 refine (index_c (enc:=enc3) (fun _=>rfl) p (fun h' nx'=>Keep nx h h'∧nx≤nx') (fun h' nx' hh=>hv.keep hh.1 hh.2) ⟨Keep.refl _ _,Nat.le_refl _⟩ hl (fun g hg h' nx' K hj hK=>hf g hg h' nx' K hj.1 hj.2 (fun b h2 nx2 hb hk2 hle2=>hK b h2 nx2 hb ⟨hj.1.trans hk2 hj.2,Nat.le_trans hj.2 hle2⟩))).mono ?_
 rintro r h' nx' ⟨⟨hk,hle⟩,⟨rfl,hno⟩ | ⟨i,x,rfl,hx,hp,_⟩⟩
 ·simp (disch:=omega) only [SS,seval]
  exact ⟨by rw [List.any_eq_false.2 (fun x hx=>by simp [hno x hx])]; rfl,hk,hle⟩
 ·simp (disch:=omega) only [SS,seval]
  exact ⟨by rw [List.any_eq_true.2 ⟨x,List.mem_of_getElem? hx,hp⟩]; simp,hk,hle⟩
def badE (n:Int) (e:Edg3):Bool:=(decide (e.1<0)||!decide (e.1<n))||(decide (e.2.1<0)||!decide (e.2.1<n))
theorem badE_iff {n:Int} {e:Edg3}:badE n e=true↔BadE n e:=by
 unfold badE BadE
 simp only [Bool.or_eq_true,decide_eq_true_eq,Bool.not_eq_true',decide_eq_false_iff_not]
 omega
def badW (e:Edg3):Bool:=decide (e.2.2<0)||decide (2147483647<e.2.2)
theorem badW_iff {e:Edg3}:badW e=true↔BadW e:=by
 unfold badW BadW
 simp only [Bool.or_eq_true,decide_eq_true_eq]
theorem right_g {s:Bool} {n:Int} {v:Value} {es:List Edg3} {h:Hp} {nx:Nat} (hv:SlPx h nx v enc3 es) :
  Cv Q O s 32 [.agg ⟨[.int .i64 n,v]⟩] h nx (RightK n es nx h):=by
 refine rightv ?_
 obtain ⟨a,cap,rfl,hc⟩:=id hv
 unfold right
 simp (disch:=omega) only [SS,seval]
 have K1:Keep nx h (hset (hset (hset h nx (.cells [.int .i64 n,.slice a es.length cap] false)) (nx+1) (.cells [.nilFunc] false)) (nx+1) (.cells [.func (.func 47) ⟨[]⟩ ⟨[.pointer (some ⟨nx,0,none⟩)]⟩] false)):=fun b hb=>by rw [hold (by omega),hold (by omega),hold (by omega)]
 have no:∀ {e:Int},e≠0→¬ RightV n es→∀ {h' nx'},Keep nx h h'→nx≤nx'→RightK n es nx h (.int .i64 e) h' nx':=fun he hr _ _ hk hle=>⟨_,rfl,⟨fun e=>absurd e he,fun e=>absurd e hr⟩,hk,hle⟩
 refine ⟨fun h1=>no (by omega) (fun hr=>by have:=hr.1; omega) K1 (by omega),fun h1=>⟨fun h2=>no (by omega) (fun hr=>by have:=hr.2.1; omega) K1 (by omega),fun h2=>⟨fun h3=>no (by omega) (fun hr=>by have:=hr.2.2.1; omega) K1 (by omega),fun h3=>?_⟩⟩⟩
 refine (conts_c (badE n) (hv.keep K1 (by omega)) (by omega) (fun g hg h' nx' K hk hle hK=>?_)).mono ?_
 ·have g0:=hk nx (by omega)
  have g1:=hk (nx+1) (by omega)
  rw [hold (by omega),hold (by omega),hnew] at g0
  rw [hnew] at g1
  have kk:∀ {o},Keep nx' h' (hset h' nx' o):=(Keep.refl _ _).set (Nat.le_refl _)
  simp (disch:=omega) only [SS,seval]
  refine right2v ?_
  unfold right2 enc3
  simp (disch:=omega) only [SS,g1,seval]
  refine right1v ?_
  unfold right1
  simp (disch:=omega) only [SS,g0,seval]
  refine ⟨fun h1=>hK _ _ _ (by unfold badE; simp [h1]) kk (Nat.le_succ _),fun h1=>⟨fun h2=>hK _ _ _ (by unfold badE; simp [h1]; omega) kk (Nat.le_succ _),fun h2=>?_⟩⟩
  simp (disch:=omega) only [SS,g1,seval]
  refine right1v ?_
  unfold right1
  simp (disch:=omega) only [SS,g0,seval]
  refine ⟨fun h3=>hK _ _ _ (by unfold badE; simp [h3]) kk (Nat.le_succ _),fun h3=>?_⟩
  refine hK _ _ _ ?_ kk (Nat.le_succ _)
  unfold badE
  rw [decide_eq_false h1,decide_eq_true h2,decide_eq_false h3]
  rfl
 ·rintro r h4 nx4 ⟨rfl,hk4,hle4⟩
  have g0:=hk4 nx (by omega)
  rw [hold (by omega),hold (by omega),hnew] at g0
  have K4:=K1.trans hk4 (by omega)
  simp (disch:=omega) only [SS,g0,seval]
  refine ⟨fun h5=>no (by omega) (fun hr=>?_) K4 (by omega),fun h5=>?_⟩
  ·obtain ⟨x,hx,hb⟩:=List.any_eq_true.1 h5
   exact hr.2.2.2.1 x hx (badE_iff.1 hb)
  have ha:∀ e∈es,¬ BadE n e:=fun e he hb=>by
   rw [List.any_eq_false] at h5
   exact h5 e he (badE_iff.2 hb)
  refine (conts_c badW ((hv.keep K1 (by omega)).keep hk4 hle4) (by omega) (fun g hg h' nx' K hk hle hK=>?_)).mono ?_
  ·have kk:∀ {o},Keep nx' h' (hset h' nx' o):=(Keep.refl _ _).set (Nat.le_refl _)
   simp (disch:=omega) only [SS,seval]
   refine right3v ?_
   unfold right3 enc3
   simp (disch:=omega) only [SS,seval]
   refine ⟨fun h1=>hK _ _ _ (by unfold badW; simp [h1]) kk (Nat.le_succ _),fun h1=>hK _ _ _ (by unfold badW; simp [h1]) kk (Nat.le_succ _)⟩
  ·rintro r h6 nx6 ⟨rfl,hk6,hle6⟩
   have K6:=K4.trans hk6 (by omega)
   simp (disch:=omega) only [SS,seval]
   refine ⟨fun h7=>no (by omega) (fun hr=>?_) K6 (by omega),fun h7=>?_⟩
   ·obtain ⟨x,hx,hb⟩:=List.any_eq_true.1 h7
    exact hr.2.2.2.2 x hx (badW_iff.1 hb)
   ·refine ⟨0,rfl,⟨fun _=>⟨by omega,by omega,by omega,ha,fun e he hb=>?_⟩,fun _=>rfl⟩,K6,by omega⟩
    rw [List.any_eq_false] at h7
    exact h7 e he (badW_iff.2 hb)
def toG (e:Edg3):GE:=⟨e.1.toNat,e.2.1.toNat,e.2.2⟩
theorem SlPx.map {h:Hp} {nx:Nat} {v:Value} {es:List Edg3} (hs:SlPx h nx v enc3 es) (e:flat enc3 es=flat encG (es.map toG)):SlPx h nx v encG (es.map toG):=by
 obtain ⟨a,cap,hv,hc⟩:=hs
 refine ⟨a,cap,by rw [List.length_map]; exact hv,fun hl=>?_⟩
 obtain ⟨b,sp,ro,cs,hb,ha,hg⟩:=hc (fun h0=>hl (by rw [h0]; rfl))
 exact ⟨b,sp,ro,cs,hb,ha,by rw [← e]; exact hg⟩
theorem combine_o {gs:List GE} {N:Nat} {s:Bool} {h:Hp} {nx:Nat} {v:Value} (hv:SlPx h nx v encG gs) (hN:N≤2147483648) (hok:∀ g∈gs,GOk N g) (hl:gs.length≤60) :
  Cv Q O s 43 [.int .i64 1,v] h nx (fun r h' nx'=>∃ v2 cs,r = .tuple ⟨[v2,.int .i64 0]⟩∧SlAt h' v2 encG 3 cs nx nx'∧CanOf N gs cs∧Keep nx h h'∧nx≤nx'):=by
 obtain ⟨a,cap,rfl,hc⟩:=id hv
 have hcan:=canOf N gs hN hok
 by_cases h0:gs=[]
 ·subst h0
  have e:gCombF [.int .i64 1,.slice a 0 cap] h nx = .ok (.tuple ⟨[.slice none 0 0,.int .i64 0]⟩) h nx:=by
   cases a <;> rfl
  exact Cv.byOrc (g:=gCombF) rfl e ⟨_,[],rfl,.inl ⟨rfl,rfl⟩,hcan,Keep.refl _ _,Nat.le_refl _⟩
 ·obtain ⟨b,sp,ro,cx,hb,rfl,hg⟩:=hc h0
  have hlen:gs.length≠0:=fun e=>h0 (List.eq_nil_of_length_eq_zero e)
  have hsm:∀ x∈gs.map gE,Small x:=fun x hx=>by
   obtain ⟨g,hg,rfl⟩:=List.mem_map.1 hx
   exact small_gE hN (hok g hg)
  rw [flat_gE] at hg
  have hfl:(flat encE (gs.map gE)).length=gs.length*3:=by rw [flat_len (k:=3) (fun _=>rfl),List.length_map]
  generalize hL:sortB ltE (combG [] (gs.map gE))=L at hcan
  have hgl:gCombF [.int .i64 1,.slice (some ⟨b,0,sp⟩) gs.length cap] h nx=combResF h nx L:=by
   obtain ⟨m,hm⟩:∃ m,gs.length=m+1:=⟨gs.length-1,by omega⟩
   have e2:lcut (gs.length*3) (ldrop (flat encE (gs.map gE)++cx) 0)=some (flat encE (gs.map gE)):=by
    rw [ldrop_eq,List.drop_zero,lcut_eq,if_pos (by rw [List.length_append,hfl]; exact Nat.le_add_right _ _),← hfl,List.take_left]
   rw [hm] at e2 ⊢
   show (match hget h b with
    | some (.cells cs _)=>(match lcut ((m+1)*3) (ldrop cs 0) with
     | some l=>(match edgesB l with
      | some es=>bif Nat.ble es.length 60 then combResF h nx (sortB ltE (combG [] es)) else .no "Combine"
      | none=>.no "Combine")
     | none=>.no "Combine")
    | _=>.no "Combine")=_
   rw [hg]
   simp only [e2,edgesB_flat hsm,List.length_map,hL]
   rw [show Nat.ble gs.length 60=true by simpa using hl]
   rfl
  have hLn:L≠[]:=fun e=>by
   have:=(sortB_perm (lt:=ltE) (combG [] (gs.map gE))).length_eq
   rw [hL,e] at this
   have e1:=(combG_ends (gs.map gE) []).2
   obtain ⟨g,l,rfl⟩:∃ g l,gs=g::l:=by cases gs with | nil=>exact absurd rfl h0 | cons g l=>exact ⟨g,l,rfl⟩
   obtain ⟨x,hx,_⟩:=e1 (gE g) (by simp)
   have:combG [] ((g::l).map gE)=[]:=List.eq_nil_of_length_eq_zero this.symm
   rw [this] at hx; cases hx
  have hso:sortedB ltE L=true:=by rw [← hL]; exact sortB_sorted _
  have e3:combResF h nx L = .ok (.tuple ⟨[.slice (some ⟨nx,0,some 3⟩) L.length L.length,.int .i64 0]⟩) (hset h nx (.cells (flat encE L) false)) (nx+1):=by
   cases L with
   | nil=>exact absurd rfl hLn
   | cons x l=>show (bif sortedB ltE (x::l) then _ else _)=_; rw [hso]; rfl
  refine Cv.byOrc (g:=gCombF) rfl (hgl.trans e3) ⟨_,L.map eG,rfl,.inr ⟨nx,Nat.le_refl _,Nat.lt_succ_self _,by rw [List.length_map],?_⟩,hcan,fun c hc=>hold (by omega),Nat.le_succ _⟩
  rw [hnew,flat_gE,hcan.eq,hL]
def CanK (N:Nat) (gs:List GE) (nx:Nat) (h:Hp):KC':=fun r h' nx'=>∃ v2 cs,r = .agg ⟨[.int .i64 (N:Int),v2]⟩∧SlAt h' v2 encG 3 cs nx nx'∧IsCan (gs.map gE) (cs.map gE)∧(∀ g∈cs,GOk N g)∧cs.length≤gs.length∧Keep nx h h'∧nx≤nx'
theorem canon_c {gs:List GE} {N:Nat} {s:Bool} {h:Hp} {nx:Nat} {v:Value} (hv:SlPx h nx v encG gs) (hN:N≤2147483648) (hok:∀ g∈gs,GOk N g) (hl:gs.length≤60) :
  Cv Q O s 26 [.agg ⟨[.int .i64 (N:Int),v]⟩] h nx (CanK N gs nx h):=by
 refine canonv ?_
 obtain ⟨a,cap,rfl,hc⟩:=id hv
 unfold canon
 simp (disch:=omega) only [SS,seval]
 have k0:∀ {o1 o2:AObj},Keep nx h (hset (hset h nx o1) (nx+1) o2):=fun {o1 o2} b hb=>by rw [hold (by omega),hold (by omega)]
 refine (combine_o (hv.keep k0 (by omega)) hN hok hl).mono ?_
 rintro r h1 nx1 ⟨v2,cs,rfl,hcs,hcan,hk,hle⟩
 have g1:=(hk nx (by omega)).trans (hold (by omega))
 have g2:=hk (nx+1) (by omega)
 rw [hnew] at g1 g2
 obtain ⟨a2,n2,cap2,rfl⟩:=hcs.form
 simp (disch:=omega) only [SS,g1,g2,seval]
 have hi:IsCan (gs.map gE) (cs.map gE):=by rw [hcan.eq]; exact isCan_sort _
 refine ⟨_,cs,rfl,?_,hi,hcan.ok,hcan.len,(k0.trans hk (by omega)).set (by omega),by omega⟩
 rcases hcs with hcs | ⟨b,h1,h2,e,hb⟩
 ·exact .inl hcs
 ·exact .inr ⟨b,by omega,h2,e,by rw [hold (by omega)]; exact hb⟩
theorem Ltp.tr {x y z:Edg} (h:Ltp x y) (h':Ltp y z):Ltp x z:=by unfold Ltp at *; omega
theorem EK_appG {α:Type} {enc:α→List Value} {k:Nat} (hk:∀ x,(enc x).length=k) (hcell:∀ x,cellL (enc x)=true) (hk0:0<k) {h:Hp} {nx:Nat} {v:Value} {l:List α} {o:Option Nat} (g:Gr h enc k v l o)
  {b2 o2 cap2:Nat} {sp2:Option Nat} {cs:List Value} {ro:Bool} (x:α) (h2:hget h b2=some (.cells cs ro)) (hx:(cs.drop o2).take k=enc x) (hsz:(l.length+1)*k≤1000000) {K:Value→Hp→Nat→Prop}
  (hK:∀ h',hget h' nx=some (.cells (flat enc (l++[x])) false)→(∀ c,c≠nx→o≠some c→hget h' c=hget h c)→K (.slice (some ⟨nx,0,some k⟩) (l.length+1) (l.length+1)) h' (nx+1)):EK (orR (appendA k h nx v (.slice (some ⟨b2,o2,sp2⟩) 1 cap2))) K:=by
 obtain ⟨h',e,a,b⟩:=g.app hk hcell hk0 h2 hx hsz
 rw [e]; exact hK _ a b
theorem Lp.cut {B:LB} {vs:List Value} {h:Hp} {nx i:Nat} {R C:KVl} (Pre:KVl) (h1:∀ vs h nx,Pre vs h nx→C vs h nx) (h2:∀ C',(∀ vs h nx,Pre vs h nx→C' vs h nx)→Lp B vs h nx [(i,C')] R):Lp B vs h nx [(i,C)] R:=h2 C h1
def EqJ (l l':List Int) (a a':Option Addr) (cap cap':Nat) (h:Hp) (nx:Nat) (m:Nat) (vs:List Value) (h':Hp) (nx':Nat):Prop :=
 ∃ i,m=l.length-i∧i≤l.length∧vs=[.slice a l.length cap,.slice a' l'.length cap',.bool false,.int .i64 (l.length:Int),.int .i64 (i:Int)]∧h'=h∧nx'=nx∧l.take i=l'.take i
theorem eq64_cv {s:Bool} {h:Hp} {nx:Nat} {v v':Value} {l l':List Int} (hv:SlRd h nx v encI l) (hv':SlRd h nx v' encI l') (hl:l.length<1000000) :
  Cv Q O s 30 [v,v'] h nx (fun r h' nx'=>r = .bool (decide (l=l'))∧h'=h∧nx'=nx):=by
 refine eq64v ?_
 obtain ⟨a,cap,rfl,hc⟩:=id hv
 obtain ⟨a',cap',rfl,hc'⟩:=id hv'
 unfold eq64
 simp (disch:=omega) only [SS,seval]
 refine ⟨fun hne=>?_,fun he=>?_⟩
 ·have:¬ l=l':=fun e=>by subst e; simp at hne
  simp [this]
 have he:l.length=l'.length:=by
  have h2:(l.length:Int)=(l'.length:Int):=by simpa using he
  omega
 refine Lp.mk (EqJ l l' a a' cap cap' h nx) l.length ⟨0,rfl,by omega,rfl,rfl,rfl,rfl⟩ ?_
 rintro m _ _ _ ⟨i,rfl,hi,rfl,rfl,rfl,ht⟩
 rw [eq64b0]
 unfold eq64l0
 simp (disch:=omega) only [SS,seval]
 refine ⟨fun hlt=>?_,fun hge=>?_⟩
 ·obtain ⟨x,hx⟩:=get_ex hlt
  obtain ⟨y,hy⟩:=get_ex (l:=l') (i:=i) (by omega)
  obtain ⟨_,b,sp,ro,c1,hb,e1,hg⟩:=hv.at hx
  obtain ⟨_,b',sp',ro',c1',hb',e1',hg'⟩:=hv'.at hy
  cases e1; cases e1'
  rw [flat_ints] at hg hg'
  simp (disch:=omega) only [SS,hg,hg',ints_get hx,ints_get hy,seval]
  refine ⟨fun hne=>?_,fun he2=>?_⟩
  ·have:¬ l=l':=fun e=>by subst e; rw [hx] at hy; cases hy; simp at hne
   simp [this]
  ·have hxy:x=y:=by simpa using he2
   subst hxy
   refine ⟨l.length-(i+1),by omega,i+1,rfl,by omega,by rw [wrap_s (by omega)],rfl,rfl,?_⟩
   rw [List.take_add_one,List.take_add_one,hx,hy,ht]
 ·have:i=l.length:=by omega
  subst this
  rw [List.take_length,he,List.take_length] at ht
  simp [ht]
theorem appA_0 {h:Hp} {nx b b2 n c2:Nat} {sp2:Option Nat} {ro rd:Bool} {l:List Int} {cs:List Value} (hn:l.length=n) (hd:hget h b=some (.cells cs rd)) (hb:hget h b2=some (.cells (ints l) ro)) (h0:0<n) (h1:n<1000000) :
  appendA 1 h nx (.slice (some ⟨b,0,none⟩) 0 0) (.slice (some ⟨b2,0,sp2⟩) n c2) = .ok (.val (.slice (some ⟨nx,0,some 1⟩) n n) (hset h nx (.cells (ints l) false)) (nx+1)):=by
 subst hn
 have hr:readA h (some ⟨b2,0,sp2⟩) (l.length.mul 1) (fun new=>appGo 1 h nx (some ⟨b,0,none⟩) 0 0 l.length new)=appGo 1 h nx (some ⟨b,0,none⟩) 0 0 l.length (ints l):=by
  rw [show l.length.mul 1=l.length from Nat.mul_one _,readA_eq hb h0 (by rw [ints_len]; omega)]
  rw [List.drop_zero,List.take_of_length_le (by rw [ints_len]; omega)]
 show readA h (some ⟨b2,0,sp2⟩) (l.length.mul 1) (fun new=>appGo 1 h nx (some ⟨b,0,none⟩) 0 0 l.length new)=_
 rw [hr]
 unfold appGo
 rw [show Nat.ble (Nat.add 0 l.length) 0=false by
  cases hb:Nat.ble (Nat.add 0 l.length) 0 with
  | false=>rfl
  | true=>have:=Nat.le_of_ble_eq_true hb; have:0+l.length≤0:=this; omega]
 rw [show (Nat.ble (Nat.mul (Nat.add 0 l.length) 1) 1000000&&Nat.ble (Nat.add 0 l.length) 1000000)=true by
  simp only [Bool.and_eq_true,Nat.ble_eq]
  exact ⟨by show (0+l.length)*1≤_; omega,by show 0+l.length≤_; omega⟩]
 show appUp h nx 1 (some ⟨b,0,none⟩) 0 0 (0+l.length) (ints l)=_
 unfold appUp
 simp only [cellsOf_some hd]
 rw [show lcut (Nat.mul 0 1) (ldrop cs 0)=some [] by rw [Nat.mul_eq,Nat.zero_mul]; rfl]
 show growN h nx 1 (lapp [] (ints l)) (0+l.length)=_
 rw [lapp_eq,List.nil_append,Nat.zero_add]
 exact growN_eq (by omega)
theorem bin_snil {P:Program} {t:TypeId} (ht:isSliceTy P t=true) (a:Option Addr) (n c:Nat):bin P .eql t (.slice a n c) (.slice none 0 0) = .ok (.bool a.isNone):=by
 show R.of "compared" (eqlV P t (.slice a n c) (.slice none 0 0)) _=_
 unfold eqlV
 cases a <;> simp [ht,eqlS,rBool]
theorem ty27:isSliceTy Tryz.prog 27=true:=by kernel_rfl
def RevJ (l:List Int) (b:Nat) (sp:Option Nat) (h:Hp) (nx:Nat) (t:Nat) (vs:List Value) (h':Hp) (nx':Nat):Prop :=
 ∃ (i j:Nat) (m:List Int),t=l.length-i∧i+j+1=l.length∧vs=[.slice (some ⟨b,0,sp⟩) l.length l.length,.int .i64 (i:Int),.int .i64 (j:Int)]∧i≤j+1∧m.length=l.length ∧
  hget h' b=some (.cells (ints m) false)∧(∀ c,c≠b→hget h' c=hget h c)∧nx'=nx∧∀ k,k<l.length→m[k]? = if k<i∨j<k then l[l.length-1-k]? else l[k]?
theorem rev_c {s:Bool} {h:Hp} {nx b:Nat} {sp:Option Nat} {l:List Int} (hb:hget h b=some (.cells (ints l) false)) (h0:0<l.length) (hl:l.length<1000000) :
  Cv Q O s 53 [.slice (some ⟨b,0,sp⟩) l.length l.length] h nx (fun r h' nx'=>hget h' b=some (.cells (ints l.reverse) false)∧(∀ c,c≠b→hget h' c=hget h c)∧nx'=nx):=by
 refine revv ?_
 unfold rev
 have e0:IntKind.wrap .i64 ((l.length:Int)-1)=((l.length-1:Nat):Int):=by rw [wrapS (by omega) (by omega)]; omega
 simp (disch:=omega) only [SS,e0,seval]
 refine Lp.mk (RevJ l b sp h nx) l.length ⟨0,l.length-1,l,rfl,by omega,rfl,by omega,rfl,hb,fun c _=>rfl,rfl,fun k hk=>by rw [if_neg (by omega)]⟩ ?_
 rintro t _ h' _ ⟨i,j,m,rfl,hij,rfl,hle,hm,hg,hk,rfl,hp⟩
 rw [revb0]
 unfold revl0
 simp (disch:=omega) only [SS,seval]
 refine ⟨fun hlt=>?_,fun hge=>?_⟩
 ·obtain ⟨x,hx⟩:=get_ex (l:=m) (i:=i) (by omega)
  obtain ⟨y,hy⟩:=get_ex (l:=m) (i:=j) (by omega)
  have ei:IntKind.wrap .i64 ((i:Int)+1)=((i+1:Nat):Int):=wrap_s (by omega)
  have ej:IntKind.wrap .i64 ((j:Int)-1)=((j-1:Nat):Int):=by rw [wrapS (by omega) (by omega)]; omega
  simp (disch:=omega) only [SS,hg,ints_get hx,ints_get hy,ei,ej,List.length_set,seval]
  refine ⟨by omega,by omega,l.length-(i+1),by omega,i+1,j-1,_,rfl,by omega,rfl,by omega,?_,hnew _ _ _,fun c hc=>?_,rfl,fun k hk'=>?_⟩
  ·simp [hm]
  ·rw [hold hc,hold hc]; exact hk c hc
  ·have hx':=hp i (by omega)
   have hy':=hp j (by omega)
   rw [if_neg (by omega),hx] at hx'
   rw [if_neg (by omega),hy] at hy'
   rw [List.getElem?_set,List.getElem?_set]
   simp only [List.length_set]
   by_cases e1:j=k
   ·subst e1
    rw [if_pos rfl,if_pos (by omega),if_pos (by omega),show l.length-1-j=i by omega,← hx']
   ·rw [if_neg e1]
    by_cases e2:i=k
    ·subst e2
     rw [if_pos rfl,if_pos (by omega),if_pos (by omega),show l.length-1-i=j by omega,← hy']
    ·rw [if_neg e2,hp k hk']
     by_cases e3:k<i∨j<k
     ·rw [if_pos e3,if_pos (by omega)]
     ·rw [if_neg e3,if_neg (by omega)]
 ·have:m=l.reverse:=by
   apply List.ext_getElem?
   intro k
   by_cases hk':k<l.length
   ·rw [hp k hk',List.getElem?_reverse hk']
    by_cases e3:k<i∨j<k
    ·rw [if_pos e3]
    ·rw [if_neg e3]
     congr 1
     omega
   ·rw [List.getElem?_eq_none (by omega),List.getElem?_eq_none (by simp; omega)]
  subst this
  exact ⟨hg,hk⟩
def Ob (h:Hp) (v:Value) (l:List Int) (b:Nat):Prop:=∃ sp,(sp=none∨sp=some 1)∧v = .slice (some ⟨b,0,sp⟩) l.length l.length∧hget h b=some (.cells (ints l) false)
theorem Ob.gr {h:Hp} {v:Value} {l:List Int} {b:Nat} (o:Ob h v l b):Gr h encI 1 v l (some b):=by
 obtain ⟨sp,rfl | rfl,rfl,hb⟩:=o
 ·exact .part (enc:=encI) (k:=1) hb (by rw [ints_len]; omega) (by rw [List.drop_zero,Nat.mul_one,List.take_of_length_le (by rw [ints_len]; omega),flat_ints])
 ·exact .own (enc:=encI) (k:=1) (by rw [flat_ints]; exact hb)
def WayJ (l p:List Int) (vl vp:Value) (L0 to:Nat) (nx:Nat) (h:Hp) (m:Nat) (vs:List Value) (h':Hp) (nx':Nat):Prop :=
 ∃ (pre:List Int) (k b:Nat) (o:Value),vs=[vl,vp,.slice none 0 0,.int .i64 ((min l.length p.length:Nat):Int),o,.int .i64 (k:Int)]∧Ob h' o (pre++[(k:Int)]) b∧nx≤b∧b<nx'∧Keep nx h h'∧k<min l.length p.length ∧
  l[k]? = some (m:Int)∧pre.length+m=L0∧wg l p L0 (to:Int)=(wg l p m (k:Int)).map (pre++·)
def WayK (l p:List Int) (t:Int) (nx:Nat) (h:Hp):KC':=fun r h' nx'=>SlRd h' nx' r encI (wayR l p t)∧Keep nx h h'∧nx≤nx'
theorem sl_nil (h:Hp) (nx:Nat):SlRd h nx (.slice none 0 0) encI ([]:List Int):=⟨none,0,rfl,fun h=>absurd rfl h⟩
theorem minN {a b:Nat}:min (a:Int) (b:Int)=((min a b:Nat):Int):=by omega
theorem way_c {s:Bool} {h:Hp} {nx:Nat} {vl vp:Value} {l p:List Int} {t:Int} (hl:SlRd h nx vl encI l) (hp:SlRd h nx vp encI p) (hl6:l.length≤60) :
  Cv Q O s 37 [vl,vp,.int .i64 t] h nx (WayK l p t nx h):=by
 refine wayv ?_
 obtain ⟨a,cap,rfl,hc⟩:=id hl
 obtain ⟨a',cap',rfl,hc'⟩:=id hp
 unfold way
 have no:wayR l p t=[]→wayk0 s (WayK l p t nx h) (.slice a l.length cap) (.slice a' p.length cap') (.int .i64 t) (.int .i64 ((min l.length p.length:Nat):Int)) (.bool true) h nx:=fun e=>by
  unfold wayk0
  simp (disch:=omega) only [SS,seval]
  exact ⟨by rw [e]; exact sl_nil _ _,Keep.refl _ _,Nat.le_refl _⟩
 have go:∀ (k x:Nat),t=(k:Int)→k<min l.length p.length→l[k]? = some (x:Int)→x<min l.length p.length→wayk0 s (WayK l p t nx h) (.slice a l.length cap) (.slice a' p.length cap') (.int .i64 t) (.int .i64 ((min l.length p.length:Nat):Int)) (.bool false) h nx:=by
  rintro k0 x0 rfl hk0 hx0 hxn
  have hR:wayR l p (k0:Int)=((wg l p x0 (k0:Int)).getD []).reverse:=by
   unfold wayR
   rw [Int.toNat_natCast,hx0]
   simp
  unfold wayk0
  simp (disch:=omega) only [SS,seval]
  refine Lp.mk (WayJ l p (.slice a l.length cap) (.slice a' p.length cap') x0 k0 nx h) x0 ⟨[],k0,nx,_,rfl,⟨none,.inl rfl,rfl,hnew _ _ _⟩,Nat.le_refl _,Nat.lt_succ_self _,(Keep.refl _ _).set (Nat.le_refl _),hk0,hx0,by simp,by cases wg l p x0 (k0:Int) <;> simp⟩ ?_
  rintro m _ h' nx' ⟨pre,k,b,o,rfl,ho,hb,hb',hk,hkn,hx,hpm,hw⟩
  obtain ⟨sp,hsp,rfl,hob⟩:=id ho
  obtain ⟨_,bl,spl,rol,c1,hbl,e1,hgl⟩:=hl.at hx
  obtain ⟨y,hy⟩:=get_ex (l:=p) (i:=k) (by omega)
  obtain ⟨_,bp,spp,rop,c2,hbp,e2,hgp⟩:=hp.at hy
  cases e1; cases e2
  rw [flat_ints] at hgl hgp
  have hgl:=(hk bl hbl).trans hgl
  have hgp:=(hk bp hbp).trans hgp
  rw [wayb0]
  unfold wayl0
  simp (disch:=omega) only [SS,hgl,hgp,ints_get hx,ints_get hy,seval]
  have stop:wg l p m (k:Int)=none→SlRd h' nx' (.slice none 0 0) encI (wayR l p (k0:Int)):=fun e=>by
   rw [hR,hw,e]; exact sl_nil _ _
  have hkl:k<l.length:=by omega
  refine ⟨fun h1=>⟨fun h2=>?_,fun h2=>⟨fun h3=>?_,fun h3=>?_⟩⟩,fun h1=>?_⟩
  ·refine ⟨stop ?_,hk,by omega⟩
   obtain ⟨m',rfl⟩:∃ m',m=m'+1:=⟨m-1,by omega⟩
   rw [wg_s hkl hy hx,wg_out (by unfold inn; omega)]; rfl
  ·refine ⟨stop ?_,hk,by omega⟩
   obtain ⟨m',rfl⟩:∃ m',m=m'+1:=⟨m-1,by omega⟩
   rw [wg_s hkl hy hx,wg_out (by unfold inn; omega)]; rfl
  ·obtain ⟨m',rfl⟩:∃ m',m=m'+1:=⟨m-1,by omega⟩
   obtain ⟨u,rfl⟩:∃ u:Nat,y=(u:Int):=⟨y.toNat,by omega⟩
   obtain ⟨z,hz⟩:=get_ex (l:=l) (i:=u) (by omega)
   have ew:IntKind.wrap .i64 (((m'+1:Nat):Int)-1)=(m':Int):=by rw [wrapS (by omega) (by omega)]; omega
   rw [ew]
   have hul:u<l.length:=by omega
   simp (disch:=omega) only [SS,hgl,ints_get hz,seval]
   refine ⟨fun h4=>?_,fun h4=>?_⟩
   ·refine ⟨stop ?_,hk,by omega⟩
    rw [wg_s hkl hy hx,wg_at (by rw [Int.toNat_natCast,hz]; simp at h4; simpa using h4)]; rfl
   ·have hzm:z=(m':Int):=by simpa using h4
    subst hzm
    refine EK_appI (ho.gr.keep (fun c hc=>by cases hc; exact hold (by omega))) (hnew _ _ _) (by simp; omega) (fun h2 e1 e2=>?_)
    refine ⟨m',by omega,pre++[(k:Int)],u,nx'+1,_,rfl,⟨some 1,.inr rfl,by simp,e1⟩,by omega,by omega,fun c hc=>?_,by omega,hz,by simp; omega,?_⟩
    ·rw [e2 c (by omega) (fun e=>by cases e; omega),hold (by omega)]; exact hk c hc
    ·rw [hw,wg_s hkl hy hx]
     cases wg l p m' (u:Int) <;> simp
  ·have hm0:m=0:=by omega
   subst hm0
   refine (rev_c hob (by simp) (by simp; omega)).mono ?_
   rintro r h3 nx3 ⟨g1,g2,rfl⟩
   refine ⟨?_,fun c hc=>(g2 c (by omega)).trans (hk c hc),by omega⟩
   rw [hR,hw,wg_0 hkl (by omega) hx]
   exact ⟨some ⟨b,0,sp⟩,(pre++[(k:Int)]).length,by simp,fun _=>⟨b,sp,false,hb',rfl,by rw [flat_ints]; exact g1⟩⟩
 simp (disch:=omega) only [SS,minN,seval]
 refine ⟨fun h1=>no ?_,fun h1=>⟨fun h2=>no ?_,fun h2=>?_⟩⟩
 ·unfold wayR
  split
  ·rw [if_neg (by omega)]
  ·rfl
 ·unfold wayR
  split
  ·split
   ·rw [wg_out (by unfold inn; omega)]; rfl
   ·rfl
  ·rfl
 ·obtain ⟨k,rfl⟩:∃ k:Nat,t=(k:Int):=⟨t.toNat,by omega⟩
  obtain ⟨x,hx⟩:=get_ex (l:=l) (i:=k) (by omega)
  obtain ⟨_,bl,spl,rol,c1,hbl,e1,hgl⟩:=hl.at hx
  cases e1
  rw [flat_ints] at hgl
  have hkl:k<l.length:=by omega
  simp (disch:=omega) only [SS,hgl,ints_get hx,seval]
  refine ⟨fun h3=>no ?_,fun h3=>?_⟩
  ·unfold wayR
   rw [Int.toNat_natCast,hx]
   simp only
   rw [if_neg (by omega)]
  ·by_cases h4:x<((min l.length p.length:Nat):Int)
   ·rw [decide_eq_true h4,Bool.not_true]
    exact go k x.toNat rfl (by omega) (by rw [hx]; congr 1; omega) (by omega)
   ·rw [decide_eq_false h4,Bool.not_false]
    refine no ?_
    unfold wayR
    rw [Int.toNat_natCast,hx]
    simp only
    rw [if_pos ⟨by omega,by omega⟩]
    cases hw:wg l p x.toNat (k:Int) with
    | none=>rfl
    | some r=>have:=wg_le hw; omega
def okI (n:Int):Prop:=-9223372036854775808≤n∧n≤9223372036854775807
theorem m_len:methodOf Tryz.prog 82 "Len" = some (44,false):=by kernel_rfl
theorem m_less:methodOf Tryz.prog 82 "Less" = some (385,false):=by kernel_rfl
theorem m_swap:methodOf Tryz.prog 82 "Swap" = some (388,false):=by kernel_rfl
theorem m_push:methodOf Tryz.prog 82 "Push" = some (387,true):=by kernel_rfl
theorem m_pop:methodOf Tryz.prog 82 "Pop" = some (386,true):=by kernel_rfl
theorem u82:Tryz.prog.underlying 82=some (.pointer 86):=by kernel_rfl
theorem a86:aggOf Tryz.prog 86=some none:=by kernel_rfl
theorem conc84:isConcrete Tryz.prog 84=true:=by kernel_rfl
section
variable {h:Hp} {nx bc:Nat} {v:Value} {l:List Value}
theorem inv_v {m:String} {f:FuncId} (hm:methodOf Tryz.prog 82 m=some (f,false)) (hb:hget h bc=some (.cells [v] false)):oInvoke Q h nx l m (.iface 82 (.pointer (some ⟨bc,0,none⟩))) = .call f (v::l) h nx:=by
 show orO "invoke - method" (methodOf Tryz.prog 82 m) (fun fp=>orB (recvA Tryz.prog h 82 fp.2 (.pointer (some ⟨bc,0,none⟩))) (fun y=>.call fp.1 (y::l) h nx))=_
 rw [hm]
 show orB (recvA Tryz.prog h 82 false (.pointer (some ⟨bc,0,none⟩))) _=_
 unfold recvA
 rw [u82]
 show orB (loadA Tryz.prog h 86 ⟨bc,0,none⟩) _=_
 unfold loadA
 rw [a86]
 show orB (cellsOf h bc _) _=_
 rw [cellsOf_some hb]
 rfl
theorem inv_p {m:String} {f:FuncId} (hm:methodOf Tryz.prog 82 m=some (f,true)):oInvoke Q h nx l m (.iface 82 (.pointer (some ⟨bc,0,none⟩))) = .call f (.pointer (some ⟨bc,0,none⟩)::l) h nx:=by
 show orO "invoke - method" (methodOf Tryz.prog 82 m) (fun fp=>orB (recvA Tryz.prog h 82 fp.2 (.pointer (some ⟨bc,0,none⟩))) (fun y=>.call fp.1 (y::l) h nx))=_
 rw [hm]
 show orB (recvA Tryz.prog h 82 true (.pointer (some ⟨bc,0,none⟩))) (fun y=>.call f (y::l) h nx)=_
 unfold recvA
 rw [u82]
 rfl
end
theorem wt_wr {h:Hp} {b i:Nat} {W:List Stop} {cs:List Value} {v:Nat} {d:Int} (hi:i<W.length):wrO (some (.cells (flat encW W++cs) false)) h b (i*2) [.int .i64 (v:Int),.int .i64 d] = .ok (hset h b (.cells (flat encW (W.set i (v,d))++cs) false)):=by
 have hl:=flat_len (enc:=encW) encW_len (l:=W)
 show R.of _ (lput [.int .i64 (v:Int),.int .i64 d] (flat encW W++cs) (i*2)) _=_
 rw [lput_eq2 (by rw [List.length_append,hl]; simp; omega)]
 have:=flat_set (enc:=encW) encW_len cs (v,d) W i hi
 rw [← this]
 rfl
theorem slen_c {s:Bool} {h:Hp} {nx n cap:Nat} {a:Option Addr}:Cv Q O s 44 [.slice a n cap] h nx (fun r h' nx'=>r = .int .i64 (n:Int)∧h'=h∧nx'=nx):=by
 refine slenv ?_
 unfold slen
 simp (disch:=omega) only [SS,seval]
theorem sless_c {s:Bool} {h:Hp} {nx b cap n:Nat} {sp:Option Nat} {W:List Stop} {cs:List Value} {i k:Nat} {x y:Stop} (hb:hget h b=some (.cells (flat encW W++cs) false)) (hn:W.length=n) (hi:W[i]? = some x) (hk:W[k]? = some y) :
  Cv Q O s 385 [.slice (some ⟨b,0,sp⟩) n cap,.int .i64 (i:Int),.int .i64 (k:Int)] h nx (fun r h' nx'=>r = .bool (decide (x.2<y.2))∧h'=h∧nx'=nx):=by
 refine slessv ?_
 unfold sless
 have i1:=(List.getElem?_eq_some_iff.1 hi).1
 have k1:=(List.getElem?_eq_some_iff.1 hk).1
 rw [hn] at i1 k1
 simp (disch:=omega) only [SS,hb,(wt_c hi).2,(wt_c hk).2,seval]
theorem sswap_c {s:Bool} {h:Hp} {nx b cap n:Nat} {sp:Option Nat} {W:List Stop} {cs:List Value} {i k:Nat} {x y:Stop} (hb:hget h b=some (.cells (flat encW W++cs) false)) (hn:W.length=n) (hi:W[i]? = some x) (hk:W[k]? = some y) :
  Cv Q O s 388 [.slice (some ⟨b,0,sp⟩) n cap,.int .i64 (i:Int),.int .i64 (k:Int)] h nx (fun r h' nx'=>r = .tuple ⟨[]⟩∧hget h' b=some (.cells (flat encW (sw W i k x y)++cs) false)∧(∀ c,c≠b→hget h' c=hget h c)∧nx'=nx):=by
 refine sswapv ?_
 unfold sswap
 have i1:=(List.getElem?_eq_some_iff.1 hi).1
 have k1:=(List.getElem?_eq_some_iff.1 hk).1
 simp (disch:=omega) only [SS,hb,wt_rd hi,wt_rd hk,seval]
 rw [wt_wr i1,RK_ok]
 rw [hnew,wt_wr (by rw [List.length_set]; exact k1),RK_ok]
 exact ⟨hnew _ _ _,fun c hc=>by rw [hold hc,hold hc]⟩
abbrev ifcW (bc:Nat):Value:=.iface 82 (.pointer (some ⟨bc,0,none⟩))
theorem wt_to {h h':Hp} {bc b:Nat} {sp:Option Nat} {cap:Nat} {W W':List Stop} {cs:List Value} (w:WtAt h bc b sp cap W cs) (hb:hget h' b=some (.cells (flat encW W'++cs) false)) (hl:W'.length=W.length) (hf:∀ c,c≠b→hget h' c=hget h c):WtAt h' bc b sp cap W' cs :=
 ⟨by rw [hf bc (fun e=>w.ne e.symm),hl]; exact w.cell,hb,by rw [hl]; exact w.len,w.spt,w.ne⟩
theorem quo2 {P:Program} {t:TypeId} {j:Nat} (hj:j≤100000):bin P .quo t (.int .i64 ((j:Int)-1)) (.int .i64 2) = .ok (.int .i64 ((par j:Nat):Int)):=by
 rw [bin_quo (by decide)]
 have:((j:Int)-1).tdiv 2=((par j:Nat):Int):=by
  cases j with
  | zero=>rfl
  | succ j =>
   have e:((j+1:Nat):Int)-1=(j:Int):=by push_cast; omega
   rw [e]
   show (j:Int).tdiv ((2:Nat):Int)=(((j+1-1) / 2:Nat):Int)
   rfl
 rw [this,wrapN _ (by unfold par; omega)]
def UpJ (bc b:Nat) (sp:Option Nat) (cap:Nat) (W:List Stop) (cs:List Value) (h:Hp) (nx:Nat) (m:Nat) (vs:List Value) (h':Hp) (nx':Nat):Prop :=
 ∃ (W':List Stop),vs=[ifcW bc,.int .i64 (m:Int)]∧WtAt h' bc b sp cap W' cs∧UpI W' m∧m<W'.length∧W'.Perm W∧(∀ c,c≠b→hget h' c=hget h c)∧nx'=nx
def HeapK (bc b:Nat) (sp:Option Nat) (cap:Nat) (W:List Stop) (cs:List Value) (h:Hp) (nx:Nat):KC':=fun r h' nx'=>r = .tuple ⟨[]⟩∧∃ W',WtAt h' bc b sp cap W' cs∧Heap W'∧W'.Perm W∧(∀ c,c≠b→hget h' c=hget h c)∧nx'=nx
theorem hup_c {s:Bool} {h:Hp} {nx bc b cap j:Nat} {sp:Option Nat} {W:List Stop} {cs:List Value} (w:WtAt h bc b sp cap W cs) (hU:UpI W j) (hj:j<W.length) (hl:W.length≤100000) :
  Cv Q O s 67 [ifcW bc,.int .i64 (j:Int)] h nx (HeapK bc b sp cap W cs h nx):=by
 refine hupv ?_
 unfold hup
 refine Lp.mk (UpJ bc b sp cap W cs h nx) j ⟨W,rfl,w,hU,hj,List.Perm.refl _,fun c _=>rfl,rfl⟩ ?_
 rintro m _ h' nx' ⟨W',rfl,w',hU',hm,hp,hf,rfl⟩
 rw [hupb0]
 unfold hupl0
 have hlen:=hp.length_eq
 obtain ⟨y,hy⟩:=get_ex hm
 obtain ⟨x,hx⟩:=get_ex (l:=W') (i:=par m) (by unfold par; omega)
 simp (disch:=omega) only [SS,wrapP (show m<1000000000 by omega),quo2 (show m≤100000 by omega),inv_v m_less w'.cell,seval]
 refine ⟨fun h0=>?_,fun h0=>?_⟩
 ·have hm0:m=0:=by
   have:((par m:Nat):Int)=(m:Int):=by simpa using h0
   have:par m=m:=by omega
   unfold par at this; omega
  exact ⟨rfl,W',w',hU'.done fun _ _ h=>absurd h (by omega),hp,hf,rfl⟩
 ·have hm0:0<m:=by
   rcases Nat.eq_zero_or_pos m with e | e
   ·subst e; simp [par] at h0
   ·exact e
  refine (sless_c w'.blk rfl hy hx).mono ?_
  rintro r _ _ ⟨rfl,rfl,rfl⟩
  simp (disch:=omega) only [SS,inv_v m_swap w'.cell,seval]
  refine ⟨fun hge=>?_,fun hlt=>?_⟩
  ·refine ⟨rfl,W',w',hU'.done fun x' y' _ hx' hy'=>?_,hp,hf,rfl⟩
   rw [hx] at hx'; rw [hy] at hy'; cases hx'; cases hy'
   omega
  ·refine (sswap_c w'.blk rfl hx hy).mono ?_
   rintro r h2 _ ⟨rfl,hb2,hf2,rfl⟩
   have hpm:par m<m:=by unfold par; omega
   exact ⟨par m,hpm,_,rfl,wt_to w' hb2 (sw_len _ _ _ _ _) hf2,hU'.step hm0 hx hy hlt,by rw [sw_len]; omega,(sw_perm hx hy).trans hp,fun c hc=>(hf2 c hc).trans (hf c hc),rfl⟩
def DnJ (bc b n:Nat) (sp:Option Nat) (cap:Nat) (W:List Stop) (cs:List Value) (h:Hp) (nx:Nat) (m:Nat) (vs:List Value) (h':Hp) (nx':Nat):Prop :=
 ∃ (W':List Stop) (i:Nat),m=n-i∧i≤n∧vs=[ifcW bc,.int .i64 0,.int .i64 (n:Int),.int .i64 (i:Int)]∧WtAt h' bc b sp cap W' cs∧DownI W' n i∧W'.Perm W∧W'[n]? = W[n]?∧(∀ c,c≠b→hget h' c=hget h c)∧nx'=nx
def DownK (bc b n:Nat) (sp:Option Nat) (cap:Nat) (W:List Stop) (cs:List Value) (h:Hp) (nx:Nat):KC':=fun r h' nx'=>∃ W',WtAt h' bc b sp cap W' cs∧Heap (W'.take n)∧W'.Perm W∧W'[n]? = W[n]?∧(∀ c,c≠b→hget h' c=hget h c)∧nx'=nx
theorem hdown_c {s:Bool} {h:Hp} {nx bc b cap n:Nat} {sp:Option Nat} {W:List Stop} {cs:List Value} (w:WtAt h bc b sp cap W cs) (hD:DownI W n 0) (hn:W.length=n+1) (hl:W.length≤100000) :
  Cv Q O s 66 [ifcW bc,.int .i64 0,.int .i64 (n:Int)] h nx (DownK bc b n sp cap W cs h nx):=by
 refine hdownv ?_
 unfold hdown
 refine Lp.mk (DnJ bc b n sp cap W cs h nx) n ⟨W,0,rfl,by omega,rfl,w,hD,List.Perm.refl _,rfl,fun c _=>rfl,rfl⟩ ?_
 rintro m _ h' nx' ⟨W',i,rfl,hi,rfl,w',hD',hp,hlast,hf,rfl⟩
 rw [hdownb0]
 unfold hdownl0
 have hlen:=hp.length_eq
 obtain ⟨x,hx⟩:=get_ex (l:=W') (i:=i) (by omega)
 have e1:(2:Int)*(i:Int)=((2*i:Nat):Int):=by push_cast; rfl
 have e2:IntKind.wrap .i64 ((2*i:Nat):Int)=((2*i:Nat):Int):=wrapN _ (by omega)
 simp (disch:=omega) only [SS,bin_mul,e1,e2,wrap_s (show 2*i<1000000000000 by omega),wrap_s (show 2*i+1<1000000000000 by omega),seval]
 have tail:∀ (j:Nat) (y:Stop),par j=i→0<j→j<n→W'[j]? = some y→(∀ (c:Nat) (z:Stop),0<c→c<n→par c=i→W'[c]? = some z→y.2≤z.2) →
   CVK Q O s (oInvoke Q h' nx' [.int .i64 (j:Int),.int .i64 (i:Int)] "Less" (ifcW bc)) fun x13 h14 n15=>RK (oUn .not x13) fun x16=>IF x16 (DownK bc b n sp cap W cs h nx' (.bool (decide (0<(i:Int)))) h14 n15) (CVK Q O s (oInvoke Q h14 n15 [.int .i64 (i:Int),.int .i64 (j:Int)] "Swap" (ifcW bc)) fun x17 h18 n19 =>
    hdownk0 s (fun vs h_1 nx=>∃ m',m'<n-i∧DnJ bc b n sp cap W cs h nx' m' vs h_1 nx) (fun v3 h1 n2=>RK (bin Q .gtr 3 (nv v3 3) (nv v3 1)) fun x34=>DownK bc b n sp cap W cs h nx' x34 h1 n2) (fun x x_1 x_2=>False) (ifcW bc) (.int .i64 0) (.int .i64 (n:Int)) (.int .i64 (j:Int)) h18 n19):=by
  intro j y hpj hj0 hjn hy hmin
  have hij:i<j:=by unfold par at hpj; omega
  rw [inv_v m_less w'.cell,CVK_c]
  refine (sless_c w'.blk rfl hy hx).mono ?_
  rintro r _ _ ⟨rfl,rfl,rfl⟩
  simp (disch:=omega) only [SS,inv_v m_swap w'.cell,seval]
  refine ⟨fun hge=>?_,fun hlt=>?_⟩
  ·refine ⟨W',w',hD'.done fun c x' y' hc hcn hpc hx' hy'=>?_,hp,hlast,hf,rfl⟩
   rw [hx] at hx'; cases hx'
   have:=hmin c y' hc hcn hpc hy'
   omega
  ·refine (sswap_c w'.blk rfl hx hy).mono ?_
   rintro r h2 _ ⟨rfl,hb2,hf2,rfl⟩
   unfold hdownk0
   refine ⟨n-j,by omega,_,j,rfl,by omega,rfl,wt_to w' hb2 (sw_len _ _ _ _ _) hf2,hD'.step hj0 hjn hpj hx hy hlt hmin,(sw_perm hx hy).trans hp,?_,fun c hc=>(hf2 c hc).trans (hf c hc),rfl⟩
   rw [sw_get hx hy (by omega),if_neg (by omega),if_neg (by omega)]; exact hlast
 have par1:∀ c,0<c→par c=i→c=2*i+1∨c=2*i+2:=fun c hc h=>(par_iff hc).1 h
 refine ⟨fun hge=>?_,fun hlt=>⟨fun h0=>absurd h0 (by omega),fun _=>⟨fun h2=>?_,fun h2=>?_⟩⟩⟩
 ·exact ⟨W',w',hD'.done fun c x' y' hc hcn hpc _ _=>(by rcases par1 c hc hpc with h | h <;> omega),hp,hlast,hf,rfl⟩
 ·obtain ⟨y1,hy1⟩:=get_ex (l:=W') (i:=2*i+1) (by omega)
  obtain ⟨y2,hy2⟩:=get_ex (l:=W') (i:=2*i+1+1) (by omega)
  rw [inv_v m_less w'.cell,CVK_c]
  refine (sless_c w'.blk rfl hy2 hy1).mono ?_
  rintro r _ _ ⟨rfl,rfl,rfl⟩
  rw [IF_b]
  refine ⟨fun h3=>tail _ y2 (by unfold par; omega) (by omega) h2 hy2 fun c z hc hcn hpc hz=>?_,fun h3=>tail _ y1 (by unfold par; omega) (by omega) hlt hy1 fun c z hc hcn hpc hz=>?_⟩
  ·have h3:y2.2<y1.2:=by simpa using h3
   rcases par1 c hc hpc with rfl | rfl
   ·rw [hy1] at hz; cases hz; omega
   ·rw [hy2] at hz; cases hz; exact Int.le_refl _
  ·have h3:¬ y2.2<y1.2:=by simpa using h3
   rcases par1 c hc hpc with rfl | rfl
   ·rw [hy1] at hz; cases hz; exact Int.le_refl _
   ·rw [hy2] at hz; cases hz; omega
 ·obtain ⟨y1,hy1⟩:=get_ex (l:=W') (i:=2*i+1) (by omega)
  refine tail _ y1 (by unfold par; omega) (by omega) hlt hy1 fun c z hc hcn hpc hz=>?_
  rcases par1 c hc hpc with rfl | rfl
  ·rw [hy1] at hz; cases hz; exact Int.le_refl _
  ·omega
theorem assert84 {y:Value}:oAssert Tryz.prog 84 true (.iface 84 y) = .ok (.tuple ⟨[y,.bool true]⟩):=by
 show (bif isConcrete Tryz.prog 84&&Nat.beq 84 84 then R.ok (withOk true y true) else .no "typeAssert")=_
 rw [conc84]; rfl
def PushK (bc b:Nat) (W:List Stop) (nx:Nat) (h:Hp) (p:List Stop→Prop):KC':=fun r h' nx'=>∃ b' sp' cap' cs' W',WtAt h' bc b' sp' cap' W' cs'∧p W'∧(b'=b∨nx≤b')∧b'<nx'∧nx≤nx'∧∀ c,c<nx→c≠b→c≠bc→hget h' c=hget h c
theorem spush_c {s:Bool} {h:Hp} {nx bc b cap v:Nat} {d:Int} {sp:Option Nat} {W:List Stop} {cs:List Value} (w:WtAt h bc b sp cap W cs) (hb:b<nx) (hbc:bc<nx) (hl:W.length<1000) :
  Cv Q O s 387 [.pointer (some ⟨bc,0,none⟩),.iface 84 (.agg ⟨[.int .i64 (v:Int),.int .i64 d]⟩)] h nx (PushK bc b W nx h fun W'=>W'=W++[(v,d)]):=by
 refine spushv ?_
 unfold spush
 rw [assert84]
 have hne:=w.ne
 have hcell:hget (hset (hset h nx (.cells [.int .i64 0,.int .i64 0] false)) nx (.cells [.int .i64 (v:Int),.int .i64 d] false)) bc=some (.cells [.slice (some ⟨b,0,sp⟩) W.length cap] false):=by rw [hold (by omega),hold (by omega)]; exact w.cell
 simp (disch:=omega) only [SS,hcell,seval]
 obtain ⟨b',sp',cap',cs',h',nx',e1,e2,e3,e4,e5,e6,e7,e8⟩:=wt_app (h:=hset (hset (hset h nx (AObj.cells [Value.int IntKind.i64 0,Value.int IntKind.i64 0] false)) nx (AObj.cells [Value.int IntKind.i64 (v:Int),Value.int IntKind.i64 d] false)) (nx+1) (AObj.cells [Value.int IntKind.i64 (v:Int),Value.int IntKind.i64 d] false)) (nx:=nx+1+1) (b:=b) (W:=W) (cs:=cs) (cap:=cap) (sp:=sp) (n:=W.length) (cap2:=1) (sp2:=none) (o2:=0) (b2:=nx+1) (by rw [hold (by omega),hold (by omega),hold (by omega)]; exact w.blk) rfl w.len w.spt (by omega) v d (hnew _ _ _) rfl (by omega)
 rw [e1]
 have hc2:hget h' bc=some (.cells [.slice (some ⟨b,0,sp⟩) W.length cap] false):=(e8 bc (fun e=>hne e.symm) (by omega)).trans (by rw [hold (by omega)]; exact hcell)
 have hb':b'≠bc:=by omega
 simp (disch:=omega) only [SS,EK_v,orR,hc2,seval]
 refine ⟨by omega,b',sp',cap',cs',_,⟨?_,?_,e3,e4,hb'⟩,rfl,by omega,by omega,by omega,fun c h1 h2 h3=>?_⟩
 ·rw [hnew,List.length_append]; rfl
 ·rw [hold hb']; exact e2
 ·rw [hold h3,e8 c h2 (by omega),hold (by omega),hold (by omega),hold (by omega)]
theorem spop_c {s:Bool} {h:Hp} {nx bc b cap n:Nat} {sp:Option Nat} {W:List Stop} {cs:List Value} (w:WtAt h bc b sp cap W cs) (hb:b<nx) (hbc:bc<nx) (hn:W.length=n+1) (hl:W.length<100000) :
  Cv Q O s 386 [.pointer (some ⟨bc,0,none⟩)] h nx (fun r h' nx'=>∃ cs',WtAt h' bc b sp cap (W.take n) cs'∧nx'=nx+1∧∀ c,c<nx→c≠bc→hget h' c=hget h c):=by
 refine spopv ?_
 unfold spop
 have hne:=w.ne
 have e:IntKind.wrap .i64 ((W.length:Int)-1)=(n:Int):=by
  have:(W.length:Int)-1=(n:Int):=by omega
  rw [this]; exact wrapN _ (by omega)
 obtain ⟨x,hx⟩:=get_ex (l:=W) (i:=n) (by omega)
 have hwl:=w.len
 have hcell:hget (hset (hset h nx (.cells [.int .i64 0,.int .i64 0] false)) nx (.cells [.int .i64 (x.1:Int),.int .i64 x.2] false)) bc=some (.cells [.slice (some ⟨b,0,sp⟩) W.length cap] false):=by rw [hold (by omega),hold (by omega)]; exact w.cell
 have hcut:=wt_cut (b:=b) (sp:=sp) (n:=n) (cap:=cap) (by omega)
 rw [hn] at hcell e
 have hc0:=w.cell
 rw [hn] at hc0
 simp (disch:=omega) only [SS,hc0,e,w.blk,wt_rd hx,hcell,hcut,seval]
 have hW:W=W.take n++[x]:=by
  have h1:W.take (n+1)=W.take n++[x]:=by rw [List.take_add_one,hx]; rfl
  rw [← h1,List.take_of_length_le (by omega)]
 have ht:(W.take n).length=n:=by rw [List.length_take]; omega
 refine ⟨encW x++cs,⟨by rw [hnew,ht],?_,?_,w.spt,hne⟩,fun c h1 h2=>by rw [hold h2,hold (by omega),hold (by omega)]⟩
 ·rw [hold hne,hold (by omega),hold (by omega),w.blk]
  conv=>lhs; rw [hW]
  rw [flat_app,List.append_assoc]
 ·rw [ht,List.length_append,encW_len]; omega
theorem hpush_c {s:Bool} {h:Hp} {nx bc b cap v:Nat} {d:Int} {sp:Option Nat} {W:List Stop} {cs:List Value} (w:WtAt h bc b sp cap W cs) (hb:b<nx) (hbc:bc<nx) (hl:W.length<1000) (hH:Heap W) :
  Cv Q O s 46 [ifcW bc,.iface 84 (.agg ⟨[.int .i64 (v:Int),.int .i64 d]⟩)] h nx (PushK bc b W nx h fun W'=>Heap W'∧W'.Perm (W++[(v,d)])):=by
 refine hpushv ?_
 unfold hpush
 rw [inv_p m_push,CVK_c]
 refine (spush_c w hb hbc hl).mono ?_
 rintro r h1 nx1 ⟨b',sp',cap',cs',W',w',rfl,e1,e2,e3,e4⟩
 rw [inv_v m_len w'.cell,CVK_c]
 refine slen_c.mono ?_
 rintro r _ _ ⟨rfl,rfl,rfl⟩
 have hlen:(W++[(v,d)]).length=W.length+1:=by simp
 rw [hlen]
 have e:IntKind.wrap .i64 (((W.length+1:Nat):Int)-1)=(W.length:Int):=by
  have:((W.length+1:Nat):Int)-1=(W.length:Int):=by omega
  rw [this]; exact wrapN _ (by omega)
 simp (disch:=omega) only [SS,e,seval]
 refine (hup_c w' (UpI.push (p:=(v,d)) hH) (by omega) (by omega)).mono ?_
 rintro r h2 nx2 ⟨rfl,W',w2,hH2,hp2,hf2,rfl⟩
 exact ⟨b',sp',cap',cs',W',w2,⟨hH2,hp2⟩,e1,e2,e3,fun c h1 h2 h3=>(hf2 c (by omega)).trans (e4 c h1 h2 h3)⟩
theorem hpop_c {s:Bool} {h:Hp} {nx bc b cap:Nat} {sp:Option Nat} {W:List Stop} {p:Stop} {cs:List Value} (w:WtAt h bc b sp cap W cs) (hb:b<nx) (hbc:bc<nx) (hl:W.length<1000) (hH:Heap W) (hp0:W[0]? = some p) :
  Cv Q O s 45 [ifcW bc] h nx (fun r h' nx'=>∃ cs' W',WtAt h' bc b sp cap W' cs'∧Heap W'∧(p::W').Perm W∧nx≤nx'∧∀ c,c<nx→c≠b→c≠bc→hget h' c=hget h c):=by
 refine hpopv ?_
 unfold hpop
 obtain ⟨n,hn⟩:∃ n,W.length=n+1:=⟨W.length-1,by have:=(List.getElem?_eq_some_iff.1 hp0).1; omega⟩
 obtain ⟨q,hq⟩:=get_ex (l:=W) (i:=n) (by omega)
 have hcell:=w.cell
 rw [inv_v m_len hcell,CVK_c]
 refine slen_c.mono ?_
 rintro r hh nn ⟨rfl,e1,e2⟩
 rw [e1,e2]
 have e:IntKind.wrap .i64 ((W.length:Int)-1)=(n:Int):=by
  have:(W.length:Int)-1=(n:Int):=by omega
  rw [this]; exact wrapN _ (by omega)
 simp (disch:=omega) only [SS,e,inv_v m_swap hcell,seval]
 have hs0:Cv Q O s 388 [.slice (some ⟨b,0,sp⟩) W.length cap,.int .i64 ((0:Nat):Int),.int .i64 (n:Int)] h nx _:=sswap_c (k:=n) w.blk rfl hp0 hq
 refine hs0.mono ?_
 rintro r h1 _ ⟨rfl,hb1,hf1,rfl⟩
 have w1:=wt_to w hb1 (sw_len _ _ _ _ _) hf1
 refine (hdown_c w1 (DownI.pop hH hn hp0 hq) (by rw [sw_len]; exact hn) (by rw [sw_len]; omega)).mono ?_
 rintro r h2 _ ⟨W2,w2,hH2,hp2,hl2,hf2,rfl⟩
 rw [inv_p m_pop,CVK_c]
 have hl2':=hp2.length_eq
 rw [sw_len] at hl2'
 refine (spop_c (n:=n) w2 (by omega) hbc (by omega) (by omega)).mono ?_
 rintro r h3 _ ⟨cs3,w3,rfl,hf3⟩
 refine ⟨cs3,W2.take n,w3,hH2,?_,by omega,fun c h1 h2 h3=>by rw [hf3 c h1 h3,hf2 c h2,hf1 c h2]⟩
 by_cases hn0:n=0
 ·subst hn0
  rw [List.take_zero]
  have:W=[p]:=by
   match W,hn,hp0 with
   | [a],_,h=>cases h; rfl
  rw [this]
 have hx:W2[n]? = some p:=by rw [hl2,sw_get hp0 hq (by omega),if_pos rfl]
 have hW:W2=W2.take n++[p]:=by
  have h1:W2.take (n+1)=W2.take n++[p]:=by rw [List.take_add_one,hx]; rfl
  rw [← h1,List.take_of_length_le (by omega)]
 have hpp:(p::W2.take n).Perm (W2.take n++[p]):=(List.perm_append_comm (l₁:=W2.take n) (l₂:=[p])).symm
 rw [← hW] at hpp
 exact (hpp.trans hp2).trans (sw_perm hp0 hq)
def mulIs (n:Nat):Prop:=∀ (h:Hp) (nx:Nat),ccallA Tryz.prog O (cexA Tryz.prog O 30) 52 [.int .u64 1,.int .u64 (.ofNat n)] h nx = .ok (.tuple ⟨[.int .u64 0,.int .u64 (.ofNat n)]⟩) h nx
theorem mul0:mulIs 0:=fun h nx=>by kernel_rfl
theorem mul1:mulIs 1:=fun h nx=>by kernel_rfl
theorem mul2:mulIs 2:=fun h nx=>by kernel_rfl
theorem mul3:mulIs 3:=fun h nx=>by kernel_rfl
theorem mul4:mulIs 4:=fun h nx=>by kernel_rfl
theorem mul5:mulIs 5:=fun h nx=>by kernel_rfl
theorem mul6:mulIs 6:=fun h nx=>by kernel_rfl
theorem mul7:mulIs 7:=fun h nx=>by kernel_rfl
theorem mul8:mulIs 8:=fun h nx=>by kernel_rfl
theorem mul9:mulIs 9:=fun h nx=>by kernel_rfl
theorem mul10:mulIs 10:=fun h nx=>by kernel_rfl
theorem mul11:mulIs 11:=fun h nx=>by kernel_rfl
theorem mul12:mulIs 12:=fun h nx=>by kernel_rfl
theorem mul13:mulIs 13:=fun h nx=>by kernel_rfl
theorem mul14:mulIs 14:=fun h nx=>by kernel_rfl
theorem mul15:mulIs 15:=fun h nx=>by kernel_rfl
theorem mul16:mulIs 16:=fun h nx=>by kernel_rfl
theorem mul17:mulIs 17:=fun h nx=>by kernel_rfl
theorem mul18:mulIs 18:=fun h nx=>by kernel_rfl
theorem mul19:mulIs 19:=fun h nx=>by kernel_rfl
theorem mul20:mulIs 20:=fun h nx=>by kernel_rfl
theorem mul21:mulIs 21:=fun h nx=>by kernel_rfl
theorem mul22:mulIs 22:=fun h nx=>by kernel_rfl
theorem mul23:mulIs 23:=fun h nx=>by kernel_rfl
theorem mulIs_all:∀ (n:Nat),n≤23→mulIs n
 | 0,_=>mul0
 | 1,_=>mul1
 | 2,_=>mul2
 | 3,_=>mul3
 | 4,_=>mul4
 | 5,_=>mul5
 | 6,_=>mul6
 | 7,_=>mul7
 | 8,_=>mul8
 | 9,_=>mul9
 | 10,_=>mul10
 | 11,_=>mul11
 | 12,_=>mul12
 | 13,_=>mul13
 | 14,_=>mul14
 | 15,_=>mul15
 | 16,_=>mul16
 | 17,_=>mul17
 | 18,_=>mul18
 | 19,_=>mul19
 | 20,_=>mul20
 | 21,_=>mul21
 | 22,_=>mul22
 | 23,_=>mul23
 | n+24,hn=>absurd hn (by omega)
theorem mul_c {s:Bool} {n:Nat} {h:Hp} {nx:Nat} (hn:n≤23):Cv Q O s 52 [.int .u64 1,.int .u64 (n:Int)] h nx (fun r h' nx'=>r = .tuple ⟨[.int .u64 0,.int .u64 (n:Int)]⟩∧h'=h∧nx'=nx):=by
 refine ⟨30,?_⟩
 have e:=mulIs_all n hn h nx
 rw [show ((n:Int))=Int.ofNat n from rfl,e]
 exact satC_ok.2 ⟨rfl,rfl,rfl⟩
end Go.Proofs.YtfebipifehfjlaaGreat
