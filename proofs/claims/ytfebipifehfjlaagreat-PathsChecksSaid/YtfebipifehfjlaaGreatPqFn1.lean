/- Parts of the proof: PqFn1: each statement bears its own conditions. -/
import Derived.Test.YtfebipifehfjlaaGreatPqFacts
namespace Go.Proofs.YtfebipifehfjlaaGreat
open Go Go.Ax
set_option linter.unusedVariables false
set_option linter.unusedSimpArgs false
set_option maxRecDepth 1000000
noncomputable abbrev Q:Program:=Tryz.prog
def O:Orc:=fun f=>bif Nat.beq f 6 then some zQV else bif Nat.beq f 43 then some zF3 else none
def zOL:List (List Nat):=[]
def zOM (s:Bool) (t0 t1:Value) (h:Hp) (nx:Nat) (K:KC'):Prop:=RK (bin Q .lss 3 t1 (.int .i64 1)) fun x1=>IF x1 (K (.int .i64 0) h nx) (RK (bin Q .lss 3 t0 (.int .i64 0)) fun x2=>IF x2 (K (.int .i64 0) h nx) (RK (bin Q .rem 3 t0 t1) fun x4=>K x4 h nx))
theorem withine {s:Bool} {t0 t1:Value} {h:Hp} {nx:Nat} {K:KC'}:fF Q O s zOL 21 [t0,t1] h nx K=zOM s t0 t1 h nx K:=by kernel_rfl
theorem withinv {s:Bool} {t0 t1:Value} {h:Hp} {nx:Nat} {K:KC'} (w:zOM s t0 t1 h nx K):Cv Q O s 21 [t0,t1] h nx K:=Cv.byF zOL rfl (by rw [withine]; exact w)
def zM3:List (List Nat):=[[1,2,3,4]]
def zFB (s:Bool) (N:KVl) (e0:KVl) (R:KVl) (y1 y2 y3 y4 y23:Value) (h0:Hp) (n0:Nat):Prop:=IF y23 (RK (zO 1 y1) fun x28=>RK (vLd none h0 x28) fun x29=>RK (vIx (.slice 3) x29 y4) fun x30=>RK (vLd (some 3) h0 x30) fun x31=>AR (.ok (.ptr (.cells [(.int .i64 0),(.int .i64 0),(.int .i64 0)] false))) h0 n0 fun p32 h33 n34=>RK (vSt h33 3 p32 x31) fun h35=>RK (zO 0 p32) fun x36=>RK (vLd none h35 x36) fun x37=>RK (zO 0 y3) fun x38=>RK (vLd none h35 x38) fun x39=>Cv Q O true 21 [x37,x39] h35 n34 fun x40 h41 n42=>n34≤n42∧RK (zO 1 p32) fun x43=>RK (vLd none h41 x43) fun x44=>AGK (fun h=>vLd none h x43) x44 (RK (zO 0 y3) fun x45=>RK (vLd none h41 x45) fun x46=>AGK (fun h=>vLd none h x45) x46 (Cv Q O true 21 [x44,x46] h41 n42 fun x47 h48 n49=>n42≤n49∧RK (zO 1 y3) fun x50=>RK (vLd none h48 x50) fun x51=>AGK (fun h=>vLd none h x50) x51 (RK (zO 2 p32) fun x52=>RK (vLd none h48 x52) fun x53=>AGK (fun h=>vLd none h x52) x53 (RK (bin Q .and 2 x53 (.int .i64 2147483647)) fun x54=>RK (vBld [(.int .i64 0),(.int .i64 0),(.int .i64 0)] [(0,1,x40),(1,1,x47),(2,1,x54)]) fun x55=>AR (vBsl 1 [(.int .i64 0),(.int .i64 0),(.int .i64 0)] [(0,3,x55)]) h48 n49 fun p56 h57 n58=>EK (orR (zh 3 h57 n58 x51 p56)) fun x59 h60 n61=>n58≤n61∧RK (zO 1 y3) fun x62=>RK (vSt h60 1 x62 x59) fun h63=>RK (bin Q .add 3 y4 (.int .i64 1)) fun x64=>N [y1,y2,y3,x64] h63 n61) 2 [h41,h35]) 2 [h41,h35]) 1 [h35]) 1 [h35]) (e0 [y1,y2,y3,y4] h0 n0)
def zQU (s:Bool) (a1 a2 a3 a4:Value) (h:Hp) (nx:Nat) (N:KVl) (e0:KVl) (R:KVl):Prop:=RK (zO 1 a1) fun x20=>RK (vLd none h x20) fun x21=>RK (lenS x21) fun x22=>RK (bin Q .lss 3 a4 x22) fun x23=>IF x23 (RK (bin Q .lss 3 a4 (.int .i64 60)) fun x24=>IF x24 (RK (zO 0 a3) fun x25=>RK (vLd none h x25) fun x26=>RK (bin Q .gtr 3 x26 (.int .i64 0)) fun x27=>(zFB s N e0 R a1 a2 a3 a4 x27 h nx)) ((zFB s N e0 R a1 a2 a3 a4 (.bool false) h nx))) ((zFB s N e0 R a1 a2 a3 a4 (.bool false) h nx))
def graph (s:Bool) (t0:Value) (h:Hp) (nx:Nat) (K:KC'):Prop:=AR (zZ (zF t0)) h nx fun p1 h2 n3=>AR (.ok (.ptr (.cells [(.int .i64 0),(.slice none 0 0)] false))) h2 n3 fun p4 h5 n6=>RK (zO 0 p1) fun x7=>RK (vLd none h5 x7) fun x8=>Cv Q O s 21 [x8,(.int .i64 24)] h5 n6 fun x9 h10 n11=>RK (vBld [(.int .i64 0),(.slice none 0 0)] [(0,1,x9)]) fun x12=>AR (.ok (.ptr (.cells [(.int .i64 0),(.slice none 0 0)] false))) h10 n11 fun p13 h14 n15=>RK (vSt h14 2 p13 x12) fun h16=>Lp (fL Q O s zM3 24 0) [p1,p4,p13,(.int .i64 0)] h16 n15 [(0,fun v19 h17 n18=>RK (vLd (some 2) h17 (nv v19 2)) fun x65=>RK (vSt h17 2 (nv v19 1) x65) fun h66=>RK (vLd (some 2) h66 (nv v19 1)) fun x67=>K x67 h66 n18)] (fun _ _ _=>False)
theorem graphb0 {s:Bool} {a1 a2 a3 a4:Value} {h:Hp} {nx:Nat} {N e0 R:KVl}:fL Q O s zM3 24 0 [a1,a2,a3,a4] h nx N [(0,e0)] R=zQU s a1 a2 a3 a4 h nx N e0 R:=by kernel_rfl
theorem graphe {s:Bool} {t0:Value} {h:Hp} {nx:Nat} {K:KC'}:fF Q O s zM3 24 [t0] h nx K=graph s t0 h nx K:=by kernel_rfl
theorem graphv {s:Bool} {t0:Value} {h:Hp} {nx:Nat} {K:KC'} (w:graph s t0 h nx K):Cv Q O s 24 [t0] h nx K:=Cv.byF zM3 rfl (by rw [graphe]; exact w)
def makeL:List (List Nat):=[]
def zMR (s:Bool) (K:KC') (y1 y2 y6:Value) (h0:Hp) (n0:Nat):Prop:=RK (zO 2 y1) fun x21=>RK (vLd none h0 x21) fun x22=>RK (zO 0 y6) fun x23=>RK (vLd none h0 x23) fun x24=>Cv Q O true 21 [x22,x24] h0 n0 fun x25 h26 n27=>n0≤n27∧RK (vLd (some 2) h26 y6) fun x28=>AGK (fun h=>vLd (some 2) h y6) x28 (RK (vSt h26 2 y2 x28) fun h29=>RK (zO 3 y1) fun x30=>RK (vLd none h29 x30) fun x31=>AGK (fun h=>vLd none h x30) x31 (RK (zD7 (.int .i64) x31) fun x32=>RK (bin Q .rem 3 x32 (.int .i64 4)) fun x33=>RK (bin Q .add 3 x33 (.int .i64 1)) fun x34=>RK (zO 4 y1) fun x35=>RK (vLd none h29 x35) fun x36=>AGK (fun h=>vLd none h x35) x36 (RK (zD7 (.int .i64) x36) fun x37=>RK (bin Q .rem 3 x37 (.int .i64 4)) fun x38=>RK (bin Q .add 3 x38 (.int .i64 1)) fun x39=>RK (vLd (some 2) h29 y2) fun x40=>K (.tuple ⟨[x40,x25,x34,x39]⟩) h29 n27) 2 [h26,h0]) 2 [h26,h0]) 1 [h0]
def make (s:Bool) (t0:Value) (h:Hp) (nx:Nat) (K:KC'):Prop:=AR (zZ (zF t0)) h nx fun p1 h2 n3=>AR (.ok (.ptr (.cells [(.int .i64 0),(.slice none 0 0)] false))) h2 n3 fun p4 h5 n6=>RK (zO 0 p1) fun x7=>RK (vLd (some 2) h5 x7) fun x8=>Cv Q O s 24 [x8] h5 n6 fun x9 h10 n11=>AR (.ok (.ptr (.cells [(.int .i64 0),(.slice none 0 0)] false))) h10 n11 fun p12 h13 n14=>RK (vSt h13 2 p12 x9) fun h15=>RK (zO 0 p12) fun x16=>RK (vLd none h15 x16) fun x17=>RK (bin Q .eql 3 x17 (.int .i64 0)) fun x18=>IF x18 (RK (vBld [(.int .i64 0),(.slice none 0 0)] [(0,1,(.int .i64 1))]) fun x19=>RK (vSt h15 2 p12 x19) fun h20=>(zMR s K p1 p4 p12 h20 n14)) ((zMR s K p1 p4 p12 h15 n14))
theorem makee {s:Bool} {t0:Value} {h:Hp} {nx:Nat} {K:KC'}:fF Q O s makeL 7 [t0] h nx K=make s t0 h nx K:=by kernel_rfl
theorem makev {s:Bool} {t0:Value} {h:Hp} {nx:Nat} {K:KC'} (w:make s t0 h nx K):Cv Q O s 7 [t0] h nx K:=Cv.byF makeL rfl (by rw [makee]; exact w)
def rightL:List (List Nat):=[]
def right (s:Bool) (t0:Value) (h:Hp) (nx:Nat) (K:KC'):Prop:=AR (zZ (zF t0)) h nx fun p1 h2 n3=>RK (.ok (.func (.func 47) ⟨[]⟩ ⟨[p1]⟩)) fun x4=>AR (.ok (.ptr (.cells [.nilFunc] false))) h2 n3 fun p5 h6 n7=>RK (vSt h6 1 p5 x4) fun h8=>RK (zO 0 p1) fun x9=>RK (vLd none h8 x9) fun x10=>RK (bin Q .lss 3 x10 (.int .i64 0)) fun x11=>IF x11 (K (.int .i64 3) h8 n7) (RK (zO 0 p1) fun x12=>RK (vLd none h8 x12) fun x13=>RK (bin Q .gtr 3 x13 (.int .i64 4096)) fun x14=>IF x14 (K (.int .i64 5) h8 n7) (RK (zO 1 p1) fun x15=>RK (vLd none h8 x15) fun x16=>RK (lenS x16) fun x17=>RK (bin Q .gtr 3 x17 (.int .i64 65536)) fun x18=>IF x18 (K (.int .i64 5) h8 n7) (RK (zO 1 p1) fun x19=>RK (vLd none h8 x19) fun x20=>RK (.ok (.func (.func 49) ⟨[]⟩ ⟨[p5]⟩)) fun x21=>Cv Q O s 48 [x20,x21] h8 n7 fun x22 h23 n24=>IF x22 (K (.int .i64 3) h23 n24) (RK (zO 1 p1) fun x25=>RK (vLd none h23 x25) fun x26=>Cv Q O s 48 [x26,(.func (.func 50) #[] #[])] h23 n24 fun x27 h28 n29=>IF x27 (K (.int .i64 7) h28 n29) (K (.int .i64 0) h28 n29)))))
theorem righte {s:Bool} {t0:Value} {h:Hp} {nx:Nat} {K:KC'}:fF Q O s rightL 32 [t0] h nx K=right s t0 h nx K:=by kernel_rfl
theorem rightv {s:Bool} {t0:Value} {h:Hp} {nx:Nat} {K:KC'} (w:right s t0 h nx K):Cv Q O s 32 [t0] h nx K:=Cv.byF rightL rfl (by rw [righte]; exact w)
def zPJ:List (List Nat):=[]
def zLw (s:Bool) (t0 t1:Value) (h:Hp) (nx:Nat) (K:KC'):Prop:=RK (bin Q .lss 3 t0 (.int .i64 0)) fun x1=>IF x1 (K (.bool true) h nx) (RK (zO 0 t1) fun x2=>RK (vLd none h x2) fun x3=>RK (bin Q .geq 3 t0 x3) fun x4=>K x4 h nx)
theorem right1e {s:Bool} {t0 t1:Value} {h:Hp} {nx:Nat} {K:KC'}:fF Q O s zPJ 47 [t0,t1] h nx K=zLw s t0 t1 h nx K:=by kernel_rfl
theorem zPI {s:Bool} {t0 t1:Value} {h:Hp} {nx:Nat} {K:KC'} (w:zLw s t0 t1 h nx K):Cv Q O s 47 [t0,t1] h nx K:=Cv.byF zPJ rfl (by rw [right1e]; exact w)
def zPG:List (List Nat):=[]
def zPH (s:Bool) (t0 t1:Value) (h:Hp) (nx:Nat) (K:KC'):Prop:=AR (zZ (zF t0)) h nx fun p1 h2 n3=>RK (vLd none h2 t1) fun x4=>RK (zO 0 p1) fun x5=>RK (vLd none h2 x5) fun x6=>CVK Q O s (zCk h2 n3 [x6] x4) fun x7 h8 n9=>IF x7 (K (.bool true) h8 n9) (RK (vLd none h8 t1) fun x10=>RK (zO 1 p1) fun x11=>RK (vLd none h8 x11) fun x12=>CVK Q O s (zCk h8 n9 [x12] x10) fun x13 h14 n15=>K x13 h14 n15)
theorem right2e {s:Bool} {t0 t1:Value} {h:Hp} {nx:Nat} {K:KC'}:fF Q O s zPG 49 [t0,t1] h nx K=zPH s t0 t1 h nx K:=by kernel_rfl
theorem right2v {s:Bool} {t0 t1:Value} {h:Hp} {nx:Nat} {K:KC'} (w:zPH s t0 t1 h nx K):Cv Q O s 49 [t0,t1] h nx K:=Cv.byF zPG rfl (by rw [right2e]; exact w)
def zPE:List (List Nat):=[]
def zPF (s:Bool) (t0:Value) (h:Hp) (nx:Nat) (K:KC'):Prop:=AR (zZ (zF t0)) h nx fun p1 h2 n3=>RK (zO 2 p1) fun x4=>RK (vLd none h2 x4) fun x5=>RK (bin Q .lss 2 x5 (.int .i64 0)) fun x6=>IF x6 (K (.bool true) h2 n3) (RK (zO 2 p1) fun x7=>RK (vLd none h2 x7) fun x8=>RK (bin Q .gtr 2 x8 (.int .i64 2147483647)) fun x9=>K x9 h2 n3)
theorem right3e {s:Bool} {t0:Value} {h:Hp} {nx:Nat} {K:KC'}:fF Q O s zPE 50 [t0] h nx K=zPF s t0 h nx K:=by kernel_rfl
theorem right3v {s:Bool} {t0:Value} {h:Hp} {nx:Nat} {K:KC'} (w:zPF s t0 h nx K):Cv Q O s 50 [t0] h nx K:=Cv.byF zPE rfl (by rw [right3e]; exact w)
def contsL:List (List Nat):=[]
def conts (s:Bool) (t0 t1:Value) (h:Hp) (nx:Nat) (K:KC'):Prop:=Cv Q O s 68 [t0,t1] h nx fun x1 h2 n3=>RK (bin Q .geq 3 x1 (.int .i64 0)) fun x4=>K x4 h2 n3
theorem contse {s:Bool} {t0 t1:Value} {h:Hp} {nx:Nat} {K:KC'}:fF Q O s contsL 48 [t0,t1] h nx K=conts s t0 t1 h nx K:=by kernel_rfl
theorem contsv {s:Bool} {t0 t1:Value} {h:Hp} {nx:Nat} {K:KC'} (w:conts s t0 t1 h nx K):Cv Q O s 48 [t0,t1] h nx K:=Cv.byF contsL rfl (by rw [contse]; exact w)
def zMY:List (List Nat):=[[0,1,4,7,8]]
def zQN (s:Bool) (a0 a1 a4 a7 a8:Value) (h:Hp) (nx:Nat) (N:KVl) (e0:KVl) (R:KVl):Prop:=RK (bin Q .lss 3 a8 a7) fun x8=>IF x8 (RK (vIx (.slice 3) a0 a8) fun x9=>RK (vLd (some 3) h x9) fun x10=>CVK Q O s (zCk h nx [x10] a1) fun x11 h12 n13=>IF x11 (R [a0,a1,a8,a7,a8] h12 n13) (RK (bin Q .add 3 a8 (.int .i64 1)) fun x14=>N [a0,a1,a4,a7,x14] h12 n13)) (e0 [a0,a1,a4,a7,a8] h nx)
def index (s:Bool) (t0 t1:Value) (h:Hp) (nx:Nat) (K:KC'):Prop:=RK (lenS t0) fun x1=>Lp (fL Q O s zMY 68 0) [t0,t1,(.int .i64 0),x1,(.int .i64 0)] h nx [(0,fun v4 h2 n3=>K (.int .i64 (-1)) h2 n3)] (fun v7 h5 n6=>K (nv v7 2) h5 n6)
theorem indexb0 {s:Bool} {a0 a1 a4 a7 a8:Value} {h:Hp} {nx:Nat} {N e0 R:KVl}:fL Q O s zMY 68 0 [a0,a1,a4,a7,a8] h nx N [(0,e0)] R=zQN s a0 a1 a4 a7 a8 h nx N e0 R:=by kernel_rfl
theorem indexe {s:Bool} {t0 t1:Value} {h:Hp} {nx:Nat} {K:KC'}:fF Q O s zMY 68 [t0,t1] h nx K=index s t0 t1 h nx K:=by kernel_rfl
theorem indexv {s:Bool} {t0 t1:Value} {h:Hp} {nx:Nat} {K:KC'} (w:index s t0 t1 h nx K):Cv Q O s 68 [t0,t1] h nx K:=Cv.byF zMY rfl (by rw [indexe]; exact w)
def eq64L:List (List Nat):=[[0,1,4,12,13]]
def eq64l0 (s:Bool) (a0 a1 a4 a12 a13:Value) (h:Hp) (nx:Nat) (N:KVl) (e0:KVl) (R:KVl):Prop:=RK (bin Q .lss 3 a13 a12) fun x11=>IF x11 (RK (vIx (.slice 1) a0 a13) fun x12=>RK (vLd none h x12) fun x13=>RK (vIx (.slice 1) a1 a13) fun x14=>RK (vLd none h x14) fun x15=>RK (bin Q .neq 2 x13 x15) fun x16=>IF x16 (R [a0,a1,(.bool false),a12,a13] h nx) (RK (bin Q .add 3 a13 (.int .i64 1)) fun x17=>N [a0,a1,a4,a12,x17] h nx)) (e0 [a0,a1,a4,a12,a13] h nx)
def eq64 (s:Bool) (t0 t1:Value) (h:Hp) (nx:Nat) (K:KC'):Prop:=RK (lenS t0) fun x1=>RK (lenS t1) fun x2=>RK (bin Q .neq 3 x1 x2) fun x3=>IF x3 (K (.bool false) h nx) (RK (lenS t0) fun x4=>Lp (fL Q O s eq64L 30 0) [t0,t1,(.bool false),x4,(.int .i64 0)] h nx [(0,fun v7 h5 n6=>K (.bool true) h5 n6)] (fun v10 h8 n9=>K (nv v10 2) h8 n9))
theorem eq64b0 {s:Bool} {a0 a1 a4 a12 a13:Value} {h:Hp} {nx:Nat} {N e0 R:KVl}:fL Q O s eq64L 30 0 [a0,a1,a4,a12,a13] h nx N [(0,e0)] R=eq64l0 s a0 a1 a4 a12 a13 h nx N e0 R:=by kernel_rfl
theorem eq64e {s:Bool} {t0 t1:Value} {h:Hp} {nx:Nat} {K:KC'}:fF Q O s eq64L 30 [t0,t1] h nx K=eq64 s t0 t1 h nx K:=by kernel_rfl
theorem eq64v {s:Bool} {t0 t1:Value} {h:Hp} {nx:Nat} {K:KC'} (w:eq64 s t0 t1 h nx K):Cv Q O s 30 [t0,t1] h nx K:=Cv.byF eq64L rfl (by rw [eq64e]; exact w)
def zMe:List (List Nat):=[]
def zLI (s:Bool) (t0:Value) (h:Hp) (nx:Nat) (K:KC'):Prop:=RK (bin Q .eql 27 t0 (.slice none 0 0)) fun x1=>IF x1 (K (.slice none 0 0) h nx) (AR (vBsl 0 [] []) h nx fun p2 h3 n4=>EK (orR (zh 1 h3 n4 p2 t0)) fun x5 h6 n7=>K x5 h6 n7)
theorem clone64e {s:Bool} {t0:Value} {h:Hp} {nx:Nat} {K:KC'}:fF Q O s zMe 36 [t0] h nx K=zLI s t0 h nx K:=by kernel_rfl
theorem clone64v {s:Bool} {t0:Value} {h:Hp} {nx:Nat} {K:KC'} (w:zLI s t0 h nx K):Cv Q O s 36 [t0] h nx K:=Cv.byF zMe rfl (by rw [clone64e]; exact w)
def zEk:List (List Nat):=[[1,2,3],[1,2,5]]
def zLs (s:Bool) (a1 a2 a3:Value) (h:Hp) (nx:Nat) (N:KVl) (e0:KVl) (R:KVl):Prop:=RK (zO 1 a1) fun x20=>RK (vLd none h x20) fun x21=>RK (lenS x21) fun x22=>RK (bin Q .lss 3 a3 x22) fun x23=>IF x23 (RK (zO 1 a1) fun x24=>RK (vLd none h x24) fun x25=>RK (vIx (.slice 3) x25 a3) fun x26=>RK (vLd (some 3) h x26) fun x27=>AR (.ok (.ptr (.cells [(.int .i64 0),(.int .i64 0),(.int .i64 0)] false))) h nx fun p28 h29 n30=>RK (vSt h29 3 p28 x27) fun h31=>RK (zO 0 p28) fun x32=>RK (vLd none h31 x32) fun x33=>RK (bin Q .lss 3 x33 (.int .i64 0)) fun x34=>IF x34 (R [a1,(.int .i64 3),a3] h31 n30) (RK (zO 0 p28) fun x35=>RK (vLd none h31 x35) fun x36=>RK (zO 0 a1) fun x37=>RK (vLd none h31 x37) fun x38=>RK (bin Q .geq 3 x36 x38) fun x39=>IF x39 (R [a1,(.int .i64 3),a3] h31 n30) (RK (zO 1 p28) fun x40=>RK (vLd none h31 x40) fun x41=>RK (bin Q .lss 3 x41 (.int .i64 0)) fun x42=>IF x42 (R [a1,(.int .i64 3),a3] h31 n30) (RK (zO 1 p28) fun x43=>RK (vLd none h31 x43) fun x44=>RK (zO 0 a1) fun x45=>RK (vLd none h31 x45) fun x46=>RK (bin Q .geq 3 x44 x46) fun x47=>IF x47 (R [a1,(.int .i64 3),a3] h31 n30) (RK (bin Q .add 3 a3 (.int .i64 1)) fun x50=>N [a1,a2,x50] h31 n30))))) (e0 [a1,a2,a3] h nx)
def zLr (s:Bool) (a1 a2 a5:Value) (h:Hp) (nx:Nat) (N:KVl) (e2:KVl) (R:KVl):Prop:=RK (zO 1 a1) fun x57=>RK (vLd none h x57) fun x58=>RK (lenS x58) fun x59=>RK (bin Q .lss 3 a5 x59) fun x60=>IF x60 (RK (zO 1 a1) fun x61=>RK (vLd none h x61) fun x62=>RK (vIx (.slice 3) x62 a5) fun x63=>RK (zO 2 x63) fun x64=>RK (vLd none h x64) fun x65=>RK (bin Q .lss 2 x65 (.int .i64 0)) fun x66=>IF x66 (R [a1,(.int .i64 7),a5] h nx) (RK (zO 1 a1) fun x67=>RK (vLd none h x67) fun x68=>RK (vIx (.slice 3) x68 a5) fun x69=>RK (zO 2 x69) fun x70=>RK (vLd none h x70) fun x71=>RK (bin Q .gtr 2 x71 (.int .i64 2147483647)) fun x72=>IF x72 (R [a1,(.int .i64 7),a5] h nx) (RK (bin Q .add 3 a5 (.int .i64 1)) fun x75=>N [a1,a2,x75] h nx))) (e2 [a1,a2,a5] h nx)
def zIJ (s:Bool) (K:KC') (y1 y17:Value) (h0:Hp) (n0:Nat):Prop:=IF y17 (K (.int .i64 5) h0 n0) (Lp (fL Q O s zEk 27 0) [y1,(.int .i64 0),(.int .i64 0)] h0 n0 [(0,fun v16 h14 n15=>Lp (fL Q O s zEk 27 1) [(nv v16 0),(nv v16 1),(.int .i64 0)] h14 n15 [(2,fun v53 h51 n52=>K (.int .i64 0) h51 n52)] (fun v56 h54 n55=>K (nv v56 1) h54 n55))] (fun v19 h17 n18=>K (nv v19 1) h17 n18))
def zPA (s:Bool) (t0:Value) (h:Hp) (nx:Nat) (K:KC'):Prop:=AR (zZ (zF t0)) h nx fun p1 h2 n3=>RK (zO 0 p1) fun x4=>RK (vLd none h2 x4) fun x5=>RK (bin Q .lss 3 x5 (.int .i64 0)) fun x6=>IF x6 (K (.int .i64 3) h2 n3) (RK (zO 0 p1) fun x7=>RK (vLd none h2 x7) fun x8=>RK (bin Q .gtr 3 x8 (.int .i64 4096)) fun x9=>IF x9 ((zIJ s K p1 (.bool true) h2 n3)) (RK (zO 1 p1) fun x10=>RK (vLd none h2 x10) fun x11=>RK (lenS x11) fun x12=>RK (bin Q .gtr 3 x12 (.int .i64 65536)) fun x13=>(zIJ s K p1 x13 h2 n3)))
theorem rrightb0 {s:Bool} {a1 a2 a3:Value} {h:Hp} {nx:Nat} {N e0 R:KVl}:fL Q O s zEk 27 0 [a1,a2,a3] h nx N [(0,e0)] R=zLs s a1 a2 a3 h nx N e0 R:=by kernel_rfl
theorem rrightb1 {s:Bool} {a1 a2 a5:Value} {h:Hp} {nx:Nat} {N e2 R:KVl}:fL Q O s zEk 27 1 [a1,a2,a5] h nx N [(2,e2)] R=zLr s a1 a2 a5 h nx N e2 R:=by kernel_rfl
theorem rrighte {s:Bool} {t0:Value} {h:Hp} {nx:Nat} {K:KC'}:fF Q O s zEk 27 [t0] h nx K=zPA s t0 h nx K:=by kernel_rfl
theorem rrightv {s:Bool} {t0:Value} {h:Hp} {nx:Nat} {K:KC'} (w:zPA s t0 h nx K):Cv Q O s 27 [t0] h nx K:=Cv.byF zEk rfl (by rw [rrighte]; exact w)
def wayL:List (List Nat):=[[0,1,6,7,8,9]]
def wayl0 (s:Bool) (a0 a1 a6 a7 a8 a9:Value) (h:Hp) (nx:Nat) (N:KVl) (e0:KVl) (R:KVl):Prop:=RK (vIx (.slice 1) a0 a9) fun x21=>RK (vLd none h x21) fun x22=>RK (bin Q .gtr 2 x22 (.int .i64 0)) fun x23=>IF x23 (RK (vIx (.slice 1) a1 a9) fun x24=>RK (vLd none h x24) fun x25=>RK (bin Q .lss 2 x25 (.int .i64 0)) fun x26=>IF x26 (R [a0,a1,(.slice none 0 0),a7,a8,a9] h nx) (RK (bin Q .geq 2 x25 a7) fun x27=>IF x27 (R [a0,a1,(.slice none 0 0),a7,a8,a9] h nx) (RK (vIx (.slice 1) a0 x25) fun x28=>RK (vLd none h x28) fun x29=>RK (vIx (.slice 1) a0 a9) fun x30=>RK (vLd none h x30) fun x31=>RK (bin Q .sub 2 x31 (.int .i64 1)) fun x32=>RK (bin Q .neq 2 x29 x32) fun x33=>IF x33 (R [a0,a1,(.slice none 0 0),a7,a8,a9] h nx) (AR (vBsl 1 [(.int .i64 0)] [(0,1,x25)]) h nx fun p46 h47 n48=>EK (orR (zh 1 h47 n48 a8 p46)) fun x49 h50 n51=>N [a0,a1,a6,a7,x49,x25] h50 n51)))) (e0 [a0,a1,a6,a7,a8,a9] h nx)
def zIp (s:Bool) (K:KC') (y0 y1 y2 y7 y37:Value) (h0:Hp) (n0:Nat):Prop:=IF y37 (K (.slice none 0 0) h0 n0) (AR (vBsl 1 [(.int .i64 0)] [(0,1,y2)]) h0 n0 fun p12 h13 n14=>Lp (fL Q O s wayL 37 0) [y0,y1,(.slice none 0 0),y7,p12,y2] h13 n14 [(0,fun v17 h15 n16=>Cv Q O s 53 [(nv v17 4)] h15 n16 fun x52 h53 n54=>K (nv v17 4) h53 n54)] (fun v20 h18 n19=>K (nv v20 2) h18 n19))
def way (s:Bool) (t0 t1 t2:Value) (h:Hp) (nx:Nat) (K:KC'):Prop:=RK (lenS t0) fun x1=>RK (lenS t1) fun x2=>RK (min2 true x1 x2) fun x3=>RK (bin Q .lss 3 t2 (.int .i64 0)) fun x4=>IF x4 ((zIp s K t0 t1 t2 x3 (.bool true) h nx)) (RK (bin Q .geq 3 t2 x3) fun x5=>IF x5 ((zIp s K t0 t1 t2 x3 (.bool true) h nx)) (RK (vIx (.slice 1) t0 t2) fun x6=>RK (vLd none h x6) fun x7=>RK (bin Q .lss 2 x7 (.int .i64 0)) fun x8=>IF x8 ((zIp s K t0 t1 t2 x3 (.bool true) h nx)) (RK (vIx (.slice 1) t0 t2) fun x9=>RK (vLd none h x9) fun x10=>RK (bin Q .geq 2 x10 x3) fun x11=>(zIp s K t0 t1 t2 x3 x11 h nx))))
theorem wayb0 {s:Bool} {a0 a1 a6 a7 a8 a9:Value} {h:Hp} {nx:Nat} {N e0 R:KVl}:fL Q O s wayL 37 0 [a0,a1,a6,a7,a8,a9] h nx N [(0,e0)] R=wayl0 s a0 a1 a6 a7 a8 a9 h nx N e0 R:=by kernel_rfl
theorem waye {s:Bool} {t0 t1 t2:Value} {h:Hp} {nx:Nat} {K:KC'}:fF Q O s wayL 37 [t0,t1,t2] h nx K=way s t0 t1 t2 h nx K:=by kernel_rfl
theorem wayv {s:Bool} {t0 t1 t2:Value} {h:Hp} {nx:Nat} {K:KC'} (w:way s t0 t1 t2 h nx K):Cv Q O s 37 [t0,t1,t2] h nx K:=Cv.byF wayL rfl (by rw [waye]; exact w)
def rwayL:List (List Nat):=[[0,1,6,7,8,9]]
def rwayl0 (s:Bool) (a0 a1 a6 a7 a8 a9:Value) (h:Hp) (nx:Nat) (N:KVl) (R:KVl):Prop:=RK (bin Q .lss 3 a8 (.int .i64 0)) fun x12=>IF x12 (R [a0,a1,(.slice none 0 0),a7,a8,a9] h nx) (RK (lenS a0) fun x13=>RK (bin Q .geq 3 a8 x13) fun x14=>IF x14 (R [a0,a1,(.slice none 0 0),a7,a8,a9] h nx) (RK (lenS a1) fun x15=>RK (bin Q .geq 3 a8 x15) fun x16=>IF x16 (R [a0,a1,(.slice none 0 0),a7,a8,a9] h nx) (RK (vIx (.slice 1) a0 a8) fun x17=>RK (vLd none h x17) fun x18=>RK (bin Q .neq 2 x18 a9) fun x19=>IF x19 (R [a0,a1,(.slice none 0 0),a7,a8,a9] h nx) (AR (vBsl 1 [(.int .i64 0)] [(0,1,a8)]) h nx fun p20 h21 n22=>EK (orR (zh 1 h21 n22 p20 a7)) fun x23 h24 n25=>RK (bin Q .eql 2 a9 (.int .i64 0)) fun x26=>IF x26 (R [a0,a1,x23,x23,a8,a9] h24 n25) (RK (vIx (.slice 1) a1 a8) fun x27=>RK (vLd none h24 x27) fun x28=>RK (bin Q .lss 2 x28 (.int .i64 0)) fun x29=>IF x29 (R [a0,a1,(.slice none 0 0),x23,a8,a9] h24 n25) (RK (vIx (.slice 1) a1 a8) fun x30=>RK (vLd none h24 x30) fun x31=>RK (lenS a0) fun x32=>RK (bin Q .geq 2 x31 x32) fun x33=>IF x33 (R [a0,a1,(.slice none 0 0),x23,a8,a9] h24 n25) (RK (vIx (.slice 1) a1 a8) fun x34=>RK (vLd none h24 x34) fun x35=>RK (bin Q .sub 2 a9 (.int .i64 1)) fun x40=>N [a0,a1,a6,x23,x35,x40] h24 n25)))))))
def zGL (s:Bool) (K:KC') (y0 y1 y2 y25:Value) (h0:Hp) (n0:Nat):Prop:=IF y25 (K (.slice none 0 0) h0 n0) (RK (vIx (.slice 1) y0 y2) fun x7=>RK (vLd none h0 x7) fun x8=>Lp (fL Q O s rwayL 39 0) [y0,y1,(.slice none 0 0),(.slice none 0 0),y2,x8] h0 n0 [] (fun v11 h9 n10=>K (nv v11 2) h9 n10))
def rway (s:Bool) (t0 t1 t2:Value) (h:Hp) (nx:Nat) (K:KC'):Prop:=RK (bin Q .lss 3 t2 (.int .i64 0)) fun x1=>IF x1 ((zGL s K t0 t1 t2 (.bool true) h nx)) (RK (lenS t0) fun x2=>RK (bin Q .geq 3 t2 x2) fun x3=>IF x3 ((zGL s K t0 t1 t2 (.bool true) h nx)) (RK (vIx (.slice 1) t0 t2) fun x4=>RK (vLd none h x4) fun x5=>RK (bin Q .lss 2 x5 (.int .i64 0)) fun x6=>(zGL s K t0 t1 t2 x6 h nx)))
theorem rwayb0 {s:Bool} {a0 a1 a6 a7 a8 a9:Value} {h:Hp} {nx:Nat} {N R:KVl}:fL Q O s rwayL 39 0 [a0,a1,a6,a7,a8,a9] h nx N [] R=rwayl0 s a0 a1 a6 a7 a8 a9 h nx N R:=by kernel_rfl
theorem rwaye {s:Bool} {t0 t1 t2:Value} {h:Hp} {nx:Nat} {K:KC'}:fF Q O s rwayL 39 [t0,t1,t2] h nx K=rway s t0 t1 t2 h nx K:=by kernel_rfl
theorem rwayv {s:Bool} {t0 t1 t2:Value} {h:Hp} {nx:Nat} {K:KC'} (w:rway s t0 t1 t2 h nx K):Cv Q O s 39 [t0,t1,t2] h nx K:=Cv.byF rwayL rfl (by rw [rwaye]; exact w)
def zLm:List (List Nat):=[[0,1,4,5]]
def zOr (s:Bool) (a0 a1 a4 a5:Value) (h:Hp) (nx:Nat) (N:KVl) (e0:KVl) (R:KVl):Prop:=RK (lenS a0) fun x10=>RK (bin Q .lss 3 a5 x10) fun x11=>IF x11 (RK (vIx (.slice 1) a0 a5) fun x12=>RK (vLd none h x12) fun x13=>RK (vIx (.slice 1) a1 a5) fun x14=>RK (vLd none h x14) fun x15=>RK (bin Q .neq 3 x13 x15) fun x16=>IF x16 (R [a0,a1,(.bool false),a5] h nx) (RK (bin Q .add 3 a5 (.int .i64 1)) fun x17=>N [a0,a1,a4,x17] h nx)) (e0 [a0,a1,a4,a5] h nx)
def samei (s:Bool) (t0 t1:Value) (h:Hp) (nx:Nat) (K:KC'):Prop:=RK (lenS t0) fun x1=>RK (lenS t1) fun x2=>RK (bin Q .neq 3 x1 x2) fun x3=>IF x3 (K (.bool false) h nx) (Lp (fL Q O s zLm 17 0) [t0,t1,(.bool false),(.int .i64 0)] h nx [(0,fun v6 h4 n5=>K (.bool true) h4 n5)] (fun v9 h7 n8=>K (nv v9 2) h7 n8))
theorem sameib0 {s:Bool} {a0 a1 a4 a5:Value} {h:Hp} {nx:Nat} {N e0 R:KVl}:fL Q O s zLm 17 0 [a0,a1,a4,a5] h nx N [(0,e0)] R=zOr s a0 a1 a4 a5 h nx N e0 R:=by kernel_rfl
theorem sameie {s:Bool} {t0 t1:Value} {h:Hp} {nx:Nat} {K:KC'}:fF Q O s zLm 17 [t0,t1] h nx K=samei s t0 t1 h nx K:=by kernel_rfl
theorem sameiv {s:Bool} {t0 t1:Value} {h:Hp} {nx:Nat} {K:KC'} (w:samei s t0 t1 h nx K):Cv Q O s 17 [t0,t1] h nx K:=Cv.byF zLm rfl (by rw [sameie]; exact w)
def zLl:List (List Nat):=[[0,1,4,5]]
def zOq (s:Bool) (a0 a1 a4 a5:Value) (h:Hp) (nx:Nat) (N:KVl) (e0:KVl) (R:KVl):Prop:=RK (lenS a0) fun x10=>RK (bin Q .lss 3 a5 x10) fun x11=>IF x11 (RK (vIx (.slice 1) a0 a5) fun x12=>RK (vLd none h x12) fun x13=>RK (vIx (.slice 1) a1 a5) fun x14=>RK (vLd none h x14) fun x15=>RK (bin Q .neq 2 x13 x15) fun x16=>IF x16 (R [a0,a1,(.bool false),a5] h nx) (RK (bin Q .add 3 a5 (.int .i64 1)) fun x17=>N [a0,a1,a4,x17] h nx)) (e0 [a0,a1,a4,a5] h nx)
def samev (s:Bool) (t0 t1:Value) (h:Hp) (nx:Nat) (K:KC'):Prop:=RK (lenS t0) fun x1=>RK (lenS t1) fun x2=>RK (bin Q .neq 3 x1 x2) fun x3=>IF x3 (K (.bool false) h nx) (Lp (fL Q O s zLl 23 0) [t0,t1,(.bool false),(.int .i64 0)] h nx [(0,fun v6 h4 n5=>K (.bool true) h4 n5)] (fun v9 h7 n8=>K (nv v9 2) h7 n8))
theorem samevb0 {s:Bool} {a0 a1 a4 a5:Value} {h:Hp} {nx:Nat} {N e0 R:KVl}:fL Q O s zLl 23 0 [a0,a1,a4,a5] h nx N [(0,e0)] R=zOq s a0 a1 a4 a5 h nx N e0 R:=by kernel_rfl
theorem sameve {s:Bool} {t0 t1:Value} {h:Hp} {nx:Nat} {K:KC'}:fF Q O s zLl 23 [t0,t1] h nx K=samev s t0 t1 h nx K:=by kernel_rfl
theorem samevv {s:Bool} {t0 t1:Value} {h:Hp} {nx:Nat} {K:KC'} (w:samev s t0 t1 h nx K):Cv Q O s 23 [t0,t1] h nx K:=Cv.byF zLl rfl (by rw [sameve]; exact w)
def revL:List (List Nat):=[[0,2,3]]
def revl0 (s:Bool) (a0 a2 a3:Value) (h:Hp) (nx:Nat) (N:KVl) (e0:KVl) (R:KVl):Prop:=RK (bin Q .lss 3 a2 a3) fun x6=>IF x6 (RK (vIx (.slice 1) a0 a3) fun x7=>RK (vLd none h x7) fun x8=>RK (vIx (.slice 1) a0 a2) fun x9=>RK (vLd none h x9) fun x10=>RK (vIx (.slice 1) a0 a2) fun x11=>RK (vSt h 1 x11 x8) fun h12=>RK (vIx (.slice 1) a0 a3) fun x13=>RK (vSt h12 1 x13 x10) fun h14=>RK (bin Q .add 3 a2 (.int .i64 1)) fun x15=>RK (bin Q .sub 3 a3 (.int .i64 1)) fun x16=>N [a0,x15,x16] h14 nx) (e0 [a0,a2,a3] h nx)
def rev (s:Bool) (t0:Value) (h:Hp) (nx:Nat) (K:KC'):Prop:=RK (lenS t0) fun x1=>RK (bin Q .sub 3 x1 (.int .i64 1)) fun x2=>Lp (fL Q O s revL 53 0) [t0,(.int .i64 0),x2] h nx [(0,fun v5 h3 n4=>K (.tuple ⟨[]⟩) h3 n4)] (fun _ _ _=>False)
theorem revb0 {s:Bool} {a0 a2 a3:Value} {h:Hp} {nx:Nat} {N e0 R:KVl}:fL Q O s revL 53 0 [a0,a2,a3] h nx N [(0,e0)] R=revl0 s a0 a2 a3 h nx N e0 R:=by kernel_rfl
theorem reve {s:Bool} {t0:Value} {h:Hp} {nx:Nat} {K:KC'}:fF Q O s revL 53 [t0] h nx K=rev s t0 h nx K:=by kernel_rfl
theorem revv {s:Bool} {t0:Value} {h:Hp} {nx:Nat} {K:KC'} (w:rev s t0 h nx K):Cv Q O s 53 [t0] h nx K:=Cv.byF revL rfl (by rw [reve]; exact w)
def canonL:List (List Nat):=[]
def canon (s:Bool) (t0:Value) (h:Hp) (nx:Nat) (K:KC'):Prop:=AR (zZ (zF t0)) h nx fun p1 h2 n3=>AR (.ok (.ptr (.cells [(.int .i64 0),(.slice none 0 0)] false))) h2 n3 fun p4 h5 n6=>RK (zO 1 p1) fun x7=>RK (vLd none h5 x7) fun x8=>Cv Q O s 43 [(.int .i64 1),x8] h5 n6 fun x9 h10 n11=>RK (zo x9 0) fun x12=>RK (zo x9 1) fun x13=>RK (zO 0 p1) fun x14=>RK (vLd none h10 x14) fun x15=>RK (vBld [(.int .i64 0),(.slice none 0 0)] [(0,1,x15),(1,1,x12)]) fun x16=>RK (vSt h10 2 p4 x16) fun h17=>RK (vLd (some 2) h17 p4) fun x18=>K x18 h17 n11
theorem canone {s:Bool} {t0:Value} {h:Hp} {nx:Nat} {K:KC'}:fF Q O s canonL 26 [t0] h nx K=canon s t0 h nx K:=by kernel_rfl
theorem canonv {s:Bool} {t0:Value} {h:Hp} {nx:Nat} {K:KC'} (w:canon s t0 h nx K):Cv Q O s 26 [t0] h nx K:=Cv.byF canonL rfl (by rw [canone]; exact w)
def zPT:List (List Nat):=[]
def zPU (s:Bool) (t0:Value) (h:Hp) (nx:Nat) (K:KC'):Prop:=AR (zZ (zF t0)) h nx fun p1 h2 n3=>AR (.ok (.ptr (.cells [(.int .i64 0),(.slice none 0 0)] false))) h2 n3 fun p4 h5 n6=>RK (zO 1 p1) fun x7=>RK (vLd none h5 x7) fun x8=>Cv Q O s 51 [(.int .i64 1),x8] h5 n6 fun x9 h10 n11=>RK (zo x9 0) fun x12=>RK (zo x9 1) fun x13=>RK (zO 0 p1) fun x14=>RK (vLd none h10 x14) fun x15=>RK (vBld [(.int .i64 0),(.slice none 0 0)] [(0,1,x15),(1,1,x12)]) fun x16=>RK (vSt h10 2 p4 x16) fun h17=>RK (vLd (some 2) h17 p4) fun x18=>K x18 h17 n11
theorem rcanone {s:Bool} {t0:Value} {h:Hp} {nx:Nat} {K:KC'}:fF Q O s zPT 34 [t0] h nx K=zPU s t0 h nx K:=by kernel_rfl
theorem rcanonv {s:Bool} {t0:Value} {h:Hp} {nx:Nat} {K:KC'} (w:zPU s t0 h nx K):Cv Q O s 34 [t0] h nx K:=Cv.byF zPT rfl (by rw [rcanone]; exact w)
def smeL:List (List Nat):=[[0,1,4,5]]
def smel0 (s:Bool) (a0 a1 a4 a5:Value) (h:Hp) (nx:Nat) (N:KVl) (e0:KVl) (R:KVl):Prop:=RK (lenS a0) fun x10=>RK (bin Q .lss 3 a5 x10) fun x11=>IF x11 (RK (vIx (.slice 3) a0 a5) fun x12=>RK (vLd (some 3) h x12) fun x13=>RK (vIx (.slice 3) a1 a5) fun x14=>RK (vLd (some 3) h x14) fun x15=>RK (bin Q .neq 52 x13 x15) fun x16=>IF x16 (R [a0,a1,(.bool false),a5] h nx) (RK (bin Q .add 3 a5 (.int .i64 1)) fun x17=>N [a0,a1,a4,x17] h nx)) (e0 [a0,a1,a4,a5] h nx)
def sme (s:Bool) (t0 t1:Value) (h:Hp) (nx:Nat) (K:KC'):Prop:=RK (lenS t0) fun x1=>RK (lenS t1) fun x2=>RK (bin Q .neq 3 x1 x2) fun x3=>IF x3 (K (.bool false) h nx) (Lp (fL Q O s smeL 14 0) [t0,t1,(.bool false),(.int .i64 0)] h nx [(0,fun v6 h4 n5=>K (.bool true) h4 n5)] (fun v9 h7 n8=>K (nv v9 2) h7 n8))
theorem smeb0 {s:Bool} {a0 a1 a4 a5:Value} {h:Hp} {nx:Nat} {N e0 R:KVl}:fL Q O s smeL 14 0 [a0,a1,a4,a5] h nx N [(0,e0)] R=smel0 s a0 a1 a4 a5 h nx N e0 R:=by kernel_rfl
theorem smee {s:Bool} {t0 t1:Value} {h:Hp} {nx:Nat} {K:KC'}:fF Q O s smeL 14 [t0,t1] h nx K=sme s t0 t1 h nx K:=by kernel_rfl
theorem smev {s:Bool} {t0 t1:Value} {h:Hp} {nx:Nat} {K:KC'} (w:sme s t0 t1 h nx K):Cv Q O s 14 [t0,t1] h nx K:=Cv.byF smeL rfl (by rw [smee]; exact w)
def zCo:List (List Nat):=[[0,1,4,5,6,7,8],[0,1,4,5,6,7,8,9],[0,1,4,5,6,7,8,9,10,11],[4,5,6,7,12]]
def zPR (s:Bool) (a0 a1 a4 a5 a6 a7 a8 a9:Value) (h:Hp) (nx:Nat) (N:KVl) (e2:KVl) (R:KVl):Prop:=RK (lenS a6) fun x13=>RK (bin Q .lss 3 a9 x13) fun x14=>IF x14 (RK (vIx (.slice 3) a6 a9) fun x15=>RK (vLd (some 3) h x15) fun x16=>RK (vIx (.slice 3) a1 a8) fun x17=>RK (vLd (some 3) h x17) fun x18=>Cv Q O true 70 [x16,x18] h nx fun x19 h20 n21=>nx≤n21∧IF x19 (RK (bin Q .add 3 a9 (.int .i64 1)) fun x23=>N [a0,a1,a4,a5,a6,a7,a8,x23] h20 n21) (e2 [a0,a1,a4,a5,a6,a7,a8,a9] h20 n21)) (e2 [a0,a1,a4,a5,a6,a7,a8,a9] h nx)
def zPQ (s:Bool) (a0 a1 a4 a5 a6 a7 a8 a9 a10 a11:Value) (h:Hp) (nx:Nat) (N:KVl) (e4:KVl) (R:KVl):Prop:=RK (bin Q .gtr 3 a11 a9) fun x71=>IF x71 (RK (bin Q .sub 3 a11 (.int .i64 1)) fun x72=>RK (vIx (.slice 3) a6 x72) fun x73=>RK (vLd (some 3) h x73) fun x74=>RK (vIx (.slice 3) a6 a11) fun x75=>RK (vSt h 3 x75 x74) fun h76=>RK (bin Q .sub 3 a11 (.int .i64 1)) fun x77=>RK (vIx (.slice 2) a7 x77) fun x78=>RK (vLd (some 2) h76 x78) fun x79=>RK (vIx (.slice 2) a7 a11) fun x80=>RK (vSt h76 2 x80 x79) fun h81=>RK (bin Q .sub 3 a11 (.int .i64 1)) fun x82=>N [a0,a1,a4,a5,a6,a7,a8,a9,a10,x82] h81 nx) (e4 [a0,a1,a4,a5,a6,a7,a8,a9,a10,a11] h nx)
def zEo (s:Bool) (N:KVl) (e0:KVl) (R:KVl) (y0 y1 y4 y5 y6 y7 y8:Value) (h0:Hp) (n0:Nat):Prop:=RK (bin Q .add 3 y8 (.int .i64 1)) fun x126=>N [y0,y1,y4,y5,y6,y7,x126] h0 n0
def zPS (s:Bool) (a0 a1 a4 a5 a6 a7 a8:Value) (h:Hp) (nx:Nat) (N:KVl) (e0:KVl) (R:KVl):Prop:=RK (lenS a1) fun x8=>RK (bin Q .lss 3 a8 x8) fun x9=>IF x9 (Lp (fL Q O s zCo 51 1) [a0,a1,a4,a5,a6,a7,a8,(.int .i64 0)] h nx [(2,fun v12 h10 n11=>RK (vIx (.slice 3) (nv v12 1) (nv v12 6)) fun x24=>RK (zO 2 x24) fun x25=>RK (vLd none h10 x25) fun x26=>Cv Q O s 71 [x26] h10 n11 fun x27 h28 n29=>AR (.ok (.ptr (.cells [(.int .i64 0),(.int .u64 0)] false))) h28 n29 fun p30 h31 n32=>RK (vSt h31 2 p30 x27) fun h33=>RK (lenS (nv v12 4)) fun x34=>RK (bin Q .lss 3 (nv v12 7) x34) fun x35=>IF x35 (RK (vIx (.slice 3) (nv v12 1) (nv v12 6)) fun x36=>RK (vLd (some 3) h33 x36) fun x37=>RK (vIx (.slice 3) (nv v12 4) (nv v12 7)) fun x38=>RK (vLd (some 3) h33 x38) fun x39=>Cv Q O true 70 [x37,x39] h33 n32 fun x40 h41 n42=>n32≤n42∧RK (oUn .not x40) fun x43=>IF x43 (RK (vIx (.slice 2) (nv v12 5) (nv v12 7)) fun x44=>RK (vLd (some 2) h41 x44) fun x45=>RK (vLd (some 2) h41 p30) fun x46=>Cv Q O true 72 [(nv v12 0),x45,x46] h41 n42 fun x47 h48 n49=>n42≤n49∧RK (vIx (.slice 2) (nv v12 5) (nv v12 7)) fun x50=>RK (vSt h48 2 x50 x47) fun h51=>(zEo s N e0 R (nv v12 0) (nv v12 1) (nv v12 2) (nv v12 3) (nv v12 4) (nv v12 5) (nv v12 6) h51 n49)) (RK (vBld [(.int .i64 0),(.int .i64 0),(.int .i64 0)] []) fun x52=>AR (vBsl 1 [(.int .i64 0),(.int .i64 0),(.int .i64 0)] [(0,3,x52)]) h41 n42 fun p53 h54 n55=>EK (orR (zh 3 h54 n55 (nv v12 4) p53)) fun x56 h57 n58=>RK (vBld [(.int .i64 0),(.int .u64 0)] []) fun x59=>AR (vBsl 1 [(.int .i64 0),(.int .u64 0)] [(0,2,x59)]) h57 n58 fun p60 h61 n62=>EK (orR (zh 2 h61 n62 (nv v12 5) p60)) fun x63 h64 n65=>RK (lenS x56) fun x66=>RK (bin Q .sub 3 x66 (.int .i64 1)) fun x67=>Lp (fL Q O s zCo 51 2) [(nv v12 0),(nv v12 1),(nv v12 2),(nv v12 3),x56,x63,(nv v12 6),(nv v12 7),p30,x67] h64 n65 [(4,fun v70 h68 n69=>RK (vIx (.slice 3) (nv v70 1) (nv v70 6)) fun x83=>RK (zO 0 x83) fun x84=>RK (vLd none h68 x84) fun x85=>RK (vIx (.slice 3) (nv v70 1) (nv v70 6)) fun x86=>RK (zO 1 x86) fun x87=>RK (vLd none h68 x87) fun x88=>RK (vBld [(.int .i64 0),(.int .i64 0),(.int .i64 0)] [(0,1,x85),(1,1,x88)]) fun x89=>RK (vIx (.slice 3) (nv v70 4) (nv v70 7)) fun x90=>RK (vSt h68 3 x90 x89) fun h91=>RK (vLd (some 2) h91 (nv v70 8)) fun x92=>RK (vIx (.slice 2) (nv v70 5) (nv v70 7)) fun x93=>RK (vSt h91 2 x93 x92) fun h94=>(zEo s N e0 R (nv v70 0) (nv v70 1) (nv v70 2) (nv v70 3) (nv v70 4) (nv v70 5) (nv v70 6) h94 n69))] (fun _ _ _=>False))) (RK (vBld [(.int .i64 0),(.int .i64 0),(.int .i64 0)] []) fun x95=>AR (vBsl 1 [(.int .i64 0),(.int .i64 0),(.int .i64 0)] [(0,3,x95)]) h33 n32 fun p96 h97 n98=>EK (orR (zh 3 h97 n98 (nv v12 4) p96)) fun x99 h100 n101=>RK (vBld [(.int .i64 0),(.int .u64 0)] []) fun x102=>AR (vBsl 1 [(.int .i64 0),(.int .u64 0)] [(0,2,x102)]) h100 n101 fun p103 h104 n105=>EK (orR (zh 2 h104 n105 (nv v12 5) p103)) fun x106 h107 n108=>RK (lenS x99) fun x109=>RK (bin Q .sub 3 x109 (.int .i64 1)) fun x110=>Lp (fL Q O s zCo 51 2) [(nv v12 0),(nv v12 1),(nv v12 2),(nv v12 3),x99,x106,(nv v12 6),(nv v12 7),p30,x110] h107 n108 [(4,fun v113 h111 n112=>RK (vIx (.slice 3) (nv v113 1) (nv v113 6)) fun x114=>RK (zO 0 x114) fun x115=>RK (vLd none h111 x115) fun x116=>RK (vIx (.slice 3) (nv v113 1) (nv v113 6)) fun x117=>RK (zO 1 x117) fun x118=>RK (vLd none h111 x118) fun x119=>RK (vBld [(.int .i64 0),(.int .i64 0),(.int .i64 0)] [(0,1,x116),(1,1,x119)]) fun x120=>RK (vIx (.slice 3) (nv v113 4) (nv v113 7)) fun x121=>RK (vSt h111 3 x121 x120) fun h122=>RK (vLd (some 2) h122 (nv v113 8)) fun x123=>RK (vIx (.slice 2) (nv v113 5) (nv v113 7)) fun x124=>RK (vSt h122 2 x124 x123) fun h125=>(zEo s N e0 R (nv v113 0) (nv v113 1) (nv v113 2) (nv v113 3) (nv v113 4) (nv v113 5) (nv v113 6) h125 n112))] (fun _ _ _=>False)))] (fun _ _ _=>False)) (e0 [a0,a1,a4,a5,a6,a7,a8] h nx)
def zPP (s:Bool) (a4 a5 a6 a7 a12:Value) (h:Hp) (nx:Nat) (N:KVl) (e6:KVl) (R:KVl):Prop:=RK (lenS a6) fun x133=>RK (bin Q .lss 3 a12 x133) fun x134=>IF x134 (RK (vIx (.slice 2) a7 a12) fun x135=>RK (vLd (some 2) h x135) fun x136=>Cv Q O s 73 [x136] h nx fun x137 h138 n139=>RK (zo x137 0) fun x140=>RK (zo x137 1) fun x141=>RK (oUn .not x141) fun x142=>IF x142 (R [(.slice none 0 0),(.int .i64 12),a6,a7,a12] h138 n139) (RK (vIx (.slice 3) a6 a12) fun x143=>RK (zO 2 x143) fun x144=>RK (vSt h138 1 x144 x140) fun h145=>RK (bin Q .add 3 a12 (.int .i64 1)) fun x146=>N [a4,a5,a6,a7,x146] h145 n139)) (e6 [a4,a5,a6,a7,a12] h nx)
def rcomb (s:Bool) (t0 t1:Value) (h:Hp) (nx:Nat) (K:KC'):Prop:=Cv Q O s 69 [t0] h nx fun x1 h2 n3=>RK (oUn .not x1) fun x4=>IF x4 (K (.tuple ⟨[(.slice none 0 0),(.int .i64 8)]⟩) h2 n3) (Lp (fL Q O s zCo 51 0) [t0,t1,(.slice none 0 0),(.int .i64 0),(.slice none 0 0),(.slice none 0 0),(.int .i64 0)] h2 n3 [(0,fun v7 h5 n6=>Lp (fL Q O s zCo 51 3) [(nv v7 2),(nv v7 3),(nv v7 4),(nv v7 5),(.int .i64 0)] h5 n6 [(6,fun v129 h127 n128=>K (.tuple ⟨[(nv v129 2),(.int .i64 0)]⟩) h127 n128)] (fun v132 h130 n131=>K (.tuple ⟨[(nv v132 0),(nv v132 1)]⟩) h130 n131))] (fun _ _ _=>False))
theorem rcombb1 {s:Bool} {a0 a1 a4 a5 a6 a7 a8 a9:Value} {h:Hp} {nx:Nat} {N e2 R:KVl}:fL Q O s zCo 51 1 [a0,a1,a4,a5,a6,a7,a8,a9] h nx N [(2,e2)] R=zPR s a0 a1 a4 a5 a6 a7 a8 a9 h nx N e2 R:=by kernel_rfl
theorem rcombb2 {s:Bool} {a0 a1 a4 a5 a6 a7 a8 a9 a10 a11:Value} {h:Hp} {nx:Nat} {N e4 R:KVl}:fL Q O s zCo 51 2 [a0,a1,a4,a5,a6,a7,a8,a9,a10,a11] h nx N [(4,e4)] R=zPQ s a0 a1 a4 a5 a6 a7 a8 a9 a10 a11 h nx N e4 R:=by kernel_rfl
theorem rcombb0 {s:Bool} {a0 a1 a4 a5 a6 a7 a8:Value} {h:Hp} {nx:Nat} {N e0 R:KVl}:fL Q O s zCo 51 0 [a0,a1,a4,a5,a6,a7,a8] h nx N [(0,e0)] R=zPS s a0 a1 a4 a5 a6 a7 a8 h nx N e0 R:=by kernel_rfl
theorem rcombb3 {s:Bool} {a4 a5 a6 a7 a12:Value} {h:Hp} {nx:Nat} {N e6 R:KVl}:fL Q O s zCo 51 3 [a4,a5,a6,a7,a12] h nx N [(6,e6)] R=zPP s a4 a5 a6 a7 a12 h nx N e6 R:=by kernel_rfl
theorem rcombe {s:Bool} {t0 t1:Value} {h:Hp} {nx:Nat} {K:KC'}:fF Q O s zCo 51 [t0,t1] h nx K=rcomb s t0 t1 h nx K:=by kernel_rfl
theorem rcombv {s:Bool} {t0 t1:Value} {h:Hp} {nx:Nat} {K:KC'} (w:rcomb s t0 t1 h nx K):Cv Q O s 51 [t0,t1] h nx K:=Cv.byF zCo rfl (by rw [rcombe]; exact w)
def risL:List (List Nat):=[]
def ris (s:Bool) (t0:Value) (h:Hp) (nx:Nat) (K:KC'):Prop:=RK (bin Q .geq 80 t0 (.int .i64 1)) fun x1=>IF x1 (RK (bin Q .leq 80 t0 (.int .i64 5)) fun x2=>K x2 h nx) (K (.bool false) h nx)
theorem rise {s:Bool} {t0:Value} {h:Hp} {nx:Nat} {K:KC'}:fF Q O s risL 69 [t0] h nx K=ris s t0 h nx K:=by kernel_rfl
theorem risv {s:Bool} {t0:Value} {h:Hp} {nx:Nat} {K:KC'} (w:ris s t0 h nx K):Cv Q O s 69 [t0] h nx K:=Cv.byF risL rfl (by rw [rise]; exact w)
def belowL:List (List Nat):=[]
def below (s:Bool) (t0 t1:Value) (h:Hp) (nx:Nat) (K:KC'):Prop:=AR (zZ (zF t0)) h nx fun p1 h2 n3=>AR (zZ (zF t1)) h2 n3 fun p4 h5 n6=>RK (zO 0 p1) fun x7=>RK (vLd none h5 x7) fun x8=>RK (zO 0 p4) fun x9=>RK (vLd none h5 x9) fun x10=>RK (bin Q .lss 3 x8 x10) fun x11=>IF x11 (K (.bool true) h5 n6) (RK (zO 0 p1) fun x12=>RK (vLd none h5 x12) fun x13=>RK (zO 0 p4) fun x14=>RK (vLd none h5 x14) fun x15=>RK (bin Q .eql 3 x13 x15) fun x16=>IF x16 (RK (zO 1 p1) fun x17=>RK (vLd none h5 x17) fun x18=>RK (zO 1 p4) fun x19=>RK (vLd none h5 x19) fun x20=>RK (bin Q .lss 3 x18 x20) fun x21=>K x21 h5 n6) (K (.bool false) h5 n6))
theorem belowe {s:Bool} {t0 t1:Value} {h:Hp} {nx:Nat} {K:KC'}:fF Q O s belowL 70 [t0,t1] h nx K=below s t0 t1 h nx K:=by kernel_rfl
theorem belowv {s:Bool} {t0 t1:Value} {h:Hp} {nx:Nat} {K:KC'} (w:below s t0 t1 h nx K):Cv Q O s 70 [t0,t1] h nx K:=Cv.byF belowL rfl (by rw [belowe]; exact w)
def rofL:List (List Nat):=[]
def rof (s:Bool) (t0:Value) (h:Hp) (nx:Nat) (K:KC'):Prop:=AR (.ok (.ptr (.cells [(.int .i64 0),(.int .u64 0)] false))) h nx fun p1 h2 n3=>RK (bin Q .lss 2 t0 (.int .i64 0)) fun x4=>IF x4 (RK (zD7 (.int .u64) t0) fun x5=>RK (vBld [(.int .i64 0),(.int .u64 0)] [(0,1,(.int .i64 (-1))),(1,1,x5)]) fun x6=>RK (vSt h2 2 p1 x6) fun h7=>RK (vLd (some 2) h7 p1) fun x8=>K x8 h7 n3) (RK (zD7 (.int .u64) t0) fun x9=>RK (vBld [(.int .i64 0),(.int .u64 0)] [(1,1,x9)]) fun x10=>RK (vSt h2 2 p1 x10) fun h11=>RK (vLd (some 2) h11 p1) fun x12=>K x12 h11 n3)
theorem rofe {s:Bool} {t0:Value} {h:Hp} {nx:Nat} {K:KC'}:fF Q O s rofL 71 [t0] h nx K=rof s t0 h nx K:=by kernel_rfl
theorem rofv {s:Bool} {t0:Value} {h:Hp} {nx:Nat} {K:KC'} (w:rof s t0 h nx K):Cv Q O s 71 [t0] h nx K:=Cv.byF rofL rfl (by rw [rofe]; exact w)
def raddL:List (List Nat):=[]
def zMB (s:Bool) (K:KC') (y4 y5 y6 y7 y9:Value) (h0:Hp) (n0:Nat):Prop:=IF y9 (RK (vLd (some 2) h0 y5) fun x13=>RK (vLd (some 2) h0 y4) fun x14=>Cv Q O s 97 [x13,x14] h0 n0 fun x15 h16 n17=>RK (bin Q .lss 3 x15 (.int .i64 0)) fun x18=>IF x18 (RK (vLd (some 2) h16 y5) fun x19=>RK (vSt h16 2 y6 x19) fun h20=>RK (vLd (some 2) h20 y6) fun x21=>K x21 h20 n17) (RK (vLd (some 2) h16 y4) fun x22=>RK (vSt h16 2 y6 x22) fun h23=>RK (vLd (some 2) h23 y6) fun x24=>K x24 h23 n17)) (RK (bin Q .eql 80 y7 (.int .i64 2)) fun x25=>IF x25 (RK (vLd (some 2) h0 y4) fun x26=>RK (vBld [(.int .i64 0),(.int .u64 0)] []) fun x27=>RK (bin Q .neq 108 x26 x27) fun x28=>IF x28 (Cv Q O s 98 [(.bool true)] h0 n0 fun x29 h30 n31=>RK (vSt h30 2 y6 x29) fun h32=>RK (vLd (some 2) h32 y6) fun x41=>K x41 h32 n31) (RK (vLd (some 2) h0 y5) fun x33=>RK (vBld [(.int .i64 0),(.int .u64 0)] []) fun x34=>RK (bin Q .neq 108 x33 x34) fun x35=>Cv Q O s 98 [x35] h0 n0 fun x36 h37 n38=>RK (vSt h37 2 y6 x36) fun h39=>RK (vLd (some 2) h39 y6) fun x42=>K x42 h39 n38)) (RK (bin Q .eql 80 y7 (.int .i64 5)) fun x43=>IF x43 (RK (vLd (some 2) h0 y4) fun x44=>RK (vLd (some 2) h0 y5) fun x45=>Cv Q O s 99 [x44,x45] h0 n0 fun x46 h47 n48=>RK (vSt h47 2 y6 x46) fun h49=>RK (vLd (some 2) h49 y6) fun x50=>K x50 h49 n48) (RK (vBld [(.int .i64 0),(.int .u64 0)] []) fun x51=>RK (vSt h0 2 y6 x51) fun h52=>RK (vLd (some 2) h52 y6) fun x53=>K x53 h52 n0)))
def radd (s:Bool) (t0 t1 t2:Value) (h:Hp) (nx:Nat) (K:KC'):Prop:=AR (zZ (zF t1)) h nx fun p1 h2 n3=>AR (zZ (zF t2)) h2 n3 fun p4 h5 n6=>AR (.ok (.ptr (.cells [(.int .i64 0),(.int .u64 0)] false))) h5 n6 fun p7 h8 n9=>RK (bin Q .eql 80 t0 (.int .i64 1)) fun x10=>IF x10 ((zMB s K p1 p4 p7 t0 (.bool true) h8 n9)) (RK (bin Q .eql 80 t0 (.int .i64 3)) fun x11=>IF x11 ((zMB s K p1 p4 p7 t0 (.bool true) h8 n9)) (RK (bin Q .eql 80 t0 (.int .i64 4)) fun x12=>(zMB s K p1 p4 p7 t0 x12 h8 n9)))
theorem radde {s:Bool} {t0 t1 t2:Value} {h:Hp} {nx:Nat} {K:KC'}:fF Q O s raddL 72 [t0,t1,t2] h nx K=radd s t0 t1 t2 h nx K:=by kernel_rfl
theorem raddv {s:Bool} {t0 t1 t2:Value} {h:Hp} {nx:Nat} {K:KC'} (w:radd s t0 t1 t2 h nx K):Cv Q O s 72 [t0,t1,t2] h nx K:=Cv.byF raddL rfl (by rw [radde]; exact w)
def zLv:List (List Nat):=[]
def zC0 (s:Bool) (K:KC') (y4 y23:Value) (h0:Hp) (n0:Nat):Prop:=IF y23 (K (.tuple ⟨[y4,(.bool true)]⟩) h0 n0) (K (.tuple ⟨[(.int .i64 0),(.bool false)]⟩) h0 n0)
def zKR (s:Bool) (t0:Value) (h:Hp) (nx:Nat) (K:KC'):Prop:=AR (zZ (zF t0)) h nx fun p1 h2 n3=>RK (zO 1 p1) fun x4=>RK (vLd none h2 x4) fun x5=>RK (zD7 (.int .i64) x5) fun x6=>RK (zO 0 p1) fun x7=>RK (vLd none h2 x7) fun x8=>RK (bin Q .eql 2 x8 (.int .i64 0)) fun x9=>IF x9 (RK (bin Q .geq 2 x6 (.int .i64 0)) fun x10=>IF x10 ((zC0 s K x6 (.bool true) h2 n3)) (RK (zO 0 p1) fun x11=>RK (vLd none h2 x11) fun x12=>RK (bin Q .eql 2 x12 (.int .i64 (-1))) fun x13=>IF x13 (RK (bin Q .lss 2 x6 (.int .i64 0)) fun x14=>(zC0 s K x6 x14 h2 n3)) ((zC0 s K x6 (.bool false) h2 n3)))) (RK (zO 0 p1) fun x15=>RK (vLd none h2 x15) fun x16=>RK (bin Q .eql 2 x16 (.int .i64 (-1))) fun x17=>IF x17 (RK (bin Q .lss 2 x6 (.int .i64 0)) fun x18=>(zC0 s K x6 x18 h2 n3)) ((zC0 s K x6 (.bool false) h2 n3)))
theorem rnarrowe {s:Bool} {t0:Value} {h:Hp} {nx:Nat} {K:KC'}:fF Q O s zLv 73 [t0] h nx K=zKR s t0 h nx K:=by kernel_rfl
theorem rnarrowv {s:Bool} {t0:Value} {h:Hp} {nx:Nat} {K:KC'} (w:zKR s t0 h nx K):Cv Q O s 73 [t0] h nx K:=Cv.byF zLv rfl (by rw [rnarrowe]; exact w)
def rcmpL:List (List Nat):=[]
def zMA (s:Bool) (K:KC') (y2 y3 y23:Value) (h0:Hp) (n0:Nat):Prop:=IF y23 (K (.int .i64 (-1)) h0 n0) (RK (vLd (some 2) h0 y2) fun x22=>RK (vLd (some 2) h0 y3) fun x23=>RK (bin Q .eql 108 x22 x23) fun x24=>IF x24 (K (.int .i64 0) h0 n0) (K (.int .i64 1) h0 n0))
def rcmp (s:Bool) (t0 t1:Value) (h:Hp) (nx:Nat) (K:KC'):Prop:=AR (zZ (zF t0)) h nx fun p1 h2 n3=>AR (zZ (zF t1)) h2 n3 fun p4 h5 n6=>RK (zO 0 p1) fun x7=>RK (vLd none h5 x7) fun x8=>RK (zO 0 p4) fun x9=>RK (vLd none h5 x9) fun x10=>RK (bin Q .lss 2 x8 x10) fun x11=>IF x11 ((zMA s K p1 p4 (.bool true) h5 n6)) (RK (zO 0 p1) fun x12=>RK (vLd none h5 x12) fun x13=>RK (zO 0 p4) fun x14=>RK (vLd none h5 x14) fun x15=>RK (bin Q .eql 2 x13 x15) fun x16=>IF x16 (RK (zO 1 p1) fun x17=>RK (vLd none h5 x17) fun x18=>RK (zO 1 p4) fun x19=>RK (vLd none h5 x19) fun x20=>RK (bin Q .lss 106 x18 x20) fun x21=>(zMA s K p1 p4 x21 h5 n6)) ((zMA s K p1 p4 (.bool false) h5 n6)))
theorem rcmpe {s:Bool} {t0 t1:Value} {h:Hp} {nx:Nat} {K:KC'}:fF Q O s rcmpL 97 [t0,t1] h nx K=rcmp s t0 t1 h nx K:=by kernel_rfl
theorem rcmpv {s:Bool} {t0 t1:Value} {h:Hp} {nx:Nat} {K:KC'} (w:rcmp s t0 t1 h nx K):Cv Q O s 97 [t0,t1] h nx K:=Cv.byF rcmpL rfl (by rw [rcmpe]; exact w)
def zMG:List (List Nat):=[]
def zEO (s:Bool) (K:KC') (y1 y2 y7 y8 y9 y10 y11:Value) (h0:Hp) (n0:Nat):Prop:=RK (vLd (some 2) h0 y7) fun x27=>Cv Q O s 8 [x27,y2] h0 n0 fun x28 h29 n30=>RK (zo x28 0) fun x31=>RK (zo x28 1) fun x32=>RK (vLd (some 2) h29 y7) fun x33=>Cv Q O s 9 [x33,y2] h29 n30 fun x34 h35 n36=>RK (zo x34 0) fun x37=>RK (zo x34 1) fun x38=>RK (vLd (some 2) h35 y7) fun x39=>Cv Q O s 10 [x39,y8,y9,y10] h35 n36 fun x40 h41 n42=>AR (.ok (.ptr (.cells [(.int .i64 0),(.int .i64 0),(.int .i64 0),(.int .i64 0),(.slice none 0 0),(.int .i64 0),(.slice none 0 0),(.int .i64 0),(.int .i64 0),(.int .i64 0),(.int .i64 0),(.slice none 0 0)] false))) h41 n42 fun p43 h44 n45=>RK (vSt h44 12 p43 x40) fun h46=>RK (vLd (some 2) h46 y7) fun x47=>Cv Q O s 11 [x47,y8,y9,y10] h46 n45 fun x48 h49 n50=>AR (.ok (.ptr (.cells [(.int .i64 0),(.int .i64 0),(.int .i64 0),(.int .i64 0),(.slice none 0 0),(.int .i64 0),(.slice none 0 0),(.int .i64 0),(.int .i64 0),(.int .i64 0),(.int .i64 0),(.slice none 0 0)] false))) h49 n50 fun p51 h52 n53=>RK (vSt h52 12 p51 x48) fun h54=>Cv Q O true 6 [] h54 n53 fun x55 h56 n57=>n53≤n57∧IF x55 (RK (vLd (some 2) h56 y7) fun x58=>Cv Q O true 12 [x58,y8,y1] h56 n57 fun x59 h60 n61=>n57≤n61∧RK (vLd (some 2) h60 y7) fun x62=>AGK (fun h=>vLd (some 2) h y7) x62 (Cv Q O true 13 [x62,y8,y1] h60 n61 fun x63 h64 n65=>n61≤n65∧RK (bin Q .eql 4 x59 x63) fun x66=>IF x66 (RK (vLd (some 2) h64 y7) fun x67=>Cv Q O true 15 [x67,y1] h64 n65 fun x68 h69 n70=>n65≤n70∧RK (vLd (some 2) h69 y7) fun x71=>AGK (fun h=>vLd (some 2) h y7) x71 (Cv Q O true 16 [x71,y1] h69 n70 fun x72 h73 n74=>n70≤n74∧Cv Q O true 14 [x68,x72] h73 n74 fun x75 h76 n77=>n74≤n77∧IF x75 (RK (vLd (some 2) h76 y7) fun x78=>Cv Q O true 18 [x78,y8,y1,y11] h76 n77 fun x79 h80 n81=>n77≤n81∧RK (vLd (some 2) h80 y7) fun x82=>AGK (fun h=>vLd (some 2) h y7) x82 (Cv Q O true 19 [x82,y8,y1,y11] h80 n81 fun x83 h84 n85=>n81≤n85∧Cv Q O true 17 [x79,x83] h84 n85 fun x86 h87 n88=>n85≤n88∧IF x86 (RK (bin Q .eql 2 x31 x37) fun x89=>IF x89 (RK (bin Q .eql 4 x32 x38) fun x90=>IF x90 (RK (zO 10 p43) fun x91=>RK (vLd none h87 x91) fun x92=>RK (zO 10 p51) fun x93=>RK (vLd none h87 x93) fun x94=>RK (bin Q .eql 3 x92 x94) fun x95=>IF x95 (RK (zO 0 p43) fun x96=>RK (zO 0 x96) fun x97=>RK (vLd none h87 x97) fun x98=>RK (zO 0 p51) fun x99=>RK (zO 0 x99) fun x100=>RK (vLd none h87 x100) fun x101=>RK (bin Q .eql 34 x98 x101) fun x102=>IF x102 (RK (zO 7 p43) fun x103=>RK (vLd none h87 x103) fun x104=>RK (zO 7 p51) fun x105=>RK (vLd none h87 x105) fun x106=>RK (bin Q .eql 3 x104 x106) fun x107=>IF x107 (RK (zO 8 p43) fun x108=>RK (vLd none h87 x108) fun x109=>RK (zO 8 p51) fun x110=>RK (vLd none h87 x110) fun x111=>RK (bin Q .eql 3 x109 x111) fun x112=>K x112 h87 n88) (K (.bool false) h87 n88)) (K (.bool false) h87 n88)) (K (.bool false) h87 n88)) (K (.bool false) h87 n88)) (K (.bool false) h87 n88)) (K (.bool false) h87 n88)) 1 [h76,h73,h69,h64,h60,h56,h54]) (K (.bool false) h76 n77)) 1 [h64,h60,h56,h54]) (K (.bool false) h64 n65)) 1 [h56,h54]) (K (.bool false) h56 n57)
def zCz (s:Bool) (K:KC') (y1 y2 y3 y25:Value) (h0:Hp) (n0:Nat):Prop:=IF y25 (Cv Q O s 6 [] h0 n0 fun x8 h9 n10=>K x8 h9 n10) (RK (vLd (some 5) h0 y3) fun x11=>Cv Q O s 7 [x11] h0 n0 fun x12 h13 n14=>RK (zo x12 0) fun x15=>RK (zo x12 1) fun x16=>RK (zo x12 2) fun x17=>RK (zo x12 3) fun x18=>AR (.ok (.ptr (.cells [(.int .i64 0),(.slice none 0 0)] false))) h13 n14 fun p19 h20 n21=>RK (vSt h20 2 p19 x15) fun h22=>RK (lenS y2) fun x23=>RK (bin Q .gtr 3 x23 (.int .i64 0)) fun x24=>IF x24 (RK (vIx (.slice 1) y2 (.int .i64 0)) fun x25=>RK (vLd none h22 x25) fun x26=>(zEO s K y1 y2 p19 x16 x17 x18 x26 h22 n21)) ((zEO s K y1 y2 p19 x16 x17 x18 (.int .i64 0) h22 n21)))
def zK2 (s:Bool) (t0 t1 t2:Value) (h:Hp) (nx:Nat) (K:KC'):Prop:=AR (zZ (zF t0)) h nx fun p1 h2 n3=>RK (lenS t1) fun x4=>RK (bin Q .gtr 3 x4 (.int .i64 60)) fun x5=>IF x5 ((zCz s K t1 t2 p1 (.bool true) h2 n3)) (RK (lenS t2) fun x6=>RK (bin Q .gtr 3 x6 (.int .i64 30)) fun x7=>(zCz s K t1 t2 p1 x7 h2 n3))
theorem pcheckse {s:Bool} {t0 t1 t2:Value} {h:Hp} {nx:Nat} {K:KC'}:fF Q O s zMG 3 [t0,t1,t2] h nx K=zK2 s t0 t1 t2 h nx K:=by kernel_rfl
theorem pchecksv {s:Bool} {t0 t1 t2:Value} {h:Hp} {nx:Nat} {K:KC'} (w:zK2 s t0 t1 t2 h nx K):Cv Q O s 3 [t0,t1,t2] h nx K:=Cv.byF zMG rfl (by rw [pcheckse]; exact w)
def wgtL:List (List Nat):=[[1,4,5,6,27,28,29],[1,4,5,6,9,10]]
def wgtl0 (s:Bool) (a1 a4 a5 a6 a27 a28 a29:Value) (h:Hp) (nx:Nat) (N:KVl) (e0:KVl) (R:KVl):Prop:=RK (bin Q .lss 3 a29 a28) fun x25=>IF x25 (RK (vIx (.slice 3) a27 a29) fun x26=>RK (vLd (some 3) h x26) fun x27=>AR (.ok (.ptr (.cells [(.int .i64 0),(.int .i64 0),(.int .i64 0)] false))) h nx fun p28 h29 n30=>RK (vSt h29 3 p28 x27) fun h31=>RK (zO 0 p28) fun x32=>RK (vLd none h31 x32) fun x33=>RK (zO 1 p28) fun x34=>RK (vLd none h31 x34) fun x35=>RK (vBld [(.int .i64 0),(.int .i64 0)] [(0,1,x33),(1,1,x35)]) fun x36=>RK (zO 2 p28) fun x37=>RK (vLd none h31 x37) fun x38=>RK (cMup Q 60 h31 a6 x36 x38) fun h39=>RK (bin Q .add 3 a29 (.int .i64 1)) fun x40=>N [a1,a4,a5,a6,a27,a28,x40] h39 n30) (e0 [a1,a4,a5,a6,a27,a28,a29] h nx)
def wgtl1 (s:Bool) (a1 a4 a5 a6 a9 a10:Value) (h:Hp) (nx:Nat) (N:KVl) (e2:KVl) (R:KVl):Prop:=RK (lenS a1) fun x47=>RK (bin Q .lss 3 a10 x47) fun x48=>IF x48 (RK (bin Q .sub 3 a10 (.int .i64 1)) fun x49=>RK (vIx (.slice 1) a1 x49) fun x50=>RK (vLd none h x50) fun x51=>RK (vIx (.slice 1) a1 a10) fun x52=>RK (vLd none h x52) fun x53=>RK (vBld [(.int .i64 0),(.int .i64 0)] [(0,1,x51),(1,1,x53)]) fun x54=>RK (cLkp Q h 60 (.int .i64 0) true a6 x54) fun x55=>RK (zo x55 0) fun x56=>RK (zo x55 1) fun x57=>RK (oUn .not x57) fun x58=>IF x58 (R [a1,(.int .i64 0),(.bool false),a6,a9,a10] h nx) (RK (bin Q .add 2 a9 x56) fun x59=>RK (bin Q .add 3 a10 (.int .i64 1)) fun x60=>N [a1,a4,a5,a6,x59,x60] h nx)) (e2 [a1,a4,a5,a6,a9,a10] h nx)
def zOO (s:Bool) (K:KC') (y1 y2 y23:Value) (h0:Hp) (n0:Nat):Prop:=IF y23 (K (.tuple ⟨[(.int .i64 0),(.bool false)]⟩) h0 n0) (AR (.ok .map) h0 n0 fun p13 h14 n15=>RK (vLd (some 2) h14 y2) fun x16=>Cv Q O s 26 [x16] h14 n15 fun x17 h18 n19=>RK (cFld 1 none x17) fun x20=>RK (lenS x20) fun x21=>Lp (fL Q O s wgtL 8 0) [y1,(.int .i64 0),(.bool false),p13,x20,x21,(.int .i64 0)] h18 n19 [(0,fun v24 h22 n23=>Lp (fL Q O s wgtL 8 1) [(nv v24 0),(nv v24 1),(nv v24 2),(nv v24 3),(.int .i64 0),(.int .i64 1)] h22 n23 [(2,fun v43 h41 n42=>K (.tuple ⟨[(nv v43 4),(.bool true)]⟩) h41 n42)] (fun v46 h44 n45=>K (.tuple ⟨[(nv v46 1),(nv v46 2)]⟩) h44 n45))] (fun _ _ _=>False))
def wgt (s:Bool) (t0 t1:Value) (h:Hp) (nx:Nat) (K:KC'):Prop:=AR (zZ (zF t0)) h nx fun p1 h2 n3=>RK (lenS t1) fun x4=>RK (bin Q .eql 3 x4 (.int .i64 0)) fun x5=>IF x5 ((zOO s K t1 p1 (.bool true) h2 n3)) (RK (vLd (some 2) h2 p1) fun x6=>RK (vIx (.slice 1) t1 (.int .i64 0)) fun x7=>RK (vLd none h2 x7) fun x8=>Cv Q O true 25 [x6,x8] h2 n3 fun x9 h10 n11=>n3≤n11∧RK (oUn .not x9) fun x12=>(zOO s K t1 p1 x12 h10 n11))
theorem wgtb0 {s:Bool} {a1 a4 a5 a6 a27 a28 a29:Value} {h:Hp} {nx:Nat} {N e0 R:KVl}:fL Q O s wgtL 8 0 [a1,a4,a5,a6,a27,a28,a29] h nx N [(0,e0)] R=wgtl0 s a1 a4 a5 a6 a27 a28 a29 h nx N e0 R:=by kernel_rfl
theorem wgtb1 {s:Bool} {a1 a4 a5 a6 a9 a10:Value} {h:Hp} {nx:Nat} {N e2 R:KVl}:fL Q O s wgtL 8 1 [a1,a4,a5,a6,a9,a10] h nx N [(2,e2)] R=wgtl1 s a1 a4 a5 a6 a9 a10 h nx N e2 R:=by kernel_rfl
theorem wgte {s:Bool} {t0 t1:Value} {h:Hp} {nx:Nat} {K:KC'}:fF Q O s wgtL 8 [t0,t1] h nx K=wgt s t0 t1 h nx K:=by kernel_rfl
theorem wgtv {s:Bool} {t0 t1:Value} {h:Hp} {nx:Nat} {K:KC'} (w:wgt s t0 t1 h nx K):Cv Q O s 8 [t0,t1] h nx K:=Cv.byF wgtL rfl (by rw [wgte]; exact w)
def zIx:List (List Nat):=[[1,2,4,5,6,7],[1,2,4,5,6,8],[1,2,4,5,6,8,9,10]]
def rwgtl0 (s:Bool) (a1 a2 a4 a5 a6 a7:Value) (h:Hp) (nx:Nat) (N:KVl) (e0:KVl) (R:KVl):Prop:=RK (lenS a1) fun x17=>RK (bin Q .lss 3 a7 x17) fun x18=>IF x18 (RK (vIx (.slice 1) a1 a7) fun x19=>RK (vLd none h x19) fun x20=>RK (bin Q .lss 3 x20 (.int .i64 0)) fun x21=>IF x21 (R [a1,a2,(.int .i64 0),(.bool false),a6,a7] h nx) (RK (vIx (.slice 1) a1 a7) fun x22=>RK (vLd none h x22) fun x23=>RK (zO 0 a2) fun x24=>RK (vLd none h x24) fun x25=>RK (bin Q .geq 3 x23 x25) fun x26=>IF x26 (R [a1,a2,(.int .i64 0),(.bool false),a6,a7] h nx) (RK (bin Q .add 3 a7 (.int .i64 1)) fun x29=>N [a1,a2,a4,a5,a6,x29] h nx))) (e0 [a1,a2,a4,a5,a6,a7] h nx)
def zGK (s:Bool) (N:KVl) (e4:KVl) (R:KVl) (y1 y2 y4 y5 y6 y8 y9 y10:Value) (h0:Hp) (n0:Nat):Prop:=RK (bin Q .add 3 y10 (.int .i64 1)) fun x72=>N [y1,y2,y4,y5,y6,y8,y9,x72] h0 n0
def rwgtl2 (s:Bool) (a1 a2 a4 a5 a6 a8 a9 a10:Value) (h:Hp) (nx:Nat) (N:KVl) (e4:KVl) (R:KVl):Prop:=RK (zO 1 a2) fun x41=>RK (vLd none h x41) fun x42=>RK (lenS x42) fun x43=>RK (bin Q .lss 3 a10 x43) fun x44=>IF x44 (RK (zO 1 a2) fun x45=>RK (vLd none h x45) fun x46=>RK (vIx (.slice 3) x46 a10) fun x47=>RK (vLd (some 3) h x47) fun x48=>AR (.ok (.ptr (.cells [(.int .i64 0),(.int .i64 0),(.int .i64 0)] false))) h nx fun p49 h50 n51=>RK (vSt h50 3 p49 x48) fun h52=>RK (zO 0 p49) fun x53=>RK (vLd none h52 x53) fun x54=>RK (bin Q .sub 3 a8 (.int .i64 1)) fun x55=>RK (vIx (.slice 1) a1 x55) fun x56=>RK (vLd none h52 x56) fun x57=>RK (bin Q .eql 3 x54 x57) fun x58=>IF x58 (RK (zO 1 p49) fun x59=>RK (vLd none h52 x59) fun x60=>RK (vIx (.slice 1) a1 a8) fun x61=>RK (vLd none h52 x61) fun x62=>RK (bin Q .eql 3 x60 x62) fun x63=>IF x63 (RK (bin Q .lss 2 a9 (.int .i64 0)) fun x64=>IF x64 (RK (zO 2 p49) fun x68=>RK (vLd none h52 x68) fun x69=>(zGK s N e4 R a1 a2 a4 a5 a6 a8 x69 a10 h52 n51)) (RK (zO 2 p49) fun x65=>RK (vLd none h52 x65) fun x66=>RK (bin Q .lss 2 x66 a9) fun x67=>IF x67 (RK (zO 2 p49) fun x70=>RK (vLd none h52 x70) fun x71=>(zGK s N e4 R a1 a2 a4 a5 a6 a8 x71 a10 h52 n51)) ((zGK s N e4 R a1 a2 a4 a5 a6 a8 a9 a10 h52 n51)))) ((zGK s N e4 R a1 a2 a4 a5 a6 a8 a9 a10 h52 n51))) ((zGK s N e4 R a1 a2 a4 a5 a6 a8 a9 a10 h52 n51))) (e4 [a1,a2,a4,a5,a6,a8,a9,a10] h nx)
def rwgtl1 (s:Bool) (a1 a2 a4 a5 a6 a8:Value) (h:Hp) (nx:Nat) (N:KVl) (e2:KVl) (R:KVl):Prop:=RK (lenS a1) fun x36=>RK (bin Q .lss 3 a8 x36) fun x37=>IF x37 (Lp (fL Q O s zIx 9 2) [a1,a2,a4,a5,a6,a8,(.int .i64 (-1)),(.int .i64 0)] h nx [(4,fun v40 h38 n39=>RK (bin Q .lss 2 (nv v40 6) (.int .i64 0)) fun x73=>IF x73 (R [(nv v40 0),(nv v40 1),(.int .i64 0),(.bool false),(nv v40 4),(nv v40 5)] h38 n39) (RK (bin Q .add 2 (nv v40 4) (nv v40 6)) fun x74=>RK (bin Q .add 3 (nv v40 5) (.int .i64 1)) fun x75=>N [(nv v40 0),(nv v40 1),(nv v40 2),(nv v40 3),x74,x75] h38 n39))] (fun _ _ _=>False)) (e2 [a1,a2,a4,a5,a6,a8] h nx)
def zOw (s:Bool) (K:KC') (y1 y2 y19:Value) (h0:Hp) (n0:Nat):Prop:=IF y19 (K (.tuple ⟨[(.int .i64 0),(.bool false)]⟩) h0 n0) (Lp (fL Q O s zIx 9 0) [y1,y2,(.int .i64 0),(.bool false),(.int .i64 0),(.int .i64 0)] h0 n0 [(0,fun v13 h11 n12=>Lp (fL Q O s zIx 9 1) [(nv v13 0),(nv v13 1),(nv v13 2),(nv v13 3),(nv v13 4),(.int .i64 1)] h11 n12 [(2,fun v32 h30 n31=>K (.tuple ⟨[(nv v32 4),(.bool true)]⟩) h30 n31)] (fun v35 h33 n34=>K (.tuple ⟨[(nv v35 2),(nv v35 3)]⟩) h33 n34))] (fun v16 h14 n15=>K (.tuple ⟨[(nv v16 2),(nv v16 3)]⟩) h14 n15))
def rwgt (s:Bool) (t0 t1:Value) (h:Hp) (nx:Nat) (K:KC'):Prop:=AR (zZ (zF t0)) h nx fun p1 h2 n3=>RK (vLd (some 2) h2 p1) fun x4=>Cv Q O s 27 [x4] h2 n3 fun x5 h6 n7=>RK (bin Q .neq 53 x5 (.int .i64 0)) fun x8=>IF x8 ((zOw s K t1 p1 (.bool true) h6 n7)) (RK (lenS t1) fun x9=>RK (bin Q .eql 3 x9 (.int .i64 0)) fun x10=>(zOw s K t1 p1 x10 h6 n7))
theorem rwgtb0 {s:Bool} {a1 a2 a4 a5 a6 a7:Value} {h:Hp} {nx:Nat} {N e0 R:KVl}:fL Q O s zIx 9 0 [a1,a2,a4,a5,a6,a7] h nx N [(0,e0)] R=rwgtl0 s a1 a2 a4 a5 a6 a7 h nx N e0 R:=by kernel_rfl
theorem rwgtb2 {s:Bool} {a1 a2 a4 a5 a6 a8 a9 a10:Value} {h:Hp} {nx:Nat} {N e4 R:KVl}:fL Q O s zIx 9 2 [a1,a2,a4,a5,a6,a8,a9,a10] h nx N [(4,e4)] R=rwgtl2 s a1 a2 a4 a5 a6 a8 a9 a10 h nx N e4 R:=by kernel_rfl
theorem rwgtb1 {s:Bool} {a1 a2 a4 a5 a6 a8:Value} {h:Hp} {nx:Nat} {N e2 R:KVl}:fL Q O s zIx 9 1 [a1,a2,a4,a5,a6,a8] h nx N [(2,e2)] R=rwgtl1 s a1 a2 a4 a5 a6 a8 h nx N e2 R:=by kernel_rfl
theorem rwgte {s:Bool} {t0 t1:Value} {h:Hp} {nx:Nat} {K:KC'}:fF Q O s zIx 9 [t0,t1] h nx K=rwgt s t0 t1 h nx K:=by kernel_rfl
theorem rwgtv {s:Bool} {t0 t1:Value} {h:Hp} {nx:Nat} {K:KC'} (w:rwgt s t0 t1 h nx K):Cv Q O s 9 [t0,t1] h nx K:=Cv.byF zIx rfl (by rw [rwgte]; exact w)
def zPV:List (List Nat):=[]
def zPW (s:Bool) (t0 t1 t2 t3:Value) (h:Hp) (nx:Nat) (K:KC'):Prop:=AR (zZ (zF t0)) h nx fun p1 h2 n3=>AR (.ok (.ptr (.cells [(.int .i64 0),(.int .i64 0),(.int .i64 0),(.int .i64 0),(.slice none 0 0),(.int .i64 0),(.slice none 0 0),(.int .i64 0),(.int .i64 0),(.int .i64 0),(.int .i64 0),(.slice none 0 0)] false))) h2 n3 fun p4 h5 n6=>RK (vLd (some 2) h5 p1) fun x7=>Cv Q O s 28 [x7,t1,t2,t3] h5 n6 fun x8 h9 n10=>AR (.ok (.ptr (.cells [(.int .i64 0),(.int .i64 0),(.int .i64 0),(.int .i64 0),(.slice none 0 0),(.int .i64 0),(.slice none 0 0),(.int .i64 0),(.int .i64 0),(.int .i64 0),(.int .i64 0),(.slice none 0 0)] false))) h9 n10 fun p11 h12 n13=>RK (vSt h12 12 p11 x8) fun h14=>RK (zO 0 p11) fun x15=>RK (zO 0 x15) fun x16=>RK (vSt h14 1 x16 (.int .i64 2)) fun h17=>RK (vLd (some 12) h17 p11) fun x18=>RK (vSt h17 12 p4 x18) fun h19=>RK (vLd (some 12) h19 p4) fun x20=>K x20 h19 n13
theorem psetupe {s:Bool} {t0 t1 t2 t3:Value} {h:Hp} {nx:Nat} {K:KC'}:fF Q O s zPV 10 [t0,t1,t2,t3] h nx K=zPW s t0 t1 t2 t3 h nx K:=by kernel_rfl
theorem psetupv {s:Bool} {t0 t1 t2 t3:Value} {h:Hp} {nx:Nat} {K:KC'} (w:zPW s t0 t1 t2 t3 h nx K):Cv Q O s 10 [t0,t1,t2,t3] h nx K:=Cv.byF zPV rfl (by rw [psetupe]; exact w)
def zOy:List (List Nat):=[]
def zOz (s:Bool) (t0 t1 t2 t3:Value) (h:Hp) (nx:Nat) (K:KC'):Prop:=AR (zZ (zF t0)) h nx fun p1 h2 n3=>AR (.ok (.ptr (.cells [(.int .i64 0),(.int .i64 0),(.int .i64 0),(.int .i64 0),(.slice none 0 0),(.int .i64 0),(.slice none 0 0),(.int .i64 0),(.int .i64 0),(.int .i64 0),(.int .i64 0),(.slice none 0 0)] false))) h2 n3 fun p4 h5 n6=>RK (vLd (some 2) h5 p1) fun x7=>Cv Q O s 29 [x7,t1,t2,t3] h5 n6 fun x8 h9 n10=>AR (.ok (.ptr (.cells [(.int .i64 0),(.int .i64 0),(.int .i64 0),(.int .i64 0),(.slice none 0 0),(.int .i64 0),(.slice none 0 0),(.int .i64 0),(.int .i64 0),(.int .i64 0),(.int .i64 0),(.slice none 0 0)] false))) h9 n10 fun p11 h12 n13=>RK (vSt h12 12 p11 x8) fun h14=>RK (zO 0 p11) fun x15=>RK (zO 0 x15) fun x16=>RK (vSt h14 1 x16 (.int .i64 2)) fun h17=>RK (vLd (some 12) h17 p11) fun x18=>RK (vSt h17 12 p4 x18) fun h19=>RK (vLd (some 12) h19 p4) fun x20=>K x20 h19 n13
theorem rsetupe {s:Bool} {t0 t1 t2 t3:Value} {h:Hp} {nx:Nat} {K:KC'}:fF Q O s zOy 11 [t0,t1,t2,t3] h nx K=zOz s t0 t1 t2 t3 h nx K:=by kernel_rfl
theorem rsetupv {s:Bool} {t0 t1 t2 t3:Value} {h:Hp} {nx:Nat} {K:KC'} (w:zOz s t0 t1 t2 t3 h nx K):Cv Q O s 11 [t0,t1,t2,t3] h nx K:=Cv.byF zOy rfl (by rw [rsetupe]; exact w)
def zPe:List (List Nat):=[]
def zPf (s:Bool) (t0 t1 t2:Value) (h:Hp) (nx:Nat) (K:KC'):Prop:=AR (zZ (zF t0)) h nx fun p1 h2 n3=>RK (vLd (some 2) h2 p1) fun x4=>Cv Q O s 25 [x4,t1] h2 n3 fun x5 h6 n7=>IF x5 (RK (vLd (some 2) h6 p1) fun x8=>Cv Q O s 31 [x8,t1] h6 n7 fun x9 h10 n11=>Cv Q O s 30 [x9,t2] h10 n11 fun x12 h13 n14=>K x12 h13 n14) (K (.bool false) h6 n7)
theorem pchecke {s:Bool} {t0 t1 t2:Value} {h:Hp} {nx:Nat} {K:KC'}:fF Q O s zPe 12 [t0,t1,t2] h nx K=zPf s t0 t1 t2 h nx K:=by kernel_rfl
theorem pcheckv {s:Bool} {t0 t1 t2:Value} {h:Hp} {nx:Nat} {K:KC'} (w:zPf s t0 t1 t2 h nx K):Cv Q O s 12 [t0,t1,t2] h nx K:=Cv.byF zPe rfl (by rw [pchecke]; exact w)
def zLt:List (List Nat):=[]
def zCx (s:Bool) (K:KC') (y1 y2 y3 y26:Value) (h0:Hp) (n0:Nat):Prop:=IF y26 (K (.bool false) h0 n0) (RK (vLd (some 2) h0 y3) fun x17=>Cv Q O s 20 [x17,y1] h0 n0 fun x18 h19 n20=>Cv Q O s 23 [x18,y2] h19 n20 fun x21 h22 n23=>K x21 h22 n23)
def zKQ (s:Bool) (t0 t1 t2:Value) (h:Hp) (nx:Nat) (K:KC'):Prop:=AR (zZ (zF t0)) h nx fun p1 h2 n3=>RK (vLd (some 2) h2 p1) fun x4=>Cv Q O s 27 [x4] h2 n3 fun x5 h6 n7=>RK (bin Q .neq 53 x5 (.int .i64 0)) fun x8=>IF x8 ((zCx s K t1 t2 p1 (.bool true) h6 n7)) (RK (bin Q .lss 3 t1 (.int .i64 0)) fun x9=>IF x9 ((zCx s K t1 t2 p1 (.bool true) h6 n7)) (RK (zO 0 p1) fun x10=>RK (vLd none h6 x10) fun x11=>RK (bin Q .geq 3 t1 x11) fun x12=>IF x12 ((zCx s K t1 t2 p1 (.bool true) h6 n7)) (RK (lenS t2) fun x13=>RK (zO 0 p1) fun x14=>RK (vLd none h6 x14) fun x15=>RK (bin Q .neq 3 x13 x15) fun x16=>(zCx s K t1 t2 p1 x16 h6 n7))))
theorem rpchecke {s:Bool} {t0 t1 t2:Value} {h:Hp} {nx:Nat} {K:KC'}:fF Q O s zLt 13 [t0,t1,t2] h nx K=zKQ s t0 t1 t2 h nx K:=by kernel_rfl
theorem rpcheckv {s:Bool} {t0 t1 t2:Value} {h:Hp} {nx:Nat} {K:KC'} (w:zKQ s t0 t1 t2 h nx K):Cv Q O s 13 [t0,t1,t2] h nx K:=Cv.byF zLt rfl (by rw [rpchecke]; exact w)
def zLg:List (List Nat):=[[1,5,6,23,24,25]]
def zEi (s:Bool) (N:KVl) (e0:KVl) (R:KVl) (y1 y5 y6 y23 y24 y25:Value) (h0:Hp) (n0:Nat):Prop:=RK (bin Q .add 3 y25 (.int .i64 1)) fun x54=>N [y1,y5,y6,y23,y24,x54] h0 n0
def zOd (s:Bool) (a1 a5 a6 a23 a24 a25:Value) (h:Hp) (nx:Nat) (N:KVl) (e0:KVl) (R:KVl):Prop:=RK (bin Q .lss 3 a25 a24) fun x22=>IF x22 (RK (vIx (.slice 3) a23 a25) fun x23=>RK (vLd (some 3) h x23) fun x24=>AR (.ok (.ptr (.cells [(.int .i64 0),(.int .i64 0),(.int .i64 0)] false))) h nx fun p25 h26 n27=>RK (vSt h26 3 p25 x24) fun h28=>RK (zO 0 p25) fun x29=>RK (vLd none h28 x29) fun x30=>RK (vIx (.slice 1) a1 x30) fun x31=>RK (vLd none h28 x31) fun x32=>RK (zO 1 p25) fun x33=>RK (vLd none h28 x33) fun x34=>RK (vIx (.slice 1) a1 x34) fun x35=>RK (vLd none h28 x35) fun x36=>CVK Q O s (zCk h28 n27 [x32] a5) fun x37 h38 n39=>IF x37 (CVK Q O s (zCk h38 n39 [x36] a5) fun x40 h41 n42=>IF x40 (RK (bin Q .sub 2 x36 x32) fun x43=>RK (zO 2 p25) fun x44=>RK (vLd none h41 x44) fun x45=>RK (bin Q .eql 2 x43 x45) fun x46=>IF x46 (RK (vLd (some 3) h41 p25) fun x47=>AR (vBsl 1 [(.int .i64 0),(.int .i64 0),(.int .i64 0)] [(0,3,x47)]) h41 n42 fun p48 h49 n50=>EK (orR (zh 3 h49 n50 a6 p48)) fun x51 h52 n53=>(zEi s N e0 R a1 a5 x51 a23 a24 a25 h52 n53)) ((zEi s N e0 R a1 a5 a6 a23 a24 a25 h41 n42))) ((zEi s N e0 R a1 a5 a6 a23 a24 a25 h41 n42))) ((zEi s N e0 R a1 a5 a6 a23 a24 a25 h38 n39))) (e0 [a1,a5,a6,a23,a24,a25] h nx)
def zKG (s:Bool) (K:KC') (y1 y2 y20:Value) (h0:Hp) (n0:Nat):Prop:=IF y20 (K (.slice none 0 0) h0 n0) (RK (vLd (some 2) h0 y2) fun x13=>Cv Q O s 26 [x13] h0 n0 fun x14 h15 n16=>RK (cFld 1 none x14) fun x17=>RK (lenS x17) fun x18=>Lp (fL Q O s zLg 15 0) [y1,(.func (.func 33) #[] #[]),(.slice none 0 0),x17,x18,(.int .i64 0)] h15 n16 [(0,fun v21 h19 n20=>K (nv v21 2) h19 n20)] (fun _ _ _=>False))
def tight (s:Bool) (t0 t1:Value) (h:Hp) (nx:Nat) (K:KC'):Prop:=AR (zZ (zF t0)) h nx fun p1 h2 n3=>RK (vLd (some 2) h2 p1) fun x4=>Cv Q O s 32 [x4] h2 n3 fun x5 h6 n7=>RK (bin Q .neq 53 x5 (.int .i64 0)) fun x8=>IF x8 ((zKG s K t1 p1 (.bool true) h6 n7)) (RK (lenS t1) fun x9=>RK (zO 0 p1) fun x10=>RK (vLd none h6 x10) fun x11=>RK (bin Q .neq 3 x9 x11) fun x12=>(zKG s K t1 p1 x12 h6 n7))
theorem tightb0 {s:Bool} {a1 a5 a6 a23 a24 a25:Value} {h:Hp} {nx:Nat} {N e0 R:KVl}:fL Q O s zLg 15 0 [a1,a5,a6,a23,a24,a25] h nx N [(0,e0)] R=zOd s a1 a5 a6 a23 a24 a25 h nx N e0 R:=by kernel_rfl
theorem tighte {s:Bool} {t0 t1:Value} {h:Hp} {nx:Nat} {K:KC'}:fF Q O s zLg 15 [t0,t1] h nx K=tight s t0 t1 h nx K:=by kernel_rfl
theorem tightv {s:Bool} {t0 t1:Value} {h:Hp} {nx:Nat} {K:KC'} (w:tight s t0 t1 h nx K):Cv Q O s 15 [t0,t1] h nx K:=Cv.byF zLg rfl (by rw [tighte]; exact w)
def zII:List (List Nat):=[[1,5,6,7]]
def zCI (s:Bool) (N:KVl) (e0:KVl) (R:KVl) (y1 y5 y6 y7:Value) (h0:Hp) (n0:Nat):Prop:=RK (bin Q .add 3 y7 (.int .i64 1)) fun x50=>N [y1,y5,y6,x50] h0 n0
def zLp (s:Bool) (a1 a5 a6 a7:Value) (h:Hp) (nx:Nat) (N:KVl) (e0:KVl) (R:KVl):Prop:=RK (lenS a6) fun x21=>RK (bin Q .lss 3 a7 x21) fun x22=>IF x22 (RK (vIx (.slice 3) a6 a7) fun x23=>RK (zO 0 x23) fun x24=>RK (vLd none h x24) fun x25=>RK (vIx (.slice 1) a1 x25) fun x26=>RK (vLd none h x26) fun x27=>RK (vIx (.slice 3) a6 a7) fun x28=>RK (zO 1 x28) fun x29=>RK (vLd none h x29) fun x30=>RK (vIx (.slice 1) a1 x30) fun x31=>RK (vLd none h x31) fun x32=>RK (bin Q .geq 2 x27 (.int .i64 0)) fun x33=>IF x33 (RK (bin Q .lss 2 x27 (.int .i64 4611686018427387904)) fun x34=>IF x34 (RK (bin Q .geq 2 x32 (.int .i64 0)) fun x35=>IF x35 (RK (bin Q .lss 2 x32 (.int .i64 4611686018427387904)) fun x36=>IF x36 (RK (bin Q .sub 2 x32 x27) fun x37=>RK (vIx (.slice 3) a6 a7) fun x38=>RK (zO 2 x38) fun x39=>RK (vLd none h x39) fun x40=>RK (bin Q .eql 2 x37 x40) fun x41=>IF x41 (RK (vIx (.slice 3) a6 a7) fun x42=>RK (vLd (some 3) h x42) fun x43=>AR (vBsl 1 [(.int .i64 0),(.int .i64 0),(.int .i64 0)] [(0,3,x43)]) h nx fun p44 h45 n46=>EK (orR (zh 3 h45 n46 a5 p44)) fun x47 h48 n49=>(zCI s N e0 R a1 x47 a6 a7 h48 n49)) ((zCI s N e0 R a1 a5 a6 a7 h nx))) ((zCI s N e0 R a1 a5 a6 a7 h nx))) ((zCI s N e0 R a1 a5 a6 a7 h nx))) ((zCI s N e0 R a1 a5 a6 a7 h nx))) ((zCI s N e0 R a1 a5 a6 a7 h nx))) (e0 [a1,a5,a6,a7] h nx)
def zIH (s:Bool) (K:KC') (y1 y2 y19:Value) (h0:Hp) (n0:Nat):Prop:=IF y19 (K (.slice none 0 0) h0 n0) (RK (vLd (some 2) h0 y2) fun x13=>Cv Q O s 34 [x13] h0 n0 fun x14 h15 n16=>RK (cFld 1 none x14) fun x17=>Lp (fL Q O s zII 16 0) [y1,(.slice none 0 0),x17,(.int .i64 0)] h15 n16 [(0,fun v20 h18 n19=>K (nv v20 1) h18 n19)] (fun _ _ _=>False))
def zOx (s:Bool) (t0 t1:Value) (h:Hp) (nx:Nat) (K:KC'):Prop:=AR (zZ (zF t0)) h nx fun p1 h2 n3=>RK (vLd (some 2) h2 p1) fun x4=>Cv Q O s 27 [x4] h2 n3 fun x5 h6 n7=>RK (bin Q .neq 53 x5 (.int .i64 0)) fun x8=>IF x8 ((zIH s K t1 p1 (.bool true) h6 n7)) (RK (lenS t1) fun x9=>RK (zO 0 p1) fun x10=>RK (vLd none h6 x10) fun x11=>RK (bin Q .neq 3 x9 x11) fun x12=>(zIH s K t1 p1 x12 h6 n7))
theorem rtightb0 {s:Bool} {a1 a5 a6 a7:Value} {h:Hp} {nx:Nat} {N e0 R:KVl}:fL Q O s zII 16 0 [a1,a5,a6,a7] h nx N [(0,e0)] R=zLp s a1 a5 a6 a7 h nx N e0 R:=by kernel_rfl
theorem rtighte {s:Bool} {t0 t1:Value} {h:Hp} {nx:Nat} {K:KC'}:fF Q O s zII 16 [t0,t1] h nx K=zOx s t0 t1 h nx K:=by kernel_rfl
theorem rtightv {s:Bool} {t0 t1:Value} {h:Hp} {nx:Nat} {K:KC'} (w:zOx s t0 t1 h nx K):Cv Q O s 16 [t0,t1] h nx K:=Cv.byF zII rfl (by rw [rtighte]; exact w)
def zNI:List (List Nat):=[[3,8,9,10,11,12],[3,8,9,10,11,12,13,56,57,58]]
def zH2 (s:Bool) (N:KVl) (e2:KVl) (R:KVl) (y3 y8 y9 y10 y11 y12 y13 y56 y57 y58:Value) (h0:Hp) (n0:Nat):Prop:=RK (bin Q .add 3 y58 (.int .i64 1)) fun x77=>N [y3,y8,y9,y10,y11,y12,y13,y56,y57,x77] h0 n0
def pwayl1 (s:Bool) (a3 a8 a9 a10 a11 a12 a13 a56 a57 a58:Value) (h:Hp) (nx:Nat) (N:KVl) (e2:KVl) (R:KVl):Prop:=RK (bin Q .lss 3 a58 a57) fun x49=>IF x49 (RK (vIx (.slice 3) a56 a58) fun x50=>RK (vLd (some 3) h x50) fun x51=>AR (.ok (.ptr (.cells [(.int .i64 0),(.int .i64 0),(.int .i64 0)] false))) h nx fun p52 h53 n54=>RK (vSt h53 3 p52 x51) fun h55=>RK (zO 0 p52) fun x56=>RK (vLd none h55 x56) fun x57=>RK (vIx (.slice 1) a10 x57) fun x58=>RK (vLd none h55 x58) fun x59=>RK (bin Q .eql 2 x59 a12) fun x60=>IF x60 (RK (zO 1 p52) fun x61=>RK (vLd none h55 x61) fun x62=>RK (vIx (.slice 1) a10 x62) fun x63=>RK (vLd none h55 x63) fun x64=>RK (bin Q .lss 2 x64 (.int .i64 0)) fun x65=>IF x65 (RK (zO 1 p52) fun x66=>RK (vLd none h55 x66) fun x67=>RK (bin Q .add 2 a12 (.int .i64 1)) fun x68=>RK (vIx (.slice 1) a10 x67) fun x69=>RK (vSt h55 1 x69 x68) fun h70=>RK (zO 1 p52) fun x71=>RK (vLd none h70 x71) fun x72=>AGK (fun h=>vLd none h x71) x72 (RK (zO 0 p52) fun x73=>RK (vLd none h70 x73) fun x74=>AGK (fun h=>vLd none h x73) x74 (RK (vIx (.slice 1) a11 x72) fun x75=>RK (vSt h70 1 x75 x74) fun h76=>(zH2 s N e2 R a3 a8 a9 a10 a11 a12 (.bool true) a56 a57 a58 h76 n54)) 1 [h55]) 1 [h55]) ((zH2 s N e2 R a3 a8 a9 a10 a11 a12 a13 a56 a57 a58 h55 n54))) ((zH2 s N e2 R a3 a8 a9 a10 a11 a12 a13 a56 a57 a58 h55 n54))) (e2 [a3,a8,a9,a10,a11,a12,a13,a56,a57,a58] h nx)
def pwayl0 (s:Bool) (a3 a8 a9 a10 a11 a12:Value) (h:Hp) (nx:Nat) (N:KVl) (R:KVl):Prop:=RK (zO 1 a9) fun x43=>RK (vLd none h x43) fun x44=>RK (lenS x44) fun x45=>Lp (fL Q O s zNI 18 1) [a3,a8,a9,a10,a11,a12,(.bool false),x44,x45,(.int .i64 0)] h nx [(2,fun v48 h46 n47=>RK (oUn .not (nv v48 6)) fun x78=>IF x78 (Cv Q O s 37 [(nv v48 3),(nv v48 4),(nv v48 0)] h46 n47 fun x79 h80 n81=>R [(nv v48 0),x79,(nv v48 2),(nv v48 3),(nv v48 4),(nv v48 5)] h80 n81) (RK (bin Q .add 2 (nv v48 5) (.int .i64 1)) fun x82=>N [(nv v48 0),(nv v48 1),(nv v48 2),(nv v48 3),(nv v48 4),x82] h46 n47))] (fun _ _ _=>False)
def zGP (s:Bool) (K:KC') (y1 y2 y3 y4 y37:Value) (h0:Hp) (n0:Nat):Prop:=IF y37 (K (.slice none 0 0) h0 n0) (RK (vLd (some 2) h0 y4) fun x16=>Cv Q O true 15 [x16,y2] h0 n0 fun x17 h18 n19=>n0≤n19∧RK (zO 0 y4) fun x20=>RK (vLd none h18 x20) fun x21=>AGK (fun h=>vLd none h x20) x21 (RK (vBld [(.int .i64 0),(.slice none 0 0)] [(0,1,x21),(1,1,x17)]) fun x22=>AR (.ok (.ptr (.cells [(.int .i64 0),(.slice none 0 0)] false))) h18 n19 fun p23 h24 n25=>RK (vSt h24 2 p23 x22) fun h26=>AR (vBsl 1 [(.int .i64 0)] [(0,1,(.int .i64 (-1)))]) h26 n25 fun p27 h28 n29=>RK (zO 0 p23) fun x30=>RK (vLd none h28 x30) fun x31=>Cv Q O s 35 [p27,x31] h28 n29 fun x32 h33 n34=>Cv Q O s 36 [x32] h33 n34 fun x35 h36 n37=>RK (vIx (.slice 1) x32 y1) fun x38=>RK (vSt h36 1 x38 (.int .i64 0)) fun h39=>Lp (fL Q O s zNI 18 0) [y3,(.slice none 0 0),p23,x32,x35,(.int .i64 0)] h39 n37 [] (fun v42 h40 n41=>K (nv v42 1) h40 n41)) 1 [h0])
def pway (s:Bool) (t0 t1 t2 t3:Value) (h:Hp) (nx:Nat) (K:KC'):Prop:=AR (zZ (zF t0)) h nx fun p1 h2 n3=>RK (vLd (some 2) h2 p1) fun x4=>Cv Q O s 12 [x4,t1,t2] h2 n3 fun x5 h6 n7=>RK (oUn .not x5) fun x8=>IF x8 ((zGP s K t1 t2 t3 p1 (.bool true) h6 n7)) (RK (bin Q .lss 3 t3 (.int .i64 0)) fun x9=>IF x9 ((zGP s K t1 t2 t3 p1 (.bool true) h6 n7)) (RK (zO 0 p1) fun x10=>RK (vLd none h6 x10) fun x11=>RK (bin Q .geq 3 t3 x11) fun x12=>IF x12 ((zGP s K t1 t2 t3 p1 (.bool true) h6 n7)) (RK (vIx (.slice 1) t2 t3) fun x13=>RK (vLd none h6 x13) fun x14=>RK (bin Q .geq 2 x14 (.int .i64 4611686018427387904)) fun x15=>(zGP s K t1 t2 t3 p1 x15 h6 n7))))
theorem pwayb1 {s:Bool} {a3 a8 a9 a10 a11 a12 a13 a56 a57 a58:Value} {h:Hp} {nx:Nat} {N e2 R:KVl}:fL Q O s zNI 18 1 [a3,a8,a9,a10,a11,a12,a13,a56,a57,a58] h nx N [(2,e2)] R=pwayl1 s a3 a8 a9 a10 a11 a12 a13 a56 a57 a58 h nx N e2 R:=by kernel_rfl
theorem pwayb0 {s:Bool} {a3 a8 a9 a10 a11 a12:Value} {h:Hp} {nx:Nat} {N R:KVl}:fL Q O s zNI 18 0 [a3,a8,a9,a10,a11,a12] h nx N [] R=pwayl0 s a3 a8 a9 a10 a11 a12 h nx N R:=by kernel_rfl
theorem pwaye {s:Bool} {t0 t1 t2 t3:Value} {h:Hp} {nx:Nat} {K:KC'}:fF Q O s zNI 18 [t0,t1,t2,t3] h nx K=pway s t0 t1 t2 t3 h nx K:=by kernel_rfl
theorem pwayv {s:Bool} {t0 t1 t2 t3:Value} {h:Hp} {nx:Nat} {K:KC'} (w:pway s t0 t1 t2 t3 h nx K):Cv Q O s 18 [t0,t1,t2,t3] h nx K:=Cv.byF zNI rfl (by rw [pwaye]; exact w)
def rpwayL:List (List Nat):=[]
def zDf (s:Bool) (K:KC') (y1 y2 y3 y4 y32:Value) (h0:Hp) (n0:Nat):Prop:=IF y32 (K (.slice none 0 0) h0 n0) (RK (vLd (some 2) h0 y4) fun x16=>Cv Q O true 16 [x16,y2] h0 n0 fun x17 h18 n19=>n0≤n19∧RK (zO 0 y4) fun x20=>RK (vLd none h18 x20) fun x21=>AGK (fun h=>vLd none h x20) x21 (RK (vBld [(.int .i64 0),(.slice none 0 0)] [(0,1,x21),(1,1,x17)]) fun x22=>AR (.ok (.ptr (.cells [(.int .i64 0),(.slice none 0 0)] false))) h18 n19 fun p23 h24 n25=>RK (vSt h24 2 p23 x22) fun h26=>RK (vLd (some 2) h26 p23) fun x27=>Cv Q O s 38 [x27,y1] h26 n25 fun x28 h29 n30=>RK (vLd (some 2) h29 p23) fun x31=>Cv Q O s 40 [x31,x28] h29 n30 fun x32 h33 n34=>Cv Q O s 39 [x28,x32,y3] h33 n34 fun x35 h36 n37=>K x35 h36 n37) 1 [h0])
def rpway (s:Bool) (t0 t1 t2 t3:Value) (h:Hp) (nx:Nat) (K:KC'):Prop:=AR (zZ (zF t0)) h nx fun p1 h2 n3=>RK (vLd (some 2) h2 p1) fun x4=>Cv Q O s 13 [x4,t1,t2] h2 n3 fun x5 h6 n7=>RK (oUn .not x5) fun x8=>IF x8 ((zDf s K t1 t2 t3 p1 (.bool true) h6 n7)) (RK (bin Q .lss 3 t3 (.int .i64 0)) fun x9=>IF x9 ((zDf s K t1 t2 t3 p1 (.bool true) h6 n7)) (RK (zO 0 p1) fun x10=>RK (vLd none h6 x10) fun x11=>RK (bin Q .geq 3 t3 x11) fun x12=>IF x12 ((zDf s K t1 t2 t3 p1 (.bool true) h6 n7)) (RK (vIx (.slice 1) t2 t3) fun x13=>RK (vLd none h6 x13) fun x14=>RK (bin Q .eql 2 x14 (.int .i64 4611686018427387904)) fun x15=>(zDf s K t1 t2 t3 p1 x15 h6 n7))))
theorem rpwaye {s:Bool} {t0 t1 t2 t3:Value} {h:Hp} {nx:Nat} {K:KC'}:fF Q O s rpwayL 19 [t0,t1,t2,t3] h nx K=rpway s t0 t1 t2 t3 h nx K:=by kernel_rfl
theorem rpwayv {s:Bool} {t0 t1 t2 t3:Value} {h:Hp} {nx:Nat} {K:KC'} (w:rpway s t0 t1 t2 t3 h nx K):Cv Q O s 19 [t0,t1,t2,t3] h nx K:=Cv.byF rpwayL rfl (by rw [rpwaye]; exact w)
def zIz:List (List Nat):=[[1,2,5,6],[2,5,7],[2,5,7,8]]
def rfarl0 (s:Bool) (a1 a2 a5 a6:Value) (h:Hp) (nx:Nat) (N:KVl) (e0:KVl) (R:KVl):Prop:=RK (zO 0 a2) fun x7=>RK (vLd none h x7) fun x8=>RK (bin Q .lss 3 a6 x8) fun x9=>IF x9 (AR (vBsl 1 [(.int .i64 0)] [(0,1,(.int .i64 4611686018427387904))]) h nx fun p10 h11 n12=>EK (orR (zh 1 h11 n12 a5 p10)) fun x13 h14 n15=>RK (bin Q .add 3 a6 (.int .i64 1)) fun x16=>N [a1,a2,x13,x16] h14 n15) (e0 [a1,a2,a5,a6] h nx)
def zH1 (s:Bool) (N:KVl) (e4:KVl) (R:KVl) (y2 y5 y7 y8:Value) (h0:Hp) (n0:Nat):Prop:=RK (bin Q .add 3 y8 (.int .i64 1)) fun x68=>N [y2,y5,y7,x68] h0 n0
def rfarl2 (s:Bool) (a2 a5 a7 a8:Value) (h:Hp) (nx:Nat) (N:KVl) (e4:KVl) (R:KVl):Prop:=RK (zO 1 a2) fun x28=>RK (vLd none h x28) fun x29=>RK (lenS x29) fun x30=>RK (bin Q .lss 3 a8 x30) fun x31=>IF x31 (RK (zO 1 a2) fun x32=>RK (vLd none h x32) fun x33=>RK (vIx (.slice 3) x33 a8) fun x34=>RK (vLd (some 3) h x34) fun x35=>AR (.ok (.ptr (.cells [(.int .i64 0),(.int .i64 0),(.int .i64 0)] false))) h nx fun p36 h37 n38=>RK (vSt h37 3 p36 x35) fun h39=>RK (zO 0 p36) fun x40=>RK (vLd none h39 x40) fun x41=>RK (vIx (.slice 1) a5 x41) fun x42=>RK (vLd none h39 x42) fun x43=>RK (bin Q .lss 2 x43 (.int .i64 4611686018427387904)) fun x44=>IF x44 (RK (zO 0 p36) fun x45=>RK (vLd none h39 x45) fun x46=>RK (vIx (.slice 1) a5 x46) fun x47=>RK (vLd none h39 x47) fun x48=>RK (zO 2 p36) fun x49=>RK (vLd none h39 x49) fun x50=>RK (bin Q .add 2 x48 x50) fun x51=>RK (zO 1 p36) fun x52=>RK (vLd none h39 x52) fun x53=>RK (vIx (.slice 1) a5 x53) fun x54=>RK (vLd none h39 x54) fun x55=>RK (bin Q .lss 2 x51 x55) fun x56=>IF x56 (RK (zO 1 p36) fun x57=>RK (vLd none h39 x57) fun x58=>RK (zO 0 p36) fun x59=>RK (vLd none h39 x59) fun x60=>RK (vIx (.slice 1) a5 x60) fun x61=>RK (vLd none h39 x61) fun x62=>RK (zO 2 p36) fun x63=>RK (vLd none h39 x63) fun x64=>RK (bin Q .add 2 x62 x64) fun x65=>RK (vIx (.slice 1) a5 x58) fun x66=>RK (vSt h39 1 x66 x65) fun h67=>(zH1 s N e4 R a2 a5 a7 a8 h67 n38)) ((zH1 s N e4 R a2 a5 a7 a8 h39 n38))) ((zH1 s N e4 R a2 a5 a7 a8 h39 n38))) (e4 [a2,a5,a7,a8] h nx)
def rfarl1 (s:Bool) (a2 a5 a7:Value) (h:Hp) (nx:Nat) (N:KVl) (e2:KVl) (R:KVl):Prop:=RK (zO 0 a2) fun x22=>RK (vLd none h x22) fun x23=>RK (bin Q .lss 3 a7 x23) fun x24=>IF x24 (Lp (fL Q O s zIz 20 2) [a2,a5,a7,(.int .i64 0)] h nx [(4,fun v27 h25 n26=>RK (bin Q .add 3 (nv v27 2) (.int .i64 1)) fun x69=>N [(nv v27 0),(nv v27 1),x69] h25 n26)] (fun _ _ _=>False)) (e2 [a2,a5,a7] h nx)
def rfar (s:Bool) (t0 t1:Value) (h:Hp) (nx:Nat) (K:KC'):Prop:=AR (zZ (zF t0)) h nx fun p1 h2 n3=>Lp (fL Q O s zIz 20 0) [t1,p1,(.slice none 0 0),(.int .i64 0)] h2 n3 [(0,fun v6 h4 n5=>RK (vIx (.slice 1) (nv v6 2) (nv v6 0)) fun x17=>RK (vSt h4 1 x17 (.int .i64 0)) fun h18=>Lp (fL Q O s zIz 20 1) [(nv v6 1),(nv v6 2),(.int .i64 0)] h18 n5 [(2,fun v21 h19 n20=>K (nv v21 1) h19 n20)] (fun _ _ _=>False))] (fun _ _ _=>False)
theorem rfarb0 {s:Bool} {a1 a2 a5 a6:Value} {h:Hp} {nx:Nat} {N e0 R:KVl}:fL Q O s zIz 20 0 [a1,a2,a5,a6] h nx N [(0,e0)] R=rfarl0 s a1 a2 a5 a6 h nx N e0 R:=by kernel_rfl
theorem rfarb2 {s:Bool} {a2 a5 a7 a8:Value} {h:Hp} {nx:Nat} {N e4 R:KVl}:fL Q O s zIz 20 2 [a2,a5,a7,a8] h nx N [(4,e4)] R=rfarl2 s a2 a5 a7 a8 h nx N e4 R:=by kernel_rfl
theorem rfarb1 {s:Bool} {a2 a5 a7:Value} {h:Hp} {nx:Nat} {N e2 R:KVl}:fL Q O s zIz 20 1 [a2,a5,a7] h nx N [(2,e2)] R=rfarl1 s a2 a5 a7 h nx N e2 R:=by kernel_rfl
theorem rfare {s:Bool} {t0 t1:Value} {h:Hp} {nx:Nat} {K:KC'}:fF Q O s zIz 20 [t0,t1] h nx K=rfar s t0 t1 h nx K:=by kernel_rfl
theorem rfarv {s:Bool} {t0 t1:Value} {h:Hp} {nx:Nat} {K:KC'} (w:rfar s t0 t1 h nx K):Cv Q O s 20 [t0,t1] h nx K:=Cv.byF zIz rfl (by rw [rfare]; exact w)
def zPX:List (List Nat):=[]
def zPY (s:Bool) (t0 t1:Value) (h:Hp) (nx:Nat) (K:KC'):Prop:=AR (zZ (zF t0)) h nx fun p1 h2 n3=>RK (vLd (some 2) h2 p1) fun x4=>Cv Q O s 32 [x4] h2 n3 fun x5 h6 n7=>RK (bin Q .eql 53 x5 (.int .i64 0)) fun x8=>IF x8 (RK (bin Q .geq 3 t1 (.int .i64 0)) fun x9=>IF x9 (RK (zO 0 p1) fun x10=>RK (vLd none h6 x10) fun x11=>RK (bin Q .lss 3 t1 x11) fun x12=>K x12 h6 n7) (K (.bool false) h6 n7)) (K (.bool false) h6 n7)
theorem prighte {s:Bool} {t0 t1:Value} {h:Hp} {nx:Nat} {K:KC'}:fF Q O s zPX 25 [t0,t1] h nx K=zPY s t0 t1 h nx K:=by kernel_rfl
theorem prightv {s:Bool} {t0 t1:Value} {h:Hp} {nx:Nat} {K:KC'} (w:zPY s t0 t1 h nx K):Cv Q O s 25 [t0,t1] h nx K:=Cv.byF zPX rfl (by rw [prighte]; exact w)
def zQP:List (List Nat):=[]
def zIZ (s:Bool) (K:KC') (y1 y2 y3 y4 y8 y9:Value) (h0:Hp) (n0:Nat):Prop:=RK (zO 0 y4) fun x14=>RK (vLd none h0 x14) fun x15=>RK (vBld [(.int .i64 0),(.int .i64 0),(.int .i64 0),(.int .i64 0),(.slice none 0 0)] [(0,1,(.int .i64 1)),(1,1,x15),(2,1,y1)]) fun x16=>RK (vLd (some 2) h0 y4) fun x17=>RK (vBld [(.int .i64 0),(.int .i64 0),(.int .i64 0),(.int .i64 0),(.slice none 0 0),(.int .i64 0),(.slice none 0 0),(.int .i64 0),(.int .i64 0),(.int .i64 0),(.int .i64 0),(.slice none 0 0)] [(0,5,x16),(5,2,x17),(7,1,y2),(8,1,y3),(9,1,(.int .i64 4)),(10,1,y9)]) fun x18=>RK (vSt h0 12 y8 x18) fun h19=>RK (vLd (some 12) h19 y8) fun x20=>K x20 h19 n0
def zQQ (s:Bool) (t0 t1 t2 t3:Value) (h:Hp) (nx:Nat) (K:KC'):Prop:=AR (zZ (zF t0)) h nx fun p1 h2 n3=>AR (.ok (.ptr (.cells [(.int .i64 0),(.int .i64 0),(.int .i64 0),(.int .i64 0),(.slice none 0 0),(.int .i64 0),(.slice none 0 0),(.int .i64 0),(.int .i64 0),(.int .i64 0),(.int .i64 0),(.slice none 0 0)] false))) h2 n3 fun p4 h5 n6=>RK (zO 0 p1) fun x7=>RK (vLd none h5 x7) fun x8=>RK (bin Q .geq 3 x8 (.int .i64 0)) fun x9=>IF x9 (RK (zO 0 p1) fun x10=>RK (vLd none h5 x10) fun x11=>RK (min2 true x11 (.int .i64 8191)) fun x12=>RK (bin Q .add 3 x12 (.int .i64 1)) fun x13=>(zIZ s K t1 t2 t3 p1 p4 x13 h5 n6)) ((zIZ s K t1 t2 t3 p1 p4 (.int .i64 0) h5 n6))
theorem hsetupe {s:Bool} {t0 t1 t2 t3:Value} {h:Hp} {nx:Nat} {K:KC'}:fF Q O s zQP 28 [t0,t1,t2,t3] h nx K=zQQ s t0 t1 t2 t3 h nx K:=by kernel_rfl
theorem hsetupv {s:Bool} {t0 t1 t2 t3:Value} {h:Hp} {nx:Nat} {K:KC'} (w:zQQ s t0 t1 t2 t3 h nx K):Cv Q O s 28 [t0,t1,t2,t3] h nx K:=Cv.byF zQP rfl (by rw [hsetupe]; exact w)
def zLx:List (List Nat):=[]
def zKS (s:Bool) (t0 t1 t2 t3:Value) (h:Hp) (nx:Nat) (K:KC'):Prop:=AR (zZ (zF t0)) h nx fun p1 h2 n3=>AR (.ok (.ptr (.cells [(.int .i64 0),(.int .i64 0),(.int .i64 0),(.int .i64 0),(.slice none 0 0),(.int .i64 0),(.slice none 0 0),(.int .i64 0),(.int .i64 0),(.int .i64 0),(.int .i64 0),(.slice none 0 0)] false))) h2 n3 fun p4 h5 n6=>RK (zO 0 p1) fun x7=>RK (vLd none h5 x7) fun x8=>RK (min2 true x8 (.int .i64 8191)) fun x9=>RK (bin Q .add 3 x9 (.int .i64 1)) fun x10=>RK (min2 false (.int .i64 0) x10) fun x11=>RK (zO 0 p1) fun x12=>RK (vLd none h5 x12) fun x13=>RK (vBld [(.int .i64 0),(.int .i64 0),(.int .i64 0),(.int .i64 0),(.slice none 0 0)] [(0,1,(.int .i64 1)),(1,1,x13),(2,1,t1)]) fun x14=>RK (vLd (some 2) h5 p1) fun x15=>RK (vBld [(.int .i64 0),(.int .i64 0),(.int .i64 0),(.int .i64 0),(.slice none 0 0),(.int .i64 0),(.slice none 0 0),(.int .i64 0),(.int .i64 0),(.int .i64 0),(.int .i64 0),(.slice none 0 0)] [(0,5,x14),(5,2,x15),(7,1,t2),(8,1,t3),(9,1,(.int .i64 4)),(10,1,x11)]) fun x16=>RK (vSt h5 12 p4 x16) fun h17=>RK (vLd (some 12) h17 p4) fun x18=>K x18 h17 n6
theorem rhsetupe {s:Bool} {t0 t1 t2 t3:Value} {h:Hp} {nx:Nat} {K:KC'}:fF Q O s zLx 29 [t0,t1,t2,t3] h nx K=zKS s t0 t1 t2 t3 h nx K:=by kernel_rfl
theorem rhsetupv {s:Bool} {t0 t1 t2 t3:Value} {h:Hp} {nx:Nat} {K:KC'} (w:zKS s t0 t1 t2 t3 h nx K):Cv Q O s 29 [t0,t1,t2,t3] h nx K:=Cv.byF zLx rfl (by rw [rhsetupe]; exact w)
def zF4:List (List Nat):=[[1,5,6,26,27,28],[5,6,9],[5,6,9,10,74,75,76]]
def zQ0 (s:Bool) (a1 a5 a6 a26 a27 a28:Value) (h:Hp) (nx:Nat) (N:KVl) (e0:KVl) (R:KVl):Prop:=RK (bin Q .lss 3 a28 a27) fun x28=>IF x28 (RK (vIx (.slice 3) a26 a28) fun x29=>RK (vLd (some 3) h x29) fun x30=>AR (.ok (.ptr (.cells [(.int .i64 0),(.int .i64 0),(.int .i64 0)] false))) h nx fun p31 h32 n33=>RK (vSt h32 3 p31 x30) fun h34=>RK (zO 0 p31) fun x35=>RK (vLd none h34 x35) fun x36=>RK (vIx (.slice 1) a6 x36) fun x37=>RK (vLd none h34 x37) fun x38=>RK (vLd (some 3) h34 p31) fun x39=>AR (vBsl 1 [(.int .i64 0),(.int .i64 0),(.int .i64 0)] [(0,3,x39)]) h34 n33 fun p40 h41 n42=>EK (orR (zh 3 h41 n42 x38 p40)) fun x43 h44 n45=>n42≤n45∧RK (zO 0 p31) fun x46=>RK (vLd none h44 x46) fun x47=>AGK (fun h=>vLd none h x46) x47 (RK (vIx (.slice 1) a6 x47) fun x48=>RK (vSt h44 1 x48 x43) fun h49=>RK (bin Q .add 3 a28 (.int .i64 1)) fun x50=>N [a1,a5,a6,a26,a27,x50] h49 n45) 1 [h34]) (e0 [a1,a5,a6,a26,a27,a28] h nx)
def zQY (s:Bool) (a5 a6 a9 a10 a74 a75 a76:Value) (h:Hp) (nx:Nat) (N:KVl) (e4:KVl) (R:KVl):Prop:=RK (bin Q .lss 3 a76 a75) fun x94=>IF x94 (RK (vIx (.slice 3) a74 a76) fun x95=>RK (vLd (some 3) h x95) fun x96=>AR (.ok (.ptr (.cells [(.int .i64 0),(.int .i64 0),(.int .i64 0)] false))) h nx fun p97 h98 n99=>RK (vSt h98 3 p97 x96) fun h100=>RK (zO 1 a10) fun x101=>RK (vLd none h100 x101) fun x102=>RK (zO 2 p97) fun x103=>RK (vLd none h100 x103) fun x104=>RK (bin Q .add 2 x102 x104) fun x105=>RK (zO 1 p97) fun x106=>RK (vLd none h100 x106) fun x107=>RK (vIx (.slice 1) a5 x107) fun x108=>RK (vLd none h100 x108) fun x109=>RK (bin Q .lss 2 x105 x109) fun x110=>IF x110 (RK (zO 1 p97) fun x111=>RK (vLd none h100 x111) fun x112=>RK (vIx (.slice 1) a5 x112) fun x113=>RK (vSt h100 1 x113 x105) fun h114=>RK (.ok (Value.iface 82 a9)) fun x115=>RK (zO 1 p97) fun x116=>RK (vLd none h114 x116) fun x117=>RK (vBld [(.int .i64 0),(.int .i64 0)] [(0,1,x117),(1,1,x105)]) fun x118=>RK (.ok (Value.iface 84 x118)) fun x119=>Cv Q O s 46 [x115,x119] h114 n99 fun x120 h121 n122=>RK (bin Q .add 3 a76 (.int .i64 1)) fun x125=>N [a5,a6,a9,a10,a74,a75,x125] h121 n122) (RK (bin Q .add 3 a76 (.int .i64 1)) fun x126=>N [a5,a6,a9,a10,a74,a75,x126] h100 n99)) (e4 [a5,a6,a9,a10,a74,a75,a76] h nx)
def zQZ (s:Bool) (a5 a6 a9:Value) (h:Hp) (nx:Nat) (N:KVl) (e2:KVl) (R:KVl):Prop:=RK (zB8 a9) fun x61=>RK (vLd none h x61) fun x62=>Cv Q O s 44 [x62] h nx fun x63 h64 n65=>RK (bin Q .gtr 3 x63 (.int .i64 0)) fun x66=>IF x66 (RK (zB8 a9) fun x67=>RK (vLd none h64 x67) fun x68=>RK (vIx (.slice 2) x68 (.int .i64 0)) fun x69=>RK (vLd (some 2) h64 x69) fun x70=>AR (.ok (.ptr (.cells [(.int .i64 0),(.int .i64 0)] false))) h64 n65 fun p71 h72 n73=>RK (vSt h72 2 p71 x70) fun h74=>RK (.ok (Value.iface 82 a9)) fun x75=>Cv Q O s 45 [x75] h74 n73 fun x76 h77 n78=>RK (zO 1 p71) fun x79=>RK (vLd none h77 x79) fun x80=>RK (zO 0 p71) fun x81=>RK (vLd none h77 x81) fun x82=>RK (vIx (.slice 1) a5 x82) fun x83=>RK (vLd none h77 x83) fun x84=>RK (bin Q .gtr 2 x80 x84) fun x85=>IF x85 (N [a5,a6,a9] h77 n78) (RK (zO 0 p71) fun x86=>RK (vLd none h77 x86) fun x87=>RK (vIx (.slice 1) a6 x87) fun x88=>RK (vLd none h77 x88) fun x89=>RK (lenS x89) fun x90=>Lp (fL Q O s zF4 31 2) [a5,a6,a9,p71,x89,x90,(.int .i64 0)] h77 n78 [(4,fun v93 h91 n92=>N [(nv v93 0),(nv v93 1),(nv v93 2)] h91 n92)] (fun _ _ _=>False))) (e2 [a5,a6,a9] h64 n65)
def found (s:Bool) (t0 t1:Value) (h:Hp) (nx:Nat) (K:KC'):Prop:=AR (zZ (zF t0)) h nx fun p1 h2 n3=>AR (vBsl 1 [(.int .i64 0)] [(0,1,(.int .i64 4611686018427387904))]) h2 n3 fun p4 h5 n6=>RK (zO 0 p1) fun x7=>RK (vLd none h5 x7) fun x8=>Cv Q O s 35 [p4,x8] h5 n6 fun x9 h10 n11=>RK (vIx (.slice 1) x9 t1) fun x12=>RK (vSt h10 1 x12 (.int .i64 0)) fun h13=>RK (zO 0 p1) fun x14=>RK (vLd none h13 x14) fun x15=>AR (vMks [(.slice none 0 0)] x15 x15) h13 n11 fun p16 h17 n18=>RK (vLd (some 2) h17 p1) fun x19=>Cv Q O s 26 [x19] h17 n18 fun x20 h21 n22=>RK (cFld 1 none x20) fun x23=>RK (lenS x23) fun x24=>Lp (fL Q O s zF4 31 0) [t1,x9,p16,x23,x24,(.int .i64 0)] h21 n22 [(0,fun v27 h25 n26=>RK (vBld [(.int .i64 0),(.int .i64 0)] [(0,1,(nv v27 0)),(1,1,(.int .i64 0))]) fun x51=>AR (vBsl 1 [(.int .i64 0),(.int .i64 0)] [(0,2,x51)]) h25 n26 fun p52 h53 n54=>AR (zZ (zF p52)) h53 n54 fun p55 h56 n57=>Lp (fL Q O s zF4 31 1) [(nv v27 1),(nv v27 2),p55] h56 n57 [(2,fun v60 h58 n59=>K (nv v60 0) h58 n59)] (fun _ _ _=>False))] (fun _ _ _=>False)
theorem foundb0 {s:Bool} {a1 a5 a6 a26 a27 a28:Value} {h:Hp} {nx:Nat} {N e0 R:KVl}:fL Q O s zF4 31 0 [a1,a5,a6,a26,a27,a28] h nx N [(0,e0)] R=zQ0 s a1 a5 a6 a26 a27 a28 h nx N e0 R:=by kernel_rfl
theorem foundb2 {s:Bool} {a5 a6 a9 a10 a74 a75 a76:Value} {h:Hp} {nx:Nat} {N e4 R:KVl}:fL Q O s zF4 31 2 [a5,a6,a9,a10,a74,a75,a76] h nx N [(4,e4)] R=zQY s a5 a6 a9 a10 a74 a75 a76 h nx N e4 R:=by kernel_rfl
theorem foundb1 {s:Bool} {a5 a6 a9:Value} {h:Hp} {nx:Nat} {N e2 R:KVl}:fL Q O s zF4 31 1 [a5,a6,a9] h nx N [(2,e2)] R=zQZ s a5 a6 a9 h nx N e2 R:=by kernel_rfl
theorem founde {s:Bool} {t0 t1:Value} {h:Hp} {nx:Nat} {K:KC'}:fF Q O s zF4 31 [t0,t1] h nx K=found s t0 t1 h nx K:=by kernel_rfl
theorem foundv {s:Bool} {t0 t1:Value} {h:Hp} {nx:Nat} {K:KC'} (w:found s t0 t1 h nx K):Cv Q O s 31 [t0,t1] h nx K:=Cv.byF zF4 rfl (by rw [founde]; exact w)
def zOf:List (List Nat):=[]
def zOg (s:Bool) (t0:Value) (h:Hp) (nx:Nat) (K:KC'):Prop:=RK (bin Q .geq 2 t0 (.int .i64 0)) fun x1=>IF x1 (RK (bin Q .lss 2 t0 (.int .i64 4611686018427387904)) fun x2=>K x2 h nx) (K (.bool false) h nx)
theorem tight1e {s:Bool} {t0:Value} {h:Hp} {nx:Nat} {K:KC'}:fF Q O s zOf 33 [t0] h nx K=zOg s t0 h nx K:=by kernel_rfl
theorem tight1v {s:Bool} {t0:Value} {h:Hp} {nx:Nat} {K:KC'} (w:zOg s t0 h nx K):Cv Q O s 33 [t0] h nx K:=Cv.byF zOf rfl (by rw [tight1e]; exact w)
def repeL:List (List Nat):=[[7,8]]
def repel0 (s:Bool) (a7 a8:Value) (h:Hp) (nx:Nat) (N:KVl) (e0:KVl) (R:KVl):Prop:=RK (lenS a7) fun x24=>RK (bin Q .lss 3 a8 x24) fun x25=>IF x25 (RK (vSl 1 a7 (some a8) none none) fun x26=>RK (vSl 1 a7 none (some a8) none) fun x27=>EK (orR (zBh Q .copy [27,27] h nx [x26,x27])) fun x28 h29 n30=>nx≤n30∧RK (bin Q .add 3 a8 x28) fun x31=>N [a7,x31] h29 n30) (e0 [a7,a8] h nx)
def zPM (s:Bool) (K:KC') (y0 y6 y26:Value) (h0:Hp) (n0:Nat):Prop:=IF y26 (RK (.ok (Value.iface 9 (.string ⟨#[116,104,101,32,114,101,115,117,108,116,32,111,102,32,40,108,101,110,40,120,41,32,42,32,99,111,117,110,116,41,32,111,118,101,114,102,108,111,119,115]⟩))) fun x13=>False) (RK (zD7 (.int .i64) y6) fun x14=>AR (vMks [(.int .i64 0)] x14 x14) h0 n0 fun p15 h16 n17=>EK (orR (zBh Q .copy [27,27] h16 n17 [p15,y0])) fun x18 h19 n20=>Lp (fL Q O s repeL 35 0) [p15,x18] h19 n20 [(0,fun v23 h21 n22=>K (nv v23 0) h21 n22)] (fun _ _ _=>False))
def repe (s:Bool) (t0 t1:Value) (h:Hp) (nx:Nat) (K:KC'):Prop:=RK (bin Q .lss 3 t1 (.int .i64 0)) fun x1=>IF x1 (RK (.ok (Value.iface 9 (.string ⟨#[99,97,110,110,111,116,32,98,101,32,110,101,103,97,116,105,118,101]⟩))) fun x2=>False) (RK (lenS t0) fun x3=>RK (zD7 (.int .u64) x3) fun x4=>RK (zD7 (.int .u64) t1) fun x5=>Cv Q O s 52 [x4,x5] h nx fun x6 h7 n8=>RK (zo x6 0) fun x9=>RK (zo x6 1) fun x10=>RK (bin Q .gtr 93 x9 (.int .u64 0)) fun x11=>IF x11 ((zPM s K t0 x10 (.bool true) h7 n8)) (RK (bin Q .gtr 93 x10 (.int .u64 9223372036854775807)) fun x12=>(zPM s K t0 x10 x12 h7 n8)))
theorem repeb0 {s:Bool} {a7 a8:Value} {h:Hp} {nx:Nat} {N e0 R:KVl}:fL Q O s repeL 35 0 [a7,a8] h nx N [(0,e0)] R=repel0 s a7 a8 h nx N e0 R:=by kernel_rfl
theorem repee {s:Bool} {t0 t1:Value} {h:Hp} {nx:Nat} {K:KC'}:fF Q O s repeL 35 [t0,t1] h nx K=repe s t0 t1 h nx K:=by kernel_rfl
theorem repev {s:Bool} {t0 t1:Value} {h:Hp} {nx:Nat} {K:KC'} (w:repe s t0 t1 h nx K):Cv Q O s 35 [t0,t1] h nx K:=Cv.byF repeL rfl (by rw [repee]; exact w)
def slenL:List (List Nat):=[]
def slen (s:Bool) (t0:Value) (h:Hp) (nx:Nat) (K:KC'):Prop:=RK (lenS t0) fun x1=>K x1 h nx
theorem slene {s:Bool} {t0:Value} {h:Hp} {nx:Nat} {K:KC'}:fF Q O s slenL 44 [t0] h nx K=slen s t0 h nx K:=by kernel_rfl
theorem slenv {s:Bool} {t0:Value} {h:Hp} {nx:Nat} {K:KC'} (w:slen s t0 h nx K):Cv Q O s 44 [t0] h nx K:=Cv.byF slenL rfl (by rw [slene]; exact w)
def hpopL:List (List Nat):=[]
def hpop (s:Bool) (t0:Value) (h:Hp) (nx:Nat) (K:KC'):Prop:=CVK Q O s (zAQ Q h nx [] "Len" t0) fun x1 h2 n3=>RK (bin Q .sub 3 x1 (.int .i64 1)) fun x4=>CVK Q O s (zAQ Q h2 n3 [(.int .i64 0),x4] "Swap" t0) fun x5 h6 n7=>Cv Q O s 66 [t0,(.int .i64 0),x4] h6 n7 fun x8 h9 n10=>CVK Q O s (zAQ Q h9 n10 [] "Pop" t0) fun x11 h12 n13=>K x11 h12 n13
theorem hpope {s:Bool} {t0:Value} {h:Hp} {nx:Nat} {K:KC'}:fF Q O s hpopL 45 [t0] h nx K=hpop s t0 h nx K:=by kernel_rfl
theorem hpopv {s:Bool} {t0:Value} {h:Hp} {nx:Nat} {K:KC'} (w:hpop s t0 h nx K):Cv Q O s 45 [t0] h nx K:=Cv.byF hpopL rfl (by rw [hpope]; exact w)
def hpushL:List (List Nat):=[]
def hpush (s:Bool) (t0 t1:Value) (h:Hp) (nx:Nat) (K:KC'):Prop:=CVK Q O s (zAQ Q h nx [t1] "Push" t0) fun x1 h2 n3=>CVK Q O s (zAQ Q h2 n3 [] "Len" t0) fun x4 h5 n6=>RK (bin Q .sub 3 x4 (.int .i64 1)) fun x7=>Cv Q O s 67 [t0,x7] h5 n6 fun x8 h9 n10=>K (.tuple ⟨[]⟩) h9 n10
theorem hpushe {s:Bool} {t0 t1:Value} {h:Hp} {nx:Nat} {K:KC'}:fF Q O s hpushL 46 [t0,t1] h nx K=hpush s t0 t1 h nx K:=by kernel_rfl
theorem hpushv {s:Bool} {t0 t1:Value} {h:Hp} {nx:Nat} {K:KC'} (w:hpush s t0 t1 h nx K):Cv Q O s 46 [t0,t1] h nx K:=Cv.byF hpushL rfl (by rw [hpushe]; exact w)
def zM1:List (List Nat):=[[0,1,2,7]]
def zGf (s:Bool) (N:KVl) (e0:KVl) (R:KVl) (y0 y1 y2 y7:Value) (h0:Hp) (n0:Nat):Prop:=N [y0,y1,y2,y7] h0 n0
def zQS (s:Bool) (a0 a1 a2 a7:Value) (h:Hp) (nx:Nat) (N:KVl) (e0:KVl) (R:KVl):Prop:=RK (bin Q .mul 3 (.int .i64 2) a7) fun x4=>RK (bin Q .add 3 x4 (.int .i64 1)) fun x5=>RK (bin Q .geq 3 x5 a2) fun x6=>IF x6 (e0 [a0,a1,a2,a7] h nx) (RK (bin Q .lss 3 x5 (.int .i64 0)) fun x7=>IF x7 (e0 [a0,a1,a2,a7] h nx) (RK (bin Q .add 3 x5 (.int .i64 1)) fun x8=>RK (bin Q .lss 3 x8 a2) fun x9=>IF x9 (CVK Q O s (zAQ Q h nx [x8,x5] "Less" a0) fun x10 h11 n12=>IF x10 (CVK Q O s (zAQ Q h11 n12 [x8,a7] "Less" a0) fun x13 h14 n15=>RK (oUn .not x13) fun x16=>IF x16 (e0 [a0,a1,a2,a7] h14 n15) (CVK Q O s (zAQ Q h14 n15 [a7,x8] "Swap" a0) fun x17 h18 n19=>(zGf s N e0 R a0 a1 a2 x8 h18 n19))) (CVK Q O s (zAQ Q h11 n12 [x5,a7] "Less" a0) fun x20 h21 n22=>RK (oUn .not x20) fun x23=>IF x23 (e0 [a0,a1,a2,a7] h21 n22) (CVK Q O s (zAQ Q h21 n22 [a7,x5] "Swap" a0) fun x24 h25 n26=>(zGf s N e0 R a0 a1 a2 x5 h25 n26)))) (CVK Q O s (zAQ Q h nx [x5,a7] "Less" a0) fun x27 h28 n29=>RK (oUn .not x27) fun x30=>IF x30 (e0 [a0,a1,a2,a7] h28 n29) (CVK Q O s (zAQ Q h28 n29 [a7,x5] "Swap" a0) fun x31 h32 n33=>(zGf s N e0 R a0 a1 a2 x5 h32 n33)))))
def hdown (s:Bool) (t0 t1 t2:Value) (h:Hp) (nx:Nat) (K:KC'):Prop:=Lp (fL Q O s zM1 66 0) [t0,t1,t2,t1] h nx [(0,fun v3 h1 n2=>RK (bin Q .gtr 3 (nv v3 3) (nv v3 1)) fun x34=>K x34 h1 n2)] (fun _ _ _=>False)
theorem hdownb0 {s:Bool} {a0 a1 a2 a7:Value} {h:Hp} {nx:Nat} {N e0 R:KVl}:fL Q O s zM1 66 0 [a0,a1,a2,a7] h nx N [(0,e0)] R=zQS s a0 a1 a2 a7 h nx N e0 R:=by kernel_rfl
theorem hdowne {s:Bool} {t0 t1 t2:Value} {h:Hp} {nx:Nat} {K:KC'}:fF Q O s zM1 66 [t0,t1,t2] h nx K=hdown s t0 t1 t2 h nx K:=by kernel_rfl
theorem hdownv {s:Bool} {t0 t1 t2:Value} {h:Hp} {nx:Nat} {K:KC'} (w:hdown s t0 t1 t2 h nx K):Cv Q O s 66 [t0,t1,t2] h nx K:=Cv.byF zM1 rfl (by rw [hdowne]; exact w)
def hupL:List (List Nat):=[[0,1]]
def hupl0 (s:Bool) (a0 a1:Value) (h:Hp) (nx:Nat) (N:KVl) (e0:KVl) (R:KVl):Prop:=RK (bin Q .sub 3 a1 (.int .i64 1)) fun x4=>RK (bin Q .quo 3 x4 (.int .i64 2)) fun x5=>RK (bin Q .eql 3 x5 a1) fun x6=>IF x6 (e0 [a0,a1] h nx) (CVK Q O s (zAQ Q h nx [a1,x5] "Less" a0) fun x7 h8 n9=>RK (oUn .not x7) fun x10=>IF x10 (e0 [a0,a1] h8 n9) (CVK Q O s (zAQ Q h8 n9 [x5,a1] "Swap" a0) fun x11 h12 n13=>N [a0,x5] h12 n13))
def hup (s:Bool) (t0 t1:Value) (h:Hp) (nx:Nat) (K:KC'):Prop:=Lp (fL Q O s hupL 67 0) [t0,t1] h nx [(0,fun v3 h1 n2=>K (.tuple ⟨[]⟩) h1 n2)] (fun _ _ _=>False)
theorem hupb0 {s:Bool} {a0 a1:Value} {h:Hp} {nx:Nat} {N e0 R:KVl}:fL Q O s hupL 67 0 [a0,a1] h nx N [(0,e0)] R=hupl0 s a0 a1 h nx N e0 R:=by kernel_rfl
theorem hupe {s:Bool} {t0 t1:Value} {h:Hp} {nx:Nat} {K:KC'}:fF Q O s hupL 67 [t0,t1] h nx K=hup s t0 t1 h nx K:=by kernel_rfl
theorem hupv {s:Bool} {t0 t1:Value} {h:Hp} {nx:Nat} {K:KC'} (w:hup s t0 t1 h nx K):Cv Q O s 67 [t0,t1] h nx K:=Cv.byF hupL rfl (by rw [hupe]; exact w)
def slessL:List (List Nat):=[]
def sless (s:Bool) (t0 t1 t2:Value) (h:Hp) (nx:Nat) (K:KC'):Prop:=RK (vIx (.slice 2) t0 t1) fun x1=>RK (zO 1 x1) fun x2=>RK (vLd none h x2) fun x3=>RK (vIx (.slice 2) t0 t2) fun x4=>RK (zO 1 x4) fun x5=>RK (vLd none h x5) fun x6=>RK (bin Q .lss 2 x3 x6) fun x7=>K x7 h nx
theorem slesse {s:Bool} {t0 t1 t2:Value} {h:Hp} {nx:Nat} {K:KC'}:fF Q O s slessL 385 [t0,t1,t2] h nx K=sless s t0 t1 t2 h nx K:=by kernel_rfl
theorem slessv {s:Bool} {t0 t1 t2:Value} {h:Hp} {nx:Nat} {K:KC'} (w:sless s t0 t1 t2 h nx K):Cv Q O s 385 [t0,t1,t2] h nx K:=Cv.byF slessL rfl (by rw [slesse]; exact w)
def spopL:List (List Nat):=[]
def spop (s:Bool) (t0:Value) (h:Hp) (nx:Nat) (K:KC'):Prop:=RK (zB8 t0) fun x1=>RK (vLd none h x1) fun x2=>RK (lenS x2) fun x3=>RK (bin Q .sub 3 x3 (.int .i64 1)) fun x4=>RK (zB8 t0) fun x5=>RK (vLd none h x5) fun x6=>RK (vIx (.slice 2) x6 x4) fun x7=>RK (vLd (some 2) h x7) fun x8=>AR (.ok (.ptr (.cells [(.int .i64 0),(.int .i64 0)] false))) h nx fun p9 h10 n11=>RK (vSt h10 2 p9 x8) fun h12=>RK (zB8 t0) fun x13=>RK (vLd none h12 x13) fun x14=>RK (vSl 2 x14 none (some x4) none) fun x15=>RK (zB8 t0) fun x16=>RK (vSt h12 1 x16 x15) fun h17=>RK (vLd (some 2) h17 p9) fun x18=>RK (.ok (Value.iface 84 x18)) fun x19=>K x19 h17 n11
theorem spope {s:Bool} {t0:Value} {h:Hp} {nx:Nat} {K:KC'}:fF Q O s spopL 386 [t0] h nx K=spop s t0 h nx K:=by kernel_rfl
theorem spopv {s:Bool} {t0:Value} {h:Hp} {nx:Nat} {K:KC'} (w:spop s t0 h nx K):Cv Q O s 386 [t0] h nx K:=Cv.byF spopL rfl (by rw [spope]; exact w)
def spushL:List (List Nat):=[]
def spush (s:Bool) (t0 t1:Value) (h:Hp) (nx:Nat) (K:KC'):Prop:=RK (zDm Q 84 true t1) fun x1=>RK (zo x1 0) fun x2=>RK (zo x1 1) fun x3=>AR (.ok (.ptr (.cells [(.int .i64 0),(.int .i64 0)] false))) h nx fun p4 h5 n6=>RK (vSt h5 2 p4 x2) fun h7=>IF x3 (RK (zB8 t0) fun x8=>RK (vLd none h7 x8) fun x9=>RK (vLd (some 2) h7 p4) fun x10=>AR (vBsl 1 [(.int .i64 0),(.int .i64 0)] [(0,2,x10)]) h7 n6 fun p11 h12 n13=>EK (orR (zh 2 h12 n13 x9 p11)) fun x14 h15 n16=>n13≤n16∧RK (zB8 t0) fun x17=>RK (vSt h15 1 x17 x14) fun h18=>K (.tuple ⟨[]⟩) h18 n16) (K (.tuple ⟨[]⟩) h7 n6)
theorem spushe {s:Bool} {t0 t1:Value} {h:Hp} {nx:Nat} {K:KC'}:fF Q O s spushL 387 [t0,t1] h nx K=spush s t0 t1 h nx K:=by kernel_rfl
theorem spushv {s:Bool} {t0 t1:Value} {h:Hp} {nx:Nat} {K:KC'} (w:spush s t0 t1 h nx K):Cv Q O s 387 [t0,t1] h nx K:=Cv.byF spushL rfl (by rw [spushe]; exact w)
def sswapL:List (List Nat):=[]
def sswap (s:Bool) (t0 t1 t2:Value) (h:Hp) (nx:Nat) (K:KC'):Prop:=RK (vIx (.slice 2) t0 t2) fun x1=>RK (vLd (some 2) h x1) fun x2=>RK (vIx (.slice 2) t0 t1) fun x3=>RK (vLd (some 2) h x3) fun x4=>RK (vIx (.slice 2) t0 t1) fun x5=>RK (vSt h 2 x5 x2) fun h6=>RK (vIx (.slice 2) t0 t2) fun x7=>RK (vSt h6 2 x7 x4) fun h8=>K (.tuple ⟨[]⟩) h8 nx
theorem sswape {s:Bool} {t0 t1 t2:Value} {h:Hp} {nx:Nat} {K:KC'}:fF Q O s sswapL 388 [t0,t1,t2] h nx K=sswap s t0 t1 t2 h nx K:=by kernel_rfl
theorem sswapv {s:Bool} {t0 t1 t2:Value} {h:Hp} {nx:Nat} {K:KC'} (w:sswap s t0 t1 t2 h nx K):Cv Q O s 388 [t0,t1,t2] h nx K:=Cv.byF sswapL rfl (by rw [sswape]; exact w)
theorem within_c {s:Bool} {k n:Int} {h:Hp} {nx:Nat}:Cv Q O s 21 [.int .i64 k,.int .i64 n] h nx (fun v h' nx'=>v = .int .i64 (wnF k n)∧h'=h∧nx'=nx):=by
 refine withinv ?_
 unfold zOM
 simp (disch:=omega) only [SS,seval]
 refine ⟨fun h1=>by simp [wnF,h1],fun h1=>⟨fun h2=>by simp [wnF,h2],fun h2=>?_⟩⟩
 rw [zRL (by omega),zW]
 simp [wnF,h1,h2]
theorem rd3 {es:List Edg3} {i:Nat} {e:Edg3} (he:es[i]? = some e):zAa (some 3) (i*3) (flat enc3 es) = .ok (.agg ⟨[.int .i64 e.1,.int .i64 e.2.1,.int .i64 e.2.2]⟩):=by
 have hg:=zBe (enc:=enc3) (k:=3) (fun _=>rfl) he
 have hi:=(List.getElem?_eq_some_iff.1 he).1
 rw [zBH,if_pos (by rw [zAG (k:=3) (fun _=>rfl)]; omega),hg]
 rfl
def GraphK (nx:Nat) (h:Hp):KC':=fun r h' nx'=>∃ (N:Nat) (v2:Value) (gs:List GE),r = .agg ⟨[.int .i64 (N:Int),v2]⟩∧N<24∧gs.length≤60∧(∀ g∈gs,GOk N g)∧SlNw h' nx nx' v2 encG gs∧nx≤nx'∧Keep nx h h'
def GraphJ (n:Int) (v:Value) (es:List Edg3) (N nx:Nat) (h:Hp) (m:Nat) (vs:List Value) (h':Hp) (nx':Nat):Prop :=
 ∃ (i:Nat) (v2:Value) (gs:List GE),m=60-i∧i≤60∧vs=[.pointer (some ⟨nx,0,none⟩),.pointer (some ⟨nx+1,0,none⟩),.pointer (some ⟨nx+1+1,0,none⟩),.int .i64 (i:Int)] ∧
  hget h' nx=some (.cells [.int .i64 n,v] false)∧hget h' (nx+1)=some (.cells [.int .i64 0,.slice none 0 0] false)∧hget h' (nx+1+1)=some (.cells [.int .i64 (N:Int),v2] false) ∧
  SlAt h' v2 encG 3 gs (nx+1+1+1) nx'∧gs.length=i∧(∀ g∈gs,GOk N g)∧nx+1+1+1≤nx'∧Keep nx h h'
theorem zIl {α:Type} {enc:α→List Value} {k:Nat} (hk:∀ x,(enc x).length=k) (hcell:∀ x,zg (enc x)=true) (hk0:0<k) {h:Hp} {nx lo:Nat} {v:Value} {l:List α} (hv:SlAt h v enc k l lo nx) (hlo:lo≤nx)
  {b2 o2 cap2:Nat} {sp2:Option Nat} {cs:List Value} {ro:Bool} (x:α) (h2:hget h b2=some (.cells cs ro)) (hx:(cs.drop o2).take k=enc x) (hsz:(l.length+1)*k≤1000000) {K:Value→Hp→Nat→Prop}
  (hK:∀ v' h',SlAt h' v' enc k (l++[x]) lo (nx+1)→(∀ b,b<lo→hget h' b=hget h b)→K v' h' (nx+1)):EK (orR (zh k h nx v (.slice (some ⟨b2,o2,sp2⟩) 1 cap2))) K:=by
 obtain ⟨v',h',e,a,b⟩:=zJu hk hcell hk0 hv hlo h2 hx hsz
 rw [e]; exact hK _ _ a b
theorem graph_c {s:Bool} {n:Int} {v:Value} {es:List Edg3} {h:Hp} {nx:Nat} (hv:SlRd h nx v enc3 es):Cv Q O s 24 [.agg ⟨[.int .i64 n,v]⟩] h nx (GraphK nx h):=by
 refine graphv ?_
 obtain ⟨a,cap,rfl,hc⟩:=id hv
 unfold graph
 simp (disch:=omega) only [SS,seval]
 refine within_c.mono ?_
 rintro r h1 nx1 ⟨rfl,rfl,rfl⟩
 obtain ⟨N,hN,hlt⟩:=zHz (k:=n) (n:=24)
 have hlt:=hlt (by omega)
 rw [hN]
 simp (disch:=omega) only [SS,seval]
 refine Lp.mk (GraphJ n (.slice a es.length cap) es N nx h) 60 ⟨0,.slice none 0 0,[],rfl,by omega,rfl,by rw [hold (by omega),hold (by omega),hold (by omega),hnew],by rw [hold (by omega),hold (by omega),hnew],hnew _ _ _,.inl ⟨rfl,rfl⟩,rfl,by simp,by omega,fun b hb=>by rw [hold (by omega),hold (by omega),hold (by omega),hold (by omega)]⟩ ?_
 rintro m _ h' nx' ⟨i,v2,gs,rfl,hi,rfl,g0,g1,g2,hsl,hgl,hok,hnx,hk⟩
 obtain ⟨a2,n2,c2,rfl⟩:=hsl.form
 rw [graphb0]
 unfold zQU
 have stop:zFB s (fun vs h_1 nx_1=>∃ m',m'<60-i∧GraphJ n (.slice a es.length cap) es N nx h m' vs h_1 nx_1)
   (fun v19 h17 n18=>RK (vLd (some 2) h17 (nv v19 2)) fun x65=>RK (vSt h17 2 (nv v19 1) x65) fun h66=>RK (vLd (some 2) h66 (nv v19 1)) fun x67=>GraphK nx h x67 h66 n18) (fun _ _ _=>False)
   (.pointer (some ⟨nx,0,none⟩)) (.pointer (some ⟨nx+1,0,none⟩)) (.pointer (some ⟨nx+1+1,0,none⟩)) (.int .i64 (i:Int)) (.bool false) h' nx':=by
  unfold zFB
  simp (disch:=omega) only [SS,g1,g2,seval]
  refine ⟨N,_,gs,rfl,by omega,by omega,hok,hsl.nw.keep (fun b h1 h2=>hold (by omega)) (by omega) (Nat.le_refl _),by omega,hk.set (by omega)⟩
 simp (disch:=omega) only [SS,g0,g2,seval]
 refine ⟨fun h1=>⟨fun h2=>?_,fun h2=>stop⟩,fun h1=>stop⟩
 by_cases h3:(0:Int)<(N:Int)
 case neg=>rw [decide_eq_false h3]; exact stop
 unfold zFB
 obtain ⟨x,hx⟩:=za h1
 obtain ⟨_,b,sp,ro,cap',hbn,hveq,hbh⟩:=hv.at hx
 cases hveq
 have hb':=(hk b hbn).trans hbh
 simp (disch:=omega) only [SS,g0,g2,hb',rd3 hx,decide_eq_true h3,seval]
 refine within_c.mono ?_
 rintro r h1 nx1 ⟨rfl,rfl,rfl⟩
 obtain ⟨f,hf,hfl⟩:=zHz (k:=x.1) (n:=N)
 rw [hf]
 simp (disch:=omega) only [SS,g0,g2,seval]
 refine within_c.mono ?_
 rintro r h1 nx1 ⟨rfl,rfl,rfl⟩
 obtain ⟨t,ht,htl⟩:=zHz (k:=x.2.1) (n:=N)
 rw [ht]
 obtain ⟨w,hw,hw0,hw1⟩:=and_low x.2.2
 simp (disch:=omega) only [SS,↓reduceIte,Nat.reduceAdd,Nat.reduceSub,Nat.reduceMul,Nat.reduceLT,Nat.reduceLeDiff,Nat.reduceEqDiff,Int.reduceBEq,Int.reduceLT,Int.reduceNeg,g0,g2,bin_and,hw]
 refine zIl (enc:=encG) (lo:=nx+1+1+1) (fun _=>rfl) (fun _=>rfl) (by omega) (hsl.keep (fun b h1 h2=>by rw [hold (by omega),hold (by omega),hold (by omega)]) (by omega)) (by omega) ⟨f,t,w⟩ (hnew _ _ _) rfl (by omega) ?_
 intro v3 h3 hs3 hk3
 obtain ⟨a3,n3,c3,rfl⟩:=hs3.form
 simp (disch:=omega) only [SS,hk3 (nx+1+1) (by omega),hk3 (nx+1) (by omega),hk3 nx (by omega),g2,zAK (show i<1000000000000 by omega),seval]
 refine ⟨by omega,60-(i+1),by omega,i+1,_,gs++[⟨f,t,w⟩],rfl,by omega,rfl,?_,?_,hnew _ _ _,hs3.keep (fun b h1 h2=>hold (by omega)) (Nat.le_refl _),by simp [hgl],?_,by omega,?_⟩
 ·rw [hold (by omega),hk3 nx (by omega),hold (by omega),hold (by omega),hold (by omega)]; exact g0
 ·rw [hold (by omega),hk3 (nx+1) (by omega),hold (by omega),hold (by omega),hold (by omega)]; exact g1
 ·intro g hg
  rcases List.mem_append.1 hg with hg | hg
  ·exact hok g hg
  ·rw [List.mem_singleton.1 hg]; exact ⟨(by omega:f<N),(by omega:t<N),hw0,hw1⟩
 ·intro b hb
  rw [hold (by omega),hk3 b (by omega),hold (by omega),hold (by omega),hold (by omega)]; exact hk b hb
def MakeG (nx:Nat) (h:Hp):KC':=fun r h' nx'=>∃ (N sr:Nat) (ra rb:Int) (v2:Value) (gs:List GE),r = .tuple ⟨[.agg ⟨[.int .i64 (N:Int),v2]⟩,.int .i64 (sr:Int),.int .i64 ra,.int .i64 rb]⟩∧0<N∧N<24∧sr<N∧gs.length≤60∧(∀ g∈gs,GOk N g)∧SlNw h' nx nx' v2 encG gs∧nx≤nx'∧Keep nx h h'
theorem make_c {s:Bool} {n V R C:Int} {v:Value} {es:List Edg3} {h:Hp} {nx:Nat} (hv:SlRd h nx v enc3 es):Cv Q O s 7 [.agg ⟨[.int .i64 n,v,.int .i64 V,.int .u8 R,.int .u8 C]⟩] h nx (MakeG nx h):=by
 refine makev ?_
 obtain ⟨a,cap,rfl,hc⟩:=id hv
 unfold make
 simp (disch:=omega) only [SS,seval]
 refine (graph_c (hv.keep (fun b hb=>by rw [hold (by omega),hold (by omega)]) (show nx≤nx+1+1 by omega))).mono ?_
 rintro r h1 nx1 ⟨N,v2,gs,rfl,hN,hgl,hok,hgs,hle,hk⟩
 obtain ⟨a2,c2,rfl,hc2⟩:=id hgs
 have g0:=hk nx (by omega)
 have g1:=hk (nx+1) (by omega)
 rw [hold (by omega),hnew] at g0
 rw [hnew] at g1
 have fin:∀ (M:Nat) (h':Hp) (a2:Option Addr) (gs:List GE) (c2:Nat),SlNw h1 (nx+1+1) nx1 (.slice a2 gs.length c2) encG gs→gs.length≤60→0<M→M<24→hget h' nx1=some (.cells [.int .i64 (M:Int),.slice a2 gs.length c2] false)→hget h' nx=some (.cells [.int .i64 n,.slice a es.length cap,.int .i64 V,.int .u8 R,.int .u8 C] false)→hget h' (nx+1)=some (.cells [.int .i64 0,.slice none 0 0] false)→(∀ g∈gs,GOk M g) →
   (∀ b,nx+1+1≤b→b<nx1→hget h' b=hget h1 b)→(∀ b,b<nx→hget h' b=hget h1 b)→zMR s (MakeG nx h) (.pointer (some ⟨nx,0,none⟩)) (.pointer (some ⟨nx+1,0,none⟩)) (.pointer (some ⟨nx1,0,none⟩)) h' (nx1+1):=by
  intro M h' a2 gs c2 hgs hgl hM0 hM e1 e2 e3 hok' hkk hkl
  unfold zMR
  simp (disch:=omega) only [SS,e1,e2,e3,seval]
  refine within_c.mono ?_
  rintro r h2 nx2 ⟨rfl,rfl,rfl⟩
  obtain ⟨f,hf,hfl⟩:=zHz (k:=V) (n:=M)
  rw [hf]
  simp (disch:=omega) only [SS,e1,e2,e3,zRL,seval]
  refine ⟨M,f,_,_,_,gs,rfl,hM0,hM,by omega,hgl,hok',hgs.keep (fun b h1 h2=>by rw [hold (by omega),hkk b h1 h2]) (by omega) (by omega),by omega,fun b hb=>?_⟩
  rw [hold (by omega),hkl b hb,hk b (by omega),hold (by omega),hold (by omega)]
 simp (disch:=omega) only [SS,seval]
 refine ⟨fun h0=>?_,fun h0=>?_⟩
 ·have hN0:N=0:=by simpa using h0
  subst hN0
  refine fin 1 _ none [] 0 ⟨none,0,rfl,fun h=>absurd rfl h⟩ (by simp) (by omega) (by omega) (by rw [hnew]; rfl) ?_ ?_ (fun g hg=>by cases hg) ?_ ?_
  ·rw [hold (by omega),hold (by omega),hold (by omega)]; exact g0
  ·rw [hold (by omega),hold (by omega),hold (by omega)]; exact g1
  ·intro b h1 h2; rw [hold (by omega),hold (by omega),hold (by omega)]
  ·intro b h1; rw [hold (by omega),hold (by omega),hold (by omega)]
 ·have hN0:N≠0:=by simpa using h0
  refine fin N _ a2 gs c2 hgs hgl (by omega) hN (by rw [hnew]) ?_ ?_ hok ?_ ?_
  ·rw [hold (by omega),hold (by omega)]; exact g0
  ·rw [hold (by omega),hold (by omega)]; exact g1
  ·intro b h1 h2; rw [hold (by omega),hold (by omega)]
  ·intro b h1; rw [hold (by omega),hold (by omega)]
def SlPx {α:Type} (h:Hp) (nx:Nat) (v:Value) (enc:α→List Value) (l:List α):Prop :=
 ∃ a cap,v = .slice a l.length cap∧(l≠[]→∃ b sp ro cs,b<nx∧a=some ⟨b,0,sp⟩∧hget h b=some (.cells (flat enc l++cs) ro))
section
variable {α:Type} {h h':Hp} {nx nx':Nat} {v:Value} {enc:α→List Value} {l:List α}
theorem SlPx.keep (hs:SlPx h nx v enc l) (hk:Keep nx h h') (hle:nx≤nx'):SlPx h' nx' v enc l:=by
 obtain ⟨a,cap,hv,hc⟩:=hs
 refine ⟨a,cap,hv,fun hl=>?_⟩
 obtain ⟨b,sp,ro,cs,hb,ha,hg⟩:=hc hl
 exact ⟨b,sp,ro,cs,by omega,ha,by rw [hk b hb]; exact hg⟩
theorem SlPx.of (hs:SlRd h nx v enc l):SlPx h nx v enc l:=by
 obtain ⟨a,cap,hv,hc⟩:=hs
 refine ⟨a,cap,hv,fun hl=>?_⟩
 obtain ⟨b,sp,ro,hb,ha,hg⟩:=hc hl
 exact ⟨b,sp,ro,[],hb,ha,by rw [List.append_nil]; exact hg⟩
theorem SlPx.at (hs:SlPx h nx v enc l) {i:Nat} {x:α} (hx:l[i]? = some x) :
  i<l.length∧∃ b sp ro cap cs,b<nx∧v = .slice (some ⟨b,0,sp⟩) l.length cap∧hget h b=some (.cells (flat enc l++cs) ro):=by
 have hi:=(List.getElem?_eq_some_iff.1 hx).1
 obtain ⟨a,cap,hv,hc⟩:=hs
 obtain ⟨b,sp,ro,cs,hb,rfl,hg⟩:=hc (fun e=>by rw [e] at hi; exact absurd hi (Nat.not_lt_zero _))
 exact ⟨hi,b,sp,ro,cap,cs,hb,hv,hg⟩
theorem rdP {k:Nat} (hk:∀ x,(enc x).length=k) {i:Nat} {e:α} (he:l[i]? = some e) {cs:List Value}:zAa (some k) (i*k) (flat enc l++cs) = .ok (.agg ⟨enc e⟩):=by
 have hg:=zBe (enc:=enc) hk he
 have hi:=(List.getElem?_eq_some_iff.1 he).1
 have hl:=zAG (enc:=enc) hk (l:=l)
 have hm:(i+1)*k≤l.length*k:=Nat.mul_le_mul_right k hi
 rw [Nat.add_mul,Nat.one_mul] at hm
 rw [zBH,if_pos (by rw [List.length_append,hl]; omega),List.drop_append_of_le_length (by rw [hl]; omega),List.take_append_of_le_length (by rw [List.length_drop,hl]; omega),hg]
theorem zNu {k j:Nat} (hk:∀ x,(enc x).length=k) {i:Nat} {e:α} (he:l[i]? = some e) (hj:j<k) {cs:List Value}:(flat enc l++cs)[i*k+j]? = (enc e)[j]?:=by
 have hi:=(List.getElem?_eq_some_iff.1 he).1
 have hl:=zAG (enc:=enc) hk (l:=l)
 have hm:(i+1)*k≤l.length*k:=Nat.mul_le_mul_right k hi
 rw [Nat.add_mul,Nat.one_mul] at hm
 rw [List.getElem?_append_left (by omega),zE3 hk he hj]
end
def BadE (n:Int) (e:Edg3):Prop:=e.1<0∨n≤e.1∨e.2.1<0∨n≤e.2.1
def BadW (e:Edg3):Prop:=e.2.2<0∨2147483647<e.2.2
instance (n:Int) (e:Edg3):Decidable (BadE n e):=inferInstanceAs (Decidable (_∨_))
instance (e:Edg3):Decidable (BadW e):=inferInstanceAs (Decidable (_∨_))
def zMv (n:Int) (es:List Edg3):Prop:=0≤n∧n≤4096∧es.length≤65536∧(∀ e∈es,¬ BadE n e)∧∀ e∈es,¬ BadW e
def zHu (n:Int) (es:List Edg3) (nx:Nat) (h:Hp):KC':=fun r h' nx'=>∃ e:Int,r = .int .i64 e∧(e=0↔zMv n es)∧Keep nx h h'∧nx≤nx'
def IdxJ {α:Type} (p:α→Bool) (es:List α) (J:Hp→Nat→Prop) (v fv:Value) (m:Nat) (vs:List Value) (h':Hp) (nx':Nat):Prop:=∃ i,m=es.length-i∧i≤es.length∧vs=[v,fv,.int .i64 0,.int .i64 (es.length:Int),.int .i64 (i:Int)]∧J h' nx'∧∀ x∈es.take i,p x=false
theorem index_c {α:Type} {enc:α→List Value} (hk3:∀ x,(enc x).length=3) {s:Bool} {v fv:Value} {es:List α} {h:Hp} {nx:Nat} (p:α→Bool) (J:Hp→Nat→Prop) (hJ:∀ h' nx',J h' nx'→SlPx h' nx' v enc es) (h0:J h nx) (hl:es.length≤65536)
  (hf:∀ g∈es,∀ h' nx' (K:KC'),J h' nx'→(∀ (b:Bool) h2 nx2,b=p g→J h2 nx2→K (.bool b) h2 nx2)→CVK Q O s (zCk h' nx' [.agg ⟨enc g⟩] fv) K) :
  Cv Q O s 68 [v,fv] h nx (fun r h' nx'=>J h' nx'∧((r = .int .i64 (-1)∧∀ x∈es,p x=false)∨∃ (i:Nat) (x:α),r = .int .i64 (i:Int)∧es[i]? = some x∧p x=true∧∀ y∈es.take i,p y=false)):=by
 refine indexv ?_
 unfold index
 obtain ⟨a,cap,rfl,hc⟩:=id (hJ _ _ h0)
 simp (disch:=omega) only [SS,seval]
 refine Lp.mk (IdxJ p es J (.slice a es.length cap) fv) es.length ⟨0,by omega,by omega,rfl,h0,by simp⟩ ?_
 rintro m _ h' nx' ⟨i,rfl,hi,rfl,hj,hno⟩
 rw [indexb0]
 unfold zQN
 simp (disch:=omega) only [SS,seval]
 refine ⟨fun h1=>?_,fun h1=>?_⟩
 ·obtain ⟨x,hx⟩:=za h1
  obtain ⟨_,b,sp,ro,cap',cs,hbn,hveq,hbh⟩:=(hJ _ _ hj).at hx
  cases hveq
  simp (disch:=omega) only [SS,hbh,rdP (enc:=enc) (k:=3) hk3 hx,seval]
  refine hf x (List.mem_of_getElem? hx) h' nx' _ hj (fun b' h2 nx2 hb hj2=>?_)
  subst hb
  simp (disch:=omega) only [SS,zAK (show i<1000000000000 by omega),seval]
  refine ⟨fun hp=>⟨hj2,.inr ⟨i,x,rfl,hx,hp,hno⟩⟩,fun hp=>⟨es.length-(i+1),by omega,i+1,rfl,h1,rfl,hj2,fun y hy=>?_⟩⟩
  rw [List.take_add_one,hx] at hy
  rcases List.mem_append.1 hy with hy | hy
  ·exact hno y hy
  ·have:y=x:=by simpa using hy
   rw [this]; exact hp
 ·have:i=es.length:=by omega
  subst this
  rw [List.take_length] at hno
  exact ⟨hj,.inl hno⟩
theorem zQg {s:Bool} {v fv:Value} {es:List Edg3} {h:Hp} {nx:Nat} (p:Edg3→Bool) (hv:SlPx h nx v enc3 es) (hl:es.length≤65536)
  (hf:∀ g∈es,∀ h' nx' (K:KC'),Keep nx h h'→nx≤nx'→(∀ (b:Bool) h2 nx2,b=p g→Keep nx' h' h2→nx'≤nx2→K (.bool b) h2 nx2)→CVK Q O s (zCk h' nx' [.agg ⟨enc3 g⟩] fv) K) :
  Cv Q O s 48 [v,fv] h nx (fun r h' nx'=>r = .bool (es.any p)∧Keep nx h h'∧nx≤nx'):=by
 refine contsv ?_
 unfold conts
 refine (index_c (enc:=enc3) (fun _=>rfl) p (fun h' nx'=>Keep nx h h'∧nx≤nx') (fun h' nx' hh=>hv.keep hh.1 hh.2) ⟨Keep.refl _ _,Nat.le_refl _⟩ hl (fun g hg h' nx' K hj hK=>hf g hg h' nx' K hj.1 hj.2 (fun b h2 nx2 hb hk2 hle2=>hK b h2 nx2 hb ⟨hj.1.trans hk2 hj.2,Nat.le_trans hj.2 hle2⟩))).mono ?_
 rintro r h' nx' ⟨⟨hk,hle⟩,⟨rfl,hno⟩ | ⟨i,x,rfl,hx,hp,_⟩⟩
 ·simp (disch:=omega) only [SS,seval]
  exact ⟨by rw [List.any_eq_false.2 (fun x hx=>by simp [hno x hx])]; rfl,hk,hle⟩
 ·simp (disch:=omega) only [SS,seval]
  exact ⟨by rw [List.any_eq_true.2 ⟨x,List.mem_of_getElem? hx,hp⟩]; simp,hk,hle⟩
def badE (n:Int) (e:Edg3):Bool:=(decide (e.1<0)||!decide (e.1<n))||(decide (e.2.1<0)||!decide (e.2.1<n))
theorem badE_iff {n:Int} {e:Edg3}:badE n e=true↔BadE n e:=by
 unfold badE BadE
 simp only [Bool.or_eq_true,decide_eq_true_eq,Bool.not_eq_true',decide_eq_false_iff_not]
 omega
def badW (e:Edg3):Bool:=decide (e.2.2<0)||decide (2147483647<e.2.2)
theorem badW_iff {e:Edg3}:badW e=true↔BadW e:=by
 unfold badW BadW
 simp only [Bool.or_eq_true,decide_eq_true_eq]
theorem right_g {s:Bool} {n:Int} {v:Value} {es:List Edg3} {h:Hp} {nx:Nat} (hv:SlPx h nx v enc3 es) :
  Cv Q O s 32 [.agg ⟨[.int .i64 n,v]⟩] h nx (zHu n es nx h):=by
 refine rightv ?_
 obtain ⟨a,cap,rfl,hc⟩:=id hv
 unfold right
 simp (disch:=omega) only [SS,seval]
 have K1:Keep nx h (hset (hset (hset h nx (.cells [.int .i64 n,.slice a es.length cap] false)) (nx+1) (.cells [.nilFunc] false)) (nx+1) (.cells [.func (.func 47) ⟨[]⟩ ⟨[.pointer (some ⟨nx,0,none⟩)]⟩] false)):=fun b hb=>by rw [hold (by omega),hold (by omega),hold (by omega)]
 have no:∀ {e:Int},e≠0→¬ zMv n es→∀ {h' nx'},Keep nx h h'→nx≤nx'→zHu n es nx h (.int .i64 e) h' nx':=fun he hr _ _ hk hle=>⟨_,rfl,⟨fun e=>absurd e he,fun e=>absurd e hr⟩,hk,hle⟩
 refine ⟨fun h1=>no (by omega) (fun hr=>by have:=hr.1; omega) K1 (by omega),fun h1=>⟨fun h2=>no (by omega) (fun hr=>by have:=hr.2.1; omega) K1 (by omega),fun h2=>⟨fun h3=>no (by omega) (fun hr=>by have:=hr.2.2.1; omega) K1 (by omega),fun h3=>?_⟩⟩⟩
 refine (zQg (badE n) (hv.keep K1 (by omega)) (by omega) (fun g hg h' nx' K hk hle hK=>?_)).mono ?_
 ·have g0:=hk nx (by omega)
  have g1:=hk (nx+1) (by omega)
  rw [hold (by omega),hold (by omega),hnew] at g0
  rw [hnew] at g1
  have kk:∀ {o},Keep nx' h' (hset h' nx' o):=(Keep.refl _ _).set (Nat.le_refl _)
  simp (disch:=omega) only [SS,seval]
  refine right2v ?_
  unfold zPH enc3
  simp (disch:=omega) only [SS,g1,seval]
  refine zPI ?_
  unfold zLw
  simp (disch:=omega) only [SS,g0,seval]
  refine ⟨fun h1=>hK _ _ _ (by unfold badE; simp [h1]) kk (Nat.le_succ _),fun h1=>⟨fun h2=>hK _ _ _ (by unfold badE; simp [h1]; omega) kk (Nat.le_succ _),fun h2=>?_⟩⟩
  simp (disch:=omega) only [SS,g1,seval]
  refine zPI ?_
  unfold zLw
  simp (disch:=omega) only [SS,g0,seval]
  refine ⟨fun h3=>hK _ _ _ (by unfold badE; simp [h3]) kk (Nat.le_succ _),fun h3=>?_⟩
  refine hK _ _ _ ?_ kk (Nat.le_succ _)
  unfold badE
  rw [decide_eq_false h1,decide_eq_true h2,decide_eq_false h3]
  rfl
 ·rintro r h4 nx4 ⟨rfl,hk4,hle4⟩
  have g0:=hk4 nx (by omega)
  rw [hold (by omega),hold (by omega),hnew] at g0
  have K4:=K1.trans hk4 (by omega)
  simp (disch:=omega) only [SS,g0,seval]
  refine ⟨fun h5=>no (by omega) (fun hr=>?_) K4 (by omega),fun h5=>?_⟩
  ·obtain ⟨x,hx,hb⟩:=List.any_eq_true.1 h5
   exact hr.2.2.2.1 x hx (badE_iff.1 hb)
  have ha:∀ e∈es,¬ BadE n e:=fun e he hb=>by
   rw [List.any_eq_false] at h5
   exact h5 e he (badE_iff.2 hb)
  refine (zQg badW ((hv.keep K1 (by omega)).keep hk4 hle4) (by omega) (fun g hg h' nx' K hk hle hK=>?_)).mono ?_
  ·have kk:∀ {o},Keep nx' h' (hset h' nx' o):=(Keep.refl _ _).set (Nat.le_refl _)
   simp (disch:=omega) only [SS,seval]
   refine right3v ?_
   unfold zPF enc3
   simp (disch:=omega) only [SS,seval]
   refine ⟨fun h1=>hK _ _ _ (by unfold badW; simp [h1]) kk (Nat.le_succ _),fun h1=>hK _ _ _ (by unfold badW; simp [h1]) kk (Nat.le_succ _)⟩
  ·rintro r h6 nx6 ⟨rfl,hk6,hle6⟩
   have K6:=K4.trans hk6 (by omega)
   simp (disch:=omega) only [SS,seval]
   refine ⟨fun h7=>no (by omega) (fun hr=>?_) K6 (by omega),fun h7=>?_⟩
   ·obtain ⟨x,hx,hb⟩:=List.any_eq_true.1 h7
    exact hr.2.2.2.2 x hx (badW_iff.1 hb)
   ·refine ⟨0,rfl,⟨fun _=>⟨by omega,by omega,by omega,ha,fun e he hb=>?_⟩,fun _=>rfl⟩,K6,by omega⟩
    rw [List.any_eq_false] at h7
    exact h7 e he (badW_iff.2 hb)
def RriJ (p:Edg3→Prop) (n:Int) (es:List Edg3) (v w:Value) (nx:Nat) (h:Hp) (m:Nat) (vs:List Value) (h':Hp) (nx':Nat):Prop :=
 ∃ i:Nat,m=es.length-i∧i≤es.length∧vs=[.pointer (some ⟨nx,0,none⟩),w,.int .i64 (i:Int)]∧hget h' nx=some (.cells [.int .i64 n,v] false)∧Keep nx h h'∧nx+1≤nx'∧∀ x∈es.take i,¬ p x
theorem zOi {p:Edg3→Prop} {es:List Edg3} {i:Nat} {x:Edg3} (hx:es[i]? = some x) (h:∀ y∈es.take i,¬ p y) (hp:¬ p x):∀ y∈es.take (i+1),¬ p y:=fun y hy=>by
 rw [List.take_add_one,hx] at hy
 rcases List.mem_append.1 hy with hy | hy
 ·exact h y hy
 ·have:y=x:=by simpa using hy
  rw [this]; exact hp
theorem rright_g {s:Bool} {n:Int} {v:Value} {es:List Edg3} {h:Hp} {nx:Nat} (hv:SlPx h nx v enc3 es) :
  Cv Q O s 27 [.agg ⟨[.int .i64 n,v]⟩] h nx (zHu n es nx h):=by
 refine rrightv ?_
 obtain ⟨a,cap,rfl,hc⟩:=id hv
 have K1:∀ {o},Keep nx h (hset h nx o):=(Keep.refl _ _).set (Nat.le_refl _)
 have no:∀ {e:Int},e≠0→¬ zMv n es→∀ {h' nx'},Keep nx h h'→nx≤nx'→zHu n es nx h (.int .i64 e) h' nx':=fun he hr _ _ hk hle=>⟨_,rfl,⟨fun e=>absurd e he,fun e=>absurd e hr⟩,hk,hle⟩
 unfold zPA zIJ
 simp (disch:=omega) only [SS,seval]
 refine ⟨fun h1=>no (by omega) (fun hr=>by have:=hr.1; omega) K1 (by omega),fun h1=>⟨fun h2=>no (by omega) (fun hr=>by have:=hr.2.1; omega) K1 (by omega),fun h2=>⟨fun h3=>no (by omega) (fun hr=>by have:=hr.2.2.1; omega) K1 (by omega),fun h3=>?_⟩⟩⟩
 refine Lp.mk (RriJ (BadE n) n es (.slice a es.length cap) (.int .i64 0) nx h) es.length ⟨0,by omega,by omega,rfl,hnew _ _ _,K1,Nat.le_refl _,by simp⟩ ?_
 rintro _ _ h' nx' ⟨i,rfl,hi,rfl,hg,hk,hle,hno⟩
 rw [rrightb0]
 unfold zLs
 simp (disch:=omega) only [SS,hg,seval]
 refine ⟨fun hlt=>?_,fun hge=>?_⟩
 ·obtain ⟨x,hx⟩:=za hlt
  obtain ⟨_,b,sp,ro,c1,cs,hb,e1,hgb⟩:=hv.at hx
  cases e1
  have hxm:=List.mem_of_getElem? hx
  have kk:∀ {o o'},Keep nx h (hset (hset h' nx' o) nx' o'):=(hk.set (by omega)).set (by omega)
  have bad:BadE n x→∀ {o o'},zHu n es nx h (.int .i64 3) (hset (hset h' nx' o) nx' o') (nx'+1):=fun hb _ _=>no (by omega) (fun hr=>hr.2.2.2.1 x hxm hb) kk (by omega)
  simp (disch:=omega) only [SS,(hk b hb).trans hgb,rdP (enc:=enc3) (k:=3) (fun _=>rfl) hx,enc3,hg,zAK (show i<1000000000000 by omega),seval]
  refine ⟨fun h1=>bad (by unfold BadE; omega),fun h1=>⟨fun h2=>bad (by unfold BadE; omega),fun h2=>⟨fun h3=>bad (by unfold BadE; omega),fun h3=>⟨fun h4=>bad (by unfold BadE; omega),fun h4=>?_⟩⟩⟩⟩
  exact ⟨_,by omega,i+1,rfl,hlt,rfl,by rw [hold (by omega),hold (by omega)]; exact hg,kk,by omega,zOi hx hno (by unfold BadE; omega)⟩
 ·have:i=es.length:=by omega
  subst this
  rw [List.take_length] at hno
  refine Lp.mk (RriJ BadW n es (.slice a es.length cap) (.int .i64 0) nx h) es.length ⟨0,by omega,by omega,rfl,hg,hk,hle,by simp⟩ ?_
  rintro _ _ h' nx' ⟨i,rfl,hi,rfl,hg,hk,hle,hno2⟩
  rw [rrightb1]
  unfold zLr
  simp (disch:=omega) only [SS,hg,seval]
  refine ⟨fun hlt=>?_,fun hge=>?_⟩
  ·obtain ⟨x,hx⟩:=za hlt
   obtain ⟨_,b,sp,ro,c1,cs,hb,e1,hgb⟩:=hv.at hx
   cases e1
   have hxm:=List.mem_of_getElem? hx
   have bad:BadW x→zHu n es nx h (.int .i64 7) h' nx':=fun hb=>no (by omega) (fun hr=>hr.2.2.2.2 x hxm hb) hk (by omega)
   have hw:=zNu (enc:=enc3) (k:=3) (fun _=>rfl) hx (j:=2) (by omega) (cs:=cs)
   rw [show (enc3 x)[2]? = some (.int .i64 x.2.2) from rfl] at hw
   simp (disch:=omega) only [SS,(hk b hb).trans hgb,hw,hg,zAK (show i<1000000000000 by omega),seval]
   refine ⟨fun h1=>bad (by unfold BadW; omega),fun h1=>⟨fun h2=>bad (by unfold BadW; omega),fun h2=>?_⟩⟩
   exact ⟨_,by omega,i+1,rfl,hlt,rfl,hg,hk,by omega,zOi hx hno2 (by unfold BadW; omega)⟩
  ·have:i=es.length:=by omega
   subst this
   rw [List.take_length] at hno2
   exact ⟨0,rfl,⟨fun _=>⟨by omega,by omega,by omega,hno,hno2⟩,fun _=>rfl⟩,hk,by omega⟩
def toG (e:Edg3):GE:=⟨e.1.toNat,e.2.1.toNat,e.2.2⟩
theorem SlPx.map {h:Hp} {nx:Nat} {v:Value} {es:List Edg3} (hs:SlPx h nx v enc3 es) (e:flat enc3 es=flat encG (es.map toG)):SlPx h nx v encG (es.map toG):=by
 obtain ⟨a,cap,hv,hc⟩:=hs
 refine ⟨a,cap,by rw [List.length_map]; exact hv,fun hl=>?_⟩
 obtain ⟨b,sp,ro,cs,hb,ha,hg⟩:=hc (fun h0=>hl (by rw [h0]; rfl))
 exact ⟨b,sp,ro,cs,hb,ha,by rw [← e]; exact hg⟩
def zG:GE:=⟨0,0,0⟩
theorem wrG {h:Hp} {b i:Nat} {m:List GE} {x:GE} (hi:i<m.length):wrO (some (.cells (flat encG m) false)) h b (i*3) [.int .i64 (x.f:Int),.int .i64 (x.t:Int),.int .i64 x.w] = .ok (hset h b (.cells (flat encG (m.set i x)) false)):=by
 show R.of _ (lput (encG x) (flat encG m) (i*3)) _=_
 rw [zFn (k:=3) (fun _=>rfl) x hi]
 rfl
theorem rdF {α:Type} {enc:α→List Value} {l:List α} {k:Nat} (hk:∀ x,(enc x).length=k) {i:Nat} {e:α} (he:l[i]? = some e):zAa (some k) (i*k) (flat enc l) = .ok (.agg ⟨enc e⟩):=by
 have:=rdP hk he (cs:=[])
 rwa [List.append_nil] at this
theorem zQh {gs:List GE} {N:Nat} {s:Bool} {h:Hp} {nx:Nat} {v:Value} (hv:SlPx h nx v encG gs) (hN:N≤2147483648) (hok:∀ g∈gs,GOk N g) (hl:gs.length≤60) :
  Cv Q O s 43 [.int .i64 1,v] h nx (fun r h' nx'=>∃ v2 cs,r = .tuple ⟨[v2,.int .i64 0]⟩∧SlAt h' v2 encG 3 cs nx nx'∧CanOf N gs cs∧Keep nx h h'∧nx≤nx'):=by
 obtain ⟨a,cap,rfl,hc⟩:=id hv
 have hcan:=canOf N gs hN hok
 by_cases h0:gs=[]
 ·subst h0
  have e:zF3 [.int .i64 1,.slice a 0 cap] h nx = .ok (.tuple ⟨[.slice none 0 0,.int .i64 0]⟩) h nx:=by
   cases a <;> rfl
  exact Cv.byOrc (g:=zF3) rfl e ⟨_,[],rfl,.inl ⟨rfl,rfl⟩,hcan,Keep.refl _ _,Nat.le_refl _⟩
 ·obtain ⟨b,sp,ro,cx,hb,rfl,hg⟩:=hc h0
  have hlen:gs.length≠0:=fun e=>h0 (List.eq_nil_of_length_eq_zero e)
  have hsm:∀ x∈gs.map gE,zBU x:=fun x hx=>by
   obtain ⟨g,hg,rfl⟩:=List.mem_map.1 hx
   exact zLj hN (hok g hg)
  rw [zKq] at hg
  have hfl:(flat encE (gs.map gE)).length=gs.length*3:=by rw [zAG (k:=3) (fun _=>rfl),List.length_map]
  generalize hL:zAr ltE (zq [] (gs.map gE))=L at hcan
  have hgl:zF3 [.int .i64 1,.slice (some ⟨b,0,sp⟩) gs.length cap] h nx=zE7 h nx L:=by
   obtain ⟨m,hm⟩:∃ m,gs.length=m+1:=⟨gs.length-1,by omega⟩
   have e2:lcut (gs.length*3) (zCT (flat encE (gs.map gE)++cx) 0)=some (flat encE (gs.map gE)):=by
    rw [zAe,List.drop_zero,zBA,if_pos (by rw [List.length_append,hfl]; exact Nat.le_add_right _ _),← hfl,List.take_left]
   rw [hm] at e2 ⊢
   show (match hget h b with
    | some (.cells cs _)=>(match lcut ((m+1)*3) (zCT cs 0) with
     | some l=>(match zGk l with
      | some es=>bif Nat.ble es.length 60 then zE7 h nx (zAr ltE (zq [] es)) else .no "Combine"
      | none=>.no "Combine")
     | none=>.no "Combine")
    | _=>.no "Combine")=_
   rw [hg]
   simp only [e2,zGj hsm,List.length_map,hL]
   rw [show Nat.ble gs.length 60=true by simpa using hl]
   rfl
  have hLn:L≠[]:=fun e=>by
   have:=(zBO (lt:=ltE) (zq [] (gs.map gE))).length_eq
   rw [hL,e] at this
   have e1:=(zFI (gs.map gE) []).2
   obtain ⟨g,l,rfl⟩:∃ g l,gs=g::l:=by cases gs with | nil=>exact absurd rfl h0 | cons g l=>exact ⟨g,l,rfl⟩
   obtain ⟨x,hx,_⟩:=e1 (gE g) (by simp)
   have:zq [] ((g::l).map gE)=[]:=List.eq_nil_of_length_eq_zero this.symm
   rw [this] at hx; cases hx
  have hso:zAt ltE L=true:=by rw [← hL]; exact zFT _
  have e3:zE7 h nx L = .ok (.tuple ⟨[.slice (some ⟨nx,0,some 3⟩) L.length L.length,.int .i64 0]⟩) (hset h nx (.cells (flat encE L) false)) (nx+1):=by
   cases L with
   | nil=>exact absurd rfl hLn
   | cons x l=>show (bif zAt ltE (x::l) then _ else _)=_; rw [hso]; rfl
  refine Cv.byOrc (g:=zF3) rfl (hgl.trans e3) ⟨_,L.map eG,rfl,.inr ⟨nx,Nat.le_refl _,Nat.lt_succ_self _,by rw [List.length_map],?_⟩,hcan,fun c hc=>hold (by omega),Nat.le_succ _⟩
  rw [hnew,zKq,hcan.eq,hL]
def CanK (N:Nat) (gs:List GE) (nx:Nat) (h:Hp):KC':=fun r h' nx'=>∃ v2 cs,r = .agg ⟨[.int .i64 (N:Int),v2]⟩∧SlAt h' v2 encG 3 cs nx nx'∧IsCan (gs.map gE) (cs.map gE)∧(∀ g∈cs,GOk N g)∧cs.length≤gs.length∧Keep nx h h'∧nx≤nx'
theorem zLP {gs:List GE} {N:Nat} {s:Bool} {h:Hp} {nx:Nat} {v:Value} (hv:SlPx h nx v encG gs) (hN:N≤2147483648) (hok:∀ g∈gs,GOk N g) (hl:gs.length≤60) :
  Cv Q O s 26 [.agg ⟨[.int .i64 (N:Int),v]⟩] h nx (CanK N gs nx h):=by
 refine canonv ?_
 obtain ⟨a,cap,rfl,hc⟩:=id hv
 unfold canon
 simp (disch:=omega) only [SS,seval]
 have k0:∀ {o1 o2:AObj},Keep nx h (hset (hset h nx o1) (nx+1) o2):=fun {o1 o2} b hb=>by rw [hold (by omega),hold (by omega)]
 refine (zQh (hv.keep k0 (by omega)) hN hok hl).mono ?_
 rintro r h1 nx1 ⟨v2,cs,rfl,hcs,hcan,hk,hle⟩
 have g1:=(hk nx (by omega)).trans (hold (by omega))
 have g2:=hk (nx+1) (by omega)
 rw [hnew] at g1 g2
 obtain ⟨a2,n2,cap2,rfl⟩:=hcs.form
 simp (disch:=omega) only [SS,g1,g2,seval]
 have hi:IsCan (gs.map gE) (cs.map gE):=by rw [hcan.eq]; exact zHb _
 refine ⟨_,cs,rfl,?_,hi,hcan.ok,hcan.len,(k0.trans hk (by omega)).set (by omega),by omega⟩
 rcases hcs with hcs | ⟨b,h1,h2,e,hb⟩
 ·exact .inl hcs
 ·exact .inr ⟨b,by omega,h2,e,by rw [hold (by omega)]; exact hb⟩
theorem k52:Tryz.prog.keyTypeAt 8 52=true:=by kernel_rfl
theorem ng52:zDC Tryz.prog 52=true:=by kernel_rfl
theorem lits52 {g:GE} {w:Nat} (hf:g.f<4294967296) (ht:g.t<4294967296) (hw:g.w=(w:Int)) (hw2:w<4294967296):Tryz.prog.keyLits 8 52 (encG g)=some [.int .i64 (g.f:Int),.int .i64 (g.t:Int),.int .i64 (w:Int)]:=by
 have one:∀ {n:Nat},n<4294967296→Tryz.prog.keyLits 7 3 [.int .i64 (n:Int)]=some [.int .i64 (n:Int)]:=fun hn=>by
  have w0:=zGA (k:=.i64) (.inl rfl) hn
  unfold Program.keyLits
  simp only [u3,w0,and_self,if_true]
 have two:∀ {n:Nat},n<4294967296→Tryz.prog.keyLits 7 2 [.int .i64 (n:Int)]=some [.int .i64 (n:Int)]:=fun hn=>by
  have w0:=zGA (k:=.i64) (.inl rfl) hn
  unfold Program.keyLits
  simp only [u2,w0,and_self,if_true]
 unfold Program.keyLits encG
 simp only [u52,n52,List.length_cons,List.length_nil,Nat.reduceAdd]
 rw [if_pos ⟨trivial,by kernel_rfl⟩]
 show Option.map List.flatten (List.mapM (fun f:Field=>Tryz.prog.keyLits 7 f.type (List.take (Tryz.prog.cellsOf f.type) (List.drop f.offset [.int .i64 (g.f:Int),.int .i64 (g.t:Int),.int .i64 g.w]))) [fFrom,fTo,fW])=_
 rw [hw]
 simp only [List.mapM_cons,List.mapM_nil,show fFrom.type=3 from rfl,show fTo.type=3 from rfl,show fW.type=2 from rfl,show fFrom.offset=0 from rfl,show fTo.offset=1 from rfl,show fW.offset=2 from rfl,c2,c3,List.drop_zero,List.drop_succ_cons,List.take_succ_cons,List.take_zero,one hf,one ht,two hw2]
 rfl
theorem edge_neq {N:Nat} {g:GE} (hN:N≤4096) (hg:GOk N g):bin Tryz.prog .neq 52 (.agg ⟨encG g⟩) (.agg ⟨encG g⟩) = .ok (.bool false):=by
 obtain ⟨h1,h2,h3,h4⟩:=hg
 obtain ⟨w,hw⟩:∃ w:Nat,g.w=(w:Int):=⟨g.w.toNat,by omega⟩
 show R.of "compared" (bif zDC Tryz.prog 52 then eqK Tryz.prog 52 (.agg ⟨encG g⟩) (.agg ⟨encG g⟩) else none) (fun b=>zBp (!b))=_
 have f1:(Value.agg ⟨encG g⟩).formed Tryz.prog 52=true:=by
  simp [Value.formed,u52,n52,encG]
 unfold eqK
 rw [ng52,k52,f1]
 show R.of "compared" (bif true&&(true&&true&&true&&true) then eqL (Tryz.prog.keyLits 8 52 (encG g)) (Tryz.prog.keyLits 8 52 (encG g)) else none) (fun b=>zBp (!b))=_
 rw [lits52 (by omega) (by omega) hw (by omega)]
 show R.ok (Value.bool (!((keq .i64 .i64&&ieq (g.f:Int) g.f)&&((keq .i64 .i64&&ieq (g.t:Int) g.t)&&((keq .i64 .i64&&ieq (w:Int) w)&&true)))))=_
 simp only [zBX,zAE]
 simp
theorem wide_eql {a b:Nat} (ha:a<4294967296) (hb:b<4294967296):∃ c,bin Tryz.prog .eql 108 (.agg ⟨zM a⟩) (.agg ⟨zM b⟩) = .ok (.bool c):=by
 have f1:∀ n,(Value.agg ⟨zM n⟩).formed Tryz.prog 108=true:=fun n=>by
  simp [Value.formed,u112,c112,zM]
 have:bin Tryz.prog .eql 108 (.agg ⟨zM a⟩) (.agg ⟨zM b⟩)=R.of "compared" (bif zDC Tryz.prog 108 then eqK Tryz.prog 108 (.agg ⟨zM a⟩) (.agg ⟨zM b⟩) else none) (fun b=>zBp b):=rfl
 rw [this]
 unfold eqK
 rw [ng112,k112,f1,f1]
 exact ⟨zFZ [.int .i64 0,.int .u64 (a:Int)] [.int .i64 0,.int .u64 (b:Int)],by
  show R.of "compared" (bif true&&(true&&true&&true&&true) then eqL (Tryz.prog.keyLits 8 108 (zM a)) (Tryz.prog.keyLits 8 108 (zM b)) else none) (fun b=>zBp b)=_
  rw [zKg ha,zKg hb]; rfl⟩
def SamJ (l:List GE) (v v':Value) (h:Hp) (nx:Nat) (m:Nat) (vs:List Value) (h':Hp) (nx':Nat):Prop:=∃ i,m=l.length-i∧i≤l.length∧vs=[v,v',.bool false,.int .i64 (i:Int)]∧h'=h∧nx'=nx
theorem sme_c {s:Bool} {N:Nat} {h:Hp} {nx:Nat} {v v':Value} {l:List GE} (hv:SlPx h nx v encG l) (hv':SlPx h nx v' encG l) (hN:N≤4096) (hok:∀ g∈l,GOk N g) (hl:l.length<1000000) :
  Cv Q O s 14 [v,v'] h nx (fun r h' nx'=>r = .bool true∧h'=h∧nx'=nx):=by
 refine smev ?_
 obtain ⟨a,cap,rfl,hc⟩:=id hv
 obtain ⟨a',cap',rfl,hc'⟩:=id hv'
 unfold sme
 simp (disch:=omega) only [SS,seval]
 refine ⟨fun hne=>absurd hne (by simp),fun _=>?_⟩
 refine Lp.mk (SamJ l (.slice a l.length cap) (.slice a' l.length cap') h nx) l.length ⟨0,rfl,by omega,rfl,rfl,rfl⟩ ?_
 rintro m _ _ _ ⟨i,rfl,hi,rfl,rfl,rfl⟩
 rw [smeb0]
 unfold smel0
 simp (disch:=omega) only [SS,seval]
 refine ⟨fun hlt=>?_,fun _=>trivial⟩
 obtain ⟨x,hx⟩:=za hlt
 obtain ⟨_,b,sp,ro,c1,cs,hb,e1,hg⟩:=hv.at hx
 obtain ⟨_,b',sp',ro',c1',cs',hb',e1',hg'⟩:=hv'.at hx
 cases e1; cases e1'
 simp (disch:=omega) only [SS,hg,hg',rdP (enc:=encG) (k:=3) (fun _=>rfl) hx,edge_neq hN (hok x (List.mem_of_getElem? hx)),zAK (show i<1000000000000 by omega),seval]
 exact ⟨_,by omega,i+1,rfl,hlt,rfl,rfl,rfl⟩
def StK (r:Value) (nx:Nat) (h:Hp):KC':=fun v h' nx'=>v=r∧Keep nx h h'∧nx≤nx'
theorem ris_c {s:Bool} {h:Hp} {nx:Nat}:Cv Q O s 69 [.int .i64 1] h nx (fun v h' nx'=>v = .bool true∧h'=h∧nx'=nx):=by
 refine risv ?_
 unfold ris
 simp (disch:=omega) only [SS,seval]
 simp
def ltG (x y:GE):Bool:=decide (x.f<y.f)||(decide (x.f=y.f)&&decide (x.t<y.t))
theorem zRO {s:Bool} {x y:GE} {h:Hp} {nx:Nat}:Cv Q O s 70 [.agg ⟨encG x⟩,.agg ⟨encG y⟩] h nx (StK (.bool (ltG x y)) nx h):=by
 refine belowv ?_
 have K1:∀ {o o'},Keep nx h (hset (hset h nx o) (nx+1) o'):=((Keep.refl _ _).set (Nat.le_refl _)).set (Nat.le_succ _)
 unfold below encG
 simp (disch:=omega) only [SS,seval]
 refine ⟨fun h1=>⟨?_,K1,by omega⟩,fun h1=>⟨fun h2=>⟨?_,K1,by omega⟩,fun h2=>⟨?_,K1,by omega⟩⟩⟩
 ·unfold ltG; simp; omega
 ·have h3:x.f=y.f:=by
   have h4:(x.f:Int)=y.f:=by simpa using h2
   omega
  unfold ltG
  simp [h3]
 ·have h3:¬ x.f=y.f:=fun e=>by rw [e] at h2; simp at h2
  unfold ltG
  simp [h3]; omega
theorem rof_c {s:Bool} {w:Nat} {h:Hp} {nx:Nat} (hw:w<4294967296):Cv Q O s 71 [.int .i64 (w:Int)] h nx (StK (.agg ⟨zM w⟩) nx h):=by
 refine rofv ?_
 have K1:∀ {o o'},Keep nx h (hset (hset h nx o) nx o'):=((Keep.refl _ _).set (Nat.le_refl _)).set (Nat.le_refl _)
 have e1:IntKind.wrap .u64 (w:Int)=(w:Int):=by
  simp only [IntKind.wrap,IntKind.signed,IntKind.bits]
  simp; omega
 unfold rof
 simp (disch:=omega) only [SS,e1,seval]
 refine ⟨fun h1=>absurd h1 (by omega),fun _=>⟨rfl,K1,by omega⟩⟩
theorem rcmp_c {s:Bool} {a b:Nat} {h:Hp} {nx:Nat} (ha:a<4294967296) (hb:b<4294967296):Cv Q O s 97 [.agg ⟨zM a⟩,.agg ⟨zM b⟩] h nx (fun v h' nx'=>∃ c:Int,v = .int .i64 c∧(c<0↔a<b)∧Keep nx h h'∧nx≤nx'):=by
 refine rcmpv ?_
 have K1:∀ {o o'},Keep nx h (hset (hset h nx o) (nx+1) o'):=((Keep.refl _ _).set (Nat.le_refl _)).set (Nat.le_succ _)
 unfold rcmp zM zMA
 simp (disch:=omega) only [SS,beq_self_eq_true,seval]
 obtain ⟨c,hc⟩:=wide_eql ha hb
 unfold zM at hc
 by_cases h1:a<b
 ·simp (disch:=omega) only [SS,h1,decide_true,seval]
  exact fun _=>⟨⟨_,rfl,by simp,K1,by omega⟩,fun h=>absurd trivial h⟩
 ·simp (disch:=omega) only [SS,h1,decide_false,hc,seval]
  exact fun _ _=>⟨fun _=>⟨_,rfl,by simp,K1,by omega⟩,fun _=>⟨_,rfl,by simp,K1,by omega⟩⟩
theorem radd_c {s:Bool} {a b:Nat} {h:Hp} {nx:Nat} (ha:a<4294967296) (hb:b<4294967296):Cv Q O s 72 [.int .i64 1,.agg ⟨zM a⟩,.agg ⟨zM b⟩] h nx (StK (.agg ⟨zM (min a b)⟩) nx h):=by
 refine raddv ?_
 have K1:∀ {o o' o''},Keep nx h (hset (hset (hset h nx o) (nx+1) o') (nx+1+1) o''):=(((Keep.refl _ _).set (Nat.le_refl _)).set (Nat.le_succ _)).set (by omega)
 unfold radd zM zMB
 simp (disch:=omega) only [SS,beq_self_eq_true,seval]
 refine (rcmp_c (a:=b) (b:=a) hb ha).mono ?_
 rintro r h1 nx1 ⟨c,rfl,hc,hk,hle⟩
 have g0:=hk nx (by omega)
 have g1:=hk (nx+1) (by omega)
 have g2:=hk (nx+1+1) (by omega)
 rw [hold (by omega),hold (by omega),hnew] at g0
 rw [hold (by omega),hnew] at g1
 rw [hnew] at g2
 simp (disch:=omega) only [SS,g0,g1,g2,seval]
 refine ⟨fun h1=>⟨?_,(K1.trans hk (by omega)).set (by omega),by omega⟩,fun h1=>⟨?_,(K1.trans hk (by omega)).set (by omega),by omega⟩⟩
 ·rw [Nat.min_eq_right (by omega)]
 ·rw [Nat.min_eq_left (by omega)]
theorem zPB {s:Bool} {w:Nat} {h:Hp} {nx:Nat} (hw:w<4294967296):Cv Q O s 73 [.agg ⟨zM w⟩] h nx (StK (.tuple ⟨[.int .i64 (w:Int),.bool true]⟩) nx h):=by
 refine rnarrowv ?_
 have K1:∀ {o},Keep nx h (hset h nx o):=(Keep.refl _ _).set (Nat.le_refl _)
 have e1:IntKind.wrap .i64 (w:Int)=(w:Int):=zAZ (by omega) (by omega)
 unfold zKR zM zC0
 simp (disch:=omega) only [SS,e1,beq_self_eq_true,seval]
 refine ⟨fun h1=>⟨rfl,K1,by omega⟩,fun h1=>absurd h1 (by omega)⟩
structure Shf {α:Type} (o X:List α) (k:Nat):Prop where
 len:X.length=o.length+1
 lo:∀ q,q<k→X[q]? = o[q]?
 hi:∀ q,k<q→q≤o.length→X[q]? = o[q-1]?
theorem Shf.init {α:Type} (o:List α) (z:α):Shf o (o++[z]) o.length :=
 ⟨by simp,fun q hq=>List.getElem?_append_left hq,fun q h1 h2=>absurd h1 (by omega)⟩
theorem Shf.step {α:Type} {o X:List α} {k:Nat} {x:α} (h:Shf o X (k+1)) (hk:k+1≤o.length) (hx:X[k]? = some x):Shf o (X.set (k+1) x) k:=by
 refine ⟨by rw [List.length_set]; exact h.len,fun q hq=>?_,fun q h1 h2=>?_⟩
 ·rw [List.getElem?_set,if_neg (by omega)]; exact h.lo q (by omega)
 ·rw [List.getElem?_set]
  by_cases e:k+1=q
  ·subst e
   rw [if_pos rfl,if_pos (by rw [h.len]; omega),Nat.add_sub_cancel,← h.lo k (by omega),hx]
  ·rw [if_neg e]; exact h.hi q (by omega) h2
theorem Shf.fin {α:Type} {o X:List α} {k:Nat} (h:Shf o X k) (hk:k≤o.length) (x:α):X.set k x=o.take k++x::o.drop k:=by
 apply List.ext_getElem?
 intro q
 rw [List.getElem?_set]
 by_cases e:k=q
 ·subst e
  rw [if_pos rfl,if_pos (by rw [h.len]; omega),List.getElem?_append_right (by rw [List.length_take]; omega),List.length_take]
  rw [show k-min k o.length=0 by omega]; rfl
 ·rw [if_neg e]
  by_cases h1:q<k
  ·rw [h.lo q h1,List.getElem?_append_left (by rw [List.length_take]; omega),List.getElem?_take,if_pos h1]
  ·rw [List.getElem?_append_right (by rw [List.length_take]; omega),List.length_take,show q-min k o.length=(q-k-1)+1 by omega,List.getElem?_cons_succ,List.getElem?_drop]
   by_cases h2:q≤o.length
   ·rw [h.hi q (by omega) h2]; congr 1; omega
   ·rw [List.getElem?_eq_none (by rw [h.len]; omega),List.getElem?_eq_none (by omega)]
theorem ltG_iff {x y:GE}:ltG x y=true↔Ltp (gE x) (gE y):=by
 unfold ltG Ltp gE
 simp only [Bool.or_eq_true,Bool.and_eq_true,decide_eq_true_eq]
 omega
theorem Ltp.tr {x y z:Edg} (h:Ltp x y) (h':Ltp y z):Ltp x z:=by unfold Ltp at *; omega
theorem ends_of {x y:GE} (h:ltG x y=false) (h':ltG y x=false):Ends (gE x) (gE y):=by
 have h1:¬ Ltp (gE x) (gE y):=fun e=>by rw [ltG_iff.2 e] at h; cases h
 have h2:¬ Ltp (gE y) (gE x):=fun e=>by rw [ltG_iff.2 e] at h'; cases h'
 unfold Ltp at h1 h2
 unfold Ends
 omega
structure At (B:List GE) (e:GE) (k:Nat):Prop where
 le:k≤B.length
 lo:∀ q x,q<k→B[q]? = some x→ltG x e=true
theorem zLc {B:List GE} (h:(B.map gE).Pairwise Ltp) {i j:Nat} {x y:GE} (hij:i<j) (hx:B[i]? = some x) (hy:B[j]? = some y):Ltp (gE x) (gE y):=by
 have hi:=(List.getElem?_eq_some_iff.1 hx)
 have hj:=(List.getElem?_eq_some_iff.1 hy)
 obtain ⟨hi,rfl⟩:=hi
 obtain ⟨hj,rfl⟩:=hj
 have:=List.pairwise_iff_getElem.1 h i j (by simpa using hi) (by simpa using hj) hij
 simpa using this
theorem ins_can {A:List Edg} {B:List GE} {e:GE} {k:Nat} (h:IsCan A (B.map gE)) (ha:At B e k) (hn:∀ x,B[k]? = some x→ltG e x=true):IsCan (A++[gE e]) ((B.take k++e::B.drop k).map gE):=by
 have hpre:∀ x∈B.take k,Ltp (gE x) (gE e):=fun x hx=>by
  obtain ⟨q,hq⟩:=List.getElem?_of_mem hx
  rw [List.getElem?_take] at hq
  split at hq
  ·rename_i hqk; exact ltG_iff.1 (ha.lo q x hqk hq)
  ·cases hq
 have hpost:∀ x∈B.drop k,Ltp (gE e) (gE x):=fun x hx=>by
  obtain ⟨q,hq⟩:=List.getElem?_of_mem hx
  rw [List.getElem?_drop] at hq
  by_cases h0:q=0
  ·subst h0; exact ltG_iff.1 (hn x hq)
  ·obtain ⟨y,hy⟩:=za (l:=B) (i:=k) (by have:=(List.getElem?_eq_some_iff.1 hq).1; omega)
   exact (ltG_iff.1 (hn y hy)).tr (zLc h.up (by omega) hy hq)
 have hmem:∀ x:Edg,x∈(B.take k++e::B.drop k).map gE↔x∈B.map gE∨x=gE e:=fun x=>by
  conv=>rhs; rw [← List.take_append_drop k B]
  rw [List.map_append,List.map_cons,List.map_append,List.mem_append,List.mem_append,List.mem_cons]
  exact ⟨fun h=>h.elim (fun h=>.inl (.inl h)) (fun h=>h.elim .inr (fun h=>.inl (.inr h))),fun h=>h.elim (fun h=>h.elim .inl (fun h=>.inr (.inr h))) (fun h=>.inr (.inl h))⟩
 refine ⟨?_,h.rep.step2 (fun z hz he=>?_) hmem⟩
 ·rw [List.map_append,List.map_cons,List.pairwise_append]
  have hup:=h.up
  rw [← List.take_append_drop k B,List.map_append,List.pairwise_append] at hup
  refine ⟨hup.1,List.Pairwise.cons (fun y hy=>?_) hup.2.1,fun x hx y hy=>?_⟩
  ·obtain ⟨z,hz,rfl⟩:=List.mem_map.1 hy
   exact hpost z hz
  ·rcases List.mem_cons.1 hy with rfl | hy
   ·obtain ⟨z,hz,rfl⟩:=List.mem_map.1 hx
    exact hpre z hz
   ·exact hup.2.2 x hx y hy
 ·obtain ⟨y,hy,rfl⟩:=List.mem_map.1 hz
  rw [← List.take_append_drop k B,List.mem_append] at hy
  rcases hy with hy | hy
  ·exact (hpre y hy).ne he
  ·exact (hpost y hy).ne he.symm
theorem set_can {A:List Edg} {B:List GE} {e z:GE} {k:Nat} (h:IsCan A (B.map gE)) (hz:B[k]? = some z) (he:Ends (gE z) (gE e)):IsCan (A++[gE e]) ((B.set k ⟨z.f,z.t,min z.w e.w⟩).map gE):=by
 have hk:=(List.getElem?_eq_some_iff.1 hz).1
 have hg:∀ q,(B.set k ⟨z.f,z.t,min z.w e.w⟩)[q]? = if k=q then some ⟨z.f,z.t,min z.w e.w⟩ else B[q]?:=fun q=>by
  rw [List.getElem?_set]
  by_cases e1:k=q
  ·subst e1; simp [hk]
  ·simp [e1]
 have hzm:gE ⟨z.f,z.t,min z.w e.w⟩=zmin (gE z) (gE e):=rfl
 have hsame:∀ q x,(B.set k ⟨z.f,z.t,min z.w e.w⟩)[q]? = some x→∃ y,B[q]? = some y∧(gE x).1=(gE y).1∧(gE x).2.1=(gE y).2.1:=fun q x hx=>by
  rw [hg] at hx
  split at hx
  ·rename_i e1; subst e1; cases hx; exact ⟨z,hz,rfl,rfl⟩
  ·exact ⟨x,hx,rfl,rfl⟩
 refine ⟨?_,h.rep.step1 (List.mem_map_of_mem (List.mem_of_getElem? hz)) he fun x=>?_⟩
 ·rw [List.pairwise_iff_getElem]
  intro i j hi hj hij
  rw [List.getElem_map,List.getElem_map]
  have hi':i<(B.set k ⟨z.f,z.t,min z.w e.w⟩).length:=by simpa using hi
  have hj':j<(B.set k ⟨z.f,z.t,min z.w e.w⟩).length:=by simpa using hj
  obtain ⟨y,hy,e1,e2⟩:=hsame i _ (List.getElem?_eq_getElem hi')
  obtain ⟨y',hy',e1',e2'⟩:=hsame j _ (List.getElem?_eq_getElem hj')
  have:=zLc h.up hij hy hy'
  unfold Ltp at *
  rw [e1,e2,e1',e2']; exact this
 ·constructor
  ·intro hx
   obtain ⟨y,hy,rfl⟩:=List.mem_map.1 hx
   obtain ⟨q,hq⟩:=List.getElem?_of_mem hy
   rw [hg] at hq
   split at hq
   ·cases hq; exact .inr hzm
   ·rename_i hkq
    refine .inl ⟨List.mem_map_of_mem (List.mem_of_getElem? hq),fun hye=>?_⟩
    have:=he.trans hye.symm
    rcases Nat.lt_or_ge k q with h1 | h1
    ·exact (zLc h.up h1 hz hq).ne this
    ·exact (zLc h.up (by omega) hq hz).ne this.symm
  ·rintro (⟨hx,hn⟩ | rfl)
   ·obtain ⟨y,hy,rfl⟩:=List.mem_map.1 hx
    obtain ⟨q,hq⟩:=List.getElem?_of_mem hy
    refine List.mem_map_of_mem (List.mem_of_getElem? (i:=q) ?_)
    rw [hg,if_neg,hq]
    intro e1; subst e1; rw [hz] at hq; cases hq; exact hn he
   ·rw [← hzm]
    exact List.mem_map_of_mem (List.mem_of_getElem? (i:=k) (by rw [hg,if_pos rfl]))
theorem zL2 {α:Type} {enc:α→List Value} {k:Nat} (hk:∀ x,(enc x).length=k) (hcell:∀ x,zg (enc x)=true) (hk0:0<k) {h:Hp} {nx:Nat} {v:Value} {l:List α} {o:Option Nat} (g:Gr h enc k v l o)
  {b2 o2 cap2:Nat} {sp2:Option Nat} {cs:List Value} {ro:Bool} (x:α) (h2:hget h b2=some (.cells cs ro)) (hx:(cs.drop o2).take k=enc x) (hsz:(l.length+1)*k≤1000000) {K:Value→Hp→Nat→Prop}
  (hK:∀ h',hget h' nx=some (.cells (flat enc (l++[x])) false)→(∀ c,c≠nx→o≠some c→hget h' c=hget h c)→K (.slice (some ⟨nx,0,some k⟩) (l.length+1) (l.length+1)) h' (nx+1)):EK (orR (zh k h nx v (.slice (some ⟨b2,o2,sp2⟩) 1 cap2))) K:=by
 obtain ⟨h',e,a,b⟩:=g.app hk hcell hk0 h2 hx hsz
 rw [e]; exact hK _ a b
def bare (g:GE):GE:=⟨g.f,g.t,0⟩
def sums (B:List GE):List Nat:=B.map fun g=>g.w.toNat
def CO (h:Hp) (lo nx:Nat) (B:List GE) (oe os:Value):Prop :=
 (B=[]∧oe = .slice none 0 0∧os = .slice none 0 0)∨∃ be bs,be≠bs∧lo≤be∧be<nx∧lo≤bs∧bs<nx∧oe = .slice (some ⟨be,0,some 3⟩) B.length B.length∧os = .slice (some ⟨bs,0,some 2⟩) B.length B.length ∧
  hget h be=some (.cells (flat encG (B.map bare)) false)∧hget h bs=some (.cells (flat zM (sums B)) false)
theorem CO.keep {h h':Hp} {lo nx nx':Nat} {B:List GE} {oe os:Value} (c:CO h lo nx B oe os) (hk:∀ b,lo≤b→b<nx→hget h' b=hget h b) (hle:nx≤nx'):CO h' lo nx' B oe os:=by
 rcases c with c | ⟨be,bs,h1,h2,h3,h4,h5,h6,h7,h8,h9⟩
 ·exact .inl c
 ·exact .inr ⟨be,bs,h1,h2,by omega,h4,by omega,h6,h7,by rw [hk be h2 h3]; exact h8,by rw [hk bs h4 h5]; exact h9⟩
theorem CO.gr {h:Hp} {lo nx:Nat} {B:List GE} {oe os:Value} (c:CO h lo nx B oe os):∃ o1 o2,Gr h encG 3 oe (B.map bare) o1∧Gr h zM 2 os (sums B) o2∧(∀ b,o1=some b→lo≤b∧b<nx∧o2≠some b)∧(∀ b,o2=some b→lo≤b∧b<nx):=by
 rcases c with ⟨rfl,rfl,rfl⟩ | ⟨be,bs,h1,h2,h3,h4,h5,rfl,rfl,h8,h9⟩
 ·exact ⟨none,none,.nil,.nil,fun b h=>(by cases h),fun b h=>(by cases h)⟩
 ·refine ⟨some be,some bs,?_,?_,fun b h=>by cases Option.some.inj h; exact ⟨h2,h3,fun e=>h1 (Option.some.inj e).symm⟩,fun b h=>by cases Option.some.inj h; exact ⟨h4,h5⟩⟩
  ·have:=Gr.own (enc:=encG) (k:=3) h8
   rwa [List.length_map] at this
  ·have:=Gr.own (enc:=zM) (k:=2) h9
   unfold sums at this ⊢
   rwa [List.length_map] at this
theorem CO.form {h:Hp} {lo nx:Nat} {B:List GE} {oe os:Value} (c:CO h lo nx B oe os):∃ ae as_,oe = .slice ae B.length B.length∧os = .slice as_ B.length B.length∧(B≠[]→∃ be bs,be≠bs∧lo≤be∧be<nx∧lo≤bs∧bs<nx∧ae=some ⟨be,0,some 3⟩∧as_=some ⟨bs,0,some 2⟩∧hget h be=some (.cells (flat encG (B.map bare)) false)∧hget h bs=some (.cells (flat zM (sums B)) false)):=by
 rcases c with ⟨rfl,rfl,rfl⟩ | ⟨be,bs,h1,h2,h3,h4,h5,rfl,rfl,h8,h9⟩
 ·exact ⟨none,none,rfl,rfl,fun h=>absurd rfl h⟩
 ·exact ⟨_,_,rfl,rfl,fun _=>⟨be,bs,h1,h2,h3,h4,h5,rfl,rfl,h8,h9⟩⟩
theorem wrW {h:Hp} {b i:Nat} {m:List Nat} {w:Nat} (hi:i<m.length):wrO (some (.cells (flat zM m) false)) h b (i*2) [.int .i64 0,.int .u64 (w:Int)] = .ok (hset h b (.cells (flat zM (m.set i w)) false)):=by
 show R.of _ (lput (zM w) (flat zM m) (i*2)) _=_
 rw [zFn (k:=2) (fun _=>rfl) w hi]
 rfl
theorem rdW {m:List Nat} {i w:Nat} (hi:m[i]? = some w):zAa (some 2) (i*2) (flat zM m) = .ok (.agg ⟨[.int .i64 0,.int .u64 (w:Int)]⟩):=rdF (enc:=zM) (k:=2) (fun _=>rfl) hi
theorem rdB {m:List GE} {i:Nat} {x:GE} (hi:m[i]? = some x):zAa (some 3) (i*3) (flat encG m) = .ok (.agg ⟨[.int .i64 (x.f:Int),.int .i64 (x.t:Int),.int .i64 x.w]⟩):=rdF (enc:=encG) (k:=3) (fun _=>rfl) hi
structure CmI (gs:List GE) (N nx:Nat) (h:Hp) (i:Nat) (B:List GE) (oe os:Value) (h':Hp) (nx':Nat):Prop where
 le:i≤gs.length
 co:CO h' nx nx' B oe os
 can:IsCan ((gs.take i).map gE) (B.map gE)
 ok:∀ g∈B,GOk N g
 len:B.length≤i
 keep:Keep nx h h'
 nxle:nx≤nx'
theorem CmI.more {gs:List GE} {N nx:Nat} {h:Hp} {i:Nat} {B:List GE} {oe os:Value} {h' h2:Hp} {nx' nx2:Nat} (c:CmI gs N nx h i B oe os h' nx') (hk:Keep nx' h' h2) (hle:nx'≤nx2):CmI gs N nx h i B oe os h2 nx2 :=
 ⟨c.le,c.co.keep (fun b _ h2=>hk b h2) hle,c.can,c.ok,c.len,c.keep.trans hk c.nxle,Nat.le_trans c.nxle hle⟩
def CmJ (gs:List GE) (v:Value) (N nx:Nat) (h:Hp) (m:Nat) (vs:List Value) (h':Hp) (nx':Nat):Prop :=
 ∃ i B oe os,m=gs.length-i∧vs=[.int .i64 1,v,.slice none 0 0,.int .i64 0,oe,os,.int .i64 (i:Int)]∧CmI gs N nx h i B oe os h' nx'
def CmF (gs:List GE) (v:Value) (N nx:Nat) (h:Hp) (i:Nat) (B:List GE) (oe os:Value) (e:GE) (m:Nat) (vs:List Value) (h':Hp) (nx':Nat):Prop :=
 ∃ k,m=B.length-k∧At B e k∧vs=[.int .i64 1,v,.slice none 0 0,.int .i64 0,oe,os,.int .i64 (i:Int),.int .i64 (k:Int)]∧CmI gs N nx h i B oe os h' nx'
theorem setS {α:Type} {l:List α} {k:Nat} {x:α} (h:l[k]? = some x):l.set k x=l:=by
 apply List.ext_getElem?
 intro i
 rw [List.getElem?_set]
 by_cases e:k=i
 ·subst e; rw [if_pos rfl,h,if_pos (List.getElem?_eq_some_iff.1 h).1]
 ·rw [if_neg e]
theorem Lp.cut {B:LB} {vs:List Value} {h:Hp} {nx i:Nat} {R C:KVl} (Pre:KVl) (h1:∀ vs h nx,Pre vs h nx→C vs h nx) (h2:∀ C',(∀ vs h nx,Pre vs h nx→C' vs h nx)→Lp B vs h nx [(i,C')] R):Lp B vs h nx [(i,C)] R:=h2 C h1
def PutP (gs:List GE) (v:Value) (N nx:Nat) (h:Hp) (i:Nat) (B:List GE) (oe os:Value) (e:GE) (vs:List Value) (h':Hp) (nx':Nat):Prop :=
 ∃ k,At B e k∧(∀ x,B[k]? = some x→ltG x e=false)∧vs=[.int .i64 1,v,.slice none 0 0,.int .i64 0,oe,os,.int .i64 (i:Int),.int .i64 (k:Int)]∧CmI gs N nx h i B oe os h' nx'
def ShJ (v:Value) (B:List GE) (i k p be bs:Nat) (H:Hp) (NN:Nat) (m:Nat) (vs:List Value) (h':Hp) (nx':Nat):Prop :=
 ∃ (q:Nat) (X:List GE) (Y:List Nat),m=q∧k≤q∧q≤B.length∧Shf (B.map bare) X q∧Shf (sums B) Y q∧vs=[.int .i64 1,v,.slice none 0 0,.int .i64 0,.slice (some ⟨be,0,some 3⟩) (B.length+1) (B.length+1),.slice (some ⟨bs,0,some 2⟩) (B.length+1) (B.length+1),.int .i64 (i:Int),.int .i64 (k:Int),.pointer (some ⟨p,0,none⟩),.int .i64 (q:Int)] ∧
  hget h' be=some (.cells (flat encG X) false)∧hget h' bs=some (.cells (flat zM Y) false)∧(∀ c,c≠be→c≠bs→hget h' c=hget H c)∧nx'=NN
theorem ins_c {s:Bool} {gs:List GE} {N nx:Nat} {h:Hp} {i k w p:Nat} {B:List GE} {e:GE} {oe os:Value} {H:Hp} {NN bg cap:Nat} {spg:Option Nat} {csg:List Value} {rog:Bool} {Nn e0 R:KVl}
  (hl:gs.length≤60) (he:gs[i]? = some e) (hG:GOk N e) (hw:e.w=(w:Int)) (hI:CmI gs N nx h i B oe os H NN) (hat:At B e k) (hn:∀ x,B[k]? = some x→ltG e x=true) (hgb:hget H bg=some (.cells (flat encG gs++csg) rog)) (hbg:bg<nx) (hp:hget H p=some (.cells [.int .i64 0,.int .u64 (w:Int)] false)) (hpn:p<NN) (hpx:nx≤p) (hco:CO H nx p B oe os)
  (hN:∀ B' oe' os' h' nx',CmI gs N nx h (i+1) B' oe' os' h' nx'→Nn [.int .i64 1,.slice (some ⟨bg,0,spg⟩) gs.length cap,.slice none 0 0,.int .i64 0,oe',os',.int .i64 ((i+1:Nat):Int)] h' nx') :
  EK (orR (zh 3 (hset H NN (.cells [.int .i64 0,.int .i64 0,.int .i64 0] false)) (NN+1) oe (.slice (some ⟨NN,0,none⟩) 1 1))) fun x56 h57 n58 =>
  EK (orR (zh 2 (hset h57 n58 (.cells [.int .i64 0,.int .u64 0] false)) (n58+1) os (.slice (some ⟨n58,0,none⟩) 1 1))) fun x63 h64 n65 =>
  RK (lenS x56) fun x66=>RK (bin Q .sub 3 x66 (.int .i64 1)) fun x67 =>
  Lp (fL Q O s zCo 51 2) [.int .i64 1,.slice (some ⟨bg,0,spg⟩) gs.length cap,.slice none 0 0,.int .i64 0,x56,x63,.int .i64 (i:Int),.int .i64 (k:Int),.pointer (some ⟨p,0,none⟩),x67] h64 n65 [(4,fun v70 h68 n69 =>
   RK (vIx (.slice 3) (nv v70 1) (nv v70 6)) fun x83=>RK (zO 0 x83) fun x84=>RK (vLd none h68 x84) fun x85=>RK (vIx (.slice 3) (nv v70 1) (nv v70 6)) fun x86=>RK (zO 1 x86) fun x87=>RK (vLd none h68 x87) fun x88 =>
   RK ((zA1 (zF8 [(1,1,x88)]) 0 1 (zF x85) [.int .i64 0,.int .i64 0,.int .i64 0]).bind fun l=>.ok (.agg ⟨l⟩)) fun x89=>RK (vIx (.slice 3) (nv v70 4) (nv v70 7)) fun x90=>RK (vSt h68 3 x90 x89) fun h91=>RK (vLd (some 2) h91 (nv v70 8)) fun x92=>RK (vIx (.slice 2) (nv v70 5) (nv v70 7)) fun x93=>RK (vSt h91 2 x93 x92) fun h94 =>
   zEo s Nn e0 R (nv v70 0) (nv v70 1) (nv v70 2) (nv v70 3) (nv v70 4) (nv v70 5) (nv v70 6) h94 n69)] (fun _ _ _=>False):=by
 have hbl:B.length≤60:=by have:=hI.len; have:=hI.le; omega
 have hnx:=hI.nxle
 obtain ⟨o1,o2,g1,g2,hb1,hb2⟩:=hco.gr
 have hm:(B.map bare).length=B.length:=List.length_map ..
 have hs:(sums B).length=B.length:=List.length_map ..
 refine zL2 (enc:=encG) (k:=3) (fun _=>rfl) (fun _=>rfl) (by omega) (g1.keep (fun b hb=>by have:=hb1 b hb; rw [hold (by omega)])) zG (hnew _ _ _) rfl (by omega) (fun h5 a1 a2=>?_)
 refine zL2 (enc:=zM) (k:=2) (fun _=>rfl) (fun _=>rfl) (by omega) (g2.keep (fun b hb=>by have:=hb2 b hb; rw [hold (by omega),a2 b (by omega) (fun e=>(hb1 b e).2.2 hb),hold (by omega)])) 0 (hnew _ _ _) rfl (by omega) (fun h6 b1 b2=>?_)
 have fr:∀ c,c<nx∨c=p→hget h6 c=hget H c:=fun c hc=>by
  rw [b2 c (by omega) (fun e=>by have:=hb2 c e; omega),hold (by omega),a2 c (by omega) (fun e=>by have:=hb1 c e; omega),hold (by omega)]
 have e0:IntKind.wrap .i64 (((B.length+1:Nat):Int)-1)=(B.length:Int):=by rw [zAZ (by omega) (by omega)]; omega
 have x1:hget h6 (NN+1)=some (.cells (flat encG (B.map bare++[zG])) false):=by rw [b2 _ (by omega) (fun e=>by have:=hb2 _ e; omega),hold (by omega)]; exact a1
 rw [hm,hs]
 simp (disch:=omega) only [SS,e0,seval]
 have i0:=Shf.init (B.map bare) zG
 have i1:=Shf.init (sums B) 0
 rw [hm] at i0
 rw [hs] at i1
 refine Lp.mk (ShJ (.slice (some ⟨bg,0,spg⟩) gs.length cap) B i k p (NN+1) (NN+1+1+1) h6 (NN+1+1+1+1)) B.length ⟨B.length,_,_,rfl,hat.le,Nat.le_refl _,i0,i1,rfl,x1,b1,fun _ _ _=>rfl,rfl⟩ ?_
 rintro q _ h7 _ ⟨_,X,Y,rfl,hkq,hqB,hX,hY,rfl,g3,g4,hf,rfl⟩
 rw [rcombb2]
 unfold zPQ
 have hXl:=hX.len
 have hYl:=hY.len
 rw [hm] at hXl
 rw [hs] at hYl
 have fr7:∀ c,c<nx∨c=p→hget h7 c=hget H c:=fun c hc=>(hf c (by omega) (by omega)).trans (fr c hc)
 simp (disch:=omega) only [SS,seval]
 refine ⟨fun h1=>?_,fun h1=>?_⟩
 ·obtain ⟨q,rfl⟩:∃ q',q=q'+1:=⟨q-1,by omega⟩
  have e1:IntKind.wrap .i64 (((q+1:Nat):Int)-1)=(q:Int):=by rw [zAZ (by omega) (by omega)]; omega
  obtain ⟨x,hx⟩:=za (l:=X) (i:=q) (by omega)
  obtain ⟨y,hy⟩:=za (l:=Y) (i:=q) (by omega)
  simp (disch:=omega) only [SS,e1,g3,g4,rdB hx,rdW hy,wrG (m:=X) (x:=x) (i:=q+1) (by omega),wrW (m:=Y) (w:=y) (i:=q+1) (by omega),seval]
  refine ⟨q,by omega,q,_,_,rfl,by omega,by omega,hX.step (by omega) hx,hY.step (by omega) hy,rfl,by rw [hold (by omega),hnew],hnew _ _ _,fun c h1 h2=>by rw [hold h2,hold h1]; exact hf c h1 h2,rfl⟩
 ·have hkq:q=k:=by omega
  subst hkq
  have hgg:=(fr7 bg (.inl hbg)).trans hgb
  have hpp:=(fr7 p (.inr rfl)).trans hp
  have c1:=zNu (enc:=encG) (k:=3) (fun _=>rfl) he (j:=1) (by omega) (cs:=csg)
  rw [show (encG e)[1]? = some (.int .i64 (e.t:Int)) from rfl] at c1
  have c0:=zNu (enc:=encG) (k:=3) (fun _=>rfl) he (j:=0) (by omega) (cs:=csg)
  rw [show (encG e)[0]? = some (.int .i64 (e.f:Int)) from rfl,Nat.add_zero] at c0
  have hil:=(List.getElem?_eq_some_iff.1 he).1
  have ei:IntKind.wrap .i64 ((i:Int)+1)=((i+1:Nat):Int):=zAK (by omega)
  have wE:wrO (some (.cells (flat encG X) false)) h7 (NN+1) (q*3) [.int .i64 (e.f:Int),.int .i64 (e.t:Int),.int .i64 0] = .ok (hset h7 (NN+1) (.cells (flat encG (X.set q (bare e))) false)):=wrG (x:=bare e) (by omega)
  unfold zEo
  simp (disch:=omega) only [SS,hgg,c0,c1,g3,wE,hpp,g4,wrW (m:=Y) (w:=w) (i:=q) (by omega),ei,seval]
  have hlen:(B.take q++e::B.drop q).length=B.length+1:=by rw [List.length_append,List.length_cons,List.length_take,List.length_drop]; omega
  rw [← hlen]
  refine hN _ _ _ _ _ ⟨by omega,.inr ⟨NN+1,NN+1+1+1,by omega,by omega,by omega,by omega,by omega,rfl,rfl,?_,?_⟩,?_,fun g hg=>?_,by rw [hlen]; have:=hI.len; omega,fun c hc=>?_,by omega⟩
  ·rw [hold (by omega),hnew,hX.fin (by omega),List.map_append,List.map_cons,List.map_take,List.map_drop]
  ·rw [hnew,hY.fin (by omega)]
   unfold sums
   rw [List.map_append,List.map_cons,List.map_take,List.map_drop,hw]; rfl
  ·rw [List.take_add_one,he,List.map_append]
   exact ins_can hI.can hat hn
  ·rcases List.mem_append.1 hg with hg | hg
   ·exact hI.ok g (List.mem_of_mem_take hg)
   ·rcases List.mem_cons.1 hg with rfl | hg
    ·exact hG
    ·exact hI.ok g (List.mem_of_mem_drop hg)
  ·rw [hold (by omega),hold (by omega),fr7 c (.inl hc)]; exact hI.keep c hc
def NaJ (B:List GE) (ae as_:Option Addr) (nx:Nat) (h:Hp) (m:Nat) (vs:List Value) (h':Hp) (nx':Nat):Prop :=
 ∃ j,m=B.length-j∧j≤B.length∧vs=[.slice none 0 0,.int .i64 0,.slice ae B.length B.length,.slice as_ B.length B.length,.int .i64 (j:Int)]∧(B≠[]→∃ be bs,be≠bs∧nx≤be∧be<nx'∧nx≤bs∧bs<nx'∧ae=some ⟨be,0,some 3⟩∧as_=some ⟨bs,0,some 2⟩∧hget h' be=some (.cells (flat encG (B.take j++(B.drop j).map bare)) false)∧hget h' bs=some (.cells (flat zM (sums B)) false))∧Keep nx h h'∧nx≤nx'
theorem zJ0:∀ {m:List GE} {j:Nat} {y:GE} {w:Int},m[j]? = some y→(flat encG m).set (j*3+2) (.int .i64 w)=flat encG (m.set j ⟨y.f,y.t,w⟩)
 | [],j,y,w,h=>by cases h
 | z::m,0,y,w,h=>by cases h; rfl
 | z::m,j+1,y,w,h=>by
  have ih:=zJ0 (m:=m) (j:=j) (y:=y) (w:=w) h
  show (encG z++flat encG m).set ((j+1)*3+2) _=encG z++flat encG (m.set j _)
  rw [← ih,show (j+1)*3+2=(j*3+2)+1+1+1 by omega]
  rfl
theorem rcomb_c {s:Bool} {N:Nat} {v:Value} {gs:List GE} {h:Hp} {nx:Nat} (hv:SlPx h nx v encG gs) (hN:N≤4096) (hl:gs.length≤60) (hok:∀ g∈gs,GOk N g) :
  Cv Q O s 51 [.int .i64 1,v] h nx (fun r h' nx'=>∃ v2 B,r = .tuple ⟨[v2,.int .i64 0]⟩∧SlNw h' nx nx' v2 encG B∧IsCan (gs.map gE) (B.map gE)∧(∀ g∈B,GOk N g)∧B.length≤gs.length∧Keep nx h h'∧nx≤nx'):=by
 refine rcombv ?_
 obtain ⟨a,cap,rfl,hc⟩:=id hv
 unfold rcomb
 refine ris_c.mono ?_
 rintro r h0 nx0 ⟨rfl,e1,e2⟩
 rw [e1,e2]
 simp (disch:=omega) only [SS,seval]
 refine Lp.mk (CmJ gs (.slice a gs.length cap) N nx h) gs.length ⟨0,[],_,_,by omega,rfl,⟨by omega,.inl ⟨rfl,rfl,rfl⟩,⟨List.Pairwise.nil,Rep.nil⟩,by simp,by simp,Keep.refl _ _,Nat.le_refl _⟩⟩ ?_
 rintro _ _ h' nx' ⟨i,B,oe,os,rfl,rfl,hI⟩
 rw [rcombb0]
 unfold zPS
 simp (disch:=omega) only [SS,seval]
 refine ⟨fun hlt=>?_,fun hge=>?_⟩
 ·obtain ⟨e,he⟩:=za hlt
  have ei:IntKind.wrap .i64 ((i:Int)+1)=((i+1:Nat):Int):=zAK (by omega)
  obtain ⟨_,bg,spg,rog,cg,csg,hbg,e1,hgg⟩:=hv.at he
  cases e1
  refine Lp.cut (PutP gs (.slice (some ⟨bg,0,spg⟩) gs.length cap) N nx h i B oe os e) ?_ (fun C' hC=>?_)
  ·rintro _ h2 nx2 ⟨k,hat,hnk,rfl,hI⟩
   have hgg2:=(hI.keep bg hbg).trans hgg
   have hGe:=hok e (List.mem_of_getElem? he)
   obtain ⟨w,hw⟩:∃ w:Nat,e.w=(w:Int):=⟨e.w.toNat,by have:=hGe.2.2.1; omega⟩
   have hwl:w<4294967296:=by have:=hGe.2.2.2; omega
   have c2:=zNu (enc:=encG) (k:=3) (fun _=>rfl) he (j:=2) (by omega) (cs:=csg)
   rw [show (encG e)[2]? = some (.int .i64 e.w) from rfl,hw] at c2
   have c1:=zNu (enc:=encG) (k:=3) (fun _=>rfl) he (j:=1) (by omega) (cs:=csg)
   rw [show (encG e)[1]? = some (.int .i64 (e.t:Int)) from rfl] at c1
   have c0:=zNu (enc:=encG) (k:=3) (fun _=>rfl) he (j:=0) (by omega) (cs:=csg)
   rw [show (encG e)[0]? = some (.int .i64 (e.f:Int)) from rfl,Nat.add_zero] at c0
   have rd:=rdP (enc:=encG) (k:=3) (fun _=>rfl) he (cs:=csg)
   simp (disch:=omega) only [SS,hgg2,c2,seval]
   refine (rof_c (w:=w) hwl).mono ?_
   rintro r h3 nx3 ⟨rfl,hk3,hle3⟩
   have hbn:bg<nx2:=by have:=hI.nxle; omega
   have K3:∀ {o o'},Keep nx2 h2 (hset (hset h3 nx3 o) nx3 o'):=(hk3.set hle3).set hle3
   have hI3:=hI.more (h2:=hset (hset h3 nx3 (.cells [.int .i64 0,.int .u64 0] false)) nx3 (.cells [.int .i64 0,.int .u64 (w:Int)] false)) (nx2:=nx3+1) K3 (by omega)
   have hgg3:hget (hset (hset h3 nx3 (.cells [.int .i64 0,.int .u64 0] false)) nx3 (.cells [.int .i64 0,.int .u64 (w:Int)] false)) bg=some (.cells (flat encG gs++csg) rog):=(K3 bg hbn).trans hgg2
   obtain ⟨ae,as_,rfl,rfl,hne⟩:=hI.co.form
   have rd3:zAa (some 3) (i*3) (flat encG gs++csg) = .ok (.agg ⟨[.int .i64 (e.f:Int),.int .i64 (e.t:Int),.int .i64 e.w]⟩):=rd
   have hbl:B.length≤60:=by have:=hI.len; omega
   simp (disch:=omega) only [SS,zM,hgg3,rd3,seval]
   refine ⟨fun hk=>?_,fun hk=>?_⟩
   ·obtain ⟨be,bs,h1,h2',h3',h4,h5,rfl,rfl,h8,h9⟩:=hne (fun e=>by rw [e] at hk; simp at hk)
    obtain ⟨x,hx⟩:=za hk
    have hx':(B.map bare)[k]? = some (bare x):=by rw [List.getElem?_map,hx]; rfl
    have hs':(sums B)[k]? = some x.w.toNat:=by unfold sums; rw [List.getElem?_map,hx]; rfl
    have e8:=(hk3 be (by omega)).trans h8
    have e9:=(hk3 bs (by omega)).trans h9
    simp (disch:=omega) only [SS,e8,rdB hx',e9,seval]
    refine (zRO (x:=e) (y:=bare x)).mono ?_
    rintro r h6 nx6 ⟨rfl,hk6,hle6⟩
    have hI6:=hI3.more hk6 hle6
    have p6:=hk6 nx3 (by omega)
    rw [hnew] at p6
    have s6:=(hk6 bs (by omega)).trans ((hold (by omega)).trans ((hold (by omega)).trans e9))
    have hb:ltG e (bare x)=ltG e x:=rfl
    rw [hb]
    simp (disch:=omega) only [SS,s6,rdW hs',p6,seval]
    refine ⟨hle6,fun hf=>?_,fun ht=>?_⟩
    ·have hGx:=hI.ok x (List.mem_of_getElem? hx)
     refine (radd_c (a:=x.w.toNat) (b:=w) (by have:=hGx.2.2.2; omega) hwl).mono ?_
     rintro r h7 nx7 ⟨rfl,hk7,hle7⟩
     have s7:=(hk7 bs (by omega)).trans s6
     unfold zEo
     simp (disch:=omega) only [SS,zM,s7,ei,wrW (m:=sums B) (i:=k) (w:=min x.w.toNat w) (by unfold sums; rw [List.length_map]; exact hk),seval]
     have hy:bare (⟨x.f,x.t,min x.w e.w⟩:GE)=bare x:=rfl
     refine ⟨hle7,gs.length-(i+1),by omega,i+1,B.set k ⟨x.f,x.t,min x.w e.w⟩,_,_,rfl,rfl,⟨by omega,.inr ⟨be,bs,h1,h2',by omega,h4,by omega,by rw [List.length_set],by rw [List.length_set],?_,?_⟩,?_,fun g hg=>?_,by rw [List.length_set]; have:=hI.len; omega,(hI6.keep.trans hk7 hI6.nxle).set (by omega),by have:=hI6.nxle; omega⟩⟩
     ·rw [hold h1,hk7 be (by omega),hk6 be (by omega),hold (by omega),hold (by omega),e8,List.map_set,hy,setS hx']
     ·rw [hnew]
      unfold sums
      rw [List.map_set]
      have:(min x.w e.w).toNat=min x.w.toNat w:=by have:=hGx.2.2.1; omega
      rw [this]
     ·rw [List.take_add_one,he,List.map_append]
      exact set_can hI.can hx (ends_of (hnk x hx) hf)
     ·rcases List.mem_or_eq_of_mem_set hg with hg | rfl
      ·exact hI.ok g hg
      ·have a1:=hGx.2.2; have a2:=hGe.2.2
       exact ⟨hGx.1,hGx.2.1,by show 0≤min x.w e.w; omega,by show min x.w e.w≤_; omega⟩
    ·have hnk2:∀ x',B[k]? = some x'→ltG e x'=true:=fun x' hx'=>by rw [hx] at hx'; cases hx'; exact ht
     have gg6:=(hk6 bg (by omega)).trans hgg3
     have hnn6:nx3<nx6:=by omega
     refine ins_c hl he hGe hw hI6 hat hnk2 gg6 hbg p6 hnn6 (by have:=hI.nxle; omega) (hI.co.keep (fun b _ hb=>by rw [hk6 b (by omega),hold (by omega),hold (by omega),hk3 b hb]) hle3) (fun B' oe' os' h' nx' hc=>⟨gs.length-(i+1),by omega,i+1,B',oe',os',rfl,rfl,hc⟩)
   ·refine ins_c hl he hGe hw hI3 hat (fun x hx=>absurd (List.getElem?_eq_some_iff.1 hx).1 hk) hgg3 hbg (hnew _ _ _) (Nat.lt_succ_self _) (by have:=hI.nxle; omega) (hI.co.keep (fun b _ hb=>by rw [hold (by omega),hold (by omega),hk3 b hb]) hle3) (fun B' oe' os' h' nx' hc=>⟨gs.length-(i+1),by omega,i+1,B',oe',os',rfl,rfl,hc⟩)
  ·refine Lp.mk (CmF gs (.slice (some ⟨bg,0,spg⟩) gs.length cap) N nx h i B oe os e) B.length ⟨0,by omega,⟨by omega,fun q x hq=>absurd hq (by omega)⟩,rfl,hI⟩ ?_
   rintro _ _ h2 nx2 ⟨k,rfl,hat,rfl,hI⟩
   obtain ⟨ae,as_,rfl,rfl,hne⟩:=hI.co.form
   rw [rcombb1]
   unfold zPR
   simp (disch:=omega) only [SS,seval]
   refine ⟨fun hk=>?_,fun hk=>hC _ _ _ ⟨k,hat,fun x hx=>absurd (List.getElem?_eq_some_iff.1 hx).1 hk,rfl,hI⟩⟩
   obtain ⟨be,bs,h1,h2',h3,h4,h5,rfl,rfl,h8,h9⟩:=hne (fun e=>by rw [e] at hk; simp at hk)
   obtain ⟨x,hx⟩:=za hk
   have hx':(B.map bare)[k]? = some (bare x):=by rw [List.getElem?_map,hx]; rfl
   simp (disch:=omega) only [SS,h8,(hI.keep bg hbg).trans hgg,rdF (enc:=encG) (k:=3) (fun _=>rfl) hx',rdP (enc:=encG) (k:=3) (fun _=>rfl) he,seval]
   refine (zRO (x:=bare x) (y:=e)).mono ?_
   rintro r h6 nx6 ⟨rfl,hk6,hle6⟩
   have hb:ltG (bare x) e=ltG x e:=rfl
   rw [hb]
   have ek:IntKind.wrap .i64 ((k:Int)+1)=((k+1:Nat):Int):=zAK (by have:=hI.len; omega)
   simp (disch:=omega) only [SS,ek,seval]
   refine ⟨hle6,fun ht=>⟨B.length-(k+1),by omega,k+1,rfl,⟨hk,fun q y hq hy=>?_⟩,rfl,hI.more hk6 hle6⟩,fun hf=>hC _ _ _ ⟨k,hat,fun y hy=>by rw [hx] at hy; cases hy; exact hf,rfl,hI.more hk6 hle6⟩⟩
   by_cases e2:q=k
   ·subst e2; rw [hx] at hy; cases hy; exact ht
   ·exact hat.lo q y (by omega) hy
 ·have hig:i=gs.length:=by have:=hI.le; omega
  subst hig
  have hcan:=hI.can
  rw [List.take_length] at hcan
  obtain ⟨ae,as_,rfl,rfl,hne⟩:=hI.co.form
  refine Lp.mk (NaJ B ae as_ nx h) B.length ⟨0,by omega,by omega,rfl,fun hb=>?_,hI.keep,hI.nxle⟩ ?_
  ·obtain ⟨be,bs,h1,h2,h3,h4,h5,e1,e2,h8,h9⟩:=hne hb
   exact ⟨be,bs,h1,h2,h3,h4,h5,e1,e2,by simpa using h8,h9⟩
  rintro _ _ h2 nx2 ⟨j,rfl,hj,rfl,hne,hk2,hle2⟩
  rw [rcombb3]
  unfold zPP
  simp (disch:=omega) only [SS,seval]
  have hbl:B.length≤60:=by have:=hI.len; omega
  refine ⟨fun hlt=>?_,fun hge=>?_⟩
  ·obtain ⟨be,bs,h1,h2',h3,h4,h5,rfl,rfl,h8,h9⟩:=hne (fun e=>by rw [e] at hlt; simp at hlt)
   obtain ⟨x,hx⟩:=za hlt
   have hGx:=hI.ok x (List.mem_of_getElem? hx)
   obtain ⟨w,hw⟩:∃ w:Nat,x.w=(w:Int):=⟨x.w.toNat,by have:=hGx.2.2.1; omega⟩
   have hs':(sums B)[j]? = some w:=by unfold sums; rw [List.getElem?_map,hx,Option.map_some,hw]; rfl
   have hC:(B.take j++(B.drop j).map bare)[j]? = some (bare x):=by
    rw [List.getElem?_append_right (by rw [List.length_take]; omega),List.length_take,show j-min j B.length=0 by omega,List.getElem?_map,List.getElem?_drop,Nat.add_zero,hx]; rfl
   simp (disch:=omega) only [SS,h9,rdW hs',seval]
   refine (zPB (w:=w) (by have:=hGx.2.2.2; omega)).mono ?_
   rintro r h6 nx6 ⟨rfl,hk6,hle6⟩
   have g8:=(hk6 be h3).trans h8
   have ej:IntKind.wrap .i64 ((j:Int)+1)=((j+1:Nat):Int):=zAK (by omega)
   have hCl:(B.take j++(B.drop j).map bare).length=B.length:=by rw [List.length_append,List.length_take,List.length_map,List.length_drop]; omega
   have hfl:(flat encG (B.take j++(B.drop j).map bare)).length=B.length*3:=by rw [zAG (k:=3) (fun _=>rfl),hCl]
   simp (disch:=omega) only [SS,g8,ej,hfl,zJ0 hC,seval]
   refine ⟨by omega,B.length-(j+1),by omega,j+1,rfl,hlt,rfl,fun _=>⟨be,bs,h1,h2',by omega,h4,by omega,rfl,rfl,?_,?_⟩,fun c hc=>?_,by omega⟩
   ·rw [hnew]
    have:(B.take j++(B.drop j).map bare).set j ⟨(bare x).f,(bare x).t,(w:Int)⟩=B.take (j+1)++(B.drop (j+1)).map bare:=by
     have e3:(⟨(bare x).f,(bare x).t,(w:Int)⟩:GE)=x:=by rw [← hw]; rfl
     rw [e3,List.set_append,if_neg (by rw [List.length_take]; omega),List.length_take,show j-min j B.length=0 by omega]
     rw [List.drop_eq_getElem_cons hlt,List.map_cons,List.set_cons_zero,List.take_add_one,hx,List.append_assoc]
     rfl
    rw [this]
   ·rw [hold (Ne.symm h1),hk6 bs h5]; exact h9
   ·rw [hold (by omega),hk6 c (by omega)]; exact hk2 c hc
  ·have hjb:j=B.length:=by omega
   subst hjb
   refine ⟨_,B,rfl,⟨ae,B.length,rfl,fun hb=>?_⟩,hcan,hI.ok,hI.len,hk2,hle2⟩
   obtain ⟨be,bs,h1,h2',h3,h4,h5,e1,e2,h8,h9⟩:=hne hb
   rw [List.take_length,List.drop_length,List.map_nil,List.append_nil] at h8
   exact ⟨be,some 3,false,h2',h3,e1,h8⟩
theorem rcanon_c {gs:List GE} {N:Nat} {s:Bool} {h:Hp} {nx:Nat} {v:Value} (hv:SlPx h nx v encG gs) (hN:N≤4096) (hok:∀ g∈gs,GOk N g) (hl:gs.length≤60) :
  Cv Q O s 34 [.agg ⟨[.int .i64 (N:Int),v]⟩] h nx (fun r h' nx'=>∃ v2 cs,r = .agg ⟨[.int .i64 (N:Int),v2]⟩∧SlNw h' nx nx' v2 encG cs∧IsCan (gs.map gE) (cs.map gE)∧(∀ g∈cs,GOk N g)∧cs.length≤gs.length∧Keep nx h h'∧nx≤nx'):=by
 refine rcanonv ?_
 obtain ⟨a,cap,rfl,hc⟩:=id hv
 unfold zPU
 simp (disch:=omega) only [SS,seval]
 have k0:∀ {o1 o2:AObj},Keep nx h (hset (hset h nx o1) (nx+1) o2):=fun {o1 o2} b hb=>by rw [hold (by omega),hold (by omega)]
 refine (rcomb_c (hv.keep k0 (by omega)) hN hl hok).mono ?_
 rintro r h1 nx1 ⟨v2,cs,rfl,hcs,hcan,hok',hlen,hk,hle⟩
 have g1:=(hk nx (by omega)).trans (hold (by omega))
 have g2:=hk (nx+1) (by omega)
 rw [hnew] at g1 g2
 obtain ⟨a2,cap2,rfl,hc2⟩:=id hcs
 simp (disch:=omega) only [SS,g1,g2,seval]
 exact ⟨_,cs,rfl,hcs.keep (fun b h1 h2=>hold (by omega)) (by omega) (Nat.le_refl _),hcan,hok',hlen,(k0.trans hk (by omega)).set (by omega),by omega⟩
def EqJ (l l':List Int) (a a':Option Addr) (cap cap':Nat) (h:Hp) (nx:Nat) (m:Nat) (vs:List Value) (h':Hp) (nx':Nat):Prop :=
 ∃ i,m=l.length-i∧i≤l.length∧vs=[.slice a l.length cap,.slice a' l'.length cap',.bool false,.int .i64 (l.length:Int),.int .i64 (i:Int)]∧h'=h∧nx'=nx∧l.take i=l'.take i
theorem eq64_cv {s:Bool} {h:Hp} {nx:Nat} {v v':Value} {l l':List Int} (hv:SlRd h nx v encI l) (hv':SlRd h nx v' encI l') (hl:l.length<1000000) :
  Cv Q O s 30 [v,v'] h nx (fun r h' nx'=>r = .bool (decide (l=l'))∧h'=h∧nx'=nx):=by
 refine eq64v ?_
 obtain ⟨a,cap,rfl,hc⟩:=id hv
 obtain ⟨a',cap',rfl,hc'⟩:=id hv'
 unfold eq64
 simp (disch:=omega) only [SS,seval]
 refine ⟨fun hne=>?_,fun he=>?_⟩
 ·have:¬ l=l':=fun e=>by subst e; simp at hne
  simp [this]
 have he:l.length=l'.length:=by
  have h2:(l.length:Int)=(l'.length:Int):=by simpa using he
  omega
 refine Lp.mk (EqJ l l' a a' cap cap' h nx) l.length ⟨0,rfl,by omega,rfl,rfl,rfl,rfl⟩ ?_
 rintro m _ _ _ ⟨i,rfl,hi,rfl,rfl,rfl,ht⟩
 rw [eq64b0]
 unfold eq64l0
 simp (disch:=omega) only [SS,seval]
 refine ⟨fun hlt=>?_,fun hge=>?_⟩
 ·obtain ⟨x,hx⟩:=za hlt
  obtain ⟨y,hy⟩:=za (l:=l') (i:=i) (by omega)
  obtain ⟨_,b,sp,ro,c1,hb,e1,hg⟩:=hv.at hx
  obtain ⟨_,b',sp',ro',c1',hb',e1',hg'⟩:=hv'.at hy
  cases e1; cases e1'
  rw [zY] at hg hg'
  simp (disch:=omega) only [SS,hg,hg',zR hx,zR hy,seval]
  refine ⟨fun hne=>?_,fun he2=>?_⟩
  ·have:¬ l=l':=fun e=>by subst e; rw [hx] at hy; cases hy; simp at hne
   simp [this]
  ·have hxy:x=y:=by simpa using he2
   subst hxy
   refine ⟨l.length-(i+1),by omega,i+1,rfl,by omega,by rw [zAK (by omega)],rfl,rfl,?_⟩
   rw [List.take_add_one,List.take_add_one,hx,hy,ht]
 ·have:i=l.length:=by omega
  subst this
  rw [List.take_length,he,List.take_length] at ht
  simp [ht]
def SamIJ (l l':List Int) (v v':Value) (h:Hp) (nx:Nat) (m:Nat) (vs:List Value) (h':Hp) (nx':Nat):Prop:=∃ i,m=l.length-i∧i≤l.length∧vs=[v,v',.bool false,.int .i64 (i:Int)]∧h'=h∧nx'=nx∧l.take i=l'.take i
theorem samei_c {s:Bool} {h:Hp} {nx:Nat} {v v':Value} {l l':List Int} (hv:SlRd h nx v encI l) (hv':SlRd h nx v' encI l') (hl:l.length<1000000) :
  Cv Q O s 17 [v,v'] h nx (fun r h' nx'=>r = .bool (decide (l=l'))∧h'=h∧nx'=nx):=by
 refine sameiv ?_
 obtain ⟨a,cap,rfl,hc⟩:=id hv
 obtain ⟨a',cap',rfl,hc'⟩:=id hv'
 unfold samei
 simp (disch:=omega) only [SS,seval]
 refine ⟨fun hne=>?_,fun he=>?_⟩
 ·have:¬ l=l':=fun e=>by subst e; simp at hne
  simp [this]
 have he:l.length=l'.length:=by
  have h2:(l.length:Int)=(l'.length:Int):=by simpa using he
  omega
 refine Lp.mk (SamIJ l l' (.slice a l.length cap) (.slice a' l'.length cap') h nx) l.length ⟨0,rfl,by omega,rfl,rfl,rfl,rfl⟩ ?_
 rintro m _ _ _ ⟨i,rfl,hi,rfl,rfl,rfl,ht⟩
 rw [sameib0]
 unfold zOr
 simp (disch:=omega) only [SS,seval]
 refine ⟨fun hlt=>?_,fun hge=>?_⟩
 ·obtain ⟨x,hx⟩:=za hlt
  obtain ⟨y,hy⟩:=za (l:=l') (i:=i) (by omega)
  obtain ⟨_,b,sp,ro,c1,hb,e1,hg⟩:=hv.at hx
  obtain ⟨_,b',sp',ro',c1',hb',e1',hg'⟩:=hv'.at hy
  cases e1; cases e1'
  rw [zY] at hg hg'
  simp (disch:=omega) only [SS,hg,hg',zR hx,zR hy,seval]
  refine ⟨fun hne=>?_,fun he2=>?_⟩
  ·have:¬ l=l':=fun e=>by subst e; rw [hx] at hy; cases hy; simp at hne
   simp [this]
  ·have hxy:x=y:=by simpa using he2
   subst hxy
   refine ⟨l.length-(i+1),by omega,i+1,rfl,by omega,by rw [zAK (by omega)],rfl,rfl,?_⟩
   rw [List.take_add_one,List.take_add_one,hx,hy,ht]
 ·have:i=l.length:=by omega
  subst this
  rw [List.take_length,he,List.take_length] at ht
  simp [ht]
theorem samev_c {s:Bool} {h:Hp} {nx:Nat} {v v':Value} {l l':List Int} (hv:SlRd h nx v encI l) (hv':SlRd h nx v' encI l') (hl:l.length<1000000) :
  Cv Q O s 23 [v,v'] h nx (fun r h' nx'=>r = .bool (decide (l=l'))∧h'=h∧nx'=nx):=by
 refine samevv ?_
 obtain ⟨a,cap,rfl,hc⟩:=id hv
 obtain ⟨a',cap',rfl,hc'⟩:=id hv'
 unfold samev
 simp (disch:=omega) only [SS,seval]
 refine ⟨fun hne=>?_,fun he=>?_⟩
 ·have:¬ l=l':=fun e=>by subst e; simp at hne
  simp [this]
 have he:l.length=l'.length:=by
  have h2:(l.length:Int)=(l'.length:Int):=by simpa using he
  omega
 refine Lp.mk (SamIJ l l' (.slice a l.length cap) (.slice a' l'.length cap') h nx) l.length ⟨0,rfl,by omega,rfl,rfl,rfl,rfl⟩ ?_
 rintro m _ _ _ ⟨i,rfl,hi,rfl,rfl,rfl,ht⟩
 rw [samevb0]
 unfold zOq
 simp (disch:=omega) only [SS,seval]
 refine ⟨fun hlt=>?_,fun hge=>?_⟩
 ·obtain ⟨x,hx⟩:=za hlt
  obtain ⟨y,hy⟩:=za (l:=l') (i:=i) (by omega)
  obtain ⟨_,b,sp,ro,c1,hb,e1,hg⟩:=hv.at hx
  obtain ⟨_,b',sp',ro',c1',hb',e1',hg'⟩:=hv'.at hy
  cases e1; cases e1'
  rw [zY] at hg hg'
  simp (disch:=omega) only [SS,hg,hg',zR hx,zR hy,seval]
  refine ⟨fun hne=>?_,fun he2=>?_⟩
  ·have:¬ l=l':=fun e=>by subst e; rw [hx] at hy; cases hy; simp at hne
   simp [this]
  ·have hxy:x=y:=by simpa using he2
   subst hxy
   refine ⟨l.length-(i+1),by omega,i+1,rfl,by omega,by rw [zAK (by omega)],rfl,rfl,?_⟩
   rw [List.take_add_one,List.take_add_one,hx,hy,ht]
 ·have:i=l.length:=by omega
  subst this
  rw [List.take_length,he,List.take_length] at ht
  simp [ht]
theorem appA_0 {h:Hp} {nx b b2 n c2:Nat} {sp2:Option Nat} {ro rd:Bool} {l:List Int} {cs:List Value} (hn:l.length=n) (hd:hget h b=some (.cells cs rd)) (hb:hget h b2=some (.cells (ints l) ro)) (h0:0<n) (h1:n<1000000) :
  zh 1 h nx (.slice (some ⟨b,0,none⟩) 0 0) (.slice (some ⟨b2,0,sp2⟩) n c2) = .ok (.val (.slice (some ⟨nx,0,some 1⟩) n n) (hset h nx (.cells (ints l) false)) (nx+1)):=by
 subst hn
 have hr:zIM h (some ⟨b2,0,sp2⟩) (l.length.mul 1) (fun new=>zCl 1 h nx (some ⟨b,0,none⟩) 0 0 l.length new)=zCl 1 h nx (some ⟨b,0,none⟩) 0 0 l.length (ints l):=by
  rw [show l.length.mul 1=l.length from Nat.mul_one _,zB9 hb h0 (by rw [zAf]; omega)]
  rw [List.drop_zero,List.take_of_length_le (by rw [zAf]; omega)]
 show zIM h (some ⟨b2,0,sp2⟩) (l.length.mul 1) (fun new=>zCl 1 h nx (some ⟨b,0,none⟩) 0 0 l.length new)=_
 rw [hr]
 unfold zCl
 rw [show Nat.ble (Nat.add 0 l.length) 0=false by
  cases hb:Nat.ble (Nat.add 0 l.length) 0 with
  | false=>rfl
  | true=>have:=Nat.le_of_ble_eq_true hb; have:0+l.length≤0:=this; omega]
 rw [show (Nat.ble (Nat.mul (Nat.add 0 l.length) 1) 1000000&&Nat.ble (Nat.add 0 l.length) 1000000)=true by
  simp only [Bool.and_eq_true,Nat.ble_eq]
  exact ⟨by show (0+l.length)*1≤_; omega,by show 0+l.length≤_; omega⟩]
 show zEA h nx 1 (some ⟨b,0,none⟩) 0 0 (0+l.length) (ints l)=_
 unfold zEA
 simp only [zA hd]
 rw [show lcut (Nat.mul 0 1) (zCT cs 0)=some [] by rw [Nat.mul_eq,Nat.zero_mul]; rfl]
 show zFA h nx 1 (lapp [] (ints l)) (0+l.length)=_
 rw [zAA,List.nil_append,Nat.zero_add]
 exact zBd (by omega)
theorem bin_snil {P:Program} {t:TypeId} (ht:zB0 P t=true) (a:Option Addr) (n c:Nat):bin P .eql t (.slice a n c) (.slice none 0 0) = .ok (.bool a.isNone):=by
 show R.of "compared" (eqlV P t (.slice a n c) (.slice none 0 0)) _=_
 unfold eqlV
 cases a <;> simp [ht,eqlS,zBp]
theorem ty27:zB0 Tryz.prog 27=true:=by kernel_rfl
def RevJ (l:List Int) (b:Nat) (sp:Option Nat) (h:Hp) (nx:Nat) (t:Nat) (vs:List Value) (h':Hp) (nx':Nat):Prop :=
 ∃ (i j:Nat) (m:List Int),t=l.length-i∧i+j+1=l.length∧vs=[.slice (some ⟨b,0,sp⟩) l.length l.length,.int .i64 (i:Int),.int .i64 (j:Int)]∧i≤j+1∧m.length=l.length ∧
  hget h' b=some (.cells (ints m) false)∧(∀ c,c≠b→hget h' c=hget h c)∧nx'=nx∧∀ k,k<l.length→m[k]? = if k<i∨j<k then l[l.length-1-k]? else l[k]?
theorem rev_c {s:Bool} {h:Hp} {nx b:Nat} {sp:Option Nat} {l:List Int} (hb:hget h b=some (.cells (ints l) false)) (h0:0<l.length) (hl:l.length<1000000) :
  Cv Q O s 53 [.slice (some ⟨b,0,sp⟩) l.length l.length] h nx (fun r h' nx'=>hget h' b=some (.cells (ints l.reverse) false)∧(∀ c,c≠b→hget h' c=hget h c)∧nx'=nx):=by
 refine revv ?_
 unfold rev
 have e0:IntKind.wrap .i64 ((l.length:Int)-1)=((l.length-1:Nat):Int):=by rw [zAZ (by omega) (by omega)]; omega
 simp (disch:=omega) only [SS,e0,seval]
 refine Lp.mk (RevJ l b sp h nx) l.length ⟨0,l.length-1,l,rfl,by omega,rfl,by omega,rfl,hb,fun c _=>rfl,rfl,fun k hk=>by rw [if_neg (by omega)]⟩ ?_
 rintro t _ h' _ ⟨i,j,m,rfl,hij,rfl,hle,hm,hg,hk,rfl,hp⟩
 rw [revb0]
 unfold revl0
 simp (disch:=omega) only [SS,seval]
 refine ⟨fun hlt=>?_,fun hge=>?_⟩
 ·obtain ⟨x,hx⟩:=za (l:=m) (i:=i) (by omega)
  obtain ⟨y,hy⟩:=za (l:=m) (i:=j) (by omega)
  have ei:IntKind.wrap .i64 ((i:Int)+1)=((i+1:Nat):Int):=zAK (by omega)
  have ej:IntKind.wrap .i64 ((j:Int)-1)=((j-1:Nat):Int):=by rw [zAZ (by omega) (by omega)]; omega
  simp (disch:=omega) only [SS,hg,zR hx,zR hy,ei,ej,List.length_set,seval]
  refine ⟨by omega,by omega,l.length-(i+1),by omega,i+1,j-1,_,rfl,by omega,rfl,by omega,?_,hnew _ _ _,fun c hc=>?_,rfl,fun k hk'=>?_⟩
  ·simp [hm]
  ·rw [hold hc,hold hc]; exact hk c hc
  ·have hx':=hp i (by omega)
   have hy':=hp j (by omega)
   rw [if_neg (by omega),hx] at hx'
   rw [if_neg (by omega),hy] at hy'
   rw [List.getElem?_set,List.getElem?_set]
   simp only [List.length_set]
   by_cases e1:j=k
   ·subst e1
    rw [if_pos rfl,if_pos (by omega),if_pos (by omega),show l.length-1-j=i by omega,← hx']
   ·rw [if_neg e1]
    by_cases e2:i=k
    ·subst e2
     rw [if_pos rfl,if_pos (by omega),if_pos (by omega),show l.length-1-i=j by omega,← hy']
    ·rw [if_neg e2,hp k hk']
     by_cases e3:k<i∨j<k
     ·rw [if_pos e3,if_pos (by omega)]
     ·rw [if_neg e3,if_neg (by omega)]
 ·have:m=l.reverse:=by
   apply List.ext_getElem?
   intro k
   by_cases hk':k<l.length
   ·rw [hp k hk',List.getElem?_reverse hk']
    by_cases e3:k<i∨j<k
    ·rw [if_pos e3]
    ·rw [if_neg e3]
     congr 1
     omega
   ·rw [List.getElem?_eq_none (by omega),List.getElem?_eq_none (by simp; omega)]
  subst this
  exact ⟨hg,hk⟩
def Ob (h:Hp) (v:Value) (l:List Int) (b:Nat):Prop:=∃ sp,(sp=none∨sp=some 1)∧v = .slice (some ⟨b,0,sp⟩) l.length l.length∧hget h b=some (.cells (ints l) false)
theorem Ob.gr {h:Hp} {v:Value} {l:List Int} {b:Nat} (o:Ob h v l b):Gr h encI 1 v l (some b):=by
 obtain ⟨sp,rfl | rfl,rfl,hb⟩:=o
 ·exact .part (enc:=encI) (k:=1) hb (by rw [zAf]; omega) (by rw [List.drop_zero,Nat.mul_one,List.take_of_length_le (by rw [zAf]; omega),zY])
 ·exact .own (enc:=encI) (k:=1) (by rw [zY]; exact hb)
def WayJ (l p:List Int) (vl vp:Value) (L0 to:Nat) (nx:Nat) (h:Hp) (m:Nat) (vs:List Value) (h':Hp) (nx':Nat):Prop :=
 ∃ (pre:List Int) (k b:Nat) (o:Value),vs=[vl,vp,.slice none 0 0,.int .i64 ((min l.length p.length:Nat):Int),o,.int .i64 (k:Int)]∧Ob h' o (pre++[(k:Int)]) b∧nx≤b∧b<nx'∧Keep nx h h'∧k<min l.length p.length ∧
  l[k]? = some (m:Int)∧pre.length+m=L0∧wg l p L0 (to:Int)=(wg l p m (k:Int)).map (pre++·)
def WayK (l p:List Int) (t:Int) (nx:Nat) (h:Hp):KC':=fun r h' nx'=>SlRd h' nx' r encI (wayR l p t)∧Keep nx h h'∧nx≤nx'
theorem zHZ (h:Hp) (nx:Nat):SlRd h nx (.slice none 0 0) encI ([]:List Int):=⟨none,0,rfl,fun h=>absurd rfl h⟩
theorem minN {a b:Nat}:min (a:Int) (b:Int)=((min a b:Nat):Int):=by omega
theorem way_c {s:Bool} {h:Hp} {nx:Nat} {vl vp:Value} {l p:List Int} {t:Int} (hl:SlRd h nx vl encI l) (hp:SlRd h nx vp encI p) (hl6:l.length≤60) :
  Cv Q O s 37 [vl,vp,.int .i64 t] h nx (WayK l p t nx h):=by
 refine wayv ?_
 obtain ⟨a,cap,rfl,hc⟩:=id hl
 obtain ⟨a',cap',rfl,hc'⟩:=id hp
 unfold way
 have no:wayR l p t=[]→zIp s (WayK l p t nx h) (.slice a l.length cap) (.slice a' p.length cap') (.int .i64 t) (.int .i64 ((min l.length p.length:Nat):Int)) (.bool true) h nx:=fun e=>by
  unfold zIp
  simp (disch:=omega) only [SS,seval]
  exact ⟨by rw [e]; exact zHZ _ _,Keep.refl _ _,Nat.le_refl _⟩
 have go:∀ (k x:Nat),t=(k:Int)→k<min l.length p.length→l[k]? = some (x:Int)→x<min l.length p.length→zIp s (WayK l p t nx h) (.slice a l.length cap) (.slice a' p.length cap') (.int .i64 t) (.int .i64 ((min l.length p.length:Nat):Int)) (.bool false) h nx:=by
  rintro k0 x0 rfl hk0 hx0 hxn
  have hR:wayR l p (k0:Int)=((wg l p x0 (k0:Int)).getD []).reverse:=by
   unfold wayR
   rw [Int.toNat_natCast,hx0]
   simp
  unfold zIp
  simp (disch:=omega) only [SS,seval]
  refine Lp.mk (WayJ l p (.slice a l.length cap) (.slice a' p.length cap') x0 k0 nx h) x0 ⟨[],k0,nx,_,rfl,⟨none,.inl rfl,rfl,hnew _ _ _⟩,Nat.le_refl _,Nat.lt_succ_self _,(Keep.refl _ _).set (Nat.le_refl _),hk0,hx0,by simp,by cases wg l p x0 (k0:Int) <;> simp⟩ ?_
  rintro m _ h' nx' ⟨pre,k,b,o,rfl,ho,hb,hb',hk,hkn,hx,hpm,hw⟩
  obtain ⟨sp,hsp,rfl,hob⟩:=id ho
  obtain ⟨_,bl,spl,rol,c1,hbl,e1,hgl⟩:=hl.at hx
  obtain ⟨y,hy⟩:=za (l:=p) (i:=k) (by omega)
  obtain ⟨_,bp,spp,rop,c2,hbp,e2,hgp⟩:=hp.at hy
  cases e1; cases e2
  rw [zY] at hgl hgp
  have hgl:=(hk bl hbl).trans hgl
  have hgp:=(hk bp hbp).trans hgp
  rw [wayb0]
  unfold wayl0
  simp (disch:=omega) only [SS,hgl,hgp,zR hx,zR hy,seval]
  have stop:wg l p m (k:Int)=none→SlRd h' nx' (.slice none 0 0) encI (wayR l p (k0:Int)):=fun e=>by
   rw [hR,hw,e]; exact zHZ _ _
  have hkl:k<l.length:=by omega
  refine ⟨fun h1=>⟨fun h2=>?_,fun h2=>⟨fun h3=>?_,fun h3=>?_⟩⟩,fun h1=>?_⟩
  ·refine ⟨stop ?_,hk,by omega⟩
   obtain ⟨m',rfl⟩:∃ m',m=m'+1:=⟨m-1,by omega⟩
   rw [wg_s hkl hy hx,zFS (by unfold inn; omega)]; rfl
  ·refine ⟨stop ?_,hk,by omega⟩
   obtain ⟨m',rfl⟩:∃ m',m=m'+1:=⟨m-1,by omega⟩
   rw [wg_s hkl hy hx,zFS (by unfold inn; omega)]; rfl
  ·obtain ⟨m',rfl⟩:∃ m',m=m'+1:=⟨m-1,by omega⟩
   obtain ⟨u,rfl⟩:∃ u:Nat,y=(u:Int):=⟨y.toNat,by omega⟩
   obtain ⟨z,hz⟩:=za (l:=l) (i:=u) (by omega)
   have ew:IntKind.wrap .i64 (((m'+1:Nat):Int)-1)=(m':Int):=by rw [zAZ (by omega) (by omega)]; omega
   rw [ew]
   have hul:u<l.length:=by omega
   simp (disch:=omega) only [SS,hgl,zR hz,seval]
   refine ⟨fun h4=>?_,fun h4=>?_⟩
   ·refine ⟨stop ?_,hk,by omega⟩
    rw [wg_s hkl hy hx,wg_at (by rw [Int.toNat_natCast,hz]; simp at h4; simpa using h4)]; rfl
   ·have hzm:z=(m':Int):=by simpa using h4
    subst hzm
    refine EK_appI (ho.gr.keep (fun c hc=>by cases hc; exact hold (by omega))) (hnew _ _ _) (by simp; omega) (fun h2 e1 e2=>?_)
    refine ⟨m',by omega,pre++[(k:Int)],u,nx'+1,_,rfl,⟨some 1,.inr rfl,by simp,e1⟩,by omega,by omega,fun c hc=>?_,by omega,hz,by simp; omega,?_⟩
    ·rw [e2 c (by omega) (fun e=>by cases e; omega),hold (by omega)]; exact hk c hc
    ·rw [hw,wg_s hkl hy hx]
     cases wg l p m' (u:Int) <;> simp
  ·have hm0:m=0:=by omega
   subst hm0
   refine (rev_c hob (by simp) (by simp; omega)).mono ?_
   rintro r h3 nx3 ⟨g1,g2,rfl⟩
   refine ⟨?_,fun c hc=>(g2 c (by omega)).trans (hk c hc),by omega⟩
   rw [hR,hw,wg_0 hkl (by omega) hx]
   exact ⟨some ⟨b,0,sp⟩,(pre++[(k:Int)]).length,by simp,fun _=>⟨b,sp,false,hb',rfl,by rw [zY]; exact g1⟩⟩
 simp (disch:=omega) only [SS,minN,seval]
 refine ⟨fun h1=>no ?_,fun h1=>⟨fun h2=>no ?_,fun h2=>?_⟩⟩
 ·unfold wayR
  split
  ·rw [if_neg (by omega)]
  ·rfl
 ·unfold wayR
  split
  ·split
   ·rw [zFS (by unfold inn; omega)]; rfl
   ·rfl
  ·rfl
 ·obtain ⟨k,rfl⟩:∃ k:Nat,t=(k:Int):=⟨t.toNat,by omega⟩
  obtain ⟨x,hx⟩:=za (l:=l) (i:=k) (by omega)
  obtain ⟨_,bl,spl,rol,c1,hbl,e1,hgl⟩:=hl.at hx
  cases e1
  rw [zY] at hgl
  have hkl:k<l.length:=by omega
  simp (disch:=omega) only [SS,hgl,zR hx,seval]
  refine ⟨fun h3=>no ?_,fun h3=>?_⟩
  ·unfold wayR
   rw [Int.toNat_natCast,hx]
   simp only
   rw [if_neg (by omega)]
  ·by_cases h4:x<((min l.length p.length:Nat):Int)
   ·rw [decide_eq_true h4,Bool.not_true]
    exact go k x.toNat rfl (by omega) (by rw [hx]; congr 1; omega) (by omega)
   ·rw [decide_eq_false h4,Bool.not_false]
    refine no ?_
    unfold wayR
    rw [Int.toNat_natCast,hx]
    simp only
    rw [if_pos ⟨by omega,by omega⟩]
    cases hw:wg l p x.toNat (k:Int) with
    | none=>rfl
    | some r=>have:=wg_le hw; omega
def okI (n:Int):Prop:=-9223372036854775808≤n∧n≤9223372036854775807
theorem appA_1 {h:Hp} {nx b:Nat} {v:Value} {x:Int} {l:List Int} {ro:Bool} (hv:SlRd h nx v encI l) (hb:hget h b=some (.cells [.int .i64 x] ro)) (hbn:b<nx) (h1:l.length<999999) {K:Value→Hp→Nat→Prop}
  (hK:∀ r h' nx',SlRd h' nx' r encI (x::l)→Keep nx h h'→nx≤nx'→K r h' nx'):EK (orR (zh 1 h nx (.slice (some ⟨b,0,none⟩) 1 1) v)) K:=by
 obtain ⟨a,cap,rfl,hc⟩:=hv
 rcases Classical.em (l=[]) with e | e
 ·subst e
  exact hK _ _ _ ⟨some ⟨b,0,none⟩,1,rfl,fun _=>⟨b,none,ro,hbn,rfl,by rw [zY]; exact hb⟩⟩ (Keep.refl _ _) (Nat.le_refl _)
 ·obtain ⟨b2,sp2,ro2,hb2,rfl,hg⟩:=hc e
  have h0:0<l.length:=List.length_pos_iff.2 e
  rw [zY] at hg
  have hr:zIM h (some ⟨b2,0,sp2⟩) (l.length.mul 1) (fun new=>zCl 1 h nx (some ⟨b,0,none⟩) 1 1 l.length new)=zCl 1 h nx (some ⟨b,0,none⟩) 1 1 l.length (ints l):=by
   rw [show l.length.mul 1=l.length from Nat.mul_one _,zB9 hg h0 (by rw [zAf]; omega)]
   rw [List.drop_zero,List.take_of_length_le (by rw [zAf]; omega)]
  have e2:zh 1 h nx (.slice (some ⟨b,0,none⟩) 1 1) (.slice (some ⟨b2,0,sp2⟩) l.length cap) = .ok (.val (.slice (some ⟨nx,0,some 1⟩) (1+l.length) (1+l.length)) (hset h nx (.cells (ints (x::l)) false)) (nx+1)):=by
   show zIM h (some ⟨b2,0,sp2⟩) (l.length.mul 1) (fun new=>zCl 1 h nx (some ⟨b,0,none⟩) 1 1 l.length new)=_
   rw [hr]
   unfold zCl
   rw [show Nat.ble (Nat.add 1 l.length) 1=false by
    cases hb:Nat.ble (Nat.add 1 l.length) 1 with
    | false=>rfl
    | true=>have:=Nat.le_of_ble_eq_true hb; have:1+l.length≤1:=this; omega]
   rw [show (Nat.ble (Nat.mul (Nat.add 1 l.length) 1) 1000000&&Nat.ble (Nat.add 1 l.length) 1000000)=true by
    simp only [Bool.and_eq_true,Nat.ble_eq]
    exact ⟨by show (1+l.length)*1≤_; omega,by show 1+l.length≤_; omega⟩]
   show zEA h nx 1 (some ⟨b,0,none⟩) 1 1 (1+l.length) (ints l)=_
   unfold zEA
   simp only [zA hb]
   show zFA h nx 1 (lapp [.int .i64 x] (ints l)) (1+l.length)=_
   rw [zAA]
   exact zBd (by omega)
  rw [e2]
  exact hK _ _ _ ⟨some ⟨nx,0,some 1⟩,1+l.length,by rw [List.length_cons,Nat.add_comm],fun _=>⟨nx,some 1,false,by omega,rfl,by rw [zY]; exact hnew _ _ _⟩⟩ ((Keep.refl _ _).set (Nat.le_refl _)) (by omega)
def RwayJ (l p:List Int) (vl vp:Value) (L0:Nat) (to:Int) (nx:Nat) (h:Hp) (m:Nat) (vs:List Value) (h':Hp) (nx':Nat):Prop :=
 ∃ (pre:List Int) (k:Int) (w:Nat) (o:Value),m=61-pre.length∧vs=[vl,vp,.slice none 0 0,o,.int .i64 k,.int .i64 (w:Int)]∧w<9223372036854775808∧SlRd h' nx' o encI pre.reverse∧Keep nx h h'∧nx≤nx' ∧
  wg l p L0 to=(wg l p w k).map (pre++·)∧pre.Nodup∧∀ x∈pre,inn l p x∧∃ y:Nat,w<y∧l[x.toNat]? = some (y:Int)
theorem rway_c {s:Bool} {h:Hp} {nx:Nat} {vl vp:Value} {l p:List Int} {t:Int} (hl:SlRd h nx vl encI l) (hp:SlRd h nx vp encI p) (hl6:l.length≤60) (hok:∀ x∈l,okI x) :
  Cv Q O s 39 [vl,vp,.int .i64 t] h nx (WayK l p t nx h):=by
 refine rwayv ?_
 obtain ⟨a,cap,rfl,hc⟩:=id hl
 obtain ⟨a',cap',rfl,hc'⟩:=id hp
 unfold rway
 have no:wayR l p t=[]→zGL s (WayK l p t nx h) (.slice a l.length cap) (.slice a' p.length cap') (.int .i64 t) (.bool true) h nx:=fun e=>by
  unfold zGL
  simp (disch:=omega) only [SS,seval]
  exact ⟨by rw [e]; exact zHZ _ _,Keep.refl _ _,Nat.le_refl _⟩
 have go:∀ (k x:Nat),t=(k:Int)→k<l.length→l[k]? = some (x:Int)→zGL s (WayK l p t nx h) (.slice a l.length cap) (.slice a' p.length cap') (.int .i64 t) (.bool false) h nx:=by
  rintro k0 x0 rfl hk0 hx0
  have hR:wayR l p (k0:Int)=((wg l p x0 (k0:Int)).getD []).reverse:=by
   unfold wayR
   rw [Int.toNat_natCast,hx0]
   simp
  unfold zGL
  obtain ⟨_,bl,spl,rol,c1,hbl,e1,hgl⟩:=hl.at hx0
  cases e1
  rw [zY] at hgl
  have hx6:=(hok _ (List.mem_of_getElem? hx0)).2
  simp (disch:=omega) only [SS,hgl,zR hx0,seval]
  refine Lp.mk (RwayJ l p (.slice (some ⟨bl,0,spl⟩) l.length cap) (.slice a' p.length cap') x0 (k0:Int) nx h) 61 ⟨[],k0,x0,_,by simp,rfl,by omega,zHZ _ _,Keep.refl _ _,Nat.le_refl _,by cases wg l p x0 (k0:Int) <;> simp,by simp,by simp⟩ ?_
  rintro _ _ h' nx' ⟨pre,k,w,o,rfl,rfl,hw9,ho,hk,hle,hw,hnd,hpr⟩
  have hpl:=zMP (n:=l.length) hnd (fun x hx=>by have:=(hpr x hx).1; unfold inn at this; omega)
  have hgl:=(hk bl hbl).trans hgl
  rw [rwayb0]
  unfold rwayl0
  simp (disch:=omega) only [SS,hgl,seval]
  have stop:∀ h2 nx2,wg l p w k=none→Keep nx h h2→nx≤nx2→WayK l p (k0:Int) nx h (.slice none 0 0) h2 nx2:=fun h2 nx2 e hk2 hle2=>⟨by rw [hR,hw,e]; exact zHZ _ _,hk2,hle2⟩
  refine ⟨fun h1=>stop _ _ (zFS (by unfold inn; omega)) hk hle,fun h1=>⟨fun h2=>stop _ _ (zFS (by unfold inn; omega)) hk hle,fun h2=>⟨fun h3=>stop _ _ (zFS (by unfold inn; omega)) hk hle,fun h3=>?_⟩⟩⟩
  obtain ⟨u,rfl⟩:∃ u:Nat,k=(u:Int):=⟨k.toNat,by omega⟩
  have hul:u<l.length:=by omega
  obtain ⟨z,hz⟩:=za (l:=l) (i:=u) hul
  obtain ⟨y,hy⟩:=za (l:=p) (i:=u) (by omega)
  obtain ⟨_,bp,spp,rop,c2,hbp,e2,hgp⟩:=hp.at hy
  cases e2
  rw [zY] at hgp
  have hgp:=(hk bp hbp).trans hgp
  simp (disch:=omega) only [SS,hgl,zR hz,seval]
  refine ⟨fun h4=>stop _ _ (wg_at (by rw [Int.toNat_natCast,hz]; simp at h4; simpa using h4)) hk hle,fun h4=>?_⟩
  have hzw:z=(w:Int):=by simpa using h4
  subst hzw
  refine appA_1 (ho.keep ((Keep.refl nx' h').set (Nat.le_refl _)) (Nat.le_succ _)) (hnew _ _ _) (Nat.lt_succ_self _) (by simp; omega) (fun r h2 nx2 hr hk2 hle2=>?_)
  have K2:Keep nx h h2:=(hk.set hle).trans hk2 (by omega)
  have hgl2:=(hk2 bl (by omega)).trans ((hold (show bl≠nx' by omega)).trans hgl)
  have hgp2:=(hk2 bp (by omega)).trans ((hold (show bp≠nx' by omega)).trans hgp)
  simp (disch:=omega) only [SS,hgp2,zR hy,seval]
  refine ⟨fun h5=>?_,fun h5=>?_⟩
  ·have hw0:w=0:=by simpa using h5
   subst hw0
   refine ⟨?_,K2,by omega⟩
   rw [hR,hw,wg_0 hul (by omega) hz]
   simpa using hr
  ·have hw0:w≠0:=by simpa using h5
   obtain ⟨w',rfl⟩:∃ w',w=w'+1:=⟨w-1,by omega⟩
   have e3:=wg_s (p:=p) hul hy hz
   refine ⟨fun h6=>stop _ _ (by rw [e3,zFS (by unfold inn; omega)]; rfl) K2 (by omega),fun h6=>⟨fun h7=>stop _ _ (by rw [e3,zFS (by unfold inn; omega)]; rfl) K2 (by omega),fun h7=>?_⟩⟩
   have ew:IntKind.wrap .i64 (((w'+1:Nat):Int)-1)=(w':Int):=by rw [zAZ (by omega) (by omega)]; omega
   rw [ew]
   have hnu:(u:Int) ∉ pre:=fun hm=>by
    obtain ⟨_,y',hy',e⟩:=hpr _ hm
    rw [Int.toNat_natCast,hz] at e
    have:((w'+1:Nat):Int)=(y':Int):=by simpa using e
    omega
   refine ⟨61-(pre.length+1),by omega,pre++[(u:Int)],y,w',r,by simp,rfl,by omega,by simpa using hr,K2,by omega,?_,?_,fun x hx=>?_⟩
   ·rw [hw,e3]
    cases wg l p w' y <;> simp
   ·exact List.nodup_append.2 ⟨hnd,by simp,fun a ha b hb=>by rw [List.mem_singleton.1 hb]; exact fun e=>hnu (e ▸ ha)⟩
   ·rcases List.mem_append.1 hx with hx | hx
    ·obtain ⟨h8,y',h9,e⟩:=hpr x hx
     exact ⟨h8,y',by omega,e⟩
    ·rw [List.mem_singleton.1 hx]
     exact ⟨⟨by omega,by omega,by omega⟩,w'+1,by omega,by rw [Int.toNat_natCast]; exact hz⟩
 simp (disch:=omega) only [SS,seval]
 refine ⟨fun h1=>no ?_,fun h1=>⟨fun h2=>no ?_,fun h2=>?_⟩⟩
 ·unfold wayR
  split
  ·rw [if_neg (by omega)]
  ·rfl
 ·unfold wayR
  rw [List.getElem?_eq_none (by omega)]
 ·obtain ⟨k,rfl⟩:∃ k:Nat,t=(k:Int):=⟨t.toNat,by omega⟩
  obtain ⟨x,hx⟩:=za (l:=l) (i:=k) (by omega)
  obtain ⟨_,bl,spl,rol,c1,hbl,e1,hgl⟩:=hl.at hx
  cases e1
  rw [zY] at hgl
  have hkl:k<l.length:=by omega
  simp (disch:=omega) only [SS,hgl,zR hx,seval]
  by_cases h4:x<0
  ·rw [decide_eq_true h4]
   refine no ?_
   unfold wayR
   rw [Int.toNat_natCast,hx]
   simp only
   rw [if_neg (by omega)]
  ·rw [decide_eq_false h4]
   exact go k x.toNat rfl (by omega) (by rw [hx]; congr 1; omega)
theorem m_len:zAy Tryz.prog 82 "Len" = some (44,false):=by kernel_rfl
theorem zQB:zAy Tryz.prog 82 "Less" = some (385,false):=by kernel_rfl
theorem zQA:zAy Tryz.prog 82 "Swap" = some (388,false):=by kernel_rfl
theorem m_push:zAy Tryz.prog 82 "Push" = some (387,true):=by kernel_rfl
theorem m_pop:zAy Tryz.prog 82 "Pop" = some (386,true):=by kernel_rfl
theorem u82:Tryz.prog.underlying 82=some (.pointer 86):=by kernel_rfl
theorem a86:zFd Tryz.prog 86=some none:=by kernel_rfl
theorem conc84:zBS Tryz.prog 84=true:=by kernel_rfl
section
variable {h:Hp} {nx bc:Nat} {v:Value} {l:List Value}
theorem zJU {m:String} {f:FuncId} (hm:zAy Tryz.prog 82 m=some (f,false)) (hb:hget h bc=some (.cells [v] false)):zAQ Q h nx l m (.iface 82 (.pointer (some ⟨bc,0,none⟩))) = .call f (v::l) h nx:=by
 show orO "invoke - method" (zAy Tryz.prog 82 m) (fun fp=>orB (zIL Tryz.prog h 82 fp.2 (.pointer (some ⟨bc,0,none⟩))) (fun y=>.call fp.1 (y::l) h nx))=_
 rw [hm]
 show orB (zIL Tryz.prog h 82 false (.pointer (some ⟨bc,0,none⟩))) _=_
 unfold zIL
 rw [u82]
 show orB (zEx Tryz.prog h 86 ⟨bc,0,none⟩) _=_
 unfold zEx
 rw [a86]
 show orB (cellsOf h bc _) _=_
 rw [zA hb]
 rfl
theorem inv_p {m:String} {f:FuncId} (hm:zAy Tryz.prog 82 m=some (f,true)):zAQ Q h nx l m (.iface 82 (.pointer (some ⟨bc,0,none⟩))) = .call f (.pointer (some ⟨bc,0,none⟩)::l) h nx:=by
 show orO "invoke - method" (zAy Tryz.prog 82 m) (fun fp=>orB (zIL Tryz.prog h 82 fp.2 (.pointer (some ⟨bc,0,none⟩))) (fun y=>.call fp.1 (y::l) h nx))=_
 rw [hm]
 show orB (zIL Tryz.prog h 82 true (.pointer (some ⟨bc,0,none⟩))) (fun y=>.call f (y::l) h nx)=_
 unfold zIL
 rw [u82]
 rfl
end
theorem wt_wr {h:Hp} {b i:Nat} {W:List Stop} {cs:List Value} {v:Nat} {d:Int} (hi:i<W.length):wrO (some (.cells (flat encW W++cs) false)) h b (i*2) [.int .i64 (v:Int),.int .i64 d] = .ok (hset h b (.cells (flat encW (W.set i (v,d))++cs) false)):=by
 have hl:=zAG (enc:=encW) zBL (l:=W)
 show R.of _ (lput [.int .i64 (v:Int),.int .i64 d] (flat encW W++cs) (i*2)) _=_
 rw [zIT (by rw [List.length_append,hl]; simp; omega)]
 have:=zM5 (enc:=encW) zBL cs (v,d) W i hi
 rw [← this]
 rfl
theorem slen_c {s:Bool} {h:Hp} {nx n cap:Nat} {a:Option Addr}:Cv Q O s 44 [.slice a n cap] h nx (fun r h' nx'=>r = .int .i64 (n:Int)∧h'=h∧nx'=nx):=by
 refine slenv ?_
 unfold slen
 simp (disch:=omega) only [SS,seval]
theorem zKN {s:Bool} {h:Hp} {nx b cap n:Nat} {sp:Option Nat} {W:List Stop} {cs:List Value} {i k:Nat} {x y:Stop} (hb:hget h b=some (.cells (flat encW W++cs) false)) (hn:W.length=n) (hi:W[i]? = some x) (hk:W[k]? = some y) :
  Cv Q O s 385 [.slice (some ⟨b,0,sp⟩) n cap,.int .i64 (i:Int),.int .i64 (k:Int)] h nx (fun r h' nx'=>r = .bool (decide (x.2<y.2))∧h'=h∧nx'=nx):=by
 refine slessv ?_
 unfold sless
 have i1:=(List.getElem?_eq_some_iff.1 hi).1
 have k1:=(List.getElem?_eq_some_iff.1 hk).1
 rw [hn] at i1 k1
 simp (disch:=omega) only [SS,hb,(wt_c hi).2,(wt_c hk).2,seval]
theorem zKK {s:Bool} {h:Hp} {nx b cap n:Nat} {sp:Option Nat} {W:List Stop} {cs:List Value} {i k:Nat} {x y:Stop} (hb:hget h b=some (.cells (flat encW W++cs) false)) (hn:W.length=n) (hi:W[i]? = some x) (hk:W[k]? = some y) :
  Cv Q O s 388 [.slice (some ⟨b,0,sp⟩) n cap,.int .i64 (i:Int),.int .i64 (k:Int)] h nx (fun r h' nx'=>r = .tuple ⟨[]⟩∧hget h' b=some (.cells (flat encW (sw W i k x y)++cs) false)∧(∀ c,c≠b→hget h' c=hget h c)∧nx'=nx):=by
 refine sswapv ?_
 unfold sswap
 have i1:=(List.getElem?_eq_some_iff.1 hi).1
 have k1:=(List.getElem?_eq_some_iff.1 hk).1
 simp (disch:=omega) only [SS,hb,wt_rd hi,wt_rd hk,seval]
 rw [wt_wr i1,zW]
 rw [hnew,wt_wr (by rw [List.length_set]; exact k1),zW]
 exact ⟨hnew _ _ _,fun c hc=>by rw [hold hc,hold hc]⟩
abbrev ifcW (bc:Nat):Value:=.iface 82 (.pointer (some ⟨bc,0,none⟩))
theorem wt_to {h h':Hp} {bc b:Nat} {sp:Option Nat} {cap:Nat} {W W':List Stop} {cs:List Value} (w:WtAt h bc b sp cap W cs) (hb:hget h' b=some (.cells (flat encW W'++cs) false)) (hl:W'.length=W.length) (hf:∀ c,c≠b→hget h' c=hget h c):WtAt h' bc b sp cap W' cs :=
 ⟨by rw [hf bc (fun e=>w.ne e.symm),hl]; exact w.cell,hb,by rw [hl]; exact w.len,w.spt,w.ne⟩
theorem quo2 {P:Program} {t:TypeId} {j:Nat} (hj:j≤100000):bin P .quo t (.int .i64 ((j:Int)-1)) (.int .i64 2) = .ok (.int .i64 ((par j:Nat):Int)):=by
 rw [zHA (by decide)]
 have:((j:Int)-1).tdiv 2=((par j:Nat):Int):=by
  cases j with
  | zero=>rfl
  | succ j =>
   have e:((j+1:Nat):Int)-1=(j:Int):=by push_cast; omega
   rw [e]
   show (j:Int).tdiv ((2:Nat):Int)=(((j+1-1) / 2:Nat):Int)
   rfl
 rw [this,zEh _ (by unfold par; omega)]
def UpJ (bc b:Nat) (sp:Option Nat) (cap:Nat) (W:List Stop) (cs:List Value) (h:Hp) (nx:Nat) (m:Nat) (vs:List Value) (h':Hp) (nx':Nat):Prop :=
 ∃ (W':List Stop),vs=[ifcW bc,.int .i64 (m:Int)]∧WtAt h' bc b sp cap W' cs∧UpI W' m∧m<W'.length∧W'.Perm W∧(∀ c,c≠b→hget h' c=hget h c)∧nx'=nx
def HeapK (bc b:Nat) (sp:Option Nat) (cap:Nat) (W:List Stop) (cs:List Value) (h:Hp) (nx:Nat):KC':=fun r h' nx'=>r = .tuple ⟨[]⟩∧∃ W',WtAt h' bc b sp cap W' cs∧Heap W'∧W'.Perm W∧(∀ c,c≠b→hget h' c=hget h c)∧nx'=nx
theorem hup_c {s:Bool} {h:Hp} {nx bc b cap j:Nat} {sp:Option Nat} {W:List Stop} {cs:List Value} (w:WtAt h bc b sp cap W cs) (hU:UpI W j) (hj:j<W.length) (hl:W.length≤100000) :
  Cv Q O s 67 [ifcW bc,.int .i64 (j:Int)] h nx (HeapK bc b sp cap W cs h nx):=by
 refine hupv ?_
 unfold hup
 refine Lp.mk (UpJ bc b sp cap W cs h nx) j ⟨W,rfl,w,hU,hj,List.Perm.refl _,fun c _=>rfl,rfl⟩ ?_
 rintro m _ h' nx' ⟨W',rfl,w',hU',hm,hp,hf,rfl⟩
 rw [hupb0]
 unfold hupl0
 have hlen:=hp.length_eq
 obtain ⟨y,hy⟩:=za hm
 obtain ⟨x,hx⟩:=za (l:=W') (i:=par m) (by unfold par; omega)
 simp (disch:=omega) only [SS,wrapP (show m<1000000000 by omega),quo2 (show m≤100000 by omega),zJU zQB w'.cell,seval]
 refine ⟨fun h0=>?_,fun h0=>?_⟩
 ·have hm0:m=0:=by
   have:((par m:Nat):Int)=(m:Int):=by simpa using h0
   have:par m=m:=by omega
   unfold par at this; omega
  exact ⟨rfl,W',w',hU'.done fun _ _ h=>absurd h (by omega),hp,hf,rfl⟩
 ·have hm0:0<m:=by
   rcases Nat.eq_zero_or_pos m with e | e
   ·subst e; simp [par] at h0
   ·exact e
  refine (zKN w'.blk rfl hy hx).mono ?_
  rintro r _ _ ⟨rfl,rfl,rfl⟩
  simp (disch:=omega) only [SS,zJU zQA w'.cell,seval]
  refine ⟨fun hge=>?_,fun hlt=>?_⟩
  ·refine ⟨rfl,W',w',hU'.done fun x' y' _ hx' hy'=>?_,hp,hf,rfl⟩
   rw [hx] at hx'; rw [hy] at hy'; cases hx'; cases hy'
   omega
  ·refine (zKK w'.blk rfl hx hy).mono ?_
   rintro r h2 _ ⟨rfl,hb2,hf2,rfl⟩
   have hpm:par m<m:=by unfold par; omega
   exact ⟨par m,hpm,_,rfl,wt_to w' hb2 (zGE _ _ _ _ _) hf2,hU'.step hm0 hx hy hlt,by rw [zGE]; omega,(zKI hx hy).trans hp,fun c hc=>(hf2 c hc).trans (hf c hc),rfl⟩
def DnJ (bc b n:Nat) (sp:Option Nat) (cap:Nat) (W:List Stop) (cs:List Value) (h:Hp) (nx:Nat) (m:Nat) (vs:List Value) (h':Hp) (nx':Nat):Prop :=
 ∃ (W':List Stop) (i:Nat),m=n-i∧i≤n∧vs=[ifcW bc,.int .i64 0,.int .i64 (n:Int),.int .i64 (i:Int)]∧WtAt h' bc b sp cap W' cs∧DownI W' n i∧W'.Perm W∧W'[n]? = W[n]?∧(∀ c,c≠b→hget h' c=hget h c)∧nx'=nx
def DownK (bc b n:Nat) (sp:Option Nat) (cap:Nat) (W:List Stop) (cs:List Value) (h:Hp) (nx:Nat):KC':=fun r h' nx'=>∃ W',WtAt h' bc b sp cap W' cs∧Heap (W'.take n)∧W'.Perm W∧W'[n]? = W[n]?∧(∀ c,c≠b→hget h' c=hget h c)∧nx'=nx
theorem hdown_c {s:Bool} {h:Hp} {nx bc b cap n:Nat} {sp:Option Nat} {W:List Stop} {cs:List Value} (w:WtAt h bc b sp cap W cs) (hD:DownI W n 0) (hn:W.length=n+1) (hl:W.length≤100000) :
  Cv Q O s 66 [ifcW bc,.int .i64 0,.int .i64 (n:Int)] h nx (DownK bc b n sp cap W cs h nx):=by
 refine hdownv ?_
 unfold hdown
 refine Lp.mk (DnJ bc b n sp cap W cs h nx) n ⟨W,0,rfl,by omega,rfl,w,hD,List.Perm.refl _,rfl,fun c _=>rfl,rfl⟩ ?_
 rintro m _ h' nx' ⟨W',i,rfl,hi,rfl,w',hD',hp,hlast,hf,rfl⟩
 rw [hdownb0]
 unfold zQS
 have hlen:=hp.length_eq
 obtain ⟨x,hx⟩:=za (l:=W') (i:=i) (by omega)
 have e1:(2:Int)*(i:Int)=((2*i:Nat):Int):=by push_cast; rfl
 have e2:IntKind.wrap .i64 ((2*i:Nat):Int)=((2*i:Nat):Int):=zEh _ (by omega)
 simp (disch:=omega) only [SS,zDy,e1,e2,zAK (show 2*i<1000000000000 by omega),zAK (show 2*i+1<1000000000000 by omega),seval]
 have tail:∀ (j:Nat) (y:Stop),par j=i→0<j→j<n→W'[j]? = some y→(∀ (c:Nat) (z:Stop),0<c→c<n→par c=i→W'[c]? = some z→y.2≤z.2) →
   CVK Q O s (zAQ Q h' nx' [.int .i64 (j:Int),.int .i64 (i:Int)] "Less" (ifcW bc)) fun x13 h14 n15=>RK (oUn .not x13) fun x16=>IF x16 (DownK bc b n sp cap W cs h nx' (.bool (decide (0<(i:Int)))) h14 n15) (CVK Q O s (zAQ Q h14 n15 [.int .i64 (i:Int),.int .i64 (j:Int)] "Swap" (ifcW bc)) fun x17 h18 n19 =>
    zGf s (fun vs h_1 nx=>∃ m',m'<n-i∧DnJ bc b n sp cap W cs h nx' m' vs h_1 nx) (fun v3 h1 n2=>RK (bin Q .gtr 3 (nv v3 3) (nv v3 1)) fun x34=>DownK bc b n sp cap W cs h nx' x34 h1 n2) (fun x x_1 x_2=>False) (ifcW bc) (.int .i64 0) (.int .i64 (n:Int)) (.int .i64 (j:Int)) h18 n19):=by
  intro j y hpj hj0 hjn hy hmin
  have hij:i<j:=by unfold par at hpj; omega
  rw [zJU zQB w'.cell,zKB]
  refine (zKN w'.blk rfl hy hx).mono ?_
  rintro r _ _ ⟨rfl,rfl,rfl⟩
  simp (disch:=omega) only [SS,zJU zQA w'.cell,seval]
  refine ⟨fun hge=>?_,fun hlt=>?_⟩
  ·refine ⟨W',w',hD'.done fun c x' y' hc hcn hpc hx' hy'=>?_,hp,hlast,hf,rfl⟩
   rw [hx] at hx'; cases hx'
   have:=hmin c y' hc hcn hpc hy'
   omega
  ·refine (zKK w'.blk rfl hx hy).mono ?_
   rintro r h2 _ ⟨rfl,hb2,hf2,rfl⟩
   unfold zGf
   refine ⟨n-j,by omega,_,j,rfl,by omega,rfl,wt_to w' hb2 (zGE _ _ _ _ _) hf2,hD'.step hj0 hjn hpj hx hy hlt hmin,(zKI hx hy).trans hp,?_,fun c hc=>(hf2 c hc).trans (hf c hc),rfl⟩
   rw [zIu hx hy (by omega),if_neg (by omega),if_neg (by omega)]; exact hlast
 have par1:∀ c,0<c→par c=i→c=2*i+1∨c=2*i+2:=fun c hc h=>(par_iff hc).1 h
 refine ⟨fun hge=>?_,fun hlt=>⟨fun h0=>absurd h0 (by omega),fun _=>⟨fun h2=>?_,fun h2=>?_⟩⟩⟩
 ·exact ⟨W',w',hD'.done fun c x' y' hc hcn hpc _ _=>(by rcases par1 c hc hpc with h | h <;> omega),hp,hlast,hf,rfl⟩
 ·obtain ⟨y1,hy1⟩:=za (l:=W') (i:=2*i+1) (by omega)
  obtain ⟨y2,hy2⟩:=za (l:=W') (i:=2*i+1+1) (by omega)
  rw [zJU zQB w'.cell,zKB]
  refine (zKN w'.blk rfl hy2 hy1).mono ?_
  rintro r _ _ ⟨rfl,rfl,rfl⟩
  rw [IF_b]
  refine ⟨fun h3=>tail _ y2 (by unfold par; omega) (by omega) h2 hy2 fun c z hc hcn hpc hz=>?_,fun h3=>tail _ y1 (by unfold par; omega) (by omega) hlt hy1 fun c z hc hcn hpc hz=>?_⟩
  ·have h3:y2.2<y1.2:=by simpa using h3
   rcases par1 c hc hpc with rfl | rfl
   ·rw [hy1] at hz; cases hz; omega
   ·rw [hy2] at hz; cases hz; exact Int.le_refl _
  ·have h3:¬ y2.2<y1.2:=by simpa using h3
   rcases par1 c hc hpc with rfl | rfl
   ·rw [hy1] at hz; cases hz; exact Int.le_refl _
   ·rw [hy2] at hz; cases hz; omega
 ·obtain ⟨y1,hy1⟩:=za (l:=W') (i:=2*i+1) (by omega)
  refine tail _ y1 (by unfold par; omega) (by omega) hlt hy1 fun c z hc hcn hpc hz=>?_
  rcases par1 c hc hpc with rfl | rfl
  ·rw [hy1] at hz; cases hz; exact Int.le_refl _
  ·omega
theorem assert84 {y:Value}:zDm Tryz.prog 84 true (.iface 84 y) = .ok (.tuple ⟨[y,.bool true]⟩):=by
 show (bif zBS Tryz.prog 84&&Nat.beq 84 84 then R.ok (zB5 true y true) else .no "typeAssert")=_
 rw [conc84]; rfl
def PushK (bc b:Nat) (W:List Stop) (nx:Nat) (h:Hp) (p:List Stop→Prop):KC':=fun r h' nx'=>∃ b' sp' cap' cs' W',WtAt h' bc b' sp' cap' W' cs'∧p W'∧(b'=b∨nx≤b')∧b'<nx'∧nx≤nx'∧∀ c,c<nx→c≠b→c≠bc→hget h' c=hget h c
theorem spush_c {s:Bool} {h:Hp} {nx bc b cap v:Nat} {d:Int} {sp:Option Nat} {W:List Stop} {cs:List Value} (w:WtAt h bc b sp cap W cs) (hb:b<nx) (hbc:bc<nx) (hl:W.length<1000) :
  Cv Q O s 387 [.pointer (some ⟨bc,0,none⟩),.iface 84 (.agg ⟨[.int .i64 (v:Int),.int .i64 d]⟩)] h nx (PushK bc b W nx h fun W'=>W'=W++[(v,d)]):=by
 refine spushv ?_
 unfold spush
 rw [assert84]
 have hne:=w.ne
 have hcell:hget (hset (hset h nx (.cells [.int .i64 0,.int .i64 0] false)) nx (.cells [.int .i64 (v:Int),.int .i64 d] false)) bc=some (.cells [.slice (some ⟨b,0,sp⟩) W.length cap] false):=by rw [hold (by omega),hold (by omega)]; exact w.cell
 simp (disch:=omega) only [SS,hcell,seval]
 obtain ⟨b',sp',cap',cs',h',nx',e1,e2,e3,e4,e5,e6,e7,e8⟩:=wt_app (h:=hset (hset (hset h nx (AObj.cells [Value.int IntKind.i64 0,Value.int IntKind.i64 0] false)) nx (AObj.cells [Value.int IntKind.i64 (v:Int),Value.int IntKind.i64 d] false)) (nx+1) (AObj.cells [Value.int IntKind.i64 (v:Int),Value.int IntKind.i64 d] false)) (nx:=nx+1+1) (b:=b) (W:=W) (cs:=cs) (cap:=cap) (sp:=sp) (n:=W.length) (cap2:=1) (sp2:=none) (o2:=0) (b2:=nx+1) (by rw [hold (by omega),hold (by omega),hold (by omega)]; exact w.blk) rfl w.len w.spt (by omega) v d (hnew _ _ _) rfl (by omega)
 rw [e1]
 have hc2:hget h' bc=some (.cells [.slice (some ⟨b,0,sp⟩) W.length cap] false):=(e8 bc (fun e=>hne e.symm) (by omega)).trans (by rw [hold (by omega)]; exact hcell)
 have hb':b'≠bc:=by omega
 simp (disch:=omega) only [SS,EK_v,orR,hc2,seval]
 refine ⟨by omega,b',sp',cap',cs',_,⟨?_,?_,e3,e4,hb'⟩,rfl,by omega,by omega,by omega,fun c h1 h2 h3=>?_⟩
 ·rw [hnew,List.length_append]; rfl
 ·rw [hold hb']; exact e2
 ·rw [hold h3,e8 c h2 (by omega),hold (by omega),hold (by omega),hold (by omega)]
theorem spop_c {s:Bool} {h:Hp} {nx bc b cap n:Nat} {sp:Option Nat} {W:List Stop} {cs:List Value} (w:WtAt h bc b sp cap W cs) (hb:b<nx) (hbc:bc<nx) (hn:W.length=n+1) (hl:W.length<100000) :
  Cv Q O s 386 [.pointer (some ⟨bc,0,none⟩)] h nx (fun r h' nx'=>∃ cs',WtAt h' bc b sp cap (W.take n) cs'∧nx'=nx+1∧∀ c,c<nx→c≠bc→hget h' c=hget h c):=by
 refine spopv ?_
 unfold spop
 have hne:=w.ne
 have e:IntKind.wrap .i64 ((W.length:Int)-1)=(n:Int):=by
  have:(W.length:Int)-1=(n:Int):=by omega
  rw [this]; exact zEh _ (by omega)
 obtain ⟨x,hx⟩:=za (l:=W) (i:=n) (by omega)
 have hwl:=w.len
 have hcell:hget (hset (hset h nx (.cells [.int .i64 0,.int .i64 0] false)) nx (.cells [.int .i64 (x.1:Int),.int .i64 x.2] false)) bc=some (.cells [.slice (some ⟨b,0,sp⟩) W.length cap] false):=by rw [hold (by omega),hold (by omega)]; exact w.cell
 have hcut:=wt_cut (b:=b) (sp:=sp) (n:=n) (cap:=cap) (by omega)
 rw [hn] at hcell e
 have hc0:=w.cell
 rw [hn] at hc0
 simp (disch:=omega) only [SS,hc0,e,w.blk,wt_rd hx,hcell,hcut,seval]
 have hW:W=W.take n++[x]:=by
  have h1:W.take (n+1)=W.take n++[x]:=by rw [List.take_add_one,hx]; rfl
  rw [← h1,List.take_of_length_le (by omega)]
 have ht:(W.take n).length=n:=by rw [List.length_take]; omega
 refine ⟨encW x++cs,⟨by rw [hnew,ht],?_,?_,w.spt,hne⟩,fun c h1 h2=>by rw [hold h2,hold (by omega),hold (by omega)]⟩
 ·rw [hold hne,hold (by omega),hold (by omega),w.blk]
  conv=>lhs; rw [hW]
  rw [zBY,List.append_assoc]
 ·rw [ht,List.length_append,zBL]; omega
theorem hpush_c {s:Bool} {h:Hp} {nx bc b cap v:Nat} {d:Int} {sp:Option Nat} {W:List Stop} {cs:List Value} (w:WtAt h bc b sp cap W cs) (hb:b<nx) (hbc:bc<nx) (hl:W.length<1000) (hH:Heap W) :
  Cv Q O s 46 [ifcW bc,.iface 84 (.agg ⟨[.int .i64 (v:Int),.int .i64 d]⟩)] h nx (PushK bc b W nx h fun W'=>Heap W'∧W'.Perm (W++[(v,d)])):=by
 refine hpushv ?_
 unfold hpush
 rw [inv_p m_push,zKB]
 refine (spush_c w hb hbc hl).mono ?_
 rintro r h1 nx1 ⟨b',sp',cap',cs',W',w',rfl,e1,e2,e3,e4⟩
 rw [zJU m_len w'.cell,zKB]
 refine slen_c.mono ?_
 rintro r _ _ ⟨rfl,rfl,rfl⟩
 have hlen:(W++[(v,d)]).length=W.length+1:=by simp
 rw [hlen]
 have e:IntKind.wrap .i64 (((W.length+1:Nat):Int)-1)=(W.length:Int):=by
  have:((W.length+1:Nat):Int)-1=(W.length:Int):=by omega
  rw [this]; exact zEh _ (by omega)
 simp (disch:=omega) only [SS,e,seval]
 refine (hup_c w' (UpI.push (p:=(v,d)) hH) (by omega) (by omega)).mono ?_
 rintro r h2 nx2 ⟨rfl,W',w2,hH2,hp2,hf2,rfl⟩
 exact ⟨b',sp',cap',cs',W',w2,⟨hH2,hp2⟩,e1,e2,e3,fun c h1 h2 h3=>(hf2 c (by omega)).trans (e4 c h1 h2 h3)⟩
theorem hpop_c {s:Bool} {h:Hp} {nx bc b cap:Nat} {sp:Option Nat} {W:List Stop} {p:Stop} {cs:List Value} (w:WtAt h bc b sp cap W cs) (hb:b<nx) (hbc:bc<nx) (hl:W.length<1000) (hH:Heap W) (hp0:W[0]? = some p) :
  Cv Q O s 45 [ifcW bc] h nx (fun r h' nx'=>∃ cs' W',WtAt h' bc b sp cap W' cs'∧Heap W'∧(p::W').Perm W∧nx≤nx'∧∀ c,c<nx→c≠b→c≠bc→hget h' c=hget h c):=by
 refine hpopv ?_
 unfold hpop
 obtain ⟨n,hn⟩:∃ n,W.length=n+1:=⟨W.length-1,by have:=(List.getElem?_eq_some_iff.1 hp0).1; omega⟩
 obtain ⟨q,hq⟩:=za (l:=W) (i:=n) (by omega)
 have hcell:=w.cell
 rw [zJU m_len hcell,zKB]
 refine slen_c.mono ?_
 rintro r hh nn ⟨rfl,e1,e2⟩
 rw [e1,e2]
 have e:IntKind.wrap .i64 ((W.length:Int)-1)=(n:Int):=by
  have:(W.length:Int)-1=(n:Int):=by omega
  rw [this]; exact zEh _ (by omega)
 simp (disch:=omega) only [SS,e,zJU zQA hcell,seval]
 have hs0:Cv Q O s 388 [.slice (some ⟨b,0,sp⟩) W.length cap,.int .i64 ((0:Nat):Int),.int .i64 (n:Int)] h nx _:=zKK (k:=n) w.blk rfl hp0 hq
 refine hs0.mono ?_
 rintro r h1 _ ⟨rfl,hb1,hf1,rfl⟩
 have w1:=wt_to w hb1 (zGE _ _ _ _ _) hf1
 refine (hdown_c w1 (DownI.pop hH hn hp0 hq) (by rw [zGE]; exact hn) (by rw [zGE]; omega)).mono ?_
 rintro r h2 _ ⟨W2,w2,hH2,hp2,hl2,hf2,rfl⟩
 rw [inv_p m_pop,zKB]
 have hl2':=hp2.length_eq
 rw [zGE] at hl2'
 refine (spop_c (n:=n) w2 (by omega) hbc (by omega) (by omega)).mono ?_
 rintro r h3 _ ⟨cs3,w3,rfl,hf3⟩
 refine ⟨cs3,W2.take n,w3,hH2,?_,by omega,fun c h1 h2 h3=>by rw [hf3 c h1 h3,hf2 c h2,hf1 c h2]⟩
 by_cases hn0:n=0
 ·subst hn0
  rw [List.take_zero]
  have:W=[p]:=by
   match W,hn,hp0 with
   | [a],_,h=>cases h; rfl
  rw [this]
 have hx:W2[n]? = some p:=by rw [hl2,zIu hp0 hq (by omega),if_pos rfl]
 have hW:W2=W2.take n++[p]:=by
  have h1:W2.take (n+1)=W2.take n++[p]:=by rw [List.take_add_one,hx]; rfl
  rw [← h1,List.take_of_length_le (by omega)]
 have hpp:(p::W2.take n).Perm (W2.take n++[p]):=(List.perm_append_comm (l₁:=W2.take n) (l₂:=[p])).symm
 rw [← hW] at hpp
 exact (hpp.trans hp2).trans (zKI hp0 hq)
def zB2 (n:Nat):Prop:=∀ (h:Hp) (nx:Nat),zc Tryz.prog O (cexA Tryz.prog O 30) 52 [.int .u64 1,.int .u64 (.ofNat n)] h nx = .ok (.tuple ⟨[.int .u64 0,.int .u64 (.ofNat n)]⟩) h nx
theorem mul0:zB2 0:=fun h nx=>by kernel_rfl
theorem mul1:zB2 1:=fun h nx=>by kernel_rfl
theorem mul2:zB2 2:=fun h nx=>by kernel_rfl
theorem mul3:zB2 3:=fun h nx=>by kernel_rfl
theorem mul4:zB2 4:=fun h nx=>by kernel_rfl
theorem mul5:zB2 5:=fun h nx=>by kernel_rfl
theorem mul6:zB2 6:=fun h nx=>by kernel_rfl
theorem mul7:zB2 7:=fun h nx=>by kernel_rfl
theorem mul8:zB2 8:=fun h nx=>by kernel_rfl
theorem mul9:zB2 9:=fun h nx=>by kernel_rfl
theorem mul10:zB2 10:=fun h nx=>by kernel_rfl
theorem mul11:zB2 11:=fun h nx=>by kernel_rfl
theorem mul12:zB2 12:=fun h nx=>by kernel_rfl
theorem mul13:zB2 13:=fun h nx=>by kernel_rfl
theorem mul14:zB2 14:=fun h nx=>by kernel_rfl
theorem mul15:zB2 15:=fun h nx=>by kernel_rfl
theorem mul16:zB2 16:=fun h nx=>by kernel_rfl
theorem mul17:zB2 17:=fun h nx=>by kernel_rfl
theorem mul18:zB2 18:=fun h nx=>by kernel_rfl
theorem mul19:zB2 19:=fun h nx=>by kernel_rfl
theorem mul20:zB2 20:=fun h nx=>by kernel_rfl
theorem mul21:zB2 21:=fun h nx=>by kernel_rfl
theorem mul22:zB2 22:=fun h nx=>by kernel_rfl
theorem mul23:zB2 23:=fun h nx=>by kernel_rfl
theorem zPz:∀ (n:Nat),n≤23→zB2 n
 | 0,_=>mul0
 | 1,_=>mul1
 | 2,_=>mul2
 | 3,_=>mul3
 | 4,_=>mul4
 | 5,_=>mul5
 | 6,_=>mul6
 | 7,_=>mul7
 | 8,_=>mul8
 | 9,_=>mul9
 | 10,_=>mul10
 | 11,_=>mul11
 | 12,_=>mul12
 | 13,_=>mul13
 | 14,_=>mul14
 | 15,_=>mul15
 | 16,_=>mul16
 | 17,_=>mul17
 | 18,_=>mul18
 | 19,_=>mul19
 | 20,_=>mul20
 | 21,_=>mul21
 | 22,_=>mul22
 | 23,_=>mul23
 | n+24,hn=>absurd hn (by omega)
theorem mul_c {s:Bool} {n:Nat} {h:Hp} {nx:Nat} (hn:n≤23):Cv Q O s 52 [.int .u64 1,.int .u64 (n:Int)] h nx (fun r h' nx'=>r = .tuple ⟨[.int .u64 0,.int .u64 (n:Int)]⟩∧h'=h∧nx'=nx):=by
 refine ⟨30,?_⟩
 have e:=zPz n hn h nx
 rw [show ((n:Int))=Int.ofNat n from rfl,e]
 exact satC_ok.2 ⟨rfl,rfl,rfl⟩
end Go.Proofs.YtfebipifehfjlaaGreat
