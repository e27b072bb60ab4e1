/- Parts of the proof: IaFn1: each statement bears its own conditions. -/
import Derived.Test.YtcjochjiegiliaaGreatIaFacts
namespace Go.Proofs.YtcjochjiegiliaaGreat
open Go Go.Ax
set_option linter.unusedVariables false
set_option linter.unusedSimpArgs false
set_option maxRecDepth 1000000
noncomputable abbrev Q:Program:=Tryz.prog
def O:Orc:=fun f=>bif Nat.beq f 28 then some zR9 else bif Nat.beq f 307 then some zFh else none
abbrev bF (o:BinOp) (t:TypeId) (a b:Value) (k:Value→Prop):Prop:=RK (bin Q o t a b) k
abbrev cF (s:Bool) (f:Nat) (l:List Value) (h:Hp) (n:Nat) (k:KC'):Prop:=Cv Q O s f l h n k
abbrev dF (f:Nat) (l:List Value) (h:Hp) (n:Nat) (k:KC'):Prop:=Cv Q O true f l h n fun v h' n'=>n≤n'∧k v h' n'
def withinL:List (List Nat):=[]
def within (s:Bool) (t0 t1:Value) (h:Hp) (nx:Nat) (K:KC'):Prop:=bF .lss 3 t1 (iV 1) fun a=>IF a (K (iV 0) h nx) (bF .lss 3 t0 (iV 0) fun b=>IF b (K (iV 0) h nx) (bF .rem 3 t0 t1 fun c=>K c h nx))
theorem withinv {s:Bool} {t0 t1:Value} {h:Hp} {nx:Nat} {K:KC'} (w:within s t0 t1 h nx K):Cv Q O s 98 [t0,t1] h nx K:=Cv.byE withinL rfl w (by kernel_rfl)
def zR8:List (List Nat):=[[1,2,3,4]]
def zFM (s:Bool) (N:KVl) (e0:KVl) (R:KVl) (y1 y2 y3 y4 y23:Value) (h0:Hp) (n0:Nat):Prop:=IF y23 (aF 1 y1 fun a=>lF h0 a fun b=>xF 3 b y4 fun c=>lA 3 h0 c fun d=>nC [(iV 0),(iV 0),(iV 0)] h0 n0 fun e f g=>RK (vSt f 3 e d) fun i=>aF 0 e fun j=>lF i j fun k=>aF 0 y3 fun l=>lF i l fun m=>dF 98 [k,m] i g fun n o p=>aF 1 e fun q=>lF o q fun r=>gL q r (aF 0 y3 fun t=>lF o t fun u=>gL t u (dF 98 [r,u] o p fun v w x=>aF 1 y3 fun y=>lF w y fun z=>gL y z (aF 2 e fun aa=>lF w aa fun ab=>gL aa ab (bF .and 2 ab (iV 2147483647) fun ac=>RK (vBld [(iV 0),(iV 0),(iV 0)] [(0,1,n),(1,1,v),(2,1,ac)]) fun ad=>AR (vBsl 1 [(iV 0),(iV 0),(iV 0)] [(0,3,ad)]) w x fun ae af ag=>EK (orR (zS 3 af ag z ae)) fun ah ai aj=>ag≤aj∧aF 1 y3 fun ak=>RK (vSt ai 1 ak ah) fun al=>bF .add 3 y4 (iV 1) fun am=>N [y1,y2,y3,am] al aj) 2 [o,i]) 2 [o,i]) 1 [i]) 1 [i]) (e0 [y1,y2,y3,y4] h0 n0)
def zR7 (s:Bool) (a1 a2 a3 a4:Value) (h:Hp) (nx:Nat) (N:KVl) (e0:KVl) (R:KVl):Prop:=aF 1 a1 fun a=>lF h a fun b=>nF b fun c=>bF .lss 3 a4 c fun d=>IF d (bF .lss 3 a4 (iV 60) fun e=>IF e (aF 0 a3 fun f=>lF h f fun g=>bF .gtr 3 g (iV 0) fun i=>(zFM s N e0 R a1 a2 a3 a4 i h nx)) ((zFM s N e0 R a1 a2 a3 a4 (.bool false) h nx))) ((zFM s N e0 R a1 a2 a3 a4 (.bool false) h nx))
def graph (s:Bool) (t0:Value) (h:Hp) (nx:Nat) (K:KC'):Prop:=pC t0 h nx fun a b c=>nC [(iV 0),nS] b c fun d e f=>aF 0 a fun g=>lF e g fun i=>cF s 98 [i,(iV 24)] e f fun j k l=>RK (vBld [(iV 0),nS] [(0,1,j)]) fun m=>nC [(iV 0),nS] k l fun n o p=>RK (vSt o 2 n m) fun q=>Lp (fL Q O s zR8 97 0) [a,d,n,(iV 0)] q p [(0,fun r t u=>lA 2 t (nv r 2) fun v=>RK (vSt t 2 (nv r 1) v) fun w=>lA 2 w (nv r 1) fun x=>K x w u)] (fun _ _ _=>False)
theorem graphb0 {s:Bool} {a1 a2 a3 a4:Value} {h:Hp} {nx:Nat} {N e0 R:KVl}:fL Q O s zR8 97 0 [a1,a2,a3,a4] h nx N [(0,e0)] R=zR7 s a1 a2 a3 a4 h nx N e0 R:=by kernel_rfl
theorem graphv {s:Bool} {t0:Value} {h:Hp} {nx:Nat} {K:KC'} (w:graph s t0 h nx K):Cv Q O s 97 [t0] h nx K:=Cv.byE zR8 rfl w (by kernel_rfl)
def makeL:List (List Nat):=[]
def zNB (s:Bool) (K:KC') (y1 y2 y6:Value) (h0:Hp) (n0:Nat):Prop:=aF 2 y1 fun a=>lF h0 a fun b=>aF 0 y6 fun c=>lF h0 c fun d=>dF 98 [b,d] h0 n0 fun e f g=>lA 2 f y6 fun i=>gA 2 y6 i (RK (vSt f 2 y2 i) fun j=>aF 3 y1 fun k=>lF j k fun l=>gL k l (RK (zDz (.int .i64) l) fun m=>bF .rem 3 m (iV 4) fun n=>bF .add 3 n (iV 1) fun o=>aF 4 y1 fun p=>lF j p fun q=>gL p q (RK (zDz (.int .i64) q) fun r=>bF .rem 3 r (iV 4) fun t=>bF .add 3 t (iV 1) fun u=>lA 2 j y2 fun v=>K (.tuple ⟨[v,e,o,u]⟩) j g) 2 [f,h0]) 2 [f,h0]) 1 [h0]
def make (s:Bool) (t0:Value) (h:Hp) (nx:Nat) (K:KC'):Prop:=pC t0 h nx fun a b c=>nC [(iV 0),nS] b c fun d e f=>aF 0 a fun g=>lA 2 e g fun i=>cF s 97 [i] e f fun j k l=>nC [(iV 0),nS] k l fun m n o=>RK (vSt n 2 m j) fun p=>aF 0 m fun q=>lF p q fun r=>bF .eql 3 r (iV 0) fun t=>IF t (RK (vBld [(iV 0),nS] [(0,1,(iV 1))]) fun u=>RK (vSt p 2 m u) fun v=>(zNB s K a d m v o)) ((zNB s K a d m p o))
theorem makev {s:Bool} {t0:Value} {h:Hp} {nx:Nat} {K:KC'} (w:make s t0 h nx K):Cv Q O s 29 [t0] h nx K:=Cv.byE makeL rfl w (by kernel_rfl)
def rightL:List (List Nat):=[]
def right (s:Bool) (t0:Value) (h:Hp) (nx:Nat) (K:KC'):Prop:=pC t0 h nx fun a b c=>RK (.ok (Value.func (.func 192) ⟨[]⟩ ⟨[a]⟩)) fun d=>nC [.nilFunc] b c fun e f g=>RK (vSt f 1 e d) fun i=>aF 0 a fun j=>lF i j fun k=>bF .lss 3 k (iV 0) fun l=>IF l (K (iV 3) i g) (aF 0 a fun m=>lF i m fun n=>bF .gtr 3 n (iV 4096) fun o=>IF o (K (iV 5) i g) (aF 1 a fun p=>lF i p fun q=>nF q fun r=>bF .gtr 3 r (iV 65536) fun t=>IF t (K (iV 5) i g) (aF 1 a fun u=>lF i u fun v=>RK (.ok (Value.func (.func 194) ⟨[]⟩ ⟨[e]⟩)) fun w=>cF s 193 [v,w] i g fun x y z=>IF x (K (iV 3) y z) (aF 1 a fun aa=>lF y aa fun ab=>cF s 193 [ab,(.func (.func 195) #[] #[])] y z fun ac ad ae=>IF ac (K (iV 7) ad ae) (K (iV 0) ad ae)))))
theorem rightv {s:Bool} {t0:Value} {h:Hp} {nx:Nat} {K:KC'} (w:right s t0 h nx K):Cv Q O s 107 [t0] h nx K:=Cv.byE rightL rfl w (by kernel_rfl)
def right1L:List (List Nat):=[]
def zQG (s:Bool) (t0 t1:Value) (h:Hp) (nx:Nat) (K:KC'):Prop:=bF .lss 3 t0 (iV 0) fun a=>IF a (K (.bool true) h nx) (aF 0 t1 fun b=>lF h b fun c=>bF .geq 3 t0 c fun d=>K d h nx)
theorem zQF {s:Bool} {t0 t1:Value} {h:Hp} {nx:Nat} {K:KC'} (w:zQG s t0 t1 h nx K):Cv Q O s 192 [t0,t1] h nx K:=Cv.byE right1L rfl w (by kernel_rfl)
def right2L:List (List Nat):=[]
def right2 (s:Bool) (t0 t1:Value) (h:Hp) (nx:Nat) (K:KC'):Prop:=pC t0 h nx fun a b c=>lF b t1 fun d=>aF 0 a fun e=>lF b e fun f=>CVK Q O s (zBZ b c [f] d) fun g i j=>IF g (K (.bool true) i j) (lF i t1 fun k=>aF 1 a fun l=>lF i l fun m=>CVK Q O s (zBZ i j [m] k) fun n o p=>K n o p)
theorem right2v {s:Bool} {t0 t1:Value} {h:Hp} {nx:Nat} {K:KC'} (w:right2 s t0 t1 h nx K):Cv Q O s 194 [t0,t1] h nx K:=Cv.byE right2L rfl w (by kernel_rfl)
def right3L:List (List Nat):=[]
def right3 (s:Bool) (t0:Value) (h:Hp) (nx:Nat) (K:KC'):Prop:=pC t0 h nx fun a b c=>aF 2 a fun d=>lF b d fun e=>bF .lss 2 e (iV 0) fun f=>IF f (K (.bool true) b c) (aF 2 a fun g=>lF b g fun i=>bF .gtr 2 i (iV 2147483647) fun j=>K j b c)
theorem right3v {s:Bool} {t0:Value} {h:Hp} {nx:Nat} {K:KC'} (w:right3 s t0 h nx K):Cv Q O s 195 [t0] h nx K:=Cv.byE right3L rfl w (by kernel_rfl)
def contsL:List (List Nat):=[]
def conts (s:Bool) (t0 t1:Value) (h:Hp) (nx:Nat) (K:KC'):Prop:=cF s 275 [t0,t1] h nx fun a b c=>bF .geq 3 a (iV 0) fun d=>K d b c
theorem contsv {s:Bool} {t0 t1:Value} {h:Hp} {nx:Nat} {K:KC'} (w:conts s t0 t1 h nx K):Cv Q O s 193 [t0,t1] h nx K:=Cv.byE contsL rfl w (by kernel_rfl)
def zRT:List (List Nat):=[[0,1,4,7,8]]
def zRS (s:Bool) (a0 a1 a4 a7 a8:Value) (h:Hp) (nx:Nat) (N:KVl) (e0:KVl) (R:KVl):Prop:=bF .lss 3 a8 a7 fun a=>IF a (xF 3 a0 a8 fun b=>lA 3 h b fun c=>CVK Q O s (zBZ h nx [c] a1) fun d e f=>IF d (R [a0,a1,a8,a7,a8] e f) (bF .add 3 a8 (iV 1) fun g=>N [a0,a1,a4,a7,g] e f)) (e0 [a0,a1,a4,a7,a8] h nx)
def index (s:Bool) (t0 t1:Value) (h:Hp) (nx:Nat) (K:KC'):Prop:=nF t0 fun a=>Lp (fL Q O s zRT 275 0) [t0,t1,(iV 0),a,(iV 0)] h nx [(0,fun b c d=>K (iV (-1)) c d)] (fun e f g=>K (nv e 2) f g)
theorem indexb0 {s:Bool} {a0 a1 a4 a7 a8:Value} {h:Hp} {nx:Nat} {N e0 R:KVl}:fL Q O s zRT 275 0 [a0,a1,a4,a7,a8] h nx N [(0,e0)] R=zRS s a0 a1 a4 a7 a8 h nx N e0 R:=by kernel_rfl
theorem indexv {s:Bool} {t0 t1:Value} {h:Hp} {nx:Nat} {K:KC'} (w:index s t0 t1 h nx K):Cv Q O s 275 [t0,t1] h nx K:=Cv.byE zRT rfl w (by kernel_rfl)
def clone64L:List (List Nat):=[]
def zSK (s:Bool) (t0:Value) (h:Hp) (nx:Nat) (K:KC'):Prop:=bF .eql 23 t0 nS fun a=>IF a (K nS h nx) (AR (vBsl 0 [] []) h nx fun b c d=>EK (orR (zS 1 c d b t0)) fun e f g=>K e f g)
theorem clone64v {s:Bool} {t0:Value} {h:Hp} {nx:Nat} {K:KC'} (w:zSK s t0 h nx K):Cv Q O s 51 [t0] h nx K:=Cv.byE clone64L rfl w (by kernel_rfl)
def zGW:List (List Nat):=[[1,2,3],[1,2,5]]
def zM7 (s:Bool) (a1 a2 a3:Value) (h:Hp) (nx:Nat) (N:KVl) (e0:KVl) (R:KVl):Prop:=aF 1 a1 fun a=>lF h a fun b=>nF b fun c=>bF .lss 3 a3 c fun d=>IF d (aF 1 a1 fun e=>lF h e fun f=>xF 3 f a3 fun g=>lA 3 h g fun i=>nC [(iV 0),(iV 0),(iV 0)] h nx fun j k l=>RK (vSt k 3 j i) fun m=>aF 0 j fun n=>lF m n fun o=>bF .lss 3 o (iV 0) fun p=>IF p (R [a1,(iV 3),a3] m l) (aF 0 j fun q=>lF m q fun r=>aF 0 a1 fun t=>lF m t fun u=>bF .geq 3 r u fun v=>IF v (R [a1,(iV 3),a3] m l) (aF 1 j fun w=>lF m w fun x=>bF .lss 3 x (iV 0) fun y=>IF y (R [a1,(iV 3),a3] m l) (aF 1 j fun z=>lF m z fun aa=>aF 0 a1 fun ab=>lF m ab fun ac=>bF .geq 3 aa ac fun ad=>IF ad (R [a1,(iV 3),a3] m l) (bF .add 3 a3 (iV 1) fun ae=>N [a1,a2,ae] m l))))) (e0 [a1,a2,a3] h nx)
def zM6 (s:Bool) (a1 a2 a5:Value) (h:Hp) (nx:Nat) (N:KVl) (e2:KVl) (R:KVl):Prop:=aF 1 a1 fun a=>lF h a fun b=>nF b fun c=>bF .lss 3 a5 c fun d=>IF d (aF 1 a1 fun e=>lF h e fun f=>xF 3 f a5 fun g=>aF 2 g fun i=>lF h i fun j=>bF .lss 2 j (iV 0) fun k=>IF k (R [a1,(iV 7),a5] h nx) (aF 1 a1 fun l=>lF h l fun m=>xF 3 m a5 fun n=>aF 2 n fun o=>lF h o fun p=>bF .gtr 2 p (iV 2147483647) fun q=>IF q (R [a1,(iV 7),a5] h nx) (bF .add 3 a5 (iV 1) fun r=>N [a1,a2,r] h nx))) (e2 [a1,a2,a5] h nx)
def zIX (s:Bool) (K:KC') (y1 y17:Value) (h0:Hp) (n0:Nat):Prop:=IF y17 (K (iV 5) h0 n0) (Lp (fL Q O s zGW 114 0) [y1,(iV 0),(iV 0)] h0 n0 [(0,fun a b c=>Lp (fL Q O s zGW 114 1) [(nv a 0),(nv a 1),(iV 0)] b c [(2,fun d e f=>K (iV 0) e f)] (fun g i j=>K (nv g 1) i j))] (fun k l m=>K (nv k 1) l m))
def rright (s:Bool) (t0:Value) (h:Hp) (nx:Nat) (K:KC'):Prop:=pC t0 h nx fun a b c=>aF 0 a fun d=>lF b d fun e=>bF .lss 3 e (iV 0) fun f=>IF f (K (iV 3) b c) (aF 0 a fun g=>lF b g fun i=>bF .gtr 3 i (iV 4096) fun j=>IF j ((zIX s K a (.bool true) b c)) (aF 1 a fun k=>lF b k fun l=>nF l fun m=>bF .gtr 3 m (iV 65536) fun n=>(zIX s K a n b c)))
theorem rrightb0 {s:Bool} {a1 a2 a3:Value} {h:Hp} {nx:Nat} {N e0 R:KVl}:fL Q O s zGW 114 0 [a1,a2,a3] h nx N [(0,e0)] R=zM7 s a1 a2 a3 h nx N e0 R:=by kernel_rfl
theorem rrightb1 {s:Bool} {a1 a2 a5:Value} {h:Hp} {nx:Nat} {N e2 R:KVl}:fL Q O s zGW 114 1 [a1,a2,a5] h nx N [(2,e2)] R=zM6 s a1 a2 a5 h nx N e2 R:=by kernel_rfl
theorem rrightv {s:Bool} {t0:Value} {h:Hp} {nx:Nat} {K:KC'} (w:rright s t0 h nx K):Cv Q O s 114 [t0] h nx K:=Cv.byE zGW rfl w (by kernel_rfl)
def zPk:List (List Nat):=[[0,1,4,5]]
def zPj (s:Bool) (a0 a1 a4 a5:Value) (h:Hp) (nx:Nat) (N:KVl) (e0:KVl) (R:KVl):Prop:=nF a0 fun a=>bF .lss 3 a5 a fun b=>IF b (xF 1 a0 a5 fun c=>lF h c fun d=>xF 1 a1 a5 fun e=>lF h e fun f=>bF .neq 3 d f fun g=>IF g (R [a0,a1,(.bool false),a5] h nx) (bF .add 3 a5 (iV 1) fun i=>N [a0,a1,a4,i] h nx)) (e0 [a0,a1,a4,a5] h nx)
def samei (s:Bool) (t0 t1:Value) (h:Hp) (nx:Nat) (K:KC'):Prop:=nF t0 fun a=>nF t1 fun b=>bF .neq 3 a b fun c=>IF c (K (.bool false) h nx) (Lp (fL Q O s zPk 37 0) [t0,t1,(.bool false),(iV 0)] h nx [(0,fun d e f=>K (.bool true) e f)] (fun g i j=>K (nv g 2) i j))
theorem sameib0 {s:Bool} {a0 a1 a4 a5:Value} {h:Hp} {nx:Nat} {N e0 R:KVl}:fL Q O s zPk 37 0 [a0,a1,a4,a5] h nx N [(0,e0)] R=zPj s a0 a1 a4 a5 h nx N e0 R:=by kernel_rfl
theorem sameiv {s:Bool} {t0 t1:Value} {h:Hp} {nx:Nat} {K:KC'} (w:samei s t0 t1 h nx K):Cv Q O s 37 [t0,t1] h nx K:=Cv.byE zPk rfl w (by kernel_rfl)
def zPi:List (List Nat):=[[0,1,4,5]]
def zPh (s:Bool) (a0 a1 a4 a5:Value) (h:Hp) (nx:Nat) (N:KVl) (e0:KVl) (R:KVl):Prop:=nF a0 fun a=>bF .lss 3 a5 a fun b=>IF b (xF 1 a0 a5 fun c=>lF h c fun d=>xF 1 a1 a5 fun e=>lF h e fun f=>bF .neq 2 d f fun g=>IF g (R [a0,a1,(.bool false),a5] h nx) (bF .add 3 a5 (iV 1) fun i=>N [a0,a1,a4,i] h nx)) (e0 [a0,a1,a4,a5] h nx)
def samev (s:Bool) (t0 t1:Value) (h:Hp) (nx:Nat) (K:KC'):Prop:=nF t0 fun a=>nF t1 fun b=>bF .neq 3 a b fun c=>IF c (K (.bool false) h nx) (Lp (fL Q O s zPi 36 0) [t0,t1,(.bool false),(iV 0)] h nx [(0,fun d e f=>K (.bool true) e f)] (fun g i j=>K (nv g 2) i j))
theorem samevb0 {s:Bool} {a0 a1 a4 a5:Value} {h:Hp} {nx:Nat} {N e0 R:KVl}:fL Q O s zPi 36 0 [a0,a1,a4,a5] h nx N [(0,e0)] R=zPh s a0 a1 a4 a5 h nx N e0 R:=by kernel_rfl
theorem samevv {s:Bool} {t0 t1:Value} {h:Hp} {nx:Nat} {K:KC'} (w:samev s t0 t1 h nx K):Cv Q O s 36 [t0,t1] h nx K:=Cv.byE zPi rfl w (by kernel_rfl)
def canonL:List (List Nat):=[]
def canon (s:Bool) (t0:Value) (h:Hp) (nx:Nat) (K:KC'):Prop:=pC t0 h nx fun a b c=>nC [(iV 0),nS] b c fun d e f=>aF 1 a fun g=>lF e g fun i=>cF s 307 [(iV 1),i] e f fun j k l=>RK (zo j 0) fun m=>RK (zo j 1) fun n=>aF 0 a fun o=>lF k o fun p=>RK (vBld [(iV 0),nS] [(0,1,p),(1,1,m)]) fun q=>RK (vSt k 2 d q) fun r=>lA 2 r d fun t=>K t r l
theorem canonv {s:Bool} {t0:Value} {h:Hp} {nx:Nat} {K:KC'} (w:canon s t0 h nx K):Cv Q O s 227 [t0] h nx K:=Cv.byE canonL rfl w (by kernel_rfl)
def rcanonL:List (List Nat):=[]
def rcanon (s:Bool) (t0:Value) (h:Hp) (nx:Nat) (K:KC'):Prop:=pC t0 h nx fun a b c=>nC [(iV 0),nS] b c fun d e f=>aF 1 a fun g=>lF e g fun i=>cF s 317 [(iV 1),i] e f fun j k l=>RK (zo j 0) fun m=>RK (zo j 1) fun n=>aF 0 a fun o=>lF k o fun p=>RK (vBld [(iV 0),nS] [(0,1,p),(1,1,m)]) fun q=>RK (vSt k 2 d q) fun r=>lA 2 r d fun t=>K t r l
theorem rcanonv {s:Bool} {t0:Value} {h:Hp} {nx:Nat} {K:KC'} (w:rcanon s t0 h nx K):Cv Q O s 243 [t0] h nx K:=Cv.byE rcanonL rfl w (by kernel_rfl)
def zDJ:List (List Nat):=[[0,1,4,5,6,7,8],[0,1,4,5,6,7,8,9],[0,1,4,5,6,7,8,9,10,11],[4,5,6,7,12]]
def zQX (s:Bool) (a0 a1 a4 a5 a6 a7 a8 a9:Value) (h:Hp) (nx:Nat) (N:KVl) (e2:KVl) (R:KVl):Prop:=nF a6 fun a=>bF .lss 3 a9 a fun b=>IF b (xF 3 a6 a9 fun c=>lA 3 h c fun d=>xF 3 a1 a8 fun e=>lA 3 h e fun f=>dF 380 [d,f] h nx fun g i j=>IF g (bF .add 3 a9 (iV 1) fun k=>N [a0,a1,a4,a5,a6,a7,a8,k] i j) (e2 [a0,a1,a4,a5,a6,a7,a8,a9] i j)) (e2 [a0,a1,a4,a5,a6,a7,a8,a9] h nx)
def zQW (s:Bool) (a0 a1 a4 a5 a6 a7 a8 a9 a10 a11:Value) (h:Hp) (nx:Nat) (N:KVl) (e4:KVl) (R:KVl):Prop:=bF .gtr 3 a11 a9 fun a=>IF a (bF .sub 3 a11 (iV 1) fun b=>xF 3 a6 b fun c=>lA 3 h c fun d=>xF 3 a6 a11 fun e=>RK (vSt h 3 e d) fun f=>bF .sub 3 a11 (iV 1) fun g=>xF 2 a7 g fun i=>lA 2 f i fun j=>xF 2 a7 a11 fun k=>RK (vSt f 2 k j) fun l=>bF .sub 3 a11 (iV 1) fun m=>N [a0,a1,a4,a5,a6,a7,a8,a9,a10,m] l nx) (e4 [a0,a1,a4,a5,a6,a7,a8,a9,a10,a11] h nx)
def zEy (s:Bool) (N:KVl) (e0:KVl) (R:KVl) (y0 y1 y4 y5 y6 y7 y8:Value) (h0:Hp) (n0:Nat):Prop:=bF .add 3 y8 (iV 1) fun a=>N [y0,y1,y4,y5,y6,y7,a] h0 n0
def zQY (s:Bool) (a0 a1 a4 a5 a6 a7 a8:Value) (h:Hp) (nx:Nat) (N:KVl) (e0:KVl) (R:KVl):Prop:=nF a1 fun a=>bF .lss 3 a8 a fun b=>IF b (Lp (fL Q O s zDJ 317 1) [a0,a1,a4,a5,a6,a7,a8,(iV 0)] h nx [(2,fun c d e=>xF 3 (nv c 1) (nv c 6) fun f=>aF 2 f fun g=>lF d g fun i=>cF s 381 [i] d e fun j k l=>nC [(iV 0),(.int .u64 0)] k l fun m n o=>RK (vSt n 2 m j) fun p=>nF (nv c 4) fun q=>bF .lss 3 (nv c 7) q fun r=>IF r (xF 3 (nv c 1) (nv c 6) fun t=>lA 3 p t fun u=>xF 3 (nv c 4) (nv c 7) fun v=>lA 3 p v fun w=>dF 380 [u,w] p o fun x y z=>RK (oUn .not x) fun aa=>IF aa (xF 2 (nv c 5) (nv c 7) fun ab=>lA 2 y ab fun ac=>lA 2 y m fun ad=>dF 382 [(nv c 0),ac,ad] y z fun ae af ag=>xF 2 (nv c 5) (nv c 7) fun ah=>RK (vSt af 2 ah ae) fun ai=>(zEy s N e0 R (nv c 0) (nv c 1) (nv c 2) (nv c 3) (nv c 4) (nv c 5) (nv c 6) ai ag)) (RK (vBld [(iV 0),(iV 0),(iV 0)] []) fun aj=>AR (vBsl 1 [(iV 0),(iV 0),(iV 0)] [(0,3,aj)]) y z fun ak al am=>EK (orR (zS 3 al am (nv c 4) ak)) fun an ao ap=>RK (vBld [(iV 0),(.int .u64 0)] []) fun aq=>AR (vBsl 1 [(iV 0),(.int .u64 0)] [(0,2,aq)]) ao ap fun ar au av=>EK (orR (zS 2 au av (nv c 5) ar)) fun aw ax ay=>nF an fun az=>bF .sub 3 az (iV 1) fun ba=>Lp (fL Q O s zDJ 317 2) [(nv c 0),(nv c 1),(nv c 2),(nv c 3),an,aw,(nv c 6),(nv c 7),m,ba] ax ay [(4,fun bb bc bd=>xF 3 (nv bb 1) (nv bb 6) fun be=>aF 0 be fun bf=>lF bc bf fun bg=>xF 3 (nv bb 1) (nv bb 6) fun bh=>aF 1 bh fun bi=>lF bc bi fun bj=>RK (vBld [(iV 0),(iV 0),(iV 0)] [(0,1,bg),(1,1,bj)]) fun bk=>xF 3 (nv bb 4) (nv bb 7) fun bl=>RK (vSt bc 3 bl bk) fun bm=>lA 2 bm (nv bb 8) fun bn=>xF 2 (nv bb 5) (nv bb 7) fun bo=>RK (vSt bm 2 bo bn) fun bp=>(zEy s N e0 R (nv bb 0) (nv bb 1) (nv bb 2) (nv bb 3) (nv bb 4) (nv bb 5) (nv bb 6) bp bd))] (fun _ _ _=>False))) (RK (vBld [(iV 0),(iV 0),(iV 0)] []) fun bq=>AR (vBsl 1 [(iV 0),(iV 0),(iV 0)] [(0,3,bq)]) p o fun br bs bt=>EK (orR (zS 3 bs bt (nv c 4) br)) fun bu bv bw=>RK (vBld [(iV 0),(.int .u64 0)] []) fun bx=>AR (vBsl 1 [(iV 0),(.int .u64 0)] [(0,2,bx)]) bv bw fun bz ca cb=>EK (orR (zS 2 ca cb (nv c 5) bz)) fun cc cd ce=>nF bu fun cf=>bF .sub 3 cf (iV 1) fun cg=>Lp (fL Q O s zDJ 317 2) [(nv c 0),(nv c 1),(nv c 2),(nv c 3),bu,cc,(nv c 6),(nv c 7),m,cg] cd ce [(4,fun ch ci cj=>xF 3 (nv ch 1) (nv ch 6) fun ck=>aF 0 ck fun cl=>lF ci cl fun cm=>xF 3 (nv ch 1) (nv ch 6) fun cn=>aF 1 cn fun co=>lF ci co fun cp=>RK (vBld [(iV 0),(iV 0),(iV 0)] [(0,1,cm),(1,1,cp)]) fun cq=>xF 3 (nv ch 4) (nv ch 7) fun cr=>RK (vSt ci 3 cr cq) fun cs=>lA 2 cs (nv ch 8) fun ct=>xF 2 (nv ch 5) (nv ch 7) fun cu=>RK (vSt cs 2 cu ct) fun cv=>(zEy s N e0 R (nv ch 0) (nv ch 1) (nv ch 2) (nv ch 3) (nv ch 4) (nv ch 5) (nv ch 6) cv cj))] (fun _ _ _=>False)))] (fun _ _ _=>False)) (e0 [a0,a1,a4,a5,a6,a7,a8] h nx)
def zQV (s:Bool) (a4 a5 a6 a7 a12:Value) (h:Hp) (nx:Nat) (N:KVl) (e6:KVl) (R:KVl):Prop:=nF a6 fun a=>bF .lss 3 a12 a fun b=>IF b (xF 2 a7 a12 fun c=>lA 2 h c fun d=>cF s 383 [d] h nx fun e f g=>RK (zo e 0) fun i=>RK (zo e 1) fun j=>RK (oUn .not j) fun k=>IF k (R [nS,(iV 12),a6,a7,a12] f g) (xF 3 a6 a12 fun l=>aF 2 l fun m=>RK (vSt f 1 m i) fun n=>bF .add 3 a12 (iV 1) fun o=>N [a4,a5,a6,a7,o] n g)) (e6 [a4,a5,a6,a7,a12] h nx)
def rcomb (s:Bool) (t0 t1:Value) (h:Hp) (nx:Nat) (K:KC'):Prop:=cF s 379 [t0] h nx fun a b c=>RK (oUn .not a) fun d=>IF d (K (.tuple ⟨[nS,(iV 8)]⟩) b c) (Lp (fL Q O s zDJ 317 0) [t0,t1,nS,(iV 0),nS,nS,(iV 0)] b c [(0,fun e f g=>Lp (fL Q O s zDJ 317 3) [(nv e 2),(nv e 3),(nv e 4),(nv e 5),(iV 0)] f g [(6,fun i j k=>K (.tuple ⟨[(nv i 2),(iV 0)]⟩) j k)] (fun l m n=>K (.tuple ⟨[(nv l 0),(nv l 1)]⟩) m n))] (fun _ _ _=>False))
theorem rcombb1 {s:Bool} {a0 a1 a4 a5 a6 a7 a8 a9:Value} {h:Hp} {nx:Nat} {N e2 R:KVl}:fL Q O s zDJ 317 1 [a0,a1,a4,a5,a6,a7,a8,a9] h nx N [(2,e2)] R=zQX s a0 a1 a4 a5 a6 a7 a8 a9 h nx N e2 R:=by kernel_rfl
theorem rcombb2 {s:Bool} {a0 a1 a4 a5 a6 a7 a8 a9 a10 a11:Value} {h:Hp} {nx:Nat} {N e4 R:KVl}:fL Q O s zDJ 317 2 [a0,a1,a4,a5,a6,a7,a8,a9,a10,a11] h nx N [(4,e4)] R=zQW s a0 a1 a4 a5 a6 a7 a8 a9 a10 a11 h nx N e4 R:=by kernel_rfl
theorem rcombb0 {s:Bool} {a0 a1 a4 a5 a6 a7 a8:Value} {h:Hp} {nx:Nat} {N e0 R:KVl}:fL Q O s zDJ 317 0 [a0,a1,a4,a5,a6,a7,a8] h nx N [(0,e0)] R=zQY s a0 a1 a4 a5 a6 a7 a8 h nx N e0 R:=by kernel_rfl
theorem rcombb3 {s:Bool} {a4 a5 a6 a7 a12:Value} {h:Hp} {nx:Nat} {N e6 R:KVl}:fL Q O s zDJ 317 3 [a4,a5,a6,a7,a12] h nx N [(6,e6)] R=zQV s a4 a5 a6 a7 a12 h nx N e6 R:=by kernel_rfl
theorem rcombv {s:Bool} {t0 t1:Value} {h:Hp} {nx:Nat} {K:KC'} (w:rcomb s t0 t1 h nx K):Cv Q O s 317 [t0,t1] h nx K:=Cv.byE zDJ rfl w (by kernel_rfl)
def risL:List (List Nat):=[]
def ris (s:Bool) (t0:Value) (h:Hp) (nx:Nat) (K:KC'):Prop:=bF .geq 259 t0 (iV 1) fun a=>IF a (bF .leq 259 t0 (iV 5) fun b=>K b h nx) (K (.bool false) h nx)
theorem risv {s:Bool} {t0:Value} {h:Hp} {nx:Nat} {K:KC'} (w:ris s t0 h nx K):Cv Q O s 379 [t0] h nx K:=Cv.byE risL rfl w (by kernel_rfl)
def belowL:List (List Nat):=[]
def below (s:Bool) (t0 t1:Value) (h:Hp) (nx:Nat) (K:KC'):Prop:=pC t0 h nx fun a b c=>pC t1 b c fun d e f=>aF 0 a fun g=>lF e g fun i=>aF 0 d fun j=>lF e j fun k=>bF .lss 3 i k fun l=>IF l (K (.bool true) e f) (aF 0 a fun m=>lF e m fun n=>aF 0 d fun o=>lF e o fun p=>bF .eql 3 n p fun q=>IF q (aF 1 a fun r=>lF e r fun t=>aF 1 d fun u=>lF e u fun v=>bF .lss 3 t v fun w=>K w e f) (K (.bool false) e f))
theorem belowv {s:Bool} {t0 t1:Value} {h:Hp} {nx:Nat} {K:KC'} (w:below s t0 t1 h nx K):Cv Q O s 380 [t0,t1] h nx K:=Cv.byE belowL rfl w (by kernel_rfl)
def rofL:List (List Nat):=[]
def rof (s:Bool) (t0:Value) (h:Hp) (nx:Nat) (K:KC'):Prop:=nC [(iV 0),(.int .u64 0)] h nx fun a b c=>bF .lss 2 t0 (iV 0) fun d=>IF d (RK (zDz (.int .u64) t0) fun e=>RK (vBld [(iV 0),(.int .u64 0)] [(0,1,(iV (-1))),(1,1,e)]) fun f=>RK (vSt b 2 a f) fun g=>lA 2 g a fun i=>K i g c) (RK (zDz (.int .u64) t0) fun j=>RK (vBld [(iV 0),(.int .u64 0)] [(1,1,j)]) fun k=>RK (vSt b 2 a k) fun l=>lA 2 l a fun m=>K m l c)
theorem rofv {s:Bool} {t0:Value} {h:Hp} {nx:Nat} {K:KC'} (w:rof s t0 h nx K):Cv Q O s 381 [t0] h nx K:=Cv.byE rofL rfl w (by kernel_rfl)
def raddL:List (List Nat):=[]
def zMo (s:Bool) (K:KC') (y4 y5 y6 y7 y9:Value) (h0:Hp) (n0:Nat):Prop:=IF y9 (lA 2 h0 y5 fun a=>lA 2 h0 y4 fun b=>cF s 427 [a,b] h0 n0 fun c d e=>bF .lss 3 c (iV 0) fun f=>IF f (lA 2 d y5 fun g=>RK (vSt d 2 y6 g) fun i=>lA 2 i y6 fun j=>K j i e) (lA 2 d y4 fun k=>RK (vSt d 2 y6 k) fun l=>lA 2 l y6 fun m=>K m l e)) (bF .eql 259 y7 (iV 2) fun n=>IF n (lA 2 h0 y4 fun o=>RK (vBld [(iV 0),(.int .u64 0)] []) fun p=>bF .neq 251 o p fun q=>IF q (cF s 428 [(.bool true)] h0 n0 fun r t u=>RK (vSt t 2 y6 r) fun v=>lA 2 v y6 fun w=>K w v u) (lA 2 h0 y5 fun x=>RK (vBld [(iV 0),(.int .u64 0)] []) fun y=>bF .neq 251 x y fun z=>cF s 428 [z] h0 n0 fun aa ab ac=>RK (vSt ab 2 y6 aa) fun ad=>lA 2 ad y6 fun ae=>K ae ad ac)) (bF .eql 259 y7 (iV 5) fun af=>IF af (lA 2 h0 y4 fun ag=>lA 2 h0 y5 fun ah=>cF s 429 [ag,ah] h0 n0 fun ai aj ak=>RK (vSt aj 2 y6 ai) fun al=>lA 2 al y6 fun am=>K am al ak) (RK (vBld [(iV 0),(.int .u64 0)] []) fun an=>RK (vSt h0 2 y6 an) fun ao=>lA 2 ao y6 fun ap=>K ap ao n0)))
def radd (s:Bool) (t0 t1 t2:Value) (h:Hp) (nx:Nat) (K:KC'):Prop:=pC t1 h nx fun a b c=>pC t2 b c fun d e f=>nC [(iV 0),(.int .u64 0)] e f fun g i j=>bF .eql 259 t0 (iV 1) fun k=>IF k ((zMo s K a d g t0 (.bool true) i j)) (bF .eql 259 t0 (iV 3) fun l=>IF l ((zMo s K a d g t0 (.bool true) i j)) (bF .eql 259 t0 (iV 4) fun m=>(zMo s K a d g t0 m i j)))
theorem raddv {s:Bool} {t0 t1 t2:Value} {h:Hp} {nx:Nat} {K:KC'} (w:radd s t0 t1 t2 h nx K):Cv Q O s 382 [t0,t1,t2] h nx K:=Cv.byE raddL rfl w (by kernel_rfl)
def rnarrowL:List (List Nat):=[]
def zCc (s:Bool) (K:KC') (y4 y23:Value) (h0:Hp) (n0:Nat):Prop:=IF y23 (K (.tuple ⟨[y4,(.bool true)]⟩) h0 n0) (K (.tuple ⟨[(iV 0),(.bool false)]⟩) h0 n0)
def zQA (s:Bool) (t0:Value) (h:Hp) (nx:Nat) (K:KC'):Prop:=pC t0 h nx fun a b c=>aF 1 a fun d=>lF b d fun e=>RK (zDz (.int .i64) e) fun f=>aF 0 a fun g=>lF b g fun i=>bF .eql 2 i (iV 0) fun j=>IF j (bF .geq 2 f (iV 0) fun k=>IF k ((zCc s K f (.bool true) b c)) (aF 0 a fun l=>lF b l fun m=>bF .eql 2 m (iV (-1)) fun n=>IF n (bF .lss 2 f (iV 0) fun o=>(zCc s K f o b c)) ((zCc s K f (.bool false) b c)))) (aF 0 a fun p=>lF b p fun q=>bF .eql 2 q (iV (-1)) fun r=>IF r (bF .lss 2 f (iV 0) fun t=>(zCc s K f t b c)) ((zCc s K f (.bool false) b c)))
theorem rnarrowv {s:Bool} {t0:Value} {h:Hp} {nx:Nat} {K:KC'} (w:zQA s t0 h nx K):Cv Q O s 383 [t0] h nx K:=Cv.byE rnarrowL rfl w (by kernel_rfl)
def rcmpL:List (List Nat):=[]
def zMk (s:Bool) (K:KC') (y2 y3 y23:Value) (h0:Hp) (n0:Nat):Prop:=IF y23 (K (iV (-1)) h0 n0) (lA 2 h0 y2 fun a=>lA 2 h0 y3 fun b=>bF .eql 251 a b fun c=>IF c (K (iV 0) h0 n0) (K (iV 1) h0 n0))
def rcmp (s:Bool) (t0 t1:Value) (h:Hp) (nx:Nat) (K:KC'):Prop:=pC t0 h nx fun a b c=>pC t1 b c fun d e f=>aF 0 a fun g=>lF e g fun i=>aF 0 d fun j=>lF e j fun k=>bF .lss 2 i k fun l=>IF l ((zMk s K a d (.bool true) e f)) (aF 0 a fun m=>lF e m fun n=>aF 0 d fun o=>lF e o fun p=>bF .eql 2 n p fun q=>IF q (aF 1 a fun r=>lF e r fun t=>aF 1 d fun u=>lF e u fun v=>bF .lss 221 t v fun w=>(zMk s K a d w e f)) ((zMk s K a d (.bool false) e f)))
theorem rcmpv {s:Bool} {t0 t1:Value} {h:Hp} {nx:Nat} {K:KC'} (w:rcmp s t0 t1 h nx K):Cv Q O s 427 [t0,t1] h nx K:=Cv.byE rcmpL rfl w (by kernel_rfl)
def matrixL:List (List Nat):=[]
def zCP (s:Bool) (K:KC') (y3 y4:Value) (h0:Hp) (n0:Nat):Prop:=lA 2 h0 y3 fun a=>cF s 132 [a] h0 n0 fun b c d=>RK (zo b 0) fun e=>RK (zo b 1) fun f=>RK (vSt c 5 y4 e) fun g=>lA 5 g y4 fun i=>K (.tuple ⟨[i,f]⟩) g d
def matrix (s:Bool) (t0 t1:Value) (h:Hp) (nx:Nat) (K:KC'):Prop:=pC t0 h nx fun a b c=>pC t1 b c fun d e f=>nC [(iV 0),(iV 0),nS,nS,nS] e f fun g i j=>lA 5 i a fun k=>cF s 128 [k] i j fun l m n=>bF .neq 34 l (iV 0) fun o=>IF o (RK (vBld [(iV 0),(iV 0),nS,nS,nS] []) fun p=>RK (vSt m 5 g p) fun q=>lA 5 q g fun r=>K (.tuple ⟨[r,l]⟩) q n) (aF 0 d fun t=>lF m t fun u=>aF 1 a fun v=>lF m v fun w=>bF .neq 3 u w fun x=>IF x (RK (vBld [(iV 0),(iV 0),nS,nS,nS] []) fun y=>RK (vSt m 5 g y) fun z=>lA 5 z g fun aa=>K (.tuple ⟨[aa,(iV 4)]⟩) z n) (lA 2 m d fun ab=>cF s 107 [ab] m n fun ac ad ae=>bF .neq 34 ac (iV 0) fun af=>IF af (RK (vBld [(iV 0),(iV 0),nS,nS,nS] []) fun ag=>RK (vSt ad 5 g ag) fun ah=>lA 5 ah g fun ai=>K (.tuple ⟨[ai,ac]⟩) ah ae) (aF 0 a fun aj=>lF ad aj fun ak=>bF .eql 22 ak (iV 5) fun al=>IF al (lA 2 ad d fun am=>cF s 129 [am] ad ae fun an ao ap=>RK (vSt ao 2 d an) fun aq=>lA 2 aq d fun ar=>cF s 130 [ar] aq ap fun au av aw=>RK (vSt av 2 d au) fun ax=>lA 2 ax d fun ay=>cF s 131 [ay] ax aw fun az ba bb=>RK (vSt ba 2 d az) fun bc=>(zCP s K d g bc bb)) (bF .eql 22 ak (iV 3) fun bd=>IF bd (lA 2 ad d fun be=>cF s 130 [be] ad ae fun bf bg bh=>RK (vSt bg 2 d bf) fun bi=>lA 2 bi d fun bj=>cF s 131 [bj] bi bh fun bk bl bm=>RK (vSt bl 2 d bk) fun bn=>(zCP s K d g bn bm)) (bF .eql 22 ak (iV 1) fun bo=>IF bo (lA 2 ad d fun bp=>cF s 131 [bp] ad ae fun bq br bs=>RK (vSt br 2 d bq) fun bt=>(zCP s K d g bt bs)) ((zCP s K d g ad ae)))))))
theorem matrixv {s:Bool} {t0 t1:Value} {h:Hp} {nx:Nat} {K:KC'} (w:matrix s t0 t1 h nx K):Cv Q O s 49 [t0,t1] h nx K:=Cv.byE matrixL rfl w (by kernel_rfl)
def pright0L:List (List Nat):=[]
def zBp (s:Bool) (K:KC') (y1:Value) (h0:Hp) (n0:Nat):Prop:=aF 4 y1 fun a=>lF h0 a fun b=>nF b fun c=>bF .gtr 3 c (iV 65536) fun d=>IF d (K (iV 5) h0 n0) (aF 4 y1 fun e=>lF h0 e fun f=>cF s 223 [f,(.func (.func 224) #[] #[])] h0 n0 fun g i j=>IF g (K (iV 7) i j) (K (iV 0) i j))
def zDK (s:Bool) (K:KC') (y1 y10:Value) (h0:Hp) (n0:Nat):Prop:=IF y10 (K (iV 8) h0 n0) (aF 1 y1 fun a=>lF h0 a fun b=>cF s 222 [b,(iV 4096)] h0 n0 fun c d e=>RK (oUn .not c) fun f=>IF f (K (iV 3) d e) (aF 0 y1 fun g=>lF d g fun i=>bF .eql 22 i (iV 4) fun j=>IF j (aF 3 y1 fun k=>lF d k fun l=>cF s 222 [l,(iV 8192)] d e fun m n o=>RK (oUn .not m) fun p=>IF p (K (iV 3) n o) (aF 2 y1 fun q=>lF n q fun r=>aF 1 y1 fun t=>lF n t fun u=>bF .sub 3 u (iV 1) fun v=>cF s 222 [r,v] n o fun w x y=>RK (oUn .not w) fun z=>IF z (K (iV 3) x y) ((zBp s K y1 x y)))) (bF .eql 22 i (iV 1) fun aa=>IF aa (aF 2 y1 fun ab=>lF d ab fun ac=>aF 1 y1 fun ad=>lF d ad fun ae=>bF .sub 3 ae (iV 1) fun af=>cF s 222 [ac,af] d e fun ag ah ai=>RK (oUn .not ag) fun aj=>IF aj (K (iV 3) ah ai) ((zBp s K y1 ah ai))) (bF .eql 22 i (iV 2) fun ak=>IF ak (aF 2 y1 fun al=>lF d al fun am=>aF 1 y1 fun an=>lF d an fun ao=>bF .sub 3 ao (iV 1) fun ap=>cF s 222 [am,ap] d e fun aq ar au=>RK (oUn .not aq) fun av=>IF av (K (iV 3) ar au) ((zBp s K y1 ar au))) ((zBp s K y1 d e))))))
def zQ4 (s:Bool) (t0:Value) (h:Hp) (nx:Nat) (K:KC'):Prop:=pC t0 h nx fun a b c=>aF 0 a fun d=>lF b d fun e=>bF .leq 22 e (iV 0) fun f=>IF f ((zDK s K a (.bool true) b c)) (aF 0 a fun g=>lF b g fun i=>bF .gtr 22 i (iV 5) fun j=>(zDK s K a j b c))
theorem pright0v {s:Bool} {t0:Value} {h:Hp} {nx:Nat} {K:KC'} (w:zQ4 s t0 h nx K):Cv Q O s 128 [t0] h nx K:=Cv.byE pright0L rfl w (by kernel_rfl)
def pwithinL:List (List Nat):=[]
def zQ1 (s:Bool) (t0 t1:Value) (h:Hp) (nx:Nat) (K:KC'):Prop:=bF .geq 3 t0 (iV 0) fun a=>IF a (bF .leq 3 t0 t1 fun b=>K b h nx) (K (.bool false) h nx)
theorem pwithinv {s:Bool} {t0 t1:Value} {h:Hp} {nx:Nat} {K:KC'} (w:zQ1 s t0 t1 h nx K):Cv Q O s 222 [t0,t1] h nx K:=Cv.byE pwithinL rfl w (by kernel_rfl)
def contsIL:List (List Nat):=[]
def contsI (s:Bool) (t0 t1:Value) (h:Hp) (nx:Nat) (K:KC'):Prop:=cF s 306 [t0,t1] h nx fun a b c=>bF .geq 3 a (iV 0) fun d=>K d b c
theorem contsIv {s:Bool} {t0 t1:Value} {h:Hp} {nx:Nat} {K:KC'} (w:contsI s t0 t1 h nx K):Cv Q O s 223 [t0,t1] h nx K:=Cv.byE contsIL rfl w (by kernel_rfl)
def pright1L:List (List Nat):=[]
def zQ3 (s:Bool) (t0:Value) (h:Hp) (nx:Nat) (K:KC'):Prop:=bF .lss 2 t0 (iV 0) fun a=>IF a (K (.bool true) h nx) (bF .gtr 2 t0 (iV 2147483647) fun b=>K b h nx)
theorem pright1v {s:Bool} {t0:Value} {h:Hp} {nx:Nat} {K:KC'} (w:zQ3 s t0 h nx K):Cv Q O s 224 [t0] h nx K:=Cv.byE pright1L rfl w (by kernel_rfl)
def zLX:List (List Nat):=[[0,1,4,7,8]]
def zNO (s:Bool) (a0 a1 a4 a7 a8:Value) (h:Hp) (nx:Nat) (N:KVl) (e0:KVl) (R:KVl):Prop:=bF .lss 3 a8 a7 fun a=>IF a (xF 1 a0 a8 fun b=>lF h b fun c=>CVK Q O s (zBZ h nx [c] a1) fun d e f=>IF d (R [a0,a1,a8,a7,a8] e f) (bF .add 3 a8 (iV 1) fun g=>N [a0,a1,a4,a7,g] e f)) (e0 [a0,a1,a4,a7,a8] h nx)
def indexI (s:Bool) (t0 t1:Value) (h:Hp) (nx:Nat) (K:KC'):Prop:=nF t0 fun a=>Lp (fL Q O s zLX 306 0) [t0,t1,(iV 0),a,(iV 0)] h nx [(0,fun b c d=>K (iV (-1)) c d)] (fun e f g=>K (nv e 2) f g)
theorem indexIb0 {s:Bool} {a0 a1 a4 a7 a8:Value} {h:Hp} {nx:Nat} {N e0 R:KVl}:fL Q O s zLX 306 0 [a0,a1,a4,a7,a8] h nx N [(0,e0)] R=zNO s a0 a1 a4 a7 a8 h nx N e0 R:=by kernel_rfl
theorem indexIv {s:Bool} {t0 t1:Value} {h:Hp} {nx:Nat} {K:KC'} (w:indexI s t0 t1 h nx K):Cv Q O s 306 [t0,t1] h nx K:=Cv.byE zLX rfl w (by kernel_rfl)
def simpleL:List (List Nat):=[]
def simple (s:Bool) (t0:Value) (h:Hp) (nx:Nat) (K:KC'):Prop:=pC t0 h nx fun a b c=>nC [(iV 0),nS] b c fun d e f=>lA 2 e a fun g=>cF s 225 [g,(.func (.func 226) #[] #[])] e f fun i j k=>RK (vSt j 2 d i) fun l=>lA 2 l d fun m=>K m l k
theorem simplev {s:Bool} {t0:Value} {h:Hp} {nx:Nat} {K:KC'} (w:simple s t0 h nx K):Cv Q O s 129 [t0] h nx K:=Cv.byE simpleL rfl w (by kernel_rfl)
def bothL:List (List Nat):=[]
def both (s:Bool) (t0:Value) (h:Hp) (nx:Nat) (K:KC'):Prop:=pC t0 h nx fun a b c=>nC [(iV 0),nS] b c fun d e f=>lA 2 e a fun g=>dF 229 [g] e f fun i j k=>aF 1 a fun l=>lF j l fun m=>gL l m (RK (cFld 1 none i) fun n=>AR (vBsl 2 [nS,nS] [(0,1,m),(1,1,n)]) j k fun o p q=>dF 228 [o] p q fun r t u=>aF 0 a fun v=>lF t v fun w=>gL v w (RK (vBld [(iV 0),nS] [(0,1,w),(1,1,r)]) fun x=>dF 227 [x] t u fun y z aa=>RK (vSt z 2 d y) fun ab=>lA 2 ab d fun ac=>K ac ab aa) 2 [j,e]) 1 [e]
theorem bothv {s:Bool} {t0:Value} {h:Hp} {nx:Nat} {K:KC'} (w:both s t0 h nx K):Cv Q O s 130 [t0] h nx K:=Cv.byE bothL rfl w (by kernel_rfl)
def plainL:List (List Nat):=[]
def plain (s:Bool) (t0:Value) (h:Hp) (nx:Nat) (K:KC'):Prop:=pC t0 h nx fun a b c=>nC [(iV 0),nS] b c fun d e f=>lA 2 e a fun g=>cF s 225 [g,(.func (.func 230) #[] #[])] e f fun i j k=>RK (vSt j 2 d i) fun l=>lA 2 l d fun m=>K m l k
theorem plainv {s:Bool} {t0:Value} {h:Hp} {nx:Nat} {K:KC'} (w:plain s t0 h nx K):Cv Q O s 131 [t0] h nx K:=Cv.byE plainL rfl w (by kernel_rfl)
def csrgL:List (List Nat):=[[1,2,5,16,17,18]]
def csrgl0 (s:Bool) (a1 a2 a5 a16 a17 a18:Value) (h:Hp) (nx:Nat) (N:KVl) (e0:KVl) (R:KVl):Prop:=bF .lss 3 a18 a17 fun a=>IF a (xF 3 a16 a18 fun b=>lA 3 h b fun c=>nC [(iV 0),(iV 0),(iV 0)] h nx fun d e f=>RK (vSt e 3 d c) fun g=>aF 0 d fun i=>lF g i fun j=>aF 1 d fun k=>lF g k fun l=>aF 2 d fun m=>lF g m fun n=>RK (vBld [(iV 0),(iV 0),(iV 0)] [(0,1,j),(1,1,l),(2,1,n)]) fun o=>AR (vBsl 1 [(iV 0),(iV 0),(iV 0)] [(0,3,o)]) g f fun p q r=>EK (orR (zS 3 q r a5 p)) fun t u v=>bF .add 3 a18 (iV 1) fun w=>N [a1,a2,t,a16,a17,w] u v) (e0 [a1,a2,a5,a16,a17,a18] h nx)
def csrg (s:Bool) (t0:Value) (h:Hp) (nx:Nat) (K:KC'):Prop:=pC t0 h nx fun a b c=>nC [(iV 0),(iV 0),nS,nS,nS] b c fun d e f=>lA 2 e a fun g=>cF s 107 [g] e f fun i j k=>bF .neq 34 i (iV 0) fun l=>IF l (RK (vBld [(iV 0),(iV 0),nS,nS,nS] []) fun m=>RK (vSt j 5 d m) fun n=>lA 5 n d fun o=>K (.tuple ⟨[o,i]⟩) n k) (lA 2 j a fun p=>cF s 229 [p] j k fun q r t=>RK (cFld 1 none q) fun u=>nF u fun v=>Lp (fL Q O s csrgL 132 0) [a,d,nS,u,v,(iV 0)] r t [(0,fun w x y=>aF 0 (nv w 0) fun z=>lF x z fun aa=>aF 0 (nv w 0) fun ab=>lF x ab fun ac=>cF s 231 [aa,ac,(nv w 2)] x y fun ad ae af=>RK (vSt ae 5 (nv w 1) ad) fun ag=>lA 5 ag (nv w 1) fun ah=>K (.tuple ⟨[ah,(iV 0)]⟩) ag af)] (fun _ _ _=>False))
theorem csrgb0 {s:Bool} {a1 a2 a5 a16 a17 a18:Value} {h:Hp} {nx:Nat} {N e0 R:KVl}:fL Q O s csrgL 132 0 [a1,a2,a5,a16,a17,a18] h nx N [(0,e0)] R=csrgl0 s a1 a2 a5 a16 a17 a18 h nx N e0 R:=by kernel_rfl
theorem csrgv {s:Bool} {t0:Value} {h:Hp} {nx:Nat} {K:KC'} (w:csrg s t0 h nx K):Cv Q O s 132 [t0] h nx K:=Cv.byE csrgL rfl w (by kernel_rfl)
def zHE:List (List Nat):=[[0,3,9,10,11],[6,25,26,27]]
def zN7 (s:Bool) (a0 a3 a9 a10 a11:Value) (h:Hp) (nx:Nat) (N:KVl) (e0:KVl) (R:KVl):Prop:=bF .lss 3 a11 a10 fun a=>IF a (xF 1 a9 a11 fun b=>lF h b fun c=>nF c fun d=>bF .add 3 a3 d fun e=>bF .lss 3 e (iV 0) fun f=>IF f (RK (.ok (Value.iface 9 (.string ⟨#[108,101,110,32,111,117,116,32,111,102,32,114,97,110,103,101]⟩))) fun g=>False) (bF .add 3 a11 (iV 1) fun i=>N [a0,e,a9,a10,i] h nx)) (e0 [a0,a3,a9,a10,a11] h nx)
def zN6 (s:Bool) (a6 a25 a26 a27:Value) (h:Hp) (nx:Nat) (N:KVl) (e2:KVl) (R:KVl):Prop:=bF .lss 3 a27 a26 fun a=>IF a (xF 1 a25 a27 fun b=>lF h b fun c=>EK (orR (zS 3 h nx a6 c)) fun d e f=>bF .add 3 a27 (iV 1) fun g=>N [d,a25,a26,g] e f) (e2 [a6,a25,a26,a27] h nx)
def concat (s:Bool) (t0:Value) (h:Hp) (nx:Nat) (K:KC'):Prop:=nF t0 fun a=>Lp (fL Q O s zHE 228 0) [t0,(iV 0),t0,a,(iV 0)] h nx [(0,fun b c d=>cF s 308 [nS,(nv b 1)] c d fun e f g=>nF (nv b 0) fun i=>Lp (fL Q O s zHE 228 1) [e,(nv b 0),i,(iV 0)] f g [(2,fun j k l=>K (nv j 0) k l)] (fun _ _ _=>False))] (fun _ _ _=>False)
theorem concatb0 {s:Bool} {a0 a3 a9 a10 a11:Value} {h:Hp} {nx:Nat} {N e0 R:KVl}:fL Q O s zHE 228 0 [a0,a3,a9,a10,a11] h nx N [(0,e0)] R=zN7 s a0 a3 a9 a10 a11 h nx N e0 R:=by kernel_rfl
theorem concatb1 {s:Bool} {a6 a25 a26 a27:Value} {h:Hp} {nx:Nat} {N e2 R:KVl}:fL Q O s zHE 228 1 [a6,a25,a26,a27] h nx N [(2,e2)] R=zN6 s a6 a25 a26 a27 h nx N e2 R:=by kernel_rfl
theorem concatv {s:Bool} {t0:Value} {h:Hp} {nx:Nat} {K:KC'} (w:concat s t0 h nx K):Cv Q O s 228 [t0] h nx K:=Cv.byE zHE rfl w (by kernel_rfl)
def turnL:List (List Nat):=[]
def turn (s:Bool) (t0:Value) (h:Hp) (nx:Nat) (K:KC'):Prop:=pC t0 h nx fun a b c=>nC [(iV 0),nS] b c fun d e f=>lA 2 e a fun g=>cF s 225 [g,(.func (.func 309) #[] #[])] e f fun i j k=>RK (vSt j 2 d i) fun l=>lA 2 l d fun m=>K m l k
theorem turnv {s:Bool} {t0:Value} {h:Hp} {nx:Nat} {K:KC'} (w:turn s t0 h nx K):Cv Q O s 229 [t0] h nx K:=Cv.byE turnL rfl w (by kernel_rfl)
def madeL:List (List Nat):=[[1,2,4,5,11,12,13]]
def madel0 (s:Bool) (a1 a2 a4 a5 a11 a12 a13:Value) (h:Hp) (nx:Nat) (N:KVl) (e0:KVl) (R:KVl):Prop:=bF .lss 3 a13 a12 fun a=>IF a (xF 3 a11 a13 fun b=>lA 3 h b fun c=>nC [(iV 0),(iV 0),(iV 0)] h nx fun d e f=>RK (vSt e 3 d c) fun g=>lA 3 g d fun i=>CVK Q O s (zBZ g f [i] a1) fun j k l=>RK (zo j 0) fun m=>RK (zo j 1) fun n=>nC [(iV 0),(iV 0),(iV 0)] k l fun o p q=>RK (vSt p 3 o m) fun r=>IF n (lA 3 r o fun t=>AR (vBsl 1 [(iV 0),(iV 0),(iV 0)] [(0,3,t)]) r q fun u v w=>EK (orR (zS 3 v w a5 u)) fun x y z=>bF .add 3 a13 (iV 1) fun aa=>N [a1,a2,a4,x,a11,a12,aa] y z) (bF .add 3 a13 (iV 1) fun ab=>N [a1,a2,a4,a5,a11,a12,ab] r q)) (e0 [a1,a2,a4,a5,a11,a12,a13] h nx)
def made (s:Bool) (t0 t1:Value) (h:Hp) (nx:Nat) (K:KC'):Prop:=pC t0 h nx fun a b c=>nC [(iV 0),nS] b c fun d e f=>aF 1 a fun g=>lF e g fun i=>nF i fun j=>Lp (fL Q O s madeL 225 0) [t1,a,d,nS,i,j,(iV 0)] e f [(0,fun k l m=>aF 0 (nv k 1) fun n=>lF l n fun o=>RK (vBld [(iV 0),nS] [(0,1,o),(1,1,(nv k 3))]) fun p=>cF s 227 [p] l m fun q r t=>RK (vSt r 2 (nv k 2) q) fun u=>lA 2 u (nv k 2) fun v=>K v u t)] (fun _ _ _=>False)
theorem madeb0 {s:Bool} {a1 a2 a4 a5 a11 a12 a13:Value} {h:Hp} {nx:Nat} {N e0 R:KVl}:fL Q O s madeL 225 0 [a1,a2,a4,a5,a11,a12,a13] h nx N [(0,e0)] R=madel0 s a1 a2 a4 a5 a11 a12 a13 h nx N e0 R:=by kernel_rfl
theorem madev {s:Bool} {t0 t1:Value} {h:Hp} {nx:Nat} {K:KC'} (w:made s t0 t1 h nx K):Cv Q O s 225 [t0,t1] h nx K:=Cv.byE madeL rfl w (by kernel_rfl)
def simple1L:List (List Nat):=[]
def zPe (s:Bool) (t0:Value) (h:Hp) (nx:Nat) (K:KC'):Prop:=pC t0 h nx fun a b c=>nC [(iV 0),(iV 0),(iV 0)] b c fun d e f=>lA 3 e a fun g=>RK (vSt e 3 d g) fun i=>aF 0 a fun j=>lF i j fun k=>gL j k (aF 1 a fun l=>lF i l fun m=>gL l m (bF .neq 3 k m fun n=>lA 3 i d fun o=>K (.tuple ⟨[o,n]⟩) i f) 1 [e]) 1 [e]
theorem simple1v {s:Bool} {t0:Value} {h:Hp} {nx:Nat} {K:KC'} (w:zPe s t0 h nx K):Cv Q O s 226 [t0] h nx K:=Cv.byE simple1L rfl w (by kernel_rfl)
def plain1L:List (List Nat):=[]
def plain1 (s:Bool) (t0:Value) (h:Hp) (nx:Nat) (K:KC'):Prop:=pC t0 h nx fun a b c=>nC [(iV 0),(iV 0),(iV 0)] b c fun d e f=>aF 2 a fun g=>RK (vSt e 1 g (iV 1)) fun i=>lA 3 i a fun j=>RK (vSt i 3 d j) fun k=>lA 3 k d fun l=>K (.tuple ⟨[l,(.bool true)]⟩) k f
theorem plain1v {s:Bool} {t0:Value} {h:Hp} {nx:Nat} {K:KC'} (w:plain1 s t0 h nx K):Cv Q O s 230 [t0] h nx K:=Cv.byE plain1L rfl w (by kernel_rfl)
def zKb:List (List Nat):=[[0,6,7,14,15,16],[6,7,44,45]]
def zS8 (s:Bool) (a0 a6 a7 a14 a15 a16:Value) (h:Hp) (nx:Nat) (N:KVl) (e0:KVl) (R:KVl):Prop:=bF .lss 3 a16 a15 fun a=>IF a (xF 3 a14 a16 fun b=>lA 3 h b fun c=>nC [(iV 0),(iV 0),(iV 0)] h nx fun d e f=>RK (vSt e 3 d c) fun g=>aF 2 a7 fun i=>lF g i fun j=>aF 0 d fun k=>lF g k fun l=>bF .add 3 l (iV 1) fun m=>xF 1 j m fun n=>lF g n fun o=>bF .add 3 o (iV 1) fun p=>xF 1 j m fun q=>RK (vSt g 1 q p) fun r=>aF 3 a7 fun t=>lF r t fun u=>aF 1 d fun v=>lF r v fun w=>AR (vBsl 1 [(iV 0)] [(0,1,w)]) r f fun x y z=>EK (orR (zS 1 y z u x)) fun aa ab ac=>aF 3 a7 fun ad=>RK (vSt ab 1 ad aa) fun ae=>aF 4 a7 fun af=>lF ae af fun ag=>aF 2 d fun ah=>lF ae ah fun ai=>AR (vBsl 1 [(iV 0)] [(0,1,ai)]) ae ac fun aj ak al=>EK (orR (zS 1 ak al ag aj)) fun am an ao=>aF 4 a7 fun ap=>RK (vSt an 1 ap am) fun aq=>bF .add 3 a16 (iV 1) fun ar=>N [a0,a6,a7,a14,a15,ar] aq ao) (e0 [a0,a6,a7,a14,a15,a16] h nx)
def zS7 (s:Bool) (a6 a7 a44 a45:Value) (h:Hp) (nx:Nat) (N:KVl) (e2:KVl) (R:KVl):Prop:=bF .lss 3 a45 a44 fun a=>IF a (aF 2 a7 fun b=>lF h b fun c=>bF .add 3 a45 (iV 1) fun d=>xF 1 c d fun e=>lF h e fun f=>aF 2 a7 fun g=>lF h g fun i=>xF 1 i a45 fun j=>lF h j fun k=>bF .add 3 f k fun l=>xF 1 c d fun m=>RK (vSt h 1 m l) fun n=>bF .add 3 a45 (iV 1) fun o=>N [a6,a7,a44,o] n nx) (e2 [a6,a7,a44,a45] h nx)
def built (s:Bool) (t0 t1 t2:Value) (h:Hp) (nx:Nat) (K:KC'):Prop:=nC [(iV 0),(iV 0),nS,nS,nS] h nx fun a b c=>cF s 310 [t0,t1] b c fun d e f=>nC [(iV 0),(iV 0),nS,nS,nS] e f fun g i j=>RK (vSt i 5 g d) fun k=>nF t2 fun l=>Lp (fL Q O s zKb 231 0) [t0,a,g,t2,l,(iV 0)] k j [(0,fun m n o=>Lp (fL Q O s zKb 231 1) [(nv m 1),(nv m 2),(nv m 0),(iV 0)] n o [(2,fun p q r=>lA 5 q (nv p 1) fun t=>RK (vSt q 5 (nv p 0) t) fun u=>lA 5 u (nv p 0) fun v=>K v u r)] (fun _ _ _=>False))] (fun _ _ _=>False)
theorem builtb0 {s:Bool} {a0 a6 a7 a14 a15 a16:Value} {h:Hp} {nx:Nat} {N e0 R:KVl}:fL Q O s zKb 231 0 [a0,a6,a7,a14,a15,a16] h nx N [(0,e0)] R=zS8 s a0 a6 a7 a14 a15 a16 h nx N e0 R:=by kernel_rfl
theorem builtb1 {s:Bool} {a6 a7 a44 a45:Value} {h:Hp} {nx:Nat} {N e2 R:KVl}:fL Q O s zKb 231 1 [a6,a7,a44,a45] h nx N [(2,e2)] R=zS7 s a6 a7 a44 a45 h nx N e2 R:=by kernel_rfl
theorem builtv {s:Bool} {t0 t1 t2:Value} {h:Hp} {nx:Nat} {K:KC'} (w:built s t0 t1 t2 h nx K):Cv Q O s 231 [t0,t1,t2] h nx K:=Cv.byE zKb rfl w (by kernel_rfl)
def growL:List (List Nat):=[]
def grow (s:Bool) (t0 t1:Value) (h:Hp) (nx:Nat) (K:KC'):Prop:=bF .lss 3 t1 (iV 0) fun a=>IF a (RK (.ok (Value.iface 9 (.string ⟨#[99,97,110,110,111,116,32,98,101,32,110,101,103,97,116,105,118,101]⟩))) fun b=>False) (RK (vCap Q (.builtin .cap) [26] [t0]) fun c=>nF t0 fun d=>bF .sub 3 c d fun e=>bF .sub 3 t1 e fun f=>bF .gtr 3 f (iV 0) fun g=>IF g (RK (vCap Q (.builtin .cap) [26] [t0]) fun i=>RK (vSl 3 t0 none (some i) none) fun j=>EK (orR (zCV Q .append [26,3] h nx [j,f])) fun k l m=>nF t0 fun n=>RK (vSl 3 k none (some n) none) fun o=>K o l m) (K t0 h nx))
theorem growv {s:Bool} {t0 t1:Value} {h:Hp} {nx:Nat} {K:KC'} (w:grow s t0 t1 h nx K):Cv Q O s 308 [t0,t1] h nx K:=Cv.byE growL rfl w (by kernel_rfl)
def turnedL:List (List Nat):=[]
def turned (s:Bool) (t0:Value) (h:Hp) (nx:Nat) (K:KC'):Prop:=pC t0 h nx fun a b c=>nC [(iV 0),(iV 0),(iV 0)] b c fun d e f=>aF 1 a fun g=>lF e g fun i=>aF 0 a fun j=>lF e j fun k=>aF 2 a fun l=>lF e l fun m=>RK (vBld [(iV 0),(iV 0),(iV 0)] [(0,1,i),(1,1,k),(2,1,m)]) fun n=>RK (vSt e 3 d n) fun o=>lA 3 o d fun p=>K (.tuple ⟨[p,(.bool true)]⟩) o f
theorem turnedv {s:Bool} {t0:Value} {h:Hp} {nx:Nat} {K:KC'} (w:turned s t0 h nx K):Cv Q O s 309 [t0] h nx K:=Cv.byE turnedL rfl w (by kernel_rfl)
def emptyL:List (List Nat):=[]
def empty (s:Bool) (t0 t1:Value) (h:Hp) (nx:Nat) (K:KC'):Prop:=nC [(iV 0),(iV 0),nS,nS,nS] h nx fun a b c=>bF .add 3 t0 (iV 1) fun d=>AR (vMks [(iV 0)] d d) b c fun e f g=>RK (vBld [(iV 0),(iV 0),nS,nS,nS] [(0,1,t0),(1,1,t1),(2,1,e)]) fun i=>RK (vSt f 5 a i) fun j=>lA 5 j a fun k=>K k j g
theorem emptyv {s:Bool} {t0 t1:Value} {h:Hp} {nx:Nat} {K:KC'} (w:empty s t0 t1 h nx K):Cv Q O s 310 [t0,t1] h nx K:=Cv.byE emptyL rfl w (by kernel_rfl)
def rmatrixL:List (List Nat):=[]
def zBX (s:Bool) (K:KC') (y3 y4:Value) (h0:Hp) (n0:Nat):Prop:=lA 2 h0 y3 fun a=>cF s 150 [a] h0 n0 fun b c d=>RK (zo b 0) fun e=>RK (zo b 1) fun f=>RK (vSt c 5 y4 e) fun g=>lA 5 g y4 fun i=>K (.tuple ⟨[i,f]⟩) g d
def zQC (s:Bool) (t0 t1:Value) (h:Hp) (nx:Nat) (K:KC'):Prop:=pC t0 h nx fun a b c=>pC t1 b c fun d e f=>nC [(iV 0),(iV 0),nS,nS,nS] e f fun g i j=>lA 5 i a fun k=>cF s 146 [k] i j fun l m n=>bF .neq 34 l (iV 0) fun o=>IF o (RK (vBld [(iV 0),(iV 0),nS,nS,nS] []) fun p=>RK (vSt m 5 g p) fun q=>lA 5 q g fun r=>K (.tuple ⟨[r,l]⟩) q n) (aF 0 d fun t=>lF m t fun u=>aF 1 a fun v=>lF m v fun w=>bF .neq 3 u w fun x=>IF x (RK (vBld [(iV 0),(iV 0),nS,nS,nS] []) fun y=>RK (vSt m 5 g y) fun z=>lA 5 z g fun aa=>K (.tuple ⟨[aa,(iV 4)]⟩) z n) (lA 2 m d fun ab=>cF s 114 [ab] m n fun ac ad ae=>bF .neq 34 ac (iV 0) fun af=>IF af (RK (vBld [(iV 0),(iV 0),nS,nS,nS] []) fun ag=>RK (vSt ad 5 g ag) fun ah=>lA 5 ah g fun ai=>K (.tuple ⟨[ai,ac]⟩) ah ae) (aF 0 a fun aj=>lF ad aj fun ak=>bF .eql 22 ak (iV 1) fun al=>IF al (lA 2 ad d fun am=>cF s 147 [am] ad ae fun an ao ap=>RK (vSt ao 2 d an) fun aq=>(zBX s K d g aq ap)) (bF .eql 22 ak (iV 3) fun ar=>IF ar (lA 2 ad d fun au=>cF s 148 [au] ad ae fun av aw ax=>cF s 147 [av] aw ax fun ay az ba=>RK (vSt az 2 d ay) fun bb=>(zBX s K d g bb ba)) (bF .eql 22 ak (iV 5) fun bc=>IF bc (lA 2 ad d fun bd=>cF s 149 [bd] ad ae fun be bf bg=>cF s 148 [be] bf bg fun bh bi bj=>cF s 147 [bh] bi bj fun bk bl bm=>RK (vSt bl 2 d bk) fun bn=>(zBX s K d g bn bm)) ((zBX s K d g ad ae)))))))
theorem rmatrixv {s:Bool} {t0 t1:Value} {h:Hp} {nx:Nat} {K:KC'} (w:zQC s t0 t1 h nx K):Cv Q O s 57 [t0,t1] h nx K:=Cv.byE rmatrixL rfl w (by kernel_rfl)
def zGX:List (List Nat):=[[1,2,3]]
def zHe (s:Bool) (a1 a2 a3:Value) (h:Hp) (nx:Nat) (N:KVl) (e0:KVl) (R:KVl):Prop:=aF 4 a1 fun a=>lF h a fun b=>nF b fun c=>bF .lss 3 a3 c fun d=>IF d (aF 4 a1 fun e=>lF h e fun f=>xF 1 f a3 fun g=>lF h g fun i=>bF .lss 2 i (iV 0) fun j=>IF j (R [a1,(iV 7),a3] h nx) (aF 4 a1 fun k=>lF h k fun l=>xF 1 l a3 fun m=>lF h m fun n=>bF .gtr 2 n (iV 2147483647) fun o=>IF o (R [a1,(iV 7),a3] h nx) (bF .add 3 a3 (iV 1) fun p=>N [a1,a2,p] h nx))) (e0 [a1,a2,a3] h nx)
def zw (s:Bool) (K:KC') (y1 y51:Value) (h0:Hp) (n0:Nat):Prop:=IF y51 (K (iV 3) h0 n0) (aF 4 y1 fun a=>lF h0 a fun b=>nF b fun c=>bF .gtr 3 c (iV 65536) fun d=>IF d (K (iV 5) h0 n0) (Lp (fL Q O s zGX 146 0) [y1,(iV 0),(iV 0)] h0 n0 [(0,fun e f g=>K (iV 0) f g)] (fun i j k=>K (nv i 1) j k)))
def zCb (s:Bool) (K:KC') (y1 y11:Value) (h0:Hp) (n0:Nat):Prop:=IF y11 (K (iV 8) h0 n0) (aF 1 y1 fun a=>lF h0 a fun b=>bF .lss 3 b (iV 0) fun c=>IF c ((zw s K y1 (.bool true) h0 n0)) (aF 1 y1 fun d=>lF h0 d fun e=>bF .gtr 3 e (iV 4096) fun f=>IF f ((zw s K y1 (.bool true) h0 n0)) (aF 0 y1 fun g=>lF h0 g fun i=>cF s 156 [i] h0 n0 fun j k l=>IF j (aF 2 y1 fun m=>lF k m fun n=>bF .lss 3 n (iV 0) fun o=>IF o ((zw s K y1 (.bool true) k l)) (aF 2 y1 fun p=>lF k p fun q=>aF 1 y1 fun r=>lF k r fun t=>bF .geq 3 q t fun u=>IF u ((zw s K y1 (.bool true) k l)) (aF 0 y1 fun v=>lF k v fun w=>bF .eql 22 w (iV 4) fun x=>IF x (aF 3 y1 fun y=>lF k y fun z=>bF .lss 3 z (iV 0) fun aa=>IF aa ((zw s K y1 (.bool true) k l)) (aF 3 y1 fun ab=>lF k ab fun ac=>bF .gtr 3 ac (iV 8192) fun ad=>(zw s K y1 ad k l))) ((zw s K y1 (.bool false) k l))))) (aF 0 y1 fun ae=>lF k ae fun af=>bF .eql 22 af (iV 4) fun ag=>IF ag (aF 3 y1 fun ah=>lF k ah fun ai=>bF .lss 3 ai (iV 0) fun aj=>IF aj ((zw s K y1 (.bool true) k l)) (aF 3 y1 fun ak=>lF k ak fun al=>bF .gtr 3 al (iV 8192) fun am=>(zw s K y1 am k l))) ((zw s K y1 (.bool false) k l))))))
def zM9 (s:Bool) (t0:Value) (h:Hp) (nx:Nat) (K:KC'):Prop:=pC t0 h nx fun a b c=>aF 0 a fun d=>lF b d fun e=>bF .lss 22 e (iV 1) fun f=>IF f ((zCb s K a (.bool true) b c)) (aF 0 a fun g=>lF b g fun i=>bF .gtr 22 i (iV 5) fun j=>(zCb s K a j b c))
theorem zOC {s:Bool} {a1 a2 a3:Value} {h:Hp} {nx:Nat} {N e0 R:KVl}:fL Q O s zGX 146 0 [a1,a2,a3] h nx N [(0,e0)] R=zHe s a1 a2 a3 h nx N e0 R:=by kernel_rfl
theorem zPv {s:Bool} {t0:Value} {h:Hp} {nx:Nat} {K:KC'} (w:zM9 s t0 h nx K):Cv Q O s 146 [t0] h nx K:=Cv.byE zGX rfl w (by kernel_rfl)
def rfromL:List (List Nat):=[]
def rfrom (s:Bool) (t0:Value) (h:Hp) (nx:Nat) (K:KC'):Prop:=bF .eql 22 t0 (iV 1) fun a=>IF a (K (.bool true) h nx) (bF .eql 22 t0 (iV 2) fun b=>IF b (K (.bool true) h nx) (bF .eql 22 t0 (iV 4) fun c=>K c h nx))
theorem rfromv {s:Bool} {t0:Value} {h:Hp} {nx:Nat} {K:KC'} (w:rfrom s t0 h nx K):Cv Q O s 156 [t0] h nx K:=Cv.byE rfromL rfl w (by kernel_rfl)
def zPr:List (List Nat):=[[1,2,3,4]]
def zPp (s:Bool) (a1 a2 a3 a4:Value) (h:Hp) (nx:Nat) (N:KVl) (e0:KVl) (R:KVl):Prop:=aF 1 a1 fun a=>lF h a fun b=>nF b fun c=>bF .lss 3 a4 c fun d=>IF d (aF 1 a1 fun e=>lF h e fun f=>xF 3 f a4 fun g=>lA 3 h g fun i=>nC [(iV 0),(iV 0),(iV 0)] h nx fun j k l=>RK (vSt k 3 j i) fun m=>aF 1 a3 fun n=>lF m n fun o=>aF 1 j fun p=>lF m p fun q=>aF 0 j fun r=>lF m r fun t=>aF 2 j fun u=>lF m u fun v=>RK (vBld [(iV 0),(iV 0),(iV 0)] [(0,1,q),(1,1,t),(2,1,v)]) fun w=>AR (vBsl 1 [(iV 0),(iV 0),(iV 0)] [(0,3,w)]) m l fun x y z=>EK (orR (zS 3 y z o x)) fun aa ab ac=>aF 1 a3 fun ad=>RK (vSt ab 1 ad aa) fun ae=>bF .add 3 a4 (iV 1) fun af=>N [a1,a2,a3,af] ae ac) (e0 [a1,a2,a3,a4] h nx)
def rturn (s:Bool) (t0:Value) (h:Hp) (nx:Nat) (K:KC'):Prop:=pC t0 h nx fun a b c=>nC [(iV 0),nS] b c fun d e f=>aF 0 a fun g=>lF e g fun i=>RK (vBld [(iV 0),nS] [(0,1,i)]) fun j=>nC [(iV 0),nS] e f fun k l m=>RK (vSt l 2 k j) fun n=>Lp (fL Q O s zPr 244 0) [a,d,k,(iV 0)] n m [(0,fun o p q=>lA 2 p (nv o 2) fun r=>cF s 243 [r] p q fun t u v=>RK (vSt u 2 (nv o 1) t) fun w=>lA 2 w (nv o 1) fun x=>K x w v)] (fun _ _ _=>False)
theorem rturnb0 {s:Bool} {a1 a2 a3 a4:Value} {h:Hp} {nx:Nat} {N e0 R:KVl}:fL Q O s zPr 244 0 [a1,a2,a3,a4] h nx N [(0,e0)] R=zPp s a1 a2 a3 a4 h nx N e0 R:=by kernel_rfl
theorem rturnv {s:Bool} {t0:Value} {h:Hp} {nx:Nat} {K:KC'} (w:rturn s t0 h nx K):Cv Q O s 244 [t0] h nx K:=Cv.byE zPr rfl w (by kernel_rfl)
def rbothL:List (List Nat):=[]
def rboth (s:Bool) (t0:Value) (h:Hp) (nx:Nat) (K:KC'):Prop:=pC t0 h nx fun a b c=>nC [(iV 0),nS] b c fun d e f=>lA 2 e a fun g=>cF s 244 [g] e f fun i j k=>nC [(iV 0),nS] j k fun l m n=>RK (vSt m 2 l i) fun o=>aF 1 l fun p=>lF o p fun q=>aF 1 a fun r=>lF o r fun t=>EK (orR (zS 3 o n q t)) fun u v w=>aF 1 l fun x=>RK (vSt v 1 x u) fun y=>lA 2 y l fun z=>cF s 243 [z] y w fun aa ab ac=>RK (vSt ab 2 d aa) fun ad=>lA 2 ad d fun ae=>K ae ad ac
theorem rbothv {s:Bool} {t0:Value} {h:Hp} {nx:Nat} {K:KC'} (w:rboth s t0 h nx K):Cv Q O s 148 [t0] h nx K:=Cv.byE rbothL rfl w (by kernel_rfl)
def zIW:List (List Nat):=[[1,2,3,4]]
def zJW (s:Bool) (a1 a2 a3 a4:Value) (h:Hp) (nx:Nat) (N:KVl) (e0:KVl) (R:KVl):Prop:=aF 1 a1 fun a=>lF h a fun b=>nF b fun c=>bF .lss 3 a4 c fun d=>IF d (aF 1 a1 fun e=>lF h e fun f=>xF 3 f a4 fun g=>aF 0 g fun i=>lF h i fun j=>aF 1 a1 fun k=>lF h k fun l=>xF 3 l a4 fun m=>aF 1 m fun n=>lF h n fun o=>bF .neq 3 j o fun p=>IF p (aF 1 a3 fun q=>lF h q fun r=>aF 1 a1 fun t=>lF h t fun u=>xF 3 u a4 fun v=>lA 3 h v fun w=>AR (vBsl 1 [(iV 0),(iV 0),(iV 0)] [(0,3,w)]) h nx fun x y z=>EK (orR (zS 3 y z r x)) fun aa ab ac=>z≤ac∧aF 1 a3 fun ad=>RK (vSt ab 1 ad aa) fun ae=>bF .add 3 a4 (iV 1) fun af=>N [a1,a2,a3,af] ae ac) (bF .add 3 a4 (iV 1) fun ag=>N [a1,a2,a3,ag] h nx)) (e0 [a1,a2,a3,a4] h nx)
def zPu (s:Bool) (t0:Value) (h:Hp) (nx:Nat) (K:KC'):Prop:=pC t0 h nx fun a b c=>nC [(iV 0),nS] b c fun d e f=>aF 0 a fun g=>lF e g fun i=>RK (vBld [(iV 0),nS] [(0,1,i)]) fun j=>nC [(iV 0),nS] e f fun k l m=>RK (vSt l 2 k j) fun n=>Lp (fL Q O s zIW 149 0) [a,d,k,(iV 0)] n m [(0,fun o p q=>lA 2 p (nv o 2) fun r=>cF s 243 [r] p q fun t u v=>RK (vSt u 2 (nv o 1) t) fun w=>lA 2 w (nv o 1) fun x=>K x w v)] (fun _ _ _=>False)
theorem zPs {s:Bool} {a1 a2 a3 a4:Value} {h:Hp} {nx:Nat} {N e0 R:KVl}:fL Q O s zIW 149 0 [a1,a2,a3,a4] h nx N [(0,e0)] R=zJW s a1 a2 a3 a4 h nx N e0 R:=by kernel_rfl
theorem rsimplev {s:Bool} {t0:Value} {h:Hp} {nx:Nat} {K:KC'} (w:zPu s t0 h nx K):Cv Q O s 149 [t0] h nx K:=Cv.byE zIW rfl w (by kernel_rfl)
def zKs:List (List Nat):=[[1,2,3,4]]
def zMa (s:Bool) (a1 a2 a3 a4:Value) (h:Hp) (nx:Nat) (N:KVl) (e0:KVl) (R:KVl):Prop:=aF 1 a1 fun a=>lF h a fun b=>nF b fun c=>bF .lss 3 a4 c fun d=>IF d (aF 1 a3 fun e=>lF h e fun f=>aF 1 a1 fun g=>lF h g fun i=>xF 3 i a4 fun j=>aF 0 j fun k=>lF h k fun l=>aF 1 a1 fun m=>lF h m fun n=>xF 3 n a4 fun o=>aF 1 o fun p=>lF h p fun q=>RK (vBld [(iV 0),(iV 0),(iV 0)] [(0,1,l),(1,1,q),(2,1,(iV 1))]) fun r=>AR (vBsl 1 [(iV 0),(iV 0),(iV 0)] [(0,3,r)]) h nx fun t u v=>EK (orR (zS 3 u v f t)) fun w x y=>v≤y∧aF 1 a3 fun z=>RK (vSt x 1 z w) fun aa=>bF .add 3 a4 (iV 1) fun ab=>N [a1,a2,a3,ab] aa y) (e0 [a1,a2,a3,a4] h nx)
def rplain (s:Bool) (t0:Value) (h:Hp) (nx:Nat) (K:KC'):Prop:=pC t0 h nx fun a b c=>nC [(iV 0),nS] b c fun d e f=>aF 0 a fun g=>lF e g fun i=>RK (vBld [(iV 0),nS] [(0,1,i)]) fun j=>nC [(iV 0),nS] e f fun k l m=>RK (vSt l 2 k j) fun n=>Lp (fL Q O s zKs 147 0) [a,d,k,(iV 0)] n m [(0,fun o p q=>lA 2 p (nv o 2) fun r=>cF s 243 [r] p q fun t u v=>RK (vSt u 2 (nv o 1) t) fun w=>lA 2 w (nv o 1) fun x=>K x w v)] (fun _ _ _=>False)
theorem rplainb0 {s:Bool} {a1 a2 a3 a4:Value} {h:Hp} {nx:Nat} {N e0 R:KVl}:fL Q O s zKs 147 0 [a1,a2,a3,a4] h nx N [(0,e0)] R=zMa s a1 a2 a3 a4 h nx N e0 R:=by kernel_rfl
theorem rplainv {s:Bool} {t0:Value} {h:Hp} {nx:Nat} {K:KC'} (w:rplain s t0 h nx K):Cv Q O s 147 [t0] h nx K:=Cv.byE zKs rfl w (by kernel_rfl)
def zKt:List (List Nat):=[[1,2,5,6,7]]
def zMh (s:Bool) (a1 a2 a5 a6 a7:Value) (h:Hp) (nx:Nat) (N:KVl) (e0:KVl) (R:KVl):Prop:=aF 1 a5 fun a=>lF h a fun b=>nF b fun c=>bF .lss 3 a7 c fun d=>IF d (aF 1 a5 fun e=>lF h e fun f=>xF 3 f a7 fun g=>aF 0 g fun i=>lF h i fun j=>aF 1 a5 fun k=>lF h k fun l=>xF 3 l a7 fun m=>aF 1 m fun n=>lF h n fun o=>aF 1 a5 fun p=>lF h p fun q=>xF 3 q a7 fun r=>aF 2 r fun t=>lF h t fun u=>RK (vBld [(iV 0),(iV 0),(iV 0)] [(0,1,j),(1,1,o),(2,1,u)]) fun v=>AR (vBsl 1 [(iV 0),(iV 0),(iV 0)] [(0,3,v)]) h nx fun w x y=>EK (orR (zS 3 x y a6 w)) fun z aa ab=>y≤ab∧bF .add 3 a7 (iV 1) fun ac=>N [a1,a2,a5,z,ac] aa ab) (e0 [a1,a2,a5,a6,a7] h nx)
def rgraph (s:Bool) (t0:Value) (h:Hp) (nx:Nat) (K:KC'):Prop:=pC t0 h nx fun a b c=>nC [(iV 0),(iV 0),nS,nS,nS] b c fun d e f=>lA 2 e a fun g=>cF s 114 [g] e f fun i j k=>bF .neq 34 i (iV 0) fun l=>IF l (RK (vBld [(iV 0),(iV 0),nS,nS,nS] []) fun m=>RK (vSt j 5 d m) fun n=>lA 5 n d fun o=>K (.tuple ⟨[o,i]⟩) n k) (lA 2 j a fun p=>cF s 244 [p] j k fun q r t=>nC [(iV 0),nS] r t fun u v w=>RK (vSt v 2 u q) fun x=>Lp (fL Q O s zKt 150 0) [a,d,u,nS,(iV 0)] x w [(0,fun y z aa=>aF 0 (nv y 0) fun ab=>lF z ab fun ac=>aF 0 (nv y 0) fun ad=>lF z ad fun ae=>cF s 245 [ac,ae,(nv y 3)] z aa fun af ag ah=>RK (vSt ag 5 (nv y 1) af) fun ai=>lA 5 ai (nv y 1) fun aj=>K (.tuple ⟨[aj,(iV 0)]⟩) ai ah)] (fun _ _ _=>False))
theorem rgraphb0 {s:Bool} {a1 a2 a5 a6 a7:Value} {h:Hp} {nx:Nat} {N e0 R:KVl}:fL Q O s zKt 150 0 [a1,a2,a5,a6,a7] h nx N [(0,e0)] R=zMh s a1 a2 a5 a6 a7 h nx N e0 R:=by kernel_rfl
theorem rgraphv {s:Bool} {t0:Value} {h:Hp} {nx:Nat} {K:KC'} (w:rgraph s t0 h nx K):Cv Q O s 150 [t0] h nx K:=Cv.byE zKt rfl w (by kernel_rfl)
def zGZ:List (List Nat):=[[0,2,6,7,8],[0,2,6,7,8,9]]
def zMm (s:Bool) (a0 a2 a6 a7 a8 a9:Value) (h:Hp) (nx:Nat) (N:KVl) (e2:KVl) (R:KVl):Prop:=bF .leq 3 a9 a0 fun a=>IF a (aF 2 a7 fun b=>lF h b fun c=>xF 1 c a9 fun d=>lF h d fun e=>bF .add 3 e (iV 1) fun f=>xF 1 c a9 fun g=>RK (vSt h 1 g f) fun i=>bF .add 3 a9 (iV 1) fun j=>N [a0,a2,a6,a7,a8,j] i nx) (e2 [a0,a2,a6,a7,a8,a9] h nx)
def zMn (s:Bool) (a0 a2 a6 a7 a8:Value) (h:Hp) (nx:Nat) (N:KVl) (e0:KVl) (R:KVl):Prop:=nF a2 fun a=>bF .lss 3 a8 a fun b=>IF b (aF 3 a7 fun c=>lF h c fun d=>xF 3 a2 a8 fun e=>aF 1 e fun f=>lF h f fun g=>AR (vBsl 1 [(iV 0)] [(0,1,g)]) h nx fun i j k=>EK (orR (zS 1 j k d i)) fun l m n=>k≤n∧aF 3 a7 fun o=>RK (vSt m 1 o l) fun p=>aF 4 a7 fun q=>lF p q fun r=>xF 3 a2 a8 fun t=>aF 2 t fun u=>lF p u fun v=>AR (vBsl 1 [(iV 0)] [(0,1,v)]) p n fun w x y=>EK (orR (zS 1 x y r w)) fun z aa ab=>y≤ab∧aF 4 a7 fun ac=>RK (vSt aa 1 ac z) fun ad=>xF 3 a2 a8 fun ae=>aF 0 ae fun af=>lF ad af fun ag=>bF .add 3 ag (iV 1) fun ah=>Lp (fL Q O s zGZ 245 1) [a0,a2,a6,a7,a8,ah] ad ab [(2,fun ai aj ak=>bF .add 3 (nv ai 4) (iV 1) fun al=>N [(nv ai 0),(nv ai 1),(nv ai 2),(nv ai 3),al] aj ak)] (fun _ _ _=>False)) (e0 [a0,a2,a6,a7,a8] h nx)
def rbuilt (s:Bool) (t0 t1 t2:Value) (h:Hp) (nx:Nat) (K:KC'):Prop:=nC [(iV 0),(iV 0),nS,nS,nS] h nx fun a b c=>cF s 153 [t0,t1] b c fun d e f=>nC [(iV 0),(iV 0),nS,nS,nS] e f fun g i j=>RK (vSt i 5 g d) fun k=>Lp (fL Q O s zGZ 245 0) [t0,t2,a,g,(iV 0)] k j [(0,fun l m n=>lA 5 m (nv l 3) fun o=>RK (vSt m 5 (nv l 2) o) fun p=>lA 5 p (nv l 2) fun q=>K q p n)] (fun _ _ _=>False)
theorem rbuiltb1 {s:Bool} {a0 a2 a6 a7 a8 a9:Value} {h:Hp} {nx:Nat} {N e2 R:KVl}:fL Q O s zGZ 245 1 [a0,a2,a6,a7,a8,a9] h nx N [(2,e2)] R=zMm s a0 a2 a6 a7 a8 a9 h nx N e2 R:=by kernel_rfl
theorem rbuiltb0 {s:Bool} {a0 a2 a6 a7 a8:Value} {h:Hp} {nx:Nat} {N e0 R:KVl}:fL Q O s zGZ 245 0 [a0,a2,a6,a7,a8] h nx N [(0,e0)] R=zMn s a0 a2 a6 a7 a8 h nx N e0 R:=by kernel_rfl
theorem rbuiltv {s:Bool} {t0 t1 t2:Value} {h:Hp} {nx:Nat} {K:KC'} (w:rbuilt s t0 t1 t2 h nx K):Cv Q O s 245 [t0,t1,t2] h nx K:=Cv.byE zGZ rfl w (by kernel_rfl)
def remptyL:List (List Nat):=[]
def rempty (s:Bool) (t0 t1:Value) (h:Hp) (nx:Nat) (K:KC'):Prop:=nC [(iV 0),(iV 0),nS,nS,nS] h nx fun a b c=>bF .add 3 t0 (iV 1) fun d=>AR (vMks [(iV 0)] d d) b c fun e f g=>RK (vBld [(iV 0),(iV 0),nS,nS,nS] [(0,1,t0),(1,1,t1),(2,1,e)]) fun i=>RK (vSt f 5 a i) fun j=>lA 5 j a fun k=>K k j g
theorem remptyv {s:Bool} {t0 t1:Value} {h:Hp} {nx:Nat} {K:KC'} (w:rempty s t0 t1 h nx K):Cv Q O s 153 [t0,t1] h nx K:=Cv.byE remptyL rfl w (by kernel_rfl)
def zFK:List (List Nat):=[[2,6,7,8,11,12,15]]
def zGv (s:Bool) (a2 a6 a7 a8 a11 a12 a15:Value) (h:Hp) (nx:Nat) (N:KVl) (e0:KVl) (R:KVl):Prop:=nF a11 fun a=>bF .lss 3 a15 a fun b=>IF b (xF 1 a11 a15 fun c=>lF h c fun d=>xF 1 a12 a15 fun e=>lF h e fun f=>dF 37 [d,f] h nx fun g i j=>RK (oUn .not g) fun k=>IF k (R [a2,(.bool false),a7,a8,a11,a12,a15] i j) (bF .add 3 a15 (iV 1) fun l=>N [a2,a6,a7,a8,a11,a12,l] i j)) (e0 [a2,a6,a7,a8,a11,a12,a15] h nx)
def zBB (s:Bool) (K:KC') (y2 y7 y8 y11 y12 y90:Value) (h0:Hp) (n0:Nat):Prop:=IF y90 (K (.bool false) h0 n0) (Lp (fL Q O s zFK 7 0) [y2,(.bool false),y7,y8,y11,y12,(iV 0)] h0 n0 [(0,fun a b c=>RK (vBld [(iV 0),(iV 0),nS,nS,nS] [(0,1,(nv a 3)),(2,1,(nv a 0))]) fun d=>nC [(iV 0),(iV 0),nS,nS,nS] b c fun e f g=>RK (vSt f 5 e d) fun i=>lA 2 i (nv a 2) fun j=>dF 38 [j] i g fun k l m=>lA 2 l (nv a 2) fun n=>gA 2 (nv a 2) n (dF 39 [n] l m fun o p q=>dF 37 [k,o] p q fun r t u=>IF r (lA 5 t e fun v=>dF 40 [v] t u fun w x y=>lA 5 x e fun z=>gA 5 e z (dF 41 [z] x y fun aa ab ac=>dF 37 [w,aa] ab ac fun ad ae af=>K ad ae af) 1 [t,p,l,i]) (K (.bool false) t u)) 1 [i])] (fun ag ah ai=>K (nv ag 1) ah ai))
def zBs (s:Bool) (K:KC') (y1 y2 y3 y24:Value) (h0:Hp) (n0:Nat):Prop:=IF y24 (cF s 28 [] h0 n0 fun a b c=>K a b c) (lA 5 h0 y3 fun d=>cF s 29 [d] h0 n0 fun e f g=>RK (zo e 0) fun i=>RK (zo e 1) fun j=>RK (zo e 2) fun k=>RK (zo e 3) fun l=>nC [(iV 0),nS] f g fun m n o=>RK (vSt n 2 m i) fun p=>lA 2 p m fun q=>dF 30 [q,y2] p o fun r t u=>lA 2 t m fun v=>gA 2 m v (dF 31 [v,y2] t u fun w x y=>lA 2 x m fun z=>dF 32 [z,y2,k,l] x y fun aa ab ac=>lA 2 ab m fun ad=>gA 2 m ad (dF 33 [ad,y2,k,l] ab ac fun ae af ag=>nC [(iV 0),(iV 0),(iV 0),(iV 0),nS,(iV 0),nS,(iV 0),(iV 0),(iV 0),(iV 0),nS] af ag fun ah ai aj=>nC [(iV 0),(iV 0),(iV 0),(iV 0),nS,(iV 0),nS,(iV 0),(iV 0),(iV 0),(iV 0),nS] ai aj fun ak al am=>RK (vSt al 12 ah aa) fun an=>RK (vSt an 12 ak ae) fun ao=>dF 28 [] ao am fun ap aq ar=>RK (oUn .not ap) fun au=>IF au ((zBB s K y2 m j r w (.bool true) aq ar)) (lA 2 aq m fun av=>dF 34 [av,y1] aq ar fun aw ax ay=>lA 2 ax m fun az=>gA 2 m az (dF 35 [az,y1] ax ay fun ba bb bc=>bF .neq 4 aw ba fun bd=>IF bd ((zBB s K y2 m j r w (.bool true) bb bc)) (nF r fun be=>nF w fun bf=>bF .neq 3 be bf fun bg=>IF bg ((zBB s K y2 m j r w (.bool true) bb bc)) (aF 10 ah fun bh=>lF bb bh fun bi=>aF 10 ak fun bj=>lF bb bj fun bk=>bF .neq 3 bi bk fun bl=>IF bl ((zBB s K y2 m j r w (.bool true) bb bc)) (aF 0 ah fun bm=>aF 0 bm fun bn=>lF bb bn fun bo=>aF 0 ak fun bp=>aF 0 bp fun bq=>lF bb bq fun br=>bF .neq 22 bo br fun bs=>IF bs ((zBB s K y2 m j r w (.bool true) bb bc)) (aF 0 ah fun bt=>aF 4 bt fun bu=>lF bb bu fun bv=>dF 36 [bv,y2] bb bc fun bw bx bz=>RK (oUn .not bw) fun ca=>(zBB s K y2 m j r w ca bx bz)))))) 1 [aq,ao])) 1 [x]) 1 [p])
def zJw (s:Bool) (t0 t1 t2:Value) (h:Hp) (nx:Nat) (K:KC'):Prop:=pC t0 h nx fun a b c=>nF t1 fun d=>bF .gtr 3 d (iV 40) fun e=>IF e ((zBs s K t1 t2 a (.bool true) b c)) (nF t2 fun f=>bF .gtr 3 f (iV 60) fun g=>(zBs s K t1 t2 a g b c))
theorem zLY {s:Bool} {a2 a6 a7 a8 a11 a12 a15:Value} {h:Hp} {nx:Nat} {N e0 R:KVl}:fL Q O s zFK 7 0 [a2,a6,a7,a8,a11,a12,a15] h nx N [(0,e0)] R=zGv s a2 a6 a7 a8 a11 a12 a15 h nx N e0 R:=by kernel_rfl
theorem zO1 {s:Bool} {t0 t1 t2:Value} {h:Hp} {nx:Nat} {K:KC'} (w:zJw s t0 t1 t2 h nx K):Cv Q O s 7 [t0,t1,t2] h nx K:=Cv.byE zFK rfl w (by kernel_rfl)
def ijoinsL:List (List Nat):=[]
def ijoins (s:Bool) (t0 t1:Value) (h:Hp) (nx:Nat) (K:KC'):Prop:=pC t0 h nx fun a b c=>lA 2 b a fun d=>cF s 32 [d,t1,(iV 1),(iV 1)] b c fun e f g=>RK (cFld 0 (some 5) e) fun i=>nC [(iV 0),(iV 0),(iV 0),(iV 0),nS] f g fun j k l=>RK (vSt k 5 j i) fun m=>lA 5 m j fun n=>lA 2 m a fun o=>cF s 49 [n,o] m l fun p q r=>RK (zo p 0) fun t=>RK (zo p 1) fun u=>nC [(iV 0),(iV 0),nS,nS,nS] q r fun v w x=>RK (vSt w 5 v t) fun y=>bF .neq 34 u (iV 0) fun z=>IF z (K nS y x) (lA 2 y a fun aa=>lA 5 y j fun ab=>cF s 100 [aa,ab] y x fun ac ad ae=>cF s 99 [ac] ad ae fun af ag ah=>K af ag ah)
theorem ijoinsv {s:Bool} {t0 t1:Value} {h:Hp} {nx:Nat} {K:KC'} (w:ijoins s t0 t1 h nx K):Cv Q O s 30 [t0,t1] h nx K:=Cv.byE ijoinsL rfl w (by kernel_rfl)
def zBH:List (List Nat):=[[2,5,6,9,10],[2,5,6,9,11],[2,5,6,9,11,12,13],[2,5,6,9,11,12,13,14,15],[2,5,6,9,11,12,16,17]]
def zMf (s:Bool) (a2 a5 a6 a9 a10:Value) (h:Hp) (nx:Nat) (N:KVl) (e0:KVl) (R:KVl):Prop:=aF 0 a2 fun a=>lF h a fun b=>bF .lss 3 a10 b fun c=>IF c (AR (vBsl 1 [(iV 0)] [(0,1,a10)]) h nx fun d e f=>EK (orR (zS 1 e f a9 d)) fun g i j=>bF .add 3 a10 (iV 1) fun k=>N [a2,a5,a6,g,k] i j) (e0 [a2,a5,a6,a9,a10] h nx)
def zE1 (s:Bool) (N:KVl) (e6:KVl) (R:KVl) (y2 y5 y6 y9 y11 y12 y13 y14 y15:Value) (h0:Hp) (n0:Nat):Prop:=bF .add 3 y15 (iV 1) fun a=>N [y2,y5,y6,y9,y11,y12,y13,y14,a] h0 n0
def zMc (s:Bool) (a2 a5 a6 a9 a11 a12 a13 a14 a15:Value) (h:Hp) (nx:Nat) (N:KVl) (e6:KVl) (R:KVl):Prop:=nF a9 fun a=>bF .lss 3 a15 a fun b=>IF b (lA 2 h a2 fun c=>xF 1 a9 a13 fun d=>lF h d fun e=>xF 1 a9 a15 fun f=>lF h f fun g=>dF 101 [c,e,g] h nx fun i j k=>IF i (lA 5 j a5 fun l=>xF 1 a9 a15 fun m=>lF j m fun n=>dF 102 [l,a11,n] j k fun o p q=>lA 5 p a5 fun r=>gA 5 a5 r (xF 1 a9 a13 fun t=>lF p t fun u=>gL t u (dF 102 [r,a11,u] p q fun v w x=>bF .leq 2 o v fun y=>IF y ((zE1 s N e6 R a2 a5 a6 a9 a11 a12 a13 (.bool false) a15 w x)) ((zE1 s N e6 R a2 a5 a6 a9 a11 a12 a13 a14 a15 w x))) 1 [j,h]) 1 [j,h]) ((zE1 s N e6 R a2 a5 a6 a9 a11 a12 a13 a14 a15 j k))) (e6 [a2,a5,a6,a9,a11,a12,a13,a14,a15] h nx)
def zMd (s:Bool) (a2 a5 a6 a9 a11 a12 a13:Value) (h:Hp) (nx:Nat) (N:KVl) (e4:KVl) (R:KVl):Prop:=nF a9 fun a=>bF .lss 3 a13 a fun b=>IF b (Lp (fL Q O s zBH 31 3) [a2,a5,a6,a9,a11,a12,a13,(.bool true),(iV 0)] h nx [(6,fun c d e=>IF (nv c 7) (xF 1 (nv c 3) (nv c 6) fun f=>lF d f fun g=>AR (vBsl 1 [(iV 0)] [(0,1,g)]) d e fun i j k=>EK (orR (zS 1 j k (nv c 5) i)) fun l m n=>bF .add 3 (nv c 6) (iV 1) fun o=>N [(nv c 0),(nv c 1),(nv c 2),(nv c 3),(nv c 4),l,o] m n) (bF .add 3 (nv c 6) (iV 1) fun p=>N [(nv c 0),(nv c 1),(nv c 2),(nv c 3),(nv c 4),(nv c 5),p] d e))] (fun _ _ _=>False)) (e4 [a2,a5,a6,a9,a11,a12,a13] h nx)
def zD5 (s:Bool) (N:KVl) (e8:KVl) (R:KVl) (y2 y5 y6 y9 y11 y12 y16 y17:Value) (h0:Hp) (n0:Nat):Prop:=bF .add 3 y17 (iV 1) fun a=>N [y2,y5,y6,y9,y11,y12,y16,a] h0 n0
def zMb (s:Bool) (a2 a5 a6 a9 a11 a12 a16 a17:Value) (h:Hp) (nx:Nat) (N:KVl) (e8:KVl) (R:KVl):Prop:=nF a9 fun a=>bF .lss 3 a17 a fun b=>IF b (xF 1 a9 a17 fun c=>lF h c fun d=>dF 103 [a12,d] h nx fun e f g=>RK (oUn .not e) fun i=>IF i (lA 2 f a2 fun j=>xF 1 a9 a17 fun k=>lF f k fun l=>dF 104 [j,a12,l] f g fun m n o=>RK (oUn .not m) fun p=>IF p (xF 1 a9 a17 fun q=>lF n q fun r=>AR (vBsl 1 [(iV 0)] [(0,1,r)]) n o fun t u v=>EK (orR (zS 1 u v a16 t)) fun w x y=>(zD5 s N e8 R a2 a5 a6 a9 a11 a12 w a17 x y)) ((zD5 s N e8 R a2 a5 a6 a9 a11 a12 a16 a17 n o))) ((zD5 s N e8 R a2 a5 a6 a9 a11 a12 a16 a17 f g))) (e8 [a2,a5,a6,a9,a11,a12,a16,a17] h nx)
def zMe (s:Bool) (a2 a5 a6 a9 a11:Value) (h:Hp) (nx:Nat) (N:KVl) (e2:KVl) (R:KVl):Prop:=nF a9 fun a=>bF .gtr 3 a (iV 0) fun b=>IF b (Lp (fL Q O s zBH 31 2) [a2,a5,a6,a9,a11,nS,(iV 0)] h nx [(4,fun c d e=>Lp (fL Q O s zBH 31 4) [(nv c 0),(nv c 1),(nv c 2),(nv c 3),(nv c 4),(nv c 5),nS,(iV 0)] d e [(8,fun f g i=>AR (vBsl 1 [nS] [(0,1,(nv f 5))]) g i fun j k l=>EK (orR (zS 1 k l (nv f 2) j)) fun m n o=>bF .add 3 (nv f 4) (iV 1) fun p=>N [(nv f 0),(nv f 1),m,(nv f 6),p] n o)] (fun _ _ _=>False))] (fun _ _ _=>False)) (e2 [a2,a5,a6,a9,a11] h nx)
def rjoins (s:Bool) (t0 t1:Value) (h:Hp) (nx:Nat) (K:KC'):Prop:=pC t0 h nx fun a b c=>lA 2 b a fun d=>cF s 33 [d,t1,(iV 1),(iV 1)] b c fun e f g=>RK (cFld 0 (some 5) e) fun i=>nC [(iV 0),(iV 0),(iV 0),(iV 0),nS] f g fun j k l=>RK (vSt k 5 j i) fun m=>lA 5 m j fun n=>lA 2 m a fun o=>cF s 57 [n,o] m l fun p q r=>RK (zo p 0) fun t=>RK (zo p 1) fun u=>nC [(iV 0),(iV 0),nS,nS,nS] q r fun v w x=>RK (vSt w 5 v t) fun y=>bF .neq 34 u (iV 0) fun z=>IF z (K nS y x) (Lp (fL Q O s zBH 31 0) [a,j,nS,nS,(iV 0)] y x [(0,fun aa ab ac=>Lp (fL Q O s zBH 31 1) [(nv aa 0),(nv aa 1),(nv aa 2),(nv aa 3),(iV 0)] ab ac [(2,fun ad ae af=>K (nv ad 2) ae af)] (fun _ _ _=>False))] (fun _ _ _=>False))
theorem rjoinsb0 {s:Bool} {a2 a5 a6 a9 a10:Value} {h:Hp} {nx:Nat} {N e0 R:KVl}:fL Q O s zBH 31 0 [a2,a5,a6,a9,a10] h nx N [(0,e0)] R=zMf s a2 a5 a6 a9 a10 h nx N e0 R:=by kernel_rfl
theorem rjoinsb3 {s:Bool} {a2 a5 a6 a9 a11 a12 a13 a14 a15:Value} {h:Hp} {nx:Nat} {N e6 R:KVl}:fL Q O s zBH 31 3 [a2,a5,a6,a9,a11,a12,a13,a14,a15] h nx N [(6,e6)] R=zMc s a2 a5 a6 a9 a11 a12 a13 a14 a15 h nx N e6 R:=by kernel_rfl
theorem rjoinsb2 {s:Bool} {a2 a5 a6 a9 a11 a12 a13:Value} {h:Hp} {nx:Nat} {N e4 R:KVl}:fL Q O s zBH 31 2 [a2,a5,a6,a9,a11,a12,a13] h nx N [(4,e4)] R=zMd s a2 a5 a6 a9 a11 a12 a13 h nx N e4 R:=by kernel_rfl
theorem rjoinsb4 {s:Bool} {a2 a5 a6 a9 a11 a12 a16 a17:Value} {h:Hp} {nx:Nat} {N e8 R:KVl}:fL Q O s zBH 31 4 [a2,a5,a6,a9,a11,a12,a16,a17] h nx N [(8,e8)] R=zMb s a2 a5 a6 a9 a11 a12 a16 a17 h nx N e8 R:=by kernel_rfl
theorem rjoinsb1 {s:Bool} {a2 a5 a6 a9 a11:Value} {h:Hp} {nx:Nat} {N e2 R:KVl}:fL Q O s zBH 31 1 [a2,a5,a6,a9,a11] h nx N [(2,e2)] R=zMe s a2 a5 a6 a9 a11 h nx N e2 R:=by kernel_rfl
theorem rjoinsv {s:Bool} {t0 t1:Value} {h:Hp} {nx:Nat} {K:KC'} (w:rjoins s t0 t1 h nx K):Cv Q O s 31 [t0,t1] h nx K:=Cv.byE zBH rfl w (by kernel_rfl)
def isetupL:List (List Nat):=[]
def isetup (s:Bool) (t0 t1 t2 t3:Value) (h:Hp) (nx:Nat) (K:KC'):Prop:=pC t0 h nx fun a b c=>nC [(iV 0),(iV 0),(iV 0),(iV 0),nS,(iV 0),nS,(iV 0),(iV 0),(iV 0),(iV 0),nS] b c fun d e f=>lA 2 e a fun g=>cF s 105 [g,(iV 0),t2,t3] e f fun i j k=>nC [(iV 0),(iV 0),(iV 0),(iV 0),nS,(iV 0),nS,(iV 0),(iV 0),(iV 0),(iV 0),nS] j k fun l m n=>RK (vSt m 12 l i) fun o=>cF s 51 [t1] o n fun p q r=>aF 0 l fun t=>aF 0 t fun u=>RK (vSt q 1 u (iV 5)) fun v=>aF 0 l fun w=>aF 4 w fun x=>RK (vSt v 1 x p) fun y=>aF 0 a fun z=>lF y z fun aa=>RK (min2 false aa (iV 0)) fun ab=>RK (min2 true ab (iV 4096)) fun ac=>bF .mul 3 (iV 2) ac fun ad=>aF 10 l fun ae=>RK (vSt y 1 ae ad) fun af=>lA 12 af l fun ag=>RK (vSt af 12 d ag) fun ah=>lA 12 ah d fun ai=>K ai ah r
theorem isetupv {s:Bool} {t0 t1 t2 t3:Value} {h:Hp} {nx:Nat} {K:KC'} (w:isetup s t0 t1 t2 t3 h nx K):Cv Q O s 32 [t0,t1,t2,t3] h nx K:=Cv.byE isetupL rfl w (by kernel_rfl)
def risetupL:List (List Nat):=[]
def zE2 (s:Bool) (K:KC') (y8 y9:Value) (h0:Hp) (n0:Nat):Prop:=lA 12 h0 y9 fun a=>RK (vSt h0 12 y8 a) fun b=>lA 12 b y8 fun c=>K c b n0
def zQD (s:Bool) (t0 t1 t2 t3:Value) (h:Hp) (nx:Nat) (K:KC'):Prop:=pC t0 h nx fun a b c=>nC [(iV 0),(iV 0),(iV 0),(iV 0),nS,(iV 0),nS,(iV 0),(iV 0),(iV 0),(iV 0),nS] b c fun d e f=>lA 2 e a fun g=>cF s 106 [g,(iV 0),t2,t3] e f fun i j k=>nC [(iV 0),(iV 0),(iV 0),(iV 0),nS,(iV 0),nS,(iV 0),(iV 0),(iV 0),(iV 0),nS] j k fun l m n=>RK (vSt m 12 l i) fun o=>aF 0 l fun p=>aF 0 p fun q=>RK (vSt o 1 q (iV 5)) fun r=>aF 0 l fun t=>aF 4 t fun u=>RK (vSt r 1 u t1) fun v=>aF 10 l fun w=>RK (vSt v 1 w (iV 0)) fun x=>aF 0 a fun y=>lF x y fun z=>bF .gtr 3 z (iV 0) fun aa=>IF aa (aF 10 l fun ab=>RK (vSt x 1 ab (iV 8192)) fun ac=>aF 0 a fun ad=>lF ac ad fun ae=>bF .lss 3 ae (iV 4096) fun af=>IF af (aF 0 a fun ag=>lF ac ag fun ah=>bF .mul 3 (iV 2) ah fun ai=>aF 10 l fun aj=>RK (vSt ac 1 aj ai) fun ak=>(zE2 s K d l ak n)) ((zE2 s K d l ac n))) ((zE2 s K d l x n))
theorem risetupv {s:Bool} {t0 t1 t2 t3:Value} {h:Hp} {nx:Nat} {K:KC'} (w:zQD s t0 t1 t2 t3 h nx K):Cv Q O s 33 [t0,t1,t2,t3] h nx K:=Cv.byE risetupL rfl w (by kernel_rfl)
def zL0:List (List Nat):=[[1,2,4,12,13,14]]
def zNQ (s:Bool) (a1 a2 a4 a12 a13 a14:Value) (h:Hp) (nx:Nat) (N:KVl) (e0:KVl) (R:KVl):Prop:=bF .lss 3 a14 a13 fun a=>IF a (xF 1 a12 a14 fun b=>lF h b fun c=>bF .lss 3 c (iV 0) fun d=>IF d (R [a1,a2,(.bool false),a12,a13,a14] h nx) (aF 0 a2 fun e=>lF h e fun f=>bF .geq 3 c f fun g=>IF g (R [a1,a2,(.bool false),a12,a13,a14] h nx) (bF .gtr 3 a14 (iV 0) fun i=>IF i (bF .sub 3 a14 (iV 1) fun j=>xF 1 a1 j fun k=>lF h k fun l=>bF .geq 3 l c fun m=>IF m (R [a1,a2,(.bool false),a12,a13,a14] h nx) (bF .add 3 a14 (iV 1) fun n=>N [a1,a2,a4,a12,a13,n] h nx)) (bF .add 3 a14 (iV 1) fun o=>N [a1,a2,a4,a12,a13,o] h nx)))) (e0 [a1,a2,a4,a12,a13,a14] h nx)
def icheck (s:Bool) (t0 t1:Value) (h:Hp) (nx:Nat) (K:KC'):Prop:=pC t0 h nx fun a b c=>lA 2 b a fun d=>cF s 107 [d] b c fun e f g=>bF .neq 34 e (iV 0) fun i=>IF i (K (.bool false) f g) (nF t1 fun j=>Lp (fL Q O s zL0 34 0) [t1,a,(.bool false),t1,j,(iV 0)] f g [(0,fun k l m=>aF 0 (nv k 1) fun n=>lF l n fun o=>cF s 108 [o,(nv k 0)] l m fun p q r=>lA 2 q (nv k 1) fun t=>dF 110 [t] q r fun u v w=>aF 0 (nv k 1) fun x=>lF v x fun y=>gL x y (dF 109 [y,u,(nv k 0)] v w fun z aa ab=>dF 112 [p,z] aa ab fun ac ad ae=>dF 111 [ac] ad ae fun af ag ah=>bF .eql 3 af (iV 0) fun ai=>IF ai (dF 113 [p,z] ag ah fun aj ak al=>dF 111 [aj] ak al fun am an ao=>aF 0 (nv k 1) fun ap=>lF an ap fun aq=>gL ap aq (bF .eql 3 am aq fun ar=>K ar an ao) 2 [ak,ag,ad,aa]) (K (.bool false) ag ah)) 1 [q])] (fun au av aw=>K (nv au 2) av aw))
theorem icheckb0 {s:Bool} {a1 a2 a4 a12 a13 a14:Value} {h:Hp} {nx:Nat} {N e0 R:KVl}:fL Q O s zL0 34 0 [a1,a2,a4,a12,a13,a14] h nx N [(0,e0)] R=zNQ s a1 a2 a4 a12 a13 a14 h nx N e0 R:=by kernel_rfl
theorem icheckv {s:Bool} {t0 t1:Value} {h:Hp} {nx:Nat} {K:KC'} (w:icheck s t0 t1 h nx K):Cv Q O s 34 [t0,t1] h nx K:=Cv.byE zL0 rfl w (by kernel_rfl)
def zE3:List (List Nat):=[[1,2,4,5],[1,2,4,6]]
def zJ0 (s:Bool) (a1 a2 a4 a5:Value) (h:Hp) (nx:Nat) (N:KVl) (e0:KVl) (R:KVl):Prop:=nF a1 fun a=>bF .lss 3 a5 a fun b=>IF b (xF 1 a1 a5 fun c=>lF h c fun d=>bF .lss 3 d (iV 0) fun e=>IF e (R [a1,a2,(.bool false),a5] h nx) (xF 1 a1 a5 fun f=>lF h f fun g=>aF 0 a2 fun i=>lF h i fun j=>bF .geq 3 g j fun k=>IF k (R [a1,a2,(.bool false),a5] h nx) (bF .gtr 3 a5 (iV 0) fun l=>IF l (xF 1 a1 a5 fun m=>lF h m fun n=>bF .sub 3 a5 (iV 1) fun o=>xF 1 a1 o fun p=>lF h p fun q=>bF .leq 3 n q fun r=>IF r (R [a1,a2,(.bool false),a5] h nx) (bF .add 3 a5 (iV 1) fun t=>N [a1,a2,a4,t] h nx)) (bF .add 3 a5 (iV 1) fun u=>N [a1,a2,a4,u] h nx)))) (e0 [a1,a2,a4,a5] h nx)
def zJZ (s:Bool) (a1 a2 a4 a6:Value) (h:Hp) (nx:Nat) (N:KVl) (e2:KVl) (R:KVl):Prop:=aF 0 a2 fun a=>lF h a fun b=>bF .lss 3 a6 b fun c=>IF c (dF 103 [a1,a6] h nx fun d e f=>lA 2 e a2 fun g=>gA 2 a2 g (dF 104 [g,a1,a6] e f fun i j k=>bF .eql 4 d i fun l=>IF l (R [a1,a2,(.bool false),a6] j k) (bF .add 3 a6 (iV 1) fun m=>N [a1,a2,a4,m] j k)) 1 [h]) (e2 [a1,a2,a4,a6] h nx)
def zQN (s:Bool) (t0 t1:Value) (h:Hp) (nx:Nat) (K:KC'):Prop:=pC t0 h nx fun a b c=>lA 2 b a fun d=>cF s 114 [d] b c fun e f g=>bF .neq 34 e (iV 0) fun i=>IF i (K (.bool false) f g) (Lp (fL Q O s zE3 35 0) [t1,a,(.bool false),(iV 0)] f g [(0,fun j k l=>Lp (fL Q O s zE3 35 1) [(nv j 0),(nv j 1),(nv j 2),(iV 0)] k l [(2,fun m n o=>K (.bool true) n o)] (fun p q r=>K (nv p 2) q r))] (fun t u v=>K (nv t 2) u v))
theorem zQL {s:Bool} {a1 a2 a4 a5:Value} {h:Hp} {nx:Nat} {N e0 R:KVl}:fL Q O s zE3 35 0 [a1,a2,a4,a5] h nx N [(0,e0)] R=zJ0 s a1 a2 a4 a5 h nx N e0 R:=by kernel_rfl
theorem zQK {s:Bool} {a1 a2 a4 a6:Value} {h:Hp} {nx:Nat} {N e2 R:KVl}:fL Q O s zE3 35 1 [a1,a2,a4,a6] h nx N [(2,e2)] R=zJZ s a1 a2 a4 a6 h nx N e2 R:=by kernel_rfl
theorem richeckv {s:Bool} {t0 t1:Value} {h:Hp} {nx:Nat} {K:KC'} (w:zQN s t0 t1 h nx K):Cv Q O s 35 [t0,t1] h nx K:=Cv.byE zE3 rfl w (by kernel_rfl)
def zLZ:List (List Nat):=[[3,4,15,16]]
def zNP (s:Bool) (a3 a4 a15 a16:Value) (h:Hp) (nx:Nat) (N:KVl) (e0:KVl) (R:KVl):Prop:=bF .lss 3 a16 a15 fun a=>IF a (xF 1 a3 a16 fun b=>lF h b fun c=>cF s 112 [c,a4] h nx fun d e f=>cF s 111 [d] e f fun g i j=>bF .eql 3 g (iV 0) fun k=>IF k (cF s 116 [a4,a16] i j fun l m n=>bF .add 3 a16 (iV 1) fun o=>N [a3,l,a15,o] m n) (bF .add 3 a16 (iV 1) fun p=>N [a3,a4,a15,p] i j)) (e0 [a3,a4,a15,a16] h nx)
def ifirst (s:Bool) (t0:Value) (h:Hp) (nx:Nat) (K:KC'):Prop:=pC t0 h nx fun a b c=>lA 2 b a fun d=>cF s 107 [d] b c fun e f g=>bF .neq 34 e (iV 0) fun i=>IF i (K nS f g) (lA 2 f a fun j=>cF s 110 [j] f g fun k l m=>aF 0 a fun n=>lF l n fun o=>cF s 115 [o] l m fun p q r=>aF 0 a fun t=>lF q t fun u=>Lp (fL Q O s zLZ 38 0) [k,p,u,(iV 0)] q r [(0,fun v w x=>cF s 117 [(nv v 1)] w x fun y z aa=>K y z aa)] (fun _ _ _=>False))
theorem ifirstb0 {s:Bool} {a3 a4 a15 a16:Value} {h:Hp} {nx:Nat} {N e0 R:KVl}:fL Q O s zLZ 38 0 [a3,a4,a15,a16] h nx N [(0,e0)] R=zNP s a3 a4 a15 a16 h nx N e0 R:=by kernel_rfl
theorem ifirstv {s:Bool} {t0:Value} {h:Hp} {nx:Nat} {K:KC'} (w:ifirst s t0 h nx K):Cv Q O s 38 [t0] h nx K:=Cv.byE zLZ rfl w (by kernel_rfl)
def zI1:List (List Nat):=[[1,3,4]]
def zJY (s:Bool) (a1 a3 a4:Value) (h:Hp) (nx:Nat) (N:KVl) (e0:KVl) (R:KVl):Prop:=aF 0 a1 fun a=>lF h a fun b=>bF .lss 3 a4 b fun c=>IF c (lA 2 h a1 fun d=>cF s 104 [d,a3,a4] h nx fun e f g=>RK (oUn .not e) fun i=>IF i (AR (vBsl 1 [(iV 0)] [(0,1,a4)]) f g fun j k l=>EK (orR (zS 1 k l a3 j)) fun m n o=>bF .add 3 a4 (iV 1) fun p=>N [a1,m,p] n o) (bF .add 3 a4 (iV 1) fun q=>N [a1,a3,q] f g)) (e0 [a1,a3,a4] h nx)
def zQJ (s:Bool) (t0:Value) (h:Hp) (nx:Nat) (K:KC'):Prop:=pC t0 h nx fun a b c=>lA 2 b a fun d=>cF s 114 [d] b c fun e f g=>bF .neq 34 e (iV 0) fun i=>IF i (K nS f g) (Lp (fL Q O s zI1 39 0) [a,nS,(iV 0)] f g [(0,fun j k l=>K (nv j 1) k l)] (fun _ _ _=>False))
theorem zQH {s:Bool} {a1 a3 a4:Value} {h:Hp} {nx:Nat} {N e0 R:KVl}:fL Q O s zI1 39 0 [a1,a3,a4] h nx N [(0,e0)] R=zJY s a1 a3 a4 h nx N e0 R:=by kernel_rfl
theorem rifirstv {s:Bool} {t0:Value} {h:Hp} {nx:Nat} {K:KC'} (w:zQJ s t0 h nx K):Cv Q O s 39 [t0] h nx K:=Cv.byE zI1 rfl w (by kernel_rfl)
def zNJ:List (List Nat):=[[1,3,7,8,9]]
def zRO (s:Bool) (a1 a3 a7 a8 a9:Value) (h:Hp) (nx:Nat) (N:KVl) (e0:KVl) (R:KVl):Prop:=bF .lss 3 a9 a8 fun a=>IF a (xF 1 a7 a9 fun b=>lF h b fun c=>bF .eql 2 c (iV 1) fun d=>IF d (aF 0 a1 fun e=>lF h e fun f=>bF .add 3 f a9 fun g=>AR (vBsl 1 [(iV 0)] [(0,1,g)]) h nx fun i j k=>EK (orR (zS 1 j k a3 i)) fun l m n=>bF .add 3 a9 (iV 1) fun o=>N [a1,l,a7,a8,o] m n) (bF .add 3 a9 (iV 1) fun p=>N [a1,a3,a7,a8,p] h nx)) (e0 [a1,a3,a7,a8,a9] h nx)
def itold (s:Bool) (t0:Value) (h:Hp) (nx:Nat) (K:KC'):Prop:=pC t0 h nx fun a b c=>aF 2 a fun d=>lF b d fun e=>nF e fun f=>Lp (fL Q O s zNJ 40 0) [a,nS,e,f,(iV 0)] b c [(0,fun g i j=>K (nv g 1) i j)] (fun _ _ _=>False)
theorem itoldb0 {s:Bool} {a1 a3 a7 a8 a9:Value} {h:Hp} {nx:Nat} {N e0 R:KVl}:fL Q O s zNJ 40 0 [a1,a3,a7,a8,a9] h nx N [(0,e0)] R=zRO s a1 a3 a7 a8 a9 h nx N e0 R:=by kernel_rfl
theorem itoldv {s:Bool} {t0:Value} {h:Hp} {nx:Nat} {K:KC'} (w:itold s t0 h nx K):Cv Q O s 40 [t0] h nx K:=Cv.byE zNJ rfl w (by kernel_rfl)
def zIZ:List (List Nat):=[[1,3,4]]
def zMg (s:Bool) (a1 a3 a4:Value) (h:Hp) (nx:Nat) (N:KVl) (e0:KVl) (R:KVl):Prop:=aF 2 a1 fun a=>lF h a fun b=>nF b fun c=>bF .lss 3 a4 c fun d=>IF d (aF 2 a1 fun e=>lF h e fun f=>xF 1 f a4 fun g=>lF h g fun i=>bF .eql 2 i (iV 1) fun j=>IF j (aF 0 a1 fun k=>lF h k fun l=>bF .add 3 l a4 fun m=>AR (vBsl 1 [(iV 0)] [(0,1,m)]) h nx fun n o p=>EK (orR (zS 1 o p a3 n)) fun q r t=>bF .add 3 a4 (iV 1) fun u=>N [a1,q,u] r t) (bF .add 3 a4 (iV 1) fun v=>N [a1,a3,v] h nx)) (e0 [a1,a3,a4] h nx)
def ritold (s:Bool) (t0:Value) (h:Hp) (nx:Nat) (K:KC'):Prop:=pC t0 h nx fun a b c=>Lp (fL Q O s zIZ 41 0) [a,nS,(iV 0)] b c [(0,fun d e f=>K (nv d 1) e f)] (fun _ _ _=>False)
theorem ritoldb0 {s:Bool} {a1 a3 a4:Value} {h:Hp} {nx:Nat} {N e0 R:KVl}:fL Q O s zIZ 41 0 [a1,a3,a4] h nx N [(0,e0)] R=zMg s a1 a3 a4 h nx N e0 R:=by kernel_rfl
theorem ritoldv {s:Bool} {t0:Value} {h:Hp} {nx:Nat} {K:KC'} (w:ritold s t0 h nx K):Cv Q O s 41 [t0] h nx K:=Cv.byE zIZ rfl w (by kernel_rfl)
def zSF:List (List Nat):=[]
def zN8 (s:Bool) (t0:Value) (h:Hp) (nx:Nat) (K:KC'):Prop:=cF s 187 [nS,t0] h nx fun a b c=>K a b c
theorem zSE {s:Bool} {t0:Value} {h:Hp} {nx:Nat} {K:KC'} (w:zN8 s t0 h nx K):Cv Q O s 99 [t0] h nx K:=Cv.byE zSF rfl w (by kernel_rfl)
def joins0L:List (List Nat):=[]
def joins0 (s:Bool) (t0 t1:Value) (h:Hp) (nx:Nat) (K:KC'):Prop:=pC t0 h nx fun a b c=>pC t1 b c fun d e f=>RK (.ok (Value.func (.func 188) ⟨[]⟩ ⟨[a,d]⟩)) fun g=>K g e f
theorem joins0v {s:Bool} {t0 t1:Value} {h:Hp} {nx:Nat} {K:KC'} (w:joins0 s t0 t1 h nx K):Cv Q O s 100 [t0,t1] h nx K:=Cv.byE joins0L rfl w (by kernel_rfl)
def zPy:List (List Nat):=[[1,2,3,6,7]]
def zEu (s:Bool) (N:KVl) (e0:KVl) (R:KVl) (y1 y2 y3 y6 y7:Value) (h0:Hp) (n0:Nat):Prop:=bF .add 3 y7 (iV 1) fun a=>N [y1,y2,y3,y6,a] h0 n0
def zPw (s:Bool) (a1 a2 a3 a6 a7:Value) (h:Hp) (nx:Nat) (N:KVl) (e0:KVl) (R:KVl):Prop:=aF 1 a3 fun a=>lF h a fun b=>nF b fun c=>bF .lss 3 a7 c fun d=>IF d (aF 1 a3 fun e=>lF h e fun f=>xF 3 f a7 fun g=>lA 3 h g fun i=>nC [(iV 0),(iV 0),(iV 0)] h nx fun j k l=>RK (vSt k 3 j i) fun m=>bF .neq 3 a1 a2 fun n=>IF n (aF 0 j fun o=>lF m o fun p=>bF .eql 3 p a1 fun q=>IF q (aF 1 j fun r=>lF m r fun t=>bF .eql 3 t a2 fun u=>IF u (R [a1,a2,a3,(.bool true),a7] m l) (aF 0 j fun v=>lF m v fun w=>bF .eql 3 w a2 fun x=>IF x (aF 1 j fun y=>lF m y fun z=>bF .eql 3 z a1 fun aa=>IF aa (R [a1,a2,a3,(.bool true),a7] m l) ((zEu s N e0 R a1 a2 a3 a6 a7 m l))) ((zEu s N e0 R a1 a2 a3 a6 a7 m l)))) (aF 0 j fun ab=>lF m ab fun ac=>bF .eql 3 ac a2 fun ad=>IF ad (aF 1 j fun ae=>lF m ae fun af=>bF .eql 3 af a1 fun ag=>IF ag (R [a1,a2,a3,(.bool true),a7] m l) ((zEu s N e0 R a1 a2 a3 a6 a7 m l))) ((zEu s N e0 R a1 a2 a3 a6 a7 m l)))) ((zEu s N e0 R a1 a2 a3 a6 a7 m l))) (e0 [a1,a2,a3,a6,a7] h nx)
def rnear (s:Bool) (t0 t1 t2:Value) (h:Hp) (nx:Nat) (K:KC'):Prop:=pC t0 h nx fun a b c=>Lp (fL Q O s zPy 101 0) [t1,t2,a,(.bool false),(iV 0)] b c [(0,fun d e f=>K (.bool false) e f)] (fun g i j=>K (nv g 3) i j)
theorem rnearb0 {s:Bool} {a1 a2 a3 a6 a7:Value} {h:Hp} {nx:Nat} {N e0 R:KVl}:fL Q O s zPy 101 0 [a1,a2,a3,a6,a7] h nx N [(0,e0)] R=zPw s a1 a2 a3 a6 a7 h nx N e0 R:=by kernel_rfl
theorem rnearv {s:Bool} {t0 t1 t2:Value} {h:Hp} {nx:Nat} {K:KC'} (w:rnear s t0 t1 t2 h nx K):Cv Q O s 101 [t0,t1,t2] h nx K:=Cv.byE zPy rfl w (by kernel_rfl)
def rdrawL:List (List Nat):=[]
def zEx (s:Bool) (K:KC') (y1 y2 y3 y29:Value) (h0:Hp) (n0:Nat):Prop:=IF y29 (K (iV 0) h0 n0) (aF 4 y3 fun a=>lF h0 a fun b=>nF b fun c=>bF .gtr 3 c (iV 0) fun d=>IF d (aF 4 y3 fun e=>lF h0 e fun f=>aF 1 y3 fun g=>lF h0 g fun i=>bF .mul 3 y1 i fun j=>bF .add 3 j y2 fun k=>bF .rem 3 k c fun l=>xF 1 f l fun m=>lF h0 m fun n=>bF .mul 2 n (iV 4096) fun o=>bF .add 2 o y2 fun p=>K p h0 n0) (bF .mul 2 (iV 0) (iV 4096) fun q=>bF .add 2 q y2 fun r=>K r h0 n0))
def rdraw (s:Bool) (t0 t1 t2:Value) (h:Hp) (nx:Nat) (K:KC'):Prop:=pC t0 h nx fun a b c=>lA 5 b a fun d=>cF s 146 [d] b c fun e f g=>bF .neq 34 e (iV 0) fun i=>IF i ((zEx s K t1 t2 a (.bool true) f g)) (bF .lss 3 t1 (iV 0) fun j=>IF j ((zEx s K t1 t2 a (.bool true) f g)) (bF .gtr 3 t1 (iV 8192) fun k=>IF k ((zEx s K t1 t2 a (.bool true) f g)) (bF .lss 3 t2 (iV 0) fun l=>IF l ((zEx s K t1 t2 a (.bool true) f g)) (aF 1 a fun m=>lF f m fun n=>bF .geq 3 t2 n fun o=>(zEx s K t1 t2 a o f g)))))
theorem rdrawv {s:Bool} {t0 t1 t2:Value} {h:Hp} {nx:Nat} {K:KC'} (w:rdraw s t0 t1 t2 h nx K):Cv Q O s 102 [t0,t1,t2] h nx K:=Cv.byE rdrawL rfl w (by kernel_rfl)
def rinL:List (List Nat):=[[0,1,4,5]]
def rinl0 (s:Bool) (a0 a1 a4 a5:Value) (h:Hp) (nx:Nat) (N:KVl) (e0:KVl) (R:KVl):Prop:=nF a0 fun a=>bF .lss 3 a5 a fun b=>IF b (xF 1 a0 a5 fun c=>lF h c fun d=>bF .eql 3 d a1 fun e=>IF e (R [a0,a1,(.bool true),a5] h nx) (bF .add 3 a5 (iV 1) fun f=>N [a0,a1,a4,f] h nx)) (e0 [a0,a1,a4,a5] h nx)
def rin (s:Bool) (t0 t1:Value) (h:Hp) (nx:Nat) (K:KC'):Prop:=Lp (fL Q O s rinL 103 0) [t0,t1,(.bool false),(iV 0)] h nx [(0,fun a b c=>K (.bool false) b c)] (fun d e f=>K (nv d 2) e f)
theorem rinb0 {s:Bool} {a0 a1 a4 a5:Value} {h:Hp} {nx:Nat} {N e0 R:KVl}:fL Q O s rinL 103 0 [a0,a1,a4,a5] h nx N [(0,e0)] R=rinl0 s a0 a1 a4 a5 h nx N e0 R:=by kernel_rfl
theorem rinv {s:Bool} {t0 t1:Value} {h:Hp} {nx:Nat} {K:KC'} (w:rin s t0 t1 h nx K):Cv Q O s 103 [t0,t1] h nx K:=Cv.byE rinL rfl w (by kernel_rfl)
def zI2:List (List Nat):=[[1,2,3,6,7]]
def zJ2 (s:Bool) (a1 a2 a3 a6 a7:Value) (h:Hp) (nx:Nat) (N:KVl) (e0:KVl) (R:KVl):Prop:=nF a1 fun a=>bF .lss 3 a7 a fun b=>IF b (lA 2 h a3 fun c=>xF 1 a1 a7 fun d=>lF h d fun e=>dF 101 [c,e,a2] h nx fun f g i=>IF f (R [a1,a2,a3,(.bool true),a7] g i) (bF .add 3 a7 (iV 1) fun j=>N [a1,a2,a3,a6,j] g i)) (e0 [a1,a2,a3,a6,a7] h nx)
def zQ0 (s:Bool) (t0 t1 t2:Value) (h:Hp) (nx:Nat) (K:KC'):Prop:=pC t0 h nx fun a b c=>Lp (fL Q O s zI2 104 0) [t1,t2,a,(.bool false),(iV 0)] b c [(0,fun d e f=>K (.bool false) e f)] (fun g i j=>K (nv g 3) i j)
theorem zQZ {s:Bool} {a1 a2 a3 a6 a7:Value} {h:Hp} {nx:Nat} {N e0 R:KVl}:fL Q O s zI2 104 0 [a1,a2,a3,a6,a7] h nx N [(0,e0)] R=zJ2 s a1 a2 a3 a6 a7 h nx N e0 R:=by kernel_rfl
theorem rbesidev {s:Bool} {t0 t1 t2:Value} {h:Hp} {nx:Nat} {K:KC'} (w:zQ0 s t0 t1 t2 h nx K):Cv Q O s 104 [t0,t1,t2] h nx K:=Cv.byE zI2 rfl w (by kernel_rfl)
def hsetupL:List (List Nat):=[]
def zIh (s:Bool) (K:KC') (y1 y2 y3 y4 y8 y9:Value) (h0:Hp) (n0:Nat):Prop:=aF 0 y4 fun a=>lF h0 a fun b=>RK (vBld [(iV 0),(iV 0),(iV 0),(iV 0),nS] [(0,1,(iV 1)),(1,1,b),(2,1,y1)]) fun c=>lA 2 h0 y4 fun d=>RK (vBld [(iV 0),(iV 0),(iV 0),(iV 0),nS,(iV 0),nS,(iV 0),(iV 0),(iV 0),(iV 0),nS] [(0,5,c),(5,2,d),(7,1,y2),(8,1,y3),(9,1,(iV 4)),(10,1,y9)]) fun e=>RK (vSt h0 12 y8 e) fun f=>lA 12 f y8 fun g=>K g f n0
def hsetup (s:Bool) (t0 t1 t2 t3:Value) (h:Hp) (nx:Nat) (K:KC'):Prop:=pC t0 h nx fun a b c=>nC [(iV 0),(iV 0),(iV 0),(iV 0),nS,(iV 0),nS,(iV 0),(iV 0),(iV 0),(iV 0),nS] b c fun d e f=>aF 0 a fun g=>lF e g fun i=>bF .geq 3 i (iV 0) fun j=>IF j (aF 0 a fun k=>lF e k fun l=>RK (min2 true l (iV 8191)) fun m=>bF .add 3 m (iV 1) fun n=>(zIh s K t1 t2 t3 a d n e f)) ((zIh s K t1 t2 t3 a d (iV 0) e f))
theorem hsetupv {s:Bool} {t0 t1 t2 t3:Value} {h:Hp} {nx:Nat} {K:KC'} (w:hsetup s t0 t1 t2 t3 h nx K):Cv Q O s 105 [t0,t1,t2,t3] h nx K:=Cv.byE hsetupL rfl w (by kernel_rfl)
def rhsetupL:List (List Nat):=[]
def zQP (s:Bool) (t0 t1 t2 t3:Value) (h:Hp) (nx:Nat) (K:KC'):Prop:=pC t0 h nx fun a b c=>nC [(iV 0),(iV 0),(iV 0),(iV 0),nS,(iV 0),nS,(iV 0),(iV 0),(iV 0),(iV 0),nS] b c fun d e f=>aF 0 a fun g=>lF e g fun i=>RK (min2 true i (iV 8191)) fun j=>bF .add 3 j (iV 1) fun k=>RK (min2 false (iV 0) k) fun l=>aF 0 a fun m=>lF e m fun n=>RK (vBld [(iV 0),(iV 0),(iV 0),(iV 0),nS] [(0,1,(iV 1)),(1,1,n),(2,1,t1)]) fun o=>lA 2 e a fun p=>RK (vBld [(iV 0),(iV 0),(iV 0),(iV 0),nS,(iV 0),nS,(iV 0),(iV 0),(iV 0),(iV 0),nS] [(0,5,o),(5,2,p),(7,1,t2),(8,1,t3),(9,1,(iV 4)),(10,1,l)]) fun q=>RK (vSt e 12 d q) fun r=>lA 12 r d fun t=>K t r f
theorem rhsetupv {s:Bool} {t0 t1 t2 t3:Value} {h:Hp} {nx:Nat} {K:KC'} (w:zQP s t0 t1 t2 t3 h nx K):Cv Q O s 106 [t0,t1,t2,t3] h nx K:=Cv.byE rhsetupL rfl w (by kernel_rfl)
def fofL:List (List Nat):=[[0,5,10,11,12]]
def fofk0 (s:Bool) (N:KVl) (e0:KVl) (R:KVl) (y0 y5 y10 y11 y12:Value) (h0:Hp) (n0:Nat):Prop:=bF .add 3 y12 (iV 1) fun a=>N [y0,y5,y10,y11,a] h0 n0
def fofl0 (s:Bool) (a0 a5 a10 a11 a12:Value) (h:Hp) (nx:Nat) (N:KVl) (e0:KVl) (R:KVl):Prop:=bF .lss 3 a12 a11 fun a=>IF a (xF 1 a10 a12 fun b=>lF h b fun c=>bF .lss 3 c a0 fun d=>IF d (cF s 196 [a5,c] h nx fun e f g=>IF e (dF 197 [c] f g fun i j k=>bF .shr 3 c (.int .u64 6) fun l=>xF 1 a5 l fun m=>lF j m fun n=>gL m n (bF .or 221 n i fun o=>xF 1 a5 l fun p=>RK (vSt j 1 p o) fun q=>(fofk0 s N e0 R a0 a5 a10 a11 a12 q k)) 1 [f]) ((fofk0 s N e0 R a0 a5 a10 a11 a12 f g))) ((fofk0 s N e0 R a0 a5 a10 a11 a12 h nx))) (e0 [a0,a5,a10,a11,a12] h nx)
def fof (s:Bool) (t0 t1:Value) (h:Hp) (nx:Nat) (K:KC'):Prop:=cF s 115 [t0] h nx fun a b c=>nF t1 fun d=>Lp (fL Q O s fofL 108 0) [t0,a,t1,d,(iV 0)] b c [(0,fun e f g=>K (nv e 1) f g)] (fun _ _ _=>False)
theorem fofb0 {s:Bool} {a0 a5 a10 a11 a12:Value} {h:Hp} {nx:Nat} {N e0 R:KVl}:fL Q O s fofL 108 0 [a0,a5,a10,a11,a12] h nx N [(0,e0)] R=fofl0 s a0 a5 a10 a11 a12 h nx N e0 R:=by kernel_rfl
theorem fofv {s:Bool} {t0 t1:Value} {h:Hp} {nx:Nat} {K:KC'} (w:fof s t0 t1 h nx K):Cv Q O s 108 [t0,t1] h nx K:=Cv.byE fofL rfl w (by kernel_rfl)
def zIR:List (List Nat):=[[1,7,12,13,14]]
def zJT (s:Bool) (a1 a7 a12 a13 a14:Value) (h:Hp) (nx:Nat) (N:KVl) (e0:KVl) (R:KVl):Prop:=bF .lss 3 a14 a13 fun a=>IF a (xF 1 a12 a14 fun b=>lF h b fun c=>xF 1 a1 c fun d=>lF h d fun e=>cF s 113 [a7,e] h nx fun f g i=>bF .add 3 a14 (iV 1) fun j=>N [a1,f,a12,a13,j] g i) (e0 [a1,a7,a12,a13,a14] h nx)
def zP4 (s:Bool) (t0 t1 t2:Value) (h:Hp) (nx:Nat) (K:KC'):Prop:=cF s 115 [t0] h nx fun a b c=>nF t2 fun d=>Lp (fL Q O s zIR 109 0) [t1,a,t2,d,(iV 0)] b c [(0,fun e f g=>K (nv e 1) f g)] (fun _ _ _=>False)
theorem zP3 {s:Bool} {a1 a7 a12 a13 a14:Value} {h:Hp} {nx:Nat} {N e0 R:KVl}:fL Q O s zIR 109 0 [a1,a7,a12,a13,a14] h nx N [(0,e0)] R=zJT s a1 a7 a12 a13 a14 h nx N e0 R:=by kernel_rfl
theorem touchedv {s:Bool} {t0 t1 t2:Value} {h:Hp} {nx:Nat} {K:KC'} (w:zP4 s t0 t1 t2 h nx K):Cv Q O s 109 [t0,t1,t2] h nx K:=Cv.byE zIR rfl w (by kernel_rfl)
def zQx:List (List Nat):=[[1,3,15,16,17],[1,6,35,36,37]]
def nearl0 (s:Bool) (a1 a3 a15 a16 a17:Value) (h:Hp) (nx:Nat) (N:KVl) (e0:KVl) (R:KVl):Prop:=bF .lss 3 a17 a16 fun a=>IF a (xF 3 a15 a17 fun b=>lA 3 h b fun c=>nC [(iV 0),(iV 0),(iV 0)] h nx fun d e f=>RK (vSt e 3 d c) fun g=>aF 0 d fun i=>lF g i fun j=>xF 1 a3 j fun k=>lF g k fun l=>aF 1 d fun m=>lF g m fun n=>AR (vBsl 1 [(iV 0)] [(0,1,n)]) g f fun o p q=>EK (orR (zS 1 p q l o)) fun r t u=>q≤u∧aF 0 d fun v=>lF t v fun w=>gL v w (xF 1 a3 w fun x=>RK (vSt t 1 x r) fun y=>bF .add 3 a17 (iV 1) fun z=>N [a1,a3,a15,a16,z] y u) 1 [g]) (e0 [a1,a3,a15,a16,a17] h nx)
def nearl1 (s:Bool) (a1 a6 a35 a36 a37:Value) (h:Hp) (nx:Nat) (N:KVl) (e2:KVl) (R:KVl):Prop:=bF .lss 3 a37 a36 fun a=>IF a (xF 1 a35 a37 fun b=>lF h b fun c=>aF 0 a1 fun d=>lF h d fun e=>cF s 108 [e,c] h nx fun f g i=>AR (vBsl 1 [nS] [(0,1,f)]) g i fun j k l=>EK (orR (zS 1 k l a6 j)) fun m n o=>bF .add 3 a37 (iV 1) fun p=>N [a1,m,a35,a36,p] n o) (e2 [a1,a6,a35,a36,a37] h nx)
def near (s:Bool) (t0:Value) (h:Hp) (nx:Nat) (K:KC'):Prop:=pC t0 h nx fun a b c=>aF 0 a fun d=>lF b d fun e=>AR (vMks [nS] e e) b c fun f g i=>lA 2 g a fun j=>cF s 129 [j] g i fun k l m=>cF s 130 [k] l m fun n o p=>RK (cFld 1 none n) fun q=>nF q fun r=>Lp (fL Q O s zQx 110 0) [a,f,q,r,(iV 0)] o p [(0,fun t u v=>nF (nv t 1) fun w=>Lp (fL Q O s zQx 110 1) [(nv t 0),nS,(nv t 1),w,(iV 0)] u v [(2,fun x y z=>K (nv x 1) y z)] (fun _ _ _=>False))] (fun _ _ _=>False)
theorem nearb0 {s:Bool} {a1 a3 a15 a16 a17:Value} {h:Hp} {nx:Nat} {N e0 R:KVl}:fL Q O s zQx 110 0 [a1,a3,a15,a16,a17] h nx N [(0,e0)] R=nearl0 s a1 a3 a15 a16 a17 h nx N e0 R:=by kernel_rfl
theorem nearb1 {s:Bool} {a1 a6 a35 a36 a37:Value} {h:Hp} {nx:Nat} {N e2 R:KVl}:fL Q O s zQx 110 1 [a1,a6,a35,a36,a37] h nx N [(2,e2)] R=nearl1 s a1 a6 a35 a36 a37 h nx N e2 R:=by kernel_rfl
theorem nearv {s:Bool} {t0:Value} {h:Hp} {nx:Nat} {K:KC'} (w:near s t0 h nx K):Cv Q O s 110 [t0] h nx K:=Cv.byE zQx rfl w (by kernel_rfl)
def zLc:List (List Nat):=[[3,6,7,8]]
def zIp (s:Bool) (a3 a6 a7 a8:Value) (h:Hp) (nx:Nat) (N:KVl) (e0:KVl) (R:KVl):Prop:=bF .lss 3 a8 a7 fun a=>IF a (xF 1 a6 a8 fun b=>lF h b fun c=>cF s 198 [c] h nx fun d e f=>bF .add 3 a3 d fun g=>bF .add 3 a8 (iV 1) fun i=>N [g,a6,a7,i] e f) (e0 [a3,a6,a7,a8] h nx)
def fcount (s:Bool) (t0:Value) (h:Hp) (nx:Nat) (K:KC'):Prop:=nF t0 fun a=>Lp (fL Q O s zLc 111 0) [(iV 0),t0,a,(iV 0)] h nx [(0,fun b c d=>K (nv b 0) c d)] (fun _ _ _=>False)
theorem zNY {s:Bool} {a3 a6 a7 a8:Value} {h:Hp} {nx:Nat} {N e0 R:KVl}:fL Q O s zLc 111 0 [a3,a6,a7,a8] h nx N [(0,e0)] R=zIp s a3 a6 a7 a8 h nx N e0 R:=by kernel_rfl
theorem fcountv {s:Bool} {t0:Value} {h:Hp} {nx:Nat} {K:KC'} (w:fcount s t0 h nx K):Cv Q O s 111 [t0] h nx K:=Cv.byE zLc rfl w (by kernel_rfl)
def fbothL:List (List Nat):=[]
def fboth (s:Bool) (t0 t1:Value) (h:Hp) (nx:Nat) (K:KC'):Prop:=nF t0 fun a=>cF s 199 [a,t0,t1,(.func (.func 200) #[] #[])] h nx fun b c d=>K b c d
theorem fbothv {s:Bool} {t0 t1:Value} {h:Hp} {nx:Nat} {K:KC'} (w:fboth s t0 t1 h nx K):Cv Q O s 112 [t0,t1] h nx K:=Cv.byE fbothL rfl w (by kernel_rfl)
def funionL:List (List Nat):=[]
def funion (s:Bool) (t0 t1:Value) (h:Hp) (nx:Nat) (K:KC'):Prop:=nF t0 fun a=>nF t1 fun b=>RK (min2 false a b) fun c=>cF s 199 [c,t0,t1,(.func (.func 201) #[] #[])] h nx fun d e f=>K d e f
theorem funionv {s:Bool} {t0 t1:Value} {h:Hp} {nx:Nat} {K:KC'} (w:funion s t0 t1 h nx K):Cv Q O s 113 [t0,t1] h nx K:=Cv.byE funionL rfl w (by kernel_rfl)
def fnewL:List (List Nat):=[]
def fnew (s:Bool) (t0:Value) (h:Hp) (nx:Nat) (K:KC'):Prop:=cF s 202 [t0] h nx fun a b c=>AR (vMks [(.int .u64 0)] a a) b c fun d e f=>K d e f
theorem fnewv {s:Bool} {t0:Value} {h:Hp} {nx:Nat} {K:KC'} (w:fnew s t0 h nx K):Cv Q O s 115 [t0] h nx K:=Cv.byE fnewL rfl w (by kernel_rfl)
def fputL:List (List Nat):=[]
def fput (s:Bool) (t0 t1:Value) (h:Hp) (nx:Nat) (K:KC'):Prop:=cF s 203 [t0] h nx fun a b c=>cF s 196 [t0,t1] b c fun d e f=>IF d (dF 197 [t1] e f fun g i j=>bF .shr 3 t1 (.int .u64 6) fun k=>xF 1 a k fun l=>lF i l fun m=>gL l m (bF .or 221 m g fun n=>xF 1 a k fun o=>RK (vSt i 1 o n) fun p=>K a p j) 1 [e]) (K a e f)
theorem fputv {s:Bool} {t0 t1:Value} {h:Hp} {nx:Nat} {K:KC'} (w:fput s t0 t1 h nx K):Cv Q O s 116 [t0,t1] h nx K:=Cv.byE fputL rfl w (by kernel_rfl)
def flistL:List (List Nat):=[]
def flist (s:Bool) (t0:Value) (h:Hp) (nx:Nat) (K:KC'):Prop:=cF s 205 [t0] h nx fun a b c=>cF s 204 [a] b c fun d e f=>K d e f
theorem flistv {s:Bool} {t0:Value} {h:Hp} {nx:Nat} {K:KC'} (w:flist s t0 h nx K):Cv Q O s 117 [t0] h nx K:=Cv.byE flistL rfl w (by kernel_rfl)
def zFJ:List (List Nat):=[[0,1,2,4,5,6],[0,1,2,4,5,6,7,18,19,20]]
def zNH (s:Bool) (a0 a1 a2 a4 a5 a6 a7 a18 a19 a20:Value) (h:Hp) (nx:Nat) (N:KVl) (e2:KVl) (R:KVl):Prop:=bF .lss 3 a20 a19 fun a=>IF a (xF 1 a18 a20 fun b=>lF h b fun c=>xF 1 a4 c fun d=>lF h d fun e=>dF 112 [e,a5] h nx fun f g i=>lA 5 g a2 fun j=>gA 5 a2 j (dF 190 [j,a6,c,f] g i fun k l m=>IF k (AR (vBsl 1 [(iV 0)] [(0,1,c)]) l m fun n o p=>EK (orR (zS 1 o p a7 n)) fun q r t=>bF .add 3 a20 (iV 1) fun u=>N [a0,a1,a2,a4,a5,a6,q,a18,a19,u] r t) (bF .add 3 a20 (iV 1) fun v=>N [a0,a1,a2,a4,a5,a6,a7,a18,a19,v] l m)) 1 [h]) (e2 [a0,a1,a2,a4,a5,a6,a7,a18,a19,a20] h nx)
def zNI (s:Bool) (a0 a1 a2 a4 a5 a6:Value) (h:Hp) (nx:Nat) (N:KVl) (e0:KVl) (R:KVl):Prop:=cF s 117 [a5] h nx fun a b c=>nF a fun d=>Lp (fL Q O s zFJ 188 1) [a0,a1,a2,a4,a5,a6,nS,a,d,(iV 0)] b c [(2,fun e f g=>cF s 111 [(nv e 4)] f g fun i j k=>bF .eql 3 i (iV 0) fun l=>IF l (e0 [(nv e 0),(nv e 1),(nv e 2),(nv e 3),(nv e 4),(nv e 5)] j k) (CVK Q O s (zBZ j k [(nv e 6)] (nv e 0)) fun m n o=>RK (oUn .not m) fun p=>IF p (e0 [(nv e 0),(nv e 1),(nv e 2),(nv e 3),(nv e 4),(nv e 5)] n o) (aF 0 (nv e 1) fun q=>lF n q fun r=>dF 108 [r,(nv e 6)] n o fun t u v=>dF 191 [(nv e 4),t] u v fun w x y=>aF 0 (nv e 1) fun z=>lF x z fun aa=>gL z aa (dF 109 [aa,(nv e 3),(nv e 6)] x y fun ab ac ad=>dF 191 [w,ab] ac ad fun ae af ag=>bF .add 3 (nv e 5) (iV 1) fun ah=>N [(nv e 0),(nv e 1),(nv e 2),(nv e 3),ae,ah] af ag) 2 [u,n])))] (fun _ _ _=>False)
def joins1 (s:Bool) (t0 t1 t2:Value) (h:Hp) (nx:Nat) (K:KC'):Prop:=lA 2 h t1 fun a=>cF s 110 [a] h nx fun b c d=>aF 0 t1 fun e=>lF c e fun f=>cF s 189 [nS,f] c d fun g i j=>Lp (fL Q O s zFJ 188 0) [t0,t1,t2,b,g,(iV 0)] i j [(0,fun k l m=>K (.tuple ⟨[]⟩) l m)] (fun _ _ _=>False)
theorem joins1b1 {s:Bool} {a0 a1 a2 a4 a5 a6 a7 a18 a19 a20:Value} {h:Hp} {nx:Nat} {N e2 R:KVl}:fL Q O s zFJ 188 1 [a0,a1,a2,a4,a5,a6,a7,a18,a19,a20] h nx N [(2,e2)] R=zNH s a0 a1 a2 a4 a5 a6 a7 a18 a19 a20 h nx N e2 R:=by kernel_rfl
theorem joins1b0 {s:Bool} {a0 a1 a2 a4 a5 a6:Value} {h:Hp} {nx:Nat} {N e0 R:KVl}:fL Q O s zFJ 188 0 [a0,a1,a2,a4,a5,a6] h nx N [(0,e0)] R=zNI s a0 a1 a2 a4 a5 a6 h nx N e0 R:=by kernel_rfl
theorem joins1v {s:Bool} {t0 t1 t2:Value} {h:Hp} {nx:Nat} {K:KC'} (w:joins1 s t0 t1 t2 h nx K):Cv Q O s 188 [t0,t1,t2] h nx K:=Cv.byE zFJ rfl w (by kernel_rfl)
def fflipL:List (List Nat):=[]
def zIo (s:Bool) (K:KC') (y5 y6 y22:Value) (h0:Hp) (n0:Nat):Prop:=IF y22 (nF y5 fun a=>bF .sub 3 a (iV 1) fun b=>xF 1 y5 b fun c=>lF h0 c fun d=>RK (zDz (.int .u64) y6) fun e=>bF .shl 221 (.int .u64 1) e fun f=>bF .sub 221 f (.int .u64 1) fun g=>bF .and 221 d g fun i=>xF 1 y5 b fun j=>RK (vSt h0 1 j i) fun k=>K y5 k n0) (K y5 h0 n0)
def fflip (s:Bool) (t0 t1:Value) (h:Hp) (nx:Nat) (K:KC'):Prop:=cF s 202 [t1] h nx fun a b c=>cF s 199 [a,t0,nS,(.func (.func 270) #[] #[])] b c fun d e f=>bF .and 3 t1 (iV 63) fun g=>bF .neq 3 g (iV 0) fun i=>IF i (bF .gtr 3 t1 (iV 0) fun j=>IF j (bF .lss 3 t1 (iV 4096) fun k=>(zIo s K d g k e f)) ((zIo s K d g (.bool false) e f))) ((zIo s K d g (.bool false) e f))
theorem fflipv {s:Bool} {t0 t1:Value} {h:Hp} {nx:Nat} {K:KC'} (w:fflip s t0 t1 h nx K):Cv Q O s 189 [t0,t1] h nx K:=Cv.byE fflipL rfl w (by kernel_rfl)
def leastL:List (List Nat):=[]
def least (s:Bool) (t0 t1 t2 t3:Value) (h:Hp) (nx:Nat) (K:KC'):Prop:=pC t0 h nx fun a b c=>pC t1 b c fun d e f=>lA 5 e a fun g=>lF e d fun i=>cF s 271 [g,i,t2] e f fun j k l=>nC [(iV 0)] k l fun m n o=>RK (vSt n 1 m j) fun p=>cF s 117 [t3] p o fun q r t=>RK (.ok (Value.func (.func 273) ⟨[]⟩ ⟨[a,d,m]⟩)) fun u=>cF s 272 [q,u] r t fun v w x=>RK (oUn .not v) fun y=>K y w x
theorem leastv {s:Bool} {t0 t1 t2 t3:Value} {h:Hp} {nx:Nat} {K:KC'} (w:least s t0 t1 t2 t3 h nx K):Cv Q O s 190 [t0,t1,t2,t3] h nx K:=Cv.byE leastL rfl w (by kernel_rfl)
def fminusL:List (List Nat):=[]
def fminus (s:Bool) (t0 t1:Value) (h:Hp) (nx:Nat) (K:KC'):Prop:=nF t0 fun a=>cF s 199 [a,t0,t1,(.func (.func 274) #[] #[])] h nx fun b c d=>K b c d
theorem fminusv {s:Bool} {t0 t1:Value} {h:Hp} {nx:Nat} {K:KC'} (w:fminus s t0 t1 h nx K):Cv Q O s 191 [t0,t1] h nx K:=Cv.byE fminusL rfl w (by kernel_rfl)
def fwithinL:List (List Nat):=[]
def zRc (s:Bool) (t0 t1:Value) (h:Hp) (nx:Nat) (K:KC'):Prop:=bF .geq 3 t1 (iV 0) fun a=>IF a (bF .shr 3 t1 (.int .u64 6) fun b=>nF t0 fun c=>bF .lss 3 b c fun d=>K d h nx) (K (.bool false) h nx)
theorem fwithinv {s:Bool} {t0 t1:Value} {h:Hp} {nx:Nat} {K:KC'} (w:zRc s t0 t1 h nx K):Cv Q O s 196 [t0,t1] h nx K:=Cv.byE fwithinL rfl w (by kernel_rfl)
def fbitL:List (List Nat):=[]
def fbit (s:Bool) (t0:Value) (h:Hp) (nx:Nat) (K:KC'):Prop:=RK (zDz (.int .u64) t0) fun a=>bF .and 236 a (.int .u64 63) fun b=>bF .shl 221 (.int .u64 1) b fun c=>K c h nx
theorem fbitv {s:Bool} {t0:Value} {h:Hp} {nx:Nat} {K:KC'} (w:fbit s t0 h nx K):Cv Q O s 197 [t0] h nx K:=Cv.byE fbitL rfl w (by kernel_rfl)
def zRg:List (List Nat):=[[0,3]]
def zRf (s:Bool) (a0 a3:Value) (h:Hp) (nx:Nat) (N:KVl) (e0:KVl) (R:KVl):Prop:=bF .eql 221 a0 (.int .u64 0) fun a=>IF a (e0 [a0,a3] h nx) (bF .sub 221 a0 (.int .u64 1) fun b=>bF .and 221 a0 b fun c=>bF .add 3 a3 (iV 1) fun d=>N [c,d] h nx)
def fones (s:Bool) (t0:Value) (h:Hp) (nx:Nat) (K:KC'):Prop:=Lp (fL Q O s zRg 198 0) [t0,(iV 0)] h nx [(0,fun a b c=>K (nv a 1) b c)] (fun _ _ _=>False)
theorem fonesb0 {s:Bool} {a0 a3:Value} {h:Hp} {nx:Nat} {N e0 R:KVl}:fL Q O s zRg 198 0 [a0,a3] h nx N [(0,e0)] R=zRf s a0 a3 h nx N e0 R:=by kernel_rfl
theorem fonesv {s:Bool} {t0:Value} {h:Hp} {nx:Nat} {K:KC'} (w:fones s t0 h nx K):Cv Q O s 198 [t0] h nx K:=Cv.byE zRg rfl w (by kernel_rfl)
def zLd:List (List Nat):=[[1,2,3,9,16,17]]
def zDg (s:Bool) (N:KVl) (e0:KVl) (R:KVl) (y1 y2 y3 y9 y16 y17:Value) (h0:Hp) (n0:Nat):Prop:=bF .add 3 y17 (iV 1) fun a=>N [y1,y2,y3,y9,y16,a] h0 n0
def zIq (s:Bool) (a1 a2 a3 a9 a16 a17:Value) (h:Hp) (nx:Nat) (N:KVl) (e0:KVl) (R:KVl):Prop:=bF .lss 3 a17 a16 fun a=>IF a (nF a1 fun b=>bF .lss 3 a17 b fun c=>IF c (xF 1 a1 a17 fun d=>lF h d fun e=>nF a2 fun f=>bF .lss 3 a17 f fun g=>IF g (xF 1 a2 a17 fun i=>lF h i fun j=>CVK Q O s (zBZ h nx [e,j] a3) fun k l m=>xF 1 a9 a17 fun n=>RK (vSt l 1 n k) fun o=>(zDg s N e0 R a1 a2 a3 a9 a16 a17 o m)) (CVK Q O s (zBZ h nx [e,(.int .u64 0)] a3) fun p q r=>xF 1 a9 a17 fun t=>RK (vSt q 1 t p) fun u=>(zDg s N e0 R a1 a2 a3 a9 a16 a17 u r))) (nF a2 fun v=>bF .lss 3 a17 v fun w=>IF w (xF 1 a2 a17 fun x=>lF h x fun y=>CVK Q O s (zBZ h nx [(.int .u64 0),y] a3) fun z aa ab=>xF 1 a9 a17 fun ac=>RK (vSt aa 1 ac z) fun ad=>(zDg s N e0 R a1 a2 a3 a9 a16 a17 ad ab)) (CVK Q O s (zBZ h nx [(.int .u64 0),(.int .u64 0)] a3) fun ae af ag=>xF 1 a9 a17 fun ah=>RK (vSt af 1 ah ae) fun ai=>(zDg s N e0 R a1 a2 a3 a9 a16 a17 ai ag)))) (e0 [a1,a2,a3,a9,a16,a17] h nx)
def fbothw (s:Bool) (t0 t1 t2 t3:Value) (h:Hp) (nx:Nat) (K:KC'):Prop:=AR (vMks [(.int .u64 0)] t0 t0) h nx fun a b c=>nF a fun d=>Lp (fL Q O s zLd 199 0) [t1,t2,t3,a,d,(iV 0)] b c [(0,fun e f g=>K (nv e 3) f g)] (fun _ _ _=>False)
theorem zNZ {s:Bool} {a1 a2 a3 a9 a16 a17:Value} {h:Hp} {nx:Nat} {N e0 R:KVl}:fL Q O s zLd 199 0 [a1,a2,a3,a9,a16,a17] h nx N [(0,e0)] R=zIq s a1 a2 a3 a9 a16 a17 h nx N e0 R:=by kernel_rfl
theorem fbothwv {s:Bool} {t0 t1 t2 t3:Value} {h:Hp} {nx:Nat} {K:KC'} (w:fbothw s t0 t1 t2 t3 h nx K):Cv Q O s 199 [t0,t1,t2,t3] h nx K:=Cv.byE zLd rfl w (by kernel_rfl)
def fboth1L:List (List Nat):=[]
def fboth1 (s:Bool) (t0 t1:Value) (h:Hp) (nx:Nat) (K:KC'):Prop:=bF .and 221 t0 t1 fun a=>K a h nx
theorem fboth1v {s:Bool} {t0 t1:Value} {h:Hp} {nx:Nat} {K:KC'} (w:fboth1 s t0 t1 h nx K):Cv Q O s 200 [t0,t1] h nx K:=Cv.byE fboth1L rfl w (by kernel_rfl)
def funion1L:List (List Nat):=[]
def zRd (s:Bool) (t0 t1:Value) (h:Hp) (nx:Nat) (K:KC'):Prop:=bF .or 221 t0 t1 fun a=>K a h nx
theorem funion1v {s:Bool} {t0 t1:Value} {h:Hp} {nx:Nat} {K:KC'} (w:zRd s t0 t1 h nx K):Cv Q O s 201 [t0,t1] h nx K:=Cv.byE funion1L rfl w (by kernel_rfl)
def fwordsL:List (List Nat):=[]
def fwords (s:Bool) (t0:Value) (h:Hp) (nx:Nat) (K:KC'):Prop:=RK (min2 false t0 (iV 0)) fun a=>RK (min2 true a (iV 4096)) fun b=>bF .add 3 b (iV 63) fun c=>bF .shr 3 c (.int .u64 6) fun d=>K d h nx
theorem fwordsv {s:Bool} {t0:Value} {h:Hp} {nx:Nat} {K:KC'} (w:fwords s t0 h nx K):Cv Q O s 202 [t0] h nx K:=Cv.byE fwordsL rfl w (by kernel_rfl)
def cloneuL:List (List Nat):=[]
def cloneu (s:Bool) (t0:Value) (h:Hp) (nx:Nat) (K:KC'):Prop:=bF .eql 74 t0 nS fun a=>IF a (K nS h nx) (AR (vBsl 0 [] []) h nx fun b c d=>EK (orR (zS 1 c d b t0)) fun e f g=>K e f g)
theorem cloneuv {s:Bool} {t0:Value} {h:Hp} {nx:Nat} {K:KC'} (w:cloneu s t0 h nx K):Cv Q O s 203 [t0] h nx K:=Cv.byE cloneuL rfl w (by kernel_rfl)
def collectL:List (List Nat):=[]
def zSG (s:Bool) (t0:Value) (h:Hp) (nx:Nat) (K:KC'):Prop:=cF s 276 [nS,t0] h nx fun a b c=>K a b c
theorem collectv {s:Bool} {t0:Value} {h:Hp} {nx:Nat} {K:KC'} (w:zSG s t0 h nx K):Cv Q O s 204 [t0] h nx K:=Cv.byE collectL rfl w (by kernel_rfl)
def eachL:List (List Nat):=[]
def each (s:Bool) (t0:Value) (h:Hp) (nx:Nat) (K:KC'):Prop:=pC t0 h nx fun a b c=>RK (.ok (Value.func (.func 277) ⟨[]⟩ ⟨[a]⟩)) fun d=>K d b c
theorem eachv {s:Bool} {t0:Value} {h:Hp} {nx:Nat} {K:KC'} (w:each s t0 h nx K):Cv Q O s 205 [t0] h nx K:=Cv.byE eachL rfl w (by kernel_rfl)
def fflip1L:List (List Nat):=[]
def fflip1 (s:Bool) (t0 t1:Value) (h:Hp) (nx:Nat) (K:KC'):Prop:=RK (oUn .xor t0) fun a=>K a h nx
theorem fflip1v {s:Bool} {t0 t1:Value} {h:Hp} {nx:Nat} {K:KC'} (w:fflip1 s t0 t1 h nx K):Cv Q O s 270 [t0,t1] h nx K:=Cv.byE fflip1L rfl w (by kernel_rfl)
def pdrawL:List (List Nat):=[]
def pdraw (s:Bool) (t0 t1 t2:Value) (h:Hp) (nx:Nat) (K:KC'):Prop:=pC t0 h nx fun a b c=>lA 5 b a fun d=>cF s 128 [d] b c fun e f g=>bF .neq 34 e (iV 0) fun i=>IF i (K (iV 0) f g) (lA 5 f a fun j=>cF s 337 [j,t1,t2] f g fun k l m=>K k l m)
theorem pdrawv {s:Bool} {t0 t1 t2:Value} {h:Hp} {nx:Nat} {K:KC'} (w:pdraw s t0 t1 t2 h nx K):Cv Q O s 271 [t0,t1,t2] h nx K:=Cv.byE pdrawL rfl w (by kernel_rfl)
def contiL:List (List Nat):=[]
def conti (s:Bool) (t0 t1:Value) (h:Hp) (nx:Nat) (K:KC'):Prop:=cF s 334 [t0,t1] h nx fun a b c=>bF .geq 3 a (iV 0) fun d=>K d b c
theorem contiv {s:Bool} {t0 t1:Value} {h:Hp} {nx:Nat} {K:KC'} (w:conti s t0 t1 h nx K):Cv Q O s 272 [t0,t1] h nx K:=Cv.byE contiL rfl w (by kernel_rfl)
def least1L:List (List Nat):=[]
def least1 (s:Bool) (t0 t1 t2 t3:Value) (h:Hp) (nx:Nat) (K:KC'):Prop:=lA 5 h t1 fun a=>lF h t2 fun b=>dF 271 [a,b,t0] h nx fun c d e=>lF d t3 fun f=>gL t3 f (bF .leq 2 c f fun g=>K g d e) 1 [h]
theorem least1v {s:Bool} {t0 t1 t2 t3:Value} {h:Hp} {nx:Nat} {K:KC'} (w:least1 s t0 t1 t2 t3 h nx K):Cv Q O s 273 [t0,t1,t2,t3] h nx K:=Cv.byE least1L rfl w (by kernel_rfl)
def fminus1L:List (List Nat):=[]
def zRj (s:Bool) (t0 t1:Value) (h:Hp) (nx:Nat) (K:KC'):Prop:=bF .andNot 221 t0 t1 fun a=>K a h nx
theorem fminus1v {s:Bool} {t0 t1:Value} {h:Hp} {nx:Nat} {K:KC'} (w:zRj s t0 t1 h nx K):Cv Q O s 274 [t0,t1] h nx K:=Cv.byE fminus1L rfl w (by kernel_rfl)
def zKM:List (List Nat):=[[0,6,7,8],[0,4,5,6,7,8]]
def zIu (s:Bool) (N:KVl) (e2:KVl) (R:KVl) (y0 y4 y5 y6 y7 y8:Value) (h0:Hp) (n0:Nat):Prop:=bF .shr 221 y4 (.int .u64 1) fun a=>bF .add 3 y5 (iV 1) fun b=>N [y0,a,b,y6,y7,y8] h0 n0
def zRr (s:Bool) (a0 a4 a5 a6 a7 a8:Value) (h:Hp) (nx:Nat) (N:KVl) (e2:KVl) (R:KVl):Prop:=bF .neq 221 a4 (.int .u64 0) fun a=>IF a (bF .and 221 a4 (.int .u64 1) fun b=>bF .eql 221 b (.int .u64 1) fun c=>IF c (CVK Q O s (zBZ h nx [a5] a0) fun d e f=>RK (oUn .not d) fun g=>IF g (R [a0,a4,a5,a6,a7,a8] e f) ((zIu s N e2 R a0 a4 a5 a6 a7 a8 e f))) ((zIu s N e2 R a0 a4 a5 a6 a7 a8 h nx))) (e2 [a0,a4,a5,a6,a7,a8] h nx)
def zLg (s:Bool) (a0 a6 a7 a8:Value) (h:Hp) (nx:Nat) (N:KVl) (e0:KVl) (R:KVl):Prop:=bF .lss 3 a8 a7 fun a=>IF a (xF 1 a6 a8 fun b=>lF h b fun c=>bF .shl 3 a8 (.int .u64 6) fun d=>Lp (fL Q O s zKM 277 1) [a0,c,d,a6,a7,a8] h nx [(2,fun e f g=>bF .add 3 (nv e 5) (iV 1) fun i=>N [(nv e 0),(nv e 3),(nv e 4),i] f g)] (fun j k l=>R [(nv j 0),(nv j 3),(nv j 4),(nv j 5)] k l)) (e0 [a0,a6,a7,a8] h nx)
def each1 (s:Bool) (t0 t1:Value) (h:Hp) (nx:Nat) (K:KC'):Prop:=lF h t1 fun a=>nF a fun b=>Lp (fL Q O s zKM 277 0) [t0,a,b,(iV 0)] h nx [(0,fun c d e=>K (.tuple ⟨[]⟩) d e)] (fun f g i=>K (.tuple ⟨[]⟩) g i)
theorem each1b1 {s:Bool} {a0 a4 a5 a6 a7 a8:Value} {h:Hp} {nx:Nat} {N e2 R:KVl}:fL Q O s zKM 277 1 [a0,a4,a5,a6,a7,a8] h nx N [(2,e2)] R=zRr s a0 a4 a5 a6 a7 a8 h nx N e2 R:=by kernel_rfl
theorem zRs {s:Bool} {a0 a6 a7 a8:Value} {h:Hp} {nx:Nat} {N e0 R:KVl}:fL Q O s zKM 277 0 [a0,a6,a7,a8] h nx N [(0,e0)] R=zLg s a0 a6 a7 a8 h nx N e0 R:=by kernel_rfl
theorem each1v {s:Bool} {t0 t1:Value} {h:Hp} {nx:Nat} {K:KC'} (w:each1 s t0 t1 h nx K):Cv Q O s 277 [t0,t1] h nx K:=Cv.byE zKM rfl w (by kernel_rfl)
def zLW:List (List Nat):=[[0,1,4,7,8]]
def zNN (s:Bool) (a0 a1 a4 a7 a8:Value) (h:Hp) (nx:Nat) (N:KVl) (e0:KVl) (R:KVl):Prop:=bF .lss 3 a8 a7 fun a=>IF a (xF 1 a0 a8 fun b=>lF h b fun c=>CVK Q O s (zBZ h nx [c] a1) fun d e f=>IF d (R [a0,a1,a8,a7,a8] e f) (bF .add 3 a8 (iV 1) fun g=>N [a0,a1,a4,a7,g] e f)) (e0 [a0,a1,a4,a7,a8] h nx)
def indexi (s:Bool) (t0 t1:Value) (h:Hp) (nx:Nat) (K:KC'):Prop:=nF t0 fun a=>Lp (fL Q O s zLW 334 0) [t0,t1,(iV 0),a,(iV 0)] h nx [(0,fun b c d=>K (iV (-1)) c d)] (fun e f g=>K (nv e 2) f g)
theorem indexib0 {s:Bool} {a0 a1 a4 a7 a8:Value} {h:Hp} {nx:Nat} {N e0 R:KVl}:fL Q O s zLW 334 0 [a0,a1,a4,a7,a8] h nx N [(0,e0)] R=zNN s a0 a1 a4 a7 a8 h nx N e0 R:=by kernel_rfl
theorem indexiv {s:Bool} {t0 t1:Value} {h:Hp} {nx:Nat} {K:KC'} (w:indexi s t0 t1 h nx K):Cv Q O s 334 [t0,t1] h nx K:=Cv.byE zLW rfl w (by kernel_rfl)
def pnumberL:List (List Nat):=[]
def zG3 (s:Bool) (K:KC') (y1 y2 y3 y19:Value) (h0:Hp) (n0:Nat):Prop:=IF y19 (K (iV 0) h0 n0) (aF 4 y3 fun a=>lF h0 a fun b=>nF b fun c=>bF .gtr 3 c (iV 0) fun d=>IF d (aF 4 y3 fun e=>lF h0 e fun f=>aF 1 y3 fun g=>lF h0 g fun i=>bF .mul 3 y1 i fun j=>bF .add 3 j y2 fun k=>bF .rem 3 k c fun l=>xF 1 f l fun m=>lF h0 m fun n=>bF .shl 2 n (.int .u64 12) fun o=>bF .or 2 o y2 fun p=>K p h0 n0) (bF .shl 2 (iV 0) (.int .u64 12) fun q=>bF .or 2 q y2 fun r=>K r h0 n0))
def zQ7 (s:Bool) (t0 t1 t2:Value) (h:Hp) (nx:Nat) (K:KC'):Prop:=pC t0 h nx fun a b c=>cF s 222 [t1,(iV 8192)] b c fun d e f=>RK (oUn .not d) fun g=>IF g ((zG3 s K t1 t2 a (.bool true) e f)) (aF 1 a fun i=>lF e i fun j=>bF .sub 3 j (iV 1) fun k=>cF s 222 [t2,k] e f fun l m n=>RK (oUn .not l) fun o=>(zG3 s K t1 t2 a o m n))
theorem pnumberv {s:Bool} {t0 t1 t2:Value} {h:Hp} {nx:Nat} {K:KC'} (w:zQ7 s t0 t1 t2 h nx K):Cv Q O s 337 [t0,t1,t2] h nx K:=Cv.byE pnumberL rfl w (by kernel_rfl)
theorem within_c {s:Bool} {k n:Int} {h:Hp} {nx:Nat}:Cv Q O s 98 [.int .i64 k,.int .i64 n] h nx (fun v h' nx'=>v = .int .i64 (wnF k n)∧h'=h∧nx'=nx):=by
 refine withinv ?_;unfold within bF iV;simp (disch:=omega) only [SS,seval];refine ⟨fun h1=>by simp [wnF,h1],fun h1=>⟨fun h2=>by simp [wnF,h2],fun h2=>?_⟩⟩;rw [zJE (by omega),zX];simp [wnF,h1,h2]
theorem rd3 {es:List Edg3} {i:Nat} {e:Edg3} (he:es[i]? = some e):zA2 (some 3) (i*3) (flat enc3 es) = .ok (.agg ⟨[.int .i64 e.1,.int .i64 e.2.1,.int .i64 e.2.2]⟩):=by
 have hg:=zCv (enc:=enc3) (k:=3) (fun _=>rfl) he;have hi:=(List.getElem?_eq_some_iff.1 he).1;rw [zBh,if_pos (by rw [zAF (k:=3) (fun _=>rfl)]; omega),hg];rfl
def GraphK (nx:Nat) (h:Hp):KC':=fun r h' nx'=>∃ (N:Nat) (v2:Value) (gs:List GE),r = .agg ⟨[.int .i64 (N:Int),v2]⟩∧N<24∧gs.length≤60∧(∀ g∈gs,GOk N g)∧SlNw h' nx nx' v2 encG gs∧nx≤nx'∧Keep nx h h'
def GraphJ (n:Int) (v:Value) (es:List Edg3) (N nx:Nat) (h:Hp) (m:Nat) (vs:List Value) (h':Hp) (nx':Nat):Prop :=
 ∃ (i:Nat) (v2:Value) (gs:List GE),m=60-i∧i≤60∧vs=[.pointer (some ⟨nx,0,none⟩),.pointer (some ⟨nx+1,0,none⟩),.pointer (some ⟨nx+1+1,0,none⟩),.int .i64 (i:Int)] ∧
  hget h' nx=some (.cells [.int .i64 n,v] false)∧hget h' (nx+1)=some (.cells [.int .i64 0,.slice none 0 0] false)∧hget h' (nx+1+1)=some (.cells [.int .i64 (N:Int),v2] false) ∧
  SlAt h' v2 encG 3 gs (nx+1+1+1) nx'∧gs.length=i∧(∀ g∈gs,GOk N g)∧nx+1+1+1≤nx'∧Keep nx h h'
theorem zHW {α:Type} {enc:α→List Value} {k:Nat} (hk:∀ x,(enc x).length=k) (hcell:∀ x,zf (enc x)=true) (hk0:0<k) {h:Hp} {nx lo:Nat} {v:Value} {l:List α} (hv:SlAt h v enc k l lo nx) (hlo:lo≤nx)
  {b2 o2 cap2:Nat} {sp2:Option Nat} {cs:List Value} {ro:Bool} (x:α) (h2:hget h b2=some (.cells cs ro)) (hx:(cs.drop o2).take k=enc x) (hsz:(l.length+1)*k≤1000000) {K:Value→Hp→Nat→Prop}
  (hK:∀ v' h',SlAt h' v' enc k (l++[x]) lo (nx+1)→(∀ b,b<lo→hget h' b=hget h b)→K v' h' (nx+1)):EK (orR (zS k h nx v (.slice (some ⟨b2,o2,sp2⟩) 1 cap2))) K:=by
 obtain ⟨v',h',e,a,b⟩:=zSi hk hcell hk0 hv hlo h2 hx hsz;rw [e]; exact hK _ _ a b
theorem graph_c {s:Bool} {n:Int} {v:Value} {es:List Edg3} {h:Hp} {nx:Nat} (hv:SlRd h nx v enc3 es):Cv Q O s 97 [.agg ⟨[.int .i64 n,v]⟩] h nx (GraphK nx h):=by
 refine graphv ?_;obtain ⟨a,cap,rfl,hc⟩:=id hv;unfold graph aF cF iV lA lF nC nS pC;simp (disch:=omega) only [SS,seval];refine within_c.mono ?_;rintro r h1 nx1 ⟨rfl,rfl,rfl⟩;obtain ⟨N,hN,hlt⟩:=zIO (k:=n) (n:=24)
 have hlt:=hlt (by omega);rw [hN];simp (disch:=omega) only [SS,seval];refine Lp.mk (GraphJ n (.slice a es.length cap) es N nx h) 60 ⟨0,.slice none 0 0,[],rfl,by omega,rfl,by rw [hold (by omega),hold (by omega),hold (by omega),hnew],by rw [hold (by omega),hold (by omega),hnew],hnew _ _ _,.inl ⟨rfl,rfl⟩,rfl,by simp,by omega,fun b hb=>by rw [hold (by omega),hold (by omega),hold (by omega),hold (by omega)]⟩ ?_;rintro m _ h' nx' ⟨i,v2,gs,rfl,hi,rfl,g0,g1,g2,hsl,hgl,hok,hnx,hk⟩;obtain ⟨a2,n2,c2,rfl⟩:=hsl.form;rw [graphb0];unfold zR7 aF bF iV lF nF;have stop:zFM s (fun vs h_1 nx_1=>∃ m',m'<60-i∧GraphJ n (.slice a es.length cap) es N nx h m' vs h_1 nx_1)
   (fun v19 h17 n18=>RK (vLd (some 2) h17 (nv v19 2)) fun x65=>RK (vSt h17 2 (nv v19 1) x65) fun h66=>RK (vLd (some 2) h66 (nv v19 1)) fun x67=>GraphK nx h x67 h66 n18) (fun _ _ _=>False)
   (.pointer (some ⟨nx,0,none⟩)) (.pointer (some ⟨nx+1,0,none⟩)) (.pointer (some ⟨nx+1+1,0,none⟩)) (.int .i64 (i:Int)) (.bool false) h' nx':=by
  unfold zFM aF bF dF gL iV lA lF nC xF;simp (disch:=omega) only [SS,g1,g2,seval];refine ⟨N,_,gs,rfl,by omega,by omega,hok,hsl.nw.keep (fun b h1 h2=>hold (by omega)) (by omega) (Nat.le_refl _),by omega,hk.set (by omega)⟩
 simp (disch:=omega) only [SS,g0,g2,seval];refine ⟨fun h1=>⟨fun h2=>?_,fun h2=>stop⟩,fun h1=>stop⟩
 by_cases h3:(0:Int)<(N:Int)
 case neg=>rw [decide_eq_false h3]; exact stop
 unfold zFM aF bF dF gL iV lA lF nC xF;obtain ⟨x,hx⟩:=zj h1;obtain ⟨_,b,sp,ro,cap',hbn,hveq,hbh⟩:=hv.at hx;cases hveq;have hb':=(hk b hbn).trans hbh;simp (disch:=omega) only [SS,g0,g2,hb',rd3 hx,decide_eq_true h3,seval];refine within_c.mono ?_;rintro r h1 nx1 ⟨rfl,rfl,rfl⟩;obtain ⟨f,hf,hfl⟩:=zIO (k:=x.1) (n:=N)
 rw [hf];simp (disch:=omega) only [SS,g0,g2,seval];refine within_c.mono ?_;rintro r h1 nx1 ⟨rfl,rfl,rfl⟩;obtain ⟨t,ht,htl⟩:=zIO (k:=x.2.1) (n:=N)
 rw [ht];obtain ⟨w,hw,hw0,hw1⟩:=and_low x.2.2;simp (disch:=omega) only [SS,↓reduceIte,Nat.reduceAdd,Nat.reduceSub,Nat.reduceMul,Nat.reduceLT,Nat.reduceLeDiff,Nat.reduceEqDiff,Int.reduceBEq,Int.reduceLT,Int.reduceNeg,g0,g2,bin_and,hw];refine zHW (enc:=encG) (lo:=nx+1+1+1) (fun _=>rfl) (fun _=>rfl) (by omega) (hsl.keep (fun b h1 h2=>by rw [hold (by omega),hold (by omega),hold (by omega)]) (by omega)) (by omega) ⟨f,t,w⟩ (hnew _ _ _) rfl (by omega) ?_;intro v3 h3 hs3 hk3;obtain ⟨a3,n3,c3,rfl⟩:=hs3.form;simp (disch:=omega) only [SS,hk3 (nx+1+1) (by omega),hk3 (nx+1) (by omega),hk3 nx (by omega),g2,zZ (show i<1000000000000 by omega),seval];refine ⟨by omega,60-(i+1),by omega,i+1,_,gs++[⟨f,t,w⟩],rfl,by omega,rfl,?_,?_,hnew _ _ _,hs3.keep (fun b h1 h2=>hold (by omega)) (Nat.le_refl _),by simp [hgl],?_,by omega,?_⟩
 ·rw [hold (by omega),hk3 nx (by omega),hold (by omega),hold (by omega),hold (by omega)]; exact g0
 ·rw [hold (by omega),hk3 (nx+1) (by omega),hold (by omega),hold (by omega),hold (by omega)]; exact g1
 ·intro g hg;rcases List.mem_append.1 hg with hg | hg
  ·exact hok g hg
  ·rw [List.mem_singleton.1 hg]; exact ⟨(by omega:f<N),(by omega:t<N),hw0,hw1⟩
 ·intro b hb;rw [hold (by omega),hk3 b (by omega),hold (by omega),hold (by omega),hold (by omega)]; exact hk b hb
def MakeG (nx:Nat) (h:Hp):KC':=fun r h' nx'=>∃ (N sr:Nat) (ra rb:Int) (v2:Value) (gs:List GE),r = .tuple ⟨[.agg ⟨[.int .i64 (N:Int),v2]⟩,.int .i64 (sr:Int),.int .i64 ra,.int .i64 rb]⟩∧0<N∧N<24∧sr<N∧gs.length≤60∧(∀ g∈gs,GOk N g)∧SlNw h' nx nx' v2 encG gs∧nx≤nx'∧Keep nx h h'
theorem make_c {s:Bool} {n V R C:Int} {v:Value} {es:List Edg3} {h:Hp} {nx:Nat} (hv:SlRd h nx v enc3 es):Cv Q O s 29 [.agg ⟨[.int .i64 n,v,.int .i64 V,.int .u8 R,.int .u8 C]⟩] h nx (MakeG nx h):=by
 refine makev ?_;obtain ⟨a,cap,rfl,hc⟩:=id hv;unfold make aF bF cF iV lA lF nC nS pC;simp (disch:=omega) only [SS,seval];refine (graph_c (hv.keep (fun b hb=>by rw [hold (by omega),hold (by omega)]) (show nx≤nx+1+1 by omega))).mono ?_;rintro r h1 nx1 ⟨N,v2,gs,rfl,hN,hgl,hok,hgs,hle,hk⟩;obtain ⟨a2,c2,rfl,hc2⟩:=id hgs;have g0:=hk nx (by omega);have g1:=hk (nx+1) (by omega);rw [hold (by omega),hnew] at g0;rw [hnew] at g1;have fin:∀ (M:Nat) (h':Hp) (a2:Option Addr) (gs:List GE) (c2:Nat),SlNw h1 (nx+1+1) nx1 (.slice a2 gs.length c2) encG gs→gs.length≤60→0<M→M<24→hget h' nx1=some (.cells [.int .i64 (M:Int),.slice a2 gs.length c2] false)→hget h' nx=some (.cells [.int .i64 n,.slice a es.length cap,.int .i64 V,.int .u8 R,.int .u8 C] false)→hget h' (nx+1)=some (.cells [.int .i64 0,.slice none 0 0] false)→(∀ g∈gs,GOk M g) →
   (∀ b,nx+1+1≤b→b<nx1→hget h' b=hget h1 b)→(∀ b,b<nx→hget h' b=hget h1 b)→zNB s (MakeG nx h) (.pointer (some ⟨nx,0,none⟩)) (.pointer (some ⟨nx+1,0,none⟩)) (.pointer (some ⟨nx1,0,none⟩)) h' (nx1+1):=by
  intro M h' a2 gs c2 hgs hgl hM0 hM e1 e2 e3 hok' hkk hkl;unfold zNB aF bF dF gA gL iV lA lF;simp (disch:=omega) only [SS,e1,e2,e3,seval];refine within_c.mono ?_;rintro r h2 nx2 ⟨rfl,rfl,rfl⟩;obtain ⟨f,hf,hfl⟩:=zIO (k:=V) (n:=M)
  rw [hf];simp (disch:=omega) only [SS,e1,e2,e3,zJE,seval];refine ⟨M,f,_,_,_,gs,rfl,hM0,hM,by omega,hgl,hok',hgs.keep (fun b h1 h2=>by rw [hold (by omega),hkk b h1 h2]) (by omega) (by omega),by omega,fun b hb=>?_⟩;rw [hold (by omega),hkl b hb,hk b (by omega),hold (by omega),hold (by omega)]
 simp (disch:=omega) only [SS,seval];refine ⟨fun h0=>?_,fun h0=>?_⟩
 ·have hN0:N=0:=by simpa using h0
  subst hN0;refine fin 1 _ none [] 0 ⟨none,0,rfl,fun h=>absurd rfl h⟩ (by simp) (by omega) (by omega) (by rw [hnew]; rfl) ?_ ?_ (fun g hg=>by cases hg) ?_ ?_
  ·rw [hold (by omega),hold (by omega),hold (by omega)]; exact g0
  ·rw [hold (by omega),hold (by omega),hold (by omega)]; exact g1
  ·intro b h1 h2; rw [hold (by omega),hold (by omega),hold (by omega)]
  ·intro b h1; rw [hold (by omega),hold (by omega),hold (by omega)]
 ·have hN0:N≠0:=by simpa using h0
  refine fin N _ a2 gs c2 hgs hgl (by omega) hN (by rw [hnew]) ?_ ?_ hok ?_ ?_
  ·rw [hold (by omega),hold (by omega)]; exact g0
  ·rw [hold (by omega),hold (by omega)]; exact g1
  ·intro b h1 h2; rw [hold (by omega),hold (by omega)]
  ·intro b h1; rw [hold (by omega),hold (by omega)]
def SlPx {α:Type} (h:Hp) (nx:Nat) (v:Value) (enc:α→List Value) (l:List α):Prop :=
 ∃ a cap,v = .slice a l.length cap∧(l≠[]→∃ b sp ro cs,b<nx∧a=some ⟨b,0,sp⟩∧hget h b=some (.cells (flat enc l++cs) ro))
section
variable {α:Type} {h h':Hp} {nx nx':Nat} {v:Value} {enc:α→List Value} {l:List α}
theorem SlPx.keep (hs:SlPx h nx v enc l) (hk:Keep nx h h') (hle:nx≤nx'):SlPx h' nx' v enc l:=by
 obtain ⟨a,cap,hv,hc⟩:=hs;refine ⟨a,cap,hv,fun hl=>?_⟩;obtain ⟨b,sp,ro,cs,hb,ha,hg⟩:=hc hl;exact ⟨b,sp,ro,cs,by omega,ha,by rw [hk b hb]; exact hg⟩
theorem SlPx.of (hs:SlRd h nx v enc l):SlPx h nx v enc l:=by
 obtain ⟨a,cap,hv,hc⟩:=hs;refine ⟨a,cap,hv,fun hl=>?_⟩;obtain ⟨b,sp,ro,hb,ha,hg⟩:=hc hl;exact ⟨b,sp,ro,[],hb,ha,by rw [List.append_nil]; exact hg⟩
theorem SlPx.at (hs:SlPx h nx v enc l) {i:Nat} {x:α} (hx:l[i]? = some x) :
  i<l.length∧∃ b sp ro cap cs,b<nx∧v = .slice (some ⟨b,0,sp⟩) l.length cap∧hget h b=some (.cells (flat enc l++cs) ro):=by
 have hi:=(List.getElem?_eq_some_iff.1 hx).1;obtain ⟨a,cap,hv,hc⟩:=hs;obtain ⟨b,sp,ro,cs,hb,rfl,hg⟩:=hc (fun e=>by rw [e] at hi; exact absurd hi (Nat.not_lt_zero _));exact ⟨hi,b,sp,ro,cap,cs,hb,hv,hg⟩
theorem rdP {k:Nat} (hk:∀ x,(enc x).length=k) {i:Nat} {e:α} (he:l[i]? = some e) {cs:List Value}:zA2 (some k) (i*k) (flat enc l++cs) = .ok (.agg ⟨enc e⟩):=by
 have hg:=zCv (enc:=enc) hk he;have hi:=(List.getElem?_eq_some_iff.1 he).1;have hl:=zAF (enc:=enc) hk (l:=l);have hm:(i+1)*k≤l.length*k:=Nat.mul_le_mul_right k hi;rw [Nat.add_mul,Nat.one_mul] at hm;rw [zBh,if_pos (by rw [List.length_append,hl]; omega),List.drop_append_of_le_length (by rw [hl]; omega),List.take_append_of_le_length (by rw [List.length_drop,hl]; omega),hg]
theorem zJA {k j:Nat} (hk:∀ x,(enc x).length=k) {i:Nat} {e:α} (he:l[i]? = some e) (hj:j<k) {cs:List Value}:(flat enc l++cs)[i*k+j]? = (enc e)[j]?:=by
 have hi:=(List.getElem?_eq_some_iff.1 he).1;have hl:=zAF (enc:=enc) hk (l:=l);have hm:(i+1)*k≤l.length*k:=Nat.mul_le_mul_right k hi;rw [Nat.add_mul,Nat.one_mul] at hm;rw [List.getElem?_append_left (by omega),zGy hk he hj]
end
def BadE (n:Int) (e:Edg3):Prop:=e.1<0∨n≤e.1∨e.2.1<0∨n≤e.2.1
def BadW (e:Edg3):Prop:=e.2.2<0∨2147483647<e.2.2
instance (n:Int) (e:Edg3):Decidable (BadE n e):=inferInstanceAs (Decidable (_∨_))
instance (e:Edg3):Decidable (BadW e):=inferInstanceAs (Decidable (_∨_))
def RightV (n:Int) (es:List Edg3):Prop:=0≤n∧n≤4096∧es.length≤65536∧(∀ e∈es,¬ BadE n e)∧∀ e∈es,¬ BadW e
def IdxJ {α:Type} (p:α→Bool) (es:List α) (J:Hp→Nat→Prop) (v fv:Value) (m:Nat) (vs:List Value) (h':Hp) (nx':Nat):Prop:=∃ i,m=es.length-i∧i≤es.length∧vs=[v,fv,.int .i64 0,.int .i64 (es.length:Int),.int .i64 (i:Int)]∧J h' nx'∧∀ x∈es.take i,p x=false
theorem index_c {α:Type} {enc:α→List Value} (hk3:∀ x,(enc x).length=3) {s:Bool} {v fv:Value} {es:List α} {h:Hp} {nx:Nat} (p:α→Bool) (J:Hp→Nat→Prop) (hJ:∀ h' nx',J h' nx'→SlPx h' nx' v enc es) (h0:J h nx) (hl:es.length≤65536)
  (hf:∀ g∈es,∀ h' nx' (K:KC'),J h' nx'→(∀ (b:Bool) h2 nx2,b=p g→J h2 nx2→K (.bool b) h2 nx2)→CVK Q O s (zBZ h' nx' [.agg ⟨enc g⟩] fv) K) :
  Cv Q O s 275 [v,fv] h nx (fun r h' nx'=>J h' nx'∧((r = .int .i64 (-1)∧∀ x∈es,p x=false)∨∃ (i:Nat) (x:α),r = .int .i64 (i:Int)∧es[i]? = some x∧p x=true∧∀ y∈es.take i,p y=false)):=by
 refine indexv ?_;unfold index iV nF;obtain ⟨a,cap,rfl,hc⟩:=id (hJ _ _ h0);simp (disch:=omega) only [SS,seval];refine Lp.mk (IdxJ p es J (.slice a es.length cap) fv) es.length ⟨0,by omega,by omega,rfl,h0,by simp⟩ ?_;rintro m _ h' nx' ⟨i,rfl,hi,rfl,hj,hno⟩;rw [indexb0];unfold zRS bF iV lA xF;simp (disch:=omega) only [SS,seval];refine ⟨fun h1=>?_,fun h1=>?_⟩
 ·obtain ⟨x,hx⟩:=zj h1;obtain ⟨_,b,sp,ro,cap',cs,hbn,hveq,hbh⟩:=(hJ _ _ hj).at hx;cases hveq;simp (disch:=omega) only [SS,hbh,rdP (enc:=enc) (k:=3) hk3 hx,seval];refine hf x (List.mem_of_getElem? hx) h' nx' _ hj (fun b' h2 nx2 hb hj2=>?_);subst hb;simp (disch:=omega) only [SS,zZ (show i<1000000000000 by omega),seval];refine ⟨fun hp=>⟨hj2,.inr ⟨i,x,rfl,hx,hp,hno⟩⟩,fun hp=>⟨es.length-(i+1),by omega,i+1,rfl,h1,rfl,hj2,fun y hy=>?_⟩⟩;rw [List.take_add_one,hx] at hy;rcases List.mem_append.1 hy with hy | hy
  ·exact hno y hy
  ·have:y=x:=by simpa using hy
   rw [this]; exact hp
 ·have:i=es.length:=by omega
  subst this;rw [List.take_length] at hno;exact ⟨hj,.inl hno⟩
theorem zSA {s:Bool} {v fv:Value} {es:List Edg3} {h:Hp} {nx:Nat} (p:Edg3→Bool) (hv:SlPx h nx v enc3 es) (hl:es.length≤65536)
  (hf:∀ g∈es,∀ h' nx' (K:KC'),Keep nx h h'→nx≤nx'→(∀ (b:Bool) h2 nx2,b=p g→Keep nx' h' h2→nx'≤nx2→K (.bool b) h2 nx2)→CVK Q O s (zBZ h' nx' [.agg ⟨enc3 g⟩] fv) K) :
  Cv Q O s 193 [v,fv] h nx (fun r h' nx'=>r = .bool (es.any p)∧Keep nx h h'∧nx≤nx'):=by
 refine contsv ?_;unfold conts bF cF iV;refine (index_c (enc:=enc3) (fun _=>rfl) p (fun h' nx'=>Keep nx h h'∧nx≤nx') (fun h' nx' hh=>hv.keep hh.1 hh.2) ⟨Keep.refl _ _,Nat.le_refl _⟩ hl (fun g hg h' nx' K hj hK=>hf g hg h' nx' K hj.1 hj.2 (fun b h2 nx2 hb hk2 hle2=>hK b h2 nx2 hb ⟨hj.1.trans hk2 hj.2,Nat.le_trans hj.2 hle2⟩))).mono ?_;rintro r h' nx' ⟨⟨hk,hle⟩,⟨rfl,hno⟩ | ⟨i,x,rfl,hx,hp,_⟩⟩
 ·simp (disch:=omega) only [SS,seval];exact ⟨by rw [List.any_eq_false.2 (fun x hx=>by simp [hno x hx])]; rfl,hk,hle⟩
 ·simp (disch:=omega) only [SS,seval];exact ⟨by rw [List.any_eq_true.2 ⟨x,List.mem_of_getElem? hx,hp⟩]; simp,hk,hle⟩
def badE (n:Int) (e:Edg3):Bool:=(decide (e.1<0)||!decide (e.1<n))||(decide (e.2.1<0)||!decide (e.2.1<n))
theorem badE_iff {n:Int} {e:Edg3}:badE n e=true↔BadE n e:=by
 unfold badE BadE;simp only [Bool.or_eq_true,decide_eq_true_eq,Bool.not_eq_true',decide_eq_false_iff_not];omega
def badW (e:Edg3):Bool:=decide (e.2.2<0)||decide (2147483647<e.2.2)
theorem badW_iff {e:Edg3}:badW e=true↔BadW e:=by
 unfold badW BadW;simp only [Bool.or_eq_true,decide_eq_true_eq]
def RriJ (p:Edg3→Prop) (n:Int) (es:List Edg3) (v w:Value) (nx:Nat) (h:Hp) (m:Nat) (vs:List Value) (h':Hp) (nx':Nat):Prop :=
 ∃ i:Nat,m=es.length-i∧i≤es.length∧vs=[.pointer (some ⟨nx,0,none⟩),w,.int .i64 (i:Int)]∧hget h' nx=some (.cells [.int .i64 n,v] false)∧Keep nx h h'∧nx+1≤nx'∧∀ x∈es.take i,¬ p x
theorem zP7 {p:Edg3→Prop} {es:List Edg3} {i:Nat} {x:Edg3} (hx:es[i]? = some x) (h:∀ y∈es.take i,¬ p y) (hp:¬ p x):∀ y∈es.take (i+1),¬ p y:=fun y hy=>by
 rw [List.take_add_one,hx] at hy;rcases List.mem_append.1 hy with hy | hy
 ·exact h y hy
 ·have:y=x:=by simpa using hy
  rw [this]; exact hp
def toG (e:Edg3):GE:=⟨e.1.toNat,e.2.1.toNat,e.2.2⟩
theorem RightV.ges {n:Int} {es:List Edg3} (h:RightV n es):∃ N:Nat,n=(N:Int)∧N≤4096∧flat enc3 es=flat encG (es.map toG)∧∀ g∈es.map toG,GOk N g:=by
 obtain ⟨h1,h2,h3,h4,h5⟩:=h;refine ⟨n.toNat,by omega,by omega,?_,fun g hg=>?_⟩
 ·have:∀ l:List Edg3,(∀ e∈l,¬ BadE n e)→flat enc3 l=flat encG (l.map toG):=by
   intro l
   induction l with
   | nil=>intro _; rfl
   | cons x l ih =>
    intro hl;show enc3 x++flat enc3 l=encG (toG x)++flat encG (l.map toG);have hx:=hl x (List.mem_cons_self ..);unfold BadE at hx;rw [ih (fun e he=>hl e (List.mem_cons_of_mem _ he))]
    congr 1
    unfold enc3 encG toG;simp only;rw [Int.toNat_of_nonneg (by omega),Int.toNat_of_nonneg (by omega)]
  exact this es h4
 ·obtain ⟨e,he,rfl⟩:=List.mem_map.1 hg;have h6:=h4 e he;have h7:=h5 e he;unfold BadE at h6;unfold BadW at h7;refine ⟨?_,?_,?_,?_⟩
  ·show e.1.toNat<n.toNat; omega
  ·show e.2.1.toNat<n.toNat; omega
  ·show 0≤e.2.2; omega
  ·show e.2.2≤2147483647; omega
theorem SlPx.map {h:Hp} {nx:Nat} {v:Value} {es:List Edg3} (hs:SlPx h nx v enc3 es) (e:flat enc3 es=flat encG (es.map toG)):SlPx h nx v encG (es.map toG):=by
 obtain ⟨a,cap,hv,hc⟩:=hs;refine ⟨a,cap,by rw [List.length_map]; exact hv,fun hl=>?_⟩;obtain ⟨b,sp,ro,cs,hb,ha,hg⟩:=hc (fun h0=>hl (by rw [h0]; rfl));exact ⟨b,sp,ro,cs,hb,ha,by rw [← e]; exact hg⟩
def zG:GE:=⟨0,0,0⟩
theorem wrG {h:Hp} {b i:Nat} {m:List GE} {x:GE} (hi:i<m.length):wrO (some (.cells (flat encG m) false)) h b (i*3) [.int .i64 (x.f:Int),.int .i64 (x.t:Int),.int .i64 x.w] = .ok (hset h b (.cells (flat encG (m.set i x)) false)):=by
 show R.of _ (lput (encG x) (flat encG m) (i*3)) _=_;rw [zGB (k:=3) (fun _=>rfl) x hi];rfl
theorem rdF {α:Type} {enc:α→List Value} {l:List α} {k:Nat} (hk:∀ x,(enc x).length=k) {i:Nat} {e:α} (he:l[i]? = some e):zA2 (some k) (i*k) (flat enc l) = .ok (.agg ⟨enc e⟩):=by
 have:=rdP hk he (cs:=[]);rwa [List.append_nil] at this
theorem zSB {gs:List GE} {N:Nat} {s:Bool} {h:Hp} {nx:Nat} {v:Value} (hv:SlPx h nx v encG gs) (hN:N≤2147483648) (hok:∀ g∈gs,GOk N g) (hl:gs.length≤120) :
  Cv Q O s 307 [.int .i64 1,v] h nx (fun r h' nx'=>∃ v2 cs,r = .tuple ⟨[v2,.int .i64 0]⟩∧SlAt h' v2 encG 3 cs nx nx'∧CanOf N gs cs∧Keep nx h h'∧nx≤nx'):=by
 obtain ⟨a,cap,rfl,hc⟩:=id hv;have hcan:=canOf N gs hN hok
 by_cases h0:gs=[]
 ·subst h0;have e:zFh [.int .i64 1,.slice a 0 cap] h nx = .ok (.tuple ⟨[.slice none 0 0,.int .i64 0]⟩) h nx:=by
   cases a <;> rfl
  exact Cv.byOrc (g:=zFh) rfl e ⟨_,[],rfl,.inl ⟨rfl,rfl⟩,hcan,Keep.refl _ _,Nat.le_refl _⟩
 ·obtain ⟨b,sp,ro,cx,hb,rfl,hg⟩:=hc h0;have hlen:gs.length≠0:=fun e=>h0 (List.eq_nil_of_length_eq_zero e);have hsm:∀ x∈gs.map gE,zBU x:=fun x hx=>by
   obtain ⟨g,hg,rfl⟩:=List.mem_map.1 hx;exact zM0 hN (hok g hg)
  rw [zL9] at hg;have hfl:(flat encE (gs.map gE)).length=gs.length*3:=by rw [zAF (k:=3) (fun _=>rfl),List.length_map]
  generalize hL:zAq ltE (zq [] (gs.map gE))=L at hcan;have hgl:zFh [.int .i64 1,.slice (some ⟨b,0,sp⟩) gs.length cap] h nx=zEj h nx L:=by
   obtain ⟨m,hm⟩:∃ m,gs.length=m+1:=⟨gs.length-1,by omega⟩
   have e2:lcut (gs.length*3) (zC3 (flat encE (gs.map gE)++cx) 0)=some (flat encE (gs.map gE)):=by
    rw [zAe,List.drop_zero,zAz,if_pos (by rw [List.length_append,hfl]; exact Nat.le_add_right _ _),← hfl,List.take_left]
   rw [hm] at e2 ⊢;show (match hget h b with
    | some (.cells cs _)=>(match lcut ((m+1)*3) (zC3 cs 0) with
     | some l=>(match zHC l with
      | some es=>bif Nat.ble es.length 120 then zEj h nx (zAq ltE (zq [] es)) else .no "Combine"
      | none=>.no "Combine")
     | none=>.no "Combine")
    | _=>.no "Combine")=_
   rw [hg];simp only [e2,zHB hsm,List.length_map,hL];rw [show Nat.ble gs.length 120=true by simpa using hl];rfl
  have hLn:L≠[]:=fun e=>by
   have:=(zBO (lt:=ltE) (zq [] (gs.map gE))).length_eq;rw [hL,e] at this;have e1:=(zFU (gs.map gE) []).2;obtain ⟨g,l,rfl⟩:∃ g l,gs=g::l:=by cases gs with | nil=>exact absurd rfl h0 | cons g l=>exact ⟨g,l,rfl⟩
   obtain ⟨x,hx,_⟩:=e1 (gE g) (by simp);have:zq [] ((g::l).map gE)=[]:=List.eq_nil_of_length_eq_zero this.symm;rw [this] at hx; cases hx
  have hso:zAp ltE L=true:=by rw [← hL]; exact zF4 _
  have e3:zEj h nx L = .ok (.tuple ⟨[.slice (some ⟨nx,0,some 3⟩) L.length L.length,.int .i64 0]⟩) (hset h nx (.cells (flat encE L) false)) (nx+1):=by
   cases L with
   | nil=>exact absurd rfl hLn
   | cons x l=>show (bif zAp ltE (x::l) then _ else _)=_; rw [hso]; rfl
  refine Cv.byOrc (g:=zFh) rfl (hgl.trans e3) ⟨_,L.map eG,rfl,.inr ⟨nx,Nat.le_refl _,Nat.lt_succ_self _,by rw [List.length_map],?_⟩,hcan,fun c hc=>hold (by omega),Nat.le_succ _⟩;rw [hnew,zL9,hcan.eq,hL]
def CanK (N:Nat) (gs:List GE) (nx:Nat) (h:Hp):KC':=fun r h' nx'=>∃ v2 cs,r = .agg ⟨[.int .i64 (N:Int),v2]⟩∧SlAt h' v2 encG 3 cs nx nx'∧IsCan (gs.map gE) (cs.map gE)∧(∀ g∈cs,GOk N g)∧cs.length≤gs.length∧Keep nx h h'∧nx≤nx'
theorem zSZ {gs:List GE} {N:Nat} {s:Bool} {h:Hp} {nx:Nat} {v:Value} (hv:SlPx h nx v encG gs) (hN:N≤2147483648) (hok:∀ g∈gs,GOk N g) (hl:gs.length≤120) :
  Cv Q O s 227 [.agg ⟨[.int .i64 (N:Int),v]⟩] h nx (CanK N gs nx h):=by
 refine canonv ?_;obtain ⟨a,cap,rfl,hc⟩:=id hv;unfold canon aF cF iV lA lF nC nS pC;simp (disch:=omega) only [SS,seval];have k0:∀ {o1 o2:AObj},Keep nx h (hset (hset h nx o1) (nx+1) o2):=fun {o1 o2} b hb=>by rw [hold (by omega),hold (by omega)]
 refine (zSB (hv.keep k0 (by omega)) hN hok hl).mono ?_;rintro r h1 nx1 ⟨v2,cs,rfl,hcs,hcan,hk,hle⟩;have g1:=(hk nx (by omega)).trans (hold (by omega));have g2:=hk (nx+1) (by omega);rw [hnew] at g1 g2;obtain ⟨a2,n2,cap2,rfl⟩:=hcs.form;simp (disch:=omega) only [SS,g1,g2,seval];have hi:IsCan (gs.map gE) (cs.map gE):=by rw [hcan.eq]; exact zOY _
 refine ⟨_,cs,rfl,?_,hi,hcan.ok,hcan.len,(k0.trans hk (by omega)).set (by omega),by omega⟩;rcases hcs with hcs | ⟨b,h1,h2,e,hb⟩
 ·exact .inl hcs
 ·exact .inr ⟨b,by omega,h2,e,by rw [hold (by omega)]; exact hb⟩
theorem wide_eql {a b:Nat} (ha:a<4294967296) (hb:b<4294967296):∃ c,bin Tryz.prog .eql 251 (.agg ⟨zF a⟩) (.agg ⟨zF b⟩) = .ok (.bool c):=by
 have f1:∀ n,(Value.agg ⟨zF n⟩).formed Tryz.prog 251=true:=fun n=>by
  simp [Value.formed,u112,c112,zF]
 have:bin Tryz.prog .eql 251 (.agg ⟨zF a⟩) (.agg ⟨zF b⟩)=R.of "compared" (bif zFB Tryz.prog 251 then eqK Tryz.prog 251 (.agg ⟨zF a⟩) (.agg ⟨zF b⟩) else none) (fun b=>zCF b):=rfl;rw [this];unfold eqK;rw [ng112,k112,f1,f1];exact ⟨zFd [.int .i64 0,.int .u64 (a:Int)] [.int .i64 0,.int .u64 (b:Int)],by
  show R.of "compared" (bif true&&(true&&true&&true&&true) then eqL (Tryz.prog.keyLits 8 251 (zF a)) (Tryz.prog.keyLits 8 251 (zF b)) else none) (fun b=>zCF b)=_;rw [zLP ha,zLP hb]; rfl⟩
def StK (r:Value) (nx:Nat) (h:Hp):KC':=fun v h' nx'=>v=r∧Keep nx h h'∧nx≤nx'
theorem ris_c {s:Bool} {h:Hp} {nx:Nat}:Cv Q O s 379 [.int .i64 1] h nx (fun v h' nx'=>v = .bool true∧h'=h∧nx'=nx):=by
 refine risv ?_;unfold ris bF iV;simp (disch:=omega) only [SS,seval];simp
def ltG (x y:GE):Bool:=decide (x.f<y.f)||(decide (x.f=y.f)&&decide (x.t<y.t))
theorem zSh {s:Bool} {x y:GE} {h:Hp} {nx:Nat}:Cv Q O s 380 [.agg ⟨encG x⟩,.agg ⟨encG y⟩] h nx (StK (.bool (ltG x y)) nx h):=by
 refine belowv ?_;have K1:∀ {o o'},Keep nx h (hset (hset h nx o) (nx+1) o'):=((Keep.refl _ _).set (Nat.le_refl _)).set (Nat.le_succ _);unfold below encG aF bF lF pC;simp (disch:=omega) only [SS,seval];refine ⟨fun h1=>⟨?_,K1,by omega⟩,fun h1=>⟨fun h2=>⟨?_,K1,by omega⟩,fun h2=>⟨?_,K1,by omega⟩⟩⟩
 ·unfold ltG; simp; omega
 ·have h3:x.f=y.f:=by
   have h4:(x.f:Int)=y.f:=by simpa using h2
   omega
  unfold ltG;simp [h3]
 ·have h3:¬ x.f=y.f:=fun e=>by rw [e] at h2; simp at h2
  unfold ltG;simp [h3]; omega
theorem rof_c {s:Bool} {w:Nat} {h:Hp} {nx:Nat} (hw:w<4294967296):Cv Q O s 381 [.int .i64 (w:Int)] h nx (StK (.agg ⟨zF w⟩) nx h):=by
 refine rofv ?_;have K1:∀ {o o'},Keep nx h (hset (hset h nx o) nx o'):=((Keep.refl _ _).set (Nat.le_refl _)).set (Nat.le_refl _);have e1:IntKind.wrap .u64 (w:Int)=(w:Int):=by
  simp only [IntKind.wrap,IntKind.signed,IntKind.bits];simp; omega
 unfold rof bF iV lA nC;simp (disch:=omega) only [SS,e1,seval];refine ⟨fun h1=>absurd h1 (by omega),fun _=>⟨rfl,K1,by omega⟩⟩
theorem rcmp_c {s:Bool} {a b:Nat} {h:Hp} {nx:Nat} (ha:a<4294967296) (hb:b<4294967296):Cv Q O s 427 [.agg ⟨zF a⟩,.agg ⟨zF b⟩] h nx (fun v h' nx'=>∃ c:Int,v = .int .i64 c∧(c<0↔a<b)∧Keep nx h h'∧nx≤nx'):=by
 refine rcmpv ?_;have K1:∀ {o o'},Keep nx h (hset (hset h nx o) (nx+1) o'):=((Keep.refl _ _).set (Nat.le_refl _)).set (Nat.le_succ _);unfold rcmp zF zMk aF bF iV lA lF pC;simp (disch:=omega) only [SS,beq_self_eq_true,seval];obtain ⟨c,hc⟩:=wide_eql ha hb;unfold zF at hc
 by_cases h1:a<b
 ·simp (disch:=omega) only [SS,h1,decide_true,seval];exact fun _=>⟨⟨_,rfl,by simp,K1,by omega⟩,fun h=>absurd trivial h⟩
 ·simp (disch:=omega) only [SS,h1,decide_false,hc,seval];exact fun _ _=>⟨fun _=>⟨_,rfl,by simp,K1,by omega⟩,fun _=>⟨_,rfl,by simp,K1,by omega⟩⟩
theorem radd_c {s:Bool} {a b:Nat} {h:Hp} {nx:Nat} (ha:a<4294967296) (hb:b<4294967296):Cv Q O s 382 [.int .i64 1,.agg ⟨zF a⟩,.agg ⟨zF b⟩] h nx (StK (.agg ⟨zF (min a b)⟩) nx h):=by
 refine raddv ?_;have K1:∀ {o o' o''},Keep nx h (hset (hset (hset h nx o) (nx+1) o') (nx+1+1) o''):=(((Keep.refl _ _).set (Nat.le_refl _)).set (Nat.le_succ _)).set (by omega);unfold radd zF zMo bF cF iV lA nC pC;simp (disch:=omega) only [SS,beq_self_eq_true,seval];refine (rcmp_c (a:=b) (b:=a) hb ha).mono ?_;rintro r h1 nx1 ⟨c,rfl,hc,hk,hle⟩;have g0:=hk nx (by omega);have g1:=hk (nx+1) (by omega);have g2:=hk (nx+1+1) (by omega);rw [hold (by omega),hold (by omega),hnew] at g0;rw [hold (by omega),hnew] at g1;rw [hnew] at g2;simp (disch:=omega) only [SS,g0,g1,g2,seval];refine ⟨fun h1=>⟨?_,(K1.trans hk (by omega)).set (by omega),by omega⟩,fun h1=>⟨?_,(K1.trans hk (by omega)).set (by omega),by omega⟩⟩
 ·rw [Nat.min_eq_right (by omega)]
 ·rw [Nat.min_eq_left (by omega)]
theorem zPz {s:Bool} {w:Nat} {h:Hp} {nx:Nat} (hw:w<4294967296):Cv Q O s 383 [.agg ⟨zF w⟩] h nx (StK (.tuple ⟨[.int .i64 (w:Int),.bool true]⟩) nx h):=by
 refine rnarrowv ?_;have K1:∀ {o},Keep nx h (hset h nx o):=(Keep.refl _ _).set (Nat.le_refl _);have e1:IntKind.wrap .i64 (w:Int)=(w:Int):=zB8 (by omega) (by omega);unfold zQA zF zCc aF bF iV lF pC;simp (disch:=omega) only [SS,e1,beq_self_eq_true,seval];refine ⟨fun h1=>⟨rfl,K1,by omega⟩,fun h1=>absurd h1 (by omega)⟩
structure Shf {α:Type} (o X:List α) (k:Nat):Prop where
 len:X.length=o.length+1
 lo:∀ q,q<k→X[q]? = o[q]?
 hi:∀ q,k<q→q≤o.length→X[q]? = o[q-1]?
theorem Shf.init {α:Type} (o:List α) (z:α):Shf o (o++[z]) o.length :=
 ⟨by simp,fun q hq=>List.getElem?_append_left hq,fun q h1 h2=>absurd h1 (by omega)⟩
theorem Shf.step {α:Type} {o X:List α} {k:Nat} {x:α} (h:Shf o X (k+1)) (hk:k+1≤o.length) (hx:X[k]? = some x):Shf o (X.set (k+1) x) k:=by
 refine ⟨by rw [List.length_set]; exact h.len,fun q hq=>?_,fun q h1 h2=>?_⟩
 ·rw [List.getElem?_set,if_neg (by omega)]; exact h.lo q (by omega)
 ·rw [List.getElem?_set]
  by_cases e:k+1=q
  ·subst e;rw [if_pos rfl,if_pos (by rw [h.len]; omega),Nat.add_sub_cancel,← h.lo k (by omega),hx]
  ·rw [if_neg e]; exact h.hi q (by omega) h2
theorem Shf.fin {α:Type} {o X:List α} {k:Nat} (h:Shf o X k) (hk:k≤o.length) (x:α):X.set k x=o.take k++x::o.drop k:=by
 apply List.ext_getElem?;intro q;rw [List.getElem?_set]
 by_cases e:k=q
 ·subst e;rw [if_pos rfl,if_pos (by rw [h.len]; omega),List.getElem?_append_right (by rw [List.length_take]; omega),List.length_take];rw [show k-min k o.length=0 by omega]; rfl
 ·rw [if_neg e]
  by_cases h1:q<k
  ·rw [h.lo q h1,List.getElem?_append_left (by rw [List.length_take]; omega),List.getElem?_take,if_pos h1]
  ·rw [List.getElem?_append_right (by rw [List.length_take]; omega),List.length_take,show q-min k o.length=(q-k-1)+1 by omega,List.getElem?_cons_succ,List.getElem?_drop]
   by_cases h2:q≤o.length
   ·rw [h.hi q (by omega) h2]; congr 1; omega
   ·rw [List.getElem?_eq_none (by rw [h.len]; omega),List.getElem?_eq_none (by omega)]
theorem ltG_iff {x y:GE}:ltG x y=true↔Ltp (gE x) (gE y):=by
 unfold ltG Ltp gE;simp only [Bool.or_eq_true,Bool.and_eq_true,decide_eq_true_eq];omega
theorem Ltp.tr {x y z:Edg} (h:Ltp x y) (h':Ltp y z):Ltp x z:=by unfold Ltp at *; omega
theorem ends_of {x y:GE} (h:ltG x y=false) (h':ltG y x=false):Ends (gE x) (gE y):=by
 have h1:¬ Ltp (gE x) (gE y):=fun e=>by rw [ltG_iff.2 e] at h; cases h
 have h2:¬ Ltp (gE y) (gE x):=fun e=>by rw [ltG_iff.2 e] at h'; cases h'
 unfold Ltp at h1 h2;unfold Ends;omega
structure At (B:List GE) (e:GE) (k:Nat):Prop where
 le:k≤B.length
 lo:∀ q x,q<k→B[q]? = some x→ltG x e=true
theorem zMV {B:List GE} (h:(B.map gE).Pairwise Ltp) {i j:Nat} {x y:GE} (hij:i<j) (hx:B[i]? = some x) (hy:B[j]? = some y):Ltp (gE x) (gE y):=by
 have hi:=(List.getElem?_eq_some_iff.1 hx)
 have hj:=(List.getElem?_eq_some_iff.1 hy)
 obtain ⟨hi,rfl⟩:=hi;obtain ⟨hj,rfl⟩:=hj;have:=List.pairwise_iff_getElem.1 h i j (by simpa using hi) (by simpa using hj) hij;simpa using this
theorem ins_can {A:List Edg} {B:List GE} {e:GE} {k:Nat} (h:IsCan A (B.map gE)) (ha:At B e k) (hn:∀ x,B[k]? = some x→ltG e x=true):IsCan (A++[gE e]) ((B.take k++e::B.drop k).map gE):=by
 have hpre:∀ x∈B.take k,Ltp (gE x) (gE e):=fun x hx=>by
  obtain ⟨q,hq⟩:=List.getElem?_of_mem hx;rw [List.getElem?_take] at hq
  split at hq
  ·rename_i hqk; exact ltG_iff.1 (ha.lo q x hqk hq)
  ·cases hq
 have hpost:∀ x∈B.drop k,Ltp (gE e) (gE x):=fun x hx=>by
  obtain ⟨q,hq⟩:=List.getElem?_of_mem hx;rw [List.getElem?_drop] at hq
  by_cases h0:q=0
  ·subst h0; exact ltG_iff.1 (hn x hq)
  ·obtain ⟨y,hy⟩:=zj (l:=B) (i:=k) (by have:=(List.getElem?_eq_some_iff.1 hq).1; omega);exact (ltG_iff.1 (hn y hy)).tr (zMV h.up (by omega) hy hq)
 have hmem:∀ x:Edg,x∈(B.take k++e::B.drop k).map gE↔x∈B.map gE∨x=gE e:=fun x=>by
  conv=>rhs; rw [← List.take_append_drop k B]
  rw [List.map_append,List.map_cons,List.map_append,List.mem_append,List.mem_append,List.mem_cons];exact ⟨fun h=>h.elim (fun h=>.inl (.inl h)) (fun h=>h.elim .inr (fun h=>.inl (.inr h))),fun h=>h.elim (fun h=>h.elim .inl (fun h=>.inr (.inr h))) (fun h=>.inr (.inl h))⟩
 refine ⟨?_,h.rep.step2 (fun z hz he=>?_) hmem⟩
 ·rw [List.map_append,List.map_cons,List.pairwise_append];have hup:=h.up;rw [← List.take_append_drop k B,List.map_append,List.pairwise_append] at hup;refine ⟨hup.1,List.Pairwise.cons (fun y hy=>?_) hup.2.1,fun x hx y hy=>?_⟩
  ·obtain ⟨z,hz,rfl⟩:=List.mem_map.1 hy;exact hpost z hz
  ·rcases List.mem_cons.1 hy with rfl | hy
   ·obtain ⟨z,hz,rfl⟩:=List.mem_map.1 hx;exact hpre z hz
   ·exact hup.2.2 x hx y hy
 ·obtain ⟨y,hy,rfl⟩:=List.mem_map.1 hz;rw [← List.take_append_drop k B,List.mem_append] at hy;rcases hy with hy | hy
  ·exact (hpre y hy).ne he
  ·exact (hpost y hy).ne he.symm
theorem set_can {A:List Edg} {B:List GE} {e z:GE} {k:Nat} (h:IsCan A (B.map gE)) (hz:B[k]? = some z) (he:Ends (gE z) (gE e)):IsCan (A++[gE e]) ((B.set k ⟨z.f,z.t,min z.w e.w⟩).map gE):=by
 have hk:=(List.getElem?_eq_some_iff.1 hz).1;have hg:∀ q,(B.set k ⟨z.f,z.t,min z.w e.w⟩)[q]? = if k=q then some ⟨z.f,z.t,min z.w e.w⟩ else B[q]?:=fun q=>by
  rw [List.getElem?_set]
  by_cases e1:k=q
  ·subst e1; simp [hk]
  ·simp [e1]
 have hzm:gE ⟨z.f,z.t,min z.w e.w⟩=zmin (gE z) (gE e):=rfl;have hsame:∀ q x,(B.set k ⟨z.f,z.t,min z.w e.w⟩)[q]? = some x→∃ y,B[q]? = some y∧(gE x).1=(gE y).1∧(gE x).2.1=(gE y).2.1:=fun q x hx=>by
  rw [hg] at hx
  split at hx
  ·rename_i e1; subst e1; cases hx; exact ⟨z,hz,rfl,rfl⟩
  ·exact ⟨x,hx,rfl,rfl⟩
 refine ⟨?_,h.rep.step1 (List.mem_map_of_mem (List.mem_of_getElem? hz)) he fun x=>?_⟩
 ·rw [List.pairwise_iff_getElem];intro i j hi hj hij;rw [List.getElem_map,List.getElem_map];have hi':i<(B.set k ⟨z.f,z.t,min z.w e.w⟩).length:=by simpa using hi
  have hj':j<(B.set k ⟨z.f,z.t,min z.w e.w⟩).length:=by simpa using hj
  obtain ⟨y,hy,e1,e2⟩:=hsame i _ (List.getElem?_eq_getElem hi');obtain ⟨y',hy',e1',e2'⟩:=hsame j _ (List.getElem?_eq_getElem hj');have:=zMV h.up hij hy hy';unfold Ltp at *
  rw [e1,e2,e1',e2']; exact this
 ·constructor
  ·intro hx;obtain ⟨y,hy,rfl⟩:=List.mem_map.1 hx;obtain ⟨q,hq⟩:=List.getElem?_of_mem hy;rw [hg] at hq
   split at hq
   ·cases hq; exact .inr hzm
   ·rename_i hkq
    refine .inl ⟨List.mem_map_of_mem (List.mem_of_getElem? hq),fun hye=>?_⟩;have:=he.trans hye.symm;rcases Nat.lt_or_ge k q with h1 | h1
    ·exact (zMV h.up h1 hz hq).ne this
    ·exact (zMV h.up (by omega) hq hz).ne this.symm
  ·rintro (⟨hx,hn⟩ | rfl)
   ·obtain ⟨y,hy,rfl⟩:=List.mem_map.1 hx;obtain ⟨q,hq⟩:=List.getElem?_of_mem hy;refine List.mem_map_of_mem (List.mem_of_getElem? (i:=q) ?_);rw [hg,if_neg,hq];intro e1; subst e1; rw [hz] at hq; cases hq; exact hn he
   ·rw [← hzm];exact List.mem_map_of_mem (List.mem_of_getElem? (i:=k) (by rw [hg,if_pos rfl]))
end Go.Proofs.YtcjochjiegiliaaGreat
