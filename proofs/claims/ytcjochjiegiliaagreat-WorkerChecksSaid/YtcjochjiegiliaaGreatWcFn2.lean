/- Parts of the proof: WcFn2: each statement zDz its own conditions. -/
import Derived.Test.YtcjochjiegiliaaGreatWcFn1
namespace Go.Proofs.YtcjochjiegiliaaGreat
open Go Go.Ax
set_option linter.unusedVariables false
set_option linter.unusedSimpArgs false
set_option maxRecDepth 1000000
def zIA:List (List Nat):=[]
def zX (s:Bool) (K:KC') (y1 y2 y3 y46:Value) (h0:Hp) (n0:Nat):Prop:=IF y46 (cF s 9 [] h0 n0 fun a b c=>K a b c) (lA 12 h0 y3 fun d=>cF s 10 [d,y1,y2] h0 n0 fun e f g=>RK (zJ e 0) fun i=>RK (zJ e 1) fun j=>lA 12 f y3 fun k=>cF s 11 [k,y1,y2] f g fun l m n=>RK (zJ l 0) fun o=>RK (zJ l 1) fun p=>dF 9 [] m n fun q r t=>IF q (lA 12 r y3 fun u=>dF 12 [u] r t fun v w x=>lA 12 w y3 fun y=>gA 12 y3 y (dF 13 [y] w x fun z aa ab=>bF .eql 34 v z fun ac=>IF ac (bF .eql 34 j p fun ad=>IF ad (bF .neq 33 i (.pointer none) fun ae=>bF .eql 34 j (iV 0) fun af=>bF .eql 4 ae af fun ag=>K ag aa ab) (K (.bool false) aa ab)) (K (.bool false) aa ab)) 1 [r,m]) (K (.bool false) r t))
def zFI (s:Bool) (t0 t1 t2:Value) (h:Hp) (nx:Nat) (K:KC'):Prop:=pC t0 h nx fun a b c=>aF 5 a fun d=>aF 1 d fun e=>lF b e fun f=>nF f fun g=>bF .gtr 3 g (iV 30) fun i=>IF i ((zX s K t1 t2 a (.bool true) b c)) (aF 0 a fun j=>aF 4 j fun k=>lF b k fun l=>nF l fun m=>bF .gtr 3 m (iV 30) fun n=>IF n ((zX s K t1 t2 a (.bool true) b c)) (aF 0 a fun o=>aF 1 o fun p=>lF b p fun q=>bF .gtr 3 q (iV 60) fun r=>IF r (aF 0 a fun t=>aF 1 t fun u=>lF b u fun v=>bF .leq 3 v (iV 4096) fun w=>IF w ((zX s K t1 t2 a (.bool true) b c)) (aF 11 a fun x=>lF b x fun y=>nF y fun z=>bF .gtr 3 z (iV 30) fun aa=>IF aa (aF 11 a fun ab=>lF b ab fun ac=>nF ac fun ad=>bF .leq 3 ad (iV 8192) fun ae=>(zX s K t1 t2 a ae b c)) ((zX s K t1 t2 a (.bool false) b c)))) (aF 11 a fun af=>lF b af fun ag=>nF ag fun ah=>bF .gtr 3 ah (iV 30) fun ai=>IF ai (aF 11 a fun aj=>lF b aj fun ak=>nF ak fun al=>bF .leq 3 al (iV 8192) fun am=>(zX s K t1 t2 a am b c)) ((zX s K t1 t2 a (.bool false) b c)))))
theorem zHz {s:Bool} {t0 t1 t2:Value} {h:Hp} {nx:Nat} {K:KC'} (w:zFI s t0 t1 t2 h nx K):Cv Q O s 3 [t0,t1,t2] h nx K:=Cv.byE zIA rfl w (by kernel_rfl)
def wnewL:List (List Nat):=[]
def zFv (s:Bool) (K:KC') (y1 y2 y3 y35:Value) (h0:Hp) (n0:Nat):Prop:=IF y35 (K (.tuple ⟨[(.pointer none),(iV 3)]⟩) h0 n0) (aF 0 y3 fun a=>lA 5 h0 a fun b=>aF 5 y3 fun c=>lA 2 h0 c fun d=>cF s 49 [b,d] h0 n0 fun e f g=>RK (zJ e 0) fun i=>RK (zJ e 1) fun j=>nC [(iV 0),(iV 0),nS,nS,nS] f g fun k l m=>RK (vSt l 5 k i) fun n=>aF 11 y3 fun o=>lF n o fun p=>dF 50 [p] n m fun q r t=>RK (vBld [(iV 0),(iV 0)] [(0,1,y1),(1,1,y2)]) fun u=>aF 0 y3 fun v=>lA 5 r v fun w=>gA 5 v w (aF 7 y3 fun x=>lF r x fun y=>gL x y (aF 8 y3 fun z=>lF r z fun aa=>gL z aa (RK (vBld [(iV 0),(iV 0)] [(0,1,y),(1,1,aa)]) fun ab=>aF 10 y3 fun ac=>lF r ac fun ad=>gL ac ad (RK (vBld [(iV 0),(iV 0),(iV 0),(iV 0),(iV 0),(iV 0),nS,(iV 0),(iV 0),(iV 0),nS,(iV 0),(iV 0),nS,nS,nS,(iV 0),(iV 0),nS,nS,nS,nS,nS,(iV 0),(.map none),(iV 0),(iV 0),(iV 0),(iV 0),(iV 0),nS,nS,nS,(iV 0),(iV 0),nS,nS,nS,(.bool false),(.bool false),nS,(.map none),(iV 0),(.map none),(.bool false)] [(0,2,u),(2,5,w),(7,2,ab),(9,1,ad),(10,1,q),(23,1,(iV 1)),(25,1,(iV 1))]) fun ae=>pC ae r t fun af ag ah=>aF 0 y3 fun ai=>aF 4 ai fun aj=>lF ag aj fun ak=>cF s 51 [ak] ag ah fun al am an=>RK (zf af) fun ao=>aF 2 ao fun ap=>aF 4 ap fun aq=>RK (vSt am 1 aq al) fun ar=>lA 5 ar k fun au=>aF 7 y3 fun av=>lF ar av fun aw=>aF 8 y3 fun ax=>lF ar ax fun ay=>cF s 52 [au,aw,ay,y1,y2] ar an fun az ba bb=>RK (zf af) fun bc=>aF 11 bc fun bd=>RK (vSt ba 5 bd az) fun be=>RK (zf af) fun bf=>aF 11 bf fun bg=>lA 5 be bg fun bh=>cF s 53 [bh] be bb fun bi bj bk=>RK (zf af) fun bl=>aF 16 bl fun bm=>RK (vSt bj 6 bm bi) fun bn=>AR (.ok .map) bn bk fun bo bp bq=>AR (.ok .map) bp bq fun br bs bt=>AR (.ok .map) bs bt fun bu bv bw=>RK (zf af) fun bx=>aF 24 bx fun bz=>RK (vSt bv 1 bz bo) fun ca=>RK (zf af) fun cb=>aF 41 cb fun cc=>RK (vSt ca 1 cc br) fun cd=>RK (zf af) fun ce=>aF 43 ce fun cf=>RK (vSt cd 1 cf bu) fun cg=>bF .eql 3 y2 (iV 0) fun ch=>IF ch (aF 0 y3 fun ci=>aF 1 ci fun cj=>lF cg cj fun ck=>aF 7 y3 fun cl=>lF cg cl fun cm=>dF 55 [ck,cm,y1] cg bw fun cn co cp=>aF 7 y3 fun cq=>lF co cq fun cr=>gL cq cr (bF .add 3 y1 (iV 1) fun cs=>dF 55 [ck,cr,cs] co cp fun ct cu cv=>aF 0 y3 fun cw=>lA 5 cu cw fun cx=>gA 5 cw cx (dF 54 [cx,cn,ct] cu cv fun cy cz da=>RK (zf af) fun db=>aF 28 db fun dc=>RK (vSt cz 5 dc cy) fun dd=>RK (zf af) fun de=>aF 28 de fun df=>lA 5 dd df fun dg=>RK (zf af) fun dh=>aF 33 dh fun di=>RK (vSt dd 5 di dg) fun dj=>cF s 56 [af,(iV 0),(.bool false)] dj da fun dk dl dm=>K (.tuple ⟨[af,(iV 0)]⟩) dl dm) 2 [co,cg]) 1 [cg]) (K (.tuple ⟨[af,(iV 0)]⟩) cg bw)) 1 [n]) 1 [n]) 1 [n]) 1 [n])
def wnew (s:Bool) (t0 t1 t2:Value) (h:Hp) (nx:Nat) (K:KC'):Prop:=pC t0 h nx fun a b c=>lA 12 b a fun d=>cF s 12 [d] b c fun e f g=>bF .neq 34 e (iV 0) fun i=>IF i (K (.tuple ⟨[(.pointer none),e]⟩) f g) (bF .lss 3 t1 (iV 0) fun j=>IF j ((zFv s K t1 t2 a (.bool true) f g)) (aF 7 a fun k=>lF f k fun l=>bF .geq 3 t1 l fun m=>IF m ((zFv s K t1 t2 a (.bool true) f g)) (bF .lss 3 t2 (iV 0) fun n=>IF n ((zFv s K t1 t2 a (.bool true) f g)) (aF 8 a fun o=>lF f o fun p=>bF .geq 3 t2 p fun q=>(zFv s K t1 t2 a q f g)))))
theorem wnewv {s:Bool} {t0 t1 t2:Value} {h:Hp} {nx:Nat} {K:KC'} (w:wnew s t0 t1 t2 h nx K):Cv Q O s 10 [t0,t1,t2] h nx K:=Cv.byE wnewL rfl w (by kernel_rfl)
def rwnewL:List (List Nat):=[]
def zDb (s:Bool) (K:KC') (y1 y2 y3 y35:Value) (h0:Hp) (n0:Nat):Prop:=IF y35 (K (.tuple ⟨[(.pointer none),(iV 3)]⟩) h0 n0) (aF 0 y3 fun a=>lA 5 h0 a fun b=>aF 5 y3 fun c=>lA 2 h0 c fun d=>cF s 57 [b,d] h0 n0 fun e f g=>RK (zJ e 0) fun i=>RK (zJ e 1) fun j=>nC [(iV 0),(iV 0),nS,nS,nS] f g fun k l m=>RK (vSt l 5 k i) fun n=>lA 5 n k fun o=>aF 7 y3 fun p=>lF n p fun q=>aF 8 y3 fun r=>lF n r fun t=>dF 58 [o,q,t,y1,y2] n m fun u v w=>lA 12 v y3 fun x=>gA 12 y3 x (RK (vBld [(iV 0),(iV 0),(iV 0),(iV 0),nS,(iV 0),nS,(iV 0),(iV 0),(iV 0),(iV 0),nS,(iV 0),(iV 0),(iV 0),(iV 0),nS,nS,nS,nS,(iV 0),nS,nS,(iV 0),(iV 0),(iV 0),(iV 0),nS,nS,nS,(iV 0),(iV 0),nS,nS,nS,(iV 0),(.bool false),(.bool false),nS,nS,(iV 0),(.bool false),nS,(iV 0),(.bool false)] [(0,12,x),(12,1,y1),(13,1,y2),(14,5,u),(20,1,(iV 1)),(23,1,(iV 1))]) fun y=>pC y v w fun z aa ab=>aF 7 y3 fun ac=>lF aa ac fun ad=>AR (vMks [(iV 0),nS] ad ad) aa ab fun ae af ag=>RK (zf z) fun ah=>aF 21 ah fun ai=>RK (vSt af 1 ai ae) fun aj=>aF 7 y3 fun ak=>lF aj ak fun al=>AR (vMks [(.bool false)] al al) aj ag fun am an ao=>RK (zf z) fun ap=>aF 22 ap fun aq=>RK (vSt an 1 aq am) fun ar=>aF 8 y3 fun au=>lF ar au fun av=>AR (vMks [(.bool false)] av av) ar ao fun aw ax ay=>RK (zf z) fun az=>aF 38 az fun ba=>RK (vSt ax 1 ba aw) fun bb=>aF 7 y3 fun bc=>lF bb bc fun bd=>AR (vMks [(.bool false)] bd bd) bb ay fun be bf bg=>RK (zf z) fun bh=>aF 42 bh fun bi=>RK (vSt bf 1 bi be) fun bj=>bF .eql 3 y2 (iV 0) fun bk=>IF bk (aF 0 y3 fun bl=>aF 1 bl fun bm=>lF bj bm fun bn=>aF 7 y3 fun bo=>lF bj bo fun bp=>dF 60 [bn,bp,y1] bj bg fun bq br bs=>aF 7 y3 fun bt=>lF br bt fun bu=>gL bt bu (bF .add 3 y1 (iV 1) fun bv=>dF 60 [bn,bu,bv] br bs fun bw bx bz=>aF 0 y3 fun ca=>lA 5 bx ca fun cb=>gA 5 ca cb (dF 59 [cb,bq,bw] bx bz fun cc cd ce=>RK (zf z) fun cf=>aF 25 cf fun cg=>RK (vSt cd 5 cg cc) fun ch=>RK (zf z) fun ci=>aF 25 ci fun cj=>lA 5 ch cj fun ck=>RK (zf z) fun cl=>aF 30 cl fun cm=>RK (vSt ch 5 cm ck) fun cn=>cF s 61 [z,(iV 0),(.bool false)] cn ce fun co cp cq=>K (.tuple ⟨[z,(iV 0)]⟩) cp cq) 2 [br,bj]) 1 [bj]) (K (.tuple ⟨[z,(iV 0)]⟩) bj bg)) 1 [n])
def rwnew (s:Bool) (t0 t1 t2:Value) (h:Hp) (nx:Nat) (K:KC'):Prop:=pC t0 h nx fun a b c=>lA 12 b a fun d=>cF s 13 [d] b c fun e f g=>bF .neq 34 e (iV 0) fun i=>IF i (K (.tuple ⟨[(.pointer none),e]⟩) f g) (bF .lss 3 t1 (iV 0) fun j=>IF j ((zDb s K t1 t2 a (.bool true) f g)) (aF 7 a fun k=>lF f k fun l=>bF .geq 3 t1 l fun m=>IF m ((zDb s K t1 t2 a (.bool true) f g)) (bF .lss 3 t2 (iV 0) fun n=>IF n ((zDb s K t1 t2 a (.bool true) f g)) (aF 8 a fun o=>lF f o fun p=>bF .geq 3 t2 p fun q=>(zDb s K t1 t2 a q f g)))))
theorem rwnewv {s:Bool} {t0 t1 t2:Value} {h:Hp} {nx:Nat} {K:KC'} (w:rwnew s t0 t1 t2 h nx K):Cv Q O s 11 [t0,t1,t2] h nx K:=Cv.byE rwnewL rfl w (by kernel_rfl)
def bcutL:List (List Nat):=[]
def zSg (s:Bool) (K:KC') (y1 y2 y3 y4 y5 y10 y21:Value) (h0:Hp) (n0:Nat):Prop:=IF y21 (RK (vBld [(iV 0),(iV 0),nS,nS,nS] []) fun a=>RK (vBld [(iV 0),(iV 0)] []) fun b=>RK (vBld [(iV 0),(iV 0)] []) fun c=>cF s 135 [a,b,c] h0 n0 fun d e f=>RK (vSt e 5 y10 d) fun g=>lA 5 g y10 fun i=>K i g f) (aF 0 y5 fun j=>lF h0 j fun k=>dF 136 [k,y1,y3] h0 n0 fun l m n=>aF 1 y5 fun o=>lF m o fun p=>gL o p (dF 136 [p,y2,y4] m n fun q r t=>lA 5 r y5 fun u=>gA 5 y5 u (dF 135 [u,l,q] r t fun v w x=>RK (vSt w 5 y10 v) fun y=>lA 5 y y10 fun z=>K z y x) 2 [m,h0]) 1 [h0])
def bcut (s:Bool) (t0 t1 t2 t3 t4:Value) (h:Hp) (nx:Nat) (K:KC'):Prop:=pC t0 h nx fun a b c=>nC [(iV 0),(iV 0),nS,nS,nS] b c fun d e f=>lA 5 e a fun g=>cF s 133 [g] e f fun i j k=>RK (oUn .not i) fun l=>IF l ((zSg s K t1 t2 t3 t4 a d (.bool true) j k)) (cF s 134 [t1,t2,t3,t4] j k fun m n o=>RK (oUn .not m) fun p=>(zSg s K t1 t2 t3 t4 a d p n o))
theorem bcutv {s:Bool} {t0 t1 t2 t3 t4:Value} {h:Hp} {nx:Nat} {K:KC'} (w:bcut s t0 t1 t2 t3 t4 h nx K):Cv Q O s 52 [t0,t1,t2,t3,t4] h nx K:=Cv.byE bcutL rfl w (by kernel_rfl)
def dcofL:List (List Nat):=[[2,3,20,21,22]]
def zHj (s:Bool) (N:KVl) (e0:KVl) (R:KVl) (y2 y3 y5 y20 y21 y22:Value) (h0:Hp) (n0:Nat):Prop:=aF 4 y3 fun a=>lF h0 a fun b=>aF 1 y5 fun c=>lF h0 c fun d=>AR (vBsl 1 [(iV 0)] [(0,1,d)]) h0 n0 fun e f g=>EK (orR (zH 1 f g b e)) fun i j k=>aF 4 y3 fun l=>RK (vSt j 1 l i) fun m=>aF 5 y3 fun n=>lF m n fun o=>aF 2 y5 fun p=>lF m p fun q=>AR (vBsl 1 [(iV 0)] [(0,1,q)]) m k fun r t u=>EK (orR (zH 1 t u o r)) fun v w x=>aF 5 y3 fun y=>RK (vSt w 1 y v) fun z=>aF 3 y3 fun aa=>lF z aa fun ab=>aF 2 y3 fun ac=>lF z ac fun ad=>nF ad fun ae=>aF 4 y3 fun af=>lF z af fun ag=>nF ag fun ah=>xF 1 ab ae fun ai=>RK (vSt z 1 ai ah) fun aj=>bF .add 3 y22 (iV 1) fun ak=>N [y2,y3,y20,y21,ak] aj x
def zGk (s:Bool) (N:KVl) (e0:KVl) (R:KVl) (y2 y3 y5 y20 y21 y22 y41:Value) (h0:Hp) (n0:Nat):Prop:=IF y41 (aF 2 y3 fun a=>lF h0 a fun b=>aF 0 y5 fun c=>lF h0 c fun d=>AR (vBsl 1 [(iV 0)] [(0,1,d)]) h0 n0 fun e f g=>EK (orR (zH 1 f g b e)) fun i j k=>aF 2 y3 fun l=>RK (vSt j 1 l i) fun m=>aF 3 y3 fun n=>lF m n fun o=>AR (vBsl 1 [(iV 0)] [(0,1,(iV 0))]) m k fun p q r=>EK (orR (zH 1 q r o p)) fun t u v=>aF 3 y3 fun w=>RK (vSt u 1 w t) fun x=>(zHj s N e0 R y2 y3 y5 y20 y21 y22 x v)) ((zHj s N e0 R y2 y3 y5 y20 y21 y22 h0 n0))
def dcofl0 (s:Bool) (a2 a3 a20 a21 a22:Value) (h:Hp) (nx:Nat) (N:KVl) (e0:KVl) (R:KVl):Prop:=bF .lss 3 a22 a21 fun a=>IF a (xF 3 a20 a22 fun b=>lA 3 h b fun c=>nC [(iV 0),(iV 0),(iV 0)] h nx fun d e f=>RK (vSt e 3 d c) fun g=>aF 2 a3 fun i=>lF g i fun j=>nF j fun k=>bF .eql 3 k (iV 0) fun l=>IF l ((zGk s N e0 R a2 a3 d a20 a21 a22 (.bool true) g f)) (aF 2 a3 fun m=>lF g m fun n=>bF .sub 3 k (iV 1) fun o=>xF 1 n o fun p=>lF g p fun q=>aF 0 d fun r=>lF g r fun t=>bF .neq 3 q t fun u=>(zGk s N e0 R a2 a3 d a20 a21 a22 u g f))) (e0 [a2,a3,a20,a21,a22] h nx)
def dcof (s:Bool) (t0:Value) (h:Hp) (nx:Nat) (K:KC'):Prop:=pC t0 h nx fun a b c=>nC [(iV 0),(iV 0),nS,nS,nS,nS] b c fun d e f=>cF s 137 [] e f fun g i j=>nC [(iV 0),(iV 0),nS,nS,nS,nS] i j fun k l m=>RK (vSt l 6 k g) fun n=>lA 5 n a fun o=>cF s 133 [o] n m fun p q r=>RK (oUn .not p) fun t=>IF t (lA 6 q k fun u=>RK (vSt q 6 d u) fun v=>lA 6 v d fun w=>K w v r) (aF 0 a fun x=>lF q x fun y=>aF 0 k fun z=>RK (vSt q 1 z y) fun aa=>aF 1 a fun ab=>lF aa ab fun ac=>gL ab ac (aF 1 k fun ad=>RK (vSt aa 1 ad ac) fun ae=>lA 5 ae a fun af=>cF s 139 [af] ae r fun ag ah ai=>cF s 138 [ag] ah ai fun aj ak al=>nF aj fun am=>Lp (fL Q O s dcofL 53 0) [d,k,aj,am,(iV 0)] ak al [(0,fun an ao ap=>lA 6 ao (nv an 1) fun aq=>RK (vSt ao 6 (nv an 0) aq) fun ar=>lA 6 ar (nv an 0) fun au=>K au ar ap)] (fun _ _ _=>False)) 1 [q])
theorem dcofb0 {s:Bool} {a2 a3 a20 a21 a22:Value} {h:Hp} {nx:Nat} {N e0 R:KVl}:fL Q O s dcofL 53 0 [a2,a3,a20,a21,a22] h nx N [(0,e0)] R=dcofl0 s a2 a3 a20 a21 a22 h nx N e0 R:=by kernel_rfl
theorem dcofv {s:Bool} {t0:Value} {h:Hp} {nx:Nat} {K:KC'} (w:dcof s t0 h nx K):Cv Q O s 53 [t0] h nx K:=Cv.byE dcofL rfl w (by kernel_rfl)
def pbeginL:List (List Nat):=[]
def zEQ (s:Bool) (K:KC') (y2 y3 y4 y6 y25:Value) (h0:Hp) (n0:Nat):Prop:=IF y25 (RK (vBld [(iV 0),(iV 0),nS,nS,nS] []) fun a=>RK (vSt h0 5 y6 a) fun b=>lA 5 b y6 fun c=>K c b n0) (lF h0 y4 fun d=>RK (vBld [(iV 0),(iV 0),nS,nS,nS] [(0,1,d),(1,1,y2)]) fun e=>nC [(iV 0),(iV 0),nS,nS,nS] h0 n0 fun f g i=>RK (vSt g 5 f e) fun j=>lA 5 j f fun k=>lF j y4 fun l=>bF .sub 3 y2 l fun m=>RK (.ok (.func (.func 141) ⟨[]⟩ ⟨[y3,y4]⟩)) fun n=>cF s 140 [k,m,n] j i fun o p q=>RK (vSt p 5 y6 o) fun r=>lA 5 r y6 fun t=>K t r q)
def pbegin (s:Bool) (t0 t1 t2:Value) (h:Hp) (nx:Nat) (K:KC'):Prop:=pC t0 h nx fun a b c=>pC t1 b c fun d e f=>nC [(iV 0),(iV 0),nS,nS,nS] e f fun g i j=>lA 5 i a fun k=>cF s 128 [k] i j fun l m n=>bF .neq 34 l (iV 0) fun o=>IF o ((zEQ s K t2 a d g (.bool true) m n)) (lF m d fun p=>bF .lss 3 p (iV 0) fun q=>IF q ((zEQ s K t2 a d g (.bool true) m n)) (lF m d fun r=>bF .lss 3 t2 r fun t=>IF t ((zEQ s K t2 a d g (.bool true) m n)) (aF 1 a fun u=>lF m u fun v=>bF .gtr 3 t2 v fun w=>(zEQ s K t2 a d g w m n))))
theorem pbeginv {s:Bool} {t0 t1 t2:Value} {h:Hp} {nx:Nat} {K:KC'} (w:pbegin s t0 t1 t2 h nx K):Cv Q O s 54 [t0,t1,t2] h nx K:=Cv.byE pbeginL rfl w (by kernel_rfl)
def ptlowL:List (List Nat):=[]
def ptlow (s:Bool) (t0 t1 t2:Value) (h:Hp) (nx:Nat) (K:KC'):Prop:=cF s 143 [t0,t1] h nx fun a b c=>RK (oUn .not a) fun d=>IF d (K (iV 0) b c) (RK (min2 false t2 (iV 0)) fun e=>RK (min2 true e t1) fun f=>bF .mul 3 f t0 fun g=>bF .quo 3 g t1 fun i=>K i b c)
theorem ptlowv {s:Bool} {t0 t1 t2:Value} {h:Hp} {nx:Nat} {K:KC'} (w:ptlow s t0 t1 t2 h nx K):Cv Q O s 55 [t0,t1,t2] h nx K:=Cv.byE ptlowL rfl w (by kernel_rfl)
def votes0L:List (List Nat):=[]
def votes0 (s:Bool) (t0 t1 t2:Value) (h:Hp) (nx:Nat) (K:KC'):Prop:=RK (vBld [(iV 0),(iV 0),(iV 0),(iV 0),(iV 0),(iV 0),nS,nS,nS,(iV 0),(.bool false)] [(0,1,(iV 4)),(4,1,t1),(10,1,t2)]) fun a=>nC [(iV 0),(iV 0),(iV 0),(iV 0),(iV 0),(iV 0),nS,nS,nS,(iV 0),(.bool false)] h nx fun b c d=>RK (vSt c 11 b a) fun e=>RK (oUn .not t2) fun f=>IF f (RK (zf t0) fun g=>aF 2 g fun i=>lA 5 e i fun j=>RK (zf t0) fun k=>aF 33 k fun l=>lA 5 e l fun m=>dF 144 [j,m,t1] e d fun n o p=>aF 9 b fun q=>RK (vSt o 1 q n) fun r=>RK (zf t0) fun t=>aF 38 t fun u=>RK (vSt r 1 u (.bool true)) fun v=>lA 11 v b fun w=>cF s 145 [t0,w] v p fun x y z=>K (.tuple ⟨[]⟩) y z) (RK (zf t0) fun aa=>aF 38 aa fun ab=>RK (vSt e 1 ab (.bool true)) fun ac=>lA 11 ac b fun ad=>cF s 145 [t0,ad] ac d fun ae af ag=>K (.tuple ⟨[]⟩) af ag)
theorem votes0v {s:Bool} {t0 t1 t2:Value} {h:Hp} {nx:Nat} {K:KC'} (w:votes0 s t0 t1 t2 h nx K):Cv Q O s 56 [t0,t1,t2] h nx K:=Cv.byE votes0L rfl w (by kernel_rfl)
def r18cutL:List (List Nat):=[]
def zCZ (s:Bool) (K:KC') (y1 y2 y3 y4 y5 y10 y39:Value) (h0:Hp) (n0:Nat):Prop:=IF y39 (cF s 153 [(iV 0),(iV 0)] h0 n0 fun a b c=>RK (vSt b 5 y10 a) fun d=>lA 5 d y10 fun e=>K e d c) (aF 0 y5 fun f=>lF h0 f fun g=>dF 60 [g,y1,y3] h0 n0 fun i j k=>aF 0 y5 fun l=>lF j l fun m=>gL l m (bF .add 3 y3 (iV 1) fun n=>dF 60 [m,y1,n] j k fun o p q=>RK (vBld [(iV 0),(iV 0)] [(0,1,i),(1,1,o)]) fun r=>nC [(iV 0),(iV 0)] p q fun t u v=>RK (vSt u 2 t r) fun w=>aF 1 y5 fun x=>lF w x fun y=>dF 60 [y,y2,y4] w v fun z aa ab=>aF 1 y5 fun ac=>lF aa ac fun ad=>gL ac ad (bF .add 3 y4 (iV 1) fun ae=>dF 60 [ad,y2,ae] aa ab fun af ag ah=>RK (vBld [(iV 0),(iV 0)] [(0,1,z),(1,1,af)]) fun ai=>nC [(iV 0),(iV 0)] ag ah fun aj ak al=>RK (vSt ak 2 aj ai) fun am=>lA 5 am y5 fun an=>lA 2 am t fun ao=>lA 2 am aj fun ap=>cF s 154 [an,ao,ap] am al fun aq ar au=>RK (vSt ar 5 y10 aq) fun av=>lA 5 av y10 fun aw=>K aw av au) 1 [w]) 1 [h0])
def r18cut (s:Bool) (t0 t1 t2 t3 t4:Value) (h:Hp) (nx:Nat) (K:KC'):Prop:=pC t0 h nx fun a b c=>nC [(iV 0),(iV 0),nS,nS,nS] b c fun d e f=>lA 5 e a fun g=>cF s 151 [g] e f fun i j k=>RK (oUn .not i) fun l=>IF l ((zCZ s K t1 t2 t3 t4 a d (.bool true) j k)) (cF s 152 [t1,t2] j k fun m n o=>RK (oUn .not m) fun p=>IF p ((zCZ s K t1 t2 t3 t4 a d (.bool true) n o)) (bF .lss 3 t3 (iV 0) fun q=>IF q ((zCZ s K t1 t2 t3 t4 a d (.bool true) n o)) (bF .geq 3 t3 t1 fun r=>IF r ((zCZ s K t1 t2 t3 t4 a d (.bool true) n o)) (bF .lss 3 t4 (iV 0) fun t=>IF t ((zCZ s K t1 t2 t3 t4 a d (.bool true) n o)) (bF .geq 3 t4 t2 fun u=>(zCZ s K t1 t2 t3 t4 a d u n o))))))
theorem r18cutv {s:Bool} {t0 t1 t2 t3 t4:Value} {h:Hp} {nx:Nat} {K:KC'} (w:r18cut s t0 t1 t2 t3 t4 h nx K):Cv Q O s 58 [t0,t1,t2,t3,t4] h nx K:=Cv.byE r18cutL rfl w (by kernel_rfl)
def zKk:List (List Nat):=[[1,2,3,6,7,8,9]]
def zFf (s:Bool) (N:KVl) (e0:KVl) (R:KVl) (y1 y2 y3 y6 y7 y8 y9 y10:Value) (h0:Hp) (n0:Nat):Prop:=aF 2 y7 fun a=>lF h0 a fun b=>AR (vBsl 1 [(iV 0)] [(0,1,y10)]) h0 n0 fun c d e=>EK (orR (zH 1 d e b c)) fun f g i=>aF 2 y7 fun j=>RK (vSt g 1 j f) fun k=>aF 3 y7 fun l=>lF k l fun m=>AR (vBsl 1 [(iV 0)] [(0,1,(iV (-1)))]) k i fun n o p=>EK (orR (zH 1 o p m n)) fun q r t=>aF 3 y7 fun u=>RK (vSt r 1 u q) fun v=>bF .add 3 y9 (iV 1) fun w=>N [y1,y2,y3,y6,y7,y8,w] v t
def zEN (s:Bool) (N:KVl) (e0:KVl) (R:KVl) (y1 y2 y3 y6 y7 y8 y9 y10 y11:Value) (h0:Hp) (n0:Nat):Prop:=IF y11 (bF .sub 3 y9 y1 fun a=>AR (vBsl 1 [(iV 0)] [(0,1,a)]) h0 n0 fun b c d=>EK (orR (zH 1 c d y8 b)) fun e f g=>(zFf s N e0 R y1 y2 y3 y6 y7 e y9 y10 f g)) ((zFf s N e0 R y1 y2 y3 y6 y7 y8 y9 y10 h0 n0))
def zFe (s:Bool) (N:KVl) (e0:KVl) (R:KVl) (y1 y2 y3 y6 y7 y8 y9 y10 y11 y71:Value) (h0:Hp) (n0:Nat):Prop:=IF y71 (aF 0 y3 fun a=>lF h0 a fun b=>bF .eql 22 b (iV 4) fun c=>IF c ((zEN s N e0 R y1 y2 y3 y6 y7 y8 y9 (iV 1) y11 h0 n0)) ((zEN s N e0 R y1 y2 y3 y6 y7 y8 y9 (iV 0) y11 h0 n0))) ((zEN s N e0 R y1 y2 y3 y6 y7 y8 y9 y10 y11 h0 n0))
def zDE (s:Bool) (N:KVl) (e0:KVl) (R:KVl) (y1 y2 y3 y6 y7 y8 y9 y10 y11:Value) (h0:Hp) (n0:Nat):Prop:=aF 0 y3 fun a=>lF h0 a fun b=>cF s 156 [b] h0 n0 fun c d e=>IF c (aF 2 y3 fun f=>lF d f fun g=>bF .eql 3 y9 g fun i=>(zFe s N e0 R y1 y2 y3 y6 y7 y8 y9 y10 y11 i d e)) ((zFe s N e0 R y1 y2 y3 y6 y7 y8 y9 y10 y11 (.bool false) d e))
def zDD (s:Bool) (N:KVl) (e0:KVl) (R:KVl) (y1 y2 y3 y6 y7 y8 y9 y11:Value) (h0:Hp) (n0:Nat):Prop:=aF 0 y3 fun a=>lF h0 a fun b=>bF .eql 22 b (iV 1) fun c=>IF c ((zDE s N e0 R y1 y2 y3 y6 y7 y8 y9 (iV (-1)) y11 h0 n0)) (bF .eql 22 b (iV 2) fun d=>IF d ((zDE s N e0 R y1 y2 y3 y6 y7 y8 y9 (iV 4611686018427387904) y11 h0 n0)) (bF .eql 22 b (iV 3) fun e=>IF e ((zDE s N e0 R y1 y2 y3 y6 y7 y8 y9 y9 y11 h0 n0)) ((zDE s N e0 R y1 y2 y3 y6 y7 y8 y9 (iV 0) y11 h0 n0))))
def zM2 (s:Bool) (a1 a2 a3 a6 a7 a8 a9:Value) (h:Hp) (nx:Nat) (N:KVl) (e0:KVl) (R:KVl):Prop:=bF .lss 3 a9 a2 fun a=>IF a (aF 0 a3 fun b=>lF h b fun c=>cF s 156 [c] h nx fun d e f=>IF d (aF 2 a3 fun g=>lF e g fun i=>bF .eql 3 a9 i fun j=>IF j ((zDD s N e0 R a1 a2 a3 a6 a7 a8 a9 (.bool true) e f)) (aF 0 a3 fun k=>lF e k fun l=>bF .eql 22 l (iV 3) fun m=>(zDD s N e0 R a1 a2 a3 a6 a7 a8 a9 m e f))) (aF 0 a3 fun n=>lF e n fun o=>bF .eql 22 o (iV 3) fun p=>(zDD s N e0 R a1 a2 a3 a6 a7 a8 a9 p e f))) (e0 [a1,a2,a3,a6,a7,a8,a9] h nx)
def zEM (s:Bool) (K:KC') (y1 y2 y3 y6 y29:Value) (h0:Hp) (n0:Nat):Prop:=IF y29 (cF s 155 [] h0 n0 fun a b c=>RK (vSt b 5 y6 a) fun d=>lA 5 d y6 fun e=>K e d c) (RK (vBld [(iV 0),(iV 0),nS,nS,nS] [(0,1,y1),(1,1,y2)]) fun f=>nC [(iV 0),(iV 0),nS,nS,nS] h0 n0 fun g i j=>RK (vSt i 5 g f) fun k=>Lp (fL Q O s zKk 59 0) [y1,y2,y3,y6,g,nS,y1] k j [(0,fun l m n=>bF .sub 3 (nv l 1) (nv l 0) fun o=>cF s 157 [o,(nv l 5)] m n fun p q r=>aF 4 (nv l 4) fun t=>RK (vSt q 1 t p) fun u=>lA 5 u (nv l 4) fun v=>RK (vSt u 5 (nv l 3) v) fun w=>lA 5 w (nv l 3) fun x=>K x w r)] (fun _ _ _=>False))
def rbegin (s:Bool) (t0 t1 t2:Value) (h:Hp) (nx:Nat) (K:KC'):Prop:=pC t0 h nx fun a b c=>nC [(iV 0),(iV 0),nS,nS,nS] b c fun d e f=>lA 5 e a fun g=>cF s 146 [g] e f fun i j k=>bF .neq 34 i (iV 0) fun l=>IF l ((zEM s K t1 t2 a d (.bool true) j k)) (bF .lss 3 t1 (iV 0) fun m=>IF m ((zEM s K t1 t2 a d (.bool true) j k)) (bF .lss 3 t2 t1 fun n=>IF n ((zEM s K t1 t2 a d (.bool true) j k)) (aF 1 a fun o=>lF j o fun p=>bF .gtr 3 t2 p fun q=>(zEM s K t1 t2 a d q j k))))
theorem rbeginb0 {s:Bool} {a1 a2 a3 a6 a7 a8 a9:Value} {h:Hp} {nx:Nat} {N e0 R:KVl}:fL Q O s zKk 59 0 [a1,a2,a3,a6,a7,a8,a9] h nx N [(0,e0)] R=zM2 s a1 a2 a3 a6 a7 a8 a9 h nx N e0 R:=by kernel_rfl
theorem rbeginv {s:Bool} {t0 t1 t2:Value} {h:Hp} {nx:Nat} {K:KC'} (w:rbegin s t0 t1 t2 h nx K):Cv Q O s 59 [t0,t1,t2] h nx K:=Cv.byE zKk rfl w (by kernel_rfl)
def r17lowL:List (List Nat):=[]
def r17low (s:Bool) (t0 t1 t2:Value) (h:Hp) (nx:Nat) (K:KC'):Prop:=cF s 158 [t0,t1] h nx fun a b c=>RK (oUn .not a) fun d=>IF d (K (iV 0) b c) (bF .lss 3 t2 (iV 0) fun e=>IF e (K (iV 0) b c) (bF .geq 3 t2 t1 fun f=>IF f (K t0 b c) (bF .mul 3 t2 t0 fun g=>bF .quo 3 g t1 fun i=>K i b c)))
theorem r17lowv {s:Bool} {t0 t1 t2:Value} {h:Hp} {nx:Nat} {K:KC'} (w:r17low s t0 t1 t2 h nx K):Cv Q O s 60 [t0,t1,t2] h nx K:=Cv.byE r17lowL rfl w (by kernel_rfl)
def rvoteL:List (List Nat):=[]
def zK9 (s:Bool) (K:KC') (y0 y1 y2 y6:Value) (h0:Hp) (n0:Nat):Prop:=RK (zf y0) fun a=>aF 36 a fun b=>RK (vSt h0 1 b (.bool true)) fun c=>RK (vBld [(iV 0),(iV 0),(iV 0),(iV 0),(iV 0),(iV 0),nS,nS,nS,(iV 0),(.bool false)] [(0,1,(iV 4)),(4,1,y1),(9,1,y6),(10,1,y2)]) fun d=>cF s 160 [y0,d] c n0 fun e f g=>K (.tuple ⟨[]⟩) f g
def rvote (s:Bool) (t0 t1 t2:Value) (h:Hp) (nx:Nat) (K:KC'):Prop:=RK (oUn .not t2) fun a=>IF a (RK (zf t0) fun b=>aF 0 b fun c=>aF 0 c fun d=>lA 5 h d fun e=>RK (zf t0) fun f=>aF 30 f fun g=>lA 5 h g fun i=>dF 159 [e,i,t1] h nx fun j k l=>(zK9 s K t0 t1 t2 j k l)) ((zK9 s K t0 t1 t2 (iV 0) h nx))
theorem rvotev {s:Bool} {t0 t1 t2:Value} {h:Hp} {nx:Nat} {K:KC'} (w:rvote s t0 t1 t2 h nx K):Cv Q O s 61 [t0,t1,t2] h nx K:=Cv.byE rvoteL rfl w (by kernel_rfl)
def zIj:List (List Nat):=[[1,2,60,61]]
def zKD (s:Bool) (a1 a2 a60 a61:Value) (h:Hp) (nx:Nat) (N:KVl) (e0:KVl) (R:KVl):Prop:=bF .lss 3 a61 a60 fun a=>IF a (aF 3 a1 fun b=>lF h b fun c=>aF 2 a1 fun d=>lF h d fun e=>xF 1 e a61 fun f=>lF h f fun g=>aF 2 a1 fun i=>lF h i fun j=>bF .add 3 a61 (iV 1) fun k=>xF 1 j k fun l=>lF h l fun m=>RK (vSl 1 c (some g) (some m) none) fun n=>aF 1 a1 fun o=>lF h o fun p=>dF 234 [n,p] h nx fun q r t=>RK (oUn .not q) fun u=>IF u (R [a1,(.bool false),a60,a61] r t) (bF .add 3 a61 (iV 1) fun v=>N [a1,a2,a60,v] r t)) (e0 [a1,a2,a60,a61] h nx)
def zE6 (s:Bool) (K:KC') (y1 y58:Value) (h0:Hp) (n0:Nat):Prop:=IF y58 (K (.bool false) h0 n0) (aF 0 y1 fun a=>lF h0 a fun b=>Lp (fL Q O s zIj 133 0) [y1,(.bool false),b,(iV 0)] h0 n0 [(0,fun c d e=>K (.bool true) d e)] (fun f g i=>K (nv f 1) g i))
def zCR (s:Bool) (K:KC') (y1 y3 y37:Value) (h0:Hp) (n0:Nat):Prop:=IF y37 (K (.bool false) h0 n0) (aF 2 y1 fun a=>lF h0 a fun b=>xF 1 b (iV 0) fun c=>lF h0 c fun d=>bF .neq 3 d (iV 0) fun e=>IF e ((zE6 s K y1 (.bool true) h0 n0)) (aF 2 y1 fun f=>lF h0 f fun g=>aF 0 y1 fun i=>lF h0 i fun j=>xF 1 g j fun k=>lF h0 k fun l=>bF .neq 3 l y3 fun m=>IF m ((zE6 s K y1 (.bool true) h0 n0)) (aF 2 y1 fun n=>lF h0 n fun o=>cF s 233 [o] h0 n0 fun p q r=>RK (oUn .not p) fun t=>(zE6 s K y1 t q r))))
def zRr (s:Bool) (t0:Value) (h:Hp) (nx:Nat) (K:KC'):Prop:=pC t0 h nx fun a b c=>aF 3 a fun d=>lF b d fun e=>nF e fun f=>aF 0 a fun g=>lF b g fun i=>cF s 232 [i,(iV 4096)] b c fun j k l=>RK (oUn .not j) fun m=>IF m ((zCR s K a f (.bool true) k l)) (aF 1 a fun n=>lF k n fun o=>cF s 232 [o,(iV 4096)] k l fun p q r=>RK (oUn .not p) fun t=>IF t ((zCR s K a f (.bool true) q r)) (aF 2 a fun u=>lF q u fun v=>nF v fun w=>aF 0 a fun x=>lF q x fun y=>bF .add 3 y (iV 1) fun z=>bF .neq 3 w z fun aa=>IF aa ((zCR s K a f (.bool true) q r)) (aF 4 a fun ab=>lF q ab fun ac=>nF ac fun ad=>bF .neq 3 ad f fun ae=>IF ae ((zCR s K a f (.bool true) q r)) (bF .gtr 3 f (iV 65536) fun af=>(zCR s K a f af q r)))))
theorem zRq {s:Bool} {a1 a2 a60 a61:Value} {h:Hp} {nx:Nat} {N e0 R:KVl}:fL Q O s zIj 133 0 [a1,a2,a60,a61] h nx N [(0,e0)] R=zKD s a1 a2 a60 a61 h nx N e0 R:=by kernel_rfl
theorem csrightv {s:Bool} {t0:Value} {h:Hp} {nx:Nat} {K:KC'} (w:zRr s t0 h nx K):Cv Q O s 133 [t0] h nx K:=Cv.byE zIj rfl w (by kernel_rfl)
def bgridL:List (List Nat):=[]
def bgrid (s:Bool) (t0 t1 t2 t3:Value) (h:Hp) (nx:Nat) (K:KC'):Prop:=cF s 235 [t0] h nx fun a b c=>IF a (cF s 235 [t1] b c fun d e f=>IF d (bF .geq 3 t2 (iV 0) fun g=>IF g (bF .lss 3 t2 t0 fun i=>IF i (bF .geq 3 t3 (iV 0) fun j=>IF j (bF .lss 3 t3 t1 fun k=>K k e f) (K (.bool false) e f)) (K (.bool false) e f)) (K (.bool false) e f)) (K (.bool false) e f)) (K (.bool false) b c)
theorem bgridv {s:Bool} {t0 t1 t2 t3:Value} {h:Hp} {nx:Nat} {K:KC'} (w:bgrid s t0 t1 t2 t3 h nx K):Cv Q O s 134 [t0,t1,t2,t3] h nx K:=Cv.byE bgridL rfl w (by kernel_rfl)
def zKE:List (List Nat):=[[3,6,7,8,9,10,11,31,32],[3,6,7,8,9,10,11,12,31,32,39,40,41]]
def zLZ (s:Bool) (N:KVl) (e2:KVl) (R:KVl) (y3 y6 y7 y8 y9 y10 y11 y12 y14 y31 y32 y39 y40 y41 y56:Value) (h0:Hp) (n0:Nat):Prop:=IF y56 (aF 0 y14 fun a=>lF h0 a fun b=>bF .sub 3 b y9 fun c=>aF 1 y14 fun d=>lF h0 d fun e=>RK (vBld [(iV 0),(iV 0),(iV 0)] [(0,1,y12),(1,1,c),(2,1,e)]) fun f=>AR (vBsl 1 [(iV 0),(iV 0),(iV 0)] [(0,3,f)]) h0 n0 fun g i j=>EK (orR (zH 3 i j y11 g)) fun k l m=>bF .add 3 y41 (iV 1) fun n=>N [y3,y6,y7,y8,y9,y10,k,y12,y31,y32,y39,y40,n] l m) (bF .add 3 y41 (iV 1) fun o=>N [y3,y6,y7,y8,y9,y10,y11,y12,y31,y32,y39,y40,o] h0 n0)
def zRt (s:Bool) (a3 a6 a7 a8 a9 a10 a11 a12 a31 a32 a39 a40 a41:Value) (h:Hp) (nx:Nat) (N:KVl) (e2:KVl) (R:KVl):Prop:=bF .lss 3 a41 a40 fun a=>IF a (xF 2 a39 a41 fun b=>lA 2 h b fun c=>nC [(iV 0),(iV 0)] h nx fun d e f=>RK (vSt e 2 d c) fun g=>aF 0 d fun i=>lF g i fun j=>bF .geq 3 j a9 fun k=>IF k (aF 0 d fun l=>lF g l fun m=>bF .sub 3 m a9 fun n=>bF .lss 3 n a10 fun o=>(zLZ s N e2 R a3 a6 a7 a8 a9 a10 a11 a12 d a31 a32 a39 a40 a41 o g f)) ((zLZ s N e2 R a3 a6 a7 a8 a9 a10 a11 a12 d a31 a32 a39 a40 a41 (.bool false) g f))) (e2 [a3,a6,a7,a8,a9,a10,a11,a12,a31,a32,a39,a40,a41] h nx)
def zRu (s:Bool) (a3 a6 a7 a8 a9 a10 a11 a31 a32:Value) (h:Hp) (nx:Nat) (N:KVl) (e0:KVl) (R:KVl):Prop:=bF .lss 3 a32 a31 fun a=>IF a (lA 5 h a3 fun b=>bF .add 3 a7 a32 fun c=>cF s 238 [b,c] h nx fun d e f=>nF d fun g=>Lp (fL Q O s zKE 135 1) [a3,a6,a7,a8,a9,a10,a11,a32,a31,a32,d,g,(iV 0)] e f [(2,fun i j k=>bF .add 3 (nv i 9) (iV 1) fun l=>N [(nv i 0),(nv i 1),(nv i 2),(nv i 3),(nv i 4),(nv i 5),(nv i 6),(nv i 8),l] j k)] (fun _ _ _=>False)) (e0 [a3,a6,a7,a8,a9,a10,a11,a31,a32] h nx)
def cscut (s:Bool) (t0 t1 t2:Value) (h:Hp) (nx:Nat) (K:KC'):Prop:=pC t0 h nx fun a b c=>pC t1 b c fun d e f=>pC t2 e f fun g i j=>nC [(iV 0),(iV 0),nS,nS,nS] i j fun k l m=>lA 5 l a fun n=>cF s 236 [n] l m fun o p q=>RK (vSt p 5 a o) fun r=>lA 2 r d fun t=>aF 0 a fun u=>lF r u fun v=>cF s 237 [t,v] r q fun w x y=>RK (zJ w 0) fun z=>RK (zJ w 1) fun aa=>lA 2 x g fun ab=>aF 1 a fun ac=>lF x ac fun ad=>cF s 237 [ab,ad] x y fun ae af ag=>RK (zJ ae 0) fun ah=>RK (zJ ae 1) fun ai=>Lp (fL Q O s zKE 135 0) [a,k,z,aa,ah,ai,nS,aa,(iV 0)] af ag [(0,fun aj ak al=>cF s 231 [(nv aj 3),(nv aj 5),(nv aj 6)] ak al fun am an ao=>RK (vSt an 5 (nv aj 1) am) fun ap=>lA 5 ap (nv aj 1) fun aq=>K aq ap ao)] (fun _ _ _=>False)
theorem cscutb1 {s:Bool} {a3 a6 a7 a8 a9 a10 a11 a12 a31 a32 a39 a40 a41:Value} {h:Hp} {nx:Nat} {N e2 R:KVl}:fL Q O s zKE 135 1 [a3,a6,a7,a8,a9,a10,a11,a12,a31,a32,a39,a40,a41] h nx N [(2,e2)] R=zRt s a3 a6 a7 a8 a9 a10 a11 a12 a31 a32 a39 a40 a41 h nx N e2 R:=by kernel_rfl
theorem cscutb0 {s:Bool} {a3 a6 a7 a8 a9 a10 a11 a31 a32:Value} {h:Hp} {nx:Nat} {N e0 R:KVl}:fL Q O s zKE 135 0 [a3,a6,a7,a8,a9,a10,a11,a31,a32] h nx N [(0,e0)] R=zRu s a3 a6 a7 a8 a9 a10 a11 a31 a32 h nx N e0 R:=by kernel_rfl
theorem cscutv {s:Bool} {t0 t1 t2:Value} {h:Hp} {nx:Nat} {K:KC'} (w:cscut s t0 t1 t2 h nx K):Cv Q O s 135 [t0,t1,t2] h nx K:=Cv.byE zKE rfl w (by kernel_rfl)
def bboundsL:List (List Nat):=[]
def zSh (s:Bool) (t0 t1 t2:Value) (h:Hp) (nx:Nat) (K:KC'):Prop:=nC [(iV 0),(iV 0)] h nx fun a b c=>cF s 55 [t0,t1,t2] b c fun d e f=>bF .add 3 t2 (iV 1) fun g=>cF s 55 [t0,t1,g] e f fun i j k=>RK (vBld [(iV 0),(iV 0)] [(0,1,d),(1,1,i)]) fun l=>RK (vSt j 2 a l) fun m=>lA 2 m a fun n=>K n m k
theorem bboundsv {s:Bool} {t0 t1 t2:Value} {h:Hp} {nx:Nat} {K:KC'} (w:zSh s t0 t1 t2 h nx K):Cv Q O s 136 [t0,t1,t2] h nx K:=Cv.byE bboundsL rfl w (by kernel_rfl)
def dcnoneL:List (List Nat):=[]
def dcnone (s:Bool) (h:Hp) (nx:Nat) (K:KC'):Prop:=nC [(iV 0),(iV 0),nS,nS,nS,nS] h nx fun a b c=>AR (vBsl 1 [(iV 0)] [(0,1,(iV 0))]) b c fun d e f=>RK (vBld [(iV 0),(iV 0),nS,nS,nS,nS] [(3,1,d)]) fun g=>RK (vSt e 6 a g) fun i=>lA 6 i a fun j=>K j i f
theorem dcnonev {s:Bool} {h:Hp} {nx:Nat} {K:KC'} (w:dcnone s h nx K):Cv Q O s 137 [] h nx K:=Cv.byE dcnoneL rfl w (by kernel_rfl)
def zCQ:List (List Nat):=[[1,3,12,13],[1,3,4,6,12,13,22,23,24]]
def zGm (s:Bool) (a1 a3 a4 a6 a12 a13 a22 a23 a24:Value) (h:Hp) (nx:Nat) (N:KVl) (e2:KVl) (R:KVl):Prop:=bF .lss 3 a24 a23 fun a=>IF a (xF 1 a22 a24 fun b=>lF h b fun c=>xF 1 a6 a24 fun d=>lF h d fun e=>RK (vBld [(iV 0),(iV 0),(iV 0)] [(0,1,a4),(1,1,c),(2,1,e)]) fun f=>AR (vBsl 1 [(iV 0),(iV 0),(iV 0)] [(0,3,f)]) h nx fun g i j=>EK (orR (zH 3 i j a3 g)) fun k l m=>bF .add 3 a24 (iV 1) fun n=>N [a1,k,a4,a6,a12,a13,a22,a23,n] l m) (e2 [a1,a3,a4,a6,a12,a13,a22,a23,a24] h nx)
def zGn (s:Bool) (a1 a3 a12 a13:Value) (h:Hp) (nx:Nat) (N:KVl) (e0:KVl) (R:KVl):Prop:=bF .lss 3 a13 a12 fun a=>IF a (lA 5 h a1 fun b=>cF s 239 [b,a13] h nx fun c d e=>RK (zJ c 0) fun f=>RK (zJ c 1) fun g=>nF f fun i=>Lp (fL Q O s zCQ 138 1) [a1,a3,a13,g,a12,a13,f,i,(iV 0)] d e [(2,fun j k l=>bF .add 3 (nv j 5) (iV 1) fun m=>N [(nv j 0),(nv j 1),(nv j 4),m] k l)] (fun _ _ _=>False)) (e0 [a1,a3,a12,a13] h nx)
def zKC (s:Bool) (t0:Value) (h:Hp) (nx:Nat) (K:KC'):Prop:=pC t0 h nx fun a b c=>lA 5 b a fun d=>cF s 236 [d] b c fun e f g=>RK (vSt f 5 a e) fun i=>aF 0 a fun j=>lF i j fun k=>Lp (fL Q O s zCQ 138 0) [a,nS,k,(iV 0)] i g [(0,fun l m n=>K (nv l 1) m n)] (fun _ _ _=>False)
theorem zLX {s:Bool} {a1 a3 a4 a6 a12 a13 a22 a23 a24:Value} {h:Hp} {nx:Nat} {N e2 R:KVl}:fL Q O s zCQ 138 1 [a1,a3,a4,a6,a12,a13,a22,a23,a24] h nx N [(2,e2)] R=zGm s a1 a3 a4 a6 a12 a13 a22 a23 a24 h nx N e2 R:=by kernel_rfl
theorem zLY {s:Bool} {a1 a3 a12 a13:Value} {h:Hp} {nx:Nat} {N e0 R:KVl}:fL Q O s zCQ 138 0 [a1,a3,a12,a13] h nx N [(0,e0)] R=zGn s a1 a3 a12 a13 h nx N e0 R:=by kernel_rfl
theorem zOY {s:Bool} {t0:Value} {h:Hp} {nx:Nat} {K:KC'} (w:zKC s t0 h nx K):Cv Q O s 138 [t0] h nx K:=Cv.byE zCQ rfl w (by kernel_rfl)
def zLW:List (List Nat):=[[1,2,3,10,11,12]]
def zNK (s:Bool) (a1 a2 a3 a10 a11 a12:Value) (h:Hp) (nx:Nat) (N:KVl) (e0:KVl) (R:KVl):Prop:=bF .lss 3 a12 a11 fun a=>IF a (xF 3 a10 a12 fun b=>lA 3 h b fun c=>nC [(iV 0),(iV 0),(iV 0)] h nx fun d e f=>RK (vSt e 3 d c) fun g=>aF 1 d fun i=>lF g i fun j=>aF 0 d fun k=>lF g k fun l=>aF 2 d fun m=>lF g m fun n=>RK (vBld [(iV 0),(iV 0),(iV 0)] [(0,1,j),(1,1,l),(2,1,n)]) fun o=>xF 3 a3 a12 fun p=>RK (vSt g 3 p o) fun q=>bF .add 3 a12 (iV 1) fun r=>N [a1,a2,a3,a10,a11,r] q f) (e0 [a1,a2,a3,a10,a11,a12] h nx)
def csturn (s:Bool) (t0:Value) (h:Hp) (nx:Nat) (K:KC'):Prop:=pC t0 h nx fun a b c=>nC [(iV 0),(iV 0),nS,nS,nS] b c fun d e f=>lA 5 e a fun g=>cF s 236 [g] e f fun i j k=>RK (vSt j 5 a i) fun l=>lA 5 l a fun m=>cF s 138 [m] l k fun n o p=>nF n fun q=>Lp (fL Q O s zLW 139 0) [a,d,n,n,q,(iV 0)] o p [(0,fun r t u=>cF s 240 [(nv r 2),(.func (.func 241) #[] #[])] t u fun v w x=>aF 1 (nv r 0) fun y=>lF w y fun z=>aF 0 (nv r 0) fun aa=>lF w aa fun ab=>cF s 231 [z,ab,(nv r 2)] w x fun ac ad ae=>RK (vSt ad 5 (nv r 1) ac) fun af=>lA 5 af (nv r 1) fun ag=>K ag af ae)] (fun _ _ _=>False)
theorem csturnb0 {s:Bool} {a1 a2 a3 a10 a11 a12:Value} {h:Hp} {nx:Nat} {N e0 R:KVl}:fL Q O s zLW 139 0 [a1,a2,a3,a10,a11,a12] h nx N [(0,e0)] R=zNK s a1 a2 a3 a10 a11 a12 h nx N e0 R:=by kernel_rfl
theorem csturnv {s:Bool} {t0:Value} {h:Hp} {nx:Nat} {K:KC'} (w:csturn s t0 h nx K):Cv Q O s 139 [t0] h nx K:=Cv.byE zLW rfl w (by kernel_rfl)
def zGN:List (List Nat):=[[1,2,6,7,8,18,19]]
def zH5 (s:Bool) (a1 a2 a6 a7 a8 a18 a19:Value) (h:Hp) (nx:Nat) (N:KVl) (e0:KVl) (R:KVl):Prop:=bF .lss 3 a19 a18 fun a=>IF a (CVK Q O s (zBj h nx [a19] a2) fun b c d=>RK (zJ b 0) fun e=>RK (zJ b 1) fun f=>RK (zJ b 2) fun g=>aF 2 a7 fun i=>lF c i fun j=>AR (vBsl 1 [(iV 0)] [(0,1,e)]) c d fun k l m=>EK (orR (zH 1 l m j k)) fun n o p=>m≤p∧aF 3 a7 fun q=>lF o q fun r=>gL q r (AR (vBsl 1 [(iV 0)] [(0,1,f)]) o p fun t u v=>EK (orR (zH 1 u v r t)) fun w x y=>v≤y∧aF 2 a7 fun z=>RK (vSt x 1 z n) fun aa=>aF 3 a7 fun ab=>RK (vSt aa 1 ab w) fun ac=>IF g (AR (vBsl 1 [(iV 0)] [(0,1,a19)]) ac y fun ad ae af=>EK (orR (zH 1 ae af a8 ad)) fun ag ah ai=>bF .add 3 a19 (iV 1) fun aj=>N [a1,a2,a6,a7,ag,a18,aj] ah ai) (bF .add 3 a19 (iV 1) fun ak=>N [a1,a2,a6,a7,a8,a18,ak] ac y)) 1 [c]) (e0 [a1,a2,a6,a7,a8,a18,a19] h nx)
def zMd (s:Bool) (t0 t1 t2:Value) (h:Hp) (nx:Nat) (K:KC'):Prop:=pC t0 h nx fun a b c=>nC [(iV 0),(iV 0),nS,nS,nS] b c fun d e f=>aF 0 a fun g=>lF e g fun i=>aF 1 a fun j=>lF e j fun k=>RK (vBld [(iV 0),(iV 0),nS,nS,nS] [(0,1,i),(1,1,k)]) fun l=>nC [(iV 0),(iV 0),nS,nS,nS] e f fun m n o=>RK (vSt n 5 m l) fun p=>Lp (fL Q O s zGN 140 0) [t1,t2,d,m,nS,t1,(iV 0)] p o [(0,fun q r t=>cF s 108 [(nv q 0),(nv q 4)] r t fun u v w=>aF 4 (nv q 3) fun x=>RK (vSt v 1 x u) fun y=>lA 5 y (nv q 3) fun z=>RK (vSt y 5 (nv q 2) z) fun aa=>lA 5 aa (nv q 2) fun ab=>K ab aa w)] (fun _ _ _=>False)
theorem zNw {s:Bool} {a1 a2 a6 a7 a8 a18 a19:Value} {h:Hp} {nx:Nat} {N e0 R:KVl}:fL Q O s zGN 140 0 [a1,a2,a6,a7,a8,a18,a19] h nx N [(0,e0)] R=zH5 s a1 a2 a6 a7 a8 a18 a19 h nx N e0 R:=by kernel_rfl
theorem zQf {s:Bool} {t0 t1 t2:Value} {h:Hp} {nx:Nat} {K:KC'} (w:zMd s t0 t1 t2 h nx K):Cv Q O s 140 [t0,t1,t2] h nx K:=Cv.byE zGN rfl w (by kernel_rfl)
def pbegin1L:List (List Nat):=[]
def zQh (s:Bool) (t0 t1 t2:Value) (h:Hp) (nx:Nat) (K:KC'):Prop:=lA 5 h t1 fun a=>lF h t2 fun b=>bF .add 3 b t0 fun c=>cF s 142 [a,c] h nx fun d e f=>RK (zJ d 0) fun g=>RK (zJ d 1) fun i=>K (.tuple ⟨[g,(iV (-1)),i]⟩) e f
theorem pbegin1v {s:Bool} {t0 t1 t2:Value} {h:Hp} {nx:Nat} {K:KC'} (w:zQh s t0 t1 t2 h nx K):Cv Q O s 141 [t0,t1,t2] h nx K:=Cv.byE pbegin1L rfl w (by kernel_rfl)
def pfirstL:List (List Nat):=[]
def zMc (s:Bool) (K:KC') (h0:Hp) (n0:Nat):Prop:=K (.tuple ⟨[(iV 4611686018427387904),(.bool false)]⟩) h0 n0
def zDJ (s:Bool) (K:KC') (y2 y6 y20:Value) (h0:Hp) (n0:Nat):Prop:=IF y20 (K (.tuple ⟨[(iV 1),(.bool true)]⟩) h0 n0) (IF y6 (K (.tuple ⟨[(iV 0),y6]⟩) h0 n0) (aF 0 y2 fun a=>lF h0 a fun b=>bF .eql 22 b (iV 4) fun c=>IF c (K (.tuple ⟨[(iV 0),y6]⟩) h0 n0) (aF 0 y2 fun d=>lF h0 d fun e=>bF .eql 22 e (iV 1) fun f=>IF f (K (.tuple ⟨[(iV (-1)),(.bool false)]⟩) h0 n0) ((zMc s K h0 n0)))))
def pfirst (s:Bool) (t0 t1:Value) (h:Hp) (nx:Nat) (K:KC'):Prop:=pC t0 h nx fun a b c=>aF 2 a fun d=>lF b d fun e=>bF .eql 3 t1 e fun f=>aF 0 a fun g=>lF b g fun i=>bF .eql 22 i (iV 3) fun j=>IF j (K (.tuple ⟨[t1,(.bool true)]⟩) b c) (aF 0 a fun k=>lF b k fun l=>bF .eql 22 l (iV 5) fun m=>IF m (K (.tuple ⟨[(iV 0),(.bool false)]⟩) b c) (aF 0 a fun n=>lF b n fun o=>bF .eql 22 o (iV 4) fun p=>IF p ((zDJ s K a f f b c)) ((zDJ s K a f (.bool false) b c))))
theorem pfirstv {s:Bool} {t0 t1:Value} {h:Hp} {nx:Nat} {K:KC'} (w:pfirst s t0 t1 h nx K):Cv Q O s 142 [t0,t1] h nx K:=Cv.byE pfirstL rfl w (by kernel_rfl)
def ptmayL:List (List Nat):=[]
def ptmay (s:Bool) (t0 t1:Value) (h:Hp) (nx:Nat) (K:KC'):Prop:=bF .geq 3 t0 (iV 0) fun a=>IF a (bF .leq 3 t0 (iV 4096) fun b=>IF b (cF s 208 [t1] h nx fun c d e=>K c d e) (K (.bool false) h nx)) (K (.bool false) h nx)
theorem ptmayv {s:Bool} {t0 t1:Value} {h:Hp} {nx:Nat} {K:KC'} (w:ptmay s t0 t1 h nx K):Cv Q O s 143 [t0,t1] h nx K:=Cv.byE ptmayL rfl w (by kernel_rfl)
def zQb:List (List Nat):=[[7,24,25,26]]
def zQa (s:Bool) (a7 a24 a25 a26:Value) (h:Hp) (nx:Nat) (N:KVl) (e1:KVl) (R:KVl):Prop:=bF .lss 3 a26 a25 fun a=>IF a (xF 1 a24 a26 fun b=>lF h b fun c=>bF .eql 2 c (iV 0) fun d=>IF d (bF .add 3 a7 (iV 1) fun e=>bF .add 3 a26 (iV 1) fun f=>N [e,a24,a25,f] h nx) (bF .add 3 a26 (iV 1) fun g=>N [a7,a24,a25,g] h nx)) (e1 [a7,a24,a25,a26] h nx)
def plive (s:Bool) (t0 t1 t2:Value) (h:Hp) (nx:Nat) (K:KC'):Prop:=pC t0 h nx fun a b c=>pC t1 b c fun d e f=>lA 5 e a fun g=>lA 5 e d fun i=>cF s 242 [g,i] e f fun j k l=>RK (vSt k 5 d j) fun m=>aF 0 a fun n=>lF m n fun o=>bF .eql 22 o (iV 4) fun p=>IF p (aF 3 a fun q=>lF m q fun r=>bF .geq 3 t2 r fun t=>IF t (K (iV 0) m l) (aF 4 d fun u=>lF m u fun v=>cF s 111 [v] m l fun w x y=>K w x y)) (bF .eql 22 o (iV 5) fun z=>IF z (aF 2 d fun aa=>lF m aa fun ab=>nF ab fun ac=>Lp (fL Q O s zQb 144 0) [(iV 0),ab,ac,(iV 0)] m l [(1,fun ad ae af=>K (nv ad 0) ae af)] (fun _ _ _=>False)) (aF 4 d fun ag=>lF m ag fun ah=>cF s 111 [ah] m l fun ai aj ak=>K ai aj ak))
theorem pliveb0 {s:Bool} {a7 a24 a25 a26:Value} {h:Hp} {nx:Nat} {N e1 R:KVl}:fL Q O s zQb 144 0 [a7,a24,a25,a26] h nx N [(1,e1)] R=zQa s a7 a24 a25 a26 h nx N e1 R:=by kernel_rfl
theorem plivev {s:Bool} {t0 t1 t2:Value} {h:Hp} {nx:Nat} {K:KC'} (w:plive s t0 t1 t2 h nx K):Cv Q O s 144 [t0,t1,t2] h nx K:=Cv.byE zQb rfl w (by kernel_rfl)
def wsendL:List (List Nat):=[]
def wsend (s:Bool) (t0 t1:Value) (h:Hp) (nx:Nat) (K:KC'):Prop:=pC t1 h nx fun a b c=>RK (zf t0) fun d=>aF 0 d fun e=>aF 0 e fun f=>lF b f fun g=>RK (zf t0) fun i=>aF 0 i fun j=>aF 1 j fun k=>lF b k fun l=>dF 127 [t0,g,l] b c fun m n o=>aF 1 a fun p=>RK (vSt n 1 p m) fun q=>RK (zf t0) fun r=>aF 22 r fun t=>lF q t fun u=>lA 11 q a fun v=>AR (vBsl 1 [(iV 0),(iV 0),(iV 0),(iV 0),(iV 0),(iV 0),nS,nS,nS,(iV 0),(.bool false)] [(0,11,v)]) q o fun w x y=>EK (orR (zH 11 x y u w)) fun z aa ab=>y≤ab∧RK (zf t0) fun ac=>aF 22 ac fun ad=>RK (vSt aa 1 ad z) fun ae=>K (.tuple ⟨[]⟩) ae ab
theorem wsendv {s:Bool} {t0 t1:Value} {h:Hp} {nx:Nat} {K:KC'} (w:wsend s t0 t1 h nx K):Cv Q O s 145 [t0,t1] h nx K:=Cv.byE wsendL rfl w (by kernel_rfl)
def zCm:List (List Nat):=[[1,2,3],[1,2,3,4]]
def zH1 (s:Bool) (a1 a2 a3 a4:Value) (h:Hp) (nx:Nat) (N:KVl) (e2:KVl) (R:KVl):Prop:=aF 2 a1 fun a=>lF h a fun b=>bF .add 3 a3 (iV 1) fun c=>xF 1 b c fun d=>lF h d fun e=>bF .lss 3 a4 e fun f=>IF f (aF 3 a1 fun g=>lF h g fun i=>xF 1 i a4 fun j=>lF h j fun k=>bF .lss 3 k (iV 0) fun l=>IF l (R [a1,(.bool false),a3,a4] h nx) (aF 3 a1 fun m=>lF h m fun n=>xF 1 n a4 fun o=>lF h o fun p=>aF 1 a1 fun q=>lF h q fun r=>bF .geq 3 p r fun t=>IF t (R [a1,(.bool false),a3,a4] h nx) (aF 2 a1 fun u=>lF h u fun v=>xF 1 v a3 fun w=>lF h w fun x=>bF .gtr 3 a4 x fun y=>IF y (aF 3 a1 fun z=>lF h z fun aa=>xF 1 aa a4 fun ab=>lF h ab fun ac=>aF 3 a1 fun ad=>lF h ad fun ae=>bF .sub 3 a4 (iV 1) fun af=>xF 1 ae af fun ag=>lF h ag fun ah=>bF .leq 3 ac ah fun ai=>IF ai (R [a1,(.bool false),a3,a4] h nx) (bF .add 3 a4 (iV 1) fun aj=>N [a1,a2,a3,aj] h nx)) (bF .add 3 a4 (iV 1) fun ak=>N [a1,a2,a3,ak] h nx)))) (e2 [a1,a2,a3,a4] h nx)
def zDG (s:Bool) (N:KVl) (e0:KVl) (R:KVl) (y1 y2 y3 y101:Value) (h0:Hp) (n0:Nat):Prop:=IF y101 (R [y1,(.bool false),y3] h0 n0) (aF 2 y1 fun a=>lF h0 a fun b=>xF 1 b y3 fun c=>lF h0 c fun d=>Lp (fL Q O s zCm 151 1) [y1,y2,y3,d] h0 n0 [(2,fun e f g=>bF .add 3 (nv e 2) (iV 1) fun i=>N [(nv e 0),(nv e 1),i] f g)] (fun j k l=>R [(nv j 0),(nv j 1),(nv j 2)] k l))
def zH2 (s:Bool) (a1 a2 a3:Value) (h:Hp) (nx:Nat) (N:KVl) (e0:KVl) (R:KVl):Prop:=aF 0 a1 fun a=>lF h a fun b=>bF .lss 3 a3 b fun c=>IF c (aF 2 a1 fun d=>lF h d fun e=>xF 1 e a3 fun f=>lF h f fun g=>aF 2 a1 fun i=>lF h i fun j=>bF .add 3 a3 (iV 1) fun k=>xF 1 j k fun l=>lF h l fun m=>bF .gtr 3 g m fun n=>IF n ((zDG s N e0 R a1 a2 a3 (.bool true) h nx)) (aF 2 a1 fun o=>lF h o fun p=>xF 1 p a3 fun q=>lF h q fun r=>bF .lss 3 r (iV 0) fun t=>IF t ((zDG s N e0 R a1 a2 a3 (.bool true) h nx)) (aF 2 a1 fun u=>lF h u fun v=>bF .add 3 a3 (iV 1) fun w=>xF 1 v w fun x=>lF h x fun y=>aF 3 a1 fun z=>lF h z fun aa=>nF aa fun ab=>bF .gtr 3 y ab fun ac=>(zDG s N e0 R a1 a2 a3 ac h nx)))) (e0 [a1,a2,a3] h nx)
def zEj (s:Bool) (K:KC') (y1 y63:Value) (h0:Hp) (n0:Nat):Prop:=IF y63 (K (.bool false) h0 n0) (Lp (fL Q O s zCm 151 0) [y1,(.bool false),(iV 0)] h0 n0 [(0,fun a b c=>K (.bool true) b c)] (fun d e f=>K (nv d 1) e f))
def zAg (s:Bool) (K:KC') (y1 y46:Value) (h0:Hp) (n0:Nat):Prop:=IF y46 (K (.bool false) h0 n0) (aF 2 y1 fun a=>lF h0 a fun b=>xF 1 b (iV 0) fun c=>lF h0 c fun d=>bF .neq 3 d (iV 0) fun e=>IF e ((zEj s K y1 (.bool true) h0 n0)) (aF 2 y1 fun f=>lF h0 f fun g=>aF 0 y1 fun i=>lF h0 i fun j=>xF 1 g j fun k=>lF h0 k fun l=>aF 3 y1 fun m=>lF h0 m fun n=>nF n fun o=>bF .neq 3 l o fun p=>(zEj s K y1 p h0 n0)))
def zM5 (s:Bool) (t0:Value) (h:Hp) (nx:Nat) (K:KC'):Prop:=pC t0 h nx fun a b c=>aF 0 a fun d=>lF b d fun e=>bF .lss 3 e (iV 0) fun f=>IF f ((zAg s K a (.bool true) b c)) (aF 0 a fun g=>lF b g fun i=>bF .gtr 3 i (iV 4096) fun j=>IF j ((zAg s K a (.bool true) b c)) (aF 1 a fun k=>lF b k fun l=>bF .lss 3 l (iV 0) fun m=>IF m ((zAg s K a (.bool true) b c)) (aF 1 a fun n=>lF b n fun o=>bF .gtr 3 o (iV 4096) fun p=>IF p ((zAg s K a (.bool true) b c)) (aF 2 a fun q=>lF b q fun r=>nF r fun t=>aF 0 a fun u=>lF b u fun v=>bF .add 3 v (iV 1) fun w=>bF .neq 3 t w fun x=>IF x ((zAg s K a (.bool true) b c)) (aF 3 a fun y=>lF b y fun z=>nF z fun aa=>aF 4 a fun ab=>lF b ab fun ac=>nF ac fun ad=>bF .neq 3 aa ad fun ae=>IF ae ((zAg s K a (.bool true) b c)) (aF 3 a fun af=>lF b af fun ag=>nF ag fun ah=>bF .gtr 3 ah (iV 65536) fun ai=>(zAg s K a ai b c)))))))
theorem zNs {s:Bool} {a1 a2 a3 a4:Value} {h:Hp} {nx:Nat} {N e2 R:KVl}:fL Q O s zCm 151 1 [a1,a2,a3,a4] h nx N [(2,e2)] R=zH1 s a1 a2 a3 a4 h nx N e2 R:=by kernel_rfl
theorem zNt {s:Bool} {a1 a2 a3:Value} {h:Hp} {nx:Nat} {N e0 R:KVl}:fL Q O s zCm 151 0 [a1,a2,a3] h nx N [(0,e0)] R=zH2 s a1 a2 a3 h nx N e0 R:=by kernel_rfl
theorem zQS {s:Bool} {t0:Value} {h:Hp} {nx:Nat} {K:KC'} (w:zM5 s t0 h nx K):Cv Q O s 151 [t0] h nx K:=Cv.byE zCm rfl w (by kernel_rfl)
def zQQ:List (List Nat):=[]
def zM4 (s:Bool) (t0 t1:Value) (h:Hp) (nx:Nat) (K:KC'):Prop:=bF .geq 3 t0 (iV 1) fun a=>IF a (bF .leq 3 t0 (iV 8) fun b=>IF b (bF .geq 3 t1 (iV 1) fun c=>IF c (bF .leq 3 t1 (iV 8) fun d=>K d h nx) (K (.bool false) h nx)) (K (.bool false) h nx)) (K (.bool false) h nx)
theorem zQP {s:Bool} {t0 t1:Value} {h:Hp} {nx:Nat} {K:KC'} (w:zM4 s t0 t1 h nx K):Cv Q O s 152 [t0,t1] h nx K:=Cv.byE zQQ rfl w (by kernel_rfl)
def zKm:List (List Nat):=[[6,7,8,9,10,11,12,13]]
def zC0 (s:Bool) (N:KVl) (e0:KVl) (R:KVl) (y6 y7 y8 y9 y10 y11 y12 y13 y75:Value) (h0:Hp) (n0:Nat):Prop:=IF y75 (xF 3 y11 y13 fun a=>aF 0 a fun b=>lF h0 b fun c=>bF .sub 3 c y7 fun d=>xF 3 y11 y13 fun e=>aF 1 e fun f=>lF h0 f fun g=>bF .sub 3 g y8 fun i=>xF 3 y11 y13 fun j=>aF 2 j fun k=>lF h0 k fun l=>RK (vBld [(iV 0),(iV 0),(iV 0)] [(0,1,d),(1,1,i),(2,1,l)]) fun m=>AR (vBsl 1 [(iV 0),(iV 0),(iV 0)] [(0,3,m)]) h0 n0 fun n o p=>EK (orR (zH 3 o p y12 n)) fun q r t=>p≤t∧bF .add 3 y13 (iV 1) fun u=>N [y6,y7,y8,y9,y10,y11,q,u] r t) (bF .add 3 y13 (iV 1) fun v=>N [y6,y7,y8,y9,y10,y11,y12,v] h0 n0)
def zM6 (s:Bool) (a6 a7 a8 a9 a10 a11 a12 a13:Value) (h:Hp) (nx:Nat) (N:KVl) (e0:KVl) (R:KVl):Prop:=nF a11 fun a=>bF .lss 3 a13 a fun b=>IF b (xF 3 a11 a13 fun c=>aF 0 c fun d=>lF h d fun e=>bF .geq 3 e a7 fun f=>IF f (xF 3 a11 a13 fun g=>aF 0 g fun i=>lF h i fun j=>bF .lss 3 j a9 fun k=>IF k (xF 3 a11 a13 fun l=>aF 1 l fun m=>lF h m fun n=>bF .geq 3 n a8 fun o=>IF o (xF 3 a11 a13 fun p=>aF 1 p fun q=>lF h q fun r=>bF .lss 3 r a10 fun t=>(zC0 s N e0 R a6 a7 a8 a9 a10 a11 a12 a13 t h nx)) ((zC0 s N e0 R a6 a7 a8 a9 a10 a11 a12 a13 (.bool false) h nx))) ((zC0 s N e0 R a6 a7 a8 a9 a10 a11 a12 a13 (.bool false) h nx))) ((zC0 s N e0 R a6 a7 a8 a9 a10 a11 a12 a13 (.bool false) h nx))) (e0 [a6,a7,a8,a9,a10,a11,a12,a13] h nx)
def zEO (s:Bool) (K:KC') (y6 y12 y14 y15 y116:Value) (h0:Hp) (n0:Nat):Prop:=IF y116 (cF s 245 [y14,y15,nS] h0 n0 fun a b c=>RK (vSt b 5 y6 a) fun d=>lA 5 d y6 fun e=>K e d c) (cF s 245 [y14,y15,y12] h0 n0 fun f g i=>RK (vSt g 5 y6 f) fun j=>lA 5 j y6 fun k=>K k j i)
def zFh (s:Bool) (K:KC') (y6 y12 y14 y15:Value) (h0:Hp) (n0:Nat):Prop:=bF .eql 3 y14 (iV 0) fun a=>IF a ((zEO s K y6 y12 y14 y15 (.bool true) h0 n0)) (bF .eql 3 y15 (iV 0) fun b=>(zEO s K y6 y12 y14 y15 b h0 n0))
def zFg (s:Bool) (K:KC') (y6 y8 y10 y12 y14:Value) (h0:Hp) (n0:Nat):Prop:=bF .gtr 3 y10 y8 fun a=>IF a (bF .sub 3 y10 y8 fun b=>(zFh s K y6 y12 y14 b h0 n0)) ((zFh s K y6 y12 y14 (iV 0) h0 n0))
def r07cut (s:Bool) (t0 t1 t2:Value) (h:Hp) (nx:Nat) (K:KC'):Prop:=pC t0 h nx fun a b c=>pC t1 b c fun d e f=>pC t2 e f fun g i j=>nC [(iV 0),(iV 0),nS,nS,nS] i j fun k l m=>lA 5 l a fun n=>cF s 246 [n] l m fun o p q=>RK (vSt p 5 a o) fun r=>RK (vIx (.array 2 1) d (iV 0)) fun t=>lF r t fun u=>RK (min2 false u (iV 0)) fun v=>RK (vIx (.array 2 1) g (iV 0)) fun w=>lF r w fun x=>RK (min2 false x (iV 0)) fun y=>RK (vIx (.array 2 1) d (iV 1)) fun z=>lF r z fun aa=>aF 0 a fun ab=>lF r ab fun ac=>RK (min2 true aa ac) fun ad=>RK (vIx (.array 2 1) g (iV 1)) fun ae=>lF r ae fun af=>aF 1 a fun ag=>lF r ag fun ah=>RK (min2 true af ah) fun ai=>lA 5 r a fun aj=>cF s 247 [aj] r q fun ak al am=>Lp (fL Q O s zKm 154 0) [k,v,y,ad,ai,ak,nS,(iV 0)] al am [(0,fun an ao ap=>bF .gtr 3 (nv an 3) (nv an 1) fun aq=>IF aq (bF .sub 3 (nv an 3) (nv an 1) fun ar=>(zFg s K (nv an 0) (nv an 2) (nv an 4) (nv an 6) ar ao ap)) ((zFg s K (nv an 0) (nv an 2) (nv an 4) (nv an 6) (iV 0) ao ap)))] (fun _ _ _=>False)
theorem r07cutb0 {s:Bool} {a6 a7 a8 a9 a10 a11 a12 a13:Value} {h:Hp} {nx:Nat} {N e0 R:KVl}:fL Q O s zKm 154 0 [a6,a7,a8,a9,a10,a11,a12,a13] h nx N [(0,e0)] R=zM6 s a6 a7 a8 a9 a10 a11 a12 a13 h nx N e0 R:=by kernel_rfl
theorem r07cutv {s:Bool} {t0 t1 t2:Value} {h:Hp} {nx:Nat} {K:KC'} (w:r07cut s t0 t1 t2 h nx K):Cv Q O s 154 [t0,t1,t2] h nx K:=Cv.byE zKm rfl w (by kernel_rfl)
def zQY:List (List Nat):=[[0,1,5,6]]
def zIP (s:Bool) (N:KVl) (e0:KVl) (R:KVl) (y0 y1 y5 y6 y34:Value) (h0:Hp) (n0:Nat):Prop:=IF y34 (xF 1 y1 y6 fun a=>lF h0 a fun b=>cF s 249 [y5,b] h0 n0 fun c d e=>bF .add 3 y6 (iV 1) fun f=>N [y0,y1,c,f] d e) (bF .add 3 y6 (iV 1) fun g=>N [y0,y1,y5,g] h0 n0)
def zQX (s:Bool) (a0 a1 a5 a6:Value) (h:Hp) (nx:Nat) (N:KVl) (e0:KVl) (R:KVl):Prop:=nF a1 fun a=>bF .lss 3 a6 a fun b=>IF b (xF 1 a1 a6 fun c=>lF h c fun d=>bF .geq 3 d (iV 0) fun e=>IF e (xF 1 a1 a6 fun f=>lF h f fun g=>bF .lss 3 g a0 fun i=>IF i (xF 1 a1 a6 fun j=>lF h j fun k=>bF .lss 3 k (iV 4096) fun l=>(zIP s N e0 R a0 a1 a5 a6 l h nx)) ((zIP s N e0 R a0 a1 a5 a6 (.bool false) h nx))) ((zIP s N e0 R a0 a1 a5 a6 (.bool false) h nx))) (e0 [a0,a1,a5,a6] h nx)
def r03of (s:Bool) (t0 t1:Value) (h:Hp) (nx:Nat) (K:KC'):Prop:=cF s 248 [t0] h nx fun a b c=>Lp (fL Q O s zQY 157 0) [t0,t1,a,(iV 0)] b c [(0,fun d e f=>K (nv d 2) e f)] (fun _ _ _=>False)
theorem r03ofb0 {s:Bool} {a0 a1 a5 a6:Value} {h:Hp} {nx:Nat} {N e0 R:KVl}:fL Q O s zQY 157 0 [a0,a1,a5,a6] h nx N [(0,e0)] R=zQX s a0 a1 a5 a6 h nx N e0 R:=by kernel_rfl
theorem r03ofv {s:Bool} {t0 t1:Value} {h:Hp} {nx:Nat} {K:KC'} (w:r03of s t0 t1 h nx K):Cv Q O s 157 [t0,t1] h nx K:=Cv.byE zQY rfl w (by kernel_rfl)
def r17mayL:List (List Nat):=[]
def r17may (s:Bool) (t0 t1:Value) (h:Hp) (nx:Nat) (K:KC'):Prop:=bF .geq 3 t0 (iV 0) fun a=>IF a (bF .leq 3 t0 (iV 4096) fun b=>IF b (bF .geq 3 t1 (iV 1) fun c=>IF c (bF .leq 3 t1 (iV 8) fun d=>K d h nx) (K (.bool false) h nx)) (K (.bool false) h nx)) (K (.bool false) h nx)
theorem r17mayv {s:Bool} {t0 t1:Value} {h:Hp} {nx:Nat} {K:KC'} (w:r17may s t0 t1 h nx K):Cv Q O s 158 [t0,t1] h nx K:=Cv.byE r17mayL rfl w (by kernel_rfl)
def zPv:List (List Nat):=[[3,4,7,8]]
def zDe (s:Bool) (N:KVl) (e0:KVl) (R:KVl) (y3 y4 y7 y8 y51:Value) (h0:Hp) (n0:Nat):Prop:=IF y51 (bF .add 3 y7 (iV 1) fun a=>bF .add 3 y8 (iV 1) fun b=>N [y3,y4,a,b] h0 n0) (bF .add 3 y8 (iV 1) fun c=>N [y3,y4,y7,c] h0 n0)
def zPu (s:Bool) (a3 a4 a7 a8:Value) (h:Hp) (nx:Nat) (N:KVl) (e0:KVl) (R:KVl):Prop:=aF 1 a4 fun a=>lF h a fun b=>aF 0 a4 fun c=>lF h c fun d=>bF .sub 3 b d fun e=>bF .lss 3 a8 e fun f=>IF f (aF 0 a3 fun g=>lF h g fun i=>bF .eql 22 i (iV 5) fun j=>IF j (aF 2 a4 fun k=>lF h k fun l=>xF 1 l a8 fun m=>lF h m fun n=>bF .eql 2 n (iV 0) fun o=>IF o ((zDe s N e0 R a3 a4 a7 a8 (.bool true) h nx)) (aF 0 a3 fun p=>lF h p fun q=>bF .neq 22 q (iV 5) fun r=>IF r (aF 4 a4 fun t=>lF h t fun u=>cF s 251 [u,a8] h nx fun v w x=>(zDe s N e0 R a3 a4 a7 a8 v w x)) ((zDe s N e0 R a3 a4 a7 a8 (.bool false) h nx)))) (aF 0 a3 fun y=>lF h y fun z=>bF .neq 22 z (iV 5) fun aa=>IF aa (aF 4 a4 fun ab=>lF h ab fun ac=>cF s 251 [ac,a8] h nx fun ad ae af=>(zDe s N e0 R a3 a4 a7 a8 ad ae af)) ((zDe s N e0 R a3 a4 a7 a8 (.bool false) h nx)))) (e0 [a3,a4,a7,a8] h nx)
def zGH (s:Bool) (K:KC') (y3 y4 y20:Value) (h0:Hp) (n0:Nat):Prop:=IF y20 (K (iV 0) h0 n0) (Lp (fL Q O s zPv 159 0) [y3,y4,(iV 0),(iV 0)] h0 n0 [(0,fun a b c=>K (nv a 2) b c)] (fun _ _ _=>False))
def rlive (s:Bool) (t0 t1 t2:Value) (h:Hp) (nx:Nat) (K:KC'):Prop:=pC t0 h nx fun a b c=>pC t1 b c fun d e f=>lA 5 e a fun g=>lA 5 e d fun i=>cF s 250 [g,i] e f fun j k l=>RK (vSt k 5 d j) fun m=>aF 0 a fun n=>lF m n fun o=>bF .eql 22 o (iV 4) fun p=>IF p (aF 3 a fun q=>lF m q fun r=>bF .geq 3 t2 r fun t=>(zGH s K a d t m l)) ((zGH s K a d (.bool false) m l))
theorem rliveb0 {s:Bool} {a3 a4 a7 a8:Value} {h:Hp} {nx:Nat} {N e0 R:KVl}:fL Q O s zPv 159 0 [a3,a4,a7,a8] h nx N [(0,e0)] R=zPu s a3 a4 a7 a8 h nx N e0 R:=by kernel_rfl
theorem rlivev {s:Bool} {t0 t1 t2:Value} {h:Hp} {nx:Nat} {K:KC'} (w:rlive s t0 t1 t2 h nx K):Cv Q O s 159 [t0,t1,t2] h nx K:=Cv.byE zPv rfl w (by kernel_rfl)
def rwsendL:List (List Nat):=[]
def rwsend (s:Bool) (t0 t1:Value) (h:Hp) (nx:Nat) (K:KC'):Prop:=pC t1 h nx fun a b c=>RK (zf t0) fun d=>aF 12 d fun e=>lF b e fun f=>RK (zf t0) fun g=>aF 13 g fun i=>lF b i fun j=>dF 252 [t0,f,j] b c fun k l m=>aF 1 a fun n=>RK (vSt l 1 n k) fun o=>RK (zf t0) fun p=>aF 19 p fun q=>lF o q fun r=>lA 11 o a fun t=>AR (vBsl 1 [(iV 0),(iV 0),(iV 0),(iV 0),(iV 0),(iV 0),nS,nS,nS,(iV 0),(.bool false)] [(0,11,t)]) o m fun u v w=>EK (orR (zH 11 v w r u)) fun x y z=>w≤z∧RK (zf t0) fun aa=>aF 19 aa fun ab=>RK (vSt y 1 ab x) fun ac=>K (.tuple ⟨[]⟩) ac z
theorem rwsendv {s:Bool} {t0 t1:Value} {h:Hp} {nx:Nat} {K:KC'} (w:rwsend s t0 t1 h nx K):Cv Q O s 160 [t0,t1] h nx K:=Cv.byE rwsendL rfl w (by kernel_rfl)
def ptsideL:List (List Nat):=[]
def zQ3 (s:Bool) (t0:Value) (h:Hp) (nx:Nat) (K:KC'):Prop:=bF .gtr 3 t0 (iV 0) fun a=>IF a (bF .leq 3 t0 (iV 8) fun b=>K b h nx) (K (.bool false) h nx)
theorem zQ1 {s:Bool} {t0:Value} {h:Hp} {nx:Nat} {K:KC'} (w:zQ3 s t0 h nx K):Cv Q O s 208 [t0] h nx K:=Cv.byE ptsideL rfl w (by kernel_rfl)
def ptplaceL:List (List Nat):=[]
def zCI (s:Bool) (K:KC') (y0 y1 y2 y26:Value) (h0:Hp) (n0:Nat):Prop:=IF y26 (K (iV (-1)) h0 n0) (bF .mul 3 y1 y0 fun a=>bF .add 3 a y2 fun b=>K b h0 n0)
def zQ5 (s:Bool) (t0 t1 t2:Value) (h:Hp) (nx:Nat) (K:KC'):Prop:=cF s 208 [t0] h nx fun a b c=>RK (oUn .not a) fun d=>IF d ((zCI s K t0 t1 t2 (.bool true) b c)) (bF .lss 3 t1 (iV 0) fun e=>IF e ((zCI s K t0 t1 t2 (.bool true) b c)) (bF .geq 3 t1 (iV 8) fun f=>IF f ((zCI s K t0 t1 t2 (.bool true) b c)) (bF .lss 3 t2 (iV 0) fun g=>IF g ((zCI s K t0 t1 t2 (.bool true) b c)) (bF .geq 3 t2 t0 fun i=>(zCI s K t0 t1 t2 i b c)))))
theorem ptplacev {s:Bool} {t0 t1 t2:Value} {h:Hp} {nx:Nat} {K:KC'} (w:zQ5 s t0 t1 t2 h nx K):Cv Q O s 221 [t0,t1,t2] h nx K:=Cv.byE ptplaceL rfl w (by kernel_rfl)
def zRn:List (List Nat):=[]
def zNJ (s:Bool) (t0 t1:Value) (h:Hp) (nx:Nat) (K:KC'):Prop:=bF .geq 3 t0 (iV 0) fun a=>IF a (bF .leq 3 t0 t1 fun b=>K b h nx) (K (.bool false) h nx)
theorem zRm {s:Bool} {t0 t1:Value} {h:Hp} {nx:Nat} {K:KC'} (w:zNJ s t0 t1 h nx K):Cv Q O s 232 [t0,t1] h nx K:=Cv.byE zRn rfl w (by kernel_rfl)
def zG5:List (List Nat):=[[0,2,3]]
def zHc (s:Bool) (a0 a2 a3:Value) (h:Hp) (nx:Nat) (N:KVl) (e0:KVl) (R:KVl):Prop:=bF .gtr 3 a3 (iV 0) fun a=>IF a (xF 1 a0 a3 fun b=>lF h b fun c=>bF .sub 3 a3 (iV 1) fun d=>xF 1 a0 d fun e=>lF h e fun f=>dF 311 [c,f] h nx fun g i j=>IF g (R [a0,(.bool false),a3] i j) (bF .sub 3 a3 (iV 1) fun k=>N [a0,a2,k] i j)) (e0 [a0,a2,a3] h nx)
def zMr (s:Bool) (t0:Value) (h:Hp) (nx:Nat) (K:KC'):Prop:=nF t0 fun a=>bF .sub 3 a (iV 1) fun b=>Lp (fL Q O s zG5 233 0) [t0,(.bool false),b] h nx [(0,fun c d e=>K (.bool true) d e)] (fun f g i=>K (nv f 1) g i)
theorem zON {s:Bool} {a0 a2 a3:Value} {h:Hp} {nx:Nat} {N e0 R:KVl}:fL Q O s zG5 233 0 [a0,a2,a3] h nx N [(0,e0)] R=zHc s a0 a2 a3 h nx N e0 R:=by kernel_rfl
theorem zRL {s:Bool} {t0:Value} {h:Hp} {nx:Nat} {K:KC'} (w:zMr s t0 h nx K):Cv Q O s 233 [t0] h nx K:=Cv.byE zG5 rfl w (by kernel_rfl)
def zRp:List (List Nat):=[[0,1,4,7,8,9]]
def zRo (s:Bool) (a0 a1 a4 a7 a8 a9:Value) (h:Hp) (nx:Nat) (N:KVl) (e0:KVl) (R:KVl):Prop:=bF .lss 3 a9 a8 fun a=>IF a (xF 1 a7 a9 fun b=>lF h b fun c=>bF .sub 3 a1 (iV 1) fun d=>cF s 232 [c,d] h nx fun e f g=>RK (oUn .not e) fun i=>IF i (R [a0,a1,(.bool false),a7,a8,a9] f g) (bF .gtr 3 a9 (iV 0) fun j=>IF j (bF .sub 3 a9 (iV 1) fun k=>xF 1 a0 k fun l=>lF f l fun m=>bF .geq 3 m c fun n=>IF n (R [a0,a1,(.bool false),a7,a8,a9] f g) (bF .add 3 a9 (iV 1) fun o=>N [a0,a1,a4,a7,a8,o] f g)) (bF .add 3 a9 (iV 1) fun p=>N [a0,a1,a4,a7,a8,p] f g))) (e0 [a0,a1,a4,a7,a8,a9] h nx)
def csrow (s:Bool) (t0 t1:Value) (h:Hp) (nx:Nat) (K:KC'):Prop:=nF t0 fun a=>Lp (fL Q O s zRp 234 0) [t0,t1,(.bool false),t0,a,(iV 0)] h nx [(0,fun b c d=>K (.bool true) c d)] (fun e f g=>K (nv e 2) f g)
theorem csrowb0 {s:Bool} {a0 a1 a4 a7 a8 a9:Value} {h:Hp} {nx:Nat} {N e0 R:KVl}:fL Q O s zRp 234 0 [a0,a1,a4,a7,a8,a9] h nx N [(0,e0)] R=zRo s a0 a1 a4 a7 a8 a9 h nx N e0 R:=by kernel_rfl
theorem csrowv {s:Bool} {t0 t1:Value} {h:Hp} {nx:Nat} {K:KC'} (w:csrow s t0 t1 h nx K):Cv Q O s 234 [t0,t1] h nx K:=Cv.byE zRp rfl w (by kernel_rfl)
def bsideL:List (List Nat):=[]
def bside (s:Bool) (t0:Value) (h:Hp) (nx:Nat) (K:KC'):Prop:=bF .geq 3 t0 (iV 1) fun a=>IF a (bF .leq 3 t0 (iV 8) fun b=>K b h nx) (K (.bool false) h nx)
theorem bsidev {s:Bool} {t0:Value} {h:Hp} {nx:Nat} {K:KC'} (w:bside s t0 h nx K):Cv Q O s 235 [t0] h nx K:=Cv.byE bsideL rfl w (by kernel_rfl)
def cssureL:List (List Nat):=[]
def cssure (s:Bool) (t0:Value) (h:Hp) (nx:Nat) (K:KC'):Prop:=pC t0 h nx fun a b c=>nC [(iV 0),(iV 0),nS,nS,nS] b c fun d e f=>lA 5 e a fun g=>cF s 133 [g] e f fun i j k=>IF i (lA 5 j a fun l=>RK (vSt j 5 d l) fun m=>lA 5 m d fun n=>K n m k) (cF s 310 [(iV 0),(iV 0)] j k fun o p q=>RK (vSt p 5 d o) fun r=>lA 5 r d fun t=>K t r q)
theorem cssurev {s:Bool} {t0:Value} {h:Hp} {nx:Nat} {K:KC'} (w:cssure s t0 h nx K):Cv Q O s 236 [t0] h nx K:=Cv.byE cssureL rfl w (by kernel_rfl)
def zRw:List (List Nat):=[]
def zNM (s:Bool) (t0 t1:Value) (h:Hp) (nx:Nat) (K:KC'):Prop:=pC t0 h nx fun a b c=>RK (vIx (.array 2 1) a (iV 0)) fun d=>lF b d fun e=>RK (min2 false e (iV 0)) fun f=>RK (vIx (.array 2 1) a (iV 1)) fun g=>lF b g fun i=>RK (min2 true i t1) fun j=>bF .leq 3 j f fun k=>IF k (K (.tuple ⟨[f,(iV 0)]⟩) b c) (bF .sub 3 j f fun l=>K (.tuple ⟨[f,l]⟩) b c)
theorem zRv {s:Bool} {t0 t1:Value} {h:Hp} {nx:Nat} {K:KC'} (w:zNM s t0 t1 h nx K):Cv Q O s 237 [t0,t1] h nx K:=Cv.byE zRw rfl w (by kernel_rfl)
def zRy:List (List Nat):=[[5,7,24,25,26]]
def zRx (s:Bool) (a5 a7 a24 a25 a26:Value) (h:Hp) (nx:Nat) (N:KVl) (e0:KVl) (R:KVl):Prop:=bF .lss 3 a26 a25 fun a=>IF a (xF 1 a24 a26 fun b=>lF h b fun c=>xF 1 a7 a26 fun d=>lF h d fun e=>RK (vBld [(iV 0),(iV 0)] [(0,1,c),(1,1,e)]) fun f=>AR (vBsl 1 [(iV 0),(iV 0)] [(0,2,f)]) h nx fun g i j=>EK (orR (zH 2 i j a5 g)) fun k l m=>bF .add 3 a26 (iV 1) fun n=>N [k,a7,a24,a25,n] l m) (e0 [a5,a7,a24,a25,a26] h nx)
def csRow (s:Bool) (t0 t1:Value) (h:Hp) (nx:Nat) (K:KC'):Prop:=pC t0 h nx fun a b c=>lA 5 b a fun d=>cF s 236 [d] b c fun e f g=>RK (vSt f 5 a e) fun i=>aF 0 a fun j=>lF i j fun k=>bF .sub 3 k (iV 1) fun l=>cF s 232 [t1,l] i g fun m n o=>RK (oUn .not m) fun p=>IF p (K nS n o) (lA 5 n a fun q=>cF s 239 [q,t1] n o fun r t u=>RK (zJ r 0) fun v=>RK (zJ r 1) fun w=>nF v fun x=>Lp (fL Q O s zRy 238 0) [nS,w,v,x,(iV 0)] t u [(0,fun y z aa=>K (nv y 0) z aa)] (fun _ _ _=>False))
theorem csRowb0 {s:Bool} {a5 a7 a24 a25 a26:Value} {h:Hp} {nx:Nat} {N e0 R:KVl}:fL Q O s zRy 238 0 [a5,a7,a24,a25,a26] h nx N [(0,e0)] R=zRx s a5 a7 a24 a25 a26 h nx N e0 R:=by kernel_rfl
theorem csRowv {s:Bool} {t0 t1:Value} {h:Hp} {nx:Nat} {K:KC'} (w:csRow s t0 t1 h nx K):Cv Q O s 238 [t0,t1] h nx K:=Cv.byE zRy rfl w (by kernel_rfl)
def cspartL:List (List Nat):=[]
def cspart (s:Bool) (t0 t1:Value) (h:Hp) (nx:Nat) (K:KC'):Prop:=pC t0 h nx fun a b c=>aF 2 a fun d=>lF b d fun e=>xF 1 e t1 fun f=>lF b f fun g=>aF 2 a fun i=>lF b i fun j=>bF .add 3 t1 (iV 1) fun k=>xF 1 j k fun l=>lF b l fun m=>aF 3 a fun n=>lF b n fun o=>RK (vSl 1 o (some g) (some m) (some m)) fun p=>aF 4 a fun q=>lF b q fun r=>RK (vSl 1 r (some g) (some m) (some m)) fun t=>K (.tuple ⟨[p,t]⟩) b c
theorem cspartv {s:Bool} {t0 t1:Value} {h:Hp} {nx:Nat} {K:KC'} (w:cspart s t0 t1 h nx K):Cv Q O s 239 [t0,t1] h nx K:=Cv.byE cspartL rfl w (by kernel_rfl)
def psureL:List (List Nat):=[]
def psure (s:Bool) (t0 t1:Value) (h:Hp) (nx:Nat) (K:KC'):Prop:=pC t0 h nx fun a b c=>pC t1 b c fun d e f=>nC [(iV 0),(iV 0),nS,nS,nS] e f fun g i j=>lA 5 i a fun k=>lA 5 i d fun l=>cF s 316 [k,l] i j fun m n o=>IF m (lA 5 n d fun p=>RK (vSt n 5 g p) fun q=>lA 5 q g fun r=>K r q o) (RK (vBld [(iV 0),(iV 0),nS,nS,nS] []) fun t=>RK (vSt n 5 g t) fun u=>lA 5 u g fun v=>K v u o)
theorem psurev {s:Bool} {t0 t1:Value} {h:Hp} {nx:Nat} {K:KC'} (w:psure s t0 t1 h nx K):Cv Q O s 242 [t0,t1] h nx K:=Cv.byE psureL rfl w (by kernel_rfl)
def r07sureL:List (List Nat):=[]
def zQR (s:Bool) (t0:Value) (h:Hp) (nx:Nat) (K:KC'):Prop:=pC t0 h nx fun a b c=>nC [(iV 0),(iV 0),nS,nS,nS] b c fun d e f=>lA 5 e a fun g=>cF s 151 [g] e f fun i j k=>IF i (lA 5 j a fun l=>RK (vSt j 5 d l) fun m=>lA 5 m d fun n=>K n m k) (cF s 153 [(iV 0),(iV 0)] j k fun o p q=>RK (vSt p 5 d o) fun r=>lA 5 r d fun t=>K t r q)
theorem r07surev {s:Bool} {t0:Value} {h:Hp} {nx:Nat} {K:KC'} (w:zQR s t0 h nx K):Cv Q O s 246 [t0] h nx K:=Cv.byE r07sureL rfl w (by kernel_rfl)
def zB1:List (List Nat):=[[1,3,4],[1,3,4,5]]
def zFM (s:Bool) (a1 a3 a4 a5:Value) (h:Hp) (nx:Nat) (N:KVl) (e2:KVl) (R:KVl):Prop:=aF 2 a1 fun a=>lF h a fun b=>bF .add 3 a4 (iV 1) fun c=>xF 1 b c fun d=>lF h d fun e=>bF .lss 3 a5 e fun f=>IF f (aF 3 a1 fun g=>lF h g fun i=>xF 1 i a5 fun j=>lF h j fun k=>aF 4 a1 fun l=>lF h l fun m=>xF 1 m a5 fun n=>lF h n fun o=>RK (vBld [(iV 0),(iV 0),(iV 0)] [(0,1,a4),(1,1,k),(2,1,o)]) fun p=>AR (vBsl 1 [(iV 0),(iV 0),(iV 0)] [(0,3,p)]) h nx fun q r t=>EK (orR (zH 3 r t a3 q)) fun u v w=>t≤w∧bF .add 3 a5 (iV 1) fun x=>N [a1,u,a4,x] v w) (e2 [a1,a3,a4,a5] h nx)
def zFN (s:Bool) (a1 a3 a4:Value) (h:Hp) (nx:Nat) (N:KVl) (e0:KVl) (R:KVl):Prop:=aF 0 a1 fun a=>lF h a fun b=>bF .lss 3 a4 b fun c=>IF c (aF 2 a1 fun d=>lF h d fun e=>xF 1 e a4 fun f=>lF h f fun g=>Lp (fL Q O s zB1 247 1) [a1,a3,a4,g] h nx [(2,fun i j k=>bF .add 3 (nv i 2) (iV 1) fun l=>N [(nv i 0),(nv i 1),l] j k)] (fun _ _ _=>False)) (e0 [a1,a3,a4] h nx)
def zH0 (s:Bool) (t0:Value) (h:Hp) (nx:Nat) (K:KC'):Prop:=pC t0 h nx fun a b c=>lA 5 b a fun d=>cF s 246 [d] b c fun e f g=>RK (vSt f 5 a e) fun i=>Lp (fL Q O s zB1 247 0) [a,nS,(iV 0)] i g [(0,fun j k l=>K (nv j 1) k l)] (fun _ _ _=>False)
theorem zJT {s:Bool} {a1 a3 a4 a5:Value} {h:Hp} {nx:Nat} {N e2 R:KVl}:fL Q O s zB1 247 1 [a1,a3,a4,a5] h nx N [(2,e2)] R=zFM s a1 a3 a4 a5 h nx N e2 R:=by kernel_rfl
theorem zJU {s:Bool} {a1 a3 a4:Value} {h:Hp} {nx:Nat} {N e0 R:KVl}:fL Q O s zB1 247 0 [a1,a3,a4] h nx N [(0,e0)] R=zFN s a1 a3 a4 h nx N e0 R:=by kernel_rfl
theorem zKl {s:Bool} {t0:Value} {h:Hp} {nx:Nat} {K:KC'} (w:zH0 s t0 h nx K):Cv Q O s 247 [t0] h nx K:=Cv.byE zB1 rfl w (by kernel_rfl)
def r03newL:List (List Nat):=[]
def r03new (s:Bool) (t0:Value) (h:Hp) (nx:Nat) (K:KC'):Prop:=cF s 318 [t0] h nx fun a b c=>AR (vMks [(.int .u64 0)] a a) b c fun d e f=>K d e f
theorem r03newv {s:Bool} {t0:Value} {h:Hp} {nx:Nat} {K:KC'} (w:r03new s t0 h nx K):Cv Q O s 248 [t0] h nx K:=Cv.byE r03newL rfl w (by kernel_rfl)
def r03putL:List (List Nat):=[]
def r03put (s:Bool) (t0 t1:Value) (h:Hp) (nx:Nat) (K:KC'):Prop:=cF s 319 [t0,t1,(.bool true)] h nx fun a b c=>K a b c
theorem r03putv {s:Bool} {t0 t1:Value} {h:Hp} {nx:Nat} {K:KC'} (w:r03put s t0 t1 h nx K):Cv Q O s 249 [t0,t1] h nx K:=Cv.byE r03putL rfl w (by kernel_rfl)
def rsureL:List (List Nat):=[]
def zCj (s:Bool) (K:KC') (y3 y4 y59:Value) (h0:Hp) (n0:Nat):Prop:=IF y59 (cF s 155 [] h0 n0 fun a b c=>RK (vSt b 5 y4 a) fun d=>lA 5 d y4 fun e=>K e d c) (lA 5 h0 y3 fun f=>RK (vSt h0 5 y4 f) fun g=>lA 5 g y4 fun i=>K i g n0)
def rsure (s:Bool) (t0 t1:Value) (h:Hp) (nx:Nat) (K:KC'):Prop:=pC t0 h nx fun a b c=>pC t1 b c fun d e f=>nC [(iV 0),(iV 0),nS,nS,nS] e f fun g i j=>lA 5 i a fun k=>cF s 146 [k] i j fun l m n=>bF .neq 34 l (iV 0) fun o=>IF o ((zCj s K d g (.bool true) m n)) (aF 0 d fun p=>lF m p fun q=>bF .lss 3 q (iV 0) fun r=>IF r ((zCj s K d g (.bool true) m n)) (aF 1 d fun t=>lF m t fun u=>aF 0 d fun v=>lF m v fun w=>bF .lss 3 u w fun x=>IF x ((zCj s K d g (.bool true) m n)) (aF 1 d fun y=>lF m y fun z=>aF 1 a fun aa=>lF m aa fun ab=>bF .gtr 3 z ab fun ac=>IF ac ((zCj s K d g (.bool true) m n)) (aF 2 d fun ad=>lF m ad fun ae=>nF ae fun af=>aF 1 d fun ag=>lF m ag fun ah=>aF 0 d fun ai=>lF m ai fun aj=>bF .sub 3 ah aj fun ak=>bF .neq 3 af ak fun al=>IF al ((zCj s K d g (.bool true) m n)) (aF 3 d fun am=>lF m am fun an=>nF an fun ao=>aF 1 d fun ap=>lF m ap fun aq=>aF 0 d fun ar=>lF m ar fun au=>bF .sub 3 aq au fun av=>bF .neq 3 ao av fun aw=>IF aw ((zCj s K d g (.bool true) m n)) (aF 4 d fun ax=>lF m ax fun ay=>aF 1 d fun az=>lF m az fun ba=>aF 0 d fun bb=>lF m bb fun bc=>bF .sub 3 ba bc fun bd=>cF s 320 [ay,bd] m n fun be bf bg=>RK (oUn .not be) fun bh=>(zCj s K d g bh bf bg)))))))
theorem rsurev {s:Bool} {t0 t1:Value} {h:Hp} {nx:Nat} {K:KC'} (w:rsure s t0 t1 h nx K):Cv Q O s 250 [t0,t1] h nx K:=Cv.byE rsureL rfl w (by kernel_rfl)
def r03hasL:List (List Nat):=[]
def r03has (s:Bool) (t0 t1:Value) (h:Hp) (nx:Nat) (K:KC'):Prop:=bF .geq 3 t1 (iV 0) fun a=>IF a (bF .quo 3 t1 (iV 64) fun b=>nF t0 fun c=>bF .lss 3 b c fun d=>IF d (bF .quo 3 t1 (iV 64) fun e=>xF 1 t0 e fun f=>lF h f fun g=>bF .rem 3 t1 (iV 64) fun i=>RK (zDZ (.int .u64) i) fun j=>bF .shr 221 g j fun k=>bF .and 221 k (.int .u64 1) fun l=>bF .eql 221 l (.int .u64 1) fun m=>K m h nx) (K (.bool false) h nx)) (K (.bool false) h nx)
theorem r03hasv {s:Bool} {t0 t1:Value} {h:Hp} {nx:Nat} {K:KC'} (w:r03has s t0 t1 h nx K):Cv Q O s 251 [t0,t1] h nx K:=Cv.byE r03hasL rfl w (by kernel_rfl)
def zPf:List (List Nat):=[]
def zMM (s:Bool) (t0 t1 t2:Value) (h:Hp) (nx:Nat) (K:KC'):Prop:=RK (zf t0) fun a=>aF 0 a fun b=>aF 8 b fun c=>lF h c fun d=>bF .mul 3 t1 d fun e=>bF .add 3 e t2 fun f=>K f h nx
theorem zPe {s:Bool} {t0 t1 t2:Value} {h:Hp} {nx:Nat} {K:KC'} (w:zMM s t0 t1 t2 h nx K):Cv Q O s 252 [t0,t1,t2] h nx K:=Cv.byE zPf rfl w (by kernel_rfl)
def wnumberL:List (List Nat):=[]
def zOo (s:Bool) (t0 t1 t2:Value) (h:Hp) (nx:Nat) (K:KC'):Prop:=RK (zf t0) fun a=>aF 7 a fun b=>aF 1 b fun c=>lF h c fun d=>cF s 221 [d,t1,t2] h nx fun e f g=>K e f g
theorem wnumberv {s:Bool} {t0 t1 t2:Value} {h:Hp} {nx:Nat} {K:KC'} (w:zOo s t0 t1 t2 h nx K):Cv Q O s 127 [t0,t1,t2] h nx K:=Cv.byE wnumberL rfl w (by kernel_rfl)
def pcanL:List (List Nat):=[]
def zJ0 (s:Bool) (K:KC') (y3 y27:Value) (h0:Hp) (n0:Nat):Prop:=IF y27 (K (.bool false) h0 n0) (aF 1 y3 fun a=>lF h0 a fun b=>aF 0 y3 fun c=>lF h0 c fun d=>bF .sub 3 b d fun e=>aF 2 y3 fun f=>lF h0 f fun g=>nF g fun i=>bF .eql 3 i e fun j=>IF j (aF 3 y3 fun k=>lF h0 k fun l=>nF l fun m=>bF .eql 3 m e fun n=>IF n (aF 4 y3 fun o=>lF h0 o fun p=>cF s 378 [p,e] h0 n0 fun q r t=>K q r t) (K (.bool false) h0 n0)) (K (.bool false) h0 n0))
def pcan (s:Bool) (t0 t1:Value) (h:Hp) (nx:Nat) (K:KC'):Prop:=pC t0 h nx fun a b c=>pC t1 b c fun d e f=>lA 5 e a fun g=>cF s 128 [g] e f fun i j k=>bF .neq 34 i (iV 0) fun l=>IF l ((zJ0 s K d (.bool true) j k)) (aF 0 d fun m=>lF j m fun n=>bF .lss 3 n (iV 0) fun o=>IF o ((zJ0 s K d (.bool true) j k)) (aF 1 d fun p=>lF j p fun q=>aF 0 d fun r=>lF j r fun t=>bF .lss 3 q t fun u=>IF u ((zJ0 s K d (.bool true) j k)) (aF 1 d fun v=>lF j v fun w=>aF 1 a fun x=>lF j x fun y=>bF .gtr 3 w y fun z=>(zJ0 s K d z j k))))
theorem pcanv {s:Bool} {t0 t1:Value} {h:Hp} {nx:Nat} {K:KC'} (w:pcan s t0 t1 h nx K):Cv Q O s 316 [t0,t1] h nx K:=Cv.byE pcanL rfl w (by kernel_rfl)
def zQU:List (List Nat):=[]
def zM7 (s:Bool) (t0:Value) (h:Hp) (nx:Nat) (K:KC'):Prop:=bF .gtr 3 t0 (iV 4096) fun a=>IF a (bF .lss 3 (iV 4096) (iV 1) fun b=>IF b (K (iV 0) h nx) (bF .add 3 (iV 4096) (iV 63) fun c=>bF .quo 3 c (iV 64) fun d=>K d h nx)) (bF .lss 3 t0 (iV 1) fun e=>IF e (K (iV 0) h nx) (bF .add 3 t0 (iV 63) fun f=>bF .quo 3 f (iV 64) fun g=>K g h nx))
theorem zQT {s:Bool} {t0:Value} {h:Hp} {nx:Nat} {K:KC'} (w:zM7 s t0 h nx K):Cv Q O s 318 [t0] h nx K:=Cv.byE zQU rfl w (by kernel_rfl)
def r03setL:List (List Nat):=[]
def zIO (s:Bool) (K:KC') (y1 y2 y7 y20:Value) (h0:Hp) (n0:Nat):Prop:=IF y20 (K y7 h0 n0) (bF .rem 3 y1 (iV 64) fun a=>RK (zDZ (.int .u64) a) fun b=>bF .shl 221 (.int .u64 1) b fun c=>IF y2 (bF .quo 3 y1 (iV 64) fun d=>bF .quo 3 y1 (iV 64) fun e=>xF 1 y7 e fun f=>lF h0 f fun g=>bF .or 221 g c fun i=>xF 1 y7 d fun j=>RK (vSt h0 1 j i) fun k=>K y7 k n0) (bF .quo 3 y1 (iV 64) fun l=>bF .quo 3 y1 (iV 64) fun m=>xF 1 y7 m fun n=>lF h0 n fun o=>bF .andNot 221 o c fun p=>xF 1 y7 l fun q=>RK (vSt h0 1 q p) fun r=>K y7 r n0))
def r03set (s:Bool) (t0 t1 t2:Value) (h:Hp) (nx:Nat) (K:KC'):Prop:=EK (orR (zH 1 h nx nS t0)) fun a b c=>bF .lss 3 t1 (iV 0) fun d=>IF d ((zIO s K t1 t2 a (.bool true) b c)) (bF .quo 3 t1 (iV 64) fun e=>nF t0 fun f=>bF .geq 3 e f fun g=>(zIO s K t1 t2 a g b c))
theorem r03setv {s:Bool} {t0 t1 t2:Value} {h:Hp} {nx:Nat} {K:KC'} (w:r03set s t0 t1 t2 h nx K):Cv Q O s 319 [t0,t1,t2] h nx K:=Cv.byE r03setL rfl w (by kernel_rfl)
def zQW:List (List Nat):=[]
def zDH (s:Bool) (K:KC') (y0 y1 y18:Value) (h0:Hp) (n0:Nat):Prop:=IF y18 (K (.bool false) h0 n0) (cF s 384 [y0] h0 n0 fun a b c=>nF a fun d=>bF .eql 3 d (iV 0) fun e=>IF e (K (.bool true) b c) (nF a fun f=>bF .sub 3 f (iV 1) fun g=>xF 1 a g fun i=>lF b i fun j=>bF .lss 3 j y1 fun k=>K k b c))
def zM8 (s:Bool) (t0 t1:Value) (h:Hp) (nx:Nat) (K:KC'):Prop:=bF .lss 3 t1 (iV 0) fun a=>IF a ((zDH s K t0 t1 (.bool true) h nx)) (bF .gtr 3 t1 (iV 4096) fun b=>IF b ((zDH s K t0 t1 (.bool true) h nx)) (nF t0 fun c=>cF s 318 [t1] h nx fun d e f=>bF .neq 3 c d fun g=>(zDH s K t0 t1 g e f)))
theorem zQV {s:Bool} {t0 t1:Value} {h:Hp} {nx:Nat} {K:KC'} (w:zM8 s t0 t1 h nx K):Cv Q O s 320 [t0,t1] h nx K:=Cv.byE zQW rfl w (by kernel_rfl)
def flrightL:List (List Nat):=[]
def zR3 (s:Bool) (t0 t1:Value) (h:Hp) (nx:Nat) (K:KC'):Prop:=bF .geq 3 t1 (iV 0) fun a=>IF a (bF .leq 3 t1 (iV 4096) fun b=>IF b (nF t0 fun c=>cF s 202 [t1] h nx fun d e f=>bF .eql 3 c d fun g=>IF g (cF s 426 [t0,t1] e f fun i j k=>bF .lss 3 i (iV 0) fun l=>K l j k) (K (.bool false) e f)) (K (.bool false) h nx)) (K (.bool false) h nx)
theorem flrightv {s:Bool} {t0 t1:Value} {h:Hp} {nx:Nat} {K:KC'} (w:zR3 s t0 t1 h nx K):Cv Q O s 378 [t0,t1] h nx K:=Cv.byE flrightL rfl w (by kernel_rfl)
def clonecL:List (List Nat):=[]
def clonec (s:Bool) (t0:Value) (h:Hp) (nx:Nat) (K:KC'):Prop:=bF .eql 29 t0 nS fun a=>IF a (K nS h nx) (AR (vBsl 0 [] []) h nx fun b c d=>EK (orR (zH 2 c d b t0)) fun e f g=>K e f g)
theorem clonecv {s:Bool} {t0:Value} {h:Hp} {nx:Nat} {K:KC'} (w:clonec s t0 h nx K):Cv Q O s 50 [t0] h nx K:=Cv.byE clonecL rfl w (by kernel_rfl)
def cmplessL:List (List Nat):=[]
def zSI (s:Bool) (t0 t1:Value) (h:Hp) (nx:Nat) (K:KC'):Prop:=cF s 367 [t0] h nx fun a b c=>IF a (cF s 367 [t1] b c fun d e f=>RK (oUn .not d) fun g=>IF g (K (.bool true) e f) (bF .lss 3 t0 t1 fun i=>K i e f)) (bF .lss 3 t0 t1 fun j=>K j b c)
theorem cmplessv {s:Bool} {t0 t1:Value} {h:Hp} {nx:Nat} {K:KC'} (w:zSI s t0 t1 h nx K):Cv Q O s 311 [t0,t1] h nx K:=Cv.byE cmplessL rfl w (by kernel_rfl)
def isnanL:List (List Nat):=[]
def isnan (s:Bool) (t0:Value) (h:Hp) (nx:Nat) (K:KC'):Prop:=bF .neq 3 t0 t0 fun a=>K a h nx
theorem isnanv {s:Bool} {t0:Value} {h:Hp} {nx:Nat} {K:KC'} (w:isnan s t0 h nx K):Cv Q O s 367 [t0] h nx K:=Cv.byE isnanL rfl w (by kernel_rfl)
def zKe:List (List Nat):=[[0,3,4]]
def zIK (s:Bool) (a0 a3 a4:Value) (h:Hp) (nx:Nat) (N:KVl) (e0:KVl) (R:KVl):Prop:=nF a0 fun a=>bF .mul 3 (iV 64) a fun b=>bF .lss 3 a4 b fun c=>IF c (cF s 251 [a0,a4] h nx fun d e f=>IF d (AR (vBsl 1 [(iV 0)] [(0,1,a4)]) e f fun g i j=>EK (orR (zH 1 i j a3 g)) fun k l m=>bF .add 3 a4 (iV 1) fun n=>N [a0,k,n] l m) (bF .add 3 a4 (iV 1) fun o=>N [a0,a3,o] e f)) (e0 [a0,a3,a4] h nx)
def rlist3 (s:Bool) (t0:Value) (h:Hp) (nx:Nat) (K:KC'):Prop:=Lp (fL Q O s zKe 384 0) [t0,nS,(iV 0)] h nx [(0,fun a b c=>K (nv a 1) b c)] (fun _ _ _=>False)
theorem zMT {s:Bool} {a0 a3 a4:Value} {h:Hp} {nx:Nat} {N e0 R:KVl}:fL Q O s zKe 384 0 [a0,a3,a4] h nx N [(0,e0)] R=zIK s a0 a3 a4 h nx N e0 R:=by kernel_rfl
theorem rlist3v {s:Bool} {t0:Value} {h:Hp} {nx:Nat} {K:KC'} (w:rlist3 s t0 h nx K):Cv Q O s 384 [t0] h nx K:=Cv.byE zKe rfl w (by kernel_rfl)
theorem rd3 {es:List Edg3} {i:Nat} {e:Edg3} (he:es[i]? = some e):zAL (some 3) (i*3) (flat enc3 es) = .ok (.agg ⟨[.int .i64 e.1,.int .i64 e.2.1,.int .i64 e.2.2]⟩):=by
 have hg:=zE2 (enc:=enc3) (k:=3) (fun _=>rfl) he;have hi:=(List.getElem?_eq_some_iff.1 he).1;rw [zDO,if_pos (by rw [zo (k:=3) (fun _=>rfl)]; omega),hg];rfl
theorem zBe {α:Type} {enc:α→List Value} {k:Nat} (hk:∀ x,(enc x).length=k) (hcell:∀ x,zV (enc x)=true) (hk0:0<k) {h:Hp} {nx lo:Nat} {v:Value} {l:List α} (hv:SlAt h v enc k l lo nx) (hlo:lo≤nx)
  {b2 o2 cap2:Nat} {sp2:Option Nat} {cs:List Value} {ro:Bool} (x:α) (h2:hget h b2=some (.cells cs ro)) (hx:(cs.drop o2).take k=enc x) (hsz:(l.length+1)*k≤1000000) {K:Value→Hp→Nat→Prop}
  (hK:∀ v' h',SlAt h' v' enc k (l++[x]) lo (nx+1)→(∀ b,b<lo→hget h' b=hget h b)→K v' h' (nx+1)):EK (orR (zH k h nx v (.slice (some ⟨b2,o2,sp2⟩) 1 cap2))) K:=by
 obtain ⟨v',h',e,a,b⟩:=app_cv hk hcell hk0 hv hlo h2 hx hsz;rw [e]; exact hK _ _ a b
def SlPx {α:Type} (h:Hp) (nx:Nat) (v:Value) (enc:α→List Value) (l:List α):Prop :=
 ∃ a cap,v = .slice a l.length cap∧(l≠[]→∃ b sp ro cs,b<nx∧a=some ⟨b,0,sp⟩∧hget h b=some (.cells (flat enc l++cs) ro))
section
variable {α:Type} {h h':Hp} {nx nx':Nat} {v:Value} {enc:α→List Value} {l:List α}
theorem SlPx.keep (hs:SlPx h nx v enc l) (hk:Keep nx h h') (hle:nx≤nx'):SlPx h' nx' v enc l:=by
 obtain ⟨a,cap,hv,hc⟩:=hs;refine ⟨a,cap,hv,fun hl=>?_⟩;obtain ⟨b,sp,ro,cs,hb,ha,hg⟩:=hc hl;exact ⟨b,sp,ro,cs,by omega,ha,by rw [hk b hb]; exact hg⟩
theorem SlPx.of (hs:SlRd h nx v enc l):SlPx h nx v enc l:=by
 obtain ⟨a,cap,hv,hc⟩:=hs;refine ⟨a,cap,hv,fun hl=>?_⟩;obtain ⟨b,sp,ro,hb,ha,hg⟩:=hc hl;exact ⟨b,sp,ro,[],hb,ha,by rw [List.append_nil]; exact hg⟩
theorem SlPx.at (hs:SlPx h nx v enc l) {i:Nat} {x:α} (hx:l[i]? = some x) :
  i<l.length∧∃ b sp ro cap cs,b<nx∧v = .slice (some ⟨b,0,sp⟩) l.length cap∧hget h b=some (.cells (flat enc l++cs) ro):=by
 have hi:=(List.getElem?_eq_some_iff.1 hx).1;obtain ⟨a,cap,hv,hc⟩:=hs;obtain ⟨b,sp,ro,cs,hb,rfl,hg⟩:=hc (fun e=>by rw [e] at hi; exact absurd hi (Nat.not_lt_zero _));exact ⟨hi,b,sp,ro,cap,cs,hb,hv,hg⟩
theorem rdP {k:Nat} (hk:∀ x,(enc x).length=k) {i:Nat} {e:α} (he:l[i]? = some e) {cs:List Value}:zAL (some k) (i*k) (flat enc l++cs) = .ok (.agg ⟨enc e⟩):=by
 have hg:=zE2 (enc:=enc) hk he;have hi:=(List.getElem?_eq_some_iff.1 he).1;have hl:=zo (enc:=enc) hk (l:=l);have hm:(i+1)*k≤l.length*k:=Nat.mul_le_mul_right k hi;rw [Nat.add_mul,Nat.one_mul] at hm;rw [zDO,if_pos (by rw [List.length_append,hl]; omega),List.drop_append_of_le_length (by rw [hl]; omega),List.take_append_of_le_length (by rw [List.length_drop,hl]; omega),hg]
theorem zIp {k j:Nat} (hk:∀ x,(enc x).length=k) {i:Nat} {e:α} (he:l[i]? = some e) (hj:j<k) {cs:List Value}:(flat enc l++cs)[i*k+j]? = (enc e)[j]?:=by
 have hi:=(List.getElem?_eq_some_iff.1 he).1;have hl:=zo (enc:=enc) hk (l:=l);have hm:(i+1)*k≤l.length*k:=Nat.mul_le_mul_right k hi;rw [Nat.add_mul,Nat.one_mul] at hm;rw [List.getElem?_append_left (by omega),zJs hk he hj]
end
def BadE (n:Int) (e:Edg3):Prop:=e.1<0∨n≤e.1∨e.2.1<0∨n≤e.2.1
def BadW (e:Edg3):Prop:=e.2.2<0∨2147483647<e.2.2
instance (n:Int) (e:Edg3):Decidable (BadE n e):=inferInstanceAs (Decidable (_∨_))
instance (e:Edg3):Decidable (BadW e):=inferInstanceAs (Decidable (_∨_))
def RightV (n:Int) (es:List Edg3):Prop:=0≤n∧n≤4096∧es.length≤65536∧(∀ e∈es,¬ BadE n e)∧∀ e∈es,¬ BadW e
def IdxJ {α:Type} (p:α→Bool) (es:List α) (J:Hp→Nat→Prop) (v fv:Value) (m:Nat) (vs:List Value) (h':Hp) (nx':Nat):Prop:=∃ i,m=es.length-i∧i≤es.length∧vs=[v,fv,.int .i64 0,.int .i64 (es.length:Int),.int .i64 (i:Int)]∧J h' nx'∧∀ x∈es.take i,p x=false
theorem index_c {α:Type} {enc:α→List Value} (hk3:∀ x,(enc x).length=3) {s:Bool} {v fv:Value} {es:List α} {h:Hp} {nx:Nat} (p:α→Bool) (J:Hp→Nat→Prop) (hJ:∀ h' nx',J h' nx'→SlPx h' nx' v enc es) (h0:J h nx) (hl:es.length≤65536)
  (hf:∀ g∈es,∀ h' nx' (K:KC'),J h' nx'→(∀ (b:Bool) h2 nx2,b=p g→J h2 nx2→K (.bool b) h2 nx2)→CVK Q O s (zBj h' nx' [.agg ⟨enc g⟩] fv) K) :
  Cv Q O s 275 [v,fv] h nx (fun r h' nx'=>J h' nx'∧((r = .int .i64 (-1)∧∀ x∈es,p x=false)∨∃ (i:Nat) (x:α),r = .int .i64 (i:Int)∧es[i]? = some x∧p x=true∧∀ y∈es.take i,p y=false)):=by
 refine indexv ?_;unfold index iV nF;obtain ⟨a,cap,rfl,hc⟩:=id (hJ _ _ h0);simp (disch:=omega) only [SS,seval];refine Lp.mk (IdxJ p es J (.slice a es.length cap) fv) es.length ⟨0,by omega,by omega,rfl,h0,by simp⟩ ?_;rintro m _ h' nx' ⟨i,rfl,hi,rfl,hj,hno⟩;rw [indexb0];unfold zRO bF iV lA xF;simp (disch:=omega) only [SS,seval];refine ⟨fun h1=>?_,fun h1=>?_⟩
 ·obtain ⟨x,hx⟩:=zY h1;obtain ⟨_,b,sp,ro,cap',cs,hbn,hveq,hbh⟩:=(hJ _ _ hj).at hx;cases hveq;simp (disch:=omega) only [SS,hbh,rdP (enc:=enc) (k:=3) hk3 hx,seval];refine hf x (List.mem_of_getElem? hx) h' nx' _ hj (fun b' h2 nx2 hb hj2=>?_);subst hb;simp (disch:=omega) only [SS,zI (show i<1000000000000 by omega),seval];refine ⟨fun hp=>⟨hj2,.inr ⟨i,x,rfl,hx,hp,hno⟩⟩,fun hp=>⟨es.length-(i+1),by omega,i+1,rfl,h1,rfl,hj2,fun y hy=>?_⟩⟩;rw [List.take_add_one,hx] at hy;rcases List.mem_append.1 hy with hy | hy
  ·exact hno y hy
  ·have:y=x:=by simpa using hy
   rw [this]; exact hp
 ·have:i=es.length:=by omega
  subst this;rw [List.take_length] at hno;exact ⟨hj,.inl hno⟩
theorem zSC {s:Bool} {v fv:Value} {es:List Edg3} {h:Hp} {nx:Nat} (p:Edg3→Bool) (hv:SlPx h nx v enc3 es) (hl:es.length≤65536)
  (hf:∀ g∈es,∀ h' nx' (K:KC'),Keep nx h h'→nx≤nx'→(∀ (b:Bool) h2 nx2,b=p g→Keep nx' h' h2→nx'≤nx2→K (.bool b) h2 nx2)→CVK Q O s (zBj h' nx' [.agg ⟨enc3 g⟩] fv) K) :
  Cv Q O s 193 [v,fv] h nx (fun r h' nx'=>r = .bool (es.any p)∧Keep nx h h'∧nx≤nx'):=by
 refine contsv ?_;unfold conts bF cF iV;refine (index_c (enc:=enc3) (fun _=>rfl) p (fun h' nx'=>Keep nx h h'∧nx≤nx') (fun h' nx' hh=>hv.keep hh.1 hh.2) ⟨Keep.refl _ _,Nat.le_refl _⟩ hl (fun g hg h' nx' K hj hK=>hf g hg h' nx' K hj.1 hj.2 (fun b h2 nx2 hb hk2 hle2=>hK b h2 nx2 hb ⟨hj.1.trans hk2 hj.2,Nat.le_trans hj.2 hle2⟩))).mono ?_;rintro r h' nx' ⟨⟨hk,hle⟩,⟨rfl,hno⟩ | ⟨i,x,rfl,hx,hp,_⟩⟩
 ·simp (disch:=omega) only [SS,seval];exact ⟨by rw [List.any_eq_false.2 (fun x hx=>by simp [hno x hx])]; rfl,hk,hle⟩
 ·simp (disch:=omega) only [SS,seval];exact ⟨by rw [List.any_eq_true.2 ⟨x,List.mem_of_getElem? hx,hp⟩]; simp,hk,hle⟩
def badE (n:Int) (e:Edg3):Bool:=(decide (e.1<0)||!decide (e.1<n))||(decide (e.2.1<0)||!decide (e.2.1<n))
theorem badE_iff {n:Int} {e:Edg3}:badE n e=true↔BadE n e:=by
 unfold badE BadE;simp only [Bool.or_eq_true,decide_eq_true_eq,Bool.not_eq_true',decide_eq_false_iff_not];omega
def badW (e:Edg3):Bool:=decide (e.2.2<0)||decide (2147483647<e.2.2)
theorem badW_iff {e:Edg3}:badW e=true↔BadW e:=by
 unfold badW BadW;simp only [Bool.or_eq_true,decide_eq_true_eq]
def RriJ (p:Edg3→Prop) (n:Int) (es:List Edg3) (v w:Value) (nx:Nat) (h:Hp) (m:Nat) (vs:List Value) (h':Hp) (nx':Nat):Prop :=
 ∃ i:Nat,m=es.length-i∧i≤es.length∧vs=[.pointer (some ⟨nx,0,none⟩),w,.int .i64 (i:Int)]∧hget h' nx=some (.cells [.int .i64 n,v] false)∧Keep nx h h'∧nx+1≤nx'∧∀ x∈es.take i,¬ p x
theorem zP4 {p:Edg3→Prop} {es:List Edg3} {i:Nat} {x:Edg3} (hx:es[i]? = some x) (h:∀ y∈es.take i,¬ p y) (hp:¬ p x):∀ y∈es.take (i+1),¬ p y:=fun y hy=>by
 rw [List.take_add_one,hx] at hy;rcases List.mem_append.1 hy with hy | hy
 ·exact h y hy
 ·have:y=x:=by simpa using hy
  rw [this]; exact hp
def toG (e:Edg3):GE:=⟨e.1.toNat,e.2.1.toNat,e.2.2⟩
theorem RightV.ges {n:Int} {es:List Edg3} (h:RightV n es):∃ N:Nat,n=(N:Int)∧N≤4096∧flat enc3 es=flat encG (es.map toG)∧∀ g∈es.map toG,GOk N g:=by
 obtain ⟨h1,h2,h3,h4,h5⟩:=h;refine ⟨n.toNat,by omega,by omega,?_,fun g hg=>?_⟩
 ·have:∀ l:List Edg3,(∀ e∈l,¬ BadE n e)→flat enc3 l=flat encG (l.map toG):=by
   intro l
   induction l with
   | nil=>intro _; rfl
   | cons x l ih =>
    intro hl;show enc3 x++flat enc3 l=encG (toG x)++flat encG (l.map toG);have hx:=hl x (List.mem_cons_self ..);unfold BadE at hx;rw [ih (fun e he=>hl e (List.mem_cons_of_mem _ he))]
    congr 1
    unfold enc3 encG toG;simp only;rw [Int.toNat_of_nonneg (by omega),Int.toNat_of_nonneg (by omega)]
  exact this es h4
 ·obtain ⟨e,he,rfl⟩:=List.mem_map.1 hg;have h6:=h4 e he;have h7:=h5 e he;unfold BadE at h6;unfold BadW at h7;refine ⟨?_,?_,?_,?_⟩
  ·show e.1.toNat<n.toNat; omega
  ·show e.2.1.toNat<n.toNat; omega
  ·show 0≤e.2.2; omega
  ·show e.2.2≤2147483647; omega
theorem SlPx.map {h:Hp} {nx:Nat} {v:Value} {es:List Edg3} (hs:SlPx h nx v enc3 es) (e:flat enc3 es=flat encG (es.map toG)):SlPx h nx v encG (es.map toG):=by
 obtain ⟨a,cap,hv,hc⟩:=hs;refine ⟨a,cap,by rw [List.length_map]; exact hv,fun hl=>?_⟩;obtain ⟨b,sp,ro,cs,hb,ha,hg⟩:=hc (fun h0=>hl (by rw [h0]; rfl));exact ⟨b,sp,ro,cs,hb,ha,by rw [← e]; exact hg⟩
def zG:GE:=⟨0,0,0⟩
theorem wrG {h:Hp} {b i:Nat} {m:List GE} {x:GE} (hi:i<m.length):wrO (some (.cells (flat encG m) false)) h b (i*3) [.int .i64 (x.f:Int),.int .i64 (x.t:Int),.int .i64 x.w] = .ok (hset h b (.cells (flat encG (m.set i x)) false)):=by
 show R.of _ (lput (encG x) (flat encG m) (i*3)) _=_;rw [zNC (k:=3) (fun _=>rfl) x hi];rfl
theorem rdF {α:Type} {enc:α→List Value} {l:List α} {k:Nat} (hk:∀ x,(enc x).length=k) {i:Nat} {e:α} (he:l[i]? = some e):zAL (some k) (i*k) (flat enc l) = .ok (.agg ⟨enc e⟩):=by
 have:=rdP hk he (cs:=[]);rwa [List.append_nil] at this
theorem zSD {gs:List GE} {N:Nat} {s:Bool} {h:Hp} {nx:Nat} {v:Value} (hv:SlPx h nx v encG gs) (hN:N≤2147483648) (hok:∀ g∈gs,GOk N g) (hl:gs.length≤120) :
  Cv Q O s 307 [.int .i64 1,v] h nx (fun r h' nx'=>∃ v2 cs,r = .tuple ⟨[v2,.int .i64 0]⟩∧SlAt h' v2 encG 3 cs nx nx'∧CanOf N gs cs∧Keep nx h h'∧nx≤nx'):=by
 obtain ⟨a,cap,rfl,hc⟩:=id hv;have hcan:=canOf N gs hN hok
 by_cases h0:gs=[]
 ·subst h0;have e:zFW [.int .i64 1,.slice a 0 cap] h nx = .ok (.tuple ⟨[.slice none 0 0,.int .i64 0]⟩) h nx:=by
   cases a <;> rfl
  exact Cv.byOrc (g:=zFW) rfl e ⟨_,[],rfl,.inl ⟨rfl,rfl⟩,hcan,Keep.refl _ _,Nat.le_refl _⟩
 ·obtain ⟨b,sp,ro,cx,hb,rfl,hg⟩:=hc h0;have hlen:gs.length≠0:=fun e=>h0 (List.eq_nil_of_length_eq_zero e);have hsm:∀ x∈gs.map gE,zBU x:=fun x hx=>by
   obtain ⟨g,hg,rfl⟩:=List.mem_map.1 hx;exact zMH hN (hok g hg)
  rw [zLO] at hg;have hfl:(flat encE (gs.map gE)).length=gs.length*3:=by rw [zo (k:=3) (fun _=>rfl),List.length_map]
  generalize hL:zCY ltE (zq [] (gs.map gE))=L at hcan;have hgl:zFW [.int .i64 1,.slice (some ⟨b,0,sp⟩) gs.length cap] h nx=zE7 h nx L:=by
   obtain ⟨m,hm⟩:∃ m,gs.length=m+1:=⟨gs.length-1,by omega⟩
   have e2:lcut (gs.length*3) (zBy (flat encE (gs.map gE)++cx) 0)=some (flat encE (gs.map gE)):=by
    rw [zA5,List.drop_zero,zAn,if_pos (by rw [List.length_append,hfl]; exact Nat.le_add_right _ _),← hfl,List.take_left]
   rw [hm] at e2 ⊢;show (match hget h b with
    | some (.cells cs _)=>(match lcut ((m+1)*3) (zBy cs 0) with
     | some l=>(match zGi l with
      | some es=>bif Nat.ble es.length 120 then zE7 h nx (zCY ltE (zq [] es)) else .no "Combine"
      | none=>.no "Combine")
     | none=>.no "Combine")
    | _=>.no "Combine")=_
   rw [hg];simp only [e2,zGh hsm,List.length_map,hL];rw [show Nat.ble gs.length 120=true by simpa using hl];rfl
  have hLn:L≠[]:=fun e=>by
   have:=(zCF (lt:=ltE) (zq [] (gs.map gE))).length_eq;rw [hL,e] at this;have e1:=(zFA (gs.map gE) []).2;obtain ⟨g,l,rfl⟩:∃ g l,gs=g::l:=by cases gs with | nil=>exact absurd rfl h0 | cons g l=>exact ⟨g,l,rfl⟩
   obtain ⟨x,hx,_⟩:=e1 (gE g) (by simp);have:zq [] ((g::l).map gE)=[]:=List.eq_nil_of_length_eq_zero this.symm;rw [this] at hx; cases hx
  have hso:zBH ltE L=true:=by rw [← hL]; exact zFK _
  have e3:zE7 h nx L = .ok (.tuple ⟨[.slice (some ⟨nx,0,some 3⟩) L.length L.length,.int .i64 0]⟩) (hset h nx (.cells (flat encE L) false)) (nx+1):=by
   cases L with
   | nil=>exact absurd rfl hLn
   | cons x l=>show (bif zBH ltE (x::l) then _ else _)=_; rw [hso]; rfl
  refine Cv.byOrc (g:=zFW) rfl (hgl.trans e3) ⟨_,L.map eG,rfl,.inr ⟨nx,Nat.le_refl _,Nat.lt_succ_self _,by rw [List.length_map],?_⟩,hcan,fun c hc=>hold (by omega),Nat.le_succ _⟩;rw [hnew,zLO,hcan.eq,hL]
def CanK (N:Nat) (gs:List GE) (nx:Nat) (h:Hp):KC':=fun r h' nx'=>∃ v2 cs,r = .agg ⟨[.int .i64 (N:Int),v2]⟩∧SlAt h' v2 encG 3 cs nx nx'∧IsCan (gs.map gE) (cs.map gE)∧(∀ g∈cs,GOk N g)∧cs.length≤gs.length∧Keep nx h h'∧nx≤nx'
theorem zS2 {gs:List GE} {N:Nat} {s:Bool} {h:Hp} {nx:Nat} {v:Value} (hv:SlPx h nx v encG gs) (hN:N≤2147483648) (hok:∀ g∈gs,GOk N g) (hl:gs.length≤120) :
  Cv Q O s 227 [.agg ⟨[.int .i64 (N:Int),v]⟩] h nx (CanK N gs nx h):=by
 refine canonv ?_;obtain ⟨a,cap,rfl,hc⟩:=id hv;unfold canon aF cF iV lA lF nC nS pC;simp (disch:=omega) only [SS,seval];have k0:∀ {o1 o2:AObj},Keep nx h (hset (hset h nx o1) (nx+1) o2):=fun {o1 o2} b hb=>by rw [hold (by omega),hold (by omega)]
 refine (zSD (hv.keep k0 (by omega)) hN hok hl).mono ?_;rintro r h1 nx1 ⟨v2,cs,rfl,hcs,hcan,hk,hle⟩;have g1:=(hk nx (by omega)).trans (hold (by omega));have g2:=hk (nx+1) (by omega);rw [hnew] at g1 g2;obtain ⟨a2,n2,cap2,rfl⟩:=hcs.form;simp (disch:=omega) only [SS,g1,g2,seval];have hi:IsCan (gs.map gE) (cs.map gE):=by rw [hcan.eq]; exact zOT _
 refine ⟨_,cs,rfl,?_,hi,hcan.ok,hcan.len,(k0.trans hk (by omega)).set (by omega),by omega⟩;rcases hcs with hcs | ⟨b,h1,h2,e,hb⟩
 ·exact .inl hcs
 ·exact .inr ⟨b,by omega,h2,e,by rw [hold (by omega)]; exact hb⟩
theorem wide_eql {a b:Nat} (ha:a<4294967296) (hb:b<4294967296):∃ c,bin Tryz.prog .eql 251 (.agg ⟨zD a⟩) (.agg ⟨zD b⟩) = .ok (.bool c):=by
 have f1:∀ n,(Value.agg ⟨zD n⟩).formed Tryz.prog 251=true:=fun n=>by
  simp [Value.formed,u112,c112,zD]
 have:bin Tryz.prog .eql 251 (.agg ⟨zD a⟩) (.agg ⟨zD b⟩)=R.of "compared" (bif zEn Tryz.prog 251 then eqK Tryz.prog 251 (.agg ⟨zD a⟩) (.agg ⟨zD b⟩) else none) (fun b=>zCc b):=rfl;rw [this];unfold eqK;rw [ng112,k112,f1,f1];exact ⟨zFS [.int .i64 0,.int .u64 (a:Int)] [.int .i64 0,.int .u64 (b:Int)],by
  show R.of "compared" (bif true&&(true&&true&&true&&true) then eqL (Tryz.prog.keyLits 8 251 (zD a)) (Tryz.prog.keyLits 8 251 (zD b)) else none) (fun b=>zCc b)=_;rw [zLG ha,zLG hb]; rfl⟩
def StK (r:Value) (nx:Nat) (h:Hp):KC':=fun v h' nx'=>v=r∧Keep nx h h'∧nx≤nx'
theorem ris_c {s:Bool} {h:Hp} {nx:Nat}:Cv Q O s 379 [.int .i64 1] h nx (fun v h' nx'=>v = .bool true∧h'=h∧nx'=nx):=by
 refine risv ?_;unfold ris bF iV;simp (disch:=omega) only [SS,seval];simp
def ltG (x y:GE):Bool:=decide (x.f<y.f)||(decide (x.f=y.f)&&decide (x.t<y.t))
theorem zSf {s:Bool} {x y:GE} {h:Hp} {nx:Nat}:Cv Q O s 380 [.agg ⟨encG x⟩,.agg ⟨encG y⟩] h nx (StK (.bool (ltG x y)) nx h):=by
 refine belowv ?_;have K1:∀ {o o'},Keep nx h (hset (hset h nx o) (nx+1) o'):=((Keep.refl _ _).set (Nat.le_refl _)).set (Nat.le_succ _);unfold below encG aF bF lF pC;simp (disch:=omega) only [SS,seval];refine ⟨fun h1=>⟨?_,K1,by omega⟩,fun h1=>⟨fun h2=>⟨?_,K1,by omega⟩,fun h2=>⟨?_,K1,by omega⟩⟩⟩
 ·unfold ltG; simp; omega
 ·have h3:x.f=y.f:=by
   have h4:(x.f:Int)=y.f:=by simpa using h2
   omega
  unfold ltG;simp [h3]
 ·have h3:¬ x.f=y.f:=fun e=>by rw [e] at h2; simp at h2
  unfold ltG;simp [h3]; omega
theorem rof_c {s:Bool} {w:Nat} {h:Hp} {nx:Nat} (hw:w<4294967296):Cv Q O s 381 [.int .i64 (w:Int)] h nx (StK (.agg ⟨zD w⟩) nx h):=by
 refine rofv ?_;have K1:∀ {o o'},Keep nx h (hset (hset h nx o) nx o'):=((Keep.refl _ _).set (Nat.le_refl _)).set (Nat.le_refl _);have e1:IntKind.wrap .u64 (w:Int)=(w:Int):=by
  simp only [IntKind.wrap,IntKind.signed,IntKind.bits];simp; omega
 unfold rof bF iV lA nC;simp (disch:=omega) only [SS,e1,seval];refine ⟨fun h1=>absurd h1 (by omega),fun _=>⟨rfl,K1,by omega⟩⟩
theorem rcmp_c {s:Bool} {a b:Nat} {h:Hp} {nx:Nat} (ha:a<4294967296) (hb:b<4294967296):Cv Q O s 427 [.agg ⟨zD a⟩,.agg ⟨zD b⟩] h nx (fun v h' nx'=>∃ c:Int,v = .int .i64 c∧(c<0↔a<b)∧Keep nx h h'∧nx≤nx'):=by
 refine rcmpv ?_;have K1:∀ {o o'},Keep nx h (hset (hset h nx o) (nx+1) o'):=((Keep.refl _ _).set (Nat.le_refl _)).set (Nat.le_succ _);unfold rcmp zD zMY aF bF iV lA lF pC;simp (disch:=omega) only [SS,beq_self_eq_true,seval];obtain ⟨c,hc⟩:=wide_eql ha hb;unfold zD at hc
 by_cases h1:a<b
 ·simp (disch:=omega) only [SS,h1,decide_true,seval];exact fun _=>⟨⟨_,rfl,by simp,K1,by omega⟩,fun h=>absurd trivial h⟩
 ·simp (disch:=omega) only [SS,h1,decide_false,hc,seval];exact fun _ _=>⟨fun _=>⟨_,rfl,by simp,K1,by omega⟩,fun _=>⟨_,rfl,by simp,K1,by omega⟩⟩
theorem radd_c {s:Bool} {a b:Nat} {h:Hp} {nx:Nat} (ha:a<4294967296) (hb:b<4294967296):Cv Q O s 382 [.int .i64 1,.agg ⟨zD a⟩,.agg ⟨zD b⟩] h nx (StK (.agg ⟨zD (min a b)⟩) nx h):=by
 refine raddv ?_;have K1:∀ {o o' o''},Keep nx h (hset (hset (hset h nx o) (nx+1) o') (nx+1+1) o''):=(((Keep.refl _ _).set (Nat.le_refl _)).set (Nat.le_succ _)).set (by omega);unfold radd zD zM3 bF cF iV lA nC pC;simp (disch:=omega) only [SS,beq_self_eq_true,seval];refine (rcmp_c (a:=b) (b:=a) hb ha).mono ?_;rintro r h1 nx1 ⟨c,rfl,hc,hk,hle⟩;have g0:=hk nx (by omega);have g1:=hk (nx+1) (by omega);have g2:=hk (nx+1+1) (by omega);rw [hold (by omega),hold (by omega),hnew] at g0;rw [hold (by omega),hnew] at g1;rw [hnew] at g2;simp (disch:=omega) only [SS,g0,g1,g2,seval];refine ⟨fun h1=>⟨?_,(K1.trans hk (by omega)).set (by omega),by omega⟩,fun h1=>⟨?_,(K1.trans hk (by omega)).set (by omega),by omega⟩⟩
 ·rw [Nat.min_eq_right (by omega)]
 ·rw [Nat.min_eq_left (by omega)]
theorem zPp {s:Bool} {w:Nat} {h:Hp} {nx:Nat} (hw:w<4294967296):Cv Q O s 383 [.agg ⟨zD w⟩] h nx (StK (.tuple ⟨[.int .i64 (w:Int),.bool true]⟩) nx h):=by
 refine rnarrowv ?_;have K1:∀ {o},Keep nx h (hset h nx o):=(Keep.refl _ _).set (Nat.le_refl _);have e1:IntKind.wrap .i64 (w:Int)=(w:Int):=zNa (by omega) (by omega);unfold zPq zD zCH aF bF iV lF pC;simp (disch:=omega) only [SS,e1,beq_self_eq_true,seval];refine ⟨fun h1=>⟨rfl,K1,by omega⟩,fun h1=>absurd h1 (by omega)⟩
structure Shf {α:Type} (o X:List α) (k:Nat):Prop where
 len:X.length=o.length+1
 lo:∀ q,q<k→X[q]? = o[q]?
 hi:∀ q,k<q→q≤o.length→X[q]? = o[q-1]?
theorem Shf.init {α:Type} (o:List α) (z:α):Shf o (o++[z]) o.length :=
 ⟨by simp,fun q hq=>List.getElem?_append_left hq,fun q h1 h2=>absurd h1 (by omega)⟩
theorem Shf.step {α:Type} {o X:List α} {k:Nat} {x:α} (h:Shf o X (k+1)) (hk:k+1≤o.length) (hx:X[k]? = some x):Shf o (X.set (k+1) x) k:=by
 refine ⟨by rw [List.length_set]; exact h.len,fun q hq=>?_,fun q h1 h2=>?_⟩
 ·rw [List.getElem?_set,if_neg (by omega)]; exact h.lo q (by omega)
 ·rw [List.getElem?_set]
  by_cases e:k+1=q
  ·subst e;rw [if_pos rfl,if_pos (by rw [h.len]; omega),Nat.add_sub_cancel,← h.lo k (by omega),hx]
  ·rw [if_neg e]; exact h.hi q (by omega) h2
theorem Shf.fin {α:Type} {o X:List α} {k:Nat} (h:Shf o X k) (hk:k≤o.length) (x:α):X.set k x=o.take k++x::o.drop k:=by
 apply List.ext_getElem?;intro q;rw [List.getElem?_set]
 by_cases e:k=q
 ·subst e;rw [if_pos rfl,if_pos (by rw [h.len]; omega),List.getElem?_append_right (by rw [List.length_take]; omega),List.length_take];rw [show k-min k o.length=0 by omega]; rfl
 ·rw [if_neg e]
  by_cases h1:q<k
  ·rw [h.lo q h1,List.getElem?_append_left (by rw [List.length_take]; omega),List.getElem?_take,if_pos h1]
  ·rw [List.getElem?_append_right (by rw [List.length_take]; omega),List.length_take,show q-min k o.length=(q-k-1)+1 by omega,List.getElem?_cons_succ,List.getElem?_drop]
   by_cases h2:q≤o.length
   ·rw [h.hi q (by omega) h2]; congr 1; omega
   ·rw [List.getElem?_eq_none (by rw [h.len]; omega),List.getElem?_eq_none (by omega)]
theorem ltG_iff {x y:GE}:ltG x y=true↔Ltp (gE x) (gE y):=by
 unfold ltG Ltp gE;simp only [Bool.or_eq_true,Bool.and_eq_true,decide_eq_true_eq];omega
theorem Ltp.tr {x y z:Edg} (h:Ltp x y) (h':Ltp y z):Ltp x z:=by unfold Ltp at *; omega
theorem ends_of {x y:GE} (h:ltG x y=false) (h':ltG y x=false):Ends (gE x) (gE y):=by
 have h1:¬ Ltp (gE x) (gE y):=fun e=>by rw [ltG_iff.2 e] at h; cases h
 have h2:¬ Ltp (gE y) (gE x):=fun e=>by rw [ltG_iff.2 e] at h'; cases h'
 unfold Ltp at h1 h2;unfold Ends;omega
structure At (B:List GE) (e:GE) (k:Nat):Prop where
 le:k≤B.length
 lo:∀ q x,q<k→B[q]? = some x→ltG x e=true
theorem zMA {B:List GE} (h:(B.map gE).Pairwise Ltp) {i j:Nat} {x y:GE} (hij:i<j) (hx:B[i]? = some x) (hy:B[j]? = some y):Ltp (gE x) (gE y):=by
 have hi:=(List.getElem?_eq_some_iff.1 hx)
 have hj:=(List.getElem?_eq_some_iff.1 hy)
 obtain ⟨hi,rfl⟩:=hi;obtain ⟨hj,rfl⟩:=hj;have:=List.pairwise_iff_getElem.1 h i j (by simpa using hi) (by simpa using hj) hij;simpa using this
theorem ins_can {A:List Edg} {B:List GE} {e:GE} {k:Nat} (h:IsCan A (B.map gE)) (ha:At B e k) (hn:∀ x,B[k]? = some x→ltG e x=true):IsCan (A++[gE e]) ((B.take k++e::B.drop k).map gE):=by
 have hpre:∀ x∈B.take k,Ltp (gE x) (gE e):=fun x hx=>by
  obtain ⟨q,hq⟩:=List.getElem?_of_mem hx;rw [List.getElem?_take] at hq
  split at hq
  ·rename_i hqk; exact ltG_iff.1 (ha.lo q x hqk hq)
  ·cases hq
 have hpost:∀ x∈B.drop k,Ltp (gE e) (gE x):=fun x hx=>by
  obtain ⟨q,hq⟩:=List.getElem?_of_mem hx;rw [List.getElem?_drop] at hq
  by_cases h0:q=0
  ·subst h0; exact ltG_iff.1 (hn x hq)
  ·obtain ⟨y,hy⟩:=zY (l:=B) (i:=k) (by have:=(List.getElem?_eq_some_iff.1 hq).1; omega);exact (ltG_iff.1 (hn y hy)).tr (zMA h.up (by omega) hy hq)
 have hmem:∀ x:Edg,x∈(B.take k++e::B.drop k).map gE↔x∈B.map gE∨x=gE e:=fun x=>by
  conv=>rhs; rw [← List.take_append_drop k B]
  rw [List.map_append,List.map_cons,List.map_append,List.mem_append,List.mem_append,List.mem_cons];exact ⟨fun h=>h.elim (fun h=>.inl (.inl h)) (fun h=>h.elim .inr (fun h=>.inl (.inr h))),fun h=>h.elim (fun h=>h.elim .inl (fun h=>.inr (.inr h))) (fun h=>.inr (.inl h))⟩
 refine ⟨?_,h.rep.step2 (fun z hz he=>?_) hmem⟩
 ·rw [List.map_append,List.map_cons,List.pairwise_append];have hup:=h.up;rw [← List.take_append_drop k B,List.map_append,List.pairwise_append] at hup;refine ⟨hup.1,List.Pairwise.cons (fun y hy=>?_) hup.2.1,fun x hx y hy=>?_⟩
  ·obtain ⟨z,hz,rfl⟩:=List.mem_map.1 hy;exact hpost z hz
  ·rcases List.mem_cons.1 hy with rfl | hy
   ·obtain ⟨z,hz,rfl⟩:=List.mem_map.1 hx;exact hpre z hz
   ·exact hup.2.2 x hx y hy
 ·obtain ⟨y,hy,rfl⟩:=List.mem_map.1 hz;rw [← List.take_append_drop k B,List.mem_append] at hy;rcases hy with hy | hy
  ·exact (hpre y hy).ne he
  ·exact (hpost y hy).ne he.symm
theorem set_can {A:List Edg} {B:List GE} {e z:GE} {k:Nat} (h:IsCan A (B.map gE)) (hz:B[k]? = some z) (he:Ends (gE z) (gE e)):IsCan (A++[gE e]) ((B.set k ⟨z.f,z.t,min z.w e.w⟩).map gE):=by
 have hk:=(List.getElem?_eq_some_iff.1 hz).1;have hg:∀ q,(B.set k ⟨z.f,z.t,min z.w e.w⟩)[q]? = if k=q then some ⟨z.f,z.t,min z.w e.w⟩ else B[q]?:=fun q=>by
  rw [List.getElem?_set]
  by_cases e1:k=q
  ·subst e1; simp [hk]
  ·simp [e1]
 have hzm:gE ⟨z.f,z.t,min z.w e.w⟩=zmin (gE z) (gE e):=rfl;have hsame:∀ q x,(B.set k ⟨z.f,z.t,min z.w e.w⟩)[q]? = some x→∃ y,B[q]? = some y∧(gE x).1=(gE y).1∧(gE x).2.1=(gE y).2.1:=fun q x hx=>by
  rw [hg] at hx
  split at hx
  ·rename_i e1; subst e1; cases hx; exact ⟨z,hz,rfl,rfl⟩
  ·exact ⟨x,hx,rfl,rfl⟩
 refine ⟨?_,h.rep.step1 (List.mem_map_of_mem (List.mem_of_getElem? hz)) he fun x=>?_⟩
 ·rw [List.pairwise_iff_getElem];intro i j hi hj hij;rw [List.getElem_map,List.getElem_map];have hi':i<(B.set k ⟨z.f,z.t,min z.w e.w⟩).length:=by simpa using hi
  have hj':j<(B.set k ⟨z.f,z.t,min z.w e.w⟩).length:=by simpa using hj
  obtain ⟨y,hy,e1,e2⟩:=hsame i _ (List.getElem?_eq_getElem hi');obtain ⟨y',hy',e1',e2'⟩:=hsame j _ (List.getElem?_eq_getElem hj');have:=zMA h.up hij hy hy';unfold Ltp at *
  rw [e1,e2,e1',e2']; exact this
 ·constructor
  ·intro hx;obtain ⟨y,hy,rfl⟩:=List.mem_map.1 hx;obtain ⟨q,hq⟩:=List.getElem?_of_mem hy;rw [hg] at hq
   split at hq
   ·cases hq; exact .inr hzm
   ·rename_i hkq
    refine .inl ⟨List.mem_map_of_mem (List.mem_of_getElem? hq),fun hye=>?_⟩;have:=he.trans hye.symm;rcases Nat.lt_or_ge k q with h1 | h1
    ·exact (zMA h.up h1 hz hq).ne this
    ·exact (zMA h.up (by omega) hq hz).ne this.symm
  ·rintro (⟨hx,hn⟩ | rfl)
   ·obtain ⟨y,hy,rfl⟩:=List.mem_map.1 hx;obtain ⟨q,hq⟩:=List.getElem?_of_mem hy;refine List.mem_map_of_mem (List.mem_of_getElem? (i:=q) ?_);rw [hg,if_neg,hq];intro e1; subst e1; rw [hz] at hq; cases hq; exact hn he
   ·rw [← hzm];exact List.mem_map_of_mem (List.mem_of_getElem? (i:=k) (by rw [hg,if_pos rfl]))
theorem zSp {α:Type} {enc:α→List Value} {k:Nat} (hk:∀ x,(enc x).length=k) (hcell:∀ x,zV (enc x)=true) (hk0:0<k) {h:Hp} {nx:Nat} {v:Value} {l:List α} {o:Option Nat} (g:Gr h enc k v l o)
  {b2 o2 cap2:Nat} {sp2:Option Nat} {cs:List Value} {ro:Bool} (x:α) (h2:hget h b2=some (.cells cs ro)) (hx:(cs.drop o2).take k=enc x) (hsz:(l.length+1)*k≤1000000) {K:Value→Hp→Nat→Prop}
  (hK:∀ h',hget h' nx=some (.cells (flat enc (l++[x])) false)→(∀ c,c≠nx→o≠some c→hget h' c=hget h c)→K (.slice (some ⟨nx,0,some k⟩) (l.length+1) (l.length+1)) h' (nx+1)):EK (orR (zH k h nx v (.slice (some ⟨b2,o2,sp2⟩) 1 cap2))) K:=by
 obtain ⟨h',e,a,b⟩:=g.app hk hcell hk0 h2 hx hsz;rw [e]; exact hK _ a b
def bare (g:GE):GE:=⟨g.f,g.t,0⟩
def sums (B:List GE):List Nat:=B.map fun g=>g.w.toNat
def CO (h:Hp) (lo nx:Nat) (B:List GE) (oe os:Value):Prop :=
 (B=[]∧oe = .slice none 0 0∧os = .slice none 0 0)∨∃ be bs,(0<B.length∧be≠bs)∧lo≤be∧be<nx∧lo≤bs∧bs<nx∧oe = .slice (some ⟨be,0,some 3⟩) B.length B.length∧os = .slice (some ⟨bs,0,some 2⟩) B.length B.length ∧
  hget h be=some (.cells (flat encG (B.map bare)) false)∧hget h bs=some (.cells (flat zD (sums B)) false)
theorem CO.keep {h h':Hp} {lo nx nx':Nat} {B:List GE} {oe os:Value} (c:CO h lo nx B oe os) (hk:∀ b,lo≤b→b<nx→hget h' b=hget h b) (hle:nx≤nx'):CO h' lo nx' B oe os:=by
 rcases c with c | ⟨be,bs,h1,h2,h3,h4,h5,h6,h7,h8,h9⟩
 ·exact .inl c
 ·exact .inr ⟨be,bs,h1,h2,by omega,h4,by omega,h6,h7,by rw [hk be h2 h3]; exact h8,by rw [hk bs h4 h5]; exact h9⟩
theorem CO.gr {h:Hp} {lo nx:Nat} {B:List GE} {oe os:Value} (c:CO h lo nx B oe os):∃ o1 o2,Gr h encG 3 oe (B.map bare) o1∧Gr h zD 2 os (sums B) o2∧(∀ b,o1=some b→lo≤b∧b<nx∧o2≠some b)∧(∀ b,o2=some b→lo≤b∧b<nx):=by
 rcases c with ⟨rfl,rfl,rfl⟩ | ⟨be,bs,h1,h2,h3,h4,h5,rfl,rfl,h8,h9⟩
 ·exact ⟨none,none,.nil,.nil,fun b h=>(by cases h),fun b h=>(by cases h)⟩
 ·refine ⟨some be,some bs,?_,?_,fun b h=>by cases Option.some.inj h; exact ⟨h2,h3,fun e=>h1.2 (Option.some.inj e).symm⟩,fun b h=>by cases Option.some.inj h; exact ⟨h4,h5⟩⟩
  ·have:=Gr.own (enc:=encG) (k:=3) h8;rwa [List.length_map] at this
  ·have:=Gr.own (enc:=zD) (k:=2) h9;unfold sums at this ⊢;rwa [List.length_map] at this
theorem CO.form {h:Hp} {lo nx:Nat} {B:List GE} {oe os:Value} (c:CO h lo nx B oe os):∃ ae as_,oe = .slice ae B.length B.length∧os = .slice as_ B.length B.length∧(B=[]→ae=none)∧(B≠[]→∃ be bs,be≠bs∧lo≤be∧be<nx∧lo≤bs∧bs<nx∧ae=some ⟨be,0,some 3⟩∧as_=some ⟨bs,0,some 2⟩∧hget h be=some (.cells (flat encG (B.map bare)) false)∧hget h bs=some (.cells (flat zD (sums B)) false)):=by
 rcases c with ⟨rfl,rfl,rfl⟩ | ⟨be,bs,h1,h2,h3,h4,h5,rfl,rfl,h8,h9⟩
 ·exact ⟨none,none,rfl,rfl,fun _=>rfl,fun h=>absurd rfl h⟩
 ·exact ⟨_,_,rfl,rfl,fun e=>(by rw [e] at h1; exact absurd h1.1 (Nat.lt_irrefl 0)),fun _=>⟨be,bs,h1.2,h2,h3,h4,h5,rfl,rfl,h8,h9⟩⟩
theorem wrW {h:Hp} {b i:Nat} {m:List Nat} {w:Nat} (hi:i<m.length):wrO (some (.cells (flat zD m) false)) h b (i*2) [.int .i64 0,.int .u64 (w:Int)] = .ok (hset h b (.cells (flat zD (m.set i w)) false)):=by
 show R.of _ (lput (zD w) (flat zD m) (i*2)) _=_;rw [zNC (k:=2) (fun _=>rfl) w hi];rfl
theorem rdW {m:List Nat} {i w:Nat} (hi:m[i]? = some w):zAL (some 2) (i*2) (flat zD m) = .ok (.agg ⟨[.int .i64 0,.int .u64 (w:Int)]⟩):=rdF (enc:=zD) (k:=2) (fun _=>rfl) hi
theorem rdB {m:List GE} {i:Nat} {x:GE} (hi:m[i]? = some x):zAL (some 3) (i*3) (flat encG m) = .ok (.agg ⟨[.int .i64 (x.f:Int),.int .i64 (x.t:Int),.int .i64 x.w]⟩):=rdF (enc:=encG) (k:=3) (fun _=>rfl) hi
structure CmI (gs:List GE) (N nx:Nat) (h:Hp) (i:Nat) (B:List GE) (oe os:Value) (h':Hp) (nx':Nat):Prop where
 le:i≤gs.length
 co:CO h' nx nx' B oe os
 can:IsCan ((gs.take i).map gE) (B.map gE)
 ok:∀ g∈B,GOk N g
 len:B.length≤i
 keep:Keep nx h h'
 nxle:nx≤nx'
theorem CmI.more {gs:List GE} {N nx:Nat} {h:Hp} {i:Nat} {B:List GE} {oe os:Value} {h' h2:Hp} {nx' nx2:Nat} (c:CmI gs N nx h i B oe os h' nx') (hk:Keep nx' h' h2) (hle:nx'≤nx2):CmI gs N nx h i B oe os h2 nx2 :=
 ⟨c.le,c.co.keep (fun b _ h2=>hk b h2) hle,c.can,c.ok,c.len,c.keep.trans hk c.nxle,Nat.le_trans c.nxle hle⟩
def CmJ (gs:List GE) (v:Value) (N nx:Nat) (h:Hp) (m:Nat) (vs:List Value) (h':Hp) (nx':Nat):Prop :=
 ∃ i B oe os,m=gs.length-i∧vs=[.int .i64 1,v,.slice none 0 0,.int .i64 0,oe,os,.int .i64 (i:Int)]∧CmI gs N nx h i B oe os h' nx'
def CmF (gs:List GE) (v:Value) (N nx:Nat) (h:Hp) (i:Nat) (B:List GE) (oe os:Value) (e:GE) (m:Nat) (vs:List Value) (h':Hp) (nx':Nat):Prop :=
 ∃ k,m=B.length-k∧At B e k∧vs=[.int .i64 1,v,.slice none 0 0,.int .i64 0,oe,os,.int .i64 (i:Int),.int .i64 (k:Int)]∧CmI gs N nx h i B oe os h' nx'
theorem setS {α:Type} {l:List α} {k:Nat} {x:α} (h:l[k]? = some x):l.set k x=l:=by
 apply List.ext_getElem?;intro i;rw [List.getElem?_set]
 by_cases e:k=i
 ·subst e; rw [if_pos rfl,h,if_pos (List.getElem?_eq_some_iff.1 h).1]
 ·rw [if_neg e]
theorem Lp.cut {B:LB} {vs:List Value} {h:Hp} {nx i:Nat} {R C:KVl} (Pre:KVl) (h1:∀ vs h nx,Pre vs h nx→C vs h nx) (h2:∀ C',(∀ vs h nx,Pre vs h nx→C' vs h nx)→Lp B vs h nx [(i,C')] R):Lp B vs h nx [(i,C)] R:=h2 C h1
def PutP (gs:List GE) (v:Value) (N nx:Nat) (h:Hp) (i:Nat) (B:List GE) (oe os:Value) (e:GE) (vs:List Value) (h':Hp) (nx':Nat):Prop :=
 ∃ k,At B e k∧(∀ x,B[k]? = some x→ltG x e=false)∧vs=[.int .i64 1,v,.slice none 0 0,.int .i64 0,oe,os,.int .i64 (i:Int),.int .i64 (k:Int)]∧CmI gs N nx h i B oe os h' nx'
def ShJ (v:Value) (B:List GE) (i k p be bs:Nat) (H:Hp) (NN:Nat) (m:Nat) (vs:List Value) (h':Hp) (nx':Nat):Prop :=
 ∃ (q:Nat) (X:List GE) (Y:List Nat),m=q∧k≤q∧q≤B.length∧Shf (B.map bare) X q∧Shf (sums B) Y q∧vs=[.int .i64 1,v,.slice none 0 0,.int .i64 0,.slice (some ⟨be,0,some 3⟩) (B.length+1) (B.length+1),.slice (some ⟨bs,0,some 2⟩) (B.length+1) (B.length+1),.int .i64 (i:Int),.int .i64 (k:Int),.pointer (some ⟨p,0,none⟩),.int .i64 (q:Int)] ∧
  hget h' be=some (.cells (flat encG X) false)∧hget h' bs=some (.cells (flat zD Y) false)∧(∀ c,c≠be→c≠bs→hget h' c=hget H c)∧nx'=NN
theorem ins_c {s:Bool} {gs:List GE} {N nx:Nat} {h:Hp} {i k w p:Nat} {B:List GE} {e:GE} {oe os:Value} {H:Hp} {NN bg cap:Nat} {spg:Option Nat} {csg:List Value} {rog:Bool} {Nn e0 R:KVl}
  (hl:gs.length≤120) (he:gs[i]? = some e) (hG:GOk N e) (hw:e.w=(w:Int)) (hI:CmI gs N nx h i B oe os H NN) (hat:At B e k) (hn:∀ x,B[k]? = some x→ltG e x=true) (hgb:hget H bg=some (.cells (flat encG gs++csg) rog)) (hbg:bg<nx) (hp:hget H p=some (.cells [.int .i64 0,.int .u64 (w:Int)] false)) (hpn:p<NN) (hpx:nx≤p) (hco:CO H nx p B oe os)
  (hN:∀ B' oe' os' h' nx',CmI gs N nx h (i+1) B' oe' os' h' nx'→Nn [.int .i64 1,.slice (some ⟨bg,0,spg⟩) gs.length cap,.slice none 0 0,.int .i64 0,oe',os',.int .i64 ((i+1:Nat):Int)] h' nx') :
  EK (orR (zH 3 (hset H NN (.cells [.int .i64 0,.int .i64 0,.int .i64 0] false)) (NN+1) oe (.slice (some ⟨NN,0,none⟩) 1 1))) fun x56 h57 n58 =>
  EK (orR (zH 2 (hset h57 n58 (.cells [.int .i64 0,.int .u64 0] false)) (n58+1) os (.slice (some ⟨n58,0,none⟩) 1 1))) fun x63 h64 n65 =>
  RK (lenS x56) fun x66=>RK (bin Q .sub 3 x66 (.int .i64 1)) fun x67 =>
  Lp (fL Q O s zCl 317 2) [.int .i64 1,.slice (some ⟨bg,0,spg⟩) gs.length cap,.slice none 0 0,.int .i64 0,x56,x63,.int .i64 (i:Int),.int .i64 (k:Int),.pointer (some ⟨p,0,none⟩),x67] h64 n65 [(4,fun v70 h68 n69 =>
   RK (vIx (.slice 3) (nv v70 1) (nv v70 6)) fun x83=>RK (zPS 0 x83) fun x84=>RK (vLd none h68 x84) fun x85=>RK (vIx (.slice 3) (nv v70 1) (nv v70 6)) fun x86=>RK (zPS 1 x86) fun x87=>RK (vLd none h68 x87) fun x88 =>
   RK ((zAH (zD8 [(1,1,x88)]) 0 1 (zC x85) [.int .i64 0,.int .i64 0,.int .i64 0]).bind fun l=>.ok (.agg ⟨l⟩)) fun x89=>RK (vIx (.slice 3) (nv v70 4) (nv v70 7)) fun x90=>RK (vSt h68 3 x90 x89) fun h91=>RK (vLd (some 2) h91 (nv v70 8)) fun x92=>RK (vIx (.slice 2) (nv v70 5) (nv v70 7)) fun x93=>RK (vSt h91 2 x93 x92) fun h94 =>
   zEi s Nn e0 R (nv v70 0) (nv v70 1) (nv v70 2) (nv v70 3) (nv v70 4) (nv v70 5) (nv v70 6) h94 n69)] (fun _ _ _=>False):=by
 have hbl:B.length≤120:=by have:=hI.len; have:=hI.le; omega
 have hnx:=hI.nxle;obtain ⟨o1,o2,g1,g2,hb1,hb2⟩:=hco.gr;have hm:(B.map bare).length=B.length:=List.length_map ..;have hs:(sums B).length=B.length:=List.length_map ..;refine zSp (enc:=encG) (k:=3) (fun _=>rfl) (fun _=>rfl) (by omega) (g1.keep (fun b hb=>by have:=hb1 b hb; rw [hold (by omega)])) zG (hnew _ _ _) rfl (by omega) (fun h5 a1 a2=>?_);refine zSp (enc:=zD) (k:=2) (fun _=>rfl) (fun _=>rfl) (by omega) (g2.keep (fun b hb=>by have:=hb2 b hb; rw [hold (by omega),a2 b (by omega) (fun e=>(hb1 b e).2.2 hb),hold (by omega)])) 0 (hnew _ _ _) rfl (by omega) (fun h6 b1 b2=>?_);have fr:∀ c,c<nx∨c=p→hget h6 c=hget H c:=fun c hc=>by
  rw [b2 c (by omega) (fun e=>by have:=hb2 c e; omega),hold (by omega),a2 c (by omega) (fun e=>by have:=hb1 c e; omega),hold (by omega)]
 have e0:IntKind.wrap .i64 (((B.length+1:Nat):Int)-1)=(B.length:Int):=by rw [zNa (by omega) (by omega)]; omega
 have x1:hget h6 (NN+1)=some (.cells (flat encG (B.map bare++[zG])) false):=by rw [b2 _ (by omega) (fun e=>by have:=hb2 _ e; omega),hold (by omega)]; exact a1
 rw [hm,hs];simp (disch:=omega) only [SS,e0,seval];have i0:=Shf.init (B.map bare) zG;have i1:=Shf.init (sums B) 0;rw [hm] at i0;rw [hs] at i1;refine Lp.mk (ShJ (.slice (some ⟨bg,0,spg⟩) gs.length cap) B i k p (NN+1) (NN+1+1+1) h6 (NN+1+1+1+1)) B.length ⟨B.length,_,_,rfl,hat.le,Nat.le_refl _,i0,i1,rfl,x1,b1,fun _ _ _=>rfl,rfl⟩ ?_;rintro q _ h7 _ ⟨_,X,Y,rfl,hkq,hqB,hX,hY,rfl,g3,g4,hf,rfl⟩;rw [rcombb2];unfold zQJ bF iV lA xF;have hXl:=hX.len;have hYl:=hY.len;rw [hm] at hXl;rw [hs] at hYl;have fr7:∀ c,c<nx∨c=p→hget h7 c=hget H c:=fun c hc=>(hf c (by omega) (by omega)).trans (fr c hc);simp (disch:=omega) only [SS,seval];refine ⟨fun h1=>?_,fun h1=>?_⟩
 ·obtain ⟨q,rfl⟩:∃ q',q=q'+1:=⟨q-1,by omega⟩
  have e1:IntKind.wrap .i64 (((q+1:Nat):Int)-1)=(q:Int):=by rw [zNa (by omega) (by omega)]; omega
  obtain ⟨x,hx⟩:=zY (l:=X) (i:=q) (by omega);obtain ⟨y,hy⟩:=zY (l:=Y) (i:=q) (by omega);simp (disch:=omega) only [SS,e1,g3,g4,rdB hx,rdW hy,wrG (m:=X) (x:=x) (i:=q+1) (by omega),wrW (m:=Y) (w:=y) (i:=q+1) (by omega),seval];refine ⟨q,by omega,q,_,_,rfl,by omega,by omega,hX.step (by omega) hx,hY.step (by omega) hy,rfl,by rw [hold (by omega),hnew],hnew _ _ _,fun c h1 h2=>by rw [hold h2,hold h1]; exact hf c h1 h2,rfl⟩
 ·have hkq:q=k:=by omega
  subst hkq;have hgg:=(fr7 bg (.inl hbg)).trans hgb;have hpp:=(fr7 p (.inr rfl)).trans hp;have c1:=zIp (enc:=encG) (k:=3) (fun _=>rfl) he (j:=1) (by omega) (cs:=csg);rw [show (encG e)[1]? = some (.int .i64 (e.t:Int)) from rfl] at c1;have c0:=zIp (enc:=encG) (k:=3) (fun _=>rfl) he (j:=0) (by omega) (cs:=csg);rw [show (encG e)[0]? = some (.int .i64 (e.f:Int)) from rfl,Nat.add_zero] at c0;have hil:=(List.getElem?_eq_some_iff.1 he).1;have ei:IntKind.wrap .i64 ((i:Int)+1)=((i+1:Nat):Int):=zI (by omega);have wE:wrO (some (.cells (flat encG X) false)) h7 (NN+1) (q*3) [.int .i64 (e.f:Int),.int .i64 (e.t:Int),.int .i64 0] = .ok (hset h7 (NN+1) (.cells (flat encG (X.set q (bare e))) false)):=wrG (x:=bare e) (by omega);unfold zEi bF iV;simp (disch:=omega) only [SS,hgg,c0,c1,g3,wE,hpp,g4,wrW (m:=Y) (w:=w) (i:=q) (by omega),ei,seval];have hlen:(B.take q++e::B.drop q).length=B.length+1:=by rw [List.length_append,List.length_cons,List.length_take,List.length_drop]; omega
  rw [← hlen];refine hN _ _ _ _ _ ⟨by omega,.inr ⟨NN+1,NN+1+1+1,⟨by omega,by omega⟩,by omega,by omega,by omega,by omega,rfl,rfl,?_,?_⟩,?_,fun g hg=>?_,by rw [hlen]; have:=hI.len; omega,fun c hc=>?_,by omega⟩
  ·rw [hold (by omega),hnew,hX.fin (by omega),List.map_append,List.map_cons,List.map_take,List.map_drop]
  ·rw [hnew,hY.fin (by omega)];unfold sums;rw [List.map_append,List.map_cons,List.map_take,List.map_drop,hw]; rfl
  ·rw [List.take_add_one,he,List.map_append];exact ins_can hI.can hat hn
  ·rcases List.mem_append.1 hg with hg | hg
   ·exact hI.ok g (List.mem_of_mem_take hg)
   ·rcases List.mem_cons.1 hg with rfl | hg
    ·exact hG
    ·exact hI.ok g (List.mem_of_mem_drop hg)
  ·rw [hold (by omega),hold (by omega),fr7 c (.inl hc)]; exact hI.keep c hc
def NaJ (B:List GE) (ae as_:Option Addr) (nx:Nat) (h:Hp) (m:Nat) (vs:List Value) (h':Hp) (nx':Nat):Prop :=
 ∃ j,m=B.length-j∧j≤B.length∧vs=[.slice none 0 0,.int .i64 0,.slice ae B.length B.length,.slice as_ B.length B.length,.int .i64 (j:Int)]∧(B≠[]→∃ be bs,be≠bs∧nx≤be∧be<nx'∧nx≤bs∧bs<nx'∧ae=some ⟨be,0,some 3⟩∧as_=some ⟨bs,0,some 2⟩∧hget h' be=some (.cells (flat encG (B.take j++(B.drop j).map bare)) false)∧hget h' bs=some (.cells (flat zD (sums B)) false))∧Keep nx h h'∧nx≤nx'
theorem zJq:∀ {m:List GE} {j:Nat} {y:GE} {w:Int},m[j]? = some y→(flat encG m).set (j*3+2) (.int .i64 w)=flat encG (m.set j ⟨y.f,y.t,w⟩)
 | [],j,y,w,h=>by cases h
 | z::m,0,y,w,h=>by cases h; rfl
 | z::m,j+1,y,w,h=>by
  have ih:=zJq (m:=m) (j:=j) (y:=y) (w:=w) h;show (encG z++flat encG m).set ((j+1)*3+2) _=encG z++flat encG (m.set j _);rw [← ih,show (j+1)*3+2=(j*3+2)+1+1+1 by omega];rfl
theorem rcomb_c {s:Bool} {N:Nat} {v:Value} {gs:List GE} {h:Hp} {nx:Nat} (hv:SlPx h nx v encG gs) (hN:N≤4096) (hl:gs.length≤120) (hok:∀ g∈gs,GOk N g) :
  Cv Q O s 317 [.int .i64 1,v] h nx (fun r h' nx'=>∃ v2 B,r = .tuple ⟨[v2,.int .i64 0]⟩∧SlAt h' v2 encG 3 B nx nx'∧IsCan (gs.map gE) (B.map gE)∧(∀ g∈B,GOk N g)∧B.length≤gs.length∧Keep nx h h'∧nx≤nx'):=by
 refine rcombv ?_;obtain ⟨a,cap,rfl,hc⟩:=id hv;unfold rcomb cF iV nS;refine ris_c.mono ?_;rintro r h0 nx0 ⟨rfl,e1,e2⟩;rw [e1,e2];simp (disch:=omega) only [SS,seval];refine Lp.mk (CmJ gs (.slice a gs.length cap) N nx h) gs.length ⟨0,[],_,_,by omega,rfl,⟨by omega,.inl ⟨rfl,rfl,rfl⟩,⟨List.Pairwise.nil,Rep.nil⟩,by simp,by simp,Keep.refl _ _,Nat.le_refl _⟩⟩ ?_;rintro _ _ h' nx' ⟨i,B,oe,os,rfl,rfl,hI⟩;rw [rcombb0];unfold zQL aF bF cF dF iV lA lF nC nF xF;simp (disch:=omega) only [SS,seval];refine ⟨fun hlt=>?_,fun hge=>?_⟩
 ·obtain ⟨e,he⟩:=zY hlt;have ei:IntKind.wrap .i64 ((i:Int)+1)=((i+1:Nat):Int):=zI (by omega);obtain ⟨_,bg,spg,rog,cg,csg,hbg,e1,hgg⟩:=hv.at he;cases e1;refine Lp.cut (PutP gs (.slice (some ⟨bg,0,spg⟩) gs.length cap) N nx h i B oe os e) ?_ (fun C' hC=>?_)
  ·rintro _ h2 nx2 ⟨k,hat,hnk,rfl,hI⟩;have hgg2:=(hI.keep bg hbg).trans hgg;have hGe:=hok e (List.mem_of_getElem? he);obtain ⟨w,hw⟩:∃ w:Nat,e.w=(w:Int):=⟨e.w.toNat,by have:=hGe.2.2.1; omega⟩
   have hwl:w<4294967296:=by have:=hGe.2.2.2; omega
   have c2:=zIp (enc:=encG) (k:=3) (fun _=>rfl) he (j:=2) (by omega) (cs:=csg);rw [show (encG e)[2]? = some (.int .i64 e.w) from rfl,hw] at c2;have c1:=zIp (enc:=encG) (k:=3) (fun _=>rfl) he (j:=1) (by omega) (cs:=csg);rw [show (encG e)[1]? = some (.int .i64 (e.t:Int)) from rfl] at c1;have c0:=zIp (enc:=encG) (k:=3) (fun _=>rfl) he (j:=0) (by omega) (cs:=csg);rw [show (encG e)[0]? = some (.int .i64 (e.f:Int)) from rfl,Nat.add_zero] at c0;have rd:=rdP (enc:=encG) (k:=3) (fun _=>rfl) he (cs:=csg);simp (disch:=omega) only [SS,hgg2,c2,seval];refine (rof_c (w:=w) hwl).mono ?_;rintro r h3 nx3 ⟨rfl,hk3,hle3⟩;have hbn:bg<nx2:=by have:=hI.nxle; omega
   have K3:∀ {o o'},Keep nx2 h2 (hset (hset h3 nx3 o) nx3 o'):=(hk3.set hle3).set hle3;have hI3:=hI.more (h2:=hset (hset h3 nx3 (.cells [.int .i64 0,.int .u64 0] false)) nx3 (.cells [.int .i64 0,.int .u64 (w:Int)] false)) (nx2:=nx3+1) K3 (by omega);have hgg3:hget (hset (hset h3 nx3 (.cells [.int .i64 0,.int .u64 0] false)) nx3 (.cells [.int .i64 0,.int .u64 (w:Int)] false)) bg=some (.cells (flat encG gs++csg) rog):=(K3 bg hbn).trans hgg2;obtain ⟨ae,as_,rfl,rfl,hae,hne⟩:=hI.co.form;have rd3:zAL (some 3) (i*3) (flat encG gs++csg) = .ok (.agg ⟨[.int .i64 (e.f:Int),.int .i64 (e.t:Int),.int .i64 e.w]⟩):=rd;have hbl:B.length≤120:=by have:=hI.len; omega
   simp (disch:=omega) only [SS,zD,hgg3,rd3,seval];refine ⟨fun hk=>?_,fun hk=>?_⟩
   ·obtain ⟨be,bs,h1,h2',h3',h4,h5,rfl,rfl,h8,h9⟩:=hne (fun e=>by rw [e] at hk; simp at hk);obtain ⟨x,hx⟩:=zY hk;have hx':(B.map bare)[k]? = some (bare x):=by rw [List.getElem?_map,hx]; rfl
    have hs':(sums B)[k]? = some x.w.toNat:=by unfold sums; rw [List.getElem?_map,hx]; rfl
    have e8:=(hk3 be (by omega)).trans h8;have e9:=(hk3 bs (by omega)).trans h9;simp (disch:=omega) only [SS,e8,rdB hx',e9,seval];refine (zSf (x:=e) (y:=bare x)).mono ?_;rintro r h6 nx6 ⟨rfl,hk6,hle6⟩;have hI6:=hI3.more hk6 hle6;have p6:=hk6 nx3 (by omega);rw [hnew] at p6;have s6:=(hk6 bs (by omega)).trans ((hold (by omega)).trans ((hold (by omega)).trans e9));have hb:ltG e (bare x)=ltG e x:=rfl;rw [hb];simp (disch:=omega) only [SS,s6,rdW hs',p6,seval];refine ⟨hle6,fun hf=>?_,fun ht=>?_⟩
    ·have hGx:=hI.ok x (List.mem_of_getElem? hx);refine (radd_c (a:=x.w.toNat) (b:=w) (by have:=hGx.2.2.2; omega) hwl).mono ?_;rintro r h7 nx7 ⟨rfl,hk7,hle7⟩;have s7:=(hk7 bs (by omega)).trans s6;unfold zEi bF iV;simp (disch:=omega) only [SS,zD,s7,ei,wrW (m:=sums B) (i:=k) (w:=min x.w.toNat w) (by unfold sums; rw [List.length_map]; exact hk),seval];have hy:bare (⟨x.f,x.t,min x.w e.w⟩:GE)=bare x:=rfl;refine ⟨hle7,gs.length-(i+1),by omega,i+1,B.set k ⟨x.f,x.t,min x.w e.w⟩,_,_,rfl,rfl,⟨by omega,.inr ⟨be,bs,⟨by rw [List.length_set]; omega,h1⟩,h2',by omega,h4,by omega,by rw [List.length_set],by rw [List.length_set],?_,?_⟩,?_,fun g hg=>?_,by rw [List.length_set]; have:=hI.len; omega,(hI6.keep.trans hk7 hI6.nxle).set (by omega),by have:=hI6.nxle; omega⟩⟩
     ·rw [hold h1,hk7 be (by omega),hk6 be (by omega),hold (by omega),hold (by omega),e8,List.map_set,hy,setS hx']
     ·rw [hnew];unfold sums;rw [List.map_set];have:(min x.w e.w).toNat=min x.w.toNat w:=by have:=hGx.2.2.1; omega
      rw [this]
     ·rw [List.take_add_one,he,List.map_append];exact set_can hI.can hx (ends_of (hnk x hx) hf)
     ·rcases List.mem_or_eq_of_mem_set hg with hg | rfl
      ·exact hI.ok g hg
      ·have a1:=hGx.2.2; have a2:=hGe.2.2;exact ⟨hGx.1,hGx.2.1,by show 0≤min x.w e.w; omega,by show min x.w e.w≤_; omega⟩
    ·have hnk2:∀ x',B[k]? = some x'→ltG e x'=true:=fun x' hx'=>by rw [hx] at hx'; cases hx'; exact ht
     have gg6:=(hk6 bg (by omega)).trans hgg3;have hnn6:nx3<nx6:=by omega
     refine ins_c hl he hGe hw hI6 hat hnk2 gg6 hbg p6 hnn6 (by have:=hI.nxle; omega) (hI.co.keep (fun b _ hb=>by rw [hk6 b (by omega),hold (by omega),hold (by omega),hk3 b hb]) hle3) (fun B' oe' os' h' nx' hc=>⟨gs.length-(i+1),by omega,i+1,B',oe',os',rfl,rfl,hc⟩)
   ·refine ins_c hl he hGe hw hI3 hat (fun x hx=>absurd (List.getElem?_eq_some_iff.1 hx).1 hk) hgg3 hbg (hnew _ _ _) (Nat.lt_succ_self _) (by have:=hI.nxle; omega) (hI.co.keep (fun b _ hb=>by rw [hold (by omega),hold (by omega),hk3 b hb]) hle3) (fun B' oe' os' h' nx' hc=>⟨gs.length-(i+1),by omega,i+1,B',oe',os',rfl,rfl,hc⟩)
  ·refine Lp.mk (CmF gs (.slice (some ⟨bg,0,spg⟩) gs.length cap) N nx h i B oe os e) B.length ⟨0,by omega,⟨by omega,fun q x hq=>absurd hq (by omega)⟩,rfl,hI⟩ ?_;rintro _ _ h2 nx2 ⟨k,rfl,hat,rfl,hI⟩;obtain ⟨ae,as_,rfl,rfl,hae,hne⟩:=hI.co.form;rw [rcombb1];unfold zQK bF dF iV lA nF xF;simp (disch:=omega) only [SS,seval];refine ⟨fun hk=>?_,fun hk=>hC _ _ _ ⟨k,hat,fun x hx=>absurd (List.getElem?_eq_some_iff.1 hx).1 hk,rfl,hI⟩⟩;obtain ⟨be,bs,h1,h2',h3,h4,h5,rfl,rfl,h8,h9⟩:=hne (fun e=>by rw [e] at hk; simp at hk);obtain ⟨x,hx⟩:=zY hk;have hx':(B.map bare)[k]? = some (bare x):=by rw [List.getElem?_map,hx]; rfl
   simp (disch:=omega) only [SS,h8,(hI.keep bg hbg).trans hgg,rdF (enc:=encG) (k:=3) (fun _=>rfl) hx',rdP (enc:=encG) (k:=3) (fun _=>rfl) he,seval];refine (zSf (x:=bare x) (y:=e)).mono ?_;rintro r h6 nx6 ⟨rfl,hk6,hle6⟩;have hb:ltG (bare x) e=ltG x e:=rfl;rw [hb];have ek:IntKind.wrap .i64 ((k:Int)+1)=((k+1:Nat):Int):=zI (by have:=hI.len; omega);simp (disch:=omega) only [SS,ek,seval];refine ⟨hle6,fun ht=>⟨B.length-(k+1),by omega,k+1,rfl,⟨hk,fun q y hq hy=>?_⟩,rfl,hI.more hk6 hle6⟩,fun hf=>hC _ _ _ ⟨k,hat,fun y hy=>by rw [hx] at hy; cases hy; exact hf,rfl,hI.more hk6 hle6⟩⟩
   by_cases e2:q=k
   ·subst e2; rw [hx] at hy; cases hy; exact ht
   ·exact hat.lo q y (by omega) hy
 ·have hig:i=gs.length:=by have:=hI.le; omega
  subst hig;have hcan:=hI.can;rw [List.take_length] at hcan;obtain ⟨ae,as_,rfl,rfl,hae,hne⟩:=hI.co.form;refine Lp.mk (NaJ B ae as_ nx h) B.length ⟨0,by omega,by omega,rfl,fun hb=>?_,hI.keep,hI.nxle⟩ ?_
  ·obtain ⟨be,bs,h1,h2,h3,h4,h5,e1,e2,h8,h9⟩:=hne hb;exact ⟨be,bs,h1,h2,h3,h4,h5,e1,e2,by simpa using h8,h9⟩
  rintro _ _ h2 nx2 ⟨j,rfl,hj,rfl,hne,hk2,hle2⟩;rw [rcombb3];unfold zQI aF bF cF iV lA nF nS xF;simp (disch:=omega) only [SS,seval];have hbl:B.length≤120:=by have:=hI.len; omega
  refine ⟨fun hlt=>?_,fun hge=>?_⟩
  ·obtain ⟨be,bs,h1,h2',h3,h4,h5,rfl,rfl,h8,h9⟩:=hne (fun e=>by rw [e] at hlt; simp at hlt);obtain ⟨x,hx⟩:=zY hlt;have hGx:=hI.ok x (List.mem_of_getElem? hx);obtain ⟨w,hw⟩:∃ w:Nat,x.w=(w:Int):=⟨x.w.toNat,by have:=hGx.2.2.1; omega⟩
   have hs':(sums B)[j]? = some w:=by unfold sums; rw [List.getElem?_map,hx,Option.map_some,hw]; rfl
   have hC:(B.take j++(B.drop j).map bare)[j]? = some (bare x):=by
    rw [List.getElem?_append_right (by rw [List.length_take]; omega),List.length_take,show j-min j B.length=0 by omega,List.getElem?_map,List.getElem?_drop,Nat.add_zero,hx]; rfl
   simp (disch:=omega) only [SS,h9,rdW hs',seval];refine (zPp (w:=w) (by have:=hGx.2.2.2; omega)).mono ?_;rintro r h6 nx6 ⟨rfl,hk6,hle6⟩;have g8:=(hk6 be h3).trans h8;have ej:IntKind.wrap .i64 ((j:Int)+1)=((j+1:Nat):Int):=zI (by omega);have hCl:(B.take j++(B.drop j).map bare).length=B.length:=by rw [List.length_append,List.length_take,List.length_map,List.length_drop]; omega
   have hfl:(flat encG (B.take j++(B.drop j).map bare)).length=B.length*3:=by rw [zo (k:=3) (fun _=>rfl),hCl]
   simp (disch:=omega) only [SS,g8,ej,hfl,zJq hC,seval];refine ⟨by omega,B.length-(j+1),by omega,j+1,rfl,hlt,rfl,fun _=>⟨be,bs,h1,h2',by omega,h4,by omega,rfl,rfl,?_,?_⟩,fun c hc=>?_,by omega⟩
   ·rw [hnew];have:(B.take j++(B.drop j).map bare).set j ⟨(bare x).f,(bare x).t,(w:Int)⟩=B.take (j+1)++(B.drop (j+1)).map bare:=by
     have e3:(⟨(bare x).f,(bare x).t,(w:Int)⟩:GE)=x:=by rw [← hw]; rfl
     rw [e3,List.set_append,if_neg (by rw [List.length_take]; omega),List.length_take,show j-min j B.length=0 by omega];rw [List.drop_eq_getElem_cons hlt,List.map_cons,List.set_cons_zero,List.take_add_one,hx,List.append_assoc];rfl
    rw [this]
   ·rw [hold (Ne.symm h1),hk6 bs h5]; exact h9
   ·rw [hold (by omega),hk6 c (by omega)]; exact hk2 c hc
  ·have hjb:j=B.length:=by omega
   subst hjb;refine ⟨_,B,rfl,?_,hcan,hI.ok,hI.len,hk2,hle2⟩
   by_cases hb:B=[]
   ·exact .inl ⟨hb,by rw [hae hb,hb]; rfl⟩
   obtain ⟨be,bs,h1,h2',h3,h4,h5,e1,e2,h8,h9⟩:=hne hb;rw [List.take_length,List.drop_length,List.map_nil,List.append_nil] at h8;exact .inr ⟨be,h2',h3,by rw [e1],h8⟩
theorem zMZ {gs:List GE} {N:Nat} {s:Bool} {h:Hp} {nx:Nat} {v:Value} (hv:SlPx h nx v encG gs) (hN:N≤4096) (hok:∀ g∈gs,GOk N g) (hl:gs.length≤120) :
  Cv Q O s 243 [.agg ⟨[.int .i64 (N:Int),v]⟩] h nx (CanK N gs nx h):=by
 refine rcanonv ?_;obtain ⟨a,cap,rfl,hc⟩:=id hv;unfold rcanon aF cF iV lA lF nC nS pC;simp (disch:=omega) only [SS,seval];have k0:∀ {o1 o2:AObj},Keep nx h (hset (hset h nx o1) (nx+1) o2):=fun {o1 o2} b hb=>by rw [hold (by omega),hold (by omega)]
 refine (rcomb_c (hv.keep k0 (by omega)) hN hl hok).mono ?_;rintro r h1 nx1 ⟨v2,cs,rfl,hcs,hcan,hok',hlen,hk,hle⟩;have g1:=(hk nx (by omega)).trans (hold (by omega));have g2:=hk (nx+1) (by omega);rw [hnew] at g1 g2;obtain ⟨a2,n2,cap2,rfl⟩:=hcs.form;simp (disch:=omega) only [SS,g1,g2,seval];refine ⟨_,cs,rfl,?_,hcan,hok',hlen,(k0.trans hk (by omega)).set (by omega),by omega⟩;rcases hcs with hcs | ⟨b,h1,h2,e,hb⟩
 ·exact .inl hcs
 ·exact .inr ⟨b,by omega,h2,e,by rw [hold (by omega)]; exact hb⟩
def EqK (v:Value) (nx:Nat) (h:Hp):KC':=fun r h' nx'=>r=v∧Keep nx h h'∧nx≤nx'
def inB (n m:Int):Bool:=decide (0≤n∧n≤m)
theorem zEY {n m:Int} (h:0≤n∧n≤m):inB n m=true:=decide_eq_true h
theorem zGa {n m:Int} (h:¬ (0≤n∧n≤m)):inB n m=false:=decide_eq_false h
theorem pwithin_c {s:Bool} {n m:Int} {h:Hp} {nx:Nat}:Cv Q O s 222 [.int .i64 n,.int .i64 m] h nx (fun r h' nx'=>r = .bool (inB n m)∧h'=h∧nx'=nx):=by
 refine pwithinv ?_;unfold zQ0 bF iV;simp (disch:=omega) only [SS,seval];refine ⟨fun h0=>?_,fun h0=>by rw [zGa (by omega)]⟩
 by_cases h1:m<n
 ·rw [decide_eq_true h1,zGa (by omega)]; rfl
 ·rw [decide_eq_false h1,zEY (by omega)]; rfl
theorem wcheck1_c {s:Bool} {n m:Int} {h:Hp} {nx:Nat}:Cv Q O s 62 [.int .i64 n,.int .i64 m] h nx (fun r h' nx'=>r = .bool (decide (1≤n∧n≤m))∧h'=h∧nx'=nx):=by
 refine wcheck1v ?_;unfold zOv bF iV;simp (disch:=omega) only [SS,seval];refine ⟨fun h0=>?_,fun h0=>by rw [decide_eq_false (show ¬ (1≤n∧n≤m) by omega)]⟩
 by_cases h1:m<n
 ·rw [decide_eq_true h1,decide_eq_false (show ¬ (1≤n∧n≤m) by omega)]; rfl
 ·rw [decide_eq_false h1,decide_eq_true (show 1≤n∧n≤m by omega)]; rfl
def badD (d:Int):Bool:=decide (d<0∨2147483647<d)
theorem zQ6 {s:Bool} {d:Int} {h:Hp} {nx:Nat}:Cv Q O s 224 [.int .i64 d] h nx (EqK (.bool (badD d)) nx h):=by
 refine pright1v ?_;unfold zQ7 bF iV;simp (disch:=omega) only [SS,seval];refine ⟨fun h0=>⟨by unfold badD; simp [h0],Keep.refl _ _,Nat.le_refl _⟩,fun h0=>⟨?_,Keep.refl _ _,Nat.le_refl _⟩⟩;unfold badD; simp [h0]
def IxJ {α:Type} (p:α→Bool) (l:List α) (v fv:Value) (nx:Nat) (h:Hp) (m:Nat) (vs:List Value) (h':Hp) (nx':Nat):Prop:=∃ i,m=l.length-i∧i≤l.length∧vs=[v,fv,.int .i64 0,.int .i64 (l.length:Int),.int .i64 (i:Int)]∧Keep nx h h'∧nx≤nx'∧∀ x∈l.take i,p x=false
theorem take_s {α:Type} {p:α→Bool} {l:List α} {i:Nat} {x:α} (hx:l[i]? = some x) (h:∀ y∈l.take i,p y=false) (hp:p x=false):∀ y∈l.take (i+1),p y=false:=fun y hy=>by
 rw [List.take_add_one,hx] at hy;rcases List.mem_append.1 hy with hy | hy
 ·exact h y hy
 ·have:y=x:=by simpa using hy
  rw [this]; exact hp
theorem any_f {α:Type} {p:α→Bool} {l:List α} (h:∀ x∈l,p x=false):l.any p=false:=List.any_eq_false.2 fun x hx=>by rw [h x hx]; simp
theorem contsI_c {s:Bool} {f:Nat} {p:Int→Bool} {v:Value} {l:List Int} {h:Hp} {nx:Nat} (hv:SlRd h nx v za l) (hl:l.length<1000000) (hf:∀ (x:Int) (h:Hp) (nx:Nat),Cv Q O s f [.int .i64 x] h nx (EqK (.bool (p x)) nx h)) :
  Cv Q O s 223 [v,.func (.func f) ⟨[]⟩ ⟨[]⟩] h nx (EqK (.bool (l.any p)) nx h):=by
 refine contsIv ?_;obtain ⟨a,cap,rfl,hc⟩:=id hv;unfold contsI bF cF iV;refine (indexIv (K:=fun r h' nx'=>Keep nx h h'∧nx≤nx'∧∃ i:Int,r = .int .i64 i∧(i<0↔l.any p=false)) ?_).mono ?_
 ·unfold indexI iV nF;simp (disch:=omega) only [SS,seval];refine Lp.mk (IxJ p l (.slice a l.length cap) (.func (.func f) ⟨[]⟩ ⟨[]⟩) nx h) l.length ⟨0,rfl,by omega,rfl,Keep.refl _ _,Nat.le_refl _,fun x hx=>by simp at hx⟩ ?_;rintro m _ h' nx' ⟨i,rfl,hi,rfl,hk,hle,hno⟩;rw [indexIb0];unfold zMu bF iV lF xF;simp (disch:=omega) only [SS,seval];refine ⟨fun hlt=>?_,fun hge=>?_⟩
  ·obtain ⟨x,hx⟩:=zY hlt;obtain ⟨_,b,sp,ro,c1,hb,e1,hg⟩:=hv.at hx;cases e1;rw [zS] at hg;simp (disch:=omega) only [SS,(hk b hb).trans hg,zO hx,seval];refine (hf x h' nx').mono ?_;rintro r h2 nx2 ⟨rfl,hk2,hle2⟩;rw [IF_b];refine ⟨fun hp=>?_,fun hp=>?_⟩
   ·refine ⟨hk.trans hk2 hle,by omega,_,rfl,⟨fun h=>absurd h (by omega),fun h=>?_⟩⟩;rw [List.any_eq_false] at h;exact absurd hp (h x (List.mem_of_getElem? hx))
   ·simp (disch:=omega) only [SS,zI (show i<1000000000000 by omega),seval];exact ⟨l.length-(i+1),by omega,i+1,rfl,by omega,rfl,hk.trans hk2 hle,by omega,take_s hx hno hp⟩
  ·have:i=l.length:=by omega
   subst this;rw [List.take_length] at hno;exact ⟨hk,hle,_,rfl,⟨fun _=>any_f hno,fun _=>by omega⟩⟩
 ·rintro r h' nx' ⟨hk,hle,i,rfl,hi⟩;simp (disch:=omega) only [SS,seval];refine ⟨?_,hk,hle⟩;cases ha:l.any p with
  | false=>rw [decide_eq_true (hi.2 ha)]; rfl
  | true =>
   have:¬ i<0:=fun h=>by rw [hi.1 h] at ha; cases ha
   rw [decide_eq_false this]; rfl
abbrev Mv:=Int × Int × Int × Int
def zw (k n src len:Int) (ds:List Int):Int :=
 if k≤0∨5<k then 8 else if ¬ (0≤n∧n≤4096) then 3 else if k=4∧¬ (0≤len∧len≤8192) then 3 else if (k=4∨k=1∨k=2)∧¬ (0≤src∧src≤n-1) then 3
 else if 65536<ds.length then 5 else if ds.any badD=true then 7 else 0
theorem wrapI0 {n:Int}:IntKind.wrap .i64 n=(if n % 18446744073709551616≥9223372036854775808 then n % 18446744073709551616-18446744073709551616 else n % 18446744073709551616):=by
 simp only [IntKind.wrap,IntKind.signed,IntKind.bits];simp
theorem zAf {n:Int} (h0 : -9223372036854775808≤n) (h1:n≤9223372036854775807):IntKind.wrap .i64 n=n:=by
 rw [wrapI0]; split <;> omega
theorem zEP {s:Bool} {k n src len:Int} {ds:List Int} {v:Value} {h:Hp} {nx:Nat} (hv:SlRd h nx v za ds):Cv Q O s 128 [.agg ⟨[.int .i64 k,.int .i64 n,.int .i64 src,.int .i64 len,v]⟩] h nx (EqK (.int .i64 (zw k n src len ds)) nx h):=by
 refine pright0v ?_;obtain ⟨a,cap,rfl,hc⟩:=id hv;unfold zQ8 aF bF iV lF pC;have K1:∀ {o},Keep nx h (hset h nx o):=(Keep.refl _ _).set (Nat.le_refl _);have fin:∀ {e:Int},zw k n src len ds=e→∀ {o},EqK (.int .i64 (zw k n src len ds)) nx h (.int .i64 e) (hset h nx o) (nx+1):=fun {e} he {o}=>⟨by rw [he],K1,by omega⟩
 have last:¬ (k≤0∨5<k)→(0≤n∧n≤4096)→¬ (k=4∧¬ (0≤len∧len≤8192))→¬ ((k=4∨k=1∨k=2)∧¬ (0≤src∧src≤n-1))→zB2 s (EqK (.int .i64 (zw k n src len ds)) nx h) (.pointer (some ⟨nx,0,none⟩)) (hset h nx (.cells [.int .i64 k,.int .i64 n,.int .i64 src,.int .i64 len,.slice a ds.length cap] false)) (nx+1):=fun h1 h2 h3 h4=>by
  have e:zw k n src len ds=if 65536<ds.length then 5 else if ds.any badD=true then 7 else 0:=by
   unfold zw; rw [if_neg h1,if_neg (fun h=>h h2),if_neg h3,if_neg h4]
  unfold zB2 aF bF cF iV lF nF;simp (disch:=omega) only [SS,seval];refine ⟨fun h5=>fin (by rw [e,if_pos (by omega)]),fun h5=>?_⟩;refine (contsI_c (hv.keep K1 (Nat.le_succ _)) (by omega) (fun x h nx=>zQ6)).mono ?_;rintro r h1 n1 ⟨rfl,hk,hle⟩;simp (disch:=omega) only [SS,seval];refine ⟨fun h6=>⟨by rw [e,if_neg (by omega),if_pos h6],K1.trans hk (by omega),by omega⟩,fun h6=>⟨?_,K1.trans hk (by omega),by omega⟩⟩;rw [e,if_neg (by omega),if_neg (by rw [h6]; simp)]
 have k1:(k≤0∨5<k)→∀ {o},zCn s (EqK (.int .i64 (zw k n src len ds)) nx h) (.pointer (some ⟨nx,0,none⟩)) (.bool true) (hset h nx o) (nx+1):=fun hk {o}=>by
  unfold zCn aF bF cF iV lF;simp (disch:=omega) only [SS,seval];exact fin (by unfold zw; rw [if_pos hk])
 simp (disch:=omega) only [SS,seval];refine ⟨fun h0=>k1 (.inl (by omega)),fun h0=>?_⟩
 by_cases h5:5<k
 ·rw [decide_eq_true h5]; exact k1 (.inr h5)
 rw [decide_eq_false h5];have hk:¬ (k≤0∨5<k):=by omega
 unfold zCn aF bF cF iV lF;simp (disch:=omega) only [SS,seval];refine pwithin_c.mono ?_;rintro r h1 n1 ⟨rfl,e1,e2⟩;rw [e1,e2]
 by_cases hn:0≤n∧n≤4096
 case neg =>
  rw [zGa hn];simp (disch:=omega) only [SS,seval];exact fin (by unfold zw; rw [if_neg hk,if_pos hn])
 rw [zEY hn];have hw:IntKind.wrap .i64 (n-1)=n-1:=zAf (by omega) (by omega);have hsrc:(k=4∨k=1∨k=2)→¬ (k=4∧¬ (0≤len∧len≤8192))→Cv Q O s 222 [.int .i64 src,.int .i64 (n-1)] (hset h nx (.cells [.int .i64 k,.int .i64 n,.int .i64 src,.int .i64 len,.slice a ds.length cap] false)) (nx+1) fun x41 h42 n43=>RK (oUn .not x41) fun x44=>IF x44 (EqK (.int .i64 (zw k n src len ds)) nx h (.int .i64 3) h42 n43) (zB2 s (EqK (.int .i64 (zw k n src len ds)) nx h) (.pointer (some ⟨nx,0,none⟩)) h42 n43):=fun hk3 h4=>by
  refine pwithin_c.mono ?_;rintro r h1 n1 ⟨rfl,e1,e2⟩;rw [e1,e2]
  by_cases hs:0≤src∧src≤n-1
  ·rw [zEY hs];simp (disch:=omega) only [SS,seval];exact last hk hn h4 (fun h=>h.2 hs)
  ·rw [zGa hs];simp (disch:=omega) only [SS,seval];exact fin (by unfold zw; rw [if_neg hk,if_neg (fun h=>h hn),if_neg h4,if_pos ⟨hk3,hs⟩])
 simp (disch:=omega) only [SS,hw,seval];refine ⟨fun h4=>?_,fun h4=>?_⟩
 ·have h4:k=4:=by simpa using h4
  refine pwithin_c.mono ?_;rintro r h1 n1 ⟨rfl,e1,e2⟩;rw [e1,e2]
  by_cases hl:0≤len∧len≤8192
  ·rw [zEY hl];simp (disch:=omega) only [SS,hw,seval];exact hsrc (.inl h4) (fun h=>h.2 hl)
  ·rw [zGa hl];simp (disch:=omega) only [SS,seval];exact fin (by unfold zw; rw [if_neg hk,if_neg (fun h=>h hn),if_pos ⟨h4,hl⟩])
 ·have h4:k≠4:=by simpa using h4
  refine ⟨fun h1=>?_,fun h1=>⟨fun h2=>?_,fun h2=>?_⟩⟩
  ·have h1:k=1:=by simpa using h1
   exact hsrc (.inr (.inl h1)) (fun h=>h4 h.1)
  ·have h2:k=2:=by simpa using h2
   exact hsrc (.inr (.inr h2)) (fun h=>h4 h.1)
  ·have h1:k≠1:=by simpa using h1
   have h2:k≠2:=by simpa using h2
   exact last hk hn (fun h=>h4 h.1) (fun h=>by rcases h.1 with h | h | h <;> contradiction)
def zr (n:Int) (es:List Edg3):Int:=if n<0 then 3 else if 4096<n∨65536<es.length then 5 else if es.any (badE n)=true then 3 else if es.any badW=true then 7 else 0
theorem rightE_V {n:Int} {es:List Edg3}:zr n es=0↔RightV n es:=by
 unfold zr RightV;constructor
 ·intro h
  split at h
  ·cases h
  ·split at h
   ·cases h
   ·split at h
    ·cases h
    ·split at h
     ·cases h
     ·rename_i h1 h2 h3 h4
      refine ⟨by omega,by omega,by omega,fun e he hb=>h3 (List.any_eq_true.2 ⟨e,he,badE_iff.2 hb⟩),fun e he hb=>h4 (List.any_eq_true.2 ⟨e,he,badW_iff.2 hb⟩)⟩
 ·rintro ⟨h1,h2,h3,h4,h5⟩;rw [if_neg (by omega),if_neg (by omega),if_neg,if_neg]
  ·intro h;obtain ⟨e,he,hb⟩:=List.any_eq_true.1 h;exact h5 e he (badW_iff.1 hb)
  ·intro h;obtain ⟨e,he,hb⟩:=List.any_eq_true.1 h;exact h4 e he (badE_iff.1 hb)
theorem zKf {s:Bool} {n:Int} {v:Value} {es:List Edg3} {h:Hp} {nx:Nat} (hv:SlPx h nx v enc3 es) :
  Cv Q O s 107 [.agg ⟨[.int .i64 n,v]⟩] h nx (EqK (.int .i64 (zr n es)) nx h):=by
 refine rightv ?_;obtain ⟨a,cap,rfl,hc⟩:=id hv;unfold right aF bF cF iV lF nC nF pC;simp (disch:=omega) only [SS,seval];have K1:Keep nx h (hset (hset (hset h nx (.cells [.int .i64 n,.slice a es.length cap] false)) (nx+1) (.cells [.nilFunc] false)) (nx+1) (.cells [.func (.func 192) ⟨[]⟩ ⟨[.pointer (some ⟨nx,0,none⟩)]⟩] false)):=fun b hb=>by rw [hold (by omega),hold (by omega),hold (by omega)]
 have no:∀ {e:Int},zr n es=e→∀ {h':Hp} {nx':Nat},Keep nx h h'→nx≤nx'→EqK (.int .i64 (zr n es)) nx h (.int .i64 e) h' nx':=fun {e} he {h' nx'} hk hle=>⟨by rw [he],hk,hle⟩
 refine ⟨fun h1=>no (by unfold zr; rw [if_pos h1]) K1 (by omega),fun h1=>⟨fun h2=>no (by unfold zr; rw [if_neg h1,if_pos (.inl h2)]) K1 (by omega),fun h2=>⟨fun h3=>no (by unfold zr; rw [if_neg h1,if_pos (.inr (by omega))]) K1 (by omega),fun h3=>?_⟩⟩⟩;have h23:¬ (4096<n∨65536<es.length):=by omega
 refine (zSC (badE n) (hv.keep K1 (by omega)) (by omega) (fun g hg h' nx' K hk hle hK=>?_)).mono ?_
 ·have g0:=hk nx (by omega);have g1:=hk (nx+1) (by omega);rw [hold (by omega),hold (by omega),hnew] at g0;rw [hnew] at g1;have kk:∀ {o},Keep nx' h' (hset h' nx' o):=(Keep.refl _ _).set (Nat.le_refl _);simp (disch:=omega) only [SS,seval];refine right2v ?_;unfold right2 enc3 aF lF pC;simp (disch:=omega) only [SS,g1,seval];refine zPw ?_;unfold zPx aF bF iV lF;simp (disch:=omega) only [SS,g0,seval];refine ⟨fun h1=>hK _ _ _ (by unfold badE; simp [h1]) kk (Nat.le_succ _),fun h1=>⟨fun h2=>hK _ _ _ (by unfold badE; simp [h1]; omega) kk (Nat.le_succ _),fun h2=>?_⟩⟩;simp (disch:=omega) only [SS,g1,seval];refine zPw ?_;unfold zPx aF bF iV lF;simp (disch:=omega) only [SS,g0,seval];refine ⟨fun h3=>hK _ _ _ (by unfold badE; simp [h3]) kk (Nat.le_succ _),fun h3=>?_⟩;refine hK _ _ _ ?_ kk (Nat.le_succ _);unfold badE;rw [decide_eq_false h1,decide_eq_true h2,decide_eq_false h3];rfl
 ·rintro r h4 nx4 ⟨rfl,hk4,hle4⟩;have g0:=hk4 nx (by omega);rw [hold (by omega),hold (by omega),hnew] at g0;have K4:=K1.trans hk4 (by omega);simp (disch:=omega) only [SS,g0,seval];refine ⟨fun h5=>no (by unfold zr; rw [if_neg h1,if_neg h23,if_pos h5]) K4 (by omega),fun h5=>?_⟩;have h5':¬ es.any (badE n)=true:=by rw [h5]; simp
  refine (zSC badW ((hv.keep K1 (by omega)).keep hk4 hle4) (by omega) (fun g hg h' nx' K hk hle hK=>?_)).mono ?_
  ·have kk:∀ {o},Keep nx' h' (hset h' nx' o):=(Keep.refl _ _).set (Nat.le_refl _);simp (disch:=omega) only [SS,seval];refine right3v ?_;unfold right3 enc3 aF bF iV lF pC;simp (disch:=omega) only [SS,seval];refine ⟨fun h1=>hK _ _ _ (by unfold badW; simp [h1]) kk (Nat.le_succ _),fun h1=>hK _ _ _ (by unfold badW; simp [h1]) kk (Nat.le_succ _)⟩
  ·rintro r h6 nx6 ⟨rfl,hk6,hle6⟩;have K6:=K4.trans hk6 (by omega);simp (disch:=omega) only [SS,seval];refine ⟨fun h7=>no (by unfold zr; rw [if_neg h1,if_neg h23,if_neg h5',if_pos h7]) K6 (by omega),fun h7=>no ?_ K6 (by omega)⟩;unfold zr; rw [if_neg h1,if_neg h23,if_neg h5',if_neg (by rw [h7]; simp)]
def zED (e:GE):GE:=⟨e.t,e.f,e.w⟩
def oneG (e:GE):GE:=⟨e.f,e.t,1⟩
def PassK (e:GE) (b:Bool) (nx:Nat) (h:Hp):KC':=EqK (.tuple ⟨[.agg ⟨[.int .i64 (e.f:Int),.int .i64 (e.t:Int),.int .i64 e.w]⟩,.bool b]⟩) nx h
theorem turned_c {s:Bool} {e:GE} {h:Hp} {nx:Nat}:Cv Q O s 309 [.agg ⟨[.int .i64 (e.f:Int),.int .i64 (e.t:Int),.int .i64 e.w]⟩] h nx (PassK (zED e) true nx h):=by
 refine turnedv ?_;unfold turned aF iV lA lF nC pC;simp (disch:=omega) only [SS,seval];exact ⟨rfl,(((Keep.refl _ _).set (Nat.le_refl _)).set (Nat.le_succ _)).set (Nat.le_succ _),by omega⟩
theorem plain1_c {s:Bool} {e:GE} {h:Hp} {nx:Nat}:Cv Q O s 230 [.agg ⟨[.int .i64 (e.f:Int),.int .i64 (e.t:Int),.int .i64 e.w]⟩] h nx (PassK (oneG e) true nx h):=by
 refine plain1v ?_;unfold plain1 aF iV lA nC pC;simp (disch:=omega) only [SS,seval];exact ⟨rfl,((((Keep.refl _ _).set (Nat.le_refl _)).set (Nat.le_succ _)).set (Nat.le_refl _)).set (Nat.le_succ _),by omega⟩
def zBo (e:GE):Bool:=decide (e.f≠e.t)
theorem zP9 {s:Bool} {e:GE} {h:Hp} {nx:Nat}:Cv Q O s 226 [.agg ⟨[.int .i64 (e.f:Int),.int .i64 (e.t:Int),.int .i64 e.w]⟩] h nx (PassK e (zBo e) nx h):=by
 refine simple1v ?_;unfold zPa aF bF gL iV lA lF nC pC;simp (disch:=omega) only [SS,seval];refine ⟨?_,(((Keep.refl _ _).set (Nat.le_refl _)).set (Nat.le_succ _)).set (Nat.le_succ _),by omega⟩;have:(!((e.f:Int) == (e.t:Int)))=zBo e:=by
  unfold zBo
  by_cases h:e.f=e.t
  ·rw [h]; simp
  ·rw [decide_eq_true h,beq_eq_false_iff_ne.2 (by omega)]; rfl
 rw [this]
def MaJ (N p1 p4 f:Nat) (v0:Value) (p:GE→Bool) (m:GE→GE) (gs:List GE) (nx:Nat) (h:Hp) (q:Nat) (vs:List Value) (h':Hp) (nx':Nat):Prop :=
 ∃ (i:Nat) (o:Value),q=gs.length-i∧i≤gs.length∧vs=[.func (.func f) ⟨[]⟩ ⟨[]⟩,.pointer (some ⟨p1,0,none⟩),.pointer (some ⟨p4,0,none⟩),o,v0,.int .i64 (gs.length:Int),.int .i64 (i:Int)] ∧
  hget h' p1=some (.cells [.int .i64 (N:Int),v0] false)∧hget h' p4=some (.cells [.int .i64 0,.slice none 0 0] false)∧SlAt h' o encG 3 (((gs.take i).filter p).map m) (nx+1+1) nx'∧Keep nx h h'∧nx+1+1≤nx'
theorem zRF {s:Bool} {N f:Nat} {p:GE→Bool} {m:GE→GE} {gs:List GE} {v:Value} {h:Hp} {nx:Nat} (hv:SlPx h nx v encG gs) (hN:N≤2147483648) (hl:gs.length≤120) (hok:∀ g∈(gs.filter p).map m,GOk N g)
  (hf:∀ (e:GE) (h:Hp) (nx:Nat),Cv Q O s f [.agg ⟨[.int .i64 (e.f:Int),.int .i64 (e.t:Int),.int .i64 e.w]⟩] h nx (PassK (m e) (p e) nx h)) :
  Cv Q O s 225 [.agg ⟨[.int .i64 (N:Int),v]⟩,.func (.func f) ⟨[]⟩ ⟨[]⟩] h nx (CanK N ((gs.filter p).map m) nx h):=by
 refine madev ?_;obtain ⟨a,cap,rfl,hc⟩:=id hv;unfold made aF cF iV lA lF nC nF nS pC;simp (disch:=omega) only [SS,seval];have hml:((gs.filter p).map m).length≤gs.length:=by rw [List.length_map]; exact List.length_filter_le _ _
 have K0:∀ {o o'},Keep nx h (hset (hset h nx o) (nx+1) o'):=((Keep.refl _ _).set (Nat.le_refl _)).set (Nat.le_succ _);refine Lp.mk (MaJ N nx (nx+1) f (.slice a gs.length cap) p m gs nx h) gs.length ⟨0,_,rfl,by omega,rfl,by rw [hold (by omega),hnew],hnew _ _ _,.inl ⟨rfl,rfl⟩,K0,Nat.le_refl _⟩ ?_;rintro q _ h1 nx1 ⟨i,o,rfl,hi,rfl,g1,g4,S,hk,hle⟩;rw [madeb0];unfold madel0 bF iV lA nC xF;simp (disch:=omega) only [SS,seval];refine ⟨fun hlt=>?_,fun hge=>?_⟩
 ·obtain ⟨e,he⟩:=zY hlt;obtain ⟨_,b,sp,ro,c1,cs,hb,e1,hg⟩:=hv.at he;cases e1;have hrd:zAL (some 3) (i*3) (flat encG gs++cs) = .ok (.agg ⟨[.int .i64 (e.f:Int),.int .i64 (e.t:Int),.int .i64 e.w]⟩):=rdP (enc:=encG) (k:=3) (fun _=>rfl) he (cs:=cs);simp (disch:=omega) only [SS,(hk b hb).trans hg,hrd,seval];refine (hf e _ _).mono ?_;rintro r h2 nx2 ⟨rfl,hk2,hle2⟩;have kk:Keep nx1 h1 h2:=(((Keep.refl nx1 h1).set (Nat.le_refl _)).set (Nat.le_refl _)).trans hk2 (Nat.le_succ _);have ht:((gs.take (i+1)).filter p).map m=((gs.take i).filter p).map m++(if p e then [m e] else []):=by
   rw [List.take_add_one,he,List.filter_append,List.map_append];cases hp:p e <;> simp [hp]
  simp (disch:=omega) only [SS,seval];refine ⟨fun hp=>?_,fun hp=>?_⟩
  ·refine zBe (enc:=encG) (k:=3) (lo:=nx+1+1) (fun _=>rfl) (fun _=>rfl) (by omega) (S.keep (fun c h1 h2=>by rw [hold (by omega),hold (by omega),hold (by omega),kk c h2]) (by omega)) (by omega) (m e) (hnew _ _ _) rfl ?_ fun v5 h5 hs5 hk5=>?_
   ·have h1:=List.length_filter_le p (gs.take i);have h2:=List.length_take_le i gs;rw [List.length_map];omega
   ·refine ⟨gs.length-(i+1),by omega,i+1,v5,rfl,by omega,by rw [zI (by omega)],?_,?_,by rw [ht,hp]; exact hs5,fun c hc=>?_,by omega⟩
    ·rw [hk5 _ (by omega),hold (by omega),hold (by omega),hold (by omega),kk _ (by omega)]; exact g1
    ·rw [hk5 _ (by omega),hold (by omega),hold (by omega),hold (by omega),kk _ (by omega)]; exact g4
    ·rw [hk5 _ (by omega),hold (by omega),hold (by omega),hold (by omega),kk _ (by omega)]; exact hk c hc
  ·refine ⟨gs.length-(i+1),by omega,i+1,o,rfl,by omega,by rw [zI (by omega)],?_,?_,?_,fun c hc=>?_,by omega⟩
   ·rw [hold (by omega),hold (by omega),kk _ (by omega)]; exact g1
   ·rw [hold (by omega),hold (by omega),kk _ (by omega)]; exact g4
   ·rw [ht,hp];simp only [Bool.false_eq_true,if_false,List.append_nil];exact S.keep (fun c h1 h2=>by rw [hold (by omega),hold (by omega),kk c h2]) (by omega)
   ·rw [hold (by omega),hold (by omega),kk _ (by omega)]; exact hk c hc
 ·have hie:i=gs.length:=by omega
  subst hie;rw [List.take_length] at S;obtain ⟨a2,n2,c2,rfl⟩:=S.form;simp (disch:=omega) only [SS,g1,seval];refine (zS2 (SlPx.of S.rd) hN hok (by omega)).mono ?_;rintro r h2 nx2 ⟨v2,cs,rfl,hcs,hcan,hcok,hcl,hk2,hle2⟩;obtain ⟨a3,n3,c3,rfl⟩:=hcs.form;have g4':=(hk2 (nx+1) (by omega)).trans g4;simp (disch:=omega) only [SS,g4',seval];refine ⟨_,cs,rfl,?_,hcan,hcok,hcl,fun c hc=>by rw [hold (by omega),hk2 c (by omega)]; exact hk c hc,by omega⟩;rcases hcs with hcs | ⟨b,h1,h2,e,hb⟩
  ·exact .inl hcs
  ·exact .inr ⟨b,by omega,h2,e,by rw [hold (by omega)]; exact hb⟩
def zPZ (gs:List GE):List GE:=(gs.filter fun _=>true).map zED
def zDa (gs:List GE):List GE:=(gs.filter zBo).map id
def zGM (gs:List GE):List GE:=(gs.filter fun _=>true).map oneG
theorem zMB {N:Nat} {gs:List GE} (h:∀ g∈gs,GOk N g):∀ g∈zPZ gs,GOk N g:=fun g hg=>by
 obtain ⟨e,he,rfl⟩:=List.mem_map.1 hg;have:=h e (List.mem_filter.1 he).1;exact ⟨this.2.1,this.1,this.2.2⟩
theorem zHX {N:Nat} {gs:List GE} (h:∀ g∈gs,GOk N g):∀ g∈zDa gs,GOk N g:=fun g hg=>by
 obtain ⟨e,he,rfl⟩:=List.mem_map.1 hg;exact h e (List.mem_filter.1 he).1
theorem zJX {N:Nat} {gs:List GE} (h:∀ g∈gs,GOk N g):∀ g∈zGM gs,GOk N g:=fun g hg=>by
 obtain ⟨e,he,rfl⟩:=List.mem_map.1 hg;have:=h e (List.mem_filter.1 he).1;exact ⟨this.1,this.2.1,by show (0:Int)≤1; omega,by show (1:Int)≤2147483647; omega⟩
theorem zAU {p:GE→Bool} {m:GE→GE} (gs:List GE):((gs.filter p).map m).length≤gs.length:=by rw [List.length_map]; exact List.length_filter_le _ _
theorem zPY {s:Bool} {N:Nat} {gs:List GE} {v:Value} {h:Hp} {nx:Nat} (hv:SlPx h nx v encG gs) (hN:N≤2147483648) (hl:gs.length≤120) (hok:∀ g∈gs,GOk N g) :
  Cv Q O s 229 [.agg ⟨[.int .i64 (N:Int),v]⟩] h nx (CanK N (zPZ gs) nx h):=by
 refine turnv ?_;obtain ⟨a,cap,rfl,hc⟩:=id hv;unfold turn cF iV lA nC nS pC;simp (disch:=omega) only [SS,seval];have K0:∀ {o o'},Keep nx h (hset (hset h nx o) (nx+1) o'):=((Keep.refl _ _).set (Nat.le_refl _)).set (Nat.le_succ _);refine (zRF (p:=fun _=>true) (m:=zED) (hv.keep K0 (by omega)) hN hl (zMB hok) fun e h nx=>turned_c).mono ?_;rintro r h2 nx2 ⟨v2,cs,rfl,hcs,hcan,hcok,hcl,hk2,hle2⟩;obtain ⟨a3,n3,c3,rfl⟩:=hcs.form;have g4':=hk2 (nx+1) (by omega);rw [hnew] at g4';simp (disch:=omega) only [SS,g4',seval];refine ⟨_,cs,rfl,?_,hcan,hcok,Nat.le_trans hcl (Nat.le_refl _),fun c hc=>by rw [hold (by omega),hk2 c (by omega)]; exact K0 c hc,by omega⟩;rcases hcs with hcs | ⟨b,h1,h2,e,hb⟩
 ·exact .inl hcs
 ·exact .inr ⟨b,by omega,h2,e,by rw [hold (by omega)]; exact hb⟩
theorem zMI {s:Bool} {N:Nat} {gs:List GE} {v:Value} {h:Hp} {nx:Nat} (hv:SlPx h nx v encG gs) (hN:N≤2147483648) (hl:gs.length≤120) (hok:∀ g∈gs,GOk N g) :
  Cv Q O s 129 [.agg ⟨[.int .i64 (N:Int),v]⟩] h nx (CanK N (zDa gs) nx h):=by
 refine simplev ?_;obtain ⟨a,cap,rfl,hc⟩:=id hv;unfold simple cF iV lA nC nS pC;simp (disch:=omega) only [SS,seval];have K0:∀ {o o'},Keep nx h (hset (hset h nx o) (nx+1) o'):=((Keep.refl _ _).set (Nat.le_refl _)).set (Nat.le_succ _);refine (zRF (p:=zBo) (m:=id) (hv.keep K0 (by omega)) hN hl (zHX hok) fun e h nx=>zP9).mono ?_;rintro r h2 nx2 ⟨v2,cs,rfl,hcs,hcan,hcok,hcl,hk2,hle2⟩;obtain ⟨a3,n3,c3,rfl⟩:=hcs.form;have g4':=hk2 (nx+1) (by omega);rw [hnew] at g4';simp (disch:=omega) only [SS,g4',seval];refine ⟨_,cs,rfl,?_,hcan,hcok,Nat.le_trans hcl (Nat.le_refl _),fun c hc=>by rw [hold (by omega),hk2 c (by omega)]; exact K0 c hc,by omega⟩;rcases hcs with hcs | ⟨b,h1,h2,e,hb⟩
 ·exact .inl hcs
 ·exact .inr ⟨b,by omega,h2,e,by rw [hold (by omega)]; exact hb⟩
theorem zQd {s:Bool} {N:Nat} {gs:List GE} {v:Value} {h:Hp} {nx:Nat} (hv:SlPx h nx v encG gs) (hN:N≤2147483648) (hl:gs.length≤120) (hok:∀ g∈gs,GOk N g) :
  Cv Q O s 131 [.agg ⟨[.int .i64 (N:Int),v]⟩] h nx (CanK N (zGM gs) nx h):=by
 refine plainv ?_;obtain ⟨a,cap,rfl,hc⟩:=id hv;unfold plain cF iV lA nC nS pC;simp (disch:=omega) only [SS,seval];have K0:∀ {o o'},Keep nx h (hset (hset h nx o) (nx+1) o'):=((Keep.refl _ _).set (Nat.le_refl _)).set (Nat.le_succ _);refine (zRF (p:=fun _=>true) (m:=oneG) (hv.keep K0 (by omega)) hN hl (zJX hok) fun e h nx=>plain1_c).mono ?_;rintro r h2 nx2 ⟨v2,cs,rfl,hcs,hcan,hcok,hcl,hk2,hle2⟩;obtain ⟨a3,n3,c3,rfl⟩:=hcs.form;have g4':=hk2 (nx+1) (by omega);rw [hnew] at g4';simp (disch:=omega) only [SS,g4',seval];refine ⟨_,cs,rfl,?_,hcan,hcok,Nat.le_trans hcl (Nat.le_refl _),fun c hc=>by rw [hold (by omega),hk2 c (by omega)]; exact K0 c hc,by omega⟩;rcases hcs with hcs | ⟨b,h1,h2,e,hb⟩
 ·exact .inl hcs
 ·exact .inr ⟨b,by omega,h2,e,by rw [hold (by omega)]; exact hb⟩
theorem zI7 {α:Type} {enc:α→List Value}:∀ (l m:List α),flat enc (l++m)=flat enc l++flat enc m
 | [],m=>rfl
 | x::l,m=>by show enc x++flat enc (l++m)=enc x++flat enc l++flat enc m; rw [zI7 l m,List.append_assoc]
theorem zFE:∀ l:List GE,zV (flat encG l)=true
 | []=>rfl
 | x::l=>by
  show zV (encG x++flat encG l)=true;have ih:=zFE l;show (zA9 (.int .i64 (x.f:Int))&&(zA9 (.int .i64 (x.t:Int))&&(zA9 (.int .i64 x.w)&&zV (flat encG l))))=true;rw [ih]; rfl
theorem app_many {h:Hp} {nx b k n:Nat} {acc y:List GE} {cs:List Value} {v2:Value} (hb:hget h b=some (.cells (flat encG acc++cs) false)) (hk:acc.length=k) (hn:k+y.length≤n) (hcs:cs.length=(n-k)*3) (hv:SlPx h nx v2 encG y) :
  ∃ h',zH 3 h nx (.slice (some ⟨b,0,some 3⟩) k n) v2 = .ok (.val (.slice (some ⟨b,0,some 3⟩) (k+y.length) n) h' nx)∧hget h' b=some (.cells (flat encG (acc++y)++cs.drop (y.length*3)) false)∧∀ c,c≠b→hget h' c=hget h c:=by
 obtain ⟨a2,c2,rfl,hc⟩:=hv
 by_cases h0:y=[]
 ·subst h0;refine ⟨h,?_,by rw [List.append_nil,List.length_nil,Nat.zero_mul,List.drop_zero]; exact hb,fun c _=>rfl⟩;have hr:∀ (K:List Value→R OR),zCb h a2 (Nat.mul 0 3) K=K []:=fun K=>by
   cases a2 <;> rfl
  show zCb h a2 (Nat.mul 0 3) (fun new=>zAa 3 h nx (some ⟨b,0,some 3⟩) k n 0 new)=_;rw [hr];unfold zAa;rw [show Nat.ble (Nat.add k 0) n=true from Nat.ble_eq_true_of_le (by simpa using hn)];rfl
 ·obtain ⟨b2,sp,ro,cs2,hb2,rfl,hg⟩:=hc h0;have hyl:0<y.length:=List.length_pos_iff.2 h0;have hfl:=zo (enc:=encG) (k:=3) (fun _=>rfl) (l:=y);have hfa:=zo (enc:=encG) (k:=3) (fun _=>rfl) (l:=acc);show ∃ h',zCb h (some ⟨b2,0,sp⟩) (Nat.mul y.length 3) (fun new=>zAa 3 h nx (some ⟨b,0,some 3⟩) k n y.length new)=_∧_;rw [show Nat.mul y.length 3=y.length*3 from rfl,zBR hg (by omega) (by rw [List.length_append,hfl]; omega),List.drop_zero,← hfl,List.take_left];unfold zAa;rw [show Nat.ble (Nat.add k y.length) n=true from Nat.ble_eq_true_of_le hn];obtain ⟨x,r,hxr⟩:∃ x r,flat encG y=x::r:=by
   cases hf:flat encG y with
   | nil=>rw [hf] at hfl; simp at hfl; omega
   | cons x r=>exact ⟨x,r,rfl⟩
  have hw:zBO h b (Nat.add 0 (Nat.mul k 3)) (flat encG y) = .ok (hset h b (.cells (flat encG (acc++y)++cs.drop (y.length*3)) false)):=by
   rw [show Nat.add 0 (Nat.mul k 3)=k*3 from Nat.zero_add _,zJB hb (zFE y) (by rw [List.length_append,hfa,hfl,hcs,hk]; omega)];have e1:(flat encG acc++cs).take (k*3)=flat encG acc:=by rw [← hk,← hfa,List.take_left]
   have e2:(flat encG acc++cs).drop (k*3+(flat encG y).length)=cs.drop (y.length*3):=by rw [← hk,← hfa,hfl,List.drop_length_add_append]
   rw [e1,e2,zI7]
  refine ⟨hset h b (.cells (flat encG (acc++y)++cs.drop (y.length*3)) false),?_,by rw [hgs,if_pos rfl,hfl],fun c hc=>by rw [hgs,if_neg hc]⟩;rw [hxr] at hw ⊢;show R.bind (zBO h b (Nat.add 0 (Nat.mul k 3)) (x::r)) _=_;rw [hw]; rfl
theorem cap22 {P:Program} {x:Value} {n:Nat}:vCap Tryz.prog (.builtin .cap) [26] [.slice none 0 0] = .ok (.int .i64 0):=by kernel_rfl
theorem ze1:zBa Tryz.prog 26=some 84:=by kernel_rfl
theorem ze2:szOf Tryz.prog 84=some 3:=by kernel_rfl
theorem ze3:zBN Tryz.prog 84=some [.int .i64 0,.int .i64 0,.int .i64 0]:=by kernel_rfl
theorem ze4:zFL Tryz.prog 84=true:=by kernel_rfl
theorem ze5:zG6 Tryz.prog (some 3)=true:=by kernel_rfl
theorem repL_len (n:Nat) (z:List Value):(repL n z).length=n*z.length:=by
 induction n with
 | zero=>simp [repL]
 | succ n ih=>simp [repL,ih,Nat.add_mul,zm]; omega
theorem apz {n:Nat} {h:Hp} {nx:Nat} (h0:0<n) (h1:n≤1000):zBt Tryz.prog .append [26,3] h nx [.slice none 0 0,.int .i64 (n:Int)] = .ok (.val (.slice (some ⟨nx,0,some 3⟩) n n) (hset h nx (.cells (repL n [.int .i64 0,.int .i64 0,.int .i64 0]) false)) (nx+1)):=by
 show R.of "append" (zBa Tryz.prog 26) (fun e=>R.of "append" (szOf Tryz.prog e) (fun s=>R.of "append" (zBN Tryz.prog e) (fun z=>bif Nat.beq (llen z) s&&zFL Tryz.prog e then zEA Tryz.prog [26,3] z s h nx (.slice none 0 0) (.int .i64 (n:Int)) else .no "append - element")))=_;rw [ze1];show R.of "append" (szOf Tryz.prog 84) (fun s=>R.of "append" (zBN Tryz.prog 84) (fun z=>bif Nat.beq (llen z) s&&zFL Tryz.prog 84 then zEA Tryz.prog [26,3] z s h nx (.slice none 0 0) (.int .i64 (n:Int)) else .no "append - element"))=_;rw [ze2,ze3,ze4];show zEA Tryz.prog [26,3] [.int .i64 0,.int .i64 0,.int .i64 0] 3 h nx (.slice none 0 0) (.int .i64 (n:Int))=_;unfold zEA;rw [show lget [26,3] 1=some 3 from rfl,ze5];show (bif Nat.ble n 1000000 then zAa 3 h nx none 0 0 n (repL n [.int .i64 0,.int .i64 0,.int .i64 0]) else .no "append")=_;rw [show Nat.ble n 1000000=true from Nat.ble_eq_true_of_le (by omega)];show zAa 3 h nx none 0 0 n _=_;unfold zAa;rw [show Nat.ble (Nat.add 0 n) 0=false from by
  cases hb:Nat.ble (Nat.add 0 n) 0 with
  | false=>rfl
  | true=>have:=Nat.le_of_ble_eq_true hb; have e:Nat.add 0 n=n:=Nat.zero_add n; omega]
 rw [show (Nat.ble (Nat.mul (Nat.add 0 n) 3) 1000000&&Nat.ble (Nat.add 0 n) 1000000)=true from by
  rw [show Nat.add 0 n=n from Nat.zero_add n];simp only [Bool.and_eq_true,Nat.ble_eq];constructor
  ·show n*3≤_; omega
  ·omega]
 show zE1 h nx 3 _ (Nat.add 0 n)=_;rw [show Nat.add 0 n=n from Nat.zero_add n];exact zBD (by omega)
theorem grow_c {s:Bool} {n:Nat} {h:Hp} {nx:Nat} (hn:n≤1000):Cv Q O s 308 [.slice none 0 0,.int .i64 (n:Int)] h nx (fun r h' nx'=>(n=0∧r = .slice none 0 0∧h'=h∧nx'=nx)∨(0<n∧r = .slice (some ⟨nx,0,some 3⟩) 0 n∧(∃ cs,hget h' nx=some (.cells cs false)∧cs.length=n*3)∧Keep nx h h'∧nx'=nx+1)):=by
 refine growv ?_;unfold grow bF iV nF;rw [cap22 (P:=Tryz.prog) (x:=.nilFunc) (n:=0)];have w0:IntKind.wrap .i64 (0-((0:Nat):Int))=0:=by rfl
 have w1:IntKind.wrap .i64 ((n:Int)-0)=(n:Int):=by rw [Int.sub_zero]; exact zBh n (by omega)
 simp (disch:=omega) only [SS,↓reduceIte,Nat.reduceAdd,Nat.reduceSub,Nat.reduceMul,Nat.reduceLT,Nat.reduceLeDiff,Nat.reduceEqDiff,Int.reduceBEq,Int.reduceLT,Int.reduceNeg,w0,w1];refine ⟨fun h=>absurd h (by omega),fun _=>⟨fun h0=>?_,fun h0=>.inl (by omega)⟩⟩;rw [show vSl 3 (.slice none 0 0) none (some (.int .i64 0)) none = .ok (.slice none 0 0) from rfl,zc,show Q=Tryz.prog from rfl,apz (by omega) hn];show RK (vSl 3 (.slice (some ⟨nx,0,some 3⟩) n n) none (some (.int .i64 ((0:Nat):Int))) none) _;have hsl:vSl 3 (.slice (some ⟨nx,0,some 3⟩) n n) none (some (.int .i64 ((0:Nat):Int))) none = .ok (.slice (some ⟨nx,0,some 3⟩) 0 n):=by
  obtain ⟨m,rfl⟩:∃ m,n=m+1:=⟨n-1,by omega⟩
  show zD1 3 (some ⟨nx,0,some 3⟩) (m+1) false (m+1) 0 0=_;unfold zD1;rw [show (Nat.ble (m+1) (m+1)&&(Nat.ble 0 (m+1)&&Nat.ble 0 0))=true by simp only [Bool.and_eq_true,Nat.ble_eq]; omega];rfl
 rw [hsl,zc];exact .inr ⟨by omega,rfl,⟨_,hnew _ _ _,by rw [repL_len]; rfl⟩,fun c hc=>hold (by omega),rfl⟩
def ac2 (l1 l2:List GE):Nat→List GE
 | 0=>[]
 | 1=>l1
 | _=>l1++l2
def CcJ0 (l1 l2:List GE) (p:Nat) (h:Hp) (nx:Nat) (m:Nat) (vs:List Value) (h':Hp) (nx':Nat):Prop :=
 ∃ i,m=2-i∧i≤2∧vs=[.slice (some ⟨p,0,none⟩) 2 2,.int .i64 ((ac2 l1 l2 i).length:Int),.slice (some ⟨p,0,none⟩) 2 2,.int .i64 2,.int .i64 (i:Int)]∧h'=h∧nx'=nx
def CcO (h:Hp) (lo hi n:Nat) (acc:List GE) (o:Value):Prop:=(n=0∧acc=[]∧o = .slice none 0 0)∨∃ b cs,lo≤b∧b<hi∧o = .slice (some ⟨b,0,some 3⟩) acc.length n∧hget h b=some (.cells (flat encG acc++cs) false)∧cs.length=(n-acc.length)*3
def CcJ1 (l1 l2:List GE) (n p:Nat) (h:Hp) (nx:Nat) (m:Nat) (vs:List Value) (h':Hp) (nx':Nat):Prop :=
 ∃ (i:Nat) (o:Value),m=2-i∧i≤2∧vs=[o,.slice (some ⟨p,0,none⟩) 2 2,.int .i64 2,.int .i64 (i:Int)]∧CcO h' nx nx' n (ac2 l1 l2 i) o∧Keep nx h h'∧nx≤nx'
theorem concat_c {s:Bool} {p c:Nat} {l1 l2:List GE} {v1 v2:Value} {ro:Bool} {h:Hp} {nx:Nat} (hp:hget h p=some (.cells [v1,v2] ro)) (hpn:p<nx) (h1:SlPx h nx v1 encG l1) (h2:SlPx h nx v2 encG l2) (hl:l1.length+l2.length≤1000) :
  Cv Q O s 228 [.slice (some ⟨p,0,none⟩) 2 2] h nx (fun r h' nx'=>SlPx h' nx' r encG (l1++l2)∧Keep nx h h'∧nx≤nx'):=by
 refine concatv ?_;obtain ⟨a1,c1,rfl,hc1⟩:=id h1;obtain ⟨a2,c2,rfl,hc2⟩:=id h2;unfold concat cF iV nF nS;simp (disch:=omega) only [SS,↓reduceIte,Nat.reduceAdd,Nat.reduceSub,Nat.reduceMul,Nat.reduceLT,Nat.reduceLeDiff,Nat.reduceEqDiff,Int.reduceBEq,Int.reduceLT,Int.reduceNeg];refine Lp.mk (CcJ0 l1 l2 p h nx) 2 ⟨0,rfl,by omega,rfl,rfl,rfl⟩ ?_;rintro m _ h3 nx3 ⟨i,rfl,hi,rfl,e1,e2⟩;rw [e1,e2,concatb0];unfold zNP bF iV lF nF xF
 match i,hi with
 | 0,_ =>
  have w:IntKind.wrap .i64 (((ac2 l1 l2 0).length:Int)+(l1.length:Int))=((ac2 l1 l2 1).length:Int):=by
   rw [show ((ac2 l1 l2 0).length:Int)+(l1.length:Int)=(l1.length:Int) by simp [ac2]];exact zBh _ (by omega)
  simp (disch:=omega) only [SS,↓reduceIte,Nat.reduceAdd,Nat.reduceSub,Nat.reduceMul,Nat.reduceLT,Nat.reduceLeDiff,Nat.reduceEqDiff,Int.reduceBEq,Int.reduceLT,Int.reduceNeg,hp,w];exact ⟨fun _=>⟨fun h=>absurd h (by omega),fun _=>⟨1,by omega,1,rfl,by omega,rfl,rfl,rfl⟩⟩,fun h=>absurd (show ((0:Nat):Int)<2 by omega) h⟩
 | 1,_ =>
  have w:IntKind.wrap .i64 (((ac2 l1 l2 1).length:Int)+(l2.length:Int))=((ac2 l1 l2 2).length:Int):=by
   rw [show ((ac2 l1 l2 1).length:Int)+(l2.length:Int)=((l1.length+l2.length:Nat):Int) by simp [ac2]];rw [zBh _ (by omega)]; simp [ac2]
  simp (disch:=omega) only [SS,↓reduceIte,Nat.reduceAdd,Nat.reduceSub,Nat.reduceMul,Nat.reduceLT,Nat.reduceLeDiff,Nat.reduceEqDiff,Int.reduceBEq,Int.reduceLT,Int.reduceNeg,hp,w];exact ⟨fun _=>⟨fun h=>absurd h (by omega),fun _=>⟨0,by omega,2,rfl,by omega,rfl,rfl,rfl⟩⟩,fun h=>absurd (show ((1:Nat):Int)<2 by omega) h⟩
 | 2,_ =>
  simp (disch:=omega) only [SS,↓reduceIte,Nat.reduceAdd,Nat.reduceSub,Nat.reduceMul,Nat.reduceLT,Nat.reduceLeDiff,Nat.reduceEqDiff,Int.reduceBEq,Int.reduceLT,Int.reduceNeg];refine ⟨fun h=>absurd h (by omega),fun _=>?_⟩;have htot:(ac2 l1 l2 2).length=l1.length+l2.length:=by simp [ac2]
  refine (grow_c (by omega)).mono ?_;intro r h4 nx4 hg;generalize hn:(ac2 l1 l2 2).length=n at hg htot;have st:CcO h4 nx nx4 n [] r∧Keep nx h h4∧nx≤nx4:=by
   rcases hg with ⟨h0,rfl,rfl,rfl⟩ | ⟨h0,rfl,⟨cs,hb,hcs⟩,hk,rfl⟩
   ·exact ⟨.inl ⟨h0,rfl,rfl⟩,Keep.refl _ _,Nat.le_refl _⟩
   ·exact ⟨.inr ⟨nx,cs,Nat.le_refl _,by omega,rfl,hb,by rw [hcs]; rfl⟩,hk,by omega⟩
  obtain ⟨st,hk4,hle4⟩:=st;refine Lp.mk (CcJ1 l1 l2 n p h nx) 2 ⟨0,r,rfl,by omega,rfl,st,hk4,hle4⟩ ?_;clear st hk4 hle4 hg;rintro m _ h5 nx5 ⟨i,o,rfl,hi,rfl,st,hk5,hle5⟩;rw [concatb1];unfold zNO bF iV lF xF;have hp5:=(hk5 p hpn).trans hp;have step:∀ (j:Nat) (y:List GE) (vy:Value),SlPx h nx vy encG y→ac2 l1 l2 (j+1)=ac2 l1 l2 j++y→(ac2 l1 l2 (j+1)).length≤n→CcO h5 nx nx5 n (ac2 l1 l2 j) o→j+1≤2 →
    EK (orR (zH 3 h5 nx5 o vy)) fun x23 h24 n25=>RK (bin Q .add 3 (.int .i64 (j:Int)) (.int .i64 1)) fun x26=>∃ m',m'<2-j∧CcJ1 l1 l2 n p h nx m' [x23,.slice (some ⟨p,0,none⟩) 2 2,.int .i64 2,x26] h24 n25:=by
   intro j y vy hy he hlen st hj;rcases st with ⟨hn0,hac,rfl⟩ | ⟨b,cs,hb1,hb2,rfl,hb,hcs⟩
   ·have hy0:y=[]:=by
     rw [he,hac,hn0] at hlen;exact List.eq_nil_of_length_eq_zero (by simpa using hlen)
    subst hy0;obtain ⟨a3,c3,rfl,_⟩:=hy;have ea:zH 3 h5 nx5 (.slice none 0 0) (.slice a3 ([]:List GE).length c3) = .ok (.val (.slice none 0 0) h5 nx5):=by cases a3 <;> rfl
    rw [ea];simp (disch:=omega) only [SS,↓reduceIte,Nat.reduceAdd,Nat.reduceSub,Nat.reduceMul,Nat.reduceLT,Nat.reduceLeDiff,Nat.reduceEqDiff,Int.reduceBEq,Int.reduceLT,Int.reduceNeg,orR,EK_v,zI (show j<1000000000000 by omega)];exact ⟨2-(j+1),by omega,j+1,_,rfl,hj,rfl,.inl ⟨hn0,by rw [he,hac]; rfl,rfl⟩,hk5,hle5⟩
   ·rw [he,List.length_append] at hlen;obtain ⟨h6,e6,hb6,hf6⟩:=app_many (nx:=nx5) hb rfl (by omega) hcs (hy.keep hk5 hle5);rw [e6];simp (disch:=omega) only [SS,↓reduceIte,Nat.reduceAdd,Nat.reduceSub,Nat.reduceMul,Nat.reduceLT,Nat.reduceLeDiff,Nat.reduceEqDiff,Int.reduceBEq,Int.reduceLT,Int.reduceNeg,orR,EK_v,zI (show j<1000000000000 by omega)];refine ⟨2-(j+1),by omega,j+1,_,rfl,hj,rfl,.inr ⟨b,cs.drop (y.length*3),hb1,hb2,?_,?_,?_⟩,fun c hc=>by rw [hf6 c (by omega)]; exact hk5 c hc,hle5⟩
    ·rw [he,List.length_append]
    ·rw [he]; exact hb6
    ·rw [he,List.length_append,List.length_drop,hcs]; omega
  match i,hi with
  | 0,_ =>
   simp (disch:=omega) only [SS,↓reduceIte,Nat.reduceAdd,Nat.reduceSub,Nat.reduceMul,Nat.reduceLT,Nat.reduceLeDiff,Nat.reduceEqDiff,Int.reduceBEq,Int.reduceLT,Int.reduceNeg,hp5];exact ⟨fun _=>step 0 l1 _ h1 rfl (by rw [htot]; simp [ac2]) st (by omega),fun h=>absurd (show ((0:Nat):Int)<2 by omega) h⟩
  | 1,_ =>
   simp (disch:=omega) only [SS,↓reduceIte,Nat.reduceAdd,Nat.reduceSub,Nat.reduceMul,Nat.reduceLT,Nat.reduceLeDiff,Nat.reduceEqDiff,Int.reduceBEq,Int.reduceLT,Int.reduceNeg,hp5];exact ⟨fun _=>step 1 l2 _ h2 rfl (by rw [hn]; exact Nat.le_refl _) st (by omega),fun h=>absurd (show ((1:Nat):Int)<2 by omega) h⟩
  | 2,_ =>
   simp (disch:=omega) only [SS,↓reduceIte,Nat.reduceAdd,Nat.reduceSub,Nat.reduceMul,Nat.reduceLT,Nat.reduceLeDiff,Nat.reduceEqDiff,Int.reduceBEq,Int.reduceLT,Int.reduceNeg];refine ⟨fun h=>absurd h (by omega),fun _=>⟨?_,hk5,hle5⟩⟩;rcases st with ⟨hn0,hac,rfl⟩ | ⟨b,cs,hb1,hb2,rfl,hb,hcs⟩
   ·have hac:l1++l2=[]:=hac;rw [hac];exact ⟨none,0,rfl,fun h=>absurd rfl h⟩
   ·exact ⟨some ⟨b,0,some 3⟩,n,rfl,fun _=>⟨b,some 3,false,cs,hb2,rfl,hb⟩⟩
end Go.Proofs.YtcjochjiegiliaaGreat
