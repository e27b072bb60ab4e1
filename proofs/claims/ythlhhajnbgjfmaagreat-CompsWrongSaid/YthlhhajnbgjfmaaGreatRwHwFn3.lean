/- Parts of the proof: HwFn3: each statement bears its own conditions. -/
import Derived.Test.YthlhhajnbgjfmaaGreatRwHwFn2
namespace Go.Proofs.YthlhhajnbgjfmaaGreat
open Go Go.Ax
set_option linter.all false
set_option maxHeartbeats 1000000
set_option maxRecDepth 1000000
variable {U:Nat} {af:aa GE} {s:ak} {h:ad} {v:X} {n:Nat} {N R:aH} {l:aa Int} {r:Nat} {aF:aH} {i:Nat} {aZ:X} {c:Nat} {a3 bo:X} {k:Nat} {a0 bf ax dT a2:X} {p:Nat->ak} {cZ dO:X} {ac:ad} {aV:X} {Y:Nat} {fi:X} {ao ai:Nat} {bl:X} {a:av Addr} {cH:X} {aO:av Nat} {m:Int} {b j:Nat} {aJ:aH} {q:Nat->ak} {en kO gC hW lC mP:X} {f:Nat->Int} {x:Int} {ew gi:X} {bC:ak} {ed da cap:Nat} {g:GE} {w:Nat}
theorem alg{k n src len D A:Int}{E:aa Int}{B:aa gS}(L:cN h U ew cG E)(Z:dq h U gi gc B)(K:B.length<=60\/65536<B.length):
  aD Q s 86 [.agg ⟨[(k:X),(n:X),(src:X),(len:X),ew]⟩,.agg ⟨[(D:X),gi]⟩,(A:X)] h U (cI (.int .i64 (nj k n src len E D B A)) U h):=by
 refine bS ?_;obtain⟨a,cap,rfl,aU⟩:=id L;obtain⟨a2,P,rfl,qk⟩:=id Z;refine aB ?_;have V:∀{o aW},az U h (F (F h U o) (U+1) aW):=aC
 refine(alf (L.T V J) (Z.T V J) K).mono ?_;rintro r h1 C ⟨m,rfl,dD,eT,M⟩;obtain⟨x,y,de,bO,d6,a6,bH,bR,c1,c2,h8,rfl⟩:=dD.form;have I:∀{o aW},az U h (F (F h1 C o) C aW):=aC
 unfold Bd
 by_cases ap:iB k n src len E D B=0
 case neg =>
  have aG:(iB k n src len E D B == 0)=false:=ab
  refine a9 @aG ?_;exact⟨by unfold nj;grind,I,J⟩
 rw[ap];have e:nj k n src len E D B A=if A<0\/8192<A then 3 else 0:=by unfold nj;omega
 refine aB ?_;rw[e];refine⟨λal=>⟨ab,I,J⟩,λal=>⟨λaM=>⟨ab,I,J⟩,λaM=>⟨ab,I,J⟩⟩⟩
theorem T2{n:Int}(h:¬n<1)(ac:¬m<n):jQ n m=true:=gz J
theorem Ei{n:Int}(h:n<1\/m<n):jQ n m=false:=f9 J
theorem alh{x:iZ}{eG:X}(H:oH h U x ew gi eG):aD Q s 24 [.agg ⟨fq x ew gi eG⟩] h U (cI (.int .i64 (gl x)) U h):=by
 refine anX ?_;obtain⟨a,cap,rfl,aU⟩:=id H.d;obtain⟨a2,M,rfl,qk⟩:=id H.e;obtain⟨a3,P,rfl⟩:=H.c;unfold adq fq;have I:∀{o},az U h (F h U o):=aC
 refine aB ?_;refine(alg (H.d.T I J) (H.e.T I J) H.l).mono ?_;rintro r Z D ⟨rfl,C,E⟩;have g:=C U J;rw[aN]at g;have B:az U h Z:=aC
 generalize hm:nj x.k x.n x.src x.len x.bt x.bI x.es x.lim=Jw
 by_cases ap:Jw=0
 case neg =>
  have aG:(Jw == 0)=false:=ab
  refine a9 @aG ?_;exact⟨by unfold gl;grind,B,J⟩
 subst ap;have e:gl x=if jQ x.R 8=false then 3 else if jQ x.C 8=false then 3 else if jQ x.M 64=false then 3 else if 8192<x.uR then 5 else 0:=by unfold gl;omega
 have A:gl x=3->wR s (cI (.int .i64 (gl x)) U h) (bb U) (.bool true) Z D:=λe=>by unfold wR;refine aB ?_;exact⟨by rw[e],B,J⟩
 refine a9 @g ?_;refine⟨λax=>A (by rw[e,Ei J];rfl),λax=>⟨λa2=>A (by rw[e,Ei J];rfl),λa2=>?_⟩⟩;rw[T2 ax a2]at e;refine⟨λV=>A (by rw[e,Ei J];rfl),λV=>⟨λL=>A (by rw[e,Ei J];rfl),λL=>?_⟩⟩;rw[T2 V L]at e;refine⟨λK=>A (by rw[e,Ei J];rfl),λK=>?_⟩
 by_cases c2:64<x.M
 ·rw[gz c2];exact A (by rw[e,Ei J];rfl)
 rw[f9 c2];rw[T2 K c2]at e;unfold wR;refine a9 @g ?_;refine⟨λb9=>⟨ab,B,J⟩,λb9=>⟨ab,B,J⟩⟩
def KZ(s:ak)(K:bD)(bY cC b6 cR iu qI:X)(ap:ad)(aX:Nat):Prop:=ay ap 0 cR λb=>ag (c8 [(ae 0),(ae 0),(ae 0),(ae 0),aS] [(0,1,(ae 1)),(1,1,b),(2,1,bY)]) λc=>a4 2 ap cR λd=>ag (c8 [(ae 0),(ae 0),(ae 0),(ae 0),aS,(ae 0),aS,(ae 0),(ae 0),(ae 0),(ae 0),aS] [(0,5,c),(5,2,d),(7,1,cC),(8,1,b6),(9,1,(ae 4)),(10,1,qI)]) λe=>ag (a7 ap 12 iu e) λf=>a4 12 f iu λg=>K g f aX
def afk:Cn:=λs au t1 t2 t3 h U K=>cK au h U λa b c=>cJ [(ae 0),(ae 0),(ae 0),(ae 0),aS,(ae 0),aS,(ae 0),(ae 0),(ae 0),(ae 0),aS] b c λd e f=>ay e 0 a λi=>bT .geq 3 i (ae 0) (ay e 0 a λl=>ag (min2 true l (ae 8191)) λm=>b3 m λn=>(KZ s K t1 t2 t3 a d n e f)) (KZ s K t1 t2 t3 a d (ae 0) e f)
theorem arC:Fq 22 afk:=Im []
def T3:aa (aa Nat):=[[0,5,10,11,12]]
def L4(s:ak)(N:aH)(aF:aH)(R:aH)(cu d3 lU EX tz:X)(ap:ad)(aX:Nat):Prop:=b3 tz λa=>N [cu,d3,lU,EX,a] ap aX
def Tu(s:ak)(a0 bl cZ dO dT:X)(h:ad)(U:Nat)(N:aH)(aF:aH)(R:aH):Prop:=cq dT dO (ea h 1 cZ dT λc=>cq c a0 (bh s 179 [bl,c] h U λe f g=>bJ e (c7 180 [c] f g λi j k=>cf .shr 3 c (.int .u64 6) λl=>f3 1 bl l λm=>dc j m λn=>eX m n (cf .or 188 n i λo=>f3 1 bl l λp=>ag (a7 j 1 p o) λq=>(L4 s N aF R a0 bl cZ dO dT q k)) 1 [f]) (L4 s N aF R a0 bl cZ dO dT f g)) (L4 s N aF R a0 bl cZ dO dT h U)) (aF [a0,bl,cZ,dO,dT] h U)
def fof:fH:=λs au t1 h U K=>bh s 117 [au] h U λa b c=>cQ t1 λd=>bq (bA Q s T3 108 0) [au,a,t1,d,(ae 0)] b c [(0,λe f g=>K (aQ e 1) f g)] (λ_ _ _=>False)
theorem agA:bA Q s T3 108 0 [a0,bl,cZ,dO,dT] h U N [(0,aF)] R=Tu s a0 bl cZ dO dT h U N aF R:=by kernel_rfl
theorem ahA:fR 108 fof:=fX T3
def RA:aa (aa Nat):=[[3,6,7,8]]
def K0(s:ak)(a3 bf aZ bo:X)(h:ad)(U:Nat)(N:aH)(aF:aH)(R:aH):Prop:=cq bo aZ (ea h 1 bf bo λc=>bh s 183 [c] h U λd e f=>o6 a3 d λg=>b3 bo λi=>N [g,bf,aZ,i] e f) (aF [a3,bf,aZ,bo] h U)
def SK:fw:=λs au h U K=>cQ au λa=>bq (bA Q s RA 111 0) [(ae 0),au,a,(ae 0)] h U [(0,λb c d=>K (aQ b 0) c d)] (λ_ _ _=>False)
theorem QA:bA Q s RA 111 0 [a3,bf,aZ,bo] h U N [(0,aF)] R=K0 s a3 bf aZ bo h U N aF R:=by kernel_rfl
theorem adx:fG 111 SK:=fO RA
def RB:fH:=λs au t1 h U K=>bT .geq 3 t1 (ae 0) (cf .shr 3 t1 (.int .u64 6) λb=>cQ au λc=>cf .lss 3 b c λd=>K d h U) (K (.bool false) h U)
theorem abv:fR 179 RB:=fX []
def SL:aa (aa Nat):=[[0,3]]
def ady(s:ak)(a0 a3:X)(h:ad)(U:Nat)(N:aH)(aF:aH)(R:aH):Prop:=bT .eql 188 a0 (.int .u64 0) (aF [a0,a3] h U) (cf .sub 188 a0 (.int .u64 1) λb=>cf .and 188 a0 b λc=>b3 a3 λd=>N [c,d] h U)
def awo:fw:=λs au h U K=>bq (bA Q s SL 183 0) [au,(ae 0)] h U [(0,λa b c=>K (aQ a 1) b c)] (λ_ _ _=>False)
theorem arD:bA Q s SL 183 0 [a0,a3] h U N [(0,aF)] R=ady s a0 a3 h U N aF R:=by kernel_rfl
theorem auq:fG 183 awo:=fO SL
def each:fw:=λs au h U K=>cK au h U λa b c=>ag (.ok (Value.func (.func 288) ⟨[]⟩ ⟨[a]⟩)) λd=>K d b c
theorem Tv:fG 197 each:=fO []
def Hk:aa (aa Nat):=[[0,6,7,8],[0,4,5,6,7,8]]
def Ds(s:ak)(N:aH)(aJ:aH)(R:aH)(cu cR d3 dM fl iu:X)(ap:ad)(aX:Nat):Prop:=cf .shr 188 cR (.int .u64 1) λa=>b3 d3 λb=>N [cu,a,b,dM,fl,iu] ap aX
def RC(s:ak)(a0 aV bl bf aZ bo:X)(h:ad)(U:Nat)(N:aH)(aJ:aH)(R:aH):Prop:=bT .neq 188 aV (.int .u64 0) (cf .and 188 aV (.int .u64 1) λb=>bT .eql 188 b (.int .u64 1) (gB Q s (jc h U [bl] a0) λd e f=>ag (d2 .not d) λg=>bJ g (R [a0,aV,bl,bf,aZ,bo] e f) (Ds s N aJ R a0 aV bl bf aZ bo e f)) (Ds s N aJ R a0 aV bl bf aZ bo h U)) (aJ [a0,aV,bl,bf,aZ,bo] h U)
def Dt(s:ak)(a0 bf aZ bo:X)(h:ad)(U:Nat)(N:aH)(aF:aH)(R:aH):Prop:=cq bo aZ (ea h 1 bf bo λc=>cf .shl 3 bo (.int .u64 6) λd=>bq (bA Q s Hk 288 1) [a0,c,d,bf,aZ,bo] h U [(2,λe f g=>b3 (aQ e 5) λi=>N [(aQ e 0),(aQ e 3),(aQ e 4),i] f g)] (λj k l=>R [(aQ j 0),(aQ j 3),(aQ j 4),(aQ j 5)] k l)) (aF [a0,bf,aZ,bo] h U)
def L5:fH:=λs au t1 h U K=>dc h t1 λa=>cQ a λb=>bq (bA Q s Hk 288 0) [au,a,b,(ae 0)] h U [(0,λc d e=>K (.tuple ⟨[]⟩) d e)] (λf g i=>K (.tuple ⟨[]⟩) g i)
theorem adz:bA Q s Hk 288 1 [a0,aV,bl,bf,aZ,bo] h U N [(2,aJ)] R=RC s a0 aV bl bf aZ bo h U N aJ R:=by kernel_rfl
theorem G3:bA Q s Hk 288 0 [a0,bf,aZ,bo] h U N [(0,aF)] R=Dt s a0 bf aZ bo h U N aF R:=by kernel_rfl
theorem SM:fR 288 L5:=fX Hk
def RD:aa (aa Nat):=[[0,1,4,7,8]]
def abw(s:ak)(a0 ax aV aZ bo:X)(h:ad)(U:Nat)(N:aH)(aF:aH)(R:aH):Prop:=cq bo aZ (ea h 1 a0 bo λc=>gB Q s (jc h U [c] ax) λd e f=>bJ d (R [a0,ax,bo,aZ,bo] e f) (b3 bo λg=>N [a0,ax,aV,aZ,g] e f)) (aF [a0,ax,aV,aZ,bo] h U)
def afl:fH:=λs au t1 h U K=>cQ au λa=>bq (bA Q s RD 245 0) [au,t1,(ae 0),a,(ae 0)] h U [(0,λb c d=>K (ae (-1)) c d)] (λe f g=>K (aQ e 2) f g)
theorem an9:bA Q s RD 245 0 [a0,ax,aV,aZ,bo] h U N [(0,aF)] R=abw s a0 ax aV aZ bo h U N aF R:=by kernel_rfl
theorem arE:fR 245 afl:=fX RD
def PV(s:ak)(K:bD)(bY cC b6 Vn:X)(ap:ad)(aX:Nat):Prop:=bJ Vn (K (ae 0) ap aX) (ay ap 4 b6 λb=>cQ b λc=>kA c (ae 0) (ay ap 4 b6 λf=>ay ap 1 b6 λi=>cf .mul 3 bY i λj=>o6 j cC λk=>cf .rem 3 k c λl=>ea ap 1 f l λn=>cf .shl 2 n (.int .u64 12) λo=>cf .or 2 o cC λp=>K p ap aX) (cf .shl 2 (ae 0) (.int .u64 12) λq=>cf .or 2 q cC λr=>K r ap aX))
def adA:i6:=λs au t1 t2 h U K=>cK au h U λa b c=>bh s 277 [t1,(ae 8192)] b c λd e f=>ag (d2 .not d) λg=>bJ g (PV s K t1 t2 a (.bool true) e f) (ay e 1 a λj=>cf .sub 3 j (ae 1) λk=>bh s 277 [t2,k] e f λl m n=>ag (d2 .not l) λo=>(PV s K t1 t2 a o m n))
theorem aoa:jl 368 adA:=jA []
def kq(x:Nat):aa X:=[.int .u64 (x:Int)]
def tm(w:Nat)(U:Nat)(h:ad):bD:=λr ac Y=>∃b c aO,r = .slice (some ⟨b,0,aO⟩) 1 c/\U<=b/\b<Y/\u ac b=some (.cells [.int .u64 (w:Int)] false)/\az U h ac/\U<=Y
theorem tm.rd{r:X}(H:tm w U h r ac Y):cN ac Y r kq [w]:=by obtain⟨b,c,aO,rfl,C,B,A,_⟩:=H;exact⟨_,_,rfl,λ_=>⟨b,aO,false,B,rfl,A⟩⟩
theorem abx(A:1<=n)(B:n<=64):aD Q s 195 [(n:X)] h U (λr ac Y=>r = .int .i64 1/\ac=h/\Y=U):=by
 refine bS ?_;have e:IntKind.wrap .i64 ((n:Int)+63)=((n+63:Nat):Int):=cn J;simp(disch:=omega)only[bd,show max (n:Int) 0=n by omega,show min (n:Int) 4096=n by omega,e,Gt,seval]
 grind
theorem afm(A:1<=n)(C:n<=64):aD Q s 117 [(n:X)] h U (tm 0 U h):=by refine bS ?_;refine(abx A C).mono ?_;rintro r D E ⟨rfl,B,aJ⟩;rw[B,aJ];show ey (xt [.int .u64 0] (((1:Nat):X)) (((1:Nat):X))) h U _;refine nU ?_;exact⟨U,1,none,rfl,J,J,ab,aC,J⟩
theorem ZY(A:k<64):aD Q s 179 [.slice a 1 c,(k:X)] h U (λr ac Y=>r = .bool true/\ac=h/\Y=U):=by
 refine abv ?_;unfold RB;refine a9 @Gt ?_;rw[show k / 64=0 by omega]
 grind
theorem afn(A:k<64):aD Q s 180 [(k:X)] h U (λr ac Y=>r = .int .u64 ((2 ^ k:Nat):Int)/\ac=h/\Y=U):=by
 refine bS ?_;have e:IntKind.wrap .u64 (k:Int)=(k:Int):=DF J;have aJ:∀{t},bin Q .and t (.int .u64 (k:Int)) (.int .u64 63) = .ok (.int .u64 (k:Int)):=λ{t}=>by rw[show(63:Int)=((63:Nat):Int)from rfl,Gs J J,show(63:Nat)=2 ^ 6-1 from rfl,Nat.and_two_pow_sub_one_eq_mod,J4 J]
 simp(disch:=omega)only[bd,e,aJ,am5 k A,seval]
def gm(l:aa Nat):aa Int:=l.map λx:Nat=>(x:Int)
def ns(l:aa Nat)(i:Nat):ak:=decide (i∈l)
def OfJ(n b c:Nat)(aO:av Nat)(v:X)(l:aa Nat)(U:Nat)(h:ad)(m:Nat)(aE:aa X)(ac:ad)(Y:Nat):Prop :=
 ∃i,m=l.length-i/\i<=l.length/\aE=[(n:X),.slice (some ⟨b,0,aO⟩) 1 c,v,(l.length:X),(i:X)]/\u ac b=some (.cells [.int .u64 (mk n (ns (l.take i)):Int)] false)/\U<=b/\b<Y/\az U h ac/\U<=Y
theorem xI(h:n<=64):mk n p<18446744073709551616:=J2 (age n p) (Nat.pow_le_pow_right   J h)
theorem aby{l:aa Nat}{x:Nat}(A:l[i]? = some x)(j:Nat):ns (l.take (i+1)) j=(ns (l.take i) j||decide (j=x)):=by
 unfold ns;rw[gQ,A,<-Bool.decide_or]
 grind
theorem awp{l:aa Nat}(ap:1<=n)(Z:n<=64)(aI:cN h U v cG (gm l))(bg:∀x∈l,x<n)(gA:l.length<1000000):aD Q s 108 [(n:X),v] h U (tm (mk n (ns l)) U h):=by
 refine ahA ?_;obtain⟨a,cap,rfl,aU⟩:=id aI;unfold fof;refine(afm ap Z).mono ?_;rintro r al bH ⟨b,c,aO,rfl,A,C,a5,L,B⟩;refine aB ?_;refine bq.mk (OfJ n b c aO (.slice a (gm l).length cap) l U h) l.length ⟨0,J,J,by unfold gm;grind,by rw[tV,show mk n (ns [])=0 from(by rw[<-Rb n];exact DE λi _=>by simp[ns])];omega,A,C,L,B⟩ ?_;rintro _ _ ac Y ⟨i,rfl,ai,rfl,D,A,C,L,B⟩;rw[agA];unfold Tu;refine aB ?_;refine⟨λP=>?_,λeh=>?_⟩
 ·obtain⟨x,aR⟩:=dk P;have I:(gm l)[i]? = some (x:Int):=by unfold gm;grind
  obtain⟨_,bO,mK,bC,c1,M,E,K⟩:=aI.at I;cases E;rw[h2]at K;have V:=bg x (jp aR);simp(disch:=omega)only[bd,(L bO M).trans K,iz I,show(x:Int)<(n:Int) by omega,seval];refine⟨?_,λh=>absurd trivial h⟩;refine(ZY J).mono ?_;rintro r aM bR ⟨rfl,E,aJ⟩;rw[E,aJ];refine aB ?_;refine(afn J).mono ?_;rintro r aM bR ⟨rfl,E,aJ⟩;rw[E,aJ];refine⟨cB _,?_⟩;have fj:bin Q .or 188 (.int .u64 (mk n (ns (l.take i)):Int)) (.int .u64 ((2 ^ x:Nat):Int)) = .ok (.int .u64 (mk n (ns (l.take (i+1))):Int)):=by
   rw[aeI V,aqG (xI Z) (xI Z),avX]
   congr 3
   exact DE λj _=>(aby aR j).symm
  simp(disch:=omega)only[bd,Gt,show x / 64=0 by omega,D,fj,cn (J:i<1000000000000),seval];unfold L4;refine a9 (cn (J:i<1000000000000)) ?_;exact⟨_,J,i+1,rfl,J,rfl,aN _ _ _,A,C,L.set A,B⟩
 ·have:i=l.length:=J
  subst this;rw[ht]at D;exact⟨b,c,aO,rfl,A,C,D,L,B⟩
def OnJ(n:Nat)(p:Nat->ak)(h:ad)(U:Nat)(m:Nat)(aE:aa X)(ac:ad)(Y:Nat):Prop :=
 ∃(q:Nat->ak) (k:Nat),m=(er n q).length/\k+(er n q).length=(er n p).length/\aE=[.int .u64 (mk n q:Int),(k:X)]/\ac=h/\Y=U
theorem vM(n:Nat)(p:Nat->ak):(er n p).length<=n:=by
 unfold er
 grind
theorem arF(L:n<=63):aD Q s 183 [.int .u64 (mk n p:Int)] h U (λr ac Y=>r = .int .i64 ((er n p).length:Int)/\ac=h/\Y=U):=by
 refine auq ?_;refine bq.mk (OnJ n p h U) (er n p).length ⟨p,0,rfl,J,rfl,rfl,rfl⟩ ?_;rintro _ _ _ _ ⟨q,k,rfl,I,rfl,rfl,rfl⟩;rw[arD];unfold ady;have M:=vM n p
 by_cases A:mk n q=0
 ·rw[A];refine nU ?_;have:er n q=[]:=atJ (GU.1 A);rw[this]at I;rw[this];exact⟨ab,λh=>absurd h (by simp)⟩
 ·obtain⟨B,E,aJ⟩:=aa3 n q A;have C:(((mk n q:Nat):Int) == 0)=false:=ab
  have D:IntKind.wrap .u64 ((mk n q:Int)-1)=((mk n q-1:Nat):Int):=by rw[show((mk n q:Nat):Int)-1=((mk n q-1:Nat):Int) by omega];exact DF (by have:=xI (p:=q) (J:n<=64);omega)
  have K:bin Q .and 188 (.int .u64 ((mk n q:Nat):Int)) (.int .u64 ((mk n q-1:Nat):Int)) = .ok (.int .u64 ((mk n B:Nat):Int)):=by rw[Gs (xI J) (by have:=xI (p:=q) (J:n<=64);omega),E]
  refine L0 @C @D @K (cn (J:k<1000000000000)) ?_;exact⟨_,J,B,k+1,rfl,J,rfl,rfl,rfl⟩
theorem aob(M:n<=63)(E:cN h U v kq [mk n p]):aD Q s 111 [v] h U (λr ac Y=>r = .int .i64 ((er n p).length:Int)/\ac=h/\Y=U):=by
 refine adx ?_;obtain⟨a,cap,rfl,L⟩:=id E;obtain⟨b,aO,bC,V,rfl,A⟩:=L (by simp);have bm:=vM n p;unfold SK;refine aB ?_;refine bq.mk (λm B ac Y=>ac=h/\Y=U/\((m=1/\B=[.int .i64 0,.slice (some ⟨b,0,aO⟩) 1 cap,.int .i64 1,.int .i64 0])\/(m=0/\B=[.int .i64 ((er n p).length:Int),.slice (some ⟨b,0,aO⟩) 1 cap,.int .i64 1,.int .i64 1]))) 1 ab ?_;rintro _ _ ac Y ⟨K,I,D⟩;rw[K,I];rcases D with⟨rfl,rfl⟩|⟨rfl,rfl⟩
 ·rw[QA];unfold K0;have A:u h b=some (.cells [.int .u64 (mk n p:Int)] bC):=A;refine a9 @A ?_;refine⟨?_,ab⟩;refine(arF M).mono ?_;rintro r P Z ⟨rfl,C,aJ⟩;rw[C,aJ];refine aB ?_;exact⟨0,J,.inr ⟨rfl,by rw[show IntKind.wrap .i64 (0+((er n p).length:Int))=((er n p).length:Int) by rw[Int.zero_add];exact js _ J];rfl⟩⟩
 ·rw[QA];unfold K0;simp(disch:=omega)only[bd,seval]
  grind
def VJ(l:aa Nat):Nat:=match l with | []=>0|x::_=>x
theorem SN{B c2:Nat}{A:av Nat}{rd:ak}{l cs:aa X}(K:l.length=n)(I:u h b=some (.cells cs rd))(C:u h B=some (.cells l bC))(D:0<n)(L:n<1000000):
  dv 1 h U (.slice (some ⟨b,0,none⟩) 0 0) (.slice (some ⟨B,0,A⟩) n c2) = .ok (.val (.slice (some ⟨U,0,some 1⟩) n n) (F h U (.cells l false)) (U+1)):=by
 subst K;have E:jV h (some ⟨B,0,A⟩) (l.length.mul 1) (λnew=>gt 1 h U (some ⟨b,0,none⟩) 0 0 l.length new)=gt 1 h U (some ⟨b,0,none⟩) 0 0 l.length l:=by
  rw[show l.length.mul 1=l.length from FT _,sX C D J]
  grind
 show jV h (some ⟨B,0,A⟩) (l.length.mul 1) (λnew=>gt 1 h U (some ⟨b,0,none⟩) 0 0 l.length new)=_;rw[E];unfold gt;rw[show Nat.ble (Nat.add 0 l.length) 0=false by
  cases C:Nat.ble (Nat.add 0 l.length) 0 with
  |false=>rfl
  |true=>have:=l6 C;grind]
 rw[show(Nat.ble (Nat.mul (Nat.add 0 l.length) 1) 1000000&&Nat.ble (Nat.add 0 l.length) 1000000)=true by
  simp only[eD,sU]
  grind]
 unfold p5;simp only[vp I];rw[show nh (Nat.mul 0 1) (na cs 0)=some [] by rw[yO,mx];rfl];show p4 h U 1 (k3 [] l) (0+l.length)=_;rw[kk,tU,ix];exact pZ J
theorem y3{P:Program}{t:TypeId}(A:nQ P t=true)(a:av Addr)(n c:Nat):bin P .eql t (.slice a n c) (.slice none 0 0) = .ok (.bool a.isNone):=by
 show R.of "compared" (nV P t (.slice a n c) (.slice none 0 0)) _=_;unfold nV;cases a <;> simp[A,TC,nc]
theorem T4:nQ Tryz.prog 29=true:=by kernel_rfl
theorem ahB:nQ Tryz.prog 87=true:=by kernel_rfl
theorem aoc(D:cN h U v kq [w]):aD Q s 139 [v] h U (tm w U h):=by
 refine bS ?_;obtain⟨a,cap,rfl,I⟩:=id D;obtain⟨b,aO,bC,E,rfl,A⟩:=I (by simp);have A:u h b=some (.cells [.int .u64 (w:Int)] bC):=A;have B:az U h (F h U (.cells [] false)):=aC
 simp(disch:=omega)only[bd,y3 ahB,@List.length_cons Nat,@List.length_nil Nat,seval];refine⟨λC=>(by cases C),λ_=>?_⟩;rw[SN (n:=1)  rfl (aN _ _ _) ((B b E).trans A) J J];exact⟨U+1,1,some 1,rfl,J,J,ab,aC,J⟩
theorem Gg(E:cN h U v cG l)(D:l.length<1000000):
  aD Q s 88 [v] h U (λr ac Y=>eZ ac U Y r cG l/\az U h ac/\U<=Y):=by
 refine bS ?_;obtain⟨a,cap,rfl,K⟩:=id E;simp(disch:=omega)only[bd,y3 T4,seval];refine⟨λC=>⟨?_,aC⟩,λC=>?_⟩
 ·have:l=[]:=ab
  subst this;exact⟨none,0,rfl,λh=>absurd rfl h⟩
 have A:az U h (F h U (.cells [] false)):=aC
 rcases Kc (l=[])with e|e
 ·subst e;exact⟨⟨some ⟨U,0,none⟩,0,rfl,λh=>absurd rfl h⟩,A,J⟩
 ·obtain⟨b,aO,bC,I,rfl,B⟩:=K e;rw[h2]at B;rw[SN  (AK _) (aN _ _ _) ((A b I).trans B) ab D];refine⟨⟨some ⟨U+1,0,some 1⟩,l.length,rfl,λ_=>⟨U+1,some 1,false,J,J,rfl,?_⟩⟩,aC,J⟩
  grind
noncomputable def IL:Code:=(vW Tryz.prog 287).1
noncomputable def IM:Code:=(vW Tryz.prog 287).2
theorem SO:Tg Q (.int .i64 0) 287 IL IM:=⟨by kernel_rfl,by kernel_rfl,by kernel_rfl,by kernel_rfl,by kernel_rfl⟩
theorem L6(k:Nat)(p:Nat->ak):er (k+1) p=er k p++(if p k then[k]else[]):=by
 unfold er;rw[pb,rJ]
 grind
theorem aur(C:k<=n)(h:∀i,k<=i->i<n->p i=false):er n p=er k p:=by
 induction n with
 |zero =>
  grind
 |succ n B =>
  by_cases e:k=n+1
  ·rw[e]
  ·rw[L6,h n J J,B J (λi A D=>h i A J)];simp
structure Nl (l p:Nat) (a b:Code) (h:ad) (U:Nat) (ayb:aa Int) (o:X) (aP:av Nat):Prop where
 c:lB l p a b h o
 g:hs h cG o ayb aP
 b:∀c,aP=some c->c≠l/\c≠p/\c<U
def EaJ(l p n ao yx:Nat)(q:Nat->ak)(hb:X)(h:ad)(m:Nat)(aE:aa X)(ac:ad)(Y:Nat):Prop :=
 ∃(k:Nat) (o:X) (aP:av Nat),m=n-k/\k<=n/\aE=[.func (.yield l) ⟨[]⟩ ⟨[]⟩,.int .u64 (mk (n-k) (λi=>q (i+k)):Int),(k:X),hb,.int .i64 1,.int .i64 0]/\Nl l p IL IM ac Y (gm (er k q)) o aP/\(∀c,aP=some c->ao<=c)/\(∀c,c<ao->c≠l->c≠p->u ac c=u h c)/\ao<=Y
theorem arG{l p yx:Nat}{hb:X}(bm:n<=63)(aI:cN h U hb kq [mk n q])(uI:u h yx=some (.cells [hb] false))(C:Nl l p IL IM h U [] (.slice none 0 0) none)(hlp:l≠p)(bg:l<U)(bv:p<U)(eg:∀b,b<U->u h b=u h b):
  aD Q s 288 [.func (.yield l) ⟨[]⟩ ⟨[]⟩,bb yx] h U (λ_ ac Y=>∃o A,Nl l p IL IM ac Y (gm (er n q)) o A/\(∀c,A=some c->U<=c)/\(∀c,c<U->c≠l->c≠p->u ac c=u h c)/\U<=Y):=by
 refine SM ?_;obtain⟨a,cap,rfl,aU⟩:=id aI;obtain⟨b,aO,bC,aG,rfl,V⟩:=aU (by simp);have V:u h b=some (.cells [.int .u64 (mk n q:Int)] bC):=V;unfold L5;simp(disch:=omega)only[bd,uI,@List.length_cons Nat,@List.length_nil Nat,seval];refine bq.mk (λm aE ac Y=>(m=1/\aE=[.func (.yield l) ⟨[]⟩ ⟨[]⟩,.slice (some ⟨b,0,aO⟩) 1 cap,.int .i64 1,.int .i64 0]/\ac=h/\Y=U)\/(m=0/\aE=[.func (.yield l) ⟨[]⟩ ⟨[]⟩,.slice (some ⟨b,0,aO⟩) 1 cap,.int .i64 1,.int .i64 1]/\∃o A,Nl l p IL IM ac Y (gm (er n q)) o A/\(∀c,A=some c->U<=c)/\(∀c,c<U->c≠l->c≠p->u ac c=u h c)/\U<=Y)) 1 ab ?_;rintro m aE ac Y (⟨rfl,rfl,gG,eL⟩|⟨rfl,rfl,dD⟩)
 ·rw[G3,gG,eL];unfold Dt;have VK:bin Q .shl 3 (.int .i64 0) (.int .u64 6) = .ok (.int .i64 0):=rfl;refine cx @V @VK ?_;refine⟨?_,λh=>absurd trivial h⟩;refine bq.mk (EaJ l p n U yx q (.slice (some ⟨b,0,aO⟩) 1 cap) h) n ⟨0,.slice none 0 0,none,J,J,rfl,C,ab,ab,J⟩ ?_;rintro _ _ aM P ⟨k,o,A,rfl,hk,rfl,D,K,E,B⟩;rw[adz];unfold RC
  by_cases ap:mk (n-k) (λi=>q (i+k))=0
  ·have I:er n q=er k q:=aur hk λi h1 al=>by
    have:=GU.1 ap (i-k) J
    grind
   have aF:((mk (n-k) (λi=>q (i+k)):Nat):Int)=0:=J
   refine a9 @aF ?_;exact⟨0,J,.inr ⟨rfl,rfl,o,A,by rw[I];exact D,K,E,B⟩⟩
  ·have B6:k<n:=by
    rcases jH k n with h|h
    ·exact h
    ·exact absurd (by rw[show n-k=0 by omega];rfl) ap
   obtain⟨r,ba⟩:∃r,n-k=r+1:=⟨n-k-1,J⟩
   have aY:(((mk (n-k) (λi=>q (i+k)):Nat):Int) == 0)=false:=ab
   have aJ:bin Q .and 188 (.int .u64 ((mk (n-k) (λi=>q (i+k)):Nat):Int)) (.int .u64 1) = .ok (.int .u64 (if q k then 1 else 0)):=by
    rw[show(1:Int)=((1:Nat):Int)from rfl,Gs (xI J) J,J1,ba,aeK,ix]
    grind
   have ce:mk (n-k) (λi=>q (i+k)) / 2=mk (n-(k+1)) (λi=>q (i+(k+1))):=by
    rw[ba,aeJ,show n-(k+1)=r by omega]
    grind
   have eC:bin Q .shr 188 (.int .u64 ((mk (n-k) (λi=>q (i+k)):Nat):Int)) (.int .u64 1) = .ok (.int .u64 ((mk (n-(k+1)) (λi=>q (i+(k+1))):Nat):Int)):=by rw[Qg,ce]
   cases L:q k with
   |true =>
    rw[L]at aJ;refine cx @aY @aJ ?_;refine atK l3 SO  (λ_=>rfl) (λ_=>rfl) (x:=(k:Int)) rfl rfl D.c D.g hlp J J D.b (by unfold gm;rw[g5];have:=vM k q;omega) λbc kz hC4 M tB=>?_;refine aB ?_;unfold Ds;refine cx @eC (cn (J:k<1000000000000)) ?_;refine⟨n-(k+1),J,k+1,kz,some (P+1),rfl,J,rfl,⟨hC4,?_,ab⟩,ab,ab,J⟩
    ·rw[L6,L];show hs bc cG kz (gm (er k q++[k])) _;rw[show gm (er k q++[k])=gm (er k q)++[(k:Int)] by unfold gm;grind];exact M
    all_goals grind
   |false =>
    rw[L]at aJ;have Z:bin Q .and 188 (.int .u64 ((mk (n-k) (λi=>q (i+k)):Nat):Int)) (.int .u64 1) = .ok (.int .u64 0):=aJ;refine cx @aY @Z ?_;unfold Ds;refine cx @eC (cn (J:k<1000000000000)) ?_;refine⟨n-(k+1),J,k+1,o,A,rfl,J,rfl,⟨D.c,?_,D.b⟩,K,E,B⟩;rw[L6,L];simp only[nK,fc,hM];exact D.g
 ·rw[G3];unfold Dt;refine aB ?_;exact λ_=>dD
def agB(l:aa Int)(U:Nat)(h:ad):bD:=λr ac Y=>∃aP,hs ac cG r l aP/\(∀c,aP=some c->U<=c/\c<Y)/\az U h ac/\U<=Y
theorem arH(P:n<=63)(D:cN h U v kq [mk n q]):aD Q s 119 [v] h U (agB (gm (er n q)) U h):=by
 refine bS ?_;obtain⟨a,cap,rfl,L⟩:=id D;refine Tv ?_;unfold each;refine aB ?_;refine bS ?_;refine ZH l3 SO λC M bx=>?_;have A:cN C (U+1+1+1) (.slice a [mk n q].length cap) kq [mk n q]:=by
  refine(D.T (Y:=U) (ac:=C) (λc L=>?_) J).T aC J
  grind
 refine(arG P A ab ⟨M,.nil,ab⟩ J J J ab).mono ?_;rintro _ al V ⟨o,K,B,I,Z,E⟩;refine⟨o,B.c,λx=>⟨K,B.g.T ab,λc e=>⟨ab,(B.b c e).2.2⟩,aC,J⟩⟩
 all_goals grind
def Hl(s:ak)(K:bD)(bY cC b6 VL:X)(ap:ad)(aX:Nat):Prop:=bJ VL (K (.tuple ⟨[(.pointer none),(ae 3)]⟩) ap aX) (nH 5 ap 0 b6 λb=>nH 2 ap 5 b6 λd=>bh s 114 [b,d] ap aX λe f g=>ag (dz e 0) λi=>ag (dz e 1) λj=>cJ [(ae 0),(ae 0),aS,aS,aS] f g λk l m=>ag (a7 l 5 k i) λn=>ay n 11 b6 λp=>c7 122 [p] n m λq r t=>ag (c8 [(ae 0),(ae 0)] [(0,1,bY),(1,1,cC)]) λaT=>b4 0 b6 λv=>a4 5 r v λw=>kZ 5 v w (b4 7 b6 λx=>dc r x λy=>eX x y (b4 8 b6 λz=>dc r z λbX=>eX z bX (ag (c8 [(ae 0),(ae 0)] [(0,1,y),(1,1,bX)]) λch=>b4 10 b6 λbV=>dc r bV λbp=>eX bV bp (ag (c8 [(ae 0),(ae 0),(ae 0),(ae 0),(ae 0),(ae 0),aS,(ae 0),(ae 0),(ae 0),aS,(ae 0),(ae 0),aS,aS,aS,(ae 0),(ae 0),aS,aS,aS,aS,aS,(ae 0),(.map none),(ae 0),(ae 0),(ae 0),(ae 0),(ae 0),aS,aS,aS,(ae 0),(ae 0),aS,aS,aS,(.bool false),(.bool false),aS,(.map none),(ae 0),(.map none),(.bool false)] [(0,2,aT),(2,5,w),(7,2,ch),(9,1,bp),(10,1,q),(23,1,(ae 1)),(25,1,(ae 1))]) λb2=>cK b2 r t λcM bU dj=>b4 0 b6 λcP=>ay bU 4 cP λdH=>bh s 88 [dH] bU dj λeM am an=>ag (cr cM) λeR=>b4 2 eR λgM=>b4 4 gM λhC=>ag (a7 am 1 hC eM) λhL=>a4 5 hL k λi7=>ay hL 7 b6 λhd=>ay hL 8 b6 λl4=>bh s 123 [i7,hd,l4,bY,cC] hL an λm5 o7 i9=>ag (cr cM) λcg=>b4 11 cg λsG=>ag (a7 o7 5 sG m5) λbe=>ag (cr cM) λsH=>nH 5 be 11 sH λfS=>bh s 124 [fS] be i9 λbi og nF=>ag (cr cM) λli=>b4 16 li λi5=>ag (a7 og 6 i5 bi) λtO=>ey (.ok .map) tO nF λaP yr eS=>ey (.ok .map) yr eS λCp gN la=>ey (.ok .map) gN la λOb Xb f0=>ag (cr cM) λqD=>b4 24 qD λXc=>ag (a7 Xb 1 Xc aP) λqE=>ag (cr cM) λgK=>b4 41 gK λge=>ag (a7 qE 1 ge Cp) λhn=>ag (cr cM) λpM=>b4 43 pM λnE=>ag (a7 hn 1 nE Ob) λys=>bT .eql 3 cC (ae 0) (b4 0 b6 λke=>ay ys 1 ke λcL=>ay ys 7 b6 λnx=>c7 126 [cL,nx,bY] ys f0 λXd co Jt=>b4 7 b6 λJu=>dc co Ju λOc=>eX Ju Oc (b3 bY λcs=>c7 126 [cL,Oc,cs] co Jt λXe Od me=>b4 0 b6 λoi=>a4 5 Od oi λdF=>kZ 5 oi dF (c7 125 [dF,Xd,Xe] Od me λiD Xh aBO=>ag (cr cM) λaBP=>b4 28 aBP λaBQ=>ag (a7 Xh 5 aBQ iD) λW3=>ag (cr cM) λaBR=>nH 5 W3 28 aBR λaBS=>ag (cr cM) λaBT=>b4 33 aBT λaBU=>ag (a7 W3 5 aBU aBS) λaAD=>bh s 127 [cM,(ae 0),(.bool false)] aAD aBO λaAB gZ Fm=>K (.tuple ⟨[cM,(ae 0)]⟩) gZ Fm) 2 [co,ys]) 1 [ys]) (K (.tuple ⟨[cM,(ae 0)]⟩) ys f0)) 1 [n]) 1 [n]) 1 [n]) 1 [n])
def ahC:i6:=λs au t1 t2 h U K=>cK au h U λa b c=>a4 12 b a λd=>bh s 121 [d] b c λe f g=>lh e (K (.tuple ⟨[(.pointer none),e]⟩) f g) (cq t1 (ae 0) (Hl s K t1 t2 a (.bool true) f g) (ay f 7 a λl=>bT .geq 3 t1 l (Hl s K t1 t2 a (.bool true) f g) (cq t2 (ae 0) (Hl s K t1 t2 a (.bool true) f g) (ay f 8 a λp=>cf .geq 3 t2 p λq=>(Hl s K t1 t2 a q f g)))))
theorem awq:jl 59 ahC:=jA []
def SP(s:ak)(K:bD)(bY cC b6 cR d3 lU tA:X)(ap:ad)(aX:Nat):Prop:=bJ tA (ag (c8 [(ae 0),(ae 0),aS,aS,aS] []) λa=>ag (c8 [(ae 0),(ae 0)] []) λb=>ag (c8 [(ae 0),(ae 0)] []) λc=>bh s 203 [a,b,c] ap aX λd e f=>ag (a7 e 5 lU d) λg=>a4 5 g lU λi=>K i g f) (ay ap 0 d3 λk=>c7 204 [k,bY,b6] ap aX λl m n=>b4 1 d3 λo=>dc m o λp=>eX o p (c7 204 [p,cC,cR] m n λq r t=>a4 5 r d3 λaT=>kZ 5 d3 aT (c7 203 [aT,l,q] r t λv w x=>ag (a7 w 5 lU v) λy=>a4 5 y lU λz=>K z y x) 2 [m,ap]) 1 [ap])
def ahD:Co:=λs au t1 t2 t3 g0 h U K=>cK au h U λa b c=>cJ [(ae 0),(ae 0),aS,aS,aS] b c λd e f=>a4 5 e a λg=>bh s 201 [g] e f λi j k=>ag (d2 .not i) λl=>bJ l (SP s K t1 t2 t3 g0 a d (.bool true) j k) (bh s 202 [t1,t2,t3,g0] j k λm n o=>ag (d2 .not m) λp=>(SP s K t1 t2 t3 g0 a d p n o))
theorem awr:Fr 123 ahD:=In []
def Tw:aa (aa Nat):=[[2,3,20,21,22]]
def DJ(s:ak)(N:aH)(aF:aH)(R:aH)(cC b6 d3 E3 tA Nn:X)(ap:ad)(aX:Nat):Prop:=ay ap 4 b6 λb=>ay ap 1 d3 λd=>ey (fU 1 [(ae 0)] [(0,1,d)]) ap aX λe f g=>dB (dS (dv 1 f g b e)) λi j k=>b4 4 b6 λl=>ag (a7 j 1 l i) λm=>ay m 5 b6 λo=>ay m 2 d3 λq=>ey (fU 1 [(ae 0)] [(0,1,q)]) m k λr t aT=>dB (dS (dv 1 t aT o r)) λv w x=>b4 5 b6 λy=>ag (a7 w 1 y v) λz=>ay z 3 b6 λch=>ay z 2 b6 λbp=>cQ bp λb2=>ay z 4 b6 λbU=>cQ bU λdj=>f3 1 ch b2 λcP=>ag (a7 z 1 cP dj) λd0=>b3 Nn λdH=>N [cC,b6,E3,tA,dH] d0 x
def A5(s:ak)(N:aH)(aF:aH)(R:aH)(cC b6 d3 E3 tA Nn EW:X)(ap:ad)(aX:Nat):Prop:=bJ EW (ay ap 2 b6 λb=>ay ap 0 d3 λd=>ey (fU 1 [(ae 0)] [(0,1,d)]) ap aX λe f g=>dB (dS (dv 1 f g b e)) λi j k=>b4 2 b6 λl=>ag (a7 j 1 l i) λm=>ay m 3 b6 λo=>ey (fU 1 [(ae 0)] [(0,1,(ae 0))]) m k λp q r=>dB (dS (dv 1 q r o p)) λt aT v=>b4 3 b6 λw=>ag (a7 aT 1 w t) λx=>(DJ s N aF R cC b6 d3 E3 tA Nn x v)) (DJ s N aF R cC b6 d3 E3 tA Nn ap aX)
def afo(s:ak)(a2 a3 i2 h5 en:X)(h:ad)(U:Nat)(N:aH)(aF:aH)(R:aH):Prop:=cq en h5 (hq 3 h 3 i2 en λc=>cJ [(ae 0),(ae 0),(ae 0)] h U λd e f=>ag (a7 e 3 d c) λg=>ay g 2 a3 λj=>cQ j λk=>bT .eql 3 k (ae 0) (A5 s N aF R a2 a3 d i2 h5 en (.bool true) g f) (ay g 2 a3 λn=>cf .sub 3 k (ae 1) λo=>ea g 1 n o λq=>ay g 0 d λt=>cf .neq 3 q t λaT=>(A5 s N aF R a2 a3 d i2 h5 en aT g f))) (aF [a2,a3,i2,h5,en] h U)
def ahE:fw:=λs au h U K=>cK au h U λa b c=>cJ [(ae 0),(ae 0),aS,aS,aS,aS] b c λd e f=>bh s 205 [] e f λg i j=>cJ [(ae 0),(ae 0),aS,aS,aS,aS] i j λk l m=>ag (a7 l 6 k g) λn=>a4 5 n a λo=>bh s 201 [o] n m λp q r=>ag (d2 .not p) λt=>bJ t (a4 6 q k λaT=>ag (a7 q 6 d aT) λv=>a4 6 v d λw=>K w v r) (ay q 0 a λy=>b4 0 k λz=>ag (a7 q 1 z y) λbX=>b4 1 a λch=>dc bX ch λbV=>eX ch bV (b4 1 k λbp=>ag (a7 bX 1 bp bV) λb2=>a4 5 b2 a λcM=>bh s 207 [cM] b2 r λbU dj cP=>bh s 206 [bU] dj cP λd0 dH eM=>cQ d0 λam=>bq (bA Q s Tw 124 0) [d,k,d0,am,(ae 0)] dH eM [(0,λan eR gM=>a4 6 eR (aQ an 1) λhC=>ag (a7 eR 6 (aQ an 0) hC) λhL=>a4 6 hL (aQ an 0) λi7=>K i7 hL gM)] (λ_ _ _=>False)) 1 [q])
theorem aus{B A:X}:bA Q s Tw 124 0 [a2,a3,B,A,en] h U N [(0,aF)] R=afo s a2 a3 B A en h U N aF R:=by kernel_rfl
theorem aws:fG 124 ahE:=fO Tw
def GA(s:ak)(K:bD)(cC b6 cR dM y25:X)(ap:ad)(aX:Nat):Prop:=bJ y25 (ag (c8 [(ae 0),(ae 0),aS,aS,aS] []) λa=>ag (a7 ap 5 dM a) λb=>a4 5 b dM λc=>K c b aX) (dc ap cR λd=>ag (c8 [(ae 0),(ae 0),aS,aS,aS] [(0,1,d),(1,1,cC)]) λe=>cJ [(ae 0),(ae 0),aS,aS,aS] ap aX λf g i=>ag (a7 g 5 f e) λj=>a4 5 j f λk=>dc j cR λl=>cf .sub 3 cC l λm=>ag (.ok (.func (.func 209) ⟨[]⟩ ⟨[b6,cR]⟩)) λn=>bh s 208 [k,m,n] j i λo p q=>ag (a7 p 5 dM o) λr=>a4 5 r dM λt=>K t r q)
def afp:i6:=λs au t1 t2 h U K=>cK au h U λa b c=>cK t1 b c λd e f=>cJ [(ae 0),(ae 0),aS,aS,aS] e f λg i j=>a4 5 i a λk=>bh s 187 [k] i j λl m n=>lh l (GA s K t2 a d g (.bool true) m n) (dc m d λp=>cq p (ae 0) (GA s K t2 a d g (.bool true) m n) (dc m d λr=>cq t2 r (GA s K t2 a d g (.bool true) m n) (ay m 1 a λv=>cf .gtr 3 t2 v λw=>(GA s K t2 a d g w m n))))
theorem arI:jl 125 afp:=jA []
def QB:aa (aa Nat):=[[1,2,60,61]]
def ZZ(s:ak)(ax a2 No E4:X)(h:ad)(U:Nat)(N:aH)(aF:aH)(R:aH):Prop:=cq E4 No (ay h 3 ax λc=>ay h 2 ax λe=>ea h 1 e E4 λg=>ay h 2 ax λj=>b3 E4 λk=>ea h 1 j k λm=>ag (iY 1 c (some g) (some m) none) λn=>ay h 1 ax λp=>c7 291 [n,p] h U λq r t=>ag (d2 .not q) λaT=>bJ aT (R [ax,(.bool false),No,E4] r t) (b3 E4 λv=>N [ax,a2,No,v] r t)) (aF [ax,a2,No,E4] h U)
def KA(s:ak)(K:bD)(bY VM:X)(ap:ad)(aX:Nat):Prop:=bJ VM (K (.bool false) ap aX) (ay ap 0 bY λb=>bq (bA Q s QB 201 0) [bY,(.bool false),b,(ae 0)] ap aX [(0,λc d e=>K (.bool true) d e)] (λf g i=>K (aQ f 1) g i))
def C3(s:ak)(K:bD)(bY b6 y37:X)(ap:ad)(aX:Nat):Prop:=bJ y37 (K (.bool false) ap aX) (ay ap 2 bY λb=>ea ap 1 b (ae 0) λd=>bT .neq 3 d (ae 0) (KA s K bY (.bool true) ap aX) (ay ap 2 bY λg=>ay ap 0 bY λj=>ea ap 1 g j λl=>bT .neq 3 l b6 (KA s K bY (.bool true) ap aX) (ay ap 2 bY λo=>bh s 290 [o] ap aX λp q r=>ag (d2 .not p) λt=>(KA s K bY t q r))))
def adB:fw:=λs au h U K=>cK au h U λa b c=>ay b 3 a λe=>cQ e λf=>ay b 0 a λi=>bh s 289 [i,(ae 4096)] b c λj k l=>ag (d2 .not j) λm=>bJ m (C3 s K a f (.bool true) k l) (ay k 1 a λo=>bh s 289 [o,(ae 4096)] k l λp q r=>ag (d2 .not p) λt=>bJ t (C3 s K a f (.bool true) q r) (ay q 2 a λv=>cQ v λw=>ay q 0 a λy=>b3 y λz=>bT .neq 3 w z (C3 s K a f (.bool true) q r) (ay q 4 a λbV=>cQ bV λbp=>bT .neq 3 bp f (C3 s K a f (.bool true) q r) (cf .gtr 3 f (ae 65536) λcM=>(C3 s K a f cM q r)))))
theorem ali{A B:X}:bA Q s QB 201 0 [ax,a2,A,B] h U N [(0,aF)] R=ZZ s ax a2 A B h U N aF R:=by kernel_rfl
theorem aod:fG 201 adB:=fO QB
def awt:Cn:=λs au t1 t2 t3 h U K=>bh s 292 [au] h U λa b c=>bJ a (bh s 292 [t1] b c λd e f=>bJ d (bT .geq 3 t2 (ae 0) (cq t2 au (bT .geq 3 t3 (ae 0) (cf .lss 3 t3 t1 λk=>K k e f) (K (.bool false) e f)) (K (.bool false) e f)) (K (.bool false) e f)) (K (.bool false) e f)) (K (.bool false) b c)
theorem aut:Fq 202 awt:=Im []
def Hm:aa (aa Nat):=[[3,6,7,8,9,10,11,31,32],[3,6,7,8,9,10,11,12,31,32,39,40,41]]
def RE(s:ak)(N:aH)(aJ:aH)(R:aH)(b6 dM fl iu qI lU EX tz y14 y31 y32 Np y40 EW y56:X)(ap:ad)(aX:Nat):Prop:=bJ y56 (ay ap 0 y14 λb=>cf .sub 3 b qI λc=>ay ap 1 y14 λe=>ag (c8 [(ae 0),(ae 0),(ae 0)] [(0,1,tz),(1,1,c),(2,1,e)]) λf=>ey (fU 1 [(ae 0),(ae 0),(ae 0)] [(0,3,f)]) ap aX λg i j=>dB (dS (dv 3 i j EX g)) λk l m=>b3 EW λn=>N [b6,dM,fl,iu,qI,lU,k,tz,y31,y32,Np,y40,n] l m) (b3 EW λo=>N [b6,dM,fl,iu,qI,lU,EX,tz,y31,y32,Np,y40,o] ap aX)
def adC(s:ak)(a3 bf aZ bo cH cZ dO dT kO gC Nq x7 wp:X)(h:ad)(U:Nat)(N:aH)(aJ:aH)(R:aH):Prop:=cq wp x7 (hq 2 h 2 Nq wp λc=>cJ [(ae 0),(ae 0)] h U λd e f=>ag (a7 e 2 d c) λg=>ay g 0 d λj=>bT .geq 3 j cH (ay g 0 d λm=>cf .sub 3 m cH λn=>cf .lss 3 n cZ λo=>(RE s N aJ R a3 bf aZ bo cH cZ dO dT d kO gC Nq x7 wp o g f)) (RE s N aJ R a3 bf aZ bo cH cZ dO dT d kO gC Nq x7 wp (.bool false) g f)) (aJ [a3,bf,aZ,bo,cH,cZ,dO,dT,kO,gC,Nq,x7,wp] h U)
def adD(s:ak)(a3 bf aZ bo cH cZ dO kO gC:X)(h:ad)(U:Nat)(N:aH)(aF:aH)(R:aH):Prop:=cq gC kO (a4 5 h a3 λb=>o6 aZ gC λc=>bh s 295 [b,c] h U λd e f=>cQ d λg=>bq (bA Q s Hm 203 1) [a3,bf,aZ,bo,cH,cZ,dO,gC,kO,gC,d,g,(ae 0)] e f [(2,λi j k=>b3 (aQ i 9) λl=>N [(aQ i 0),(aQ i 1),(aQ i 2),(aQ i 3),(aQ i 4),(aQ i 5),(aQ i 6),(aQ i 8),l] j k)] (λ_ _ _=>False)) (aF [a3,bf,aZ,bo,cH,cZ,dO,kO,gC] h U)
def agC:i6:=λs au t1 t2 h U K=>cK au h U λa b c=>cK t1 b c λd e f=>cK t2 e f λg i j=>cJ [(ae 0),(ae 0),aS,aS,aS] i j λk l m=>a4 5 l a λn=>bh s 293 [n] l m λo p q=>ag (a7 p 5 a o) λr=>a4 2 r d λt=>ay r 0 a λv=>bh s 294 [t,v] r q λw x y=>ag (dz w 0) λz=>ag (dz w 1) λbX=>a4 2 x g λch=>ay x 1 a λbp=>bh s 294 [ch,bp] x y λb2 cM bU=>ag (dz b2 0) λdj=>ag (dz b2 1) λcP=>bq (bA Q s Hm 203 0) [a,k,z,bX,dj,cP,aS,bX,(ae 0)] cM bU [(0,λd0 dH eM=>bh s 281 [(aQ d0 3),(aQ d0 5),(aQ d0 6)] dH eM λam an eR=>ag (a7 an 5 (aQ d0 1) am) λgM=>a4 5 gM (aQ d0 1) λhC=>K hC gM eR)] (λ_ _ _=>False)
theorem arJ{B A C:X}:bA Q s Hm 203 1 [a3,bf,aZ,bo,cH,cZ,dO,dT,kO,gC,B,A,C] h U N [(2,aJ)] R=adC s a3 bf aZ bo cH cZ dO dT kO gC B A C h U N aJ R:=by kernel_rfl
theorem arK:bA Q s Hm 203 0 [a3,bf,aZ,bo,cH,cZ,dO,kO,gC] h U N [(0,aF)] R=adD s a3 bf aZ bo cH cZ dO kO gC h U N aF R:=by kernel_rfl
theorem auu:jl 203 agC:=jA Hm
def F9:aa (aa Nat):=[[1,3,12,13],[1,3,4,6,12,13,22,23,24]]
def Yn(s:ak)(ax a3 aV bf dT hW en jB fi:X)(h:ad)(U:Nat)(N:aH)(aJ:aH)(R:aH):Prop:=cq fi jB (ea h 1 en fi λc=>ea h 1 bf fi λe=>ag (c8 [(ae 0),(ae 0),(ae 0)] [(0,1,aV),(1,1,c),(2,1,e)]) λf=>ey (fU 1 [(ae 0),(ae 0),(ae 0)] [(0,3,f)]) h U λg i j=>dB (dS (dv 3 i j a3 g)) λk l m=>b3 fi λn=>N [ax,k,aV,bf,dT,hW,en,jB,n] l m) (aJ [ax,a3,aV,bf,dT,hW,en,jB,fi] h U)
def Yo(s:ak)(ax a3 dT hW:X)(h:ad)(U:Nat)(N:aH)(aF:aH)(R:aH):Prop:=cq hW dT (a4 5 h ax λb=>bh s 296 [b,hW] h U λc d e=>ag (dz c 0) λf=>ag (dz c 1) λg=>cQ f λi=>bq (bA Q s F9 206 1) [ax,a3,hW,g,dT,hW,f,i,(ae 0)] d e [(2,λj k l=>b3 (aQ j 5) λm=>N [(aQ j 0),(aQ j 1),(aQ j 4),m] k l)] (λ_ _ _=>False)) (aF [ax,a3,dT,hW] h U)
def Z0:fw:=λs au h U K=>cK au h U λa b c=>a4 5 b a λd=>bh s 293 [d] b c λe f g=>ag (a7 f 5 a e) λi=>ay i 0 a λk=>bq (bA Q s F9 206 0) [a,aS,k,(ae 0)] i g [(0,λl m n=>K (aQ l 1) m n)] (λ_ _ _=>False)
theorem ai0{A:X}:bA Q s F9 206 1 [ax,a3,aV,bf,dT,hW,en,A,fi] h U N [(2,aJ)] R=Yn s ax a3 aV bf dT hW en A fi h U N aJ R:=by kernel_rfl
theorem ai1:bA Q s F9 206 0 [ax,a3,dT,hW] h U N [(0,aF)] R=Yo s ax a3 dT hW h U N aF R:=by kernel_rfl
theorem ajG:fG 206 Z0:=fO F9
def RF:aa (aa Nat):=[[1,2,3,10,11,12]]
def abz(s:ak)(ax a2 a3 cZ dO dT:X)(h:ad)(U:Nat)(N:aH)(aF:aH)(R:aH):Prop:=cq dT dO (hq 3 h 3 cZ dT λc=>cJ [(ae 0),(ae 0),(ae 0)] h U λd e f=>ag (a7 e 3 d c) λg=>ay g 1 d λj=>ay g 0 d λl=>ay g 2 d λn=>ag (c8 [(ae 0),(ae 0),(ae 0)] [(0,1,j),(1,1,l),(2,1,n)]) λo=>f3 3 a3 dT λp=>ag (a7 g 3 p o) λq=>b3 dT λr=>N [ax,a2,a3,cZ,dO,r] q f) (aF [ax,a2,a3,cZ,dO,dT] h U)
def afq:fw:=λs au h U K=>cK au h U λa b c=>cJ [(ae 0),(ae 0),aS,aS,aS] b c λd e f=>a4 5 e a λg=>bh s 293 [g] e f λi j k=>ag (a7 j 5 a i) λl=>a4 5 l a λm=>bh s 206 [m] l k λn o p=>cQ n λq=>bq (bA Q s RF 207 0) [a,d,n,n,q,(ae 0)] o p [(0,λr t aT=>bh s 297 [(aQ r 2),(.func (.func 298) #[] #[])] t aT λv w x=>ay w 1 (aQ r 0) λz=>ay w 0 (aQ r 0) λch=>bh s 281 [z,ch,(aQ r 2)] w x λbV bp b2=>ag (a7 bp 5 (aQ r 1) bV) λcM=>a4 5 cM (aQ r 1) λbU=>K bU cM b2)] (λ_ _ _=>False)
theorem aoe:bA Q s RF 207 0 [ax,a2,a3,cZ,dO,dT] h U N [(0,aF)] R=abz s ax a2 a3 cZ dO dT h U N aF R:=by kernel_rfl
theorem arL:fG 207 afq:=fO RF
def PW:aa (aa Nat):=[[1,2,6,7,8,18,19]]
def YV(s:ak)(ax a2 bf aZ bo lT n2:X)(h:ad)(U:Nat)(N:aH)(aF:aH)(R:aH):Prop:=cq n2 lT (gB Q s (jc h U [n2] a2) λb c d=>ag (dz b 0) λe=>ag (dz b 1) λf=>ag (dz b 2) λg=>ay c 2 aZ λj=>ey (fU 1 [(ae 0)] [(0,1,e)]) c d λk l m=>dB (dS (dv 1 l m j k)) λn o p=>m<=p/\b4 3 aZ λq=>dc o q λr=>eX q r (ey (fU 1 [(ae 0)] [(0,1,f)]) o p λt aT v=>dB (dS (dv 1 aT v r t)) λw x y=>v<=y/\b4 2 aZ λz=>ag (a7 x 1 z n) λbX=>b4 3 aZ λch=>ag (a7 bX 1 ch w) λbV=>bJ g (ey (fU 1 [(ae 0)] [(0,1,n2)]) bV y λbp b2 cM=>dB (dS (dv 1 b2 cM bo bp)) λbU dj cP=>b3 n2 λd0=>N [ax,a2,bf,aZ,bU,lT,d0] dj cP) (b3 n2 λdH=>N [ax,a2,bf,aZ,bo,lT,dH] bV y)) 1 [c]) (aF [ax,a2,bf,aZ,bo,lT,n2] h U)
def abA:i6:=λs au t1 t2 h U K=>cK au h U λa b c=>cJ [(ae 0),(ae 0),aS,aS,aS] b c λd e f=>ay e 0 a λi=>ay e 1 a λk=>ag (c8 [(ae 0),(ae 0),aS,aS,aS] [(0,1,i),(1,1,k)]) λl=>cJ [(ae 0),(ae 0),aS,aS,aS] e f λm n o=>ag (a7 n 5 m l) λp=>bq (bA Q s PW 208 0) [t1,t2,d,m,aS,t1,(ae 0)] p o [(0,λq r t=>bh s 108 [(aQ q 0),(aQ q 4)] r t λaT v w=>b4 4 (aQ q 3) λx=>ag (a7 v 1 x aT) λy=>a4 5 y (aQ q 3) λz=>ag (a7 y 5 (aQ q 2) z) λbX=>a4 5 bX (aQ q 2) λch=>K ch bX w)] (λ_ _ _=>False)
theorem ajH{A B:X}:bA Q s PW 208 0 [ax,a2,bf,aZ,bo,A,B] h U N [(0,aF)] R=YV s ax a2 bf aZ bo A B h U N aF R:=by kernel_rfl
theorem alj:jl 208 abA:=jA PW
def abB(s:ak)(K:bD)(ap:ad)(aX:Nat):Prop:=K (.tuple ⟨[(ae 4611686018427387904),(.bool false)]⟩) ap aX
def Dd(s:ak)(K:bD)(cC dM E3:X)(ap:ad)(aX:Nat):Prop:=bJ E3 (K (.tuple ⟨[(ae 1),(.bool true)]⟩) ap aX) (bJ dM (K (.tuple ⟨[(ae 0),dM]⟩) ap aX) (ay ap 0 cC λb=>bT .eql 40 b (ae 4) (K (.tuple ⟨[(ae 0),dM]⟩) ap aX) (ay ap 0 cC λe=>bT .eql 40 e (ae 1) (K (.tuple ⟨[(ae (-1)),(.bool false)]⟩) ap aX) (abB s K ap aX))))
def afr:fH:=λs au t1 h U K=>cK au h U λa b c=>ay b 2 a λe=>cf .eql 3 t1 e λf=>ay b 0 a λi=>bT .eql 40 i (ae 3) (K (.tuple ⟨[t1,(.bool true)]⟩) b c) (ay b 0 a λl=>bT .eql 40 l (ae 5) (K (.tuple ⟨[(ae 0),(.bool false)]⟩) b c) (ay b 0 a λo=>bT .eql 40 o (ae 4) (Dd s K a f f b c) (Dd s K a f (.bool false) b c)))
theorem arM:fR 210 afr:=fX []
def SQ:aa (aa Nat):=[[7,24,25,26]]
def adE(s:ak)(aZ fi lC mP:X)(h:ad)(U:Nat)(N:aH)(aY:aH)(R:aH):Prop:=cq mP lC (ea h 1 fi mP λc=>bT .eql 2 c (ae 0) (b3 aZ λe=>b3 mP λf=>N [e,fi,lC,f] h U) (b3 mP λg=>N [aZ,fi,lC,g] h U)) (aY [aZ,fi,lC,mP] h U)
def agD:i6:=λs au t1 t2 h U K=>cK au h U λa b c=>cK t1 b c λd e f=>a4 5 e a λg=>a4 5 e d λi=>bh s 299 [g,i] e f λj k l=>ag (a7 k 5 d j) λm=>ay m 0 a λo=>bT .eql 40 o (ae 4) (ay m 3 a λr=>bT .geq 3 t2 r (K (ae 0) m l) (ay m 4 d λv=>bh s 111 [v] m l λw x y=>K w x y)) (bT .eql 40 o (ae 5) (ay m 2 d λch=>cQ ch λbV=>bq (bA Q s SQ 212 0) [(ae 0),ch,bV,(ae 0)] m l [(1,λbp b2 cM=>K (aQ bp 0) b2 cM)] (λ_ _ _=>False)) (ay m 4 d λdj=>bh s 111 [dj] m l λcP d0 dH=>K cP d0 dH))
theorem arN{A:aH}:bA Q s SQ 212 0 [aZ,fi,lC,mP] h U N [(1,A)] R=adE s aZ fi lC mP h U N A R:=by kernel_rfl
theorem auv:jl 212 agD:=jA SQ
def C4(s:ak)(K:bD)(cu bY cC VN:X)(ap:ad)(aX:Nat):Prop:=bJ VN (K (ae (-1)) ap aX) (cf .mul 3 bY cu λa=>o6 a cC λb=>K b ap aX)
def arO:i6:=λs au t1 t2 h U K=>bh s 220 [au] h U λa b c=>ag (d2 .not a) λd=>bJ d (C4 s K au t1 t2 (.bool true) b c) (cq t1 (ae 0) (C4 s K au t1 t2 (.bool true) b c) (bT .geq 3 t1 (ae 8) (C4 s K au t1 t2 (.bool true) b c) (cq t2 (ae 0) (C4 s K au t1 t2 (.bool true) b c) (cf .geq 3 t2 au λi=>(C4 s K au t1 t2 i b c)))))
theorem aof:jl 311 arO:=jA []
def PX:aa (aa Nat):=[[0,2,3]]
def YW(s:ak)(a0 a2 a3:X)(h:ad)(U:Nat)(N:aH)(aF:aH)(R:aH):Prop:=kA a3 (ae 0) (ea h 1 a0 a3 λc=>cf .sub 3 a3 (ae 1) λd=>ea h 1 a0 d λf=>c7 369 [c,f] h U λg i j=>bJ g (R [a0,(.bool false),a3] i j) (cf .sub 3 a3 (ae 1) λk=>N [a0,a2,k] i j)) (aF [a0,a2,a3] h U)
def abC:fw:=λs au h U K=>cQ au λa=>cf .sub 3 a (ae 1) λb=>bq (bA Q s PX 290 0) [au,(.bool false),b] h U [(0,λc d e=>K (.bool true) d e)] (λf g i=>K (aQ f 1) g i)
theorem ajI:bA Q s PX 290 0 [a0,a2,a3] h U N [(0,aF)] R=YW s a0 a2 a3 h U N aF R:=by kernel_rfl
theorem alk:fG 290 abC:=fO PX
def SR:aa (aa Nat):=[[0,1,4,7,8,9]]
def adF(s:ak)(a0 ax aV aZ bo cH:X)(h:ad)(U:Nat)(N:aH)(aF:aH)(R:aH):Prop:=cq cH bo (ea h 1 aZ cH λc=>cf .sub 3 ax (ae 1) λd=>bh s 289 [c,d] h U λe f g=>ag (d2 .not e) λi=>bJ i (R [a0,ax,(.bool false),aZ,bo,cH] f g) (kA cH (ae 0) (cf .sub 3 cH (ae 1) λk=>ea f 1 a0 k λm=>bT .geq 3 m c (R [a0,ax,(.bool false),aZ,bo,cH] f g) (b3 cH λo=>N [a0,ax,aV,aZ,bo,o] f g)) (b3 cH λp=>N [a0,ax,aV,aZ,bo,p] f g))) (aF [a0,ax,aV,aZ,bo,cH] h U)
def agE:fH:=λs au t1 h U K=>cQ au λa=>bq (bA Q s SR 291 0) [au,t1,(.bool false),au,a,(ae 0)] h U [(0,λb c d=>K (.bool true) c d)] (λe f g=>K (aQ e 2) f g)
theorem arP:bA Q s SR 291 0 [a0,ax,aV,aZ,bo,cH] h U N [(0,aF)] R=adF s a0 ax aV aZ bo cH h U N aF R:=by kernel_rfl
theorem auw:fR 291 agE:=fX SR
def SS:aa (aa Nat):=[[5,7,24,25,26]]
def adG(s:ak)(bl aZ fi lC mP:X)(h:ad)(U:Nat)(N:aH)(aF:aH)(R:aH):Prop:=cq mP lC (ea h 1 fi mP λc=>ea h 1 aZ mP λe=>ag (c8 [(ae 0),(ae 0)] [(0,1,c),(1,1,e)]) λf=>ey (fU 1 [(ae 0),(ae 0)] [(0,2,f)]) h U λg i j=>dB (dS (dv 2 i j bl g)) λk l m=>b3 mP λn=>N [k,aZ,fi,lC,n] l m) (aF [bl,aZ,fi,lC,mP] h U)
def agF:fH:=λs au t1 h U K=>cK au h U λa b c=>a4 5 b a λd=>bh s 293 [d] b c λe f g=>ag (a7 f 5 a e) λi=>ay i 0 a λk=>cf .sub 3 k (ae 1) λl=>bh s 289 [t1,l] i g λm n o=>ag (d2 .not m) λp=>bJ p (K aS n o) (a4 5 n a λq=>bh s 296 [q,t1] n o λr t aT=>ag (dz r 0) λv=>ag (dz r 1) λw=>cQ v λx=>bq (bA Q s SS 295 0) [aS,w,v,x,(ae 0)] t aT [(0,λy z bX=>K (aQ y 0) z bX)] (λ_ _ _=>False))
theorem arQ:bA Q s SS 295 0 [bl,aZ,fi,lC,mP] h U N [(0,aF)] R=adG s bl aZ fi lC mP h U N aF R:=by kernel_rfl
theorem aux:fR 295 agF:=fX SS
def T5:fH:=λs au t1 h U K=>c7 179 [au,t1] h U λa b c=>bJ a (c7 180 [t1] b c λd e f=>cf .shr 3 t1 (.int .u64 6) λg=>f3 1 au g λi=>dc e i λj=>eX i j (cf .and 188 j d λk=>cf .neq 188 k (.int .u64 0) λl=>K l e f) 1 [b,h]) (K (.bool false) b c)
theorem agG:fR 334 T5:=fX []
def Hn(s:ak)(K:bD)(b6 VO:X)(ap:ad)(aX:Nat):Prop:=bJ VO (K (.bool false) ap aX) (ay ap 1 b6 λb=>ay ap 0 b6 λd=>cf .sub 3 b d λe=>ay ap 2 b6 λg=>cQ g λi=>bT .eql 3 i e (ay ap 3 b6 λl=>cQ l λm=>bT .eql 3 m e (ay ap 4 b6 λp=>bh s 437 [p,e] ap aX λq r t=>K q r t) (K (.bool false) ap aX)) (K (.bool false) ap aX))
def ahF:fH:=λs au t1 h U K=>cK au h U λa b c=>cK t1 b c λd e f=>a4 5 e a λg=>bh s 187 [g] e f λi j k=>lh i (Hn s K d (.bool true) j k) (ay j 0 d λn=>cq n (ae 0) (Hn s K d (.bool true) j k) (ay j 1 d λq=>ay j 0 d λt=>cq q t (Hn s K d (.bool true) j k) (ay j 1 d λw=>ay j 1 a λy=>cf .gtr 3 w y λz=>(Hn s K d z j k))))
theorem awu:fR 371 ahF:=fX []
def adH:fH:=λs au t1 h U K=>bT .geq 3 t1 (ae 0) (bT .leq 3 t1 (ae 4096) (cQ au λc=>bh s 195 [t1] h U λd e f=>bT .eql 3 c d (bh s 473 [au,t1] e f λi j k=>cf .lss 3 i (ae 0) λl=>K l j k) (K (.bool false) e f)) (K (.bool false) h U)) (K (.bool false) h U)
theorem aog:fR 437 adH:=fX []
def lk(af:aa GE):Prop:=af.Pairwise nq
def dA(af:aa GE)(i:Nat):Nat:=(af.filter λg=>decide (g.f<i)).length
def qt(af:aa GE)(r:Nat):aa Int:=(List.range (r+1)).map λi=>(dA af i:Int)
structure hJ (r c:Nat) (af:aa GE):Prop where
 up:lk af
 rows:∀g∈af,g.f<r
 mF:∀g∈af,g.t<c
 ba:r<=4096
 aU:c<=4096
 len:af.length<=120
theorem RG(af:aa GE)(r:Nat):(qt af r).length=r+1:=by unfold qt;grind
theorem w2(h:i<=r):(qt af r)[i]? = some (dA af i:Int):=by
 unfold qt
 grind
theorem vN(af:aa GE)(i:Nat):dA af i<=af.length:=yF _ _
theorem L7(af:aa GE):dA af 0=0:=by
 unfold dA;rw[List.length_eq_zero_iff,An]
 grind
theorem agH(M:hJ r c af):dA af r=af.length:=by unfold dA;rw[Aq.2];intro g A;exact gz (M.rows g A)
theorem AM(af:aa GE)(h:i<=j):dA af i<=dA af j:=by
 unfold dA
 induction af with
 |nil=>grind
 |cons g af A =>
  grind
def eQ(af:aa GE)(i:Nat):aa GE:=af.filter λg=>decide (g.f=i)
theorem ahG{x:GE}(h:lk (x::af)):∀g∈af,x.f<=g.f:=λg A=>by have:=(vj.1 h).1 g A;unfold nq at this;omega
theorem abD(h:lk af)(i:Nat):af=(af.filter λg=>decide (g.f<i))++af.filter λg=>!decide (g.f<i):=by
 induction af with
 |nil=>rfl
 |cons x af A =>
  have A:=A (vj.1 h).2;rw[rK,rK]
  by_cases B:x.f<i
  ·grind
  ·rw[f9 B];have e:af.filter (λg=>decide (g.f<i))=[]:=by
    rw[An];intro g C;have:=ahG h g C
    grind
   grind
theorem arR(h:lk af)(i:Nat):af.drop (dA af i)=af.filter λg=>!decide (g.f<i):=by
 have e:af.drop (dA af i)=((af.filter λg=>decide (g.f<i))++af.filter λg=>!decide (g.f<i)).drop (dA af i):=by rw[<-abD h i]
 rw[e];exact List.drop_left' rfl
theorem arS(h:lk af)(i:Nat):af.take (dA af i)=af.filter λg=>decide (g.f<i):=by
 have e:af.take (dA af i)=((af.filter λg=>decide (g.f<i))++af.filter λg=>!decide (g.f<i)).take (dA af i):=by rw[<-abD h i]
 rw[e];exact List.take_left' rfl
theorem Du(h:lk af)(i:Nat):(af.drop (dA af i)).take (dA af (i+1)-dA af i)=eQ af i:=by
 have B:(af.drop (dA af i)).take (dA af (i+1)-dA af i)=(af.take (dA af (i+1))).drop (dA af i):=by rw[FM]
 rw[B,arS h (i+1)];have A:lk (af.filter λg=>decide (g.f<i+1)):=JX _ h;have e:dA af i=dA (af.filter λg=>decide (g.f<i+1)) i:=by
  unfold dA;rw[List.filter_filter]
  grind
 rw[e,arR A,List.filter_filter];unfold eQ
 grind
theorem GB(h:lk af)(i:Nat):(eQ af i).length=dA af (i+1)-dA af i:=by rw[<-Du h,ox,FH];have:=vN af (i+1);omega
theorem QC(h:lk af)(A:k<(eQ af i).length):(eQ af i)[k]? = af[dA af i+k]?:=by rw[GB h]at A;rw[<-Du h,vi,if_pos A,vh]
theorem RH(h:lk af)(i:Nat):(eQ af i).Pairwise λx y=>x.t<y.t:=by have A:(eQ af i).Pairwise nq:=JX _ h;refine List.Pairwise.imp_of_mem (λ{a b} dg aG uL=>?_) A;have B:=of_decide_eq_true (pV.1 dg).2;have aJ:=of_decide_eq_true (pV.1 aG).2;unfold nq at uL;omega
def lB(h:ad)(U:Nat)(v:X)(l:aa Int):Prop:=∃aP,hs h cG v l aP/\∀c,aP=some c->c<U
theorem lB.T{h ac:ad}{U Y:Nat}{v:X}{l:aa Int}(C:lB h U v l)(E:az U h ac)(B:U<=Y):lB ac Y v l:=by obtain⟨D,A,I⟩:=C;exact⟨D,A.T λc K=>E c ab,ab⟩
theorem lB.form{h:ad}{U:Nat}{v:X}{l:aa Int}(C:lB h U v l):∃a c,v = .slice a l.length c:=by obtain⟨B,A,_⟩:=C;exact A.form
def fz(af:aa GE):aa Int:=af.map λg=>(g.t:Int)
def gV(af:aa GE):aa Int:=af.map λg=>g.w
theorem Dv(af:aa GE):(fz af).length=af.length:=by unfold fz;grind
theorem G4(af:aa GE):(gV af).length=af.length:=by unfold gV;grind
def kI(h:ad)(U:Nat)(v:X)(r c:Nat)(af:aa GE):Prop :=
 ∃(b:Nat) (aO:av Nat) (cap:Nat) (v2 v3:X),v = .agg ⟨[(r:X),(c:X),.slice (some ⟨b,0,aO⟩) (r+1) cap,v2,v3]⟩/\b<U/\u h b=some (.cells (fx (qt af r)) false)/\lB h U v2 (fz af)/\lB h U v3 (gV af)
theorem kI.T{h ac:ad}{U Y:Nat}{v:X}{r c:Nat}{af:aa GE}(H:kI h U v r c af)(B:az U h ac)(A:U<=Y):kI ac Y v r c af:=by obtain⟨b,aO,cap,L,C,e,K,D,E,I⟩:=H;exact⟨b,aO,cap,L,C,e,J,(B b K).trans D,E.T B A,I.T B A⟩
def oN(h:ad)(ao ai:Nat)(v:X)(l:aa Int):Prop:=∃aP,hs h cG v l aP/\∀c,aP=some c->ao<=c/\c<ai
theorem oN.IN(C:oN h ao ai v l):lB h ai v l:=by obtain⟨B,A,D⟩:=C;exact⟨B,A,ab⟩
theorem oN.T{h ac:ad}{ao ai ed da:Nat}{v:X}{l:aa Int}(C:oN h ao ai v l)(I:∀d,ao<=d->d<ai->u ac d=u h d)(K:ed<=ao)(D:ai<=da):oN ac ed da v l:=by obtain⟨B,A,E⟩:=C;exact⟨B,A.T ab,ab⟩
def xa(h:ad)(ao ai:Nat)(v:X)(r c:Nat)(af:aa GE):Prop :=
 ∃(b:Nat) (aO:av Nat) (cap:Nat) (v2 v3:X),v = .agg ⟨[(r:X),(c:X),.slice (some ⟨b,0,aO⟩) (r+1) cap,v2,v3]⟩/\ao<=b/\b<ai/\u h b=some (.cells (fx (qt af r)) false)/\oN h ao ai v2 (fz af)/\oN h ao ai v3 (gV af)
theorem xa.is(H:xa h ao ai v r c af):kI h ai v r c af:=by obtain⟨b,aO,cap,D,A,e,E,C,B,c2,cm⟩:=H;exact⟨b,aO,cap,D,A,e,C,B,c2.IN,cm.IN⟩
theorem xa.T{h ac:ad}{ao ai ed da:Nat}{v:X}{r c:Nat}{af:aa GE}(H:xa h ao ai v r c af)(C:∀d,ao<=d->d<ai->u ac d=u h d)(A:ed<=ao)(B:ai<=da):xa ac ed da v r c af:=by obtain⟨b,aO,cap,E,D,e,L,K,I,c2,cm⟩:=H;exact⟨b,aO,cap,E,D,e,J,J,ab,c2.T C A B,cm.T C A B⟩
theorem kI.form{h:ad}{U:Nat}{v:X}{r c:Nat}{af:aa GE}(H:kI h U v r c af):∃b aO n a2 D c2 a3 A cm,v = .agg ⟨[(r:X),(c:X),.slice (some ⟨b,0,aO⟩) (r+1) n,.slice a2 D c2,.slice a3 A cm]⟩:=by
 obtain⟨b,aO,cap,L,E,rfl,K,I,C,B⟩:=H;obtain⟨a2,c2,rfl⟩:=C.form;obtain⟨a3,cm,rfl⟩:=B.form
 grind
def tC(h:ad)(U:Nat)(v:X)(l:aa Int):Prop:=∃a cap,v = .slice a l.length cap/\(l≠[]->∃b o aO bC cs,b<U/\a=some ⟨b,o,aO⟩/\u h b=some (.cells cs bC)/\∀(i:Nat) (x:Int),l[i]? = some x->cs[o+i]? = some (x:X))
theorem tC.T(H:tC h U v l)(E:az U h ac)(D:U<=Y):tC ac Y v l:=by obtain⟨a,cap,e,H⟩:=H;exact⟨a,cap,e,λA=>by obtain⟨b,o,aO,bC,cs,C,aJ,B,I⟩:=H A;exact⟨b,o,aO,bC,cs,J,aJ,(E b C).trans B,I⟩⟩
theorem tC.at(H:tC h U (.slice a n cap) l)(C:l[i]? = some x):∃b o aO bC cs,b<U/\a=some ⟨b,o,aO⟩/\u h b=some (.cells cs bC)/\∀(i:Nat) (x:Int),l[i]? = some x->cs[o+i]? = some (x:X):=by obtain⟨B,A,e,H⟩:=H;cases e;exact H ab
theorem agI(L:i<=j)(P:j<=n)(M:aO≠some 0)(A:ak){m:Nat}(V:m=if A then j else n):∃I K,oD 1 (some ⟨b,0,aO⟩) n A m j i = .ok (.slice I (j-i) K)/\(i<j->I=some ⟨b,i,bif A then none else aO⟩):=by
 have E:j<=m:=ab
 have C:m<=n:=ab
 unfold oD;rw[show(Nat.ble m n&&(Nat.ble j m&&Nat.ble i j))=true by simp[C,E,L]];unfold vI
 by_cases e:m=i
 ·subst e;have D:j=m:=J
  subst D;rw[tW];unfold lp AO xL MK;cases aO with
  |none=>grind
  |some k =>
   cases k with
   |zero=>grind
   |succ k=>cases A <;> exact⟨_,_,by simp;exact⟨rfl,rfl⟩,J⟩
 ·have B:Nat.beq m i=false:=by
   cases B:Nat.beq m i with
   |true=>exact absurd (g4 B) e
   |false=>rfl
  rw[B];refine⟨some ⟨b,i,bif A then none else aO⟩,m-i,?_,ab⟩;show R.ok (Value.slice (some ⟨b,Nat.add 0 (Nat.mul i 1),bif A then none else aO⟩) (Nat.sub j i) (Nat.sub m i))=_
  grind
theorem RI(C:lB h U v l)(Z:i<=j)(al:j<=l.length){V:av X}(E:V=none\/V=some (j:X)):
  ∃w,iY 1 v (some (i:X)) (some (j:X)) V = .ok w/\tC h U w ((l.drop i).take (j-i)):=by
 obtain⟨aP,jF,aG⟩:=C;rcases jF with⟨rfl,rfl,rfl⟩|⟨b,rfl,rfl,a5⟩
 ·have bM:j=0:=ab
  subst bM;have ai:i=0:=J
  subst ai;refine⟨.slice none 0 0,?_,⟨none,0,by simp,λh=>absurd (by simp) h⟩⟩;rcases E with rfl|rfl <;> rfl
 ·have I:((l.drop i).take (j-i)).length=j-i:=ab
  have fin:∀(A:ak) (m:Nat) (B:av Addr) (K:Nat),(i<j->B=some ⟨b,i,bif A then none else some 1⟩)->tC h U (.slice B (j-i) K) ((l.drop i).take (j-i)):=λA m B K D=>by
   refine⟨B,K,ab,λP=>?_⟩;have M:i<j:=by have:=FF.2 P;omega
   refine⟨b,i,_,false,_,ab,D M,a5,λk x L=>?_⟩;have hk:=(gE.1 L).1;rw[I]at hk;rw[vi,if_pos hk,vh]at L;rw[h2];exact iz L
  rcases E with rfl|rfl
  ·obtain⟨B,K,e,D⟩:=agI  (aO:=some 1) Z al (by simp) false  rfl;exact⟨_,e,fin false l.length B _ D⟩
  ·obtain⟨B,K,e,D⟩:=agI  (aO:=some 1) Z al (by simp) true  rfl;exact⟨_,e,fin true j B _ D⟩
theorem Ku{n:Int}:aD Q s 289 [(n:X),(m:X)] h U (fm (.bool (lV n m)) U h):=by
 refine bS ?_;refine aB ?_;refine⟨λB=>?_,λB=>by rw[p7 J];exact⟨rfl,rfl,rfl⟩⟩
 by_cases A:m<n
 ·rw[gz A,p7 J];exact⟨rfl,rfl,rfl⟩
 ·rw[f9 A,lI J];exact⟨rfl,rfl,rfl⟩
theorem alm{n:Int}:aD Q s 369 [(n:X),(m:X)] h U (fm (.bool (decide (n<m))) U h):=by
 have A:∀{n:Int} {K:bD},K (.bool false) h U->aD Q s 345 [(n:X)] h U K:=λ{n K} hk=>by refine bS ?_;simp(disch:=omega)only[bd,nN,seval];exact hk
 refine bS ?_;refine A ?_;refine aB ?_;exact⟨rfl,rfl,rfl⟩
def CrJ(cY:X)(l:aa Int)(c:Int)(h:ad)(U:Nat)(m:Nat)(aE:aa X)(ac:ad)(Y:Nat):Prop:=∃i,m=l.length-i/\i<=l.length/\aE=[cY,(c:X),.bool false,cY,(l.length:X),(i:X)]/\ac=h/\Y=U
def IsJ(cY:X)(l:aa Int)(h:ad)(U:Nat)(m:Nat)(aE:aa X)(ac:ad)(Y:Nat):Prop:=∃k:Int,m=(k+1).toNat/\-1<=k/\k<l.length/\aE=[cY,.bool false,(k:X)]/\ac=h/\Y=U
theorem arT(K:tC h U v l)(bg:l.length<=1000)(aU:c<=4096)(ba:∀x∈l,0<=x/\x<(c:Int))(V:∀(i:Nat) (x y:Int),l[i]? = some x->l[i+1]? = some y->x<y):
  aD Q s 291 [v,(c:X)] h U (fm (.bool true) U h):=by
 refine auw ?_;obtain⟨a,cap,rfl,_⟩:=id K;unfold agE;refine aB ?_;refine bq.mk (CrJ (.slice a l.length cap) l c h U) l.length ⟨0,rfl,J,rfl,rfl,rfl⟩ ?_;rintro _ _ _ _ ⟨i,rfl,ai,rfl,rfl,rfl⟩;rw[arP];unfold adF;refine aB ?_;refine⟨λB=>?_,λeh=>⟨rfl,rfl,rfl⟩⟩;obtain⟨x,L⟩:=dk B;obtain⟨b,o,aO,bC,cs,aG,rfl,I,A⟩:=K.at L;obtain⟨Z,M⟩:=ba x ab;have gp:IntKind.wrap .i64 ((c:Int)-1)=(c:Int)-1:=jI J J;simp(disch:=omega)only[bd,I,A i x L,gp,seval];refine Ku.mono ?_;rintro r h1 a6 ⟨rfl,rfl,rfl⟩;rw[lI J];refine aB ?_;refine⟨λD=>?_,λcX=>?_⟩
 ·obtain⟨y,E⟩:=dk (l:=l) (i:=i-1) J;have P:IntKind.wrap .i64 ((i:Int)-1)=((i-1:Nat):Int):=by rw[show(i:Int)-1=((i-1:Nat):Int) by omega];exact jI J J
  have C:=V (i-1) y x E ab;simp(disch:=omega)only[bd,P,I,A (i-1) y E,cn (J:i<1000000000000),seval];exact⟨λh=>absurd C h,λ_=>⟨l.length-(i+1),J,i+1,rfl,J,rfl,rfl,rfl⟩⟩
 ·refine a9 (cn (J:i<1000000000000)) ?_;exact⟨l.length-(i+1),J,i+1,rfl,J,rfl,rfl,rfl⟩
theorem ajJ(P:n=l.length)(E:u h b=some (.cells (fx l) bC))(bg:l.length<=100000)(L:∀(i:Nat) (x y:Int),l[i]? = some x->l[i+1]? = some y->x<=y):
  aD Q s 290 [.slice (some ⟨b,0,aO⟩) n cap] h U (fm (.bool true) U h):=by
 subst P;refine alk ?_;unfold abC;refine aB ?_;have K:IntKind.wrap .i64 ((l.length:Int)-1)=(l.length:Int)-1:=jI J J;rw[K];refine bq.mk (IsJ (.slice (some ⟨b,0,aO⟩) l.length cap) l h U) l.length ⟨(l.length:Int)-1,J,J,J,rfl,rfl,rfl⟩ ?_;rintro _ _ _ _ ⟨k,rfl,M,I,rfl,rfl,rfl⟩;rw[ajI];unfold YW;refine aB ?_;refine⟨λB=>?_,λZ=>⟨rfl,rfl,rfl⟩⟩;obtain⟨i,rfl⟩:∃i:Nat,k=((i+1:Nat):Int):=⟨(k-1).toNat,J⟩
 obtain⟨x,D⟩:=dk (l:=l) (i:=i+1) J;obtain⟨y,A⟩:=dk (l:=l) (i:=i) J;have C:IntKind.wrap .i64 (((i+1:Nat):Int)-1)=(i:Int):=by rw[show((i+1:Nat):Int)-1=(i:Int) by omega];exact jI J J
 have V:=L i y x A D;simp(disch:=omega)only[bd,C,E,iz D,iz A,seval];refine(alm ).mono ?_;rintro r h1 a6 ⟨rfl,rfl,rfl⟩;rw[f9 (J:¬x<y)];refine⟨J,?_⟩;refine a9 @C ?_;exact⟨_,J,(i:Int),rfl,J,J,rfl,rfl,rfl⟩
theorem adI(af:aa GE)(i j:Nat):((fz af).drop i).take j=fz ((af.drop i).take j):=by unfold fz;rw[FP,FO]
theorem arU(af:aa GE)(i j:Nat):((gV af).drop i).take j=gV ((af.drop i).take j):=by unfold gV;rw[FP,FO]
theorem Lm(h:af[i]? = some g):(fz af)[i]? = some (g.t:Int):=by unfold fz;grind
theorem Ln(h:af[i]? = some g):(gV af)[i]? = some g.w:=by unfold gV;grind
theorem afs(h:(fz af)[i]? = some x):∃g,af[i]? = some g/\x=(g.t:Int):=by
 unfold fz at h
 grind
theorem QD(h:g∈eQ af i):g∈af/\g.f=i:=by
 unfold eQ at h
 grind
theorem RJ(af:aa GE)(i:Nat):(eQ af i).length<=af.length:=yF _ _
def CtJ(p r:Nat)(ap:ad)(aX:Nat)(m:Nat)(aE:aa X)(ac:ad)(Y:Nat):Prop:=∃i,m=r-i/\i<=r/\aE=[bb p,.bool false,(r:X),(i:X)]/\ac=ap/\Y=aX
theorem KB(M:hJ r c af)(aI:kI h U v r c af):aD Q s 201 [v] h U (cI (.bool true) U h):=by
 refine aod ?_;obtain⟨b,aO,cap,v2,v3,rfl,aG,P,K,pO⟩:=id aI;obtain⟨a2,c2,rfl⟩:=K.form;obtain⟨a3,cm,rfl⟩:=pO.form;have ba:=M.ba;have aU:=M.aU;have bg:=M.len;have L:=Dv af;have tP:=G4 af;have Z:∀{o},az U h (F h U o):=aC
 unfold adB;refine aB ?_;refine Ku.mono ?_;rintro _ _ _ ⟨rfl,rfl,rfl⟩;rw[lI J];refine aB ?_;refine Ku.mono ?_;rintro _ _ _ ⟨rfl,rfl,rfl⟩;rw[lI J];simp(disch:=omega)only[bd,cn (J:r<1000000000000),show(((r+1:Nat):Int) == ((r+1:Nat):Int))=true from nN _,show(((gV af).length:Int) == ((fz af).length:Int))=true by grind,seval];rw[show decide ((65536:Int)<((fz af).length:Int))=false from f9 J];unfold C3;have kf:(qt af r)[0]? = some 0:=by rw[w2 J,L7];rfl
 have aBV:(qt af r)[r]? = some ((fz af).length:Int):=by rw[w2 J,agH M,L]
 simp(disch:=omega)only[bd,P,iz kf,iz aBV,show(((fz af).length:Int) == ((fz af).length:Int))=true from nN _,seval];refine(ajJ  (RG af r).symm (by rw[aq J];omega) (by rw[RG];omega) λi x y A B=>?_).mono ?_
 ·have ai:=(gE.1 B).1;rw[RG]at ai;rw[w2 J]at A B;cases A;cases B;have:=AM af (J:i<=i+1);omega
 rintro _ _ _ ⟨rfl,rfl,rfl⟩;refine aB ?_;unfold KA;refine aB ?_;refine bq.mk (CtJ U r (F h U (.cells [(r:X),(c:X),.slice (some ⟨b,0,aO⟩) (r+1) cap,.slice a2 (fz af).length c2,.slice a3 (gV af).length cm] false)) (U+1)) r ⟨0,rfl,J,rfl,rfl,rfl⟩ ?_;rintro _ _ _ _ ⟨i,rfl,ai,rfl,rfl,rfl⟩;rw[ali];unfold ZZ;refine aB ?_;refine⟨λci=>?_,λeh=>⟨rfl,Z,J⟩⟩;have Xi:(qt af r)[i]? = some (dA af i:Int):=w2 J;have D:(qt af r)[i+1]? = some (dA af (i+1):Int):=w2 J;obtain⟨w,bN,V⟩:=RI K (AM af (J:i<=i+1)) (by rw[L];exact vN _ _) (.inl rfl);rw[adI,Du M.up]at V;simp(disch:=omega)only[bd,P,iz Xi,iz D,cn (J:i<1000000000000),bN,seval];have IP:=RJ af i;refine(arT   (V.T Z J) (by rw[Dv];omega) aU (λx A=>?_) λk x y A B=>?_).mono ?_
 ·obtain⟨g,C,rfl⟩:=fL.1 A;have:=M.mF g (QD C).1;omega
 ·obtain⟨g,I,rfl⟩:=afs A;obtain⟨cb,E,rfl⟩:=afs B;have h1:=(gE.1 I)
  have al:=(gE.1 E)
  have:=yE.1 (RH M.up i) k (k+1) h1.1 al.1 J
  grind
 rintro _ _ _ ⟨rfl,rfl,rfl⟩;refine⟨J,?_⟩;refine a9 (cn (J:i<1000000000000)) ?_;exact⟨r-(i+1),J,i+1,rfl,J,rfl,rfl,rfl⟩
theorem GC(M:hJ r c af)(D:kI h U v r c af):aD Q s 293 [v] h U (cI v U h):=by
 refine bS ?_;have B:=D;obtain⟨b,aO,cap,v2,V,rfl,aG,Z,P,L⟩:=id D;obtain⟨a2,c2,rfl⟩:=P.form;obtain⟨a3,cm,rfl⟩:=L.form;have K:∀{o aW},az U h (F (F h U o) (U+1) aW):=aC
 refine aB ?_;refine(KB M (B.T K J)).mono ?_;rintro _ h1 a6 ⟨rfl,A,C⟩;have I:=A U J;rw[aq J,aN]at I;have E:=A (U+1) J;rw[aN]at E;refine cx @I @E ?_;exact⟨rfl,aC,J⟩
def awv(af:aa GE)(i B:Nat)(U:Nat)(h:ad):bD:=λres ac Y=>∃db kj,res = .tuple ⟨[db,kj]⟩/\tC ac B db (fz (eQ af i))/\tC ac B kj (gV (eQ af i))/\az U h ac/\U<=Y
theorem abE{B:Nat}(M:hJ r c af)(aI:kI h B v r c af)(V:B<=U)(ai:i<r):aD Q s 296 [v,(i:X)] h U (awv af i B U h):=by
 refine bS ?_;obtain⟨b,aO,cap,v2,v3,rfl,aG,Z,P,L⟩:=id aI;obtain⟨a2,c2,rfl⟩:=P.form;obtain⟨a3,cm,rfl⟩:=L.form;have ba:=M.ba;have E:∀{o},az U h (F h U o):=aC
 have Xi:(qt af r)[i]? = some (dA af i:Int):=w2 J;have D:(qt af r)[i+1]? = some (dA af (i+1):Int):=w2 J;obtain⟨db,I,C⟩:=RI P (AM af (J:i<=i+1)) (by rw[Dv];exact vN _ _) (.inr rfl);obtain⟨kj,K,A⟩:=RI L (AM af (J:i<=i+1)) (by rw[G4];exact vN _ _) (.inr rfl);rw[adI,Du M.up]at C;rw[arU,Du M.up]at A;simp(disch:=omega)only[bd,Z,iz Xi,iz D,cn (J:i<1000000000000),I,K,seval];exact⟨db,kj,rfl,C.T (E.mono V) J,A.T (E.mono V) J,E,J⟩
def HD(g:GE):aa X:=[(g.t:X),(g.w:X)]
def RwJ(cY fJ:X)(l:aa GE)(ap:ad)(aX:Nat)(m:Nat)(aE:aa X)(ac:ad)(Y:Nat):Prop :=
 ∃(k:Nat) (o:X),m=l.length-k/\k<=l.length/\aE=[o,fJ,cY,(l.length:X),(k:X)]/\dX ac o HD 2 (l.take k) aX Y/\az aX ap ac/\aX<=Y
def RowK(af:aa GE)(i:Nat)(U:Nat)(h:ad):bD:=λres ac Y=>dX ac res HD 2 (eQ af i) U Y/\az U h ac/\U<=Y
theorem arV(M:hJ r c af)(aI:kI h U v r c af)(ai:i<r):aD Q s 295 [v,(i:X)] h U (RowK af i U h):=by
 refine aux ?_;have C:=aI;obtain⟨b,aO,cap,v2,v3,rfl,aG,a5,qL,pO⟩:=id aI;obtain⟨a2,c2,rfl⟩:=qL.form;obtain⟨a3,cm,rfl⟩:=pO.form;have ba:=M.ba;have bg:=M.len;have IP:=RJ af i;unfold agF;have bF:∀{o},az U h (F h U o):=aC
 refine aB ?_;refine(GC M (C.T bF J)).mono ?_;rintro _ h1 a6 ⟨rfl,L,fp⟩;have br:=L U J;rw[aN]at br;have gp:IntKind.wrap .i64 ((r:Int)-1)=(r:Int)-1:=jI J J;refine cx @br @gp ?_;refine Ku.mono ?_;rintro _ _ _ ⟨rfl,rfl,rfl⟩;rw[lI J];refine aB ?_;have ez:∀{o},az U h (F h1 U o):=aC
 refine(abE M (C.T ez (cB _)) J ai).mono ?_;rintro _ V bR ⟨db,kj,rfl,Cw,Cx,ek,hr⟩;obtain⟨jC,cC,rfl,_⟩:=id Cw;obtain⟨hZ,b6,rfl,_⟩:=id Cx;have tM:=Dv (eQ af i);have tP:=G4 (eQ af i);rw[tM]at Cw;rw[tP]at Cx;rw[tM,tP];refine aB ?_;refine bq.mk (RwJ (.slice jC (eQ af i).length cC) (.slice hZ (eQ af i).length b6) (eQ af i) V bR) (eQ af i).length ⟨0,_,J,J,rfl,.inl ab,aC,J⟩ ?_;rintro _ _ bc d4 ⟨k,o,rfl,hk,rfl,K,B,iC⟩;rw[arQ];unfold adG;refine aB ?_;refine⟨λD=>?_,λeh=>?_⟩
 ·have D:k<(eQ af i).length:=J
  obtain⟨g,A⟩:=dk D;obtain⟨bO,dI,ky,xW,zQ,fa,rfl,jy,E⟩:=Cw.at (Lm A)
  obtain⟨d6,gL,kY,IQ,B7,oZ,rfl,Z,I⟩:=Cx.at (Ln A)
  have aJ:=(B bO J).trans jy;have ce:=(B d6 J).trans Z;simp(disch:=omega)only[bd,aJ,E k _ (Lm A),ce,I k _ (Ln A),seval];refine l7 (enc:=HD)  (λ_=>rfl) (λ_=>rfl) J (K.T ab J) J g (aN _ _ _) rfl ab λdG bP sl P=>?_;refine a9 (cn (J:k<1000000000000)) ?_;refine⟨(eQ af i).length-(k+1),J,k+1,_,rfl,J,rfl,?_,λc aU=>?_,J⟩
  ·rw[gQ,A];exact sl
  ·rw[P c aU,aq J];exact B c aU
 ·have:k=(eQ af i).length:=J
  subst this;rw[ht]at K;refine⟨?_,aC,J⟩;rcases K with e|⟨b,h1,al,V⟩
  ·exact .inl e
  ·exact .inr ⟨b,J,al,V⟩
def hh(af:aa GE)(j:Nat):Nat:=(af.filter λg=>decide (g.f+1=j)).length
def BA(af:aa GE)(r:Nat):aa Int:=(List.range (r+1)).map λj=>(hh af j:Int)
def x8(af:aa GE)(r k:Nat):aa Int:=(List.range (r+1)).map λj=>((if j<=k then dA af j else hh af j:Nat):Int)
theorem adJ(h:i<n):((List.range n).map f)[i]? = some (f i):=ab
theorem adK{g:Nat->Int}(ai:i<n)(B:g i=x)(A:∀j,j<n->j≠i->g j=f j):((List.range n).map f).set i x=(List.range n).map g:=by
 apply nL
 grind
theorem aoh(r:Nat):BA [] r=List.replicate (r+1) 0:=by
 unfold BA;apply nL;intro j
 by_cases A:j<r+1
 ·rw[adJ A,List.getElem?_replicate,if_pos A];rfl
 grind
theorem adL(af:aa GE)(e:GE)(j:Nat):hh (af++[e]) j=hh af j+if e.f+1=j then 1 else 0:=by
 unfold hh
 grind
theorem aoi{e:GE}(h:e.f<r):(BA af r).set (e.f+1) ((hh af (e.f+1):Int)+1)=BA (af++[e]) r:=by
 refine adK (by omega) ?_ λj B A=>?_
 ·rw[adL,if_pos rfl];simp
 ·rw[adL,if_neg (kE A)];simp
theorem aft(af:aa GE)(j:Nat):hh af j<=af.length:=yF _ _
theorem abF(af:aa GE)(k:Nat):dA af (k+1)=dA af k+hh af (k+1):=by
 unfold dA hh
 induction af with
 |nil=>rfl
 |cons g af A =>
  grind
theorem aww(af:aa GE)(r:Nat):x8 af r 0=BA af r:=by
 apply qO;intro j _
 by_cases h:j<=0
 ·have:j=0:=J
  subst this;rw[if_pos (cB _),L7];have:hh af 0=0:=by
   unfold hh;rw[List.length_eq_zero_iff,An]
   grind
  omega
 grind
theorem awx(af:aa GE)(r:Nat):x8 af r r=qt af r:=by
 apply qO
 grind
theorem aoj(h:k<r):(x8 af r k)[k+1]? = some (hh af (k+1):Int):=by
 unfold x8
 grind
theorem aok(h:k<r):(x8 af r k)[k]? = some (dA af k:Int):=by
 unfold x8
 grind
theorem arW(h:k<r):(x8 af r k).set (k+1) ((hh af (k+1):Int)+(dA af k:Int))=x8 af r (k+1):=by
 refine adK (by omega) ?_ λj B A=>?_
 ·rw[if_pos (cB _),abF];omega
 grind
theorem aol(C:r<=4096):aD Q s 367 [(r:X),(c:X)] h U (λB ac Y=>B = .agg ⟨[(r:X),(c:X),.slice (some ⟨U+1,0,none⟩) (r+1) (r+1),.slice none 0 0,.slice none 0 0]⟩/\u ac (U+1)=some (.cells (fx (List.replicate (r+1) 0)) false)/\az U h ac/\Y=U+1+1):=by
 refine bS ?_;have A:List.replicate (r+1) (Value.int .i64 0)=fx (List.replicate (r+1) 0):=by simp[fx]
 refine cx (cn (J:r<1000000000000)) @A ?_;exact aC
def ayc(r c cj eY iv ao:Nat)(Cr:X)(af:aa GE)(ap:ad)(U:Nat)(m:Nat)(aE:aa X)(ac:ad)(Y:Nat):Prop :=
 ∃(i:Nat) (eG l0:X),m=af.length-i/\i<=af.length/\aE=[(r:X),bb cj,bb eY,Cr,(af.length:X),(i:X)] /\
  u ac eY=some (.cells [(r:X),(c:X),.slice (some ⟨iv,0,none⟩) (r+1) (r+1),eG,l0] false)/\u ac iv=some (.cells (fx (BA (af.take i) r)) false) /\
  xH ac eG l0 ((af.take i).map λe=>(e.t:Int)) ((af.take i).map GE.w) ao Y/\(∀d,d<ao->d≠eY->d≠iv->u ac d=u ap d)/\ao<=Y
def ayd(r c cj eY iv ao:Nat)(eG l0:X)(af:aa GE)(ap:ad)(U:Nat)(m:Nat)(aE:aa X)(ac:ad)(Y:Nat):Prop :=
 ∃(i:Nat),m=r-i/\i<=r/\aE=[bb cj,bb eY,(r:X),(i:X)] /\
  u ac eY=some (.cells [(r:X),(c:X),.slice (some ⟨iv,0,none⟩) (r+1) (r+1),eG,l0] false)/\u ac iv=some (.cells (fx (x8 af r i)) false) /\
  (∀d,d≠iv->u ac d=u ap d)/\Y=U
def SU(r c:Nat)(af:aa GE)(U:Nat)(h:ad):bD:=λv ac Y=>xa ac U Y v r c af/\az U h ac/\U<=Y
theorem QE(aI:dq h U v bQ af)(M:hJ r c af):
  aD Q s 281 [(r:X),(c:X),v] h U (SU r c af U h):=by
 refine aeZ ?_;obtain⟨a,cap,rfl,M6⟩:=id aI;have ba:=M.ba;have aU:=M.aU;have bg:=M.len;unfold To;refine aB ?_;refine(aol   ba).mono ?_;rintro oj h1 _ ⟨rfl,hy,E,rfl⟩;have b7:=E U J;rw[aN]at b7;refine aB ?_;refine bq.mk (ayc r c U (U+1+1+1) (U+1+1) (U+1+1+1+1) (.slice a af.length cap) af h1 U) af.length ⟨0,_,_,rfl,J,rfl,ab,by rw[aq J,aq J,tV,aoh];omega,.inl ⟨rfl,rfl,rfl,rfl⟩,ab,J⟩ ?_;rintro m _ al C ⟨i,eG,l0,rfl,ai,rfl,L,gx,B,bx,dr⟩;obtain⟨d9,dI,o9,yt,yu,Jv⟩:=B.ho;obtain⟨ax,a6,Z,a2,P,c2,rfl,rfl⟩:=B.form;rw[ada];unfold Rl;refine aB ?_;refine⟨λci=>?_,λeh=>?_⟩
 ·obtain⟨e,bk⟩:=dk ci;have Vv:e.f<r:=M.rows e ab;obtain⟨_,b,aO,bC,dF,cs,aG,aY,a5⟩:=aI.at bk;cases aY;have jy:=(bx b J J J).trans ((E b J).trans ((aq J).trans a5));have se:hF (some 3) (i*3) (a1 bQ af++cs) = .ok (.agg ⟨[(e.f:X),(e.t:X),(e.w:X)]⟩):=sj  (k:=3) (λ_=>rfl) bk;have aR:(BA (af.take i) r)[e.f+1]? = some (hh (af.take i) (e.f+1):Int):=adJ J;have Ng:=aft (af.take i) (e.f+1);have qo:(af.take i).length<=120:=ab
  have I:IntKind.wrap .i64 ((hh (af.take i) (e.f+1):Int)+1)=(hh (af.take i) (e.f+1):Int)+1:=jI J J;simp(disch:=omega)only[bd,jy,se,L,gx,cn (J:e.f<1000000000000),iz aR,I,seval];refine⟨ab,?_⟩;have je:((af.take i).map λe=>(e.t:Int)).length=i:=ab
  have wc:((af.take i).map GE.w).length=i:=ab
  refine rX (o9.T ab) (aN _ _ _) J λK uP A=>?_;have Iz:u K (U+1+1+1)=some (.cells [(r:X),(c:X),.slice (some ⟨U+1+1,0,none⟩) (r+1) (r+1),.slice ax a6 Z,.slice a2 P c2] false):=ab
  have IA:u K C=some (.cells [(e.f:X),(e.t:X),(e.w:X)] false):=ab
  refine cx @Iz @IA ?_;refine rX (yt.T λc aU=>?_) (aN _ _ _) J λbc Vw tB=>?_
  ·grind
  have IB:u bc (U+1+1+1)=some (.cells [(r:X),(c:X),.slice (some ⟨U+1+1,0,none⟩) (r+1) (r+1),.slice (some ⟨C+1+1,0,some 1⟩) (((af.take i).map λe=>(e.t:Int)).length+1) (((af.take i).map λe=>(e.t:Int)).length+1),.slice a2 P c2] false):=ab
  refine a9 @IB ?_;have pB:af.take (i+1)=af.take i++[e]:=by rw[gQ,bk];rfl
  refine⟨af.length-(i+1),J,i+1,_,_,rfl,J,by rw[cn J],aN _ _ _,?_,.inr ⟨C+1+1,C+1+1+1+1,J,J,J,J,J,?_,?_,?_,?_⟩,λd h1 al K=>?_,J⟩
  ·rw[aq J,tB _ J (λe=>ab),aq J,aq J,A _ J (λe=>ab),aq J,aN,aoi Vv,pB]
  ·grind
  ·grind
  ·grind
  all_goals grind
 ·obtain⟨Cs,Ct⟩:=B.gI;have BZ:i=af.length:=J
  subst BZ;rw[ht]at Cs Ct B gx;refine bq.mk (ayd r c U (U+1+1+1) (U+1+1) (U+1+1+1+1) (.slice ax a6 Z) (.slice a2 P c2) af al C) r ⟨0,rfl,J,rfl,L,by rw[aww];omega,λ_ _=>rfl,rfl⟩ ?_;rintro m _ K V ⟨k,rfl,hk,rfl,_,gx,A,rfl⟩;have L:=(A (U+1+1+1) J).trans L;rw[adb];unfold Rm
  by_cases D:k<r
  ·have aR:=aoj (af:=af) D;have ca:=aok (af:=af) D;have Ng:=aft af (k+1);have hyb:=vN af k;have I:IntKind.wrap .i64 ((hh af (k+1):Int)+(dA af k:Int))=(hh af (k+1):Int)+(dA af k:Int):=jI J J;simp(disch:=omega)only[bd,show(k:Int)<(r:Int) by omega,D,L,gx,cn (J:k<1000000000000),iz aR,iz ca,I,seval];refine⟨⟨ab,?_⟩,λh=>absurd trivial h⟩;refine⟨r-(k+1),J,k+1,rfl,J,rfl,?_,?_,λd K=>ab,rfl⟩
   ·grind
   ·rw[aN,arW D]
  ·have:k=r:=J
   subst this;have kh:=(A U J).trans ((bx U J J J).trans b7);refine cx @L @kh ?_;rw[awx]at gx;have qL:oN (F K U (.cells [(k:X),(c:X),.slice (some ⟨U+1+1,0,none⟩) (k+1) (k+1),.slice ax a6 Z,.slice a2 P c2] false)) U V (.slice ax a6 Z) (fz af)/\oN (F K U (.cells [(k:X),(c:X),.slice (some ⟨U+1+1,0,none⟩) (k+1) (k+1),.slice ax a6 Z,.slice a2 P c2] false)) U V (.slice a2 P c2) (gV af):=by
    rcases B with⟨aY,aJ,ce,eC⟩|⟨de,bO,eg,ih,jC,hZ,u3,ce,eC,bY,cC⟩
    ·exact⟨⟨none,.inl ⟨aY,ce,rfl⟩,λc e=>by cases e⟩,⟨none,.inl ⟨aJ,eC,rfl⟩,λc e=>by cases e⟩⟩
    ·refine⟨⟨some de,.inr ⟨de,rfl,ce,?_⟩,λc e=>ab⟩,⟨some bO,.inr ⟨bO,rfl,eC,?_⟩,λc e=>ab⟩⟩
     ·rw[aq J,A de J,h2];exact bY
     ·rw[aq J,A bO J,h2];exact cC
   refine⟨λh=>absurd h J,λ_=>⟨⟨U+1+1,none,k+1,_,_,rfl,J,J,?_,qL.1,qL.2⟩,λd bu=>?_,J⟩⟩
   ·grind
   ·rw[aq J,A d J,bx d J J J,E d J,aq J]
def c6(n k i:Nat):Nat:=min i k*n / k
theorem ua(A:0<k)(i:Nat):c6 n k i<=n:=by refine Nat.div_le_of_le_mul ?_;exact sT J J
theorem vv(h:i<=j):c6 n k i<=c6 n k j:=by exact Nat.div_le_div_right (sT J J)
theorem afu(n k:Nat):c6 n k 0=0:=by unfold c6;simp
theorem afv(A:0<k):c6 n k k=n:=by unfold c6;rw[Nat.min_self];exact OJ n A
def qc(a H b W:Nat)(g:GE):ak:=decide (a<=g.f/\g.f<a+H/\b<=g.t/\g.t<b+W)
def ma(af:aa GE)(a H b W:Nat):aa GE:=(af.filter (qc a H b W)).map λg=>⟨g.f-a,g.t-b,g.w⟩
theorem Lo{a H W:Nat}(M:hJ r c af)(E:a+H<=r)(D:b+W<=c):hJ H W (ma af a H b W) where
 up:=by
  unfold ma lk;rw[yJ];refine List.Pairwise.imp_of_mem (λ{x y} A ca h=>?_) (JX _ M.up);have C:=of_decide_eq_true (pV.1 A).2;unfold nq at h ⊢
  grind
 rows:=λg B=>by
  obtain⟨x,A,rfl⟩:=fL.1 B;have C:=of_decide_eq_true (pV.1 A).2
  grind
 mF:=λg B=>by
  obtain⟨x,A,rfl⟩:=fL.1 B;have C:=of_decide_eq_true (pV.1 A).2
  grind
 ba:=by have:=M.ba;omega
 aU:=by have:=M.aU;omega
 len:=by unfold ma;rw[g5];exact hu ab M.len
def zz(b W:Nat)(g:GE):ak:=decide (b<=g.t/\g.t<b+W)
def T6(af:aa GE)(a b W i:Nat):aa GE:=((eQ af (a+i)).filter (zz b W)).map λg=>⟨i,g.t-b,g.w⟩
theorem ajK(h:lk af)(a H b W:Nat):af.filter (qc a (H+1) b W)=af.filter (qc a H b W)++(eQ af (a+H)).filter (zz b W):=by
 induction af with
 |nil=>rfl
 |cons x af A =>
  have A:=A (vj.1 h).2;unfold eQ at A ⊢;rw[rK,rK,rK,A]
  by_cases K:x.f<a+H
  ·have aJ:qc a (H+1) b W x=qc a H b W x:=by unfold qc;grind
   grind
  ·have I:=ahG h;have aF:af.filter (qc a H b W)=[]:=by
    rw[An];intro g D;unfold qc
    grind
   have C:qc a H b W x=false:=f9 J;rw[aF,C]
   by_cases E:x.f=a+H
   ·have B:qc a (H+1) b W x=zz b W x:=by unfold qc zz;grind
    grind
   ·have B:qc a (H+1) b W x=false:=f9 J
    grind
theorem aln(h:lk af)(a H b W:Nat):ma af a (H+1) b W=ma af a H b W++T6 af a b W H:=by
 unfold ma T6;rw[ajK h,hN]
 congr 1
 apply qO;intro g A;have:=(pV.1 (show g∈eQ af (a+H)from ab)).2
 grind
theorem auy(af:aa GE)(a b W:Nat):ma af a 0 b W=[]:=by
 unfold ma;rw[An.2];rfl;intro g _;unfold qc
 grind
end Go.Proofs.YthlhhajnbgjfmaaGreat
