/- Parts of the proof: HwFn3: each statement bears its own conditions. -/
import Derived.Test.YthlhhajnbgjfmaaGreatHwFn2
namespace Go.Proofs.YthlhhajnbgjfmaaGreat
open Go Go.Ax
set_option linter.all false
set_option maxHeartbeats 1000000
set_option maxRecDepth 1000000
variable {U:Nat} {ag:ac GE} {s:ao} {h:ae} {v:X} {n:Nat} {N R:aQ} {l:ac Int} {r:Nat} {aM:aQ} {i:Nat} {a6:X} {c:Nat} {a3 bq:X} {k:Nat} {aC bj az eg a2:X} {p:Nat->ao} {dd d5:X} {ab:ae} {aZ:X} {Y:Nat} {f2:X} {al aj:Nat} {bI:X} {a:ay Addr} {cH:X} {aO:ay Nat} {m:Int} {b j:Nat} {aP:aQ} {q:Nat->ao} {eM jU gp ik nC mv:X} {f:Nat->Int} {x:Int} {eu f7:X} {bL:ao} {ea dB cap:Nat} {g:GE} {w:Nat}
theorem akS{k n src len E A:Int}{C:ac Int}{B:ac hF}(P:dg h U eu cY C)(L:el h U f7 hW B)(K:B.length<=60\/65536<B.length):
  aD Q s 86 [.agg ⟨[(k:X),(n:X),(src:X),(len:X),eu]⟩,.agg ⟨[(E:X),f7]⟩,(A:X)] h U (c9 (.int .i64 (nx k n src len C E B A)) U h):=by
 refine anO ?_;obtain⟨a,cap,rfl,a5⟩:=id P;obtain⟨a2,V,rfl,og⟩:=id L;unfold abA;refine aE ?_;have Z:∀{o aU},aA U h (T (T h U o) (U+1) aU):=aF
 refine(akR (P.F Z J) (L.F Z J) K).mono ?_;rintro r h1 D ⟨m,rfl,ei,dv,M⟩;obtain⟨x,y,dA,b2,d2,bg,bU,b1,c1,c2,gd,rfl⟩:=ei.form;have I:∀{o aU},aA U h (T (T h1 D o) D aU):=aF
 unfold Aj
 by_cases aq:iw k n src len C E B=0
 case neg =>
  have a1:(iw k n src len C E B == 0)=false:=aa
  refine bf @a1 ?_;exact⟨by unfold nx;grind,I,J⟩
 rw[aq];have e:nx k n src len C E B A=if A<0\/8192<A then 3 else 0:=by unfold nx;omega
 refine aE ?_;rw[e];refine⟨λap=>⟨aa,I,J⟩,λap=>⟨λaH=>⟨aa,I,J⟩,λaH=>⟨aa,I,J⟩⟩⟩
theorem Si{n:Int}(h:¬n<1)(ab:¬m<n):jv n m=true:=hf J
theorem Dj{n:Int}(h:n<1\/m<n):jv n m=false:=ht J
theorem akT{x:iV}{eD:X}(H:n3 h U x eu f7 eD):aD Q s 24 [.agg ⟨fM x eu f7 eD⟩] h U (c9 (.int .i64 (gP x)) U h):=by
 refine anN ?_;obtain⟨a,cap,rfl,a5⟩:=id H.d;obtain⟨a2,M,rfl,og⟩:=id H.e;obtain⟨a3,P,rfl⟩:=H.c;unfold abz fM;have I:∀{o},aA U h (T h U o):=aF
 refine aE ?_;refine(akS (H.d.F I J) (H.e.F I J) H.l).mono ?_;rintro r Z D ⟨rfl,C,L⟩;have g:=C U J;rw[aR]at g;have B:aA U h Z:=aF
 generalize bx:nx x.k x.n x.src x.len x.bu x.ci x.es x.lim=Ie
 by_cases aq:Ie=0
 case neg =>
  have a1:(Ie == 0)=false:=aa
  refine bf @a1 ?_;exact⟨by unfold gP;grind,B,J⟩
 subst aq;have e:gP x=if jv x.R 8=false then 3 else if jv x.C 8=false then 3 else if jv x.M 64=false then 3 else if 8192<x.t0 then 5 else 0:=by unfold gP;omega
 have A:gP x=3->v0 s (c9 (.int .i64 (gP x)) U h) (bb U) (.bool true) Z D:=λe=>by unfold v0;refine aE ?_;exact⟨by rw[e],B,J⟩
 refine bf @g ?_;refine⟨λaz=>A (by rw[e,Dj J];rfl),λaz=>⟨λa2=>A (by rw[e,Dj J];rfl),λa2=>?_⟩⟩;rw[Si az a2]at e;refine⟨λK=>A (by rw[e,Dj J];rfl),λK=>⟨λV=>A (by rw[e,Dj J];rfl),λV=>?_⟩⟩;rw[Si K V]at e;refine⟨λE=>A (by rw[e,Dj J];rfl),λE=>?_⟩
 by_cases c2:64<x.M
 ·rw[hf c2];exact A (by rw[e,Dj J];rfl)
 rw[ht c2];rw[Si E c2]at e;unfold v0;refine bf @g ?_;refine⟨λcj=>⟨aa,B,J⟩,λcj=>⟨aa,B,J⟩⟩
def JB(s:ao)(K:bZ)(b8 cN ca c6 ib p8:X)(aq:ae)(a0:Nat):Prop:=av aq 0 c6 λb=>af (cw [(ad 0),(ad 0),(ad 0),(ad 0),aw] [(0,1,(ad 1)),(1,1,b),(2,1,b8)]) λc=>aG 2 aq c6 λd=>af (cw [(ad 0),(ad 0),(ad 0),(ad 0),aw,(ad 0),aw,(ad 0),(ad 0),(ad 0),(ad 0),aw] [(0,5,c),(5,2,d),(7,1,cN),(8,1,ca),(9,1,(ad 4)),(10,1,p8)]) λe=>af (aN aq 12 ib e) λf=>aG 12 f ib λg=>K g f a0
def ad7:sZ:=λs ah t1 t2 t3 h U K=>bG ah h U λa b c=>bX [(ad 0),(ad 0),(ad 0),(ad 0),aw,(ad 0),aw,(ad 0),(ad 0),(ad 0),(ad 0),aw] b c λd e f=>av e 0 a λi=>bm .geq 3 i (ad 0) (av e 0 a λl=>af (min2 true l (ad 8191)) λm=>b9 m λn=>(JB s K t1 t2 t3 a d n e f)) (JB s K t1 t2 t3 a d (ad 0) e f)
theorem arY:uj 22 ad7:=vu []
def abI:sZ:=λs ah t1 t2 t3 h U K=>bG ah h U λa b c=>bX [(ad 0),(ad 0),(ad 0),(ad 0),aw,(ad 0),aw,(ad 0),(ad 0),(ad 0),(ad 0),aw] b c λd e f=>av e 0 a λi=>af (min2 true i (ad 8191)) λj=>b9 j λk=>af (min2 false (ad 0) k) λl=>av e 0 a λn=>af (cw [(ad 0),(ad 0),(ad 0),(ad 0),aw] [(0,1,(ad 1)),(1,1,n),(2,1,t1)]) λo=>aG 2 e a λp=>af (cw [(ad 0),(ad 0),(ad 0),(ad 0),aw,(ad 0),aw,(ad 0),(ad 0),(ad 0),(ad 0),aw] [(0,5,o),(5,2,p),(7,1,t2),(8,1,t3),(9,1,(ad 4)),(10,1,l)]) λq=>af (aN e 12 d q) λr=>aG 12 r d λt=>K t r f
theorem an0:uj 23 abI:=vu []
def Sj:ac (ac Nat):=[[0,5,10,11,12]]
def KC(s:ao)(N:aQ)(aM:aQ)(R:aQ)(cA eb lx DO sN:X)(aq:ae)(a0:Nat):Prop:=b9 sN λa=>N [cA,eb,lx,DO,a] aq a0
def RG(s:ao)(aC bI dd d5 eg:X)(h:ae)(U:Nat)(N:aQ)(aM:aQ)(R:aQ):Prop:=cv eg d5 (et h 1 dd eg λc=>cv c aC (aV s 179 [bI,c] h U λe f g=>bt e (cg 180 [c] f g λi j k=>bE .shr 3 c (.int .u64 6) λl=>fq 1 bI l λm=>bY j m λn=>da m n (bE .or 188 n i λo=>fq 1 bI l λp=>af (aN j 1 p o) λq=>(KC s N aM R aC bI dd d5 eg q k)) 1 [f]) (KC s N aM R aC bI dd d5 eg f g)) (KC s N aM R aC bI dd d5 eg h U)) (aM [aC,bI,dd,d5,eg] h U)
def fof:c0:=λs ah t1 h U K=>aV s 117 [ah] h U λa b c=>cP t1 λd=>bF (bW Q s Sj 108 0) [ah,a,t1,d,(ad 0)] b c [(0,λe f g=>K (aT e 1) f g)] (λ_ _ _=>False)
theorem afH:bW Q s Sj 108 0 [aC,bI,dd,d5,eg] h U N [(0,aM)] R=RG s aC bI dd d5 eg h U N aM R:=by kernel_rfl
theorem agZ:c4 108 fof:=c5 Sj
def PS:ac (ac Nat):=[[3,6,7,8]]
def JC(s:ao)(a3 bj a6 bq:X)(h:ae)(U:Nat)(N:aQ)(aM:aQ)(R:aQ):Prop:=cv bq a6 (et h 1 bj bq λc=>aV s 183 [c] h U λd e f=>lD a3 d λg=>b9 bq λi=>N [g,bj,a6,i] e f) (aM [a3,bj,a6,bq] h U)
def QV:cO:=λs ah h U K=>cP ah λa=>bF (bW Q s PS 111 0) [(ad 0),ah,a,(ad 0)] h U [(0,λb c d=>K (aT b 0) c d)] (λ_ _ _=>False)
theorem OX:bW Q s PS 111 0 [a3,bj,a6,bq] h U N [(0,aM)] R=JC s a3 bj a6 bq h U N aM R:=by kernel_rfl
theorem abJ:cQ 111 QV:=cT PS
def azr:cO:=λs ah h U K=>aV s 195 [ah] h U λa b c=>dS (tx [(.int .u64 0)] a a) b c λd e f=>K d e f
theorem afI:cQ 117 azr:=cT []
def axA:cO:=λs ah h U K=>aV s 197 [ah] h U λa b c=>aV s 196 [a] b c λd e f=>K d e f
theorem ad8:cQ 119 axA:=cT []
def PT:c0:=λs ah t1 h U K=>bm .geq 3 t1 (ad 0) (bE .shr 3 t1 (.int .u64 6) λb=>cP ah λc=>bE .lss 3 b c λd=>K d h U) (K (.bool false) h U)
theorem Zs:c4 179 PT:=c5 []
def ag0:cO:=λs ah h U K=>af (n1 (.int .u64) ah) λa=>bE .and 238 a (.int .u64 63) λb=>bE .shl 188 (.int .u64 1) b λc=>K c h U
theorem axB:cQ 180 ag0:=cT []
def QW:ac (ac Nat):=[[0,3]]
def abK(s:ao)(aC a3:X)(h:ae)(U:Nat)(N:aQ)(aM:aQ)(R:aQ):Prop:=bm .eql 188 aC (.int .u64 0) (aM [aC,a3] h U) (bE .sub 188 aC (.int .u64 1) λb=>bE .and 188 aC b λc=>b9 a3 λd=>N [c,d] h U)
def axC:cO:=λs ah h U K=>bF (bW Q s QW 183 0) [ah,(ad 0)] h U [(0,λa b c=>K (aT a 1) b c)] (λ_ _ _=>False)
theorem arZ:bW Q s QW 183 0 [aC,a3] h U N [(0,aM)] R=abK s aC a3 h U N aM R:=by kernel_rfl
theorem avc:cQ 183 axC:=cT QW
def QX:cO:=λs ah h U K=>af (min2 false ah (ad 0)) λa=>af (min2 true a (ad 4096)) λb=>lD b (ad 63) λc=>bE .shr 3 c (.int .u64 6) λd=>K d h U
theorem abL:cQ 195 QX:=cT []
def QY:cO:=λs ah h U K=>bm .eql 87 ah aw (K aw h U) (dS (eO 0 [] []) h U λb c d=>dm (dI (dn 1 c d b ah)) λe f g=>K e f g)
theorem abM:cQ 139 QY:=cT []
def ar0:cO:=λs ah h U K=>aV s 287 [aw,ah] h U λa b c=>K a b c
theorem Zt:cQ 196 ar0:=cT []
def K4:cO:=λs ah h U K=>bG ah h U λa b c=>af (.ok (Value.func (.func 288) ⟨[]⟩ ⟨[a]⟩)) λd=>K d b c
theorem RH:cQ 197 K4:=cT []
def Gg:ac (ac Nat):=[[0,6,7,8],[0,4,5,6,7,8]]
def Co(s:ao)(N:aQ)(aP:aQ)(R:aQ)(cA c6 eb dY fi ib:X)(aq:ae)(a0:Nat):Prop:=bE .shr 188 c6 (.int .u64 1) λa=>b9 eb λb=>N [cA,a,b,dY,fi,ib] aq a0
def PU(s:ao)(aC aZ bI bj a6 bq:X)(h:ae)(U:Nat)(N:aQ)(aP:aQ)(R:aQ):Prop:=bm .neq 188 aZ (.int .u64 0) (bE .and 188 aZ (.int .u64 1) λb=>bm .eql 188 b (.int .u64 1) (fg Q s (hV h U [bI] aC) λd e f=>af (ds .not d) λg=>bt g (R [aC,aZ,bI,bj,a6,bq] e f) (Co s N aP R aC aZ bI bj a6 bq e f)) (Co s N aP R aC aZ bI bj a6 bq h U)) (aP [aC,aZ,bI,bj,a6,bq] h U)
def Cp(s:ao)(aC bj a6 bq:X)(h:ae)(U:Nat)(N:aQ)(aM:aQ)(R:aQ):Prop:=cv bq a6 (et h 1 bj bq λc=>bE .shl 3 bq (.int .u64 6) λd=>bF (bW Q s Gg 288 1) [aC,c,d,bj,a6,bq] h U [(2,λe f g=>b9 (aT e 5) λi=>N [(aT e 0),(aT e 3),(aT e 4),i] f g)] (λj k l=>R [(aT j 0),(aT j 3),(aT j 4),(aT j 5)] k l)) (aM [aC,bj,a6,bq] h U)
def KD:c0:=λs ah t1 h U K=>bY h t1 λa=>cP a λb=>bF (bW Q s Gg 288 0) [ah,a,b,(ad 0)] h U [(0,λc d e=>K (.tuple ⟨[]⟩) d e)] (λf g i=>K (.tuple ⟨[]⟩) g i)
theorem abN:bW Q s Gg 288 1 [aC,aZ,bI,bj,a6,bq] h U N [(2,aP)] R=PU s aC aZ bI bj a6 bq h U N aP R:=by kernel_rfl
theorem FY:bW Q s Gg 288 0 [aC,bj,a6,bq] h U N [(0,aM)] R=Cp s aC bj a6 bq h U N aM R:=by kernel_rfl
theorem QZ:c4 288 KD:=c5 Gg
def PV:ac (ac Nat):=[[0,1,4,7,8]]
def Zu(s:ao)(aC az aZ a6 bq:X)(h:ae)(U:Nat)(N:aQ)(aM:aQ)(R:aQ):Prop:=cv bq a6 (et h 1 aC bq λc=>fg Q s (hV h U [c] az) λd e f=>bt d (R [aC,az,bq,a6,bq] e f) (b9 bq λg=>N [aC,az,aZ,a6,g] e f)) (aM [aC,az,aZ,a6,bq] h U)
def ad9:c0:=λs ah t1 h U K=>cP ah λa=>bF (bW Q s PV 245 0) [ah,t1,(ad 0),a,(ad 0)] h U [(0,λb c d=>K (ad (-1)) c d)] (λe f g=>K (aT e 2) f g)
theorem an1:bW Q s PV 245 0 [aC,az,aZ,a6,bq] h U N [(0,aM)] R=Zu s aC az aZ a6 bq h U N aM R:=by kernel_rfl
theorem ar1:c4 245 ad9:=c5 PV
def Og(s:ao)(K:bZ)(b8 cN ca To:X)(aq:ae)(a0:Nat):Prop:=bt To (K (ad 0) aq a0) (av aq 4 ca λb=>cP b λc=>hP c (ad 0) (av aq 4 ca λf=>av aq 1 ca λi=>bE .mul 3 b8 i λj=>lD j cN λk=>bE .rem 3 k c λl=>et aq 1 f l λn=>bE .shl 2 n (.int .u64 12) λo=>bE .or 2 o cN λp=>K p aq a0) (bE .shl 2 (ad 0) (.int .u64 12) λq=>bE .or 2 q cN λr=>K r aq a0))
def abO:gj:=λs ah t1 t2 h U K=>bG ah h U λa b c=>aV s 277 [t1,(ad 8192)] b c λd e f=>af (ds .not d) λg=>bt g (Og s K t1 t2 a (.bool true) e f) (av e 1 a λj=>bE .sub 3 j (ad 1) λk=>aV s 277 [t2,k] e f λl m n=>af (ds .not l) λo=>(Og s K t1 t2 a o m n))
theorem an2:gw 368 abO:=gz []
def kd(x:Nat):ac X:=[.int .u64 (x:Int)]
def sB(w:Nat)(U:Nat)(h:ae):bZ:=λr ab Y=>∃b c aO,r = .slice (some ⟨b,0,aO⟩) 1 c/\U<=b/\b<Y/\u ab b=some (.cells [.int .u64 (w:Int)] false)/\aA U h ab/\U<=Y
theorem sB.rd{r:X}(H:sB w U h r ab Y):dg ab Y r kd [w]:=by obtain⟨b,c,aO,rfl,C,B,A,_⟩:=H;exact⟨_,_,rfl,λ_=>⟨b,aO,false,B,rfl,A⟩⟩
theorem Zv(A:1<=n)(B:n<=64):aD Q s 195 [(n:X)] h U (λr ab Y=>r = .int .i64 1/\ab=h/\Y=U):=by
 refine abL ?_;unfold QX;have e:IntKind.wrap .i64 ((n:Int)+63)=((n+63:Nat):Int):=cF J;simp(disch:=omega)only[bk,show max (n:Int) 0=n by omega,show min (n:Int) 4096=n by omega,e,Fq,seval]
 grind
theorem aea(B:1<=n)(C:n<=64):aD Q s 117 [(n:X)] h U (sB 0 U h):=by refine afI ?_;refine(Zv B C).mono ?_;rintro r E D ⟨rfl,A,aP⟩;rw[A,aP];show dS (tx [.int .u64 0] (((1:Nat):X)) (((1:Nat):X))) h U _;refine nw ?_;exact⟨U,1,none,rfl,J,J,aa,aF,J⟩
theorem XQ(A:k<64):aD Q s 179 [.slice a 1 c,(k:X)] h U (λr ab Y=>r = .bool true/\ab=h/\Y=U):=by
 refine Zs ?_;unfold PT;refine bf @Fq ?_;rw[show k / 64=0 by omega]
 grind
theorem aeb(A:k<64):aD Q s 180 [(k:X)] h U (λr ab Y=>r = .int .u64 ((2 ^ k:Nat):Int)/\ab=h/\Y=U):=by
 refine axB ?_;unfold ag0;have e:IntKind.wrap .u64 (k:Int)=(k:Int):=CA J;have aP:∀{t},bin Q .and t (.int .u64 (k:Int)) (.int .u64 63) = .ok (.int .u64 (k:Int)):=λ{t}=>by rw[show(63:Int)=((63:Nat):Int)from rfl,Fp J J,show(63:Nat)=2 ^ 6-1 from rfl,Nat.and_two_pow_sub_one_eq_mod,IN J]
 simp(disch:=omega)only[bk,e,aP,amI k A,seval]
def f9(l:ac Nat):ac Int:=l.map λx:Nat=>(x:Int)
def na(l:ac Nat)(i:Nat):ao:=decide (i∈l)
def OfJ(n b c:Nat)(aO:ay Nat)(v:X)(l:ac Nat)(U:Nat)(h:ae)(m:Nat)(aJ:ac X)(ab:ae)(Y:Nat):Prop :=
 ∃i,m=l.length-i/\i<=l.length/\aJ=[(n:X),.slice (some ⟨b,0,aO⟩) 1 c,v,(l.length:X),(i:X)]/\u ab b=some (.cells [.int .u64 (mk n (na (l.take i)):Int)] false)/\U<=b/\b<Y/\aA U h ab/\U<=Y
theorem wO(h:n<=64):mk n p<18446744073709551616:=IK (afd n p) (Nat.pow_le_pow_right   J h)
theorem Zw{l:ac Nat}{x:Nat}(A:l[i]? = some x)(j:Nat):na (l.take (i+1)) j=(na (l.take i) j||decide (j=x)):=by
 unfold na;rw[hq,A,<-Bool.decide_or]
 grind
theorem axD{l:ac Nat}(aq:1<=n)(Z:n<=64)(aI:dg h U v cY (f9 l))(br:∀x∈l,x<n)(gT:l.length<1000000):aD Q s 108 [(n:X),v] h U (sB (mk n (na l)) U h):=by
 refine agZ ?_;obtain⟨a,cap,rfl,a5⟩:=id aI;unfold fof;refine(aea aq Z).mono ?_;rintro r ap bU ⟨b,c,aO,rfl,A,B,bd,I,C⟩;refine aE ?_;refine bF.mk (OfJ n b c aO (.slice a (f9 l).length cap) l U h) l.length ⟨0,J,J,by unfold f9;grind,by rw[s8,show mk n (na [])=0 from(by rw[<-Px n];exact Cz λi _=>by simp[na])];omega,A,B,I,C⟩ ?_;rintro _ _ ab Y ⟨i,rfl,aj,rfl,D,A,B,I,C⟩;rw[afH];unfold RG;refine aE ?_;refine⟨λM=>?_,λeZ=>?_⟩
 ·obtain⟨x,aX⟩:=dW M;have E:(f9 l)[i]? = some (x:Int):=by unfold f9;grind
  obtain⟨_,b2,mr,bL,c1,V,L,K⟩:=aI.at E;cases L;rw[jm]at K;have P:=br x (k1 aX);simp(disch:=omega)only[bk,(I b2 V).trans K,j4 E,show(x:Int)<(n:Int) by omega,seval];refine⟨?_,λh=>absurd trivial h⟩;refine(XQ J).mono ?_;rintro r aH b1 ⟨rfl,L,aP⟩;rw[L,aP];refine aE ?_;refine(aeb J).mono ?_;rintro r aH b1 ⟨rfl,L,aP⟩;rw[L,aP];refine⟨cR _,?_⟩;have fd:bin Q .or 188 (.int .u64 (mk n (na (l.take i)):Int)) (.int .u64 ((2 ^ x:Nat):Int)) = .ok (.int .u64 (mk n (na (l.take (i+1))):Int)):=by
   rw[ac8 P,aqK (wO Z) (wO Z),aw0]
   congr 3
   exact Cz λj _=>(Zw aX j).symm
  simp(disch:=omega)only[bk,Fq,show x / 64=0 by omega,D,fd,cF (J:i<1000000000000),seval];unfold KC;refine bf (cF (J:i<1000000000000)) ?_;exact⟨_,J,i+1,rfl,J,rfl,aR _ _ _,A,B,I.set A,C⟩
 ·have:i=l.length:=J
  subst this;rw[hB]at D;exact⟨b,c,aO,rfl,A,B,D,I,C⟩
def OnJ(n:Nat)(p:Nat->ao)(h:ae)(U:Nat)(m:Nat)(aJ:ac X)(ab:ae)(Y:Nat):Prop :=
 ∃(q:Nat->ao) (k:Nat),m=(ez n q).length/\k+(ez n q).length=(ez n p).length/\aJ=[.int .u64 (mk n q:Int),(k:X)]/\ab=h/\Y=U
theorem uZ(n:Nat)(p:Nat->ao):(ez n p).length<=n:=by
 unfold ez
 grind
theorem ar2(M:n<=63):aD Q s 183 [.int .u64 (mk n p:Int)] h U (λr ab Y=>r = .int .i64 ((ez n p).length:Int)/\ab=h/\Y=U):=by
 refine avc ?_;refine bF.mk (OnJ n p h U) (ez n p).length ⟨p,0,rfl,J,rfl,rfl,rfl⟩ ?_;rintro _ _ _ _ ⟨q,k,rfl,C,rfl,rfl,rfl⟩;rw[arZ];unfold abK;have L:=uZ n p
 by_cases A:mk n q=0
 ·rw[A];refine nw ?_;have:ez n q=[]:=auo (FO.1 A);rw[this]at C;rw[this];exact⟨aa,λh=>absurd h (by simp)⟩
 ·obtain⟨B,I,aP⟩:=YP n q A;have D:(((mk n q:Nat):Int) == 0)=false:=aa
  have K:IntKind.wrap .u64 ((mk n q:Int)-1)=((mk n q-1:Nat):Int):=by rw[show((mk n q:Nat):Int)-1=((mk n q-1:Nat):Int) by omega];exact CA (by have:=wO (p:=q) (J:n<=64);omega)
  have E:bin Q .and 188 (.int .u64 ((mk n q:Nat):Int)) (.int .u64 ((mk n q-1:Nat):Int)) = .ok (.int .u64 ((mk n B:Nat):Int)):=by rw[Fp (wO J) (by have:=wO (p:=q) (J:n<=64);omega),I]
  refine Kz @D @K @E (cF (J:k<1000000000000)) ?_;exact⟨_,J,B,k+1,rfl,J,rfl,rfl,rfl⟩
theorem an3(M:n<=63)(D:dg h U v kd [mk n p]):aD Q s 111 [v] h U (λr ab Y=>r = .int .i64 ((ez n p).length:Int)/\ab=h/\Y=U):=by
 refine abJ ?_;obtain⟨a,cap,rfl,L⟩:=id D;obtain⟨b,aO,bL,P,rfl,A⟩:=L (by simp);have Z:=uZ n p;unfold QV;refine aE ?_;refine bF.mk (λm B ab Y=>ab=h/\Y=U/\((m=1/\B=[.int .i64 0,.slice (some ⟨b,0,aO⟩) 1 cap,.int .i64 1,.int .i64 0])\/(m=0/\B=[.int .i64 ((ez n p).length:Int),.slice (some ⟨b,0,aO⟩) 1 cap,.int .i64 1,.int .i64 1]))) 1 aa ?_;rintro _ _ ab Y ⟨K,E,C⟩;rw[K,E];rcases C with⟨rfl,rfl⟩|⟨rfl,rfl⟩
 ·rw[OX];unfold JC;have A:u h b=some (.cells [.int .u64 (mk n p:Int)] bL):=A;refine bf @A ?_;refine⟨?_,aa⟩;refine(ar2 M).mono ?_;rintro r aH V ⟨rfl,I,aP⟩;rw[I,aP];refine aE ?_;exact⟨0,J,.inr ⟨rfl,by rw[show IntKind.wrap .i64 (0+((ez n p).length:Int))=((ez n p).length:Int) by rw[Int.zero_add];exact jb _ J];rfl⟩⟩
 ·rw[OX];unfold JC;simp(disch:=omega)only[bk,seval]
  grind
def TM(l:ac Nat):Nat:=match l with | []=>0|x::_=>x
theorem Q0{B c2:Nat}{A:ay Nat}{rd:ao}{l cs:ac X}(K:l.length=n)(D:u h b=some (.cells cs rd))(C:u h B=some (.cells l bL))(I:0<n)(L:n<1000000):
  dn 1 h U (.slice (some ⟨b,0,none⟩) 0 0) (.slice (some ⟨B,0,A⟩) n c2) = .ok (.val (.slice (some ⟨U,0,some 1⟩) n n) (T h U (.cells l false)) (U+1)):=by
 subst K;have E:jD h (some ⟨B,0,A⟩) (l.length.mul 1) (λnew=>ge 1 h U (some ⟨b,0,none⟩) 0 0 l.length new)=ge 1 h U (some ⟨b,0,none⟩) 0 0 l.length l:=by
  rw[show l.length.mul 1=l.length from EO _,sh C I J]
  grind
 show jD h (some ⟨B,0,A⟩) (l.length.mul 1) (λnew=>ge 1 h U (some ⟨b,0,none⟩) 0 0 l.length new)=_;rw[E];unfold ge;rw[show Nat.ble (Nat.add 0 l.length) 0=false by
  cases C:Nat.ble (Nat.add 0 l.length) 0 with
  |false=>rfl
  |true=>have:=lJ C;grind]
 rw[show(Nat.ble (Nat.mul (Nat.add 0 l.length) 1) 1000000&&Nat.ble (Nat.add 0 l.length) 1000000)=true by
  simp only[eA,sd]
  grind]
 unfold pw;simp only[uE D];rw[show mT (Nat.mul 0 1) (mO cs 0)=some [] by rw[xS,mb];rfl];show pv h U 1 (kP [] l) (0+l.length)=_;rw[j5,s7,iU];exact po J
theorem zO{P:Program}{t:TypeId}(A:ns P t=true)(a:ay Addr)(n c:Nat):bin P .eql t (.slice a n c) (.slice none 0 0) = .ok (.bool a.isNone):=by
 show R.of "compared" (oT P t (.slice a n c) (.slice none 0 0)) _=_;unfold oT;cases a <;> simp[A,RP,mP]
theorem ag1:ns Tryz.prog 29=true:=by kernel_rfl
theorem ag2:ns Tryz.prog 87=true:=by kernel_rfl
theorem an4(I:dg h U v kd [w]):aD Q s 139 [v] h U (sB w U h):=by
 refine abM ?_;obtain⟨a,cap,rfl,D⟩:=id I;obtain⟨b,aO,bL,B,rfl,A⟩:=D (by simp);have A:u h b=some (.cells [.int .u64 (w:Int)] bL):=A;unfold QY;have C:aA U h (T h U (.cells [] false)):=aF
 simp(disch:=omega)only[bk,zO ag2,@List.length_cons Nat,@List.length_nil Nat,seval];refine⟨λE=>(by cases E),λ_=>?_⟩;rw[Q0 (n:=1)  rfl (aR _ _ _) ((C b B).trans A) J J];exact⟨U+1,1,some 1,rfl,J,J,aa,aF,J⟩
theorem Fc(K:dg h U v cY l)(D:l.length<1000000):
  aD Q s 88 [v] h U (λr ab Y=>eY ab U Y r cY l/\aA U h ab/\U<=Y):=by
 refine YS ?_;obtain⟨a,cap,rfl,E⟩:=id K;unfold PB;simp(disch:=omega)only[bk,zO ag1,seval];refine⟨λI=>⟨?_,aF⟩,λI=>?_⟩
 ·have:l=[]:=aa
  subst this;exact⟨none,0,rfl,λh=>absurd rfl h⟩
 have B:aA U h (T h U (.cells [] false)):=aF
 rcases IV (l=[])with e|e
 ·subst e;exact⟨⟨some ⟨U,0,none⟩,0,rfl,λh=>absurd rfl h⟩,B,J⟩
 ·obtain⟨b,aO,bL,C,rfl,A⟩:=E e;rw[jm]at A;rw[Q0  (zN _) (aR _ _ _) ((B b C).trans A) aa D];refine⟨⟨some ⟨U+1,0,some 1⟩,l.length,rfl,λ_=>⟨U+1,some 1,false,J,J,rfl,?_⟩⟩,aF,J⟩
  grind
noncomputable def HA:Code:=(u9 Tryz.prog 287).1
noncomputable def HB:Code:=(u9 Tryz.prog 287).2
theorem Q1:Rr Q (.int .i64 0) 287 HA HB:=⟨by kernel_rfl,by kernel_rfl,by kernel_rfl,by kernel_rfl,by kernel_rfl⟩
theorem KE(k:Nat)(p:Nat->ao):ez (k+1) p=ez k p++(if p k then[k]else[]):=by
 unfold ez;rw[q8,s4]
 grind
theorem avd(C:k<=n)(h:∀i,k<=i->i<n->p i=false):ez n p=ez k p:=by
 induction n with
 |zero =>
  grind
 |succ n A =>
  by_cases e:k=n+1
  ·rw[e]
  ·rw[KE,h n J J,A J (λi B D=>h i B J)];simp
structure LV (l p:Nat) (a b:Code) (h:ae) (U:Nat) (azs:ac Int) (o:X) (aY:ay Nat):Prop where
 c:lh l p a b h o
 g:gZ h cY o azs aY
 b:∀c,aY=some c->c≠l/\c≠p/\c<U
def EaJ(l p n al Ih:Nat)(q:Nat->ao)(km:X)(h:ae)(m:Nat)(aJ:ac X)(ab:ae)(Y:Nat):Prop :=
 ∃(k:Nat) (o:X) (aY:ay Nat),m=n-k/\k<=n/\aJ=[.func (.yield l) ⟨[]⟩ ⟨[]⟩,.int .u64 (mk (n-k) (λi=>q (i+k)):Int),(k:X),km,.int .i64 1,.int .i64 0]/\LV l p HA HB ab Y (f9 (ez k q)) o aY/\(∀c,aY=some c->al<=c)/\(∀c,c<al->c≠l->c≠p->u ab c=u h c)/\al<=Y
theorem ar3{l p P:Nat}{km:X}(bw:n<=63)(aI:dg h U km kd [mk n q])(Z:u h P=some (.cells [km] false))(C:LV l p HA HB h U [] (.slice none 0 0) none)(hlp:l≠p)(br:l<U)(bn:p<U)(fk:∀b,b<U->u h b=u h b):
  aD Q s 288 [.func (.yield l) ⟨[]⟩ ⟨[]⟩,bb P] h U (λ_ ab Y=>∃o B,LV l p HA HB ab Y (f9 (ez n q)) o B/\(∀c,B=some c->U<=c)/\(∀c,c<U->c≠l->c≠p->u ab c=u h c)/\U<=Y):=by
 refine QZ ?_;obtain⟨a,cap,rfl,a5⟩:=id aI;obtain⟨b,aO,bL,a1,rfl,M⟩:=a5 (by simp);have M:u h b=some (.cells [.int .u64 (mk n q:Int)] bL):=M;unfold KD;simp(disch:=omega)only[bk,Z,@List.length_cons Nat,@List.length_nil Nat,seval];refine bF.mk (λm V ab Y=>(m=1/\V=[.func (.yield l) ⟨[]⟩ ⟨[]⟩,.slice (some ⟨b,0,aO⟩) 1 cap,.int .i64 1,.int .i64 0]/\ab=h/\Y=U)\/(m=0/\V=[.func (.yield l) ⟨[]⟩ ⟨[]⟩,.slice (some ⟨b,0,aO⟩) 1 cap,.int .i64 1,.int .i64 1]/\∃o B,LV l p HA HB ab Y (f9 (ez n q)) o B/\(∀c,B=some c->U<=c)/\(∀c,c<U->c≠l->c≠p->u ab c=u h c)/\U<=Y)) 1 aa ?_;rintro m V ab Y (⟨rfl,rfl,gB,e1⟩|⟨rfl,rfl,ei⟩)
 ·rw[FY,gB,e1];unfold Cp;have TN:bin Q .shl 3 (.int .i64 0) (.int .u64 6) = .ok (.int .i64 0):=rfl;refine cM @M @TN ?_;refine⟨?_,λh=>absurd trivial h⟩;refine bF.mk (EaJ l p n U P q (.slice (some ⟨b,0,aO⟩) 1 cap) h) n ⟨0,.slice none 0 0,none,J,J,rfl,C,aa,aa,J⟩ ?_;rintro _ _ aH xe ⟨k,o,B,rfl,hk,rfl,D,E,I,A⟩;rw[abN];unfold PU
  by_cases aq:mk (n-k) (λi=>q (i+k))=0
  ·have K:ez n q=ez k q:=avd hk λi h1 ap=>by
    have:=FO.1 aq (i-k) J
    grind
   have aM:((mk (n-k) (λi=>q (i+k)):Nat):Int)=0:=J
   refine bf @aM ?_;exact⟨0,J,.inr ⟨rfl,rfl,o,B,by rw[K];exact D,E,I,A⟩⟩
  ·have Ba:k<n:=by
    rcases iI k n with h|h
    ·exact h
    ·exact absurd (by rw[show n-k=0 by omega];rfl) aq
   obtain⟨r,ba⟩:∃r,n-k=r+1:=⟨n-k-1,J⟩
   have aW:(((mk (n-k) (λi=>q (i+k)):Nat):Int) == 0)=false:=aa
   have aP:bin Q .and 188 (.int .u64 ((mk (n-k) (λi=>q (i+k)):Nat):Int)) (.int .u64 1) = .ok (.int .u64 (if q k then 1 else 0)):=by
    rw[show(1:Int)=((1:Nat):Int)from rfl,Fp (wO J) J,IJ,ba,ada,iU]
    grind
   have cy:mk (n-k) (λi=>q (i+k)) / 2=mk (n-(k+1)) (λi=>q (i+(k+1))):=by
    rw[ba,ac9,show n-(k+1)=r by omega]
    grind
   have eE:bin Q .shr 188 (.int .u64 ((mk (n-k) (λi=>q (i+k)):Nat):Int)) (.int .u64 1) = .ok (.int .u64 ((mk (n-(k+1)) (λi=>q (i+(k+1))):Nat):Int)):=by rw[OD,cy]
   cases L:q k with
   |true =>
    rw[L]at aP;refine cM @aW @aP ?_;refine aup l3 Q1  (λ_=>rfl) (λ_=>rfl) (x:=(k:Int)) rfl rfl D.c D.g hlp J J D.b (by unfold f9;rw[gW];have:=uZ k q;omega) λbh l2 hC4 hG4 xg=>?_;refine aE ?_;unfold Co;refine cM @eE (cF (J:k<1000000000000)) ?_;refine⟨n-(k+1),J,k+1,l2,some (xe+1),rfl,J,rfl,⟨hC4,?_,aa⟩,aa,aa,J⟩
    ·rw[KE,L];show gZ bh cY l2 (f9 (ez k q++[k])) _;rw[show f9 (ez k q++[k])=f9 (ez k q)++[(k:Int)] by unfold f9;grind];exact hG4
    all_goals grind
   |false =>
    rw[L]at aP;have LR:bin Q .and 188 (.int .u64 ((mk (n-k) (λi=>q (i+k)):Nat):Int)) (.int .u64 1) = .ok (.int .u64 0):=aP;refine cM @aW @LR ?_;unfold Co;refine cM @eE (cF (J:k<1000000000000)) ?_;refine⟨n-(k+1),J,k+1,o,B,rfl,J,rfl,⟨D.c,?_,D.b⟩,E,I,A⟩;rw[KE,L];simp only[np,ff,hC];exact D.g
 ·rw[FY];unfold Cp;refine aE ?_;exact λ_=>ei
def afJ(l:ac Int)(U:Nat)(h:ae):bZ:=λr ab Y=>∃aY,gZ ab cY r l aY/\(∀c,aY=some c->U<=c/\c<Y)/\aA U h ab/\U<=Y
theorem ar4(Z:n<=63)(D:dg h U v kd [mk n q]):aD Q s 119 [v] h U (afJ (f9 (ez n q)) U h):=by
 refine ad8 ?_;obtain⟨a,cap,rfl,P⟩:=id D;refine RH ?_;unfold K4;refine aE ?_;refine Zt ?_;refine XA l3 Q1 λE V bD=>?_;have A:dg E (U+1+1+1) (.slice a [mk n q].length cap) kd [mk n q]:=by
  refine(D.F (Y:=U) (ab:=E) (λc P=>?_) J).F aF J
  grind
 refine(ar3 Z A aa ⟨V,.nil,aa⟩ J J J aa).mono ?_;rintro _ ap M ⟨o,I,B,K,L,C⟩;refine⟨o,B.c,λx=>⟨I,B.g.F aa,λc e=>⟨aa,(B.b c e).2.2⟩,aF,J⟩⟩
 all_goals grind
def Gh(s:ao)(K:bZ)(b8 cN ca TO:X)(aq:ae)(a0:Nat):Prop:=bt TO (K (.tuple ⟨[(.pointer none),(ad 3)]⟩) aq a0) (iS 5 aq 0 ca λb=>iS 2 aq 5 ca λd=>aV s 114 [b,d] aq a0 λe f g=>af (cu e 0) λi=>af (cu e 1) λj=>bX [(ad 0),(ad 0),aw,aw,aw] f g λk l m=>af (aN l 5 k i) λn=>av n 11 ca λp=>cg 122 [p] n m λq r t=>af (cw [(ad 0),(ad 0)] [(0,1,b8),(1,1,cN)]) λaS=>bl 0 ca λv=>aG 5 r v λw=>jx 5 v w (bl 7 ca λx=>bY r x λy=>da x y (bl 8 ca λz=>bY r z λbz=>da z bz (af (cw [(ad 0),(ad 0)] [(0,1,y),(1,1,bz)]) λbS=>bl 10 ca λbA=>bY r bA λa9=>da bA a9 (af (cw [(ad 0),(ad 0),(ad 0),(ad 0),(ad 0),(ad 0),aw,(ad 0),(ad 0),(ad 0),aw,(ad 0),(ad 0),aw,aw,aw,(ad 0),(ad 0),aw,aw,aw,aw,aw,(ad 0),(.map none),(ad 0),(ad 0),(ad 0),(ad 0),(ad 0),aw,aw,aw,(ad 0),(ad 0),aw,aw,aw,(.bool false),(.bool false),aw,(.map none),(ad 0),(.map none),(.bool false)] [(0,2,aS),(2,5,w),(7,2,bS),(9,1,a9),(10,1,q),(23,1,(ad 1)),(25,1,(ad 1))]) λbM=>bG bM r t λb5 bO cJ=>bl 0 ca λcp=>av bO 4 cp λc3=>aV s 88 [c3] bO cJ λeo am an=>af (bB b5) λek=>bl 2 ek λfK=>bl 4 fK λfU=>af (aN am 1 fU eo) λgk=>aG 5 gk k λhp=>av gk 7 ca λfV=>av gk 8 ca λjB=>aV s 123 [hp,fV,jB,b8,cN] gk an λjJ lj fj=>af (bB b5) λb7=>bl 11 b7 λoD=>af (aN lj 5 oD jJ) λbe=>af (bB b5) λkK=>iS 5 be 11 kK λfF=>aV s 124 [fF] be fj λbi p6 mC=>af (bB b5) λjK=>bl 16 jK λiF=>af (aN p6 6 iF bi) λpa=>dS (.ok .map) pa mC λaY p7 eJ=>dS (.ok .map) p7 eJ λuk gx jI=>dS (.ok .map) gx jI λEf Bw fv=>af (bB b5) λnj=>bl 24 nj λIa=>af (aN Bw 1 Ia aY) λoB=>af (bB b5) λgc=>bl 41 gc λgq=>af (aN oB 1 gq uk) λgs=>af (bB b5) λqW=>bl 43 qW λni=>af (aN gs 1 ni Ef) λul=>bm .eql 3 cN (ad 0) (bl 0 ca λjw=>av ul 1 jw λcL=>av ul 7 ca λnd=>cg 126 [cL,nd,b8] ul fv λVc co Ib=>bl 7 ca λBx=>bY co Bx λMI=>da Bx MI (b9 b8 λcs=>cg 126 [cL,MI,cs] co Ib λVd MJ ow=>bl 0 ca λnL=>aG 5 MJ nL λdN=>jx 5 nL dN (cg 125 [dN,Vc,Vd] MJ ow λil Vg aCQ=>af (bB b5) λaCR=>bl 28 aCR λaCS=>af (aN Vg 5 aCS il) λU5=>af (bB b5) λaCT=>iS 5 U5 28 aCT λaCU=>af (bB b5) λaCV=>bl 33 aCV λaCW=>af (aN U5 5 aCW aCU) λaBD=>aV s 127 [b5,(ad 0),(.bool false)] aBD aCQ λaDZ gM Ed=>K (.tuple ⟨[b5,(ad 0)]⟩) gM Ed) 2 [co,ul]) 1 [ul]) (K (.tuple ⟨[b5,(ad 0)]⟩) ul fv)) 1 [n]) 1 [n]) 1 [n]) 1 [n])
def ag3:gj:=λs ah t1 t2 h U K=>bG ah h U λa b c=>aG 12 b a λd=>aV s 121 [d] b c λe f g=>ko e (K (.tuple ⟨[(.pointer none),e]⟩) f g) (cv t1 (ad 0) (Gh s K t1 t2 a (.bool true) f g) (av f 7 a λl=>bm .geq 3 t1 l (Gh s K t1 t2 a (.bool true) f g) (cv t2 (ad 0) (Gh s K t1 t2 a (.bool true) f g) (av f 8 a λp=>bE .geq 3 t2 p λq=>(Gh s K t1 t2 a q f g)))))
theorem axE:gw 59 ag3:=gz []
def Q2(s:ao)(K:bZ)(b8 cN ca c6 eb lx sO:X)(aq:ae)(a0:Nat):Prop:=bt sO (af (cw [(ad 0),(ad 0),aw,aw,aw] []) λa=>af (cw [(ad 0),(ad 0)] []) λb=>af (cw [(ad 0),(ad 0)] []) λc=>aV s 203 [a,b,c] aq a0 λd e f=>af (aN e 5 lx d) λg=>aG 5 g lx λi=>K i g f) (av aq 0 eb λk=>cg 204 [k,b8,ca] aq a0 λl m n=>bl 1 eb λo=>bY m o λp=>da o p (cg 204 [p,cN,c6] m n λq r t=>aG 5 r eb λaS=>jx 5 eb aS (cg 203 [aS,l,q] r t λv w x=>af (aN w 5 lx v) λy=>aG 5 y lx λz=>K z y x) 2 [m,aq]) 1 [aq])
def ag4:xz:=λs ah t1 t2 t3 f6 h U K=>bG ah h U λa b c=>bX [(ad 0),(ad 0),aw,aw,aw] b c λd e f=>aG 5 e a λg=>aV s 201 [g] e f λi j k=>af (ds .not i) λl=>bt l (Q2 s K t1 t2 t3 f6 a d (.bool true) j k) (aV s 202 [t1,t2,t3,f6] j k λm n o=>af (ds .not m) λp=>(Q2 s K t1 t2 t3 f6 a d p n o))
theorem axF:zi 123 ag4:=A3 []
def RI:ac (ac Nat):=[[2,3,20,21,22]]
def CE(s:ao)(N:aQ)(aM:aQ)(R:aQ)(cN ca eb DT sO LW:X)(aq:ae)(a0:Nat):Prop:=av aq 4 ca λb=>av aq 1 eb λd=>dS (eO 1 [(ad 0)] [(0,1,d)]) aq a0 λe f g=>dm (dI (dn 1 f g b e)) λi j k=>bl 4 ca λl=>af (aN j 1 l i) λm=>av m 5 ca λo=>av m 2 eb λq=>dS (eO 1 [(ad 0)] [(0,1,q)]) m k λr t aS=>dm (dI (dn 1 t aS o r)) λv w x=>bl 5 ca λy=>af (aN w 1 y v) λz=>av z 3 ca λbS=>av z 2 ca λa9=>cP a9 λbM=>av z 4 ca λbO=>cP bO λcJ=>fq 1 bS bM λcp=>af (aN z 1 cp cJ) λdk=>b9 LW λc3=>N [cN,ca,DT,sO,c3] dk x
def Aa(s:ao)(N:aQ)(aM:aQ)(R:aQ)(cN ca eb DT sO LW DN:X)(aq:ae)(a0:Nat):Prop:=bt DN (av aq 2 ca λb=>av aq 0 eb λd=>dS (eO 1 [(ad 0)] [(0,1,d)]) aq a0 λe f g=>dm (dI (dn 1 f g b e)) λi j k=>bl 2 ca λl=>af (aN j 1 l i) λm=>av m 3 ca λo=>dS (eO 1 [(ad 0)] [(0,1,(ad 0))]) m k λp q r=>dm (dI (dn 1 q r o p)) λt aS v=>bl 3 ca λw=>af (aN aS 1 w t) λx=>(CE s N aM R cN ca eb DT sO LW x v)) (CE s N aM R cN ca eb DT sO LW aq a0)
def aec(s:ao)(a2 a3 jV iQ eM:X)(h:ae)(U:Nat)(N:aQ)(aM:aQ)(R:aQ):Prop:=cv eM iQ (gD 3 h 3 jV eM λc=>bX [(ad 0),(ad 0),(ad 0)] h U λd e f=>af (aN e 3 d c) λg=>av g 2 a3 λj=>cP j λk=>bm .eql 3 k (ad 0) (Aa s N aM R a2 a3 d jV iQ eM (.bool true) g f) (av g 2 a3 λn=>bE .sub 3 k (ad 1) λo=>et g 1 n o λq=>av g 0 d λt=>bE .neq 3 q t λaS=>(Aa s N aM R a2 a3 d jV iQ eM aS g f))) (aM [a2,a3,jV,iQ,eM] h U)
def ag5:cO:=λs ah h U K=>bG ah h U λa b c=>bX [(ad 0),(ad 0),aw,aw,aw,aw] b c λd e f=>aV s 205 [] e f λg i j=>bX [(ad 0),(ad 0),aw,aw,aw,aw] i j λk l m=>af (aN l 6 k g) λn=>aG 5 n a λo=>aV s 201 [o] n m λp q r=>af (ds .not p) λt=>bt t (aG 6 q k λaS=>af (aN q 6 d aS) λv=>aG 6 v d λw=>K w v r) (av q 0 a λy=>bl 0 k λz=>af (aN q 1 z y) λbz=>bl 1 a λbS=>bY bz bS λbA=>da bS bA (bl 1 k λa9=>af (aN bz 1 a9 bA) λbM=>aG 5 bM a λb5=>aV s 207 [b5] bM r λbO cJ cp=>aV s 206 [bO] cJ cp λdk c3 eo=>cP dk λam=>bF (bW Q s RI 124 0) [d,k,dk,am,(ad 0)] c3 eo [(0,λan ek fK=>aG 6 ek (aT an 1) λfU=>af (aN ek 6 (aT an 0) fU) λgk=>aG 6 gk (aT an 0) λhp=>K hp gk fK)] (λ_ _ _=>False)) 1 [q])
theorem ave{A B:X}:bW Q s RI 124 0 [a2,a3,A,B,eM] h U N [(0,aM)] R=aec s a2 a3 A B eM h U N aM R:=by kernel_rfl
theorem axG:cQ 124 ag5:=cT RI
def Fw(s:ao)(K:bZ)(cN ca c6 dY y25:X)(aq:ae)(a0:Nat):Prop:=bt y25 (af (cw [(ad 0),(ad 0),aw,aw,aw] []) λa=>af (aN aq 5 dY a) λb=>aG 5 b dY λc=>K c b a0) (bY aq c6 λd=>af (cw [(ad 0),(ad 0),aw,aw,aw] [(0,1,d),(1,1,cN)]) λe=>bX [(ad 0),(ad 0),aw,aw,aw] aq a0 λf g i=>af (aN g 5 f e) λj=>aG 5 j f λk=>bY j c6 λl=>bE .sub 3 cN l λm=>af (.ok (.func (.func 209) ⟨[]⟩ ⟨[ca,c6]⟩)) λn=>aV s 208 [k,m,n] j i λo p q=>af (aN p 5 dY o) λr=>aG 5 r dY λt=>K t r q)
def aed:gj:=λs ah t1 t2 h U K=>bG ah h U λa b c=>bG t1 b c λd e f=>bX [(ad 0),(ad 0),aw,aw,aw] e f λg i j=>aG 5 i a λk=>aV s 187 [k] i j λl m n=>ko l (Fw s K t2 a d g (.bool true) m n) (bY m d λp=>cv p (ad 0) (Fw s K t2 a d g (.bool true) m n) (bY m d λr=>cv t2 r (Fw s K t2 a d g (.bool true) m n) (av m 1 a λv=>bE .gtr 3 t2 v λw=>(Fw s K t2 a d g w m n))))
theorem ar5:gw 125 aed:=gz []
def axH:gj:=λs ah t1 t2 h U K=>aV s 211 [ah,t1] h U λa b c=>af (ds .not a) λd=>bt d (K (ad 0) b c) (af (min2 false t2 (ad 0)) λe=>af (min2 true e t1) λf=>bE .mul 3 f ah λg=>bE .quo 3 g t1 λi=>K i b c)
theorem avf:gw 126 axH:=gz []
def aee:gj:=λs ah t1 t2 h U K=>af (cw [(ad 0),(ad 0),(ad 0),(ad 0),(ad 0),(ad 0),aw,aw,aw,(ad 0),(.bool false)] [(0,1,(ad 4)),(4,1,t1),(10,1,t2)]) λa=>bX [(ad 0),(ad 0),(ad 0),(ad 0),(ad 0),(ad 0),aw,aw,aw,(ad 0),(.bool false)] h U λb c d=>af (aN c 11 b a) λe=>af (ds .not t2) λf=>bt f (af (bB ah) λg=>iS 5 e 2 g λj=>af (bB ah) λk=>iS 5 e 33 k λm=>cg 212 [j,m,t1] e d λn o p=>bl 9 b λq=>af (aN o 1 q n) λr=>af (bB ah) λt=>bl 38 t λaS=>af (aN r 1 aS (.bool true)) λv=>aG 11 v b λw=>aV s 213 [ah,w] v p λx y z=>K (.tuple ⟨[]⟩) y z) (af (bB ah) λbz=>bl 38 bz λbS=>af (aN e 1 bS (.bool true)) λbA=>aG 11 bA b λa9=>aV s 213 [ah,a9] bA d λbM b5 bO=>K (.tuple ⟨[]⟩) b5 bO)
theorem ar6:gw 127 aee:=gz []
def OY:ac (ac Nat):=[[1,2,60,61]]
def XR(s:ao)(az a2 LX DU:X)(h:ae)(U:Nat)(N:aQ)(aM:aQ)(R:aQ):Prop:=cv DU LX (av h 3 az λc=>av h 2 az λe=>et h 1 e DU λg=>av h 2 az λj=>b9 DU λk=>et h 1 j k λm=>af (g5 1 c (some g) (some m) none) λn=>av h 1 az λp=>cg 291 [n,p] h U λq r t=>af (ds .not q) λaS=>bt aS (R [az,(.bool false),LX,DU] r t) (b9 DU λv=>N [az,a2,LX,v] r t)) (aM [az,a2,LX,DU] h U)
def Jh(s:ao)(K:bZ)(b8 TP:X)(aq:ae)(a0:Nat):Prop:=bt TP (K (.bool false) aq a0) (av aq 0 b8 λb=>bF (bW Q s OY 201 0) [b8,(.bool false),b,(ad 0)] aq a0 [(0,λc d e=>K (.bool true) d e)] (λf g i=>K (aT f 1) g i))
def B3(s:ao)(K:bZ)(b8 ca y37:X)(aq:ae)(a0:Nat):Prop:=bt y37 (K (.bool false) aq a0) (av aq 2 b8 λb=>et aq 1 b (ad 0) λd=>bm .neq 3 d (ad 0) (Jh s K b8 (.bool true) aq a0) (av aq 2 b8 λg=>av aq 0 b8 λj=>et aq 1 g j λl=>bm .neq 3 l ca (Jh s K b8 (.bool true) aq a0) (av aq 2 b8 λo=>aV s 290 [o] aq a0 λp q r=>af (ds .not p) λt=>(Jh s K b8 t q r))))
def abP:cO:=λs ah h U K=>bG ah h U λa b c=>av b 3 a λe=>cP e λf=>av b 0 a λi=>aV s 289 [i,(ad 4096)] b c λj k l=>af (ds .not j) λm=>bt m (B3 s K a f (.bool true) k l) (av k 1 a λo=>aV s 289 [o,(ad 4096)] k l λp q r=>af (ds .not p) λt=>bt t (B3 s K a f (.bool true) q r) (av q 2 a λv=>cP v λw=>av q 0 a λy=>b9 y λz=>bm .neq 3 w z (B3 s K a f (.bool true) q r) (av q 4 a λbA=>cP bA λa9=>bm .neq 3 a9 f (B3 s K a f (.bool true) q r) (bE .gtr 3 f (ad 65536) λb5=>(B3 s K a f b5 q r)))))
theorem akU{A B:X}:bW Q s OY 201 0 [az,a2,A,B] h U N [(0,aM)] R=XR s az a2 A B h U N aM R:=by kernel_rfl
theorem an5:cQ 201 abP:=cT OY
def axI:sZ:=λs ah t1 t2 t3 h U K=>aV s 292 [ah] h U λa b c=>bt a (aV s 292 [t1] b c λd e f=>bt d (bm .geq 3 t2 (ad 0) (cv t2 ah (bm .geq 3 t3 (ad 0) (bE .lss 3 t3 t1 λk=>K k e f) (K (.bool false) e f)) (K (.bool false) e f)) (K (.bool false) e f)) (K (.bool false) e f)) (K (.bool false) b c)
theorem avg:uj 202 axI:=vu []
def Gi:ac (ac Nat):=[[3,6,7,8,9,10,11,31,32],[3,6,7,8,9,10,11,12,31,32,39,40,41]]
def PW(s:ao)(N:aQ)(aP:aQ)(R:aQ)(ca dY fi ib p8 lx DO sN y14 y31 y32 LY y40 DN y56:X)(aq:ae)(a0:Nat):Prop:=bt y56 (av aq 0 y14 λb=>bE .sub 3 b p8 λc=>av aq 1 y14 λe=>af (cw [(ad 0),(ad 0),(ad 0)] [(0,1,sN),(1,1,c),(2,1,e)]) λf=>dS (eO 1 [(ad 0),(ad 0),(ad 0)] [(0,3,f)]) aq a0 λg i j=>dm (dI (dn 3 i j DO g)) λk l m=>b9 DN λn=>N [ca,dY,fi,ib,p8,lx,k,sN,y31,y32,LY,y40,n] l m) (b9 DN λo=>N [ca,dY,fi,ib,p8,lx,DO,sN,y31,y32,LY,y40,o] aq a0)
def abQ(s:ao)(a3 bj a6 bq cH dd d5 eg jU gp LZ xk vv:X)(h:ae)(U:Nat)(N:aQ)(aP:aQ)(R:aQ):Prop:=cv vv xk (gD 2 h 2 LZ vv λc=>bX [(ad 0),(ad 0)] h U λd e f=>af (aN e 2 d c) λg=>av g 0 d λj=>bm .geq 3 j cH (av g 0 d λm=>bE .sub 3 m cH λn=>bE .lss 3 n dd λo=>(PW s N aP R a3 bj a6 bq cH dd d5 eg d jU gp LZ xk vv o g f)) (PW s N aP R a3 bj a6 bq cH dd d5 eg d jU gp LZ xk vv (.bool false) g f)) (aP [a3,bj,a6,bq,cH,dd,d5,eg,jU,gp,LZ,xk,vv] h U)
def abR(s:ao)(a3 bj a6 bq cH dd d5 jU gp:X)(h:ae)(U:Nat)(N:aQ)(aM:aQ)(R:aQ):Prop:=cv gp jU (aG 5 h a3 λb=>lD a6 gp λc=>aV s 295 [b,c] h U λd e f=>cP d λg=>bF (bW Q s Gi 203 1) [a3,bj,a6,bq,cH,dd,d5,gp,jU,gp,d,g,(ad 0)] e f [(2,λi j k=>b9 (aT i 9) λl=>N [(aT i 0),(aT i 1),(aT i 2),(aT i 3),(aT i 4),(aT i 5),(aT i 6),(aT i 8),l] j k)] (λ_ _ _=>False)) (aM [a3,bj,a6,bq,cH,dd,d5,jU,gp] h U)
def afK:gj:=λs ah t1 t2 h U K=>bG ah h U λa b c=>bG t1 b c λd e f=>bG t2 e f λg i j=>bX [(ad 0),(ad 0),aw,aw,aw] i j λk l m=>aG 5 l a λn=>aV s 293 [n] l m λo p q=>af (aN p 5 a o) λr=>aG 2 r d λt=>av r 0 a λv=>aV s 294 [t,v] r q λw x y=>af (cu w 0) λz=>af (cu w 1) λbz=>aG 2 x g λbS=>av x 1 a λa9=>aV s 294 [bS,a9] x y λbM b5 bO=>af (cu bM 0) λcJ=>af (cu bM 1) λcp=>bF (bW Q s Gi 203 0) [a,k,z,bz,cJ,cp,aw,bz,(ad 0)] b5 bO [(0,λdk c3 eo=>aV s 281 [(aT dk 3),(aT dk 5),(aT dk 6)] c3 eo λam an ek=>af (aN an 5 (aT dk 1) am) λfK=>aG 5 fK (aT dk 1) λfU=>K fU fK ek)] (λ_ _ _=>False)
theorem ar7{B C A:X}:bW Q s Gi 203 1 [a3,bj,a6,bq,cH,dd,d5,eg,jU,gp,B,C,A] h U N [(2,aP)] R=abQ s a3 bj a6 bq cH dd d5 eg jU gp B C A h U N aP R:=by kernel_rfl
theorem ar8:bW Q s Gi 203 0 [a3,bj,a6,bq,cH,dd,d5,jU,gp] h U N [(0,aM)] R=abR s a3 bj a6 bq cH dd d5 jU gp h U N aM R:=by kernel_rfl
theorem avh:gw 203 afK:=gz Gi
def abS:gj:=λs ah t1 t2 h U K=>bX [(ad 0),(ad 0)] h U λa b c=>aV s 126 [ah,t1,t2] b c λd e f=>b9 t2 λg=>aV s 126 [ah,t1,g] e f λi j k=>af (cw [(ad 0),(ad 0)] [(0,1,d),(1,1,i)]) λl=>af (aN j 2 a l) λm=>aG 2 m a λn=>K n m k
theorem an6:gw 204 abS:=gz []
def aef:Va:=λs h U K=>bX [(ad 0),(ad 0),aw,aw,aw,aw] h U λa b c=>dS (eO 1 [(ad 0)] [(0,1,(ad 0))]) b c λd e f=>af (cw [(ad 0),(ad 0),aw,aw,aw,aw] [(3,1,d)]) λg=>af (aN e 6 a g) λi=>aG 6 i a λj=>K j i f
theorem ar9:aBG 205 aef:=zf0 []
def E4:ac (ac Nat):=[[1,3,12,13],[1,3,4,6,12,13,22,23,24]]
def Wj(s:ao)(az a3 aZ bj eg ik eM ki f2:X)(h:ae)(U:Nat)(N:aQ)(aP:aQ)(R:aQ):Prop:=cv f2 ki (et h 1 eM f2 λc=>et h 1 bj f2 λe=>af (cw [(ad 0),(ad 0),(ad 0)] [(0,1,aZ),(1,1,c),(2,1,e)]) λf=>dS (eO 1 [(ad 0),(ad 0),(ad 0)] [(0,3,f)]) h U λg i j=>dm (dI (dn 3 i j a3 g)) λk l m=>b9 f2 λn=>N [az,k,aZ,bj,eg,ik,eM,ki,n] l m) (aP [az,a3,aZ,bj,eg,ik,eM,ki,f2] h U)
def Wk(s:ao)(az a3 eg ik:X)(h:ae)(U:Nat)(N:aQ)(aM:aQ)(R:aQ):Prop:=cv ik eg (aG 5 h az λb=>aV s 296 [b,ik] h U λc d e=>af (cu c 0) λf=>af (cu c 1) λg=>cP f λi=>bF (bW Q s E4 206 1) [az,a3,ik,g,eg,ik,f,i,(ad 0)] d e [(2,λj k l=>b9 (aT j 5) λm=>N [(aT j 0),(aT j 1),(aT j 4),m] k l)] (λ_ _ _=>False)) (aM [az,a3,eg,ik] h U)
def XS:cO:=λs ah h U K=>bG ah h U λa b c=>aG 5 b a λd=>aV s 293 [d] b c λe f g=>af (aN f 5 a e) λi=>av i 0 a λk=>bF (bW Q s E4 206 0) [a,aw,k,(ad 0)] i g [(0,λl m n=>K (aT l 1) m n)] (λ_ _ _=>False)
theorem air{A:X}:bW Q s E4 206 1 [az,a3,aZ,bj,eg,ik,eM,A,f2] h U N [(2,aP)] R=Wj s az a3 aZ bj eg ik eM A f2 h U N aP R:=by kernel_rfl
theorem ais:bW Q s E4 206 0 [az,a3,eg,ik] h U N [(0,aM)] R=Wk s az a3 eg ik h U N aM R:=by kernel_rfl
theorem ai8:cQ 206 XS:=cT E4
def PX:ac (ac Nat):=[[1,2,3,10,11,12]]
def Zx(s:ao)(az a2 a3 dd d5 eg:X)(h:ae)(U:Nat)(N:aQ)(aM:aQ)(R:aQ):Prop:=cv eg d5 (gD 3 h 3 dd eg λc=>bX [(ad 0),(ad 0),(ad 0)] h U λd e f=>af (aN e 3 d c) λg=>av g 1 d λj=>av g 0 d λl=>av g 2 d λn=>af (cw [(ad 0),(ad 0),(ad 0)] [(0,1,j),(1,1,l),(2,1,n)]) λo=>fq 3 a3 eg λp=>af (aN g 3 p o) λq=>b9 eg λr=>N [az,a2,a3,dd,d5,r] q f) (aM [az,a2,a3,dd,d5,eg] h U)
def aeg:cO:=λs ah h U K=>bG ah h U λa b c=>bX [(ad 0),(ad 0),aw,aw,aw] b c λd e f=>aG 5 e a λg=>aV s 293 [g] e f λi j k=>af (aN j 5 a i) λl=>aG 5 l a λm=>aV s 206 [m] l k λn o p=>cP n λq=>bF (bW Q s PX 207 0) [a,d,n,n,q,(ad 0)] o p [(0,λr t aS=>aV s 297 [(aT r 2),(.func (.func 298) #[] #[])] t aS λv w x=>av w 1 (aT r 0) λz=>av w 0 (aT r 0) λbS=>aV s 281 [z,bS,(aT r 2)] w x λbA a9 bM=>af (aN a9 5 (aT r 1) bA) λb5=>aG 5 b5 (aT r 1) λbO=>K bO b5 bM)] (λ_ _ _=>False)
theorem an7:bW Q s PX 207 0 [az,a2,a3,dd,d5,eg] h U N [(0,aM)] R=Zx s az a2 a3 dd d5 eg h U N aM R:=by kernel_rfl
theorem asa:cQ 207 aeg:=cT PX
def Oh:ac (ac Nat):=[[1,2,6,7,8,18,19]]
def WP(s:ao)(az a2 bj a6 bq lw nD:X)(h:ae)(U:Nat)(N:aQ)(aM:aQ)(R:aQ):Prop:=cv nD lw (fg Q s (hV h U [nD] a2) λb c d=>af (cu b 0) λe=>af (cu b 1) λf=>af (cu b 2) λg=>av c 2 a6 λj=>dS (eO 1 [(ad 0)] [(0,1,e)]) c d λk l m=>dm (dI (dn 1 l m j k)) λn o p=>m<=p/\bl 3 a6 λq=>bY o q λr=>da q r (dS (eO 1 [(ad 0)] [(0,1,f)]) o p λt aS v=>dm (dI (dn 1 aS v r t)) λw x y=>v<=y/\bl 2 a6 λz=>af (aN x 1 z n) λbz=>bl 3 a6 λbS=>af (aN bz 1 bS w) λbA=>bt g (dS (eO 1 [(ad 0)] [(0,1,nD)]) bA y λa9 bM b5=>dm (dI (dn 1 bM b5 bq a9)) λbO cJ cp=>b9 nD λdk=>N [az,a2,bj,a6,bO,lw,dk] cJ cp) (b9 nD λc3=>N [az,a2,bj,a6,bq,lw,c3] bA y)) 1 [c]) (aM [az,a2,bj,a6,bq,lw,nD] h U)
def Zy:gj:=λs ah t1 t2 h U K=>bG ah h U λa b c=>bX [(ad 0),(ad 0),aw,aw,aw] b c λd e f=>av e 0 a λi=>av e 1 a λk=>af (cw [(ad 0),(ad 0),aw,aw,aw] [(0,1,i),(1,1,k)]) λl=>bX [(ad 0),(ad 0),aw,aw,aw] e f λm n o=>af (aN n 5 m l) λp=>bF (bW Q s Oh 208 0) [t1,t2,d,m,aw,t1,(ad 0)] p o [(0,λq r t=>aV s 108 [(aT q 0),(aT q 4)] r t λaS v w=>bl 4 (aT q 3) λx=>af (aN v 1 x aS) λy=>aG 5 y (aT q 3) λz=>af (aN y 5 (aT q 2) z) λbz=>aG 5 bz (aT q 2) λbS=>K bS bz w)] (λ_ _ _=>False)
theorem ai9{B A:X}:bW Q s Oh 208 0 [az,a2,bj,a6,bq,B,A] h U N [(0,aM)] R=WP s az a2 bj a6 bq B A h U N aM R:=by kernel_rfl
theorem akV:gw 208 Zy:=gz Oh
def abT:gj:=λs ah t1 t2 h U K=>aG 5 h t1 λa=>bY h t2 λb=>lD b ah λc=>aV s 210 [a,c] h U λd e f=>af (cu d 0) λg=>af (cu d 1) λi=>K (.tuple ⟨[g,(ad (-1)),i]⟩) e f
theorem an8:gw 209 abT:=gz []
def Zz(s:ao)(K:bZ)(aq:ae)(a0:Nat):Prop:=K (.tuple ⟨[(ad 4611686018427387904),(.bool false)]⟩) aq a0
def Cc(s:ao)(K:bZ)(cN dY DT:X)(aq:ae)(a0:Nat):Prop:=bt DT (K (.tuple ⟨[(ad 1),(.bool true)]⟩) aq a0) (bt dY (K (.tuple ⟨[(ad 0),dY]⟩) aq a0) (av aq 0 cN λb=>bm .eql 40 b (ad 4) (K (.tuple ⟨[(ad 0),dY]⟩) aq a0) (av aq 0 cN λe=>bm .eql 40 e (ad 1) (K (.tuple ⟨[(ad (-1)),(.bool false)]⟩) aq a0) (Zz s K aq a0))))
def aeh:c0:=λs ah t1 h U K=>bG ah h U λa b c=>av b 2 a λe=>bE .eql 3 t1 e λf=>av b 0 a λi=>bm .eql 40 i (ad 3) (K (.tuple ⟨[t1,(.bool true)]⟩) b c) (av b 0 a λl=>bm .eql 40 l (ad 5) (K (.tuple ⟨[(ad 0),(.bool false)]⟩) b c) (av b 0 a λo=>bm .eql 40 o (ad 4) (Cc s K a f f b c) (Cc s K a f (.bool false) b c)))
theorem asb:c4 210 aeh:=c5 []
def afL:c0:=λs ah t1 h U K=>bm .geq 3 ah (ad 0) (bm .leq 3 ah (ad 4096) (aV s 220 [t1] h U λc d e=>K c d e) (K (.bool false) h U)) (K (.bool false) h U)
theorem avi:c4 211 afL:=c5 []
def Q3:ac (ac Nat):=[[7,24,25,26]]
def abU(s:ao)(a6 f2 nC mv:X)(h:ae)(U:Nat)(N:aQ)(aW:aQ)(R:aQ):Prop:=cv mv nC (et h 1 f2 mv λc=>bm .eql 2 c (ad 0) (b9 a6 λe=>b9 mv λf=>N [e,f2,nC,f] h U) (b9 mv λg=>N [a6,f2,nC,g] h U)) (aW [a6,f2,nC,mv] h U)
def afM:gj:=λs ah t1 t2 h U K=>bG ah h U λa b c=>bG t1 b c λd e f=>aG 5 e a λg=>aG 5 e d λi=>aV s 299 [g,i] e f λj k l=>af (aN k 5 d j) λm=>av m 0 a λo=>bm .eql 40 o (ad 4) (av m 3 a λr=>bm .geq 3 t2 r (K (ad 0) m l) (av m 4 d λv=>aV s 111 [v] m l λw x y=>K w x y)) (bm .eql 40 o (ad 5) (av m 2 d λbS=>cP bS λbA=>bF (bW Q s Q3 212 0) [(ad 0),bS,bA,(ad 0)] m l [(1,λa9 bM b5=>K (aT a9 0) bM b5)] (λ_ _ _=>False)) (av m 4 d λcJ=>aV s 111 [cJ] m l λcp dk c3=>K cp dk c3))
theorem asc{A:aQ}:bW Q s Q3 212 0 [a6,f2,nC,mv] h U N [(1,A)] R=abU s a6 f2 nC mv h U N A R:=by kernel_rfl
theorem avj:gw 212 afM:=gz Q3
def afN:c0:=λs ah t1 h U K=>bG t1 h U λa b c=>af (bB ah) λd=>bl 0 d λe=>av b 0 e λg=>af (bB ah) λi=>bl 0 i λj=>av b 1 j λl=>cg 219 [ah,g,l] b c λm n o=>bl 1 a λp=>af (aN n 1 p m) λq=>af (bB ah) λr=>av q 22 r λaS=>aG 11 q a λv=>dS (eO 1 [(ad 0),(ad 0),(ad 0),(ad 0),(ad 0),(ad 0),aw,aw,aw,(ad 0),(.bool false)] [(0,11,v)]) q o λw x y=>dm (dI (dn 11 x y aS w)) λz bz bS=>y<=bS/\af (bB ah) λbA=>bl 22 bA λa9=>af (aN bz 1 a9 z) λbM=>K (.tuple ⟨[]⟩) bM bS
theorem avk:c4 213 afN:=c5 []
def Q4:cO:=λs ah h U K=>hP ah (ad 0) (bE .leq 3 ah (ad 8) λb=>K b h U) (K (.bool false) h U)
theorem abV:cQ 220 Q4:=cT []
def B4(s:ao)(K:bZ)(cA b8 cN TQ:X)(aq:ae)(a0:Nat):Prop:=bt TQ (K (ad (-1)) aq a0) (bE .mul 3 b8 cA λa=>lD a cN λb=>K b aq a0)
def ase:gj:=λs ah t1 t2 h U K=>aV s 220 [ah] h U λa b c=>af (ds .not a) λd=>bt d (B4 s K ah t1 t2 (.bool true) b c) (cv t1 (ad 0) (B4 s K ah t1 t2 (.bool true) b c) (bm .geq 3 t1 (ad 8) (B4 s K ah t1 t2 (.bool true) b c) (cv t2 (ad 0) (B4 s K ah t1 t2 (.bool true) b c) (bE .geq 3 t2 ah λi=>(B4 s K ah t1 t2 i b c)))))
theorem an9:gw 311 ase:=gz []
def ZA:c0:=λs ah t1 h U K=>bm .geq 3 ah (ad 0) (bE .leq 3 ah t1 λb=>K b h U) (K (.bool false) h U)
theorem akW:c4 289 ZA:=c5 []
def Oi:ac (ac Nat):=[[0,2,3]]
def WQ(s:ao)(aC a2 a3:X)(h:ae)(U:Nat)(N:aQ)(aM:aQ)(R:aQ):Prop:=hP a3 (ad 0) (et h 1 aC a3 λc=>bE .sub 3 a3 (ad 1) λd=>et h 1 aC d λf=>cg 369 [c,f] h U λg i j=>bt g (R [aC,(.bool false),a3] i j) (bE .sub 3 a3 (ad 1) λk=>N [aC,a2,k] i j)) (aM [aC,a2,a3] h U)
def ZB:cO:=λs ah h U K=>cP ah λa=>bE .sub 3 a (ad 1) λb=>bF (bW Q s Oi 290 0) [ah,(.bool false),b] h U [(0,λc d e=>K (.bool true) d e)] (λf g i=>K (aT f 1) g i)
theorem aja:bW Q s Oi 290 0 [aC,a2,a3] h U N [(0,aM)] R=WQ s aC a2 a3 h U N aM R:=by kernel_rfl
theorem akX:cQ 290 ZB:=cT Oi
def Q5:ac (ac Nat):=[[0,1,4,7,8,9]]
def abW(s:ao)(aC az aZ a6 bq cH:X)(h:ae)(U:Nat)(N:aQ)(aM:aQ)(R:aQ):Prop:=cv cH bq (et h 1 a6 cH λc=>bE .sub 3 az (ad 1) λd=>aV s 289 [c,d] h U λe f g=>af (ds .not e) λi=>bt i (R [aC,az,(.bool false),a6,bq,cH] f g) (hP cH (ad 0) (bE .sub 3 cH (ad 1) λk=>et f 1 aC k λm=>bm .geq 3 m c (R [aC,az,(.bool false),a6,bq,cH] f g) (b9 cH λo=>N [aC,az,aZ,a6,bq,o] f g)) (b9 cH λp=>N [aC,az,aZ,a6,bq,p] f g))) (aM [aC,az,aZ,a6,bq,cH] h U)
def afO:c0:=λs ah t1 h U K=>cP ah λa=>bF (bW Q s Q5 291 0) [ah,t1,(.bool false),ah,a,(ad 0)] h U [(0,λb c d=>K (.bool true) c d)] (λe f g=>K (aT e 2) f g)
theorem asf:bW Q s Q5 291 0 [aC,az,aZ,a6,bq,cH] h U N [(0,aM)] R=abW s aC az aZ a6 bq cH h U N aM R:=by kernel_rfl
theorem avl:c4 291 afO:=c5 Q5
def afP:cO:=λs ah h U K=>bm .geq 3 ah (ad 1) (bE .leq 3 ah (ad 8) λb=>K b h U) (K (.bool false) h U)
theorem avm:cQ 292 afP:=cT []
def aei:cO:=λs ah h U K=>bG ah h U λa b c=>bX [(ad 0),(ad 0),aw,aw,aw] b c λd e f=>aG 5 e a λg=>aV s 201 [g] e f λi j k=>bt i (aG 5 j a λl=>af (aN j 5 d l) λm=>aG 5 m d λn=>K n m k) (aV s 367 [(ad 0),(ad 0)] j k λo p q=>af (aN p 5 d o) λr=>aG 5 r d λt=>K t r q)
theorem ash:cQ 293 aei:=cT []
def ZC:c0:=λs ah t1 h U K=>bG ah h U λa b c=>af (f0 (.array 2 1) a (ad 0)) λd=>bY b d λe=>af (min2 false e (ad 0)) λf=>af (f0 (.array 2 1) a (ad 1)) λg=>bY b g λi=>af (min2 true i t1) λj=>bm .leq 3 j f (K (.tuple ⟨[f,(ad 0)]⟩) b c) (bE .sub 3 j f λl=>K (.tuple ⟨[f,l]⟩) b c)
theorem akY:c4 294 ZC:=c5 []
def Q6:ac (ac Nat):=[[5,7,24,25,26]]
def abX(s:ao)(bI a6 f2 nC mv:X)(h:ae)(U:Nat)(N:aQ)(aM:aQ)(R:aQ):Prop:=cv mv nC (et h 1 f2 mv λc=>et h 1 a6 mv λe=>af (cw [(ad 0),(ad 0)] [(0,1,c),(1,1,e)]) λf=>dS (eO 1 [(ad 0),(ad 0)] [(0,2,f)]) h U λg i j=>dm (dI (dn 2 i j bI g)) λk l m=>b9 mv λn=>N [k,a6,f2,nC,n] l m) (aM [bI,a6,f2,nC,mv] h U)
def afQ:c0:=λs ah t1 h U K=>bG ah h U λa b c=>aG 5 b a λd=>aV s 293 [d] b c λe f g=>af (aN f 5 a e) λi=>av i 0 a λk=>bE .sub 3 k (ad 1) λl=>aV s 289 [t1,l] i g λm n o=>af (ds .not m) λp=>bt p (K aw n o) (aG 5 n a λq=>aV s 296 [q,t1] n o λr t aS=>af (cu r 0) λv=>af (cu r 1) λw=>cP v λx=>bF (bW Q s Q6 295 0) [aw,w,v,x,(ad 0)] t aS [(0,λy z bz=>K (aT y 0) z bz)] (λ_ _ _=>False))
theorem asi:bW Q s Q6 295 0 [bI,a6,f2,nC,mv] h U N [(0,aM)] R=abX s bI a6 f2 nC mv h U N aM R:=by kernel_rfl
theorem avn:c4 295 afQ:=c5 Q6
def aej:c0:=λs ah t1 h U K=>bG ah h U λa b c=>av b 2 a λe=>et b 1 e t1 λg=>av b 2 a λj=>b9 t1 λk=>et b 1 j k λm=>av b 3 a λo=>af (g5 1 o (some g) (some m) (some m)) λp=>av b 4 a λr=>af (g5 1 r (some g) (some m) (some m)) λt=>K (.tuple ⟨[p,t]⟩) b c
theorem asj:c4 296 aej:=c5 []
def afR:c0:=λs ah t1 h U K=>bG ah h U λa b c=>bG t1 b c λd e f=>bX [(ad 0),(ad 0),aw,aw,aw] e f λg i j=>aG 5 i a λk=>aG 5 i d λl=>aV s 371 [k,l] i j λm n o=>bt m (aG 5 n d λp=>af (aN n 5 g p) λq=>aG 5 q g λr=>K r q o) (af (cw [(ad 0),(ad 0),aw,aw,aw] []) λt=>af (aN n 5 g t) λaS=>aG 5 aS g λv=>K v aS o)
theorem avo:c4 299 afR:=c5 []
def abY:gj:=λs ah t1 t2 h U K=>af (bB ah) λa=>bl 7 a λb=>av h 1 b λd=>aV s 311 [d,t1,t2] h U λe f g=>K e f g
theorem aoa:gw 219 abY:=gz []
def Sk:c0:=λs ah t1 h U K=>cg 179 [ah,t1] h U λa b c=>bt a (cg 180 [t1] b c λd e f=>bE .shr 3 t1 (.int .u64 6) λg=>fq 1 ah g λi=>bY e i λj=>da i j (bE .and 188 j d λk=>bE .neq 188 k (.int .u64 0) λl=>K l e f) 1 [b,h]) (K (.bool false) b c)
theorem afS:c4 334 Sk:=c5 []
def Gj(s:ao)(K:bZ)(ca TR:X)(aq:ae)(a0:Nat):Prop:=bt TR (K (.bool false) aq a0) (av aq 1 ca λb=>av aq 0 ca λd=>bE .sub 3 b d λe=>av aq 2 ca λg=>cP g λi=>bm .eql 3 i e (av aq 3 ca λl=>cP l λm=>bm .eql 3 m e (av aq 4 ca λp=>aV s 437 [p,e] aq a0 λq r t=>K q r t) (K (.bool false) aq a0)) (K (.bool false) aq a0))
def ag6:c0:=λs ah t1 h U K=>bG ah h U λa b c=>bG t1 b c λd e f=>aG 5 e a λg=>aV s 187 [g] e f λi j k=>ko i (Gj s K d (.bool true) j k) (av j 0 d λn=>cv n (ad 0) (Gj s K d (.bool true) j k) (av j 1 d λq=>av j 0 d λt=>cv q t (Gj s K d (.bool true) j k) (av j 1 d λw=>av j 1 a λy=>bE .gtr 3 w y λz=>(Gj s K d z j k))))
theorem axJ:c4 371 ag6:=c5 []
def abZ:c0:=λs ah t1 h U K=>bm .geq 3 t1 (ad 0) (bm .leq 3 t1 (ad 4096) (cP ah λc=>aV s 195 [t1] h U λd e f=>bm .eql 3 c d (aV s 473 [ah,t1] e f λi j k=>bE .lss 3 i (ad 0) λl=>K l j k) (K (.bool false) e f)) (K (.bool false) h U)) (K (.bool false) h U)
theorem aob:c4 437 abZ:=c5 []
def aek:cO:=λs ah h U K=>bm .eql 43 ah aw (K aw h U) (dS (eO 0 [] []) h U λb c d=>dm (dI (dn 2 c d b ah)) λe f g=>K e f g)
theorem asl:cQ 122 aek:=cT []
def asm:c0:=λs ah t1 h U K=>aV s 345 [ah] h U λa b c=>bt a (aV s 345 [t1] b c λd e f=>af (ds .not d) λg=>bt g (K (.bool true) e f) (bE .lss 3 ah t1 λi=>K i e f)) (bE .lss 3 ah t1 λj=>K j b c)
theorem aoc:c4 369 asm:=c5 []
def RJ:cO:=λs ah h U K=>bE .neq 3 ah ah λa=>K a h U
theorem ael:cQ 345 RJ:=cT []
def k0(ag:ac GE):Prop:=ag.Pairwise m8
def dK(ag:ac GE)(i:Nat):Nat:=(ag.filter λg=>decide (g.f<i)).length
def pT(ag:ac GE)(r:Nat):ac Int:=(List.range (r+1)).map λi=>(dK ag i:Int)
structure hj (r c:Nat) (ag:ac GE):Prop where
 up:k0 ag
 rows:∀g∈ag,g.f<r
 mj:∀g∈ag,g.t<c
 ba:r<=4096
 a5:c<=4096
 len:ag.length<=120
theorem PY(ag:ac GE)(r:Nat):(pT ag r).length=r+1:=by unfold pT;grind
theorem wg(h:i<=r):(pT ag r)[i]? = some (dK ag i:Int):=by
 unfold pT
 grind
theorem u0(ag:ac GE)(i:Nat):dK ag i<=ag.length:=zu _ _
theorem KF(ag:ac GE):dK ag 0=0:=by
 unfold dK;rw[List.length_eq_zero_iff,zt]
 grind
theorem afT(M:hj r c ag):dK ag r=ag.length:=by unfold dK;rw[zx.2];intro g A;exact hf (M.rows g A)
theorem zP(ag:ac GE)(h:i<=j):dK ag i<=dK ag j:=by
 unfold dK
 induction ag with
 |nil=>grind
 |cons g ag A =>
  grind
def eQ(ag:ac GE)(i:Nat):ac GE:=ag.filter λg=>decide (g.f=i)
theorem ag7{x:GE}(h:k0 (x::ag)):∀g∈ag,x.f<=g.f:=λg A=>by have:=(uz.1 h).1 g A;unfold m8 at this;omega
theorem ZD(h:k0 ag)(i:Nat):ag=(ag.filter λg=>decide (g.f<i))++ag.filter λg=>!decide (g.f<i):=by
 induction ag with
 |nil=>rfl
 |cons x ag A =>
  have A:=A (uz.1 h).2;rw[q7,q7]
  by_cases B:x.f<i
  ·grind
  ·rw[ht B];have e:ag.filter (λg=>decide (g.f<i))=[]:=by
    rw[zt];intro g C;have:=ag7 h g C
    grind
   grind
theorem asn(h:k0 ag)(i:Nat):ag.drop (dK ag i)=ag.filter λg=>!decide (g.f<i):=by
 have e:ag.drop (dK ag i)=((ag.filter λg=>decide (g.f<i))++ag.filter λg=>!decide (g.f<i)).drop (dK ag i):=by rw[<-ZD h i]
 rw[e];exact List.drop_left' rfl
theorem aso(h:k0 ag)(i:Nat):ag.take (dK ag i)=ag.filter λg=>decide (g.f<i):=by
 have e:ag.take (dK ag i)=((ag.filter λg=>decide (g.f<i))++ag.filter λg=>!decide (g.f<i)).take (dK ag i):=by rw[<-ZD h i]
 rw[e];exact List.take_left' rfl
theorem Cq(h:k0 ag)(i:Nat):(ag.drop (dK ag i)).take (dK ag (i+1)-dK ag i)=eQ ag i:=by
 have B:(ag.drop (dK ag i)).take (dK ag (i+1)-dK ag i)=(ag.take (dK ag (i+1))).drop (dK ag i):=by rw[EI]
 rw[B,aso h (i+1)];have A:k0 (ag.filter λg=>decide (g.f<i+1)):=IE _ h;have e:dK ag i=dK (ag.filter λg=>decide (g.f<i+1)) i:=by
  unfold dK;rw[List.filter_filter]
  grind
 rw[e,asn A,List.filter_filter];unfold eQ
 grind
theorem Fx(h:k0 ag)(i:Nat):(eQ ag i).length=dK ag (i+1)-dK ag i:=by rw[<-Cq h,nU,EC];have:=u0 ag (i+1);omega
theorem OZ(h:k0 ag)(A:k<(eQ ag i).length):(eQ ag i)[k]? = ag[dK ag i+k]?:=by rw[Fx h]at A;rw[<-Cq h,uy,if_pos A,ux]
theorem PZ(h:k0 ag)(i:Nat):(eQ ag i).Pairwise λx y=>x.t<y.t:=by have A:(eQ ag i).Pairwise m8:=IE _ h;refine List.Pairwise.imp_of_mem (λ{a b} dy a1 DV=>?_) A;have B:=of_decide_eq_true (sb.1 dy).2;have aP:=of_decide_eq_true (sb.1 a1).2;unfold m8 at DV;omega
def lh(h:ae)(U:Nat)(v:X)(l:ac Int):Prop:=∃aY,gZ h cY v l aY/\∀c,aY=some c->c<U
theorem lh.F{h ab:ae}{U Y:Nat}{v:X}{l:ac Int}(C:lh h U v l)(B:aA U h ab)(D:U<=Y):lh ab Y v l:=by obtain⟨E,A,I⟩:=C;exact⟨E,A.F λc K=>B c aa,aa⟩
theorem lh.form{h:ae}{U:Nat}{v:X}{l:ac Int}(C:lh h U v l):∃a c,v = .slice a l.length c:=by obtain⟨B,A,_⟩:=C;exact A.form
def ft(ag:ac GE):ac Int:=ag.map λg=>(g.t:Int)
def gI(ag:ac GE):ac Int:=ag.map λg=>g.w
theorem Cr(ag:ac GE):(ft ag).length=ag.length:=by unfold ft;grind
theorem FZ(ag:ac GE):(gI ag).length=ag.length:=by unfold gI;grind
def kw(h:ae)(U:Nat)(v:X)(r c:Nat)(ag:ac GE):Prop :=
 ∃(b:Nat) (aO:ay Nat) (cap:Nat) (v2 v3:X),v = .agg ⟨[(r:X),(c:X),.slice (some ⟨b,0,aO⟩) (r+1) cap,v2,v3]⟩/\b<U/\u h b=some (.cells (hw (pT ag r)) false)/\lh h U v2 (ft ag)/\lh h U v3 (gI ag)
theorem kw.F{h ab:ae}{U Y:Nat}{v:X}{r c:Nat}{ag:ac GE}(H:kw h U v r c ag)(B:aA U h ab)(A:U<=Y):kw ab Y v r c ag:=by obtain⟨b,aO,cap,I,K,e,C,E,D,L⟩:=H;exact⟨b,aO,cap,I,K,e,J,(B b C).trans E,D.F B A,L.F B A⟩
def oc(h:ae)(al aj:Nat)(v:X)(l:ac Int):Prop:=∃aY,gZ h cY v l aY/\∀c,aY=some c->al<=c/\c<aj
theorem oc.HC(C:oc h al aj v l):lh h aj v l:=by obtain⟨B,A,D⟩:=C;exact⟨B,A,aa⟩
theorem oc.F{h ab:ae}{al aj ea dB:Nat}{v:X}{l:ac Int}(C:oc h al aj v l)(D:∀d,al<=d->d<aj->u ab d=u h d)(K:ea<=al)(I:aj<=dB):oc ab ea dB v l:=by obtain⟨B,A,E⟩:=C;exact⟨B,A.F aa,aa⟩
def wm(h:ae)(al aj:Nat)(v:X)(r c:Nat)(ag:ac GE):Prop :=
 ∃(b:Nat) (aO:ay Nat) (cap:Nat) (v2 v3:X),v = .agg ⟨[(r:X),(c:X),.slice (some ⟨b,0,aO⟩) (r+1) cap,v2,v3]⟩/\al<=b/\b<aj/\u h b=some (.cells (hw (pT ag r)) false)/\oc h al aj v2 (ft ag)/\oc h al aj v3 (gI ag)
theorem wm.is(H:wm h al aj v r c ag):kw h aj v r c ag:=by obtain⟨b,aO,cap,C,D,e,E,B,A,c2,cm⟩:=H;exact⟨b,aO,cap,C,D,e,B,A,c2.HC,cm.HC⟩
theorem wm.F{h ab:ae}{al aj ea dB:Nat}{v:X}{r c:Nat}{ag:ac GE}(H:wm h al aj v r c ag)(A:∀d,al<=d->d<aj->u ab d=u h d)(B:ea<=al)(C:aj<=dB):wm ab ea dB v r c ag:=by obtain⟨b,aO,cap,D,E,e,L,I,K,c2,cm⟩:=H;exact⟨b,aO,cap,D,E,e,J,J,aa,c2.F A B C,cm.F A B C⟩
theorem kw.form{h:ae}{U:Nat}{v:X}{r c:Nat}{ag:ac GE}(H:kw h U v r c ag):∃b aO n a2 A c2 a3 C cm,v = .agg ⟨[(r:X),(c:X),.slice (some ⟨b,0,aO⟩) (r+1) n,.slice a2 A c2,.slice a3 C cm]⟩:=by
 obtain⟨b,aO,cap,K,L,rfl,E,I,B,D⟩:=H;obtain⟨a2,c2,rfl⟩:=B.form;obtain⟨a3,cm,rfl⟩:=D.form
 grind
def sQ(h:ae)(U:Nat)(v:X)(l:ac Int):Prop:=∃a cap,v = .slice a l.length cap/\(l≠[]->∃b o aO bL cs,b<U/\a=some ⟨b,o,aO⟩/\u h b=some (.cells cs bL)/\∀(i:Nat) (x:Int),l[i]? = some x->cs[o+i]? = some (x:X))
theorem sQ.F(H:sQ h U v l)(B:aA U h ab)(E:U<=Y):sQ ab Y v l:=by obtain⟨a,cap,e,H⟩:=H;exact⟨a,cap,e,λA=>by obtain⟨b,o,aO,bL,cs,C,aP,D,I⟩:=H A;exact⟨b,o,aO,bL,cs,J,aP,(B b C).trans D,I⟩⟩
theorem sQ.at(H:sQ h U (.slice a n cap) l)(B:l[i]? = some x):∃b o aO bL cs,b<U/\a=some ⟨b,o,aO⟩/\u h b=some (.cells cs bL)/\∀(i:Nat) (x:Int),l[i]? = some x->cs[o+i]? = some (x:X):=by obtain⟨C,A,e,H⟩:=H;cases e;exact H aa
theorem afU(L:i<=j)(V:j<=n)(P:aO≠some 0)(A:ao){m:Nat}(M:m=if A then j else n):∃I K,nZ 1 (some ⟨b,0,aO⟩) n A m j i = .ok (.slice I (j-i) K)/\(i<j->I=some ⟨b,i,bif A then none else aO⟩):=by
 have E:j<=m:=aa
 have C:m<=n:=aa
 unfold nZ;rw[show(Nat.ble m n&&(Nat.ble j m&&Nat.ble i j))=true by simp[C,E,L]];unfold uW
 by_cases e:m=i
 ·subst e;have D:j=m:=J
  subst D;rw[uB];unfold k4 zQ wS Li;cases aO with
  |none=>grind
  |some k =>
   cases k with
   |zero=>grind
   |succ k=>cases A <;> exact⟨_,_,by simp;exact⟨rfl,rfl⟩,J⟩
 ·have B:Nat.beq m i=false:=by
   cases B:Nat.beq m i with
   |true=>exact absurd (gE B) e
   |false=>rfl
  rw[B];refine⟨some ⟨b,i,bif A then none else aO⟩,m-i,?_,aa⟩;show R.ok (Value.slice (some ⟨b,Nat.add 0 (Nat.mul i 1),bif A then none else aO⟩) (Nat.sub j i) (Nat.sub m i))=_
  grind
theorem P0(C:lh h U v l)(h1:i<=j)(ap:j<=l.length){M:ay X}(I:M=none\/M=some (j:X)):
  ∃w,g5 1 v (some (i:X)) (some (j:X)) M = .ok w/\sQ h U w ((l.drop i).take (j-i)):=by
 obtain⟨aY,jM,a1⟩:=C;rcases jM with⟨rfl,rfl,rfl⟩|⟨b,rfl,rfl,bd⟩
 ·have cb:j=0:=aa
  subst cb;have aj:i=0:=J
  subst aj;refine⟨.slice none 0 0,?_,⟨none,0,by simp,λh=>absurd (by simp) h⟩⟩;rcases I with rfl|rfl <;> rfl
 ·have K:((l.drop i).take (j-i)).length=j-i:=aa
  have fin:∀(A:ao) (m:Nat) (B:ay Addr) (E:Nat),(i<j->B=some ⟨b,i,bif A then none else some 1⟩)->sQ h U (.slice B (j-i) E) ((l.drop i).take (j-i)):=λA m B E D=>by
   refine⟨B,E,aa,λL=>?_⟩;have P:i<j:=by have:=Ez.2 L;omega
   refine⟨b,i,_,false,_,aa,D P,bd,λk x V=>?_⟩;have Z:=(g0.1 V).1;rw[K]at Z;rw[uy,if_pos Z,ux]at V;rw[jm];exact j4 V
  rcases I with rfl|rfl
  ·obtain⟨B,E,e,D⟩:=afU  (aO:=some 1) h1 ap (by simp) false  rfl;exact⟨_,e,fin false l.length B _ D⟩
  ·obtain⟨B,E,e,D⟩:=afU  (aO:=some 1) h1 ap (by simp) true  rfl;exact⟨_,e,fin true j B _ D⟩
theorem Jb{n:Int}:aD Q s 289 [(n:X),(m:X)] h U (fs (.bool (ly n m)) U h):=by
 refine akW ?_;unfold ZA;refine aE ?_;refine⟨λB=>?_,λB=>by rw[py J];exact⟨rfl,rfl,rfl⟩⟩
 by_cases A:m<n
 ·rw[hf A,py J];exact⟨rfl,rfl,rfl⟩
 ·rw[ht A,lm J];exact⟨rfl,rfl,rfl⟩
theorem akZ{n:Int}:aD Q s 369 [(n:X),(m:X)] h U (fs (.bool (decide (n<m))) U h):=by
 have A:∀{n:Int} {K:bZ},K (.bool false) h U->aD Q s 345 [(n:X)] h U K:=λ{n K} hk=>by refine ael ?_;unfold RJ;simp(disch:=omega)only[bk,oH,seval];exact hk
 refine aoc ?_;refine A ?_;refine aE ?_;exact⟨rfl,rfl,rfl⟩
def CrJ(dp:X)(l:ac Int)(c:Int)(h:ae)(U:Nat)(m:Nat)(aJ:ac X)(ab:ae)(Y:Nat):Prop:=∃i,m=l.length-i/\i<=l.length/\aJ=[dp,(c:X),.bool false,dp,(l.length:X),(i:X)]/\ab=h/\Y=U
def IsJ(dp:X)(l:ac Int)(h:ae)(U:Nat)(m:Nat)(aJ:ac X)(ab:ae)(Y:Nat):Prop:=∃k:Int,m=(k+1).toNat/\-1<=k/\k<l.length/\aJ=[dp,.bool false,(k:X)]/\ab=h/\Y=U
theorem asp(L:sQ h U v l)(br:l.length<=1000)(a5:c<=4096)(V:∀x∈l,0<=x/\x<(c:Int))(Z:∀(i:Nat) (x y:Int),l[i]? = some x->l[i+1]? = some y->x<y):
  aD Q s 291 [v,(c:X)] h U (fs (.bool true) U h):=by
 refine avl ?_;obtain⟨a,cap,rfl,_⟩:=id L;unfold afO;refine aE ?_;refine bF.mk (CrJ (.slice a l.length cap) l c h U) l.length ⟨0,rfl,J,rfl,rfl,rfl⟩ ?_;rintro _ _ _ _ ⟨i,rfl,aj,rfl,rfl,rfl⟩;rw[asf];unfold abW;refine aE ?_;refine⟨λB=>?_,λM=>⟨rfl,rfl,rfl⟩⟩;obtain⟨x,I⟩:=dW B;obtain⟨b,o,aO,bL,cs,a1,rfl,D,A⟩:=L.at I;obtain⟨t6,hx1⟩:=V x aa;have gb:IntKind.wrap .i64 ((c:Int)-1)=(c:Int)-1:=jo J J;simp(disch:=omega)only[bk,D,A i x I,gb,seval];refine Jb.mono ?_;rintro r h1 bg ⟨rfl,rfl,rfl⟩;rw[lm J];refine aE ?_;refine⟨λE=>?_,λdc=>?_⟩
 ·obtain⟨y,K⟩:=dW (l:=l) (i:=i-1) J;have P:IntKind.wrap .i64 ((i:Int)-1)=((i-1:Nat):Int):=by rw[show(i:Int)-1=((i-1:Nat):Int) by omega];exact jo J J
  have C:=Z (i-1) y x K aa;simp(disch:=omega)only[bk,P,D,A (i-1) y K,cF (J:i<1000000000000),seval];exact⟨λh=>absurd C h,λ_=>⟨l.length-(i+1),J,i+1,rfl,J,rfl,rfl,rfl⟩⟩
 ·refine bf (cF (J:i<1000000000000)) ?_;exact⟨l.length-(i+1),J,i+1,rfl,J,rfl,rfl,rfl⟩
theorem ajb(V:n=l.length)(E:u h b=some (.cells (hw l) bL))(br:l.length<=100000)(I:∀(i:Nat) (x y:Int),l[i]? = some x->l[i+1]? = some y->x<=y):
  aD Q s 290 [.slice (some ⟨b,0,aO⟩) n cap] h U (fs (.bool true) U h):=by
 subst V;refine akX ?_;unfold ZB;refine aE ?_;have P:IntKind.wrap .i64 ((l.length:Int)-1)=(l.length:Int)-1:=jo J J;rw[P];refine bF.mk (IsJ (.slice (some ⟨b,0,aO⟩) l.length cap) l h U) l.length ⟨(l.length:Int)-1,J,J,J,rfl,rfl,rfl⟩ ?_;rintro _ _ _ _ ⟨k,rfl,L,K,rfl,rfl,rfl⟩;rw[aja];unfold WQ;refine aE ?_;refine⟨λA=>?_,λZ=>⟨rfl,rfl,rfl⟩⟩;obtain⟨i,rfl⟩:∃i:Nat,k=((i+1:Nat):Int):=⟨(k-1).toNat,J⟩
 obtain⟨x,D⟩:=dW (l:=l) (i:=i+1) J;obtain⟨y,B⟩:=dW (l:=l) (i:=i) J;have C:IntKind.wrap .i64 (((i+1:Nat):Int)-1)=(i:Int):=by rw[show((i+1:Nat):Int)-1=(i:Int) by omega];exact jo J J
 have M:=I i y x B D;simp(disch:=omega)only[bk,C,E,j4 D,j4 B,seval];refine(akZ ).mono ?_;rintro r h1 bg ⟨rfl,rfl,rfl⟩;rw[ht (J:¬x<y)];refine⟨J,?_⟩;refine bf @C ?_;exact⟨_,J,(i:Int),rfl,J,J,rfl,rfl,rfl⟩
theorem ab0(ag:ac GE)(i j:Nat):((ft ag).drop i).take j=ft ((ag.drop i).take j):=by unfold ft;rw[EL,EK]
theorem asq(ag:ac GE)(i j:Nat):((gI ag).drop i).take j=gI ((ag.drop i).take j):=by unfold gI;rw[EL,EK]
theorem JV(h:ag[i]? = some g):(ft ag)[i]? = some (g.t:Int):=by unfold ft;grind
theorem JW(h:ag[i]? = some g):(gI ag)[i]? = some g.w:=by unfold gI;grind
theorem aem(h:(ft ag)[i]? = some x):∃g,ag[i]? = some g/\x=(g.t:Int):=by
 unfold ft at h
 grind
theorem O0(h:g∈eQ ag i):g∈ag/\g.f=i:=by
 unfold eQ at h
 grind
theorem P1(ag:ac GE)(i:Nat):(eQ ag i).length<=ag.length:=zu _ _
def CtJ(p r:Nat)(aq:ae)(a0:Nat)(m:Nat)(aJ:ac X)(ab:ae)(Y:Nat):Prop:=∃i,m=r-i/\i<=r/\aJ=[bb p,.bool false,(r:X),(i:X)]/\ab=aq/\Y=a0
theorem Ji(M:hj r c ag)(aI:kw h U v r c ag):aD Q s 201 [v] h U (c9 (.bool true) U h):=by
 refine an5 ?_;obtain⟨b,aO,cap,v2,v3,rfl,a1,K,V,pc⟩:=id aI;obtain⟨a2,c2,rfl⟩:=V.form;obtain⟨a3,cm,rfl⟩:=pc.form;have ba:=M.ba;have a5:=M.a5;have br:=M.len;have L:=Cr ag;have vH:=FZ ag;have Z:∀{o},aA U h (T h U o):=aF
 unfold abP;refine aE ?_;refine Jb.mono ?_;rintro _ _ _ ⟨rfl,rfl,rfl⟩;rw[lm J];refine aE ?_;refine Jb.mono ?_;rintro _ _ _ ⟨rfl,rfl,rfl⟩;rw[lm J];simp(disch:=omega)only[bk,cF (J:r<1000000000000),show(((r+1:Nat):Int) == ((r+1:Nat):Int))=true from oH _,show(((gI ag).length:Int) == ((ft ag).length:Int))=true by grind,seval];rw[show decide ((65536:Int)<((ft ag).length:Int))=false from ht J];unfold B3;have lA:(pT ag r)[0]? = some 0:=by rw[wg J,KF];rfl
 have Vh:(pT ag r)[r]? = some ((ft ag).length:Int):=by rw[wg J,afT M,L]
 simp(disch:=omega)only[bk,K,j4 lA,j4 Vh,show(((ft ag).length:Int) == ((ft ag).length:Int))=true from oH _,seval];refine(ajb  (PY ag r).symm (by rw[ar J];omega) (by rw[PY];omega) λi x y A B=>?_).mono ?_
 ·have aj:=(g0.1 B).1;rw[PY]at aj;rw[wg J]at A B;cases A;cases B;have:=zP ag (J:i<=i+1);omega
 rintro _ _ _ ⟨rfl,rfl,rfl⟩;refine aE ?_;unfold Jh;refine aE ?_;refine bF.mk (CtJ U r (T h U (.cells [(r:X),(c:X),.slice (some ⟨b,0,aO⟩) (r+1) cap,.slice a2 (ft ag).length c2,.slice a3 (gI ag).length cm] false)) (U+1)) r ⟨0,rfl,J,rfl,rfl,rfl⟩ ?_;rintro _ _ _ _ ⟨i,rfl,aj,rfl,rfl,rfl⟩;rw[akU];unfold XR;refine aE ?_;refine⟨λcS=>?_,λeZ=>⟨rfl,Z,J⟩⟩;have Vi:(pT ag r)[i]? = some (dK ag i:Int):=wg J;have D:(pT ag r)[i+1]? = some (dK ag (i+1):Int):=wg J;obtain⟨w,bV,P⟩:=P0 V (zP ag (J:i<=i+1)) (by rw[L];exact u0 _ _) (.inl rfl);rw[ab0,Cq M.up]at P;simp(disch:=omega)only[bk,K,j4 Vi,j4 D,cF (J:i<1000000000000),bV,seval];have HD:=P1 ag i;refine(asp   (P.F Z J) (by rw[Cr];omega) a5 (λx A=>?_) λk x y A B=>?_).mono ?_
 ·obtain⟨g,C,rfl⟩:=gO.1 A;have:=M.mj g (O0 C).1;omega
 ·obtain⟨g,I,rfl⟩:=aem A;obtain⟨cG,E,rfl⟩:=aem B;have h1:=(g0.1 I)
  have ap:=(g0.1 E)
  have:=xL.1 (PZ M.up i) k (k+1) h1.1 ap.1 J
  grind
 rintro _ _ _ ⟨rfl,rfl,rfl⟩;refine⟨J,?_⟩;refine bf (cF (J:i<1000000000000)) ?_;exact⟨r-(i+1),J,i+1,rfl,J,rfl,rfl,rfl⟩
theorem Fy(M:hj r c ag)(C:kw h U v r c ag):aD Q s 293 [v] h U (c9 v U h):=by
 refine ash ?_;have B:=C;obtain⟨b,aO,cap,v2,v3,rfl,V,Z,K,P⟩:=id C;obtain⟨a2,c2,rfl⟩:=K.form;obtain⟨a3,cm,rfl⟩:=P.form;unfold aei;have L:∀{o aU},aA U h (T (T h U o) (U+1) aU):=aF
 refine aE ?_;refine(Ji M (B.F L J)).mono ?_;rintro _ h1 bg ⟨rfl,A,I⟩;have E:=A U J;rw[ar J,aR]at E;have D:=A (U+1) J;rw[aR]at D;refine cM @E @D ?_;exact⟨rfl,aF,J⟩
def axK(ag:ac GE)(i B:Nat)(U:Nat)(h:ae):bZ:=λres ab Y=>∃dj j2,res = .tuple ⟨[dj,j2]⟩/\sQ ab B dj (ft (eQ ag i))/\sQ ab B j2 (gI (eQ ag i))/\aA U h ab/\U<=Y
theorem ZE{B:Nat}(M:hj r c ag)(aI:kw h B v r c ag)(P:B<=U)(aj:i<r):aD Q s 296 [v,(i:X)] h U (axK ag i B U h):=by
 refine asj ?_;obtain⟨b,aO,cap,v2,v3,rfl,a1,Z,L,V⟩:=id aI;obtain⟨a2,c2,rfl⟩:=L.form;obtain⟨a3,cm,rfl⟩:=V.form;have ba:=M.ba;have I:∀{o},aA U h (T h U o):=aF
 have Vi:(pT ag r)[i]? = some (dK ag i:Int):=wg J;have D:(pT ag r)[i+1]? = some (dK ag (i+1):Int):=wg J;obtain⟨dj,E,C⟩:=P0 L (zP ag (J:i<=i+1)) (by rw[Cr];exact u0 _ _) (.inr rfl);obtain⟨j2,K,A⟩:=P0 V (zP ag (J:i<=i+1)) (by rw[FZ];exact u0 _ _) (.inr rfl);rw[ab0,Cq M.up]at C;rw[asq,Cq M.up]at A;unfold aej;simp(disch:=omega)only[bk,Z,j4 Vi,j4 D,cF (J:i<1000000000000),E,K,seval];exact⟨dj,j2,rfl,C.F (I.mono P) J,A.F (I.mono P) J,I,J⟩
def Gy(g:GE):ac X:=[(g.t:X),(g.w:X)]
def RwJ(dp fW:X)(l:ac GE)(aq:ae)(a0:Nat)(m:Nat)(aJ:ac X)(ab:ae)(Y:Nat):Prop :=
 ∃(k:Nat) (o:X),m=l.length-k/\k<=l.length/\aJ=[o,fW,dp,(l.length:X),(k:X)]/\dX ab o Gy 2 (l.take k) a0 Y/\aA a0 aq ab/\a0<=Y
def RowK(ag:ac GE)(i:Nat)(U:Nat)(h:ae):bZ:=λres ab Y=>dX ab res Gy 2 (eQ ag i) U Y/\aA U h ab/\U<=Y
theorem ass(M:hj r c ag)(aI:kw h U v r c ag)(aj:i<r):aD Q s 295 [v,(i:X)] h U (RowK ag i U h):=by
 refine avn ?_;have E:=aI;obtain⟨b,aO,cap,v2,v3,rfl,a1,bd,qb,pc⟩:=id aI;obtain⟨a2,c2,rfl⟩:=qb.form;obtain⟨a3,cm,rfl⟩:=pc.form;have ba:=M.ba;have br:=M.len;have HD:=P1 ag i;unfold afQ;have bH:∀{o},aA U h (T h U o):=aF
 refine aE ?_;refine(Fy M (E.F bH J)).mono ?_;rintro _ h1 bg ⟨rfl,dv,fa⟩;have bP:=dv U J;rw[aR]at bP;have gb:IntKind.wrap .i64 ((r:Int)-1)=(r:Int)-1:=jo J J;refine cM @bP @gb ?_;refine Jb.mono ?_;rintro _ _ _ ⟨rfl,rfl,rfl⟩;rw[lm J];refine aE ?_;have ey:∀{o},aA U h (T h1 U o):=aF
 refine(ZE M (E.F ey (cR _)) J aj).mono ?_;rintro _ Z b1 ⟨dj,j2,rfl,P,BD,f1,gg⟩;obtain⟨iZ,cN,rfl,_⟩:=id P;obtain⟨hO,ca,rfl,_⟩:=id BD;have vI:=Cr (eQ ag i);have vH:=FZ (eQ ag i);rw[vI]at P;rw[vH]at BD;rw[vI,vH];refine aE ?_;refine bF.mk (RwJ (.slice iZ (eQ ag i).length cN) (.slice hO (eQ ag i).length ca) (eQ ag i) Z b1) (eQ ag i).length ⟨0,_,J,J,rfl,.inl aa,aF,J⟩ ?_;rintro _ _ bh d9 ⟨k,o,rfl,hk,rfl,L,B,hX⟩;rw[asi];unfold abX;refine aE ?_;refine⟨λC=>?_,λeZ=>?_⟩
 ·have C:k<(eQ ag i).length:=J
  obtain⟨g,A⟩:=dW C;obtain⟨b2,dQ,nk,w6,xd,fH,rfl,V,D⟩:=P.at (JV A)
  obtain⟨d2,gu,kZ,HE,Bb,pR,rfl,K,I⟩:=BD.at (JW A)
  have aP:=(B b2 J).trans V;have cy:=(B d2 J).trans K;simp(disch:=omega)only[bk,aP,D k _ (JV A),cy,I k _ (JW A),seval];refine me (enc:=Gy)  (λ_=>rfl) (λ_=>rfl) J (L.F aa J) J g (aR _ _ _) rfl aa λd7 b0 pU e7=>?_;refine bf (cF (J:k<1000000000000)) ?_;refine⟨(eQ ag i).length-(k+1),J,k+1,_,rfl,J,rfl,?_,λc a5=>?_,J⟩
  ·rw[hq,A];exact pU
  ·rw[e7 c a5,ar J];exact B c a5
 ·have:k=(eQ ag i).length:=J
  subst this;rw[hB]at L;refine⟨?_,aF,J⟩;rcases L with e|⟨b,h1,ap,Z⟩
  ·exact .inl e
  ·exact .inr ⟨b,J,ap,Z⟩
def hK(ag:ac GE)(j:Nat):Nat:=(ag.filter λg=>decide (g.f+1=j)).length
def AF(ag:ac GE)(r:Nat):ac Int:=(List.range (r+1)).map λj=>(hK ag j:Int)
def xl(ag:ac GE)(r k:Nat):ac Int:=(List.range (r+1)).map λj=>((if j<=k then dK ag j else hK ag j:Nat):Int)
theorem ab1(h:i<n):((List.range n).map f)[i]? = some (f i):=aa
theorem ab2{g:Nat->Int}(aj:i<n)(B:g i=x)(A:∀j,j<n->j≠i->g j=f j):((List.range n).map f).set i x=(List.range n).map g:=by
 apply q6
 grind
theorem aod(r:Nat):AF [] r=List.replicate (r+1) 0:=by
 unfold AF;apply q6;intro j
 by_cases A:j<r+1
 ·rw[ab1 A,List.getElem?_replicate,if_pos A];rfl
 grind
theorem ab3(ag:ac GE)(e:GE)(j:Nat):hK (ag++[e]) j=hK ag j+if e.f+1=j then 1 else 0:=by
 unfold hK
 grind
theorem aoe{e:GE}(h:e.f<r):(AF ag r).set (e.f+1) ((hK ag (e.f+1):Int)+1)=AF (ag++[e]) r:=by
 refine ab2 (by omega) ?_ λj B A=>?_
 ·rw[ab3,if_pos rfl];simp
 ·rw[ab3,if_neg (kt A)];simp
theorem aen(ag:ac GE)(j:Nat):hK ag j<=ag.length:=zu _ _
theorem ZF(ag:ac GE)(k:Nat):dK ag (k+1)=dK ag k+hK ag (k+1):=by
 unfold dK hK
 induction ag with
 |nil=>rfl
 |cons g ag A =>
  grind
theorem axL(ag:ac GE)(r:Nat):xl ag r 0=AF ag r:=by
 apply q5;intro j _
 by_cases h:j<=0
 ·have:j=0:=J
  subst this;rw[if_pos (cR _),KF];have:hK ag 0=0:=by
   unfold hK;rw[List.length_eq_zero_iff,zt]
   grind
  omega
 grind
theorem axM(ag:ac GE)(r:Nat):xl ag r r=pT ag r:=by
 apply q5
 grind
theorem aof(h:k<r):(xl ag r k)[k+1]? = some (hK ag (k+1):Int):=by
 unfold xl
 grind
theorem aog(h:k<r):(xl ag r k)[k]? = some (dK ag k:Int):=by
 unfold xl
 grind
theorem ast(h:k<r):(xl ag r k).set (k+1) ((hK ag (k+1):Int)+(dK ag k:Int))=xl ag r (k+1):=by
 refine ab2 (by omega) ?_ λj B A=>?_
 ·rw[if_pos (cR _),ZF];omega
 grind
theorem aoh(C:r<=4096):aD Q s 367 [(r:X),(c:X)] h U (λA ab Y=>A = .agg ⟨[(r:X),(c:X),.slice (some ⟨U+1,0,none⟩) (r+1) (r+1),.slice none 0 0,.slice none 0 0]⟩/\u ab (U+1)=some (.cells (hw (List.replicate (r+1) 0)) false)/\aA U h ab/\Y=U+1+1):=by
 refine ady ?_;unfold Rz;have B:List.replicate (r+1) (Value.int .i64 0)=hw (List.replicate (r+1) 0):=by simp[hw]
 refine cM (cF (J:r<1000000000000)) @B ?_;exact aF
def azt(r c cf eX ie al:Nat)(Bz:X)(ag:ac GE)(aq:ae)(U:Nat)(m:Nat)(aJ:ac X)(ab:ae)(Y:Nat):Prop :=
 ∃(i:Nat) (eD lB:X),m=ag.length-i/\i<=ag.length/\aJ=[(r:X),bb cf,bb eX,Bz,(ag.length:X),(i:X)] /\
  u ab eX=some (.cells [(r:X),(c:X),.slice (some ⟨ie,0,none⟩) (r+1) (r+1),eD,lB] false)/\u ab ie=some (.cells (hw (AF (ag.take i) r)) false) /\
  wN ab eD lB ((ag.take i).map λe=>(e.t:Int)) ((ag.take i).map GE.w) al Y/\(∀d,d<al->d≠eX->d≠ie->u ab d=u aq d)/\al<=Y
def azu(r c cf eX ie al:Nat)(eD lB:X)(ag:ac GE)(aq:ae)(U:Nat)(m:Nat)(aJ:ac X)(ab:ae)(Y:Nat):Prop :=
 ∃(i:Nat),m=r-i/\i<=r/\aJ=[bb cf,bb eX,(r:X),(i:X)] /\
  u ab eX=some (.cells [(r:X),(c:X),.slice (some ⟨ie,0,none⟩) (r+1) (r+1),eD,lB] false)/\u ab ie=some (.cells (hw (xl ag r i)) false) /\
  (∀d,d≠ie->u ab d=u aq d)/\Y=U
def Q7(r c:Nat)(ag:ac GE)(U:Nat)(h:ae):bZ:=λv ab Y=>wm ab U Y v r c ag/\aA U h ab/\U<=Y
theorem O1(aI:el h U v b3 ag)(M:hj r c ag):
  aD Q s 281 [(r:X),(c:X),v] h U (Q7 r c ag U h):=by
 refine adw ?_;obtain⟨a,cap,rfl,LD⟩:=id aI;have ba:=M.ba;have a5:=M.a5;have br:=M.len;unfold Ry;refine aE ?_;refine(aoh   ba).mono ?_;rintro mJ h1 _ ⟨rfl,iB,I,rfl⟩;have ch:=I U J;rw[aR]at ch;refine aE ?_;refine bF.mk (azt r c U (U+1+1+1) (U+1+1) (U+1+1+1+1) (.slice a ag.length cap) ag h1 U) ag.length ⟨0,_,_,rfl,J,rfl,aa,by rw[ar J,ar J,s8,aod];omega,.inl ⟨rfl,rfl,rfl,rfl⟩,aa,J⟩ ?_;rintro m _ ap C ⟨i,eD,lB,rfl,aj,rfl,L,V,B,bD,dx⟩;obtain⟨eV,dQ,oE,xA,xB,Ic⟩:=B.hH;obtain⟨az,bg,Z,a2,P,c2,rfl,rfl⟩:=B.form;rw[abc];unfold PD;refine aE ?_;refine⟨λcS=>?_,λeZ=>?_⟩
 ·obtain⟨e,bK⟩:=dW cS;have Tw:e.f<r:=M.rows e aa;obtain⟨_,b,aO,bL,dN,cs,a1,aW,bd⟩:=aI.at bK;cases aW;have kh:=(bD b J J J).trans ((I b J).trans ((ar J).trans bd));have rH:hg (some 3) (i*3) (a7 b3 ag++cs) = .ok (.agg ⟨[(e.f:X),(e.t:X),(e.w:X)]⟩):=tZ  (k:=3) (λ_=>rfl) bK;have aX:(AF (ag.take i) r)[e.f+1]? = some (hK (ag.take i) (e.f+1):Int):=ab1 J;have LO:=aen (ag.take i) (e.f+1);have sP:(ag.take i).length<=120:=aa
  have K:IntKind.wrap .i64 ((hK (ag.take i) (e.f+1):Int)+1)=(hK (ag.take i) (e.f+1):Int)+1:=jo J J;simp(disch:=omega)only[bk,kh,rH,L,V,cF (J:e.f<1000000000000),j4 aX,K,seval];refine⟨aa,?_⟩;have lf:((ag.take i).map λe=>(e.t:Int)).length=i:=aa
  have Lj:((ag.take i).map GE.w).length=i:=aa
  refine ti (oE.F aa) (aR _ _ _) J λE yV A=>?_;have Hr:u E (U+1+1+1)=some (.cells [(r:X),(c:X),.slice (some ⟨U+1+1,0,none⟩) (r+1) (r+1),.slice az bg Z,.slice a2 P c2] false):=aa
  have Hs:u E C=some (.cells [(e.f:X),(e.t:X),(e.w:X)] false):=aa
  refine cM @Hr @Hs ?_;refine ti (xA.F λc a5=>?_) (aR _ _ _) J λbh Tx xg=>?_
  ·grind
  have Ht:u bh (U+1+1+1)=some (.cells [(r:X),(c:X),.slice (some ⟨U+1+1,0,none⟩) (r+1) (r+1),.slice (some ⟨C+1+1,0,some 1⟩) (((ag.take i).map λe=>(e.t:Int)).length+1) (((ag.take i).map λe=>(e.t:Int)).length+1),.slice a2 P c2] false):=aa
  refine bf @Ht ?_;have mq:ag.take (i+1)=ag.take i++[e]:=by rw[hq,bK];rfl
  refine⟨ag.length-(i+1),J,i+1,_,_,rfl,J,by rw[cF J],aR _ _ _,?_,.inr ⟨C+1+1,C+1+1+1+1,J,J,J,J,J,?_,?_,?_,?_⟩,λd h1 ap E=>?_,J⟩
  ·rw[ar J,xg _ J (λe=>aa),ar J,ar J,A _ J (λe=>aa),ar J,aR,aoe Tw,mq]
  ·grind
  ·grind
  ·grind
  all_goals grind
 ·obtain⟨BA,BB⟩:=B.gC;have xc:i=ag.length:=J
  subst xc;rw[hB]at BA BB B V;refine bF.mk (azu r c U (U+1+1+1) (U+1+1) (U+1+1+1+1) (.slice az bg Z) (.slice a2 P c2) ag ap C) r ⟨0,rfl,J,rfl,L,by rw[axL];omega,λ_ _=>rfl,rfl⟩ ?_;rintro m _ E xe ⟨k,rfl,hk,rfl,_,V,A,rfl⟩;have L:=(A (U+1+1+1) J).trans L;rw[abd];unfold PE
  by_cases D:k<r
  ·have aX:=aof (ag:=ag) D;have cd:=aog (ag:=ag) D;have LO:=aen ag (k+1);have hyb:=u0 ag k;have K:IntKind.wrap .i64 ((hK ag (k+1):Int)+(dK ag k:Int))=(hK ag (k+1):Int)+(dK ag k:Int):=jo J J;simp(disch:=omega)only[bk,show(k:Int)<(r:Int) by omega,D,L,V,cF (J:k<1000000000000),j4 aX,j4 cd,K,seval];refine⟨⟨aa,?_⟩,λh=>absurd trivial h⟩;refine⟨r-(k+1),J,k+1,rfl,J,rfl,?_,?_,λd E=>aa,rfl⟩
   ·grind
   ·rw[aR,ast D]
  ·have:k=r:=J
   subst this;have j1:=(A U J).trans ((bD U J J J).trans ch);refine cM @L @j1 ?_;rw[axM]at V;have qb:oc (T E U (.cells [(k:X),(c:X),.slice (some ⟨U+1+1,0,none⟩) (k+1) (k+1),.slice az bg Z,.slice a2 P c2] false)) U xe (.slice az bg Z) (ft ag)/\oc (T E U (.cells [(k:X),(c:X),.slice (some ⟨U+1+1,0,none⟩) (k+1) (k+1),.slice az bg Z,.slice a2 P c2] false)) U xe (.slice a2 P c2) (gI ag):=by
    rcases B with⟨aW,aP,cy,eE⟩|⟨dA,b2,fk,g8,iZ,hO,Bp,cy,eE,b8,cN⟩
    ·exact⟨⟨none,.inl ⟨aW,cy,rfl⟩,λc e=>by cases e⟩,⟨none,.inl ⟨aP,eE,rfl⟩,λc e=>by cases e⟩⟩
    ·refine⟨⟨some dA,.inr ⟨dA,rfl,cy,?_⟩,λc e=>aa⟩,⟨some b2,.inr ⟨b2,rfl,eE,?_⟩,λc e=>aa⟩⟩
     ·rw[ar J,A dA J,jm];exact b8
     ·rw[ar J,A b2 J,jm];exact cN
   refine⟨λh=>absurd h J,λ_=>⟨⟨U+1+1,none,k+1,_,_,rfl,J,J,?_,qb.1,qb.2⟩,λd bs=>?_,J⟩⟩
   ·grind
   ·rw[ar J,A d J,bD d J J J,I d J,ar J]
def c8(n k i:Nat):Nat:=min i k*n / k
theorem tk(A:0<k)(i:Nat):c8 n k i<=n:=by refine Nat.div_le_of_le_mul ?_;exact sc J J
theorem uJ(h:i<=j):c8 n k i<=c8 n k j:=by exact Nat.div_le_div_right (sc J J)
theorem avp(n k:Nat):c8 n k 0=0:=by unfold c8;simp
theorem avq(A:0<k):c8 n k k=n:=by unfold c8;rw[Nat.min_self];exact M6 n A
def pF(a H b W:Nat)(g:GE):ao:=decide (a<=g.f/\g.f<a+H/\b<=g.t/\g.t<b+W)
def lN(ag:ac GE)(a H b W:Nat):ac GE:=(ag.filter (pF a H b W)).map λg=>⟨g.f-a,g.t-b,g.w⟩
theorem JX{a H W:Nat}(M:hj r c ag)(E:a+H<=r)(D:b+W<=c):hj H W (lN ag a H b W) where
 up:=by
  unfold lN k0;rw[xM];refine List.Pairwise.imp_of_mem (λ{x y} A cd h=>?_) (IE _ M.up);have C:=of_decide_eq_true (sb.1 A).2;unfold m8 at h ⊢
  grind
 rows:=λg B=>by
  obtain⟨x,A,rfl⟩:=gO.1 B;have C:=of_decide_eq_true (sb.1 A).2
  grind
 mj:=λg B=>by
  obtain⟨x,A,rfl⟩:=gO.1 B;have C:=of_decide_eq_true (sb.1 A).2
  grind
 ba:=by have:=M.ba;omega
 a5:=by have:=M.a5;omega
 len:=by unfold lN;rw[gW];exact hJ aa M.len
def yI(b W:Nat)(g:GE):ao:=decide (b<=g.t/\g.t<b+W)
def Sl(ag:ac GE)(a b W i:Nat):ac GE:=((eQ ag (a+i)).filter (yI b W)).map λg=>⟨i,g.t-b,g.w⟩
theorem ajc(h:k0 ag)(a H b W:Nat):ag.filter (pF a (H+1) b W)=ag.filter (pF a H b W)++(eQ ag (a+H)).filter (yI b W):=by
 induction ag with
 |nil=>rfl
 |cons x ag A =>
  have A:=A (uz.1 h).2;unfold eQ at A ⊢;rw[q7,q7,q7,A]
  by_cases K:x.f<a+H
  ·have aP:pF a (H+1) b W x=pF a H b W x:=by unfold pF;grind
   grind
  ·have I:=ag7 h;have aM:ag.filter (pF a H b W)=[]:=by
    rw[zt];intro g D;unfold pF
    grind
   have C:pF a H b W x=false:=ht J;rw[aM,C]
   by_cases E:x.f=a+H
   ·have B:pF a (H+1) b W x=yI b W x:=by unfold pF yI;grind
    grind
   ·have B:pF a (H+1) b W x=false:=ht J
    grind
theorem ak0(h:k0 ag)(a H b W:Nat):lN ag a (H+1) b W=lN ag a H b W++Sl ag a b W H:=by
 unfold lN Sl;rw[ajc h,hr]
 congr 1
 apply q5;intro g A;have:=(sb.1 (show g∈eQ ag (a+H)from aa)).2
 grind
theorem avr(ag:ac GE)(a b W:Nat):lN ag a 0 b W=[]:=by
 unfold lN;rw[zt.2];rfl;intro g _;unfold pF
 grind
end Go.Proofs.YthlhhajnbgjfmaaGreat
