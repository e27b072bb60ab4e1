/- Parts of the proof: HwFn3: each statement bears its own conditions. -/
import Derived.Test.YthlhhajnbgjfmaaGreatRhHwFn2
namespace Go.Proofs.YthlhhajnbgjfmaaGreat
open Go Go.Ax
set_option linter.all false
set_option maxHeartbeats 1000000
set_option maxRecDepth 1000000
variable {U:Nat} {ag:aa GE} {s:al} {h:ae} {v:X} {N R:aP} {n:Nat} {l:aa Int} {r:Nat} {aE:aP} {i:Nat} {a6:X} {c:Nat} {a3 br aC bm aB:X} {k:Nat} {dI a2:X} {p:Nat->al} {dk d3:X} {ac:ae} {aZ:X} {Y:Nat} {fT:X} {ao aj:Nat} {bt:X} {a:aw Addr} {c7:X} {aS:aw Nat} {b j:Nat} {aK:aP} {q:Nat->al} {eJ i4 ge e5 ns mv:X} {f:Nat->Int} {x:Int} {ro:al} {d2 dm cap:Nat} {g:GE} {w:Nat} {m:Int}
def J5(s:al)(K:bR)(cB cE cg df hm qf:X)(au:ae)(a4:Nat):Prop:=ax au 0 df λb=>af (cU [(ad 0),(ad 0),(ad 0),(ad 0),ay] [(0,1,(ad 1)),(1,1,b),(2,1,cB)]) λc=>aR 2 au df λd=>af (cU [(ad 0),(ad 0),(ad 0),(ad 0),ay,(ad 0),ay,(ad 0),(ad 0),(ad 0),(ad 0),ay] [(0,5,c),(5,2,d),(7,1,cE),(8,1,cg),(9,1,(ad 4)),(10,1,qf)]) λe=>af (aU au 12 hm e) λf=>aR 12 f hm λg=>K g f a4
def aef:s2:=λs ah t1 t2 t3 h U K=>bI ah h U λa b c=>b1 [(ad 0),(ad 0),(ad 0),(ad 0),ay,(ad 0),ay,(ad 0),(ad 0),(ad 0),(ad 0),ay] b c λd e f=>ax e 0 a λi=>bw .geq 3 i (ad 0) (ax e 0 a λl=>af (min2 true l (ad 8191)) λm=>b9 m λn=>(J5 s K t1 t2 t3 a d n e f)) (J5 s K t1 t2 t3 a d (ad 0) e f)
theorem arG:uo 22 aef:=vw []
def SL:aa (aa Nat):=[[0,5,10,11,12]]
def K8(s:al)(N:aP)(aE:aP)(R:aP)(cz d8 lu Mp sL:X)(au:ae)(a4:Nat):Prop:=b9 sL λa=>N [cz,d8,lu,Mp,a] au a4
def R9(s:al)(aC bt dk d3 dI:X)(h:ae)(U:Nat)(N:aP)(aE:aP)(R:aP):Prop:=cF dI d3 (dL h 1 dk dI λc=>cF c aC (aX s 179 [bt,c] h U λe f g=>bu e (b6 180 [c] f g λi j k=>bH .shr 3 c (.int .u64 6) λl=>hJ 1 bt l λm=>bS j m λn=>cZ m n (bH .or 188 n i λo=>hJ 1 bt l λp=>af (aU j 1 p o) λq=>(K8 s N aE R aC bt dk d3 dI q k)) 1 [f]) (K8 s N aE R aC bt dk d3 dI f g)) (K8 s N aE R aC bt dk d3 dI h U)) (aE [aC,bt,dk,d3,dI] h U)
def fof:c0:=λs ah t1 h U K=>aX s 117 [ah] h U λa b c=>cO t1 λd=>bC (bN Q s SL 108 0) [ah,a,t1,d,(ad 0)] b c [(0,λe f g=>K (a8 e 1) f g)] (λ_ _ _=>False)
theorem afQ:bN Q s SL 108 0 [aC,bt,dk,d3,dI] h U N [(0,aE)] R=R9 s aC bt dk d3 dI h U N aE R:=by kernel_rfl
theorem ag6:c4 108 fof:=c5 SL
def afR:aa (aa Nat):=[[1,3,15,16,17],[1,6,35,36,37]]
def agN:cS:=λs ah h U K=>bI ah h U λa b c=>ax b 0 a λe=>dS (sr [ay] e e) b c λf g i=>aR 2 g a λj=>aX s 182 [j] g i λk l m=>aX s 181 [k] l m λn o p=>af (va 1 none n) λq=>cO q λr=>bC (bN Q s afR 110 0) [a,f,q,r,(ad 0)] o p [(0,λt aI v=>cO (a8 t 1) λw=>bC (bN Q s afR 110 1) [(a8 t 0),ay,(a8 t 1),w,(ad 0)] aI v [(2,λx y z=>K (a8 x 1) y z)] (λ_ _ _=>False))] (λ_ _ _=>False)
def Qh:aa (aa Nat):=[[3,6,7,8]]
def J6(s:al)(a3 bm a6 br:X)(h:ae)(U:Nat)(N:aP)(aE:aP)(R:aP):Prop:=cF br a6 (dL h 1 bm br λc=>aX s 183 [c] h U λd e f=>lB a3 d λg=>b9 br λi=>N [g,bm,a6,i] e f) (aE [a3,bm,a6,br] h U)
def Rn:cS:=λs ah h U K=>cO ah λa=>bC (bN Q s Qh 111 0) [(ad 0),ah,a,(ad 0)] h U [(0,λb c d=>K (a8 b 0) c d)] (λ_ _ _=>False)
theorem Pq:bN Q s Qh 111 0 [a3,bm,a6,br] h U N [(0,aE)] R=J6 s a3 bm a6 br h U N aE R:=by kernel_rfl
theorem abP:cT 111 Rn:=cV Qh
def azv:cS:=λs ah h U K=>aX s 195 [ah] h U λa b c=>dS (sr [(.int .u64 0)] a a) b c λd e f=>K d e f
theorem afS:cT 117 azv:=cV []
def axD:cS:=λs ah h U K=>aX s 197 [ah] h U λa b c=>aX s 196 [a] b c λd e f=>K d e f
theorem aeg:cT 119 axD:=cV []
def Qi:c0:=λs ah t1 h U K=>bw .geq 3 t1 (ad 0) (bH .shr 3 t1 (.int .u64 6) λb=>cO ah λc=>bH .lss 3 b c λd=>K d h U) (K (.bool false) h U)
theorem ZL:c4 179 Qi:=c5 []
def ag7:cS:=λs ah h U K=>af (qt (.int .u64) ah) λa=>bH .and 238 a (.int .u64 63) λb=>bH .shl 188 (.int .u64 1) b λc=>K c h U
theorem axE:cT 180 ag7:=cV []
def Ro:aa (aa Nat):=[[0,3]]
def abQ(s:al)(aC a3:X)(h:ae)(U:Nat)(N:aP)(aE:aP)(R:aP):Prop:=bw .eql 188 aC (.int .u64 0) (aE [aC,a3] h U) (bH .sub 188 aC (.int .u64 1) λb=>bH .and 188 aC b λc=>b9 a3 λd=>N [c,d] h U)
def axF:cS:=λs ah h U K=>bC (bN Q s Ro 183 0) [ah,(ad 0)] h U [(0,λa b c=>K (a8 a 1) b c)] (λ_ _ _=>False)
theorem arH:bN Q s Ro 183 0 [aC,a3] h U N [(0,aE)] R=abQ s aC a3 h U N aE R:=by kernel_rfl
theorem au2:cT 183 axF:=cV Ro
def Rp:cS:=λs ah h U K=>af (min2 false ah (ad 0)) λa=>af (min2 true a (ad 4096)) λb=>lB b (ad 63) λc=>bH .shr 3 c (.int .u64 6) λd=>K d h U
theorem abR:cT 195 Rp:=cV []
def Rq:cS:=λs ah h U K=>bw .eql 87 ah ay (K ay h U) (dS (eV 0 [] []) h U λb c d=>dD (dU (dM 1 c d b ah)) λe f g=>K e f g)
theorem abS:cT 139 Rq:=cV []
def arI:cS:=λs ah h U K=>aX s 287 [ay,ah] h U λa b c=>K a b c
theorem ZM:cT 196 arI:=cV []
def each:cS:=λs ah h U K=>bI ah h U λa b c=>af (.ok (Value.func (.func 288) ⟨[]⟩ ⟨[a]⟩)) λd=>K d b c
theorem Sa:cT 197 each:=cV []
def GI:aa (aa Nat):=[[0,6,7,8],[0,4,5,6,7,8]]
def CG(s:al)(N:aP)(aK:aP)(R:aP)(cz df d8 eh fe hm:X)(au:ae)(a4:Nat):Prop:=bH .shr 188 df (.int .u64 1) λa=>b9 d8 λb=>N [cz,a,b,eh,fe,hm] au a4
def Qj(s:al)(aC aZ bt bm a6 br:X)(h:ae)(U:Nat)(N:aP)(aK:aP)(R:aP):Prop:=bw .neq 188 aZ (.int .u64 0) (bH .and 188 aZ (.int .u64 1) λb=>bw .eql 188 b (.int .u64 1) (fh Q s (hP h U [bt] aC) λd e f=>af (dv .not d) λg=>bu g (R [aC,aZ,bt,bm,a6,br] e f) (CG s N aK R aC aZ bt bm a6 br e f)) (CG s N aK R aC aZ bt bm a6 br h U)) (aK [aC,aZ,bt,bm,a6,br] h U)
def CH(s:al)(aC bm a6 br:X)(h:ae)(U:Nat)(N:aP)(aE:aP)(R:aP):Prop:=cF br a6 (dL h 1 bm br λc=>bH .shl 3 br (.int .u64 6) λd=>bC (bN Q s GI 288 1) [aC,c,d,bm,a6,br] h U [(2,λe f g=>b9 (a8 e 5) λi=>N [(a8 e 0),(a8 e 3),(a8 e 4),i] f g)] (λj k l=>R [(a8 j 0),(a8 j 3),(a8 j 4),(a8 j 5)] k l)) (aE [aC,bm,a6,br] h U)
def K9:c0:=λs ah t1 h U K=>bS h t1 λa=>cO a λb=>bC (bN Q s GI 288 0) [ah,a,b,(ad 0)] h U [(0,λc d e=>K (.tuple ⟨[]⟩) d e)] (λf g i=>K (.tuple ⟨[]⟩) g i)
theorem abT:bN Q s GI 288 1 [aC,aZ,bt,bm,a6,br] h U N [(2,aK)] R=Qj s aC aZ bt bm a6 br h U N aK R:=by kernel_rfl
theorem Gp:bN Q s GI 288 0 [aC,bm,a6,br] h U N [(0,aE)] R=CH s aC bm a6 br h U N aE R:=by kernel_rfl
theorem Rr:c4 288 K9:=c5 GI
def Qk:aa (aa Nat):=[[0,1,4,7,8]]
def ZN(s:al)(aC aB aZ a6 br:X)(h:ae)(U:Nat)(N:aP)(aE:aP)(R:aP):Prop:=cF br a6 (dL h 1 aC br λc=>fh Q s (hP h U [c] aB) λd e f=>bu d (R [aC,aB,br,a6,br] e f) (b9 br λg=>N [aC,aB,aZ,a6,g] e f)) (aE [aC,aB,aZ,a6,br] h U)
def aeh:c0:=λs ah t1 h U K=>cO ah λa=>bC (bN Q s Qk 245 0) [ah,t1,(ad 0),a,(ad 0)] h U [(0,λb c d=>K (ad (-1)) c d)] (λe f g=>K (a8 e 2) f g)
theorem anQ:bN Q s Qk 245 0 [aC,aB,aZ,a6,br] h U N [(0,aE)] R=ZN s aC aB aZ a6 br h U N aE R:=by kernel_rfl
theorem arJ:c4 245 aeh:=c5 Qk
def OO(s:al)(K:bR)(cB cE cg TO:X)(au:ae)(a4:Nat):Prop:=bu TO (K (ad 0) au a4) (ax au 4 cg λb=>cO b λc=>kd c (ad 0) (ax au 4 cg λf=>ax au 1 cg λi=>bH .mul 3 cB i λj=>lB j cE λk=>bH .rem 3 k c λl=>dL au 1 f l λn=>bH .shl 2 n (.int .u64 12) λo=>bH .or 2 o cE λp=>K p au a4) (bH .shl 2 (ad 0) (.int .u64 12) λq=>bH .or 2 q cE λr=>K r au a4))
def abU:gv:=λs ah t1 t2 h U K=>bI ah h U λa b c=>aX s 277 [t1,(ad 8192)] b c λd e f=>af (dv .not d) λg=>bu g (OO s K t1 t2 a (.bool true) e f) (ax e 1 a λj=>bH .sub 3 j (ad 1) λk=>aX s 277 [t2,k] e f λl m n=>af (dv .not l) λo=>(OO s K t1 t2 a o m n))
theorem anR:gF 368 abU:=gL []
def j0(x:Nat):aa X:=[.int .u64 (x:Int)]
def sz(w:Nat)(U:Nat)(h:ae):bR:=λr ac Y=>∃b c aS,r = .slice (some ⟨b,0,aS⟩) 1 c/\U<=b/\b<Y/\u ac b=some (.cells [.int .u64 (w:Int)] false)/\aA U h ac/\U<=Y
theorem sz.rd{r:X}(H:sz w U h r ac Y):cr ac Y r j0 [w]:=by obtain⟨b,c,aS,rfl,C,A,B,_⟩:=H;exact⟨_,_,rfl,λ_=>⟨b,aS,false,A,rfl,B⟩⟩
theorem ZO(A:1<=n)(B:n<=64):aH Q s 195 [(n:X)] h U (λr ac Y=>r = .int .i64 1/\ac=h/\Y=U):=by
 refine abR ?_;unfold Rp;have e:IntKind.wrap .i64 ((n:Int)+63)=((n+63:Nat):Int):=cv J;simp(disch:=omega)only[bl,show max (n:Int) 0=n by omega,show min (n:Int) 4096=n by omega,e,FT,seval]
 grind
theorem aei(A:1<=n)(C:n<=64):aH Q s 117 [(n:X)] h U (sz 0 U h):=by refine afS ?_;refine(ZO A C).mono ?_;rintro r E D ⟨rfl,B,aK⟩;rw[B,aK];show dS (sr [.int .u64 0] (((1:Nat):X)) (((1:Nat):X))) h U _;refine ng ?_;exact⟨U,1,none,rfl,J,J,ab,aN,J⟩
theorem Yg(A:k<64):aH Q s 179 [.slice a 1 c,(k:X)] h U (λr ac Y=>r = .bool true/\ac=h/\Y=U):=by
 refine ZL ?_;unfold Qi;refine bh @FT ?_;rw[show k / 64=0 by omega]
 grind
theorem aej(A:k<64):aH Q s 180 [(k:X)] h U (λr ac Y=>r = .int .u64 ((2 ^ k:Nat):Int)/\ac=h/\Y=U):=by
 refine axE ?_;unfold ag7;have e:IntKind.wrap .u64 (k:Int)=(k:Int):=CU J;have aK:∀{t},bin Q .and t (.int .u64 (k:Int)) (.int .u64 63) = .ok (.int .u64 (k:Int)):=λ{t}=>by rw[show(63:Int)=((63:Nat):Int)from rfl,FR J J,show(63:Nat)=2 ^ 6-1 from rfl,Nat.and_two_pow_sub_one_eq_mod,Jh J]
 simp(disch:=omega)only[bl,e,aK,amN k A,seval]
def f1(l:aa Nat):aa Int:=l.map λx:Nat=>(x:Int)
def mX(l:aa Nat)(i:Nat):al:=decide (i∈l)
def OfJ(n b c:Nat)(aS:aw Nat)(v:X)(l:aa Nat)(U:Nat)(h:ae)(m:Nat)(aF:aa X)(ac:ae)(Y:Nat):Prop :=
 ∃i,m=l.length-i/\i<=l.length/\aF=[(n:X),.slice (some ⟨b,0,aS⟩) 1 c,v,(l.length:X),(i:X)]/\u ac b=some (.cells [.int .u64 (mk n (mX (l.take i)):Int)] false)/\U<=b/\b<Y/\aA U h ac/\U<=Y
theorem wU(h:n<=64):mk n p<18446744073709551616:=Jd (afr n p) (Nat.pow_le_pow_right   J h)
theorem ZP{l:aa Nat}{x:Nat}(A:l[i]? = some x)(j:Nat):mX (l.take (i+1)) j=(mX (l.take i) j||decide (j=x)):=by
 unfold mX;rw[ho,A,<-Bool.decide_or]
 grind
theorem axG{l:aa Nat}(au:1<=n)(V:n<=64)(aG:cr h U v cq (f1 l))(bA:∀x∈l,x<n)(gz:l.length<1000000):aH Q s 108 [(n:X),v] h U (sz (mk n (mX l)) U h):=by
 refine ag6 ?_;obtain⟨a,cap,rfl,a1⟩:=id aG;unfold fof;refine(aei au V).mono ?_;rintro r ap bX ⟨b,c,aS,rfl,A,B,a9,E,C⟩;refine aD ?_;refine bC.mk (OfJ n b c aS (.slice a (f1 l).length cap) l U h) l.length ⟨0,J,J,by unfold f1;grind,by rw[tf,show mk n (mX [])=0 from(by rw[<-PY n];exact CT λi _=>by simp[mX])];omega,A,B,E,C⟩ ?_;rintro _ _ ac Y ⟨i,rfl,aj,rfl,D,A,B,E,C⟩;rw[afQ];unfold R9;refine aD ?_;refine⟨λM=>?_,λeM=>?_⟩
 ·obtain⟨x,aY⟩:=dR M;have I:(f1 l)[i]? = some (x:Int):=by unfold f1;grind
  obtain⟨_,bQ,k3,ro,c1,Z,K,L⟩:=aG.at I;cases K;rw[hM]at L;have P:=bA x (kz aY);simp(disch:=omega)only[bl,(E bQ Z).trans L,hN I,show(x:Int)<(n:Int) by omega,seval];refine⟨?_,λh=>absurd trivial h⟩;refine(Yg J).mono ?_;rintro r aM bW ⟨rfl,K,aK⟩;rw[K,aK];refine aD ?_;refine(aej J).mono ?_;rintro r aM bW ⟨rfl,K,aK⟩;rw[K,aK];refine⟨cD _,?_⟩;have fw:bin Q .or 188 (.int .u64 (mk n (mX (l.take i)):Int)) (.int .u64 ((2 ^ x:Nat):Int)) = .ok (.int .u64 (mk n (mX (l.take (i+1))):Int)):=by
   rw[adn P,aqF (wU V) (wU V),aw5]
   congr 3
   exact CT λj _=>(ZP aY j).symm
  simp(disch:=omega)only[bl,FT,show x / 64=0 by omega,D,fw,cv (J:i<1000000000000),seval];unfold K8;refine bh (cv (J:i<1000000000000)) ?_;exact⟨_,J,i+1,rfl,J,rfl,aT _ _ _,A,B,E.set A,C⟩
 ·have:i=l.length:=J
  subst this;rw[hC]at D;exact⟨b,c,aS,rfl,A,B,D,E,C⟩
def OnJ(n:Nat)(p:Nat->al)(h:ae)(U:Nat)(m:Nat)(aF:aa X)(ac:ae)(Y:Nat):Prop :=
 ∃(q:Nat->al) (k:Nat),m=(ek n q).length/\k+(ek n q).length=(ek n p).length/\aF=[.int .u64 (mk n q:Int),(k:X)]/\ac=h/\Y=U
theorem u0(n:Nat)(p:Nat->al):(ek n p).length<=n:=by
 unfold ek
 grind
theorem arK(L:n<=63):aH Q s 183 [.int .u64 (mk n p:Int)] h U (λr ac Y=>r = .int .i64 ((ek n p).length:Int)/\ac=h/\Y=U):=by
 refine au2 ?_;refine bC.mk (OnJ n p h U) (ek n p).length ⟨p,0,rfl,J,rfl,rfl,rfl⟩ ?_;rintro _ _ _ _ ⟨q,k,rfl,C,rfl,rfl,rfl⟩;rw[arH];unfold abQ;have M:=u0 n p
 by_cases A:mk n q=0
 ·rw[A];refine ng ?_;have:ek n q=[]:=auf (Gh.1 A);rw[this]at C;rw[this];exact⟨ab,λh=>absurd h (by simp)⟩
 ·obtain⟨B,E,aK⟩:=Zg n q A;have D:(((mk n q:Nat):Int) == 0)=false:=ab
  have K:IntKind.wrap .u64 ((mk n q:Int)-1)=((mk n q-1:Nat):Int):=by rw[show((mk n q:Nat):Int)-1=((mk n q-1:Nat):Int) by omega];exact CU (by have:=wU (p:=q) (J:n<=64);omega)
  have I:bin Q .and 188 (.int .u64 ((mk n q:Nat):Int)) (.int .u64 ((mk n q-1:Nat):Int)) = .ok (.int .u64 ((mk n B:Nat):Int)):=by rw[FR (wU J) (by have:=wU (p:=q) (J:n<=64);omega),E]
  refine G0 @D @K @I (cv (J:k<1000000000000)) ?_;exact⟨_,J,B,k+1,rfl,J,rfl,rfl,rfl⟩
theorem anS(L:n<=63)(M:cr h U v j0 [mk n p]):aH Q s 111 [v] h U (λr ac Y=>r = .int .i64 ((ek n p).length:Int)/\ac=h/\Y=U):=by
 refine abP ?_;obtain⟨a,cap,rfl,K⟩:=id M;obtain⟨b,aS,ro,V,rfl,A⟩:=K (by simp);have Z:=u0 n p;unfold Rn;refine aD ?_;refine bC.mk (λm B ac Y=>ac=h/\Y=U/\((m=1/\B=[.int .i64 0,.slice (some ⟨b,0,aS⟩) 1 cap,.int .i64 1,.int .i64 0])\/(m=0/\B=[.int .i64 ((ek n p).length:Int),.slice (some ⟨b,0,aS⟩) 1 cap,.int .i64 1,.int .i64 1]))) 1 ab ?_;rintro _ _ ac Y ⟨C,I,D⟩;rw[C,I];rcases D with⟨rfl,rfl⟩|⟨rfl,rfl⟩
 ·rw[Pq];unfold J6;have A:u h b=some (.cells [.int .u64 (mk n p:Int)] ro):=A;refine bh @A ?_;refine⟨?_,ab⟩;refine(arK L).mono ?_;rintro r aM P ⟨rfl,E,aK⟩;rw[E,aK];refine aD ?_;exact⟨0,J,.inr ⟨rfl,by rw[show IntKind.wrap .i64 (0+((ek n p).length:Int))=((ek n p).length:Int) by rw[Int.zero_add];exact iY _ J];rfl⟩⟩
 ·rw[Pq];unfold J6;simp(disch:=omega)only[bl,seval]
  grind
def T5(l:aa Nat):Nat:=match l with | []=>0|x::_=>x
theorem Rs{B c2:Nat}{A:aw Nat}{rd:al}{l D:aa X}(L:l.length=n)(K:u h b=some (.cells D rd))(C:u h B=some (.cells l ro))(E:0<n)(M:n<1000000):
  dM 1 h U (.slice (some ⟨b,0,none⟩) 0 0) (.slice (some ⟨B,0,A⟩) n c2) = .ok (.val (.slice (some ⟨U,0,some 1⟩) n n) (F h U (.cells l false)) (U+1)):=by
 subst L;have I:lg h (some ⟨B,0,A⟩) (l.length.mul 1) (λnew=>g0 1 h U (some ⟨b,0,none⟩) 0 0 l.length new)=g0 1 h U (some ⟨b,0,none⟩) 0 0 l.length l:=by
  rw[show l.length.mul 1=l.length from Fg _,tn C E J]
  grind
 show lg h (some ⟨B,0,A⟩) (l.length.mul 1) (λnew=>g0 1 h U (some ⟨b,0,none⟩) 0 0 l.length new)=_;rw[I];unfold g0;rw[show Nat.ble (Nat.add 0 l.length) 0=false by
  cases C:Nat.ble (Nat.add 0 l.length) 0 with
  |false=>rfl
  |true=>have:=ma C;grind]
 rw[show(Nat.ble (Nat.mul (Nat.add 0 l.length) 1) 1000000&&Nat.ble (Nat.add 0 l.length) 1000000)=true by
  simp only[eB,tg]
  grind]
 unfold rq;simp only[v8 K];rw[show ni (Nat.mul 0 1) (nc D 0)=some [] by rw[xT,mc];rfl];show qw h U 1 (kD [] l) (0+l.length)=_;rw[kh,te,iV];exact rf J
theorem z0{P:Program}{t:TypeId}(A:m9 P t=true)(a:aw Addr)(n c:Nat):bin P .eql t (.slice a n c) (.slice none 0 0) = .ok (.bool a.isNone):=by
 show R.of "compared" (oP P t (.slice a n c) (.slice none 0 0)) _=_;unfold oP;cases a <;> simp[A,Si,nX]
theorem ag8:m9 Tryz.prog 29=true:=by kernel_rfl
theorem ag9:m9 Tryz.prog 87=true:=by kernel_rfl
theorem anT(I:cr h U v j0 [w]):aH Q s 139 [v] h U (sz w U h):=by
 refine abS ?_;obtain⟨a,cap,rfl,D⟩:=id I;obtain⟨b,aS,ro,E,rfl,A⟩:=D (by simp);have A:u h b=some (.cells [.int .u64 (w:Int)] ro):=A;unfold Rq;have C:aA U h (F h U (.cells [] false)):=aN
 simp(disch:=omega)only[bl,z0 ag9,@List.length_cons Nat,@List.length_nil Nat,seval];refine⟨λB=>(by cases B),λ_=>?_⟩;rw[Rs (n:=1)  rfl (aT _ _ _) ((C b E).trans A) J J];exact⟨U+1,1,some 1,rfl,J,J,ab,aN,J⟩
theorem FF(K:cr h U v cq l)(D:l.length<1000000):
  aH Q s 88 [v] h U (λr ac Y=>eG ac U Y r cq l/\aA U h ac/\U<=Y):=by
 refine Zj ?_;obtain⟨a,cap,rfl,E⟩:=id K;unfold P2;simp(disch:=omega)only[bl,z0 ag8,seval];refine⟨λC=>⟨?_,aN⟩,λC=>?_⟩
 ·have:l=[]:=ab
  subst this;exact⟨none,0,rfl,λh=>absurd rfl h⟩
 have B:aA U h (F h U (.cells [] false)):=aN
 rcases Jl (l=[])with e|e
 ·subst e;exact⟨⟨some ⟨U,0,none⟩,0,rfl,λh=>absurd rfl h⟩,B,J⟩
 ·obtain⟨b,aS,ro,I,rfl,A⟩:=E e;rw[hM]at A;rw[Rs  (zX _) (aT _ _ _) ((B b I).trans A) ab D];refine⟨⟨some ⟨U+1,0,some 1⟩,l.length,rfl,λ_=>⟨U+1,some 1,false,J,J,rfl,?_⟩⟩,aN,J⟩
  grind
noncomputable def HZ:Code:=(vc Tryz.prog 287).1
noncomputable def H0:Code:=(vc Tryz.prog 287).2
theorem Rt:RU Q (.int .i64 0) 287 HZ H0:=⟨by kernel_rfl,by kernel_rfl,by kernel_rfl,by kernel_rfl,by kernel_rfl⟩
theorem La(k:Nat)(p:Nat->al):ek (k+1) p=ek k p++(if p k then[k]else[]):=by
 unfold ek;rw[q6,r9]
 grind
theorem au3(C:k<=n)(h:∀i,k<=i->i<n->p i=false):ek n p=ek k p:=by
 induction n with
 |zero =>
  grind
 |succ n A =>
  by_cases e:k=n+1
  ·rw[e]
  ·rw[La,h n J J,A J (λi B D=>h i B J)];simp
structure Mq (l p:Nat) (a b:Code) (h:ae) (U:Nat) (azw:aa Int) (o:X) (aQ:aw Nat):Prop where
 c:k4 l p a b h o
 g:gY h cq o azw aQ
 b:∀c,aQ=some c->c≠l/\c≠p/\c<U
def EaJ(l p n ao xz:Nat)(q:Nat->al)(ka:X)(h:ae)(m:Nat)(aF:aa X)(ac:ae)(Y:Nat):Prop :=
 ∃(k:Nat) (o:X) (aQ:aw Nat),m=n-k/\k<=n/\aF=[.func (.yield l) ⟨[]⟩ ⟨[]⟩,.int .u64 (mk (n-k) (λi=>q (i+k)):Int),(k:X),ka,.int .i64 1,.int .i64 0]/\Mq l p HZ H0 ac Y (f1 (ek k q)) o aQ/\(∀c,aQ=some c->ao<=c)/\(∀c,c<ao->c≠l->c≠p->u ac c=u h c)/\ao<=Y
theorem arL{l p xz:Nat}{ka:X}(bv:n<=63)(aG:cr h U ka j0 [mk n q])(sE:u h xz=some (.cells [ka] false))(C:Mq l p HZ H0 h U [] (.slice none 0 0) none)(hlp:l≠p)(bA:l<U)(bg:p<U)(eS:∀b,b<U->u h b=u h b):
  aH Q s 288 [.func (.yield l) ⟨[]⟩ ⟨[]⟩,bf xz] h U (λ_ ac Y=>∃o A,Mq l p HZ H0 ac Y (f1 (ek n q)) o A/\(∀c,A=some c->U<=c)/\(∀c,c<U->c≠l->c≠p->u ac c=u h c)/\U<=Y):=by
 refine Rr ?_;obtain⟨a,cap,rfl,a1⟩:=id aG;obtain⟨b,aS,ro,aO,rfl,V⟩:=a1 (by simp);have V:u h b=some (.cells [.int .u64 (mk n q:Int)] ro):=V;unfold K9;simp(disch:=omega)only[bl,sE,@List.length_cons Nat,@List.length_nil Nat,seval];refine bC.mk (λm P ac Y=>(m=1/\P=[.func (.yield l) ⟨[]⟩ ⟨[]⟩,.slice (some ⟨b,0,aS⟩) 1 cap,.int .i64 1,.int .i64 0]/\ac=h/\Y=U)\/(m=0/\P=[.func (.yield l) ⟨[]⟩ ⟨[]⟩,.slice (some ⟨b,0,aS⟩) 1 cap,.int .i64 1,.int .i64 1]/\∃o A,Mq l p HZ H0 ac Y (f1 (ek n q)) o A/\(∀c,A=some c->U<=c)/\(∀c,c<U->c≠l->c≠p->u ac c=u h c)/\U<=Y)) 1 ab ?_;rintro m P ac Y (⟨rfl,rfl,gi,eN⟩|⟨rfl,rfl,ei⟩)
 ·rw[Gp,gi,eN];unfold CH;have Z:bin Q .shl 3 (.int .i64 0) (.int .u64 6) = .ok (.int .i64 0):=rfl;refine cQ @V @Z ?_;refine⟨?_,λh=>absurd trivial h⟩;refine bC.mk (EaJ l p n U xz q (.slice (some ⟨b,0,aS⟩) 1 cap) h) n ⟨0,.slice none 0 0,none,J,J,rfl,C,ab,ab,J⟩ ?_;rintro _ _ aM M ⟨k,o,A,rfl,hk,rfl,D,E,I,B⟩;rw[abT];unfold Qj
  by_cases au:mk (n-k) (λi=>q (i+k))=0
  ·have K:ek n q=ek k q:=au3 hk λi h1 ap=>by
    have:=Gh.1 au (i-k) J
    grind
   have aE:((mk (n-k) (λi=>q (i+k)):Nat):Int)=0:=J
   refine bh @aE ?_;exact⟨0,J,.inr ⟨rfl,rfl,o,A,by rw[K];exact D,E,I,B⟩⟩
  ·have Bu:k<n:=by
    rcases h8 k n with h|h
    ·exact h
    ·exact absurd (by rw[show n-k=0 by omega];rfl) au
   obtain⟨r,bb⟩:∃r,n-k=r+1:=⟨n-k-1,J⟩
   have aW:(((mk (n-k) (λi=>q (i+k)):Nat):Int) == 0)=false:=ab
   have aK:bin Q .and 188 (.int .u64 ((mk (n-k) (λi=>q (i+k)):Nat):Int)) (.int .u64 1) = .ok (.int .u64 (if q k then 1 else 0)):=by
    rw[show(1:Int)=((1:Nat):Int)from rfl,FR (wU J) J,Jc,bb,adp,iV]
    grind
   have cf:mk (n-k) (λi=>q (i+k)) / 2=mk (n-(k+1)) (λi=>q (i+(k+1))):=by
    rw[bb,ado,show n-(k+1)=r by omega]
    grind
   have dT:bin Q .shr 188 (.int .u64 ((mk (n-k) (λi=>q (i+k)):Nat):Int)) (.int .u64 1) = .ok (.int .u64 ((mk (n-(k+1)) (λi=>q (i+(k+1))):Nat):Int)):=by rw[O7,cf]
   cases L:q k with
   |true =>
    rw[L]at aK;refine cQ @aW @aK ?_;refine aug l1 Rt  (λ_=>rfl) (λ_=>rfl) (x:=(k:Int)) rfl rfl D.c D.g hlp J J D.b (by unfold f1;rw[gn];have:=u0 k q;omega) λbc l0 hC4 hG4 sO=>?_;refine aD ?_;unfold CG;refine cQ @dT (cv (J:k<1000000000000)) ?_;refine⟨n-(k+1),J,k+1,l0,some (M+1),rfl,J,rfl,⟨hC4,?_,ab⟩,ab,ab,J⟩
    ·rw[La,L];show gY bc cq l0 (f1 (ek k q++[k])) _;rw[show f1 (ek k q++[k])=f1 (ek k q)++[(k:Int)] by unfold f1;grind];exact hG4
    all_goals grind
   |false =>
    rw[L]at aK;have T6:bin Q .and 188 (.int .u64 ((mk (n-k) (λi=>q (i+k)):Nat):Int)) (.int .u64 1) = .ok (.int .u64 0):=aK;refine cQ @aW @T6 ?_;unfold CG;refine cQ @dT (cv (J:k<1000000000000)) ?_;refine⟨n-(k+1),J,k+1,o,A,rfl,J,rfl,⟨D.c,?_,D.b⟩,E,I,B⟩;rw[La,L];simp only[nP,ff,h6];exact D.g
 ·rw[Gp];unfold CH;refine aD ?_;exact λ_=>ei
def afT(l:aa Int)(U:Nat)(h:ae):bR:=λr ac Y=>∃aQ,gY ac cq r l aQ/\(∀c,aQ=some c->U<=c/\c<Y)/\aA U h ac/\U<=Y
theorem arM(M:n<=63)(E:cr h U v j0 [mk n q]):aH Q s 119 [v] h U (afT (f1 (ek n q)) U h):=by
 refine aeg ?_;obtain⟨a,cap,rfl,P⟩:=id E;refine Sa ?_;unfold each;refine aD ?_;refine ZM ?_;refine X3 l1 Rt λD V bE=>?_;have B:cr D (U+1+1+1) (.slice a [mk n q].length cap) j0 [mk n q]:=by
  refine(E.T (Y:=U) (ac:=D) (λc P=>?_) J).T aN J
  grind
 refine(arL M B ab ⟨V,.nil,ab⟩ J J J ab).mono ?_;rintro _ ap K ⟨o,I,A,L,Z,C⟩;refine⟨o,A.c,λx=>⟨I,A.g.T ab,λc e=>⟨ab,(A.b c e).2.2⟩,aN,J⟩⟩
 all_goals grind
def GJ(s:al)(K:bR)(cB cE cg T7:X)(au:ae)(a4:Nat):Prop:=bu T7 (K (.tuple ⟨[(.pointer none),(ad 3)]⟩) au a4) (i5 5 au 0 cg λb=>i5 2 au 5 cg λd=>aX s 114 [b,d] au a4 λe f g=>af (cp e 0) λi=>af (cp e 1) λj=>b1 [(ad 0),(ad 0),ay,ay,ay] f g λk l m=>af (aU l 5 k i) λn=>ax n 11 cg λp=>b6 122 [p] n m λq r t=>af (cU [(ad 0),(ad 0)] [(0,1,cB),(1,1,cE)]) λaI=>bo 0 cg λv=>aR 5 r v λw=>jl 5 v w (bo 7 cg λx=>bS r x λy=>cZ x y (bo 8 cg λz=>bS r z λbD=>cZ z bD (af (cU [(ad 0),(ad 0)] [(0,1,y),(1,1,bD)]) λbU=>bo 10 cg λbL=>bS r bL λbk=>cZ bL bk (af (cU [(ad 0),(ad 0),(ad 0),(ad 0),(ad 0),(ad 0),ay,(ad 0),(ad 0),(ad 0),ay,(ad 0),(ad 0),ay,ay,ay,(ad 0),(ad 0),ay,ay,ay,ay,ay,(ad 0),(.map none),(ad 0),(ad 0),(ad 0),(ad 0),(ad 0),ay,ay,ay,(ad 0),(ad 0),ay,ay,ay,(.bool false),(.bool false),ay,(.map none),(ad 0),(.map none),(.bool false)] [(0,2,aI),(2,5,w),(7,2,bU),(9,1,bk),(10,1,q),(23,1,(ad 1)),(25,1,(ad 1))]) λbV=>bI bV r t λca bO cM=>bo 0 cg λcG=>ax bO 4 cG λdh=>aX s 88 [dh] bO cM λey am an=>af (bx ca) λez=>bo 2 ez λf9=>bo 4 f9 λgw=>af (aU am 1 gw ey) λgl=>aR 5 gl k λhT=>ax gl 7 cg λgx=>ax gl 8 cg λlC=>aX s 123 [hT,gx,lC,cB,cE] gl an λlD ox qd=>af (bx ca) λch=>bo 11 ch λr3=>af (aU ox 5 r3 lD) λbe=>af (bx ca) λl3=>i5 5 be 11 l3 λga=>aX s 124 [ga] be qd λbi xw pa=>af (bx ca) λlE=>bo 16 lE λjz=>af (aU xw 6 jz bi) λvO=>dS (.ok .map) vO pa λaQ uq eO=>dS (.ok .map) uq eO λvP qe kN=>dS (.ok .map) qe kN λVy Vz fQ=>af (bx ca) λp8=>bo 24 p8 λVA=>af (aU Vz 1 VA aQ) λqb=>af (bx ca) λgt=>bo 41 gt λgV=>af (aU qb 1 gV vP) λgj=>af (bx ca) λs5=>bo 43 s5 λoq=>af (aU gj 1 oq Vy) λEE=>bw .eql 3 cE (ad 0) (bo 0 cg λk7=>ax EE 1 k7 λcH=>ax EE 7 cg λoi=>b6 126 [cH,oi,cB] EE fQ λaC9 c3 aDa=>bo 7 cg λVB=>bS c3 VB λVC=>cZ VB VC (b9 cB λcs=>b6 126 [cH,VC,cs] c3 aDa λaDb aB8 oj=>bo 0 cg λnF=>aR 5 aB8 nF λdG=>jl 5 nF dG (b6 125 [dG,aC9,aDb] aB8 oj λic VD aDc=>af (bx ca) λaDd=>bo 28 aDd λaDe=>af (aU VD 5 aDe ic) λVq=>af (bx ca) λaDf=>i5 5 Vq 28 aDf λaDg=>af (bx ca) λaDh=>bo 33 aDh λaDi=>af (aU Vq 5 aDi aDg) λaB0=>aX s 127 [ca,(ad 0),(.bool false)] aB0 aDc λaEp gu Ev=>K (.tuple ⟨[ca,(ad 0)]⟩) gu Ev) 2 [c3,EE]) 1 [EE]) (K (.tuple ⟨[ca,(ad 0)]⟩) EE fQ)) 1 [n]) 1 [n]) 1 [n]) 1 [n])
def aha:gv:=λs ah t1 t2 h U K=>bI ah h U λa b c=>aR 12 b a λd=>aX s 121 [d] b c λe f g=>lA e (K (.tuple ⟨[(.pointer none),e]⟩) f g) (cF t1 (ad 0) (GJ s K t1 t2 a (.bool true) f g) (ax f 7 a λl=>bw .geq 3 t1 l (GJ s K t1 t2 a (.bool true) f g) (cF t2 (ad 0) (GJ s K t1 t2 a (.bool true) f g) (ax f 8 a λp=>bH .geq 3 t2 p λq=>(GJ s K t1 t2 a q f g)))))
theorem axH:gF 59 aha:=gL []
def Ru(s:al)(K:bR)(cB cE cg df d8 lu sM:X)(au:ae)(a4:Nat):Prop:=bu sM (af (cU [(ad 0),(ad 0),ay,ay,ay] []) λa=>af (cU [(ad 0),(ad 0)] []) λb=>af (cU [(ad 0),(ad 0)] []) λc=>aX s 203 [a,b,c] au a4 λd e f=>af (aU e 5 lu d) λg=>aR 5 g lu λi=>K i g f) (ax au 0 d8 λk=>b6 204 [k,cB,cg] au a4 λl m n=>bo 1 d8 λo=>bS m o λp=>cZ o p (b6 204 [p,cE,df] m n λq r t=>aR 5 r d8 λaI=>jl 5 d8 aI (b6 203 [aI,l,q] r t λv w x=>af (aU w 5 lu v) λy=>aR 5 y lu λz=>K z y x) 2 [m,au]) 1 [au])
def ahb:xv:=λs ah t1 t2 t3 fY h U K=>bI ah h U λa b c=>b1 [(ad 0),(ad 0),ay,ay,ay] b c λd e f=>aR 5 e a λg=>aX s 201 [g] e f λi j k=>af (dv .not i) λl=>bu l (Ru s K t1 t2 t3 fY a d (.bool true) j k) (aX s 202 [t1,t2,t3,fY] j k λm n o=>af (dv .not m) λp=>(Ru s K t1 t2 t3 fY a d p n o))
theorem axI:zr 123 ahb:=Bm []
def Sb:aa (aa Nat):=[[2,3,20,21,22]]
def CY(s:al)(N:aP)(aE:aP)(R:aP)(cE cg d8 D6 sM Mr:X)(au:ae)(a4:Nat):Prop:=ax au 4 cg λb=>ax au 1 d8 λd=>dS (eV 1 [(ad 0)] [(0,1,d)]) au a4 λe f g=>dD (dU (dM 1 f g b e)) λi j k=>bo 4 cg λl=>af (aU j 1 l i) λm=>ax m 5 cg λo=>ax m 2 d8 λq=>dS (eV 1 [(ad 0)] [(0,1,q)]) m k λr t aI=>dD (dU (dM 1 t aI o r)) λv w x=>bo 5 cg λy=>af (aU w 1 y v) λz=>ax z 3 cg λbU=>ax z 2 cg λbk=>cO bk λbV=>ax z 4 cg λbO=>cO bO λcM=>hJ 1 bU bV λcG=>af (aU z 1 cG cM) λds=>b9 Mr λdh=>N [cE,cg,D6,sM,dh] ds x
def An(s:al)(N:aP)(aE:aP)(R:aP)(cE cg d8 D6 sM Mr Ms:X)(au:ae)(a4:Nat):Prop:=bu Ms (ax au 2 cg λb=>ax au 0 d8 λd=>dS (eV 1 [(ad 0)] [(0,1,d)]) au a4 λe f g=>dD (dU (dM 1 f g b e)) λi j k=>bo 2 cg λl=>af (aU j 1 l i) λm=>ax m 3 cg λo=>dS (eV 1 [(ad 0)] [(0,1,(ad 0))]) m k λp q r=>dD (dU (dM 1 q r o p)) λt aI v=>bo 3 cg λw=>af (aU aI 1 w t) λx=>(CY s N aE R cE cg d8 D6 sM Mr x v)) (CY s N aE R cE cg d8 D6 sM Mr au a4)
def aek(s:al)(a2 a3 jM iE eJ:X)(h:ae)(U:Nat)(N:aP)(aE:aP)(R:aP):Prop:=cF eJ iE (hw 3 h 3 jM eJ λc=>b1 [(ad 0),(ad 0),(ad 0)] h U λd e f=>af (aU e 3 d c) λg=>ax g 2 a3 λj=>cO j λk=>bw .eql 3 k (ad 0) (An s N aE R a2 a3 d jM iE eJ (.bool true) g f) (ax g 2 a3 λn=>bH .sub 3 k (ad 1) λo=>dL g 1 n o λq=>ax g 0 d λt=>bH .neq 3 q t λaI=>(An s N aE R a2 a3 d jM iE eJ aI g f))) (aE [a2,a3,jM,iE,eJ] h U)
def ahc:cS:=λs ah h U K=>bI ah h U λa b c=>b1 [(ad 0),(ad 0),ay,ay,ay,ay] b c λd e f=>aX s 205 [] e f λg i j=>b1 [(ad 0),(ad 0),ay,ay,ay,ay] i j λk l m=>af (aU l 6 k g) λn=>aR 5 n a λo=>aX s 201 [o] n m λp q r=>af (dv .not p) λt=>bu t (aR 6 q k λaI=>af (aU q 6 d aI) λv=>aR 6 v d λw=>K w v r) (ax q 0 a λy=>bo 0 k λz=>af (aU q 1 z y) λbD=>bo 1 a λbU=>bS bD bU λbL=>cZ bU bL (bo 1 k λbk=>af (aU bD 1 bk bL) λbV=>aR 5 bV a λca=>aX s 207 [ca] bV r λbO cM cG=>aX s 206 [bO] cM cG λds dh ey=>cO ds λam=>bC (bN Q s Sb 124 0) [d,k,ds,am,(ad 0)] dh ey [(0,λan ez f9=>aR 6 ez (a8 an 1) λgw=>af (aU ez 6 (a8 an 0) gw) λgl=>aR 6 gl (a8 an 0) λhT=>K hT gl f9)] (λ_ _ _=>False)) 1 [q])
theorem au4{A B:X}:bN Q s Sb 124 0 [a2,a3,A,B,eJ] h U N [(0,aE)] R=aek s a2 a3 A B eJ h U N aE R:=by kernel_rfl
theorem axJ:cT 124 ahc:=cV Sb
def FY(s:al)(K:bR)(cE cg df eh y25:X)(au:ae)(a4:Nat):Prop:=bu y25 (af (cU [(ad 0),(ad 0),ay,ay,ay] []) λa=>af (aU au 5 eh a) λb=>aR 5 b eh λc=>K c b a4) (bS au df λd=>af (cU [(ad 0),(ad 0),ay,ay,ay] [(0,1,d),(1,1,cE)]) λe=>b1 [(ad 0),(ad 0),ay,ay,ay] au a4 λf g i=>af (aU g 5 f e) λj=>aR 5 j f λk=>bS j df λl=>bH .sub 3 cE l λm=>af (.ok (.func (.func 209) ⟨[]⟩ ⟨[cg,df]⟩)) λn=>aX s 208 [k,m,n] j i λo p q=>af (aU p 5 eh o) λr=>aR 5 r eh λt=>K t r q)
def ael:gv:=λs ah t1 t2 h U K=>bI ah h U λa b c=>bI t1 b c λd e f=>b1 [(ad 0),(ad 0),ay,ay,ay] e f λg i j=>aR 5 i a λk=>aX s 187 [k] i j λl m n=>lA l (FY s K t2 a d g (.bool true) m n) (bS m d λp=>cF p (ad 0) (FY s K t2 a d g (.bool true) m n) (bS m d λr=>cF t2 r (FY s K t2 a d g (.bool true) m n) (ax m 1 a λv=>bH .gtr 3 t2 v λw=>(FY s K t2 a d g w m n))))
theorem arN:gF 125 ael:=gL []
def axK:gv:=λs ah t1 t2 h U K=>aX s 211 [ah,t1] h U λa b c=>af (dv .not a) λd=>bu d (K (ad 0) b c) (af (min2 false t2 (ad 0)) λe=>af (min2 true e t1) λf=>bH .mul 3 f ah λg=>bH .quo 3 g t1 λi=>K i b c)
theorem au5:gF 126 axK:=gL []
def aem:gv:=λs ah t1 t2 h U K=>af (cU [(ad 0),(ad 0),(ad 0),(ad 0),(ad 0),(ad 0),ay,ay,ay,(ad 0),(.bool false)] [(0,1,(ad 4)),(4,1,t1),(10,1,t2)]) λa=>b1 [(ad 0),(ad 0),(ad 0),(ad 0),(ad 0),(ad 0),ay,ay,ay,(ad 0),(.bool false)] h U λb c d=>af (aU c 11 b a) λe=>af (dv .not t2) λf=>bu f (af (bx ah) λg=>i5 5 e 2 g λj=>af (bx ah) λk=>i5 5 e 33 k λm=>b6 212 [j,m,t1] e d λn o p=>bo 9 b λq=>af (aU o 1 q n) λr=>af (bx ah) λt=>bo 38 t λaI=>af (aU r 1 aI (.bool true)) λv=>aR 11 v b λw=>aX s 213 [ah,w] v p λx y z=>K (.tuple ⟨[]⟩) y z) (af (bx ah) λbD=>bo 38 bD λbU=>af (aU e 1 bU (.bool true)) λbL=>aR 11 bL b λbk=>aX s 213 [ah,bk] bL d λbV ca bO=>K (.tuple ⟨[]⟩) ca bO)
theorem arO:gF 127 aem:=gL []
def Pr:aa (aa Nat):=[[1,2,60,61]]
def Yh(s:al)(aB a2 Mt D7:X)(h:ae)(U:Nat)(N:aP)(aE:aP)(R:aP):Prop:=cF D7 Mt (ax h 3 aB λc=>ax h 2 aB λe=>dL h 1 e D7 λg=>ax h 2 aB λj=>b9 D7 λk=>dL h 1 j k λm=>af (gS 1 c (some g) (some m) none) λn=>ax h 1 aB λp=>b6 291 [n,p] h U λq r t=>af (dv .not q) λaI=>bu aI (R [aB,(.bool false),Mt,D7] r t) (b9 D7 λv=>N [aB,a2,Mt,v] r t)) (aE [aB,a2,Mt,D7] h U)
def JK(s:al)(K:bR)(cB T8:X)(au:ae)(a4:Nat):Prop:=bu T8 (K (.bool false) au a4) (ax au 0 cB λb=>bC (bN Q s Pr 201 0) [cB,(.bool false),b,(ad 0)] au a4 [(0,λc d e=>K (.bool true) d e)] (λf g i=>K (a8 f 1) g i))
def Cm(s:al)(K:bR)(cB cg y37:X)(au:ae)(a4:Nat):Prop:=bu y37 (K (.bool false) au a4) (ax au 2 cB λb=>dL au 1 b (ad 0) λd=>bw .neq 3 d (ad 0) (JK s K cB (.bool true) au a4) (ax au 2 cB λg=>ax au 0 cB λj=>dL au 1 g j λl=>bw .neq 3 l cg (JK s K cB (.bool true) au a4) (ax au 2 cB λo=>aX s 290 [o] au a4 λp q r=>af (dv .not p) λt=>(JK s K cB t q r))))
def abV:cS:=λs ah h U K=>bI ah h U λa b c=>ax b 3 a λe=>cO e λf=>ax b 0 a λi=>aX s 289 [i,(ad 4096)] b c λj k l=>af (dv .not j) λm=>bu m (Cm s K a f (.bool true) k l) (ax k 1 a λo=>aX s 289 [o,(ad 4096)] k l λp q r=>af (dv .not p) λt=>bu t (Cm s K a f (.bool true) q r) (ax q 2 a λv=>cO v λw=>ax q 0 a λy=>b9 y λz=>bw .neq 3 w z (Cm s K a f (.bool true) q r) (ax q 4 a λbL=>cO bL λbk=>bw .neq 3 bk f (Cm s K a f (.bool true) q r) (bH .gtr 3 f (ad 65536) λca=>(Cm s K a f ca q r)))))
theorem akX{A B:X}:bN Q s Pr 201 0 [aB,a2,A,B] h U N [(0,aE)] R=Yh s aB a2 A B h U N aE R:=by kernel_rfl
theorem anU:cT 201 abV:=cV Pr
def axL:s2:=λs ah t1 t2 t3 h U K=>aX s 292 [ah] h U λa b c=>bu a (aX s 292 [t1] b c λd e f=>bu d (bw .geq 3 t2 (ad 0) (cF t2 ah (bw .geq 3 t3 (ad 0) (bH .lss 3 t3 t1 λk=>K k e f) (K (.bool false) e f)) (K (.bool false) e f)) (K (.bool false) e f)) (K (.bool false) e f)) (K (.bool false) b c)
theorem au6:uo 202 axL:=vw []
def GK:aa (aa Nat):=[[3,6,7,8,9,10,11,31,32],[3,6,7,8,9,10,11,12,31,32,39,40,41]]
def Ql(s:al)(N:aP)(aK:aP)(R:aP)(cg eh fe hm qf lu Mp sL y14 y31 y32 Mu y40 Ms y56:X)(au:ae)(a4:Nat):Prop:=bu y56 (ax au 0 y14 λb=>bH .sub 3 b qf λc=>ax au 1 y14 λe=>af (cU [(ad 0),(ad 0),(ad 0)] [(0,1,sL),(1,1,c),(2,1,e)]) λf=>dS (eV 1 [(ad 0),(ad 0),(ad 0)] [(0,3,f)]) au a4 λg i j=>dD (dU (dM 3 i j Mp g)) λk l m=>b9 Ms λn=>N [cg,eh,fe,hm,qf,lu,k,sL,y31,y32,Mu,y40,n] l m) (b9 Ms λo=>N [cg,eh,fe,hm,qf,lu,Mp,sL,y31,y32,Mu,y40,o] au a4)
def abW(s:al)(a3 bm a6 br c7 dk d3 dI i4 ge Mv xb vA:X)(h:ae)(U:Nat)(N:aP)(aK:aP)(R:aP):Prop:=cF vA xb (hw 2 h 2 Mv vA λc=>b1 [(ad 0),(ad 0)] h U λd e f=>af (aU e 2 d c) λg=>ax g 0 d λj=>bw .geq 3 j c7 (ax g 0 d λm=>bH .sub 3 m c7 λn=>bH .lss 3 n dk λo=>(Ql s N aK R a3 bm a6 br c7 dk d3 dI d i4 ge Mv xb vA o g f)) (Ql s N aK R a3 bm a6 br c7 dk d3 dI d i4 ge Mv xb vA (.bool false) g f)) (aK [a3,bm,a6,br,c7,dk,d3,dI,i4,ge,Mv,xb,vA] h U)
def abX(s:al)(a3 bm a6 br c7 dk d3 i4 ge:X)(h:ae)(U:Nat)(N:aP)(aE:aP)(R:aP):Prop:=cF ge i4 (aR 5 h a3 λb=>lB a6 ge λc=>aX s 295 [b,c] h U λd e f=>cO d λg=>bC (bN Q s GK 203 1) [a3,bm,a6,br,c7,dk,d3,ge,i4,ge,d,g,(ad 0)] e f [(2,λi j k=>b9 (a8 i 9) λl=>N [(a8 i 0),(a8 i 1),(a8 i 2),(a8 i 3),(a8 i 4),(a8 i 5),(a8 i 6),(a8 i 8),l] j k)] (λ_ _ _=>False)) (aE [a3,bm,a6,br,c7,dk,d3,i4,ge] h U)
def afU:gv:=λs ah t1 t2 h U K=>bI ah h U λa b c=>bI t1 b c λd e f=>bI t2 e f λg i j=>b1 [(ad 0),(ad 0),ay,ay,ay] i j λk l m=>aR 5 l a λn=>aX s 293 [n] l m λo p q=>af (aU p 5 a o) λr=>aR 2 r d λt=>ax r 0 a λv=>aX s 294 [t,v] r q λw x y=>af (cp w 0) λz=>af (cp w 1) λbD=>aR 2 x g λbU=>ax x 1 a λbk=>aX s 294 [bU,bk] x y λbV ca bO=>af (cp bV 0) λcM=>af (cp bV 1) λcG=>bC (bN Q s GK 203 0) [a,k,z,bD,cM,cG,ay,bD,(ad 0)] ca bO [(0,λds dh ey=>aX s 281 [(a8 ds 3),(a8 ds 5),(a8 ds 6)] dh ey λam an ez=>af (aU an 5 (a8 ds 1) am) λf9=>aR 5 f9 (a8 ds 1) λgw=>K gw f9 ez)] (λ_ _ _=>False)
theorem arP{B A C:X}:bN Q s GK 203 1 [a3,bm,a6,br,c7,dk,d3,dI,i4,ge,B,A,C] h U N [(2,aK)] R=abW s a3 bm a6 br c7 dk d3 dI i4 ge B A C h U N aK R:=by kernel_rfl
theorem arQ:bN Q s GK 203 0 [a3,bm,a6,br,c7,dk,d3,i4,ge] h U N [(0,aE)] R=abX s a3 bm a6 br c7 dk d3 i4 ge h U N aE R:=by kernel_rfl
theorem au7:gF 203 afU:=gL GK
def abY:gv:=λs ah t1 t2 h U K=>b1 [(ad 0),(ad 0)] h U λa b c=>aX s 126 [ah,t1,t2] b c λd e f=>b9 t2 λg=>aX s 126 [ah,t1,g] e f λi j k=>af (cU [(ad 0),(ad 0)] [(0,1,d),(1,1,i)]) λl=>af (aU j 2 a l) λm=>aR 2 m a λn=>K n m k
theorem anV:gF 204 abY:=gL []
def aen:Vv:=λs h U K=>b1 [(ad 0),(ad 0),ay,ay,ay,ay] h U λa b c=>dS (eV 1 [(ad 0)] [(0,1,(ad 0))]) b c λd e f=>af (cU [(ad 0),(ad 0),ay,ay,ay,ay] [(3,1,d)]) λg=>af (aU e 6 a g) λi=>aR 6 i a λj=>K j i f
theorem arR:aB3 205 aen:=zf0 []
def Fx:aa (aa Nat):=[[1,3,12,13],[1,3,4,6,12,13,22,23,24]]
def WL(s:al)(aB a3 aZ bm dI e5 eJ j5 fT:X)(h:ae)(U:Nat)(N:aP)(aK:aP)(R:aP):Prop:=cF fT j5 (dL h 1 eJ fT λc=>dL h 1 bm fT λe=>af (cU [(ad 0),(ad 0),(ad 0)] [(0,1,aZ),(1,1,c),(2,1,e)]) λf=>dS (eV 1 [(ad 0),(ad 0),(ad 0)] [(0,3,f)]) h U λg i j=>dD (dU (dM 3 i j a3 g)) λk l m=>b9 fT λn=>N [aB,k,aZ,bm,dI,e5,eJ,j5,n] l m) (aK [aB,a3,aZ,bm,dI,e5,eJ,j5,fT] h U)
def WM(s:al)(aB a3 dI e5:X)(h:ae)(U:Nat)(N:aP)(aE:aP)(R:aP):Prop:=cF e5 dI (aR 5 h aB λb=>aX s 296 [b,e5] h U λc d e=>af (cp c 0) λf=>af (cp c 1) λg=>cO f λi=>bC (bN Q s Fx 206 1) [aB,a3,e5,g,dI,e5,f,i,(ad 0)] d e [(2,λj k l=>b9 (a8 j 5) λm=>N [(a8 j 0),(a8 j 1),(a8 j 4),m] k l)] (λ_ _ _=>False)) (aE [aB,a3,dI,e5] h U)
def Yi:cS:=λs ah h U K=>bI ah h U λa b c=>aR 5 b a λd=>aX s 293 [d] b c λe f g=>af (aU f 5 a e) λi=>ax i 0 a λk=>bC (bN Q s Fx 206 0) [a,ay,k,(ad 0)] i g [(0,λl m n=>K (a8 l 1) m n)] (λ_ _ _=>False)
theorem aiC{A:X}:bN Q s Fx 206 1 [aB,a3,aZ,bm,dI,e5,eJ,A,fT] h U N [(2,aK)] R=WL s aB a3 aZ bm dI e5 eJ A fT h U N aK R:=by kernel_rfl
theorem aiD:bN Q s Fx 206 0 [aB,a3,dI,e5] h U N [(0,aE)] R=WM s aB a3 dI e5 h U N aE R:=by kernel_rfl
theorem ajj:cT 206 Yi:=cV Fx
def Qm:aa (aa Nat):=[[1,2,3,10,11,12]]
def ZQ(s:al)(aB a2 a3 dk d3 dI:X)(h:ae)(U:Nat)(N:aP)(aE:aP)(R:aP):Prop:=cF dI d3 (hw 3 h 3 dk dI λc=>b1 [(ad 0),(ad 0),(ad 0)] h U λd e f=>af (aU e 3 d c) λg=>ax g 1 d λj=>ax g 0 d λl=>ax g 2 d λn=>af (cU [(ad 0),(ad 0),(ad 0)] [(0,1,j),(1,1,l),(2,1,n)]) λo=>hJ 3 a3 dI λp=>af (aU g 3 p o) λq=>b9 dI λr=>N [aB,a2,a3,dk,d3,r] q f) (aE [aB,a2,a3,dk,d3,dI] h U)
def aeo:cS:=λs ah h U K=>bI ah h U λa b c=>b1 [(ad 0),(ad 0),ay,ay,ay] b c λd e f=>aR 5 e a λg=>aX s 293 [g] e f λi j k=>af (aU j 5 a i) λl=>aR 5 l a λm=>aX s 206 [m] l k λn o p=>cO n λq=>bC (bN Q s Qm 207 0) [a,d,n,n,q,(ad 0)] o p [(0,λr t aI=>aX s 297 [(a8 r 2),(.func (.func 298) #[] #[])] t aI λv w x=>ax w 1 (a8 r 0) λz=>ax w 0 (a8 r 0) λbU=>aX s 281 [z,bU,(a8 r 2)] w x λbL bk bV=>af (aU bk 5 (a8 r 1) bL) λca=>aR 5 ca (a8 r 1) λbO=>K bO ca bV)] (λ_ _ _=>False)
theorem anW:bN Q s Qm 207 0 [aB,a2,a3,dk,d3,dI] h U N [(0,aE)] R=ZQ s aB a2 a3 dk d3 dI h U N aE R:=by kernel_rfl
theorem arS:cT 207 aeo:=cV Qm
def OP:aa (aa Nat):=[[1,2,6,7,8,18,19]]
def Xg(s:al)(aB a2 bm a6 br ls nt:X)(h:ae)(U:Nat)(N:aP)(aE:aP)(R:aP):Prop:=cF nt ls (fh Q s (hP h U [nt] a2) λb c d=>af (cp b 0) λe=>af (cp b 1) λf=>af (cp b 2) λg=>ax c 2 a6 λj=>dS (eV 1 [(ad 0)] [(0,1,e)]) c d λk l m=>dD (dU (dM 1 l m j k)) λn o p=>m<=p/\bo 3 a6 λq=>bS o q λr=>cZ q r (dS (eV 1 [(ad 0)] [(0,1,f)]) o p λt aI v=>dD (dU (dM 1 aI v r t)) λw x y=>v<=y/\bo 2 a6 λz=>af (aU x 1 z n) λbD=>bo 3 a6 λbU=>af (aU bD 1 bU w) λbL=>bu g (dS (eV 1 [(ad 0)] [(0,1,nt)]) bL y λbk bV ca=>dD (dU (dM 1 bV ca br bk)) λbO cM cG=>b9 nt λds=>N [aB,a2,bm,a6,bO,ls,ds] cM cG) (b9 nt λdh=>N [aB,a2,bm,a6,br,ls,dh] bL y)) 1 [c]) (aE [aB,a2,bm,a6,br,ls,nt] h U)
def ZR:gv:=λs ah t1 t2 h U K=>bI ah h U λa b c=>b1 [(ad 0),(ad 0),ay,ay,ay] b c λd e f=>ax e 0 a λi=>ax e 1 a λk=>af (cU [(ad 0),(ad 0),ay,ay,ay] [(0,1,i),(1,1,k)]) λl=>b1 [(ad 0),(ad 0),ay,ay,ay] e f λm n o=>af (aU n 5 m l) λp=>bC (bN Q s OP 208 0) [t1,t2,d,m,ay,t1,(ad 0)] p o [(0,λq r t=>aX s 108 [(a8 q 0),(a8 q 4)] r t λaI v w=>bo 4 (a8 q 3) λx=>af (aU v 1 x aI) λy=>aR 5 y (a8 q 3) λz=>af (aU y 5 (a8 q 2) z) λbD=>aR 5 bD (a8 q 2) λbU=>K bU bD w)] (λ_ _ _=>False)
theorem ajk{A B:X}:bN Q s OP 208 0 [aB,a2,bm,a6,br,A,B] h U N [(0,aE)] R=Xg s aB a2 bm a6 br A B h U N aE R:=by kernel_rfl
theorem akY:gF 208 ZR:=gL OP
def abZ:gv:=λs ah t1 t2 h U K=>aR 5 h t1 λa=>bS h t2 λb=>lB b ah λc=>aX s 210 [a,c] h U λd e f=>af (cp d 0) λg=>af (cp d 1) λi=>K (.tuple ⟨[g,(ad (-1)),i]⟩) e f
theorem anX:gF 209 abZ:=gL []
def ZS(s:al)(K:bR)(au:ae)(a4:Nat):Prop:=K (.tuple ⟨[(ad 4611686018427387904),(.bool false)]⟩) au a4
def Cv(s:al)(K:bR)(cE eh D6:X)(au:ae)(a4:Nat):Prop:=bu D6 (K (.tuple ⟨[(ad 1),(.bool true)]⟩) au a4) (bu eh (K (.tuple ⟨[(ad 0),eh]⟩) au a4) (ax au 0 cE λb=>bw .eql 40 b (ad 4) (K (.tuple ⟨[(ad 0),eh]⟩) au a4) (ax au 0 cE λe=>bw .eql 40 e (ad 1) (K (.tuple ⟨[(ad (-1)),(.bool false)]⟩) au a4) (ZS s K au a4))))
def aep:c0:=λs ah t1 h U K=>bI ah h U λa b c=>ax b 2 a λe=>bH .eql 3 t1 e λf=>ax b 0 a λi=>bw .eql 40 i (ad 3) (K (.tuple ⟨[t1,(.bool true)]⟩) b c) (ax b 0 a λl=>bw .eql 40 l (ad 5) (K (.tuple ⟨[(ad 0),(.bool false)]⟩) b c) (ax b 0 a λo=>bw .eql 40 o (ad 4) (Cv s K a f f b c) (Cv s K a f (.bool false) b c)))
theorem arT:c4 210 aep:=c5 []
def afV:c0:=λs ah t1 h U K=>bw .geq 3 ah (ad 0) (bw .leq 3 ah (ad 4096) (aX s 220 [t1] h U λc d e=>K c d e) (K (.bool false) h U)) (K (.bool false) h U)
theorem au8:c4 211 afV:=c5 []
def Rv:aa (aa Nat):=[[7,24,25,26]]
def ab0(s:al)(a6 fT ns mv:X)(h:ae)(U:Nat)(N:aP)(aW:aP)(R:aP):Prop:=cF mv ns (dL h 1 fT mv λc=>bw .eql 2 c (ad 0) (b9 a6 λe=>b9 mv λf=>N [e,fT,ns,f] h U) (b9 mv λg=>N [a6,fT,ns,g] h U)) (aW [a6,fT,ns,mv] h U)
def afW:gv:=λs ah t1 t2 h U K=>bI ah h U λa b c=>bI t1 b c λd e f=>aR 5 e a λg=>aR 5 e d λi=>aX s 299 [g,i] e f λj k l=>af (aU k 5 d j) λm=>ax m 0 a λo=>bw .eql 40 o (ad 4) (ax m 3 a λr=>bw .geq 3 t2 r (K (ad 0) m l) (ax m 4 d λv=>aX s 111 [v] m l λw x y=>K w x y)) (bw .eql 40 o (ad 5) (ax m 2 d λbU=>cO bU λbL=>bC (bN Q s Rv 212 0) [(ad 0),bU,bL,(ad 0)] m l [(1,λbk bV ca=>K (a8 bk 0) bV ca)] (λ_ _ _=>False)) (ax m 4 d λcM=>aX s 111 [cM] m l λcG ds dh=>K cG ds dh))
theorem arU{A:aP}:bN Q s Rv 212 0 [a6,fT,ns,mv] h U N [(1,A)] R=ab0 s a6 fT ns mv h U N A R:=by kernel_rfl
theorem au9:gF 212 afW:=gL Rv
def afX:c0:=λs ah t1 h U K=>bI t1 h U λa b c=>af (bx ah) λd=>bo 0 d λe=>ax b 0 e λg=>af (bx ah) λi=>bo 0 i λj=>ax b 1 j λl=>b6 219 [ah,g,l] b c λm n o=>bo 1 a λp=>af (aU n 1 p m) λq=>af (bx ah) λr=>ax q 22 r λaI=>aR 11 q a λv=>dS (eV 1 [(ad 0),(ad 0),(ad 0),(ad 0),(ad 0),(ad 0),ay,ay,ay,(ad 0),(.bool false)] [(0,11,v)]) q o λw x y=>dD (dU (dM 11 x y aI w)) λz bD bU=>y<=bU/\af (bx ah) λbL=>bo 22 bL λbk=>af (aU bD 1 bk z) λbV=>K (.tuple ⟨[]⟩) bV bU
theorem ava:c4 213 afX:=c5 []
def Rw:cS:=λs ah h U K=>kd ah (ad 0) (bH .leq 3 ah (ad 8) λb=>K b h U) (K (.bool false) h U)
theorem ab1:cT 220 Rw:=cV []
def Cn(s:al)(K:bR)(cz cB cE T9:X)(au:ae)(a4:Nat):Prop:=bu T9 (K (ad (-1)) au a4) (bH .mul 3 cB cz λa=>lB a cE λb=>K b au a4)
def arV:gv:=λs ah t1 t2 h U K=>aX s 220 [ah] h U λa b c=>af (dv .not a) λd=>bu d (Cn s K ah t1 t2 (.bool true) b c) (cF t1 (ad 0) (Cn s K ah t1 t2 (.bool true) b c) (bw .geq 3 t1 (ad 8) (Cn s K ah t1 t2 (.bool true) b c) (cF t2 (ad 0) (Cn s K ah t1 t2 (.bool true) b c) (bH .geq 3 t2 ah λi=>(Cn s K ah t1 t2 i b c)))))
theorem anY:gF 311 arV:=gL []
def ZT:c0:=λs ah t1 h U K=>bw .geq 3 ah (ad 0) (bH .leq 3 ah t1 λb=>K b h U) (K (.bool false) h U)
theorem akZ:c4 289 ZT:=c5 []
def OQ:aa (aa Nat):=[[0,2,3]]
def Xh(s:al)(aC a2 a3:X)(h:ae)(U:Nat)(N:aP)(aE:aP)(R:aP):Prop:=kd a3 (ad 0) (dL h 1 aC a3 λc=>bH .sub 3 a3 (ad 1) λd=>dL h 1 aC d λf=>b6 369 [c,f] h U λg i j=>bu g (R [aC,(.bool false),a3] i j) (bH .sub 3 a3 (ad 1) λk=>N [aC,a2,k] i j)) (aE [aC,a2,a3] h U)
def ZU:cS:=λs ah h U K=>cO ah λa=>bH .sub 3 a (ad 1) λb=>bC (bN Q s OQ 290 0) [ah,(.bool false),b] h U [(0,λc d e=>K (.bool true) d e)] (λf g i=>K (a8 f 1) g i)
theorem ajl:bN Q s OQ 290 0 [aC,a2,a3] h U N [(0,aE)] R=Xh s aC a2 a3 h U N aE R:=by kernel_rfl
theorem ak0:cT 290 ZU:=cV OQ
def Rx:aa (aa Nat):=[[0,1,4,7,8,9]]
def ab2(s:al)(aC aB aZ a6 br c7:X)(h:ae)(U:Nat)(N:aP)(aE:aP)(R:aP):Prop:=cF c7 br (dL h 1 a6 c7 λc=>bH .sub 3 aB (ad 1) λd=>aX s 289 [c,d] h U λe f g=>af (dv .not e) λi=>bu i (R [aC,aB,(.bool false),a6,br,c7] f g) (kd c7 (ad 0) (bH .sub 3 c7 (ad 1) λk=>dL f 1 aC k λm=>bw .geq 3 m c (R [aC,aB,(.bool false),a6,br,c7] f g) (b9 c7 λo=>N [aC,aB,aZ,a6,br,o] f g)) (b9 c7 λp=>N [aC,aB,aZ,a6,br,p] f g))) (aE [aC,aB,aZ,a6,br,c7] h U)
def afY:c0:=λs ah t1 h U K=>cO ah λa=>bC (bN Q s Rx 291 0) [ah,t1,(.bool false),ah,a,(ad 0)] h U [(0,λb c d=>K (.bool true) c d)] (λe f g=>K (a8 e 2) f g)
theorem arW:bN Q s Rx 291 0 [aC,aB,aZ,a6,br,c7] h U N [(0,aE)] R=ab2 s aC aB aZ a6 br c7 h U N aE R:=by kernel_rfl
theorem avb:c4 291 afY:=c5 Rx
def afZ:cS:=λs ah h U K=>bw .geq 3 ah (ad 1) (bH .leq 3 ah (ad 8) λb=>K b h U) (K (.bool false) h U)
theorem avc:cT 292 afZ:=cV []
def aeq:cS:=λs ah h U K=>bI ah h U λa b c=>b1 [(ad 0),(ad 0),ay,ay,ay] b c λd e f=>aR 5 e a λg=>aX s 201 [g] e f λi j k=>bu i (aR 5 j a λl=>af (aU j 5 d l) λm=>aR 5 m d λn=>K n m k) (aX s 367 [(ad 0),(ad 0)] j k λo p q=>af (aU p 5 d o) λr=>aR 5 r d λt=>K t r q)
theorem arX:cT 293 aeq:=cV []
def ZV:c0:=λs ah t1 h U K=>bI ah h U λa b c=>af (im (.array 2 1) a (ad 0)) λd=>bS b d λe=>af (min2 false e (ad 0)) λf=>af (im (.array 2 1) a (ad 1)) λg=>bS b g λi=>af (min2 true i t1) λj=>bw .leq 3 j f (K (.tuple ⟨[f,(ad 0)]⟩) b c) (bH .sub 3 j f λl=>K (.tuple ⟨[f,l]⟩) b c)
theorem ak1:c4 294 ZV:=c5 []
def Ry:aa (aa Nat):=[[5,7,24,25,26]]
def ab3(s:al)(bt a6 fT ns mv:X)(h:ae)(U:Nat)(N:aP)(aE:aP)(R:aP):Prop:=cF mv ns (dL h 1 fT mv λc=>dL h 1 a6 mv λe=>af (cU [(ad 0),(ad 0)] [(0,1,c),(1,1,e)]) λf=>dS (eV 1 [(ad 0),(ad 0)] [(0,2,f)]) h U λg i j=>dD (dU (dM 2 i j bt g)) λk l m=>b9 mv λn=>N [k,a6,fT,ns,n] l m) (aE [bt,a6,fT,ns,mv] h U)
def af0:c0:=λs ah t1 h U K=>bI ah h U λa b c=>aR 5 b a λd=>aX s 293 [d] b c λe f g=>af (aU f 5 a e) λi=>ax i 0 a λk=>bH .sub 3 k (ad 1) λl=>aX s 289 [t1,l] i g λm n o=>af (dv .not m) λp=>bu p (K ay n o) (aR 5 n a λq=>aX s 296 [q,t1] n o λr t aI=>af (cp r 0) λv=>af (cp r 1) λw=>cO v λx=>bC (bN Q s Ry 295 0) [ay,w,v,x,(ad 0)] t aI [(0,λy z bD=>K (a8 y 0) z bD)] (λ_ _ _=>False))
theorem arY:bN Q s Ry 295 0 [bt,a6,fT,ns,mv] h U N [(0,aE)] R=ab3 s bt a6 fT ns mv h U N aE R:=by kernel_rfl
theorem avd:c4 295 af0:=c5 Ry
def aer:c0:=λs ah t1 h U K=>bI ah h U λa b c=>ax b 2 a λe=>dL b 1 e t1 λg=>ax b 2 a λj=>b9 t1 λk=>dL b 1 j k λm=>ax b 3 a λo=>af (gS 1 o (some g) (some m) (some m)) λp=>ax b 4 a λr=>af (gS 1 r (some g) (some m) (some m)) λt=>K (.tuple ⟨[p,t]⟩) b c
theorem arZ:c4 296 aer:=c5 []
def af1:c0:=λs ah t1 h U K=>bI ah h U λa b c=>bI t1 b c λd e f=>b1 [(ad 0),(ad 0),ay,ay,ay] e f λg i j=>aR 5 i a λk=>aR 5 i d λl=>aX s 371 [k,l] i j λm n o=>bu m (aR 5 n d λp=>af (aU n 5 g p) λq=>aR 5 q g λr=>K r q o) (af (cU [(ad 0),(ad 0),ay,ay,ay] []) λt=>af (aU n 5 g t) λaI=>aR 5 aI g λv=>K v aI o)
theorem ave:c4 299 af1:=c5 []
def ab4:gv:=λs ah t1 t2 h U K=>af (bx ah) λa=>bo 7 a λb=>ax h 1 b λd=>aX s 311 [d,t1,t2] h U λe f g=>K e f g
theorem anZ:gF 219 ab4:=gL []
def SM:c0:=λs ah t1 h U K=>b6 179 [ah,t1] h U λa b c=>bu a (b6 180 [t1] b c λd e f=>bH .shr 3 t1 (.int .u64 6) λg=>hJ 1 ah g λi=>bS e i λj=>cZ i j (bH .and 188 j d λk=>bH .neq 188 k (.int .u64 0) λl=>K l e f) 1 [b,h]) (K (.bool false) b c)
theorem af2:c4 334 SM:=c5 []
def GL(s:al)(K:bR)(cg Ua:X)(au:ae)(a4:Nat):Prop:=bu Ua (K (.bool false) au a4) (ax au 1 cg λb=>ax au 0 cg λd=>bH .sub 3 b d λe=>ax au 2 cg λg=>cO g λi=>bw .eql 3 i e (ax au 3 cg λl=>cO l λm=>bw .eql 3 m e (ax au 4 cg λp=>aX s 437 [p,e] au a4 λq r t=>K q r t) (K (.bool false) au a4)) (K (.bool false) au a4))
def ahd:c0:=λs ah t1 h U K=>bI ah h U λa b c=>bI t1 b c λd e f=>aR 5 e a λg=>aX s 187 [g] e f λi j k=>lA i (GL s K d (.bool true) j k) (ax j 0 d λn=>cF n (ad 0) (GL s K d (.bool true) j k) (ax j 1 d λq=>ax j 0 d λt=>cF q t (GL s K d (.bool true) j k) (ax j 1 d λw=>ax j 1 a λy=>bH .gtr 3 w y λz=>(GL s K d z j k))))
theorem axM:c4 371 ahd:=c5 []
def ab5:c0:=λs ah t1 h U K=>bw .geq 3 t1 (ad 0) (bw .leq 3 t1 (ad 4096) (cO ah λc=>aX s 195 [t1] h U λd e f=>bw .eql 3 c d (aX s 473 [ah,t1] e f λi j k=>bH .lss 3 i (ad 0) λl=>K l j k) (K (.bool false) e f)) (K (.bool false) h U)) (K (.bool false) h U)
theorem an0:c4 437 ab5:=c5 []
def aes:cS:=λs ah h U K=>bw .eql 43 ah ay (K ay h U) (dS (eV 0 [] []) h U λb c d=>dD (dU (dM 2 c d b ah)) λe f g=>K e f g)
theorem ar0:cT 122 aes:=cV []
def ar1:c0:=λs ah t1 h U K=>aX s 345 [ah] h U λa b c=>bu a (aX s 345 [t1] b c λd e f=>af (dv .not d) λg=>bu g (K (.bool true) e f) (bH .lss 3 ah t1 λi=>K i e f)) (bH .lss 3 ah t1 λj=>K j b c)
theorem an1:c4 369 ar1:=c5 []
def Sc:cS:=λs ah h U K=>bH .neq 3 ah ah λa=>K a h U
theorem aet:cT 345 Sc:=cV []
def kR(ag:aa GE):Prop:=ag.Pairwise mV
def dC(ag:aa GE)(i:Nat):Nat:=(ag.filter λg=>decide (g.f<i)).length
def pY(ag:aa GE)(r:Nat):aa Int:=(List.range (r+1)).map λi=>(dC ag i:Int)
structure hg (r c:Nat) (ag:aa GE):Prop where
 up:kR ag
 rows:∀g∈ag,g.f<r
 mi:∀g∈ag,g.t<c
 bb:r<=4096
 a1:c<=4096
 len:ag.length<=120
theorem Qn(ag:aa GE)(r:Nat):(pY ag r).length=r+1:=by unfold pY;grind
theorem wp(h:i<=r):(pY ag r)[i]? = some (dC ag i:Int):=by
 unfold pY
 grind
theorem u1(ag:aa GE)(i:Nat):dC ag i<=ag.length:=vX _ _
theorem Lb(ag:aa GE):dC ag 0=0:=by
 unfold dC;rw[List.length_eq_zero_iff,zE]
 grind
theorem af3(M:hg r c ag):dC ag r=ag.length:=by unfold dC;rw[zG.2];intro g A;exact gP (M.rows g A)
theorem z1(ag:aa GE)(h:i<=j):dC ag i<=dC ag j:=by
 unfold dC
 induction ag with
 |nil=>grind
 |cons g ag A =>
  grind
def eL(ag:aa GE)(i:Nat):aa GE:=ag.filter λg=>decide (g.f=i)
theorem ahe{x:GE}(h:kR (x::ag)):∀g∈ag,x.f<=g.f:=λg A=>by have:=(uA.1 h).1 g A;unfold mV at this;omega
theorem ZW(h:kR ag)(i:Nat):ag=(ag.filter λg=>decide (g.f<i))++ag.filter λg=>!decide (g.f<i):=by
 induction ag with
 |nil=>rfl
 |cons x ag A =>
  have A:=A (uA.1 h).2;rw[q4,q4]
  by_cases C:x.f<i
  ·grind
  ·rw[hD C];have e:ag.filter (λg=>decide (g.f<i))=[]:=by
    rw[zE];intro g B;have:=ahe h g B
    grind
   grind
theorem ar2(h:kR ag)(i:Nat):ag.drop (dC ag i)=ag.filter λg=>!decide (g.f<i):=by
 have e:ag.drop (dC ag i)=((ag.filter λg=>decide (g.f<i))++ag.filter λg=>!decide (g.f<i)).drop (dC ag i):=by rw[<-ZW h i]
 rw[e];exact List.drop_left' rfl
theorem ar3(h:kR ag)(i:Nat):ag.take (dC ag i)=ag.filter λg=>decide (g.f<i):=by
 have e:ag.take (dC ag i)=((ag.filter λg=>decide (g.f<i))++ag.filter λg=>!decide (g.f<i)).take (dC ag i):=by rw[<-ZW h i]
 rw[e];exact List.take_left' rfl
theorem CI(h:kR ag)(i:Nat):(ag.drop (dC ag i)).take (dC ag (i+1)-dC ag i)=eL ag i:=by
 have A:(ag.drop (dC ag i)).take (dC ag (i+1)-dC ag i)=(ag.take (dC ag (i+1))).drop (dC ag i):=by rw[E9]
 rw[A,ar3 h (i+1)];have B:kR (ag.filter λg=>decide (g.f<i+1)):=I9 _ h;have e:dC ag i=dC (ag.filter λg=>decide (g.f<i+1)) i:=by
  unfold dC;rw[List.filter_filter]
  grind
 rw[e,ar2 B,List.filter_filter];unfold eL
 grind
theorem FZ(h:kR ag)(i:Nat):(eL ag i).length=dC ag (i+1)-dC ag i:=by rw[<-CI h,ql,E1];have:=u1 ag (i+1);omega
theorem Ps(h:kR ag)(A:k<(eL ag i).length):(eL ag i)[k]? = ag[dC ag i+k]?:=by rw[FZ h]at A;rw[<-CI h,xO,if_pos A,xN]
theorem Qo(h:kR ag)(i:Nat):(eL ag i).Pairwise λx y=>x.t<y.t:=by have A:(eL ag i).Pairwise mV:=I9 _ h;refine List.Pairwise.imp_of_mem (λ{a b} cW aO D8=>?_) A;have B:=of_decide_eq_true (nR.1 cW).2;have aK:=of_decide_eq_true (nR.1 aO).2;unfold mV at D8;omega
def k4(h:ae)(U:Nat)(v:X)(l:aa Int):Prop:=∃aQ,gY h cq v l aQ/\∀c,aQ=some c->c<U
theorem k4.T{h ac:ae}{U Y:Nat}{v:X}{l:aa Int}(C:k4 h U v l)(A:aA U h ac)(D:U<=Y):k4 ac Y v l:=by obtain⟨B,E,K⟩:=C;exact⟨B,E.T λc I=>A c ab,ab⟩
theorem k4.form{h:ae}{U:Nat}{v:X}{l:aa Int}(C:k4 h U v l):∃a c,v = .slice a l.length c:=by obtain⟨B,A,_⟩:=C;exact A.form
def fs(ag:aa GE):aa Int:=ag.map λg=>(g.t:Int)
def gr(ag:aa GE):aa Int:=ag.map λg=>g.w
theorem CJ(ag:aa GE):(fs ag).length=ag.length:=by unfold fs;grind
theorem Gq(ag:aa GE):(gr ag).length=ag.length:=by unfold gr;grind
def kj(h:ae)(U:Nat)(v:X)(r c:Nat)(ag:aa GE):Prop :=
 ∃(b:Nat) (aS:aw Nat) (cap:Nat) (v2 v3:X),v = .agg ⟨[(r:X),(c:X),.slice (some ⟨b,0,aS⟩) (r+1) cap,v2,v3]⟩/\b<U/\u h b=some (.cells (gA (pY ag r)) false)/\k4 h U v2 (fs ag)/\k4 h U v3 (gr ag)
theorem kj.T{h ac:ae}{U Y:Nat}{v:X}{r c:Nat}{ag:aa GE}(H:kj h U v r c ag)(B:aA U h ac)(A:U<=Y):kj ac Y v r c ag:=by obtain⟨b,aS,cap,E,D,e,K,C,I,L⟩:=H;exact⟨b,aS,cap,E,D,e,J,(B b K).trans C,I.T B A,L.T B A⟩
def n3(h:ae)(ao aj:Nat)(v:X)(l:aa Int):Prop:=∃aQ,gY h cq v l aQ/\∀c,aQ=some c->ao<=c/\c<aj
theorem n3.H1(C:n3 h ao aj v l):k4 h aj v l:=by obtain⟨A,B,D⟩:=C;exact⟨A,B,ab⟩
theorem n3.T{h ac:ae}{ao aj d2 dm:Nat}{v:X}{l:aa Int}(C:n3 h ao aj v l)(D:∀d,ao<=d->d<aj->u ac d=u h d)(K:d2<=ao)(E:aj<=dm):n3 ac d2 dm v l:=by obtain⟨A,B,I⟩:=C;exact⟨A,B.T ab,ab⟩
def wx(h:ae)(ao aj:Nat)(v:X)(r c:Nat)(ag:aa GE):Prop :=
 ∃(b:Nat) (aS:aw Nat) (cap:Nat) (v2 v3:X),v = .agg ⟨[(r:X),(c:X),.slice (some ⟨b,0,aS⟩) (r+1) cap,v2,v3]⟩/\ao<=b/\b<aj/\u h b=some (.cells (gA (pY ag r)) false)/\n3 h ao aj v2 (fs ag)/\n3 h ao aj v3 (gr ag)
theorem wx.is(H:wx h ao aj v r c ag):kj h aj v r c ag:=by obtain⟨b,aS,cap,C,B,e,E,D,A,c2,b8⟩:=H;exact⟨b,aS,cap,C,B,e,D,A,c2.H1,b8.H1⟩
theorem wx.T{h ac:ae}{ao aj d2 dm:Nat}{v:X}{r c:Nat}{ag:aa GE}(H:wx h ao aj v r c ag)(A:∀d,ao<=d->d<aj->u ac d=u h d)(B:d2<=ao)(C:aj<=dm):wx ac d2 dm v r c ag:=by obtain⟨b,aS,cap,E,D,e,L,K,I,c2,b8⟩:=H;exact⟨b,aS,cap,E,D,e,J,J,ab,c2.T A B C,b8.T A B C⟩
theorem kj.form{h:ae}{U:Nat}{v:X}{r c:Nat}{ag:aa GE}(H:kj h U v r c ag):∃b aS n a2 A c2 a3 D b8,v = .agg ⟨[(r:X),(c:X),.slice (some ⟨b,0,aS⟩) (r+1) n,.slice a2 A c2,.slice a3 D b8]⟩:=by
 obtain⟨b,aS,cap,K,I,rfl,L,E,B,C⟩:=H;obtain⟨a2,c2,rfl⟩:=B.form;obtain⟨a3,b8,rfl⟩:=C.form
 grind
def sP(h:ae)(U:Nat)(v:X)(l:aa Int):Prop:=∃a cap,v = .slice a l.length cap/\(l≠[]->∃b o aS ro cs,b<U/\a=some ⟨b,o,aS⟩/\u h b=some (.cells cs ro)/\∀(i:Nat) (x:Int),l[i]? = some x->cs[o+i]? = some (x:X))
theorem sP.T(H:sP h U v l)(C:aA U h ac)(E:U<=Y):sP ac Y v l:=by obtain⟨a,cap,e,H⟩:=H;exact⟨a,cap,e,λA=>by obtain⟨b,o,aS,ro,D,K,aK,B,I⟩:=H A;exact⟨b,o,aS,ro,D,J,aK,(C b K).trans B,I⟩⟩
theorem sP.at(H:sP h U (.slice a n cap) l)(D:l[i]? = some x):∃b o aS ro A,b<U/\a=some ⟨b,o,aS⟩/\u h b=some (.cells A ro)/\∀(i:Nat) (x:Int),l[i]? = some x->A[o+i]? = some (x:X):=by obtain⟨C,B,e,H⟩:=H;cases e;exact H ab
theorem af4(L:i<=j)(M:j<=n)(P:aS≠some 0)(A:al){m:Nat}(V:m=if A then j else n):∃I K,nV 1 (some ⟨b,0,aS⟩) n A m j i = .ok (.slice I (j-i) K)/\(i<j->I=some ⟨b,i,bif A then none else aS⟩):=by
 have C:j<=m:=ab
 have B:m<=n:=ab
 unfold nV;rw[show(Nat.ble m n&&(Nat.ble j m&&Nat.ble i j))=true by simp[B,C,L]];unfold uX
 by_cases e:m=i
 ·subst e;have E:j=m:=J
  subst E;rw[uC];unfold kU z6 wX LP;cases aS with
  |none=>grind
  |some k =>
   cases k with
   |zero=>grind
   |succ k=>cases A <;> exact⟨_,_,by simp;exact⟨rfl,rfl⟩,J⟩
 ·have D:Nat.beq m i=false:=by
   cases D:Nat.beq m i with
   |true=>exact absurd (gm D) e
   |false=>rfl
  rw[D];refine⟨some ⟨b,i,bif A then none else aS⟩,m-i,?_,ab⟩;show R.ok (Value.slice (some ⟨b,Nat.add 0 (Nat.mul i 1),bif A then none else aS⟩) (Nat.sub j i) (Nat.sub m i))=_
  grind
theorem Qp(C:k4 h U v l)(h1:i<=j)(ap:j<=l.length){L:aw X}(K:L=none\/L=some (j:X)):
  ∃w,gS 1 v (some (i:X)) (some (j:X)) L = .ok w/\sP h U w ((l.drop i).take (j-i)):=by
 obtain⟨aQ,jB,aO⟩:=C;rcases jB with⟨rfl,rfl,rfl⟩|⟨b,rfl,rfl,a9⟩
 ·have bZ:j=0:=ab
  subst bZ;have aj:i=0:=J
  subst aj;refine⟨.slice none 0 0,?_,⟨none,0,by simp,λh=>absurd (by simp) h⟩⟩;rcases K with rfl|rfl <;> rfl
 ·have D:((l.drop i).take (j-i)).length=j-i:=ab
  have fin:∀(B:al) (m:Nat) (A:aw Addr) (I:Nat),(i<j->A=some ⟨b,i,bif B then none else some 1⟩)->sP h U (.slice A (j-i) I) ((l.drop i).take (j-i)):=λB m A I E=>by
   refine⟨A,I,ab,λV=>?_⟩;have P:i<j:=by have:=EY.2 V;omega
   refine⟨b,i,_,false,_,ab,E P,a9,λk x M=>?_⟩;have Z:=(hn.1 M).1;rw[D]at Z;rw[xO,if_pos Z,xN]at M;rw[hM];exact hN M
  rcases K with rfl|rfl
  ·obtain⟨A,I,e,E⟩:=af4  (aS:=some 1) h1 ap (by simp) false  rfl;exact⟨_,e,fin false l.length A _ E⟩
  ·obtain⟨A,I,e,E⟩:=af4  (aS:=some 1) h1 ap (by simp) true  rfl;exact⟨_,e,fin true j A _ E⟩
theorem JD{n:Int}:aH Q s 289 [(n:X),(m:X)] h U (fr (.bool (lv n m)) U h):=by
 refine akZ ?_;unfold ZT;refine aD ?_;refine⟨λB=>?_,λB=>by rw[pA J];exact⟨rfl,rfl,rfl⟩⟩
 by_cases A:m<n
 ·rw[gP A,pA J];exact⟨rfl,rfl,rfl⟩
 ·rw[hD A,li J];exact⟨rfl,rfl,rfl⟩
theorem ak2{n:Int}:aH Q s 369 [(n:X),(m:X)] h U (fr (.bool (decide (n<m))) U h):=by
 have A:∀{n:Int} {K:bR},K (.bool false) h U->aH Q s 345 [(n:X)] h U K:=λ{n K} hk=>by refine aet ?_;unfold Sc;simp(disch:=omega)only[bl,q5,seval];exact hk
 refine an1 ?_;refine A ?_;refine aD ?_;exact⟨rfl,rfl,rfl⟩
def CrJ(dr:X)(l:aa Int)(c:Int)(h:ae)(U:Nat)(m:Nat)(aF:aa X)(ac:ae)(Y:Nat):Prop:=∃i,m=l.length-i/\i<=l.length/\aF=[dr,(c:X),.bool false,dr,(l.length:X),(i:X)]/\ac=h/\Y=U
def IsJ(dr:X)(l:aa Int)(h:ae)(U:Nat)(m:Nat)(aF:aa X)(ac:ae)(Y:Nat):Prop:=∃k:Int,m=(k+1).toNat/\-1<=k/\k<l.length/\aF=[dr,.bool false,(k:X)]/\ac=h/\Y=U
theorem ar4(L:sP h U v l)(bA:l.length<=1000)(a1:c<=4096)(P:∀x∈l,0<=x/\x<(c:Int))(ej:∀(i:Nat) (x y:Int),l[i]? = some x->l[i+1]? = some y->x<y):
  aH Q s 291 [v,(c:X)] h U (fr (.bool true) U h):=by
 refine avb ?_;obtain⟨a,cap,rfl,_⟩:=id L;unfold afY;refine aD ?_;refine bC.mk (CrJ (.slice a l.length cap) l c h U) l.length ⟨0,rfl,J,rfl,rfl,rfl⟩ ?_;rintro _ _ _ _ ⟨i,rfl,aj,rfl,rfl,rfl⟩;rw[arW];unfold ab2;refine aD ?_;refine⟨λB=>?_,λZ=>⟨rfl,rfl,rfl⟩⟩;obtain⟨x,K⟩:=dR B;obtain⟨b,o,aS,ro,cs,aO,rfl,E,A⟩:=L.at K;obtain⟨V,Ub⟩:=P x ab;have M:IntKind.wrap .i64 ((c:Int)-1)=(c:Int)-1:=jG J J;simp(disch:=omega)only[bl,E,A i x K,M,seval];refine JD.mono ?_;rintro r h1 a5 ⟨rfl,rfl,rfl⟩;rw[li J];refine aD ?_;refine⟨λI=>?_,λcL=>?_⟩
 ·obtain⟨y,D⟩:=dR (l:=l) (i:=i-1) J;have da:IntKind.wrap .i64 ((i:Int)-1)=((i-1:Nat):Int):=by rw[show(i:Int)-1=((i-1:Nat):Int) by omega];exact jG J J
  have C:=ej (i-1) y x D ab;simp(disch:=omega)only[bl,da,E,A (i-1) y D,cv (J:i<1000000000000),seval];exact⟨λh=>absurd C h,λ_=>⟨l.length-(i+1),J,i+1,rfl,J,rfl,rfl,rfl⟩⟩
 ·refine bh (cv (J:i<1000000000000)) ?_;exact⟨l.length-(i+1),J,i+1,rfl,J,rfl,rfl,rfl⟩
theorem ajm(V:n=l.length)(E:u h b=some (.cells (gA l) ro))(Z:l.length<=100000)(L:∀(i:Nat) (x y:Int),l[i]? = some x->l[i+1]? = some y->x<=y):
  aH Q s 290 [.slice (some ⟨b,0,aS⟩) n cap] h U (fr (.bool true) U h):=by
 subst V;refine ak0 ?_;unfold ZU;refine aD ?_;have I:IntKind.wrap .i64 ((l.length:Int)-1)=(l.length:Int)-1:=jG J J;rw[I];refine bC.mk (IsJ (.slice (some ⟨b,0,aS⟩) l.length cap) l h U) l.length ⟨(l.length:Int)-1,J,J,J,rfl,rfl,rfl⟩ ?_;rintro _ _ _ _ ⟨k,rfl,K,M,rfl,rfl,rfl⟩;rw[ajl];unfold Xh;refine aD ?_;refine⟨λA=>?_,λcL=>⟨rfl,rfl,rfl⟩⟩;obtain⟨i,rfl⟩:∃i:Nat,k=((i+1:Nat):Int):=⟨(k-1).toNat,J⟩
 obtain⟨x,B⟩:=dR (l:=l) (i:=i+1) J;obtain⟨y,D⟩:=dR (l:=l) (i:=i) J;have C:IntKind.wrap .i64 (((i+1:Nat):Int)-1)=(i:Int):=by rw[show((i+1:Nat):Int)-1=(i:Int) by omega];exact jG J J
 have P:=L i y x D B;simp(disch:=omega)only[bl,C,E,hN B,hN D,seval];refine(ak2 ).mono ?_;rintro r h1 a5 ⟨rfl,rfl,rfl⟩;rw[hD (J:¬x<y)];refine⟨J,?_⟩;refine bh @C ?_;exact⟨_,J,(i:Int),rfl,J,J,rfl,rfl,rfl⟩
theorem ab6(ag:aa GE)(i j:Nat):((fs ag).drop i).take j=fs ((ag.drop i).take j):=by unfold fs;rw[List.map_take,List.map_drop]
theorem ar5(ag:aa GE)(i j:Nat):((gr ag).drop i).take j=gr ((ag.drop i).take j):=by unfold gr;rw[List.map_take,List.map_drop]
theorem Kt(h:ag[i]? = some g):(fs ag)[i]? = some (g.t:Int):=by unfold fs;grind
theorem Ku(h:ag[i]? = some g):(gr ag)[i]? = some g.w:=by unfold gr;grind
theorem aeu(h:(fs ag)[i]? = some x):∃g,ag[i]? = some g/\x=(g.t:Int):=by
 unfold fs at h
 grind
theorem Pt(h:g∈eL ag i):g∈ag/\g.f=i:=by
 unfold eL at h
 grind
theorem Qq(ag:aa GE)(i:Nat):(eL ag i).length<=ag.length:=vX _ _
def CtJ(p r:Nat)(au:ae)(a4:Nat)(m:Nat)(aF:aa X)(ac:ae)(Y:Nat):Prop:=∃i,m=r-i/\i<=r/\aF=[bf p,.bool false,(r:X),(i:X)]/\ac=au/\Y=a4
theorem JL(M:hg r c ag)(aG:kj h U v r c ag):aH Q s 201 [v] h U (dJ (.bool true) U h):=by
 refine anU ?_;obtain⟨b,aS,cap,v2,v3,rfl,aO,K,L,pf⟩:=id aG;obtain⟨a2,c2,rfl⟩:=L.form;obtain⟨a3,b8,rfl⟩:=pf.form;have bb:=M.bb;have a1:=M.a1;have bA:=M.len;have Z:=CJ ag;have vQ:=Gq ag;have P:∀{o},aA U h (F h U o):=aN
 unfold abV;refine aD ?_;refine JD.mono ?_;rintro _ _ _ ⟨rfl,rfl,rfl⟩;rw[li J];refine aD ?_;refine JD.mono ?_;rintro _ _ _ ⟨rfl,rfl,rfl⟩;rw[li J];simp(disch:=omega)only[bl,cv (J:r<1000000000000),show(((r+1:Nat):Int) == ((r+1:Nat):Int))=true from q5 _,show(((gr ag).length:Int) == ((fs ag).length:Int))=true by grind,seval];rw[show decide ((65536:Int)<((fs ag).length:Int))=false from hD J];unfold Cm;have ly:(pY ag r)[0]? = some 0:=by rw[wp J,Lb];rfl
 have eP:(pY ag r)[r]? = some ((fs ag).length:Int):=by rw[wp J,af3 M,Z]
 simp(disch:=omega)only[bl,K,hN ly,hN eP,show(((fs ag).length:Int) == ((fs ag).length:Int))=true from q5 _,seval];refine(ajm  (Qn ag r).symm (by rw[ar J];omega) (by rw[Qn];omega) λi x y A B=>?_).mono ?_
 ·have aj:=(hn.1 B).1;rw[Qn]at aj;rw[wp J]at A B;cases A;cases B;have:=z1 ag (J:i<=i+1);omega
 rintro _ _ _ ⟨rfl,rfl,rfl⟩;refine aD ?_;unfold JK;refine aD ?_;refine bC.mk (CtJ U r (F h U (.cells [(r:X),(c:X),.slice (some ⟨b,0,aS⟩) (r+1) cap,.slice a2 (fs ag).length c2,.slice a3 (gr ag).length b8] false)) (U+1)) r ⟨0,rfl,J,rfl,rfl,rfl⟩ ?_;rintro _ _ _ _ ⟨i,rfl,aj,rfl,rfl,rfl⟩;rw[akX];unfold Yh;refine aD ?_;refine⟨λct=>?_,λeM=>⟨rfl,P,J⟩⟩;have VE:(pY ag r)[i]? = some (dC ag i:Int):=wp J;have I:(pY ag r)[i+1]? = some (dC ag (i+1):Int):=wp J;obtain⟨w,b0,V⟩:=Qp L (z1 ag (J:i<=i+1)) (by rw[Z];exact u1 _ _) (.inl rfl);rw[ab6,CI M.up]at V;simp(disch:=omega)only[bl,K,hN VE,hN I,cv (J:i<1000000000000),b0,seval];have H2:=Qq ag i;refine(ar4   (V.T P J) (by rw[CJ];omega) a1 (λx A=>?_) λk x y A B=>?_).mono ?_
 ·obtain⟨g,D,rfl⟩:=fz.1 A;have:=M.mi g (Pt D).1;omega
 ·obtain⟨g,C,rfl⟩:=aeu A;obtain⟨ck,E,rfl⟩:=aeu B;have h1:=(hn.1 C)
  have ap:=(hn.1 E)
  have:=xK.1 (Qo M.up i) k (k+1) h1.1 ap.1 J
  grind
 rintro _ _ _ ⟨rfl,rfl,rfl⟩;refine⟨J,?_⟩;refine bh (cv (J:i<1000000000000)) ?_;exact⟨r-(i+1),J,i+1,rfl,J,rfl,rfl,rfl⟩
theorem F0(M:hg r c ag)(E:kj h U v r c ag):aH Q s 293 [v] h U (dJ v U h):=by
 refine arX ?_;have B:=E;obtain⟨b,aS,cap,v2,Z,rfl,aO,V,K,L⟩:=id E;obtain⟨a2,c2,rfl⟩:=K.form;obtain⟨a3,b8,rfl⟩:=L.form;unfold aeq;have P:∀{o a0},aA U h (F (F h U o) (U+1) a0):=aN
 refine aD ?_;refine(JL M (B.T P J)).mono ?_;rintro _ h1 a5 ⟨rfl,A,I⟩;have C:=A U J;rw[ar J,aT]at C;have D:=A (U+1) J;rw[aT]at D;refine cQ @C @D ?_;exact⟨rfl,aN,J⟩
def axN(ag:aa GE)(i B:Nat)(U:Nat)(h:ae):bR:=λres ac Y=>∃dc ja,res = .tuple ⟨[dc,ja]⟩/\sP ac B dc (fs (eL ag i))/\sP ac B ja (gr (eL ag i))/\aA U h ac/\U<=Y
theorem ZX{B:Nat}(M:hg r c ag)(aG:kj h B v r c ag)(V:B<=U)(aj:i<r):aH Q s 296 [v,(i:X)] h U (axN ag i B U h):=by
 refine arZ ?_;obtain⟨b,aS,cap,v2,v3,rfl,aO,Z,L,P⟩:=id aG;obtain⟨a2,c2,rfl⟩:=L.form;obtain⟨a3,b8,rfl⟩:=P.form;have bb:=M.bb;have I:∀{o},aA U h (F h U o):=aN
 have VE:(pY ag r)[i]? = some (dC ag i:Int):=wp J;have K:(pY ag r)[i+1]? = some (dC ag (i+1):Int):=wp J;obtain⟨dc,E,A⟩:=Qp L (z1 ag (J:i<=i+1)) (by rw[CJ];exact u1 _ _) (.inr rfl);obtain⟨ja,D,C⟩:=Qp P (z1 ag (J:i<=i+1)) (by rw[Gq];exact u1 _ _) (.inr rfl);rw[ab6,CI M.up]at A;rw[ar5,CI M.up]at C;unfold aer;simp(disch:=omega)only[bl,Z,hN VE,hN K,cv (J:i<1000000000000),E,D,seval];exact⟨dc,ja,rfl,A.T (I.mono V) J,C.T (I.mono V) J,I,J⟩
def G2(g:GE):aa X:=[(g.t:X),(g.w:X)]
def RwJ(dr fC:X)(l:aa GE)(au:ae)(a4:Nat)(m:Nat)(aF:aa X)(ac:ae)(Y:Nat):Prop :=
 ∃(k:Nat) (o:X),m=l.length-k/\k<=l.length/\aF=[o,fC,dr,(l.length:X),(k:X)]/\d1 ac o G2 2 (l.take k) a4 Y/\aA a4 au ac/\a4<=Y
def RowK(ag:aa GE)(i:Nat)(U:Nat)(h:ae):bR:=λres ac Y=>d1 ac res G2 2 (eL ag i) U Y/\aA U h ac/\U<=Y
theorem ar6(M:hg r c ag)(aG:kj h U v r c ag)(aj:i<r):aH Q s 295 [v,(i:X)] h U (RowK ag i U h):=by
 refine avd ?_;have E:=aG;obtain⟨b,aS,cap,v2,v3,rfl,aO,a9,qg,pf⟩:=id aG;obtain⟨a2,c2,rfl⟩:=qg.form;obtain⟨a3,b8,rfl⟩:=pf.form;have bb:=M.bb;have bA:=M.len;have H2:=Qq ag i;unfold af0;have bT:∀{o},aA U h (F h U o):=aN
 refine aD ?_;refine(F0 M (E.T bT J)).mono ?_;rintro _ h1 a5 ⟨rfl,d0,f0⟩;have g1:=d0 U J;rw[aT]at g1;have gC:IntKind.wrap .i64 ((r:Int)-1)=(r:Int)-1:=jG J J;refine cQ @g1 @gC ?_;refine JD.mono ?_;rintro _ _ _ ⟨rfl,rfl,rfl⟩;rw[li J];refine aD ?_;have eA:∀{o},aA U h (F h1 U o):=aN
 refine(ZX M (E.T eA (cD _)) J aj).mono ?_;rintro _ P bW ⟨dc,ja,rfl,L,BO,e1,gJ⟩;obtain⟨iQ,cE,rfl,_⟩:=id L;obtain⟨hI,cg,rfl,_⟩:=id BO;have vR:=CJ (eL ag i);have vQ:=Gq (eL ag i);rw[vR]at L;rw[vQ]at BO;rw[vR,vQ];refine aD ?_;refine bC.mk (RwJ (.slice iQ (eL ag i).length cE) (.slice hI (eL ag i).length cg) (eL ag i) P bW) (eL ag i).length ⟨0,_,J,J,rfl,.inl ab,aN,J⟩ ?_;rintro _ _ bc d4 ⟨k,o,rfl,hk,rfl,dn,B,hb⟩;rw[arY];unfold ab3;refine aD ?_;refine⟨λC=>?_,λeM=>?_⟩
 ·have C:k<(eL ag i).length:=J
  obtain⟨g,A⟩:=dR C;obtain⟨bQ,dP,kb,y7,y6,fm,rfl,iq,I⟩:=L.at (Kt A)
  obtain⟨d6,gh,kO,H3,Bv,pX,rfl,Z,D⟩:=BO.at (Ku A)
  have aK:=(B bQ J).trans iq;have cf:=(B d6 J).trans Z;simp(disch:=omega)only[bl,aK,I k _ (Kt A),cf,D k _ (Ku A),seval];refine lJ (enc:=G2)  (λ_=>rfl) (λ_=>rfl) J (dn.T ab J) J g (aT _ _ _) rfl ab λdF b3 K V=>?_;refine bh (cv (J:k<1000000000000)) ?_;refine⟨(eL ag i).length-(k+1),J,k+1,_,rfl,J,rfl,?_,λc a1=>?_,J⟩
  ·rw[ho,A];exact K
  ·rw[V c a1,ar J];exact B c a1
 ·have:k=(eL ag i).length:=J
  subst this;rw[hC]at dn;refine⟨?_,aN,J⟩;rcases dn with e|⟨b,h1,ap,P⟩
  ·exact .inl e
  ·exact .inr ⟨b,J,ap,P⟩
def hE(ag:aa GE)(j:Nat):Nat:=(ag.filter λg=>decide (g.f+1=j)).length
def AU(ag:aa GE)(r:Nat):aa Int:=(List.range (r+1)).map λj=>(hE ag j:Int)
def xc(ag:aa GE)(r k:Nat):aa Int:=(List.range (r+1)).map λj=>((if j<=k then dC ag j else hE ag j:Nat):Int)
theorem ab7(h:i<n):((List.range n).map f)[i]? = some (f i):=ab
theorem ab8{g:Nat->Int}(aj:i<n)(B:g i=x)(A:∀j,j<n->j≠i->g j=f j):((List.range n).map f).set i x=(List.range n).map g:=by
 apply pj
 grind
theorem an2(r:Nat):AU [] r=List.replicate (r+1) 0:=by
 unfold AU;apply pj;intro j
 by_cases A:j<r+1
 ·rw[ab7 A,ES,if_pos A];rfl
 grind
theorem ab9(ag:aa GE)(e:GE)(j:Nat):hE (ag++[e]) j=hE ag j+if e.f+1=j then 1 else 0:=by
 unfold hE
 grind
theorem an3{e:GE}(h:e.f<r):(AU ag r).set (e.f+1) ((hE ag (e.f+1):Int)+1)=AU (ag++[e]) r:=by
 refine ab8 (by omega) ?_ λj B A=>?_
 ·rw[ab9,if_pos rfl];simp
 ·rw[ab9,if_neg (kB A)];simp
theorem aev(ag:aa GE)(j:Nat):hE ag j<=ag.length:=vX _ _
theorem ZY(ag:aa GE)(k:Nat):dC ag (k+1)=dC ag k+hE ag (k+1):=by
 unfold dC hE
 induction ag with
 |nil=>rfl
 |cons g ag A =>
  grind
theorem axO(ag:aa GE)(r:Nat):xc ag r 0=AU ag r:=by
 apply oC;intro j _
 by_cases h:j<=0
 ·have:j=0:=J
  subst this;rw[if_pos (cD _),Lb];have:hE ag 0=0:=by
   unfold hE;rw[List.length_eq_zero_iff,zE]
   grind
  omega
 grind
theorem axP(ag:aa GE)(r:Nat):xc ag r r=pY ag r:=by
 apply oC
 grind
theorem an4(h:k<r):(xc ag r k)[k+1]? = some (hE ag (k+1):Int):=by
 unfold xc
 grind
theorem an5(h:k<r):(xc ag r k)[k]? = some (dC ag k:Int):=by
 unfold xc
 grind
theorem ar7(h:k<r):(xc ag r k).set (k+1) ((hE ag (k+1):Int)+(dC ag k:Int))=xc ag r (k+1):=by
 refine ab8 (by omega) ?_ λj B A=>?_
 ·rw[if_pos (cD _),ZY];omega
 grind
theorem an6(C:r<=4096):aH Q s 367 [(r:X),(c:X)] h U (λA ac Y=>A = .agg ⟨[(r:X),(c:X),.slice (some ⟨U+1,0,none⟩) (r+1) (r+1),.slice none 0 0,.slice none 0 0]⟩/\u ac (U+1)=some (.cells (gA (List.replicate (r+1) 0)) false)/\aA U h ac/\Y=U+1+1):=by
 refine adK ?_;unfold R3;have B:List.replicate (r+1) (Value.int .i64 0)=gA (List.replicate (r+1) 0):=by simp[gA]
 refine cQ (cv (J:r<1000000000000)) @B ?_;exact aN
def azx(r c cj fk i9 ao:Nat)(Vx:X)(ag:aa GE)(au:ae)(U:Nat)(m:Nat)(aF:aa X)(ac:ae)(Y:Nat):Prop :=
 ∃(i:Nat) (e2 nz:X),m=ag.length-i/\i<=ag.length/\aF=[(r:X),bf cj,bf fk,Vx,(ag.length:X),(i:X)] /\
  u ac fk=some (.cells [(r:X),(c:X),.slice (some ⟨i9,0,none⟩) (r+1) (r+1),e2,nz] false)/\u ac i9=some (.cells (gA (AU (ag.take i) r)) false) /\
  yK ac e2 nz ((ag.take i).map λe=>(e.t:Int)) ((ag.take i).map GE.w) ao Y/\(∀d,d<ao->d≠fk->d≠i9->u ac d=u au d)/\ao<=Y
def azy(r c cj fk i9 ao:Nat)(e2 nz:X)(ag:aa GE)(au:ae)(U:Nat)(m:Nat)(aF:aa X)(ac:ae)(Y:Nat):Prop :=
 ∃(i:Nat),m=r-i/\i<=r/\aF=[bf cj,bf fk,(r:X),(i:X)] /\
  u ac fk=some (.cells [(r:X),(c:X),.slice (some ⟨i9,0,none⟩) (r+1) (r+1),e2,nz] false)/\u ac i9=some (.cells (gA (xc ag r i)) false) /\
  (∀d,d≠i9->u ac d=u au d)/\Y=U
def Rz(r c:Nat)(ag:aa GE)(U:Nat)(h:ae):bR:=λv ac Y=>wx ac U Y v r c ag/\aA U h ac/\U<=Y
theorem Pu(aG:fF h U v cX ag)(M:hg r c ag):
  aH Q s 281 [(r:X),(c:X),v] h U (Rz r c ag U h):=by
 refine adI ?_;obtain⟨a,cap,rfl,Mc⟩:=id aG;have bb:=M.bb;have a1:=M.a1;have bA:=M.len;unfold R2;refine aD ?_;refine(an6   bb).mono ?_;rintro mD h1 _ ⟨rfl,hR,K,rfl⟩;have cJ:=K U J;rw[aT]at cJ;refine aD ?_;refine bC.mk (azx r c U (U+1+1+1) (U+1+1) (U+1+1+1+1) (.slice a ag.length cap) ag h1 U) ag.length ⟨0,_,_,rfl,J,rfl,ab,by rw[ar J,ar J,tf,an2];omega,.inl ⟨rfl,rfl,rfl,rfl⟩,ab,J⟩ ?_;rintro m _ ap C ⟨i,e2,nz,rfl,aj,rfl,P,f4,B,bE,dO⟩;obtain⟨eF,dP,oz,xx,s4,zt⟩:=B.hl;obtain⟨aB,a5,Z,a2,L,c2,rfl,rfl⟩:=B.form;rw[abu];unfold P4;refine aD ?_;refine⟨λct=>?_,λeM=>?_⟩
 ·obtain⟨e,bP⟩:=dR ct;have hef:e.f<r:=M.rows e ab;obtain⟨_,b,aS,ro,dG,cs,aO,aW,a9⟩:=aG.at bP;cases aW;have iq:=(bE b J J J).trans ((K b J).trans ((ar J).trans a9));have rH:hV (some 3) (i*3) (bd cX ag++cs) = .ok (.agg ⟨[(e.f:X),(e.t:X),(e.w:X)]⟩):=D0  (k:=3) (λ_=>rfl) bP;have aY:(AU (ag.take i) r)[e.f+1]? = some (hE (ag.take i) (e.f+1):Int):=ab7 J;have TV:=aev (ag.take i) (e.f+1);have y5:(ag.take i).length<=120:=ab
  have E:IntKind.wrap .i64 ((hE (ag.take i) (e.f+1):Int)+1)=(hE (ag.take i) (e.f+1):Int)+1:=jG J J;simp(disch:=omega)only[bl,iq,rH,P,f4,cv (J:e.f<1000000000000),hN aY,E,seval];refine⟨ab,?_⟩;have ko:((ag.take i).map λe=>(e.t:Int)).length=i:=ab
  have Hy:((ag.take i).map GE.w).length=i:=ab
  refine rm (oz.T ab) (aT _ _ _) J λI sN A=>?_;have TW:u I (U+1+1+1)=some (.cells [(r:X),(c:X),.slice (some ⟨U+1+1,0,none⟩) (r+1) (r+1),.slice aB a5 Z,.slice a2 L c2] false):=ab
  have TX:u I C=some (.cells [(e.f:X),(e.t:X),(e.w:X)] false):=ab
  refine cQ @TW @TX ?_;refine rm (xx.T λc a1=>?_) (aT _ _ _) J λbc HW sO=>?_
  ·grind
  have TY:u bc (U+1+1+1)=some (.cells [(r:X),(c:X),.slice (some ⟨U+1+1,0,none⟩) (r+1) (r+1),.slice (some ⟨C+1+1,0,some 1⟩) (((ag.take i).map λe=>(e.t:Int)).length+1) (((ag.take i).map λe=>(e.t:Int)).length+1),.slice a2 L c2] false):=ab
  refine bh @TY ?_;have mp:ag.take (i+1)=ag.take i++[e]:=by rw[ho,bP];rfl
  refine⟨ag.length-(i+1),J,i+1,_,_,rfl,J,by rw[cv J],aT _ _ _,?_,.inr ⟨C+1+1,C+1+1+1+1,J,J,J,J,J,?_,?_,?_,?_⟩,λd h1 ap I=>?_,J⟩
  ·rw[ar J,sO _ J (λe=>ab),ar J,ar J,A _ J (λe=>ab),ar J,aT,an3 hef,mp]
  ·grind
  ·grind
  ·grind
  all_goals grind
 ·obtain⟨Nf,Ng⟩:=B.fj;have t7:i=ag.length:=J
  subst t7;rw[hC]at Nf Ng B f4;refine bC.mk (azy r c U (U+1+1+1) (U+1+1) (U+1+1+1+1) (.slice aB a5 Z) (.slice a2 L c2) ag ap C) r ⟨0,rfl,J,rfl,P,by rw[axO];omega,λ_ _=>rfl,rfl⟩ ?_;rintro m _ I V ⟨k,rfl,hk,rfl,_,f4,A,rfl⟩;have P:=(A (U+1+1+1) J).trans P;rw[abv];unfold P5
  by_cases D:k<r
  ·have aY:=an4 (ag:=ag) D;have cd:=an5 (ag:=ag) D;have TV:=aev ag (k+1);have hyb:=u1 ag k;have E:IntKind.wrap .i64 ((hE ag (k+1):Int)+(dC ag k:Int))=(hE ag (k+1):Int)+(dC ag k:Int):=jG J J;simp(disch:=omega)only[bl,show(k:Int)<(r:Int) by omega,D,P,f4,cv (J:k<1000000000000),hN aY,hN cd,E,seval];refine⟨⟨ab,?_⟩,λh=>absurd trivial h⟩;refine⟨r-(k+1),J,k+1,rfl,J,rfl,?_,?_,λd I=>ab,rfl⟩
   ·grind
   ·rw[aT,ar7 D]
  ·have:k=r:=J
   subst this;have l5:=(A U J).trans ((bE U J J J).trans cJ);refine cQ @P @l5 ?_;rw[axP]at f4;have qg:n3 (F I U (.cells [(k:X),(c:X),.slice (some ⟨U+1+1,0,none⟩) (k+1) (k+1),.slice aB a5 Z,.slice a2 L c2] false)) U V (.slice aB a5 Z) (fs ag)/\n3 (F I U (.cells [(k:X),(c:X),.slice (some ⟨U+1+1,0,none⟩) (k+1) (k+1),.slice aB a5 Z,.slice a2 L c2] false)) U V (.slice a2 L c2) (gr ag):=by
    rcases B with⟨aW,aK,cf,dT⟩|⟨cI,bQ,eS,hH,iQ,hI,uh,cf,dT,cB,cE⟩
    ·exact⟨⟨none,.inl ⟨aW,cf,rfl⟩,λc e=>by cases e⟩,⟨none,.inl ⟨aK,dT,rfl⟩,λc e=>by cases e⟩⟩
    ·refine⟨⟨some cI,.inr ⟨cI,rfl,cf,?_⟩,λc e=>ab⟩,⟨some bQ,.inr ⟨bQ,rfl,dT,?_⟩,λc e=>ab⟩⟩
     ·rw[ar J,A cI J,hM];exact cB
     ·rw[ar J,A bQ J,hM];exact cE
   refine⟨λh=>absurd h J,λ_=>⟨⟨U+1+1,none,k+1,_,_,rfl,J,J,?_,qg.1,qg.2⟩,λd bj=>?_,J⟩⟩
   ·grind
   ·rw[ar J,A d J,bE d J J J,K d J,ar J]
def c8(n k i:Nat):Nat:=min i k*n / k
theorem ts(A:0<k)(i:Nat):c8 n k i<=n:=by refine Nat.div_le_of_le_mul ?_;exact sb J J
theorem uL(h:i<=j):c8 n k i<=c8 n k j:=by exact Nat.div_le_div_right (sb J J)
theorem aew(n k:Nat):c8 n k 0=0:=by unfold c8;simp
theorem aex(A:0<k):c8 n k k=n:=by unfold c8;rw[Nat.min_self];exact NA n A
def pJ(a H b W:Nat)(g:GE):al:=decide (a<=g.f/\g.f<a+H/\b<=g.t/\g.t<b+W)
def lN(ag:aa GE)(a H b W:Nat):aa GE:=(ag.filter (pJ a H b W)).map λg=>⟨g.f-a,g.t-b,g.w⟩
theorem Kv{a H W:Nat}(M:hg r c ag)(D:a+H<=r)(E:b+W<=c):hg H W (lN ag a H b W) where
 up:=by
  unfold lN kR;rw[tc];refine List.Pairwise.imp_of_mem (λ{x y} A cd h=>?_) (I9 _ M.up);have C:=of_decide_eq_true (nR.1 A).2;unfold mV at h ⊢
  grind
 rows:=λg B=>by
  obtain⟨x,A,rfl⟩:=fz.1 B;have C:=of_decide_eq_true (nR.1 A).2
  grind
 mi:=λg B=>by
  obtain⟨x,A,rfl⟩:=fz.1 B;have C:=of_decide_eq_true (nR.1 A).2
  grind
 bb:=by have:=M.bb;omega
 a1:=by have:=M.a1;omega
 len:=by unfold lN;rw[gn];exact h7 ab M.len
def yM(b W:Nat)(g:GE):al:=decide (b<=g.t/\g.t<b+W)
def SN(ag:aa GE)(a b W i:Nat):aa GE:=((eL ag (a+i)).filter (yM b W)).map λg=>⟨i,g.t-b,g.w⟩
theorem ajn(h:kR ag)(a H b W:Nat):ag.filter (pJ a (H+1) b W)=ag.filter (pJ a H b W)++(eL ag (a+H)).filter (yM b W):=by
 induction ag with
 |nil=>rfl
 |cons x ag A =>
  have A:=A (uA.1 h).2;unfold eL at A ⊢;rw[q4,q4,q4,A]
  by_cases K:x.f<a+H
  ·have aK:pJ a (H+1) b W x=pJ a H b W x:=by unfold pJ;grind
   grind
  ·have I:=ahe h;have aE:ag.filter (pJ a H b W)=[]:=by
    rw[zE];intro g D;unfold pJ
    grind
   have C:pJ a H b W x=false:=hD J;rw[aE,C]
   by_cases E:x.f=a+H
   ·have B:pJ a (H+1) b W x=yM b W x:=by unfold pJ yM;grind
    grind
   ·have B:pJ a (H+1) b W x=false:=hD J
    grind
theorem ak3(h:kR ag)(a H b W:Nat):lN ag a (H+1) b W=lN ag a H b W++SN ag a b W H:=by
 unfold lN SN;rw[ajn h,iK]
 congr 1
 apply oC;intro g A;have:=(nR.1 (show g∈eL ag (a+H)from ab)).2
 grind
theorem avf(ag:aa GE)(a b W:Nat):lN ag a 0 b W=[]:=by
 unfold lN;rw[zE.2];rfl;intro g _;unfold pJ
 grind
end Go.Proofs.YthlhhajnbgjfmaaGreat
