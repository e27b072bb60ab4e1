/- Parts of the proof: HwFn3: each statement bears its own conditions. -/
import Derived.Test.YthlhhajnbgjfmaaGreatRpHwFn2
namespace Go.Proofs.YthlhhajnbgjfmaaGreat
open Go Go.Ax
set_option linter.all false
set_option maxHeartbeats 1000000
set_option maxRecDepth 1000000
variable {U:Nat} {ai:aa GE} {s:al} {h:ae} {v:X} {N R:aP} {n:Nat} {l:aa Int} {r:Nat} {aL:aP} {i:Nat} {ba:X} {c:Nat} {a3 bv aC bp aD:X} {k:Nat} {ej a2:X} {p:Nat->al} {dd et:X} {ac:ae} {aZ:X} {Y:Nat} {fW:X} {ap ag:Nat} {bA:X} {a:aw Addr} {cF:X} {aB:aw Nat} {b j:Nat} {aK:aP} {q:Nat->al} {eL je gj gt nN kS:X} {f:Nat->Int} {x:Int} {bG:al} {ec dk cap:Nat} {g:GE} {w:Nat} {m:Int}
def Kn(s:al)(K:bN)(cz cE cm di hY oY:X)(au:ae)(a0:Nat):Prop:=ax au 0 di λb=>af (cV [(ad 0),(ad 0),(ad 0),(ad 0),ay] [(0,1,(ad 1)),(1,1,b),(2,1,cz)]) λc=>aN 2 au di λd=>af (cV [(ad 0),(ad 0),(ad 0),(ad 0),ay,(ad 0),ay,(ad 0),(ad 0),(ad 0),(ad 0),ay] [(0,5,c),(5,2,d),(7,1,cE),(8,1,cm),(9,1,(ad 4)),(10,1,oY)]) λe=>af (aS au 12 hY e) λf=>aN 12 f hY λg=>K g f a0
def aer:sr:=λs ah t1 t2 t3 h U K=>bH ah h U λa b c=>bX [(ad 0),(ad 0),(ad 0),(ad 0),ay,(ad 0),ay,(ad 0),(ad 0),(ad 0),(ad 0),ay] b c λd e f=>ax e 0 a λi=>bz .geq 3 i (ad 0) (ax e 0 a λl=>af (min2 true l (ad 8191)) λm=>cj m λn=>(Kn s K t1 t2 t3 a d n e f)) (Kn s K t1 t2 t3 a d (ad 0) e f)
theorem asv:uC 22 aer:=vK []
def S1:aa (aa Nat):=[[0,5,10,11,12]]
def Lq(s:al)(N:aP)(aL:aP)(R:aP)(co ee lE Mx s6:X)(au:ae)(a0:Nat):Prop:=cj s6 λa=>N [co,ee,lE,Mx,a] au a0
def Sl(s:al)(aC bA dd et ej:X)(h:ae)(U:Nat)(N:aP)(aL:aP)(R:aP):Prop:=cG ej et (d2 h 1 dd ej λc=>cG c aC (aV s 179 [bA,c] h U λe f g=>br e (cg 180 [c] f g λi j k=>bt .shr 3 c (.int .u64 6) λl=>hx 1 bA l λm=>bS j m λn=>c7 m n (bt .or 188 n i λo=>hx 1 bA l λp=>af (aS j 1 p o) λq=>(Lq s N aL R aC bA dd et ej q k)) 1 [f]) (Lq s N aL R aC bA dd et ej f g)) (Lq s N aL R aC bA dd et ej h U)) (aL [aC,bA,dd,et,ej] h U)
def fof:cO:=λs ah t1 h U K=>aV s 117 [ah] h U λa b c=>cP t1 λd=>bE (bU Q s S1 108 0) [ah,a,t1,d,(ad 0)] b c [(0,λe f g=>K (bb e 1) f g)] (λ_ _ _=>False)
theorem agc:bU Q s S1 108 0 [aC,bA,dd,et,ej] h U N [(0,aL)] R=Sl s aC bA dd et ej h U N aL R:=by kernel_rfl
theorem ahB:cX 108 fof:=cZ S1
def Qp:aa (aa Nat):=[[3,6,7,8]]
def Ko(s:al)(a3 bp ba bv:X)(h:ae)(U:Nat)(N:aP)(aL:aP)(R:aP):Prop:=cG bv ba (d2 h 1 bp bv λc=>aV s 183 [c] h U λd e f=>ln a3 d λg=>cj bv λi=>N [g,bp,ba,i] e f) (aL [a3,bp,ba,bv] h U)
def Ry:cU:=λs ah h U K=>cP ah λa=>bE (bU Q s Qp 111 0) [(ad 0),ah,a,(ad 0)] h U [(0,λb c d=>K (bb b 0) c d)] (λ_ _ _=>False)
theorem Pu:bU Q s Qp 111 0 [a3,bp,ba,bv] h U N [(0,aL)] R=Ko s a3 bp ba bv h U N aL R:=by kernel_rfl
theorem ab6:cW 111 Ry:=cY Qp
def aAj:cU:=λs ah h U K=>aV s 195 [ah] h U λa b c=>dY (sP [(.int .u64 0)] a a) b c λd e f=>K d e f
theorem agd:cW 117 aAj:=cY []
def ayu:cU:=λs ah h U K=>aV s 197 [ah] h U λa b c=>aV s 196 [a] b c λd e f=>K d e f
theorem aes:cW 119 ayu:=cY []
def least:sr:=λs ah t1 t2 t3 h U K=>bH ah h U λa b c=>bH t1 b c λd e f=>aN 5 e a λg=>bS e d λi=>aV s 283 [g,i,t2] e f λj k l=>bX [(ad 0)] k l λm n o=>af (aS n 1 m j) λp=>aV s 119 [t3] p o λq r t=>af (.ok (Value.func (.func 285) ⟨[]⟩ ⟨[a,d,m]⟩)) λaO=>aV s 284 [q,aO] r t λv w x=>af (du .not v) λy=>K y w x
def Qq:cO:=λs ah t1 h U K=>bz .geq 3 t1 (ad 0) (bt .shr 3 t1 (.int .u64 6) λb=>cP ah λc=>bt .lss 3 b c λd=>K d h U) (K (.bool false) h U)
theorem Z0:cX 179 Qq:=cZ []
def ahC:cU:=λs ah h U K=>af (ou (.int .u64) ah) λa=>bt .and 238 a (.int .u64 63) λb=>bt .shl 188 (.int .u64 1) b λc=>K c h U
theorem ayv:cW 180 ahC:=cY []
def Rz:aa (aa Nat):=[[0,3]]
def ab7(s:al)(aC a3:X)(h:ae)(U:Nat)(N:aP)(aL:aP)(R:aP):Prop:=bz .eql 188 aC (.int .u64 0) (aL [aC,a3] h U) (bt .sub 188 aC (.int .u64 1) λb=>bt .and 188 aC b λc=>cj a3 λd=>N [c,d] h U)
def ayw:cU:=λs ah h U K=>bE (bU Q s Rz 183 0) [ah,(ad 0)] h U [(0,λa b c=>K (bb a 1) b c)] (λ_ _ _=>False)
theorem asw:bU Q s Rz 183 0 [aC,a3] h U N [(0,aL)] R=ab7 s aC a3 h U N aL R:=by kernel_rfl
theorem avS:cW 183 ayw:=cY Rz
def RA:cU:=λs ah h U K=>af (min2 false ah (ad 0)) λa=>af (min2 true a (ad 4096)) λb=>ln b (ad 63) λc=>bt .shr 3 c (.int .u64 6) λd=>K d h U
theorem ab8:cW 195 RA:=cY []
def RB:cU:=λs ah h U K=>bz .eql 87 ah ay (K ay h U) (dY (fc 0 [] []) h U λb c d=>dG (dO (dM 1 c d b ah)) λe f g=>K e f g)
theorem ab9:cW 139 RB:=cY []
def asx:cU:=λs ah h U K=>aV s 287 [ay,ah] h U λa b c=>K a b c
theorem Z1:cW 196 asx:=cY []
def each:cU:=λs ah h U K=>bH ah h U λa b c=>af (.ok (Value.func (.func 288) ⟨[]⟩ ⟨[a]⟩)) λd=>K d b c
theorem Sm:cW 197 each:=cY []
def GY:aa (aa Nat):=[[0,6,7,8],[0,4,5,6,7,8]]
def Da(s:al)(N:aP)(aK:aP)(R:aP)(co di ee ev fv hY:X)(au:ae)(a0:Nat):Prop:=bt .shr 188 di (.int .u64 1) λa=>cj ee λb=>N [co,a,b,ev,fv,hY] au a0
def Qr(s:al)(aC aZ bA bp ba bv:X)(h:ae)(U:Nat)(N:aP)(aK:aP)(R:aP):Prop:=bz .neq 188 aZ (.int .u64 0) (bt .and 188 aZ (.int .u64 1) λb=>bz .eql 188 b (.int .u64 1) (eQ Q s (hU h U [bA] aC) λd e f=>af (du .not d) λg=>br g (R [aC,aZ,bA,bp,ba,bv] e f) (Da s N aK R aC aZ bA bp ba bv e f)) (Da s N aK R aC aZ bA bp ba bv h U)) (aK [aC,aZ,bA,bp,ba,bv] h U)
def Db(s:al)(aC bp ba bv:X)(h:ae)(U:Nat)(N:aP)(aL:aP)(R:aP):Prop:=cG bv ba (d2 h 1 bp bv λc=>bt .shl 3 bv (.int .u64 6) λd=>bE (bU Q s GY 288 1) [aC,c,d,bp,ba,bv] h U [(2,λe f g=>cj (bb e 5) λi=>N [(bb e 0),(bb e 3),(bb e 4),i] f g)] (λj k l=>R [(bb j 0),(bb j 3),(bb j 4),(bb j 5)] k l)) (aL [aC,bp,ba,bv] h U)
def Lr:cO:=λs ah t1 h U K=>bS h t1 λa=>cP a λb=>bE (bU Q s GY 288 0) [ah,a,b,(ad 0)] h U [(0,λc d e=>K (.tuple ⟨[]⟩) d e)] (λf g i=>K (.tuple ⟨[]⟩) g i)
theorem aca:bU Q s GY 288 1 [aC,aZ,bA,bp,ba,bv] h U N [(2,aK)] R=Qr s aC aZ bA bp ba bv h U N aK R:=by kernel_rfl
theorem GB:bU Q s GY 288 0 [aC,bp,ba,bv] h U N [(0,aL)] R=Db s aC bp ba bv h U N aL R:=by kernel_rfl
theorem RC:cX 288 Lr:=cZ GY
def Qs:aa (aa Nat):=[[0,1,4,7,8]]
def Z2(s:al)(aC aD aZ ba bv:X)(h:ae)(U:Nat)(N:aP)(aL:aP)(R:aP):Prop:=cG bv ba (d2 h 1 aC bv λc=>eQ Q s (hU h U [c] aD) λd e f=>br d (R [aC,aD,bv,ba,bv] e f) (cj bv λg=>N [aC,aD,aZ,ba,g] e f)) (aL [aC,aD,aZ,ba,bv] h U)
def aet:cO:=λs ah t1 h U K=>cP ah λa=>bE (bU Q s Qs 245 0) [ah,t1,(ad 0),a,(ad 0)] h U [(0,λb c d=>K (ad (-1)) c d)] (λe f g=>K (bb e 2) f g)
theorem aov:bU Q s Qs 245 0 [aC,aD,aZ,ba,bv] h U N [(0,aL)] R=Z2 s aC aD aZ ba bv h U N aL R:=by kernel_rfl
theorem asy:cX 245 aet:=cZ Qs
def OT(s:al)(K:bN)(cz cE cm T3:X)(au:ae)(a0:Nat):Prop:=br T3 (K (ad 0) au a0) (ax au 4 cm λb=>cP b λc=>jY c (ad 0) (ax au 4 cm λf=>ax au 1 cm λi=>bt .mul 3 cz i λj=>ln j cE λk=>bt .rem 3 k c λl=>d2 au 1 f l λn=>bt .shl 2 n (.int .u64 12) λo=>bt .or 2 o cE λp=>K p au a0) (bt .shl 2 (ad 0) (.int .u64 12) λq=>bt .or 2 q cE λr=>K r au a0))
def acb:ge:=λs ah t1 t2 h U K=>bH ah h U λa b c=>aV s 277 [t1,(ad 8192)] b c λd e f=>af (du .not d) λg=>br g (OT s K t1 t2 a (.bool true) e f) (ax e 1 a λj=>bt .sub 3 j (ad 1) λk=>aV s 277 [t2,k] e f λl m n=>af (du .not l) λo=>(OT s K t1 t2 a o m n))
theorem aow:gp 368 acb:=gu []
def j8(x:Nat):aa X:=[.int .u64 (x:Int)]
def sV(w:Nat)(U:Nat)(h:ae):bN:=λr ac Y=>∃b c aB,r = .slice (some ⟨b,0,aB⟩) 1 c/\U<=b/\b<Y/\u ac b=some (.cells [.int .u64 (w:Int)] false)/\aA U h ac/\U<=Y
theorem sV.rd{r:X}(H:sV w U h r ac Y):cL ac Y r j8 [w]:=by obtain⟨b,c,aB,rfl,C,B,A,_⟩:=H;exact⟨_,_,rfl,λ_=>⟨b,aB,false,B,rfl,A⟩⟩
theorem Z3(B:1<=n)(A:n<=64):aE Q s 195 [(n:X)] h U (λr ac Y=>r = .int .i64 1/\ac=h/\Y=U):=by
 refine ab8 ?_;unfold RA;have e:IntKind.wrap .i64 ((n:Int)+63)=((n+63:Nat):Int):=cD J;simp(disch:=omega)only[bk,show max (n:Int) 0=n by omega,show min (n:Int) 4096=n by omega,e,F6,seval]
 grind
theorem aeu(B:1<=n)(A:n<=64):aE Q s 117 [(n:X)] h U (sV 0 U h):=by refine agd ?_;refine(Z3 B A).mono ?_;rintro r E D ⟨rfl,C,aK⟩;rw[C,aK];show dY (sP [.int .u64 0] (((1:Nat):X)) (((1:Nat):X))) h U _;refine m6 ?_;exact⟨U,1,none,rfl,J,J,ab,aM,J⟩
theorem Yw(A:k<64):aE Q s 179 [.slice a 1 c,(k:X)] h U (λr ac Y=>r = .bool true/\ac=h/\Y=U):=by
 refine Z0 ?_;unfold Qq;refine bl @F6 ?_;rw[show k / 64=0 by omega]
 grind
theorem aev(A:k<64):aE Q s 180 [(k:X)] h U (λr ac Y=>r = .int .u64 ((2 ^ k:Nat):Int)/\ac=h/\Y=U):=by
 refine ayv ?_;unfold ahC;have e:IntKind.wrap .u64 (k:Int)=(k:Int):=Dm J;have aK:∀{t},bin Q .and t (.int .u64 (k:Int)) (.int .u64 63) = .ok (.int .u64 (k:Int)):=λ{t}=>by rw[show(63:Int)=((63:Nat):Int)from rfl,F5 J J,show(63:Nat)=2 ^ 6-1 from rfl,Nat.and_two_pow_sub_one_eq_mod,Jy J]
 simp(disch:=omega)only[bk,e,aK,anr k A,seval]
def f6(l:aa Nat):aa Int:=l.map λx:Nat=>(x:Int)
def nr(l:aa Nat)(i:Nat):al:=decide (i∈l)
def OfJ(n b c:Nat)(aB:aw Nat)(v:X)(l:aa Nat)(U:Nat)(h:ae)(m:Nat)(aF:aa X)(ac:ae)(Y:Nat):Prop :=
 ∃i,m=l.length-i/\i<=l.length/\aF=[(n:X),.slice (some ⟨b,0,aB⟩) 1 c,v,(l.length:X),(i:X)]/\u ac b=some (.cells [.int .u64 (mk n (nr (l.take i)):Int)] false)/\U<=b/\b<Y/\aA U h ac/\U<=Y
theorem xb(h:n<=64):mk n p<18446744073709551616:=Jt (afL n p) (Nat.pow_le_pow_right   J h)
theorem Z4{l:aa Nat}{x:Nat}(A:l[i]? = some x)(j:Nat):nr (l.take (i+1)) j=(nr (l.take i) j||decide (j=x)):=by
 unfold nr;rw[gW,A,<-Bool.decide_or]
 grind
theorem ayx{l:aa Nat}(au:1<=n)(M:n<=64)(aI:cL h U v c4 (f6 l))(bo:∀x∈l,x<n)(fO:l.length<1000000):aE Q s 108 [(n:X),v] h U (sV (mk n (nr l)) U h):=by
 refine ahB ?_;obtain⟨a,cap,rfl,a1⟩:=id aI;unfold fof;refine(aeu au M).mono ?_;rintro r ao bQ ⟨b,c,aB,rfl,A,B,aY,E,C⟩;refine aG ?_;refine bE.mk (OfJ n b c aB (.slice a (f6 l).length cap) l U h) l.length ⟨0,J,J,by unfold f6;grind,by rw[sz,show mk n (nr [])=0 from(by rw[<-P5 n];exact Dl λi _=>by simp[nr])];omega,A,B,E,C⟩ ?_;rintro _ _ ac Y ⟨i,rfl,ag,rfl,D,A,B,E,C⟩;rw[agc];unfold Sl;refine aG ?_;refine⟨λV=>?_,λeG=>?_⟩
 ·obtain⟨x,bd⟩:=dH V;have K:(f6 l)[i]? = some (x:Int):=by unfold f6;grind
  obtain⟨_,b3,li,bG,c1,Z,I,L⟩:=aI.at K;cases I;rw[iF]at L;have P:=bo x (kk bd);simp(disch:=omega)only[bk,(E b3 Z).trans L,ix K,show(x:Int)<(n:Int) by omega,seval];refine⟨?_,λh=>absurd trivial h⟩;refine(Yw J).mono ?_;rintro r aT bT ⟨rfl,I,aK⟩;rw[I,aK];refine aG ?_;refine(aev J).mono ?_;rintro r aT bT ⟨rfl,I,aK⟩;rw[I,aK];refine⟨cC _,?_⟩;have fI:bin Q .or 188 (.int .u64 (mk n (nr (l.take i)):Int)) (.int .u64 ((2 ^ x:Nat):Int)) = .ok (.int .u64 (mk n (nr (l.take (i+1))):Int)):=by
   rw[adA P,arq (xb M) (xb M),axW]
   congr 3
   exact Dl λj _=>(Z4 bd j).symm
  simp(disch:=omega)only[bk,F6,show x / 64=0 by omega,D,fI,cD (J:i<1000000000000),seval];unfold Lq;refine bl (cD (J:i<1000000000000)) ?_;exact⟨_,J,i+1,rfl,J,rfl,aR _ _ _,A,B,E.set A,C⟩
 ·have:i=l.length:=J
  subst this;rw[ic]at D;exact⟨b,c,aB,rfl,A,B,D,E,C⟩
def OnJ(n:Nat)(p:Nat->al)(h:ae)(U:Nat)(m:Nat)(aF:aa X)(ac:ae)(Y:Nat):Prop :=
 ∃(q:Nat->al) (k:Nat),m=(en n q).length/\k+(en n q).length=(en n p).length/\aF=[.int .u64 (mk n q:Int),(k:X)]/\ac=h/\Y=U
theorem vf(n:Nat)(p:Nat->al):(en n p).length<=n:=by
 unfold en
 grind
theorem asz(L:n<=63):aE Q s 183 [.int .u64 (mk n p:Int)] h U (λr ac Y=>r = .int .i64 ((en n p).length:Int)/\ac=h/\Y=U):=by
 refine avS ?_;refine bE.mk (OnJ n p h U) (en n p).length ⟨p,0,rfl,J,rfl,rfl,rfl⟩ ?_;rintro _ _ _ _ ⟨q,k,rfl,I,rfl,rfl,rfl⟩;rw[asw];unfold ab7;have M:=vf n p
 by_cases A:mk n q=0
 ·rw[A];refine m6 ?_;have:en n q=[]:=au4 (Gu.1 A);rw[this]at I;rw[this];exact⟨ab,λh=>absurd h (by simp)⟩
 ·obtain⟨B,D,aK⟩:=Zu n q A;have C:(((mk n q:Nat):Int) == 0)=false:=ab
  have E:IntKind.wrap .u64 ((mk n q:Int)-1)=((mk n q-1:Nat):Int):=by rw[show((mk n q:Nat):Int)-1=((mk n q-1:Nat):Int) by omega];exact Dm (by have:=xb (p:=q) (J:n<=64);omega)
  have K:bin Q .and 188 (.int .u64 ((mk n q:Nat):Int)) (.int .u64 ((mk n q-1:Nat):Int)) = .ok (.int .u64 ((mk n B:Nat):Int)):=by rw[F5 (xb J) (by have:=xb (p:=q) (J:n<=64);omega),D]
  refine Hf @C @E @K (cD (J:k<1000000000000)) ?_;exact⟨_,J,B,k+1,rfl,J,rfl,rfl,rfl⟩
theorem aox(C:n<=63)(M:cL h U v j8 [mk n p]):aE Q s 111 [v] h U (λr ac Y=>r = .int .i64 ((en n p).length:Int)/\ac=h/\Y=U):=by
 refine ab6 ?_;obtain⟨a,cap,rfl,E⟩:=id M;obtain⟨b,aB,bG,V,rfl,A⟩:=E (by simp);have Z:=vf n p;unfold Ry;refine aG ?_;refine bE.mk (λm B ac Y=>ac=h/\Y=U/\((m=1/\B=[.int .i64 0,.slice (some ⟨b,0,aB⟩) 1 cap,.int .i64 1,.int .i64 0])\/(m=0/\B=[.int .i64 ((en n p).length:Int),.slice (some ⟨b,0,aB⟩) 1 cap,.int .i64 1,.int .i64 1]))) 1 ab ?_;rintro _ _ ac Y ⟨K,I,L⟩;rw[K,I];rcases L with⟨rfl,rfl⟩|⟨rfl,rfl⟩
 ·rw[Pu];unfold Ko;have A:u h b=some (.cells [.int .u64 (mk n p:Int)] bG):=A;refine bl @A ?_;refine⟨?_,ab⟩;refine(asz C).mono ?_;rintro r P bT ⟨rfl,D,aK⟩;rw[D,aK];refine aG ?_;exact⟨0,J,.inr ⟨rfl,by rw[show IntKind.wrap .i64 (0+((en n p).length:Int))=((en n p).length:Int) by rw[Int.zero_add];exact ie _ J];rfl⟩⟩
 ·rw[Pu];unfold Ko;simp(disch:=omega)only[bk,seval]
  grind
def HW(l:aa Nat):Nat:=match l with | []=>0|x::_=>x
theorem RD{B c2:Nat}{A:aw Nat}{rd:al}{l D:aa X}(I:l.length=n)(L:u h b=some (.cells D rd))(C:u h B=some (.cells l bG))(E:0<n)(M:n<1000000):
  dM 1 h U (.slice (some ⟨b,0,none⟩) 0 0) (.slice (some ⟨B,0,A⟩) n c2) = .ok (.val (.slice (some ⟨U,0,some 1⟩) n n) (T h U (.cells l false)) (U+1)):=by
 subst I;have K:lr h (some ⟨B,0,A⟩) (l.length.mul 1) (λnew=>gZ 1 h U (some ⟨b,0,none⟩) 0 0 l.length new)=gZ 1 h U (some ⟨b,0,none⟩) 0 0 l.length l:=by
  rw[show l.length.mul 1=l.length from z9 _,rD C E J]
  grind
 show lr h (some ⟨B,0,A⟩) (l.length.mul 1) (λnew=>gZ 1 h U (some ⟨b,0,none⟩) 0 0 l.length new)=_;rw[K];unfold gZ;rw[show Nat.ble (Nat.add 0 l.length) 0=false by
  cases C:Nat.ble (Nat.add 0 l.length) 0 with
  |false=>rfl
  |true=>have:=lX C;grind]
 rw[show(Nat.ble (Nat.mul (Nat.add 0 l.length) 1) 1000000&&Nat.ble (Nat.add 0 l.length) 1000000)=true by
  simp only[eo,pK]
  grind]
 unfold pU;simp only[uT L];rw[show m8 (Nat.mul 0 1) (mY D 0)=some [] by rw[x5,lY];rfl];show pT h U 1 (ks [] l) (0+l.length)=_;rw[jK,sy,iE];exact pN J
theorem Al{P:Program}{t:TypeId}(A:nD P t=true)(a:aw Addr)(n c:Nat):bin P .eql t (.slice a n c) (.slice none 0 0) = .ok (.bool a.isNone):=by
 show R.of "compared" (pd P t (.slice a n c) (.slice none 0 0)) _=_;unfold pd;cases a <;> simp[A,Sw,ot]
theorem ahD:nD Tryz.prog 29=true:=by kernel_rfl
theorem ahE:nD Tryz.prog 87=true:=by kernel_rfl
theorem aoy(I:cL h U v j8 [w]):aE Q s 139 [v] h U (sV w U h):=by
 refine ab9 ?_;obtain⟨a,cap,rfl,E⟩:=id I;obtain⟨b,aB,bG,C,rfl,A⟩:=E (by simp);have A:u h b=some (.cells [.int .u64 (w:Int)] bG):=A;unfold RB;have B:aA U h (T h U (.cells [] false)):=aM
 simp(disch:=omega)only[bk,Al ahE,@List.length_cons Nat,@List.length_nil Nat,seval];refine⟨λD=>(by cases D),λ_=>?_⟩;rw[RD (n:=1)  rfl (aR _ _ _) ((B b C).trans A) J J];exact⟨U+1,1,some 1,rfl,J,J,ab,aM,J⟩
theorem FU(K:cL h U v c4 l)(I:l.length<1000000):
  aE Q s 88 [v] h U (λr ac Y=>eJ ac U Y r c4 l/\aA U h ac/\U<=Y):=by
 refine Zy ?_;obtain⟨a,cap,rfl,E⟩:=id K;unfold Qa;simp(disch:=omega)only[bk,Al ahD,seval];refine⟨λD=>⟨?_,aM⟩,λD=>?_⟩
 ·have:l=[]:=ab
  subst this;exact⟨none,0,rfl,λh=>absurd rfl h⟩
 have A:aA U h (T h U (.cells [] false)):=aM
 rcases JF (l=[])with e|e
 ·subst e;exact⟨⟨some ⟨U,0,none⟩,0,rfl,λh=>absurd rfl h⟩,A,J⟩
 ·obtain⟨b,aB,bG,C,rfl,B⟩:=E e;rw[iF]at B;rw[RD  (u2 _) (aR _ _ _) ((A b C).trans B) ab I];refine⟨⟨some ⟨U+1,0,some 1⟩,l.length,rfl,λ_=>⟨U+1,some 1,false,J,J,rfl,?_⟩⟩,aM,J⟩
  grind
noncomputable def If:Code:=(vp Tryz.prog 287).1
noncomputable def Ig:Code:=(vp Tryz.prog 287).2
theorem RE:R6 Q (.int .i64 0) 287 If Ig:=⟨by kernel_rfl,by kernel_rfl,by kernel_rfl,by kernel_rfl,by kernel_rfl⟩
theorem Ls(k:Nat)(p:Nat->al):en (k+1) p=en k p++(if p k then[k]else[]):=by
 unfold en;rw[rv,sv]
 grind
theorem avT(D:k<=n)(h:∀i,k<=i->i<n->p i=false):en n p=en k p:=by
 induction n with
 |zero =>
  grind
 |succ n B =>
  by_cases e:k=n+1
  ·rw[e]
  ·rw[Ls,h n J J,B J (λi A C=>h i A J)];simp
structure My (l p:Nat) (a b:Code) (h:ae) (U:Nat) (aAk:aa Int) (o:X) (aQ:aw Nat):Prop where
 c:lj l p a b h o
 g:g0 h c4 o aAk aQ
 b:∀c,aQ=some c->c≠l/\c≠p/\c<U
def EaJ(l p n ap I3:Nat)(q:Nat->al)(ki:X)(h:ae)(m:Nat)(aF:aa X)(ac:ae)(Y:Nat):Prop :=
 ∃(k:Nat) (o:X) (aQ:aw Nat),m=n-k/\k<=n/\aF=[.func (.yield l) ⟨[]⟩ ⟨[]⟩,.int .u64 (mk (n-k) (λi=>q (i+k)):Int),(k:X),ki,.int .i64 1,.int .i64 0]/\My l p If Ig ac Y (f6 (en k q)) o aQ/\(∀c,aQ=some c->ap<=c)/\(∀c,c<ap->c≠l->c≠p->u ac c=u h c)/\ap<=Y
theorem asA{l p Z:Nat}{ki:X}(bw:n<=63)(aI:cL h U ki j8 [mk n q])(q6:u h Z=some (.cells [ki] false))(C:My l p If Ig h U [] (.slice none 0 0) none)(V:l≠p)(bo:l<U)(a6:p<U)(eh:∀b,b<U->u h b=u h b):
  aE Q s 288 [.func (.yield l) ⟨[]⟩ ⟨[]⟩,bf Z] h U (λ_ ac Y=>∃o A,My l p If Ig ac Y (f6 (en n q)) o A/\(∀c,A=some c->U<=c)/\(∀c,c<U->c≠l->c≠p->u ac c=u h c)/\U<=Y):=by
 refine RC ?_;obtain⟨a,cap,rfl,a1⟩:=id aI;obtain⟨b,aB,bG,aW,rfl,aY⟩:=a1 (by simp);have aY:u h b=some (.cells [.int .u64 (mk n q:Int)] bG):=aY;unfold Lr;simp(disch:=omega)only[bk,q6,@List.length_cons Nat,@List.length_nil Nat,seval];refine bE.mk (λm aF ac Y=>(m=1/\aF=[.func (.yield l) ⟨[]⟩ ⟨[]⟩,.slice (some ⟨b,0,aB⟩) 1 cap,.int .i64 1,.int .i64 0]/\ac=h/\Y=U)\/(m=0/\aF=[.func (.yield l) ⟨[]⟩ ⟨[]⟩,.slice (some ⟨b,0,aB⟩) 1 cap,.int .i64 1,.int .i64 1]/\∃o A,My l p If Ig ac Y (f6 (en n q)) o A/\(∀c,A=some c->U<=c)/\(∀c,c<U->c≠l->c≠p->u ac c=u h c)/\U<=Y)) 1 ab ?_;rintro m aF ac Y (⟨rfl,rfl,gl,eM⟩|⟨rfl,rfl,ef⟩)
 ·rw[GB,gl,eM];unfold Db;have M:bin Q .shl 3 (.int .i64 0) (.int .u64 6) = .ok (.int .i64 0):=rfl;refine cN @aY @M ?_;refine⟨?_,λh=>absurd trivial h⟩;refine bE.mk (EaJ l p n U Z q (.slice (some ⟨b,0,aB⟩) 1 cap) h) n ⟨0,.slice none 0 0,none,J,J,rfl,C,ab,ab,J⟩ ?_;rintro _ _ aT vN ⟨k,o,A,rfl,hk,rfl,D,I,K,B⟩;rw[aca];unfold Qr
  by_cases au:mk (n-k) (λi=>q (i+k))=0
  ·have E:en n q=en k q:=avT hk λi h1 ao=>by
    have:=Gu.1 au (i-k) J
    grind
   have aL:((mk (n-k) (λi=>q (i+k)):Nat):Int)=0:=J
   refine bl @aL ?_;exact⟨0,J,.inr ⟨rfl,rfl,o,A,by rw[E];exact D,I,K,B⟩⟩
  ·have BP:k<n:=by
    rcases jJ k n with h|h
    ·exact h
    ·exact absurd (by rw[show n-k=0 by omega];rfl) au
   obtain⟨r,bc⟩:∃r,n-k=r+1:=⟨n-k-1,J⟩
   have aU:(((mk (n-k) (λi=>q (i+k)):Nat):Int) == 0)=false:=ab
   have aK:bin Q .and 188 (.int .u64 ((mk (n-k) (λi=>q (i+k)):Nat):Int)) (.int .u64 1) = .ok (.int .u64 (if q k then 1 else 0)):=by
    rw[show(1:Int)=((1:Nat):Int)from rfl,F5 (xb J) J,Js,bc,adC,iE]
    grind
   have cc:mk (n-k) (λi=>q (i+k)) / 2=mk (n-(k+1)) (λi=>q (i+(k+1))):=by
    rw[bc,adB,show n-(k+1)=r by omega]
    grind
   have d6:bin Q .shr 188 (.int .u64 ((mk (n-k) (λi=>q (i+k)):Nat):Int)) (.int .u64 1) = .ok (.int .u64 ((mk (n-(k+1)) (λi=>q (i+(k+1))):Nat):Int)):=by rw[Pb,cc]
   cases L:q k with
   |true =>
    rw[L]at aK;refine cN @aU @aK ?_;refine au5 mh RE  (λ_=>rfl) (λ_=>rfl) (x:=(k:Int)) rfl rfl D.c D.g V J J D.b (by unfold f6;rw[gX];have:=vf k q;omega) λa9 mg P hG4 ul=>?_;refine aG ?_;unfold Da;refine cN @d6 (cD (J:k<1000000000000)) ?_;refine⟨n-(k+1),J,k+1,mg,some (vN+1),rfl,J,rfl,⟨P,?_,ab⟩,ab,ab,J⟩
    ·rw[Ls,L];show g0 a9 c4 mg (f6 (en k q++[k])) _;rw[show f6 (en k q++[k])=f6 (en k q)++[(k:Int)] by unfold f6;grind];exact hG4
    all_goals grind
   |false =>
    rw[L]at aK;have Uh:bin Q .and 188 (.int .u64 ((mk (n-k) (λi=>q (i+k)):Nat):Int)) (.int .u64 1) = .ok (.int .u64 0):=aK;refine cN @aU @Uh ?_;unfold Da;refine cN @d6 (cD (J:k<1000000000000)) ?_;refine⟨n-(k+1),J,k+1,o,A,rfl,J,rfl,⟨D.c,?_,D.b⟩,I,K,B⟩;rw[Ls,L];simp only[nB,fg,hz];exact D.g
 ·rw[GB];unfold Db;refine aG ?_;exact λ_=>ef
def age(l:aa Int)(U:Nat)(h:ae):bN:=λr ac Y=>∃aQ,g0 ac c4 r l aQ/\(∀c,aQ=some c->U<=c/\c<Y)/\aA U h ac/\U<=Y
theorem asB(K:n<=63)(D:cL h U v j8 [mk n q]):aE Q s 119 [v] h U (age (f6 (en n q)) U h):=by
 refine aes ?_;obtain⟨a,cap,rfl,I⟩:=id D;refine Sm ?_;unfold each;refine aG ?_;refine Z1 ?_;refine Yi mh RE λC Z bK=>?_;have B:cL C (U+1+1+1) (.slice a [mk n q].length cap) j8 [mk n q]:=by
  refine(D.F (Y:=U) (ac:=C) (λc I=>?_) J).F aM J
  grind
 refine(asA K B ab ⟨Z,.nil,ab⟩ J J J ab).mono ?_;rintro _ ao M ⟨o,P,A,L,V,E⟩;refine⟨o,A.c,λx=>⟨P,A.g.F ab,λc e=>⟨ab,(A.b c e).2.2⟩,aM,J⟩⟩
 all_goals grind
def GZ(s:al)(K:bN)(cz cE cm Ui:X)(au:ae)(a0:Nat):Prop:=br Ui (K (.tuple ⟨[(.pointer none),(ad 3)]⟩) au a0) (jw 5 au 0 cm λb=>jw 2 au 5 cm λd=>aV s 114 [b,d] au a0 λe f g=>af (cp e 0) λi=>af (cp e 1) λj=>bX [(ad 0),(ad 0),ay,ay,ay] f g λk l m=>af (aS l 5 k i) λn=>ax n 11 cm λp=>cg 122 [p] n m λq r t=>af (cV [(ad 0),(ad 0)] [(0,1,cz),(1,1,cE)]) λaO=>bn 0 cm λv=>aN 5 r v λw=>jt 5 v w (bn 7 cm λx=>bS r x λy=>c7 x y (bn 8 cm λz=>bS r z λbC=>c7 z bC (af (cV [(ad 0),(ad 0)] [(0,1,y),(1,1,bC)]) λbV=>bn 10 cm λbM=>bS r bM λbg=>c7 bM bg (af (cV [(ad 0),(ad 0),(ad 0),(ad 0),(ad 0),(ad 0),ay,(ad 0),(ad 0),(ad 0),ay,(ad 0),(ad 0),ay,ay,ay,(ad 0),(ad 0),ay,ay,ay,ay,ay,(ad 0),(.map none),(ad 0),(ad 0),(ad 0),(ad 0),(ad 0),ay,ay,ay,(ad 0),(ad 0),ay,ay,ay,(.bool false),(.bool false),ay,(.map none),(ad 0),(.map none),(.bool false)] [(0,2,aO),(2,5,w),(7,2,bV),(9,1,bg),(10,1,q),(23,1,(ad 1)),(25,1,(ad 1))]) λbW=>bH bW r t λb7 bI cJ=>bn 0 cm λcB=>ax bI 4 cB λde=>aV s 88 [de] bI cJ λeN am an=>af (bs b7) λeU=>bn 2 eU λgG=>bn 4 gG λgU=>af (aS am 1 gU eN) λgL=>aN 5 gL k λio=>ax gL 7 cm λgH=>ax gL 8 cm λlQ=>aV s 123 [io,gH,lQ,cz,cE] gL an λlR oX qw=>af (bs b7) λbm=>bn 11 bm λqz=>af (aS oX 5 qz lR) λbe=>af (bs b7) λi1=>jw 5 be 11 i1 λgf=>aV s 124 [gf] be qw λbi xP pB=>af (bs b7) λlS=>bn 16 lS λjC=>af (aS xP 6 jC bi) λv7=>dY (.ok .map) v7 pB λaQ uD eV=>dY (.ok .map) uD eV λB9 qx kW=>dY (.ok .map) qx kW λVM VN fT=>af (bs b7) λqt=>bn 24 qt λVO=>af (aS VN 1 VO aQ) λqu=>af (bs b7) λgC=>bn 41 gC λhj=>af (aS qu 1 hj B9) λgw=>af (bs b7) λtp=>bn 43 tp λoU=>af (aS gw 1 oU VM) λE0=>bz .eql 3 cE (ad 0) (bn 0 cm λlm=>ax E0 1 lm λcI=>ax E0 7 cm λoQ=>cg 126 [cI,oQ,cz] E0 fT λaDX c6 aDY=>bn 7 cm λVP=>bS c6 VP λaC1=>c7 VP aC1 (cj cz λcs=>cg 126 [cI,aC1,cs] c6 aDY λaDZ aC2 qr=>bn 0 cm λn1=>aN 5 aC2 n1 λdh=>jt 5 n1 dh (cg 125 [dh,aDX,aDZ] aC2 qr λii VQ aD0=>af (bs b7) λaD1=>bn 28 aD1 λaD2=>af (aS VQ 5 aD2 ii) λVD=>af (bs b7) λaD3=>jw 5 VD 28 aD3 λaD4=>af (bs b7) λaD5=>bn 33 aD5 λaD6=>af (aS VD 5 aD6 aD4) λaCU=>aV s 127 [b7,(ad 0),(.bool false)] aCU aD0 λaCR gF ET=>K (.tuple ⟨[b7,(ad 0)]⟩) gF ET) 2 [c6,E0]) 1 [E0]) (K (.tuple ⟨[b7,(ad 0)]⟩) E0 fT)) 1 [n]) 1 [n]) 1 [n]) 1 [n])
def ahF:ge:=λs ah t1 t2 h U K=>bH ah h U λa b c=>aN 12 b a λd=>aV s 121 [d] b c λe f g=>mi e (K (.tuple ⟨[(.pointer none),e]⟩) f g) (cG t1 (ad 0) (GZ s K t1 t2 a (.bool true) f g) (ax f 7 a λl=>bz .geq 3 t1 l (GZ s K t1 t2 a (.bool true) f g) (cG t2 (ad 0) (GZ s K t1 t2 a (.bool true) f g) (ax f 8 a λp=>bt .geq 3 t2 p λq=>(GZ s K t1 t2 a q f g)))))
theorem ayy:gp 59 ahF:=gu []
def RF(s:al)(K:bN)(cz cE cm di ee lE s7:X)(au:ae)(a0:Nat):Prop:=br s7 (af (cV [(ad 0),(ad 0),ay,ay,ay] []) λa=>af (cV [(ad 0),(ad 0)] []) λb=>af (cV [(ad 0),(ad 0)] []) λc=>aV s 203 [a,b,c] au a0 λd e f=>af (aS e 5 lE d) λg=>aN 5 g lE λi=>K i g f) (ax au 0 ee λk=>cg 204 [k,cz,cm] au a0 λl m n=>bn 1 ee λo=>bS m o λp=>c7 o p (cg 204 [p,cE,di] m n λq r t=>aN 5 r ee λaO=>jt 5 ee aO (cg 203 [aO,l,q] r t λv w x=>af (aS w 5 lE v) λy=>aN 5 y lE λz=>K z y x) 2 [m,au]) 1 [au])
def ahG:xO:=λs ah t1 t2 t3 f1 h U K=>bH ah h U λa b c=>bX [(ad 0),(ad 0),ay,ay,ay] b c λd e f=>aN 5 e a λg=>aV s 201 [g] e f λi j k=>af (du .not i) λl=>br l (RF s K t1 t2 t3 f1 a d (.bool true) j k) (aV s 202 [t1,t2,t3,f1] j k λm n o=>af (du .not m) λp=>(RF s K t1 t2 t3 f1 a d p n o))
theorem ayz:zG 123 ahG:=BH []
def Sn:aa (aa Nat):=[[2,3,20,21,22]]
def Dq(s:al)(N:aP)(aL:aP)(R:aP)(cE cm ee EA s7 Mz:X)(au:ae)(a0:Nat):Prop:=ax au 4 cm λb=>ax au 1 ee λd=>dY (fc 1 [(ad 0)] [(0,1,d)]) au a0 λe f g=>dG (dO (dM 1 f g b e)) λi j k=>bn 4 cm λl=>af (aS j 1 l i) λm=>ax m 5 cm λo=>ax m 2 ee λq=>dY (fc 1 [(ad 0)] [(0,1,q)]) m k λr t aO=>dG (dO (dM 1 t aO o r)) λv w x=>bn 5 cm λy=>af (aS w 1 y v) λz=>ax z 3 cm λbV=>ax z 2 cm λbg=>cP bg λbW=>ax z 4 cm λbI=>cP bI λcJ=>hx 1 bV bW λcB=>af (aS z 1 cB cJ) λds=>cj Mz λde=>N [cE,cm,EA,s7,de] ds x
def AH(s:al)(N:aP)(aL:aP)(R:aP)(cE cm ee EA s7 Mz MA:X)(au:ae)(a0:Nat):Prop:=br MA (ax au 2 cm λb=>ax au 0 ee λd=>dY (fc 1 [(ad 0)] [(0,1,d)]) au a0 λe f g=>dG (dO (dM 1 f g b e)) λi j k=>bn 2 cm λl=>af (aS j 1 l i) λm=>ax m 3 cm λo=>dY (fc 1 [(ad 0)] [(0,1,(ad 0))]) m k λp q r=>dG (dO (dM 1 q r o p)) λt aO v=>bn 3 cm λw=>af (aS aO 1 w t) λx=>(Dq s N aL R cE cm ee EA s7 Mz x v)) (Dq s N aL R cE cm ee EA s7 Mz au a0)
def aew(s:al)(a2 a3 jU iO eL:X)(h:ae)(U:Nat)(N:aP)(aL:aP)(R:aP):Prop:=cG eL iO (gT 3 h 3 jU eL λc=>bX [(ad 0),(ad 0),(ad 0)] h U λd e f=>af (aS e 3 d c) λg=>ax g 2 a3 λj=>cP j λk=>bz .eql 3 k (ad 0) (AH s N aL R a2 a3 d jU iO eL (.bool true) g f) (ax g 2 a3 λn=>bt .sub 3 k (ad 1) λo=>d2 g 1 n o λq=>ax g 0 d λt=>bt .neq 3 q t λaO=>(AH s N aL R a2 a3 d jU iO eL aO g f))) (aL [a2,a3,jU,iO,eL] h U)
def ahH:cU:=λs ah h U K=>bH ah h U λa b c=>bX [(ad 0),(ad 0),ay,ay,ay,ay] b c λd e f=>aV s 205 [] e f λg i j=>bX [(ad 0),(ad 0),ay,ay,ay,ay] i j λk l m=>af (aS l 6 k g) λn=>aN 5 n a λo=>aV s 201 [o] n m λp q r=>af (du .not p) λt=>br t (aN 6 q k λaO=>af (aS q 6 d aO) λv=>aN 6 v d λw=>K w v r) (ax q 0 a λy=>bn 0 k λz=>af (aS q 1 z y) λbC=>bn 1 a λbV=>bS bC bV λbM=>c7 bV bM (bn 1 k λbg=>af (aS bC 1 bg bM) λbW=>aN 5 bW a λb7=>aV s 207 [b7] bW r λbI cJ cB=>aV s 206 [bI] cJ cB λds de eN=>cP ds λam=>bE (bU Q s Sn 124 0) [d,k,ds,am,(ad 0)] de eN [(0,λan eU gG=>aN 6 eU (bb an 1) λgU=>af (aS eU 6 (bb an 0) gU) λgL=>aN 6 gL (bb an 0) λio=>K io gL gG)] (λ_ _ _=>False)) 1 [q])
theorem avU{A B:X}:bU Q s Sn 124 0 [a2,a3,A,B,eL] h U N [(0,aL)] R=aew s a2 a3 A B eL h U N aL R:=by kernel_rfl
theorem ayA:cW 124 ahH:=cY Sn
def Gb(s:al)(K:bN)(cE cm di ev y25:X)(au:ae)(a0:Nat):Prop:=br y25 (af (cV [(ad 0),(ad 0),ay,ay,ay] []) λa=>af (aS au 5 ev a) λb=>aN 5 b ev λc=>K c b a0) (bS au di λd=>af (cV [(ad 0),(ad 0),ay,ay,ay] [(0,1,d),(1,1,cE)]) λe=>bX [(ad 0),(ad 0),ay,ay,ay] au a0 λf g i=>af (aS g 5 f e) λj=>aN 5 j f λk=>bS j di λl=>bt .sub 3 cE l λm=>af (.ok (.func (.func 209) ⟨[]⟩ ⟨[cm,di]⟩)) λn=>aV s 208 [k,m,n] j i λo p q=>af (aS p 5 ev o) λr=>aN 5 r ev λt=>K t r q)
def aex:ge:=λs ah t1 t2 h U K=>bH ah h U λa b c=>bH t1 b c λd e f=>bX [(ad 0),(ad 0),ay,ay,ay] e f λg i j=>aN 5 i a λk=>aV s 187 [k] i j λl m n=>mi l (Gb s K t2 a d g (.bool true) m n) (bS m d λp=>cG p (ad 0) (Gb s K t2 a d g (.bool true) m n) (bS m d λr=>cG t2 r (Gb s K t2 a d g (.bool true) m n) (ax m 1 a λv=>bt .gtr 3 t2 v λw=>(Gb s K t2 a d g w m n))))
theorem asC:gp 125 aex:=gu []
def ayB:ge:=λs ah t1 t2 h U K=>aV s 211 [ah,t1] h U λa b c=>af (du .not a) λd=>br d (K (ad 0) b c) (af (min2 false t2 (ad 0)) λe=>af (min2 true e t1) λf=>bt .mul 3 f ah λg=>bt .quo 3 g t1 λi=>K i b c)
theorem avV:gp 126 ayB:=gu []
def aey:ge:=λs ah t1 t2 h U K=>af (cV [(ad 0),(ad 0),(ad 0),(ad 0),(ad 0),(ad 0),ay,ay,ay,(ad 0),(.bool false)] [(0,1,(ad 4)),(4,1,t1),(10,1,t2)]) λa=>bX [(ad 0),(ad 0),(ad 0),(ad 0),(ad 0),(ad 0),ay,ay,ay,(ad 0),(.bool false)] h U λb c d=>af (aS c 11 b a) λe=>af (du .not t2) λf=>br f (af (bs ah) λg=>jw 5 e 2 g λj=>af (bs ah) λk=>jw 5 e 33 k λm=>cg 212 [j,m,t1] e d λn o p=>bn 9 b λq=>af (aS o 1 q n) λr=>af (bs ah) λt=>bn 38 t λaO=>af (aS r 1 aO (.bool true)) λv=>aN 11 v b λw=>aV s 213 [ah,w] v p λx y z=>K (.tuple ⟨[]⟩) y z) (af (bs ah) λbC=>bn 38 bC λbV=>af (aS e 1 bV (.bool true)) λbM=>aN 11 bM b λbg=>aV s 213 [ah,bg] bM d λbW b7 bI=>K (.tuple ⟨[]⟩) b7 bI)
theorem asD:gp 127 aey:=gu []
def Pv:aa (aa Nat):=[[1,2,60,61]]
def Yx(s:al)(aD a2 MB EB:X)(h:ae)(U:Nat)(N:aP)(aL:aP)(R:aP):Prop:=cG EB MB (ax h 3 aD λc=>ax h 2 aD λe=>d2 h 1 e EB λg=>ax h 2 aD λj=>cj EB λk=>d2 h 1 j k λm=>af (gi 1 c (some g) (some m) none) λn=>ax h 1 aD λp=>cg 291 [n,p] h U λq r t=>af (du .not q) λaO=>br aO (R [aD,(.bool false),MB,EB] r t) (cj EB λv=>N [aD,a2,MB,v] r t)) (aL [aD,a2,MB,EB] h U)
def J1(s:al)(K:bN)(cz Uj:X)(au:ae)(a0:Nat):Prop:=br Uj (K (.bool false) au a0) (ax au 0 cz λb=>bE (bU Q s Pv 201 0) [cz,(.bool false),b,(ad 0)] au a0 [(0,λc d e=>K (.bool true) d e)] (λf g i=>K (bb f 1) g i))
def CP(s:al)(K:bN)(cz cm y37:X)(au:ae)(a0:Nat):Prop:=br y37 (K (.bool false) au a0) (ax au 2 cz λb=>d2 au 1 b (ad 0) λd=>bz .neq 3 d (ad 0) (J1 s K cz (.bool true) au a0) (ax au 2 cz λg=>ax au 0 cz λj=>d2 au 1 g j λl=>bz .neq 3 l cm (J1 s K cz (.bool true) au a0) (ax au 2 cz λo=>aV s 290 [o] au a0 λp q r=>af (du .not p) λt=>(J1 s K cz t q r))))
def acd:cU:=λs ah h U K=>bH ah h U λa b c=>ax b 3 a λe=>cP e λf=>ax b 0 a λi=>aV s 289 [i,(ad 4096)] b c λj k l=>af (du .not j) λm=>br m (CP s K a f (.bool true) k l) (ax k 1 a λo=>aV s 289 [o,(ad 4096)] k l λp q r=>af (du .not p) λt=>br t (CP s K a f (.bool true) q r) (ax q 2 a λv=>cP v λw=>ax q 0 a λy=>cj y λz=>bz .neq 3 w z (CP s K a f (.bool true) q r) (ax q 4 a λbM=>cP bM λbg=>bz .neq 3 bg f (CP s K a f (.bool true) q r) (bt .gtr 3 f (ad 65536) λb7=>(CP s K a f b7 q r)))))
theorem alx{A B:X}:bU Q s Pv 201 0 [aD,a2,A,B] h U N [(0,aL)] R=Yx s aD a2 A B h U N aL R:=by kernel_rfl
theorem aoz:cW 201 acd:=cY Pv
def ayC:sr:=λs ah t1 t2 t3 h U K=>aV s 292 [ah] h U λa b c=>br a (aV s 292 [t1] b c λd e f=>br d (bz .geq 3 t2 (ad 0) (cG t2 ah (bz .geq 3 t3 (ad 0) (bt .lss 3 t3 t1 λk=>K k e f) (K (.bool false) e f)) (K (.bool false) e f)) (K (.bool false) e f)) (K (.bool false) e f)) (K (.bool false) b c)
theorem avW:uC 202 ayC:=vK []
def G0:aa (aa Nat):=[[3,6,7,8,9,10,11,31,32],[3,6,7,8,9,10,11,12,31,32,39,40,41]]
def Qt(s:al)(N:aP)(aK:aP)(R:aP)(cm ev fv hY oY lE Mx s6 y14 y31 y32 MC y40 MA y56:X)(au:ae)(a0:Nat):Prop:=br y56 (ax au 0 y14 λb=>bt .sub 3 b oY λc=>ax au 1 y14 λe=>af (cV [(ad 0),(ad 0),(ad 0)] [(0,1,s6),(1,1,c),(2,1,e)]) λf=>dY (fc 1 [(ad 0),(ad 0),(ad 0)] [(0,3,f)]) au a0 λg i j=>dG (dO (dM 3 i j Mx g)) λk l m=>cj MA λn=>N [cm,ev,fv,hY,oY,lE,k,s6,y31,y32,MC,y40,n] l m) (cj MA λo=>N [cm,ev,fv,hY,oY,lE,Mx,s6,y31,y32,MC,y40,o] au a0)
def ace(s:al)(a3 bp ba bv cF dd et ej je gj MD xw vQ:X)(h:ae)(U:Nat)(N:aP)(aK:aP)(R:aP):Prop:=cG vQ xw (gT 2 h 2 MD vQ λc=>bX [(ad 0),(ad 0)] h U λd e f=>af (aS e 2 d c) λg=>ax g 0 d λj=>bz .geq 3 j cF (ax g 0 d λm=>bt .sub 3 m cF λn=>bt .lss 3 n dd λo=>(Qt s N aK R a3 bp ba bv cF dd et ej d je gj MD xw vQ o g f)) (Qt s N aK R a3 bp ba bv cF dd et ej d je gj MD xw vQ (.bool false) g f)) (aK [a3,bp,ba,bv,cF,dd,et,ej,je,gj,MD,xw,vQ] h U)
def acf(s:al)(a3 bp ba bv cF dd et je gj:X)(h:ae)(U:Nat)(N:aP)(aL:aP)(R:aP):Prop:=cG gj je (aN 5 h a3 λb=>ln ba gj λc=>aV s 295 [b,c] h U λd e f=>cP d λg=>bE (bU Q s G0 203 1) [a3,bp,ba,bv,cF,dd,et,gj,je,gj,d,g,(ad 0)] e f [(2,λi j k=>cj (bb i 9) λl=>N [(bb i 0),(bb i 1),(bb i 2),(bb i 3),(bb i 4),(bb i 5),(bb i 6),(bb i 8),l] j k)] (λ_ _ _=>False)) (aL [a3,bp,ba,bv,cF,dd,et,je,gj] h U)
def agf:ge:=λs ah t1 t2 h U K=>bH ah h U λa b c=>bH t1 b c λd e f=>bH t2 e f λg i j=>bX [(ad 0),(ad 0),ay,ay,ay] i j λk l m=>aN 5 l a λn=>aV s 293 [n] l m λo p q=>af (aS p 5 a o) λr=>aN 2 r d λt=>ax r 0 a λv=>aV s 294 [t,v] r q λw x y=>af (cp w 0) λz=>af (cp w 1) λbC=>aN 2 x g λbV=>ax x 1 a λbg=>aV s 294 [bV,bg] x y λbW b7 bI=>af (cp bW 0) λcJ=>af (cp bW 1) λcB=>bE (bU Q s G0 203 0) [a,k,z,bC,cJ,cB,ay,bC,(ad 0)] b7 bI [(0,λds de eN=>aV s 281 [(bb ds 3),(bb ds 5),(bb ds 6)] de eN λam an eU=>af (aS an 5 (bb ds 1) am) λgG=>aN 5 gG (bb ds 1) λgU=>K gU gG eU)] (λ_ _ _=>False)
theorem asE{A B C:X}:bU Q s G0 203 1 [a3,bp,ba,bv,cF,dd,et,ej,je,gj,A,B,C] h U N [(2,aK)] R=ace s a3 bp ba bv cF dd et ej je gj A B C h U N aK R:=by kernel_rfl
theorem asF:bU Q s G0 203 0 [a3,bp,ba,bv,cF,dd,et,je,gj] h U N [(0,aL)] R=acf s a3 bp ba bv cF dd et je gj h U N aL R:=by kernel_rfl
theorem avX:gp 203 agf:=gu G0
def acg:ge:=λs ah t1 t2 h U K=>bX [(ad 0),(ad 0)] h U λa b c=>aV s 126 [ah,t1,t2] b c λd e f=>cj t2 λg=>aV s 126 [ah,t1,g] e f λi j k=>af (cV [(ad 0),(ad 0)] [(0,1,d),(1,1,i)]) λl=>af (aS j 2 a l) λm=>aN 2 m a λn=>K n m k
theorem aoA:gp 204 acg:=gu []
def aez:VJ:=λs h U K=>bX [(ad 0),(ad 0),ay,ay,ay,ay] h U λa b c=>dY (fc 1 [(ad 0)] [(0,1,(ad 0))]) b c λd e f=>af (cV [(ad 0),(ad 0),ay,ay,ay,ay] [(3,1,d)]) λg=>af (aS e 6 a g) λi=>aN 6 i a λj=>K j i f
theorem asG:aCW 205 aez:=zf0 []
def FM:aa (aa Nat):=[[1,3,12,13],[1,3,4,6,12,13,22,23,24]]
def W1(s:al)(aD a3 aZ bp ej gt eL kc fW:X)(h:ae)(U:Nat)(N:aP)(aK:aP)(R:aP):Prop:=cG fW kc (d2 h 1 eL fW λc=>d2 h 1 bp fW λe=>af (cV [(ad 0),(ad 0),(ad 0)] [(0,1,aZ),(1,1,c),(2,1,e)]) λf=>dY (fc 1 [(ad 0),(ad 0),(ad 0)] [(0,3,f)]) h U λg i j=>dG (dO (dM 3 i j a3 g)) λk l m=>cj fW λn=>N [aD,k,aZ,bp,ej,gt,eL,kc,n] l m) (aK [aD,a3,aZ,bp,ej,gt,eL,kc,fW] h U)
def W2(s:al)(aD a3 ej gt:X)(h:ae)(U:Nat)(N:aP)(aL:aP)(R:aP):Prop:=cG gt ej (aN 5 h aD λb=>aV s 296 [b,gt] h U λc d e=>af (cp c 0) λf=>af (cp c 1) λg=>cP f λi=>bE (bU Q s FM 206 1) [aD,a3,gt,g,ej,gt,f,i,(ad 0)] d e [(2,λj k l=>cj (bb j 5) λm=>N [(bb j 0),(bb j 1),(bb j 4),m] k l)] (λ_ _ _=>False)) (aL [aD,a3,ej,gt] h U)
def Yy:cU:=λs ah h U K=>bH ah h U λa b c=>aN 5 b a λd=>aV s 293 [d] b c λe f g=>af (aS f 5 a e) λi=>ax i 0 a λk=>bE (bU Q s FM 206 0) [a,ay,k,(ad 0)] i g [(0,λl m n=>K (bb l 1) m n)] (λ_ _ _=>False)
theorem aja{A:X}:bU Q s FM 206 1 [aD,a3,aZ,bp,ej,gt,eL,A,fW] h U N [(2,aK)] R=W1 s aD a3 aZ bp ej gt eL A fW h U N aK R:=by kernel_rfl
theorem ajb:bU Q s FM 206 0 [aD,a3,ej,gt] h U N [(0,aL)] R=W2 s aD a3 ej gt h U N aL R:=by kernel_rfl
theorem ajQ:cW 206 Yy:=cY FM
def Qu:aa (aa Nat):=[[1,2,3,10,11,12]]
def Z5(s:al)(aD a2 a3 dd et ej:X)(h:ae)(U:Nat)(N:aP)(aL:aP)(R:aP):Prop:=cG ej et (gT 3 h 3 dd ej λc=>bX [(ad 0),(ad 0),(ad 0)] h U λd e f=>af (aS e 3 d c) λg=>ax g 1 d λj=>ax g 0 d λl=>ax g 2 d λn=>af (cV [(ad 0),(ad 0),(ad 0)] [(0,1,j),(1,1,l),(2,1,n)]) λo=>hx 3 a3 ej λp=>af (aS g 3 p o) λq=>cj ej λr=>N [aD,a2,a3,dd,et,r] q f) (aL [aD,a2,a3,dd,et,ej] h U)
def aeA:cU:=λs ah h U K=>bH ah h U λa b c=>bX [(ad 0),(ad 0),ay,ay,ay] b c λd e f=>aN 5 e a λg=>aV s 293 [g] e f λi j k=>af (aS j 5 a i) λl=>aN 5 l a λm=>aV s 206 [m] l k λn o p=>cP n λq=>bE (bU Q s Qu 207 0) [a,d,n,n,q,(ad 0)] o p [(0,λr t aO=>aV s 297 [(bb r 2),(.func (.func 298) #[] #[])] t aO λv w x=>ax w 1 (bb r 0) λz=>ax w 0 (bb r 0) λbV=>aV s 281 [z,bV,(bb r 2)] w x λbM bg bW=>af (aS bg 5 (bb r 1) bM) λb7=>aN 5 b7 (bb r 1) λbI=>K bI b7 bW)] (λ_ _ _=>False)
theorem aoB:bU Q s Qu 207 0 [aD,a2,a3,dd,et,ej] h U N [(0,aL)] R=Z5 s aD a2 a3 dd et ej h U N aL R:=by kernel_rfl
theorem asH:cW 207 aeA:=cY Qu
def OU:aa (aa Nat):=[[1,2,6,7,8,18,19]]
def Xw(s:al)(aD a2 bp ba bv lD nO:X)(h:ae)(U:Nat)(N:aP)(aL:aP)(R:aP):Prop:=cG nO lD (eQ Q s (hU h U [nO] a2) λb c d=>af (cp b 0) λe=>af (cp b 1) λf=>af (cp b 2) λg=>ax c 2 ba λj=>dY (fc 1 [(ad 0)] [(0,1,e)]) c d λk l m=>dG (dO (dM 1 l m j k)) λn o p=>m<=p/\bn 3 ba λq=>bS o q λr=>c7 q r (dY (fc 1 [(ad 0)] [(0,1,f)]) o p λt aO v=>dG (dO (dM 1 aO v r t)) λw x y=>v<=y/\bn 2 ba λz=>af (aS x 1 z n) λbC=>bn 3 ba λbV=>af (aS bC 1 bV w) λbM=>br g (dY (fc 1 [(ad 0)] [(0,1,nO)]) bM y λbg bW b7=>dG (dO (dM 1 bW b7 bv bg)) λbI cJ cB=>cj nO λds=>N [aD,a2,bp,ba,bI,lD,ds] cJ cB) (cj nO λde=>N [aD,a2,bp,ba,bv,lD,de] bM y)) 1 [c]) (aL [aD,a2,bp,ba,bv,lD,nO] h U)
def Z6:ge:=λs ah t1 t2 h U K=>bH ah h U λa b c=>bX [(ad 0),(ad 0),ay,ay,ay] b c λd e f=>ax e 0 a λi=>ax e 1 a λk=>af (cV [(ad 0),(ad 0),ay,ay,ay] [(0,1,i),(1,1,k)]) λl=>bX [(ad 0),(ad 0),ay,ay,ay] e f λm n o=>af (aS n 5 m l) λp=>bE (bU Q s OU 208 0) [t1,t2,d,m,ay,t1,(ad 0)] p o [(0,λq r t=>aV s 108 [(bb q 0),(bb q 4)] r t λaO v w=>bn 4 (bb q 3) λx=>af (aS v 1 x aO) λy=>aN 5 y (bb q 3) λz=>af (aS y 5 (bb q 2) z) λbC=>aN 5 bC (bb q 2) λbV=>K bV bC w)] (λ_ _ _=>False)
theorem ajR{A B:X}:bU Q s OU 208 0 [aD,a2,bp,ba,bv,A,B] h U N [(0,aL)] R=Xw s aD a2 bp ba bv A B h U N aL R:=by kernel_rfl
theorem aly:gp 208 Z6:=gu OU
def ach:ge:=λs ah t1 t2 h U K=>aN 5 h t1 λa=>bS h t2 λb=>ln b ah λc=>aV s 210 [a,c] h U λd e f=>af (cp d 0) λg=>af (cp d 1) λi=>K (.tuple ⟨[g,(ad (-1)),i]⟩) e f
theorem aoC:gp 209 ach:=gu []
def Z7(s:al)(K:bN)(au:ae)(a0:Nat):Prop:=K (.tuple ⟨[(ad 4611686018427387904),(.bool false)]⟩) au a0
def C0(s:al)(K:bN)(cE ev EA:X)(au:ae)(a0:Nat):Prop:=br EA (K (.tuple ⟨[(ad 1),(.bool true)]⟩) au a0) (br ev (K (.tuple ⟨[(ad 0),ev]⟩) au a0) (ax au 0 cE λb=>bz .eql 40 b (ad 4) (K (.tuple ⟨[(ad 0),ev]⟩) au a0) (ax au 0 cE λe=>bz .eql 40 e (ad 1) (K (.tuple ⟨[(ad (-1)),(.bool false)]⟩) au a0) (Z7 s K au a0))))
def aeB:cO:=λs ah t1 h U K=>bH ah h U λa b c=>ax b 2 a λe=>bt .eql 3 t1 e λf=>ax b 0 a λi=>bz .eql 40 i (ad 3) (K (.tuple ⟨[t1,(.bool true)]⟩) b c) (ax b 0 a λl=>bz .eql 40 l (ad 5) (K (.tuple ⟨[(ad 0),(.bool false)]⟩) b c) (ax b 0 a λo=>bz .eql 40 o (ad 4) (C0 s K a f f b c) (C0 s K a f (.bool false) b c)))
theorem asI:cX 210 aeB:=cZ []
def agh:cO:=λs ah t1 h U K=>bz .geq 3 ah (ad 0) (bz .leq 3 ah (ad 4096) (aV s 220 [t1] h U λc d e=>K c d e) (K (.bool false) h U)) (K (.bool false) h U)
theorem avY:cX 211 agh:=cZ []
def RG:aa (aa Nat):=[[7,24,25,26]]
def aci(s:al)(ba fW nN kS:X)(h:ae)(U:Nat)(N:aP)(aU:aP)(R:aP):Prop:=cG kS nN (d2 h 1 fW kS λc=>bz .eql 2 c (ad 0) (cj ba λe=>cj kS λf=>N [e,fW,nN,f] h U) (cj kS λg=>N [ba,fW,nN,g] h U)) (aU [ba,fW,nN,kS] h U)
def agi:ge:=λs ah t1 t2 h U K=>bH ah h U λa b c=>bH t1 b c λd e f=>aN 5 e a λg=>aN 5 e d λi=>aV s 299 [g,i] e f λj k l=>af (aS k 5 d j) λm=>ax m 0 a λo=>bz .eql 40 o (ad 4) (ax m 3 a λr=>bz .geq 3 t2 r (K (ad 0) m l) (ax m 4 d λv=>aV s 111 [v] m l λw x y=>K w x y)) (bz .eql 40 o (ad 5) (ax m 2 d λbV=>cP bV λbM=>bE (bU Q s RG 212 0) [(ad 0),bV,bM,(ad 0)] m l [(1,λbg bW b7=>K (bb bg 0) bW b7)] (λ_ _ _=>False)) (ax m 4 d λcJ=>aV s 111 [cJ] m l λcB ds de=>K cB ds de))
theorem asJ{A:aP}:bU Q s RG 212 0 [ba,fW,nN,kS] h U N [(1,A)] R=aci s ba fW nN kS h U N A R:=by kernel_rfl
theorem avZ:gp 212 agi:=gu RG
def agj:cO:=λs ah t1 h U K=>bH t1 h U λa b c=>af (bs ah) λd=>bn 0 d λe=>ax b 0 e λg=>af (bs ah) λi=>bn 0 i λj=>ax b 1 j λl=>cg 219 [ah,g,l] b c λm n o=>bn 1 a λp=>af (aS n 1 p m) λq=>af (bs ah) λr=>ax q 22 r λaO=>aN 11 q a λv=>dY (fc 1 [(ad 0),(ad 0),(ad 0),(ad 0),(ad 0),(ad 0),ay,ay,ay,(ad 0),(.bool false)] [(0,11,v)]) q o λw x y=>dG (dO (dM 11 x y aO w)) λz bC bV=>y<=bV/\af (bs ah) λbM=>bn 22 bM λbg=>af (aS bC 1 bg z) λbW=>K (.tuple ⟨[]⟩) bW bV
theorem av0:cX 213 agj:=cZ []
def RH:cU:=λs ah h U K=>jY ah (ad 0) (bt .leq 3 ah (ad 8) λb=>K b h U) (K (.bool false) h U)
theorem acj:cW 220 RH:=cY []
def CQ(s:al)(K:bN)(co cz cE Ih:X)(au:ae)(a0:Nat):Prop:=br Ih (K (ad (-1)) au a0) (bt .mul 3 cz co λa=>ln a cE λb=>K b au a0)
def asK:ge:=λs ah t1 t2 h U K=>aV s 220 [ah] h U λa b c=>af (du .not a) λd=>br d (CQ s K ah t1 t2 (.bool true) b c) (cG t1 (ad 0) (CQ s K ah t1 t2 (.bool true) b c) (bz .geq 3 t1 (ad 8) (CQ s K ah t1 t2 (.bool true) b c) (cG t2 (ad 0) (CQ s K ah t1 t2 (.bool true) b c) (bt .geq 3 t2 ah λi=>(CQ s K ah t1 t2 i b c)))))
theorem aoD:gp 311 asK:=gu []
def Z8:cO:=λs ah t1 h U K=>bz .geq 3 ah (ad 0) (bt .leq 3 ah t1 λb=>K b h U) (K (.bool false) h U)
theorem alz:cX 289 Z8:=cZ []
def OV:aa (aa Nat):=[[0,2,3]]
def Xx(s:al)(aC a2 a3:X)(h:ae)(U:Nat)(N:aP)(aL:aP)(R:aP):Prop:=jY a3 (ad 0) (d2 h 1 aC a3 λc=>bt .sub 3 a3 (ad 1) λd=>d2 h 1 aC d λf=>cg 369 [c,f] h U λg i j=>br g (R [aC,(.bool false),a3] i j) (bt .sub 3 a3 (ad 1) λk=>N [aC,a2,k] i j)) (aL [aC,a2,a3] h U)
def Z9:cU:=λs ah h U K=>cP ah λa=>bt .sub 3 a (ad 1) λb=>bE (bU Q s OV 290 0) [ah,(.bool false),b] h U [(0,λc d e=>K (.bool true) d e)] (λf g i=>K (bb f 1) g i)
theorem ajS:bU Q s OV 290 0 [aC,a2,a3] h U N [(0,aL)] R=Xx s aC a2 a3 h U N aL R:=by kernel_rfl
theorem alA:cW 290 Z9:=cY OV
def RI:aa (aa Nat):=[[0,1,4,7,8,9]]
def ack(s:al)(aC aD aZ ba bv cF:X)(h:ae)(U:Nat)(N:aP)(aL:aP)(R:aP):Prop:=cG cF bv (d2 h 1 ba cF λc=>bt .sub 3 aD (ad 1) λd=>aV s 289 [c,d] h U λe f g=>af (du .not e) λi=>br i (R [aC,aD,(.bool false),ba,bv,cF] f g) (jY cF (ad 0) (bt .sub 3 cF (ad 1) λk=>d2 f 1 aC k λm=>bz .geq 3 m c (R [aC,aD,(.bool false),ba,bv,cF] f g) (cj cF λo=>N [aC,aD,aZ,ba,bv,o] f g)) (cj cF λp=>N [aC,aD,aZ,ba,bv,p] f g))) (aL [aC,aD,aZ,ba,bv,cF] h U)
def agk:cO:=λs ah t1 h U K=>cP ah λa=>bE (bU Q s RI 291 0) [ah,t1,(.bool false),ah,a,(ad 0)] h U [(0,λb c d=>K (.bool true) c d)] (λe f g=>K (bb e 2) f g)
theorem asL:bU Q s RI 291 0 [aC,aD,aZ,ba,bv,cF] h U N [(0,aL)] R=ack s aC aD aZ ba bv cF h U N aL R:=by kernel_rfl
theorem av1:cX 291 agk:=cZ RI
def agl:cU:=λs ah h U K=>bz .geq 3 ah (ad 1) (bt .leq 3 ah (ad 8) λb=>K b h U) (K (.bool false) h U)
theorem av2:cW 292 agl:=cY []
def aeC:cU:=λs ah h U K=>bH ah h U λa b c=>bX [(ad 0),(ad 0),ay,ay,ay] b c λd e f=>aN 5 e a λg=>aV s 201 [g] e f λi j k=>br i (aN 5 j a λl=>af (aS j 5 d l) λm=>aN 5 m d λn=>K n m k) (aV s 367 [(ad 0),(ad 0)] j k λo p q=>af (aS p 5 d o) λr=>aN 5 r d λt=>K t r q)
theorem asM:cW 293 aeC:=cY []
def aaa:cO:=λs ah t1 h U K=>bH ah h U λa b c=>af (iy (.array 2 1) a (ad 0)) λd=>bS b d λe=>af (min2 false e (ad 0)) λf=>af (iy (.array 2 1) a (ad 1)) λg=>bS b g λi=>af (min2 true i t1) λj=>bz .leq 3 j f (K (.tuple ⟨[f,(ad 0)]⟩) b c) (bt .sub 3 j f λl=>K (.tuple ⟨[f,l]⟩) b c)
theorem alB:cX 294 aaa:=cZ []
def RJ:aa (aa Nat):=[[5,7,24,25,26]]
def acl(s:al)(bA ba fW nN kS:X)(h:ae)(U:Nat)(N:aP)(aL:aP)(R:aP):Prop:=cG kS nN (d2 h 1 fW kS λc=>d2 h 1 ba kS λe=>af (cV [(ad 0),(ad 0)] [(0,1,c),(1,1,e)]) λf=>dY (fc 1 [(ad 0),(ad 0)] [(0,2,f)]) h U λg i j=>dG (dO (dM 2 i j bA g)) λk l m=>cj kS λn=>N [k,ba,fW,nN,n] l m) (aL [bA,ba,fW,nN,kS] h U)
def agm:cO:=λs ah t1 h U K=>bH ah h U λa b c=>aN 5 b a λd=>aV s 293 [d] b c λe f g=>af (aS f 5 a e) λi=>ax i 0 a λk=>bt .sub 3 k (ad 1) λl=>aV s 289 [t1,l] i g λm n o=>af (du .not m) λp=>br p (K ay n o) (aN 5 n a λq=>aV s 296 [q,t1] n o λr t aO=>af (cp r 0) λv=>af (cp r 1) λw=>cP v λx=>bE (bU Q s RJ 295 0) [ay,w,v,x,(ad 0)] t aO [(0,λy z bC=>K (bb y 0) z bC)] (λ_ _ _=>False))
theorem asN:bU Q s RJ 295 0 [bA,ba,fW,nN,kS] h U N [(0,aL)] R=acl s bA ba fW nN kS h U N aL R:=by kernel_rfl
theorem av3:cX 295 agm:=cZ RJ
def aeD:cO:=λs ah t1 h U K=>bH ah h U λa b c=>ax b 2 a λe=>d2 b 1 e t1 λg=>ax b 2 a λj=>cj t1 λk=>d2 b 1 j k λm=>ax b 3 a λo=>af (gi 1 o (some g) (some m) (some m)) λp=>ax b 4 a λr=>af (gi 1 r (some g) (some m) (some m)) λt=>K (.tuple ⟨[p,t]⟩) b c
theorem asO:cX 296 aeD:=cZ []
def agn:cO:=λs ah t1 h U K=>bH ah h U λa b c=>bH t1 b c λd e f=>bX [(ad 0),(ad 0),ay,ay,ay] e f λg i j=>aN 5 i a λk=>aN 5 i d λl=>aV s 371 [k,l] i j λm n o=>br m (aN 5 n d λp=>af (aS n 5 g p) λq=>aN 5 q g λr=>K r q o) (af (cV [(ad 0),(ad 0),ay,ay,ay] []) λt=>af (aS n 5 g t) λaO=>aN 5 aO g λv=>K v aO o)
theorem av4:cX 299 agn:=cZ []
def acm:ge:=λs ah t1 t2 h U K=>af (bs ah) λa=>bn 7 a λb=>ax h 1 b λd=>aV s 311 [d,t1,t2] h U λe f g=>K e f g
theorem aoE:gp 219 acm:=gu []
def S2:cO:=λs ah t1 h U K=>cg 179 [ah,t1] h U λa b c=>br a (cg 180 [t1] b c λd e f=>bt .shr 3 t1 (.int .u64 6) λg=>hx 1 ah g λi=>bS e i λj=>c7 i j (bt .and 188 j d λk=>bt .neq 188 k (.int .u64 0) λl=>K l e f) 1 [b,h]) (K (.bool false) b c)
theorem ago:cX 334 S2:=cZ []
def G1(s:al)(K:bN)(cm Uk:X)(au:ae)(a0:Nat):Prop:=br Uk (K (.bool false) au a0) (ax au 1 cm λb=>ax au 0 cm λd=>bt .sub 3 b d λe=>ax au 2 cm λg=>cP g λi=>bz .eql 3 i e (ax au 3 cm λl=>cP l λm=>bz .eql 3 m e (ax au 4 cm λp=>aV s 437 [p,e] au a0 λq r t=>K q r t) (K (.bool false) au a0)) (K (.bool false) au a0))
def ahI:cO:=λs ah t1 h U K=>bH ah h U λa b c=>bH t1 b c λd e f=>aN 5 e a λg=>aV s 187 [g] e f λi j k=>mi i (G1 s K d (.bool true) j k) (ax j 0 d λn=>cG n (ad 0) (G1 s K d (.bool true) j k) (ax j 1 d λq=>ax j 0 d λt=>cG q t (G1 s K d (.bool true) j k) (ax j 1 d λw=>ax j 1 a λy=>bt .gtr 3 w y λz=>(G1 s K d z j k))))
theorem ayD:cX 371 ahI:=cZ []
def acn:cO:=λs ah t1 h U K=>bz .geq 3 t1 (ad 0) (bz .leq 3 t1 (ad 4096) (cP ah λc=>aV s 195 [t1] h U λd e f=>bz .eql 3 c d (aV s 473 [ah,t1] e f λi j k=>bt .lss 3 i (ad 0) λl=>K l j k) (K (.bool false) e f)) (K (.bool false) h U)) (K (.bool false) h U)
theorem aoF:cX 437 acn:=cZ []
def aeE:cU:=λs ah h U K=>bz .eql 43 ah ay (K ay h U) (dY (fc 0 [] []) h U λb c d=>dG (dO (dM 2 c d b ah)) λe f g=>K e f g)
theorem asP:cW 122 aeE:=cY []
def asQ:cO:=λs ah t1 h U K=>aV s 345 [ah] h U λa b c=>br a (aV s 345 [t1] b c λd e f=>af (du .not d) λg=>br g (K (.bool true) e f) (bt .lss 3 ah t1 λi=>K i e f)) (bt .lss 3 ah t1 λj=>K j b c)
theorem aoG:cX 369 asQ:=cZ []
def Sp:cU:=λs ah h U K=>bt .neq 3 ah ah λa=>K a h U
theorem aeF:cW 345 Sp:=cY []
def k2(ai:aa GE):Prop:=ai.Pairwise nn
def dF(ai:aa GE)(i:Nat):Nat:=(ai.filter λg=>decide (g.f<i)).length
def qi(ai:aa GE)(r:Nat):aa Int:=(List.range (r+1)).map λi=>(dF ai i:Int)
structure hh (r c:Nat) (ai:aa GE):Prop where
 up:k2 ai
 rows:∀g∈ai,g.f<r
 mz:∀g∈ai,g.t<c
 bc:r<=4096
 a1:c<=4096
 len:ai.length<=120
theorem Qv(ai:aa GE)(r:Nat):(qi ai r).length=r+1:=by unfold qi;grind
theorem wI(h:i<=r):(qi ai r)[i]? = some (dF ai i:Int):=by
 unfold qi
 grind
theorem vg(ai:aa GE)(i:Nat):dF ai i<=ai.length:=uL _ _
theorem Lt(ai:aa GE):dF ai 0=0:=by
 unfold dF;rw[List.length_eq_zero_iff,zU]
 grind
theorem agp(M:hh r c ai):dF ai r=ai.length:=by unfold dF;rw[zX.2];intro g A;exact gY (M.rows g A)
theorem Am(ai:aa GE)(h:i<=j):dF ai i<=dF ai j:=by
 unfold dF
 induction ai with
 |nil=>grind
 |cons g ai A =>
  grind
def eP(ai:aa GE)(i:Nat):aa GE:=ai.filter λg=>decide (g.f=i)
theorem ahJ{x:GE}(h:k2 (x::ai)):∀g∈ai,x.f<=g.f:=λg A=>by have:=(uM.1 h).1 g A;unfold nn at this;omega
theorem aab(h:k2 ai)(i:Nat):ai=(ai.filter λg=>decide (g.f<i))++ai.filter λg=>!decide (g.f<i):=by
 induction ai with
 |nil=>rfl
 |cons x ai A =>
  have A:=A (uM.1 h).2;rw[mW,mW]
  by_cases B:x.f<i
  ·grind
  ·rw[hA B];have e:ai.filter (λg=>decide (g.f<i))=[]:=by
    rw[zU];intro g C;have:=ahJ h g C
    grind
   grind
theorem asR(h:k2 ai)(i:Nat):ai.drop (dF ai i)=ai.filter λg=>!decide (g.f<i):=by
 have e:ai.drop (dF ai i)=((ai.filter λg=>decide (g.f<i))++ai.filter λg=>!decide (g.f<i)).drop (dF ai i):=by rw[<-aab h i]
 rw[e];exact List.drop_left' rfl
theorem asS(h:k2 ai)(i:Nat):ai.take (dF ai i)=ai.filter λg=>decide (g.f<i):=by
 have e:ai.take (dF ai i)=((ai.filter λg=>decide (g.f<i))++ai.filter λg=>!decide (g.f<i)).take (dF ai i):=by rw[<-aab h i]
 rw[e];exact List.take_left' rfl
theorem Dc(h:k2 ai)(i:Nat):(ai.drop (dF ai i)).take (dF ai (i+1)-dF ai i)=eP ai i:=by
 have A:(ai.drop (dF ai i)).take (dF ai (i+1)-dF ai i)=(ai.take (dF ai (i+1))).drop (dF ai i):=by rw[Ft]
 rw[A,asS h (i+1)];have B:k2 (ai.filter λg=>decide (g.f<i+1)):=Jp _ h;have e:dF ai i=dF (ai.filter λg=>decide (g.f<i+1)) i:=by
  unfold dF;rw[List.filter_filter]
  grind
 rw[e,asR B,List.filter_filter];unfold eP
 grind
theorem Gc(h:k2 ai)(i:Nat):(eP ai i).length=dF ai (i+1)-dF ai i:=by rw[<-Dc h,oc,CD];have:=vg ai (i+1);omega
theorem Pw(h:k2 ai)(A:k<(eP ai i).length):(eP ai i)[k]? = ai[dF ai i+k]?:=by rw[Gc h]at A;rw[<-Dc h,wk,if_pos A,xY]
theorem Qw(h:k2 ai)(i:Nat):(eP ai i).Pairwise λx y=>x.t<y.t:=by have A:(eP ai i).Pairwise nn:=Jp _ h;refine List.Pairwise.imp_of_mem (λ{a b} dR aW EC=>?_) A;have B:=of_decide_eq_true (od.1 dR).2;have aK:=of_decide_eq_true (od.1 aW).2;unfold nn at EC;omega
def lj(h:ae)(U:Nat)(v:X)(l:aa Int):Prop:=∃aQ,g0 h c4 v l aQ/\∀c,aQ=some c->c<U
theorem lj.F{h ac:ae}{U Y:Nat}{v:X}{l:aa Int}(C:lj h U v l)(E:aA U h ac)(D:U<=Y):lj ac Y v l:=by obtain⟨B,A,I⟩:=C;exact⟨B,A.F λc K=>E c ab,ab⟩
theorem lj.form{h:ae}{U:Nat}{v:X}{l:aa Int}(C:lj h U v l):∃a c,v = .slice a l.length c:=by obtain⟨B,A,_⟩:=C;exact A.form
def ft(ai:aa GE):aa Int:=ai.map λg=>(g.t:Int)
def gA(ai:aa GE):aa Int:=ai.map λg=>g.w
theorem Dd(ai:aa GE):(ft ai).length=ai.length:=by unfold ft;grind
theorem GC(ai:aa GE):(gA ai).length=ai.length:=by unfold gA;grind
def kq(h:ae)(U:Nat)(v:X)(r c:Nat)(ai:aa GE):Prop :=
 ∃(b:Nat) (aB:aw Nat) (cap:Nat) (v2 v3:X),v = .agg ⟨[(r:X),(c:X),.slice (some ⟨b,0,aB⟩) (r+1) cap,v2,v3]⟩/\b<U/\u h b=some (.cells (fd (qi ai r)) false)/\lj h U v2 (ft ai)/\lj h U v3 (gA ai)
theorem kq.F{h ac:ae}{U Y:Nat}{v:X}{r c:Nat}{ai:aa GE}(H:kq h U v r c ai)(B:aA U h ac)(A:U<=Y):kq ac Y v r c ai:=by obtain⟨b,aB,cap,E,K,e,D,I,L,C⟩:=H;exact⟨b,aB,cap,E,K,e,J,(B b D).trans I,L.F B A,C.F B A⟩
def oA(h:ae)(ap ag:Nat)(v:X)(l:aa Int):Prop:=∃aQ,g0 h c4 v l aQ/\∀c,aQ=some c->ap<=c/\c<ag
theorem oA.Ii(C:oA h ap ag v l):lj h ag v l:=by obtain⟨A,B,D⟩:=C;exact⟨A,B,ab⟩
theorem oA.F{h ac:ae}{ap ag ec dk:Nat}{v:X}{l:aa Int}(C:oA h ap ag v l)(I:∀d,ap<=d->d<ag->u ac d=u h d)(E:ec<=ap)(K:ag<=dk):oA ac ec dk v l:=by obtain⟨B,A,D⟩:=C;exact⟨B,A.F ab,ab⟩
def wO(h:ae)(ap ag:Nat)(v:X)(r c:Nat)(ai:aa GE):Prop :=
 ∃(b:Nat) (aB:aw Nat) (cap:Nat) (v2 v3:X),v = .agg ⟨[(r:X),(c:X),.slice (some ⟨b,0,aB⟩) (r+1) cap,v2,v3]⟩/\ap<=b/\b<ag/\u h b=some (.cells (fd (qi ai r)) false)/\oA h ap ag v2 (ft ai)/\oA h ap ag v3 (gA ai)
theorem wO.is(H:wO h ap ag v r c ai):kq h ag v r c ai:=by obtain⟨b,aB,cap,A,C,e,E,D,B,c2,ci⟩:=H;exact⟨b,aB,cap,A,C,e,D,B,c2.Ii,ci.Ii⟩
theorem wO.F{h ac:ae}{ap ag ec dk:Nat}{v:X}{r c:Nat}{ai:aa GE}(H:wO h ap ag v r c ai)(B:∀d,ap<=d->d<ag->u ac d=u h d)(A:ec<=ap)(C:ag<=dk):wO ac ec dk v r c ai:=by obtain⟨b,aB,cap,D,E,e,I,L,K,c2,ci⟩:=H;exact⟨b,aB,cap,D,E,e,J,J,ab,c2.F B A C,ci.F B A C⟩
theorem kq.form{h:ae}{U:Nat}{v:X}{r c:Nat}{ai:aa GE}(H:kq h U v r c ai):∃b aB n a2 D c2 a3 C ci,v = .agg ⟨[(r:X),(c:X),.slice (some ⟨b,0,aB⟩) (r+1) n,.slice a2 D c2,.slice a3 C ci]⟩:=by
 obtain⟨b,aB,cap,I,L,rfl,E,K,A,B⟩:=H;obtain⟨a2,c2,rfl⟩:=A.form;obtain⟨a3,ci,rfl⟩:=B.form
 grind
def s9(h:ae)(U:Nat)(v:X)(l:aa Int):Prop:=∃a cap,v = .slice a l.length cap/\(l≠[]->∃b o aB bG cs,b<U/\a=some ⟨b,o,aB⟩/\u h b=some (.cells cs bG)/\∀(i:Nat) (x:Int),l[i]? = some x->cs[o+i]? = some (x:X))
theorem s9.F(H:s9 h U v l)(K:aA U h ac)(I:U<=Y):s9 ac Y v l:=by obtain⟨a,cap,e,H⟩:=H;exact⟨a,cap,e,λA=>by obtain⟨b,o,aB,bG,B,D,aK,E,C⟩:=H A;exact⟨b,o,aB,bG,B,J,aK,(K b D).trans E,C⟩⟩
theorem s9.at(H:s9 h U (.slice a n cap) l)(C:l[i]? = some x):∃b o aB bG A,b<U/\a=some ⟨b,o,aB⟩/\u h b=some (.cells A bG)/\∀(i:Nat) (x:Int),l[i]? = some x->A[o+i]? = some (x:X):=by obtain⟨D,B,e,H⟩:=H;cases e;exact H ab
theorem agq(K:i<=j)(V:j<=n)(M:aB≠some 0)(A:al){m:Nat}(P:m=if A then j else n):∃I L,k6 1 (some ⟨b,0,aB⟩) n A m j i = .ok (.slice I (j-i) L)/\(i<j->I=some ⟨b,i,bif A then none else aB⟩):=by
 have C:j<=m:=ab
 have D:m<=n:=ab
 unfold k6;rw[show(Nat.ble m n&&(Nat.ble j m&&Nat.ble i j))=true by simp[D,C,K]];unfold o6
 by_cases e:m=i
 ·subst e;have E:j=m:=J
  subst E;rw[uP];unfold k5 An xf L7;cases aB with
  |none=>grind
  |some k =>
   cases k with
   |zero=>grind
   |succ k=>cases A <;> exact⟨_,_,by simp;exact⟨rfl,rfl⟩,J⟩
 ·have B:Nat.beq m i=false:=by
   cases B:Nat.beq m i with
   |true=>exact absurd (gr B) e
   |false=>rfl
  rw[B];refine⟨some ⟨b,i,bif A then none else aB⟩,m-i,?_,ab⟩;show R.ok (Value.slice (some ⟨b,Nat.add 0 (Nat.mul i 1),bif A then none else aB⟩) (Nat.sub j i) (Nat.sub m i))=_
  grind
theorem Qx(C:lj h U v l)(Z:i<=j)(ao:j<=l.length){M:aw X}(I:M=none\/M=some (j:X)):
  ∃w,gi 1 v (some (i:X)) (some (j:X)) M = .ok w/\s9 h U w ((l.drop i).take (j-i)):=by
 obtain⟨aQ,ip,aW⟩:=C;rcases ip with⟨rfl,rfl,rfl⟩|⟨b,rfl,rfl,aY⟩
 ·have b5:j=0:=ab
  subst b5;have ag:i=0:=J
  subst ag;refine⟨.slice none 0 0,?_,⟨none,0,by simp,λh=>absurd (by simp) h⟩⟩;rcases I with rfl|rfl <;> rfl
 ·have K:((l.drop i).take (j-i)).length=j-i:=ab
  have fin:∀(B:al) (m:Nat) (A:aw Addr) (E:Nat),(i<j->A=some ⟨b,i,bif B then none else some 1⟩)->s9 h U (.slice A (j-i) E) ((l.drop i).take (j-i)):=λB m A E D=>by
   refine⟨A,E,ab,λP=>?_⟩;have V:i<j:=by have:=zY.2 P;omega
   refine⟨b,i,_,false,_,ab,D V,aY,λk x L=>?_⟩;have hk:=(fb.1 L).1;rw[K]at hk;rw[wk,if_pos hk,xY]at L;rw[iF];exact ix L
  rcases I with rfl|rfl
  ·obtain⟨A,E,e,D⟩:=agq  (aB:=some 1) Z ao (by simp) false  rfl;exact⟨_,e,fin false l.length A _ D⟩
  ·obtain⟨A,E,e,D⟩:=agq  (aB:=some 1) Z ao (by simp) true  rfl;exact⟨_,e,fin true j A _ D⟩
theorem JW{n:Int}:aE Q s 289 [(n:X),(m:X)] h U (fs (.bool (lF n m)) U h):=by
 refine alz ?_;unfold Z8;refine aG ?_;refine⟨λB=>?_,λB=>by rw[pW J];exact⟨rfl,rfl,rfl⟩⟩
 by_cases A:m<n
 ·rw[gY A,pW J];exact⟨rfl,rfl,rfl⟩
 ·rw[hA A,lu J];exact⟨rfl,rfl,rfl⟩
theorem alC{n:Int}:aE Q s 369 [(n:X),(m:X)] h U (fs (.bool (decide (n<m))) U h):=by
 have A:∀{n:Int} {K:bN},K (.bool false) h U->aE Q s 345 [(n:X)] h U K:=λ{n K} hk=>by refine aeF ?_;unfold Sp;simp(disch:=omega)only[bk,ru,seval];exact hk
 refine aoG ?_;refine A ?_;refine aG ?_;exact⟨rfl,rfl,rfl⟩
def CrJ(dq:X)(l:aa Int)(c:Int)(h:ae)(U:Nat)(m:Nat)(aF:aa X)(ac:ae)(Y:Nat):Prop:=∃i,m=l.length-i/\i<=l.length/\aF=[dq,(c:X),.bool false,dq,(l.length:X),(i:X)]/\ac=h/\Y=U
def IsJ(dq:X)(l:aa Int)(h:ae)(U:Nat)(m:Nat)(aF:aa X)(ac:ae)(Y:Nat):Prop:=∃k:Int,m=(k+1).toNat/\-1<=k/\k<l.length/\aF=[dq,.bool false,(k:X)]/\ac=h/\Y=U
theorem asT(L:s9 h U v l)(bo:l.length<=1000)(a1:c<=4096)(V:∀x∈l,0<=x/\x<(c:Int))(d5:∀(i:Nat) (x y:Int),l[i]? = some x->l[i+1]? = some y->x<y):
  aE Q s 291 [v,(c:X)] h U (fs (.bool true) U h):=by
 refine av1 ?_;obtain⟨a,cap,rfl,_⟩:=id L;unfold agk;refine aG ?_;refine bE.mk (CrJ (.slice a l.length cap) l c h U) l.length ⟨0,rfl,J,rfl,rfl,rfl⟩ ?_;rintro _ _ _ _ ⟨i,rfl,ag,rfl,rfl,rfl⟩;rw[asL];unfold ack;refine aG ?_;refine⟨λB=>?_,λeG=>⟨rfl,rfl,rfl⟩⟩;obtain⟨x,D⟩:=dH B;obtain⟨b,o,aB,bG,cs,aW,rfl,I,A⟩:=L.at D;obtain⟨M,Z⟩:=V x ab;have P:IntKind.wrap .i64 ((c:Int)-1)=(c:Int)-1:=jM J J;simp(disch:=omega)only[bk,I,A i x D,P,seval];refine JW.mono ?_;rintro r h1 a5 ⟨rfl,rfl,rfl⟩;rw[lu J];refine aG ?_;refine⟨λK=>?_,λc0=>?_⟩
 ·obtain⟨y,E⟩:=dH (l:=l) (i:=i-1) J;have cT:IntKind.wrap .i64 ((i:Int)-1)=((i-1:Nat):Int):=by rw[show(i:Int)-1=((i-1:Nat):Int) by omega];exact jM J J
  have C:=d5 (i-1) y x E ab;simp(disch:=omega)only[bk,cT,I,A (i-1) y E,cD (J:i<1000000000000),seval];exact⟨λh=>absurd C h,λ_=>⟨l.length-(i+1),J,i+1,rfl,J,rfl,rfl,rfl⟩⟩
 ·refine bl (cD (J:i<1000000000000)) ?_;exact⟨l.length-(i+1),J,i+1,rfl,J,rfl,rfl,rfl⟩
theorem ajT(K:n=l.length)(L:u h b=some (.cells (fd l) bG))(bo:l.length<=100000)(V:∀(i:Nat) (x y:Int),l[i]? = some x->l[i+1]? = some y->x<=y):
  aE Q s 290 [.slice (some ⟨b,0,aB⟩) n cap] h U (fs (.bool true) U h):=by
 subst K;refine alA ?_;unfold Z9;refine aG ?_;have P:IntKind.wrap .i64 ((l.length:Int)-1)=(l.length:Int)-1:=jM J J;rw[P];refine bE.mk (IsJ (.slice (some ⟨b,0,aB⟩) l.length cap) l h U) l.length ⟨(l.length:Int)-1,J,J,J,rfl,rfl,rfl⟩ ?_;rintro _ _ _ _ ⟨k,rfl,I,E,rfl,rfl,rfl⟩;rw[ajS];unfold Xx;refine aG ?_;refine⟨λB=>?_,λc0=>⟨rfl,rfl,rfl⟩⟩;obtain⟨i,rfl⟩:∃i:Nat,k=((i+1:Nat):Int):=⟨(k-1).toNat,J⟩
 obtain⟨x,A⟩:=dH (l:=l) (i:=i+1) J;obtain⟨y,C⟩:=dH (l:=l) (i:=i) J;have D:IntKind.wrap .i64 (((i+1:Nat):Int)-1)=(i:Int):=by rw[show((i+1:Nat):Int)-1=(i:Int) by omega];exact jM J J
 have M:=V i y x C A;simp(disch:=omega)only[bk,D,L,ix A,ix C,seval];refine(alC ).mono ?_;rintro r Z a5 ⟨rfl,rfl,rfl⟩;rw[hA (J:¬x<y)];refine⟨J,?_⟩;refine bl @D ?_;exact⟨_,J,(i:Int),rfl,J,J,rfl,rfl,rfl⟩
theorem aco(ai:aa GE)(i j:Nat):((ft ai).drop i).take j=ft ((ai.drop i).take j):=by unfold ft;rw[List.map_take,List.map_drop]
theorem asU(ai:aa GE)(i j:Nat):((gA ai).drop i).take j=gA ((ai.drop i).take j):=by unfold gA;rw[List.map_take,List.map_drop]
theorem KK(h:ai[i]? = some g):(ft ai)[i]? = some (g.t:Int):=by unfold ft;grind
theorem KL(h:ai[i]? = some g):(gA ai)[i]? = some g.w:=by unfold gA;grind
theorem aeG(h:(ft ai)[i]? = some x):∃g,ai[i]? = some g/\x=(g.t:Int):=by
 unfold ft at h
 grind
theorem Px(h:g∈eP ai i):g∈ai/\g.f=i:=by
 unfold eP at h
 grind
theorem Qy(ai:aa GE)(i:Nat):(eP ai i).length<=ai.length:=uL _ _
def CtJ(p r:Nat)(au:ae)(a0:Nat)(m:Nat)(aF:aa X)(ac:ae)(Y:Nat):Prop:=∃i,m=r-i/\i<=r/\aF=[bf p,.bool false,(r:X),(i:X)]/\ac=au/\Y=a0
theorem J2(M:hh r c ai)(aI:kq h U v r c ai):aE Q s 201 [v] h U (dI (.bool true) U h):=by
 refine aoz ?_;obtain⟨b,aB,cap,v2,v3,rfl,aW,Z,K,pE⟩:=id aI;obtain⟨a2,c2,rfl⟩:=K.form;obtain⟨a3,ci,rfl⟩:=pE.form;have bc:=M.bc;have a1:=M.a1;have bo:=M.len;have P:=Dd ai;have v9:=GC ai;have L:∀{o},aA U h (T h U o):=aM
 unfold acd;refine aG ?_;refine JW.mono ?_;rintro _ _ _ ⟨rfl,rfl,rfl⟩;rw[lu J];refine aG ?_;refine JW.mono ?_;rintro _ _ _ ⟨rfl,rfl,rfl⟩;rw[lu J];simp(disch:=omega)only[bk,cD (J:r<1000000000000),show(((r+1:Nat):Int) == ((r+1:Nat):Int))=true from ru _,show(((gA ai).length:Int) == ((ft ai).length:Int))=true by grind,seval];rw[show decide ((65536:Int)<((ft ai).length:Int))=false from hA J];unfold CP;have lK:(qi ai r)[0]? = some 0:=by rw[wI J,Lt];rfl
 have fS:(qi ai r)[r]? = some ((ft ai).length:Int):=by rw[wI J,agp M,P]
 simp(disch:=omega)only[bk,Z,ix lK,ix fS,show(((ft ai).length:Int) == ((ft ai).length:Int))=true from ru _,seval];refine(ajT  (Qv ai r).symm (by rw[aq J];omega) (by rw[Qv];omega) λi x y A B=>?_).mono ?_
 ·have ag:=(fb.1 B).1;rw[Qv]at ag;rw[wI J]at A B;cases A;cases B;have:=Am ai (J:i<=i+1);omega
 rintro _ _ _ ⟨rfl,rfl,rfl⟩;refine aG ?_;unfold J1;refine aG ?_;refine bE.mk (CtJ U r (T h U (.cells [(r:X),(c:X),.slice (some ⟨b,0,aB⟩) (r+1) cap,.slice a2 (ft ai).length c2,.slice a3 (gA ai).length ci] false)) (U+1)) r ⟨0,rfl,J,rfl,rfl,rfl⟩ ?_;rintro _ _ _ _ ⟨i,rfl,ag,rfl,rfl,rfl⟩;rw[alx];unfold Yx;refine aG ?_;refine⟨λcb=>?_,λeG=>⟨rfl,L,J⟩⟩;have VR:(qi ai r)[i]? = some (dF ai i:Int):=wI J;have E:(qi ai r)[i+1]? = some (dF ai (i+1):Int):=wI J;obtain⟨w,bO,V⟩:=Qx K (Am ai (J:i<=i+1)) (by rw[P];exact vg _ _) (.inl rfl);rw[aco,Dc M.up]at V;simp(disch:=omega)only[bk,Z,ix VR,ix E,cD (J:i<1000000000000),bO,seval];have Ij:=Qy ai i;refine(asT   (V.F L J) (by rw[Dd];omega) a1 (λx A=>?_) λk x y A B=>?_).mono ?_
 ·obtain⟨g,D,rfl⟩:=f3.1 A;have:=M.mz g (Px D).1;omega
 ·obtain⟨g,I,rfl⟩:=aeG A;obtain⟨cd,C,rfl⟩:=aeG B;have h1:=(fb.1 I)
  have ao:=(fb.1 C)
  have:=Cw.1 (Qw M.up i) k (k+1) h1.1 ao.1 J
  grind
 rintro _ _ _ ⟨rfl,rfl,rfl⟩;refine⟨J,?_⟩;refine bl (cD (J:i<1000000000000)) ?_;exact⟨r-(i+1),J,i+1,rfl,J,rfl,rfl,rfl⟩
theorem Gd(M:hh r c ai)(I:kq h U v r c ai):aE Q s 293 [v] h U (dI v U h):=by
 refine asM ?_;have B:=I;obtain⟨b,aB,cap,v2,v3,rfl,Z,aY,K,L⟩:=id I;obtain⟨a2,c2,rfl⟩:=K.form;obtain⟨a3,ci,rfl⟩:=L.form;unfold aeC;have P:∀{o aX},aA U h (T (T h U o) (U+1) aX):=aM
 refine aG ?_;refine(J2 M (B.F P J)).mono ?_;rintro _ V a5 ⟨rfl,A,C⟩;have D:=A U J;rw[aq J,aR]at D;have E:=A (U+1) J;rw[aR]at E;refine cN @D @E ?_;exact⟨rfl,aM,J⟩
def ayE(ai:aa GE)(i B:Nat)(U:Nat)(h:ae):bN:=λres ac Y=>∃c8 iS,res = .tuple ⟨[c8,iS]⟩/\s9 ac B c8 (ft (eP ai i))/\s9 ac B iS (gA (eP ai i))/\aA U h ac/\U<=Y
theorem aac{B:Nat}(M:hh r c ai)(aI:kq h B v r c ai)(V:B<=U)(ag:i<r):aE Q s 296 [v,(i:X)] h U (ayE ai i B U h):=by
 refine asO ?_;obtain⟨b,aB,cap,v2,v3,rfl,aW,aY,L,P⟩:=id aI;obtain⟨a2,c2,rfl⟩:=L.form;obtain⟨a3,ci,rfl⟩:=P.form;have bc:=M.bc;have D:∀{o},aA U h (T h U o):=aM
 have VR:(qi ai r)[i]? = some (dF ai i:Int):=wI J;have E:(qi ai r)[i+1]? = some (dF ai (i+1):Int):=wI J;obtain⟨Z,I,A⟩:=Qx L (Am ai (J:i<=i+1)) (by rw[Dd];exact vg _ _) (.inr rfl);obtain⟨iS,K,C⟩:=Qx P (Am ai (J:i<=i+1)) (by rw[GC];exact vg _ _) (.inr rfl);rw[aco,Dc M.up]at A;rw[asU,Dc M.up]at C;unfold aeD;simp(disch:=omega)only[bk,aY,ix VR,ix E,cD (J:i<1000000000000),I,K,seval];exact⟨Z,iS,rfl,A.F (D.mono V) J,C.F (D.mono V) J,D,J⟩
def Hh(g:GE):aa X:=[(g.t:X),(g.w:X)]
def RwJ(dq fw:X)(l:aa GE)(au:ae)(a0:Nat)(m:Nat)(aF:aa X)(ac:ae)(Y:Nat):Prop :=
 ∃(k:Nat) (o:X),m=l.length-k/\k<=l.length/\aF=[o,fw,dq,(l.length:X),(k:X)]/\eb ac o Hh 2 (l.take k) a0 Y/\aA a0 au ac/\a0<=Y
def RowK(ai:aa GE)(i:Nat)(U:Nat)(h:ae):bN:=λres ac Y=>eb ac res Hh 2 (eP ai i) U Y/\aA U h ac/\U<=Y
theorem asV(M:hh r c ai)(aI:kq h U v r c ai)(ag:i<r):aE Q s 295 [v,(i:X)] h U (RowK ai i U h):=by
 refine av3 ?_;have I:=aI;obtain⟨b,aB,cap,v2,v3,rfl,aW,aY,qA,pE⟩:=id aI;obtain⟨a2,c2,rfl⟩:=qA.form;obtain⟨a3,ci,rfl⟩:=pE.form;have bc:=M.bc;have bo:=M.len;have Ij:=Qy ai i;unfold agm;have b4:∀{o},aA U h (T h U o):=aM
 refine aG ?_;refine(Gd M (I.F b4 J)).mono ?_;rintro _ h1 a5 ⟨rfl,V,fi⟩;have bP:=V U J;rw[aR]at bP;have gk:IntKind.wrap .i64 ((r:Int)-1)=(r:Int)-1:=jM J J;refine cN @bP @gk ?_;refine JW.mono ?_;rintro _ _ _ ⟨rfl,rfl,rfl⟩;rw[lu J];refine aG ?_;have er:∀{o},aA U h (T h1 U o):=aM
 refine(aac M (I.F er (cC _)) J ag).mono ?_;rintro _ K bT ⟨c8,iS,rfl,Ce,Cf,eY,ga⟩;obtain⟨h7,cE,rfl,_⟩:=id Ce;obtain⟨hM,cm,rfl,_⟩:=id Cf;have tk:=Dd (eP ai i);have v9:=GC (eP ai i);rw[tk]at Ce;rw[v9]at Cf;rw[tk,v9];refine aG ?_;refine bE.mk (RwJ (.slice h7 (eP ai i).length cE) (.slice hM (eP ai i).length cm) (eP ai i) K bT) (eP ai i).length ⟨0,_,J,J,rfl,.inl ab,aM,J⟩ ?_;rintro _ _ a9 dP ⟨k,o,rfl,hk,rfl,L,B,g5⟩;rw[asN];unfold acl;refine aG ?_;refine⟨λE=>?_,λeG=>?_⟩
 ·have E:k<(eP ai i).length:=J
  obtain⟨g,A⟩:=dH E;obtain⟨b3,db,kX,xt,zk,eR,rfl,jy,D⟩:=Ce.at (KK A)
  obtain⟨d8,gn,kZ,Ik,xx,mK,rfl,Z,C⟩:=Cf.at (KL A)
  have aK:=(B b3 J).trans jy;have cc:=(B d8 J).trans Z;simp(disch:=omega)only[bk,aK,D k _ (KK A),cc,C k _ (KL A),seval];refine mu (enc:=Hh)  (λ_=>rfl) (λ_=>rfl) J (L.F ab J) J g (aR _ _ _) rfl ab λdX bY r5 P=>?_;refine bl (cD (J:k<1000000000000)) ?_;refine⟨(eP ai i).length-(k+1),J,k+1,_,rfl,J,rfl,?_,λc a1=>?_,J⟩
  ·rw[gW,A];exact r5
  ·rw[P c a1,aq J];exact B c a1
 ·have:k=(eP ai i).length:=J
  subst this;rw[ic]at L;refine⟨?_,aM,J⟩;rcases L with e|⟨b,h1,ao,K⟩
  ·exact .inl e
  ·exact .inr ⟨b,J,ao,K⟩
def hI(ai:aa GE)(j:Nat):Nat:=(ai.filter λg=>decide (g.f+1=j)).length
def Bb(ai:aa GE)(r:Nat):aa Int:=(List.range (r+1)).map λj=>(hI ai j:Int)
def xy(ai:aa GE)(r k:Nat):aa Int:=(List.range (r+1)).map λj=>((if j<=k then dF ai j else hI ai j:Nat):Int)
theorem acp(h:i<n):((List.range n).map f)[i]? = some (f i):=ab
theorem acq{g:Nat->Int}(ag:i<n)(A:g i=x)(B:∀j,j<n->j≠i->g j=f j):((List.range n).map f).set i x=(List.range n).map g:=by
 apply pI
 grind
theorem aoH(r:Nat):Bb [] r=List.replicate (r+1) 0:=by
 unfold Bb;apply pI;intro j
 by_cases A:j<r+1
 ·rw[acp A,Fe,if_pos A];rfl
 grind
theorem acr(ai:aa GE)(e:GE)(j:Nat):hI (ai++[e]) j=hI ai j+if e.f+1=j then 1 else 0:=by
 unfold hI
 grind
theorem aoI{e:GE}(h:e.f<r):(Bb ai r).set (e.f+1) ((hI ai (e.f+1):Int)+1)=Bb (ai++[e]) r:=by
 refine acq (by omega) ?_ λj B A=>?_
 ·rw[acr,if_pos rfl];simp
 ·rw[acr,if_neg (kI A)];simp
theorem aeH(ai:aa GE)(j:Nat):hI ai j<=ai.length:=uL _ _
theorem aad(ai:aa GE)(k:Nat):dF ai (k+1)=dF ai k+hI ai (k+1):=by
 unfold dF hI
 induction ai with
 |nil=>rfl
 |cons g ai A =>
  grind
theorem ayF(ai:aa GE)(r:Nat):xy ai r 0=Bb ai r:=by
 apply qE;intro j _
 by_cases h:j<=0
 ·have:j=0:=J
  subst this;rw[if_pos (cC _),Lt];have:hI ai 0=0:=by
   unfold hI;rw[List.length_eq_zero_iff,zU]
   grind
  omega
 grind
theorem ayG(ai:aa GE)(r:Nat):xy ai r r=qi ai r:=by
 apply qE
 grind
theorem aoJ(h:k<r):(xy ai r k)[k+1]? = some (hI ai (k+1):Int):=by
 unfold xy
 grind
theorem aoK(h:k<r):(xy ai r k)[k]? = some (dF ai k:Int):=by
 unfold xy
 grind
theorem asW(h:k<r):(xy ai r k).set (k+1) ((hI ai (k+1):Int)+(dF ai k:Int))=xy ai r (k+1):=by
 refine acq (by omega) ?_ λj B A=>?_
 ·rw[if_pos (cC _),aad];omega
 grind
theorem aoL(C:r<=4096):aE Q s 367 [(r:X),(c:X)] h U (λB ac Y=>B = .agg ⟨[(r:X),(c:X),.slice (some ⟨U+1,0,none⟩) (r+1) (r+1),.slice none 0 0,.slice none 0 0]⟩/\u ac (U+1)=some (.cells (fd (List.replicate (r+1) 0)) false)/\aA U h ac/\Y=U+1+1):=by
 refine adW ?_;unfold Sf;have A:List.replicate (r+1) (Value.int .i64 0)=fd (List.replicate (r+1) 0):=by simp[fd]
 refine cN (cD (J:r<1000000000000)) @A ?_;exact aM
def aAl(r c cr fl jE ap:Nat)(VL:X)(ai:aa GE)(au:ae)(U:Nat)(m:Nat)(aF:aa X)(ac:ae)(Y:Nat):Prop :=
 ∃(i:Nat) (e6 nW:X),m=ai.length-i/\i<=ai.length/\aF=[(r:X),bf cr,bf fl,VL,(ai.length:X),(i:X)] /\
  u ac fl=some (.cells [(r:X),(c:X),.slice (some ⟨jE,0,none⟩) (r+1) (r+1),e6,nW] false)/\u ac jE=some (.cells (fd (Bb (ai.take i) r)) false) /\
  yW ac e6 nW ((ai.take i).map λe=>(e.t:Int)) ((ai.take i).map GE.w) ap Y/\(∀d,d<ap->d≠fl->d≠jE->u ac d=u au d)/\ap<=Y
def aAm(r c cr fl jE ap:Nat)(e6 nW:X)(ai:aa GE)(au:ae)(U:Nat)(m:Nat)(aF:aa X)(ac:ae)(Y:Nat):Prop :=
 ∃(i:Nat),m=r-i/\i<=r/\aF=[bf cr,bf fl,(r:X),(i:X)] /\
  u ac fl=some (.cells [(r:X),(c:X),.slice (some ⟨jE,0,none⟩) (r+1) (r+1),e6,nW] false)/\u ac jE=some (.cells (fd (xy ai r i)) false) /\
  (∀d,d≠jE->u ac d=u au d)/\Y=U
def RK(r c:Nat)(ai:aa GE)(U:Nat)(h:ae):bN:=λv ac Y=>wO ac U Y v r c ai/\aA U h ac/\U<=Y
theorem Py(aI:fj h U v cR ai)(M:hh r c ai):
  aE Q s 281 [(r:X),(c:X),v] h U (RK r c ai U h):=by
 refine adU ?_;obtain⟨a,cap,rfl,Mm⟩:=id aI;have bc:=M.bc;have a1:=M.a1;have bo:=M.len;unfold Se;refine aG ?_;refine(aoL   bc).mono ?_;rintro n2 h1 _ ⟨rfl,g6,I,rfl⟩;have cH:=I U J;rw[aR]at cH;refine aG ?_;refine bE.mk (aAl r c U (U+1+1+1) (U+1+1) (U+1+1+1+1) (.slice a ai.length cap) ai h1 U) ai.length ⟨0,_,_,rfl,J,rfl,ab,by rw[aq J,aq J,sz,aoH];omega,.inl ⟨rfl,rfl,rfl,rfl⟩,ab,J⟩ ?_;rintro m _ ao B ⟨i,e6,nW,rfl,ag,rfl,P,Z,C,bK,dv⟩;obtain⟨e7,db,qy,Cb,zI,Nq⟩:=C.hE;obtain⟨aD,a5,V,a2,L,c2,rfl,rfl⟩:=C.form;rw[abK];unfold Qc;refine aG ?_;refine⟨λcb=>?_,λeG=>?_⟩
 ·obtain⟨e,b0⟩:=dH cb;have s8:e.f<r:=M.rows e ab;obtain⟨_,b,aB,bG,dh,cs,aW,aU,aY⟩:=aI.at b0;cases aU;have jy:=(bK b J J J).trans ((I b J).trans ((aq J).trans aY));have qd:hB (some 3) (i*3) (a7 cR ai++cs) = .ok (.agg ⟨[(e.f:X),(e.t:X),(e.w:X)]⟩):=BI  (k:=3) (λ_=>rfl) b0;have bd:(Bb (ai.take i) r)[e.f+1]? = some (hI (ai.take i) (e.f+1):Int):=acp J;have T9:=aeH (ai.take i) (e.f+1);have ug:(ai.take i).length<=120:=ab
  have K:IntKind.wrap .i64 ((hI (ai.take i) (e.f+1):Int)+1)=(hI (ai.take i) (e.f+1):Int)+1:=jM J J;simp(disch:=omega)only[bk,jy,qd,P,Z,cD (J:e.f<1000000000000),ix bd,K,seval];refine⟨ab,?_⟩;have lh:((ai.take i).map λe=>(e.t:Int)).length=i:=ab
  have Ea:((ai.take i).map GE.w).length=i:=ab
  refine wG (qy.F ab) (aR _ _ _) J λE Ey A=>?_;have Ua:u E (U+1+1+1)=some (.cells [(r:X),(c:X),.slice (some ⟨U+1+1,0,none⟩) (r+1) (r+1),.slice aD a5 V,.slice a2 L c2] false):=ab
  have Ub:u E B=some (.cells [(e.f:X),(e.t:X),(e.w:X)] false):=ab
  refine cN @Ua @Ub ?_;refine wG (Cb.F λc a1=>?_) (aR _ _ _) J λa9 Mv ul=>?_
  ·grind
  have Uc:u a9 (U+1+1+1)=some (.cells [(r:X),(c:X),.slice (some ⟨U+1+1,0,none⟩) (r+1) (r+1),.slice (some ⟨B+1+1,0,some 1⟩) (((ai.take i).map λe=>(e.t:Int)).length+1) (((ai.take i).map λe=>(e.t:Int)).length+1),.slice a2 L c2] false):=ab
  refine bl @Uc ?_;have pk:ai.take (i+1)=ai.take i++[e]:=by rw[gW,b0];rfl
  refine⟨ai.length-(i+1),J,i+1,_,_,rfl,J,by rw[cD J],aR _ _ _,?_,.inr ⟨B+1+1,B+1+1+1+1,J,J,J,J,J,?_,?_,?_,?_⟩,λd h1 ao E=>?_,J⟩
  ·rw[aq J,ul _ J (λe=>ab),aq J,aq J,A _ J (λe=>ab),aq J,aR,aoI s8,pk]
  ·grind
  ·grind
  ·grind
  all_goals grind
 ·obtain⟨Nr,Ns⟩:=C.gv;have uk:i=ai.length:=J
  subst uk;rw[ic]at Nr Ns C Z;refine bE.mk (aAm r c U (U+1+1+1) (U+1+1) (U+1+1+1+1) (.slice aD a5 V) (.slice a2 L c2) ai ao B) r ⟨0,rfl,J,rfl,P,by rw[ayF];omega,λ_ _=>rfl,rfl⟩ ?_;rintro m _ E vN ⟨k,rfl,hk,rfl,_,Z,A,rfl⟩;have P:=(A (U+1+1+1) J).trans P;rw[abL];unfold Qd
  by_cases D:k<r
  ·have bd:=aoJ (ai:=ai) D;have ck:=aoK (ai:=ai) D;have T9:=aeH ai (k+1);have hyb:=vg ai k;have K:IntKind.wrap .i64 ((hI ai (k+1):Int)+(dF ai k:Int))=(hI ai (k+1):Int)+(dF ai k:Int):=jM J J;simp(disch:=omega)only[bk,show(k:Int)<(r:Int) by omega,D,P,Z,cD (J:k<1000000000000),ix bd,ix ck,K,seval];refine⟨⟨ab,?_⟩,λh=>absurd trivial h⟩;refine⟨r-(k+1),J,k+1,rfl,J,rfl,?_,?_,λd E=>ab,rfl⟩
   ·grind
   ·rw[aR,asW D]
  ·have:k=r:=J
   subst this;have i2:=(A U J).trans ((bK U J J J).trans cH);refine cN @P @i2 ?_;rw[ayG]at Z;have qA:oA (T E U (.cells [(k:X),(c:X),.slice (some ⟨U+1+1,0,none⟩) (k+1) (k+1),.slice aD a5 V,.slice a2 L c2] false)) U vN (.slice aD a5 V) (ft ai)/\oA (T E U (.cells [(k:X),(c:X),.slice (some ⟨U+1+1,0,none⟩) (k+1) (k+1),.slice aD a5 V,.slice a2 L c2] false)) U vN (.slice a2 L c2) (gA ai):=by
    rcases C with⟨aU,aK,cc,d6⟩|⟨dL,b3,eh,iD,h7,hM,ux,cc,d6,cz,cE⟩
    ·exact⟨⟨none,.inl ⟨aU,cc,rfl⟩,λc e=>by cases e⟩,⟨none,.inl ⟨aK,d6,rfl⟩,λc e=>by cases e⟩⟩
    ·refine⟨⟨some dL,.inr ⟨dL,rfl,cc,?_⟩,λc e=>ab⟩,⟨some b3,.inr ⟨b3,rfl,d6,?_⟩,λc e=>ab⟩⟩
     ·rw[aq J,A dL J,iF];exact cz
     ·rw[aq J,A b3 J,iF];exact cE
   refine⟨λh=>absurd h J,λ_=>⟨⟨U+1+1,none,k+1,_,_,rfl,J,J,?_,qA.1,qA.2⟩,λd bh=>?_,J⟩⟩
   ·grind
   ·rw[aq J,A d J,bK d J J J,I d J,aq J]
def da(n k i:Nat):Nat:=min i k*n / k
theorem tE(A:0<k)(i:Nat):da n k i<=n:=by refine Nat.div_le_of_le_mul ?_;exact sA J J
theorem uY(h:i<=j):da n k i<=da n k j:=by exact Nat.div_le_div_right (sA J J)
theorem aeI(n k:Nat):da n k 0=0:=by unfold da;simp
theorem aeJ(A:0<k):da n k k=n:=by unfold da;rw[Nat.min_self];exact NJ n A
def p5(a H b W:Nat)(g:GE):al:=decide (a<=g.f/\g.f<a+H/\b<=g.t/\g.t<b+W)
def l1(ai:aa GE)(a H b W:Nat):aa GE:=(ai.filter (p5 a H b W)).map λg=>⟨g.f-a,g.t-b,g.w⟩
theorem KM{a H W:Nat}(M:hh r c ai)(E:a+H<=r)(D:b+W<=c):hh H W (l1 ai a H b W) where
 up:=by
  unfold l1 k2;rw[wl];refine List.Pairwise.imp_of_mem (λ{x y} A ck h=>?_) (Jp _ M.up);have C:=of_decide_eq_true (od.1 A).2;unfold nn at h ⊢
  grind
 rows:=λg B=>by
  obtain⟨x,A,rfl⟩:=f3.1 B;have C:=of_decide_eq_true (od.1 A).2
  grind
 mz:=λg B=>by
  obtain⟨x,A,rfl⟩:=f3.1 B;have C:=of_decide_eq_true (od.1 A).2
  grind
 bc:=by have:=M.bc;omega
 a1:=by have:=M.a1;omega
 len:=by unfold l1;rw[gX];exact iv ab M.len
def yY(b W:Nat)(g:GE):al:=decide (b<=g.t/\g.t<b+W)
def S3(ai:aa GE)(a b W i:Nat):aa GE:=((eP ai (a+i)).filter (yY b W)).map λg=>⟨i,g.t-b,g.w⟩
theorem ajU(h:k2 ai)(a H b W:Nat):ai.filter (p5 a (H+1) b W)=ai.filter (p5 a H b W)++(eP ai (a+H)).filter (yY b W):=by
 induction ai with
 |nil=>rfl
 |cons x ai A =>
  have A:=A (uM.1 h).2;unfold eP at A ⊢;rw[mW,mW,mW,A]
  by_cases D:x.f<a+H
  ·have aK:p5 a (H+1) b W x=p5 a H b W x:=by unfold p5;grind
   grind
  ·have I:=ahJ h;have aL:ai.filter (p5 a H b W)=[]:=by
    rw[zU];intro g E;unfold p5
    grind
   have C:p5 a H b W x=false:=hA J;rw[aL,C]
   by_cases K:x.f=a+H
   ·have B:p5 a (H+1) b W x=yY b W x:=by unfold p5 yY;grind
    grind
   ·have B:p5 a (H+1) b W x=false:=hA J
    grind
theorem alD(h:k2 ai)(a H b W:Nat):l1 ai a (H+1) b W=l1 ai a H b W++S3 ai a b W H:=by
 unfold l1 S3;rw[ajU h,iU]
 congr 1
 apply qE;intro g A;have:=(od.1 (show g∈eP ai (a+H)from ab)).2
 grind
theorem av5(ai:aa GE)(a b W:Nat):l1 ai a 0 b W=[]:=by
 unfold l1;rw[zU.2];rfl;intro g _;unfold p5
 grind
end Go.Proofs.YthlhhajnbgjfmaaGreat
