/- Parts of the proof: HwFn3: each statement bears its own conditions. -/
import Derived.Test.YthlhhajnbgjfmaaGreatRcHwFn2
namespace Go.Proofs.YthlhhajnbgjfmaaGreat
open Go Go.Ax
set_option linter.all false
set_option maxHeartbeats 1000000
set_option maxRecDepth 1000000
variable {U:Nat} {ag:aa GE} {s:al} {h:ae} {v:X} {N R:aR} {n:Nat} {l:aa Int} {r:Nat} {aM:aR} {i:Nat} {ba:X} {c:Nat} {a3 bx aC bu aB:X} {k:Nat} {eD a2:X} {p:Nat->al} {di en:X} {ac:ae} {aY:X} {Y:Nat} {fd:X} {ao aj:Nat} {bN:X} {a:aw Addr} {c4:X} {aO:aw Nat} {b j:Nat} {aP:aR} {q:Nat->al} {ef iz ga ho kY mj:X} {f:Nat->Int} {x:Int} {bJ:al} {d6 dy cap:Nat} {g:GE} {w:Nat} {m:Int}
def Jk(s:al)(K:bP)(ct cB co de ij rN:X)(au:ae)(a0:Nat):Prop:=ax au 0 de λb=>af (cS [(ad 0),(ad 0),(ad 0),(ad 0),ay] [(0,1,(ad 1)),(1,1,b),(2,1,ct)]) λc=>aN 2 au de λd=>af (cS [(ad 0),(ad 0),(ad 0),(ad 0),ay,(ad 0),ay,(ad 0),(ad 0),(ad 0),(ad 0),ay] [(0,5,c),(5,2,d),(7,1,cB),(8,1,co),(9,1,(ad 4)),(10,1,rN)]) λe=>af (aQ au 12 ij e) λf=>aN 12 f ij λg=>K g f a0
def adj:vm:=λs ah t1 t2 t3 h U K=>bI ah h U λa b c=>bW [(ad 0),(ad 0),(ad 0),(ad 0),ay,(ad 0),ay,(ad 0),(ad 0),(ad 0),(ad 0),ay] b c λd e f=>ax e 0 a λi=>bw .geq 3 i (ad 0) (ax e 0 a λl=>af (min2 true l (ad 8191)) λm=>cg m λn=>(Jk s K t1 t2 t3 a d n e f)) (Jk s K t1 t2 t3 a d (ad 0) e f)
theorem aqL:w4 22 adj:=yy []
def RP:aa (aa Nat):=[[0,5,10,11,12]]
def Km(s:al)(N:aR)(aM:aR)(R:aR)(cu ep ll Lw sv:X)(au:ae)(a0:Nat):Prop:=cg sv λa=>N [cu,ep,ll,Lw,a] au a0
def Rf(s:al)(aC bN di en eD:X)(h:ae)(U:Nat)(N:aR)(aM:aR)(R:aR):Prop:=cH eD en (d0 h 1 di eD λc=>cH c aC (aW s 179 [bN,c] h U λe f g=>br e (b9 180 [c] f g λi j k=>bG .shr 3 c (.int .u64 6) λl=>hT 1 bN l λm=>bT j m λn=>c0 m n (bG .or 188 n i λo=>hT 1 bN l λp=>af (aQ j 1 p o) λq=>(Km s N aM R aC bN di en eD q k)) 1 [f]) (Km s N aM R aC bN di en eD f g)) (Km s N aM R aC bN di en eD h U)) (aM [aC,bN,di,en,eD] h U)
def fof:c5:=λs ah t1 h U K=>aW s 117 [ah] h U λa b c=>cV t1 λd=>bD (bR Q s RP 108 0) [ah,a,t1,d,(ad 0)] b c [(0,λe f g=>K (a7 e 1) f g)] (λ_ _ _=>False)
theorem aeV:bR Q s RP 108 0 [aC,bN,di,en,eD] h U N [(0,aM)] R=Rf s aC bN di en eD h U N aM R:=by kernel_rfl
theorem af7:c7 108 fof:=c9 RP
def Po:aa (aa Nat):=[[3,6,7,8]]
def Jl(s:al)(a3 bu ba bx:X)(h:ae)(U:Nat)(N:aR)(aM:aR)(R:aR):Prop:=cH bx ba (d0 h 1 bu bx λc=>aW s 183 [c] h U λd e f=>lu a3 d λg=>cg bx λi=>N [g,bu,ba,i] e f) (aM [a3,bu,ba,bx] h U)
def Qu:cP:=λs ah h U K=>cV ah λa=>bD (bR Q s Po 111 0) [(ad 0),ah,a,(ad 0)] h U [(0,λb c d=>K (a7 b 0) c d)] (λ_ _ _=>False)
theorem Ov:bR Q s Po 111 0 [a3,bu,ba,bx] h U N [(0,aM)] R=Jl s a3 bu ba bx h U N aM R:=by kernel_rfl
theorem aaZ:cQ 111 Qu:=cT Po
def aye:cP:=λs ah h U K=>aW s 195 [ah] h U λa b c=>d4 (tf [(.int .u64 0)] a a) b c λd e f=>K d e f
theorem aeW:cQ 117 aye:=cT []
def awn:cP:=λs ah h U K=>aW s 197 [ah] h U λa b c=>aW s 196 [a] b c λd e f=>K d e f
theorem adk:cQ 119 awn:=cT []
def Pp:c5:=λs ah t1 h U K=>bw .geq 3 t1 (ad 0) (bG .shr 3 t1 (.int .u64 6) λb=>cV ah λc=>bG .lss 3 b c λd=>K d h U) (K (.bool false) h U)
theorem YW:c7 179 Pp:=c9 []
def af8:cP:=λs ah h U K=>af (qe (.int .u64) ah) λa=>bG .and 238 a (.int .u64 63) λb=>bG .shl 188 (.int .u64 1) b λc=>K c h U
theorem awo:cQ 180 af8:=cT []
def Qv:aa (aa Nat):=[[0,3]]
def aa0(s:al)(aC a3:X)(h:ae)(U:Nat)(N:aR)(aM:aR)(R:aR):Prop:=bw .eql 188 aC (.int .u64 0) (aM [aC,a3] h U) (bG .sub 188 aC (.int .u64 1) λb=>bG .and 188 aC b λc=>cg a3 λd=>N [c,d] h U)
def awp:cP:=λs ah h U K=>bD (bR Q s Qv 183 0) [ah,(ad 0)] h U [(0,λa b c=>K (a7 a 1) b c)] (λ_ _ _=>False)
theorem aqM:bR Q s Qv 183 0 [aC,a3] h U N [(0,aM)] R=aa0 s aC a3 h U N aM R:=by kernel_rfl
theorem at4:cQ 183 awp:=cT Qv
def Qw:cP:=λs ah h U K=>af (min2 false ah (ad 0)) λa=>af (min2 true a (ad 4096)) λb=>lu b (ad 63) λc=>bG .shr 3 c (.int .u64 6) λd=>K d h U
theorem aa1:cQ 195 Qw:=cT []
def Qx:cP:=λs ah h U K=>bw .eql 87 ah ay (K ay h U) (d4 (fh 0 [] []) h U λb c d=>dG (dX (dT 1 c d b ah)) λe f g=>K e f g)
theorem aa2:cQ 139 Qx:=cT []
def aqN:cP:=λs ah h U K=>aW s 287 [ay,ah] h U λa b c=>K a b c
theorem YX:cQ 196 aqN:=cT []
def KN:cP:=λs ah h U K=>bI ah h U λa b c=>af (.ok (Value.func (.func 288) ⟨[]⟩ ⟨[a]⟩)) λd=>K d b c
theorem Rg:cQ 197 KN:=cT []
def FY:aa (aa Nat):=[[0,6,7,8],[0,4,5,6,7,8]]
def Cf(s:al)(N:aR)(aP:aR)(R:aR)(cu de ep ey fH ij:X)(au:ae)(a0:Nat):Prop:=bG .shr 188 de (.int .u64 1) λa=>cg ep λb=>N [cu,a,b,ey,fH,ij] au a0
def Pq(s:al)(aC aY bN bu ba bx:X)(h:ae)(U:Nat)(N:aR)(aP:aR)(R:aR):Prop:=bw .neq 188 aY (.int .u64 0) (bG .and 188 aY (.int .u64 1) λb=>bw .eql 188 b (.int .u64 1) (fc Q s (hJ h U [bN] aC) λd e f=>af (dr .not d) λg=>br g (R [aC,aY,bN,bu,ba,bx] e f) (Cf s N aP R aC aY bN bu ba bx e f)) (Cf s N aP R aC aY bN bu ba bx h U)) (aP [aC,aY,bN,bu,ba,bx] h U)
def Cg(s:al)(aC bu ba bx:X)(h:ae)(U:Nat)(N:aR)(aM:aR)(R:aR):Prop:=cH bx ba (d0 h 1 bu bx λc=>bG .shl 3 bx (.int .u64 6) λd=>bD (bR Q s FY 288 1) [aC,c,d,bu,ba,bx] h U [(2,λe f g=>cg (a7 e 5) λi=>N [(a7 e 0),(a7 e 3),(a7 e 4),i] f g)] (λj k l=>R [(a7 j 0),(a7 j 3),(a7 j 4),(a7 j 5)] k l)) (aM [aC,bu,ba,bx] h U)
def Kn:c5:=λs ah t1 h U K=>bT h t1 λa=>cV a λb=>bD (bR Q s FY 288 0) [ah,a,b,(ad 0)] h U [(0,λc d e=>K (.tuple ⟨[]⟩) d e)] (λf g i=>K (.tuple ⟨[]⟩) g i)
theorem aa3:bR Q s FY 288 1 [aC,aY,bN,bu,ba,bx] h U N [(2,aP)] R=Pq s aC aY bN bu ba bx h U N aP R:=by kernel_rfl
theorem FF:bR Q s FY 288 0 [aC,bu,ba,bx] h U N [(0,aM)] R=Cg s aC bu ba bx h U N aM R:=by kernel_rfl
theorem Qy:c7 288 Kn:=c9 FY
def Pr:aa (aa Nat):=[[0,1,4,7,8]]
def YY(s:al)(aC aB aY ba bx:X)(h:ae)(U:Nat)(N:aR)(aM:aR)(R:aR):Prop:=cH bx ba (d0 h 1 aC bx λc=>fc Q s (hJ h U [c] aB) λd e f=>br d (R [aC,aB,bx,ba,bx] e f) (cg bx λg=>N [aC,aB,aY,ba,g] e f)) (aM [aC,aB,aY,ba,bx] h U)
def adl:c5:=λs ah t1 h U K=>cV ah λa=>bD (bR Q s Pr 245 0) [ah,t1,(ad 0),a,(ad 0)] h U [(0,λb c d=>K (ad (-1)) c d)] (λe f g=>K (a7 e 2) f g)
theorem amU:bR Q s Pr 245 0 [aC,aB,aY,ba,bx] h U N [(0,aM)] R=YY s aC aB aY ba bx h U N aM R:=by kernel_rfl
theorem aqO:c7 245 adl:=c9 Pr
def NQ(s:al)(K:bP)(ct cB co SR:X)(au:ae)(a0:Nat):Prop:=br SR (K (ad 0) au a0) (ax au 4 co λb=>cV b λc=>j6 c (ad 0) (ax au 4 co λf=>ax au 1 co λi=>bG .mul 3 ct i λj=>lu j cB λk=>bG .rem 3 k c λl=>d0 au 1 f l λn=>bG .shl 2 n (.int .u64 12) λo=>bG .or 2 o cB λp=>K p au a0) (bG .shl 2 (ad 0) (.int .u64 12) λq=>bG .or 2 q cB λr=>K r au a0))
def aa4:gf:=λs ah t1 t2 h U K=>bI ah h U λa b c=>aW s 277 [t1,(ad 8192)] b c λd e f=>af (dr .not d) λg=>br g (NQ s K t1 t2 a (.bool true) e f) (ax e 1 a λj=>bG .sub 3 j (ad 1) λk=>aW s 277 [t2,k] e f λl m n=>af (dr .not l) λo=>(NQ s K t1 t2 a o m n))
theorem amV:gl 368 aa4:=gp []
def jU(x:Nat):aa X:=[.int .u64 (x:Int)]
def se(w:Nat)(U:Nat)(h:ae):bP:=λr ac Y=>∃b c aO,r = .slice (some ⟨b,0,aO⟩) 1 c/\U<=b/\b<Y/\u ac b=some (.cells [.int .u64 (w:Int)] false)/\aA U h ac/\U<=Y
theorem se.rd{r:X}(H:se w U h r ac Y):cN ac Y r jU [w]:=by obtain⟨b,c,aO,rfl,C,A,B,_⟩:=H;exact⟨_,_,rfl,λ_=>⟨b,aO,false,A,rfl,B⟩⟩
theorem YZ(A:1<=n)(B:n<=64):aH Q s 195 [(n:X)] h U (λr ac Y=>r = .int .i64 1/\ac=h/\Y=U):=by
 refine aa1 ?_;unfold Qw;have e:IntKind.wrap .i64 ((n:Int)+63)=((n+63:Nat):Int):=cG J;simp(disch:=omega)only[bn,show max (n:Int) 0=n by omega,show min (n:Int) 4096=n by omega,e,E8,seval]
 grind
theorem adm(A:1<=n)(C:n<=64):aH Q s 117 [(n:X)] h U (se 0 U h):=by refine aeW ?_;refine(YZ A C).mono ?_;rintro r D E ⟨rfl,B,aP⟩;rw[B,aP];show d4 (tf [.int .u64 0] (((1:Nat):X)) (((1:Nat):X))) h U _;refine m8 ?_;exact⟨U,1,none,rfl,J,J,ab,aK,J⟩
theorem Xq(A:k<64):aH Q s 179 [.slice a 1 c,(k:X)] h U (λr ac Y=>r = .bool true/\ac=h/\Y=U):=by
 refine YW ?_;unfold Pp;refine bg @E8 ?_;rw[show k / 64=0 by omega]
 grind
theorem adn(A:k<64):aH Q s 180 [(k:X)] h U (λr ac Y=>r = .int .u64 ((2 ^ k:Nat):Int)/\ac=h/\Y=U):=by
 refine awo ?_;unfold af8;have e:IntKind.wrap .u64 (k:Int)=(k:Int):=Cs J;have aP:∀{t},bin Q .and t (.int .u64 (k:Int)) (.int .u64 63) = .ok (.int .u64 (k:Int)):=λ{t}=>by rw[show(63:Int)=((63:Nat):Int)from rfl,E7 J J,show(63:Nat)=2 ^ 6-1 from rfl,Nat.and_two_pow_sub_one_eq_mod,Is J]
 simp(disch:=omega)only[bn,e,aP,alR k A,seval]
def fX(l:aa Nat):aa Int:=l.map λx:Nat=>(x:Int)
def mO(l:aa Nat)(i:Nat):al:=decide (i∈l)
def OfJ(n b c:Nat)(aO:aw Nat)(v:X)(l:aa Nat)(U:Nat)(h:ae)(m:Nat)(aE:aa X)(ac:ae)(Y:Nat):Prop :=
 ∃i,m=l.length-i/\i<=l.length/\aE=[(n:X),.slice (some ⟨b,0,aO⟩) 1 c,v,(l.length:X),(i:X)]/\u ac b=some (.cells [.int .u64 (mk n (mO (l.take i)):Int)] false)/\U<=b/\b<Y/\aA U h ac/\U<=Y
theorem wq(h:n<=64):mk n p<18446744073709551616:=Io (aev n p) (Nat.pow_le_pow_right   J h)
theorem Y0{l:aa Nat}{x:Nat}(A:l[i]? = some x)(j:Nat):mO (l.take (i+1)) j=(mO (l.take i) j||decide (j=x)):=by
 unfold mO;rw[hx,A,<-Bool.decide_or]
 grind
theorem awq{l:aa Nat}(au:1<=n)(M:n<=64)(aJ:cN h U v c3 (fX l))(bb:∀x∈l,x<n)(fW:l.length<1000000):aH Q s 108 [(n:X),v] h U (se (mk n (mO l)) U h):=by
 refine af7 ?_;obtain⟨a,cap,rfl,aZ⟩:=id aJ;unfold fof;refine(adm au M).mono ?_;rintro r ar bX ⟨b,c,aO,rfl,A,C,a6,L,B⟩;refine aF ?_;refine bD.mk (OfJ n b c aO (.slice a (fX l).length cap) l U h) l.length ⟨0,J,J,by unfold fX;grind,by rw[t8,show mk n (mO [])=0 from(by rw[<-O5 n];exact Cr λi _=>by simp[mO])];omega,A,C,L,B⟩ ?_;rintro _ _ ac Y ⟨i,rfl,aj,rfl,D,A,C,L,B⟩;rw[aeV];unfold Rf;refine aF ?_;refine⟨λP=>?_,λeN=>?_⟩
 ·obtain⟨x,a1⟩:=d1 P;have I:(fX l)[i]? = some (x:Int):=by unfold fX;grind
  obtain⟨_,b4,mf,bJ,c1,V,K,E⟩:=aJ.at I;cases K;rw[iG]at E;have Z:=bb x (k4 a1);simp(disch:=omega)only[bn,(L b4 V).trans E,i6 I,show(x:Int)<(n:Int) by omega,seval];refine⟨?_,λh=>absurd trivial h⟩;refine(Xq J).mono ?_;rintro r aL bS ⟨rfl,K,aP⟩;rw[K,aP];refine aF ?_;refine(adn J).mono ?_;rintro r aL bS ⟨rfl,K,aP⟩;rw[K,aP];refine⟨cD _,?_⟩;have eU:bin Q .or 188 (.int .u64 (mk n (mO (l.take i)):Int)) (.int .u64 ((2 ^ x:Nat):Int)) = .ok (.int .u64 (mk n (mO (l.take (i+1))):Int)):=by
   rw[acr Z,apM (wq M) (wq M),avP]
   congr 3
   exact Cr λj _=>(Y0 a1 j).symm
  simp(disch:=omega)only[bn,E8,show x / 64=0 by omega,D,eU,cG (J:i<1000000000000),seval];unfold Km;refine bg (cG (J:i<1000000000000)) ?_;exact⟨_,J,i+1,rfl,J,rfl,aS _ _ _,A,C,L.set A,B⟩
 ·have:i=l.length:=J
  subst this;rw[iQ]at D;exact⟨b,c,aO,rfl,A,C,D,L,B⟩
def OnJ(n:Nat)(p:Nat->al)(h:ae)(U:Nat)(m:Nat)(aE:aa X)(ac:ae)(Y:Nat):Prop :=
 ∃(q:Nat->al) (k:Nat),m=(eh n q).length/\k+(eh n q).length=(eh n p).length/\aE=[.int .u64 (mk n q:Int),(k:X)]/\ac=h/\Y=U
theorem uB(n:Nat)(p:Nat->al):(eh n p).length<=n:=by
 unfold eh
 grind
theorem aqP(M:n<=63):aH Q s 183 [.int .u64 (mk n p:Int)] h U (λr ac Y=>r = .int .i64 ((eh n p).length:Int)/\ac=h/\Y=U):=by
 refine at4 ?_;refine bD.mk (OnJ n p h U) (eh n p).length ⟨p,0,rfl,J,rfl,rfl,rfl⟩ ?_;rintro _ _ _ _ ⟨q,k,rfl,I,rfl,rfl,rfl⟩;rw[aqM];unfold aa0;have L:=uB n p
 by_cases A:mk n q=0
 ·rw[A];refine m8 ?_;have:eh n q=[]:=ate (Fy.1 A);rw[this]at I;rw[this];exact⟨ab,λh=>absurd h (by simp)⟩
 ·obtain⟨B,E,aP⟩:=Ys n q A;have D:(((mk n q:Nat):Int) == 0)=false:=ab
  have C:IntKind.wrap .u64 ((mk n q:Int)-1)=((mk n q-1:Nat):Int):=by rw[show((mk n q:Nat):Int)-1=((mk n q-1:Nat):Int) by omega];exact Cs (by have:=wq (p:=q) (J:n<=64);omega)
  have K:bin Q .and 188 (.int .u64 ((mk n q:Nat):Int)) (.int .u64 ((mk n q-1:Nat):Int)) = .ok (.int .u64 ((mk n B:Nat):Int)):=by rw[E7 (wq J) (by have:=wq (p:=q) (J:n<=64);omega),E]
  refine Gf @D @C @K (cG (J:k<1000000000000)) ?_;exact⟨_,J,B,k+1,rfl,J,rfl,rfl,rfl⟩
theorem amW(M:n<=63)(L:cN h U v jU [mk n p]):aH Q s 111 [v] h U (λr ac Y=>r = .int .i64 ((eh n p).length:Int)/\ac=h/\Y=U):=by
 refine aaZ ?_;obtain⟨a,cap,rfl,E⟩:=id L;obtain⟨b,aO,bJ,P,rfl,A⟩:=E (by simp);have V:=uB n p;unfold Qu;refine aF ?_;refine bD.mk (λm B ac Y=>ac=h/\Y=U/\((m=1/\B=[.int .i64 0,.slice (some ⟨b,0,aO⟩) 1 cap,.int .i64 1,.int .i64 0])\/(m=0/\B=[.int .i64 ((eh n p).length:Int),.slice (some ⟨b,0,aO⟩) 1 cap,.int .i64 1,.int .i64 1]))) 1 ab ?_;rintro _ _ ac Y ⟨I,D,C⟩;rw[I,D];rcases C with⟨rfl,rfl⟩|⟨rfl,rfl⟩
 ·rw[Ov];unfold Jl;have A:u h b=some (.cells [.int .u64 (mk n p:Int)] bJ):=A;refine bg @A ?_;refine⟨?_,ab⟩;refine(aqP M).mono ?_;rintro r Z bS ⟨rfl,K,aP⟩;rw[K,aP];refine aF ?_;exact⟨0,J,.inr ⟨rfl,by rw[show IntKind.wrap .i64 (0+((eh n p).length:Int))=((eh n p).length:Int) by rw[Int.zero_add];exact iT _ J];rfl⟩⟩
 ·rw[Ov];unfold Jl;simp(disch:=omega)only[bn,seval]
  grind
def S9(l:aa Nat):Nat:=match l with | []=>0|x::_=>x
theorem Qz{B c2:Nat}{A:aw Nat}{rd:al}{l D:aa X}(I:l.length=n)(K:u h b=some (.cells D rd))(C:u h B=some (.cells l bJ))(E:0<n)(M:n<1000000):
  dT 1 h U (.slice (some ⟨b,0,none⟩) 0 0) (.slice (some ⟨B,0,A⟩) n c2) = .ok (.val (.slice (some ⟨U,0,some 1⟩) n n) (T h U (.cells l false)) (U+1)):=by
 subst I;have L:k6 h (some ⟨B,0,A⟩) (l.length.mul 1) (λnew=>gT 1 h U (some ⟨b,0,none⟩) 0 0 l.length new)=gT 1 h U (some ⟨b,0,none⟩) 0 0 l.length l:=by
  rw[show l.length.mul 1=l.length from EA _,s2 C E J]
  grind
 show k6 h (some ⟨B,0,A⟩) (l.length.mul 1) (λnew=>gT 1 h U (some ⟨b,0,none⟩) 0 0 l.length new)=_;rw[L];unfold gT;rw[show Nat.ble (Nat.add 0 l.length) 0=false by
  cases C:Nat.ble (Nat.add 0 l.length) 0 with
  |false=>rfl
  |true=>have:=l0 C;grind]
 rw[show(Nat.ble (Nat.mul (Nat.add 0 l.length) 1) 1000000&&Nat.ble (Nat.add 0 l.length) 1000000)=true by
  simp only[eC,sW]
  grind]
 unfold q8;simp only[vD K];rw[show na (Nat.mul 0 1) (m6 D 0)=some [] by rw[xo,l1];rfl];show qh h U 1 (kz [] l) (0+l.length)=_;rw[ka,sU,iR];exact qY J
theorem zr{P:Program}{t:TypeId}(A:mY P t=true)(a:aw Addr)(n c:Nat):bin P .eql t (.slice a n c) (.slice none 0 0) = .ok (.bool a.isNone):=by
 show R.of "compared" (oG P t (.slice a n c) (.slice none 0 0)) _=_;unfold oG;cases a <;> simp[A,Ro,nP]
theorem af9:mY Tryz.prog 29=true:=by kernel_rfl
theorem aga:mY Tryz.prog 87=true:=by kernel_rfl
theorem amX(I:cN h U v jU [w]):aH Q s 139 [v] h U (se w U h):=by
 refine aa2 ?_;obtain⟨a,cap,rfl,D⟩:=id I;obtain⟨b,aO,bJ,C,rfl,A⟩:=D (by simp);have A:u h b=some (.cells [.int .u64 (w:Int)] bJ):=A;unfold Qx;have E:aA U h (T h U (.cells [] false)):=aK
 simp(disch:=omega)only[bn,zr aga,@List.length_cons Nat,@List.length_nil Nat,seval];refine⟨λB=>(by cases B),λ_=>?_⟩;rw[Qz (n:=1)  rfl (aS _ _ _) ((E b C).trans A) J J];exact⟨U+1,1,some 1,rfl,J,J,ab,aK,J⟩
theorem EW(K:cN h U v c3 l)(I:l.length<1000000):
  aH Q s 88 [v] h U (λr ac Y=>eH ac U Y r c3 l/\aA U h ac/\U<=Y):=by
 refine Yv ?_;obtain⟨a,cap,rfl,E⟩:=id K;unfold O9;simp(disch:=omega)only[bn,zr af9,seval];refine⟨λC=>⟨?_,aK⟩,λC=>?_⟩
 ·have:l=[]:=ab
  subst this;exact⟨none,0,rfl,λh=>absurd rfl h⟩
 have B:aA U h (T h U (.cells [] false)):=aK
 rcases Ix (l=[])with e|e
 ·subst e;exact⟨⟨some ⟨U,0,none⟩,0,rfl,λh=>absurd rfl h⟩,B,J⟩
 ·obtain⟨b,aO,bJ,D,rfl,A⟩:=E e;rw[iG]at A;rw[Qz  (zp _) (aS _ _ _) ((B b D).trans A) ab I];refine⟨⟨some ⟨U+1,0,some 1⟩,l.length,rfl,λ_=>⟨U+1,some 1,false,J,J,rfl,?_⟩⟩,aK,J⟩
  grind
noncomputable def Hf:Code:=(uM Tryz.prog 287).1
noncomputable def Hg:Code:=(uM Tryz.prog 287).2
theorem QA:Q0 Q (.int .i64 0) 287 Hf Hg:=⟨by kernel_rfl,by kernel_rfl,by kernel_rfl,by kernel_rfl,by kernel_rfl⟩
theorem Ko(k:Nat)(p:Nat->al):eh (k+1) p=eh k p++(if p k then[k]else[]):=by
 unfold eh;rw[p4,t6]
 grind
theorem at5(D:k<=n)(h:∀i,k<=i->i<n->p i=false):eh n p=eh k p:=by
 induction n with
 |zero =>
  grind
 |succ n A =>
  by_cases e:k=n+1
  ·rw[e]
  ·rw[Ko,h n J J,A J (λi B C=>h i B J)];simp
structure Lx (l p:Nat) (a b:Code) (h:ae) (U:Nat) (ayf:aa Int) (o:X) (aU:aw Nat):Prop where
 c:kX l p a b h o
 g:gP h c3 o ayf aU
 b:∀c,aU=some c->c≠l/\c≠p/\c<U
def EaJ(l p n ao HW:Nat)(q:Nat->al)(j4:X)(h:ae)(m:Nat)(aE:aa X)(ac:ae)(Y:Nat):Prop :=
 ∃(k:Nat) (o:X) (aU:aw Nat),m=n-k/\k<=n/\aE=[.func (.yield l) ⟨[]⟩ ⟨[]⟩,.int .u64 (mk (n-k) (λi=>q (i+k)):Int),(k:X),j4,.int .i64 1,.int .i64 0]/\Lx l p Hf Hg ac Y (fX (eh k q)) o aU/\(∀c,aU=some c->ao<=c)/\(∀c,c<ao->c≠l->c≠p->u ac c=u h c)/\ao<=Y
theorem aqQ{l p V:Nat}{j4:X}(bH:n<=63)(aJ:cN h U j4 jU [mk n q])(tB:u h V=some (.cells [j4] false))(C:Lx l p Hf Hg h U [] (.slice none 0 0) none)(hlp:l≠p)(bb:l<U)(bk:p<U)(e0:∀b,b<U->u h b=u h b):
  aH Q s 288 [.func (.yield l) ⟨[]⟩ ⟨[]⟩,bd V] h U (λ_ ac Y=>∃o A,Lx l p Hf Hg ac Y (fX (eh n q)) o A/\(∀c,A=some c->U<=c)/\(∀c,c<U->c≠l->c≠p->u ac c=u h c)/\U<=Y):=by
 refine Qy ?_;obtain⟨a,cap,rfl,aZ⟩:=id aJ;obtain⟨b,aO,bJ,aT,rfl,M⟩:=aZ (by simp);have M:u h b=some (.cells [.int .u64 (mk n q:Int)] bJ):=M;unfold Kn;simp(disch:=omega)only[bn,tB,@List.length_cons Nat,@List.length_nil Nat,seval];refine bD.mk (λm aE ac Y=>(m=1/\aE=[.func (.yield l) ⟨[]⟩ ⟨[]⟩,.slice (some ⟨b,0,aO⟩) 1 cap,.int .i64 1,.int .i64 0]/\ac=h/\Y=U)\/(m=0/\aE=[.func (.yield l) ⟨[]⟩ ⟨[]⟩,.slice (some ⟨b,0,aO⟩) 1 cap,.int .i64 1,.int .i64 1]/\∃o A,Lx l p Hf Hg ac Y (fX (eh n q)) o A/\(∀c,A=some c->U<=c)/\(∀c,c<U->c≠l->c≠p->u ac c=u h c)/\U<=Y)) 1 ab ?_;rintro m aE ac Y (⟨rfl,rfl,gd,ez⟩|⟨rfl,rfl,dW⟩)
 ·rw[FF,gd,ez];unfold Cg;have P:bin Q .shl 3 (.int .i64 0) (.int .u64 6) = .ok (.int .i64 0):=rfl;refine cL @M @P ?_;refine⟨?_,λh=>absurd trivial h⟩;refine bD.mk (EaJ l p n U V q (.slice (some ⟨b,0,aO⟩) 1 cap) h) n ⟨0,.slice none 0 0,none,J,J,rfl,C,ab,ab,J⟩ ?_;rintro _ _ aL tH ⟨k,o,A,rfl,hk,rfl,D,K,E,B⟩;rw[aa3];unfold Pq
  by_cases au:mk (n-k) (λi=>q (i+k))=0
  ·have I:eh n q=eh k q:=at5 hk λi h1 ar=>by
    have:=Fy.1 au (i-k) J
    grind
   have aM:((mk (n-k) (λi=>q (i+k)):Nat):Int)=0:=J
   refine bg @aM ?_;exact⟨0,J,.inr ⟨rfl,rfl,o,A,by rw[I];exact D,K,E,B⟩⟩
  ·have AU:k<n:=by
    rcases jn k n with h|h
    ·exact h
    ·exact absurd (by rw[show n-k=0 by omega];rfl) au
   obtain⟨r,a5⟩:∃r,n-k=r+1:=⟨n-k-1,J⟩
   have aV:(((mk (n-k) (λi=>q (i+k)):Nat):Int) == 0)=false:=ab
   have aP:bin Q .and 188 (.int .u64 ((mk (n-k) (λi=>q (i+k)):Nat):Int)) (.int .u64 1) = .ok (.int .u64 (if q k then 1 else 0)):=by
    rw[show(1:Int)=((1:Nat):Int)from rfl,E7 (wq J) J,In,a5,act,iR]
    grind
   have ch:mk (n-k) (λi=>q (i+k)) / 2=mk (n-(k+1)) (λi=>q (i+(k+1))):=by
    rw[a5,acs,show n-(k+1)=r by omega]
    grind
   have e6:bin Q .shr 188 (.int .u64 ((mk (n-k) (λi=>q (i+k)):Nat):Int)) (.int .u64 1) = .ok (.int .u64 ((mk (n-(k+1)) (λi=>q (i+(k+1))):Nat):Int)):=by rw[N9,ch]
   cases L:q k with
   |true =>
    rw[L]at aP;refine cL @aV @aP ?_;refine atf lR QA  (λ_=>rfl) (λ_=>rfl) (x:=(k:Int)) rfl rfl D.c D.g hlp J J D.b (by unfold fX;rw[gH];have:=uB k q;omega) λbm lr hC4 hG4 AP=>?_;refine aF ?_;unfold Cf;refine cL @e6 (cG (J:k<1000000000000)) ?_;refine⟨n-(k+1),J,k+1,lr,some (tH+1),rfl,J,rfl,⟨hC4,?_,ab⟩,ab,ab,J⟩
    ·rw[Ko,L];show gP bm c3 lr (fX (eh k q++[k])) _;rw[show fX (eh k q++[k])=fX (eh k q)++[(k:Int)] by unfold fX;grind];exact hG4
    all_goals grind
   |false =>
    rw[L]at aP;have Z:bin Q .and 188 (.int .u64 ((mk (n-k) (λi=>q (i+k)):Nat):Int)) (.int .u64 1) = .ok (.int .u64 0):=aP;refine cL @aV @Z ?_;unfold Cf;refine cL @e6 (cG (J:k<1000000000000)) ?_;refine⟨n-(k+1),J,k+1,o,A,rfl,J,rfl,⟨D.c,?_,D.b⟩,K,E,B⟩;rw[Ko,L];simp only[nH,fa,hZ];exact D.g
 ·rw[FF];unfold Cg;refine aF ?_;exact λ_=>dW
def aeX(l:aa Int)(U:Nat)(h:ae):bP:=λr ac Y=>∃aU,gP ac c3 r l aU/\(∀c,aU=some c->U<=c/\c<Y)/\aA U h ac/\U<=Y
theorem aqR(L:n<=63)(D:cN h U v jU [mk n q]):aH Q s 119 [v] h U (aeX (fX (eh n q)) U h):=by
 refine adk ?_;obtain⟨a,cap,rfl,P⟩:=id D;refine Rg ?_;unfold KN;refine aF ?_;refine YX ?_;refine Xc lR QA λE M bK=>?_;have B:cN E (U+1+1+1) (.slice a [mk n q].length cap) jU [mk n q]:=by
  refine(D.F (Y:=U) (ac:=E) (λc P=>?_) J).F aK J
  grind
 refine(aqQ L B ab ⟨M,.nil,ab⟩ J J J ab).mono ?_;rintro _ ar V ⟨o,I,A,Z,K,C⟩;refine⟨o,A.c,λx=>⟨I,A.g.F ab,λc e=>⟨ab,(A.b c e).2.2⟩,aK,J⟩⟩
 all_goals grind
def FZ(s:al)(K:bP)(ct cB co Ta:X)(au:ae)(a0:Nat):Prop:=br Ta (K (.tuple ⟨[(.pointer none),(ad 3)]⟩) au a0) (jk 5 au 0 co λb=>jk 2 au 5 co λd=>aW s 114 [b,d] au a0 λe f g=>af (cy e 0) λi=>af (cy e 1) λj=>bW [(ad 0),(ad 0),ay,ay,ay] f g λk l m=>af (aQ l 5 k i) λn=>ax n 11 co λp=>b9 122 [p] n m λq r t=>af (cS [(ad 0),(ad 0)] [(0,1,ct),(1,1,cB)]) λaD=>bf 0 co λv=>aN 5 r v λw=>jg 5 v w (bf 7 co λx=>bT r x λy=>c0 x y (bf 8 co λz=>bT r z λbz=>c0 z bz (af (cS [(ad 0),(ad 0)] [(0,1,y),(1,1,bz)]) λbU=>bf 10 co λbQ=>bT r bQ λa8=>c0 bQ a8 (af (cS [(ad 0),(ad 0),(ad 0),(ad 0),(ad 0),(ad 0),ay,(ad 0),(ad 0),(ad 0),ay,(ad 0),(ad 0),ay,ay,ay,(ad 0),(ad 0),ay,ay,ay,ay,ay,(ad 0),(.map none),(ad 0),(ad 0),(ad 0),(ad 0),(ad 0),ay,ay,ay,(ad 0),(ad 0),ay,ay,ay,(.bool false),(.bool false),ay,(.map none),(ad 0),(.map none),(.bool false)] [(0,2,aD),(2,5,w),(7,2,bU),(9,1,a8),(10,1,q),(23,1,(ad 1)),(25,1,(ad 1))]) λbY=>bI bY r t λb7 bL cK=>bf 0 co λcC=>ax bL 4 cC λdf=>aW s 88 [df] bL cK λeJ am an=>af (bs b7) λeP=>bf 2 eP λgx=>bf 4 gx λgN=>af (aQ am 1 gN eJ) λgE=>aN 5 gE k λh7=>ax gE 7 co λgy=>ax gE 8 co λlv=>aW s 123 [h7,gy,lv,ct,cB] gE an λlw oi oj=>af (bs b7) λcf=>bf 11 cf λrO=>af (aQ oi 5 rO lw) λbe=>af (bs b7) λlT=>jk 5 be 11 lT λf7=>aW s 124 [f7] be oj λbi w6 o0=>af (bs b7) λlx=>bf 16 lx λjv=>af (aQ w6 6 jv bi) λvn=>d4 (.ok .map) vn o0 λaU tV eQ=>d4 (.ok .map) tV eQ λBc pX kG=>d4 (.ok .map) pX kG λUF UG fN=>af (bs b7) λpS=>bf 24 pS λUH=>af (aQ UG 1 UH aU) λpT=>af (bs b7) λgu=>bf 41 gu λhr=>af (aQ pT 1 hr Bc) λgM=>af (bs b7) λsN=>bf 43 sN λoc=>af (aQ gM 1 oc UF) λD7=>bw .eql 3 cB (ad 0) (bf 0 co λk1=>ax D7 1 k1 λcE=>ax D7 7 co λn4=>b9 126 [cE,n4,ct] D7 fN λaBA cX UI=>bf 7 co λUJ=>bT cX UJ λaAB=>c0 UJ aAB (cg ct λcs=>b9 126 [cE,aAB,cs] cX UI λaBB aAC n5=>bf 0 co λny=>aN 5 aAC ny λdD=>jg 5 ny dD (b9 125 [dD,aBA,aBB] aAC n5 λh3 UK aBC=>af (bs b7) λaBD=>bf 28 aBD λaBE=>af (aQ UK 5 aBE h3) λUw=>af (bs b7) λaBF=>jk 5 Uw 28 aBF λaBG=>af (bs b7) λaBH=>bf 33 aBH λaBI=>af (aQ Uw 5 aBI aBG) λaAv=>aW s 127 [b7,(ad 0),(.bool false)] aAv aBC λaAt gw D2=>K (.tuple ⟨[b7,(ad 0)]⟩) gw D2) 2 [cX,D7]) 1 [D7]) (K (.tuple ⟨[b7,(ad 0)]⟩) D7 fN)) 1 [n]) 1 [n]) 1 [n]) 1 [n])
def agb:gf:=λs ah t1 t2 h U K=>bI ah h U λa b c=>aN 12 b a λd=>aW s 121 [d] b c λe f g=>ls e (K (.tuple ⟨[(.pointer none),e]⟩) f g) (cH t1 (ad 0) (FZ s K t1 t2 a (.bool true) f g) (ax f 7 a λl=>bw .geq 3 t1 l (FZ s K t1 t2 a (.bool true) f g) (cH t2 (ad 0) (FZ s K t1 t2 a (.bool true) f g) (ax f 8 a λp=>bG .geq 3 t2 p λq=>(FZ s K t1 t2 a q f g)))))
theorem awr:gl 59 agb:=gp []
def QB(s:al)(K:bP)(ct cB co de ep ll sw:X)(au:ae)(a0:Nat):Prop:=br sw (af (cS [(ad 0),(ad 0),ay,ay,ay] []) λa=>af (cS [(ad 0),(ad 0)] []) λb=>af (cS [(ad 0),(ad 0)] []) λc=>aW s 203 [a,b,c] au a0 λd e f=>af (aQ e 5 ll d) λg=>aN 5 g ll λi=>K i g f) (ax au 0 ep λk=>b9 204 [k,ct,co] au a0 λl m n=>bf 1 ep λo=>bT m o λp=>c0 o p (b9 204 [p,cB,de] m n λq r t=>aN 5 r ep λaD=>jg 5 ep aD (b9 203 [aD,l,q] r t λv w x=>af (aQ w 5 ll v) λy=>aN 5 y ll λz=>K z y x) 2 [m,au]) 1 [au])
def agc:w5:=λs ah t1 t2 t3 fS h U K=>bI ah h U λa b c=>bW [(ad 0),(ad 0),ay,ay,ay] b c λd e f=>aN 5 e a λg=>aW s 201 [g] e f λi j k=>af (dr .not i) λl=>br l (QB s K t1 t2 t3 fS a d (.bool true) j k) (aW s 202 [t1,t2,t3,fS] j k λm n o=>af (dr .not m) λp=>(QB s K t1 t2 t3 fS a d p n o))
theorem aws:yS 123 agc:=AL []
def Rh:aa (aa Nat):=[[2,3,20,21,22]]
def Cw(s:al)(N:aR)(aM:aR)(R:aR)(cB co ep DI sw Ly:X)(au:ae)(a0:Nat):Prop:=ax au 4 co λb=>ax au 1 ep λd=>d4 (fh 1 [(ad 0)] [(0,1,d)]) au a0 λe f g=>dG (dX (dT 1 f g b e)) λi j k=>bf 4 co λl=>af (aQ j 1 l i) λm=>ax m 5 co λo=>ax m 2 ep λq=>d4 (fh 1 [(ad 0)] [(0,1,q)]) m k λr t aD=>dG (dX (dT 1 t aD o r)) λv w x=>bf 5 co λy=>af (aQ w 1 y v) λz=>ax z 3 co λbU=>ax z 2 co λa8=>cV a8 λbY=>ax z 4 co λbL=>cV bL λcK=>hT 1 bU bY λcC=>af (aQ z 1 cC cK) λdn=>cg Ly λdf=>N [cB,co,DI,sw,df] dn x
def zL(s:al)(N:aR)(aM:aR)(R:aR)(cB co ep DI sw Ly Lz:X)(au:ae)(a0:Nat):Prop:=br Lz (ax au 2 co λb=>ax au 0 ep λd=>d4 (fh 1 [(ad 0)] [(0,1,d)]) au a0 λe f g=>dG (dX (dT 1 f g b e)) λi j k=>bf 2 co λl=>af (aQ j 1 l i) λm=>ax m 3 co λo=>d4 (fh 1 [(ad 0)] [(0,1,(ad 0))]) m k λp q r=>dG (dX (dT 1 q r o p)) λt aD v=>bf 3 co λw=>af (aQ aD 1 w t) λx=>(Cw s N aM R cB co ep DI sw Ly x v)) (Cw s N aM R cB co ep DI sw Ly au a0)
def ado(s:al)(a2 a3 iA hC ef:X)(h:ae)(U:Nat)(N:aR)(aM:aR)(R:aR):Prop:=cH ef hC (hv 3 h 3 iA ef λc=>bW [(ad 0),(ad 0),(ad 0)] h U λd e f=>af (aQ e 3 d c) λg=>ax g 2 a3 λj=>cV j λk=>bw .eql 3 k (ad 0) (zL s N aM R a2 a3 d iA hC ef (.bool true) g f) (ax g 2 a3 λn=>bG .sub 3 k (ad 1) λo=>d0 g 1 n o λq=>ax g 0 d λt=>bG .neq 3 q t λaD=>(zL s N aM R a2 a3 d iA hC ef aD g f))) (aM [a2,a3,iA,hC,ef] h U)
def agd:cP:=λs ah h U K=>bI ah h U λa b c=>bW [(ad 0),(ad 0),ay,ay,ay,ay] b c λd e f=>aW s 205 [] e f λg i j=>bW [(ad 0),(ad 0),ay,ay,ay,ay] i j λk l m=>af (aQ l 6 k g) λn=>aN 5 n a λo=>aW s 201 [o] n m λp q r=>af (dr .not p) λt=>br t (aN 6 q k λaD=>af (aQ q 6 d aD) λv=>aN 6 v d λw=>K w v r) (ax q 0 a λy=>bf 0 k λz=>af (aQ q 1 z y) λbz=>bf 1 a λbU=>bT bz bU λbQ=>c0 bU bQ (bf 1 k λa8=>af (aQ bz 1 a8 bQ) λbY=>aN 5 bY a λb7=>aW s 207 [b7] bY r λbL cK cC=>aW s 206 [bL] cK cC λdn df eJ=>cV dn λam=>bD (bR Q s Rh 124 0) [d,k,dn,am,(ad 0)] df eJ [(0,λan eP gx=>aN 6 eP (a7 an 1) λgN=>af (aQ eP 6 (a7 an 0) gN) λgE=>aN 6 gE (a7 an 0) λh7=>K h7 gE gx)] (λ_ _ _=>False)) 1 [q])
theorem at6{B A:X}:bR Q s Rh 124 0 [a2,a3,B,A,ef] h U N [(0,aM)] R=ado s a2 a3 B A ef h U N aM R:=by kernel_rfl
theorem awt:cQ 124 agd:=cT Rh
def Fe(s:al)(K:bP)(cB co de ey y25:X)(au:ae)(a0:Nat):Prop:=br y25 (af (cS [(ad 0),(ad 0),ay,ay,ay] []) λa=>af (aQ au 5 ey a) λb=>aN 5 b ey λc=>K c b a0) (bT au de λd=>af (cS [(ad 0),(ad 0),ay,ay,ay] [(0,1,d),(1,1,cB)]) λe=>bW [(ad 0),(ad 0),ay,ay,ay] au a0 λf g i=>af (aQ g 5 f e) λj=>aN 5 j f λk=>bT j de λl=>bG .sub 3 cB l λm=>af (.ok (.func (.func 209) ⟨[]⟩ ⟨[co,de]⟩)) λn=>aW s 208 [k,m,n] j i λo p q=>af (aQ p 5 ey o) λr=>aN 5 r ey λt=>K t r q)
def adp:gf:=λs ah t1 t2 h U K=>bI ah h U λa b c=>bI t1 b c λd e f=>bW [(ad 0),(ad 0),ay,ay,ay] e f λg i j=>aN 5 i a λk=>aW s 187 [k] i j λl m n=>ls l (Fe s K t2 a d g (.bool true) m n) (bT m d λp=>cH p (ad 0) (Fe s K t2 a d g (.bool true) m n) (bT m d λr=>cH t2 r (Fe s K t2 a d g (.bool true) m n) (ax m 1 a λv=>bG .gtr 3 t2 v λw=>(Fe s K t2 a d g w m n))))
theorem aqS:gl 125 adp:=gp []
def awu:gf:=λs ah t1 t2 h U K=>aW s 211 [ah,t1] h U λa b c=>af (dr .not a) λd=>br d (K (ad 0) b c) (af (min2 false t2 (ad 0)) λe=>af (min2 true e t1) λf=>bG .mul 3 f ah λg=>bG .quo 3 g t1 λi=>K i b c)
theorem at7:gl 126 awu:=gp []
def adq:gf:=λs ah t1 t2 h U K=>af (cS [(ad 0),(ad 0),(ad 0),(ad 0),(ad 0),(ad 0),ay,ay,ay,(ad 0),(.bool false)] [(0,1,(ad 4)),(4,1,t1),(10,1,t2)]) λa=>bW [(ad 0),(ad 0),(ad 0),(ad 0),(ad 0),(ad 0),ay,ay,ay,(ad 0),(.bool false)] h U λb c d=>af (aQ c 11 b a) λe=>af (dr .not t2) λf=>br f (af (bs ah) λg=>jk 5 e 2 g λj=>af (bs ah) λk=>jk 5 e 33 k λm=>b9 212 [j,m,t1] e d λn o p=>bf 9 b λq=>af (aQ o 1 q n) λr=>af (bs ah) λt=>bf 38 t λaD=>af (aQ r 1 aD (.bool true)) λv=>aN 11 v b λw=>aW s 213 [ah,w] v p λx y z=>K (.tuple ⟨[]⟩) y z) (af (bs ah) λbz=>bf 38 bz λbU=>af (aQ e 1 bU (.bool true)) λbQ=>aN 11 bQ b λa8=>aW s 213 [ah,a8] bQ d λbY b7 bL=>K (.tuple ⟨[]⟩) b7 bL)
theorem aqT:gl 127 adq:=gp []
def Ow:aa (aa Nat):=[[1,2,60,61]]
def Xr(s:al)(aB a2 LA DJ:X)(h:ae)(U:Nat)(N:aR)(aM:aR)(R:aR):Prop:=cH DJ LA (ax h 3 aB λc=>ax h 2 aB λe=>d0 h 1 e DJ λg=>ax h 2 aB λj=>cg DJ λk=>d0 h 1 j k λm=>af (gW 1 c (some g) (some m) none) λn=>ax h 1 aB λp=>b9 291 [n,p] h U λq r t=>af (dr .not q) λaD=>br aD (R [aB,(.bool false),LA,DJ] r t) (cg DJ λv=>N [aB,a2,LA,v] r t)) (aM [aB,a2,LA,DJ] h U)
def IW(s:al)(K:bP)(ct Tb:X)(au:ae)(a0:Nat):Prop:=br Tb (K (.bool false) au a0) (ax au 0 ct λb=>bD (bR Q s Ow 201 0) [ct,(.bool false),b,(ad 0)] au a0 [(0,λc d e=>K (.bool true) d e)] (λf g i=>K (a7 f 1) g i))
def BS(s:al)(K:bP)(ct co y37:X)(au:ae)(a0:Nat):Prop:=br y37 (K (.bool false) au a0) (ax au 2 ct λb=>d0 au 1 b (ad 0) λd=>bw .neq 3 d (ad 0) (IW s K ct (.bool true) au a0) (ax au 2 ct λg=>ax au 0 ct λj=>d0 au 1 g j λl=>bw .neq 3 l co (IW s K ct (.bool true) au a0) (ax au 2 ct λo=>aW s 290 [o] au a0 λp q r=>af (dr .not p) λt=>(IW s K ct t q r))))
def aa5:cP:=λs ah h U K=>bI ah h U λa b c=>ax b 3 a λe=>cV e λf=>ax b 0 a λi=>aW s 289 [i,(ad 4096)] b c λj k l=>af (dr .not j) λm=>br m (BS s K a f (.bool true) k l) (ax k 1 a λo=>aW s 289 [o,(ad 4096)] k l λp q r=>af (dr .not p) λt=>br t (BS s K a f (.bool true) q r) (ax q 2 a λv=>cV v λw=>ax q 0 a λy=>cg y λz=>bw .neq 3 w z (BS s K a f (.bool true) q r) (ax q 4 a λbQ=>cV bQ λa8=>bw .neq 3 a8 f (BS s K a f (.bool true) q r) (bG .gtr 3 f (ad 65536) λb7=>(BS s K a f b7 q r)))))
theorem ajX{A B:X}:bR Q s Ow 201 0 [aB,a2,A,B] h U N [(0,aM)] R=Xr s aB a2 A B h U N aM R:=by kernel_rfl
theorem amY:cQ 201 aa5:=cT Ow
def awv:vm:=λs ah t1 t2 t3 h U K=>aW s 292 [ah] h U λa b c=>br a (aW s 292 [t1] b c λd e f=>br d (bw .geq 3 t2 (ad 0) (cH t2 ah (bw .geq 3 t3 (ad 0) (bG .lss 3 t3 t1 λk=>K k e f) (K (.bool false) e f)) (K (.bool false) e f)) (K (.bool false) e f)) (K (.bool false) e f)) (K (.bool false) b c)
theorem at8:w4 202 awv:=yy []
def F0:aa (aa Nat):=[[3,6,7,8,9,10,11,31,32],[3,6,7,8,9,10,11,12,31,32,39,40,41]]
def Ps(s:al)(N:aR)(aP:aR)(R:aR)(co ey fH ij rN ll Lw sv y14 y31 y32 LB y40 Lz y56:X)(au:ae)(a0:Nat):Prop:=br y56 (ax au 0 y14 λb=>bG .sub 3 b rN λc=>ax au 1 y14 λe=>af (cS [(ad 0),(ad 0),(ad 0)] [(0,1,sv),(1,1,c),(2,1,e)]) λf=>d4 (fh 1 [(ad 0),(ad 0),(ad 0)] [(0,3,f)]) au a0 λg i j=>dG (dX (dT 3 i j Lw g)) λk l m=>cg Lz λn=>N [co,ey,fH,ij,rN,ll,k,sv,y31,y32,LB,y40,n] l m) (cg Lz λo=>N [co,ey,fH,ij,rN,ll,Lw,sv,y31,y32,LB,y40,o] au a0)
def aa6(s:al)(a3 bu ba bx c4 di en eD iz ga LC wM va:X)(h:ae)(U:Nat)(N:aR)(aP:aR)(R:aR):Prop:=cH va wM (hv 2 h 2 LC va λc=>bW [(ad 0),(ad 0)] h U λd e f=>af (aQ e 2 d c) λg=>ax g 0 d λj=>bw .geq 3 j c4 (ax g 0 d λm=>bG .sub 3 m c4 λn=>bG .lss 3 n di λo=>(Ps s N aP R a3 bu ba bx c4 di en eD d iz ga LC wM va o g f)) (Ps s N aP R a3 bu ba bx c4 di en eD d iz ga LC wM va (.bool false) g f)) (aP [a3,bu,ba,bx,c4,di,en,eD,iz,ga,LC,wM,va] h U)
def aa7(s:al)(a3 bu ba bx c4 di en iz ga:X)(h:ae)(U:Nat)(N:aR)(aM:aR)(R:aR):Prop:=cH ga iz (aN 5 h a3 λb=>lu ba ga λc=>aW s 295 [b,c] h U λd e f=>cV d λg=>bD (bR Q s F0 203 1) [a3,bu,ba,bx,c4,di,en,ga,iz,ga,d,g,(ad 0)] e f [(2,λi j k=>cg (a7 i 9) λl=>N [(a7 i 0),(a7 i 1),(a7 i 2),(a7 i 3),(a7 i 4),(a7 i 5),(a7 i 6),(a7 i 8),l] j k)] (λ_ _ _=>False)) (aM [a3,bu,ba,bx,c4,di,en,iz,ga] h U)
def aeY:gf:=λs ah t1 t2 h U K=>bI ah h U λa b c=>bI t1 b c λd e f=>bI t2 e f λg i j=>bW [(ad 0),(ad 0),ay,ay,ay] i j λk l m=>aN 5 l a λn=>aW s 293 [n] l m λo p q=>af (aQ p 5 a o) λr=>aN 2 r d λt=>ax r 0 a λv=>aW s 294 [t,v] r q λw x y=>af (cy w 0) λz=>af (cy w 1) λbz=>aN 2 x g λbU=>ax x 1 a λa8=>aW s 294 [bU,a8] x y λbY b7 bL=>af (cy bY 0) λcK=>af (cy bY 1) λcC=>bD (bR Q s F0 203 0) [a,k,z,bz,cK,cC,ay,bz,(ad 0)] b7 bL [(0,λdn df eJ=>aW s 281 [(a7 dn 3),(a7 dn 5),(a7 dn 6)] df eJ λam an eP=>af (aQ an 5 (a7 dn 1) am) λgx=>aN 5 gx (a7 dn 1) λgN=>K gN gx eP)] (λ_ _ _=>False)
theorem aqU{A B C:X}:bR Q s F0 203 1 [a3,bu,ba,bx,c4,di,en,eD,iz,ga,A,B,C] h U N [(2,aP)] R=aa6 s a3 bu ba bx c4 di en eD iz ga A B C h U N aP R:=by kernel_rfl
theorem aqV:bR Q s F0 203 0 [a3,bu,ba,bx,c4,di,en,iz,ga] h U N [(0,aM)] R=aa7 s a3 bu ba bx c4 di en iz ga h U N aM R:=by kernel_rfl
theorem at9:gl 203 aeY:=gp F0
def aa8:gf:=λs ah t1 t2 h U K=>bW [(ad 0),(ad 0)] h U λa b c=>aW s 126 [ah,t1,t2] b c λd e f=>cg t2 λg=>aW s 126 [ah,t1,g] e f λi j k=>af (cS [(ad 0),(ad 0)] [(0,1,d),(1,1,i)]) λl=>af (aQ j 2 a l) λm=>aN 2 m a λn=>K n m k
theorem amZ:gl 204 aa8:=gp []
def adr:UC:=λs h U K=>bW [(ad 0),(ad 0),ay,ay,ay,ay] h U λa b c=>d4 (fh 1 [(ad 0)] [(0,1,(ad 0))]) b c λd e f=>af (cS [(ad 0),(ad 0),ay,ay,ay,ay] [(3,1,d)]) λg=>af (aQ e 6 a g) λi=>aN 6 i a λj=>K j i f
theorem aqW:aAx 205 adr:=zf0 []
def EP:aa (aa Nat):=[[1,3,12,13],[1,3,4,6,12,13,22,23,24]]
def VT(s:al)(aB a3 aY bu eD ho ef i0 fd:X)(h:ae)(U:Nat)(N:aR)(aP:aR)(R:aR):Prop:=cH fd i0 (d0 h 1 ef fd λc=>d0 h 1 bu fd λe=>af (cS [(ad 0),(ad 0),(ad 0)] [(0,1,aY),(1,1,c),(2,1,e)]) λf=>d4 (fh 1 [(ad 0),(ad 0),(ad 0)] [(0,3,f)]) h U λg i j=>dG (dX (dT 3 i j a3 g)) λk l m=>cg fd λn=>N [aB,k,aY,bu,eD,ho,ef,i0,n] l m) (aP [aB,a3,aY,bu,eD,ho,ef,i0,fd] h U)
def VU(s:al)(aB a3 eD ho:X)(h:ae)(U:Nat)(N:aR)(aM:aR)(R:aR):Prop:=cH ho eD (aN 5 h aB λb=>aW s 296 [b,ho] h U λc d e=>af (cy c 0) λf=>af (cy c 1) λg=>cV f λi=>bD (bR Q s EP 206 1) [aB,a3,ho,g,eD,ho,f,i,(ad 0)] d e [(2,λj k l=>cg (a7 j 5) λm=>N [(a7 j 0),(a7 j 1),(a7 j 4),m] k l)] (λ_ _ _=>False)) (aM [aB,a3,eD,ho] h U)
def Xs:cP:=λs ah h U K=>bI ah h U λa b c=>aN 5 b a λd=>aW s 293 [d] b c λe f g=>af (aQ f 5 a e) λi=>ax i 0 a λk=>bD (bR Q s EP 206 0) [a,ay,k,(ad 0)] i g [(0,λl m n=>K (a7 l 1) m n)] (λ_ _ _=>False)
theorem ahB{A:X}:bR Q s EP 206 1 [aB,a3,aY,bu,eD,ho,ef,A,fd] h U N [(2,aP)] R=VT s aB a3 aY bu eD ho ef A fd h U N aP R:=by kernel_rfl
theorem ahC:bR Q s EP 206 0 [aB,a3,eD,ho] h U N [(0,aM)] R=VU s aB a3 eD ho h U N aM R:=by kernel_rfl
theorem aih:cQ 206 Xs:=cT EP
def Pt:aa (aa Nat):=[[1,2,3,10,11,12]]
def Y1(s:al)(aB a2 a3 di en eD:X)(h:ae)(U:Nat)(N:aR)(aM:aR)(R:aR):Prop:=cH eD en (hv 3 h 3 di eD λc=>bW [(ad 0),(ad 0),(ad 0)] h U λd e f=>af (aQ e 3 d c) λg=>ax g 1 d λj=>ax g 0 d λl=>ax g 2 d λn=>af (cS [(ad 0),(ad 0),(ad 0)] [(0,1,j),(1,1,l),(2,1,n)]) λo=>hT 3 a3 eD λp=>af (aQ g 3 p o) λq=>cg eD λr=>N [aB,a2,a3,di,en,r] q f) (aM [aB,a2,a3,di,en,eD] h U)
def ads:cP:=λs ah h U K=>bI ah h U λa b c=>bW [(ad 0),(ad 0),ay,ay,ay] b c λd e f=>aN 5 e a λg=>aW s 293 [g] e f λi j k=>af (aQ j 5 a i) λl=>aN 5 l a λm=>aW s 206 [m] l k λn o p=>cV n λq=>bD (bR Q s Pt 207 0) [a,d,n,n,q,(ad 0)] o p [(0,λr t aD=>aW s 297 [(a7 r 2),(.func (.func 298) #[] #[])] t aD λv w x=>ax w 1 (a7 r 0) λz=>ax w 0 (a7 r 0) λbU=>aW s 281 [z,bU,(a7 r 2)] w x λbQ a8 bY=>af (aQ a8 5 (a7 r 1) bQ) λb7=>aN 5 b7 (a7 r 1) λbL=>K bL b7 bY)] (λ_ _ _=>False)
theorem am0:bR Q s Pt 207 0 [aB,a2,a3,di,en,eD] h U N [(0,aM)] R=Y1 s aB a2 a3 di en eD h U N aM R:=by kernel_rfl
theorem aqX:cQ 207 ads:=cT Pt
def NR:aa (aa Nat):=[[1,2,6,7,8,18,19]]
def Wp(s:al)(aB a2 bu ba bx lk nj:X)(h:ae)(U:Nat)(N:aR)(aM:aR)(R:aR):Prop:=cH nj lk (fc Q s (hJ h U [nj] a2) λb c d=>af (cy b 0) λe=>af (cy b 1) λf=>af (cy b 2) λg=>ax c 2 ba λj=>d4 (fh 1 [(ad 0)] [(0,1,e)]) c d λk l m=>dG (dX (dT 1 l m j k)) λn o p=>m<=p/\bf 3 ba λq=>bT o q λr=>c0 q r (d4 (fh 1 [(ad 0)] [(0,1,f)]) o p λt aD v=>dG (dX (dT 1 aD v r t)) λw x y=>v<=y/\bf 2 ba λz=>af (aQ x 1 z n) λbz=>bf 3 ba λbU=>af (aQ bz 1 bU w) λbQ=>br g (d4 (fh 1 [(ad 0)] [(0,1,nj)]) bQ y λa8 bY b7=>dG (dX (dT 1 bY b7 bx a8)) λbL cK cC=>cg nj λdn=>N [aB,a2,bu,ba,bL,lk,dn] cK cC) (cg nj λdf=>N [aB,a2,bu,ba,bx,lk,df] bQ y)) 1 [c]) (aM [aB,a2,bu,ba,bx,lk,nj] h U)
def Y2:gf:=λs ah t1 t2 h U K=>bI ah h U λa b c=>bW [(ad 0),(ad 0),ay,ay,ay] b c λd e f=>ax e 0 a λi=>ax e 1 a λk=>af (cS [(ad 0),(ad 0),ay,ay,ay] [(0,1,i),(1,1,k)]) λl=>bW [(ad 0),(ad 0),ay,ay,ay] e f λm n o=>af (aQ n 5 m l) λp=>bD (bR Q s NR 208 0) [t1,t2,d,m,ay,t1,(ad 0)] p o [(0,λq r t=>aW s 108 [(a7 q 0),(a7 q 4)] r t λaD v w=>bf 4 (a7 q 3) λx=>af (aQ v 1 x aD) λy=>aN 5 y (a7 q 3) λz=>af (aQ y 5 (a7 q 2) z) λbz=>aN 5 bz (a7 q 2) λbU=>K bU bz w)] (λ_ _ _=>False)
theorem aii{A B:X}:bR Q s NR 208 0 [aB,a2,bu,ba,bx,A,B] h U N [(0,aM)] R=Wp s aB a2 bu ba bx A B h U N aM R:=by kernel_rfl
theorem ajY:gl 208 Y2:=gp NR
def aa9:gf:=λs ah t1 t2 h U K=>aN 5 h t1 λa=>bT h t2 λb=>lu b ah λc=>aW s 210 [a,c] h U λd e f=>af (cy d 0) λg=>af (cy d 1) λi=>K (.tuple ⟨[g,(ad (-1)),i]⟩) e f
theorem am1:gl 209 aa9:=gp []
def Y3(s:al)(K:bP)(au:ae)(a0:Nat):Prop:=K (.tuple ⟨[(ad 4611686018427387904),(.bool false)]⟩) au a0
def B2(s:al)(K:bP)(cB ey DI:X)(au:ae)(a0:Nat):Prop:=br DI (K (.tuple ⟨[(ad 1),(.bool true)]⟩) au a0) (br ey (K (.tuple ⟨[(ad 0),ey]⟩) au a0) (ax au 0 cB λb=>bw .eql 40 b (ad 4) (K (.tuple ⟨[(ad 0),ey]⟩) au a0) (ax au 0 cB λe=>bw .eql 40 e (ad 1) (K (.tuple ⟨[(ad (-1)),(.bool false)]⟩) au a0) (Y3 s K au a0))))
def adt:c5:=λs ah t1 h U K=>bI ah h U λa b c=>ax b 2 a λe=>bG .eql 3 t1 e λf=>ax b 0 a λi=>bw .eql 40 i (ad 3) (K (.tuple ⟨[t1,(.bool true)]⟩) b c) (ax b 0 a λl=>bw .eql 40 l (ad 5) (K (.tuple ⟨[(ad 0),(.bool false)]⟩) b c) (ax b 0 a λo=>bw .eql 40 o (ad 4) (B2 s K a f f b c) (B2 s K a f (.bool false) b c)))
theorem aqY:c7 210 adt:=c9 []
def aeZ:c5:=λs ah t1 h U K=>bw .geq 3 ah (ad 0) (bw .leq 3 ah (ad 4096) (aW s 220 [t1] h U λc d e=>K c d e) (K (.bool false) h U)) (K (.bool false) h U)
theorem aua:c7 211 aeZ:=c9 []
def QC:aa (aa Nat):=[[7,24,25,26]]
def aba(s:al)(ba fd kY mj:X)(h:ae)(U:Nat)(N:aR)(aV:aR)(R:aR):Prop:=cH mj kY (d0 h 1 fd mj λc=>bw .eql 2 c (ad 0) (cg ba λe=>cg mj λf=>N [e,fd,kY,f] h U) (cg mj λg=>N [ba,fd,kY,g] h U)) (aV [ba,fd,kY,mj] h U)
def ae0:gf:=λs ah t1 t2 h U K=>bI ah h U λa b c=>bI t1 b c λd e f=>aN 5 e a λg=>aN 5 e d λi=>aW s 299 [g,i] e f λj k l=>af (aQ k 5 d j) λm=>ax m 0 a λo=>bw .eql 40 o (ad 4) (ax m 3 a λr=>bw .geq 3 t2 r (K (ad 0) m l) (ax m 4 d λv=>aW s 111 [v] m l λw x y=>K w x y)) (bw .eql 40 o (ad 5) (ax m 2 d λbU=>cV bU λbQ=>bD (bR Q s QC 212 0) [(ad 0),bU,bQ,(ad 0)] m l [(1,λa8 bY b7=>K (a7 a8 0) bY b7)] (λ_ _ _=>False)) (ax m 4 d λcK=>aW s 111 [cK] m l λcC dn df=>K cC dn df))
theorem aqZ{A:aR}:bR Q s QC 212 0 [ba,fd,kY,mj] h U N [(1,A)] R=aba s ba fd kY mj h U N A R:=by kernel_rfl
theorem aub:gl 212 ae0:=gp QC
def ae1:c5:=λs ah t1 h U K=>bI t1 h U λa b c=>af (bs ah) λd=>bf 0 d λe=>ax b 0 e λg=>af (bs ah) λi=>bf 0 i λj=>ax b 1 j λl=>b9 219 [ah,g,l] b c λm n o=>bf 1 a λp=>af (aQ n 1 p m) λq=>af (bs ah) λr=>ax q 22 r λaD=>aN 11 q a λv=>d4 (fh 1 [(ad 0),(ad 0),(ad 0),(ad 0),(ad 0),(ad 0),ay,ay,ay,(ad 0),(.bool false)] [(0,11,v)]) q o λw x y=>dG (dX (dT 11 x y aD w)) λz bz bU=>y<=bU/\af (bs ah) λbQ=>bf 22 bQ λa8=>af (aQ bz 1 a8 z) λbY=>K (.tuple ⟨[]⟩) bY bU
theorem auc:c7 213 ae1:=c9 []
def QD:cP:=λs ah h U K=>j6 ah (ad 0) (bG .leq 3 ah (ad 8) λb=>K b h U) (K (.bool false) h U)
theorem abb:cQ 220 QD:=cT []
def BT(s:al)(K:bP)(cu ct cB Tc:X)(au:ae)(a0:Nat):Prop:=br Tc (K (ad (-1)) au a0) (bG .mul 3 ct cu λa=>lu a cB λb=>K b au a0)
def aq0:gf:=λs ah t1 t2 h U K=>aW s 220 [ah] h U λa b c=>af (dr .not a) λd=>br d (BT s K ah t1 t2 (.bool true) b c) (cH t1 (ad 0) (BT s K ah t1 t2 (.bool true) b c) (bw .geq 3 t1 (ad 8) (BT s K ah t1 t2 (.bool true) b c) (cH t2 (ad 0) (BT s K ah t1 t2 (.bool true) b c) (bG .geq 3 t2 ah λi=>(BT s K ah t1 t2 i b c)))))
theorem am2:gl 311 aq0:=gp []
def Y4:c5:=λs ah t1 h U K=>bw .geq 3 ah (ad 0) (bG .leq 3 ah t1 λb=>K b h U) (K (.bool false) h U)
theorem ajZ:c7 289 Y4:=c9 []
def NS:aa (aa Nat):=[[0,2,3]]
def Wq(s:al)(aC a2 a3:X)(h:ae)(U:Nat)(N:aR)(aM:aR)(R:aR):Prop:=j6 a3 (ad 0) (d0 h 1 aC a3 λc=>bG .sub 3 a3 (ad 1) λd=>d0 h 1 aC d λf=>b9 369 [c,f] h U λg i j=>br g (R [aC,(.bool false),a3] i j) (bG .sub 3 a3 (ad 1) λk=>N [aC,a2,k] i j)) (aM [aC,a2,a3] h U)
def Y5:cP:=λs ah h U K=>cV ah λa=>bG .sub 3 a (ad 1) λb=>bD (bR Q s NS 290 0) [ah,(.bool false),b] h U [(0,λc d e=>K (.bool true) d e)] (λf g i=>K (a7 f 1) g i)
theorem aij:bR Q s NS 290 0 [aC,a2,a3] h U N [(0,aM)] R=Wq s aC a2 a3 h U N aM R:=by kernel_rfl
theorem aj0:cQ 290 Y5:=cT NS
def QE:aa (aa Nat):=[[0,1,4,7,8,9]]
def abc(s:al)(aC aB aY ba bx c4:X)(h:ae)(U:Nat)(N:aR)(aM:aR)(R:aR):Prop:=cH c4 bx (d0 h 1 ba c4 λc=>bG .sub 3 aB (ad 1) λd=>aW s 289 [c,d] h U λe f g=>af (dr .not e) λi=>br i (R [aC,aB,(.bool false),ba,bx,c4] f g) (j6 c4 (ad 0) (bG .sub 3 c4 (ad 1) λk=>d0 f 1 aC k λm=>bw .geq 3 m c (R [aC,aB,(.bool false),ba,bx,c4] f g) (cg c4 λo=>N [aC,aB,aY,ba,bx,o] f g)) (cg c4 λp=>N [aC,aB,aY,ba,bx,p] f g))) (aM [aC,aB,aY,ba,bx,c4] h U)
def ae2:c5:=λs ah t1 h U K=>cV ah λa=>bD (bR Q s QE 291 0) [ah,t1,(.bool false),ah,a,(ad 0)] h U [(0,λb c d=>K (.bool true) c d)] (λe f g=>K (a7 e 2) f g)
theorem aq1:bR Q s QE 291 0 [aC,aB,aY,ba,bx,c4] h U N [(0,aM)] R=abc s aC aB aY ba bx c4 h U N aM R:=by kernel_rfl
theorem aud:c7 291 ae2:=c9 QE
def ae3:cP:=λs ah h U K=>bw .geq 3 ah (ad 1) (bG .leq 3 ah (ad 8) λb=>K b h U) (K (.bool false) h U)
theorem aue:cQ 292 ae3:=cT []
def adu:cP:=λs ah h U K=>bI ah h U λa b c=>bW [(ad 0),(ad 0),ay,ay,ay] b c λd e f=>aN 5 e a λg=>aW s 201 [g] e f λi j k=>br i (aN 5 j a λl=>af (aQ j 5 d l) λm=>aN 5 m d λn=>K n m k) (aW s 367 [(ad 0),(ad 0)] j k λo p q=>af (aQ p 5 d o) λr=>aN 5 r d λt=>K t r q)
theorem aq2:cQ 293 adu:=cT []
def Y6:c5:=λs ah t1 h U K=>bI ah h U λa b c=>af (ib (.array 2 1) a (ad 0)) λd=>bT b d λe=>af (min2 false e (ad 0)) λf=>af (ib (.array 2 1) a (ad 1)) λg=>bT b g λi=>af (min2 true i t1) λj=>bw .leq 3 j f (K (.tuple ⟨[f,(ad 0)]⟩) b c) (bG .sub 3 j f λl=>K (.tuple ⟨[f,l]⟩) b c)
theorem aj1:c7 294 Y6:=c9 []
def QF:aa (aa Nat):=[[5,7,24,25,26]]
def abd(s:al)(bN ba fd kY mj:X)(h:ae)(U:Nat)(N:aR)(aM:aR)(R:aR):Prop:=cH mj kY (d0 h 1 fd mj λc=>d0 h 1 ba mj λe=>af (cS [(ad 0),(ad 0)] [(0,1,c),(1,1,e)]) λf=>d4 (fh 1 [(ad 0),(ad 0)] [(0,2,f)]) h U λg i j=>dG (dX (dT 2 i j bN g)) λk l m=>cg mj λn=>N [k,ba,fd,kY,n] l m) (aM [bN,ba,fd,kY,mj] h U)
def ae4:c5:=λs ah t1 h U K=>bI ah h U λa b c=>aN 5 b a λd=>aW s 293 [d] b c λe f g=>af (aQ f 5 a e) λi=>ax i 0 a λk=>bG .sub 3 k (ad 1) λl=>aW s 289 [t1,l] i g λm n o=>af (dr .not m) λp=>br p (K ay n o) (aN 5 n a λq=>aW s 296 [q,t1] n o λr t aD=>af (cy r 0) λv=>af (cy r 1) λw=>cV v λx=>bD (bR Q s QF 295 0) [ay,w,v,x,(ad 0)] t aD [(0,λy z bz=>K (a7 y 0) z bz)] (λ_ _ _=>False))
theorem aq3:bR Q s QF 295 0 [bN,ba,fd,kY,mj] h U N [(0,aM)] R=abd s bN ba fd kY mj h U N aM R:=by kernel_rfl
theorem auf:c7 295 ae4:=c9 QF
def adv:c5:=λs ah t1 h U K=>bI ah h U λa b c=>ax b 2 a λe=>d0 b 1 e t1 λg=>ax b 2 a λj=>cg t1 λk=>d0 b 1 j k λm=>ax b 3 a λo=>af (gW 1 o (some g) (some m) (some m)) λp=>ax b 4 a λr=>af (gW 1 r (some g) (some m) (some m)) λt=>K (.tuple ⟨[p,t]⟩) b c
theorem aq4:c7 296 adv:=c9 []
def ae5:c5:=λs ah t1 h U K=>bI ah h U λa b c=>bI t1 b c λd e f=>bW [(ad 0),(ad 0),ay,ay,ay] e f λg i j=>aN 5 i a λk=>aN 5 i d λl=>aW s 371 [k,l] i j λm n o=>br m (aN 5 n d λp=>af (aQ n 5 g p) λq=>aN 5 q g λr=>K r q o) (af (cS [(ad 0),(ad 0),ay,ay,ay] []) λt=>af (aQ n 5 g t) λaD=>aN 5 aD g λv=>K v aD o)
theorem aug:c7 299 ae5:=c9 []
def abe:gf:=λs ah t1 t2 h U K=>af (bs ah) λa=>bf 7 a λb=>ax h 1 b λd=>aW s 311 [d,t1,t2] h U λe f g=>K e f g
theorem am3:gl 219 abe:=gp []
def RQ:c5:=λs ah t1 h U K=>b9 179 [ah,t1] h U λa b c=>br a (b9 180 [t1] b c λd e f=>bG .shr 3 t1 (.int .u64 6) λg=>hT 1 ah g λi=>bT e i λj=>c0 i j (bG .and 188 j d λk=>bG .neq 188 k (.int .u64 0) λl=>K l e f) 1 [b,h]) (K (.bool false) b c)
theorem ae6:c7 334 RQ:=c9 []
def F1(s:al)(K:bP)(co Td:X)(au:ae)(a0:Nat):Prop:=br Td (K (.bool false) au a0) (ax au 1 co λb=>ax au 0 co λd=>bG .sub 3 b d λe=>ax au 2 co λg=>cV g λi=>bw .eql 3 i e (ax au 3 co λl=>cV l λm=>bw .eql 3 m e (ax au 4 co λp=>aW s 437 [p,e] au a0 λq r t=>K q r t) (K (.bool false) au a0)) (K (.bool false) au a0))
def age:c5:=λs ah t1 h U K=>bI ah h U λa b c=>bI t1 b c λd e f=>aN 5 e a λg=>aW s 187 [g] e f λi j k=>ls i (F1 s K d (.bool true) j k) (ax j 0 d λn=>cH n (ad 0) (F1 s K d (.bool true) j k) (ax j 1 d λq=>ax j 0 d λt=>cH q t (F1 s K d (.bool true) j k) (ax j 1 d λw=>ax j 1 a λy=>bG .gtr 3 w y λz=>(F1 s K d z j k))))
theorem aww:c7 371 age:=c9 []
def abf:c5:=λs ah t1 h U K=>bw .geq 3 t1 (ad 0) (bw .leq 3 t1 (ad 4096) (cV ah λc=>aW s 195 [t1] h U λd e f=>bw .eql 3 c d (aW s 473 [ah,t1] e f λi j k=>bG .lss 3 i (ad 0) λl=>K l j k) (K (.bool false) e f)) (K (.bool false) h U)) (K (.bool false) h U)
theorem am4:c7 437 abf:=c9 []
def adw:cP:=λs ah h U K=>bw .eql 43 ah ay (K ay h U) (d4 (fh 0 [] []) h U λb c d=>dG (dX (dT 2 c d b ah)) λe f g=>K e f g)
theorem aq5:cQ 122 adw:=cT []
def aq6:c5:=λs ah t1 h U K=>aW s 345 [ah] h U λa b c=>br a (aW s 345 [t1] b c λd e f=>af (dr .not d) λg=>br g (K (.bool true) e f) (bG .lss 3 ah t1 λi=>K i e f)) (bG .lss 3 ah t1 λj=>K j b c)
theorem am5:c7 369 aq6:=c9 []
def Ri:cP:=λs ah h U K=>bG .neq 3 ah ah λa=>K a h U
theorem adx:cQ 345 Ri:=cT []
def kK(ag:aa GE):Prop:=ag.Pairwise mM
def dA(ag:aa GE)(i:Nat):Nat:=(ag.filter λg=>decide (g.f<i)).length
def pJ(ag:aa GE)(r:Nat):aa Int:=(List.range (r+1)).map λi=>(dA ag i:Int)
structure g8 (r c:Nat) (ag:aa GE):Prop where
 up:kK ag
 rows:∀g∈ag,g.f<r
 l9:∀g∈ag,g.t<c
 a5:r<=4096
 aZ:c<=4096
 len:ag.length<=120
theorem Pu(ag:aa GE)(r:Nat):(pJ ag r).length=r+1:=by unfold pJ;grind
theorem vR(h:i<=r):(pJ ag r)[i]? = some (dA ag i:Int):=by
 unfold pJ
 grind
theorem uC(ag:aa GE)(i:Nat):dA ag i<=ag.length:=y4 _ _
theorem Kp(ag:aa GE):dA ag 0=0:=by
 unfold dA;rw[List.length_eq_zero_iff,y3]
 grind
theorem ae7(M:g8 r c ag):dA ag r=ag.length:=by unfold dA;rw[y6.2];intro g A;exact g4 (M.rows g A)
theorem zs(ag:aa GE)(h:i<=j):dA ag i<=dA ag j:=by
 unfold dA
 induction ag with
 |nil=>grind
 |cons g ag A =>
  grind
def eM(ag:aa GE)(i:Nat):aa GE:=ag.filter λg=>decide (g.f=i)
theorem agf{x:GE}(h:kK (x::ag)):∀g∈ag,x.f<=g.f:=λg A=>by have:=(t7.1 h).1 g A;unfold mM at this;omega
theorem Y7(h:kK ag)(i:Nat):ag=(ag.filter λg=>decide (g.f<i))++ag.filter λg=>!decide (g.f<i):=by
 induction ag with
 |nil=>rfl
 |cons x ag A =>
  have A:=A (t7.1 h).2;rw[qQ,qQ]
  by_cases B:x.f<i
  ·grind
  ·rw[hl B];have e:ag.filter (λg=>decide (g.f<i))=[]:=by
    rw[y3];intro g C;have:=agf h g C
    grind
   grind
theorem aq7(h:kK ag)(i:Nat):ag.drop (dA ag i)=ag.filter λg=>!decide (g.f<i):=by
 have e:ag.drop (dA ag i)=((ag.filter λg=>decide (g.f<i))++ag.filter λg=>!decide (g.f<i)).drop (dA ag i):=by rw[<-Y7 h i]
 rw[e];exact List.drop_left' rfl
theorem aq8(h:kK ag)(i:Nat):ag.take (dA ag i)=ag.filter λg=>decide (g.f<i):=by
 have e:ag.take (dA ag i)=((ag.filter λg=>decide (g.f<i))++ag.filter λg=>!decide (g.f<i)).take (dA ag i):=by rw[<-Y7 h i]
 rw[e];exact List.take_left' rfl
theorem Ch(h:kK ag)(i:Nat):(ag.drop (dA ag i)).take (dA ag (i+1)-dA ag i)=eM ag i:=by
 have B:(ag.drop (dA ag i)).take (dA ag (i+1)-dA ag i)=(ag.take (dA ag (i+1))).drop (dA ag i):=by rw[Ew]
 rw[B,aq8 h (i+1)];have A:kK (ag.filter λg=>decide (g.f<i+1)):=Il _ h;have e:dA ag i=dA (ag.filter λg=>decide (g.f<i+1)) i:=by
  unfold dA;rw[List.filter_filter]
  grind
 rw[e,aq7 A,List.filter_filter];unfold eM
 grind
theorem Ff(h:kK ag)(i:Nat):(eM ag i).length=dA ag (i+1)-dA ag i:=by rw[<-Ch h,p3,Ep];have:=uC ag (i+1);omega
theorem Ox(h:kK ag)(A:k<(eM ag i).length):(eM ag i)[k]? = ag[dA ag i+k]?:=by rw[Ff h]at A;rw[<-Ch h,xi,if_pos A,xh]
theorem Pv(h:kK ag)(i:Nat):(eM ag i).Pairwise λx y=>x.t<y.t:=by have A:(eM ag i).Pairwise mM:=Il _ h;refine List.Pairwise.imp_of_mem (λ{a b} cY aT yu=>?_) A;have B:=of_decide_eq_true (pa.1 cY).2;have aP:=of_decide_eq_true (pa.1 aT).2;unfold mM at yu;omega
def kX(h:ae)(U:Nat)(v:X)(l:aa Int):Prop:=∃aU,gP h c3 v l aU/\∀c,aU=some c->c<U
theorem kX.F{h ac:ae}{U Y:Nat}{v:X}{l:aa Int}(C:kX h U v l)(E:aA U h ac)(B:U<=Y):kX ac Y v l:=by obtain⟨A,D,I⟩:=C;exact⟨A,D.F λc K=>E c ab,ab⟩
theorem kX.form{h:ae}{U:Nat}{v:X}{l:aa Int}(C:kX h U v l):∃a c,v = .slice a l.length c:=by obtain⟨B,A,_⟩:=C;exact A.form
def fp(ag:aa GE):aa Int:=ag.map λg=>(g.t:Int)
def gq(ag:aa GE):aa Int:=ag.map λg=>g.w
theorem Ci(ag:aa GE):(fp ag).length=ag.length:=by unfold fp;grind
theorem FG(ag:aa GE):(gq ag).length=ag.length:=by unfold gq;grind
def kc(h:ae)(U:Nat)(v:X)(r c:Nat)(ag:aa GE):Prop :=
 ∃(b:Nat) (aO:aw Nat) (cap:Nat) (v2 v3:X),v = .agg ⟨[(r:X),(c:X),.slice (some ⟨b,0,aO⟩) (r+1) cap,v2,v3]⟩/\b<U/\u h b=some (.cells (f9 (pJ ag r)) false)/\kX h U v2 (fp ag)/\kX h U v3 (gq ag)
theorem kc.F{h ac:ae}{U Y:Nat}{v:X}{r c:Nat}{ag:aa GE}(H:kc h U v r c ag)(B:aA U h ac)(A:U<=Y):kc ac Y v r c ag:=by obtain⟨b,aO,cap,K,D,e,C,I,E,L⟩:=H;exact⟨b,aO,cap,K,D,e,J,(B b C).trans I,E.F B A,L.F B A⟩
def nV(h:ae)(ao aj:Nat)(v:X)(l:aa Int):Prop:=∃aU,gP h c3 v l aU/\∀c,aU=some c->ao<=c/\c<aj
theorem nV.Hh(C:nV h ao aj v l):kX h aj v l:=by obtain⟨A,B,D⟩:=C;exact⟨A,B,ab⟩
theorem nV.F{h ac:ae}{ao aj d6 dy:Nat}{v:X}{l:aa Int}(C:nV h ao aj v l)(I:∀d,ao<=d->d<aj->u ac d=u h d)(K:d6<=ao)(E:aj<=dy):nV ac d6 dy v l:=by obtain⟨A,B,D⟩:=C;exact⟨A,B.F ab,ab⟩
def vY(h:ae)(ao aj:Nat)(v:X)(r c:Nat)(ag:aa GE):Prop :=
 ∃(b:Nat) (aO:aw Nat) (cap:Nat) (v2 v3:X),v = .agg ⟨[(r:X),(c:X),.slice (some ⟨b,0,aO⟩) (r+1) cap,v2,v3]⟩/\ao<=b/\b<aj/\u h b=some (.cells (f9 (pJ ag r)) false)/\nV h ao aj v2 (fp ag)/\nV h ao aj v3 (gq ag)
theorem vY.is(H:vY h ao aj v r c ag):kc h aj v r c ag:=by obtain⟨b,aO,cap,D,A,e,E,B,C,c2,ci⟩:=H;exact⟨b,aO,cap,D,A,e,B,C,c2.Hh,ci.Hh⟩
theorem vY.F{h ac:ae}{ao aj d6 dy:Nat}{v:X}{r c:Nat}{ag:aa GE}(H:vY h ao aj v r c ag)(C:∀d,ao<=d->d<aj->u ac d=u h d)(A:d6<=ao)(B:aj<=dy):vY ac d6 dy v r c ag:=by obtain⟨b,aO,cap,E,D,e,L,I,K,c2,ci⟩:=H;exact⟨b,aO,cap,E,D,e,J,J,ab,c2.F C A B,ci.F C A B⟩
theorem kc.form{h:ae}{U:Nat}{v:X}{r c:Nat}{ag:aa GE}(H:kc h U v r c ag):∃b aO n a2 D c2 a3 C ci,v = .agg ⟨[(r:X),(c:X),.slice (some ⟨b,0,aO⟩) (r+1) n,.slice a2 D c2,.slice a3 C ci]⟩:=by
 obtain⟨b,aO,cap,L,I,rfl,E,K,B,A⟩:=H;obtain⟨a2,c2,rfl⟩:=B.form;obtain⟨a3,ci,rfl⟩:=A.form
 grind
def sx(h:ae)(U:Nat)(v:X)(l:aa Int):Prop:=∃a cap,v = .slice a l.length cap/\(l≠[]->∃b o aO bJ cs,b<U/\a=some ⟨b,o,aO⟩/\u h b=some (.cells cs bJ)/\∀(i:Nat) (x:Int),l[i]? = some x->cs[o+i]? = some (x:X))
theorem sx.F(H:sx h U v l)(K:aA U h ac)(E:U<=Y):sx ac Y v l:=by obtain⟨a,cap,e,H⟩:=H;exact⟨a,cap,e,λA=>by obtain⟨b,o,aO,bJ,I,B,aP,D,C⟩:=H A;exact⟨b,o,aO,bJ,I,J,aP,(K b B).trans D,C⟩⟩
theorem sx.at(H:sx h U (.slice a n cap) l)(C:l[i]? = some x):∃b o aO bJ B,b<U/\a=some ⟨b,o,aO⟩/\u h b=some (.cells B bJ)/\∀(i:Nat) (x:Int),l[i]? = some x->B[o+i]? = some (x:X):=by obtain⟨D,A,e,H⟩:=H;cases e;exact H ab
theorem ae8(L:i<=j)(M:j<=n)(P:aO≠some 0)(A:al){m:Nat}(V:m=if A then j else n):∃I K,nN 1 (some ⟨b,0,aO⟩) n A m j i = .ok (.slice I (j-i) K)/\(i<j->I=some ⟨b,i,bif A then none else aO⟩):=by
 have D:j<=m:=ab
 have E:m<=n:=ab
 unfold nN;rw[show(Nat.ble m n&&(Nat.ble j m&&Nat.ble i j))=true by simp[E,D,L]];unfold uy
 by_cases e:m=i
 ·subst e;have C:j=m:=J
  subst C;rw[ua];unfold kO zu wv K1;cases aO with
  |none=>grind
  |some k =>
   cases k with
   |zero=>grind
   |succ k=>cases A <;> exact⟨_,_,by simp;exact⟨rfl,rfl⟩,J⟩
 ·have B:Nat.beq m i=false:=by
   cases B:Nat.beq m i with
   |true=>exact absurd (gG B) e
   |false=>rfl
  rw[B];refine⟨some ⟨b,i,bif A then none else aO⟩,m-i,?_,ab⟩;show R.ok (Value.slice (some ⟨b,Nat.add 0 (Nat.mul i 1),bif A then none else aO⟩) (Nat.sub j i) (Nat.sub m i))=_
  grind
theorem Pw(C:kX h U v l)(h1:i<=j)(Z:j<=l.length){L:aw X}(K:L=none\/L=some (j:X)):
  ∃w,gW 1 v (some (i:X)) (some (j:X)) L = .ok w/\sx h U w ((l.drop i).take (j-i)):=by
 obtain⟨aU,jy,aT⟩:=C;rcases jy with⟨rfl,rfl,rfl⟩|⟨b,rfl,rfl,a6⟩
 ·have b1:j=0:=ab
  subst b1;have aj:i=0:=J
  subst aj;refine⟨.slice none 0 0,?_,⟨none,0,by simp,λh=>absurd (by simp) h⟩⟩;rcases K with rfl|rfl <;> rfl
 ·have E:((l.drop i).take (j-i)).length=j-i:=ab
  have fin:∀(A:al) (m:Nat) (B:aw Addr) (D:Nat),(i<j->B=some ⟨b,i,bif A then none else some 1⟩)->sx h U (.slice B (j-i) D) ((l.drop i).take (j-i)):=λA m B D I=>by
   refine⟨B,D,ab,λV=>?_⟩;have M:i<j:=by have:=Em.2 V;omega
   refine⟨b,i,_,false,_,ab,I M,a6,λk x P=>?_⟩;have hk:=(hY.1 P).1;rw[E]at hk;rw[xi,if_pos hk,xh]at P;rw[iG];exact i6 P
  rcases K with rfl|rfl
  ·obtain⟨B,D,e,I⟩:=ae8  (aO:=some 1) h1 Z (by simp) false  rfl;exact⟨_,e,fin false l.length B _ I⟩
  ·obtain⟨B,D,e,I⟩:=ae8  (aO:=some 1) h1 Z (by simp) true  rfl;exact⟨_,e,fin true j B _ I⟩
theorem IQ{n:Int}:aH Q s 289 [(n:X),(m:X)] h U (fo (.bool (ln n m)) U h):=by
 refine ajZ ?_;unfold Y4;refine aF ?_;refine⟨λB=>?_,λB=>by rw[pq J];exact⟨rfl,rfl,rfl⟩⟩
 by_cases A:m<n
 ·rw[g4 A,pq J];exact⟨rfl,rfl,rfl⟩
 ·rw[hl A,k8 J];exact⟨rfl,rfl,rfl⟩
theorem aj2{n:Int}:aH Q s 369 [(n:X),(m:X)] h U (fo (.bool (decide (n<m))) U h):=by
 have A:∀{n:Int} {K:bP},K (.bool false) h U->aH Q s 345 [(n:X)] h U K:=λ{n K} hk=>by refine adx ?_;unfold Ri;simp(disch:=omega)only[bn,qR,seval];exact hk
 refine am5 ?_;refine A ?_;refine aF ?_;exact⟨rfl,rfl,rfl⟩
def CrJ(dp:X)(l:aa Int)(c:Int)(h:ae)(U:Nat)(m:Nat)(aE:aa X)(ac:ae)(Y:Nat):Prop:=∃i,m=l.length-i/\i<=l.length/\aE=[dp,(c:X),.bool false,dp,(l.length:X),(i:X)]/\ac=h/\Y=U
def IsJ(dp:X)(l:aa Int)(h:ae)(U:Nat)(m:Nat)(aE:aa X)(ac:ae)(Y:Nat):Prop:=∃k:Int,m=(k+1).toNat/\-1<=k/\k<l.length/\aE=[dp,.bool false,(k:X)]/\ac=h/\Y=U
theorem aq9(I:sx h U v l)(bb:l.length<=1000)(aZ:c<=4096)(a5:∀x∈l,0<=x/\x<(c:Int))(Z:∀(i:Nat) (x y:Int),l[i]? = some x->l[i+1]? = some y->x<y):
  aH Q s 291 [v,(c:X)] h U (fo (.bool true) U h):=by
 refine aud ?_;obtain⟨a,cap,rfl,_⟩:=id I;unfold ae2;refine aF ?_;refine bD.mk (CrJ (.slice a l.length cap) l c h U) l.length ⟨0,rfl,J,rfl,rfl,rfl⟩ ?_;rintro _ _ _ _ ⟨i,rfl,aj,rfl,rfl,rfl⟩;rw[aq1];unfold abc;refine aF ?_;refine⟨λB=>?_,λeN=>⟨rfl,rfl,rfl⟩⟩;obtain⟨x,D⟩:=d1 B;obtain⟨b,o,aO,bJ,cs,aT,rfl,E,A⟩:=I.at D;obtain⟨V,P⟩:=a5 x ab;have M:IntKind.wrap .i64 ((c:Int)-1)=(c:Int)-1:=jE J J;simp(disch:=omega)only[bn,E,A i x D,M,seval];refine IQ.mono ?_;rintro r h1 bh ⟨rfl,rfl,rfl⟩;rw[k8 J];refine aF ?_;refine⟨λL=>?_,λcZ=>?_⟩
 ·obtain⟨y,K⟩:=d1 (l:=l) (i:=i-1) J;have dc:IntKind.wrap .i64 ((i:Int)-1)=((i-1:Nat):Int):=by rw[show(i:Int)-1=((i-1:Nat):Int) by omega];exact jE J J
  have C:=Z (i-1) y x K ab;simp(disch:=omega)only[bn,dc,E,A (i-1) y K,cG (J:i<1000000000000),seval];exact⟨λh=>absurd C h,λ_=>⟨l.length-(i+1),J,i+1,rfl,J,rfl,rfl,rfl⟩⟩
 ·refine bg (cG (J:i<1000000000000)) ?_;exact⟨l.length-(i+1),J,i+1,rfl,J,rfl,rfl,rfl⟩
theorem aik(E:n=l.length)(K:u h b=some (.cells (f9 l) bJ))(bb:l.length<=100000)(V:∀(i:Nat) (x y:Int),l[i]? = some x->l[i+1]? = some y->x<=y):
  aH Q s 290 [.slice (some ⟨b,0,aO⟩) n cap] h U (fo (.bool true) U h):=by
 subst E;refine aj0 ?_;unfold Y5;refine aF ?_;have I:IntKind.wrap .i64 ((l.length:Int)-1)=(l.length:Int)-1:=jE J J;rw[I];refine bD.mk (IsJ (.slice (some ⟨b,0,aO⟩) l.length cap) l h U) l.length ⟨(l.length:Int)-1,J,J,J,rfl,rfl,rfl⟩ ?_;rintro _ _ _ _ ⟨k,rfl,M,L,rfl,rfl,rfl⟩;rw[aij];unfold Wq;refine aF ?_;refine⟨λD=>?_,λcZ=>⟨rfl,rfl,rfl⟩⟩;obtain⟨i,rfl⟩:∃i:Nat,k=((i+1:Nat):Int):=⟨(k-1).toNat,J⟩
 obtain⟨x,B⟩:=d1 (l:=l) (i:=i+1) J;obtain⟨y,A⟩:=d1 (l:=l) (i:=i) J;have C:IntKind.wrap .i64 (((i+1:Nat):Int)-1)=(i:Int):=by rw[show((i+1:Nat):Int)-1=(i:Int) by omega];exact jE J J
 have P:=V i y x A B;simp(disch:=omega)only[bn,C,K,i6 B,i6 A,seval];refine(aj2 ).mono ?_;rintro r h1 Z ⟨rfl,rfl,rfl⟩;rw[hl (J:¬x<y)];refine⟨J,?_⟩;refine bg @C ?_;exact⟨_,J,(i:Int),rfl,J,J,rfl,rfl,rfl⟩
theorem abg(ag:aa GE)(i j:Nat):((fp ag).drop i).take j=fp ((ag.drop i).take j):=by unfold fp;rw[List.map_take,List.map_drop]
theorem ara(ag:aa GE)(i j:Nat):((gq ag).drop i).take j=gq ((ag.drop i).take j):=by unfold gq;rw[List.map_take,List.map_drop]
theorem JI(h:ag[i]? = some g):(fp ag)[i]? = some (g.t:Int):=by unfold fp;grind
theorem JJ(h:ag[i]? = some g):(gq ag)[i]? = some g.w:=by unfold gq;grind
theorem ady(h:(fp ag)[i]? = some x):∃g,ag[i]? = some g/\x=(g.t:Int):=by
 unfold fp at h
 grind
theorem Oy(h:g∈eM ag i):g∈ag/\g.f=i:=by
 unfold eM at h
 grind
theorem Px(ag:aa GE)(i:Nat):(eM ag i).length<=ag.length:=y4 _ _
def CtJ(p r:Nat)(au:ae)(a0:Nat)(m:Nat)(aE:aa X)(ac:ae)(Y:Nat):Prop:=∃i,m=r-i/\i<=r/\aE=[bd p,.bool false,(r:X),(i:X)]/\ac=au/\Y=a0
theorem IX(M:g8 r c ag)(aJ:kc h U v r c ag):aH Q s 201 [v] h U (dC (.bool true) U h):=by
 refine amY ?_;obtain⟨b,aO,cap,v2,v3,rfl,aT,K,V,o4⟩:=id aJ;obtain⟨a2,c2,rfl⟩:=V.form;obtain⟨a3,ci,rfl⟩:=o4.form;have a5:=M.a5;have aZ:=M.aZ;have bb:=M.len;have Z:=Ci ag;have vp:=FG ag;have L:∀{o},aA U h (T h U o):=aK
 unfold aa5;refine aF ?_;refine IQ.mono ?_;rintro _ _ _ ⟨rfl,rfl,rfl⟩;rw[k8 J];refine aF ?_;refine IQ.mono ?_;rintro _ _ _ ⟨rfl,rfl,rfl⟩;rw[k8 J];simp(disch:=omega)only[bn,cG (J:r<1000000000000),show(((r+1:Nat):Int) == ((r+1:Nat):Int))=true from qR _,show(((gq ag).length:Int) == ((fp ag).length:Int))=true by grind,seval];rw[show decide ((65536:Int)<((fp ag).length:Int))=false from hl J];unfold BS;have lp:(pJ ag r)[0]? = some 0:=by rw[vR J,Kp];rfl
 have sM:(pJ ag r)[r]? = some ((fp ag).length:Int):=by rw[vR J,ae7 M,Z]
 simp(disch:=omega)only[bn,K,i6 lp,i6 sM,show(((fp ag).length:Int) == ((fp ag).length:Int))=true from qR _,seval];refine(aik  (Pu ag r).symm (by rw[aq J];omega) (by rw[Pu];omega) λi x y A B=>?_).mono ?_
 ·have aj:=(hY.1 B).1;rw[Pu]at aj;rw[vR J]at A B;cases A;cases B;have:=zs ag (J:i<=i+1);omega
 rintro _ _ _ ⟨rfl,rfl,rfl⟩;refine aF ?_;unfold IW;refine aF ?_;refine bD.mk (CtJ U r (T h U (.cells [(r:X),(c:X),.slice (some ⟨b,0,aO⟩) (r+1) cap,.slice a2 (fp ag).length c2,.slice a3 (gq ag).length ci] false)) (U+1)) r ⟨0,rfl,J,rfl,rfl,rfl⟩ ?_;rintro _ _ _ _ ⟨i,rfl,aj,rfl,rfl,rfl⟩;rw[ajX];unfold Xr;refine aF ?_;refine⟨λcA=>?_,λeN=>⟨rfl,L,J⟩⟩;have UL:(pJ ag r)[i]? = some (dA ag i:Int):=vR J;have C:(pJ ag r)[i+1]? = some (dA ag (i+1):Int):=vR J;obtain⟨w,bV,P⟩:=Pw V (zs ag (J:i<=i+1)) (by rw[Z];exact uC _ _) (.inl rfl);rw[abg,Ch M.up]at P;simp(disch:=omega)only[bn,K,i6 UL,i6 C,cG (J:i<1000000000000),bV,seval];have Hi:=Px ag i;refine(aq9   (P.F L J) (by rw[Ci];omega) aZ (λx A=>?_) λk x y A B=>?_).mono ?_
 ·obtain⟨g,I,rfl⟩:=f0.1 A;have:=M.l9 g (Oy I).1;omega
 ·obtain⟨g,D,rfl⟩:=ady A;obtain⟨b8,E,rfl⟩:=ady B;have h1:=(hY.1 D)
  have ar:=(hY.1 E)
  have:=Bx.1 (Pv M.up i) k (k+1) h1.1 ar.1 J
  grind
 rintro _ _ _ ⟨rfl,rfl,rfl⟩;refine⟨J,?_⟩;refine bg (cG (J:i<1000000000000)) ?_;exact⟨r-(i+1),J,i+1,rfl,J,rfl,rfl,rfl⟩
theorem Fg(M:g8 r c ag)(D:kc h U v r c ag):aH Q s 293 [v] h U (dC v U h):=by
 refine aq2 ?_;have B:=D;obtain⟨b,aO,cap,v2,Z,rfl,V,a6,P,L⟩:=id D;obtain⟨a2,c2,rfl⟩:=P.form;obtain⟨a3,ci,rfl⟩:=L.form;unfold adu;have K:∀{o aX},aA U h (T (T h U o) (U+1) aX):=aK
 refine aF ?_;refine(IX M (B.F K J)).mono ?_;rintro _ h1 bh ⟨rfl,A,I⟩;have C:=A U J;rw[aq J,aS]at C;have E:=A (U+1) J;rw[aS]at E;refine cL @C @E ?_;exact⟨rfl,aK,J⟩
def awx(ag:aa GE)(i B:Nat)(U:Nat)(h:ae):bP:=λres ac Y=>∃db i3,res = .tuple ⟨[db,i3]⟩/\sx ac B db (fp (eM ag i))/\sx ac B i3 (gq (eM ag i))/\aA U h ac/\U<=Y
theorem Y8{B:Nat}(M:g8 r c ag)(aJ:kc h B v r c ag)(L:B<=U)(aj:i<r):aH Q s 296 [v,(i:X)] h U (awx ag i B U h):=by
 refine aq4 ?_;obtain⟨b,aO,cap,v2,v3,rfl,aT,Z,V,P⟩:=id aJ;obtain⟨a2,c2,rfl⟩:=V.form;obtain⟨a3,ci,rfl⟩:=P.form;have a5:=M.a5;have E:∀{o},aA U h (T h U o):=aK
 have UL:(pJ ag r)[i]? = some (dA ag i:Int):=vR J;have K:(pJ ag r)[i+1]? = some (dA ag (i+1):Int):=vR J;obtain⟨db,D,A⟩:=Pw V (zs ag (J:i<=i+1)) (by rw[Ci];exact uC _ _) (.inr rfl);obtain⟨i3,I,C⟩:=Pw P (zs ag (J:i<=i+1)) (by rw[FG];exact uC _ _) (.inr rfl);rw[abg,Ch M.up]at A;rw[ara,Ch M.up]at C;unfold adv;simp(disch:=omega)only[bn,Z,i6 UL,i6 K,cG (J:i<1000000000000),D,I,seval];exact⟨db,i3,rfl,A.F (E.mono L) J,C.F (E.mono L) J,E,J⟩
def Gh(g:GE):aa X:=[(g.t:X),(g.w:X)]
def RwJ(dp fB:X)(l:aa GE)(au:ae)(a0:Nat)(m:Nat)(aE:aa X)(ac:ae)(Y:Nat):Prop :=
 ∃(k:Nat) (o:X),m=l.length-k/\k<=l.length/\aE=[o,fB,dp,(l.length:X),(k:X)]/\d5 ac o Gh 2 (l.take k) a0 Y/\aA a0 au ac/\a0<=Y
def RowK(ag:aa GE)(i:Nat)(U:Nat)(h:ae):bP:=λres ac Y=>d5 ac res Gh 2 (eM ag i) U Y/\aA U h ac/\U<=Y
theorem arb(M:g8 r c ag)(aJ:kc h U v r c ag)(aj:i<r):aH Q s 295 [v,(i:X)] h U (RowK ag i U h):=by
 refine auf ?_;have I:=aJ;obtain⟨b,aO,cap,v2,v3,rfl,aT,a6,pZ,o4⟩:=id aJ;obtain⟨a2,c2,rfl⟩:=pZ.form;obtain⟨a3,ci,rfl⟩:=o4.form;have a5:=M.a5;have bb:=M.len;have Hi:=Px ag i;unfold ae4;have bZ:∀{o},aA U h (T h U o):=aK
 refine aF ?_;refine(Fg M (I.F bZ J)).mono ?_;rintro _ h1 bh ⟨rfl,V,fy⟩;have bB:=V U J;rw[aS]at bB;have gD:IntKind.wrap .i64 ((r:Int)-1)=(r:Int)-1:=jE J J;refine cL @bB @gD ?_;refine IQ.mono ?_;rintro _ _ _ ⟨rfl,rfl,rfl⟩;rw[k8 J];refine aF ?_;have eA:∀{o},aA U h (T h1 U o):=aK
 refine(Y8 M (I.F eA (cD _)) J aj).mono ?_;rintro _ Z bS ⟨db,i3,rfl,P,Bh,e8,gA⟩;obtain⟨jN,cB,rfl,_⟩:=id P;obtain⟨hE,co,rfl,_⟩:=id Bh;have sK:=Ci (eM ag i);have vp:=FG (eM ag i);rw[sK]at P;rw[vp]at Bh;rw[sK,vp];refine aF ?_;refine bD.mk (RwJ (.slice jN (eM ag i).length cB) (.slice hE (eM ag i).length co) (eM ag i) Z bS) (eM ag i).length ⟨0,_,J,J,rfl,.inl ab,aK,J⟩ ?_;rintro _ _ bm dH ⟨k,o,rfl,hk,rfl,L,B,ir⟩;rw[aq3];unfold abd;refine aF ?_;refine⟨λD=>?_,λeN=>?_⟩
 ·have D:k<(eM ag i).length:=J
  obtain⟨g,A⟩:=d1 D;obtain⟨b4,dO,mU,wG,yB,fw,rfl,jq,E⟩:=P.at (JI A)
  obtain⟨dZ,fZ,kH,Hj,AV,n0,rfl,qw,C⟩:=Bh.at (JJ A)
  have aP:=(B b4 J).trans jq;have ch:=(B dZ J).trans qw;simp(disch:=omega)only[bn,aP,E k _ (JI A),ch,C k _ (JJ A),seval];refine l4 (enc:=Gh)  (λ_=>rfl) (λ_=>rfl) J (L.F ab J) J g (aS _ _ _) rfl ab λdN b3 rr K=>?_;refine bg (cG (J:k<1000000000000)) ?_;refine⟨(eM ag i).length-(k+1),J,k+1,_,rfl,J,rfl,?_,λc aZ=>?_,J⟩
  ·rw[hx,A];exact rr
  ·rw[K c aZ,aq J];exact B c aZ
 ·have:k=(eM ag i).length:=J
  subst this;rw[iQ]at L;refine⟨?_,aK,J⟩;rcases L with e|⟨b,h1,ar,Z⟩
  ·exact .inl e
  ·exact .inr ⟨b,J,ar,Z⟩
def hA(ag:aa GE)(j:Nat):Nat:=(ag.filter λg=>decide (g.f+1=j)).length
def Af(ag:aa GE)(r:Nat):aa Int:=(List.range (r+1)).map λj=>(hA ag j:Int)
def wN(ag:aa GE)(r k:Nat):aa Int:=(List.range (r+1)).map λj=>((if j<=k then dA ag j else hA ag j:Nat):Int)
theorem abh(h:i<n):((List.range n).map f)[i]? = some (f i):=ab
theorem abi{g:Nat->Int}(aj:i<n)(A:g i=x)(B:∀j,j<n->j≠i->g j=f j):((List.range n).map f).set i x=(List.range n).map g:=by
 apply oq
 grind
theorem am6(r:Nat):Af [] r=List.replicate (r+1) 0:=by
 unfold Af;apply oq;intro j
 by_cases A:j<r+1
 ·rw[abh A,List.getElem?_replicate,if_pos A];rfl
 grind
theorem abj(ag:aa GE)(e:GE)(j:Nat):hA (ag++[e]) j=hA ag j+if e.f+1=j then 1 else 0:=by
 unfold hA
 grind
theorem am7{e:GE}(h:e.f<r):(Af ag r).set (e.f+1) ((hA ag (e.f+1):Int)+1)=Af (ag++[e]) r:=by
 refine abi (by omega) ?_ λj B A=>?_
 ·rw[abj,if_pos rfl];simp
 ·rw[abj,if_neg (kw A)];simp
theorem adz(ag:aa GE)(j:Nat):hA ag j<=ag.length:=y4 _ _
theorem Y9(ag:aa GE)(k:Nat):dA ag (k+1)=dA ag k+hA ag (k+1):=by
 unfold dA hA
 induction ag with
 |nil=>rfl
 |cons g ag A =>
  grind
theorem awy(ag:aa GE)(r:Nat):wN ag r 0=Af ag r:=by
 apply o9;intro j _
 by_cases h:j<=0
 ·have:j=0:=J
  subst this;rw[if_pos (cD _),Kp];have:hA ag 0=0:=by
   unfold hA;rw[List.length_eq_zero_iff,y3]
   grind
  omega
 grind
theorem awz(ag:aa GE)(r:Nat):wN ag r r=pJ ag r:=by
 apply o9
 grind
theorem am8(h:k<r):(wN ag r k)[k+1]? = some (hA ag (k+1):Int):=by
 unfold wN
 grind
theorem am9(h:k<r):(wN ag r k)[k]? = some (dA ag k:Int):=by
 unfold wN
 grind
theorem arc(h:k<r):(wN ag r k).set (k+1) ((hA ag (k+1):Int)+(dA ag k:Int))=wN ag r (k+1):=by
 refine abi (by omega) ?_ λj B A=>?_
 ·rw[if_pos (cD _),Y9];omega
 grind
theorem ana(C:r<=4096):aH Q s 367 [(r:X),(c:X)] h U (λB ac Y=>B = .agg ⟨[(r:X),(c:X),.slice (some ⟨U+1,0,none⟩) (r+1) (r+1),.slice none 0 0,.slice none 0 0]⟩/\u ac (U+1)=some (.cells (f9 (List.replicate (r+1) 0)) false)/\aA U h ac/\Y=U+1+1):=by
 refine acN ?_;unfold Q8;have A:List.replicate (r+1) (Value.int .i64 0)=f9 (List.replicate (r+1) 0):=by simp[f9]
 refine cL (cG (J:r<1000000000000)) @A ?_;exact aK
def ayg(r c cp ff jx ao:Nat)(UE:X)(ag:aa GE)(au:ae)(U:Nat)(m:Nat)(aE:aa X)(ac:ae)(Y:Nat):Prop :=
 ∃(i:Nat) (e1 nr:X),m=ag.length-i/\i<=ag.length/\aE=[(r:X),bd cp,bd ff,UE,(ag.length:X),(i:X)] /\
  u ac ff=some (.cells [(r:X),(c:X),.slice (some ⟨jx,0,none⟩) (r+1) (r+1),e1,nr] false)/\u ac jx=some (.cells (f9 (Af (ag.take i) r)) false) /\
  ye ac e1 nr ((ag.take i).map λe=>(e.t:Int)) ((ag.take i).map GE.w) ao Y/\(∀d,d<ao->d≠ff->d≠jx->u ac d=u au d)/\ao<=Y
def ayh(r c cp ff jx ao:Nat)(e1 nr:X)(ag:aa GE)(au:ae)(U:Nat)(m:Nat)(aE:aa X)(ac:ae)(Y:Nat):Prop :=
 ∃(i:Nat),m=r-i/\i<=r/\aE=[bd cp,bd ff,(r:X),(i:X)] /\
  u ac ff=some (.cells [(r:X),(c:X),.slice (some ⟨jx,0,none⟩) (r+1) (r+1),e1,nr] false)/\u ac jx=some (.cells (f9 (wN ag r i)) false) /\
  (∀d,d≠jx->u ac d=u au d)/\Y=U
def QG(r c:Nat)(ag:aa GE)(U:Nat)(h:ae):bP:=λv ac Y=>vY ac U Y v r c ag/\aA U h ac/\U<=Y
theorem Oz(aJ:ft h U v cW ag)(M:g8 r c ag):
  aH Q s 281 [(r:X),(c:X),v] h U (QG r c ag U h):=by
 refine acL ?_;obtain⟨a,cap,rfl,Ll⟩:=id aJ;have a5:=M.a5;have aZ:=M.aZ;have bb:=M.len;unfold Q7;refine aF ?_;refine(ana   a5).mono ?_;rintro nz h1 _ ⟨rfl,ig,E,rfl⟩;have cv:=E U J;rw[aS]at cv;refine aF ?_;refine bD.mk (ayg r c U (U+1+1+1) (U+1+1) (U+1+1+1+1) (.slice a ag.length cap) ag h1 U) ag.length ⟨0,_,_,rfl,J,rfl,ab,by rw[aq J,aq J,t8,am6];omega,.inl ⟨rfl,rfl,rfl,rfl⟩,ab,J⟩ ?_;rintro m _ ar C ⟨i,e1,nr,rfl,aj,rfl,P,gc,B,bK,dR⟩;obtain⟨eX,dO,pY,Be,yU,Mn⟩:=B.hU;obtain⟨aB,Z,V,a2,L,c2,rfl,rfl⟩:=B.form;rw[aaD];unfold Pb;refine aF ?_;refine⟨λcA=>?_,λeN=>?_⟩
 ·obtain⟨e,bE⟩:=d1 cA;have hef:e.f<r:=M.rows e ab;obtain⟨_,b,aO,bJ,dD,cs,aT,aV,a6⟩:=aJ.at bE;cases aV;have jq:=(bK b J J J).trans ((E b J).trans ((aq J).trans a6));have rm:h0 (some 3) (i*3) (bc cW ag++cs) = .ok (.agg ⟨[(e.f:X),(e.t:X),(e.w:X)]⟩):=yA  (k:=3) (λ_=>rfl) bE;have a1:(Af (ag.take i) r)[e.f+1]? = some (hA (ag.take i) (e.f+1):Int):=abh J;have SZ:=adz (ag.take i) (e.f+1);have AH:(ag.take i).length<=120:=ab
  have K:IntKind.wrap .i64 ((hA (ag.take i) (e.f+1):Int)+1)=(hA (ag.take i) (e.f+1):Int)+1:=jE J J;simp(disch:=omega)only[bn,jq,rm,P,gc,cG (J:e.f<1000000000000),i6 a1,K,seval];refine⟨ab,?_⟩;have lG:((ag.take i).map λe=>(e.t:Int)).length=i:=ab
  have Dm:((ag.take i).map GE.w).length=i:=ab
  refine vP (pY.F ab) (aS _ _ _) J λI DF A=>?_;have S0:u I (U+1+1+1)=some (.cells [(r:X),(c:X),.slice (some ⟨U+1+1,0,none⟩) (r+1) (r+1),.slice aB Z V,.slice a2 L c2] false):=ab
  have S1:u I C=some (.cells [(e.f:X),(e.t:X),(e.w:X)] false):=ab
  refine cL @S0 @S1 ?_;refine vP (Be.F λc aZ=>?_) (aS _ _ _) J λbm hn4 AP=>?_
  ·grind
  have S2:u bm (U+1+1+1)=some (.cells [(r:X),(c:X),.slice (some ⟨U+1+1,0,none⟩) (r+1) (r+1),.slice (some ⟨C+1+1,0,some 1⟩) (((ag.take i).map λe=>(e.t:Int)).length+1) (((ag.take i).map λe=>(e.t:Int)).length+1),.slice a2 L c2] false):=ab
  refine bg @S2 ?_;have oN:ag.take (i+1)=ag.take i++[e]:=by rw[hx,bE];rfl
  refine⟨ag.length-(i+1),J,i+1,_,_,rfl,J,by rw[cG J],aS _ _ _,?_,.inr ⟨C+1+1,C+1+1+1+1,J,J,J,J,J,?_,?_,?_,?_⟩,λd h1 ar I=>?_,J⟩
  ·rw[aq J,AP _ J (λe=>ab),aq J,aq J,A _ J (λe=>ab),aq J,aS,am7 hef,oN]
  ·grind
  ·grind
  ·grind
  all_goals grind
 ·obtain⟨Mo,Mp⟩:=B.gr;have AN:i=ag.length:=J
  subst AN;rw[iQ]at Mo Mp B gc;refine bD.mk (ayh r c U (U+1+1+1) (U+1+1) (U+1+1+1+1) (.slice aB Z V) (.slice a2 L c2) ag ar C) r ⟨0,rfl,J,rfl,P,by rw[awy];omega,λ_ _=>rfl,rfl⟩ ?_;rintro m _ I tH ⟨k,rfl,hk,rfl,_,gc,A,rfl⟩;have P:=(A (U+1+1+1) J).trans P;rw[aaE];unfold Pc
  by_cases D:k<r
  ·have a1:=am8 (ag:=ag) D;have ce:=am9 (ag:=ag) D;have SZ:=adz ag (k+1);have hyb:=uC ag k;have K:IntKind.wrap .i64 ((hA ag (k+1):Int)+(dA ag k:Int))=(hA ag (k+1):Int)+(dA ag k:Int):=jE J J;simp(disch:=omega)only[bn,show(k:Int)<(r:Int) by omega,D,P,gc,cG (J:k<1000000000000),i6 a1,i6 ce,K,seval];refine⟨⟨ab,?_⟩,λh=>absurd trivial h⟩;refine⟨r-(k+1),J,k+1,rfl,J,rfl,?_,?_,λd I=>ab,rfl⟩
   ·grind
   ·rw[aS,arc D]
  ·have:k=r:=J
   subst this;have lV:=(A U J).trans ((bK U J J J).trans cv);refine cL @P @lV ?_;rw[awz]at gc;have pZ:nV (T I U (.cells [(k:X),(c:X),.slice (some ⟨U+1+1,0,none⟩) (k+1) (k+1),.slice aB Z V,.slice a2 L c2] false)) U tH (.slice aB Z V) (fp ag)/\nV (T I U (.cells [(k:X),(c:X),.slice (some ⟨U+1+1,0,none⟩) (k+1) (k+1),.slice aB Z V,.slice a2 L c2] false)) U tH (.slice a2 L c2) (gq ag):=by
    rcases B with⟨aV,aP,ch,e6⟩|⟨dE,b4,e0,ii,jN,hE,sG,ch,e6,ct,cB⟩
    ·exact⟨⟨none,.inl ⟨aV,ch,rfl⟩,λc e=>by cases e⟩,⟨none,.inl ⟨aP,e6,rfl⟩,λc e=>by cases e⟩⟩
    ·refine⟨⟨some dE,.inr ⟨dE,rfl,ch,?_⟩,λc e=>ab⟩,⟨some b4,.inr ⟨b4,rfl,e6,?_⟩,λc e=>ab⟩⟩
     ·rw[aq J,A dE J,iG];exact ct
     ·rw[aq J,A b4 J,iG];exact cB
   refine⟨λh=>absurd h J,λ_=>⟨⟨U+1+1,none,k+1,_,_,rfl,J,J,?_,pZ.1,pZ.2⟩,λd bp=>?_,J⟩⟩
   ·grind
   ·rw[aq J,A d J,bK d J J J,E d J,aq J]
def c8(n k i:Nat):Nat:=min i k*n / k
theorem s6(A:0<k)(i:Nat):c8 n k i<=n:=by refine Nat.div_le_of_le_mul ?_;exact rU J J
theorem ui(h:i<=j):c8 n k i<=c8 n k j:=by exact Nat.div_le_div_right (rU J J)
theorem adA(n k:Nat):c8 n k 0=0:=by unfold c8;simp
theorem adB(A:0<k):c8 n k k=n:=by unfold c8;rw[Nat.min_self];exact MH n A
def px(a H b W:Nat)(g:GE):al:=decide (a<=g.f/\g.f<a+H/\b<=g.t/\g.t<b+W)
def lE(ag:aa GE)(a H b W:Nat):aa GE:=(ag.filter (px a H b W)).map λg=>⟨g.f-a,g.t-b,g.w⟩
theorem JK{a H W:Nat}(M:g8 r c ag)(D:a+H<=r)(E:b+W<=c):g8 H W (lE ag a H b W) where
 up:=by
  unfold lE kK;rw[xj];refine List.Pairwise.imp_of_mem (λ{x y} A ce h=>?_) (Il _ M.up);have C:=of_decide_eq_true (pa.1 A).2;unfold mM at h ⊢
  grind
 rows:=λg B=>by
  obtain⟨x,A,rfl⟩:=f0.1 B;have C:=of_decide_eq_true (pa.1 A).2
  grind
 l9:=λg B=>by
  obtain⟨x,A,rfl⟩:=f0.1 B;have C:=of_decide_eq_true (pa.1 A).2
  grind
 a5:=by have:=M.a5;omega
 aZ:=by have:=M.aZ;omega
 len:=by unfold lE;rw[gH];exact hy ab M.len
def yg(b W:Nat)(g:GE):al:=decide (b<=g.t/\g.t<b+W)
def RR(ag:aa GE)(a b W i:Nat):aa GE:=((eM ag (a+i)).filter (yg b W)).map λg=>⟨i,g.t-b,g.w⟩
theorem ail(h:kK ag)(a H b W:Nat):ag.filter (px a (H+1) b W)=ag.filter (px a H b W)++(eM ag (a+H)).filter (yg b W):=by
 induction ag with
 |nil=>rfl
 |cons x ag A =>
  have A:=A (t7.1 h).2;unfold eM at A ⊢;rw[qQ,qQ,qQ,A]
  by_cases K:x.f<a+H
  ·have aP:px a (H+1) b W x=px a H b W x:=by unfold px;grind
   grind
  ·have I:=agf h;have aM:ag.filter (px a H b W)=[]:=by
    rw[y3];intro g E;unfold px
    grind
   have C:px a H b W x=false:=hl J;rw[aM,C]
   by_cases D:x.f=a+H
   ·have B:px a (H+1) b W x=yg b W x:=by unfold px yg;grind
    grind
   ·have B:px a (H+1) b W x=false:=hl J
    grind
theorem aj3(h:kK ag)(a H b W:Nat):lE ag a (H+1) b W=lE ag a H b W++RR ag a b W H:=by
 unfold lE RR;rw[ail h,iF]
 congr 1
 apply o9;intro g A;have:=(pa.1 (show g∈eM ag (a+H)from ab)).2
 grind
theorem auh(ag:aa GE)(a b W:Nat):lE ag a 0 b W=[]:=by
 unfold lE;rw[y3.2];rfl;intro g _;unfold px
 grind
end Go.Proofs.YthlhhajnbgjfmaaGreat
