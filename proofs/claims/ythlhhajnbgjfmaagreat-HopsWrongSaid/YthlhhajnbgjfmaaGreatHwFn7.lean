/- Parts of the proof: HwFn7: each statement bears its own conditions. -/
import Derived.Test.YthlhhajnbgjfmaaGreatHwFn6
namespace Go.Proofs.YthlhhajnbgjfmaaGreat
open Go Go.Ax Go.Ax.HdH
set_option linter.all false
set_option maxHeartbeats 1000000
set_option maxRecDepth 1000000
variable {fQ:Nat->ay Int} {v:X} {q:Nat->ao} {a3:X} {N:aQ} {a4 ag:ac GE} {aM:aQ} {y:Nat->ay Int} {d1:Nat->ao} {us:ac GE} {aj:Nat} {aC a2:X} {es:ac MapEntry} {aB:Type} {enc:aB->ac X} {dd eM aZ w:X} {A:ac Int} {aP:aQ} {jV iQ:X} {r:Int} {k:Nat} {eu f7 a6:X} {len:Int} {ea dB:Nat} {st:Int} {o:ao} {iu V:Nat}
theorem Qk:bin Q .neq 162 (.agg ⟨[.int .i64 0,.int .i64 0]⟩) (.agg ⟨[.int .i64 0,.int .i64 0]⟩) = .ok (.bool false):=by kernel_rfl
structure rW (g h:ae) (U aL:Nat):Prop where
 s:lb g h
 p:u g aL=none
 n:∀d,U<=d->u g d=none
theorem rW.sub{g h ab:ae}{U aL:Nat}(G:rW g h U aL)(E:∀d,d<U->d≠aL->u ab d=u h d):lb g ab:=λd o B=>by
 have D:d<U:=ED λD=>by rw[G.n d D]at B;grind
 rw[E d D λe=>by rw[e,G.p]at B;grind];exact G.s d o B
structure Sv (c bT:Nat->X) (t:Nat) (st:Int):Prop where
 a:∀n,n<22\/(23<=n/\n<26)\/(33<=n/\n<38)\/41<=n->bT n=c n
 r:bT 26 = (t:X)
 s:bT 27 = (st:X)
 h:∀n,28<=n->n<33->bT n=if t=0 then c n else c (n+5)
 w:bT 38 = .bool false
 b:bT 39 = .bool true
section
variable {s:ao} {g cG h ab:ae} {U Y aL i j:Nat} {c bT:Nat->X} {l:ac eC} {aY:ay Nat} {Z:cn}
def Dm(Z:cn)(c:Nat->X)(aL i t b4 cL:Nat)(st:Int)(S:jS)(l:ac eC)(aY:ay Nat)(h:ae)(U:Nat):bZ:=λmJ ab Y=>mJ = .bool true/\∃bT gU dD B,Sv c bT t st/\bT 40=(if st=0 then .slice none 0 0 else c 40)/\e0 ab Y aL bT i 0 Z.C (l++dD) gU /\
 kR ab U B dD (if st=0 then(List.range Z.C).map (Kk Z i (t+1) (rx Z.k (iM Z.bu Z.N (t / 2)) (t+1) S))else[])/\U<=B/\B<=Y/\(∀b,gU=some b->aY=some b\/B<=b)/\(st=0->u ab b4=some (.map [] cL))/\(∀d,d<U->d≠aL->(st=0->d≠b4)->aY≠some d->u ab d=u h d)/\U<=Y
theorem avO{a b:X}(B:c 0=a)(D:c 1=b):hg (some 2) 0 (dE c) = .ok (.agg ⟨[a,b]⟩):=by subst B D;rfl
theorem alV{t b4 cL:Nat}{S:jS}{cm:Nat->X}{D:ae}{I:Nat}(K:f8 Z)(W:e0 D I aL cm i 0 Z.C l aY)(H:kl D I cm Z i 0)(br:l.length+Z.C<900)(aj:i<Z.R)(E:Sv c cm t st)(y8:cm 40=c 40)(au:jr D I (.agg ⟨[cm 28,cm 29,cm 30,cm 31,cm 32]⟩) (Z.bN i) (Z.H i) S)(cK:t<900)(my:cm 41 = .map (some b4))(bx:u D b4=some (.map es cL))(rP:b4<U/\b4≠aL/\aY≠some b4)(ij:st=0\/st=1\/st=2)(L:U<=I)(hkp:∀d,d<U->d≠aL->u D d=u h d):
  ((st == 0)=true->aD Q s 232 [bb aL] D I λx62 Uu P=>Dm Z c aL i t b4 cL st S l aY h U (.bool true) Uu P)/\((st == 0)=false->Dm Z c aL i t b4 cL st S l aY h U (.bool true) D I):=by
 have no:st≠0->Dm Z c aL i t b4 cL st S l aY h U (.bool true) D I:=λe=>⟨rfl,cm,aY,[],U,E,aa,by rw[hC];exact W,by rw[if_neg e];trivial,J,L,aa,J,aa,L⟩
 refine⟨λe=>?_,λe=>no aa⟩
 ·obtain rfl:st=0:=aa
  refine(ajF K W H br aj au E.r cK my bx aa).mono ?_;rintro _ bh d9 ⟨rfl,bT,M,dD,B,e40,MS,hS,a1,Lp,bD,wH⟩;refine⟨rfl,bT,some M,dD,M,⟨λn bw=>?_,?_,?_,λn h1 ap=>?_,?_,?_⟩,aa,MS,by rw[if_pos rfl];exact hS.F aa L J,J,by have:=(MS.aY M rfl).2;omega,aa,aa,aa,J⟩
  ·rw[B n J J];exact E.a n bw
  ·rw[B 26 J J];exact E.r
  ·rw[B 27 J J];exact E.s
  ·rw[B n J J];exact E.h n h1 ap
  ·rw[B 38 J J];exact E.w
  ·rw[B 39 J J];exact E.b
theorem aix{t b4 cL:Nat}{S:jS}{f:eC}(K:f8 Z)(W:e0 h U aL c i 0 Z.C l aY)(G:rW g h U aL)(H:kl g U c Z i 0)(br:l.length+Z.C<900)(aj:i<Z.R)(cK:t<900)(pg:f.round=(t:Int))(e1:f.n=st)(ij:st=0\/st=1\/st=2)(az1:t=0->jr g U (.agg ⟨[c 28,c 29,c 30,c 31,c 32]⟩) (Z.bN i) (Z.H i) S)(E:jr g U (.agg ⟨[c 33,c 34,c 35,c 36,c 37]⟩) (Z.bN i) (Z.H i) S)(D2:c 26 = ((t-1:Nat):X))(P:c 27 = .int .i64 0)(Mm:c 38 = .bool true)(e39:c 39 = .bool (decide (0<t)))(my:c 41 = .map (some b4))(bx:u h b4=some (.map es cL))(I:b4<U/\b4≠aL/\aY≠some b4):
  aD Q s 137 [bb aL,.agg ⟨eh f⟩,.agg ⟨[.int .i64 0,.int .i64 0]⟩] h U (Dm Z c aL i t b4 cL st S l aY h U):=by
 refine ajy ?_;have cS:=W.lt;have bH:∀{o aU},aA U h (T (T h U o) (U+1) aU):=aF
 have D:∀{o aU},u (T (T h U o) (U+1) aU) aL=some (.cells (dE c) false):=λ{o aU}=>(bH aL cS).trans W.at_;have i6:∀{y:Int},((y == y):ao)=true:=aa
 have lA:decide (st<0)=false:=aa
 have kZ:decide (3<st)=false:=aa
 unfold Yc eh;have fin:∀M cm,u M aL=some (.cells (dE cm) false)->(∀d,d<U->d≠aL->u M d=u h d)->(∀n,n<22\/n=22->cm n=c n)->Sv c cm t st->cm 40=c 40->cm 41=c 41 ->
   ((st == 0)=true->aD Q s 232 [bb aL] M (U+2) λx62 Uu n64=>Dm Z c aL i t b4 cL st S l aY h U (.bool true) Uu n64)/\((st == 0)=false->Dm Z c aL i t b4 cL st S l aY h U (.bool true) M (U+2)):=λM cm bn hk a5 L y8 h41=>by
  refine alV K (W.set  bn aa aa aa aa (λb e=>by have:=W.aY b e;grind) J) (((H.set aa).F  aF J).sub (G.sub hk)) br aj L y8 (hy.sub (hy.F (U:=U)  (h:=g) ?_ aF J) (G.sub hk)) cK aa ((hk b4 I.1 I.2.1).trans bx) I ij J hk;rw[L.h 28 J J,L.h 29 J J,L.h 30 J J,L.h 31 J J,L.h 32 J J]
  by_cases aq:t=0
  ·simp only[if_pos aq];exact az1 aq
  ·simp only[if_neg aq];exact E
 by_cases aq:t=0
 ·subst aq;have pf:(((0:Nat):Int) == 0)=true:=rfl
  replace pg:f.round=0:=pg
  simp(disch:=omega)only[bk,hT,D,e39,show decide (0<0)=false from rfl,seval];unfold I6;simp(disch:=omega)only[bk,hT,D,W.c1,pf,Qk,Mm,P,pg,e1,lA,i6,seval];refine λ_=>?_;rw[kZ];unfold vW;refine GA @D ?_;unfold I5;refine aE ?_;refine λ_=>fin _ (hl (hl (hl c 38 (.bool false)) 39 (.bool true)) 27 (st:X)) aa aa (λn bw=>?_) ⟨λn bw=>?_,?_,?_,λn h1 ap=>?_,?_,?_⟩ rfl rfl
  ·rw[dP J,dP J,dP J]
  ·rw[dP J,dP J,dP J]
  ·rw[dP J,dP J,dP J];omega
  ·rfl
  ·rw[dP J,dP J,dP J,if_pos rfl]
  ·rfl
  ·rfl
 ·obtain⟨B,rfl⟩:∃B,t=B+1:=⟨t-1,J⟩
  have bs:decide (0<B+1)=true:=aa
  have Vv:IntKind.wrap .i64 ((B:Int)+1)=((B+1:Nat):Int):=cF J;have Sw:c 26 = (B:X):=D2;have pf:(((0:Nat):Int) == 0)=true:=rfl;have aDh:(st == 3)=false:=aa
  have RW:(0:Int)<((B+1:Nat):Int):=J
  refine KH @D @e39 @bs @Sw @Vv ?_;unfold I6;simp(disch:=omega)only[bk,hT,D,W.c1,pf,Qk,Mm,P,pg,e1,lA,i6,seval];rw[kZ];unfold vW;refine yu @D @RW @aDh ?_;unfold I5;have LD:(g1 (c 33)&&(g1 (c 34)&&(g1 (c 35)&&(g1 (c 36)&&g1 (c 37)))))=true:=by obtain⟨dp,fW,fw,hz,fE,gh,gt⟩:=E;obtain⟨fI,en,rfl,_⟩:=id fE;obtain⟨gr,fT,rfl,_⟩:=id gh;obtain⟨mH,ia,rfl,_⟩:=id gt;simp only[Value.agg.injEq,xN,vR,iv]at hz;obtain⟨Hl,DK,a35,a36,Mk⟩:=hz;rw[Hl,DK,a35,a36,Mk];rfl
  refine GA @LD ?_;refine⟨fin _ (hl (nz (hl (hl (hl c 38 (.bool false)) 39 (.bool true)) 27 (st:X)) 28 [c 33,c 34,c 35,c 36,c 37]) 26 (((B+1:Nat):X))) aa aa (λn bw=>?_) ⟨λn bw=>?_,rfl,rfl,λn h1 ap=>?_,rfl,rfl⟩ rfl rfl,λh=>absurd trivial h⟩
  ·rw[dP J,tp J,dP J,dP J,dP J]
  ·rw[dP J,tp aa,dP J,dP J,dP J]
  ·rw[if_neg J];rcases(by omega:n=28\/n=29\/n=30\/n=31\/n=32)with rfl|rfl|rfl|rfl|rfl <;> rfl
end
theorem ajG{n:Nat}{dJ:Nat->ay Int}:(bp n dJ).filter (λp=>q p.1)=bp n λk=>if q k=true then dJ k else none:=by
 induction n with
 |zero=>rfl
 |succ n B =>
  rw[ts,ts,s4,B]
  grind
def tJ(k:Int)(aT:Nat->Int)(t:Nat)(r:Int)(S:jS)(fQ:Nat->ay Int):jS where
 A v:=(oa k aT t S v (tt r (if tE k S v=true then fQ v else none))).1
 B v:=(oa k aT t S v (tt r (if tE k S v=true then fQ v else none))).2.1
 q v:=(oa k aT t S v (tt r (if tE k S v=true then fQ v else none))).2.2
theorem Al.F{h ab:ae}{al U Y:Nat}{w:X}{o:ao}{n:Nat}{q:Nat->ao}(H:Al h al U w o n q)(D:∀d,al<=d->d<U->u ab d=u h d)(B:U<=Y):Al ab al Y w o n q:=by
 rcases H with H|⟨e,H⟩
 ·exact .inl H
 ·exact .inr ⟨e,eY.F H D J B⟩
section
variable {s:ao} {g cG h ab:ae} {U Y aL i j:Nat} {c bT:Nat->X} {l:ac eC} {aY so:ay Nat} {Z:cn}
theorem apE{al:Nat}{p:Nat × Int}{B D n:Nat}(bw:n<=60)(h0:Al h al U w o n q)(h1:u h B=some (.cells [w] false))(M:u h D=some (.cells [.bool o] false))(dA:B<U)(b2:D<U)(L:p.1<n):
  aD Q s 333 [.agg ⟨eP p⟩,bb B,bb D] h U (c9 (.bool (!q p.1)) U h):=by
 refine aiv ?_;have E:∀{o},aA U h (T h U o):=aF
 have bP:∀{o},u (T h U o) B=some (.cells [w] false):=aa
 have K:∀{aU},u (T h U aU) D=some (.cells [.bool o] false):=aa
 have I:=M;unfold W1;rw[show eP p=[(p.1:X),.int .i64 (p.2 / 18446744073709551616),.int .u64 (p.2 % 18446744073709551616)]from rfl];refine bf @bP ?_;rcases h0 with⟨rfl,rfl,di⟩|⟨rfl,P⟩
 ·refine(Qg ).f5 ⟨J,?_⟩;simp(disch:=omega)only[bk,K,I,iE,seval];exact⟨aa,E,J⟩
 ·refine(Kj   J L (dg.F P.rd  E J)).f5 ⟨J,?_⟩;simp(disch:=omega)only[bk,K,I,iE,seval];exact⟨by cases q p.1 <;> rfl,E,J⟩
theorem rW.Sx(G:rW g h U aL)(I:∀b,so=some b->u g b=none)(E:∀d,d<U->d≠aL->so≠some d->u ab d=u h d):lb g ab:=λd o B=>by
 have D:d<U:=ED λD=>by rw[G.n d D]at B;grind
 rw[E d D (λe=>by rw[e,G.p]at B;grind) aa];exact G.s d o B
theorem aiy{t:Nat}{S:jS}(K:f8 Z)(W:e0 h U aL c i 0 Z.C l aY)(G:rW g h U aL)(H:kl g U c Z i 0)(br:l.length<900)(aj:i<Z.R)(D:1<=t)(cK:t<900)(au:jr g U (.agg ⟨[c 28,c 29,c 30,c 31,c 32]⟩) (Z.bN i) (Z.H i) S)(bx:nc h (c 40) (bp (Z.H i) λk=>fQ (Z.bN i+k)) so)(o0:∀b,so=some b->b<U/\b≠aL/\aY≠some b/\u g b=none)(qX:∀v y,fQ v=some y->0<=y/\y<=eS):
  aD Q s 230 [bb aL,(t:X)] h U (λmJ ab Y=>mJ = .tuple ⟨[]⟩/\∃bT cr,(∀n,n≠22->n≠38->n≠40->(n<33\/38<=n)->bT n=c n)/\bT 38 = .bool true/\bT 40 = .slice none 0 0 /\
   lO ab U cr (.agg ⟨[bT 33,bT 34,bT 35,bT 36,bT 37]⟩) (Z.bN i:Int) ((Z.bN i+Z.H i:Nat):Int) (Z.H i) (cx (Z.H i) λk=>(tJ Z.k (iM Z.bu Z.N ((t-1) / 2)) t (hu Z.k t) S fQ).A (Z.bN i+k)) (cx (Z.H i) λk=>(tJ Z.k (iM Z.bu Z.N ((t-1) / 2)) t (hu Z.k t) S fQ).B (Z.bN i+k)) (λk=>(tJ Z.k (iM Z.bu Z.N ((t-1) / 2)) t (hu Z.k t) S fQ).q (Z.bN i+k)) /\
   e0 ab Y aL bT i 0 Z.C (l++[CF ((i*Z.C+0:Nat):Int) t (ro Z.k Z.len t (Z.H i) (cx (Z.H i) λk=>(tJ Z.k (iM Z.bu Z.N ((t-1) / 2)) t (hu Z.k t) S fQ).A (Z.bN i+k)) (λk=>(tJ Z.k (iM Z.bu Z.N ((t-1) / 2)) t (hu Z.k t) S fQ).q (Z.bN i+k)):Int) false]) (some cr)/\U<=cr /\
   (∀d,d<U->d≠aL->aY≠some d->so≠some d->u ab d=u h d)/\U<=Y):=by
 refine ajA ?_;generalize Uv:tJ Z.k (iM Z.bu Z.N ((t-1) / 2)) t (hu Z.k t) S fQ=kN;have cS:=W.lt;have qJ:=au;obtain⟨dp,fW,fw,hz,fE,gh,gt⟩:=au;obtain⟨fI,en,rfl,_⟩:=id fE;obtain⟨gr,fT,rfl,_⟩:=id gh;obtain⟨mH,ia,rfl,_⟩:=id gt;simp only[Value.agg.injEq,xN,vR,iv]at hz;obtain⟨sT,p1,rU,M,gp⟩:=hz;rw[sT,p1,rU,M,gp]at qJ;obtain⟨a9,gs,qZ,_⟩:=id H.d;have g9:=H.k9 K;rw[qZ]at g9;have A0:=yv K i;have t8:Z.bN i+Z.H i<=Z.N:=by unfold cn.H;omega
 have hPd:pt h U (.slice a9 Z.bu.length gs) Z.k Z.src Z.len Z.N Z.bu:={ g9 with d:=u6 g9.d G.s }
 have hsh:=hy.sub qJ G.s;obtain⟨am,Ip,nd,em⟩:∃a n bT,c 40 = .slice a n bT:=by rcases bx with⟨_,e,_⟩|⟨_,_,e,_⟩ <;> grind
 unfold Yd;simp(disch:=omega)only[bk,hT,W.at_,H.aP,H.cy,H.eE,H.ir,qZ,sT,p1,rU,M,gp,seval];refine(alJ hPd hsh t8).mono ?_;rintro _ B I ⟨w,o,rfl,h0,dM,fx⟩;refine⟨fx,?_⟩;obtain⟨fV,gC,nL,rfl⟩:∃a n bT,w = .slice a n bT:=by
  rcases h0 with⟨_,e,_⟩|⟨_,bV⟩
  ·grind
  ·obtain⟨a,bT,e,_⟩:=bV
   grind
 have dj:u B aL=some (.cells (dE c) false):=(dM aL cS).trans W.at_;refine u5 @dj @em ?_;rw[em]at bx;have ey:∀{eV dQ gu l2},aA U h (T (T (T (T B I eV) (I+1) dQ) I gu) (I+1) l2):=aF
 have Uw:∀{eV dQ gu l2},nc (T (T (T (T B I eV) (I+1) dQ) I gu) (I+1) l2) (.slice am Ip nd) (bp (Z.H i) λk=>fQ (Z.bN i+k)) so:=bx.F λb e=>ey b aa;have gT:=md (Z.H i) λk=>fQ (Z.bN i+k);have fp:=ahi K i;refine(apv (q:=λp=>!tE Z.k S (Z.bN i+p.1)) J Uw aa λp bn ab Y hk dx=>?_).mono ?_
 ·have cz:∀d,d<I+2->U<=d->u ab d=u _ d:=λd D B=>hk d D λe=>aa
  have tU:p.1<Z.H i:=((j6  ).1 bn).1;have bP:=cz I J J;rw[ar J,aR]at bP;have g2:=cz (I+1) J J;rw[aR]at g2;exact apE  J (Al.F h0 aa J) bP g2 J J tU
 rintro eu L b1 ⟨dV,f1,gg⟩;have p5:((bp (Z.H i) λk=>fQ (Z.bN i+k)).filter λp=>!!tE Z.k S (Z.bN i+p.1))=bp (Z.H i) λk=>if tE Z.k S (Z.bN i+k)=true then fQ (Z.bN i+k)else none:=by simp only[Bool.not_not];exact ajG (q:=λk=>tE Z.k S (Z.bN i+k))
 rw[p5]at dV;have j2:u L aL=some (.cells (dE c) false):=aa
 simp(disch:=omega)only[bk,hT,j2,H.aP,sT,p1,rU,M,gp,seval];obtain⟨gd,P⟩:∃gd,nz (hl c 40 (.slice none 0 0)) 33 [.int .i64 (Z.bN i:Int),((Z.bN i+Z.H i:Nat):X),.slice fI (cx (Z.H i) λj=>S.A (Z.bN i+j)).length en,.slice gr (cx (Z.H i) λj=>S.B (Z.bN i+j)).length fT,.slice mH (eT (Z.H i) λj=>S.q (Z.bN i+j)).length ia]=gd:=⟨_,rfl⟩
 have mF:∀n,n<33->gd n=c n:=λn bw=>by rw[<-P,tp J,dP J]
 rw[P,mF 2 J,H.aP];refine(O9  K.hn J).f5 ⟨cR _,?_⟩;simp(disch:=omega)only[bk,hT,mF 11 J,H.c11,seval];have hY':∀k y,(if tE Z.k S (Z.bN i+k)=true then fQ (Z.bN i+k)else none)=some y->0<=y/\y<=eS:=λk y e=>aa
 refine(ape (Qj K.hn) J (((dV.F   (λb e=>aa) λ_ e=>e).c λb e=>aa).o) hY').mono ?_;rintro _ b0 eN ⟨w,rfl,lG,e7,ny⟩;refine⟨ny,?_⟩;have hV0:=lG;obtain⟨Vm,rfl,hvi⟩:=lG;obtain⟨cp,jw,rfl,_⟩:=id hvi;have aDi:∀{o},u (T b0 eN o) aL=some (.cells (dE gd) false):=λ{o}=>by rw[ar J,e7 aL J,aR]
 have pf:bin Q .neq 30 (.int .i64 0) (.int .i64 0) = .ok (.bool false):=rfl;have i5:bin Q .eql 30 (.int .i64 0) (.int .i64 0) = .ok (.bool true):=rfl;simp(disch:=omega)only[bk,hT,aDi,mF,H.aP,H.cy,H.eE,H.ir,qZ,sT,p1,rU,M,gp,pf,i5,seval];have r4:∀{o aU} d,d<U->d≠aL->so≠some d->u (T (T b0 eN o) eN aU) d=u h d:=λ{o aU} d D B L=>by rw[ar J,ar J,e7 d J,ar B,ar B,f1 d J L];exact ey d D
 have aBY:∀{o aU},lb g (T (T b0 eN o) eN aU):=λ{o aU}=>G.Sx (λb e=>(o0 b e).2.2.2) r4;refine(ajt    (pt.F  { g9 with d:=u6 g9.d aBY } (aA.refl _ _) J) (hy.F  (hy.sub qJ aBY) (aA.refl _ _) J) ((hV0.F   (λb D B=>aa) J J).is) t8 D J).mono ?_;rintro Vr d8 n7 ⟨Em,DS,qD⟩
 replace Em:lO d8 (eN+1) n7 Vr (Z.bN i:Int) ((Z.bN i+Z.H i:Nat):Int) (Z.H i) (cx (Z.H i) λk=>kN.A (Z.bN i+k)) (cx (Z.H i) λk=>kN.B (Z.bN i+k)) (λk=>kN.q (Z.bN i+k)):=by subst Uv;exact Em
 have hU0:=Em;obtain⟨aD5,aD6,aD7,rfl,aDj,aDk,aDl⟩:=Em;obtain⟨U7,aW,rfl,_⟩:=id aDj;obtain⟨Bt,aP,rfl,_⟩:=id aDk;obtain⟨vF,cy,rfl,_⟩:=id aDl;have aDm:u d8 aL=some (.cells (dE gd) false):=(DS aL J).trans aa;have aDn:∀d,d<U->d≠aL->so≠some d->u d8 d=u h d:=λd D B L=>(DS d J).trans (r4 d D B L);refine GA @aDm ?_;obtain⟨i3,E⟩:∃i3,nz gd 33 [.int .i64 (Z.bN i:Int),((Z.bN i+Z.H i:Nat):X),.slice U7 (cx (Z.H i) λk=>kN.A (Z.bN i+k)).length aW,.slice Bt (cx (Z.H i) λk=>kN.B (Z.bN i+k)).length aP,.slice vF (eT (Z.H i) λk=>kN.q (Z.bN i+k)).length cy]=i3:=⟨_,rfl⟩
 rw[E];have vL:∀n,(n<33\/38<=n)->n≠40->i3 n=c n:=λn bw aq=>by rw[<-E,tp bw,<-P,tp bw,dP aq]
 have MT:∀{o} d,d<U->d≠aL->so≠some d->u (T d8 aL o) d=u h d:=λ{o} d D B L=>(ar B).trans (aDn d D B L);have aDo:∀{o},lb g (T d8 aL o):=λ{o}=>G.Sx (λb e=>(o0 b e).2.2.2) MT;refine⟨J,(W4 (S:=kN) (low:=Z.bN i) (m:=Z.H i) (W.set (Y:=n7) (aR _ _ _) (vL 0 J J) (vL 1 J J) (vL 8 J J) (vL 22 J J) (λb e=>by have:=W.aY b e;grind) J) br (pt.F (Y:=n7) (eu:=i3 6) { g9 with d:=?_ } (aA.refl _ _) J) ((vL 2 J J).trans H.aP) ((vL 3 J J).trans H.cy) ((vL 4 J J).trans H.eE) ((vL 5 J J).trans H.ir) ?_ t8).mono ?_⟩
 ·rw[vL 6 J J,qZ];exact dg.F (u6 g9.d aDo) (aA.refl _ _) J
 ·rw[<-E];exact(hU0.wid (ea:=0) (dB:=n7) (λd D B=>ar J) J (cR _)).rd
 rintro _ h8 n8 ⟨rfl,d7,cr,Vw,h4,yZ,ahj⟩;refine⟨_,cr,λn D B L bh=>?_,?_,?_,?_,Vw,J,λd D B L bh=>(yZ d J B L).trans (MT d D B bh),J⟩
 ·rw[dP D,dP B];grind
 ·rfl
 ·rw[dP J,dP J,<-E,tp (by simp),<-P,tp (by simp)];rfl
 ·rw[dP J,dP J,dP J,dP J,dP J,dP J,dP J,dP J,dP J,dP J,<-E];exact hU0.wid (λd D B=>by rw[yZ d B J (λe=>by have:=W.aY d e;omega),ar J]) J h4
end
theorem J3{n:Nat}(v:Nat):jT r (bp n fQ) v=if v<n then fQ v else none:=by
 have h:=λx=>QG (r:=r)  (yk n fQ) v x;cases B:jT r (bp n fQ) v with
 |none =>
  split
  ·cases D:fQ v with
   |none=>rfl
   |some y =>
    have:=(h y).2 (j6.2 aa)
    grind
  ·rfl
 |some x =>
  have:=j6.1 ((h x).1 B)
  grind
theorem atr{n:Nat}{D:ac (Nat × Int)}(M:yT r D [] λv=>jT r (bp n fQ++bp n y) v):D=bp n λv=>e6 r (fQ v) (y v):=by rw[M.done (n:=n) λv B=>by rw[yb,J3,J3,if_neg J,if_neg J];rfl];refine ya λv B=>?_;rw[yb,J3,J3,if_pos B,if_pos B]
theorem iR.MU{l:ac aB}{h:ae}{al:Nat}(B:0<k)(D:∀x,(enc x).length=k)(H:iR h al aj v enc k l):mx h aj v enc k l:=by
 rcases H with⟨rfl,rfl|⟨b,rfl⟩⟩|⟨b,K,I,rfl,E⟩
 ·exact⟨_,_,rfl,λh=>absurd rfl h⟩
 ·exact⟨_,_,rfl,λh=>absurd rfl h⟩
 ·exact dX.c B D (.inr ⟨b,K,I,rfl,E⟩)
theorem dX.aDp{h:ae}{al:Nat}{L:ac (Nat × Int)}(H:dX h v eP 3 L al aj):∃so,nc h v L so/\∀b,so=some b->al<=b/\b<aj:=by
 rcases H with⟨rfl,rfl⟩|⟨b,D,E,rfl,B⟩
 ·exact⟨none,.inl aa,aa⟩
 ·exact⟨some b,.inr ⟨b,rfl,rfl,B⟩,aa⟩
theorem nE:wb Q 3=true:=by kernel_rfl
theorem az2:bin Q .neq 86 (.int .i64 0) (.int .i64 0) = .ok (.bool false):=by kernel_rfl
def GaK(Z:cn)(c:Nat->X)(aL i t b4 iu:Nat)(S:jS)(fQ y:Nat->ay Int)(d1:Nat->ao)(l:ac eC)(aY:ay Nat)(h:ae)(U:Nat):bZ:=λmJ ab Y=>mJ = .bool true/\∃bT gU rX dD,iP ab b4 Z.C (λk=>if k=iu then true else d1 k) (λ_ v=>v = .bool true)/\U<=Y/\(∀d,d<U->d≠aL->d≠b4->aY≠some d->u ab d=u h d) /\
   e0 ab Y aL bT i 0 Z.C (l++dD) gU/\(∀b,rX=some b->U<=b/\b<Y/\gU≠some b) /\
   ((∃k,k<Z.C/\(if k=iu then true else d1 k)=false)/\(∀n,n≠40->bT n=c n)/\dD=[]/\gU=aY/\nc ab (bT 40) (bp (Z.H i) λk=>e6 (hu Z.k t) (fQ (Z.bN i+k)) (y (Z.bN i+k))) rX \/
   (∀k,k<Z.C->(if k=iu then true else d1 k)=true)/\(∀n,n≠22->n≠38->n≠40->(n<33\/38<=n)->bT n=c n)/\bT 38 = .bool true/\bT 40 = .slice none 0 0/\rX=none/\∃cr kN,gU=some cr/\kN=tJ Z.k (iM Z.bu Z.N ((t-1) / 2)) t (hu Z.k t) S (λv=>e6 (hu Z.k t) (fQ v) (y v))/\U<=cr /\
    lO ab U cr (.agg ⟨[bT 33,bT 34,bT 35,bT 36,bT 37]⟩) (Z.bN i:Int) ((Z.bN i+Z.H i:Nat):Int) (Z.H i) (cx (Z.H i) λk=>kN.A (Z.bN i+k)) (cx (Z.H i) λk=>kN.B (Z.bN i+k)) (λk=>kN.q (Z.bN i+k)) /\
    dD=[CF ((i*Z.C+0:Nat):Int) t (ro Z.k Z.len t (Z.H i) (cx (Z.H i) λk=>kN.A (Z.bN i+k)) (λk=>kN.q (Z.bN i+k)):Int) false])
section
variable {s:ao} {g cG h ab:ae} {U Y aL i j al:Nat} {c bT:Nat->X} {l:ac eC} {aY so:ay Nat} {Z:cn}
theorem aiz{f:eC}{p:kM}{t b4:Nat}{S:jS}(K:f8 Z)(W:e0 h U aL c i 0 Z.C l aY)(G:rW g h U aL)(H:kl g U c Z i 0)(br:l.length<900)(aj:i<Z.R)(E:1<=t)(cK:t<900)(bD:lz h al U f p)(pg:p.round=(t:Int))(gN:p.nK=bp (Z.H i) λk=>y (Z.bN i+k))(qX:∀v x,fQ v=some x->0<=x/\x<=eS)(cd:∀v x,y v=some x->0<=x/\x<=eS)(dc:∀v x,e6 (hu Z.k t) (fQ v) (y v)=some x->0<=x/\x<=eS)(au:jr g U (.agg ⟨[c 28,c 29,c 30,c 31,c 32]⟩) (Z.bN i) (Z.H i) S)(bx:nc h (c 40) (bp (Z.H i) λk=>fQ (Z.bN i+k)) so)(o0:∀b,so=some b->b<U/\b≠aL/\aY≠some b)(D2:c 26 = ((t-1:Nat):X))(e27:c 27 = .int .i64 0)(Mm:c 38 = .bool false)(my:c 41 = .map (some b4))(i4:iP h b4 Z.C d1 λ_ v=>v = .bool true)(L:b4<U/\b4≠aL/\aY≠some b4/\u g b4=none)(cb:iu<Z.C)(hm:d1 iu=false):
  aD Q s 135 [bb aL,.agg ⟨eh f⟩,.agg ⟨[(i:X),(iu:X)]⟩] h U (GaK Z c aL i t b4 iu S fQ y d1 l aY h U):=by
 refine ajx ?_;have cS:=W.lt;obtain⟨B,rfl⟩:∃B,t=B+1:=⟨t-1,J⟩
 have bH:∀{o aU},aA U h (T (T h U o) (U+1) aU):=aF
 have qR:∀{o aU},u (T (T h U o) (U+1) aU) aL=some (.cells (dE c) false):=λ{o aU}=>(bH aL cS).trans W.at_;have Vv:IntKind.wrap .i64 ((B:Int)+1)=((B+1:Nat):Int):=cF J;have Sw:c 26 = (B:X):=D2;have pf:(((0:Nat):Int) == 0)=true:=rfl;have i6:∀{y:Int},((y == y):ao)=true:=aa
 have fp:=ahi K i;have Ux:f.round=((B+1:Nat):Int):=bD.is.round.trans pg;have Uk:∀{o aU},iP (T (T h U o) (U+1) aU) b4 Z.C d1 λ_ v=>v = .bool true:=λ{o aU}=>i4.F aa aa;have Bh:∀{o aU},j9 Q (T (T h U o) (U+1) aU) 3 (.bool false) false (.map (some b4)) (iu:X) = .ok (.bool false):=λ{o aU}=>by obtain⟨v,e,_⟩:=(Uk  ).get nE cb;rw[hm]at e;exact e
 unfold Ya eh;simp(disch:=omega)only[bk,hT,qR,W.lZ,W.c1,pf,i6,e27,az2,Mm,Ux,Sw,Vv,my,Bh,seval];have d8:=bD.i3;rw[gN]at d8;have gT:=md (Z.H i) λk=>y (Z.bN i+k);have aAU:=md (Z.H i) λk=>fQ (Z.bN i+k);refine(ajE  qR J H.c11 ((mx.o (iR.MU (k:=3) J (λ_=>rfl) d8)).F  bH J) J (yk _ _) λq di=>((j6  ).1 di).1).cz λI bU dM fx=>⟨fx,?_⟩
 have dj:=(dM aL J).trans qR;have hd:=(dM U J).trans ((ar J).trans (aR _ _ _));have dq:=(dM (U+1) J).trans (aR _ _ _);unfold xW;refine Am @dj @hd @dq H.aP ?_;refine(O9  K.hn J).f5 ⟨J,?_⟩;obtain⟨am,Ip,nd,em⟩:∃a n bT,c 40 = .slice a n bT:=by rcases bx with⟨_,e,_⟩|⟨_,_,e,_⟩ <;> grind
 refine Am @dj @hd @dq @em ?_;rw[em]at bx;have Uy:∀{o},aA U h (T I bU o):=aF
 have hLs:AG (T I bU (.cells [.slice am Ip nd,.slice f.a6 f.n7 f.i3] false)) (bU+1) (.slice (some ⟨bU,0,none⟩) 2 2) [(.slice am Ip nd,bp (Z.H i) λk=>fQ (Z.bN i+k)),(.slice f.a6 f.n7 f.i3,bp (Z.H i) λk=>y (Z.bN i+k))]:=by
  refine⟨dg.o  aa ⟨_,_,rfl,λ_=>⟨bU,none,false,J,rfl,aR _ _ _⟩⟩,λq di=>?_⟩;rcases hD.1 di with rfl|di
  ·exact⟨mx.F (bx.b.c aa) Uy J,yk _ _,aa,λa dy=>qX _ _ ((j6  ).1 dy).2⟩
  ·rw[jl.1 di];exact⟨mx.F (iR.MU  J (λ_=>rfl) d8) Uy J,yk _ _,aa,λa dy=>cd _ _ ((j6  ).1 dy).2⟩
 have aDq:rp [(Value.slice am Ip nd,bp (Z.H i) λk=>fQ (Z.bN i+k)),(Value.slice f.a6 f.n7 f.i3,bp (Z.H i) λk=>y (Z.bN i+k))]=(bp (Z.H i) λk=>fQ (Z.bN i+k))++bp (Z.H i) λk=>y (Z.bN i+k):=by
  show _++(_++[])=_
  grind
 refine(X7 (Qj K.hn) (by simp) hLs aa).mono ?_;rintro _ D b1 ⟨w,fG,rfl,bV,y7,M,gg⟩;refine⟨J,?_⟩;rw[aDq]at y7;rw[atr y7]at bV;obtain⟨rX,kn,Sy⟩:=dX.aDp bV;obtain⟨fV,gC,nL,rfl⟩:∃a n bT,w = .slice a n bT:=by rcases kn with⟨_,e,_⟩|⟨_,_,e,_⟩ <;> grind
 have fr:aA U h D:=Uy.trans M J;have j2:=(M aL J).trans ((ar J).trans dj);have fC:=(M U J).trans ((ar J).trans hd);have d6:=(M (U+1) J).trans ((ar J).trans dq);have r0':∀{o},u (T D aL o) U=_:=λ{o}=>(ar J).trans fC;have r1':∀{o},u (T D aL o) (U+1)=_:=λ{o}=>(ar J).trans d6;obtain⟨o,gL,fd⟩:=(i4.F (ab:=T D aL (.cells (dE (hl c 40 (.slice fV gC nL))) false)) ((ar L.2.1).trans (fr b4 L.1)) λ_ _ h=>h).put  nE cb hm rfl;have P:=fd (T (T D aL (.cells (dE (hl c 40 (.slice fV gC nL))) false)) b4 o) (aR _ _ _);obtain⟨m,aW,aP,cy⟩:=P.len;have lY:u (T (T D aL (.cells (dE (hl c 40 (.slice fV gC nL))) false)) b4 o) aL=some (.cells (dE (hl c 40 (.slice fV gC nL))) false):=(ar (λe=>L.2.1 e.symm)).trans (aR _ _ _);have oF:u (T (T D aL (.cells (dE (hl c 40 (.slice fV gC nL))) false)) b4 o) U=_:=(ar J).trans r0';rw[show h3 iu = (iu:X)from rfl]at gL;simp(disch:=omega)only[bk,hT,j2,r1',my,gL,lY,aW,W.he,oF,seval];generalize Mn:T (T D aL _) b4 o=iq at P lY oF ⊢;have r4:∀d,d<U->d≠aL->d≠b4->u iq d=u h d:=λd E I D=>by rw[<-Mn,ar D,ar I];exact fr d E
 have aBZ:e0 iq b1 aL (hl c 40 (.slice fV gC nL)) i 0 Z.C l aY:=W.set lY (dP J) (dP J) (dP J) (dP J) (λb e=>by have:=W.aY b e;grind) J;have hO5:nc iq (.slice fV gC nL) (bp (Z.H i) λk=>e6 (hu Z.k (B+1)) (fQ (Z.bN i+k)) (y (Z.bN i+k))) rX:=kn.F λb e=>aa
 refine⟨λe=>?_,λe=>?_⟩
 ·have lM:∀k,k<Z.C->(if k=iu then true else d1 k)=true:=λk hk=>aa
  refine(aiy  (fQ:=λv=>e6 (hu Z.k (B+1)) (fQ v) (y v))  K aBZ ⟨λd o bs=>?_,G.p,λd bs=>G.n d J⟩ ((H.set λn E I=>dP J).F  (aA.refl _ _) J) br aj E cK (hy.F au (aA.refl _ _) J) hO5 (λb e=>?_) dc).mono ?_
  ·have E:d<U:=ED λE=>by rw[G.n d E]at bs;grind
   rw[r4 d E (λe=>by rw[e,G.p]at bs;grind) λe=>by grind];exact G.s d o bs
  ·have:=Sy b e;exact⟨this.2,J,λew=>by have:=W.aY b ew;omega,G.n b J⟩
  rintro _ cj n6 ⟨rfl,bT,cr,S0,h38,y8,dV,jM,h4,lP,dx⟩;refine⟨rfl,bT,some cr,none,_,P.F (lP b4 J L.2.1 L.2.2.1 λe=>aa) λ_ _ h=>h,J,λd E I D bh=>(lP d J I bh λe=>aa).trans (r4 d E I D),jM,(nofun),.inr ⟨lM,λn E I D bh=>(S0 n E I D bh).trans (dP D),h38,y8,rfl,cr,_,rfl,rfl,J,dV.wid (λ_ _ _=>rfl) J (cR _),rfl⟩⟩
 ·have fk:=sa.1 e;refine⟨rfl,_,aY,rX,[],P,J,λd E I D _=>r4 d E I D,by rw[hC];exact aBZ,λb e=>?_,.inl ⟨cy.1 J,λn bw=>dP bw,rfl,rfl,hO5⟩⟩;have:=Sy b e;exact⟨J,this.2,λew=>by have:=W.aY b ew;omega⟩
end
theorem ax5:rk Q 171=true:=by kernel_rfl
def Ql(Z:cn)(j t:Nat)(x:Nat->ay Int)(i:Nat):kM:=⟨2,(j:Int),((i*Z.C+j:Nat):Int),(t:Int),(Z.W j:Int),bp (Z.W j) (λk=>x (Z.lc j+k)),[],0,false⟩
def sU(h:ae)(al aj:Nat)(Z:cn)(j:Nat)(x:Nat->ay Int)(i:Nat)(v:X):Prop:=ln h al aj v (Z.cl (i+1) j-Z.cl i j) (λk=>x (Z.cl i j+k))
def ShK(Z:cn)(g:ae)(c:Nat->X)(aL j t bC dR:Nat)(x:Nat->ay Int)(e2:Nat->ao)(l:ac eC)(aY:ay Nat)(h:ae)(U:Nat):bZ:=λmJ ab Y=>mJ = .bool true/\∃bT gU dD B,U<=B/\B<=Y/\(∀d,d<U->d≠aL->d≠bC->aY≠some d->u ab d=u h d) /\
 e0 ab Y aL bT 0 j Z.C (l++dD) gU /\
 ((∃k,k<Z.R/\(if k=dR then true else e2 k)=false)/\(∀n,bT n=c n)/\dD=[]/\gU=aY/\iP ab bC Z.R (λk=>if k=dR then true else e2 k) (λi v=>sU g 0 U Z j x i v\/sU ab U Y Z j x i v) \/
 (∀k,k<Z.R->(if k=dR then true else e2 k)=true)/\(∀n,n≠22->n≠23->bT n=c n)/\bT 23 = ((t+1:Nat):X)/\kR ab U B dD ((List.range Z.R).map (Ql Z j t x))/\(∃cL,u ab bC=some (.map [] cL))/\∃cr,gU=some cr/\B<=cr)
def yw(p:Nat × X):ac X:=[(p.1:X),p0 p.2]
theorem avP(p:Nat × X):ef (yw p)=true:=by obtain⟨a,v⟩:=p;cases v <;> rfl
theorem acF:∀{L:ac (Nat × X)},(∀p∈L,p0 p.2=p.2)->a7 yw L=a7 yr L
 | [],_=>rfl
 |p::L,h=>by
  show yw p++a7 yw L=yr p++a7 yr L;rw[acF aa];unfold yw yr
  grind
theorem dX.eD{h:ae}{L:ac (Nat × X)}{al:Nat}(H:dX h v yw 2 L al aj)(B:∀p∈L,p0 p.2=p.2):dX h v yr 2 L al aj:=by
 unfold dX at *
 rw[<-acF B];exact H
def az3(Z:cn)(aL j b1:Nat)(x:Nat->ay Int)(jj:ae)(m:Nat)(aJ:ac X)(ab:ae)(Y:Nat):Prop :=
 ∃k acc L,m=Z.R-k/\k<=Z.R/\aJ=[bb aL,acc,(Z.R:X),(k:X)]/\dX ab acc yw 2 L b1 Y/\L.length=k /\
  (∀i p,L[i]? = some p->p0 p.2=p.2/\p.1=Z.cl (i+1) j-Z.cl i j/\ep jj b1 p.2 fN 2 (bp p.1 λk=>x (Z.cl i j+k)))/\aA b1 jj ab/\b1<=Y
def az4(Z:cn)(aL j bg U t:Nat)(x:Nat->ay Int)(c:Nat->X)(l:ac eC)(aY:ay Nat)(h kp:ae)(m:Nat)(aJ:ac X)(ab:ae)(Y:Nat):Prop :=
 ∃k bT gU dD B,m=Z.R-k/\k<=Z.R/\aJ=[bb aL,bb bg,(Z.R:X),(k:X)]/\(∀n,n≠22->bT n=c n)/\e0 ab Y aL bT 0 j Z.C (l++dD) gU /\
  kR ab U B dD ((List.range k).map (Ql Z j t x))/\bg+1<=B/\B<=Y/\(∀b,gU=some b->aY=some b\/B<=b)/\(0<k->∃b,gU=some b/\B<=b)/\(∀d,U<=d->d<=bg->u ab d=u kp d)/\(∀d,d<U->d≠aL->aY≠some d->u ab d=u h d)
section
variable {s:ao} {g cG h ab:ae} {U Y aL i j al:Nat} {c bT:Nat->X} {l:ac eC} {aY so:ay Nat} {Z:cn}
theorem CW(K:f8 Z)(i j:Nat):Z.cl i j<=Z.cl (i+1) j/\Z.cl i j<=60:=by have D:=yv K i;have E:=CV K j;have B:=K.n60;unfold cn.cl jG;omega
theorem ajH{f:eC}{p:kM}{t bC dR:Nat}{x:Nat->ay Int}{e2:Nat->ao}(K:f8 Z)(W:e0 h U aL c 0 j Z.C l aY)(G:rW g h U aL)(H:kl h U c Z 0 j)(br:l.length+Z.R<900)(cK:t<900)
  (bD:mY h U f p) (pg:p.round=(t:Int)) (ej:p.l7=((Z.cl (dR+1) j-Z.cl dR j:Nat):Int)) (hA:p.l4=bp (Z.cl (dR+1) j-Z.cl dR j) λk=>x (Z.cl dR j+k))
  (e23:c 23 = (t:X)) (o4:c 24 = .map (some bC)) (i4:iP h bC Z.R e2 (sU g 0 U Z j x)) (M:bC<U/\bC≠aL/\aY≠some bC/\u g bC=none) (cb:dR<Z.R) (hm:e2 dR=false):
  aD Q s 133 [bb aL,.agg ⟨eh f⟩,.agg ⟨[(dR:X),.int .i64 0]⟩] h U (ShK Z g c aL j t bC dR x e2 l aY h U):=by
 refine alM ?_;have cS:=W.lt;have bH:∀{o aU},aA U h (T (T h U o) (U+1) aU):=aF
 have qR:∀{o aU},u (T (T h U o) (U+1) aU) aL=some (.cells (dE c) false):=λ{o aU}=>(bH aL cS).trans W.at_;have lf:=CW K dR j;have aBs:=CW K (dR+1) j;have nB:∀b,aY=some b->b<U:=λb e=>(W.aY b e).2;have aDr:∀{o aU},e0 (T (T h U o) (U+1) aU) (U+2) aL c 0 j Z.C l aY:=λ{o aU}=>W.F aa J;have i6:∀{y:Int},((y == y):ao)=true:=aa
 have pf:(((0:Nat):Int) == 0)=true:=rfl;have Ux:f.round=(t:Int):=bD.round.trans pg;unfold aab eh;refine aE ?_;refine(alT aDr (H.F  bH J) K cb).f5 ⟨J,?_⟩;refine aE ?_;refine(W6  (bD.F  bH J) hA ej J).mono ?_;rintro _ D I ⟨v,rfl,lG,dv,fa⟩;refine⟨fa,?_⟩;have cI:=bH.trans dv J;have hd:=(dv U J).trans ((ar J).trans (aR _ _ _));have dq:=(dv (U+1) J).trans (aR _ _ _);have MR:=(dv aL J).trans qR;obtain⟨gK,rfl,xp⟩:=lG;obtain⟨cp,jw,rfl⟩:=xp.form;have hM1:∀{H},u H bC=u D bC->iP H bC Z.R e2 (sU g 0 U Z j x):=λ{H} e=>i4.F (e.trans (cI bC M.1)) λ_ _ h=>h;have Bh:∀{o aU},j9 Q (T (T D I o) I aU) 3 (.agg #[.int .i64 0,.slice none 0 0]) true (.map (some bC)) (dR:X) = .ok (.tuple #[.agg #[.int .i64 0,.slice none 0 0],.bool false]):=λ{o aU}=>by obtain⟨v,e,_⟩:=(hM1 (H:=T (T D I o) I aU) aa).get nE cb  (ok:=true);rw[hm]at e;exact e
 simp(disch:=omega)only[bk,hT,MR,hd,dq,o4,Bh,W.lZ,i6,pf,Ux,e23,seval];unfold BZ;generalize nb:T (T (T (T D I _) I _) (I+1) _) (I+1) _=ig;have dQ:∀d,d<I->u ig d=u D d:=λd bs=>aa
 have zn:=(dQ aL J).trans MR;have bP:=(dQ (U+1) J).trans dq;have Vu:u ig I=some (.cells [((Z.cl (dR+1) j-Z.cl dR j:Nat):X),.slice cp (bp (Z.cl (dR+1) j-Z.cl dR j) λk=>x (Z.cl dR j+k)).length jw] false):=aa
 clear nb;have g9:sU D U I Z j x dR (.agg ⟨[((Z.cl (dR+1) j-Z.cl dR j:Nat):X),.slice cp (bp (Z.cl (dR+1) j-Z.cl dR j) λk=>x (Z.cl dR j+k)).length jw]⟩):=⟨_,rfl,xp.gC.F (λ_ _ _=>rfl) J (cR _)⟩
 obtain⟨o,gL,fd⟩:=((hM1 (dQ bC J)).F (U9:=λi v=>sU g 0 U Z j x i v\/sU D U I Z j x i v) rfl λ_ _ h=>.inl h).put nE cb hm (.inr g9);have HR:=fd (T ig bC o) (aR _ _ _);obtain⟨m,aW,aP,cy⟩:=HR.len;rw[show h3 dR = (dR:X)from rfl]at gL;have Uz:u (T ig bC o) aL=some (.cells (dE c) false):=(ar (kt M.2.1)).trans zn;simp(disch:=omega)only[bk,hT,zn,bP,Vu,o4,gL,Uz,aW,H.gN,seval];have nm:∀d,d<U->d≠bC->u (T ig bC o) d=u h d:=λd D E=>by rw[ar E,dQ d J];exact cI d D
 have qY:e0 (T ig bC o) (I+2) aL c 0 j Z.C l aY:=W.F (λd bs=>nm d (bs.elim (λe=>e ▸ cS) (nB d)) (bs.elim (λe=>e ▸ kt M.2.1) λe ew=>M.2.2.1 aa)) J;refine⟨λDk=>⟨rfl,c,aY,[],I+2,J,cR _,λd D E aH _=>nm d D aH,by rw[hC];exact qY,.inl ⟨cy.1 Dk,λ_=>rfl,rfl,rfl,HR.F rfl λi v P=>P.imp id λP=>P.F (λb D E=>aa) (cR _) J⟩⟩,λeZ=>?_⟩;have lM:∀k,k<Z.R->(if k=dR then true else e2 k)=true:=λk hk=>aa
 have kZ:lb g (T ig bC o):=G.Sx (so:=some bC) (λb e=>aa) λd D E aH=>nm d D λe=>aH (by rw[e]);have UA:∀k v,sU g 0 U Z j x k v\/sU D U I Z j x k v->j8 (T ig bC o) (I+2) v (Z.cl (k+1) j-Z.cl k j) λq=>x (Z.cl k j+q):=λk v P=>by
  rcases P with P|P
  ·obtain⟨gK,e,P⟩:=ln.is P;exact⟨gK,e,(P.sub kZ).F (aA.refl _ _) J⟩
  ·exact j8.F (ln.is (P.F (ab:=T ig bC o) (ea:=0) (dB:=I) (λb D E=>aa) J (cR _))) (aA.refl _ _) J
 have Sz:I+1+1=I+2:=rfl;rw[Sz];generalize T ig bC o=jj at HR Uz nm qY UA kZ ⊢;generalize yV:I+2=b1 at qY UA ⊢;refine bF.mk (az3 Z aL j b1 x jj) Z.R ⟨0,_,[],J,J,rfl,.inl ⟨rfl,rfl⟩,rfl,(λ_ _ h=>by simp at h),aA.refl _ _,cR _⟩ ?_;rintro _ _ E bU ⟨k,acc,L,rfl,hk,rfl,dV,hLl,f3,dM,fx⟩;rw[aju];unfold WY;have dj:=(dM aL J).trans Uz;obtain⟨bz,Vq,oB,rfl⟩:=dV.form;refine aE ?_;refine⟨λGQ=>?_,λaBt=>?_⟩
 ·obtain⟨v,cz,P⟩:=(HR.F (ab:=E) (dM bC J) λ_ _ h=>h).get nE GQ (z:=.agg #[.int .i64 0,.slice none 0 0]) (ok:=false);obtain⟨vi',rfl,ahk⟩:=UA k v (P (lM k GQ));rw[lM k GQ,show h3 k = (k:X)from rfl]at cz;have ek':j9 Q E 3 (.agg #[.int .i64 0,.slice none 0 0]) false (.map (some bC)) (k:X) = .ok (.agg ⟨[((Z.cl (k+1) j-Z.cl k j:Nat):X),vi']⟩):=cz;obtain⟨hQ,ow,rfl,_⟩:=id ahk;refine Am @dj @o4 @ek' (cF (J:k<1000000000000)) ?_;refine me (enc:=yw) (k:=2) (al:=b1) (λ_=>rfl) avP J (dV.F (dB:=bU+1) (λd D E=>ar J) J) J (Z.cl (k+1) j-Z.cl k j,.slice hQ (bp (Z.cl (k+1) j-Z.cl k j) λq=>x (Z.cl k j+q)).length ow) (aR _ _ _) rfl J λd7 b0 pU e7=>?_;refine⟨_,J,k+1,_,_,rfl,J,rfl,pU,aa,λi p bn=>?_,λd bs=>by rw[e7 d bs,ar J];exact dM d bs,J⟩
  by_cases hik:i<L.length
  ·rw[uw hik]at bn;exact f3 i p bn
  ·rw[zr J]at bn;obtain⟨e,rfl⟩:i-L.length=0/\_=p:=by
    cases di:i-L.length with
    |zero=>rw[di]at bn;exact⟨rfl,Option.some.inj bn⟩
    |succ q=>grind
   obtain rfl:i=k:=J
   exact⟨rfl,rfl,ahk⟩
 have Be:k=Z.R:=J
 subst Be;have mp:∀k,k<=Z.R->Z.cl k j<=60:=λk _=>(CW K k j).2;have hPc:Ac E bU (.slice bz Vq oB) (λi=>Z.cl i j) Z.R x:=⟨⟨L,hLl,(dX.c (k:=2) J (λ_=>rfl) (dX.eD dV λp bn=>by obtain⟨i,aj⟩:=Et.1 bn;grind)).o,λi p bn=>⟨(f3 i p bn).2.1,(f3 i p bn).2.2.F dM fx⟩⟩,λi=>(CW K i j).1,hJ (CW K Z.R j).2 J⟩
 refine KH @dj H.cy H.gN W.he W.c1 ?_;refine(as6 (x:=x) (j:=j) (hJ K.n60 J) K.lH K.nQ K.hI K.mL W.vK hPc).mono ?_;rintro _ bh d9 ⟨w,rfl,⟨Vm,rfl,y4⟩,g6,hX⟩;refine⟨hX,?_⟩;obtain⟨fV,nL,rfl⟩:=y4.form;have lY:=(g6 aL J).trans dj;refine u5 @lY H.gN ?_;generalize Mn:T (T bh d9 _) d9 _=iq;have ho:u iq d9=some (.cells [.int .i64 (Z.W j:Int),.slice fV (bp (Z.W j) λk=>x (Z.lc j+k)).length nL] false):=by rw[<-Mn,aR];rfl
 have vE:∀d,d≠d9->u iq d=u bh d:=λd bs=>aa
 clear Mn;have kk5:∀d,d<b1->u iq d=u jj d:=λd D=>by rw[vE d J,g6 d J,dM d J]
 refine bF.mk (az4 Z aL j d9 U t x c l aY iq iq) Z.R ⟨0,c,aY,[],d9+1,J,J,rfl,λ_ _=>rfl,by rw[hC];exact qY.F (λd bs=>kk5 d (bs.elim (λe=>J) λe=>aa)) J,trivial,cR _,cR _,λb e=>.inl e,λh=>absurd h J,λd _ _=>rfl,λd bs _ _=>rfl⟩ ?_;rintro _ _ cj n6 ⟨k,hc,UB,dD,B,rfl,hk,rfl,Bc,nR,hS,vt,rV,az5,SA,h5,xf⟩;rw[ajv];unfold WZ;have e1:(dD.length:Nat)=k:=by rw[hS.len,gW,EB]
 have lE:=(h5 d9 J (cR _)).trans ho;have j23:=(Bc 23 J).trans e23;have j24:=(Bc 24 J).trans o4;refine aE ?_;refine⟨λSn=>?_,λaz6=>?_⟩
 ·refine u5 nR.at_ nR.c1 ?_;refine(Fe nR.at_ nR.hI nR.mL (by have:=K.nQ;omega) nR.vK nR.he).f5 ⟨cR _,?_⟩;refine yu nR.at_ @j23 @lE ?_;refine(FA nR aa ⟨2,0,((k*Z.C+j:Nat):Int),0,(t:Int),(Z.W j:Int),fV,(bp (Z.W j) λk=>x (Z.lc j+k)).length,nL,none,0,0,none,0,0,0,false⟩).mono ?_;rintro _ d8 n7 ⟨rfl,d7,cr,In,h4,vw,qD⟩;refine⟨qD,?_⟩;refine bf (cF (J:k<1000000000000)) ?_;have vr:∀d,U<=d->d<B->UB≠some d:=λd D E e=>aa
  refine⟨_,J,k+1,_,some cr,dD++[_],B,rfl,J,rfl,λn bw=>?_,by rw[<-kq];exact In,?_,J,J,λb e=>.inr aa,λ_=>⟨cr,rfl,J⟩,λd D E=>?_,λd D E aH=>?_⟩
  ·rw[dP bw];grind
  ·rw[q8,hr];refine(hS.F (λb D E=>vw b J J (vr b D E)) (cR _) J).app ⟨⟨rfl,?_,rfl,rfl,rfl,?_,wA,rfl,rfl,rfl⟩,trivial⟩
   ·show((0*Z.C+j:Nat):Int)=(j:Int)
    omega
   ·exact eY.F y4.gC (λb D E=>aa) J J
  all_goals grind
 ·have Be:k=Z.R:=J
  subst Be;obtain⟨cr,rfl,h4⟩:=SA J;obtain⟨Vx,cL,vz,_,_⟩:=HR.ex;have oj:u cj bC=some (.map (lq h3 Vx) cL):=by rw[xf bC M.1 M.2.1 M.2.2.1,kk5 bC J];exact vz.at_
  have UC:∀{o},u (T cj bC o) aL=some (.cells (dE hc) false):=λ{o}=>by rw[ar (kt M.2.1)];exact nR.at_
  simp(disch:=omega)only[bk,hT,nR.at_,j24,Su ax5 oj,dI,UC,j23,cF (J:t<1000000000000),seval];refine⟨rfl,_,some cr,dD,B,J,rV,λd D E aH bh=>?_,nR.set (aR _ _ _) (dP J) (dP J) (dP J) (dP J) (λb e=>aa) (cR _),.inr ⟨lM,λn D E=>by rw[dP E];grind,yt,hS.F (λb D E=>by rw[ar J,ar J]) (cR _) (cR _),⟨cL,aa⟩,cr,rfl,h4⟩⟩
  grind
end
def Rg:ac (ac Nat):=[[0,3,4,11]]
def acG(s:ao)(aC a3 aZ d5:X)(h:ae)(U:Nat)(N:aQ)(aM:aQ)(R:aQ):Prop:=vk s h U d5 λa b c=>af (cu a 0) λd=>bt d (af (wj b d5) λe=>af (cu e 1) λf=>bX [(ad 0),(ad 0),(ad 0),(ad 0),(ad 0),(ad 0),aw,aw,aw,(ad 0),(.bool false)] b c λg i j=>af (aN i 11 g f) λk=>bt a3 (bt aZ (N [aC,(.bool true),(.bool true),d5] k j) (av k 9 g λm=>bE .neq 2 m (ad 0) λn=>N [aC,(.bool true),n,d5] k j)) (av k 10 g λp=>bt aZ (N [aC,p,(.bool true),d5] k j) (av k 9 g λr=>bE .neq 2 r (ad 0) λt=>N [aC,p,t,d5] k j))) (aM [aC,a3,aZ,d5] b c)
def af7:cO:=λs ah h U K=>af (bB ah) λa=>av h 43 a λc=>dm (sn h U c) λd e f=>bF (bW Q s Rg 231 0) [ah,(.bool false),(.bool false),d] e f [(0,λg i j=>bt (aT g 1) (K (ad 3) i j) (af (ds .not (aT g 2)) λk=>bt k (K (ad 1) i j) (af (bB (aT g 0)) λl=>av i 42 l λn=>af (bB (aT g 0)) λo=>av i 9 o λq=>bm .eql 3 n q (K (ad 2) i j) (K (ad 0) i j))))] (λ_ _ _=>False)
theorem att{s:ao}{B:X}{h:ae}{U:Nat}{R:aQ}:bW Q s Rg 231 0 [aC,a3,aZ,B] h U N [(0,aM)] R=acG s aC a3 aZ B h U N aM R:=by kernel_rfl
theorem avQ:cQ 231 af7:=cT Rg
def Pc:ac (ac Nat):=[[3,10]]
def Ye(s:ao)(a3 dd:X)(h:ae)(U:Nat)(N:aQ)(aM:aQ)(R:aQ):Prop:=vk s h U dd λa b c=>af (cu a 0) λd=>bt d (af (wj b dd) λe=>af (cu e 0) λf=>af (cu e 1) λg=>bX [(ad 0),(ad 0)] b c λi j k=>af (aN j 2 i f) λl=>aV s 145 [g] l k λm n o=>hP m (ad 0) (aG 2 n i λq=>dS (eO 1 [(ad 0),(ad 0)] [(0,2,q)]) n o λr t aS=>dm (dI (dn 2 t aS a3 r)) λv w x=>N [v,dd] w x) (N [a3,dd] n o)) (aM [a3,dd] b c)
def acH:cO:=λs ah h U K=>af (bB ah) λa=>av h 13 a λc=>dm (sn h U c) λd e f=>bF (bW Q s Pc 144 0) [aw,d] e f [(0,λg i j=>aV s 239 [(aT g 0),(.func (.func 240) #[] #[])] i j λk l m=>K (aT g 0) l m)] (λ_ _ _=>False)
theorem alW{s:ao}{h:ae}{U:Nat}{R:aQ}:bW Q s Pc 144 0 [a3,dd] h U N [(0,aM)] R=Ye s a3 dd h U N aM R:=by kernel_rfl
theorem apF:cQ 144 acH:=cT Pc
def Pd:ac (ac Nat):=[[3,12]]
def Yf(s:ao)(a3 eg:X)(h:ae)(U:Nat)(N:aQ)(aM:aQ)(R:aQ):Prop:=vk s h U eg λa b c=>af (cu a 0) λd=>bt d (af (wj b eg) λe=>af (cu e 1) λf=>aV s 248 [f] b c λg i j=>lD a3 g λk=>N [k,eg] i j) (aM [a3,eg] b c)
def acI:cO:=λs ah h U K=>bm .neq 110 ah (.pointer none) (af (bB ah) λb=>av h 13 b λd=>dm (sn h U d) λe f g=>bF (bW Q s Pd 152 0) [(ad 0),e] f g [(0,λi j k=>K (aT i 0) j k)] (λ_ _ _=>False)) (K (ad 0) h U)
theorem alX{s:ao}{B:X}{h:ae}{U:Nat}{R:aQ}:bW Q s Pd 152 0 [a3,B] h U N [(0,aM)] R=Yf s a3 B h U N aM R:=by kernel_rfl
theorem apG:cQ 152 acI:=cT Pd
theorem ax6:rk Q 173=true:=by kernel_rfl
def tl(Z:cn)(V:Nat)(st:Int)(i:Nat):kM:=⟨5,0,((i*Z.C+0:Nat):Int),(V:Int),0,[],[],st,false⟩
def HS(j3:Nat->Int)(i:Nat)(v:X):Prop:=∃f:eC,v = .agg ⟨eh f⟩/\f.od=false/\f.n=j3 i
theorem alY{s:ao}{Z:cn}{j3:Nat->Int}{h:ae}{U aL cE:Nat}{c:Nat->X}{K:bZ}(bV:u h aL=some (.cells (dE c) false))(Up:aL<U)(i1:c 9 = (Z.lim:X))(HT:c 42 = (V:X))(rY:c 43 = .map (some cE))(ub:cE<U)(i4:iP h cE Z.R d1 (HS j3))(hm:∀k,k<Z.R->d1 k=true)(hk:K (.int .i64 (x5 false (decide (∃i,i<Z.R/\j3 i≠0)) (V:Int) (Z.lim:Int))) h U):aD Q s 231 [bb aL] h U K:=by
 obtain⟨L,cL,vz,h1,ap⟩:=i4.ex;refine aD.plain (v:=.int .i64 (x5 false (decide (∃i,i<Z.R/\j3 i≠0)) (V:Int) (Z.lim:Int))) rfl ?_ hk;refine avQ ?_;unfold af7;refine u5 @bV @rY ?_;refine vz.ry λaH I f1=>?_;refine bF.mk (λm aJ ab Y=>∃sY D,m=D.length/\aJ=[bb aL,.bool false,.bool sY,bb U]/\w8 ab U cE cL L D/\((sY=true\/∃e∈D,j3 e.1≠0)↔∃i,i<Z.R/\j3 i≠0)/\(∀e∈D,e∈L)/\aA U h ab/\U+1<=Y) L.length
  ⟨false,L,rfl,rfl,I,?_,λe h=>h,λc a5=>f1 c J,J⟩ ?_
 ·constructor
  ·rintro(h|⟨e,bK,h⟩)
   ·cases h
   ·exact⟨e.1,(h1 e bK).1,h⟩
  ·rintro⟨i,aj,h⟩;obtain⟨e,bK,rfl⟩:=(ap i aj).1 (hm i aj);exact .inr ⟨e,bK,h⟩
 rintro _ _ bh d9 ⟨sY,D,rfl,rfl,Iq,P,tS,M,hX⟩;rw[att];unfold acG;have s2:=vz.F (ab:=bh) (M cE ub);have zn:=(M aL Up).trans bV;refine s2.fO Iq J (λaM=>?_) λe B b0 bK bn BK e7 E=>?_
 ·subst aM;refine yu @zn @HT @i1 ?_;have hn:aA U h bh:=M;have P:sY=true↔∃i,i<Z.R/\j3 i≠0:=by rw[<-P];simp
  unfold x5;cases sY <;> grind
 ·obtain⟨f,p5,gL,e1⟩:=(h1 e bK).2;have nN:=bn.length_eq;simp only[nq]at nN;have bx:∀x∈B,x∈L:=λx aX=>tS x (bn.mem_iff.2 (nT _ aX));have di:(∃e∈D,j3 e.1≠0)↔j3 e.1≠0\/∃e∈B,j3 e.1≠0:=by
   constructor
   ·rintro⟨x,aX,h⟩;rcases hD.1 (bn.mem_iff.1 aX)with rfl|aX
    ·exact .inl h
    ·exact .inr ⟨x,aX,h⟩
   ·rintro(h|⟨x,aX,h⟩)
    ·exact⟨e,bn.mem_iff.2 (pi ..),h⟩
    ·exact⟨x,bn.mem_iff.2 (nT _ aX),h⟩
  rw[di]at P;rw[p5]at E ⊢;unfold eh at E ⊢;refine gX @E @gL @e1 ?_;refine⟨λbr=>⟨B.length,J,true,B,rfl,rfl,BK.F aa,?_,bx,λc a5=>aF,J⟩,λbr=>⟨B.length,J,_,B,rfl,rfl,BK.F aa,?_,bx,λc a5=>aF,J⟩⟩
  ·grind
  ·grind
def VoK(Z:cn)(c:Nat->X)(aL V cE dR:Nat)(j3:Nat->Int)(fR:Nat->ao)(l:ac eC)(aY:ay Nat)(h:ae)(U:Nat):bZ:=λmJ ab Y=>mJ = .bool true/\∃bT gU dD B,U<=B/\B<=Y/\(∀d,d<U->d≠aL->d≠cE->aY≠some d->u ab d=u h d) /\
 e0 ab Y aL bT 0 0 Z.C (l++dD) gU /\
 ((∃k,k<Z.R/\(if k=dR then true else fR k)=false)/\(∀n,bT n=c n)/\dD=[]/\gU=aY/\iP ab cE Z.R (λk=>if k=dR then true else fR k) (HS j3) \/
 (∀k,k<Z.R->(if k=dR then true else fR k)=true)/\(∀n,n≠22->n≠42->n≠44->bT n=c n)/\∃st,st=x5 false (decide (∃i,i<Z.R/\j3 i≠0)) (V:Int) (Z.lim:Int)/\bT 42 = ((V+1:Nat):X)/\bT 44 = .bool (!(st == 0))/\kR ab U B dD ((List.range Z.R).map (tl Z V st))/\(∃cL,u ab cE=some (.map [] cL))/\∃cr,gU=some cr/\B<=cr)
def VoJ(Z:cn)(aL U bg V:Nat)(st:Int)(c:Nat->X)(l:ac eC)(aY:ay Nat)(h:ae)(m:Nat)(aJ:ac X)(ab:ae)(Y:Nat):Prop :=
 ∃k bT gU dD B,m=Z.R-k/\k<=Z.R/\aJ=[bb aL,(st:X),(Z.R:X),(k:X)]/\(∀n,n≠22->bT n=c n)/\e0 ab Y aL bT 0 0 Z.C (l++dD) gU /\
  kR ab U B dD ((List.range k).map (tl Z V st))/\bg<=B/\B<=Y/\(∀b,gU=some b->aY=some b\/B<=b)/\(0<k->∃b,gU=some b/\B<=b)/\(∀d,d<bg->d≠aL->aY≠some d->u ab d=u h d)
section
variable {s:ao} {g cG h ab:ae} {U Y aL i j al:Nat} {c bT:Nat->X} {l:ac eC} {aY so:ay Nat} {Z:cn}
theorem alZ{f:eC}{cE dR:Nat}{j3:Nat->Int}{fR:Nat->ao}(K:f8 Z)(W:e0 h U aL c 0 0 Z.C l aY)(gN:c 7 = (Z.R:X))(i1:c 9 = (Z.lim:X))(br:l.length+Z.R<900)(cK:V<900)(pg:f.round=(V:Int))(gL:f.od=false)(e1:f.n=j3 dR)(HT:c 42 = (V:X))(I:c 43 = .map (some cE))(e44:c 44 = .bool false)(i4:iP h cE Z.R fR (HS j3))(ub:cE<U/\cE≠aL/\aY≠some cE)(cb:dR<Z.R)(hm:fR dR=false):
  aD Q s 136 [bb aL,.agg ⟨eh f⟩,.agg ⟨[(dR:X),.int .i64 0]⟩] h U (VoK Z c aL V cE dR j3 fR l aY h U):=by
 refine apy ?_;have cS:=W.lt;have nB:∀b,aY=some b->b<U:=λb e=>(W.aY b e).2;have i6:∀{y:Int},((y == y):ao)=true:=aa
 have bH:∀{o aU},aA U h (T (T h U o) (U+1) aU):=aF
 have qR:∀{o aU},u (T (T h U o) (U+1) aU) aL=some (.cells (dE c) false):=λ{o aU}=>(bH aL cS).trans W.at_;have c0':c 0 = .int .i64 0:=W.lZ;have c1':c 1 = .int .i64 0:=W.c1;have Bh:∀{o aU},j9 Q (T (T h U o) (U+1) aU) 3 (.agg #[.int .i64 0,.int .i64 0,.int .i64 0,.int .i64 0,.int .i64 0,.int .i64 0,.slice none 0 0,.slice none 0 0,.slice none 0 0,.int .i64 0,.bool false]) true (.map (some cE)) (dR:X) = .ok (.tuple #[.agg #[.int .i64 0,.int .i64 0,.int .i64 0,.int .i64 0,.int .i64 0,.int .i64 0,.slice none 0 0,.slice none 0 0,.slice none 0 0,.int .i64 0,.bool false],.bool false]):=λ{o aU}=>by obtain⟨v,e,_⟩:=(i4.F (ab:=T (T h U o) (U+1) aU) aa λ_ _ h=>h).get nE cb;rw[hm]at e;exact e
 unfold acD eh;simp(disch:=omega)only[bk,hT,qR,I,Bh,avO c0' c1',Qk,e44,pg,HT,i6,seval];unfold B7;generalize nb:T (T (T (T h U _) (U+1) _) (U+1+1) _) (U+1+1) _=ig;have dQ:∀d,d<U->u ig d=u h d:=aa
 have bP:u ig (U+1)=some (.cells [(dR:X),.int .i64 0] false):=aa
 have ch:u ig U=some (.cells (eh f) false):=by rw[<-nb,ar J,ar J,ar J,aR];unfold eh;rw[pg]
 have zn:=(dQ aL cS).trans W.at_;obtain⟨o,eo',fd⟩:=(i4.F (dQ cE ub.1) λ_ _ h=>h).put  nE cb hm ⟨f,rfl,gL,e1⟩;have M:=fd (T ig cE o) aa;obtain⟨m,aW,aP,cy⟩:=M.len;rw[show h3 dR = (dR:X)from rfl]at eo';have E:u (T ig cE o) aL=some (.cells (dE c) false):=aa
 have lS:hg (some 11) 0 (eh f) = .ok (.agg ⟨eh f⟩):=rfl;simp(disch:=omega)only[bk,hT,zn,bP,ch,lS,I,eo',E,aW,gN,seval];have nm:∀d,d<U->d≠cE->u (T ig cE o) d=u h d:=aa
 have qY:e0 (T ig cE o) (U+3) aL c 0 0 Z.C l aY:=W.F aa J;refine⟨λDk=>⟨rfl,c,aY,[],U+3,J,J,aa,by rw[hC];exact qY,aa⟩,λeZ=>?_⟩;have L:∀k,k<Z.R->(if k=dR then true else fR k)=true:=aa
 refine alY E J i1 HT I J M L ?_;generalize ij:x5 _ _ _ _=st;refine u5 @E @gN ?_;obtain⟨Vx,cL,vz,_,_⟩:=M.ex;have Hy:=vz.at_;have Sz:U+1+1+1=U+3:=rfl;rw[Sz];generalize T ig cE o=jj at Hy E nm qY ⊢;refine bF.mk (VoJ Z aL U (U+3) V st c l aY jj) Z.R ⟨0,c,aY,[],U+3,J,J,rfl,aa,by rw[hC];exact qY,trivial,J,J,aa,λh=>absurd h J,aa⟩ ?_;rintro _ _ cj n6 ⟨k,hc,UB,dD,B,rfl,hk,rfl,Bc,D,hS,vt,rV,az5,SA,xf⟩;rw[alN];unfold Yb;have en6:(dD.length:Nat)=k:=by rw[hS.len,gW,EB]
 have j42:=(Bc 42 J).trans HT;have j43:=(Bc 43 J).trans I;refine aE ?_;refine⟨λSn=>?_,λaz6=>?_⟩
 ·refine(Fe  D.at_ D.hI D.mL (by have:=K.nQ;omega) D.vK D.he).f5 ⟨cR _,?_⟩;refine u5 D.at_ @j42 ?_;refine(FA D aa ⟨5,0,((k*Z.C+0:Nat):Int),0,(V:Int),0,none,0,0,none,0,0,none,0,0,st,false⟩).mono ?_;rintro _ d8 n7 ⟨rfl,d7,cr,In,h4,vw,qD⟩;refine⟨qD,?_⟩;refine bf (cF (J:k<1000000000000)) ?_;have vr:∀d,U<=d->d<B->UB≠some d:=λd h1 P e=>aa
  refine⟨_,J,k+1,_,some cr,dD++[_],B,rfl,J,rfl,λn bw=>?_,by rw[<-kq];exact In,?_,J,J,λb e=>.inr aa,λ_=>⟨cr,rfl,J⟩,λd h1 P aH=>?_⟩
  ·rw[dP bw];grind
  ·rw[q8,hr];refine(hS.F (λb h1 P=>vw b J J (vr b h1 P)) (cR _) J).app ⟨⟨rfl,?_,rfl,rfl,rfl,wA,wA,rfl,rfl,rfl⟩,trivial⟩;show((0*Z.C+0:Nat):Int)=0;omega
  grind
 ·have Be:k=Z.R:=J
  subst Be;obtain⟨cr,rfl,h4⟩:=SA J;have oj:u cj cE=some (.map (lq h3 Vx) cL):=aa
  have UC:∀{o},u (T cj cE o) aL=some (.cells (dE hc) false):=λ{o}=>by rw[ar (kt ub.2.1)];exact D.at_
  simp(disch:=omega)only[bk,hT,D.at_,j43,Su ax6 oj,dI,UC,j42,cF (J:V<1000000000000),seval];refine⟨rfl,_,some cr,dD,B,J,rV,λd h1 P aH bh=>?_,D.set (aR _ _ _) (by rw[dP J,dP J]) (by rw[dP J,dP J]) (by rw[dP J,dP J]) (by rw[dP J,dP J]) (λb e=>aa) (cR _),.inr ⟨L,λn h1 P aH=>by rw[dP aH,dP P];grind,st,ij.symm,by rw[dP J,yt],yt,hS.F (λb h1 P=>aa) (cR _) (cR _),⟨cL,aa⟩,cr,rfl,h4⟩⟩
  grind
end
section
variable {s:ao} {g cG h ab:ae} {U Y aL i j C R dR l9:Nat} {c bT:Nat->X} {l:ac eC} {aY so:ay Nat} {Z:cn}
theorem Qm(M:1<=C)(K:C<=8)(aj:dR<8)(D:l9<C):aD Q s 131 [(C:X),((dR*C+l9:Nat):X)] h U (fs (dR:X) U h):=by
 refine avy ?_;have I:dR*C<=7*C:=ph C J;refine ZG.mono ?_;rintro _ _ _ ⟨rfl,rfl,rfl⟩;rw[lm J];have B:(dR*C+l9) / C=dR:=by rw[xQ,Nat.mul_add_div J,Nj D];rfl
 have E:bin Q .quo 3 (((dR*C+l9:Nat):X)) (C:X) = .ok (dR:X):=by rw[Ck J,show((dR*C+l9:Nat):Int).tdiv (C:Int)=(((dR*C+l9) / C:Nat):Int)from rfl,B,jo J J]
 have aP:IntKind.wrap .i64 ((C:Int)*8)=((C*8:Nat):Int):=by rw[show(C:Int)*8=((C*8:Nat):Int) by omega];exact jo J J
 generalize L:dR*C+l9=n at *
 refine gX @zT @E @aP ?_;exact⟨λh=>absurd h J,λ_=>⟨λh=>absurd h J,λ_=>⟨rfl,rfl,rfl⟩⟩⟩
theorem Qn(K:1<=C)(I:C<=8)(aj:dR<8)(B:l9<C):aD Q s 132 [(C:X),((dR*C+l9:Nat):X)] h U (fs (l9:X) U h):=by
 refine avz ?_;refine(Qm K I aj B).f5 ?_;have D:(dR*C+l9) % C=l9:=by rw[xQ,Nat.mul_add_mod,IN B]
 have E:bin Q .rem 3 (((dR*C+l9:Nat):X)) (C:X) = .ok (l9:X):=by rw[aaR J,show((dR*C+l9:Nat):Int).tmod (C:Int)=(((dR*C+l9) % C:Nat):Int)from rfl,D]
 refine bf @E ?_;exact⟨λh=>absurd h J,λ_=>⟨rfl,rfl,rfl⟩⟩
theorem FB{f:eC}{lC:Nat}{K:bZ}(W:e0 h U aL c i j C l aY)(gN:c 7 = (R:X))(ei:R<=8)(M:f.lR=((i*C+j:Nat):Int))(I:f.fB=((dR*C+l9:Nat):Int))(aj:dR<R)(L:l9<C)(cz:f.kind=(lC:Int))(hkd:1<=lC/\lC<=5)
  (B:∀ab Y,aA U h ab->U<=Y->aD Q s (132+lC) [bb aL,.agg ⟨eh f⟩,.agg ⟨[(dR:X),(l9:X)]⟩] ab Y K):
  aD Q s 63 [bb aL,.agg ⟨eh f⟩] h U K:=by
 refine ato ?_;have cS:=W.lt;have bH:∀{o},aA U h (T h U o):=aF
 have E:∀{o},e0 (T h U o) (U+1) aL c i j C l aY:=λ{o}=>W.F (λd bs=>bH d (bs.elim J λe=>(W.aY d e).2)) J;have P:∀{y:Int},((y == y):ao)=true:=aa
 have bx:dR*C+l9<R*C:=by
  have:dR*C+C<=R*C:=by rw[<-EN];exact ph C J
  omega
 have nA:R*C<=8*8:=sc ei W.mL;have aP:IntKind.wrap .i64 ((R:Int)*(C:Int))=((R*C:Nat):Int):=by rw[<-Int.natCast_mul];exact jo J J
 have aM:¬(((dR*C+l9:Nat):Int)<0):=J
 unfold aeI;unfold eh at B ⊢;simp(disch:=omega)only[bk,pj Dl,seval];refine(ajC E).f5 ⟨J,?_⟩;simp(disch:=omega)only[bk,M,I,P,hT,E.at_,gN,W.he,zT,aP,seval];refine⟨λh=>absurd h aM,λ_=>?_⟩;rw[hf bx];unfold Fz;simp(disch:=omega)only[bk,hT,E.at_,W.he,seval];refine(Qm W.hI W.mL J L).f5 ⟨J,?_⟩;simp(disch:=omega)only[bk,hT,E.at_,W.he,seval];refine(Qn W.hI W.mL J L).f5 ⟨J,?_⟩;simp only[M,I,cz]at B;have D:∀{o eV dQ},aA U h (T (T (T h U o) (U+1) eV) (U+1) dQ):=aF
 rcases(by omega:lC=1\/lC=2\/lC=3\/lC=4\/lC=5)with rfl|rfl|rfl|rfl|rfl
 ·simp(disch:=omega)only[bk,cz,show(((1:Nat):Int) == 1)=true from rfl,seval];exact B _ (U+2) D J
 ·simp(disch:=omega)only[bk,cz,show(((2:Nat):Int) == 1)=false from rfl,show(((2:Nat):Int) == 2)=true from rfl,seval];exact B _ (U+2) D J
 ·simp(disch:=omega)only[bk,cz,show(((3:Nat):Int) == 1)=false from rfl,show(((3:Nat):Int) == 2)=false from rfl,show(((3:Nat):Int) == 3)=true from rfl,seval];exact B _ (U+2) D J
 ·simp(disch:=omega)only[bk,cz,show(((4:Nat):Int) == 1)=false from rfl,show(((4:Nat):Int) == 2)=false from rfl,show(((4:Nat):Int) == 3)=false from rfl,show(((4:Nat):Int) == 4)=true from rfl,seval];exact B _ (U+2) D J
 ·simp(disch:=omega)only[bk,cz,show(((5:Nat):Int) == 1)=false from rfl,show(((5:Nat):Int) == 2)=false from rfl,show(((5:Nat):Int) == 3)=false from rfl,show(((5:Nat):Int) == 4)=false from rfl,show(((5:Nat):Int) == 5)=true from rfl,seval];exact B _ (U+2) D J
end
theorem aag{s:ao}{n:Nat}{h:ae}{U:Nat}(B:dg h U v kd (eT n q)):aD Q s 139 [v] h U (λr ab Y=>eY ab U Y r kd (eT n q)/\aA U h ab/\U<=Y):=by
 by_cases E:n=0
 ·subst E;obtain⟨a,cap,rfl,_⟩:=id B;have M:aA U h (T h U (.cells [] false)):=aF
  refine abM ?_;unfold QY;simp(disch:=omega)only[bk,zO ag2,seval];refine⟨λ_=>⟨⟨_,_,rfl,λh=>absurd rfl h⟩,aF⟩,λ_=>?_⟩;exact⟨⟨_,_,rfl,λh=>absurd rfl h⟩,M,J⟩
 ·have e:eT n q=[mk n q]:=if_neg E;rw[e]at B ⊢;refine(an4 B).mono ?_;rintro _ ab Y ⟨b,c,L,rfl,P,K,aH,I,D⟩;exact⟨⟨_,_,rfl,λ_=>⟨b,L,false,P,K,rfl,aH⟩⟩,I,D⟩
section
variable {s:ao} {g cG h ab:ae} {U Y aL i j C low m:Nat} {c bT:Nat->X} {l:ac eC} {aY so:ay Nat} {S:jS}
theorem al2(W:e0 h U aL c i j C l aY)(au:jr h U (.agg ⟨[c 28,c 29,c 30,c 31,c 32]⟩) low m S)(bx:m<=60):
  aD Q s 69 [bb aL] h U (λr ab Y=>lO ab U Y r (low:Int) ((low+m:Nat):Int) m (cx m λk=>S.A (low+k)) (cx m λk=>S.B (low+k)) (λk=>S.q (low+k))/\aA U h ab/\U<=Y):=by
 refine apx ?_;have cS:=W.lt;obtain⟨dp,fW,fw,hz,fE,gh,gt⟩:=au;obtain⟨fI,en,rfl,_⟩:=id fE;obtain⟨gr,fT,rfl,_⟩:=id gh;obtain⟨mH,ia,rfl,_⟩:=id gt;simp only[Value.agg.injEq,xN,vR,iv]at hz;obtain⟨P,p1,rU,jU,gp⟩:=hz;have bH:∀{o eV dQ},aA U h (T (T (T h U o) (U+1) eV) (U+1) dQ):=aF
 have qR:∀{o},u (T h U o) aL=some (.cells (dE c) false):=λ{o}=>by rw[ar J];exact W.at_
 unfold acC;simp(disch:=omega)only[bk,hT,pj Dl,qR,W.at_,P,p1,rU,jU,gp,seval];refine(Fc (fE.F  bH J) (by rw[i9];omega)).mono ?_;rintro v1 h1 bg ⟨lH,E,I⟩;refine⟨I,?_⟩;have M:=(E (U+1) J).trans (aR _ _ _);have t1:=(E U J).trans ((ar J).trans ((ar J).trans (aR _ _ _)));have cI:=bH.trans E J;refine bf @M ?_;refine(Fc (gh.F  cI J) (by rw[i9];omega)).mono ?_;rintro v2 ap bU ⟨BL,D,K⟩;refine⟨K,?_⟩;have g2:=(D (U+1) J).trans M;have t2:=(D U J).trans t1;have ey:=cI.trans D J;refine cM @M @g2 ?_;refine(aag (gt.F  ey J)).mono ?_;rintro v3 aH b1 ⟨BM,B,L⟩;refine⟨L,?_⟩;have dz:=(B (U+1) J).trans g2;have t3:=(B U J).trans t2;obtain⟨g8,b8,rfl,_⟩:=id lH;obtain⟨iZ,cN,rfl,_⟩:=id BL;obtain⟨hO,ca,rfl,_⟩:=id BM;refine ll @M @g2 @dz @t3 ?_;refine⟨⟨_,_,_,rfl,lH.F (λd h1 ap=>by rw[ar J,B d J,D d J]) J J,BL.F (λd h1 ap=>by rw[ar J,B d J]) J J,BM.F aa J J⟩,aF,J⟩
end
def Dn(a4 ag:ac GE):Prop:=jp ((Ai a4).map df) (ag.map df)
def CX(a4 ag:ac GE):Prop:=∃cs:ac GE,jp ((z9 a4).map df) (cs.map df)/\Dn cs ag
def GR(a4 ag:ac GE):Prop:=∃us cs:ac GE,jp ((Ai a4).map df) (us.map df)/\jp ((a4++us).map df) (cs.map df)/\CX cs ag
def ax7(a4 ag:ac GE):Prop:=∃cs:ac GE,jp ((zW a4).map df) (cs.map df)/\GR cs ag
def GS(R:ac GE->Prop)(N U:Nat)(h:ae):bZ:=λr ab Y=>∃m ag,r = .tuple ⟨[m,.int .i64 0]⟩/\R ag/\(∀g∈ag,gQ N g)/\hj N N ag/\wm ab U Y m N N ag/\aA U h ab/\U<=Y
theorem lF.can{N q U:Nat}{h ab I:ae}{Y B:Nat}{Eg:ac GE}{r:X}(S:lF N q U h ab Y a4 v)(di:U<=q)(ba:qC N Eg Y ab r I B):∃(cs:ac GE) (a:ay Addr) (n c:Nat),r = .agg ⟨[(N:X),.slice a n c]⟩/\jp (Eg.map df) (cs.map df)/\cs.length<=Eg.length/\u I q=some (.cells [(N:X),v] false)/\Y<=B/\lF N q U h (T I q (.cells [(N:X),.slice a n c] false)) B cs (.slice a n c):=by
 obtain⟨v2,cs,rfl,D,L,M,lf,E,K⟩:=ba;have P:=S.lt;obtain⟨a,n,c,rfl⟩:=D.form;refine⟨cs,a,n,c,rfl,L,lf,(E q J).trans S.g,K,aa,?_,?_,M,?_,J⟩
 ·rw[ar J,E _ P];exact S.m
 ·refine el.of ?_;have:dX (T I q (.cells [(N:X),.slice a n c] false)) (.slice a n c) b3 3 cs Y B:=by
   rcases D with D|⟨b,h1,I,e,a1⟩
   ·exact .inl D
   ·exact .inr ⟨b,h1,I,e,aa⟩
  exact this.rd
 ·intro b a1;rw[ar J,E b J];exact S.k b a1
theorem atu{s:ao}{N:Nat}{h:ae}{U:Nat}(aI:el h U v b3 a4)(dT:N<=4096)(E:∀g∈a4,gQ N g)(br:a4.length<=120):aD Q s 189 [.agg ⟨[(N:X),v]⟩] h U (GS (Dn a4) N U h):=by
 refine afj ?_;obtain⟨a,cap,rfl,a5⟩:=id aI;unfold Sf;refine aE ?_;have bH:∀{o aU},aA U h (T (T h U o) (U+1) aU):=aF
 refine(Zk (aI.F bH J) dT E br).mono ?_;rintro r h1 gY ⟨rfl,L,fa⟩;have ch:=L U J;rw[ar J,aR]at ch;have dO:=L (U+1) J;rw[aR]at dO;have cI:aA U h h1:=aF
 refine bf @ch ?_;refine(QT (aI.F cI J) J br E).mono ?_;rintro r ap fA ⟨v2,ag,rfl,iz,K,D,sP,I,fx⟩;have Df:ag.length<=a4.length:=hJ sP (tf a4);have i4:hj N N ag:=asH K D dT J;obtain⟨a3,cm,rfl,Hu⟩:=id iz.gC;refine aE ?_;refine bF.mk (CgJ U (U+1) N (.slice a3 ag.length cm) .nilFunc ag fA ap) ag.length ⟨0,_,rfl,J,rfl,.inl aa,aF,J⟩ ?_;rintro m _ aH xe ⟨i,o,rfl,aj,rfl,S,B,gg⟩;rw[ads];unfold QO;refine aE ?_;refine⟨λM=>?_,λeZ=>?_⟩
 ·obtain⟨e,bK⟩:=dW M;obtain⟨b,aO,bL,iB,fH,rfl,a1⟩:=Hu aa;have pR:=(B b fH).trans a1;simp(disch:=omega)only[bk,pR,afB bK,seval];refine me  (k:=3)  (λ_=>rfl) (λ_=>rfl) J (S.F aa J) J e (aR _ _ _) rfl aa λr3 b0 A4 e7=>?_;have mq:ag.take (i+1)=ag.take i++[e]:=by rw[hq,bK];rfl
  exact⟨ag.length-(i+1),J,i+1,r3,rfl,J,by rw[cF J],by rw[mq];exact A4,λc a5=>by rw[e7 c a5,ar J,ar J,ar J];exact B c a5,J⟩
 ·have P:i=ag.length:=J
  subst P;rw[hB]at S;have DM:=(B U J).trans ((I U J).trans ch);have Tz:=(B (U+1) J).trans ((I (U+1) J).trans dO);refine bf @DM ?_;refine(O1 (el.of S.rd) i4).mono ?_;rintro r cj om ⟨ei,h5,mi⟩;obtain⟨dA,aO,i6,a2,bU,c2,aZ,d9,gd,rfl⟩:=ei.is.form;have TK:=(h5 (U+1) J).trans Tz;refine bf @TK ?_;exact⟨_,_,rfl,K,D,i4,ei.F aa J J,aF,J⟩
def vg(k:Int)(a4 ag:ac GE):Prop:=if k=5 then ax7 a4 ag else if k=3 then GR a4 ag else if k=1 then CX a4 ag else Dn a4 ag
theorem Yg{s:ao}{k n src P:Int}{bu:ac Int}{es:ac hF}{h:ae}{U:Nat}(bs:dg h U eu cY bu)(bK:el h U f7 hW es)(K:es.length<=60\/65536<es.length)(LI:iw k n src len bu P es=0):
  aD Q s 114 [.agg ⟨[(k:X),(n:X),(src:X),(len:X),eu]⟩,.agg ⟨[(P:X),f7]⟩] h U (GS (vg k (es.map ol)) P.toNat U h):=by
 refine aa7 ?_;obtain⟨a,cap,rfl,a5⟩:=id bs;obtain⟨a2,rv,rfl,og⟩:=id bK;unfold QN;refine aE ?_;have bH:∀{o aU kD},aA U h (T (T (T h U o) (U+1) aU) (U+1+1) kD):=aF
 refine(Jg (bs.F bH J)).mono ?_;rintro r h1 gY ⟨rfl,dv,fa⟩;have j1:=dv U J;rw[ar J,ar J,aR]at j1;have l6:=dv (U+1) J;rw[ar J,aR]at l6;have pb:=dv (U+1+1) J;rw[aR]at pb;have cI:aA U h h1:=aF
 generalize oh:gF k n src len bu=ak at *
 by_cases iy:ak=0
 case neg =>
  exact absurd LI (by unfold iw;omega)
 subst iy;refine cM @l6 @j1 ?_;refine⟨λfk=>?_,λyX=>?_⟩
 ·have fk:P≠n:=aa
  exact absurd LI (by unfold iw;omega)
 have yX:P=n:=aa
 have xh:iw k n src len bu P es=ih P es:=by unfold iw;omega
 refine(PP (bK.F cI J)).mono ?_;rintro r ap fA ⟨rfl,L,fx⟩;have ey:=cI.trans L J;have xi:=(L U J).trans j1;have A9:=(L (U+1) J).trans l6;have A6:=(L (U+1+1) J).trans pb
 by_cases M:ih P es=0
 case neg =>
  exact absurd J M
 rw[M]at xh ⊢;have K:=RF M K;obtain⟨N,rfl,dT,sK,iH⟩:=(Fv.1 M).Tq;have oq:=((bK.F cI J).F L fx).map sK;rw[<-gW ]at K;generalize sH:es.map ol=a4 at K iH oq ⊢;generalize hRR:vg k a4=R;have B:es.length=a4.length:=aa
 rw[B]at A9 oq;have mG:lF N (U+1) U h ap fA a4 (.slice a2 a4.length rv):=⟨A9,A6,oq,iH,ey,J⟩
 rw[IL];have tail:∀{ab:ae} {Y:Nat} {a4:ac GE} {a:ay Addr} {n c:Nat},lF N (U+1) U h ab Y a4 (.slice a n c)->U<=Y->a4.length<=120->(∀ag,Dn a4 ag->R ag)->sj s (GS R N U h) (.pointer (some ⟨U+1,0,none⟩)) (.pointer (some ⟨U+1+1,0,none⟩)) ab Y:=λ{ab Y a4 a n c} S aX br l3=>by have cS:=S.lt;unfold sj;refine bf S.g ?_;refine(atu S.p dT S.ok br).mono ?_;rintro r cj om ⟨m,ag,rfl,fe,az7,i4,ei,h5,mi⟩;obtain⟨dA,aO,i6,a2,bU,c2,aZ,d9,gd,rfl⟩:=ei.is.form;have lE:=(h5 _ S.lt).trans S.m;refine bf @lE ?_;exact⟨_,_,rfl,l3 ag fe,az7,i4,ei.F aa J J,λb a1=>by rw[ar J,h5 b J];exact S.k b a1,J⟩
 have plain:∀{ab:ae} {Y:Nat} {a4:ac GE} {a:ay Addr} {n c:Nat},lF N (U+1) U h ab Y a4 (.slice a n c)->U<=Y->a4.length<=120->(∀ag,CX a4 ag->R ag)->aD Q s 188 [.agg ⟨[(N:X),.slice a n c]⟩] ab Y λI D Hz=>(c7 I).length=2/\af (iW (u D (U+1)) D (U+1) 0 (c7 I)) λxj=>sj s (GS R N U h) (.pointer (some ⟨U+1,0,none⟩)) (.pointer (some ⟨U+1+1,0,none⟩)) xj Hz:=λ{ab Y a4 a n c} S aX br l3=>by refine(aby S.p J br S.ok).mono ?_;intro r cj om ba;obtain⟨cs,bj,n6,hc,rfl,E,B,di,dx,r5⟩:=S.can J ba;refine bf @di ?_;exact tail r5 J (by have:=tf (p:=λ_=>true) (m:=De) a4;unfold z9 at B;omega) λag h=>l3 ag ⟨cs,E,h⟩
 have tG:∀{ab:ae} {Y:Nat} {a4:ac GE} {a:ay Addr} {n c:Nat},lF N (U+1) U h ab Y a4 (.slice a n c)->U<=Y->a4.length<=60->(∀ag,GR a4 ag->R ag)->aD Q s 181 [.agg ⟨[(N:X),.slice a n c]⟩] ab Y λHv A7 A8=>(c7 Hv).length=2/\af (iW (u A7 (U+1)) A7 (U+1) 0 (c7 Hv)) λrK=>af (z5 (u rK (U+1)) λcs x=>hg (some 2) 0 cs) λTA=>aD Q s 188 [TA] rK A8 λI D Hz=>(c7 I).length=2/\af (iW (u D (U+1)) D (U+1) 0 (c7 I)) λxj=>sj s (GS R N U h) (.pointer (some ⟨U+1,0,none⟩)) (.pointer (some ⟨U+1+1,0,none⟩)) xj Hz:=λ{ab Y a4 a n c} S aX br l3=>by refine(adX S.p J br S.ok).mono ?_;rintro r cj om ⟨us,hus,sP,_,ba⟩;obtain⟨cs,bj,n6,hc,rfl,E,B,di,dx,r5⟩:=S.can J ba;rw[jk]at B;refine bf @di ?_;exact plain r5 J J λag h=>l3 ag ⟨us,cs,hus,E,h⟩
 refine cM @A9 @xi ?_;refine⟨λir=>?_,λir=>⟨λcy=>tG mG J K λag h=>?_,λcy=>⟨λaW=>plain mG J J λag h=>?_,λaW=>tail mG J J λag h=>?_⟩⟩⟩
 ·refine(Zj mG.p J J iH).mono ?_;intro r cj om ba;obtain⟨cs,bj,n6,hc,rfl,E,B,di,dx,r5⟩:=mG.can J ba;have xb:=tf (p:=sr) (m:=id) a4;unfold zW at B;refine bf @di ?_;refine tG r5 J J λag h=>?_;rw[<-hRR,uC.1 ir];exact⟨cs,E,h⟩
 all_goals
  rw[<-hRR];unfold vg;rw[if_neg (sa.1 ir)]
 ·rw[if_pos (uC.1 cy)];exact h
 ·rw[if_neg (sa.1 cy),if_pos (uC.1 aW)];exact h
 ·rw[if_neg (sa.1 cy),if_neg (sa.1 aW)];exact h
theorem aeL{a b:GE}(h:df a=df b):a=b:=by
 cases a;cases b;simp only[df,Prod.mk.injEq]at h
 grind
theorem acJ:∀{l B:ac GE},l.map df=B.map df->l=B
 | [],[],_=>rfl
 |a::l,b::B,h=>by simp only[qj,vR]at h;rw[aeL h.1,acJ h.2]
 | [],_::_,h=>by cases h
 |_::_,[],h=>by cases h
theorem F3{A:ac du}{l B:ac GE}(h:jp A (l.map df))(ab:jp A (B.map df)):l=B:=acJ (h.unique ab)
theorem aah(h:Dn a4 ag)(ab:Dn a4 us):ag=us:=F3 h ab
theorem Yh(h:CX a4 ag)(ab:CX a4 us):ag=us:=by obtain⟨a,B,h⟩:=h;obtain⟨b,D,ab⟩:=ab;rw[F3 D B]at ab;exact aah h ab
theorem aai(h:GR a4 ag)(ab:GR a4 us):ag=us:=by obtain⟨a,c,D,I,h⟩:=h;obtain⟨b,d,E,B,ab⟩:=ab;rw[F3 E D]at B;rw[F3 B I]at ab;exact Yh h ab
theorem apH{k:Int}(h:vg k a4 ag)(ab:vg k a4 us):ag=us:=by
 unfold vg at h ab
 split at h
 ·rw[if_pos J]at ab;obtain⟨a,B,h⟩:=h;obtain⟨b,D,ab⟩:=ab;rw[F3 D B]at ab;exact aai h ab
 ·rw[if_neg J]at ab
  split at h
  ·rw[if_pos J]at ab;exact aai h ab
  ·rw[if_neg J]at ab
   split at h
   ·rw[if_pos J]at ab;exact Yh h ab
   ·rw[if_neg J]at ab;exact aah h ab
def mz(Z:cn):jS:={ A:=λv=>va Z.k Z.src v,B:=λ_=>-1,q:=λv=>tF Z.k Z.src v }
structure NwI (Z:cn) (i j U:Nat) (h:ae) (ab:ae) (Y aL:Nat) (c:Nat->X) (aY:ay Nat) (bC b4 cE:Nat) (l:ac eC) (g:ae):Prop where
 k:aA U h ab
 p:U<=aL
 d6:U<=bC/\bC<Y/\bC≠aL/\aY≠some bC/\u g bC=none/\u ab bC=some (.map [] 0)
 gV:U<=b4/\b4<Y/\b4≠aL/\aY≠some b4/\u g b4=none/\u ab b4=some (.map [] 0)
 ji:U<=cE/\cE<Y/\cE≠aL/\aY≠some cE/\u g cE=none/\u ab cE=some (.map [] 0)
 ne:bC≠b4/\bC≠cE/\b4≠cE
 W:e0 ab Y aL c i j Z.C l aY
 b:∀b,aY=some b->U<=b/\u g b=none
 G:rW g ab Y aL
 o:∀d,d<U->u g d=none
 z:kl g Y c Z i j
 m:c 23 = .int .i64 1/\c 24 = .map (some bC)/\c 25 = .int .i64 1/\c 26 = .int .i64 0/\c 27 = .int .i64 0/\c 39 = .bool false/\c 40 = .slice none 0 0/\c 41 = .map (some b4)/\c 42 = .int .i64 0/\c 43 = .map (some cE)/\c 44 = .bool false
 aDs:j≠0->l=[]/\c 38 = .bool false
 aB0:j=0->c 38 = .bool true/\jr g Y (.agg ⟨[c 28,c 29,c 30,c 31,c 32]⟩) (Z.bN i) (Z.H i) (mz Z)/\(∀n,28<=n->n<33->c (n+5)=c n)/\l=[CF ((i*Z.C+0:Nat):Int) 0 (ro Z.k Z.len 0 (Z.H i) (cx (Z.H i) λk=>(mz Z).A (Z.bN i+k)) (λk=>(mz Z).q (Z.bN i+k)):Int) false]
theorem ym.F{h ab:ae}{al aj ea dB:Nat}{v:X}{r c:Nat}{ag:ac GE}(H:ym h al aj v r c ag)(B:∀d,al<=d->d<aj->u ab d=u h d)(E:ea<=al)(D:aj<=dB):ym ab ea dB v r c ag:=by obtain⟨L,I,v3,P,e,M,⟨b,K,aP,dA,b2,d2⟩,a3,aZ⟩:=H;exact⟨L,I,v3,P,e,M.F B E D,⟨b,K,aP,J,J,aa⟩,a3.F B E D,aZ.F B E D⟩
def NwP(Z:cn)(i j U:Nat)(h:ae):bZ:=λr ab Y=>∃aL c aY bC b4 cE l g,r = .tuple ⟨[bb aL,.int .i64 0]⟩/\NwI Z i j U h ab Y aL c aY bC b4 cE l g/\U<=Y
theorem atv{s:ao}{x:iV}{I eG:Nat}{eD:X}{h:ae}{U:Nat}{Z:cn}(K:f8 Z)(H:n3 h U x eu f7 eD)(AL:dg h U eD yJ [])(yM:x.t0=0)(Lt:x.bu.length<1000000)(aq:gP x=0)(aj:I<Z.R)(cb:eG<Z.C)(z:Z.k=x.k/\x.n=(Z.N:Int)/\Z.src=x.src/\Z.len=x.len/\Z.bu=x.bu/\x.R=(Z.R:Int)/\x.C=(Z.C:Int)/\x.lim=(Z.lim:Int))(az8:Z.N<=60)(iz:vg x.k (x.es.map ol) Z.ag):
  aD Q s 59 [.agg ⟨fM x eu f7 eD⟩,(I:X),(eG:X)] h U (NwP Z I eG U h):=by
 refine axE ?_;obtain⟨a9,gs,rfl,_⟩:=id H.d;obtain⟨bM,qW,rfl,_⟩:=id H.e;obtain⟨bA,gq,rfl,_⟩:=id AL;have bH:∀{o},aA U h (T h U o):=aF
 have kp:∀{o},n3 (T h U o) (U+1) x _ _ _:=λ{o}=>H.F aF J;unfold fM at *
 unfold ag3 bm ko cv av bE aV ad aG bG;refine aE ?_;refine(JA kp).mono ?_;rintro _ h1 bg ⟨rfl,dv,fa⟩;have ch:=dv U J;rw[aR]at ch;have cI:aA U h h1:=aF
 rw[aq];refine bf @ch ?_;refine⟨λa1=>absurd a1 J,λhi0=>⟨λa1=>absurd a1 J,λTk=>⟨λa1=>absurd a1 J,λBg=>?_⟩⟩⟩;rw[show(!decide ((eG:Int)<x.C))=false by rw[hf J];rfl];obtain⟨dq,eF,hb,mF,MQ,aB1,vL,aB2,aB3,q10⟩:=asI aq;obtain⟨MV,dT,uv,xy,Vy,ei,ee,aDt⟩:=z;obtain⟨N,nS⟩:∃N,Z.N=N:=⟨_,rfl⟩
 obtain⟨R,aB4⟩:∃R,Z.R=R:=⟨_,rfl⟩
 obtain⟨C,aB5⟩:∃C,Z.C=C:=⟨_,rfl⟩
 obtain⟨ag,vI⟩:∃ag,Z.ag=ag:=⟨_,rfl⟩
 rw[vI]at iz;rw[nS]at dT az8;rw[aB4]at ei aj;rw[aB5]at ee cb;have hGN:x.ci.toNat=N:=J
 unfold Gh bm iS b9 av bl aV cg jx da ad aG bY bX aw bG;refine bf @ch ?_;refine(Yg (H.d.F cI J) (H.e.F cI J) H.l dq).mono ?_;rw[hGN];rintro _ M bU ⟨m,fl,rfl,hTs,_,i4,hRm,dM,fx⟩;obtain rfl:ag=fl:=apH iz hTs;have az9:=hRm;obtain⟨dA,sp1,nn1,a2',n2',c2',HI,n4',HJ,rfl⟩:=hRm.is.form;have g2:=(dM U J).trans ch;have ey:aA U h M:=aF
 refine bf @g2 ?_;have K2':∀{o aU},aA U h (T (T M bU o) bU aU):=aF
 refine(aoC (AL.F  K2' J) (by simp)).mono ?_;rintro vch aH P ⟨Hf,f1,gg⟩;have aBu:=Hf;obtain⟨UD,UE,rfl,_⟩:=id Hf;have dz:=f1 U J;rw[ar J,ar J,g2]at dz;refine bf @dz ?_;refine⟨J,?_⟩;have fr:aA U h aH:=aF
 rw[aoD];have gm3:=f1 bU J;rw[aR]at gm3;refine gX @axP @axQ @dz ?_;generalize D:HM (I:Int) (eG:Int) x.k x.n x.src x.len a9 x.bu.length gs x.R x.C x.lim UD 0 UE=c1;have kI:c1 0 = (I:X):=by rw[<-D];rfl
 have fI:c1 1 = (eG:X):=by rw[<-D];rfl
 have gr:c1 2 = (x.k:X):=by rw[<-D];rfl
 have mH:c1 3 = (x.n:X):=by rw[<-D];rfl
 have f4:c1 4 = (x.src:X):=by rw[<-D];rfl
 have MW:c1 5 = (x.len:X):=by rw[<-D];rfl
 have Ep:c1 8 = (x.C:X):=by rw[<-D];rfl
 have f22:c1 22 = .slice none 0 0:=by rw[<-D];rfl
 have aDu:c1 7 = (x.R:X):=by rw[<-D];rfl
 have aDv:c1 9 = (x.lim:X):=by rw[<-D];rfl
 have f10:c1 10 = .slice UD 0 UE:=by rw[<-D];rfl
 have f23:c1 23 = .int .i64 1:=by rw[<-D];rfl
 have f25:c1 25 = .int .i64 1:=by rw[<-D];rfl
 have f26:c1 26 = .int .i64 0:=by rw[<-D];rfl
 have f27:c1 27 = .int .i64 0:=by rw[<-D];rfl
 have f38:c1 38 = .bool false:=by rw[<-D];rfl
 have f39:c1 39 = .bool false:=by rw[<-D];rfl
 have f40:c1 40 = .slice none 0 0:=by rw[<-D];rfl
 have f42:c1 42 = .int .i64 0:=by rw[<-D];rfl
 have f44:c1 44 = .bool false:=by rw[<-D];rfl
 clear D;have K3':∀{o},aA U h (T aH P o):=fr.set J;refine(Fc (H.d.F  K3' J) Lt).mono ?_;rintro vds bh d9 ⟨hvd,g6,hX⟩;have SB:=hvd;obtain⟨UF,UG,rfl,_⟩:=id hvd;have gw4:=g6 P J;rw[aR]at gw4;have dO:=g6 U J;rw[ar J,dz]at dO;have gm4:=g6 bU J;rw[ar J,gm3]at gm4;refine u4 @gw4 @dO @gm4 @ei @ee ?_;rw[asP];refine⟨by show 6<45;omega,?_⟩;have hR:∀{o},aA U h (T bh P o):=λ{o} d bs=>by rw[ar J,g6 d J,ar J,fr d bs]
 have hRi:kw (T bh P (.cells (dE (hl c1 6 (.slice UF x.bu.length UG))) false)) d9 _ N N ag:=(az9.F    (λd h1 M=>by rw[ar J,g6 d J,ar J,f1 d J,ar J,ar J]) J J).is;refine(avs i4 hRi J J J J J J).mono ?_;rintro fW b0 eN ⟨er,e7,ny⟩;have hB0:=er;obtain⟨gl,sp5,nn5,nC,n25,c25,DI,n45,c45,rfl⟩:=er.is.form;have gw5:=e7 P J;rw[aR]at gw5;have ho:=e7 U J;rw[ar J,dO]at ho;have lk:aA U h b0:=hR.trans e7 J;refine gX @gw5 @asJ @asN ?_;have rA:=uJ (n:=N) (k:=R) (J:I<=I+1);have tN:=uJ (n:=N) (k:=C) (J:eG<=eG+1);have hl3:=tk (n:=N) (k:=R) J (I+1);have hl4:=tk (n:=N) (k:=C) J (eG+1);refine(avt (JX i4 J J) (hB0.F (ea:=0) (dB:=eN) (λd h1 M=>ar J) J J).is).mono ?_;rintro vco cj L ⟨fl,fe,Us,hCs,h5,mi⟩;have aAa:=hCs;obtain⟨de,dj,j2,lY,rfl,hI,⟨bb2,aBv,rfl,cb1,cb2,cb3⟩,pc,aDw⟩:=hCs;obtain⟨aw1,cw1,rfl⟩:=hI.HC.form;obtain⟨aw3,cw3,rfl⟩:=pc.HC.form;obtain⟨aw4,cw4,rfl⟩:=aDw.HC.form;have gw6:=h5 P J;rw[aR]at gw6;have lE:=h5 U J;rw[ar J,ho]at lE;have vG:aA U h cj:=λd bs=>by rw[h5 d J,ar J];exact lk d bs
 simp(disch:=omega)only[bk,gw6,asK,Gl,aoE,aoF,aoG,lE,dT,ei,seval];generalize D3:T (T (T (T (T (T (T cj P _) L _) (L+1) _) (L+1+1) _) P _) P _) P _=ut;have gN:∀d,d≠P->d<L->u ut d=u cj d:=λd h1 M=>by rw[<-D3,ar J,ar J,ar J,ar J,ar J,ar J,ar J]
 have Mo:∃E,u ut P=some (.cells (dE E) false)/\E 0 = (I:X)/\E 1 = (eG:X)/\E 2 = (x.k:X)/\E 3 = (x.n:X)/\E 4 = (x.src:X)/\E 5 = (x.len:X)/\E 6 = .slice UF x.bu.length UG/\E 7 = (x.R:X)/\E 8 = (x.C:X)/\E 9 = (x.lim:X)/\E 10 = .slice UD 0 UE/\E 22 = .slice none 0 0 /\
   wm b0 d9 eN (.agg ⟨[E 11,E 12,E 13,E 14,E 15]⟩) (c8 N R (I+1)-c8 N R I) (c8 N C (eG+1)-c8 N C eG) (lN ag (c8 N R I) (c8 N R (I+1)-c8 N R I) (c8 N C eG) (c8 N C (eG+1)-c8 N C eG)) /\
   ym cj eN L (.agg ⟨[E 16,E 17,E 18,E 19,E 20,E 21]⟩) (c8 N R (I+1)-c8 N R I) (c8 N C (eG+1)-c8 N C eG) fl /\
   (E 23 = .int .i64 1/\E 24 = .map (some L)/\E 25 = .int .i64 1/\E 26 = .int .i64 0/\E 27 = .int .i64 0/\E 39 = .bool false/\E 40 = .slice none 0 0/\E 41 = .map (some (L+1))/\E 42 = .int .i64 0/\E 43 = .map (some (L+2))/\E 44 = .bool false)/\E 38 = .bool false:=by rw[<-D3,aR];exact⟨_,rfl,kI,fI,gr,mH,f4,MW,rfl,aDu,Ep,aDv,f10,f22,hB0,aAa,⟨f23,rfl,f25,f26,f27,f39,f40,rfl,f42,rfl,f44⟩,f38⟩
 have UH:u ut L=some (.map [] 0)/\u ut (L+1)=some (.map [] 0)/\u ut (L+2)=some (.map [] 0):=by
  refine⟨?_,?_,?_⟩
  ·rw[<-D3,ar J,ar J,ar J,ar J,ar J,aR]
  ·rw[<-D3,ar J,ar J,ar J,ar J,aR]
  ·rw[<-D3,ar J,ar J,ar J,aR]
 have mI:=(gN U J J).trans lE;have r8:aA U h ut:=λd bs=>by rw[gN d J J];exact vG d bs
 clear D3;obtain⟨E,Mo,zo,g8,iZ,hO,Bp,MP,aB6,iT,nM,Vk,ou,x22,aDx,aDy,aDz,TY⟩:=Mo;subst nS aB4 aB5 vI;have K39:P+1<=d9:=hX;have fin:∀(iG:ae) (qf:Nat) (q0:Nat->X) (aY:ay Nat) (l:ac eC),L+3<=qf->(∀d,d<L+3->d≠P->u iG d=u ut d)->(∀n,n≠22->n<28\/38<n->q0 n=E n)->e0 iG qf P q0 I eG Z.C l aY->(∀b,aY=some b->L+3<=b)->(eG≠0->l=[]/\q0 38 = .bool false)->(eG=0->q0 38 = .bool true/\(∃Mp,(∀b,aY=some b->Mp<=b)/\Mp<=qf/\lO iG (L+3) Mp (.agg ⟨[q0 28,q0 29,q0 30,q0 31,q0 32]⟩) (Z.bN I:Int) ((Z.bN I+Z.H I:Nat):Int) (Z.H I) (cx (Z.H I) λk=>(mz Z).A (Z.bN I+k)) (cx (Z.H I) λk=>(mz Z).B (Z.bN I+k)) (λk=>(mz Z).q (Z.bN I+k)))/\(∀n,28<=n->n<33->q0 (n+5)=q0 n)/\l=[CF ((I*Z.C+0:Nat):Int) 0 (ro Z.k Z.len 0 (Z.H I) (cx (Z.H I) λk=>(mz Z).A (Z.bN I+k)) (λk=>(mz Z).q (Z.bN I+k)):Int) false]) ->
   NwP Z I eG U h (.tuple ⟨[bb P,.int .i64 0]⟩) iG qf:=by
  intro iG qf q0 aY l bw vy B Vz nB hj1 Bg;obtain⟨g,bd⟩:=CI (λd=>if d<U\/d=P\/d=L\/d=L+1\/d=L+2\/aY=some d then 1 else 0) iG qf;have y5:∀d,u g d=if d<qf/\(if d<U\/d=P\/d=L\/d=L+1\/d=L+2\/aY=some d then 1 else 0)=0 then u iG d else none:=bd
  have aB7:∀d,U<=d->d<qf->d≠P->(d<L\/L+3<=d)->aY≠some d->u g d=u iG d:=λd h1 M aH bh b0=>by
   rw[y5 d,if_pos ⟨M,if_neg (by rintro(e|e|e|e|e|e) <;> first|exact b0 e|omega)⟩]
  have ci:∀d,(d<U\/d=P\/d=L\/d=L+1\/d=L+2\/aY=some d)->u g d=none:=λd h1=>by rw[y5 d,if_neg λe=>by rw[if_pos h1]at e;exact absurd e.2 (by decide)]
  have DL:∀d,d<L+3->aY≠some d:=λd bs e=>by have:=nB d e;omega
  have pb:∀d,P+1<=d->d<L->u g d=u cj d:=λd h1 M=>by rw[aB7 d J J J (.inl M) (DL d J),vy d J J,gN d J M]
  refine⟨P,q0,aY,L,L+1,L+2,l,g,rfl,⟨λd bs=>(vy d J J).trans (r8 d bs),J,⟨J,J,J,DL _ J,ci _ (by simp),(vy _ J J).trans UH.1⟩,⟨J,J,J,DL _ J,ci _ (by simp),(vy _ J J).trans UH.2.1⟩,⟨J,J,J,DL _ J,ci _ (by simp),(vy _ J J).trans UH.2.2⟩,J,Vz,λb e=>⟨by have:=nB b e;omega,ci b (by simp[e])⟩,⟨jt.sub bd,ci _ (by simp),λd bs=>by rw[y5 d,if_neg J]⟩,λd bs=>ci d (.inl bs),⟨?_,?_,?_,?_,?_,?_,?_,?_,?_,?_⟩,?_,hj1,λe=>?_⟩,J⟩
  ·rw[B 2 J J,iZ,MV]
  ·rw[B 3 J J,hO,dT]
  ·rw[B 4 J J,Bp,uv]
  ·rw[B 5 J J,MP,xy]
  ·rw[B 6 J J,aB6,Vy];exact(eY.F SB (ea:=0) (dB:=qf) (λd h1 M=>by rw[pb d J J,h5 d J,ar J,e7 d J,ar J]) J J).rd
  ·rw[B 7 J J,iT,ei]
  ·rw[B 9 J J,Vk,aDt]
  ·exact⟨_,_,(B 10 J J).trans ou⟩
  ·rw[B 11 J J,B 12 J J,B 13 J J,B 14 J J,B 15 J J];exact(aDx.F (ea:=0) (dB:=qf) (λd h1 M=>by rw[pb d J J,h5 d J,ar J]) J J).is
  ·rw[B 16 J J,B 17 J J,B 18 J J,B 19 J J,B 20 J J,B 21 J J];exact⟨fl,fe,Us,(ym.F aDy (ea:=0) (dB:=qf) (λd h1 M=>pb d J J) J J).s⟩
  ·obtain⟨az,a2,a3,aZ,bI,bj,a6,bq,cH,dd,d5⟩:=aDz;exact⟨(B _ J J).trans az,(B _ J J).trans a2,(B _ J J).trans a3,(B _ J J).trans aZ,(B _ J J).trans bI,(B _ J J).trans bj,(B _ J J).trans a6,(B _ J J).trans bq,(B _ J J).trans cH,(B _ J J).trans dd,(B _ J J).trans d5⟩
  ·obtain⟨dA,⟨Mp,b2,d2,fJ⟩,gl,Ii⟩:=Bg e;exact⟨dA,(fJ.wid (ea:=0) (dB:=qf) (λd h1 M=>aB7 d J J J (.inr h1) λe=>by have:=b2 d e;omega) J d2).rd,gl,Ii⟩
 have GQ:P<L+3:=J
 refine⟨λo9=>?_,λo9=>fin ut (L+3) E none [] (cR _) (λ_ _ _=>rfl) (λ_ _ _=>rfl) ⟨Mo,GQ,J,J,J,cb,zo,g8,by rw[nM,ee],by rw[x22];exact .nil,nofun⟩ (nofun) (λ_=>⟨rfl,TY⟩) λe=>absurd o9 (by rw[e];decide)⟩;have hJ0:eG=0:=by have:=uC.1 o9;omega
 subst hJ0;refine(uS (n:=Z.N) (k:=Z.R) (i:=I) J J J J).f5 ⟨cR _,?_⟩;refine ll @mI @ei @dT (cF (J:I<1000000000000)) ?_;refine(uS (n:=Z.N) (k:=Z.R) (i:=I+1) J J J J).f5 ⟨cR _,?_⟩;have bx:c8 Z.N Z.R (I+1)=Z.bN I+Z.H I:=by unfold cn.H cn.bN;omega
 have nA:Z.bN I+Z.H I<=Z.N:=by rw[<-bx];exact hl3
 rw[bx,show c8 Z.N Z.R I=Z.bN I from rfl];refine cM @mI @dT ?_;have hdS:dg ut (L+1+1+1) (.slice a9 x.bu.length gs) cY x.bu:=H.d.F r8 J;rw[dT]at eF;refine(aoA (m:=Z.H I) (low:=Z.bN I) hdS eF J J J).mono ?_;rintro aJ h8 n8 ⟨dV,yZ,ahj⟩;have aDA:∀k:Nat,(mz Z).A (Z.bN I+k)=va x.k x.src ((Z.bN I:Int)+(k:Int)):=λk=>by show va Z.k Z.src ((Z.bN I+k:Nat):Int)=_;rw[MV,uv,vQ]
 have aDB:∀k:Nat,(mz Z).q (Z.bN I+k)=tF x.k x.src ((Z.bN I:Int)+(k:Int)):=λk=>by show tF Z.k Z.src ((Z.bN I+k:Nat):Int)=_;rw[MV,uv,vQ]
 replace dV:lO h8 (L+3) n8 aJ (Z.bN I:Int) ((Z.bN I+Z.H I:Nat):Int) (Z.H I) (cx (Z.H I) λk=>(mz Z).A (Z.bN I+k)) (cx (Z.H I) λk=>(mz Z).B (Z.bN I+k)) (λk=>(mz Z).q (Z.bN I+k)):=by simp only[aDA,aDB];exact dV
 have L6:=dV;obtain⟨dp,fW,fw,rfl,fE,gh,gt⟩:=dV;obtain⟨sa1,sc1,rfl,_⟩:=id fE;obtain⟨sa2,sc2,rfl,_⟩:=id gh;obtain⟨sa3,sc3,rfl,_⟩:=id gt;have gw8:=(yZ P J).trans Mo;refine ll @gw8 @asL @asM @asO ?_;refine⟨J,?_⟩;have hdK:pt h8 n8 (.slice UF x.bu.length UG) Z.k Z.src Z.len Z.N Z.bu:=⟨by rw[Vy];exact(eY.F SB (ea:=0) (dB:=n8) (ab:=h8) (λd h1 M=>by rw[yZ d J,gN d J J,h5 d J,ar J,e7 d J,ar J]) J J).rd,K.dok,K.n60,K.pl,K.hn⟩
 generalize D4:nz (nz E 28 _) 33 _=he;have sI:∀n,n<28\/38<=n->he n=E n:=λn bw=>by rw[<-D4,tp (by show n<33\/38<=n;omega),tp (by show n<28\/33<=n;omega)]
 have Lx:Value.agg ⟨[he 28,he 29,he 30,he 31,he 32]⟩ = .agg ⟨[.int .i64 (Z.bN I:Int),((Z.bN I+Z.H I:Nat):X),.slice sa1 (cx (Z.H I) λk=>(mz Z).A (Z.bN I+k)).length sc1,.slice sa2 (cx (Z.H I) λk=>(mz Z).B (Z.bN I+k)).length sc2,.slice sa3 (eT (Z.H I) λk=>(mz Z).q (Z.bN I+k)).length sc3]⟩:=by rw[<-D4];rfl
 have S4:Value.agg ⟨[he 33,he 34,he 35,he 36,he 37]⟩ = .agg ⟨[.int .i64 (Z.bN I:Int),((Z.bN I+Z.H I:Nat):X),.slice sa1 (cx (Z.H I) λk=>(mz Z).A (Z.bN I+k)).length sc1,.slice sa2 (cx (Z.H I) λk=>(mz Z).B (Z.bN I+k)).length sc2,.slice sa3 (eT (Z.H I) λk=>(mz Z).q (Z.bN I+k)).length sc3]⟩:=by rw[<-D4];rfl
 have bK:∀n,28<=n->n<33->he (n+5)=he n:=λn h1 M=>by
  rw[<-D4];rcases(by omega:n=28\/n=29\/n=30\/n=31\/n=32)with rfl|rfl|rfl|rfl|rfl <;> rfl
 clear D4;have Vw:∀{o},e0 (T (T h8 P o) P (.cells (dE he) false)) n8 P he I 0 Z.C [] none:=λ{o}=>⟨aR _ _ _,J,J,J,J,cb,(sI 0 J).trans zo,(sI 1 J).trans g8,by rw[sI 8 J,nM,ee],by rw[sI 22 J,x22];exact .nil,nofun⟩
 refine(W4 (k:=Z.k) (N:=Z.N) (src:=Z.src) (len:=Z.len) (bu:=Z.bu) (S:=mz Z) (low:=Z.bN I) (m:=Z.H I) (l:=[]) Vw (by decide) { hdK with d:=?_ } (by rw[sI 2 J,iZ,MV]) (by rw[sI 3 J,hO,dT]) (by rw[sI 4 J,Bp,uv]) (by rw[sI 5 J,MP,xy]) ?_ nA).mono ?_
 ·rw[sI 6 J,aB6,Vy];exact(eY.F SB (ea:=0) (dB:=n8) (λd h1 M=>by rw[ar J,ar J,yZ d J,gN d J J,h5 d J,ar J,e7 d J,ar J]) J J).rd
 ·rw[S4];exact(L6.wid (ea:=0) (dB:=n8) (λd h1 M=>by rw[ar J,ar J]) J (cR _)).rd
 rintro _ iG qf ⟨rfl,d7,cr,Vz,h4,hf9,ahl⟩;have aB8:∀d,d<n8->d≠P->u iG d=u h8 d:=λd h1 M=>by rw[hf9 d h1 M (nofun),ar M,ar M]
 refine fin iG qf _ (some cr) _ J (λd h1 M=>by rw[aB8 d J M,yZ d J]) (λn h1 M=>by rw[dP h1,dP J];exact sI n J) Vz (λb e=>by cases e;omega) (λe=>absurd rfl e) λ_=>⟨?_,⟨n8,λb e=>(by cases e;exact h4),ahl,?_⟩,λn h1 M=>?_,rfl⟩
 ·rw[dP J,yt]
 ·rw[dP J,dP J,dP J,dP J,dP J,dP J,dP J,dP J,dP J,dP J,Lx];exact L6.wid (λd h1 M=>aB8 d M J) (cR _) (cR _)
 ·rw[dP J,dP J,dP J,dP J];exact bK n h1 M
def cn.e3(Z:cn):m6:=⟨Z.k,Z.N,Z.src,Z.len,λb=>iM Z.bu Z.N b,Z.ag,Z.lim⟩
def cn.j3(Z:cn)(t i:Nat):Int:=(ro Z.k Z.len t (Z.H i) (cx (Z.H i) λk=>(Z.e3.st t).A (Z.bN i+k)) (λk=>(Z.e3.st t).q (Z.bN i+k)):Int)
def cn.gn(Z:cn)(t:Nat):Int:=x5 false (decide (∃i,i<Z.R/\Z.j3 t i≠0)) (t:Int) (Z.lim:Int)
def pI(Z:cn):cB->kM
 | .share i j t=>Kk Z i t (Z.e3.x t) j
 | .spread i j t=>Ql Z j t (Z.e3.x t) i
 | .dG i j t=>⟨3,((i*Z.C+j:Nat):Int),((i*Z.C+0:Nat):Int),t,0,[],bp (Z.H i) (iK (hu Z.k t) (Z.cut i j) λk=>Z.e3.x t (Z.lc j+k)),0,false⟩
 | .dH i t=>⟨4,((i*Z.C+0:Nat):Int),0,t,0,[],[],Z.j3 t i,false⟩
 | .order i t=>tl Z t (Z.gn t) i
def cn.vh(Z:cn)(t i:Nat)(d1:Nat->ao)(v:Nat):ay Int:=Ak (hu Z.k t) Z.ag (Z.e3.x t) (Z.bN i) (Z.H i) Z.C Z.lc d1 (v-Z.bN i)
structure Lc (Z:cn) (ax:Nat) (x:gi) (i:Nat) (g h:ae) (U:Nat) (c:Nat->X) (so:ay Nat) (b4:Nat):Prop where
 D5:c 26 = ((x.a i-1:Nat):X)
 Bi:c 27 = .int .i64 (if x.a i=0 then 0 else Z.gn (x.a i-1))
 Mq:c 38 = .bool (x.w i)
 D6:c 39 = .bool (decide (0<x.a i))
 has:jr g U (.agg ⟨[c 28,c 29,c 30,c 31,c 32]⟩) (Z.bN i) (Z.H i) (Z.e3.st (x.a i-1))
 UI:jr g U (.agg ⟨[c 33,c 34,c 35,c 36,c 37]⟩) (Z.bN i) (Z.H i) (Z.e3.st (if x.w i=true then x.a i else x.a i-1))
 m2:x.w i=true->c 40 = .slice none 0 0/\so=none
 m3:x.w i=false->x.a i<=ax->iP h b4 Z.C (x.d1 i) (λ_ v=>v = .bool true)/\nc h (c 40) (bp (Z.H i) λk=>Z.vh (x.a i) i (x.d1 i) (Z.bN i+k)) so
theorem Lc.F{Z:cn}{ax:Nat}{x fD:gi}{i:Nat}{g h cG ab:ae}{U Y:Nat}{c bT:Nat->X}{so:ay Nat}{b4:Nat}(M:Lc Z ax x i g h U c so b4)(D:fD.a i=x.a i)(K:fD.w i=x.w i)(I:fD.d1 i=x.d1 i)(B:∀n,26<=n->n<41->bT n=c n)(L:aA U g cG)(E:U<=Y)(h1:u ab b4=u h b4)(ap:∀b,so=some b->u ab b=u h b):Lc Z ax fD i cG ab Y bT so b4:=by
 refine⟨?_,?_,?_,?_,?_,?_,λe=>?_,λe aP=>?_⟩
 ·rw[B 26 J J,D];exact M.D5
 ·rw[B 27 J J,D];exact M.Bi
 ·rw[B 38 J J,K];exact M.Mq
 ·rw[B 39 J J,D];exact M.D6
 ·rw[B 28 J J,B 29 J J,B 30 J J,B 31 J J,B 32 J J,D];exact hy.F M.has L E
 ·rw[B 33 J J,B 34 J J,B 35 J J,B 36 J J,B 37 J J,D,K];exact hy.F M.UI L E
 ·rw[B 40 J J];exact M.m2 aa
 ·rw[B 40 J J,I,D];obtain⟨P,eF⟩:=M.m3 aa J;exact⟨P.F h1 aa,eF.F ap⟩
structure jH (Z:cn) (ax:Nat) (x:gi) (i j:Nat) (own:Nat->Nat) (g h:ae) (U aL:Nat) (c:Nat->X) (l:ac eC) (aY so:ay Nat) (bC b4 cE:Nat):Prop where
 W:e0 h U aL c i j Z.C l aY
 z:kl g U c Z i j
 p:own aL=i*Z.C+j+1
 b:∀b,aY=some b->own b=i*Z.C+j+1
 f:kR g 0 U l ((x.out (i*Z.C+j)).map (pI Z))
 d6:bC<U/\own bC=i*Z.C+j+1/\bC≠aL/\aY≠some bC/\so≠some bC
 gV:b4<U/\own b4=i*Z.C+j+1/\b4≠aL/\aY≠some b4/\so≠some b4
 ji:cE<U/\own cE=i*Z.C+j+1/\cE≠aL/\aY≠some cE/\so≠some cE
 ne:bC≠b4/\bC≠cE/\b4≠cE
 s:∀b,so=some b->b<U/\own b=i*Z.C+j+1/\b≠aL/\aY≠some b
 o4:c 24 = .map (some bC)
 my:c 41 = .map (some b4)
 rY:c 43 = .map (some cE)
 rT:c 25 = ((x.q i j+1:Nat):X)
 top:i=0->c 23 = ((x.P j+1:Nat):X)/\iP h bC Z.R (x.e2 j) (sU g 0 U Z j (Z.e3.x (x.P j+1)))
 o:j=0->Lc Z ax x i g h U c so b4
 m4:∃es cL,u h b4=some (.map es cL)
 one:i=0->j=0->c 42 = (x.V:X)/\c 44 = .bool (decide (ax<x.V))/\iP h cE Z.R x.fR (HS (Z.j3 x.V))
theorem wo{dJ:Nat}{own:Nat->Nat}{h ab:ae}{U Y:Nat}(aY so:ay Nat)(B:U<=Y)(same:∀d,d<U->own d≠dJ->u ab d=u h d):
  ∃db cG,jt db ab Y cG/\D1 dJ own db h ab U Y/\(∀d,U<=d->(aY=some d\/so=some d)->db d=dJ)/\(∀d,U<=d->aY≠some d->so≠some d->db d=0):=by
 obtain⟨cG,D⟩:=CI (λd=>if d<U then own d else if aY=some d\/so=some d then dJ else 0) ab Y;refine⟨_,cG,D,⟨B,same,aa,aa⟩,aa,aa⟩
 all_goals grind
def D7(Z:cn)(ax:Nat)(x:gi)(m:cB)(i j:Nat)(own:Nat->Nat)(h:ae)(U aL bC b4 cE:Nat):bZ:=λr ab Y=>r = .bool true/\∃db cG bT cV gU rX,jH Z ax (cX Z.R Z.C ax x m) i j db cG ab Y aL bT cV gU rX bC b4 cE/\jt db ab Y cG/\D1 (i*Z.C+j+1) own db h ab U Y
section
variable {s:ao} {g h:ae} {U aL i j al ax t:Nat} {c:Nat->X} {l:ac eC} {aY so:ay Nat} {Z:cn} {own:Nat->Nat} {x:gi} {bC b4 cE:Nat}
theorem jH.UJ(R:jH Z ax x i j own g h U aL c l aY so bC b4 cE)(B:jt own h U g):rW g h U aL:=⟨B.sub,by rw[B aL,if_neg (by have:=R.p;omega)],λd D=>by rw[B d,if_neg J]⟩
theorem jt.Do{dJ d:Nat}(B:jt own h U g)(E:own d=dJ)(D:dJ≠0):u g d=none:=by rw[B d,if_neg J]
theorem apI{x:Nat->ay Int}(h:∀g∈ag,x g.t=y g.t):iK r ag x=iK r ag y:=by
 funext v
 unfold iK;rw[q5 λg B=>by rw[h g B]]
theorem aiA{f:eC}{p:kM}{x:Nat->ay Int}(K:f8 Z)(W:e0 h U aL c i j Z.C l aY)(H:kl h U c Z i j)(br:l.length<900)(bD:mY h U f p)(cK:t<900)(hA:p.l4=bp (Z.W j) x)(ej:p.l7=(Z.W j:Int))(M:p.round=(t:Int))(E:c 25 = (t:X))(aj:i<Z.R)(aX:∀i y,i<Z.W j->x i=some y->0<=y/\y<=eS):
  aD Q s 134 [bb aL,.agg ⟨eh f⟩,.agg ⟨[.int .i64 0,(j:X)]⟩] h U (λr ab Y=>r = .bool true/\∃d7 D I,e0 ab Y aL (hl (hl c 25 (((t+1:Nat):X))) 22 d7) i j Z.C (l++[I]) (some D) /\
   sS ab U D I ⟨3,((i*Z.C+j:Nat):Int),((i*Z.C+0:Nat):Int),t,0,[],bp (Z.H i) (iK (hu Z.k t) (Z.cut i j) x),0,false⟩/\U<=D/\(∀d,d<U->d≠aL->aY≠some d->u ab d=u h d)/\U<=Y):=by
 have e:∀k,k<Z.W j->(λk=>if k<Z.W j then x k else none) k=x k:=λk P=>if_pos P;have L:=aiw (s:=s) (x:=λk=>if k<Z.W j then x k else none) K W H br bD cK (by rw[hA];exact(ya e).symm) ej M E aj λk y B=>by
  have B:(if k<Z.W j then x k else none)=some y:=B
  split at B
  ·exact aX k y J B
  ·cases B
 rw[apI λg bd=>e g.t ((aeK K).mj g bd)]at L;exact L
theorem jH.spread{f:eC}(K:f8 Z)(R:jH Z ax x i j own g h U aL c l aY so bC b4 cE)(P:jt own h U g)(aX:m7 Z.R Z.C ax x (.spread i j t))(fe:ax<900)(er:∀v y,v<Z.N->Z.e3.x t v=some y->0<=y/\y<=eS)(bD:lz h al U f (pI Z (.spread i j t)))(br:(x.out (i*Z.C+j)).length<800):
  aD Q s 63 [bb aL,.agg ⟨eh f⟩] h U (D7 Z ax x (.spread i j t) i j own h U aL bC b4 cE):=by
 obtain⟨aj,cb,cK,tV⟩:=aX;have gT:=R.f.len;rw[gW]at gT;refine FB (lC:=2)   R.W R.z.gN K.nQ bD.is.lR (by rw[bD.is.fB,mb,iU];rfl) J cb bD.is.kind J λL bg M E=>?_;have nO:e0 L bg aL c i j Z.C l aY:=R.W.F (λd bs=>M d (bs.elim (λe=>e ▸ R.W.lt) λe=>(R.W.aY d e).2)) E;refine(aiA   K nO ((R.z.sub P.sub).F M E) J (bD.is.F M E) J rfl rfl rfl (by rw[R.rT,cK]) aj λk y hk=>er _ _ (by have:=CV K j;unfold cn.W at hk;omega)).mono ?_;rintro _ ab Y ⟨rfl,d7,cr,kJ,dr,hS,h4,lP,wH⟩;have n9:∀d,d<U->d≠aL->aY≠some d->u ab d=u h d:=λd L I aH=>(lP d J I aH).trans (M d L);obtain⟨db,cG,gy,D,qQ,lg⟩:=wo      (Y:=Y) (some cr) none J λd L I=>n9 d L (λe=>I (by rw[e,R.p])) λe=>I (R.b d e);have e8:=P.F gy D J;have fH:=(dr.aY cr rfl).2;obtain⟨aW,aP,cy,eE,ir,hA,gN,ur,i1,Ml⟩:=I4;have a5:∀n,n≠22->n≠25->hl (hl c 25 (((t+1:Nat):X))) 22 d7 n=c n:=λn L I=>by rw[dP L,dP I]
 have B:U<=Y:=J
 obtain⟨az,a2,a3,aZ,bI⟩:=R.d6;obtain⟨dA,b2,d2,fJ,gl⟩:=R.gV;obtain⟨en,fT,ia,nP,r9⟩:=R.ji;refine⟨rfl,db,cG,hl (hl c 25 (((t+1:Nat):X))) 22 d7,l++[kJ],some cr,so,⟨dr,(R.z.set aa).F e8 B,(D.dZ aL R.W.lt).trans R.p,aa,?_,
  ⟨J,(D.dZ bC az).trans a2,a3,aa,bI⟩,⟨J,(D.dZ b4 dA).trans b2,d2,aa,gl⟩,⟨J,(D.dZ cE en).trans fT,ia,aa,r9⟩,R.ne,λb e=>?_,(a5 24 J J).trans R.o4,(a5 41 J J).trans R.my,(a5 43 J J).trans R.rY,?_,λaq=>?_,λaq=>?_,?_,λaq L=>?_⟩,gy,D⟩
 ·have gL:(cX Z.R Z.C ax x (.spread i j t)).out (i*Z.C+j)=x.out (i*Z.C+j)++[.dG i j t]:=by show up x.out (i*Z.C+j) (x.out (i*Z.C+j)++d4 Z.R Z.C ax x (.spread i j t)) (i*Z.C+j)=_;rw[g4,Ml]
  rw[gL,hr];exact(R.f.F (λb _ I=>e8 b I) J B).app ⟨hS.F (gy.new J aa) J J,trivial⟩
 ·obtain⟨dq,eF,hb,mF⟩:=R.s b e;exact⟨J,(D.dZ b dq).trans eF,hb,aa⟩
 ·rw[ur,<-cK,dP J,yt]
 ·obtain⟨dq,eF⟩:=R.top aq;exact⟨aa,eF.F aa λi v aI=>ln.F aI (λb _ I=>e8 b I) J B⟩
 ·exact(R.o aq).F aa aa aa aa e8 B aa λb e=>by obtain⟨cf,kY,nl,cW⟩:=R.s b e;grind
 ·obtain⟨es,cL,q⟩:=R.m4
  grind
 ·obtain⟨dq,eF,hb⟩:=R.one aq L;exact⟨aa,aa,hb.F aa λ_ _ h=>h⟩
end
theorem eY.sub{l:ac aB}{g h:ae}{al:Nat}(H:eY g al aj v enc l)(S:lb g h)(h1:ea<=al)(P:aj<=dB):eY h ea dB v enc l:=by obtain⟨a,cap,e,H⟩:=H;refine⟨a,cap,e,λE=>?_⟩;obtain⟨b,I,D,L,M,K,B⟩:=H E;exact⟨b,I,D,J,J,K,S _ _ B⟩
section
variable {s:ao} {g h:ae} {U aL i j al ax t:Nat} {c:Nat->X} {l:ac eC} {aY so:ay Nat} {Z:cn} {own:Nat->Nat} {x:gi} {bC b4 cE:Nat}
theorem jH.share{f:eC}{dR:Nat}(K:f8 Z)(R:jH Z ax x 0 j own g h U aL c l aY so bC b4 cE)(eL:jt own h U g)(aX:m7 Z.R Z.C ax x (.share dR j t))(fe:ax<900)(bD:lz h al U f (pI Z (.share dR j t)))(br:(x.out (0*Z.C+j)).length<800):
  aD Q s 63 [bb aL,.agg ⟨eh f⟩] h U (D7 Z ax x (.share dR j t) 0 j own h U aL bC b4 cE):=by
 have t6:=aX;obtain⟨aj,cb,cK,UK,tV⟩:=aX;have gT:=R.f.len;rw[gW]at gT;obtain⟨SC,Ld⟩:=R.top rfl;obtain⟨az,a2,a3,aZ,bI⟩:=R.d6;obtain⟨dA,b2,d2,fJ,gl⟩:=R.gV;obtain⟨en,fT,ia,nP,r9⟩:=R.ji;obtain⟨D8,DD,AX⟩:=R.ne;refine FB (lC:=1)   R.W R.z.gN K.nQ (by rw[bD.is.lR,mb,iU];rfl) bD.is.fB aj K.hI bD.is.kind J λL bg P M=>?_;have nO:e0 L bg aL c 0 j Z.C l aY:=R.W.F (λd bs=>P d (bs.elim (λe=>e ▸ R.W.lt) λe=>(R.W.aY d e).2)) M;have G:=R.UJ eL;have oE:rW g L bg aL:=⟨G.sub λd bs _=>P d bs,G.p,λd bs=>G.n d J⟩
 rw[<-cK]at SC Ld;refine(ajH    K nO oE ((R.z.sub eL.sub).F P M) (by have:=K.nQ;omega) J (bD.is.F P M) rfl rfl rfl SC R.o4 (Ld.F (P bC az) λi v aI=>ln.F aI aa J M) ⟨J,a3,aZ,eL.Do a2 J⟩ aj UK).mono ?_;rintro _ ab Y ⟨rfl,bT,gU,dD,B,vt,rV,lP,dr,oQ⟩;have n9:∀d,d<U->d≠aL->d≠bC->aY≠some d->u ab d=u h d:=λd L ap aH bh=>(lP d J ap aH bh).trans (P d L);have I:U<=Y:=J
 obtain⟨db,cG,gy,D,qQ,lg⟩:=wo       gU none I λd L ap=>n9 d L (λe=>ap (by rw[e,R.p])) aa λe=>ap (R.b d e);have e8:=eL.F gy D J;obtain⟨_,aP,cy,eE,ir,hA,gN,ur,i1⟩:=Ja t6;have gL:(cX Z.R Z.C ax x (.share dR j t)).out (0*Z.C+j)=x.out (0*Z.C+j)++d4 Z.R Z.C ax x (.share dR j t):=by rw[mb,iU];exact g4 _ _ _
 have o0:∀b,so=some b->u ab b=u h b:=λb e=>by obtain⟨cf,kY,nl,cW⟩:=R.s b e;grind
 have rP:=n9 b4 dA d2 (kt D8) fJ;have ub:=n9 cE en ia (kt DD) nP;have lF:lb g cG:=λd o bs=>by
  have L:d<U:=ED λL=>by rw[G.n d L]at bs;grind
  rw[e8 d L];omega
 have vA:∃es cL,u ab b4=some (.map es cL):=by
  obtain⟨es,cL,q⟩:=R.m4
  grind
 rcases oQ with⟨⟨k,hk,HU⟩,E,rfl,rfl,D9⟩|⟨lM,E,h23,hS,⟨cL,wW⟩,cr,rfl,h4⟩
 ·rcases i1 with⟨q,_⟩|⟨_,l1,nN,nS⟩
  ·have:=q k hk;rw[show up (x.e2 j) dR true k=_ from HU]at this;cases this
  refine⟨rfl,db,cG,bT,l,gU,so,⟨by rw[hC]at dr;exact dr,(R.z.set aa).F e8 I,(D.dZ aL R.W.lt).trans R.p,λb e=>(D.dZ b (R.W.aY b e).2).trans (R.b b e),by rw[gL,nS,hC];exact R.f.F (λb _ ap=>e8 b ap) J I,
   ⟨J,(D.dZ bC az).trans a2,a3,aZ,bI⟩,⟨J,(D.dZ b4 dA).trans b2,d2,fJ,gl⟩,⟨J,(D.dZ cE en).trans fT,ia,nP,r9⟩,R.ne,λb e=>?_,(E 24).trans R.o4,(E 41).trans R.my,(E 43).trans R.rY,by rw[E 25,aP];exact R.rT,λ_=>⟨?_,?_⟩,λaq=>(R.o aq).F aa aa aa aa e8 I rP o0,vA,λ_ L=>?_⟩,gy,D⟩
  ·obtain⟨dq,eF,hb,mF⟩:=R.s b e;exact⟨J,(D.dZ b dq).trans eF,hb,mF⟩
  ·grind
  ·rw[l1,nN,<-cK];refine D9.F rfl λi v aI=>?_;rcases aI with⟨gK,e,aI⟩|⟨gK,e,aI⟩
   ·exact⟨gK,e,eY.sub aI lF J J⟩
   ·exact⟨gK,e,eY.F aI (gy.new J λd L ap=>lg d J (λe=>by have:=(R.W.aY d e).2;omega) aa) J J⟩
  ·obtain⟨dq,eF,hb⟩:=R.one rfl L;rw[hA,gN];exact⟨aa,aa,hb.F ub λ_ _ h=>h⟩
 ·rcases i1 with⟨_,l1,nN,nS⟩|⟨q,_⟩
  case inr=>exact absurd (λk hk=>lM k hk) q
  refine⟨rfl,db,cG,bT,l++dD,some cr,so,⟨dr,(R.z.set aa).F e8 I,(D.dZ aL R.W.lt).trans R.p,aa,?_,
   ⟨J,(D.dZ bC az).trans a2,a3,aa,bI⟩,⟨J,(D.dZ b4 dA).trans b2,d2,aa,gl⟩,⟨J,(D.dZ cE en).trans fT,ia,aa,r9⟩,R.ne,λb e=>?_,(E 24 J J).trans R.o4,(E 41 J J).trans R.my,(E 43 J J).trans R.rY,by rw[E 25 J J,aP];exact R.rT,λ_=>⟨?_,?_⟩,λaq=>(R.o aq).F aa (congrFun ir 0) (congrFun eE 0) (λn L ap=>E n J J) e8 I rP o0,vA,λ_ L=>?_⟩,gy,D⟩
  ·rw[gL,nS,hr,qk];exact(R.f.F (λb _ ap=>e8 b ap) (cR _) I).app (hS.F (gy.new rV λd L ap=>lg d J (λe=>aa) nofun) J rV)
  ·obtain⟨dq,eF,hb,mF⟩:=R.s b e;exact⟨J,(D.dZ b dq).trans eF,hb,λew=>aa⟩
  ·grind
  ·rw[nN];exact iP.no wW
  ·obtain⟨dq,eF,hb⟩:=R.one rfl L;rw[hA,gN];exact⟨(E 42 J J).trans dq,(E 44 J J).trans eF,hb.F ub λ_ _ h=>h⟩
end
section
variable {s:ao} {g h:ae} {U aL i j al ax t:Nat} {c:Nat->X} {l:ac eC} {aY so:ay Nat} {Z:cn} {own:Nat->Nat} {x:gi} {bC b4 cE:Nat}
theorem jH.dH{f:eC}{dR:Nat}(K:f8 Z)(R:jH Z ax x 0 0 own g h U aL c l aY so bC b4 cE)(eL:jt own h U g)(aX:m7 Z.R Z.C ax x (.dH dR t))(fe:ax<900)(GU:∀t,t<=ax->(Z.gn t=0↔t<ax))(bD:lz h al U f (pI Z (.dH dR t)))(br:(x.out (0*Z.C+0)).length<800):
  aD Q s 63 [bb aL,.agg ⟨eh f⟩] h U (D7 Z ax x (.dH dR t) 0 0 own h U aL bC b4 cE):=by
 have t6:=aX;obtain⟨aj,cK,UK,tV⟩:=aX;have gT:=R.f.len;rw[gW]at gT;obtain⟨C8,As,ahm⟩:=R.one rfl rfl;obtain⟨az,a2,a3,aZ,bI⟩:=R.d6;obtain⟨dA,b2,d2,fJ,gl⟩:=R.gV;obtain⟨en,fT,ia,nP,r9⟩:=R.ji;obtain⟨D8,DD,AX⟩:=R.ne;refine FB (lC:=4)   R.W R.z.gN K.nQ (by rw[bD.is.lR,mb,iU];rfl) bD.is.fB aj K.hI bD.is.kind J λh1 bg dv fa=>?_;have nO:e0 h1 bg aL c 0 0 Z.C l aY:=R.W.F (λd bs=>dv d (bs.elim (λe=>e ▸ R.W.lt) λe=>(R.W.aY d e).2)) fa;rw[<-cK]at C8 As ahm;rw[ht J]at As;refine(alZ  (j3:=Z.j3 t)  K nO R.z.gN R.z.i1 (by have:=K.nQ;omega) J bD.is.round bD.is.od bD.is.n C8 R.rY As (ahm.F (dv cE en) λ_ _ h=>h) aa aj UK).mono ?_;rintro _ ab Y ⟨rfl,bT,gU,dD,B,vt,rV,lP,dr,oQ⟩;have M:∀d,d<U->d≠aL->d≠cE->aY≠some d->u ab d=u h d:=λd h1 L aH bh=>(lP d J L aH bh).trans (dv d h1);have E:U<=Y:=J
 obtain⟨db,cG,gy,D,qQ,lg⟩:=wo       gU none E λd h1 L=>M d h1 (λe=>L (by rw[e,R.p])) aa λe=>L (R.b d e);have e8:=eL.F gy D J;obtain⟨_,aW,aP,cy,eE,ir,hA,i1⟩:=Jd t6;have gL:(cX Z.R Z.C ax x (.dH dR t)).out (0*Z.C+0)=x.out (0*Z.C+0)++d4 Z.R Z.C ax x (.dH dR t):=by rw[mb,iU];show up x.out 0 (x.out 0++d4 Z.R Z.C ax x (.dH dR t)) 0=_;rw[g4]
 have o0:∀b,so=some b->u ab b=u h b:=λb e=>by obtain⟨cf,kY,nl,cW⟩:=R.s b e;grind
 have rP:=M b4 dA d2 AX fJ;have AO:=M bC az a3 DD aZ;have vA:∃es cL,u ab b4=some (.map es cL):=by
  obtain⟨es,cL,q⟩:=R.m4
  grind
 obtain⟨SC,Ld⟩:=R.top rfl;have P:iP ab bC Z.R (x.e2 0) (sU cG 0 Y Z 0 (Z.e3.x (x.P 0+1))):=Ld.F AO λi v aI=>ln.F aI (λb _ L=>e8 b L) J E;rcases oQ with⟨⟨k,hk,HU⟩,I,rfl,rfl,D9⟩|⟨lM,I,st,ij,h42,h44,hS,⟨cL,wW⟩,cr,rfl,h4⟩
 ·rcases i1 with⟨q,_⟩|⟨_,l1,nN,nS⟩
  ·have:=q k hk;rw[show up x.fR dR true k=_ from HU]at this;cases this
  refine⟨rfl,db,cG,bT,l,gU,so,⟨by rw[hC]at dr;exact dr,(R.z.set aa).F e8 E,(D.dZ aL R.W.lt).trans R.p,λb e=>(D.dZ b (R.W.aY b e).2).trans (R.b b e),by rw[gL,nS,hC];exact R.f.F (λb _ L=>e8 b L) J E,
   ⟨J,(D.dZ bC az).trans a2,a3,aZ,bI⟩,⟨J,(D.dZ b4 dA).trans b2,d2,fJ,gl⟩,⟨J,(D.dZ cE en).trans fT,ia,nP,r9⟩,R.ne,λb e=>?_,(I 24).trans R.o4,(I 41).trans R.my,(I 43).trans R.rY,by rw[I 25,cy];exact R.rT,λ_=>⟨aa,by rw[aW,aP];exact P⟩,λaq=>(R.o aq).F aa aa aa aa e8 E rP o0,vA,λ_ _=>?_⟩,gy,D⟩
  ·obtain⟨dq,eF,hb,mF⟩:=R.s b e;exact⟨J,(D.dZ b dq).trans eF,hb,mF⟩
  ·rw[l1,nN,<-cK];exact⟨aa,aa,D9⟩
 ·rcases i1 with⟨_,l1,nN,nS⟩|⟨q,_⟩
  case inr=>exact absurd (λk hk=>lM k hk) q
  have aAb:st=Z.gn t:=ij;subst aAb;refine⟨rfl,db,cG,bT,l++dD,some cr,so,⟨dr,(R.z.set aa).F e8 E,(D.dZ aL R.W.lt).trans R.p,aa,?_,
   ⟨J,(D.dZ bC az).trans a2,a3,aa,bI⟩,⟨J,(D.dZ b4 dA).trans b2,d2,aa,gl⟩,⟨J,(D.dZ cE en).trans fT,ia,aa,r9⟩,R.ne,λb e=>?_,(I 24 J J J).trans R.o4,(I 41 J J J).trans R.my,(I 43 J J J).trans R.rY,by rw[I 25 J J J,cy];exact R.rT,λ_=>⟨aa,by rw[aW,aP];exact P⟩,λaq=>(R.o aq).F (congrFun eE 0) (congrFun hA 0) (congrFun ir 0) (λn h1 L=>I n J J J) e8 E rP o0,vA,λ_ _=>?_⟩,gy,D⟩
  ·rw[gL,nS,hr,qk];exact(R.f.F (λb _ L=>e8 b L) (cR _) E).app (hS.F (gy.new rV λd h1 L=>lg d J (λe=>aa) nofun) J rV)
  ·obtain⟨dq,eF,hb,mF⟩:=R.s b e;exact⟨J,(D.dZ b dq).trans eF,hb,λew=>aa⟩
  ·rw[l1,nN,<-cK];refine⟨h42,?_,iP.no wW⟩
   grind
end
structure VA (Z:cn) (t:Nat):Prop where
 c:∀i d1 v y,Z.vh t i d1 v=some y->0<=y/\y<=eS
 b:∀i j v y,iK (hu Z.k t) (Z.cut i j) (λk=>Z.e3.x t (Z.lc j+k)) v=some y->0<=y/\y<=eS
theorem Qo{Z:cn}{t i j:Nat}(D:j<Z.C)(B:d1 j=false)(v:Nat):Z.vh t i (λk=>if k=j then true else d1 k) v=e6 (hu Z.k t) (Z.vh t i d1 v) (iK (hu Z.k t) (Z.cut i j) (λk=>Z.e3.x t (Z.lc j+k)) (v-Z.bN i)):=aom D B _
theorem aAc(Z:cn):Z.lc 0=0:=by unfold cn.lc c8;simp
theorem aAd{Z:cn}(K:f8 Z):Z.lc Z.C=Z.N:=by unfold cn.lc c8;rw[Nat.min_self];exact M6 _ K.hI
theorem apJ{Z:cn}(K:f8 Z){t i:Nat}(D:∀j,j<Z.C->d1 j=true)(B:k<Z.H i):Z.vh t i d1 (Z.bN i+k)=iK (hu Z.k t) Z.ag (Z.e3.x t) (Z.bN i+k):=by unfold cn.vh;rw[M5];exact ak2  (λa b h=>uJ h) (aAc Z) (aAd K) (λg E=>K.M.mj g E) D B
theorem avR{Z:cn}(K:f8 Z){B:Nat}{v:Nat}(D:fQ v=iK (hu Z.k (B+1)) Z.ag (Z.e3.x (B+1)) v):
  (tJ Z.k (iM Z.bu Z.N ((B+1-1) / 2)) (B+1) (hu Z.k (B+1)) (Z.e3.st B) fQ).A v=(Z.e3.st (B+1)).A v/\(tJ Z.k (iM Z.bu Z.N ((B+1-1) / 2)) (B+1) (hu Z.k (B+1)) (Z.e3.st B) fQ).B v=(Z.e3.st (B+1)).B v/\(tJ Z.k (iM Z.bu Z.N ((B+1-1) / 2)) (B+1) (hu Z.k (B+1)) (Z.e3.st B) fQ).q v=(Z.e3.st (B+1)).q v:=by unfold tJ;simp only[D];exact⟨rfl,rfl,rfl⟩
theorem ax8{n:Nat}{p:Nat->ao}(h:∀k,k<n->p k=q k):eT n p=eT n q:=by unfold eT;rw[Cz h]
theorem atw{k round:Int}{m:Nat}{p:Nat->ao}(h:∀k,k<m->p k=q k):ro k len round m A p=ro k len round m A q:=by
 have:ez m p=ez m q:=by exact IM aa
 unfold ro
 grind
theorem hy.ext{h:ae}{U:Nat}{al aj:Int}{n:Nat}{B E D:ac Int}{p:Nat->ao}(H:hy h U v al aj n A B p)(P:A=E)(er:B=D)(K:∀k,k<n->p k=q k):hy h U v al aj n E D q:=by obtain⟨M,L,I,e,a,b,c⟩:=H;rw[ax8 K]at c;subst P er;exact⟨M,L,I,e,a,b,c⟩
section
variable {s:ao} {g h:ae} {U aL i j al ax t:Nat} {c:Nat->X} {l:ac eC} {aY so:ay Nat} {Z:cn} {own:Nat->Nat} {x:gi} {bC b4 cE:Nat}
theorem jH.dG{f:eC}{iu:Nat}(K:f8 Z)(R:jH Z ax x i 0 own g h U aL c l aY so bC b4 cE)(eL:jt own h U g)(aX:m7 Z.R Z.C ax x (.dG i iu t))(fe:ax<900)(GU:∀t,t<=ax->(Z.gn t=0↔t<ax))(B:VA Z t)(bD:lz h al U f (pI Z (.dG i iu t)))(br:(x.out (i*Z.C+0)).length<800):
  aD Q s 63 [bb aL,.agg ⟨eh f⟩] h U (D7 Z ax x (.dG i iu t) i 0 own h U aL bC b4 cE):=by
 have t6:=aX;obtain⟨aj,cb,bV,cK,h1,tV,Mr⟩:=aX;have gT:=R.f.len;rw[gW]at gT;have O:=R.o rfl;obtain⟨m3a,m3b⟩:=O.m3 bV J;obtain⟨az,a2,a3,aZ,bI⟩:=R.d6;obtain⟨dA,b2,d2,fJ,gl⟩:=R.gV;obtain⟨en,fT,ia,nP,r9⟩:=R.ji;obtain⟨D8,DD,AX⟩:=R.ne;refine FB (lC:=3)   R.W R.z.gN K.nQ bD.is.lR bD.is.fB aj cb bD.is.kind J λoZ bg dv fa=>?_;have nO:e0 oZ bg aL c i 0 Z.C l aY:=R.W.F (λd bs=>dv d (bs.elim (λe=>e ▸ R.W.lt) λe=>(R.W.aY d e).2)) fa;have G:=R.UJ eL;have oE:rW g oZ bg aL:=⟨G.sub λd bs _=>dv d bs,G.p,λd bs=>G.n d J⟩
 rw[<-cK]at m3b;have kn:=O.has;rw[<-cK]at kn;refine(aiz     (y:=λv=>iK (hu Z.k t) (Z.cut i iu) (λk=>Z.e3.x t (Z.lc iu+k)) (v-Z.bN i))   K nO oE (R.z.F aF fa) J aj h1 J (bD.F (λb _ P=>dv b P) (cR _) fa) rfl (ya aa) (λv y=>B.c _ _ v y) (λv y=>B.b _ _ _ y) (λv y cd=>B.c i (λk=>if k=iu then true else x.d1 i k) v y (by rw[Qo cb Mr];omega))
  (hy.F kn aF fa) (m3b.F λb e=>dv b (R.s b e).1) (λb e=>by obtain⟨cf,kY,nl,cW⟩:=R.s b e;grind) (by rw[O.D5,cK]) (by rw[O.Bi,if_neg J,(GU (x.a i-1) J).2 J]) (by rw[O.Mq,bV]) R.my (m3a.F (dv b4 dA) aa) ⟨J,d2,fJ,eL.Do b2 J⟩ cb Mr).mono ?_
 rintro _ ab Y ⟨rfl,bT,gU,rX,dD,D9,wH,lP,dr,Sy,oQ⟩;have n9:∀d,d<U->d≠aL->d≠b4->aY≠some d->u ab d=u h d:=λd h1 P aH bh=>(lP d J P aH bh).trans (dv d h1);have I:U<=Y:=J
 obtain⟨db,cG,gy,D,qQ,lg⟩:=wo       gU rX I λd h1 P=>n9 d h1 (λe=>P (by rw[e,R.p])) aa λe=>P (R.b d e);have e8:=eL.F gy D J;obtain⟨_,aW,aP,cy,eE,ir,hA,_,i1⟩:=I3 t6;have gL:(cX Z.R Z.C ax x (.dG i iu t)).out (i*Z.C+0)=x.out (i*Z.C+0)++d4 Z.R Z.C ax x (.dG i iu t):=by show up x.out (i*Z.C) (x.out (i*Z.C)++d4 Z.R Z.C ax x (.dG i iu t)) (i*Z.C)=_;rw[g4];rfl
 have AO:=n9 bC az a3 D8 aZ;have ub:=n9 cE en ia (kt AX) nP;have ahn:∀bT:Nat->X,bT 23=c 23->i=0->bT 23 = (((cX Z.R Z.C ax x (.dG i iu t)).P 0+1:Nat):X)/\iP ab bC Z.R ((cX Z.R Z.C ax x (.dG i iu t)).e2 0) (sU cG 0 Y Z 0 (Z.e3.x ((cX Z.R Z.C ax x (.dG i iu t)).P 0+1))):=λbT e aq=>by obtain⟨t1,t2⟩:=R.top aq;rw[aW,aP,e];exact⟨t1,t2.F AO λi v aI=>ln.F aI (λb _ P=>e8 b P) J I⟩
 have KR:∀bT:Nat->X,bT 42=c 42->bT 44=c 44->i=0->(0:Nat)=0->bT 42 = .int .i64 ((cX Z.R Z.C ax x (.dG i iu t)).V:Int)/\bT 44 = .bool (decide (ax<(cX Z.R Z.C ax x (.dG i iu t)).V))/\iP ab cE Z.R (cX Z.R Z.C ax x (.dG i iu t)).fR (HS (Z.j3 (cX Z.R Z.C ax x (.dG i iu t)).V)):=λbT dq eF aq h1=>by obtain⟨t1,t2,t3⟩:=R.one aq h1;rw[ir,hA,dq,eF];exact⟨t1,t2,t3.F ub λ_ _ h=>h⟩
 have vA:∃es cL,u ab b4=some (.map es cL):=by obtain⟨L,cL,q,_,_⟩:=D9.ex;exact⟨_,cL,q.at_⟩
 have hz:(cX Z.R Z.C ax x (.dG i iu t)).a i=t:=aa
 rcases oQ with⟨⟨k,hk,HU⟩,E,rfl,rfl,hO'⟩|⟨lM,E,h38,y8,rfl,cr,kN,rfl,Uv,h4,hSt,rfl⟩
 ·rcases i1 with⟨q,_⟩|⟨_,l1,nN,nS⟩
  ·have:=q k hk;rw[show up (x.d1 i) iu true k=_ from HU]at this;cases this
  refine⟨rfl,db,cG,bT,l,gU,rX,⟨by rw[hC]at dr;exact dr,(R.z.set λn _ _=>E n J).F e8 I,(D.dZ aL R.W.lt).trans R.p,λb e=>(D.dZ b (R.W.aY b e).2).trans (R.b b e),by rw[gL,nS,hC];exact R.f.F (λb _ P=>e8 b P) (cR _) I,
   ⟨J,(D.dZ bC az).trans a2,a3,aZ,λe=>aa⟩,⟨J,(D.dZ b4 dA).trans b2,d2,fJ,λe=>aa⟩,⟨J,(D.dZ cE en).trans fT,ia,nP,λe=>aa⟩,R.ne,λb e=>?_,(E 24 J).trans R.o4,(E 41 J).trans R.my,(E 43 J).trans R.rY,by rw[E 25 J,cy];exact R.rT,ahn bT (E 23 J),λaq=>⟨?_,?_,?_,?_,?_,?_,λe=>?_,λ_ _=>?_⟩,vA,KR bT (E 42 J) (E 44 J)⟩,gy,D⟩
  ·have:=R.W.lt
   grind
  ·rw[E 26 J,eE];exact O.D5
  ·rw[E 27 J,eE];exact O.Bi
  ·rw[E 38 J,l1,O.Mq,bV]
  ·rw[E 39 J,eE];exact O.D6
  ·rw[E 28 J,E 29 J,E 30 J,E 31 J,E 32 J,eE];exact hy.F O.has e8 I
  ·rw[E 33 J,E 34 J,E 35 J,E 36 J,E 37 J,eE,l1,<-bV];exact hy.F O.UI e8 I
  ·grind
  ·rw[nN,hz];refine⟨D9,?_⟩;rw[show(bp (Z.H i) λk=>Z.vh t i (up (x.d1 i) iu true) (Z.bN i+k))=bp (Z.H i) λk=>e6 (hu Z.k t) (Z.vh t i (x.d1 i) (Z.bN i+k)) (iK (hu Z.k t) (Z.cut i iu) (λk=>Z.e3.x t (Z.lc iu+k)) (Z.bN i+k-Z.bN i))from ya λk _=>Qo cb Mr _];exact hO'
 ·rcases i1 with⟨_,fh,nS⟩|⟨q,_⟩
  case inr=>exact absurd (λk hk=>lM k hk) q
  have fH:=(dr.aY cr rfl).2;obtain⟨M,eI⟩:∃M,t=M+1:=⟨t-1,J⟩
  subst eI;have nn:∀k,k<Z.H i->kN.A (Z.bN i+k)=(Z.e3.st (M+1)).A (Z.bN i+k)/\kN.B (Z.bN i+k)=(Z.e3.st (M+1)).B (Z.bN i+k)/\kN.q (Z.bN i+k)=(Z.e3.st (M+1)).q (Z.bN i+k):=λk hk=>by rw[Uv];exact avR K (by rw[<-Qo cb Mr];exact apJ K lM hk)
  have h0:(cx (Z.H i) λk=>kN.A (Z.bN i+k))=cx (Z.H i) λk=>(Z.e3.st (M+1)).A (Z.bN i+k):=JE λk hk=>(nn k hk).1;have er:(cx (Z.H i) λk=>kN.B (Z.bN i+k))=cx (Z.H i) λk=>(Z.e3.st (M+1)).B (Z.bN i+k):=JE λk hk=>(nn k hk).2.1;have dT:(ro Z.k Z.len ((M+1:Nat):Int) (Z.H i) (cx (Z.H i) λk=>kN.A (Z.bN i+k)) (λk=>kN.q (Z.bN i+k)):Int)=Z.j3 (M+1) i:=by unfold cn.j3;rw[h0,atw λk hk=>(nn k hk).2.2]
  rw[dT]at dr;have n5:lO cG bg cr (.agg ⟨[bT 33,bT 34,bT 35,bT 36,bT 37]⟩) (Z.bN i:Int) ((Z.bN i+Z.H i:Nat):Int) (Z.H i) (cx (Z.H i) λk=>kN.A (Z.bN i+k)) (cx (Z.H i) λk=>kN.B (Z.bN i+k)) (λk=>kN.q (Z.bN i+k)):=hSt.wid (gy.new J λd h1 P=>lg d J (λe=>aa) (nofun)) (cR _) (cR _);refine⟨rfl,db,cG,bT,_,some cr,none,⟨dr,(R.z.set λn h1 P=>E n J J J J).F e8 I,(D.dZ aL R.W.lt).trans R.p,λb e=>aa,?_,
   ⟨J,(D.dZ bC az).trans a2,a3,λe=>aa,nofun⟩,⟨J,(D.dZ b4 dA).trans b2,d2,λe=>aa,nofun⟩,⟨J,(D.dZ cE en).trans fT,ia,λe=>aa,nofun⟩,R.ne,(nofun),(E 24 J J J J).trans R.o4,(E 41 J J J J).trans R.my,(E 43 J J J J).trans R.rY,by rw[E 25 J J J J,cy];exact R.rT,ahn bT (E 23 J J J J),λaq=>⟨?_,?_,?_,?_,?_,?_,λ_=>⟨y8,rfl⟩,λe=>?_⟩,vA,KR bT (E 42 J J J J) (E 44 J J J J)⟩,gy,D⟩
  ·rw[gL,nS,hr];exact(R.f.F (λb _ P=>e8 b P) (cR _) I).app ⟨⟨rfl,rfl,rfl,rfl,rfl,wA,wA,rfl,rfl,rfl⟩,trivial⟩
  ·rw[E 26 J J J J,eE];exact O.D5
  ·rw[E 27 J J J J,eE];exact O.Bi
  ·grind
  ·rw[E 39 J J J J,eE];exact O.D6
  ·rw[E 28 J J J J,E 29 J J J J,E 30 J J J J,E 31 J J J J,E 32 J J J J,eE];exact hy.F O.has e8 I
  ·rw[fh,if_pos rfl,hz];exact hy.ext (lO.rd (n5.wid   (λ_ _ _=>rfl) J J)) h0 er λk hk=>(nn k hk).2.2
  ·rw[fh]at e;cases e
end
theorem ax9(Z:cn)(t:Nat):Z.gn t=0\/Z.gn t=1\/Z.gn t=2:=by
 unfold cn.gn x5
 grind
theorem atx(Z:cn)(t i:Nat):(bp (Z.H i) λk=>Z.vh t i lQ (Z.bN i+k))=[]:=
 List.eq_nil_iff_forall_not_mem.2 λp B=>by have h:=((j6  ).1 B).2;rw[show Z.vh t i lQ (Z.bN i+p.1)=none from aol _]at h;cases h
section
variable {s:ao} {g h:ae} {U aL i j al ax t:Nat} {c:Nat->X} {l:ac eC} {aY so:ay Nat} {Z:cn} {own:Nat->Nat} {x:gi} {bC b4 cE:Nat}
theorem jH.order{f:eC}(K:f8 Z)(R:jH Z ax x i 0 own g h U aL c l aY so bC b4 cE)(eL:jt own h U g)(aX:m7 Z.R Z.C ax x (.order i t))(fe:ax<900)(GU:∀t,t<=ax->(Z.gn t=0↔t<ax))(bD:lz h al U f (pI Z (.order i t)))(br:(x.out (i*Z.C+0)).length<800):
  aD Q s 63 [bb aL,.agg ⟨eh f⟩] h U (D7 Z ax x (.order i t) i 0 own h U aL bC b4 cE):=by
 have t6:=aX;obtain⟨aj,bV,cK,tV⟩:=aX;have gT:=R.f.len;rw[gW]at gT;have O:=R.o rfl;obtain⟨o40,oso⟩:=O.m2 bV;subst oso;obtain⟨az,a2,a3,aZ,bI⟩:=R.d6;obtain⟨dA,b2,d2,fJ,gl⟩:=R.gV;obtain⟨en,fT,ia,nP,r9⟩:=R.ji;obtain⟨D8,DD,AX⟩:=R.ne;obtain⟨es,cL,vA⟩:=R.m4;refine FB (lC:=5)   R.W R.z.gN K.nQ bD.is.lR (by rw[bD.is.fB,mb];rfl) J K.hI bD.is.kind J λoZ bg dv I=>?_;have nO:e0 oZ bg aL c i 0 Z.C l aY:=R.W.F (λd bs=>dv d (bs.elim (λe=>e ▸ R.W.lt) λe=>(R.W.aY d e).2)) I;have G:=R.UJ eL;have oE:rW g oZ bg aL:=⟨G.sub λd bs _=>dv d bs,G.p,λd bs=>G.n d J⟩
 have kn:=O.has;have h0:=O.UI;rw[if_pos bV]at h0;rw[<-cK]at kn h0;refine(aix   (st:=Z.gn t)   K nO oE (R.z.F aF I) (by have:=K.mL;omega) aj J bD.is.round bD.is.n (ax9 Z t) (λM=>by rw[M]at kn ⊢;exact hy.F kn aF I) (hy.F h0 aF I) (by rw[O.D5,cK]) (by
   rw[O.Bi,<-cK]
   grind) (by rw[O.Mq,bV]) (by rw[O.D6,cK]) R.my ((dv b4 dA).trans vA) aa).mono ?_
 rintro _ ab Y ⟨rfl,bT,gU,dD,B,P,y8,dr,hS,vt,rV,nB,hmp,lP,wH⟩;have n9:∀d,d<U->d≠aL->(Z.gn t=0->d≠b4)->aY≠some d->u ab d=u h d:=λd h1 ap aH bh=>(lP d J ap aH bh).trans (dv d h1);have E:U<=Y:=J
 obtain⟨db,cG,gy,D,qQ,lg⟩:=wo       gU none E λd h1 ap=>n9 d h1 (λe=>ap (by rw[e,R.p])) aa λe=>ap (R.b d e);have e8:=eL.F gy D J;obtain⟨aW,aP,cy,ir,hA,_,_,hz,fh,qU,_,nS⟩:=NL t6;have gL:(cX Z.R Z.C ax x (.order i t)).out (i*Z.C+0)=x.out (i*Z.C+0)++d4 Z.R Z.C ax x (.order i t):=by show up x.out (i*Z.C) (x.out (i*Z.C)++d4 Z.R Z.C ax x (.order i t)) (i*Z.C)=_;rw[g4];rfl
 have AO:=n9 bC az a3 (λ_=>D8) aZ;have ub:=n9 cE en ia (λ_=>kt AX) nP;have pe:=P.a;have aI:=GU t tV;have L:(cX Z.R Z.C ax x (.order i t)).a i=t+1:=J
 refine⟨rfl,db,cG,bT,l++dD,gU,none,⟨dr,(R.z.set aa).F e8 E,(D.dZ aL R.W.lt).trans R.p,λb e=>?_,?_,
  ⟨J,(D.dZ bC az).trans a2,a3,aa,J⟩,⟨J,(D.dZ b4 dA).trans b2,d2,aa,J⟩,⟨J,(D.dZ cE en).trans fT,ia,aa,J⟩,R.ne,aa,(pe 24 J).trans R.o4,(pe 41 J).trans R.my,(pe 43 J).trans R.rY,by rw[pe 25 J,cy];exact R.rT,λM=>?_,λM=>⟨?_,?_,?_,?_,?_,?_,λe=>?_,λ_ dx=>?_⟩,?_,λM h1=>?_⟩,gy,D⟩
 ·rcases nB b e with q|q
  ·exact(D.dZ b (R.W.aY b q).2).trans (R.b b q)
  grind
 ·rw[gL,nS,hr];refine(R.f.F (λb _ ap=>e8 b ap) (cR _) E).app ?_;have Ms:=hS.F (ea:=0)  (gy.new rV λd h1 ap=>lg d J (λe=>(nB d e).elim (λq=>by have:=(R.W.aY d q).2;omega) λq=>J) nofun) J rV
  by_cases h:t<ax
  ·rw[if_pos (aI.2 h)]at Ms;rw[if_pos h,qk];exact Ms
  ·rw[if_neg λe=>h (aI.1 e)]at Ms;rw[if_neg h];exact Ms
 ·obtain⟨t1,t2⟩:=R.top M;rw[aW,aP,pe 23 J];exact⟨t1,t2.F AO λi v aI=>ln.F aI (λb _ ap=>e8 b ap) (cR _) E⟩
 ·rw[L];exact P.r
 ·rw[L,if_neg J];exact P.s
 ·rw[fh];exact P.w
 ·rw[L,hf J];exact P.b
 ·rw[L,P.h 28 J J,P.h 29 J J,P.h 30 J J,P.h 31 J J,P.h 32 J J]
  by_cases M:t=0
  ·simp only[if_pos M];rw[M]at kn ⊢;exact hy.F kn e8 E
  ·simp only[if_neg M];exact hy.F h0 e8 E
 ·rw[L,fh,pe 33 J,pe 34 J,pe 35 J,pe 36 J,pe 37 J];exact hy.F h0 e8 E
 ·grind
 ·have M:Z.gn t=0:=aI.2 J;rw[qU,L,atx,y8,if_pos M];exact⟨iP.no (hmp M),.inl ⟨rfl,rfl,rfl⟩⟩
 ·grind
 ·obtain⟨t1,t2,t3⟩:=R.one M h1;rw[ir,hA,pe 42 J,pe 44 J];exact⟨t1,t2,t3.F ub λ_ _ h=>h⟩
end
section
variable {s:ao} {g cG h ab:ae} {U Y aL i j al ax t dJ:Nat} {c:Nat->X} {l:ac eC} {aY so:ay Nat} {Z:cn} {own db:Nat->Nat} {x fD:gi} {bC b4 cE:Nat}
theorem jH.other(R:jH Z ax x i j own g h U aL c l aY so bC b4 cE)(B:U<=Y)(same:∀d,d<U->own d≠dJ->u ab d=u h d)(K:∀d,d<U->db d=own d)(r6:i*Z.C+j+1≠dJ)(L:aA U g cG)(eq:fD.q i j=x.q i j)(gL:fD.out (i*Z.C+j)=x.out (i*Z.C+j))(zf:i=0->fD.P j=x.P j/\fD.e2 j=x.e2 j)(aM:j=0->fD.a i=x.a i/\fD.w i=x.w i/\fD.d1 i=x.d1 i)(aW:i=0->j=0->fD.V=x.V/\fD.fR=x.fR):jH Z ax fD i j db cG ab Y aL c l aY so bC b4 cE:=by
 have au:∀d,d<U->own d=i*Z.C+j+1->u ab d=u h d:=aa
 have a1:∀b,aY=some b->b<U:=λb e=>(R.W.aY b e).2;obtain⟨az,a2,a3,aZ,bI⟩:=R.d6;obtain⟨dA,b2,d2,fJ,gl⟩:=R.gV;obtain⟨en,fT,ia,nP,r9⟩:=R.ji;refine⟨R.W.F (λd bs=>bs.elim (λe=>by rw[e];exact au aL R.W.lt R.p) λe=>au d aa (R.b d e)) B,R.z.F L B,(K aL R.W.lt).trans R.p,λb e=>(K b (a1 b e)).trans (R.b b e),by rw[gL];exact R.f.F (λb _ ap=>L b ap) J B,
  aa,aa,aa,R.ne,λb e=>?_,R.o4,R.my,R.rY,by rw[eq];exact R.rT,λD=>?_,λD=>?_,?_,λD h1=>?_⟩
 ·obtain⟨I,E,hb,mF⟩:=R.s b e
  grind
 ·obtain⟨P,M⟩:=R.top D;obtain⟨I,E⟩:=zf D;rw[I,E];exact⟨P,M.F aa λi v aI=>ln.F aI (λb _ ap=>L b ap) J B⟩
 ·obtain⟨I,E,hb⟩:=aM D;exact(R.o D).F I E hb aa L B aa λb e=>au b (R.s b e).1 (R.s b e).2.1
 ·obtain⟨es,cL,q⟩:=R.m4
  grind
 ·obtain⟨P,M,t3⟩:=R.one D h1;obtain⟨I,E⟩:=aW D h1;rw[I,E];exact⟨P,M,t3.F aa λ_ _ h=>h⟩
theorem jH.gone{m:cB}{r:ac cB}(R:jH Z ax x i j own g h U aL c l aY so bC b4 cE)(K:jt own h U g)(bx:x.out (i*Z.C+j)=m::r):
  ∃f I,l=f::I/\sS g 0 U f (pI Z m)/\aD Q s 62 [bb aL] h U (λmJ ab Y=>mJ = .tuple ⟨[]⟩/\Y=U/\∃bT,jH Z ax { x with out:=up x.out (i*Z.C+j) r } i j own g ab U aL bT I aY so bC b4 cE/\jt own ab U g/\∀d,d<U->own d≠i*Z.C+j+1->u ab d=u h d):=by
 have D:=R.f;rw[bx]at D;cases l with
 |nil=>exact D.elim
 |cons f I =>
  refine⟨f,I,rfl,D.1,(apC R.W rfl).mono ?_⟩;rintro _ ab _ ⟨rfl,d7,dr,L,rfl⟩;obtain⟨az,a2,a3,aZ,bI⟩:=R.d6;obtain⟨dA,b2,d2,fJ,gl⟩:=R.gV;obtain⟨en,fT,ia,nP,r9⟩:=R.ji;have E:∀n,n≠22->hl c 22 d7 n=c n:=λn bw=>dP bw;have bn:=R.p;refine⟨rfl,rfl,_,⟨dr,R.z.set aa,R.p,R.b,?_,R.d6,R.gV,R.ji,R.ne,R.s,(E 24 J).trans R.o4,(E 41 J).trans R.my,(E 43 J).trans R.rY,(E 25 J).trans R.rT,λB=>?_,λB=>?_,?_,λB h1=>?_⟩,λd=>?_,aa⟩
  ·rw[show({ x with out:=up x.out (i*Z.C+j) r }:gi).out (i*Z.C+j)=r from g4 _ _ _];exact D.2
  ·obtain⟨P,M⟩:=R.top B;exact⟨aa,M.F aa λ_ _ h=>h⟩
  ·exact(R.o B).F rfl rfl rfl aa aF J aa λb e=>L b (R.s b e).2.2.1
  ·obtain⟨es,cL,q⟩:=R.m4
   grind
  ·obtain⟨P,M,t3⟩:=R.one B h1;exact⟨aa,aa,t3.F aa λ_ _ h=>h⟩
  ·rw[K d]
   grind
end
section
variable {s:ao} {g ch h ab:ae} {U Y aL i j ax:Nat} {c:Nat->X} {l:ac eC} {aY:ay Nat} {Z:cn} {own:Nat->Nat} {bC b4 cE:Nat}
theorem jH.init(K:f8 Z)(N:NwI Z i j U h ab Y aL c aY bC b4 cE l ch)(S:lb ch g)(aj:i<Z.R)(cb:j<Z.C)(bn:own aL=i*Z.C+j+1)(a1:∀b,aY=some b->own b=i*Z.C+j+1)(h1:own bC=i*Z.C+j+1)(ap:own b4=i*Z.C+j+1)(aH:own cE=i*Z.C+j+1):
  jH Z ax (mu Z.R Z.C) i j own g ab Y aL c l aY none bC b4 cE:=by
 obtain⟨m23,L,m25,I,M,D6,m40,m41,m42,P,m44⟩:=N.m;obtain⟨aC,az,a2,a3,aZ,bI⟩:=N.d6;obtain⟨Bo,dA,b2,d2,fJ,gl⟩:=N.gV;obtain⟨aDC,en,fT,ia,nP,r9⟩:=N.ji;refine⟨N.W,N.z.sub S,bn,a1,?_,aa,aa,aa,N.ne,aa,L,m41,P,m25,λ_=>⟨m23,iP.no bI⟩,λE=>?_,⟨_,_,gl⟩,λE Bg=>⟨m42,?_,iP.no r9⟩⟩
 ·have bx:(i*Z.C+j) % Z.C=j:=by rw[xQ,Nat.mul_add_mod,IN cb]
  by_cases E:j=0
  ·subst E;obtain⟨_,_,_,rfl⟩:=N.aB0 rfl;have cS:i*Z.C+0<Z.R*Z.C:=ps aj cb;have bs:(i*Z.C+0) / Z.C=i:=by rw[mM];exact Nat.mul_div_cancel _ cb
   have:(mu Z.R Z.C).out (i*Z.C+0)=[.dH i 0]:=by
    show(if(i*Z.C+0) % Z.C=0/\i*Z.C+0<Z.R*Z.C then[cB.dH ((i*Z.C+0) / Z.C) 0]else[])=_
    grind
   rw[this];exact⟨⟨rfl,rfl,rfl,rfl,rfl,wA,wA,rfl,rfl,rfl⟩,trivial⟩
  ·obtain⟨rfl,_⟩:=N.aDs E;have:(mu Z.R Z.C).out (i*Z.C+j)=[]:=if_neg J;rw[this]
   trivial
 ·obtain⟨dq,eF,B,_⟩:=N.aB0 E;have D:jr g Y (.agg ⟨[c 28,c 29,c 30,c 31,c 32]⟩) (Z.bN i) (Z.H i) (Z.e3.st 0):=hy.sub eF S;refine⟨I,M,dq,D6,D,?_,aa,λe=>by cases e⟩;rw[B 28 J J,B 29 J J,B 30 J J,B 31 J J,B 32 J J];exact D
 ·rw[m44,show(mu Z.R Z.C).V=0 from rfl,ht J]
end
def Rh:ac (ac Nat):=[[1,2,3,5,22,23]]
def acK(s:ao)(az a2 a3 bI eM ki:X)(h:ae)(U:Nat)(N:aQ)(aM:aQ)(R:aQ):Prop:=cv ki eM (av h 8 az λc=>cg 131 [c,ki] h U λd e f=>bl 8 az λg=>bY e g λi=>da g i (cg 132 [i,ki] e f λj k l=>aG 12 k az λm=>jx 12 az m (cg 59 [m,d,j] k l λn o p=>af (cu n 0) λq=>af (cu n 1) λr=>ko r (R [az,(.pointer none),r,bI,eM,ki] o p) (af (bB bI) λaS=>av o 12 aS λw=>dS (eO 1 [(.pointer none)] [(0,1,q)]) o p λx y z=>dm (dI (dn 1 y z w x)) λbz bS bA=>af (bB bI) λa9=>bl 12 a9 λbM=>af (aN bS 1 bM bz) λb5=>av b5 8 az λcJ=>aV s 132 [cJ,ki] b5 bA λcp dk c3=>bm .eql 3 cp (ad 0) (af (bB bI) λam=>av dk 14 am λek=>dS (eO 1 [(.pointer none)] [(0,1,q)]) dk c3 λfK fU gk=>dm (dI (dn 1 fU gk ek fK)) λhp hQ fV=>af (bB bI) λjA=>bl 14 jA λjB=>af (aN hQ 1 jB hp) λjJ=>b9 ki λlj=>N [az,a2,a3,bI,eM,lj] jJ fV) (b9 ki λfj=>N [az,a2,a3,bI,eM,fj] dk c3))) 2 [e,h]) 1 [h]) (aM [az,a2,a3,bI,eM,ki] h U)
def af8:cO:=λs ah h U K=>bG ah h U λa b c=>aG 12 b a λd=>aV s 121 [d] b c λe f g=>ko e (K (.tuple ⟨[(.pointer none),e]⟩) f g) (aG 12 f a λj=>dS (.ok .map) f g λk l m=>af (cw [(ad 0),(ad 0),(ad 0),(ad 0),aw,(ad 0),aw,(ad 0),(ad 0),(ad 0),(ad 0),aw,aw,(.map none),aw,aw] [(0,12,j),(13,1,k)]) λn=>bG n l m λo p q=>av p 7 a λt=>av p 8 a λv=>bE .mul 3 t v λw=>bF (bW Q s Rh 70 0) [a,(.pointer none),(ad 0),o,w,(ad 0)] p q [(0,λx y z=>aV s 140 [(aT x 3)] y z λbz bS bA=>K (.tuple ⟨[(aT x 3),(ad 0)]⟩) bS bA)] (λa9 bM b5=>K (.tuple ⟨[(aT a9 1),(aT a9 2)]⟩) bM b5))
theorem aty{s:ao}{E D B:X}{h:ae}{U:Nat}{R:aQ}:bW Q s Rh 70 0 [E,a2,a3,D,eM,B] h U N [(0,aM)] R=acK s E a2 a3 D eM B h U N aM R:=by kernel_rfl
theorem avS:cQ 70 af8:=cT Rh
def acL:cO:=λs ah h U K=>bm .neq 110 ah (.pointer none) (af (bB ah) λb=>av h 14 b λd=>aV s 141 [d,(.func (.func 142) #[] #[])] h U λe f g=>af (ds .not e) λi=>K i f g) (K (.bool false) h U)
theorem apK:cQ 71 acL:=cT []
def Fi:ac (ac Nat):=[[0,3,15,16],[0,3,27,28,29]]
def W7(s:ao)(aC a3 jg hi:X)(h:ae)(U:Nat)(N:aQ)(aM:aQ)(R:aQ):Prop:=cv hi jg (aV s 143 [aC,hi] h U λb c d=>bt b (b9 hi λe=>N [aC,(.bool true),jg,e] c d) (b9 hi λf=>N [aC,a3,jg,f] c d)) (aM [aC,a3,jg,hi] h U)
def W8(s:ao)(aC a3 w9 sT p1:X)(h:ae)(U:Nat)(N:aQ)(aP:aQ)(R:aQ):Prop:=cv p1 sT (gD 2 h 2 w9 p1 λc=>bX [(ad 0),(ad 0)] h U λd e f=>af (aN e 2 d c) λg=>af (bB aC) λi=>av g 13 i λk=>aG 2 g d λl=>af (j9 Q g 198 (.pointer none) false k l) λm=>aV s 145 [m] g f λn o p=>cg 147 [m] o p λq r t=>af (f0 (.array 2 1) d (ad 0)) λaS=>bY r aS λv=>da aS v (af (f0 (.array 2 1) d (ad 1)) λw=>bY r w λx=>da w x (cg 146 [aC,v,x,q] r t λy z bz=>bt a3 (b9 p1 λbS=>N [aC,(.bool true),w9,sT,bS] z bz) (aV s 145 [m] z bz λbA a9 bM=>bE .lss 3 bA n λb5=>b9 p1 λbO=>N [aC,b5,w9,sT,bO] a9 bM)) 1 [o]) 1 [o]) (aP [aC,a3,w9,sT,p1] h U)
def aaj:cO:=λs ah h U K=>bm .eql 110 ah (.pointer none) (K (.bool false) h U) (af (bB ah) λb=>av h 12 b λd=>cP d λe=>bF (bW Q s Fi 72 0) [ah,(.bool false),e,(ad 0)] h U [(0,λf g i=>aV s 144 [(aT f 0)] g i λj k l=>cP j λm=>bF (bW Q s Fi 72 1) [(aT f 0),(aT f 1),j,m,(ad 0)] k l [(2,λn o p=>K (aT n 1) o p)] (λ_ _ _=>False))] (λ_ _ _=>False))
theorem ajI{s:ao}{D B:X}{h:ae}{U:Nat}{R:aQ}:bW Q s Fi 72 0 [aC,a3,D,B] h U N [(0,aM)] R=W7 s aC a3 D B h U N aM R:=by kernel_rfl
theorem ajJ{s:ao}{D B E:X}{h:ae}{U:Nat}{R:aQ}:bW Q s Fi 72 1 [aC,a3,D,B,E] h U N [(2,aP)] R=W8 s aC a3 D B E h U N aP R:=by kernel_rfl
theorem al3:cQ 72 aaj:=cT Fi
def NS(s:ao)(K:bZ)(cA cN ca:X)(aq:ae)(a0:Nat):Prop:=av aq 1 ca λb=>aV s 155 [cA,b] aq a0 λc d e=>af (cu c 0) λf=>af (cu c 1) λg=>bl 2 ca λi=>af (aN d 5 i f) λj=>aG 7 j ca λk=>af (aN j 7 cN k) λl=>aG 7 l cN λm=>K m l e
def aak:cO:=λs ah h U K=>bX [(ad 0),(ad 0),(ad 0),(ad 0),aw,aw,aw] h U λa b c=>bm .eql 110 ah (.pointer none) (af (cw [(ad 0),(ad 0),(ad 0),(ad 0),aw,aw,aw] []) λe=>af (aN b 7 a e) λf=>aG 7 f a λg=>K g f c) (aV s 150 [ah] b c λi j k=>af (cw [(ad 0),(ad 0),(ad 0),(ad 0),aw,aw,aw] [(1,1,i)]) λl=>bX [(ad 0),(ad 0),(ad 0),(ad 0),aw,aw,aw] j k λm n o=>af (aN n 7 m l) λp=>aV s 71 [ah] p o λq r t=>bt q (af (bB ah) λaS=>av r 14 aS λw=>et r 1 w (ad 0) λy=>fg Q s (hV r t [y] (.func (.func 67) #[] #[])) λz bz bS=>bl 0 m λbA=>af (aN bz 1 bA z) λa9=>(NS s K ah a m a9 bS)) (NS s K ah a m r t))
theorem al4:cQ 74 aak:=cT []
def RO:gj:=λs ah t1 t2 h U K=>bG ah h U λa b c=>bX [(ad 0),(ad 0),(ad 0),(ad 0),aw,aw,aw,(ad 0),(ad 0)] b c λd e f=>aG 12 e a λg=>aV s 157 [g,t1,t2] e f λi j k=>af (cu i 0) λl=>af (cu i 1) λm=>af (cu i 2) λn=>ko n (af (cw [(ad 0),(ad 0),(ad 0),(ad 0),aw,aw,aw,(ad 0),(ad 0)] []) λp=>af (aN j 9 d p) λq=>aG 9 q d λr=>K (.tuple ⟨[r,n]⟩) q k) (aV s 74 [l] j k λt aS v=>aV s 152 [l] aS v λw x y=>af (cw [(ad 0),(ad 0),(ad 0),(ad 0),aw,aw,aw,(ad 0),(ad 0)] [(0,7,t),(7,1,w),(8,1,m)]) λz=>bX [(ad 0),(ad 0),(ad 0),(ad 0),aw,aw,aw,(ad 0),(ad 0)] x y λbz bS bA=>af (aN bS 9 bz z) λa9=>aV s 71 [l] a9 bA λbM b5 bO=>af (ds .not bM) λcJ=>bt cJ (bl 0 bz λcp=>bl 0 cp λdk=>af (aN b5 1 dk (ad 4)) λc3=>aG 9 c3 bz λeo=>af (aN c3 9 d eo) λam=>aG 9 am d λan=>K (.tuple ⟨[an,n]⟩) am bO) (aG 9 b5 bz λek=>af (aN b5 9 d ek) λfK=>aG 9 fK d λfU=>K (.tuple ⟨[fU,n]⟩) fK bO))
theorem aeM:gw 76 RO:=gz []
def Qp:ac (ac Nat):=[[0,7,8,9]]
def aal(s:ao)(aC a6 bq cH:X)(h:ae)(U:Nat)(N:aQ)(aM:aQ)(R:aQ):Prop:=cv cH bq (et h 1 a6 cH λc=>cg 68 [c] h U λd e f=>af (bB aC) λg=>bl 15 g λi=>bY e i λj=>da i j (cP j λk=>oW (λh=>yA j) k (bm .neq 3 d k (R [aC,a6,bq,cH] e f) (b9 cH λm=>N [aC,a6,bq,m] e f)) 1 [h]) 1 [h]) (aM [aC,a6,bq,cH] h U)
def aeN:cO:=λs ah h U K=>af (bB ah) λa=>av h 14 a λc=>cP c λd=>bF (bW Q s Qp 140 0) [ah,c,d,(ad 0)] h U [(0,λe f g=>cg 234 [(aT e 0)] f g λi j k=>af (bB (aT e 0)) λl=>bl 15 l λm=>bY j m λn=>da m n (dS (eO 1 [(ad 0),(ad 0),aw,aw,aw] [(0,5,i)]) j k λo p q=>dm (dI (dn 5 p q n o)) λr t aS=>q<=aS/\af (bB (aT e 0)) λv=>bl 15 v λw=>af (aN t 1 w r) λx=>K (.tuple ⟨[]⟩) x aS) 1 [f])] (λy z bz=>K (.tuple ⟨[]⟩) z bz)
theorem apL{s:ao}{B D:X}{h:ae}{U:Nat}{R:aQ}:bW Q s Qp 140 0 [aC,a6,B,D] h U N [(0,aM)] R=aal s aC a6 B D h U N aM R:=by kernel_rfl
theorem atz:cQ 140 aeN:=cT Qp
def apM:cO:=λs ah h U K=>aV s 67 [ah] h U λa b c=>bE .eql 86 a (ad 0) λd=>K d b c
theorem al5:cQ 142 apM:=cT []
def avT:c0:=λs ah t1 h U K=>aV s 236 [ah,t1] h U λa b c=>af (ds .not a) λd=>bt d (K (.bool false) b c) (af (bB ah) λe=>av b 12 e λg=>et b 1 g t1 λj=>aV s 61 [j] b c λk l m=>af (cu k 0) λn=>af (cu k 1) λo=>bX [(ad 0),(ad 0),(ad 0),(ad 0),(ad 0),(ad 0),aw,aw,aw,(ad 0),(.bool false)] l m λp q r=>af (aN q 11 p n) λt=>af (ds .not o) λaS=>bt aS (K (.bool false) t r) (av t 2 p λw=>cg 237 [ah,t1,w] t r λx y z=>aG 11 y p λbz=>jx 11 p bz (cg 238 [x,bz] y z λbS bA a9=>ko bS (K (.bool false) bA a9) (aV s 62 [j] bA a9 λb5 bO cJ=>K (.bool true) bO cJ)) 1 [t]))
theorem acM:c4 143 avT:=c5 []
def al6:sZ:=λs ah t1 t2 t3 h U K=>aV s 237 [ah,t1,t2] h U λa b c=>aV s 243 [a,t3] b c λd e f=>af (cu d 0) λg=>af (cu d 1) λi=>af (cu d 2) λj=>bX [(ad 0),(ad 0),(ad 0),(ad 0),(ad 0),(ad 0),aw,aw,aw,(ad 0),(.bool false)] e f λk l m=>af (aN l 11 k g) λn=>af (ds .not i) λo=>bt o (K (.bool false) n m) (af (bB ah) λp=>av n 12 p λr=>et n 1 r t2 λaS=>aG 11 n k λv=>cg 63 [aS,v] n m λw x y=>aV s 140 [ah] x y λz bz bS=>K (.bool true) bz bS)
theorem ajK:uj 146 al6:=vu []
def apN:cO:=λs ah h U K=>aV s 145 [ah] h U λa b c=>bm .eql 3 a (ad 0) (K (ad (-1)) b c) (af (bB ah) λe=>av b 1 e λg=>aV s 244 [g] b c λi j k=>bX [(ad 0)] j k λl m n=>af (aN m 1 l i) λo=>af (bB ah) λp=>av o 1 p λr=>af (.ok (.func (.func 246) ⟨[]⟩ ⟨[l]⟩)) λt=>aV s 245 [r,t] o n λaS v w=>K aS v w)
theorem al7:cQ 147 apN:=cT []
def aam:cO:=λs ah h U K=>bm .eql 110 ah (.pointer none) (K (ad 0) h U) (af (bB ah) λb=>av h 15 b λd=>cP d λe=>bE .sub 3 e (ad 1) λf=>K f h U)
theorem al8:cQ 150 aam:=cT []
def Jk(s:ao)(K:bZ)(cA b8 c6 sO:X)(aq:ae)(a0:Nat):Prop:=bt sO (af (cw [(ad 0),(ad 0),aw,aw,aw] []) λa=>af (aN aq 5 c6 a) λb=>aG 5 b c6 λc=>K (.tuple ⟨[c,(.bool false)]⟩) b a0) (af (bB cA) λd=>av aq 15 d λf=>gD 5 aq 5 f b8 λi=>bX [(ad 0),(ad 0),aw,aw,aw] aq a0 λj k l=>af (aN k 5 j i) λm=>av m 2 j λo=>cg 88 [o] m l λp q r=>bl 3 j λt=>bY q t λaS=>da t aS (cg 88 [aS] q r λv w x=>bl 4 j λy=>bY w y λz=>da y z (cg 139 [z] w x λbz bS bA=>bl 0 j λa9=>bY bS a9 λbM=>da a9 bM (bl 1 j λb5=>bY bS b5 λbO=>da b5 bO (af (cw [(ad 0),(ad 0),aw,aw,aw] [(0,1,bM),(1,1,bO),(2,1,p),(3,1,v),(4,1,bz)]) λcJ=>af (aN bS 5 c6 cJ) λcp=>aG 5 cp c6 λdk=>K (.tuple ⟨[dk,(.bool true)]⟩) cp bA) 3 [w,q,m]) 3 [w,q,m]) 2 [q,m]) 1 [m])
def acN:c0:=λs ah t1 h U K=>bX [(ad 0),(ad 0),aw,aw,aw] h U λa b c=>bm .eql 110 ah (.pointer none) (Jk s K ah t1 a (.bool true) b c) (cv t1 (ad 0) (Jk s K ah t1 a (.bool true) b c) (af (bB ah) λf=>av b 15 f λi=>cP i λj=>bE .geq 3 t1 j λk=>(Jk s K ah t1 a k b c)))
theorem apO:c4 155 acN:=c5 []
def Fj:ac (ac Nat):=[[2,10,30,31,32],[10,14,40,41]]
def W9(s:ao)(a2 dd rU jU gp:X)(h:ae)(U:Nat)(N:aQ)(aM:aQ)(R:aQ):Prop:=cv gp jU (gD 4 h 4 rU gp λc=>bX [(ad 0),(ad 0),(ad 0),(ad 0)] h U λd e f=>af (aN e 4 d c) λg=>aG 4 g d λi=>aV s 251 [dd,i] g f λj k l=>b9 gp λm=>N [a2,dd,rU,jU,m] k l) (aM [a2,dd,rU,jU,gp] h U)
def Xa(s:ao)(dd li xk vv:X)(h:ae)(U:Nat)(N:aQ)(aP:aQ)(R:aQ):Prop:=cv vv xk (aV s 71 [dd] h U λb c d=>bt b (aP [dd,li,xk,vv] c d) (aV s 72 [dd] c d λe f g=>b9 li λi=>b9 vv λj=>N [dd,i,xk,j] f g)) (aP [dd,li,xk,vv] h U)
def Pe:gj:=λs ah t1 t2 h U K=>bG ah h U λa b c=>aG 12 b a λd=>aV s 161 [d,t1,t2] b c λe f g=>ko e (K (.tuple ⟨[(.pointer none),(ad 0),e]⟩) f g) (aG 12 f a λj=>aV s 70 [j] f g λk l m=>af (cu k 0) λn=>af (cu k 1) λo=>ko o (K (.tuple ⟨[(.pointer none),(ad 0),o]⟩) l m) (cP t1 λq=>bF (bW Q s Fj 157 0) [t2,n,t1,q,(ad 0)] l m [(0,λr t aS=>bF (bW Q s Fj 157 1) [(aT r 1),(ad 0),(aT r 0),(ad 0)] t aS [(2,λv w x=>K (.tuple ⟨[(aT v 0),(aT v 1),(ad 0)]⟩) w x)] (λ_ _ _=>False))] (λ_ _ _=>False)))
theorem ajL{s:ao}{E D B:X}{h:ae}{U:Nat}{R:aQ}:bW Q s Fj 157 0 [a2,dd,E,D,B] h U N [(0,aM)] R=W9 s a2 dd E D B h U N aM R:=by kernel_rfl
theorem ajM{s:ao}{B E D:X}{h:ae}{U:Nat}{R:aQ}:bW Q s Fj 157 1 [dd,B,E,D] h U N [(2,aP)] R=Xa s dd B E D h U N aP R:=by kernel_rfl
theorem Yi:gw 157 Pe:=gz Fj
def BX:ac (ac Nat):=[[2,3,4,20,21,22],[2,3,4,7,20,21,22,42,43,44]]
def V4(s:ao)(a2 a3 aZ a6 jV iQ eM UL UM yU:X)(h:ae)(U:Nat)(N:aQ)(aP:aQ)(R:aQ):Prop:=cv yU UM (et h 1 UL yU λc=>av h 0 a6 λe=>lD e c λf=>dS (eO 1 [(ad 0)] [(0,1,f)]) h U λg i j=>dm (dI (dn 1 i j aZ g)) λk l m=>b9 yU λn=>N [a2,a3,k,a6,jV,iQ,eM,UL,UM,n] l m) (aP [a2,a3,aZ,a6,jV,iQ,eM,UL,UM,yU] h U)
def V5(s:ao)(a2 a3 aZ jV iQ eM:X)(h:ae)(U:Nat)(N:aQ)(aM:aQ)(R:aQ):Prop:=cv eM iQ (et h 1 jV eM λc=>aV s 69 [c] h U λd e f=>bX [(ad 0),(ad 0),aw,aw,aw] e f λg i j=>af (aN i 5 g d) λk=>av k 2 a3 λm=>av k 2 g λo=>dm (dI (dn 1 k j m o)) λp q r=>j<=r/\bl 3 a3 λt=>bY q t λaS=>da t aS (bl 3 g λv=>bY q v λw=>da v w (dm (dI (dn 1 q r aS w)) λx y z=>r<=z/\bl 2 a3 λbz=>af (aN y 1 bz p) λbS=>bl 3 a3 λbA=>af (aN bS 1 bA x) λa9=>av a9 4 g λb5=>aV s 119 [b5] a9 z λbO cJ cp=>cP bO λdk=>bF (bW Q s BX 234 1) [a2,a3,aZ,g,jV,iQ,eM,bO,dk,(ad 0)] cJ cp [(2,λc3 eo am=>b9 (aT c3 6) λan=>N [(aT c3 0),(aT c3 1),(aT c3 2),(aT c3 4),(aT c3 5),an] eo am)] (λ_ _ _=>False)) 1 [k]) 1 [k]) (aM [a2,a3,aZ,jV,iQ,eM] h U)
def Xb:cO:=λs ah h U K=>bX [(ad 0),(ad 0),aw,aw,aw] h U λa b c=>af (bB ah) λd=>bl 0 d λe=>bl 0 e λf=>av b 1 f λi=>af (cw [(ad 0),(ad 0),aw,aw,aw] [(1,1,i)]) λj=>bX [(ad 0),(ad 0),aw,aw,aw] b c λk l m=>af (aN l 5 k j) λn=>af (bB ah) λo=>av n 14 o λq=>cP q λr=>bF (bW Q s BX 234 0) [a,k,aw,q,r,(ad 0)] n m [(0,λt aS v=>av aS 1 (aT t 1) λx=>aV s 108 [x,(aT t 2)] aS v λy z bz=>bl 4 (aT t 1) λbS=>af (aN z 1 bS y) λbA=>aG 5 bA (aT t 1) λa9=>af (aN bA 5 (aT t 0) a9) λbM=>aG 5 bM (aT t 0) λb5=>K b5 bM bz)] (λ_ _ _=>False)
theorem ah6{s:ao}{E D B:X}{h:ae}{U:Nat}{R:aQ}:bW Q s BX 234 1 [a2,a3,aZ,a6,jV,iQ,eM,E,D,B] h U N [(2,aP)] R=V4 s a2 a3 aZ a6 jV iQ eM E D B h U N aP R:=by kernel_rfl
theorem ah7{s:ao}{h:ae}{U:Nat}{R:aQ}:bW Q s BX 234 0 [a2,a3,aZ,jV,iQ,eM] h U N [(0,aM)] R=V5 s a2 a3 aZ jV iQ eM h U N aM R:=by kernel_rfl
theorem aiB:cQ 234 Xb:=cT BX
def af9:c0:=λs ah t1 h U K=>bm .neq 110 ah (.pointer none) (bm .geq 3 t1 (ad 0) (af (bB ah) λc=>av h 12 c λe=>cP e λf=>bE .lss 3 t1 f λg=>K g h U) (K (.bool false) h U)) (K (.bool false) h U)
theorem avU:c4 236 af9:=c5 []
def Qq(s:ao)(K:bZ)(cA b8 cN Tl:X)(aq:ae)(a0:Nat):Prop:=bt Tl (K (.pointer none) aq a0) (af (cw [(ad 0),(ad 0)] [(0,1,b8),(1,1,cN)]) λa=>bX [(ad 0),(ad 0)] aq a0 λb c d=>af (aN c 2 b a) λe=>af (bB cA) λf=>av e 13 f λi=>aG 2 e b λj=>af (j9 Q e 198 (.pointer none) false i j) λk=>bm .eql 199 k (.pointer none) (af (bB cA) λm=>bl 0 m λn=>av e 9 n λp=>cg 339 [p] e d λq r t=>af (bB cA) λaS=>bl 13 aS λv=>bY r v λw=>da v w (aG 2 r b λx=>jx 2 b x (af (cu q 0) λy=>af (mU Q 198 r w x y) λz=>af (cu q 1) λbz=>af (bB cA) λbS=>av z 13 bS λa9=>aG 2 z b λbM=>af (j9 Q z 198 (.pointer none) false a9 bM) λb5=>K b5 z t) 1 [e]) 1 [e]) (af (bB cA) λbO=>av e 13 bO λcp=>aG 2 e b λdk=>af (j9 Q e 198 (.pointer none) false cp dk) λc3=>K c3 e d))
def aya:gj:=λs ah t1 t2 h U K=>aV s 236 [ah,t1] h U λa b c=>af (ds .not a) λd=>bt d (Qq s K ah t1 t2 (.bool true) b c) (aV s 236 [ah,t2] b c λe f g=>af (ds .not e) λi=>(Qq s K ah t1 t2 i f g))
theorem avV:gw 237 aya:=gz []
def aeO:c0:=λs ah t1 h U K=>bG t1 h U λa b c=>bm .eql 199 ah (.pointer none) (K (ad 10) b c) (aV s 340 [ah] b c λe f g=>bt e (K (ad 9) f g) (aG 11 f a λi=>aV s 341 [i] f g λj k l=>af (aN k 11 a j) λm=>af (bB ah) λn=>av m 4 n λp=>bl 3 a λq=>af (aN m 1 q p) λr=>af (bB ah) λt=>av r 2 t λv=>av r 3 a λx=>aG 11 r a λy=>af (mU Q 3 r v x y) λz=>av z 3 a λbS=>aV s 342 [ah,bS] z l λbA a9 bM=>af (bB ah) λb5=>av a9 4 b5 λcJ=>b9 cJ λcp=>af (bB ah) λdk=>bl 4 dk λc3=>af (aN a9 1 c3 cp) λeo=>K (ad 0) eo bM))
theorem atA:c4 238 aeO:=c5 []
def Pf(s:ao)(K:bZ)(cA b8 c6 fi TR:X)(aq:ae)(a0:Nat):Prop:=bt TR (af (cw [(ad 0),(ad 0),(ad 0),(ad 0),(ad 0),(ad 0),aw,aw,aw,(ad 0),(.bool false)] []) λa=>af (aN aq 11 c6 a) λb=>aG 11 b c6 λc=>K (.tuple ⟨[c,(.bool false),fi]⟩) b a0) (aV s 347 [cA,b8] aq a0 λd e f=>bX [(ad 0),(ad 0),(ad 0),(ad 0),(ad 0),(ad 0),aw,aw,aw,(ad 0),(.bool false)] e f λg i j=>af (aN i 11 g d) λk=>av k 3 g λm=>af (bB cA) λn=>av k 5 n λp=>cv m p (af (cw [(ad 0),(ad 0),(ad 0),(ad 0),(ad 0),(ad 0),aw,aw,aw,(ad 0),(.bool false)] []) λr=>af (aN k 11 c6 r) λt=>aG 11 t c6 λaS=>K (.tuple ⟨[aS,(.bool false),(ad 0)]⟩) t j) (af (bB cA) λv=>av k 5 v λx=>b9 x λy=>af (bB cA) λz=>bl 5 z λbz=>af (aN k 1 bz y) λbS=>aG 11 bS g λbA=>aV s 341 [bA] bS j λa9 bM b5=>af (aN bM 11 c6 a9) λbO=>aG 11 bO c6 λcJ=>K (.tuple ⟨[cJ,(.bool true),(ad 0)]⟩) bO b5))
def aeP:c0:=λs ah t1 h U K=>bX [(ad 0),(ad 0),(ad 0),(ad 0),(ad 0),(ad 0),aw,aw,aw,(ad 0),(.bool false)] h U λa b c=>aV s 346 [ah,t1] b c λd e f=>ko d (Pf s K ah t1 a d (.bool true) e f) (af (bB ah) λi=>av e 1 i λk=>et e 1 k t1 λm=>af (bB ah) λn=>av e 5 n λp=>bE .gtr 3 m p λq=>(Pf s K ah t1 a d q e f))
theorem atB:c4 243 aeP:=c5 []
def Yj:c0:=λs ah t1 h U K=>bY h t1 λa=>bE .eql 3 ah a λb=>K b h U
theorem ajN:c4 246 Yj:=c5 []
def Qr(s:ao)(K:bZ)(cA p8:X)(aq:ae)(a0:Nat):Prop:=bt p8 (K (.tuple ⟨[(.pointer none),(ad 3)]⟩) aq a0) (dS (.ok .map) aq a0 λa b c=>dS (.ok .map) b c λd e f=>af (cw [(ad 0),aw,(.map none),(.map none),(ad 0),(ad 0)] [(0,1,cA),(2,1,a),(3,1,d)]) λg=>bG g e f λi j k=>K (.tuple ⟨[i,(ad 0)]⟩) j k)
def aga:cO:=λs ah h U K=>cv ah (ad 1) (Qr s K ah (.bool true) h U) (bE .gtr 3 ah (ad 64) λb=>(Qr s K ah b h U))
theorem avW:cQ 339 aga:=cT []
def aeQ:cO:=λs ah h U K=>af (bB ah) λa=>av h 1 a λc=>cP c λd=>af (bB ah) λe=>av h 0 e λg=>bE .geq 3 d g λi=>K i h U
theorem atC:cQ 340 aeQ:=cT []
def agb:cO:=λs ah h U K=>bG ah h U λa b c=>bX [(ad 0),(ad 0),(ad 0),(ad 0),(ad 0),(ad 0),aw,aw,aw,(ad 0),(.bool false)] b c λd e f=>bl 5 a λg=>av e 1 g λj=>aV s 217 [j] e f λk l m=>bl 5 a λn=>bl 1 n λo=>af (aN l 1 o k) λp=>av p 7 a λr=>aV s 218 [r] p m λt aS v=>bl 7 a λw=>af (aN aS 1 w t) λx=>av x 8 a λz=>aV s 406 [z] x v λbz bS bA=>bl 8 a λa9=>af (aN bS 1 a9 bz) λbM=>aG 11 bM a λb5=>af (aN bM 11 d b5) λbO=>aG 11 bO d λcJ=>K cJ bO bA
theorem avX:cQ 341 agb:=cT []
def agc:c0:=λs ah t1 h U K=>af (bB ah) λa=>av h 1 a λc=>dS (eO 1 [(ad 0)] [(0,1,t1)]) h U λd e f=>dm (dI (dn 1 e f c d)) λg i j=>af (bB ah) λk=>bl 1 k λl=>af (aN i 1 l g) λm=>af (bB ah) λn=>av m 3 n λp=>af (j9 Q m 3 (ad 0) false p t1) λq=>b9 q λr=>af (mU Q 3 m p t1 r) λt=>K (.tuple ⟨[]⟩) t j
theorem avY:c4 342 agc:=c5 []
def aho:c0:=λs ah t1 h U K=>bm .eql 199 ah (.pointer none) (K (ad 10) h U) (cv t1 (ad 0) (K (ad 3) h U) (af (bB ah) λc=>av h 1 c λe=>cP e λf=>bm .geq 3 t1 f (K (ad 3) h U) (K (ad 0) h U)))
theorem ayb:c4 346 aho:=c5 []
def agd:c0:=λs ah t1 h U K=>bX [(ad 0),(ad 0),(ad 0),(ad 0),(ad 0),(ad 0),aw,aw,aw,(ad 0),(.bool false)] h U λa b c=>af (bB ah) λd=>av b 1 d λf=>et b 1 f t1 λi=>af (bB ah) λj=>av b 2 j λl=>af (j9 Q b 3 (.agg #[(ad 0),(ad 0),(ad 0),(ad 0),(ad 0),(ad 0),aw,aw,aw,(ad 0),(.bool false)]) false l i) λm=>bX [(ad 0),(ad 0),(ad 0),(ad 0),(ad 0),(ad 0),aw,aw,aw,(ad 0),(.bool false)] b c λn o p=>af (aN o 11 n m) λq=>af (bB ah) λr=>av q 1 r λaS=>b9 t1 λv=>aV s 348 [aS,t1,v] q p λw x y=>af (bB ah) λz=>bl 1 z λbz=>af (aN x 1 bz w) λbS=>af (bB ah) λbA=>av bS 3 bA λbM=>af (j9 Q bS 3 (ad 0) false bM i) λb5=>bE .sub 3 b5 (ad 1) λbO=>af (mU Q 3 bS bM i bO) λcJ=>af (bB ah) λcp=>av cJ 3 cp λc3=>af (j9 Q cJ 3 (ad 0) false c3 i) λeo=>bm .eql 3 eo (ad 0) (af (bB ah) λan=>av cJ 3 an λfK=>dm (dI (pk Q .delete [302,3] cJ y [fK,i])) λfU gk hp=>af (bB ah) λhQ=>av gk 2 hQ λjA=>dm (dI (pk Q .delete [173,3] gk hp [jA,i])) λjB jJ lj=>aG 11 jJ n λfj=>af (aN jJ 11 a fj) λb7=>aG 11 b7 a λoD=>K oD b7 lj) (aG 11 cJ n λbe=>af (aN cJ 11 a be) λkK=>aG 11 kK a λic=>K ic kK y)
theorem avZ:c4 347 agd:=c5 []
def age:cO:=λs ah h U K=>bm .eql 199 ah (.pointer none) (K (ad 0) h U) (af (bB ah) λb=>av h 1 b λd=>cP d λe=>K e h U)
theorem av0:cQ 145 age:=cT []
def aeR:cO:=λs ah h U K=>bm .eql 199 ah (.pointer none) (K (ad 0) h U) (af (bB ah) λb=>av h 4 b λd=>K d h U)
theorem atD:cQ 248 aeR:=cT []
def kE(room:Int)(row:X)(dF dh:Nat)(iN lL:Nat):ac X:=[(room:X),row,.map (some dF),.map (some dh),(iN:X),(lL:X)]
theorem CY:wc Q 199=true:=by kernel_rfl
section
variable {s:ao} {h:ae} {U b6 dF dh iN lL:Nat} {room:Int} {a:ay Addr} {n cap:Nat}
theorem F4(B:u h b6=some (.cells (kE room (.slice a n cap) dF dh iN lL) false)):aD Q s 145 [bb b6] h U (fs (n:X) U h):=by refine av0 ?_;unfold age;simp(disch:=omega)only[bk,pj CY,B,seval];exact⟨rfl,rfl,rfl⟩
theorem apP(B:u h b6=some (.cells (kE room (.slice a n cap) dF dh iN lL) false)):aD Q s 248 [bb b6] h U (fs (iN:X) U h):=by refine atD ?_;unfold aeR;simp(disch:=omega)only[bk,pj CY,B,seval];exact⟨rfl,rfl,rfl⟩
theorem apQ(B:u h b6=some (.cells (kE room (.slice a n cap) dF dh iN lL) false)):aD Q s 340 [bb b6] h U (fs (.bool (!decide ((n:Int)<room))) U h):=by refine atC ?_;unfold aeQ;unfold kE at B;refine bf @B ?_;exact⟨rfl,rfl,rfl⟩
theorem av1(B:u h b6=some (.cells (kE room (.slice a n cap) dF dh iN lL) false))(D:k<n):aD Q s 346 [bb b6,(k:X)] h U (fs (.int .i64 0) U h):=by
 refine ayb ?_;unfold aho
 unfold kE at B;simp(disch:=omega)only[bk,pj CY,B,seval];exact⟨λh=>absurd h J,λ_=>⟨λh=>absurd h J,λ_=>⟨rfl,rfl,rfl⟩⟩⟩
theorem atE(B:1<=room)(D:room<=64):aD Q s 339 [(room:X)] h U (λr ab Y=>r = .tuple ⟨[.pointer (some ⟨U+2,0,none⟩),.int .i64 0]⟩/\u ab (U+2)=some (.cells (kE room (.slice none 0 0) U (U+1) 0 0) false)/\u ab U=some (.map [] 0)/\u ab (U+1)=some (.map [] 0)/\aA U h ab/\Y=U+3):=by refine avW ?_;unfold aga;refine aE ?_;refine⟨λh=>absurd h J,λ_=>?_⟩;rw[ht J];unfold Qr;refine aE ?_;exact⟨rfl,aF⟩
end
theorem aAe:ns Q 99=true:=by kernel_rfl
theorem ajO{s:ao}{h:ae}{U:Nat}{a:ay Addr}{c:Nat}:aD Q s 406 [.slice a 0 c] h U (λr ab Y=>(∃B bT,r = .slice B 0 bT)/\aA U h ab/\U<=Y):=by refine alf ?_;unfold ZT;simp(disch:=omega)only[bk,zO aAe,seval];refine⟨λ_=>⟨⟨_,_,rfl⟩,aF⟩,λ_=>?_⟩;exact⟨⟨_,_,rfl⟩,aF,J⟩
theorem acO{s:ao}{h:ae}{U:Nat}{f:eC}{p:kM}(B:mY h U f p)(cj:p.l4.length<10000)(d8:p.nK.length<10000):
  aD Q s 341 [.agg ⟨eh f⟩] h U (λr ab Y=>∃kJ,r = .agg ⟨eh kJ⟩/\kJ.hO=f.hO/\lz ab U Y kJ p/\aA U h ab/\U<=Y):=by
 refine avX ?_;have bH:∀{o aU},aA U h (T (T h U o) (U+1) aU):=aF
 have h8:=B.n8;unfold agb eh;refine aE ?_;refine(BY (B.qa.F  bH J) cj).mono ?_;rintro zj bP bg ⟨I,L,fa⟩;have hd:=(L U J).trans ((ar J).trans (aR _ _ _));have dq:=(L (U+1) J).trans (aR _ _ _);obtain⟨M,hc,rfl⟩:=I.form;simp(disch:=omega)only[bk,hd,iE,seval];have P:∀{o},aA U h (T bP U o):=aF
 refine(W3 (B.r7.F  P J) d8).mono ?_;rintro Vr g2 bU ⟨K,E,fx⟩;have fC:=(E U J).trans (aR _ _ _);have d6:=(E (U+1) J).trans ((ar J).trans dq);obtain⟨a6,i3,rfl⟩:=K.form;simp(disch:=omega)only[bk,fC,iE,h8,seval];refine ajO.mono ?_;rintro _ dz b1 ⟨⟨bq,he,rfl⟩,D,gg⟩;have lA:=(D U J).trans (aR _ _ _);have p3:=(D (U+1) J).trans ((ar J).trans d6);simp(disch:=omega)only[bk,lA,p3,iE,seval];generalize iH:T (T dz U _) (U+1) _=G;have Ir:∀d,d≠U->d≠U+1->u G d=u dz d:=aa
 have Il:iR G U b1 (.slice M p.l4.length hc) fN 2 p.l4:=I.F (λb h1 ap=>by rw[Ir b J J,D b J,ar J,E b J,ar J]) J J;have Im:iR G U b1 (.slice a6 p.nK.length i3) eP 3 p.nK:=K.F (λb h1 ap=>by rw[Ir b J J,D b J,ar J]) J J;exact⟨{ f with bj:=M,n6:=p.l4.length,hc:=hc,a6:=a6,n7:=p.nK.length,i3:=i3,bq:=bq,n8:=0,he:=he },rfl,rfl,⟨⟨B.kind,B.fB,B.lR,B.round,B.l7,dg.o   (λ_=>rfl) Il.gC.rd,dg.o   (λ_=>rfl) Im.gC.rd,rfl,B.n,B.od⟩,Il,Im⟩,aF,J⟩
theorem ajP{R C ax i j:Nat}{x:gi}{m:cB}(aX:m7 R C ax x m)(L:m.dst C≠i*C+j):
  (cX R C ax x m).q i j=x.q i j/\(cX R C ax x m).out (i*C+j)=x.out (i*C+j)/\(i=0->(cX R C ax x m).P j=x.P j/\(cX R C ax x m).e2 j=x.e2 j)/\(j=0->(cX R C ax x m).a i=x.a i/\(cX R C ax x m).w i=x.w i/\(cX R C ax x m).d1 i=x.d1 i)/\(i=0->j=0->(cX R C ax x m).V=x.V/\(cX R C ax x m).fR=x.fR):=by
 have M:(cX R C ax x m).out (i*C+j)=x.out (i*C+j):=by exact hh J
 cases m with
 |share aK oC t =>
  obtain⟨_,I,aP,B,K,P,hA,E,_⟩:=Ja aX;refine⟨by rw[I],M,λD=>E j λe=>L ?_,aa,aa⟩;rw[D,mb,iU,e];rfl
 |spread aK oC t =>
  obtain⟨I,aP,B,K,P,hA,E,_,i1,_⟩:=I4;refine⟨i1 i j λe=>L ?_,M,aa,aa,aa⟩;rw[e.1,e.2];rfl
 |dG aK oC t =>
  obtain⟨_,I,aP,B,K,P,hA,E,_⟩:=I3 aX;refine⟨by rw[B],M,aa,λD=>⟨by rw[K],E i λe=>L ?_⟩,aa⟩;rw[D,e];rfl
 |dH aK t =>
  obtain⟨_,I,aP,B,K,P,hA,_⟩:=Jd aX;refine⟨by rw[B],M,aa,aa,λD h1=>absurd ?_ L⟩;rw[D,h1,mb];rfl
 |order aK t =>
  obtain⟨I,aP,B,K,P,_,_,_,_,_,E,_⟩:=NL aX;refine⟨by rw[B],M,aa,λD=>E i λe=>L ?_,aa⟩;rw[D,e];rfl
theorem Py(Z:cn):Z.gn Z.lim≠0:=by
 unfold cn.gn x5
 grind
theorem atF(Z:cn):∃ax,ax<=Z.lim/\Z.gn ax≠0/\∀t,t<=ax->(Z.gn t=0↔t<ax):=by
 have:∀n,(∃ax,ax<=n/\Z.gn ax≠0/\∀t,t<ax->Z.gn t=0)\/∀t,t<=n->Z.gn t=0:=by
  intro n
  induction n with
  |zero =>
   grind
  |succ n B =>
   grind
 rcases this Z.lim with⟨ax,E,I,D⟩|h
 ·grind
 ·exact absurd aa (Py Z)
def Le(h:ae)(v:X)(dC:ay Nat):Prop:=(v = .slice none 0 0/\dC=none)\/∃b w,dC=some b/\v = .slice (some ⟨b,0,some 1⟩) 0 1/\u h b=some (.cells [w] false)
theorem av2{h:ae}{U b q c:Nat}{x:Int}{I:ao}(D:u h b=some (.cells [w] false))(B:u h q=some (.cells [(x:X)] I)):
  dn 1 h U (.slice (some ⟨b,0,some 1⟩) 0 1) (.slice (some ⟨q,0,none⟩) 1 c) = .ok (.val (.slice (some ⟨b,0,some 1⟩) 1 1) (T h b (.cells [(x:X)] false)) U):=by
 have E:jD h (some ⟨q,0,none⟩) (Nat.mul 1 1) (λnew=>ge 1 h U (some ⟨b,0,some 1⟩) 0 1 1 new)=ge 1 h U (some ⟨b,0,some 1⟩) 0 1 1 [(x:X)]:=by show cellsOf h q (λcs _=>R.of "read - out of block" (mT (Nat.mul 1 1) (mO cs 0)) λnew=>ge 1 h U (some ⟨b,0,some 1⟩) 0 1 1 new)=_;rw[I9,B,Fo];rfl
 show jD h (some ⟨q,0,none⟩) (Nat.mul 1 1) (λnew=>ge 1 h U (some ⟨b,0,some 1⟩) 0 1 1 new)=_;rw[E];show R.bind (qr h b 0 [(x:X)]) (λh=>R.ok (fc.val (Value.slice (some ⟨b,0,some 1⟩) 1 1) h U))=_;rw[I0 D rfl aa];rfl
section
variable {s:ao} {h:ae} {U b6 dF dh iN lL cL x:Nat} {room:Int} {rw:X} {dC:ay Nat}
theorem atG(I:u h b6=some (.cells (kE room rw dF dh iN lL) false))(bn:b6<U)(ba:Le h rw dC)(K:∀b,dC=some b->b<U/\b≠b6/\b≠dh)(bx:u h dh=some (.map [] cL))(hmo:dh<U/\dh≠b6):
  aD Q s 342 [bb b6,(x:X)] h U (λr ab Y=>r = .tuple ⟨[]⟩/\∃D,u ab b6=some (.cells (kE room (.slice (some ⟨D,0,some 1⟩) 1 1) dF dh iN lL) false)/\u ab D=some (.cells [(x:X)] false)/\(dC=some D\/U<=D/\D<Y) /\
   jd ab dh h3 [(x,.int .i64 1,cL)] (cL+1)/\(∀d,d<U->d≠b6->d≠dh->dC≠some d->u ab d=u h d)/\U<=Y):=by
 refine avY ?_;unfold agc;unfold kE at I ⊢;rcases ba with⟨rfl,rfl⟩|⟨b,w,rfl,rfl,bd⟩
 ·refine mf @I ?_;refine me (enc:=cY) (k:=1) (al:=U+1) (l:=[]) (λ_=>rfl) (λ_=>rfl) J (.inl aa) J (x:Int) (aR _ _ _) rfl (by simp) λd7 b0 M P=>?_;obtain⟨aM,_⟩|⟨D,dq,eF,rfl,hb⟩:=M
  ·cases aM
  have ie:u b0 b6=_:=(P b6 J).trans ((ar J).trans I);have E:jd (T b0 b6 (.cells [(room:X),.slice (some ⟨D,0,some 1⟩) 1 1,.map (some dF),.map (some dh),(iN:X),(lL:X)] false)) dh h3 [] cL:=GO aa;have B:=wL (ri nE) E (k:=x) (z:=.int .i64 0) (ok:=false);rw[show h3 x = (x:X)from rfl,show iL ([]:ac (Nat × X × Nat)) x=none from rfl]at B;obtain⟨aP,L⟩:=GN (x:=.int .i64 1) (ri nE) E  rfl;rw[show h3 x = (x:X)from rfl]at aP;rw[show(([]:ac Int)++[(x:Int)]).length=1 from rfl]
  replace B:j9 Q _ 3 (.int .i64 0) false (.map (some dh)) (x:X) = .ok (.int .i64 0):=B
  simp(disch:=omega)only[bk,↓reduceIte,Nat.reduceAdd,Nat.reduceSub,Nat.reduceMul,Nat.reduceLT,Nat.reduceLeDiff,Nat.reduceEqDiff,Int.reduceBEq,Int.reduceLT,Int.reduceNeg,ie,B,show IntKind.wrap .i64 ((0:Int)+1)=1 from rfl,aP];refine⟨D,?_,?_,J,L _ aa,λd h1 ap aH _=>?_,J⟩
  ·rfl
  ·rw[ar J,ar J];exact hb
  grind
 ·obtain⟨eV,dQ,gu⟩:=K b rfl;refine mf @I ?_;rw[av2 ((ar J).trans bd) (aR _ _ _)];generalize iH:T (T h U _) b _=G;have g2:∀d,d≠b->d<U->u G d=u h d:=aa
  have BC:=(g2 b6 (kt dQ) J).trans I;have E:jd (T G b6 (.cells [(room:X),.slice (some ⟨b,0,some 1⟩) 1 1,.map (some dF),.map (some dh),(iN:X),(lL:X)] false)) dh h3 [] cL:=GO aa;have B:=wL (ri nE) E (k:=x) (z:=.int .i64 0) (ok:=false);rw[show h3 x = (x:X)from rfl,show iL ([]:ac (Nat × X × Nat)) x=none from rfl]at B;obtain⟨aP,L⟩:=GN (x:=.int .i64 1) (ri nE) E  rfl;rw[show h3 x = (x:X)from rfl]at aP
  replace B:j9 Q _ 3 (.int .i64 0) false (.map (some dh)) (x:X) = .ok (.int .i64 0):=B
  simp(disch:=omega)only[bk,↓reduceIte,Nat.reduceAdd,Nat.reduceSub,Nat.reduceMul,Nat.reduceLT,Nat.reduceLeDiff,Nat.reduceEqDiff,Int.reduceBEq,Int.reduceLT,Int.reduceNeg,dI,BC,B,show IntKind.wrap .i64 ((0:Int)+1)=1 from rfl,aP];refine⟨b,?_,?_,aa,L _ aa,aa,J⟩
  all_goals grind
end
section
variable {s:ao} {h:ae} {U b6 dF dh iN lL co gc:Nat} {room:Int} {rw:X} {dC:ay Nat} {f:eC} {p:kM}
def SeK(b6 dF dh iN lL:Nat)(room:Int)(dC:ay Nat)(p:kM)(co gc:Nat)(h:ae)(U:Nat):bZ:=λr ab Y=>r = .int .i64 0/\∃cr kJ m,u ab b6=some (.cells (kE room (.slice (some ⟨cr,0,some 1⟩) 1 1) dF dh (iN+1) lL) false)/\u ab cr=some (.cells [(iN:X)] false)/\(dC=some cr\/m<=cr/\cr<Y) /\
 jd ab dh h3 [(iN,.int .i64 1,co)] (co+1)/\jd ab dF h3 [(iN,.agg ⟨eh kJ⟩,gc)] (gc+1)/\kJ.hO=(iN:Int)/\lz ab U m kJ p/\(∀d,d<U->d≠b6->d≠dh->d≠dF->dC≠some d->u ab d=u h d)/\U<=m/\m<=Y
theorem apR(L:u h b6=some (.cells (kE room rw dF dh iN lL) false))(P:b6<U)(aAV:1<=room)(ba:Le h rw dC)(rD:∀b,dC=some b->b<U/\b≠b6/\b≠dh/\b≠dF)(hmo:u h dh=some (.map [] co))(Mg:u h dF=some (.map [] gc))(fd:dh<U/\dh≠b6)(Dy:dF<U/\dF≠b6/\dF≠dh)(au:iN<100000)(bD:mY h U f p)(cj:p.l4.length<10000)(d8:p.nK.length<10000):
  aD Q s 238 [bb b6,.agg ⟨eh f⟩] h U (SeK b6 dF dh iN lL room dC p co gc h U):=by
 refine atA ?_;have bH:∀{o},aA U h (T h U o):=aF
 obtain⟨a,cap,rfl⟩:∃a cap,rw = .slice a 0 cap:=by rcases ba with⟨e,_⟩|⟨_,_,_,e,_⟩ <;> grind
 have D:(0:Int)<room:=J
 unfold aeO;unfold eh;simp(disch:=omega)only[bk,↓reduceIte,Nat.reduceAdd,Nat.reduceSub,Nat.reduceMul,Nat.reduceLT,Nat.reduceLeDiff,Nat.reduceEqDiff,Int.reduceBEq,Int.reduceLT,Int.reduceNeg,pj CY];refine(apQ ((bH b6 P).trans L)).f5 ?_;refine mf @D ?_;refine⟨λh=>absurd J h,λ_=>?_⟩;refine(acO  (bD.F  bH J) cj d8).mono ?_;rintro _ I bg ⟨E,rfl,hx3,ee,B,fa⟩;have hd:=(B U J).trans (aR _ _ _);have aB9:∀{o aU},u (T (T I U o) U aU) b6=_:=λ{o aU}=>(ar J).trans ((ar J).trans ((B b6 J).trans ((bH b6 P).trans L)));have K:∀{o},u (T I U o) b6=_:=λ{o}=>(ar J).trans ((B b6 J).trans ((bH b6 P).trans L));have i4:∀{o aU},jd (T (T I U o) U aU) dF h3 [] gc:=λ{o aU}=>GO (by rw[ar J,ar J,B dF J,ar J];omega);have aP:=λo aU=>GN (x:=.agg ⟨eh { E with hO:=(iN:Int) }⟩) (ri nE) (i4 (o:=o) (aU:=aU)) (k:=iN) rfl;unfold eh at aP ⊢;unfold kE at aB9 K;rw[show h3 iN = (iN:X)from rfl]at aP;simp(disch:=omega)only[bk,↓reduceIte,Nat.reduceAdd,Nat.reduceSub,Nat.reduceMul,Nat.reduceLT,Nat.reduceLeDiff,Nat.reduceEqDiff,Int.reduceBEq,Int.reduceLT,Int.reduceNeg,hd,aB9,K,(aP _ _).1];have M:=(aP (.cells (eh E) false) (.cells (eh { E with hO:=(iN:Int) }) false)).2 _ (aR (T (T I U (.cells (eh E) false)) U (.cells (eh { E with hO:=(iN:Int) }) false)) dF _);unfold eh at M;dsimp only at M;generalize fp:T (T (T I U _) U _) dF _=H at M ⊢;have Vt:∀d,d≠dF->d≠U->u H d=u I d:=aa
 have aDD:∀d,d<U->d≠dF->u H d=u h d:=λd h1 ap=>by rw[Vt d ap J,B d J,ar J]
 have hrH:Le H (.slice a 0 cap) dC:=by
  rcases ba with q|⟨b,w,dq,eF,hb⟩
  ·exact .inl q
  ·exact .inr ⟨b,w,dq,eF,aa⟩
 refine(atG   (cL:=co) ((aDD b6 P (kt Dy.2.1)).trans L) J hrH aa aa J).mono ?_;rintro _ b0 eN ⟨rfl,cr,d6,gV,ji,oF,aD8,aD9⟩;unfold kE at d6;refine tv @d6 (cF (J:iN<1000000000000)) ?_;refine⟨rfl,cr,{ E with hO:=(iN:Int) },bg,aR _ _ _,aa,ji,oF.F aa,M.F aa,rfl,?_,aa,J,J⟩;have VB:lz (T b0 b6 (.cells [(room:X),.slice (some ⟨cr,0,some 1⟩) 1 1,.map (some dF),.map (some dh),((iN+1:Nat):X),(lL:X)] false)) U bg E p:=ee.F aa J J;exact⟨{ VB.is with },VB.hc,VB.i3⟩
end
def Kl(P:Program)(t d0:Nat):ao:=match P.underlying t with
 |some (.map k _)=>Nat.beq k d0
 |_=>false
theorem agf{i0:Type}[DecidableEq i0]{cz:i0->X}{ax B n c r U:Nat}{rest:ac Nat}{k:i0}{h:ae}(D:Kl Q ax B=true)(K:wK Q B cz)(H:jd h r cz [(k,v,n)] c):
  pk Q .delete (ax::rest) h U [.map (some r),cz k] = .ok (.val j7 (T h r (.map [] c)) U):=by
 have E:∃b,Q.underlying ax=some (.map B b):=by
  unfold Kl at D
  split at D
  ·rename_i I b e
   rw[e,gE D];grind
  grind
 obtain⟨b,e⟩:=E;show FF Q ax h U (.map (some r)) (cz k)=_;unfold FF;rw[e];simp only;rw[K.ok];unfold Pk;simp only;unfold k6;rw[H.at_];show(match kO Q B (cz k) [{ key:=cz k,val:=v,born:=n }] 0 with|some (some (i,_))=>R.ok (fc.val j7 (T h r (.map (KL (lq cz [(k,v,n)]) i) c)) U)|some none=>.ok (.val j7 h U)|none=>.no "delete - key")=_;have aP:kO Q B (cz k) [{ key:=cz k,val:=v,born:=n }] 0=some (some (0,{ key:=cz k,val:=v,born:=n })):=by show(match k5 Q B (cz k) (cz k)with|some true=>some (some (0,({ key:=cz k,val:=v,born:=n }:MapEntry)))|some false=>kO Q B (cz k) [] 1|none=>none)=_;rw[K.eq,hf rfl]
 rw[aP];rfl
theorem ayc:Kl Q 302 3=true:=by kernel_rfl
theorem ayd:Kl Q 173 3=true:=by kernel_rfl
theorem Mt:((1:Nat):Int)=1:=rfl
theorem c0i:((0:Nat):Int)=0:=rfl
theorem aAf:ns Q 62=true:=by kernel_rfl
theorem aAg:rj Q 62=some 3:=by kernel_rfl
theorem zeI:nY Q 3=some (cY 0):=by kernel_rfl
section
variable {s:ao} {h:ae} {U b n:Nat}
theorem av3(D:u h b=some (.cells [(n:X)] false)):
  aD Q s 348 [.slice (some ⟨b,0,some 1⟩) 1 1,.int .i64 0,.int .i64 1] h U (λr ab Y=>r = .slice (some ⟨b,0,some 1⟩) 0 1/\ab=T h b (.cells [.int .i64 0] false)/\Y=U):=by
 refine ajd ?_;unfold XW;simp(disch:=omega)only[bk,Mt,c0i,show g5 1 (.slice (some ⟨b,0,some 1⟩) 1 1) (some (.int .i64 0)) (some (.int .i64 1)) (some (.int .i64 1)) = .ok (.slice (some ⟨b,0,none⟩) 1 1)from rfl,show g5 1 (.slice (some ⟨b,0,some 1⟩) 1 1) none (some (.int .i64 0)) none = .ok (.slice (some ⟨b,0,some 1⟩) 0 1)from rfl,show g5 1 (.slice (some ⟨b,0,some 1⟩) 1 1) (some (.int .i64 1)) none none = .ok (.slice (some ⟨b,0,some 0⟩) 0 0)from rfl,show dn 1 h U (.slice (some ⟨b,0,some 1⟩) 0 1) (.slice (some ⟨b,0,some 0⟩) 0 0) = .ok (.val (.slice (some ⟨b,0,some 1⟩) 0 1) h U)from rfl,dI,show g5 1 (.slice (some ⟨b,0,some 1⟩) 0 1) (some (.int .i64 0)) (some (.int .i64 1)) none = .ok (.slice (some ⟨b,0,some 1⟩) 1 1)from rfl,seval];have B:=acy  (k:=1)  (i:=0) (n:=1) (c:=1) (U:=U) (aO:=some 1) (l:=[(n:Int)]) (0:Int) (λ_=>rfl) (λ_=>rfl) aAf aAg zeI rfl J D
 replace B:=B.trans (show _=R.ok (.val j7 (T h b (.cells [.int .i64 0] false)) U)from rfl)
 rw[show(0:Nat)*1=0 from rfl,show 1-0=1 from rfl]at B;rw[B];exact⟨rfl,rfl⟩
theorem av4(D:u h b=some (.cells [(n:X)] false)):
  aD Q s 244 [.slice (some ⟨b,0,some 1⟩) 1 1] h U (fs (n:X) U h):=by refine asR ?_;unfold aes;refine cM @D @Mt ?_;refine λ_=>bF.mk (λ_ B ab Y=>B=[.slice (some ⟨b,0,some 1⟩) 1 1,(n:X),.int .i64 1]/\ab=h/\Y=U) 0 aa ?_;rintro _ _ _ _ ⟨rfl,rfl,rfl⟩;rw[aoJ];unfold ZN;refine bf @Mt ?_;exact λ_=>⟨rfl,rfl,rfl⟩
theorem av5{q:Nat}(E:u h b=some (.cells [(n:X)] false))(B:u h q=some (.cells [(n:X)] false)):
  aD Q s 245 [.slice (some ⟨b,0,some 1⟩) 1 1,.func (.func 246) ⟨[]⟩ ⟨[bb q]⟩] h U (fs (.int .i64 0) U h):=by refine ar1 ?_;unfold ad9;refine bf @Mt ?_;refine bF.mk (λ_ D ab Y=>D=[.slice (some ⟨b,0,some 1⟩) 1 1,.func (.func 246) ⟨[]⟩ ⟨[bb q]⟩,.int .i64 0,.int .i64 1,.int .i64 0]/\ab=h/\Y=U) 0 aa ?_;rintro _ _ _ _ ⟨rfl,rfl,rfl⟩;rw[an1];unfold Zu;refine bf @E ?_;refine⟨?_,λh=>absurd trivial h⟩;refine ajN ?_;unfold Yj;refine bf @B ?_;exact⟨λ_=>⟨rfl,rfl,rfl⟩,λh=>absurd h aa⟩
end
end Go.Proofs.YthlhhajnbgjfmaaGreat
