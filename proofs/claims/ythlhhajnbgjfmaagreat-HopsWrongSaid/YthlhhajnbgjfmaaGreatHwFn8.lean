/- Parts of the proof: HwFn8: each statement bears its own conditions. -/
import Derived.Test.YthlhhajnbgjfmaaGreatHwFn7
namespace Go.Proofs.YthlhhajnbgjfmaaGreat
open Go Go.Ax Go.Ax.HdH Go.ChangeShapes Go.WideShapes Go.ChangeAt Go.RowKit
set_option linter.all false
set_option maxHeartbeats 1000000
set_option maxRecDepth 1000000
variable {v f7 eu eD:X} {args:ac X} {k:Nat} {q:Nat->ao} {sV sW:Nat} {ce:ac MemPlace} {aC az aZ bI bj:X} {K:bZ} {aj:Nat} {ag:ac GE} {m:cB} {a2 a3 pf i5 z2 z3 z4 s1 xG qd Is:X} {ea Bo R N:Nat}
section
variable {s:ao} {h:ae} {U b6 dF dh b n co gc gv ha:Nat} {room:Int} {f:eC} {p:kM}
structure y9 (h:ae) (U b6 dF dh b n co gc gv ha:Nat) (room:Int) (f:eC):Prop where
 p:u h b6=some (.cells (kE room (.slice (some ⟨b,0,some 1⟩) 1 1) dF dh (n+1) n) false)
 r:u h b=some (.cells [(n:X)] false)
 o:jd h dh h3 [(n,.int .i64 1,co)] gv
 m:jd h dF h3 [(n,.agg ⟨eh f⟩,gc)] ha
 o6:b6<U
 al:dh<U/\dh≠b6
 zp:dF<U/\dF≠b6/\dF≠dh
 bN:b<U/\b≠b6/\b≠dh/\b≠dF
 eN:n<100000
theorem y9.F{ab:ae}{Y:Nat}(B:y9 h U b6 dF dh b n co gc gv ha room f)(A:∀d,d=b6\/d=dh\/d=dF\/d=b->u ab d=u h d)(D:U<=Y):y9 ab Y b6 dF dh b n co gc gv ha room f :=
 ⟨(A _ (.inl rfl)).trans B.p,(A _ (.inr (.inr (.inr rfl)))).trans B.r,B.o.F aa,B.m.F aa,by have:=B.o6;omega,⟨by have:=B.al;omega,B.al.2⟩,⟨by have:=B.zp;omega,B.zp.2⟩,⟨by have:=B.bN;omega,B.bN.2⟩,B.eN⟩
structure Bx0 (h:ae) (b6 dF dh b n gv ha lL:Nat) (room:Int):Prop where
 p:u h b6=some (.cells (kE room (.slice (some ⟨b,0,some 1⟩) 0 1) dF dh (n+1) lL) false)
 r:u h b=some (.cells [.int .i64 0] false)
 o:u h dh=some (.map [] gv)
 m:u h dF=some (.map [] ha)
theorem atH(B:y9 h U b6 dF dh b n co gc gv ha room f):
  aD Q s 347 [bb b6,.int .i64 0] h U (λr ab Y=>r = .agg ⟨eh f⟩/\Bx0 ab b6 dF dh b n gv ha n room/\(∀d,d<U->d≠b6->d≠dh->d≠dF->d≠b->u ab d=u h d)/\U<=Y):=by
 refine avZ ?_;obtain⟨xB,Ic,aDE,aCa,dU,I,jC,kL,aCb⟩:=B;have g9:∀{o},u (T h U o) b6=_:=λ{o}=>(ar J).trans xB;have ei:∀{o},u (T h U o) b=_:=λ{o}=>(ar J).trans Ic;have er:∀{o},jd (T h U o) dF h3 [(n,.agg ⟨eh f⟩,gc)] ha:=λ{o}=>aCa.F aa;have aW:=λo=>wL (ri nE) (er (o:=o)) (k:=n) (z:=.agg #[(.int .i64 0),(.int .i64 0),(.int .i64 0),(.int .i64 0),(.int .i64 0),(.int .i64 0),(.slice none 0 0),(.slice none 0 0),(.slice none 0 0),(.int .i64 0),(.bool false)]) (ok:=false);rw[show iL [(n,Value.agg ⟨eh f⟩,gc)] n=some (.agg ⟨eh f⟩)from by rw[x0];grind,show h3 n = (n:X)from rfl]at aW
 replace aW:=λo=>(aW o).trans (show _=R.ok (Value.agg ⟨eh f⟩)from rfl)
 unfold kE at g9;unfold agd;refine Ru @g9 @ei @aW ?_;unfold eh;refine mf @g9 ?_;refine(av3 (n:=n) aa).mono ?_;rintro _ _ _ ⟨rfl,rfl,rfl⟩;generalize iH:T (T (T h U _) (U+1) _) (U+1) _=G;have aDF:∀d,d<U->u G d=u h d:=aa
 have VC:=aR (T (T h U (.cells [(.int .i64 0),(.int .i64 0),(.int .i64 0),(.int .i64 0),(.int .i64 0),(.int .i64 0),(.slice none 0 0),(.slice none 0 0),(.slice none 0 0),(.int .i64 0),(.bool false)] false)) (U+1) (.cells [(.int .i64 0),(.int .i64 0),(.int .i64 0),(.int .i64 0),(.int .i64 0),(.int .i64 0),(.slice none 0 0),(.slice none 0 0),(.slice none 0 0),(.int .i64 0),(.bool false)] false)) (U+1) (.cells (eh f) false);have gN0:u G U=some (.cells [(.int .i64 0),(.int .i64 0),(.int .i64 0),(.int .i64 0),(.int .i64 0),(.int .i64 0),(.slice none 0 0),(.slice none 0 0),(.slice none 0 0),(.int .i64 0),(.bool false)] false):=aa
 replace VC:u G (U+1)=some (.cells (eh f) false):=by rw[<-iH];exact VC
 have cf:∀{o},u (T G b o) b6=_:=λ{o}=>(ar J).trans ((aDF b6 dU).trans xB);unfold kE at cf;refine mf @cf ?_;generalize fp:T (T G b _) b6 _=H;have P:∀d,d≠b->d≠b6->u H d=u G d:=aa
 have A:u H b6=some (.cells (kE room (.slice (some ⟨b,0,some 1⟩) 0 1) dF dh (n+1) n) false):=by rw[<-fp,aR];rfl
 have VD:jd H dh h3 [(n,.int .i64 1,co)] gv:=aDE.F aa;have aDG:jd H dF h3 [(n,.agg ⟨eh f⟩,gc)] ha:=aCa.F aa;have aP:=wL (ri nE) VD (k:=n) (z:=.int .i64 0) (ok:=false);rw[show iL [(n,Value.int .i64 1,co)] n=some (.int .i64 1)from by rw[x0];grind,show h3 n = (n:X)from rfl]at aP
 replace aP:=aP.trans (show _=R.ok (Value.int .i64 1)from rfl)
 have cy:=aw6 (x:=.int .i64 0) (ri nE) VD;rw[show h3 n = (n:X)from rfl]at cy;unfold kE at A;simp(disch:=omega)only[bk,↓reduceIte,Nat.reduceAdd,Nat.reduceSub,Nat.reduceMul,Nat.reduceLT,Nat.reduceLeDiff,Nat.reduceEqDiff,Int.reduceBEq,Int.reduceLT,Int.reduceNeg,A,aP,cy,show IntKind.wrap .i64 ((1:Int)-1)=0 from rfl];have hPm:∀{o},u (T H dh o) b6=_:=λ{o}=>(ar (kt I.2)).trans A;have E:jd (T H dh (.map (lq h3 [(n,.int .i64 0,co)]) gv)) dh h3 [(n,.int .i64 0,co)] gv:=⟨aa,aa,λe bK=>by rw[jl.1 bK];exact VD.lt (n,.int .i64 1,co) aa,aa⟩
 have eE:=wL (ri nE) E (k:=n) (z:=.int .i64 0) (ok:=false);rw[show iL [(n,Value.int .i64 0,co)] n=some (.int .i64 0)from by rw[x0];grind,show h3 n = (n:X)from rfl]at eE
 replace eE:=eE.trans (show _=R.ok (Value.int .i64 0)from rfl)
 have ir:=λr=>agf (U:=U+1+1) (rest:=r) ayc (ri nE) E;rw[show h3 n = (n:X)from rfl]at ir;have mB':∀{o aU},jd (T (T H dh o) dh aU) dF h3 [(n,.agg ⟨eh f⟩,gc)] ha:=λ{o aU}=>aDG.F aa;have hA:=λr o aU=>agf (U:=U+1+1) (rest:=r) ayd (ri nE) (mB' (o:=o) (aU:=aU));rw[show h3 n = (n:X)from rfl]at hA;have D:∀{o aU},u (T (T H dh o) dh aU) b6=_:=λ{o aU}=>(ar (kt I.2)).trans ((ar (kt I.2)).trans A);simp(disch:=omega)only[bk,↓reduceIte,Nat.reduceAdd,Nat.reduceSub,Nat.reduceMul,Nat.reduceLT,Nat.reduceLeDiff,Nat.reduceEqDiff,Int.reduceBEq,Int.reduceLT,Int.reduceNeg,hPm,eE,ir,D,hA,dI];have V:=(P (U+1) J J).trans VC;have gN2:=(P U J J).trans gN0;unfold eh at V;refine tv @V @gN2 ?_;refine⟨⟨?_,?_,?_,?_⟩,aa,J⟩
 ·rw[ar J,ar (kt jC.2.1),ar (kt I.2),ar (kt I.2)];exact A
 all_goals grind
theorem apS{g:ae}(B:y9 h U b6 dF dh b n co gc gv ha room f)(G:lb g h)(ci:∀d,d=b6\/d=dh\/d=dF\/d=b\/U<=d->u g d=none)(bD:mY g U f p)(aH:f.hO=(n:Int))(cj:p.l4.length<10000)(d8:p.nK.length<10000):
  aD Q s 243 [bb b6,.int .i64 0] h U (λr ab Y=>∃V,r = .tuple ⟨[.agg ⟨eh V⟩,.bool true,.int .i64 0]⟩/\lz ab U Y V p/\Bx0 ab b6 dF dh b n gv ha (n+1) room/\(∀d,d<U->d≠b6->d≠dh->d≠dF->d≠b->u ab d=u h d)/\U<=Y):=by
 refine atB ?_;obtain⟨aEa,aEb,aEc,hO,fB,qV,bj,n6,hc,a6,n7,i3,bq,n8,he,fn,aBB⟩:=f;have aH:hO=(n:Int):=aH;subst aH;have dU:=B.o6;have dL:=B.al;have jC:=B.zp;have kL:=B.bN;have aCb:=B.eN;have P:∀{o},y9 (T h U o) (U+1) b6 dF dh b n co gc gv ha room _:=λ{o}=>B.F aa J;have g9:=λo=>(P (o:=o)).p;have ei:=λo=>(P (o:=o)).r;unfold kE at g9;unfold aeP;refine aE ?_;refine(av1 (k:=0) P.p J).f5 ?_;simp(disch:=omega)only[bk,g9,ei,Int.lt_irrefl,decide_false,seval];unfold Pf;refine aE ?_;refine(atH P).mono ?_;rintro _ I E ⟨rfl,C,hk,dx⟩;have hd:u I U=_:=(hk U J J J J J).trans (aR _ _ _);have hI:∀{o aU},u (T (T I E o) E aU) b6=_:=λ{o aU}=>(ar J).trans ((ar J).trans C.p);unfold kE at hI;unfold eh;simp(disch:=omega)only[bk,hI,Int.lt_irrefl,decide_false,seval];have jM:IntKind.wrap .i64 ((n:Int)+1)=((n+1:Nat):Int):=cF J;refine bf @jM ?_;generalize iH:T (T (T I E _) E _) b6 _=H;have D:∀d,d≠b6->d≠E->u H d=u I d:=aa
 have hHp:u H b6=some (.cells (kE room (.slice (some ⟨b,0,some 1⟩) 0 1) dF dh (n+1) (n+1)) false):=by rw[<-iH,aR];rfl
 have S:lb g H:=λd o bs=>by
  have bw:¬(d=b6\/d=dh\/d=dF\/d=b\/U<=d):=aa
  rw[D d J J,hk d J J J J J,ar J];exact G d o bs
 refine(acO  ((bD.sub S).F  aF J) cj d8).mono ?_;rintro _ bP bU ⟨V,rfl,hx3,ee,A,fx⟩;have dq:u bP U=_:=(A U J).trans ((D U J J).trans hd);unfold eh;refine bf @dq ?_;refine⟨V,rfl,ee.F aa J J,⟨?_,?_,?_,?_⟩,λd aW aP cy eE ir=>?_,J⟩
 ·rw[ar J,A b6 J];omega
 ·rw[ar J,A b J,D b kL.2.1 J];exact C.r
 ·rw[ar J,A dh J,D dh dL.2 J];exact C.o
 ·rw[ar J,A dF J,D dF jC.2.1 J];exact C.m
 ·rw[ar J,A d J,D d aP J,hk d J aP cy eE ir,ar J]
theorem ajQ(B:y9 h U b6 dF dh b n co gc gv ha room f):aD Q s 147 [bb b6] h U (c9 (.int .i64 0) U h):=by refine al7 ?_;have I:=B.o6;have P:=B.bN;have D:=B.p;refine(F4 B.p).f5 ?_;refine mf @D ?_;refine⟨λh=>absurd h (by decide),λ_=>?_⟩;refine(av4 B.r).f5 ?_;have E:∀{o aU},u (T (T h U o) U aU) b6=_:=λ{o aU}=>(ar J).trans ((ar J).trans D);have A:∀{o},u (T h U o) b6=_:=λ{o}=>(ar J).trans D;refine tv @E @A ?_;refine(av5  ((ar J).trans ((ar J).trans B.r)) aa).f5 ?_;exact⟨rfl,aF,J⟩
end
def xq(own:Nat->Nat)(dJ:Nat)(room:Int)(h:ae)(U b6 n:Nat):Prop:=∃dF dh rw dC co gc,u h b6=some (.cells (kE room rw dF dh n n) false)/\Le h rw dC/\u h dh=some (.map [] co)/\u h dF=some (.map [] gc)/\b6<U/\(dh<U/\dh≠b6)/\(dF<U/\dF≠b6/\dF≠dh)/\(∀b,dC=some b->b<U/\b≠b6/\b≠dh/\b≠dF)/\own b6=dJ/\own dh=dJ/\own dF=dJ/\∀b,dC=some b->own b=dJ
def uc(own:Nat->Nat)(dJ:Nat)(room:Int)(g h:ae)(U b6 n:Nat)(p:kM):Prop:=∃dF dh b co gc gv ha f,y9 h U b6 dF dh b n co gc gv ha room f/\sS g 0 U f p/\f.hO=(n:Int)/\own b6=dJ/\own dh=dJ/\own dF=dJ/\own b=dJ
theorem lz.frN{h:ae}{al:Nat}{f:eC}{p:kM}(H:lz h al aj f p):sS h al aj f p:=⟨H.is.kind,H.is.fB,H.is.lR,H.is.round,H.is.l7,H.hc.gC,H.i3.gC,H.is.n8,H.is.n,H.is.od⟩
section
variable {s:ao} {g cG h ab:ae} {U Y b6 n dJ fQ:Nat} {room:Int} {own db:Nat->Nat} {p:kM} {f:eC}
theorem xq.send(E:xq own dJ room h U b6 n)(r6:dJ≠0)(B:1<=room)(bw:n<100000)(bD:mY h U f p)(cj:p.l4.length<10000)(d8:p.nK.length<10000):
  aD Q s 238 [bb b6,.agg ⟨eh f⟩] h U (λr ab Y=>r = .int .i64 0/\∃db cG,uc db dJ room cG ab Y b6 n p/\jt db ab Y cG/\D1 dJ own db h ab U Y):=by
 obtain⟨dF,dh,rw,dC,co,gc,dA,b2,d2,fJ,gl,V,zk,aCc,eV,dQ,gu,l2⟩:=E;refine(apR dA gl B b2 aCc d2 fJ V zk bw bD cj d8).mono ?_;rintro _ ab Y ⟨rfl,A,kJ,m,c1,c2,cm,gd,p9,hc,i3,he,q0,I⟩;obtain⟨db,cG,gy,D,qQ,lg⟩:=wo (dJ:=dJ) (own:=own) (h:=h) (ab:=ab) (U:=U) (Y:=Y) (some A) none J aa;have P:db A=dJ:=by
  rcases cm with e|⟨aW,aP⟩
  ·exact(D.dZ A aa).trans aa
  grind
 have lb':A<Y/\A≠b6/\A≠dh/\A≠dF/\(A<U\/m<=A):=aa
 exact⟨rfl,db,cG,⟨dF,dh,A,co,gc,co+1,gc+1,kJ,⟨c1,c2,gd,p9,J,J,J,J,bw⟩,i3.frN.F (gy.new I aa) J I,hc,(D.dZ b6 gl).trans eV,(D.dZ dh V.1).trans dQ,(D.dZ dF zk.1).trans gu,P⟩,gy,D⟩
theorem uc.take(B:uc own dJ room g h U b6 n p)(A:jt own h U g)(E:dJ≠0)(cj:p.l4.length<10000)(d8:p.nK.length<10000):
  aD Q s 243 [bb b6,.int .i64 0] h U (λr ab Y=>∃I,r = .tuple ⟨[.agg ⟨eh I⟩,.bool true,.int .i64 0]⟩/\lz ab U Y I p/\∃db cG,xq db dJ room ab Y b6 (n+1)/\jt db ab Y cG/\D1 dJ own db h ab U Y):=by
 obtain⟨dF,dh,b,co,gc,gv,ha,f,B,bD,aH,eV,dQ,gu,V⟩:=B;refine(apS B A.sub (λd bs=>?_) bD.is aH cj d8).mono ?_
 ·rcases bs with rfl|rfl|rfl|rfl|bs
  ·exact A.Do eV E
  ·exact A.Do dQ E
  ·exact A.Do gu E
  ·exact A.Do V E
  ·rw[A d,if_neg J]
 ·rintro _ ab Y ⟨I,rfl,ee,C,hk,P⟩;obtain⟨db,cG,gy,D,_,_⟩:=wo (dJ:=dJ) (own:=own) (h:=h) (ab:=ab)   none none P aa;have dU:=B.o6;have dL:=B.al;have jC:=B.zp;have kL:=B.bN;exact⟨I,rfl,ee,db,cG,⟨dF,dh,_,some b,gv,ha,C.p,.inr ⟨b,_,rfl,rfl,C.r⟩,C.o,C.m,J,J,J,aa,(D.dZ b6 dU).trans eV,(D.dZ dh dL.1).trans dQ,(D.dZ dF jC.1).trans gu,λcr e=>by cases e;exact(D.dZ b kL.1).trans V⟩,gy,D⟩
theorem xq.len(E:xq own dJ room h U b6 n):aD Q s 145 [bb b6] h U (fs (.int .i64 0) U h):=by
 obtain⟨dF,dh,rw,D,co,gc,A,B,_⟩:=E;rcases B with⟨rfl,_⟩|⟨b,w,_,rfl,_⟩
 ·exact F4 A
 ·exact F4 A
theorem uc.len(B:uc own dJ room g h U b6 n p):aD Q s 145 [bb b6] h U (fs (.int .i64 1) U h):=by obtain⟨dF,dh,b,co,gc,gv,ha,f,B,_⟩:=B;exact F4 B.p
theorem uc.av6(B:uc own dJ room g h U b6 n p):aD Q s 147 [bb b6] h U (c9 (.int .i64 0) U h):=by obtain⟨dF,dh,b,co,gc,gv,ha,f,B,_⟩:=B;exact ajQ B
theorem xq.other(E:xq own dJ room h U b6 n)(P:U<=Y)(same:∀d,d<U->own d=dJ->u ab d=u h d)(D:∀d,d<U->db d=own d):xq db dJ room ab Y b6 n:=by
 obtain⟨dF,dh,rw,I,co,gc,dA,V,d2,fJ,gl,Ii,zk,aCc,eV,dQ,gu,l2⟩:=E;refine⟨dF,dh,rw,I,co,gc,aa,?_,aa,aa,J,J,J,aa,aa,aa,aa,aa⟩;rcases V with q|⟨b,w,A,B,hb⟩
 ·exact .inl q
 ·exact .inr ⟨b,w,A,B,aa⟩
theorem uc.other(B:uc own dJ room g h U b6 n p)(A:U<=Y)(same:∀d,d<U->own d=dJ->u ab d=u h d)(D:∀d,d<U->db d=own d)(P:aA U g cG):uc db dJ room cG ab Y b6 n p:=by
 obtain⟨dF,dh,b,co,gc,gv,ha,f,B,I,V,eV,dQ,gu,l2⟩:=B;have dU:=B.o6;have dL:=B.al;have jC:=B.zp;have kL:=B.bN;refine⟨dF,dh,b,co,gc,gv,ha,f,B.F (λd bs=>?_) A,I.F (λd _ E=>P d E) J A,V,aa,aa,aa,aa⟩
 grind
end
section
variable {s:ao} {g h:ae} {U aL i j al ax t:Nat} {c:Nat->X} {l:ac eC} {aY so:ay Nat} {Z:cn} {own:Nat->Nat} {x:gi} {bC b4 cE:Nat} {C:Nat}
theorem al9(W:e0 h U aL c i j C [] aY):aD Q s 61 [bb aL] h U (λr ab Y=>(∃v,r = .tuple ⟨[.agg ⟨eh v⟩,.bool false]⟩)/\aA U h ab/\U<=Y):=by
 refine acA ?_;have A:∀{o},aA U h (T h U o):=aF
 have B:∀{o},e0 (T h U o) (U+1) aL c i j C [] aY:=λ{o}=>W.F (λd D=>A d (D.elim (λe=>e ▸ W.lt) λe=>(W.aY d e).2)) J;unfold Rf;refine aE ?_;refine(Pb B).f5 ?_;have aq:(((([]:ac eC).length:Nat):Int) == 0)=true:=rfl;refine bf @aq ?_;exact⟨⟨⟨0,0,0,0,0,0,none,0,0,none,0,0,none,0,0,0,false⟩,rfl⟩,aF,J⟩
def Bj(Z:cn)(ax:Nat):Prop:=∀t,t<=ax->VA Z t/\∀v y,v<Z.N->Z.e3.x t v=some y->0<=y/\y<=eS
theorem jH.cX{f:eC}(K:f8 Z)(R:jH Z ax x i j own g h U aL c l aY so bC b4 cE)(A:jt own h U g)(E:m7 Z.R Z.C ax x m)(I:m.dst Z.C=i*Z.C+j)(cb:j<Z.C)(V:ax<900)(D:∀t,t<=ax->(Z.gn t=0↔t<ax))(B:Bj Z ax)(bD:lz h al U f (pI Z m))(P:(x.out (i*Z.C+j)).length<800):
  aD Q s 63 [bb aL,.agg ⟨eh f⟩] h U (D7 Z ax x m i j own h U aL bC b4 cE):=by
 have t6:=E;cases m with
 |share dR oC t =>
  have I:oC=i*Z.C+j:=I;obtain⟨rfl,rfl⟩:=tj  (i:=0)  (aK:=i)  J E.2.1 cb;exact R.share K A E V bD P
 |spread aK oC t =>
  obtain⟨rfl,rfl⟩:=tj      I E.2.1 cb;exact R.spread K A E V (B t E.2.2.2).2 bD P
 |dG aK oC t =>
  have I:aK*Z.C=i*Z.C+j:=I;obtain⟨rfl,rfl⟩:=tj      J K.hI cb;obtain⟨_,_,_,aW,_,aP,_⟩:=E;exact R.dG K A t6 V D (B t aP).1 bD P
 |dH aK t =>
  have I:0=i*Z.C+j:=I;obtain⟨rfl,rfl⟩:=tj  (i:=0)  (aK:=i)  J K.hI cb;exact R.dH K A E V D bD P
 |order aK t =>
  have I:aK*Z.C=i*Z.C+j:=I;obtain⟨rfl,rfl⟩:=tj      J K.hI cb;exact R.order K A E V D bD P
end
def sv(p:Nat):ac X:=[bb p]
structure za where
 az:ay Addr
 bg:Nat
 c1:Nat
 a2:ay Addr
 bU:Nat
 c2:Nat
 a3:ay Addr
 b1:Nat
 cm:Nat
def GV(N:Nat)(v:za):ac X:=[.int .i64 0,(N:X),.slice v.az v.bg v.c1,.slice v.a2 v.bU v.c2,.slice v.a3 v.b1 v.cm]
def fS(a:Nat->X)(N R C:Nat)(room:Int)(ws:X)(pm:Nat)(os au:X):ac X:=[a 0,(N:X),a 2,a 3,a 4,a 5,a 6,(R:X),(C:X),(room:X),a 10,a 11,ws,.map (some pm),os,au]
def cn.G(Z:cn):Nat:=Z.R*Z.C+1
abbrev i7:=Fin 64 × Fin 64
def pz(k:i7):X:=.agg ⟨[(k.1.val:X),(k.2.val:X)]⟩
def nF(Z:cn)(k:i7):Nat:=Z.R*Z.C+2+(k.1.val*64+k.2.val)
variable {M:ac (i7 × X × Nat)}
theorem atJ{Z:cn}{k A:i7}(h:nF Z k=nF Z A):k=A:=by
 obtain⟨⟨a,E⟩,⟨b,I⟩⟩:=k;obtain⟨⟨V,D⟩,⟨P,B⟩⟩:=A;unfold nF at h
 grind
section
variable {s:ao} {g cG h ab:ae} {U Y:Nat} {Z:cn} {own db:Nat->Nat} {x fD:gi} {room:Int} {ax L de dj cq pm:Nat} {aL:Nat->Nat} {cU o5:Nat->Nat->ac cB}
structure xr (Z:cn) (room:Int) (L:Nat) (aL:Nat->Nat) (cq pm:Nat) (own:Nat->Nat) (g h:ae) (U:Nat) (a:Nat->X) (ws os au:X) (l:ac za) (fv eJ fF:ay Nat):Prop where
 at_:u h cq=some (.cells (fS a Z.N Z.R Z.C room ws pm os au) false)
 ws:gZ h sv ws ((List.range (Z.R*Z.C)).map aL) fv
 os:gZ h sv os ((List.range Z.R).map λi=>aL (i*Z.C)) eJ
 au:fu h (GV Z.N) 5 au l fF
 b:∀b,fF=some b->b<U/\own b=Z.G/\b≠cq/\b≠pm
 l0:∀b,fv=some b->b<U/\own b=Z.G/\b≠cq/\b≠pm/\fF≠some b
 dC:∀b,eJ=some b->b<U/\own b=Z.G/\b≠cq/\b≠pm/\fF≠some b
 L:l.length=L
 st:∀(t:Nat) (v:za),l[t]? = some v->jr g U (.agg ⟨GV Z.N v⟩) 0 Z.N (Z.e3.st t)
 p:cq<U/\own cq=Z.G
 m:pm<U/\own pm=Z.G/\pm≠cq
theorem xr.other{a:Nat->X}{ws os au:X}{l:ac za}{fv eJ fF:ay Nat}(H:xr Z room L aL cq pm own g h U a ws os au l fv eJ fF)(I:U<=Y)(same:∀d,d<U->own d=Z.G->d≠pm->u ab d=u h d)(D:∀d,d<U->db d=own d)(P:aA U g cG):xr Z room L aL cq pm db cG ab Y a ws os au l fv eJ fF where
 at_:=(same cq H.p.1 H.p.2 (kt H.m.2.2)).trans H.at_
 ws:=H.ws.F λb e=>by obtain⟨E,B,_,A,_⟩:=H.l0 b e;grind
 os:=H.os.F λb e=>by obtain⟨E,B,_,A,_⟩:=H.dC b e;grind
 au:=H.au.F λb e=>by obtain⟨E,B,_,A⟩:=H.b b e;grind
 b:=λb e=>by obtain⟨E,B,A⟩:=H.b b e;grind
 l0:=λb e=>by obtain⟨E,B,A⟩:=H.l0 b e;grind
 dC:=λb e=>by obtain⟨E,B,A⟩:=H.dC b e;grind
 L:=H.L
 st:=λt v e=>jr.F (H.st t v e) P I
 p:=⟨by have:=H.p.1;omega,(D cq H.p.1).trans H.p.2⟩
 m:=⟨by have:=H.m.1;omega,(D pm H.m.1).trans H.m.2.1,H.m.2.2⟩
theorem xr.wr{a:Nat->X}{ws os au:X}{l:ac za}{fv eJ fF:ay Nat}(H:xr Z room L aL cq pm own g h U a ws os au l fv eJ fF):dg h U ws sv ((List.range (Z.R*Z.C)).map aL):=(H.ws.gC (al:=0)  λc e=>⟨J,(H.l0 c e).1⟩).rd
theorem xr.or{a:Nat->X}{ws os au:X}{l:ac za}{fv eJ fF:ay Nat}(H:xr Z room L aL cq pm own g h U a ws os au l fv eJ fF):dg h U os sv ((List.range Z.R).map λi=>aL (i*Z.C)):=(H.os.gC (al:=0)  λc e=>⟨J,(H.dC c e).1⟩).rd
def xt(Z:cn)(room:Int)(cU:Nat->Nat->ac cB)(de dj:Nat)(own:Nat->Nat)(g h:ae)(U:Nat)(k:i7)(b6:Nat):Prop :=
 (cU k.1.val k.2.val=[]/\∃n,n<=de/\xq own (nF Z k) room h U b6 n)\/∃m n,cU k.1.val k.2.val=[m]/\n<=dj/\uc own (nF Z k) room g h U b6 n (pI Z m)
theorem xt.other{k:i7}{b6 sV sW:Nat}(B:xt Z room cU de dj own g h U k b6)(D:U<=Y)(same:∀d,d<U->own d=nF Z k->u ab d=u h d)(A:∀d,d<U->db d=own d)(P:aA U g cG)(e:o5 k.1.val k.2.val=cU k.1.val k.2.val)(h1:de<=sV)(ap:dj<=sW):xt Z room o5 sV sW db cG ab Y k b6:=by
 rcases B with⟨I,n,V,E⟩|⟨m,n,I,V,E⟩
 ·exact .inl ⟨aa,n,J,E.other D same A⟩
 ·exact .inr ⟨m,n,aa,J,E.other D same A P⟩
structure Bk (Z:cn) (room:Int) (pm:Nat) (cU:Nat->Nat->ac cB) (de dj:Nat) (own:Nat->Nat) (g h:ae) (U:Nat) (M:ac (i7 × X × Nat)) (c:Nat):Prop where
 m:jd h pm pz M c
 get:∀k v,iL M k=some v->k.1.val<Z.R*Z.C/\k.2.val<Z.R*Z.C/\∃b6,v = (bb b6)/\xt Z room cU de dj own g h U k b6
 has:∀a b,cU a b≠[]->∃k:i7,k.1.val=a/\k.2.val=b/\iL M k≠none
theorem Bk.other{M:ac (i7 × X × Nat)}{c sV sW:Nat}(B:Bk Z room pm cU de dj own g h U M c)(rB:pm<U/\own pm=Z.G)(D:U<=Y)(same:∀d,d<U->Z.G<=own d->u ab d=u h d)(A:∀d,d<U->db d=own d)(e8:aA U g cG)(h1:de<=sV)(V:dj<=sW):Bk Z room pm cU sV sW db cG ab Y M c where
 m:=B.m.F aa
 get:=λk v e=>by obtain⟨aW,P,b6,I,eE⟩:=B.get k v e;refine⟨aW,P,b6,I,eE.other D (λd en E=>same d en ?_) A e8 rfl h1 V⟩;unfold nF at E;unfold cn.G;omega
 has:=B.has
structure iC (Z:cn) (room:Int) (ax:Nat) (aL:Nat->Nat) (cq pm a0:Nat) (aq:ae) (x:gi) (cU:Nat->Nat->ac cB) (de dj L:Nat) (own:Nat->Nat) (g h:ae) (U:Nat):Prop where
 oG:jt own h U g
 dE:∀i j,i<Z.R->j<Z.C->∃c l aY so bC b4 cE,jH Z ax x i j own g h U (aL (i*Z.C+j)) c l aY so bC b4 cE
 hH:∃a ws os au l fv eJ fF,xr Z room L aL cq pm own g h U a ws os au l fv eJ fF
 nj:∃M c,Bk Z room pm cU de dj own g h U M c
 i6:a0<=U
 h9:∀d,d<a0->own d=0/\u h d=u aq d
theorem iC.still{a0:Nat}{aq:ae}(H:iC Z room ax aL cq pm a0 aq x cU de dj L own g h U)(E:aA U h ab)(A:U<=Y):∃db cG,iC Z room ax aL cq pm a0 aq x cU de dj L db cG ab Y/\(∀d,d<U->db d=own d)/\aA U g cG/\∀d,U<=d->db d=0:=by
 obtain⟨db,cG,gy,D,_,dc⟩:=wo (dJ:=Z.G)      none none A λd h1 _=>E d h1;have P:=H.oG.F gy D (Nat.succ_ne_zero _);obtain⟨a,ws,os,au,l,fv,eJ,fF,G⟩:=H.hH;obtain⟨M,c,B⟩:=H.nj;refine⟨db,cG,⟨gy,λi j aj V=>?_,⟨a,ws,os,au,l,fv,eJ,fF,G.other A (λd I _ _=>E d I) D.dZ P⟩,⟨M,c,B.other ⟨G.m.1,G.m.2.1⟩ A (λd I _=>E d I) D.dZ P J J⟩,hJ H.i6 A,λd bs=>?_⟩,D.dZ,P,aa⟩
 ·obtain⟨c,l,aY,so,bC,b4,cE,R⟩:=H.dE i j aj V;have:=ps aj V;exact⟨c,l,aY,so,bC,b4,cE,R.other A (λd I _=>E d I) D.dZ (show i*Z.C+j+1≠Z.G by unfold cn.G;omega) P rfl rfl aa aa aa⟩
 ·have:=H.i6;exact⟨(D.dZ d J).trans (H.h9 d bs).1,(E d J).trans (H.h9 d bs).2⟩
theorem iC.work{a0 i j:Nat}{aq:ae}(H:iC Z room ax aL cq pm a0 aq x cU de dj L own g h U)(aj:i<Z.R)(cb:j<Z.C)(gy:jt db ab Y cG)(I:U<=Y)(same:∀d,d<U->own d≠i*Z.C+j+1->u ab d=u h d)(E:∀d,d<U->db d=own d)(e8:aA U g cG)
  (bV:∃c l aY so bC b4 cE,jH Z ax fD i j db cG ab Y (aL (i*Z.C+j)) c l aY so bC b4 cE)
  (fd:∀A D,A*Z.C+D≠i*Z.C+j->fD.q A D=x.q A D/\fD.out (A*Z.C+D)=x.out (A*Z.C+D)/\(A=0->fD.P D=x.P D/\fD.e2 D=x.e2 D)/\(D=0->fD.a A=x.a A/\fD.w A=x.w A/\fD.d1 A=x.d1 A)/\(A=0->D=0->fD.V=x.V/\fD.fR=x.fR)):
  iC Z room ax aL cq pm a0 aq fD cU de dj L db cG ab Y:=by
 obtain⟨a,ws,os,au,l,fv,eJ,fF,G⟩:=H.hH;obtain⟨M,c,B⟩:=H.nj;have cS:=ps aj cb;have iH:Z.G=Z.R*Z.C+1:=rfl;refine⟨gy,λA D V P=>?_,⟨a,ws,os,au,l,fv,eJ,fF,G.other I (λd en fT _=>same d en J) E e8⟩,⟨M,c,B.other ⟨G.m.1,G.m.2.1⟩ I (λd en fT=>same d en J) E e8 J J⟩,hJ H.i6 I,λd bs=>?_⟩
 ·by_cases e:A*Z.C+D=i*Z.C+j
  ·obtain⟨rfl,rfl⟩:=tj e P cb;exact bV
  ·obtain⟨c,l,aY,so,bC,b4,cE,R⟩:=H.dE A D V P;obtain⟨aW,aP,cy,eE,ir⟩:=fd A D e;exact⟨c,l,aY,so,bC,b4,cE,R.other I same E J e8 aW aP cy eE ir⟩
 ·have:=H.i6;have h1:=H.h9 d bs;exact⟨(E d J).trans h1.1,(same d J J).trans h1.2⟩
theorem iC.ahp{a0 b6 c:Nat}{aq:ae}{k:i7}(H:iC Z room ax aL cq pm a0 aq x cU de dj L own g h U)(B:Bk Z room pm cU de dj own g h U M c)(aI:iL M k=some (bb b6))(gy:jt db ab Y cG)(D:D1 (nF Z k) own db h ab U Y)(dV:xt Z room o5 sV sW db cG ab Y k b6)(bK:∀a b,¬(a=k.1.val/\b=k.2.val)->o5 a b=cU a b)(h1:de<=sV)(ap:dj<=sW):iC Z room ax aL cq pm a0 aq x o5 sV sW L db cG ab Y:=by
 obtain⟨a,ws,os,au,l,fv,eJ,fF,G⟩:=H.hH;have iH:Z.G=Z.R*Z.C+1:=rfl;have r6:Z.G<nF Z k:=by unfold nF;omega
 have A:=H.oG.F gy D J;obtain⟨dq,eF,_⟩:=B.get k _ aI;refine⟨gy,λi j aj cb=>?_,⟨a,ws,os,au,l,fv,eJ,fF,G.other D.le (λd E V _=>D.same d E J) D.dZ A⟩,⟨M,c,B.m.F (D.same pm G.m.1 (by rw[G.m.2.1];omega)),λP v e=>?_,λa b e=>?_⟩,hJ H.i6 D.le,λd bs=>?_⟩
 ·obtain⟨c,l,aY,so,bC,b4,cE,R⟩:=H.dE i j aj cb;have:=ps aj cb;exact⟨c,l,aY,so,bC,b4,cE,R.other D.le D.same D.dZ J A rfl rfl aa aa aa⟩
 ·by_cases cz:P=k
  ·subst cz;rw[aI]at e;cases e;exact⟨dq,eF,b6,rfl,dV⟩
  ·obtain⟨d6,gV,I,ji,oF⟩:=B.get P v e;exact⟨d6,gV,I,ji,oF.other D.le (λd E V=>D.same d E (by rw[V];exact λe=>cz (atJ e))) D.dZ A aa h1 ap⟩
 ·by_cases cz:a=k.1.val/\b=k.2.val
  ·grind
  ·rw[bK a b cz]at e;exact B.has a b e
 ·have:=H.i6;have aH:=H.h9 d bs;exact⟨(D.dZ d J).trans aH.1,(D.same d J J).trans aH.2⟩
theorem iC.mono{a0:Nat}{aq:ae}(H:iC Z room ax aL cq pm a0 aq x cU de dj L own g h U)(A:de<=sV)(D:dj<=sW):iC Z room ax aL cq pm a0 aq x cU sV sW L own g h U:=by obtain⟨a,ws,os,au,l,fv,eJ,fF,G⟩:=H.hH;obtain⟨M,c,B⟩:=H.nj;exact{ H with nj:=⟨M,c,B.other ⟨G.m.1,G.m.2.1⟩ J aa J aF A D⟩ }
end
theorem ahq:Q.underlying 198=some (.array 2 3):=by kernel_rfl
theorem aAh:Q.keyTypeAt 8 198=true:=by kernel_rfl
theorem ahr:Q.cellsOf 198=2:=by kernel_rfl
theorem J4:wK Q 198 pz:=by
 have fin:∀a:Fin 64,(Lit.int .i64 (a.val:Int)).wf=true:=λa=>by simp[Lit.wf,IntKind.min,IntKind.max,IntKind.bits,IntKind.signed];omega
 have A:∀a b:Fin 64,Q.keyLits 8 198 [.int .i64 (a.val:Int),.int .i64 (b.val:Int)]=some [.int .i64 (a.val:Int),.int .i64 (b.val:Int)]:=λa b=>by
  have B:∀m:Fin 64,Q.keyLits 7 3 [.int .i64 (m.val:Int)]=some [.int .i64 (m.val:Int)]:=λm=>by unfold Program.keyLits;simp only[vF,fin m,se,if_true]
  unfold Program.keyLits;simp only[ahq,ahr,cm,nq,BU,Nat.reduceAdd,if_true];rw[show List.range 2=[0,1]from rfl];simp only[zC,IU,mb,s9,nr,IG,BQ,s8,B a,B b];rfl
 have e:∀a b:i7,k5 Q 198 (pz a) (pz b)=some (decide (a=b)):=λa b=>by
  show qF Q 198 (pz a) (pz b)=_;have D:∀a:i7,(pz a).formed Q 198=true:=λa=>by simp[pz,Value.formed,ahq,ahr]
  unfold qF;rw[aAh,D,D];show(bif true&&(true&&true&&true&&true)then GY (Q.keyLits 8 198 [.int .i64 (a.1.val:Int),.int .i64 (a.2.val:Int)]) (Q.keyLits 8 198 [.int .i64 (b.1.val:Int),.int .i64 (b.2.val:Int)])else none)=_;rw[A,A];show some ((mn .i64 .i64&&ga (a.1.val:Int) (b.1.val:Int))&&((mn .i64 .i64&&ga (a.2.val:Int) (b.2.val:Int))&&true))=_;rw[v6,k3,k3]
  congr 1
  grind
 refine⟨λk=>?_,e,λk=>?_⟩
 ·unfold yo;grind
 ·unfold pz;simp
theorem An:wc Q 110=true:=by kernel_rfl
theorem ama{t:TypeId}(A:wc Q t=true):bin Q .eql t (.pointer none) (.pointer none) = .ok (.bool true):=by show R.of "compared" (oT Q t (.pointer none) (.pointer none)) _=_;unfold oT;simp[A,GF,mP]
theorem av7{r:Nat}:oP (.map (some r)) (.map (some r))=true:=uB r
section
variable {s:ao} {g h:ae} {U:Nat} {Z:cn} {own:Nat->Nat} {x:gi} {room:Int} {ax L de dj cq pm:Nat} {aL:Nat->Nat} {cU:Nat->Nat->ac cB} {a:Nat->X} {ws os au:X} {l:ac za} {fv eJ fF:ay Nat} {a0:Nat} {aq:ae}
theorem wp{f:Nat->Nat}{n:Nat}:((List.range n).map f).length=n:=aa
theorem J5(G:xr Z room L aL cq pm own g h U a ws os au l fv eJ fF)(B:k<Z.R*Z.C):aD Q s 236 [bb cq,(k:X)] h U (fs (.bool true) U h):=by
 refine avU ?_;have A:=G.at_;obtain⟨D,E,rfl,_⟩:=G.wr;rw[wp]at A;unfold af9;unfold fS at A;simp(disch:=omega)only[bk,NE An,A,seval];refine⟨λ_=>⟨?_,rfl,rfl⟩,λe=>absurd e J⟩
 grind
def aAi(Z:cn)(room:Int)(ax:Nat)(aL:Nat->Nat)(cq pm a0:Nat)(aq:ae)(x:gi)(cU:Nat->Nat->ac cB)(de dj L:Nat)(k:i7)(g h:ae)(U:Nat):bZ:=λr ab Y =>
 ∃b6 db cG,r = (bb b6)/\iC Z room ax aL cq pm a0 aq x cU de dj L db cG ab Y/\(∃M c,Bk Z room pm cU de dj db cG ab Y M c/\iL M k=some r)/\(∀d,d<U->d≠pm->u ab d=u h d)/\U<=Y/\aA U g cG
theorem acP(H:iC Z room ax aL cq pm a0 aq x cU de dj L own g h U)(lg:a0<=pm)(k:i7)(dy:k.1.val<Z.R*Z.C)(a1:k.2.val<Z.R*Z.C)(sF:1<=room)(oj:room<=64):
  aD Q s 237 [bb cq,(k.1.val:X),(k.2.val:X)] h U (aAi Z room ax aL cq pm a0 aq x cU de dj L k g h U):=by
 refine avV ?_;obtain⟨a,ws,os,au,l,fv,eJ,fF,G⟩:=H.hH;obtain⟨M,c,B⟩:=H.nj;have bd:=G.at_;have bn:=G.p;have bx:=G.m;refine(J5 G dy).f5 ?_;refine aE ?_;refine(J5 G a1).f5 ?_;refine aE ?_;unfold Qq;unfold fS at bd;have V:∀{o E},u (T (T h U o) U E) cq=_:=λ{o E}=>(ar J).trans ((ar J).trans bd);have P:=λo E=>wL J4 (B.m.F (ab:=T (T h U o) U E) aa) (k:=k) (z:=.pointer none) (ok:=false);rw[show pz k = .agg ⟨[(k.1.val:X),(k.2.val:X)]⟩from rfl]at P
 replace P:=λo E=>(P o E).trans (show _=R.ok ((iL M k).getD (.pointer none))from rfl)
 refine cM @V @P ?_;cases aI:iL M k with
 |some v =>
  obtain⟨_,_,b6,rfl,_⟩:=B.get k v aI;rw[aI]at P
  replace P:=λo E=>(P o E).trans (show _=R.ok (Value.pointer (some ⟨b6,0,none⟩))from rfl)
  rw[show(some (Value.pointer (some ⟨b6,0,none⟩))).getD (.pointer none) = (bb b6)from rfl];simp(disch:=omega)only[bk,pj CY,V,P,seval];generalize fp:T (T h U _) U _=h1;have cI:aA U h h1:=by rw[<-fp];exact aF
  obtain⟨db,cG,gA,D,e8,_⟩:=H.still cI (vT U);exact⟨b6,db,cG,rfl,gA,⟨M,c,B.other J J aa D e8 J J,aI⟩,aa,J,e8⟩
 |none =>
  rw[show(none:ay X).getD (.pointer none) = .pointer none from rfl];simp(disch:=omega)only[bk,ama CY,V,seval];generalize fp:T (T h U _) U _=h1;have cI:aA U h h1:=by rw[<-fp];exact aF
  have dT:u h1 U=some (.cells [(k.1.val:X),(k.2.val:X)] false):=aa
  have qI:u h1 cq=_:=(cI cq bn.1).trans bd;refine(atE sF oj).mono ?_;rintro _ ap bU ⟨rfl,dA,b2,d2,ey,rfl⟩;have kh:u ap cq=_:=(ey cq J).trans qI;have hN2:=(ey U J).trans dT;have nA:jd ap pm pz M c:=B.m.F ((ey pm J).trans (cI pm bx.1));obtain⟨fI,gr⟩:=GN (x:=.pointer (some ⟨U+1+2,0,none⟩)) J4 nA aI;rw[show pz k = .agg ⟨[(k.1.val:X),(k.2.val:X)]⟩from rfl]at fI;simp(disch:=omega)only[bk,qI,kh,dT,hN2,iE,av7,fI,seval];generalize zb:T ap pm _=aH at gr;have gu:∀d,d≠pm->u aH d=u ap d:=aa
  have aCd:=gr aH aa;have sG:u aH cq=_:=(gu cq (kt bx.2.2)).trans kh;have Mu:=(gu U J).trans hN2;have hv3:iL (M++[(k,Value.pointer (some ⟨U+1+2,0,none⟩),c)]) k=some (.pointer (some ⟨U+1+2,0,none⟩)):=by rw[OJ,aI,x0,if_pos rfl];rfl
  have cy:=wL J4 aCd (k:=k) (z:=.pointer none) (ok:=false);rw[hv3,show pz k = .agg ⟨[(k.1.val:X),(k.2.val:X)]⟩from rfl]at cy
  replace cy:=cy.trans (show _=R.ok (Value.pointer (some ⟨U+1+2,0,none⟩))from rfl)
  refine gX @sG @Mu @cy ?_;have Ly:cU k.1.val k.2.val=[]:=xK λfk=>by
   obtain⟨dw,dq,eF,hb⟩:=B.has _ _ fk
   grind
  have A:∀d,d<U->d≠pm->u aH d=u h d:=λd en I=>(gu d I).trans ((ey d J).trans (cI d en))
  let db:Nat->Nat:=λd=>if d<U then own d else if U+1<=d/\d<U+4 then nF Z k else 0
  obtain⟨cG,gy⟩:=CI db aH (U+1+3);have D:∀d,d<U->db d=own d:=aa
  have new:∀d,U+1<=d->d<U+4->db d=nF Z k:=aa
  have e8:aA U g cG:=λd bs=>by
   rw[H.oG d,gy d,D d bs]
   by_cases e:own d=0
   ·rw[if_pos ⟨J,e⟩,if_pos ⟨bs,e⟩];exact A d bs λaP=>by rw[aP,bx.2.1]at e;cases e
   grind
  have iH:Z.G=Z.R*Z.C+1:=rfl;have aCe:Bk Z room pm cU de dj db cG aH (U+1+3) (M++[(k,Value.pointer (some ⟨U+1+2,0,none⟩),c)]) (c+1):=by
   refine⟨aCd,λdw v e=>?_,λa b e=>?_⟩
   ·rw[OJ]at e;cases Mc:iL M dw with
    |some d7 =>
     rw[Mc]at e;cases e;obtain⟨dq,eF,b6,hb,mF⟩:=B.get dw v Mc;refine⟨dq,eF,b6,hb,mF.other J (λd en I=>A d en λe=>?_) D e8 rfl J J⟩;rw[e,bx.2.1]at I;unfold nF at I;omega
    |none =>
     rw[Mc,x0]at e
     by_cases sD:dw=k
     ·subst sD;rw[if_pos rfl]at e;cases e;refine⟨dy,a1,_,rfl,.inl ⟨Ly,0,J,U+1,U+1+1,_,none,0,0,aa,.inl ⟨rfl,rfl⟩,(gu _ J).trans d2,(gu _ J).trans b2,J,⟨J,J⟩,⟨J,J,J⟩,(nofun),new _ J J,new _ J J,new _ J J,nofun⟩⟩
     ·rw[if_neg sD]at e;cases e
   ·obtain⟨dw,dq,eF,hb⟩:=B.has a b e;refine⟨dw,dq,eF,λaP=>hb ?_⟩;rw[OJ]at aP
    grind
  refine⟨J,U+1+2,db,cG,rfl,⟨gy,λi j aj cb=>?_,⟨a,ws,os,au,l,fv,eJ,fF,G.other J (λd en _ I=>A d en I) D e8⟩,⟨_,_,aCe⟩,J,λd bs=>?_⟩,⟨_,_,aCe,hv3⟩,A,J,e8⟩
  ·obtain⟨c,l,aY,so,bC,b4,cE,R⟩:=H.dE i j aj cb;have:=ps aj cb;exact⟨c,l,aY,so,bC,b4,cE,R.other (dJ:=Z.G) J (λd en I=>A d en λe=>I aa) D J e8 rfl rfl (λ_=>⟨rfl,rfl⟩) (λ_=>⟨rfl,rfl,rfl⟩) λ_ _=>⟨rfl,rfl⟩⟩
  ·exact⟨(D d J).trans (H.h9 d bs).1,(A d J J).trans (H.h9 d bs).2⟩
end
section
variable {s:ao} {g h:ae} {U:Nat} {Z:cn} {own:Nat->Nat} {x:gi} {room:Int} {ax L de dj cq pm:Nat} {aL:Nat->Nat} {cU:Nat->Nat->ac cB} {a0:Nat} {aq:ae}
theorem AI{f:Nat->Nat}{n i:Nat}(H:dg g U v sv ((List.range n).map f))(S:lb g h)(aj:i<n):∃b aO cap cs A,v = .slice (some ⟨b,0,aO⟩) n cap/\u h b=some (.cells cs A)/\cs[i]? = some (.pointer (some ⟨f i,0,none⟩))/\b<U:=by
 have e:((List.range n).map f)[i]? = some (f i):=aa
 obtain⟨_,b,aO,A,cap,D,B,E⟩:=H.at e;rw[wp]at B;have:=E7 (enc:=sv)  (λ_=>rfl) e (J:0<1);rw[EO,mM]at this;exact⟨b,aO,cap,_,A,B,S _ _ E,this,D⟩
theorem atK(Z:cn)(m:cB):(pI Z m).lR=(m.dst Z.C:Int):=by
 cases m <;> rfl
theorem aan(K:f8 Z)(m:cB):(pI Z m).l4.length<10000/\(pI Z m).nK.length<10000:=by
 have e:∀n (x:Nat->ay Int),n<=60->(bp n x).length<10000:=λn x B=>by have:=md n x;omega
 have z:([]:ac (Nat × Int)).length<10000:=by decide
 have A:=K.n60;cases m with
 |share i j t=>have:=CW K (i+1) j;exact⟨e _ _ J,z⟩
 |spread i j t=>have:=CV K j;exact⟨e _ _ (by unfold cn.W;omega),z⟩
 |dG i j t=>have:=yv K i;exact⟨z,e _ _ (by unfold cn.H;omega)⟩
 |dH i t=>exact⟨z,z⟩
 |order i t=>exact⟨z,z⟩
theorem Lf(K:f8 Z):Z.R*Z.C<=64:=sc K.nQ K.mL
theorem Km{C:Nat}(h:k<R*C):∃i j,i<R/\j<C/\k=i*C+j:=by
 have A:0<C:=aa
 refine⟨k / C,k % C,by rw[Na A];exact h,zD _ A,?_⟩;have:=Nat.div_add_mod k C
 grind
def Ea(Z:cn)(room:Int)(ax:Nat)(aL:Nat->Nat)(cq pm a0:Nat)(aq:ae)(x:gi)(cU:Nat->Nat->ac cB)(g:ae)(U:Nat)(de dj L:Nat)(ab:ae)(Y:Nat):Prop:=∃db cG,iC Z room ax aL cq pm a0 aq x cU de dj L db cG ab Y/\aA U g cG/\U<=Y
theorem amb(K:f8 Z)(H:iC Z room ax aL cq pm a0 aq x cU de dj L own g h U)(B:k<Z.R*Z.C)(I:x.out k=[]):
  aD Q s 143 [bb cq,(k:X)] h U (λr ab Y=>r = .bool false/\Ea Z room ax aL cq pm a0 aq x cU g U de dj L ab Y):=by
 refine acM ?_;obtain⟨i,j,aj,cb,rfl⟩:=Km B;obtain⟨a,ws,os,au,qg,fv,eJ,fF,G⟩:=H.hH;obtain⟨c,l,aY,so,bC,b4,cE,R⟩:=H.dE i j aj cb;have V:l=[]:=by
  have:=R.f;rw[I]at this;cases l with
  |nil=>rfl
  |cons=>exact this.elim
 subst V;refine(J5 G B).f5 ?_;obtain⟨b,aO,cap,cs,bL,rfl,E,P,hb⟩:=AI G.wr (λ_ _ e=>e) B;have D:=G.at_;unfold fS at D;refine gX @D @E @P ?_;refine(al9 R.W).mono ?_;rintro _ h1 bg ⟨⟨v,rfl⟩,cI,A⟩;unfold eh;refine aE ?_;obtain⟨db,cG,gA,_,e8,_⟩:=H.still ((cI.set A).set A) (J:U<=bg+1);exact⟨db,cG,gA,e8,J⟩
theorem apT(K:f8 Z)(H:iC Z room ax aL cq pm a0 aq x cU de dj L own g h U)(lg:a0<=pm)(sF:1<=room)(oj:room<=64)(hk:k<Z.R*Z.C){r:ac cB}(bx:x.out k=m::r)(bs:m.dst Z.C<Z.R*Z.C)(Bh:cU k (m.dst Z.C)=[])(bV:de<=dj)(hw2:dj<100000):
  aD Q s 143 [bb cq,(k:X)] h U (λmJ ab Y=>mJ = .bool true/\Ea Z room ax aL cq pm a0 aq { x with out:=up x.out k r } (tY cU k (m.dst Z.C) [m]) g U de dj L ab Y):=by
 refine acM ?_;obtain⟨cj,d8⟩:=aan K m;obtain⟨i,j,aj,cb,rfl⟩:=Km hk;obtain⟨a,ws,os,au,qg,fv,eJ,fF,G⟩:=H.hH;obtain⟨c,l,aY,so,bC,b4,cE,R⟩:=H.dE i j aj cb;have hS:=R.f;rw[bx]at hS;obtain⟨f,cV,rfl⟩:∃f cV,l=f::cV:=by
  cases l with
  |nil=>exact hS.elim
  |cons f cV=>grind
 have hF1:sS g 0 U f (pI Z m):=hS.1;have rB:=G.m;refine(J5 G hk).f5 ?_;obtain⟨b,aO,cap,cs,bL,rfl,dq,eF,hb⟩:=AI G.wr (λ_ _ e=>e) hk;have bd:=G.at_;unfold fS at bd;refine gX @bd @dq @eF ?_;refine(apB R.W rfl (hF1.is.sub H.oG.sub) cj d8).mono ?_;rintro _ h1 V ⟨kJ,rfl,ee,cI,fa⟩;have eto:kJ.lR=(m.dst Z.C:Int):=ee.is.lR.trans (atK Z m);unfold eh;refine aE ?_;generalize nb:T (T h1 V _) V _=ap;have D:u ap V=some (.cells (eh kJ) false):=by rw[<-nb,aR];rfl
 have ey:aA U h ap:=aF
 obtain⟨SD,g2,ig,_,Mv,_⟩:=H.still ey (J:U<=V+1);have Hw:=Lf K;have A:=acP (s:=true) ig lg (⟨i*Z.C+j,J⟩,⟨m.dst Z.C,J⟩) hk bs sF oj;dsimp only at A;rw[<-eto]at A;refine A.mono ?_;rintro _ aH b1 ⟨b6,GW,dz,rfl,jj,⟨M,aDH,B,aI⟩,gu,gg,Mw⟩;have Mu:=(gu V J J).trans D;unfold eh at D Mu;refine⟨gg,?_⟩;simp(disch:=omega)only[bk,D,Mu,iE,seval];obtain⟨_,_,pb',e,S⟩:=B.get _ _ aI;cases e;rcases S with⟨_,n,bw,E⟩|⟨bR,n,e,_⟩
 ·have UN:lz aH U b1 kJ (pI Z m):=ee.F aa J J;refine(E.send (by unfold nF;omega) sF J UN.is cj d8).mono ?_;rintro _ bh d9 ⟨rfl,P,dO,eL,xJ,MX⟩;refine⟨MX.le,?_⟩;have s2:=jj.ahp  B aI xJ MX (.inr ⟨m,n,qx _ _ _ _,J,eL⟩) (λa b e=>qy e) (cR _) (cR _);obtain⟨gd,kL,bo4,so4,rs4,rc4,rv4,It⟩:=s2.dE i j aj cb;obtain⟨MW,aCb,rfl,_,I⟩:=It.gone xJ bx;refine aE ?_;refine I.mono ?_;rintro _ b0 _ ⟨rfl,rfl,p9,aDI,aDJ,vE⟩;have BE:=MX.le;have HV:=jj.oG.F xJ MX (by unfold nF;omega);exact⟨P,dO,s2.work aj cb aDJ J vE J aF ⟨_,_,_,_,_,_,_,aDI⟩ (λaK oC fk=>⟨rfl,hh fk,aa,aa,aa⟩),aF,J⟩
 ·have e:cU (i*Z.C+j) (m.dst Z.C)=[bR]:=e;rw[Bh]at e;cases e
end
theorem apU{s:ao}{n:Nat}{h:ae}{U:Nat}(B:n<=63)(A:dg h U v kd (eT n q)):aD Q s 119 [v] h U (afJ (f9 (ez n q)) U h):=by
 by_cases aq:n=0
 ·subst aq;refine ad8 ?_;obtain⟨a,cap,rfl,I⟩:=id A;refine RH ?_;unfold K4;refine aE ?_;refine Zt ?_;refine XA l3 Q1 λP D E=>?_;refine(ab6 (km:=.slice a (eT 0 q).length cap) ⟨a,cap,rfl,λh=>absurd rfl h⟩ aa).mono ?_;rintro _ _ _ ⟨rfl,rfl⟩;exact⟨.slice none 0 0,D,λx=>⟨none,.nil,aa,aF,J⟩⟩
 ·rw[show eT n q=[mk n q]from if_neg aq]at A;exact ar4 B A
theorem Pg{n m:Nat}{f:Nat->Int}:cx n f++cx m (λk=>f (n+k))=cx (n+m) f:=by unfold cx;rw[List.range_add,hr,qk];rfl
theorem av8{n m:Nat}:ez n q++(ez m λk=>q (n+k)).map (n+·)=ez (n+m) q:=by unfold ez;rw[List.range_add,s4,List.filter_map];rfl
theorem ahs{aB:Type}{enc:aB->ac X}{h:ae}{U:Nat}{l:ac aB}{aY:ay Nat}(w:gZ h enc v l aY)(A:∀c,aY=some c->c<U):dg h U v enc l:=(w.gC (al:=0)  aa).rd
section
variable {s:ao} {g h:ae} {U:Nat} {Z:cn} {own:Nat->Nat} {x:gi} {room:Int} {ax L de dj cq pm:Nat} {aL:Nat->Nat} {cU:Nat->Nat->ac cB} {a0:Nat} {aq:ae}
def aCf:gm:=.cells [.int .i64 0,.int .i64 0,.slice none 0 0,.slice none 0 0,.slice none 0 0] false
def GaJ(Z:cn)(S:jS)(U:Nat)(h:ae)(fw:X)(m:Nat)(aJ:ac X)(ab:ae)(Y:Nat):Prop :=
 ∃i o dp fW vM dC jN,m=Z.R-i/\i<=Z.R/\aJ=[bb U,.pointer (some ⟨U+1,0,none⟩),o,fw,(Z.R:X),(i:X)]/\u ab (U+1)=some (.cells [.int .i64 0,(Z.N:X),dp,fW,.slice none 0 0] false)/\u ab U=some aCf /\
  gZ ab cY dp (cx (Z.bN i) S.A) vM/\gZ ab cY fW (cx (Z.bN i) S.B) dC/\gZ ab cY o (f9 (ez (Z.bN i) S.q)) jN/\(∀b,vM=some b->U+1<b/\b<Y)/\(∀b,dC=some b->U+1<b/\b<Y)/\(∀b,jN=some b->U+1<b/\b<Y) /\
  (∀b,vM=some b->dC≠some b/\jN≠some b)/\(∀b,dC=some b->jN≠some b)/\aA U h ab/\U+1<Y
def GaI(bN:Nat)(qg:ac Nat)(q:ac Nat)(aC az a3 aZ bI bj a6 bq:X)(aY:ay Nat)(U:Nat)(h:ae)(m:Nat)(aJ:ac X)(ab:ae)(Y:Nat):Prop :=
 ∃k o jN,m=q.length-k/\k<=q.length/\aJ=[aC,az,o,a3,aZ,bI,bj,a6,bq,(k:X)]/\gZ ab cY o (f9 (qg++(q.take k).map (bN+·))) jN/\(jN=aY\/∃b,jN=some b/\U<=b/\b<Y)/\(∀d,d<U->aY≠some d->u ab d=u h d)/\U<=Y
theorem aye{bN:Nat}{E q:ac Nat}{o sY:X}{aY eJ:ay Nat}{A:Nat}{nI l0 qc:X}{aj:Int}{K:aQ}(br:bN<=60)(di:∀x∈q,x<=60)(gT:E.length+q.length<=1000)(aDK:gZ h cY o (f9 E) aY)(aCg:gZ h cY sY (f9 q) eJ)(bn:u h A=some (.cells [(bN:X),(aj:X),nI,l0,qc] false))(Hp:A<U)(nB:∀b,aY=some b->b<U/\b≠A/\eJ≠some b)(Dw:∀b,eJ=some b->b<U)(hm:∀aU jN ab Y,gZ ab cY aU (f9 (E++q.map (bN+·))) jN->(jN=aY\/∃b,jN=some b/\U<=b/\b<Y)->(∀d,d<U->aY≠some d->u ab d=u h d)->U<=Y->K [aC,az,aU,bb A,aZ,bI,bj,sY,(q.length:X),(q.length:X)] ab Y):
  bF (bW Q s BX 234 1) [aC,az,o,bb A,aZ,bI,bj,sY,(q.length:X),.int .i64 0] h U [(2,K)] (λ_ _ _=>False):=by
 obtain⟨eo,cl,rfl⟩:=aCg.form;rw[show(f9 q).length=q.length from gW ..]at *
 refine bF.mk (GaI bN E q aC az (bb A) aZ bI bj (.slice eo q.length cl) (q.length:X) aY U h) q.length ⟨0,o,aY,J,J,rfl,by rw[s8,xP,hC];exact aDK,aa,aa,J⟩ ?_;rintro _ _ h1 bg ⟨k,eV,jN,rfl,hk,rfl,B,hoo,bD,dx⟩;rw[ah6];unfold V4;have tU:u h1 A=_:=(bD A Hp λe=>(nB A e).2.1 rfl).trans bn
 by_cases I:k<q.length
 ·have aX:q[k]? = some q[k]:=aa
  have aBw:=di q[k] aa;have D:(f9 q)[k]? = some ((q[k]:Nat):Int):=by unfold f9;grind
  have V:gZ h1 cY (.slice eo q.length cl) (f9 q) eJ:=aCg.F aa;obtain⟨_,b,aO,bL,cap,a1,e,bd⟩:=(ahs  V Dw).at D;rw[show(f9 q).length=q.length from gW ..]at e;cases e;rw[jm]at bd;have a5:=j4 D;have bV:IntKind.wrap .i64 ((bN:Int)+((q[k]:Nat):Int))=((bN+q[k]:Nat):Int):=by rw[<-vQ];exact jb _ J
  refine ll @bd @a5 @tU @bV ?_;refine⟨λ_=>?_,λh=>absurd I h⟩;refine ti (B.F  aa).hH (aR _ _ _) (by unfold f9;grind) λap P pM=>?_;have xu:IntKind.wrap .i64 ((k:Int)+1)=((k+1:Nat):Int):=cF J;refine bf @xu ?_;refine⟨_,J,k+1,_,some (bg+1),rfl,J,rfl,?_,aa,λd h1 ap=>?_,J⟩
  ·refine .inr ⟨bg+1,rfl,?_,?_⟩
   ·congr 1
    all_goals (unfold f9;grind)
   ·rw[jm,P]
    congr 2
    unfold f9;rw[List.take_succ,aX,hr,hr,hr,hr,kq];rfl
  grind
 ·have:k=q.length:=J
  subst this;refine aE ?_;refine⟨λh=>absurd h J,λ_=>?_⟩;rw[hB]at B;exact hm _ _ _ _ B hoo bD dx
end
section
variable {s:ao} {g h:ae} {U:Nat} {Z:cn} {own:Nat->Nat} {x:gi} {room:Int} {ax L de dj cq pm:Nat} {aL:Nat->Nat} {cU:Nat->Nat->ac cB} {a0:Nat} {aq:ae}
theorem aht(K:f8 Z):Z.bN Z.R=Z.N:=by unfold cn.bN c8;rw[Nat.min_self];exact M6 _ K.lH
theorem SE:Z.bN 0=0:=by unfold cn.bN c8;simp
theorem agh{n:Nat}:∀x∈ez n q,x<n:=λx A=>IS.1 (sb.1 A).1
theorem ah8(K:f8 Z)(H:iC Z room ax aL cq pm a0 aq x cU de dj L own g h U){t:Nat}(cK:∀i,i<Z.R->x.a i-1=t):
  aD Q s 234 [bb cq] h U (λr ab Y=>∃v:za,r = .agg ⟨GV Z.N v⟩/\lO ab U Y r 0 (Z.N:Int) Z.N (cx Z.N (Z.e3.st t).A) (cx Z.N (Z.e3.st t).B) (Z.e3.st t).q/\aA U h ab/\U<=Y):=by
 refine aiB ?_;obtain⟨a,ws,os,au,qg,fv,eJ,fF,G⟩:=H.hH;have bd:=G.at_;have bn:=G.p.1;have n60:=K.n60;generalize dV:Z.e3.st t=S;obtain⟨ek,co,rfl,_⟩:=id G.or;have wT:=G.or;rw[wp]at bd wT;unfold fS at bd;have qI:∀{o},u (T h U o) cq=_:=λ{o}=>(ar J).trans bd;have kh:∀{o eV dQ},u (T (T (T h U o) (U+1) eV) (U+1) dQ) cq=_:=λ{o eV dQ}=>(ar J).trans ((ar J).trans qI);unfold Xb;refine cM @qI @kh ?_;refine bF.mk (GaJ Z S U h (.slice ek Z.R co)) Z.R ⟨0,_,_,_,none,none,none,J,J,rfl,aR _ _ _,?_,?_,?_,?_,aa,aa,aa,aa,(nofun),(((aA.refl _ _).set (cR _)).set J).set J,J⟩ ?_
 ·rw[ar J,ar J,aR];rfl
 ·rw[SE];exact .nil
 ·rw[SE];exact .nil
 ·rw[SE];exact .nil
 rintro _ _ E bg ⟨i,o,dp,fW,vM,dC,jN,rfl,aj,rfl,c1,c2,MY,MZ,VE,ze,zp,al,en,fT,cI,qQ⟩;rw[ah7];unfold V5;obtain⟨bz,oB,rfl⟩:=MY.form;obtain⟨bS,gc,rfl⟩:=MZ.form
 by_cases cS:i<Z.R
 ·obtain⟨c,l,aY,so,bC,b4,cE,R⟩:=H.dE i 0 cS K.hI;have kn:=R.o rfl;obtain⟨b,aO,cap,cs,bL,e,dq,eF,hb⟩:=AI  wT (λ_ _ e=>e) cS;cases e;have q1':=(cI b hb).trans dq;have dx:=yv K i;have fp:Z.bN i+Z.H i=Z.bN (i+1):=by unfold cn.H;omega
  have aAj:Z.H i<=60:=J
  have g9:jr E bg (.agg ⟨[c 28,c 29,c 30,c 31,c 32]⟩) (Z.bN i) (Z.H i) S:=by have:=kn.has;rw[cK i cS,dV]at this;exact jr.F (hy.sub this H.oG.sub) cI J
  have nO:e0 E bg (aL (i*Z.C+0)) c i 0 Z.C l aY:=R.W.F (λd bs=>bs.elim (λe=>e ▸ cI _ R.W.lt) λe=>cI d (R.W.aY d e).2) J;refine cM @q1' @eF ?_;refine⟨λ_=>?_,λh=>absurd cS h⟩;refine(al2 nO g9 aAj).mono ?_;rintro _ B A ⟨⟨nI,l0,aEd,rfl,Ek,BF,BN⟩,ey,fx⟩;obtain⟨mK,H8,rfl,_⟩:=id Ek;obtain⟨l8,qT,rfl,_⟩:=id BF;obtain⟨M0,M1,rfl,_⟩:=id BN;have aW:∀{o aU},u (T (T B A o) A aU) (U+1)=_:=λ{o aU}=>(ar J).trans ((ar J).trans ((ey (U+1) J).trans c1));refine bf @aW ?_;generalize zb:T (T B A _) A _=V;have fr:aA A B V:=by rw[<-zb];exact((aA.refl _ _).set (cR _)).set (cR _)
  have p27:u V A=some (.cells [.int .i64 (Z.bN i:Int),((Z.bN i+Z.H i:Nat):X),.slice mK (cx (Z.H i) λk=>S.A (Z.bN i+k)).length H8,.slice l8 (cx (Z.H i) λk=>S.B (Z.bN i+k)).length qT,.slice M0 (eT (Z.H i) λk=>S.q (Z.bN i+k)).length M1] false):=aa
  replace aW:u V (U+1)=_:=(fr (U+1) J).trans ((ey (U+1) J).trans c1)
  have aM:u V U=_:=(fr U J).trans ((ey U J).trans c2);clear zb;have Mx:aA bg E V:=λd bs=>(fr d J).trans (ey d bs);have Wa3:=MY.F  λd e=>Mx d (ze d e).2;have Wb3:=MZ.F  λd e=>Mx d (zp d e).2;have Wo3:=VE.F  λd e=>Mx d (al d e).2;have L4:=dg.o  (k:=1) (λ_=>rfl) (Ek.rd.F (Y:=A+1) fr J);have SB3:=dg.o  (k:=1) (λ_=>rfl) (BF.rd.F (Y:=A+1) fr J);have SQ3:=BN.rd.F (Y:=A+1) fr J;refine Qc (k:=1) (λ_=>rfl) (λ_=>rfl) J (show y3 V cY 1 _ _ vM from Wa3) L4 (by rw[i9,i9];omega) λTZ P d9 My UO hz f4=>?_;have Tx:A+1<=d9/\d9<=A+2:=J
  have D:∀d,d<A+1->vM≠some d->u P d=u V d:=λd E B=>f4 d J B;have Vq:∀d,vM=some d->U+1<d/\d<bg:=ze;have e14:u P (U+1)=_:=(D (U+1) J λe=>aa).trans aW;have cW:u P A=_:=(D A J λe=>aa).trans p27;refine⟨J,?_⟩;simp(disch:=omega)only[bk,e14,aW,cW,p27,iE,seval];have Wb4:=Wb3.F (ab:=P) λd e=>D d aa λaP=>(en d aP).1 e;have Wo4:=Wo3.F (ab:=P) λd e=>D d aa λaP=>(en d aP).2 e;have L5:ep P d9 (.slice l8 (cx (Z.H i) λk=>S.B (Z.bN i+k)).length qT) cY 1 (cx (Z.H i) λk=>S.B (Z.bN i+k)):=by refine dg.o (enc:=cY) (k:=1) (λ_=>rfl) ((BF.F (ab:=P) (ea:=bg) (dB:=d9) (λd E B=>?_) (cR _) J).rd);rw[D d J (λe=>aa)];exact fr d B
  refine Qc (k:=1) (λ_=>rfl) (λ_=>rfl) J (show y3 P cY 1 _ _ dC from Wb4) L5 (by rw[i9,i9];omega) λT0 b0 eN rS UP Bq MW=>?_;have DE:d9<=eN/\eN<=d9+1:=J
  have I:∀d,d<d9->dC≠some d->u b0 d=u P d:=λd E B=>MW d J B;have e15:u b0 (U+1)=_:=(I (U+1) J λe=>aa).trans e14;have ie:u b0 A=_:=(I A J λe=>aa).trans cW;refine⟨J,?_⟩;obtain⟨aZ,gd,rfl⟩:∃a c,TZ = .slice a (cx (Z.bN i) S.A++cx (Z.H i) λk=>S.A (Z.bN i+k)).length c:=(show gZ P cY TZ _ My from UO).form;obtain⟨bI,p9,rfl⟩:∃a c,T0 = .slice a (cx (Z.bN i) S.B++cx (Z.H i) λk=>S.B (Z.bN i+k)).length c:=(show gZ b0 cY T0 _ rS from UP).form;have UQ:∀{o aU},u (T (T b0 (U+1) o) (U+1) aU) A=_:=λ{o aU}=>(ar J).trans ((ar J).trans ie);refine cM @e15 @UQ ?_;generalize Mz:T (T b0 (U+1) _) (U+1) _=cj;have nJ:∀d,d≠U+1->u cj d=u b0 d:=λd e=>aa
  have e16:u cj (U+1)=some (.cells [.int .i64 0,(Z.N:X),.slice aZ (cx (Z.bN i) S.A++cx (Z.H i) λk=>S.A (Z.bN i+k)).length gd,.slice bI (cx (Z.bN i) S.B++cx (Z.H i) λk=>S.B (Z.bN i+k)).length p9,.slice none 0 0] false):=aa
  replace UQ:u cj A=_:=(nJ A J).trans ie
  clear Mz;have noa:∀d,bg<=d->vM≠some d/\dC≠some d:=λd bs=>⟨λe=>aa,λe=>aa⟩
  have SQ6:dg cj eN (.slice M0 (eT (Z.H i) λk=>S.q (Z.bN i+k)).length M1) kd (eT (Z.H i) λk=>S.q (Z.bN i+k)):=by refine(BN.F (ab:=cj) (ea:=bg) (dB:=eN) (λd E B=>?_) (cR _) J).rd;rw[nJ d J,I d J (noa d E).2,D d J (noa d E).1];exact fr d B
  refine(apU J SQ6).mono ?_;rintro sY d8 n7 ⟨eJ,aCh,Dw,r8,qD⟩;obtain⟨fU,Bx,eq⟩:=aCh.form;subst eq;have eX:=(r8 A J).trans UQ;have aAk:∀d,jN=some d->U+1<d/\d<bg/\u d8 d=u V d:=λd e=>by have:=al d e;refine⟨this.1,this.2,?_⟩;rw[r8 d J,nJ d J,I d J (λaP=>fT d aP e),D d J λaP=>(en d aP).2 e]
  have Wo7:=Wo3.F (ab:=d8) λd e=>(aAk d e).2.2;refine aE ?_;rw[show((f9 (ez (Z.H i) λk=>S.q (Z.bN i+k))).length:Int)=((ez (Z.H i) λk=>S.q (Z.bN i+k)).length:Int) by unfold f9;grind]at *
  have sK:=uZ (Z.H i) λk=>S.q (Z.bN i+k);have aBx:=uZ (Z.bN i) S.q;refine aye J (λx aX=>by have:=agh x aX;omega) J Wo7 aCh eX J (λd e=>aa) (λd e=>(Dw d e).2) λaU oo' h8 n8 Wo8 ur Ep ahj=>?_;have y4:IntKind.wrap .i64 ((i:Int)+1)=((i+1:Nat):Int):=cF (by have:=K.nQ;omega);refine bf @y4 ?_;rw[Pg,fp]at UO UP;rw[Pg,Pg,fp]at e16;rw[av8,fp]at Wo8;have MT:∀d,d<n7->d≠U+1->jN≠some d->vM≠some d->dC≠some d->d<A+1->u h8 d=u V d:=λd E B V P b0 cj=>by rw[Ep d E V,r8 d J,nJ d B,I d J b0,D d cj P]
  have la':∀d,My=some d->U+1<d/\d<d9/\(vM=some d\/A<d):=λd e=>aa
  have lb':∀d,rS=some d->U+1<d/\d<eN/\(dC=some d\/d9<=d):=λd e=>by
   rcases Bq with⟨aW,_⟩|⟨aW,_⟩
   all_goals grind
  have ea:∀d,oo'=some d->U+1<d/\d<n8/\(jN=some d\/n7<=d):=λd e=>by
   rcases ur with aW|⟨b,aW,aP,cy⟩
   all_goals grind
  refine⟨_,J,i+1,aU,.slice aZ (cx (Z.bN (i+1)) S.A).length gd,.slice bI (cx (Z.bN (i+1)) S.B).length p9,My,rS,oo',rfl,J,rfl,?_,?_,?_,?_,Wo8,λd e=>aa,λd e=>aa,λd e=>aa,λd e=>⟨λaP=>?_,λaP=>?_⟩,λd e aP=>?_,λd bs=>?_,J⟩
  ·rw[Ep _ J (λe=>aa),r8 _ J];omega
  ·grind
  ·refine(show gZ P cY _ _ My from UO).F λd e=>?_;obtain⟨d6,gV,ji⟩:=la' d e;have oF:jN≠some d/\dC≠some d:=by
    rcases ji with ji|ji
    ·grind
    grind
   rw[Ep d J oF.1,r8 d J,nJ d J,I d gV oF.2]
  ·refine(show gZ b0 cY _ _ rS from UP).F λd e=>?_;obtain⟨d6,gV,ji⟩:=lb' d e;have oF:jN≠some d:=aa
   rw[Ep d J oF,r8 d J,nJ d J]
  ·grind
  ·grind
  ·grind
  ·rw[MT d J J (λe=>aa) (λe=>aa) (λe=>aa) J,Mx d J];exact cI d bs
 ·have:i=Z.R:=J
  subst this;rw[aht K]at MY MZ VE;refine bf @c1 ?_;refine⟨λh=>absurd h (Nat.lt_irrefl _),λ_=>?_⟩;refine(Ki J (ahs VE λd e=>(al d e).2) (λx aX=>agh x aX) (by have:=uZ Z.N S.q;omega)).mono ?_;rintro r B A ⟨BN,ey,fx⟩;rw[Q9]at BN;obtain⟨M0,M1,rfl,_⟩:=id BN;have aW:=(ey (U+1) J).trans c1;have aM:=(ey U J).trans c2;unfold aCf at aM;have e0':∀{o},u (T B (U+1) o) U=_:=λ{o}=>(ar J).trans aM;rw[aht K]at aW;refine cM @aW @e0' ?_;have VF:∀d,d<A->d≠U->d≠U+1->∀{o aU},u (T (T B (U+1) o) U aU) d=u B d:=λd E B V o aU=>aa
  refine⟨⟨bz,_,oB,bS,_,gc,M0,_,M1⟩,rfl,⟨_,_,_,rfl,(MY.F λd e=>?_).gC λd e=>?_,(MZ.F λd e=>?_).gC λd e=>?_,eY.F BN (λd E B=>?_) J (cR _)⟩,λd bs=>?_,J⟩
  ·have:=ze d e;rw[VF d J J J];exact ey d this.2
  ·grind
  ·have:=zp d e;rw[VF d J J J];exact ey d this.2
  ·grind
  ·grind
  ·rw[VF d J J J,ey d J];exact cI d bs
end
section
variable {s:ao} {g h:ae} {U:Nat} {Z:cn} {own:Nat->Nat} {x:gi} {room:Int} {ax L de dj cq pm:Nat} {aL:Nat->Nat} {cU:Nat->Nat->ac cB} {a0:Nat} {aq:ae}
theorem apV{h ab:ae}{al E:Nat}{I D:Int}{n:Nat}{A B:ac Int}(H:lO h al aj v I D n A B q)(P:∀b,al<=b->b<aj->u ab b=u h b)(h1:ea<=al)(V:aj<=E):lO ab ea E v I D n A B q:=by obtain⟨dp,fW,fw,e,p3,nk,kZ⟩:=H;exact⟨dp,fW,fw,e,eY.F p3 P h1 V,eY.F nk P h1 V,eY.F kZ P h1 V⟩
def NoJ(R L cq:Nat)(a:Nat->Nat)(os:X)(h:ae)(U:Nat)(m:Nat)(aJ:ac X)(ab:ae)(Y:Nat):Prop:=∃i,m=R-i/\i<=R/\(∀aK,aK<i->a aK-1=L)/\aJ=[bb cq,os,(R:X),(i:X)]/\ab=h/\Y=U
theorem aao(K:f8 Z)(H:iC Z room ax aL cq pm a0 aq x cU de dj L own g h U)(lg:a0<=cq)(f3:L<1000):
  aD Q s 140 [bb cq] h U (λr ab Y=>r = .tuple ⟨[]⟩/\Ea Z room ax aL cq pm a0 aq x cU g U de dj (tu Z.R L x.a) ab Y):=by
 refine atz ?_;obtain⟨a,ws,os,au,qg,fv,eJ,fF,G⟩:=H.hH;have bd:=G.at_;have bn:=G.p;have bx:=G.m;obtain⟨ek,co,rfl,_⟩:=id G.or;have wT:=G.or;rw[wp]at bd wT;have V:=G.au.lens;rw[G.L]at V;unfold fS at bd;unfold aeN;refine bf @bd ?_;refine bF.mk (NoJ Z.R L cq x.a (.slice ek Z.R co) h U) Z.R ⟨0,J,J,J,rfl,rfl,rfl⟩ ?_;rintro _ _ ab Y ⟨i,rfl,aj,lM,rfl,aW,aP⟩;subst ab Y;rw[apL];unfold aal
 by_cases cS:i<Z.R
 ·obtain⟨c,l,aY,so,bC,b4,cE,R⟩:=H.dE i 0 cS K.hI;have kn:=R.o rfl;obtain⟨b,aO,cap,cs,bL,e,dq,eF,hb⟩:=AI  wT (λ_ _ e=>e) cS;cases e;refine cM @dq @eF ?_;refine⟨λ_=>?_,λh=>absurd cS h⟩;refine(alS  R.W kn.D5).f5 ⟨J,?_⟩;have bV:IntKind.wrap .i64 ((i:Int)+1)=((i+1:Nat):Int):=cF (by have:=K.nQ;omega);obtain⟨Ei,Vs,MU,rfl⟩:∃a n c,au = .slice a n c:=by
   have:=G.au;generalize au=v at this;cases this <;> grind
  simp(disch:=omega)only[bk,bd,iE,V,bV,seval];refine⟨λfk=>?_,λbK=>?_⟩
  ·refine⟨own,g,?_,aF,J⟩;rw[show tu Z.R L x.a=L from if_neg aa];exact H
  ·exact⟨_,J,i+1,rfl,J,aa,rfl,rfl,rfl⟩
 ·have:i=Z.R:=J
  subst this;refine aE ?_;refine⟨λh=>absurd h J,λ_=>?_⟩;refine(ah8 K H lM).mono ?_;rintro _ E P ⟨v,rfl,ij,cI,fa⟩;have bP:=(cI cq bn.1).trans bd;refine⟨fa,?_⟩;obtain⟨Ei,Vs,MU,rfl⟩:∃a n c,au = .slice a n c:=by
   have:=G.au;generalize au=v at this;cases this <;> grind
  simp(disch:=omega)only[bk,bd,bP,iE,seval];refine x9  (k:=5) (λ_=>rfl) (λ_=>rfl) J (G.au.F λb e=>?_) v (aR _ _ _) rfl (by rw[G.L];omega) λI L0 A=>?_
  ·have:=G.b b e;rw[ar J];exact cI b this.1
  rw[G.L]at *
  have g2:u I cq=_:=(A cq J λe=>(G.b cq e).2.2.1 rfl).trans ((ar J).trans bP);refine⟨J,?_⟩;refine bf @g2 ?_;rw[show tu Z.R L x.a=L+1 from if_pos lM];generalize zb:T I cq _=aH;have gu:∀d,d≠cq->u aH d=u I d:=aa
  have dz:u aH cq=some (.cells (fS a Z.N Z.R Z.C room ws pm (.slice ek Z.R co) (.slice (some ⟨P+1,0,some 5⟩) (L+1) (L+1))) false):=by rw[<-zb,aR];rfl
  have dZ:∀d,d<U->own d≠Z.G->u aH d=u h d:=λd E I=>by rw[gu d (λe=>I aa),A d J (λe=>I (G.b d e).2.1),ar J];exact cI d E
  obtain⟨db,cG,gy,D,qQ,aAl⟩:=wo      (Y:=P+1+1) (some (P+1)) none J dZ;have e8:=H.oG.F gy D (Nat.succ_ne_zero _);obtain⟨M,c,B⟩:=H.nj;have aAm:u aH pm=u h pm:=by rw[gu pm bx.2.2,A pm J (λe=>(G.b pm e).2.2.2 rfl),ar J];exact cI pm bx.1
  have aCi:∀b,b<U/\own b=Z.G/\b≠cq/\b≠pm/\fF≠some b->u aH b=u h b:=λb e=>by rw[gu b e.2.2.1,A b J e.2.2.2.2,ar J];exact cI b e.1
  have iH:Z.G=Z.R*Z.C+1:=rfl;refine⟨db,cG,⟨gy,λi j aj cb=>?_,⟨a,ws,_,_,qg++[v],fv,eJ,some (P+1),dz,G.ws.F λb e=>aCi b (G.l0 b e),(by have:=G.os.F  λb e=>aCi b (G.dC b e);rw[wp]at this;exact this),?_,λb e=>?_,λb e=>by have:=G.l0 b e;exact⟨J,(D.dZ b this.1).trans this.2.1,this.2.2.1,this.2.2.2.1,λe=>aa⟩,λb e=>by have:=G.dC b e;exact⟨J,(D.dZ b this.1).trans this.2.1,this.2.2.1,this.2.2.2.1,λe=>aa⟩,by rw[jk,G.L];rfl,λt w e=>?_,⟨J,(D.dZ cq bn.1).trans bn.2⟩,J,(D.dZ pm bx.1).trans bx.2.1,bx.2.2⟩,⟨M,c,B.m.F aAm,λk w e=>?_,B.has⟩,J,λd bs=>?_⟩,e8,J⟩
  ·obtain⟨c,l,aY,so,bC,b4,cE,R⟩:=H.dE i j aj cb;have:=ps aj cb;exact⟨c,l,aY,so,bC,b4,cE,R.other D.le D.same D.dZ J e8 rfl rfl (λ_=>⟨rfl,rfl⟩) (λ_=>⟨rfl,rfl,rfl⟩) λ_ _=>⟨rfl,rfl⟩⟩
  ·have:=fu.own  (k:=5) L0;rw[jk,G.L]at this;exact this.F λb e=>aa
  ·grind
  ·rw[Ev]at e
   split at e
   ·exact jr.F (G.st t w e) e8 J
   ·rename_i eZ
    rw[G.L]at eZ e;have cK:t=L:=aa
    subst cK;rw[EM]at e;cases e;have gt:lO cG U P (.agg ⟨GV Z.N v⟩) 0 (Z.N:Int) Z.N (cx Z.N (Z.e3.st t).A) (cx Z.N (Z.e3.st t).B) (Z.e3.st t).q:=by refine apV ij (λb E I=>?_) (cR _) (cR _);rw[gy.new   J (λd E I=>aAl d E (λe=>aa) nofun) b E I,gu b J,A b J (λe=>by have:=G.b b e;omega),ar J]
    have Iu:=hy.F gt.rd (aA.refl P cG) (J:P<=P+1+1);unfold jr;simp only[iU];exact Iu
  ·obtain⟨aW,aP,b6,cy,eE⟩:=B.get k w e;refine⟨aW,aP,b6,cy,eE.other D.le (λd en fT=>D.same d en ?_) D.dZ e8 rfl (cR _) (cR _)⟩;rw[fT];unfold nF;omega
  ·have E:=H.h9 d bs;exact⟨(D.dZ d J).trans E.1,(D.same d J J).trans E.2⟩
end
section
variable {s:ao} {g h:ae} {U:Nat} {Z:cn} {own:Nat->Nat} {x:gi} {room:Int} {ax L de dj cq pm:Nat} {aL:Nat->Nat} {cU:Nat->Nat->ac cB} {a0:Nat} {aq:ae}
theorem aiC(K:f8 Z)(H:iC Z room ax aL cq pm a0 aq x cU de dj L own g h U)(lg:a0<=pm)(qQ:a0<=cq)(sF:1<=room)(oj:room<=64){a b:Nat}(dy:a<Z.R*Z.C)(a1:b<Z.R*Z.C)(V:cU a b=[m])(bs:m.dst Z.C=b)(aX:m7 Z.R Z.C ax x m)(fe:ax<900)(P:∀t,t<=ax->(Z.gn t=0↔t<ax))(B:Bj Z ax)(br:(x.out b).length<800)(bV:dj<de)(f3:L<1000):
  aD Q s 146 [bb cq,(a:X),(b:X),.int .i64 0] h U (λr ab Y=>r = .bool true/\Ea Z room ax aL cq pm a0 aq (cX Z.R Z.C ax x m) (tY cU a b []) g U de dj (tu Z.R L (cX Z.R Z.C ax x m).a) ab Y):=by
 refine ajK ?_;obtain⟨cj,d8⟩:=aan K m;have Hw:=Lf K;refine(acP H lg (⟨a,J⟩,⟨b,J⟩) dy a1 sF oj).mono ?_;rintro _ h1 bg ⟨b6,ahu,bP,rfl,kp,⟨M,aDH,xB,aI⟩,eV,fa,Kg1⟩;obtain⟨_,_,pb',e,S⟩:=xB.get _ _ aI;cases e;rcases S with⟨e,_⟩|⟨bR,n,e,bw,eL⟩
 ·have e:cU a b=[]:=e;rw[V]at e;cases e
 have e:cU a b=[bR]:=e;rw[V]at e;cases e;refine(eL.take kp.oG (by unfold nF;omega) cj d8).mono ?_;rintro _ ap A ⟨kJ,rfl,ee,SD,g2,aDL,aCj,Eh⟩;have ig:=kp.ahp  (sV:=de) (sW:=dj) xB aI aCj Eh (.inl ⟨qx _ _ _ _,n+1,J,aDL⟩) (λa b e=>qy e) J J;unfold eh;refine aE ?_;generalize zb:T (T ap A _) A _=aH;have fr:aA A ap aH:=by rw[<-zb];exact aF
 have nl:u aH A=some (.cells (eh kJ) false):=by rw[<-zb,aR];rfl
 have Mv:=kp.oG.F aCj Eh (by unfold nF;omega);obtain⟨GW,dz,E,_,Mw,_⟩:=ig.still fr (vT A);obtain⟨i,j,aj,cb,rfl⟩:=Km a1;obtain⟨c,l,aY,so,bC,b4,cE,BM⟩:=E.dE i j aj cb;obtain⟨ev,ws,os,au,qg,fv,eJ,fF,G⟩:=E.hH;obtain⟨cr,aO,cap,cs,bL,rfl,dq,eF,hb⟩:=AI G.wr (λ_ _ e=>e) a1;have bd:=G.at_;unfold fS at bd;refine ll @bd @dq @eF @nl ?_;have UN:lz aH bg (A+1) kJ (pI Z m):=ee.F (λd en fT=>fr d fT) J J;refine(BM.cX K E.oG aX bs cb fe P B UN br).mono ?_;rintro _ bh d9 ⟨rfl,SF,dO,gd,kL,bo4,so4,It,xJ,D⟩;refine⟨D.le,?_⟩;have HV:=E.oG.F xJ D J;have s2:=E.work aj cb xJ D.le D.same D.dZ HV ⟨_,_,_,_,_,_,_,It⟩ λaK oC fk=>ajP aX J;refine(aao K s2 qQ f3).mono ?_;rintro _ b0 eN ⟨rfl,I,ho,iq,Kg5,ny⟩;have:=D.le;have:=Eh.le;exact⟨I,ho,iq,aF,J⟩
end
def nG(k:i7):Int × Int:=((k.1.val:Int),(k.2.val:Int))
def GB(k:i7):ac X:=Go.Ax.lp (nG k)
theorem aap:∀l:ac i7,a7 Go.Ax.lp (l.map nG)=a7 GB l
 | []=>rfl
 |k::l=>by show Go.Ax.lp (nG k)++a7 Go.Ax.lp (l.map nG)=_;rw[aap l];rfl
def MA(p:Int × Int):i7:=(⟨p.1.toNat % 64,zD _ J⟩,⟨p.2.toNat % 64,zD _ J⟩)
theorem atL(k:i7):MA (nG k)=k:=by
 obtain⟨⟨a,A⟩,⟨b,B⟩⟩:=k;unfold MA nG
 grind
theorem atM{l:ac (Int × Int)}(h:∀x∈l,∃k:i7,nG k=x):∃A:ac i7,A.map nG=l:=by
 induction l with
 |nil=>exact⟨[],rfl⟩
 |cons x l D =>
  obtain⟨k,rfl⟩:=h _ (pi ..);obtain⟨A,rfl⟩:=D λy B=>h y (nT _ B);exact⟨k::A,rfl⟩
section
variable {s:ao} {g h:ae} {U:Nat} {Z:cn} {own:Nat->Nat} {x:gi} {room:Int} {ax L de dj cq pm:Nat} {aL:Nat->Nat} {cU:Nat->Nat->ac cB} {a0:Nat} {aq:ae}
theorem UR{l:ac i7}(A:l.Nodup):l.length<=4096:=by
 have:=Fs 4096 (l.map λe=>e.1.val*64+e.2.val) aa aa
 grind
theorem av9(A:M.Pairwise λa b=>a.1≠b.1):M.length<=4096:=by
 have:=UR (l:=M.map (·.1)) aa
 grind
theorem xt.at{k:i7}{b6:Nat}(S:xt Z room cU de dj own g h U k b6):b6<U/\∃I a n cap dF dh A D,u h b6=some (.cells (kE I (.slice a n cap) dF dh A D) false)/\n=(if cU k.1.val k.2.val=[]then 0 else 1)/\A<=max de (dj+1):=by
 rcases S with⟨e,m,E,dF,dh,rw,dC,co,gc,P,b2,d2,fJ,V,_⟩|⟨m,bR,e,E,dF,dh,b,co,gc,gv,ha,f,B,_⟩
 ·rw[if_pos e];rcases b2 with⟨rfl,_⟩|⟨b,w,_,rfl,_⟩
  all_goals exact⟨V,_,_,_,_,_,_,_,_,P,rfl,J⟩
 ·rw[if_neg aa];exact⟨B.o6,_,_,_,_,_,_,_,_,B.p,rfl,J⟩
theorem amc(H:iC Z room ax aL cq pm a0 aq x cU de dj L own g h U)(fk:∃a b,cU a b≠[]):
  aD Q s 144 [bb cq] h U (λr ab Y=>∃P:ac i7,r = .slice (some ⟨U,0,some 2⟩) P.length P.length/\ab=T h U (.cells (a7 GB P) false)/\Y=U+1/\P.Nodup/\∀k:i7,k∈P↔cU k.1.val k.2.val≠[]):=by
 obtain⟨a,ws,os,au,qg,fv,eJ,fF,G⟩:=H.hH;obtain⟨M,c,B⟩:=H.nj;have dV:∀e∈M,∃b6,e.2.1 = (bb b6)/\xt Z room cU de dj own g h U e.1 b6:=λe bK=>by obtain⟨_,_,b6,aW,aP⟩:=B.get e.1 e.2.1 ((Ju B.m.oY).2 ⟨e.2.2,bK⟩);exact⟨b6,aW,aP⟩
 obtain⟨Eb,pK⟩:∃l:ac i7,l=(M.filter λe=>decide (cU e.1.1.val e.1.2.val≠[])).map (·.1):=⟨_,rfl⟩
 have ayf:∀k:i7,k∈Eb↔cU k.1.val k.2.val≠[]:=λk=>by
  rw[pK];constructor
  ·grind
  ·intro h;obtain⟨dw,aW,aP,cy⟩:=B.has _ _ h;have cz:dw=k:=aa
   rw[cz]at cy;obtain⟨v,aI⟩:=M4.1 cy;obtain⟨n,bw⟩:=(Ju B.m.oY).1 aI;exact gO.2 ⟨(k,v,n),aa,rfl⟩
 have ahv:Eb.Nodup:=by rw[pK];exact xM.2 (B.m.oY.filter _)
 have rF:=UR ahv;obtain⟨-,bn,o0⟩:=N3 Zf (Eb.map nG);generalize qt la (Eb.map nG)=nf at bn o0;obtain⟨P,rfl⟩:=atM (l:=nf) λx aX=>by obtain⟨k,_,e⟩:=gO.1 (bn.subset aX);exact⟨k,e⟩
 have A:P.Perm Eb:=by have:=bn.map MA;rw[qk,qk,show MA ∘ nG=id from funext atL,List.map_id,List.map_id]at this;exact this
 have A0:P≠[]:=λe=>by
  obtain⟨a,b,DV⟩:=fk;obtain⟨k,aW,aP,_⟩:=B.has a b DV
  grind
 have bd:=G.at_;have hpg:=G.p.1;have rB:pm<U:=G.m.1;unfold fS at bd;refine aD.nf (val:=λb=>.slice (some ⟨b,0,some 2⟩) P.length P.length) (cs:=a7 Go.Ax.lp (P.map nG)) (E0 (λ_=>rfl) _) Je ?_ ⟨P,rfl,by rw[aap],rfl,(A.nodup_iff).2 ahv,λk=>(A.mem_iff).trans (ayf k)⟩;refine apF ?_;unfold acH;refine mf @bd ?_;refine B.m.ry λaH I f1=>?_;refine bF.mk (λm aJ ab Y=>∃acc D o,m=D.length/\aJ=[o,bb U]/\dX ab o Go.Ax.lp 2 acc (U+1) Y/\w8 ab U pm c M D/\(acc++((D.filter λe=>decide (cU e.1.1.val e.1.2.val≠[])).map (·.1)).map nG).Perm (Eb.map nG)/\(∀e∈D,e∈M)/\aA U h ab/\U+1<=Y) M.length
  ⟨[],M,_,rfl,rfl,.inl ⟨rfl,rfl⟩,I,by rw[pK];exact BV _,λe h=>h,λc a5=>f1 c J,J⟩ ?_
 rintro _ _ bh d9 ⟨acc,D,o,rfl,rfl,Hn,Iq,V,tS,g6,hX⟩;rw[alW];unfold Ye;refine(B.m.F (g6 pm rB)).fO Iq J (λaM=>?_) λe E b0 bK oh BK e7 HW=>?_
 ·subst aM;simp only[List.filter_nil,xP,hC]at V;refine nw ?_;rcases id Hn with⟨rfl,rfl⟩|⟨mC,iB,fH,rfl,Tt⟩
  ·have aM:=List.map_eq_nil_iff.1 (List.nil_perm.1 V);rw[aM]at A;exact absurd (List.perm_nil.1 A) A0
  ·have:=V.length_eq;rw[gW]at this;refine(arH rfl J fH Tt).mono ?_;rintro _ cj n6 ⟨mi,⟨cV,wZ,ls,h4⟩,xf⟩;have:cV=P.map nG:=N1 (R:=λx y=>¬la y x<0) (λx y=>aj7 x y) (wZ.trans (V.trans bn.symm)) ls o0;subst this;exact⟨mC,by rw[<-wZ.length_eq,gW],J,h4,λc a5=>by rw[xf c J J];exact g6 c a5⟩
 ·obtain⟨b6,ej,S⟩:=dV e bK;obtain⟨G9,U4,ev,jZ,mV,dF,dh,iN,lL,a1,bw,_⟩:=S.at
  rw[ej]at HW ⊢;have nN:=oh.length_eq;simp only[nq]at nN;have bx:∀x∈E,x∈M:=λx aX=>tS x (oh.mem_iff.2 (nT _ aX));have hpf:=((oh.filter λe=>decide (cU e.1.1.val e.1.2.val≠[])).map (·.1)).map nG;rw[q7]at hpf;have MB:=(List.Perm.append_left acc hpf).symm.trans V;simp(disch:=omega)only[bk,↓reduceIte,Nat.reduceAdd,Nat.reduceSub,Nat.reduceMul,Nat.reduceLT,Nat.reduceLeDiff,Nat.reduceEqDiff,Int.reduceBEq,Int.reduceLT,Int.reduceNeg,HW,show c7 (pz e.1)=[(e.1.1.val:X),(e.1.2.val:X)]from rfl];refine(F4 (((ar J).trans ((ar J).trans ((e7 b6 J).trans (g6 b6 G9)))).trans a1)).f5 ?_;rw[bw]
  by_cases aq:cU e.1.1.val e.1.2.val=[]
  ·rw[if_pos aq];rw[if_neg (by simp[aq])]at MB;refine nw ?_;refine⟨λa5=>absurd a5 J,λ_=>⟨_,J,acc,E,o,rfl,rfl,Hn.F (λd h1 ap=>(ar J).trans ((ar J).trans (e7 d J))) J,BK.F ((ar J).trans (ar J)),MB,bx,λd bs=>(ar J).trans ((ar J).trans ((e7 d J).trans (g6 d bs))),J⟩⟩
  ·rw[if_neg aq];rw[if_pos (by simp[aq]),qj,qj]at MB;have LM:=V.length_eq;simp only[jk,gW]at LM;refine nw ?_;refine⟨λ_=>?_,λa5=>absurd J a5⟩;refine me (enc:=Go.Ax.lp) (k:=2) (al:=U+1) (λ_=>rfl) (λ_=>rfl) J (Hn.F (λd h1 ap=>(ar J).trans ((ar J).trans ((ar J).trans (e7 d J)))) J) J (nG e.1) (aR _ _ _) rfl J λzj cj hs6 h5=>?_;refine⟨_,J,acc++[nG e.1],E,zj,rfl,rfl,hs6,?_,by rw[kq];exact MB,bx,λd bs=>(h5 d J).trans ((ar J).trans ((ar J).trans ((ar J).trans ((e7 d J).trans (g6 d bs))))),J⟩;exact BK.F ((h5 U J).trans ((ar J).trans ((ar J).trans (ar J))))
end
section
variable {s:ao} {g h:ae} {U:Nat} {Z:cn} {own:Nat->Nat} {x:gi} {room:Int} {ax L n w cq pm:Nat} {aL:Nat->Nat} {cU:Nat->Nat->ac cB} {a0:Nat} {aq:ae}
structure ahw (Z:cn) (room:Int) (ax cq pm a0:Nat):Prop where
 K:f8 Z
 m0:a0<=pm
 m1:a0<=cq
 d6:1<=room
 gV:room<=64
 aCk:ax<900
 gn:∀t,t<=ax->(Z.gn t=0↔t<ax)
 B:Bj Z ax
structure HX (Z:cn) (ax n K:Nat) (x:gi) (cU:Nat->Nat->ac cB) (L:Nat):Prop where
 P:oU Z.R Z.C ax x cU
 D:pP Z.R Z.C n K x cU
 S:vc Z.R x L
def WiJ(Z:cn)(room:Int)(ax:Nat)(aL:Nat->Nat)(cq pm a0:Nat)(aq:ae)(x:gi)(g:ae)(U n w L:Nat)(m:Nat)(aJ:ac X)(ab:ae)(Y:Nat):Prop :=
 ∃k fD o5 jK,m=Z.R*Z.C-k/\k<=Z.R*Z.C/\aJ=[bb cq,.bool jK,((Z.R*Z.C:Nat):X),(k:X)]/\Ea Z room ax aL cq pm a0 aq fD o5 g U w w L ab Y/\HX Z ax n k fD o5 L/\((jK=true/\∃a b,o5 a b≠[])\/(jK=false/\fD=x/\∀dw,dw<k->x.out dw=[]))
def WiI(Z:cn)(room:Int)(ax:Nat)(aL:Nat->Nat)(cq pm a0:Nat)(aq:ae)(g:ae)(U n w cZ:Nat)(BO:ac i7)(m:Nat)(aJ:ac X)(ab:ae)(Y:Nat):Prop :=
 ∃i fD o5 Iv db cG,m=BO.length-i/\i<=BO.length/\aJ=[bb cq,.bool true,.slice (some ⟨cZ,0,some 2⟩) BO.length BO.length,(BO.length:X),(i:X)]/\iC Z room ax aL cq pm a0 aq fD o5 (w+1) w Iv db cG ab Y/\aA U g cG/\U<=Y/\cZ<Y/\u cG cZ=some (.cells (a7 GB BO) false) /\
  HX Z ax n (Z.R*Z.C) fD o5 Iv/\∀k:i7,k∈BO.drop i↔o5 k.1.val k.2.val≠[]
theorem ajR(q1:ahw Z room ax cq pm a0)(H:iC Z room ax aL cq pm a0 aq x cU w w L own g h U)(g9:HX Z ax n 0 x cU L)(bV:w+1<100000)(fk:∃k,k<Z.R*Z.C/\x.out k≠[]):
  aD Q s 72 [bb cq] h U (λr ab Y=>r = .bool true/\∃fD o5 Iv,Ea Z room ax aL cq pm a0 aq fD o5 g U (w+1) (w+1) Iv ab Y/\HX Z ax (n+1) 0 fD o5 Iv):=by
 refine al3 ?_;have K:=q1.K;have ee:=K.hI;have ei:=K.lH;have Hw:=Lf K;obtain⟨a,ws,os,au,qg,fv,eJ,fF,G⟩:=H.hH;have bd:=G.at_;obtain⟨fV,nL,rfl,_⟩:=id G.wr;rw[wp]at bd;unfold aaj bm av aV ad cP;simp(disch:=omega)only[bk,pj An,bd,seval];refine bF.mk (WiJ Z room ax aL cq pm a0 aq x g U n w L) (Z.R*Z.C) ⟨0,x,cU,false,J,J,rfl,⟨own,g,H,aF,J⟩,g9,aa⟩ ?_;rintro _ _ h1 bg ⟨k,g8,MC,jK,rfl,hk,rfl,⟨ahu,bP,kp,Kg1,fa⟩,D,TG⟩;rw[ajI];unfold W7 cv b9 aV
 by_cases cS:k<Z.R*Z.C
 ·have xu:IntKind.wrap .i64 ((k:Int)+1)=((k+1:Nat):Int):=cF J;have US:decide ((k:Int)<((Z.R*Z.C:Nat):Int))=true:=aa
  rw[JQ,US];cases fd:g8.out k with
  |nil =>
   refine aE ?_;refine(amb K kp cS fd).mono ?_;rintro _ ap bU ⟨rfl,E,g2,ig,Mv,fx⟩;refine bf @xu ?_;refine⟨_,J,k+1,g8,MC,jK,rfl,cS,rfl,⟨E,g2,ig,aF,J⟩,⟨D.P,D.D.skip fd,D.S⟩,?_⟩
   grind
  |cons m r =>
   have bs:=(Kd ee (D.P.eV k m aa).2).2;have pK:MC k (m.dst Z.C)=[]:=D.D.t3 k _ J;refine aE ?_;refine(apT K kp q1.m0 q1.d6 q1.gV cS fd bs pK J J).mono ?_;rintro _ ap bU ⟨rfl,E,g2,ig,Mv,fx⟩;refine bf @xu ?_;have dq:=D.P.pick fd;have eF:=D.D.pick fd;rw[pK]at dq eF;exact⟨_,J,k+1,_,_,true,rfl,cS,rfl,⟨E,g2,ig,aF,J⟩,⟨dq,eF,D.S⟩,.inl ⟨rfl,k,m.dst Z.C,by rw[qx];grind⟩⟩
 ·have:k=Z.R*Z.C:=J
  subst this;have SG:jK=true/\∃a b,MC a b≠[]:=aa
  obtain⟨rfl,SG⟩:=SG;refine aE ?_;refine⟨λh=>absurd h J,λ_=>?_⟩;refine(amc kp SG).mono ?_;rintro _ _ _ ⟨P,rfl,rfl,rfl,UT,agw⟩;refine aE ?_;obtain⟨E,g2,ig,_,Mv,hz2⟩:=kp.still (show aA bg h1 (T h1 bg (.cells (a7 GB P) false))from(aA.refl _ _).set (cR _)) (vT bg);refine bF.mk (WiI Z room ax aL cq pm a0 aq g U n w bg P) P.length ⟨0,g8,MC,L,E,g2,J,J,rfl,ig.mono J J,aF,J,J,?_,D,aa⟩ ?_
  ·rw[ig.oG bg,if_pos ⟨J,hz2 bg (cR _)⟩,aR]
  rintro _ _ aH V ⟨i,hO,Bl,aCl,GW,dz,rfl,aj,rfl,jj,Mw,gg,wX,qM,A,Uw⟩;rw[ajJ];unfold W8 cv b9 av gD bE aV cg da ad aG bY bX
  by_cases tM:i<P.length
  ·have aX:P[i]? = some P[i]:=aa
   generalize P[i]=k at aX;have Mh:P.drop i=k::P.drop (i+1):=by rw[qi tM]at aX;cases aX;exact zs tM
   have Ba:Bl k.1.val k.2.val≠[]:=aa
   have A0:=UR UT;have aAn:=jj.oG.sub _ _ qM;have lS:hg (some 2) (i*2) (a7 GB P) = .ok (.agg ⟨[(k.1.val:X),(k.2.val:X)]⟩):=by rw[qm,if_pos (by rw[fX (k:=2) (λ_=>rfl)];omega),uN (k:=2) (λ_=>rfl) aX];rfl
   have HQ:decide ((i:Int)<(P.length:Int))=true:=aa
   have y4:IntKind.wrap .i64 ((i:Int)+1)=((i+1:Nat):Int):=cF J;obtain⟨a,ws,os,au,qg,fv,eJ,fF,G⟩:=jj.hH;have bd:=G.at_;have hpg:=G.p;have rB:=G.m;unfold fS at bd;refine gX @HQ @aAn @lS ?_;have UU:∀{o aU},u (T (T aH V o) V aU) cq=_:=λ{o aU}=>(ar J).trans ((ar J).trans bd);obtain⟨M,c,B⟩:=jj.nj;obtain⟨dw,aW,aP,cy⟩:=B.has _ _ Ba;have cz:dw=k:=Prod.ext (Fin.ext aW) (Fin.ext aP);rw[cz]at cy;obtain⟨v,aI⟩:=M4.1 cy;obtain⟨dy,a1,b6,rfl,S⟩:=B.get k v aI;have I:=λo aU=>wL J4 (B.m.F (ab:=T (T aH V o) V aU) ((ar J).trans (ar J))) (k:=k) (z:=.pointer none) (ok:=false);rw[aI,show pz k = .agg ⟨[(k.1.val:X),(k.2.val:X)]⟩from rfl]at I
   replace I:=λo aU=>(I o aU).trans (show _=R.ok (Value.pointer (some ⟨b6,0,none⟩))from rfl)
   refine cM @bd @I ?_;generalize UV:T (T aH V _) V _=bh;have hR:aA V aH bh:=by rw[<-UV];exact((aA.refl _ _).set (cR _)).set (cR _)
   have cW:u bh V=some (.cells [(k.1.val:X),(k.2.val:X)] false):=aa
   obtain⟨SF,dO,s2,aAo,HV,_⟩:=jj.still hR (vT V);have Iu:xt Z room Bl (w+1) w SF dO bh (V+1) k b6:=S.other (vT V) (λd en _=>hR d en) aAo HV rfl (cR _) (cR _);rcases Iu with⟨e,_⟩|⟨m,En,UW,_,xJ⟩
   ·exact absurd e Ba
   ·refine⟨λ_=>?_,λh=>absurd tM h⟩;refine xJ.len.f5 ?_;refine xJ.av6.cz λb0 eN lk ny=>⟨ny,?_⟩
    have ie:=(lk V J).trans cW;simp(disch:=omega)only[bk,cW,ie,iE,seval];obtain⟨aBy,ho,iq,_,Kg5,_⟩:=s2.still lk ny;obtain⟨fI,gr,mH⟩:=A.P.dQ k.1.val k.2.val m aa;have aX:=CB A.P.ord ee mH;have f3:=A.S.le A.P.ord;have fe:=q1.aCk;refine(aiC K iq q1.m0 q1.m1 q1.d6 q1.gV dy a1 UW gr aX q1.aCk q1.gn q1.B (by have:=A.P.len ee K.nQ K.mL k.2.val;omega) (EE w) J).mono ?_;rintro _ cj n6 ⟨rfl,aAp,lE,aDM,Kg6,mi⟩;refine⟨mi,?_⟩;refine bf @y4 ?_;have BH:aA V dz lE:=(HV.trans Kg5 J).trans Kg6 J;refine⟨_,J,i+1,_,_,_,aAp,lE,rfl,tM,rfl,aDM,Mw.trans BH gg,J,J,(BH bg wX).trans qM,⟨A.P.PA ee ei UW,A.D.PA A.P ee (cR _) UW,A.S.step A.P.ord aX⟩,λdw=>?_⟩;have TH:k ∉ P.drop (i+1):=by
     have:=(UT.sublist (List.drop_sublist i P))
     grind
    by_cases ekk:dw=k
    ·subst ekk;rw[qx]
     grind
    ·rw[qy λe=>ekk (Prod.ext (Fin.ext e.1) (Fin.ext e.2)),<-Uw dw,Mh,hD]
     grind
  ·have:i=P.length:=J
   subst this;refine aE ?_;refine⟨λh=>absurd h (Nat.lt_irrefl _),λ_=>?_⟩;have dc:∀a b,Bl a b=[]:=λa b=>xK λbw=>by
    obtain⟨M,c,B⟩:=jj.nj;obtain⟨k,aW,aP,_⟩:=B.has a b bw
    grind
   exact⟨hO,Bl,aCl,⟨GW,dz,jj.mono (cR _) (vT w),Mw,gg⟩,A.P,A.D.next A.P ee (cR _) dc,A.S⟩
end
section
variable {s:ao} {h:ae} {U:Nat} {Z:cn} {ax:Nat}
structure NeI (Z:cn) (ax:Nat) (room:Int) (a0:Nat) (aq:ae) (cq pm k r:Nat) (aL:Nat->Nat) (a:Nat->X) (ws os:X) (fv eJ:ay Nat) (own:Nat->Nat) (g h:ae) (U:Nat):Prop where
 oG:jt own h U g
 dE:∀i j,i<Z.R->j<Z.C->i*Z.C+j<k->∃c l aY so bC b4 cE,jH Z ax (mu Z.R Z.C) i j own g h U (aL (i*Z.C+j)) c l aY so bC b4 cE
 at_:u h cq=some (.cells (fS a Z.N Z.R Z.C room ws pm os (.slice none 0 0)) false)
 ws:gZ h sv ws ((List.range k).map aL) fv
 os:gZ h sv os ((List.range r).map λi=>aL (i*Z.C)) eJ
 l0:∀b,fv=some b->b<U/\own b=Z.G/\b≠cq/\b≠pm
 dC:∀b,eJ=some b->b<U/\own b=Z.G/\b≠cq/\b≠pm/\fv≠some b
 m:u h pm=some (.map [] 0)
 p:cq<U/\own cq=Z.G
 pm:pm<U/\own pm=Z.G/\pm≠cq
 d6:k<=r*Z.C/\(r=0\/(r-1)*Z.C<k)
 i6:a0<=U
 h9:∀d,d<a0->own d=0/\u h d=u aq d
def NeJ(Z:cn)(ax:Nat)(room:Int)(a0:Nat)(aq:ae)(cq pm cf:Nat)(st:ac X)(al:Nat)(m:Nat)(aJ:ac X)(ab:ae)(Y:Nat):Prop :=
 ∃k r aL a ws os fv eJ own g,m=Z.R*Z.C-k/\k<=Z.R*Z.C/\aJ=[bb cf,.pointer none,.int .i64 0,bb cq,((Z.R*Z.C:Nat):X),(k:X)]/\NeI Z ax room a0 aq cq pm k r aL a ws os fv eJ own g ab Y/\u ab cf=some (.cells st false)/\own cf=0/\al<=Y
theorem ayg{f:Nat->Nat}{v:Nat}:(List.range (k+1)).map (up f k v)=(List.range k).map f++[v]:=by
 rw[q8,hr,List.map_singleton,g4]
 congr 1
 exact q5 λi aj=>hh aa
theorem awa{a6 bq cH B E aDN z10 V I P A D:X}{m:ay Nat}:qs (oO [(13,1,.map m)]) 0 12 [aC,az,a2,a3,aZ,bI,bj,a6,bq,cH,B,E] [pf,i5,z2,z3,z4,s1,xG,qd,Is,aDN,z10,V,I,P,A,D] = .ok [aC,az,a2,a3,aZ,bI,bj,a6,bq,cH,B,E,I,.map m,A,D]:=rfl
theorem atN(K:f8 Z){x:iV}(H:n3 h U x eu f7 eD)(AL:dg h U eD yJ [])(yM:x.t0=0)(Lt:x.bu.length<1000000)(nn:gP x=0)(z:Z.k=x.k/\x.n=(Z.N:Int)/\Z.src=x.src/\Z.len=x.len/\Z.bu=x.bu/\x.R=(Z.R:Int)/\x.C=(Z.C:Int)/\x.lim=(Z.lim:Int))(iz:vg x.k (x.es.map ol) Z.ag):
  aD Q s 70 [.agg ⟨fM x eu f7 eD⟩] h U (λr ab Y=>∃cq pm aL own g,r = .tuple ⟨[bb cq,.int .i64 0]⟩/\U<=cq/\U<=pm/\iC Z x.M ax aL cq pm U h (mu Z.R Z.C) (λ_ _=>[]) 0 0 1 own g ab Y):=by
 refine avS ?_;obtain⟨i5,z2,z3,z4,s1,xG,qd,Is⟩:=id z;have ee:=K.hI;have ei:=K.lH;have y1:=K.mL;have hR8:=K.nQ;have Hw:=Lf K;have iH:Z.G=Z.R*Z.C+1:=rfl;obtain⟨a9,gs,rfl,_⟩:=id H.d;obtain⟨bM,qW,rfl,_⟩:=id H.e;obtain⟨bA,gq,rfl,_⟩:=id AL;have bH:∀{o},aA U h (T h U o):=aF
 unfold af8 fM;refine nw ?_;refine(JA (H.F aF J)).cz λE A cI fa=>?_;have dq:=(cI U J).trans (aR _ _ _);unfold fM at dq;rw[nn];have VG:∀{o aU},u (T (T E A o) (A+1) aU) U=_:=λ{o aU}=>(ar J).trans ((ar J).trans dq);have agu:IntKind.wrap .i64 ((Z.R:Int)*(Z.C:Int))=((Z.R*Z.C:Nat):Int):=by rw[<-Int.natCast_mul];exact jb _ J
 have qN1:∀{o},u (T E A o) U=_:=λ{o}=>(ar J).trans dq;simp(disch:=omega)only[bk,↓reduceIte,Nat.reduceAdd,Nat.reduceSub,Nat.reduceMul,Nat.reduceLT,Nat.reduceLeDiff,Nat.reduceEqDiff,Int.reduceBEq,Int.reduceLT,Int.reduceNeg,dq,qN1,VG,xG,qd,zT,agu,awa];generalize nb:T (T E A _) (A+1) _=V;have ey:aA U h V:=by rw[<-nb];exact aF
 have kY:u V U=some (.cells (fM x (.slice a9 x.bu.length gs) (.slice bM x.es.length qW) (.slice bA ([]:ac (Int × Int)).length gq)) false):=by rw[<-nb];exact VG
 have g2:u V (A+1)=some (.cells (fS (λn=>(fM x (.slice a9 x.bu.length gs) (.slice bM x.es.length qW) (.slice bA ([]:ac (Int × Int)).length gq))[n]?.getD .nilFunc) Z.N Z.R Z.C x.M (.slice none 0 0) A (.slice none 0 0) (.slice none 0 0)) false):=by rw[<-nb,aR];unfold fS fM;rw[z2,xG,qd];rfl
 have m2:u V A=some (.map [] 0):=aa
 clear nb VG qN1 dq;obtain⟨ch,aCm⟩:=CI (λd=>if d=A\/d=A+1 then Z.G else 0) V (A+1+1);refine bF.mk (NeJ Z ax x.M U h (A+1) A U (fM x (.slice a9 x.bu.length gs) (.slice bM x.es.length qW) (.slice bA ([]:ac (Int × Int)).length gq)) (A+1+1)) (Z.R*Z.C) ⟨0,0,λ_=>0,_,_,_,none,none,_,ch,J,J,rfl,⟨aCm,(λi j _ _ h=>absurd h J),g2,.nil,.nil,aa,aa,m2,aa,aa,J,J,λd P=>⟨aa,ey d P⟩⟩,kY,if_neg J,J⟩ ?_;clear g2 m2 aCm ch;rintro _ _ aH b1 ⟨k,r,aL,a,ws,os,fv,eJ,own,g,rfl,hk,rfl,I,nl,eV,gg⟩;rw[aty];unfold acK bm ko cv b9 av bl aV cg jx da ad aG bY
 by_cases cS:k<Z.R*Z.C
 ·obtain⟨i,j,aj,cb,rfl⟩:=Km cS;have US:decide (((i*Z.C+j:Nat):Int)<((Z.R*Z.C:Nat):Int))=true:=hf J;have xu:IntKind.wrap .i64 (((i*Z.C+j:Nat):Int)+1)=((i*Z.C+j+1:Nat):Int):=cF J;have HY:=nl;have tU:U<b1:=J
  unfold fM at HY;rw[JQ,US];refine tv @HY @qd ?_;refine(Qm  ee y1 J cb).f5 ⟨cR _,?_⟩;simp(disch:=omega)only[bk,↓reduceIte,Nat.reduceAdd,Nat.reduceSub,Nat.reduceMul,Nat.reduceLT,Nat.reduceLeDiff,Nat.reduceEqDiff,Int.reduceBEq,Int.reduceLT,Int.reduceNeg,HY,qd,iE];refine(Qn  ee y1 J cb).f5 ⟨cR _,?_⟩;have Er:oP (.agg ⟨fM x (.slice a9 x.bu.length gs) (.slice bM x.es.length qW) (.slice bA ([]:ac (Int × Int)).length gq)⟩) (.agg ⟨fM x (.slice a9 x.bu.length gs) (.slice bM x.es.length qW) (.slice bA ([]:ac (Int × Int)).length gq)⟩)=true:=by unfold fM;simp(disch:=omega)only[bk,↓reduceIte,Nat.reduceAdd,Nat.reduceSub,Nat.reduceMul,Nat.reduceLT,Nat.reduceLeDiff,Nat.reduceEqDiff,Int.reduceBEq,Int.reduceLT,Int.reduceNeg,iE]
  unfold fM at Er;rw[qd]at Er;refine Kz @HY @qd @si @Er ?_;have fr:aA U h aH:=λd P=>(I.h9 d P).2;rw[<-qd];refine(atv  K (H.F fr I.i6) (AL.F fr I.i6) yM Lt nn aj cb z K.n60 iz).mono ?_;rintro _ bh B ⟨q2,c,aY,bC,b4,cE,l,dO,rfl,N,hX⟩;have ho:=(N.k (A+1) I.p.1).trans I.at_;unfold fS at ho;refine⟨hX,?_⟩;refine mf @ho ?_;have wb4:∀b,fv=some b->b<b1/\own b=Z.G/\b≠A+1/\b≠A:=I.l0;refine x9  (k:=1) (λ_=>rfl) (λ_=>rfl) J (I.ws.hH.F λb e=>?_) q2 (aR _ _ _) rfl aa λb0 DE tW=>?_
  ·have:=I.l0 b e;rw[ar J];exact N.k b this.1
  rw[wp]at *
  have lE:u b0 (A+1)=_:=(tW _ J λe=>(I.l0 _ e).2.2.1 rfl).trans ((ar J).trans ho);have ie:∀{o},u (T b0 (A+1) o) U=_:=λ{o}=>(ar J).trans ((tW U J λe=>aa).trans ((ar J).trans ((N.k U tU).trans HY)));refine Ru @lE @ie @qd ?_;refine(Qn  ee y1 J cb).f5 ?_;generalize Mz:T b0 (A+1) _=cj;have nJ:∀d,d≠A+1->u cj d=u b0 d:=λd e=>aa
  have mI:u cj (A+1)=some (.cells (fS a Z.N Z.R Z.C x.M (.slice (some ⟨B+1,0,some 1⟩) (i*Z.C+j+1) (i*Z.C+j+1)) A os (.slice none 0 0)) false):=by rw[<-Mz,aR];rfl
  clear Mz;have nR:gZ cj sv (.slice (some ⟨B+1,0,some 1⟩) (i*Z.C+j+1) (i*Z.C+j+1)) ((List.range (i*Z.C+j+1)).map (up aL (i*Z.C+j) q2)) (some (B+1)):=
   .inr ⟨B+1,rfl,aa,by rw[nJ _ J,DE,ayg]⟩
  have ahx:∀d,d<B->d≠A+1->fv≠some d->u cj d=u bh d:=λd en fT ia=>by rw[nJ d fT,tW d J ia,ar J]
  have aCn:gZ cj sv os ((List.range r).map λi=>aL (i*Z.C)) eJ:=I.os.F λb e=>by have:=I.dC b e;rw[ahx b J this.2.2.1 this.2.2.2.2,N.k b this.1]
  have fin:∀(ab:ae) (jZ xx:Nat) (t5:X) (D:ay Nat),B+2<=jZ->(∀d,d<B+2->d≠A+1->eJ≠some d->u ab d=u cj d)->u ab (A+1)=some (.cells (fS a Z.N Z.R Z.C x.M (.slice (some ⟨B+1,0,some 1⟩) (i*Z.C+j+1) (i*Z.C+j+1)) A t5 (.slice none 0 0)) false) ->
    gZ ab sv t5 ((List.range xx).map λaK=>up aL (i*Z.C+j) q2 (aK*Z.C)) D->(D=eJ/\(∀b,eJ=some b->u ab b=u cj b)\/∃b,D=some b/\B+2<=b/\b<jZ)->(i*Z.C+j+1<=xx*Z.C/\(xx=0\/(xx-1)*Z.C<i*Z.C+j+1)) ->
    NeJ Z ax x.M U h (A+1) A U (fM x (.slice a9 x.bu.length gs) (.slice bM x.es.length qW) (.slice bA ([]:ac (Int × Int)).length gq)) (A+1+1) (Z.R*Z.C-(i*Z.C+j+1)) [bb U,.pointer none,.int .i64 0,.pointer (some ⟨A+1,0,none⟩),((Z.R*Z.C:Nat):X),((i*Z.C+j+1:Nat):X)] ab jZ:=by
   intro ab jZ xx t5 D S5 AN y5 kn h4 Lp
   let dJ:=i*Z.C+j+1
   let db:Nat->Nat:=λd=>if d<b1 then own d else if d=q2\/d=bC\/d=b4\/d=cE\/aY=some d then dJ else if d=B+1\/D=some d then Z.G else 0
   obtain⟨cG,gy⟩:=CI db ab jZ;have jN:∀d,d<b1->db d=own d:=λd P=>if_pos P;have W:=N.W;have az:=N.d6;have a2:=N.gV;have a3:=N.ji;have Iw:∀d,b1<=d->(d=q2\/d=bC\/d=b4\/d=cE\/aY=some d)->db d=dJ:=λd E V=>aa
   have Ir:∀d,B<=d->(d=B+1\/D=some d)->db d=Z.G:=λd E V=>by
    show(if d<b1 then own d else if d=q2\/d=bC\/d=b4\/d=cE\/aY=some d then dJ else if d=B+1\/D=some d then Z.G else 0)=Z.G;rw[if_neg J,if_neg (by
     rintro(e|e|e|e|e)
     ·have:=W.lt;omega
     ·omega
     ·omega
     ·omega
     ·have:=W.aY d e;omega),if_pos V]
   have bqn:∀d,D=some d->eJ=some d\/B+2<=d:=λd e=>aa
   have H5:∀d,b1<=d->d≠q2->d≠bC->d≠b4->d≠cE->aY≠some d->d<B->db d=0:=λd E V aH bh b0 cj d8=>by
    show(if d<b1 then own d else if d=q2\/d=bC\/d=b4\/d=cE\/aY=some d then dJ else if d=B+1\/D=some d then Z.G else 0)=0;rw[if_neg J,if_neg aa,if_neg (by
     rintro(e|e)
     ·omega
     ·rcases bqn d e with e|e
      ·have:=I.dC d e;omega
      omega)]
   have agi:∀d,d<B->d≠A+1->fv≠some d->eJ≠some d->u ab d=u bh d:=λd en fT ia nP=>(AN d J fT nP).trans (ahx d en fT ia);have same:∀d,d<B->db d≠Z.G->u ab d=u bh d:=λd en fT=>agi d en (λe=>fT (by rw[e,jN _ I.p.1];exact I.p.2)) (λe=>fT aa) λe=>fT (by have:=I.dC d e;grind);have Iu:lb dO cG:=λd o P=>by
    have E:b1<=d:=Nat.le_of_not_lt λbr=>by rw[N.o d br]at P;grind
    have V:d<B:=ED λbr=>by rw[N.G.n d br]at P;grind
    have aq:db d=0:=H5 d E (λe=>by rw[e,N.G.p]at P;grind) (λe=>aa) (λe=>aa) (λe=>aa) (λe=>by rw[(N.b d e).2]at P;grind) V;rw[gy d,if_pos ⟨J,aq⟩,same d V J];exact N.G.s d o P
   have e8:aA b1 g cG:=λd P=>by
    rw[I.oG d,gy d,jN d P]
    by_cases e:own d=0
    ·rw[if_pos ⟨J,e⟩,if_pos ⟨P,e⟩,same d J aa];exact N.k d P
    grind
   have It:jH Z ax (mu Z.R Z.C) i j db cG bh B q2 c l aY none bC b4 cE:=jH.init K N Iu aj cb (Iw q2 N.p (.inl rfl)) (λb e=>Iw b (N.b b e).1 (.inr (.inr (.inr (.inr e))))) (Iw bC az.1 (.inr (.inl rfl))) (Iw b4 a2.1 (.inr (.inr (.inl rfl)))) (Iw cE a3.1 (.inr (.inr (.inr (.inl rfl)))));have r6:i*Z.C+j+1≠Z.G:=J
   have aAW:(A:Nat)≠A+1:=J
   refine⟨i*Z.C+j+1,xx,up aL (i*Z.C+j) q2,a,_,t5,some (B+1),D,db,cG,rfl,cS,rfl,⟨gy,λaK oC dB UX RY=>?_,y5,nR.F λb e=>?_,kn,λb e=>?_,λb e=>?_,?_,⟨?_,?_⟩,⟨?_,?_,I.pm.2.2⟩,Lp,?_,λd P=>?_⟩,?_,?_,?_⟩
   ·by_cases e:aK*Z.C+oC=i*Z.C+j
    ·obtain⟨rfl,rfl⟩:=tj e UX cb;refine⟨c,l,aY,none,bC,b4,cE,?_⟩;rw[g4];exact It.other  J same (λ_ _=>rfl) r6 (aA.refl _ _) rfl rfl (λ_=>⟨rfl,rfl⟩) (λ_=>⟨rfl,rfl,rfl⟩) λ_ _=>⟨rfl,rfl⟩
    ·obtain⟨bT,cV,gU,rX,rs',rc',rv',R'⟩:=I.dE aK oC dB UX J;have:=ps dB UX;refine⟨bT,cV,gU,rX,rs',rc',rv',?_⟩;rw[hh e];exact R'.other (dJ:=Z.G) J (λd en fT=>(same d J aa).trans (N.k d en)) jN J e8 rfl rfl (λ_=>⟨rfl,rfl⟩) (λ_=>⟨rfl,rfl,rfl⟩) λ_ _=>⟨rfl,rfl⟩
   ·cases e;exact AN _ J J λe=>by have:=I.dC _ e;omega
   ·cases e;exact⟨J,Ir _ J (.inl rfl),J,J⟩
   ·rcases bqn b e with ew | ew
    ·have:=I.dC b ew
     grind
    ·have:b<jZ:=by
      rcases h4 with⟨aW,_⟩|⟨cr,aW,_,cy⟩
      ·rw[aW]at e;have:=I.dC b e;omega
      grind
     exact⟨this,Ir b J (.inr e),J,J,λe=>aa⟩
   ·have E:=I.pm;rw[agi A J E.2.2 (λe=>(I.l0 _ e).2.2.2 rfl) λe=>(I.dC _ e).2.2.2.1 rfl,N.k A E.1];exact I.m
   ·omega
   ·rw[jN _ I.p.1];exact I.p.2
   ·omega
   ·rw[jN _ I.pm.1];exact I.pm.2.1
   ·omega
   ·have E:=I.h9 d P;have V:=I.i6;exact⟨(jN d J).trans E.1,((same d J aa).trans (N.k d J)).trans E.2⟩
   ·rw[same U J aa,N.k U tU];omega
   ·grind
   omega
  by_cases aq:j=0
  ·subst aq;have ba:r=i:=by
    obtain⟨aW,aP⟩:=I.d6;have E:i<=r:=Nat.le_of_mul_le_mul_right J ee;rcases aP with aP|aP
    ·omega
    ·have:r-1<i:=M3 (a:=Z.C) J;omega
   subst ba;unfold fS at mI;refine mf @mI ?_;refine⟨λ_=>?_,λh=>absurd h (by decide)⟩;refine x9 (enc:=sv) (k:=1) (λ_=>rfl) (λ_=>rfl) J (aCn.hH.F λb e=>?_) q2 (aR _ _ _) rfl aa λd8 hn7 vw=>?_
   ·have:=I.dC b e;exact ar J
   rw[wp]at *
   have Vf:u d8 (A+1)=_:=(vw _ J λe=>(I.dC _ e).2.2.1 rfl).trans ((ar J).trans mI);have aAq:IntKind.wrap .i64 (((r*Z.C:Nat):Int)+1)=((r*Z.C+1:Nat):Int):=xu;refine tv @Vf @aAq ?_;refine⟨_,J,fin _ _ (r+1) _ (some (B+1+1+1)) J (λd en fT ia=>?_) (by rw[aR];rfl) (.inr ⟨_,rfl,aa,?_⟩) (.inr ⟨_,rfl,J,J⟩) ⟨?_,.inr ?_⟩⟩
   ·rw[ar fT,vw d J ia,ar J]
   ·rw[ar J,hn7,q8,hr,List.map_singleton,mM,g4]
    congr 3
    refine congrArg (·++[q2]) (q5 λaK dB=>(hh ?_).symm);have:=IS.1 dB;have:=Nat.mul_lt_mul_of_lt_of_le this (cR Z.C) ee;omega
   all_goals grind
  ·have Bg:(((j:Nat):Int) == 0)=false:=sa.2 J;refine tv @Bg @xu ?_;obtain⟨aW,aP⟩:=I.d6;refine⟨_,J,fin _ _ r os eJ J (λd _ _ _=>rfl) mI ?_ (.inl ⟨rfl,λ_ _=>rfl⟩) ⟨?_,?_⟩⟩
   ·have:((List.range r).map λaK=>up aL (i*Z.C+j) q2 (aK*Z.C))=(List.range r).map λi=>aL (i*Z.C):=q5 λaK _=>hh λe=>by have:=tj (C:=Z.C) (i:=aK) (j:=0) (aK:=i) (oC:=j) J ee cb;omega
    rw[this];exact aCn
   ·have E:i*Z.C<r*Z.C:=J
    have V:i<r:=M3 E;have:=ph Z.C (show i+1<=r from V)
    grind
   omega
 ·have:k=Z.R*Z.C:=J
  subst this;refine nw ?_;refine⟨λh=>absurd h (Nat.lt_irrefl _),λ_=>?_⟩;have ba:r=Z.R:=by
   obtain⟨aW,aP⟩:=I.d6;have E:Z.R<=r:=Nat.le_of_mul_le_mul_right aW ee;rcases aP with aP|aP
   ·omega
   ·have:r-1<Z.R:=M3 (a:=Z.C) aP;omega
  subst ba;have r1:iC Z x.M ax aL (A+1) A U h (mu Z.R Z.C) (λ_ _=>[]) 0 0 0 own g aH b1 :=
   ⟨I.oG,λi j aj cb=>I.dE i j aj cb (ps aj cb),⟨a,ws,os,_,[],fv,eJ,none,I.at_,I.ws,I.os,.nil,(nofun),(λb e=>⟨(I.l0 b e).1,(I.l0 b e).2.1,(I.l0 b e).2.2.1,(I.l0 b e).2.2.2,nofun⟩),(λb e=>⟨(I.dC b e).1,(I.dC b e).2.1,(I.dC b e).2.2.1,(I.dC b e).2.2.2.1,nofun⟩),rfl,(λt v e=>by rw[List.getElem?_nil]at e;cases e),I.p,I.pm⟩,
    ⟨[],0,GO I.m,(λk v e=>by cases e),λa b e=>absurd rfl e⟩,I.i6,I.h9⟩
  refine(aao K r1 J J).mono ?_;rintro _ bh B ⟨rfl,db,cG,kp,_,_⟩;rw[show tu Z.R 0 (mu Z.R Z.C).a=1 from if_pos λi _=>rfl]at kp;exact⟨A+1,A,aL,db,cG,rfl,J,J,kp⟩
end
section
variable {aB:Type}
theorem fu.at{h:ae}{enc:aB->ac X}{k:Nat}{v:X}{l:ac aB}{o:ay Nat}(g:fu h enc k v l o)(B:∀x,(enc x).length=k){i:Nat}{x:aB}(I:l[i]? = some x):∃b A aO cs E,v = .slice (some ⟨b,A,aO⟩) l.length l.length/\o=some b/\u h b=some (.cells cs E)/\hg (some k) (A+i*k) cs = .ok (.agg ⟨enc x⟩):=by
 have aj:i<l.length:=aa
 have V:i*k+k<=l.length*k:=by have:=ph k (show i+1<=l.length from aj);grind
 cases g with
 |nil=>grind
 | @own b _ D =>
  refine⟨b,0,some k,_,false,rfl,rfl,D,?_⟩;rw[iU,qm,if_pos (by rw[fX B];omega),uN B I]
 | @part b A _ cs E D br P =>
  refine⟨b,A,none,cs,E,rfl,rfl,D,?_⟩;rw[qm,if_pos J,<-xO];have:=congrArg (λz=>(z.drop (i*k)).take k) P;simp only[uN B I,EI,List.take_take]at this
  grind
end
section
variable {s:ao} {g h:ae} {U:Nat} {Z:cn} {own:Nat->Nat} {x:gi} {room:Int} {ax L de dj cq pm:Nat} {aL:Nat->Nat} {cU:Nat->Nat->ac cB} {a0:Nat} {aq:ae}
def EdJ(R ax:Nat)(a:Nat->Nat)(os:X)(h:ae)(U:Nat)(m:Nat)(aJ:ac X)(ab:ae)(Y:Nat):Prop:=∃i,m=R-i/\i<=R/\(∀aK,aK<i->a aK=ax+1)/\aJ=[os,.func (.func 142) #[] #[],.int .i64 0,(R:X),(i:X)]/\ab=h/\Y=U
theorem Ou(K:f8 Z)(H:iC Z room ax aL cq pm a0 aq x cU de dj L own g h U)(kn:∀i,i<Z.R->x.a i<=ax+1)(GU:∀t,t<=ax->(Z.gn t=0↔t<ax)):aD Q s 71 [bb cq] h U (fs (.bool (decide (∀i,i<Z.R->x.a i=ax+1))) U h):=by
 refine apK ?_;obtain⟨a,ws,os,au,qg,fv,eJ,fF,G⟩:=H.hH;have V:=G.at_;obtain⟨P,co,rfl,_⟩:=id G.or;have B:=G.or;rw[wp]at V B;unfold acL;simp(disch:=omega)only[bk,NE An,V,seval];refine(show aD Q s 141 [.slice P Z.R co,.func (.func 142) #[] #[]] h U (fs (.bool (!decide (∀i,i<Z.R->x.a i=ax+1))) U h)from ?_).f5 ?_
 ·refine ahC ?_;refine(show aD Q s 235 [.slice P Z.R co,.func (.func 142) #[] #[]] h U (λr ab Y=>∃y:Int,r = (y:X)/\(0<=y↔¬∀i,i<Z.R->x.a i=ax+1)/\ab=h/\Y=U)from ?_).mono ?_
  ·refine ahS ?_;unfold V1;refine aE ?_;refine bF.mk (EdJ Z.R ax x.a (.slice P Z.R co) h U) Z.R ⟨0,J,J,J,rfl,rfl,rfl⟩ ?_;rintro _ _ ab Y ⟨i,rfl,aj,D,rfl,aW,aP⟩;subst ab Y;rw[ahM];unfold VP
   by_cases A:i<Z.R
   ·obtain⟨c,l,aY,so,bC,b4,cE,R⟩:=H.dE i 0 A K.hI;have I:=R.o rfl;obtain⟨b,aO,cap,cs,bL,e,dq,eF,hb⟩:=AI  B (λ_ _ e=>e) A;cases e;have bV:IntKind.wrap .i64 ((i:Int)+1)=((i+1:Nat):Int):=cF (by have:=K.nQ;omega);refine cM @dq @eF ?_;refine⟨λ_=>?_,λh=>absurd A h⟩;refine al5 ?_;refine(W5 R.W I.Bi).f5 ?_;refine bf @bV ?_;refine⟨λbK=>?_,λfk=>?_⟩
    ·grind
    ·refine⟨_,J,i+1,rfl,J,λaK h=>(Nat.lt_succ_iff_lt_or_eq.1 h).elim (D aK) λe=>?_,rfl,rfl,rfl⟩
     grind
   ·have:i=Z.R:=J
    subst this;refine aE ?_;refine⟨λh=>absurd h J,λ_=>?_⟩
    grind
  ·rintro _ _ _ ⟨y,rfl,cd,rfl,rfl⟩;refine aE ?_;refine⟨?_,rfl,rfl⟩
   by_cases E:∀i,i<Z.R->x.a i=ax+1
   ·rw[hf E,hf (show y<0 from Int.lt_of_not_ge λh=>cd.1 h E)]
   ·have:=cd.2 E;rw[ht E,ht (J:¬y<0)]
 ·simp(disch:=omega)only[bk,Bool.not_not,seval];exact⟨rfl,rfl,rfl⟩
theorem ajS(H:iC Z room ax aL cq pm a0 aq x cU de dj L own g h U)(I:1<=L)(E:L<1000):aD Q s 150 [bb cq] h U (fs (((L-1:Nat):X)) U h):=by
 refine al8 ?_;obtain⟨a,ws,os,au,P,fv,eJ,fF,G⟩:=H.hH;have B:=G.at_;have A:=G.au.lens;rw[G.L]at A;unfold fS at B;unfold aam;have D:IntKind.wrap .i64 ((L:Int)-1)=((L-1:Nat):Int):=by rw[show(L:Int)-1=((L-1:Nat):Int) by omega];exact jb _ J
 simp(disch:=omega)only[bk,pj An,B,A,D,seval];exact⟨rfl,rfl,rfl⟩
def SH(Z:cn)(t:Nat)(U:Nat)(h:ae)(v:X)(ab:ae)(Y:Nat):Prop:=lO ab U Y v 0 (Z.N:Int) Z.N (cx Z.N (Z.e3.st t).A) (cx Z.N (Z.e3.st t).B) (Z.e3.st t).q/\aA U h ab/\U<=Y
theorem amd(K:f8 Z)(H:iC Z room ax aL cq pm a0 aq x cU de dj L own g h U){t:Nat}(cK:t<L)(yR:L<1000):aD Q s 155 [bb cq,(t:X)] h U (λr ab Y=>∃v,r = .tuple ⟨[v,.bool true]⟩/\SH Z t U h v ab Y):=by
 refine apO ?_;obtain⟨a,ws,os,au,qg,fv,eJ,fF,G⟩:=H.hH;have bd:=G.at_;have A:=G.au.lens;have bn:=G.p.1;have n60:=K.n60;rw[G.L]at A;obtain⟨v,aI⟩:∃v,qg[t]? = some v:=⟨_,qi (by rw[G.L];omega)⟩
 obtain⟨b,off,aO,cs,bL,rfl,Bq,a1,V⟩:=fu.at G.au (λ_=>rfl) aI;have sJ:=(G.b b Bq).1;have I:=G.st t v aI;rw[G.L]at bd A;unfold fS at bd;have UU:∀{o},u (T h U o) cq=_:=λ{o}=>(ar J).trans bd;have hbN:∀{o},u (T h U o) b=_:=λ{o}=>(ar J).trans a1;unfold jr at I;simp only[iU]at I;obtain⟨dp,fW,fw,hz,fE,gh,gt⟩:=I;unfold GV at hz V;simp only[Value.agg.injEq,xN,vR,iv]at hz;obtain⟨_,_,rfl,rfl,rfl⟩:=hz;unfold acN;simp(disch:=omega)only[bk,pj An,UU,A,hf (J:(t:Int)<(L:Int)),ht (J:¬(t:Int)<0),seval];unfold Jk;refine gX @UU @hbN @V ?_;have bH:∀{o eV dQ},aA U h (T (T (T h U o) (U+1) eV) (U+1) dQ):=aF
 have E:=H.oG.sub;refine⟨λh=>absurd cK h,λ_=>?_⟩;refine(Fc ((u6 fE E).F  bH J) (by rw[i9];omega)).mono ?_;rintro v1 h1 bg ⟨lH,P,fa⟩;refine⟨fa,?_⟩;have bP:=(P (U+1) J).trans (aR _ _ _);have t1:=(P U J).trans ((ar J).trans ((ar J).trans (aR _ _ _)));have cI:=bH.trans P J;simp(disch:=omega)only[bk,bP,iE,seval];refine(Fc ((u6 gh E).F  cI J) (by rw[i9];omega)).mono ?_;rintro v2 ap bU ⟨BL,D,fx⟩;refine⟨fx,?_⟩;have g2:=(D (U+1) J).trans bP;have t2:=(D U J).trans t1;have ey:=cI.trans D J;simp(disch:=omega)only[bk,bP,g2,iE,seval];refine(aag ((u6 gt E).F  ey J)).mono ?_;rintro v3 aH b1 ⟨BM,B,gg⟩;refine⟨gg,?_⟩;have dz:=(B (U+1) J).trans g2;have t3:=(B U J).trans t2;obtain⟨g8,b8,rfl,_⟩:=id lH;obtain⟨iZ,cN,rfl,_⟩:=id BL;obtain⟨hO,ca,rfl,_⟩:=id BM;simp(disch:=omega)only[bk,bP,g2,dz,t3,iE,seval];exact⟨_,rfl,⟨_,_,_,rfl,lH.F (λd h1 ap=>by rw[ar J,B d J,D d J]) J J,BL.F (λd h1 ap=>by rw[ar J,B d J]) J J,BM.F aa J J⟩,aF,J⟩
end
section
variable {s:ao} {g h:ae} {U:Nat} {Z:cn} {own:Nat->Nat} {x:gi} {room:Int} {ax L de dj cq pm:Nat} {aL:Nat->Nat} {cU:Nat->Nat->ac cB} {a0:Nat} {aq:ae}
theorem apW(H:iC Z room ax aL cq pm a0 aq x cU de dj L own g h U)(h1:de<=100000)(ap:dj<=100000):
  aD Q s 152 [bb cq] h U (λr ab Y=>∃n:Nat,r = (n:X)/\n<1000000000/\ab=h/\Y=U):=by
 obtain⟨a,ws,os,au,qg,fv,eJ,fF,G⟩:=H.hH;obtain⟨M,c,B⟩:=H.nj;have dV:∀e,∃q:Nat × Nat,e∈M->e.2.1 = .pointer (some ⟨q.1,0,none⟩)/\q.2<=100001/\∀{mA:ao} {ab:ae} {Y:Nat},aA U h ab->aD Q mA 248 [.pointer (some ⟨q.1,0,none⟩)] ab Y (fs (q.2:X) Y ab):=λe=>by
  by_cases V:e∈M
  case neg=>exact⟨(0,0),λh=>absurd h V⟩
  obtain⟨_,_,b6,aW,S⟩:=B.get e.1 e.2.1 ((Ju B.m.oY).2 ⟨e.2.2,V⟩);obtain⟨G9,U4,ev,jZ,mV,dF,dh,P,lL,a1,_,au⟩:=S.at
  exact⟨(b6,P),λ_=>⟨aW,by show P<=_;omega,λhk=>apP ((hk b6 G9).trans a1)⟩⟩
 obtain⟨f,bD⟩:=Classical.skolem.1 dV;have xb:=av9 B.m.oY;have bd:=G.at_;have hpg:=G.p.1;have rB:pm<U:=G.m.1;unfold fS at bd;obtain⟨S,aAr⟩:∃S:Nat,S=(M.map λe=>(f e).2).sum:=⟨_,rfl⟩
 have dx:S<=M.length*100001:=by
  subst aAr;have:∀l:ac (i7 × X × Nat),(∀e∈l,e∈M)->(l.map λe=>(f e).2).sum<=l.length*100001:=by
   intro l
   induction l with
   |nil=>simp
   |cons e l fb =>
    intro br;have:=fb λx aX=>br x (nT _ aX);have:=(bD e (br e (pi ..))).2.1;simp only[qj,List.sum_cons,nq];omega
  exact this M λe V=>V
 refine aD.plain (v:=(S:X)) rfl ?_ ⟨S,rfl,J,rfl,rfl⟩;refine apG ?_;unfold acI;simp(disch:=omega)only[bk,NE An,bd,seval];refine B.m.ry λaH I f1=>?_;refine bF.mk (λm aJ ab Y=>∃(E:Nat) (A:ac (i7 × X × Nat)),m=A.length/\aJ=[(E:X),bb U]/\w8 ab U pm c M A/\E+(A.map λe=>(f e).2).sum=S/\(∀e∈A,e∈M)/\aA U h ab/\U+1<=Y) M.length
  ⟨0,M,rfl,rfl,I,J,λe h=>h,λc a5=>f1 c J,J⟩ ?_
 rintro _ _ bh d9 ⟨E,A,rfl,rfl,Iq,hp4,tS,D,hX⟩;rw[alX];unfold Yf;refine(B.m.F (D pm rB)).fO Iq J (λaM=>?_) λe ayh b0 V oh BK e7 HW=>?_
 ·subst aM;refine aE ?_;simp at hp4;exact⟨by rw[hp4],D⟩
 ·have nN:=oh.length_eq;simp only[nq]at nN;have rE:=List.Perm.sum_nat (oh.map λe=>(f e).2)
  rw[qj,List.sum_cons]at rE;rw[(bD e V).1]at HW ⊢;refine bf @HW ?_;refine((bD e V).2.2 λd bs=>(e7 d J).trans (D d bs)).f5 ?_;refine aE ?_;refine⟨_,J,E+(f e).2,ayh,rfl,?_,BK,J,λx aX=>tS x (oh.mem_iff.2 (nT _ aX)),λd bs=>(e7 d J).trans (D d bs),J⟩;rw[<-vQ,aub _ J]
theorem ajT(K:f8 Z)(H:iC Z room ax aL cq pm a0 aq x cU de dj (ax+1) own g h U)(nn:∀i,i<Z.R->x.a i=ax+1)(fe:ax<900)(B:∀t,t<=ax->(Z.gn t=0↔t<ax)):
  aD Q s 74 [bb cq] h U (λr ab Y=>∃lA p3 nk kZ V,r = .agg ⟨[.int .i64 (Z.gn ax),(ax:X),lA,p3,nk,kZ,V]⟩/\SH Z ax U h (.agg ⟨[lA,p3,nk,kZ,V]⟩) ab Y):=by
 refine al4 ?_;have bH:∀{o},aA U h (T h U o):=aF
 unfold aak;simp(disch:=omega)only[bk,pj An,seval];obtain⟨ahu,bP,kp,_⟩:=H.still (bH ) (J:U<=U+1);refine(ajS kp J J).f5 ?_;rw[II];refine aE ?_;generalize E:T (T (T h U _) (U+1) _) (U+1) _=ap;have kY:u ap U=some (.cells [(.int .i64 0),(.int .i64 0),(.int .i64 0),(.int .i64 0),(.slice none 0 0),(.slice none 0 0),(.slice none 0 0)] false):=aa
 have nl:u ap (U+1)=some (.cells [(.int .i64 0),(ax:X),(.int .i64 0),(.int .i64 0),(.slice none 0 0),(.slice none 0 0),(.slice none 0 0)] false):=aa
 have ey:aA U h ap:=by rw[<-E];exact aF
 obtain⟨SD,g2,I,_⟩:=H.still ey (J:U<=U+1+1);refine(Ou K I aa B).f5 ?_;rw[hf nn];obtain⟨a,ws,os,au,qg,fv,eJ,fF,G⟩:=I.hH;have bd:=G.at_;obtain⟨b,aO,cap,cs,bL,rfl,dq,eF,hb⟩:=AI  G.or (λ_ _ e=>e) (show 0<Z.R from K.lH);unfold fS at bd;obtain⟨c,l,aY,so,bC,b4,cE,R⟩:=I.dE 0 0 K.lH K.hI;have kn:=R.o rfl;have A:=kn.Bi;rw[nn 0 K.lH,if_neg J,II]at A;rw[mb]at eF;have ei:=K.lH;refine gX @bd @dq @eF ?_;have W:=R.W;rw[show 0*Z.C+0=0 by omega]at W;refine(W5 W A).f5 ?_;refine bf @nl ?_;generalize D:T ap (U+1) _=aH;have cW:u aH (U+1)=some (.cells [(.int .i64 (Z.gn ax)),(ax:X),(.int .i64 0),(.int .i64 0),(.slice none 0 0),(.slice none 0 0),(.slice none 0 0)] false):=aa
 have ie:=(show u aH U=u ap U by grind).trans kY;have fr:aA U h aH:=by rw[<-D];exact aF
 obtain⟨GW,dz,jj,_⟩:=H.still fr (J:U<=U+1+1);unfold NS;refine bf @cW ?_;refine(amd K jj J J).mono ?_;rintro _ bh d9 ⟨v,rfl,⟨dp,fW,fw,rfl,fE,gh,gt⟩,P,hX⟩;have BC:=(P (U+1) J).trans cW;have eX:∀{o},u (T bh (U+1) o) U=_:=λ{o}=>(ar J).trans ((P U J).trans ie);obtain⟨g8,b8,rfl,_⟩:=id fE;obtain⟨iZ,cN,rfl,_⟩:=id gh;obtain⟨hO,ca,rfl,_⟩:=id gt;refine bf @BC ?_;refine z6.2 ⟨rfl,aa,?_⟩;refine bf @eX ?_;refine⟨_,_,_,_,_,rfl,⟨_,_,_,rfl,fE.F aa J J,gh.F aa J J,gt.F aa J J⟩,λd bs=>?_,J⟩;rw[ar J,ar J,P d J];exact fr d bs
end
section
variable {s:ao} {h:ae} {U:Nat} {Z:cn} {ax W:Nat}
structure yx (h:ae) (U:Nat) (x:iV) (eu f7 eD:X) (Z:cn):Prop where
 K:f8 Z
 H:n3 h U x eu f7 eD
 j0:dg h U eD yJ []
 xD:x.t0=0
 bu:x.bu.length<1000000
 E:gP x=0
 z:Z.k=x.k/\x.n=(Z.N:Int)/\Z.src=x.src/\Z.len=x.len/\Z.bu=x.bu/\x.R=(Z.R:Int)/\x.C=(Z.C:Int)/\x.lim=(Z.lim:Int)
 ag:vg x.k (x.es.map ol) Z.ag
theorem yx.F{x:iV}{eu f7 eD:X}{ab:ae}{Y:Nat}(S:yx h U x eu f7 eD Z)(B:aA U h ab)(A:U<=Y):yx ab Y x eu f7 eD Z:={ S with H:=S.H.F B A,j0:=S.j0.F B A }
theorem yx.room{x:iV}(S:yx h U x eu f7 eD Z):1<=x.M/\x.M<=64:=by
 have e:=S.E;unfold gP at e
 split at e
 ·omega
 ·split at e
  ·cases e
  ·split at e
   ·cases e
   ·split at e
    ·cases e
    ·rename_i A
     have:jv x.M 64=true:=aa
     unfold jv at this
     grind
def aAs(Z:cn)(room:Int)(ax:Nat)(a0:Nat)(aq:ae)(W:Nat)(cq pm:Nat)(aL:Nat->Nat)(m:Nat)(aJ:ac X)(ab:ae)(Y:Nat):Prop :=
 ∃k x cU L own g,m=W-k/\k<=W/\aJ=[bb cq,(k:X),(W:X),(k:X)]/\iC Z room ax aL cq pm a0 aq x cU k k L own g ab Y/\HX Z ax (k+1) 0 x cU L
def aAt(Z:cn)(room:Int)(ax:Nat)(h:ae)(U:Nat)(cq k:Nat)(ab:ae)(Y:Nat):Prop:=∃pm aL x cU own g,iC Z room ax aL cq pm U h x cU k k (ax+1) own g ab Y/\(∀i,i<Z.R->x.a i=ax+1)/\k<=99999
theorem ajU{x:iV}(S:yx h U x eu f7 eD Z)(fe:ax<900)(E:∀t,t<=ax->(Z.gn t=0↔t<ax))(B:Bj Z ax)(jM:ms Z.R Z.C ax+Z.R<=W)(D0:W<=99999):
  aD Q s 157 [.agg ⟨fM x eu f7 eD⟩,.slice none 0 0,(W:X)] h U (λr ab Y=>∃cq k:Nat,r = .tuple ⟨[bb cq,(k:X),.int .i64 0]⟩/\aAt Z x.M ax h U cq k ab Y):=by
 refine Yi ?_;have K:=S.K;obtain⟨a9,gs,qZ,_⟩:=id S.H.d;obtain⟨bM,qW,BG,_⟩:=id S.H.e;obtain⟨bA,gq,Bu,_⟩:=id S.j0;have hrm:=S.room;unfold Pe;subst qZ BG Bu;unfold fM;refine aE ?_;refine(XN    (S.H.F aF J) ⟨none,0,rfl,λh=>absurd rfl h⟩ aa).cz λh1 bg cI fa=>?_;have dq:=(cI U J).trans (aR _ _ _);have aM:yH x [] (W:Int)=0:=by unfold yH;rw[if_neg (by rw[S.E];omega),if_neg (by decide),if_neg (by decide),if_neg (by rw[lm J];decide)]
 rw[aM];refine bf @dq ?_;have K01:aA U h h1:=aF
 have fE:=S.F (Y:=bg) K01 J;refine(atN (ax:=ax) K fE.H fE.j0 fE.xD fE.bu fE.E fE.z fE.ag).mono ?_;rintro _ ap bU ⟨cq,pm,aL,own,g,rfl,dU,dL,H⟩;refine aE ?_;have gA:iC Z x.M ax aL cq pm U h (mu Z.R Z.C) (λ_ _=>[]) 0 0 1 own g ap bU:={ H with i6:=by have:=H.i6;omega,h9:=λd bs=>⟨(H.h9 d J).1,(H.h9 d J).2.trans (K01 d bs)⟩ }
 refine bF.mk (λ_ aJ ab Y=>aJ=[(W:X),bb cq,.slice none 0 0,.int .i64 0,.int .i64 0]/\ab=ap/\Y=bU) 0 aa ?_;rintro _ _ _ _ ⟨rfl,rfl,rfl⟩;rw[ajL];unfold W9;refine aE ?_;have aCo:=aw9   (ax:=ax) K.hI K.lH;refine λ_=>bF.mk (aAs Z x.M ax U h W cq pm aL) W ⟨0,mu Z.R Z.C,λ_ _=>[],1,own,g,rfl,J,rfl,gA,aCo.1,aCo.2,J,0,K.lH,rfl⟩ ?_;rintro _ _ aH b1 ⟨k,P,Bl,aCl,D,dz,rfl,hk,rfl,jj,A⟩;rw[ajM];unfold Xa;have q1:ahw Z x.M ax cq pm U:=⟨K,J,J,hrm.1,hrm.2,fe,E,B⟩
 have dx:∀i,i<Z.R->P.a i<=ax+1:=λi aj=>(A.P.ord.aq i aj).1
 by_cases cS:k<W
 ·refine aE ?_;refine⟨λ_=>?_,λh=>absurd cS h⟩;refine(Ou K jj dx E).f5 ?_
  by_cases I:∀i,i<Z.R->P.a i=ax+1
  ·rw[hf I];refine aE ?_;have f3:=A.S.fin I;subst f3;exact⟨cq,k,rfl,pm,aL,P,Bl,D,dz,jj,I,J⟩
  ·rw[ht I];refine aE ?_;have fk:∃k,k<Z.R*Z.C/\P.out k≠[]:=by obtain⟨i,aj,dy⟩:∃i,i<Z.R/\P.a i≠ax+1:=xK aa;exact A.P.more K.hI K.lH (λa b=>A.D.t3 a b J) aj dy
   refine(ajR q1 jj A J fk).mono ?_;rintro _ bh d9 ⟨rfl,Bp,lk4,aDO,⟨V,dO,s2,_,_⟩,aDP⟩;have xu:IntKind.wrap .i64 ((k:Int)+1)=((k+1:Nat):Int):=cF J;refine bf @xu ?_;exact⟨_,J,k+1,Bp,lk4,aDO,V,dO,rfl,cS,rfl,s2,aDP⟩
 ·have:k=W:=J
  subst this;have I:∀i,i<Z.R->P.a i=ax+1:=λi aj=>A.P.fin A.D K.hI K.lH J aj;have f3:=A.S.fin I;subst f3;refine aE ?_;refine⟨λh=>absurd h J,λ_=>?_⟩;exact⟨cq,k,rfl,pm,aL,P,Bl,D,dz,jj,I,D0⟩
theorem awb{n k:Int}:qs (oO [(7,1,(n:X)),(8,1,(k:X))]) 0 7 [aC,az,a2,a3,aZ,bI,bj] [pf,i5,z2,z3,z4,s1,xG,qd,Is] = .ok [aC,az,a2,a3,aZ,bI,bj,(n:X),(k:X)]:=rfl
theorem atO{x:iV}(S:yx h U x eu f7 eD Z)(fe:ax<900)(A:∀t,t<=ax->(Z.gn t=0↔t<ax))(B:Bj Z ax)(jM:ms Z.R Z.C ax+Z.R<=W)(D0:W<=99999):
  aD Q s 76 [.agg ⟨fM x eu f7 eD⟩,.slice none 0 0,(W:X)] h U (λr ab Y=>∃lA p3 nk kZ xH,∃n k:Nat,r = .tuple ⟨[.agg ⟨[.int .i64 (Z.gn ax),(ax:X),lA,p3,nk,kZ,xH,(n:X),(k:X)]⟩,.int .i64 0]⟩/\SH Z ax U h (.agg ⟨[lA,p3,nk,kZ,xH]⟩) ab Y):=by
 refine aeM ?_;obtain⟨a9,gs,qZ,_⟩:=id S.H.d;obtain⟨bM,qW,BG,_⟩:=id S.H.e;obtain⟨bA,gq,Bu,_⟩:=id S.j0;have K:=S.K;unfold RO;subst qZ BG Bu;unfold fM;have dT:∀{o},u (T (T h U (.cells (fM x (.slice a9 x.bu.length gs) (.slice bM x.es.length qW) (.slice bA ([]:ac (Int × Int)).length gq)) false)) (U+1) o) U=_:=λ{o}=>(ar J).trans (aR _ _ _);refine bf @dT ?_;generalize Md:T (T h U _) (U+1) _=h1;have cI:aA U h h1:=by rw[<-Md];exact aF
 have cf:u h1 (U+1)=some (.cells [(.int .i64 0),(.int .i64 0),(.int .i64 0),(.int .i64 0),(.slice none 0 0),(.slice none 0 0),(.slice none 0 0),(.int .i64 0),(.int .i64 0)] false):=aa
 refine(ajU (S.F  cI J) fe A B jM D0).mono ?_;rintro _ ap bU ⟨cq,k,rfl,pm,aL,iZ,lk2,SD,g2,V,nn,hk⟩;refine aE ?_;refine(ajT K V nn fe A).mono ?_;rintro _ aH b1 ⟨lA,p3,nk,kZ,xH,rfl,gt,fr,gg⟩;obtain⟨GW,dz,jj,_⟩:=V.still fr gg;refine(apW jj J J).mono ?_;rintro _ Lz n3' ⟨n,rfl,bw,aW,D⟩;subst Lz n3';obtain⟨dp,fW,fw,hz,S31,I,P⟩:=gt;simp only[Value.agg.injEq,xN,vR,iv]at hz;obtain⟨rfl,rfl,rfl,rfl,rfl⟩:=hz;obtain⟨g8,b8,rfl,_⟩:=id S31;obtain⟨x2',cN,rfl,_⟩:=id I;obtain⟨hO,ca,rfl,_⟩:=id P;have kY:=(V.h9 (U+1) J).2.trans cf;have L0:=V.i6;refine bf @awb ?_;generalize UV:T (T aH b1 _) b1 _=bh;have E:aA b1 aH bh:=by rw[<-UV];exact aF
 have cW:u bh b1=some (.cells [.int .i64 (Z.gn ax),(ax:X),.int .i64 0,(Z.N:X),.slice g8 (cx Z.N (Z.e3.st ax).A).length b8,.slice x2' (cx Z.N (Z.e3.st ax).B).length cN,.slice hO (eT Z.N (Z.e3.st ax).q).length ca,(n:X),(k:X)] false):=aa
 obtain⟨SF,dO,s2,_⟩:=jj.still E (vT b1);refine(Ou K s2 aa A).f5 ?_;rw[hf nn];have ie:=(E (U+1) J).trans ((fr (U+1) J).trans kY);refine cM @cW @ie ?_;have h9:∀d,d<U->u bh d=u h d:=λd bs=>(E d J).trans ((fr d J).trans ((V.h9 d J).2.trans (cI d bs)));refine⟨_,_,_,_,_,n,k,rfl,⟨_,_,_,rfl,S31.F (λd aW D=>?_) J J,I.F (λd aW D=>?_) J J,P.F (λd aW D=>?_) J J⟩,λd bs=>?_,J⟩
 ·rw[ar J];exact E d D
 ·rw[ar J];exact E d D
 ·rw[ar J];exact E d D
 grind
end
def vN(o:ay Int):Prop:=∀y,o=some y->0<=y/\y<=eS
theorem Qs:vN none:=λ_ h=>aa
section
variable {r:Int} {Z:cn} {t:Nat}
theorem awc(E:r≠5){a b:ay Int}(A:vN a)(B:vN b):vN (e6 r a b):=by
 cases a with
 |none=>exact B
 |some a =>
  cases b with
  |none=>exact A
  |some b =>
   intro y D;cases D;have P:=A a rfl;have I:=B b rfl;unfold kB;omega
theorem Ri(A:r≠5):∀{l:ac (ay Int)},(∀x∈l,vN x)->vN (fZ r l)
 | [],_=>Qs
 |x::l,h=>awc A (h x aa) (Ri A λy B=>h y aa)
theorem aeS(E:r≠5){x:Nat->ay Int}(P:∀g∈ag,vN (x g.t))(I:∀g∈ag,0<=g.w)(v:Nat):vN (iK r ag x v):=by
 refine Ri E λo V=>?_;obtain⟨g,B,rfl⟩:=gO.1 V
 split
 ·intro y D;cases A:x g.t with
  |none=>grind
  |some z =>
   rw[A]at D;cases D;have h1:=P g B z A;have ap:=I g B;unfold hM;omega
 ·exact Qs
theorem Kn(K:f8 Z){a H b W:Nat}:∀g∈lN Z.ag a H b W,0<=g.w/\∃cG∈Z.ag,b+g.t=cG.t:=λg E=>by
 obtain⟨cG,A,rfl⟩:=gO.1 E;have B:=(sb.1 A).1;have D:=(sb.1 A).2;unfold pF at D;refine⟨(K.w cG B).1,cG,B,?_⟩
 grind
theorem Qt(K:f8 Z):hu Z.k t≠5:=by
 unfold hu;rcases K.hn with h|h|h|h <;> rw[h] <;> simp;omega
theorem ayi(K:f8 Z)(E:∀v,v<Z.N->vN (Z.e3.x t v)):VA Z t where
 c:=λi P v=>by
  refine Ri (Qt K) λo I=>?_;obtain⟨j,_,rfl⟩:=gO.1 I
  split
  ·refine aeS (Qt K) (λg A=>?_) (λg A=>(Kn K g A).1) _;obtain⟨_,cG,D,B⟩:=Kn K g A;rw[B];exact E _ (K.M.mj cG D)
  ·exact Qs
 b:=λi j v=>by refine aeS (Qt K) (λg A=>?_) (λg A=>(Kn K g A).1) v;obtain⟨_,cG,D,B⟩:=Kn K g A;rw[B];exact E _ (K.M.mj cG D)
theorem apX{x:Nat->ay Int}{v:Nat}(h:∀g∈ag,g.f≠v):iK r ag x v=none:=by
 refine vZ λo A=>?_
 grind
theorem ayj(K:f8 Z)(A:Z.k=1)(au:∃v:Nat,Z.src=(v:Int)/\v<Z.N):∀(t v:Nat),(Z.e3.st t).q v=true->v<Z.N
 |0,v,h=>by obtain⟨w,e,E⟩:=au;have h:tF Z.k Z.src v=true:=h;rw[A]at h;have:(v:Int)=Z.src:=of_decide_eq_true h;omega
 |t+1,v,h=>by
  apply xK;intro D;have h:(oa Z.k (Z.e3.aT (t+1)) (t+1) (Z.e3.st t) v (tt (hu Z.k (t+1)) (Z.e3.AC (t+1) (Z.e3.st t) v))).2.2=true:=h;have e:Z.e3.AC (t+1) (Z.e3.st t) v=none:=by
   unfold m6.AC
   split
   ·exact apX λg B e=>by have:=K.M.rows g B;omega
   ·rfl
  rw[e,A]at h;cases h
theorem awd(K:f8 Z)(B:Z.k=1)(au:∃v:Nat,Z.src=(v:Int)/\v<Z.N)(ax:Nat):Bj Z ax:=λt _=>by
 have D:∀v,vN (Z.e3.x t v):=λv y A=>by
  have A:rx Z.k (Z.e3.aT t) t (Z.e3.st (t-1)) v=some y:=A;unfold rx at A;rw[if_pos B]at A
  split at A
  ·rename_i E
   have:=ayj K B au _ v E;have:=K.n60;cases A;unfold eS;omega
  grind
 exact⟨ayi K λv _=>D v,λv y _=>D v y⟩
end
def agj:sZ:=λs ah t1 t2 t3 h U K=>bG ah h U λa b c=>aG 2 b a λd=>aV s 22 [d,t1,t2,t3] b c λe f g=>bX [(ad 0),(ad 0),(ad 0),(ad 0),aw,(ad 0),aw,(ad 0),(ad 0),(ad 0),(ad 0),aw] f g λi j k=>af (aN j 12 i e) λl=>aG 12 l i λm=>av l 10 i λo=>cg 75 [m,o] l k λp q r=>aG 12 q i λt=>jx 12 i t (cg 76 [t,aw,p] q r λaS v w=>af (cu aS 0) λx=>bX [(ad 0),(ad 0),(ad 0),(ad 0),aw,aw,aw,(ad 0),(ad 0)] v w λy z bz=>af (aN z 9 y x) λbS=>af (cu aS 1) λbA=>ko bA (K (.tuple ⟨[aw,aw,bA]⟩) bS bz) (bl 0 y λbM=>iS 5 bS 2 bM λbO=>aV s 80 [bO] bS bz λcJ cp dk=>af (cu cJ 0) λc3=>af (cu cJ 1) λeo=>K (.tuple ⟨[c3,eo,bA]⟩) cp dk)) 1 [l]
theorem awe:uj 16 agj:=vu []
def aeT:cO:=λs ah h U K=>bG ah h U λa b c=>av b 2 a λe=>cg 88 [e] b c λf g i=>bl 3 a λj=>bY g j λk=>da j k (cg 88 [k] g i λl m n=>K (.tuple ⟨[f,l]⟩) m n) 1 [b]
theorem atP:cQ 80 aeT:=cT []
def xT(s:ao)(K:bZ)(cN ca y29:X)(aq:ae)(a0:Nat):Prop:=bt y29 (aV s 18 [] aq a0 λa b c=>K a b c) (aG 2 aq cN λd=>af (f0 (.array 3 1) ca (ad 0)) λe=>bY aq e λf=>af (f0 (.array 3 1) ca (ad 1)) λg=>bY aq g λi=>af (f0 (.array 3 1) ca (ad 2)) λj=>bY aq j λk=>aV s 16 [d,f,i,k] aq a0 λl m n=>af (cu l 0) λo=>af (cu l 1) λp=>af (cu l 2) λq=>aG 2 m cN λr=>af (f0 (.array 3 1) ca (ad 0)) λt=>bY m t λaS=>af (f0 (.array 3 1) ca (ad 1)) λv=>bY m v λw=>af (f0 (.array 3 1) ca (ad 2)) λx=>bY m x λy=>aV s 22 [r,aS,w,y] m n λz bz bS=>bX [(ad 0),(ad 0),(ad 0),(ad 0),aw,(ad 0),aw,(ad 0),(ad 0),(ad 0),(ad 0),aw] bz bS λbA a9 bM=>af (aN a9 12 bA z) λb5=>aG 2 b5 cN λbO=>af (f0 (.array 3 1) ca (ad 0)) λcJ=>bY b5 cJ λcp=>af (f0 (.array 3 1) ca (ad 1)) λdk=>bY b5 dk λc3=>af (f0 (.array 3 1) ca (ad 2)) λeo=>bY b5 eo λam=>aV s 23 [bO,cp,c3,am] b5 bM λan ek fK=>bX [(ad 0),(ad 0),(ad 0),(ad 0),aw,(ad 0),aw,(ad 0),(ad 0),(ad 0),(ad 0),aw] ek fK λfU gk hp=>af (aN gk 12 fU an) λhQ=>aV s 18 [] hQ hp λfV jA jB=>bt fV (aG 12 jA fU λjJ=>aV s 24 [jJ] jA jB λlj fj b7=>bm .eql 30 q lj (av fj 10 bA λkK=>av fj 10 fU λfF=>bm .eql 3 kK fF (bl 0 bA λp6=>av fj 0 p6 λjK=>bm .eql 40 jK (ad 1) (bl 0 bA λpa=>av fj 1 pa λp7=>av fj 0 cN λuk=>bm .eql 3 p7 uk (bl 0 bA λjI=>av fj 2 jI λBw=>af (f0 (.array 3 1) ca (ad 0)) λfv=>bY fj fv λnj=>bm .eql 3 Bw nj (av fj 7 bA λgc=>af (f0 (.array 3 1) ca (ad 1)) λgq=>bY fj gq λgs=>bm .eql 3 gc gs (av fj 8 bA λul=>af (f0 (.array 3 1) ca (ad 2)) λj0=>bY fj j0 λjw=>bm .eql 3 ul jw (av fj 9 bA λcl=>bm .eql 3 cl (ad 4) (av fj 11 bA λco=>cP co λIb=>bE .eql 3 Ib (ad 0) λBx=>K Bx fj b7) (K (.bool false) fj b7)) (K (.bool false) fj b7)) (K (.bool false) fj b7)) (K (.bool false) fj b7)) (K (.bool false) fj b7)) (K (.bool false) fj b7)) (K (.bool false) fj b7)) (K (.bool false) fj b7)) (K (.bool false) jA jB))
def V6:c0:=λs ah t1 h U K=>bG ah h U λa b c=>bG t1 b c λd e f=>av e 1 a λi=>cP i λj=>hP j (ad 30) (av e 1 a λm=>cP m λn=>bm .leq 3 n (ad 65536) (xT s K a d (.bool true) e f) (av e 0 a λq=>hP q (ad 30) (av e 0 a λaS=>bE .leq 3 aS (ad 4096) λv=>(xT s K a d v e f)) (xT s K a d (.bool false) e f))) (av e 0 a λx=>hP x (ad 30) (av e 0 a λbz=>bE .leq 3 bz (ad 4096) λbS=>(xT s K a d bS e f)) (xT s K a d (.bool false) e f))
theorem ahX:c4 4 V6:=c5 []
theorem ayk{P:Program}{f:FuncId}{l:ac X}{h:ae}{U:Nat}(H:aD P true f l h U K):∃v ab Y,K v ab Y:=by obtain⟨v,ab,Y,A,_⟩:=H;exact⟨v,ab,Y,A⟩
theorem Ph{D:ac X->Go.Ax.R (ac X)}{A:Nat}{x y z w B:X}{c:ac X}:qs D A 5 [x,y,z,w,B] c=if A+5<=c.length then D (c.take A++x::y::z::w::B::c.drop (A+5))else .no "fill" := by
 by_cases h:A+5<=c.length
 ·rw[if_pos h,Js (n:=5)  rfl h];simp
 ·rw[if_neg h];show(bif Nat.beq (jq [x,y,z,w,B]) 5 then R.of "fill" (mS [x,y,z,w,B] c A) D else .no "fill - size")=_;rw[tg,if_neg J];rfl
def wP(n:Int):Int:=if 0<=n then min n 8191+1 else 0
def gJ(ci src r c:Int)(es:ac hF):iV:=⟨1,ci,src,0,[],ci,es,r,c,4,wP ci,0⟩
section
variable {s:ao} {h:ae} {U:Nat} {ci src r c:Int} {a:ay Addr} {n cap:Nat} {es:ac hF} {Z:cn} {ax:Nat}
theorem aaq(D : -9223372036854775808<=ci)(B:ci<=9223372036854775807):
  aD Q s 22 [.agg ⟨[(ci:X),.slice a n cap]⟩,(src:X),(r:X),(c:X)] h U (c9 (.agg ⟨fM (gJ ci src r c es) (.slice none 0 0) (.slice a n cap) (.slice none 0 0)⟩) U h):=by
 refine arY ?_;unfold ad7;refine aE ?_;refine⟨λA=>?_,λA=>?_⟩
 ·rw[jo J J];unfold JB;refine bf @Ph ?_;refine⟨?_,aF,J⟩;unfold fM gJ wP
  grind
 ·unfold JB;refine bf @Ph ?_;refine⟨?_,aF,J⟩;unfold fM gJ wP
  grind
theorem ame(D : -9223372036854775808<=ci)(B:ci<=9223372036854775807):
  aD Q s 23 [.agg ⟨[(ci:X),.slice a n cap]⟩,(src:X),(r:X),(c:X)] h U (c9 (.agg ⟨fM (gJ ci src r c es) (.slice none 0 0) (.slice a n cap) (.slice none 0 0)⟩) U h):=by
 refine an0 ?_;unfold abI;have A:IntKind.wrap .i64 (min ci 8191+1)=min ci 8191+1:=jo J J;refine cM @A @Ph ?_;refine⟨?_,aF,J⟩;unfold fM gJ wP
 grind
theorem aiD{x:iV}{w:Int}(H:n3 h U x eu f7 eD)(nn:gP x≠0):
  aD Q s 157 [.agg ⟨fM x eu f7 eD⟩,.slice none 0 0,(w:X)] h U (c9 (.tuple ⟨[.pointer none,.int .i64 0,.int .i64 (gP x)]⟩) U h):=by
 refine Yi ?_;obtain⟨E,I,rfl,_⟩:=id H.d;obtain⟨bM,V,rfl,_⟩:=id H.e;obtain⟨bA,gq,rfl⟩:=id H.c;unfold Pe fM;refine aE ?_;refine(XN    (H.F aF J) ⟨none,0,rfl,λh=>absurd rfl h⟩ aa).cz λh1 P cI A=>?_;have D:yH x [] w=gP x:=by unfold yH;omega
 rw[D];have B:(gP x == 0)=false:=aa
 refine bf @B ?_;exact⟨rfl,aF,J⟩
def zR9:X:=.agg ⟨[.int .i64 0,.int .i64 0,.int .i64 0,.int .i64 0,.slice none 0 0,.slice none 0 0,.slice none 0 0,.int .i64 0,.int .i64 0]⟩
theorem apY{x:iV}{w:Int}(H:n3 h U x eu f7 eD)(V:gP x≠0):
  aD Q s 76 [.agg ⟨fM x eu f7 eD⟩,.slice none 0 0,(w:X)] h U (c9 (.tuple ⟨[zR9,.int .i64 (gP x)]⟩) U h):=by
 refine aeM ?_;obtain⟨E,I,rfl,_⟩:=id H.d;obtain⟨bM,P,rfl,_⟩:=id H.e;obtain⟨bA,gq,rfl⟩:=id H.c;have bH:∀{o aU},aA U h (T (T h U o) (U+1) aU):=aF
 have A:∀{o},u (T (T h U (.cells (fM x (.slice E x.bu.length I) (.slice bM x.es.length P) (.slice bA x.t0 gq)) false)) (U+1) o) U=_:=λ{o}=>(ar J).trans (aR _ _ _);unfold RO;unfold fM at A ⊢;refine bf @A ?_;refine(aiD  (H.F  bH J) V).cz λh1 bg cI B=>?_;have bP:=(cI (U+1) J).trans (aR _ _ _);have D:(gP x == 0)=false:=aa
 refine cM @D @bP ?_;exact⟨rfl,aF,J⟩
theorem Yk{l:ac Int}(E:dg h U v cY l)(D:l.length<1000000)(e:l≠[]):
  aD Q s 88 [v] h U (λr ab Y=>dX ab r cY 1 l U Y/\aA U h ab/\U<=Y):=by
 refine YS ?_;obtain⟨a,cap,rfl,P⟩:=id E;obtain⟨b,aO,V,B,rfl,A⟩:=P e;unfold PB;simp(disch:=omega)only[bk,zO ag1,seval];have I:aA U h (T h U (.cells [] false)):=aF
 rw[jm]at A;refine⟨λaq=>absurd aq (by simp),λ_=>?_⟩;rw[Q0 (zN _) (aR _ _ _) ((I b B).trans A) aa D];refine⟨.inr ⟨U+1,J,J,rfl,?_⟩,aF,J⟩
 grind
theorem apZ{zo g8:X}{A B:Nat->Int}{v2 v3 v4:X}(aq:0<N)(dT:N<=60)(fE:dg h U v2 cY (cx N A))(gh:dg h U v3 cY (cx N B))(bh:∃a n c,v4 = .slice a n c)(aj:∃i j:Int,zo = (i:X)/\g8 = (j:X)):
  aD Q s 80 [.agg ⟨[zo,g8,v2,v3,v4]⟩] h U (λmJ ab Y=>∃v w D,mJ = .tuple ⟨[v,w]⟩/\dX ab v cY 1 (cx N A) U D/\dX ab w cY 1 (cx N B) D Y/\aA U h ab/\U<=D/\D<=Y):=by
 have I:∀A,cx N A≠[]:=λA e=>by have:=i9 N A;rw[e]at this;simp at this;omega
 refine atP ?_;obtain⟨fI,en,rfl,_⟩:=id fE;obtain⟨gr,fT,rfl,_⟩:=id gh;obtain⟨aZ,d9,gd,rfl⟩:=bh;obtain⟨i,j,rfl,rfl⟩:=aj;unfold aeT;refine aE ?_;have bH:∀{o},aA U h (T h U o):=aF
 refine(Yk (fE.F  bH J) (by rw[i9];omega) (I A)).mono ?_;rintro v1 h1 bg ⟨lH,V,P⟩;refine⟨P,?_⟩;have bP:=(V U J).trans (aR _ _ _);have cI:=bH.trans V J;simp(disch:=omega)only[bk,bP,iE,seval];refine(Yk (gh.F  cI J) (by rw[i9];omega) (I B)).mono ?_;rintro v2 ap bU ⟨BL,dM,E⟩;refine⟨E,v1,v2,bg,rfl,?_,BL,aF,J,E⟩;rcases lH with⟨e,_⟩|⟨b,dA,b2,rfl,d2⟩
 ·exact absurd e (I A)
 ·exact .inr ⟨b,J,b2,rfl,(dM b b2).trans d2⟩
end
section
variable {s:ao} {h:ae} {U:Nat} {ci src r c:Int} {a:ay Addr} {cap:Nat} {es:ac hF}
theorem atQ{C ax:Nat}(A:ax<=N+1):ms R C ax+R<=4*(R+C+4)*(N+1+2):=by
 unfold ms;have B:ax*(2*R+C+2)<=(N+1)*(4*(R+C+4)):=sc A J
 grind
theorem awf(H:n3 h U (gJ ci src r c es) (.slice none 0 0) f7 (.slice none 0 0))(nn:gP (gJ ci src r c es)=0)(bw:ci<=30):
  ∃(Z:cn) (ax:Nat),yx h U (gJ ci src r c es) (.slice none 0 0) f7 (.slice none 0 0) Z/\ax<900/\(∀t,t<=ax->(Z.gn t=0↔t<ax))/\Bj Z ax/\∃W:Nat,Dh (gJ ci src r c es) (wP ci)=(W:Int)/\ms Z.R Z.C ax+Z.R<=W/\W<=99999:=by
 have D:=nn;have P:nx 1 ci src 0 [] ci es (wP ci)=0/\(1<=r/\r<=8)/\1<=c/\c<=8:=by
  have key:∀m:Int,jv m 8≠false->1<=m/\m<=8:=λm h=>by
   have:jv m 8=true:=aa
   exact of_decide_eq_true this
  unfold gP gJ at nn
  grind
 obtain⟨P,⟨sF,hr8⟩,yO,D4⟩:=P;have B:iw 1 ci src 0 [] ci es=0:=by unfold nx at P;omega
 have A:gF 1 ci src 0 []=0:=by
  unfold iw at B
  omega
 have V:(0<=ci/\ci<=4096)/\0<=src/\src<=ci-1:=by have V:=A;unfold gF at V;omega
 obtain⟨⟨hg0,_⟩,qJ,hs1⟩:=V;obtain⟨_,_,_,m,ag,_,dV,iH,i4,_⟩:=ayk (Yg  H.d H.e H.l B);obtain⟨N,rfl⟩:∃N:Nat,ci=(N:Int):=⟨ci.toNat,J⟩
 obtain⟨R,rfl⟩:∃R:Nat,r=(R:Int):=⟨r.toNat,J⟩
 obtain⟨C,rfl⟩:∃C:Nat,c=(C:Int):=⟨c.toNat,J⟩
 have br:wP (N:Int)=((N+1:Nat):Int):=by unfold wP;omega
 rw[IL]at iH i4;have K:f8 ⟨1,src,0,N,R,C,N+1,[],ag⟩:=⟨aa,aa,aa,aa,aa,aa,aa,⟨aa,aa⟩,A,i4,λg bd=>(iH g bd).2.2⟩
 obtain⟨ax,I,_,E⟩:=atF ⟨1,src,0,N,R,C,N+1,[],ag⟩;have I:ax<=N+1:=I;refine⟨⟨1,src,0,N,R,C,N+1,[],ag⟩,ax,⟨K,H,⟨none,0,rfl,λh=>absurd rfl h⟩,rfl,(J:0<1000000),D,⟨rfl,rfl,rfl,rfl,rfl,rfl,rfl,br⟩,dV⟩,J,E,awd K rfl ⟨src.toNat,aa,aa⟩ ax,4*(R+C+4)*(N+1+2),?_,?_,?_⟩
 ·unfold Dh;rw[br,if_neg (by rw[lm J];decide),if_neg (λh=>h D)];have e:((4*(R+C+4)*(N+1+2):Nat):Int)=4*((R:Int)+(C:Int)+4)*(((N+1:Nat):Int)+2):=aa
  exact e.symm
 ·exact atQ I
 ·have:4*(R+C+4)*(N+1+2)<=80*33:=sc J J;omega
def ayl(ci src r c:Int)(es:ac hF)(v w:X)(U:Nat)(ab:ae)(Y:Nat):Prop :=
 (gP (gJ ci src r c es)≠0/\v = .slice none 0 0/\w = .slice none 0 0) \/
 (gP (gJ ci src r c es)=0/\∃(Z:cn) (ax Bm:Nat),(Z.k=(gJ ci src r c es).k/\(gJ ci src r c es).n=(Z.N:Int)/\Z.src=(gJ ci src r c es).src/\Z.len=(gJ ci src r c es).len/\Z.bu=(gJ ci src r c es).bu/\(gJ ci src r c es).R=(Z.R:Int)/\(gJ ci src r c es).C=(Z.C:Int)/\(gJ ci src r c es).lim=(Z.lim:Int))/\vg (gJ ci src r c es).k ((gJ ci src r c es).es.map ol) Z.ag/\(∀t,t<=ax->(Z.gn t=0↔t<ax))/\0<Z.N /\
  dX ab v cY 1 (cx Z.N (Z.e3.st ax).A) U Bm/\dX ab w cY 1 (cx Z.N (Z.e3.st ax).B) Bm Y/\U<=Bm/\Bm<=Y)
theorem aym{aB:Type}{h:ae}{enc:aB->ac X}{l:ac aB}{al:Nat}(H:dX h v enc k l al aj)(D:ea<=al):dX h v enc k l ea aj:=by
 rcases H with H|⟨b,E,B,A⟩
 ·exact .inl H
 ·exact .inr ⟨b,J,B,A⟩
theorem acQ(H:n3 h U (gJ ci src r c es) (.slice none 0 0) (.slice a es.length cap) (.slice none 0 0))(h1 : -9223372036854775808<=ci)(ap:ci<=9223372036854775807)(bw:ci<=30\/4096<ci):
  aD Q s 16 [.agg ⟨[(ci:X),.slice a es.length cap]⟩,(src:X),(r:X),(c:X)] h U (λmJ ab Y=>∃v w,mJ = .tuple ⟨[v,w,.int .i64 (gP (gJ ci src r c es))]⟩/\aA U h ab/\U<=Y/\ayl ci src r c es v w U ab Y):=by
 refine awe ?_;unfold agj;refine aE ?_;refine(aaq (es:=es) h1 ap).cz λbP P cI fa=>?_;unfold fM;refine aE ?_;generalize iH:T (T bP P _) P _=g2;have kY:u g2 P=some (.cells (fM (gJ ci src r c es) (.slice none 0 0) (.slice a es.length cap) (.slice none 0 0)) false):=by rw[<-iH,aR];rfl
 have Kh2:aA U h g2:=aF
 have ig:=H.F (Y:=P+1) Kh2 J;refine(akL  ig).cz λdz b1 fr gg=>?_;have nl:=(fr P J).trans kY;have Kh3:aA U h dz:=aF
 have Er:oP (.agg ⟨fM (gJ ci src r c es) (.slice none 0 0) (.slice a es.length cap) (.slice none 0 0)⟩) (.agg ⟨fM (gJ ci src r c es) (.slice none 0 0) (.slice a es.length cap) (.slice none 0 0)⟩)=true:=by unfold fM;simp(disch:=omega)only[bk,iE,seval]
 unfold fM at kY nl Er;refine⟨gg,?_⟩;refine ll @kY @nl @si @Er ?_;have jj:=H.F (Y:=b1) Kh3 J
 by_cases E:gP (gJ ci src r c es)=0
 ·have I:ci<=30:=bw.elim id λh=>absurd E λaq=>by
   unfold gP gJ nx iw gF at aq
   grind
  obtain⟨Z,ax,S,fe,D,B,W,vH,jM,D0⟩:=awf jj E I;have V:0<Z.N:=by
   have aW:ci=(Z.N:Int):=S.z.2.1;unfold gP gJ nx iw gF at E
   grind
  rw[show(gJ ci src r c es).lim=wP ci from rfl,vH];refine(atO  S fe D B jM D0).mono ?_;rintro _ dO d9 ⟨lA,p3,nk,kZ,xH,i6,hn,rfl,⟨dp,fW,fw,hz,fE,gh,gt⟩,hR,A⟩;simp only[Value.agg.injEq,xN,vR,iv]at hz;obtain⟨rfl,rfl,rfl,rfl,rfl⟩:=hz;obtain⟨g8,b8,rfl,_⟩:=id fE;obtain⟨iZ,cN,rfl,_⟩:=id gh;obtain⟨hO,ca,rfl,_⟩:=id gt;refine⟨A,?_⟩;refine aE ?_;have lk:∀{o aU},aA d9 dO (T (T dO d9 o) d9 aU):=aF
  refine(apZ V S.K.n60 (fE.rd.F lk J) (gh.rd.F lk J) ⟨_,_,_,rfl⟩ ⟨_,_,rfl,rfl⟩).mono ?_;rintro _ lE n6 ⟨v,w,Bm,rfl,Eo,zm,vG,mi,qD⟩;refine aE ?_;have A1':=Eo;exact⟨v,w,by rw[E],aF,J,.inr ⟨E,Z,ax,Bm,S.z,S.ag,D,V,aym Eo J,zm,J,J⟩⟩
 ·refine(apY  jj E).cz λdO d9 hR A=>⟨A,?_⟩
  have a1:(gP (gJ ci src r c es) == 0)=false:=aa
  unfold zR9;refine bf @a1 ?_;exact⟨_,_,rfl,aF,J,.inl ⟨E,rfl,rfl⟩⟩
theorem atS(H:n3 h U (gJ ci src r c es) (.slice none 0 0) (.slice a es.length cap) (.slice none 0 0))(D : -9223372036854775808<=ci)(E:ci<=9223372036854775807)(A:ci<=30\/4096<ci):
  aD Q s 16 [.agg ⟨[(ci:X),.slice a es.length cap]⟩,(src:X),(r:X),(c:X)] h U (λB ab Y=>∃v w,B = .tuple ⟨[v,w,.int .i64 (gP (gJ ci src r c es))]⟩/\aA U h ab/\U<=Y):=
 (acQ H D E A).mono λ_ _ _ ⟨v,w,e,k,l,_⟩=>⟨v,w,e,k,l⟩
end
section
variable {s:ao} {h:ae} {U:Nat} {ci m0 m1 m2:Int} {a:ay Addr} {cap:Nat} {es:ac hF}
theorem KI{b:Nat}{t:IntKind}:f0 (.array 3 1) (bb b) (.int t 2) = .ok (.pointer (some ⟨b,2,none⟩)):=rfl
def UY(U:Nat)(h:ae):bZ:=λr ab Y=>r = .bool true/\aA U h ab/\U<=Y
theorem aAu(A:∀(s:ao) (h:ae) (U:Nat),aD Q s 18 [] h U (fs (.bool true) U h))(bK:el h U (.slice a es.length cap) hW es)(h1 : -9223372036854775808<=ci)(ap:ci<=9223372036854775807)
  {D B:Nat} {H:ae} {n:Nat} (bH:aA U h H) (dx:U<=n) (bP:u H D=some (.cells [(ci:X),.slice a es.length cap] false)) (dO:u H B=some (.cells [(m0:X),(m1:X),(m2:X)] false)) (dU:D<n) (kL:B<n) {b:ao}
  (a1:b=false->(ci<=30\/4096<ci)/\(es.length<=60\/65536<es.length)):
  xT s (UY U h) (bb D) (bb B) (.bool b) H n:=by
 unfold xT;cases b with
 |true =>
  refine aE ?_;exact(A s H n).f5 ⟨rfl,bH,dx⟩
 |false =>
  obtain⟨bw,br⟩:=a1 rfl;refine gX @bP @dO @KI ?_;have S:n3 H n (gJ ci m0 m1 m2 es) (.slice none 0 0) (.slice a es.length cap) (.slice none 0 0):=⟨⟨none,0,rfl,λh=>absurd rfl h⟩,bK.F bH dx,⟨none,0,rfl⟩,br⟩
  refine(atS S h1 ap bw).mono ?_;rintro _ aH b1 ⟨v,w,rfl,fr,gg⟩;have aW:=(fr D dU).trans bP;have eE:=(fr B kL).trans dO;refine gX @aW @eE @KI ?_;refine(aaq (es:=es) h1 ap).cz λb0 eN lk ny=>?_;have V:=(lk D J).trans aW;have P:=(lk B J).trans eE;unfold fM;have f1':∀{o aU},u (T (T b0 eN o) eN aU) D=_:=λ{o aU}=>(ar J).trans ((ar J).trans V);have f4':∀{o aU},u (T (T b0 eN o) eN aU) B=_:=λ{o aU}=>(ar J).trans ((ar J).trans P);refine gX @f1' @f4' @KI ?_;generalize fp:T (T b0 eN _) eN _=cj;have vG:aA eN b0 cj:=by rw[<-fp];exact aF
  have aB1:u cj eN=some (.cells (fM (gJ ci m0 m1 m2 es) (.slice none 0 0) (.slice a es.length cap) (.slice none 0 0)) false):=by rw[<-fp,aR];rfl
  replace V:=(vG D J).trans V
  replace P:=(vG B J).trans P
  refine(ame (es:=es) h1 ap).cz λd8 I r8 qD=>?_;unfold fM;refine aE ?_;generalize fp:T (T d8 I _) I _=h8;have VH:aA I d8 h8:=by rw[<-fp];exact aF
  have aB2:u h8 I=some (.cells (fM (gJ ci m0 m1 m2 es) (.slice none 0 0) (.slice a es.length cap) (.slice none 0 0)) false):=by rw[<-fp,aR];rfl
  refine(A s h8 (I+1)).f5 ?_;have E:=aB2;unfold fM at E;refine bf @E ?_;refine(akT  (S.F  aF J)).cz λiG qf M2 ahl=>?_;have aB3:=(M2 I J).trans E;have MQ:=(M2 eN J).trans ((VH eN J).trans ((r8 eN J).trans aB1));unfold fM at MQ
  replace V:=(M2 D J).trans ((VH D J).trans ((r8 D J).trans V))
  replace P:=(M2 B J).trans ((VH B J).trans ((r8 B J).trans P))
  have gx:∀z:Int,(z == z)=true:=aa
  simp(disch:=omega)only[bk,aB3,MQ,V,P,gx,KI,show(gJ ci m0 m1 m2 es).k=1 from rfl,show(gJ ci m0 m1 m2 es).n=ci from rfl,show(gJ ci m0 m1 m2 es).src=m0 from rfl,show(gJ ci m0 m1 m2 es).R=m1 from rfl,show(gJ ci m0 m1 m2 es).C=m2 from rfl,show(gJ ci m0 m1 m2 es).M=4 from rfl,seval];exact⟨rfl,aF,J⟩
theorem aAv(B:∀(s:ao) (h:ae) (U:Nat),aD Q s 18 [] h U (fs (.bool true) U h))(P:el h U (.slice a es.length cap) hW es)(h1 : -9223372036854775808<=ci)(V:ci<=9223372036854775807):
  aD Q s 4 [.agg ⟨[(ci:X),.slice a es.length cap]⟩,.agg ⟨[(m0:X),(m1:X),(m2:X)]⟩] h U (UY U h):=by
 refine ahX ?_;have bH:∀{o aU},aA U h (T (T h U o) (U+1) aU):=aF
 have A:∀{b:ao},(b=false->(ci<=30\/4096<ci)/\(es.length<=60\/65536<es.length))->xT s (UY U h) (bb U) (.pointer (some ⟨U+1,0,none⟩)) (.bool b) (T (T h U (.cells [(ci:X),.slice a es.length cap] false)) (U+1) (.cells [(m0:X),(m1:X),(m2:X)] false)) (U+1+1):=λI =>
  aAu B P h1 V bH J aa (aR _ _ _) J J I
 unfold V6;refine aE ?_;refine⟨λaW=>⟨λD=>A aa,λD=>⟨λE=>A aa,λE=>A J⟩⟩,λaW=>⟨λD=>A aa,λD=>A J⟩⟩
 all_goals grind
end
def HZ:ac X:=[.int .i64 0,.int .i64 1,.int .i64 5,.int .i64 1,.int .i64 2,.int .i64 5]
def UZ:ac X:=[.int .i64 0,.int .i64 1,.int .i64 2,.int .i64 (-1)]
def U0:ac X:=[.int .i64 (-1),.int .i64 0,.int .i64 1,.int .i64 (-1)]
def Lg(h:ae)(b U:Nat):ao:=Nat.blt b U&&(match u h b with|some (.cells cs false)=>oP (.agg ⟨cs⟩) (.agg ⟨HZ⟩)|_=>false)
def ot(args:ac X)(h:ae)(U:Nat)(K:bZ):Prop:=match args with
 | [.agg ⟨[.int .i64 n,.slice (some ⟨b,0,aO⟩) l cap]⟩,.int .i64 src,.int .i64 r,.int .i64 c]=>Bv (ga n 4&&Nat.beq l 2&&Lg h b U)
  (Bool.rec (Bv (ga src 4&&ga r 1&&ga c 1) (K (.tuple ⟨[.slice none 0 0,.slice none 0 0,.int .i64 3]⟩) h U))
   (K (.tuple ⟨[.slice (some ⟨U,0,some 1⟩) 4 4,.slice (some ⟨U+1,0,some 1⟩) 4 4,.int .i64 0]⟩) (T (T h U (.cells UZ false)) (U+1) (.cells U0 false)) (U+1+1)) (ga src 0&&ga r 2&&ga c 2))
 |_=>False
def SI(args:ac X)(h:ae)(U:Nat)(K:bZ):Prop:=match args with
 | [.int .i64 r,.slice (some ⟨b,0,aO⟩) l cap]=>Bv (ga r 1&&Nat.beq l 2&&Lg h b U) (K (.tuple ⟨[.slice (some ⟨U,0,some 3⟩) 2 2,.int .i64 0]⟩) (T h U (.cells HZ false)) (U+1))
 |_=>False
def U1(f:FuncId):ay (ac X->ae->Nat->bZ->Prop):=bif Nat.beq f 16 then some ot else bif Nat.beq f 172 then some SI else none
def lvT(f:FuncId):ac (ac Nat):=match([(19,[[0,1,4,5]]),(51,[[0,1,4,5]]),(81,[[0,1,6,7,8,9]]),(82,[[3,6,7,8],[3,5,6,7,8]]),(84,[[1,2,4,5,12,13],[4,5,6,7],[4,5,6,7,8,44,45,46]]),(85,[[0,1,4,12,13]]),(162,[[0,2,3]]),(167,[[3,11,12,13]]),(255,[[0,1,4,7,8]])]:ac (Nat × ac (ac Nat))).find? λp=>Nat.beq p.1 f with
 |some p=>p.2
 |none=>[]
def aCp(v:X):Prop:=match v with | .bool true=>True|_=>False
@[irreducible] def U2(n m:Nat):Prop:=LH Q lvT U1 n m 18 [] iy 0 (λv _ _=>aCp v)
theorem atT:U2 30 20=True:=by kernel_rfl
def H0:ac GE:=[⟨0,1,5⟩,⟨1,2,5⟩]
theorem acR{h:ae}{b U:Nat}(e:Lg h b U=true):b<U/\u h b=some (.cells HZ false):=by
 unfold Lg at e;simp only[eA]at e;refine⟨IK (by simpa[vU]using e.1) (cR _),?_⟩;have A:=e.2
 split at A
 ·rename_i cs B
  rw[B,Ca (x:=cs) (y:=HZ) A]
 ·cases A
theorem awg{a b:ac GE}(h:a.map df=b.map df):a=b:=List.map_inj_right (λx y h=>aeL h) |>.1 h
theorem aeU{a b:ac GE}(au:(a.map df).Pairwise hN)(h:jp (a.map df) (b.map df)):b=a:=awg (h.unique (jp.self au))
theorem atU{h:ae}{U:Nat}(A:SI args h U K)(s:ao):aD Q s 172 args h U K:=by
 unfold SI at A
 split at A
 ·rename_i r b aO l cap
  obtain⟨e,B⟩:=Ag A;simp only[eA]at e;obtain⟨⟨aW,aP⟩,V⟩:=e;obtain⟨D,bd⟩:=acR V;rw[x7.1 aW,gE aP];have aI:el h U (.slice (some ⟨b,0,aO⟩) 2 cap) kb (H0.map df):=⟨_,_,rfl,λ_=>⟨b,aO,false,[],D,rfl,bd⟩⟩
  have au:(H0.map df).Pairwise hN:=by simp[H0,df,hN]
  refine aD.nf (val:=λb=>.tuple ⟨[.slice (some ⟨b,0,some 3⟩) 2 2,.int .i64 0]⟩) (cs:=HZ) rfl WH ((adW aI (λx A=>?_) (by decide)).mono ?_) B
  ·simp[H0,df]at A;rcases A with rfl|rfl <;> exact⟨rfl,rfl,rfl⟩
  ·rintro _ ab Y ⟨v2,l,rfl,E,dc,bn,I,B⟩;have e:l=H0.map df:=(Zh bn I).unique (jp.self au);subst e;rcases E with⟨e,_⟩|⟨b,P,fH,rfl,D⟩
   ·cases e
   ·exact⟨b,rfl,P,D,B⟩
 ·exact A.elim
def zc:cn:=⟨1,0,0,4,2,2,5,[],[⟨1,0,1⟩,⟨2,1,1⟩]⟩
theorem ayn:zc.gn 0=0:=by kernel_rfl
theorem ayo:zc.gn 1=0:=by kernel_rfl
theorem ayp:zc.gn 2=0:=by kernel_rfl
theorem ayq:zc.gn 3=1:=by kernel_rfl
theorem ayr:a7 cY (cx 4 (zc.e3.st 3).A)=UZ:=by kernel_rfl
theorem ays:a7 cY (cx 4 (zc.e3.st 3).B)=U0:=by kernel_rfl
def GX:ac hF:=[(0,1,5),(1,2,5)]
theorem awh{h:ae}{U:Nat}(aX:ot args h U K)(s:ao):aD Q s 16 args h U K:=by
 unfold ot at aX
 split at aX
 ·rename_i n b aO l cap src r c
  obtain⟨e,E⟩:=Ag aX;simp only[eA]at e;obtain⟨⟨aW,aP⟩,cy⟩:=e;obtain⟨a1,bd⟩:=acR cy;cases x7.1 aW;cases gE aP;have aI:el h U (.slice (some ⟨b,0,aO⟩) 2 cap) hW GX:=⟨_,_,rfl,λ_=>⟨b,aO,false,[],a1,rfl,bd⟩⟩
  have P:∀mA,aD Q mA 16 [.agg ⟨[.int .i64 4,.slice (some ⟨b,0,aO⟩) 2 cap]⟩,(src:X),(r:X),(c:X)] h U _:=λmA=>acQ (es:=GX) (s:=mA) ⟨⟨none,0,rfl,λh=>absurd rfl h⟩,aI,⟨none,0,rfl⟩,.inl (J:2<=60)⟩ J J (.inl J);cases V:(ga src 0&&ga r 2&&ga c 2)with
  |true =>
   rw[V]at E;simp only[eA,x7]at V;obtain⟨⟨rfl,rfl⟩,rfl⟩:=V;refine aD.sl2 (val:=λdA b2=>.tuple ⟨[.slice (some ⟨dA,0,some 1⟩) 4 4,.slice (some ⟨b2,0,some 1⟩) 4 4,.int .i64 0]⟩) (c1:=UZ) (c2:=U0) rfl rfl (λai bo=>aim ai bo) ((P false).mono ?_) E;rintro _ ab Y ⟨v,w,rfl,D,dx,⟨B,_⟩|⟨B,Z,ax,Bm,dc,iz,A,_,Eo,zm,Tg,nA⟩⟩
   ·exact absurd (by kernel_rfl) B
   have aDQ:Z=zc:=by
    obtain⟨k,Vh,len,N,R,C,I,bu,ag⟩:=Z;obtain⟨i5,z2,z3,z4,s1,xG,qd,Is⟩:=dc;have aP:(4:Int)=(N:Int):=z2;have hA:(2:Int)=(R:Int):=xG;have gN:(2:Int)=(C:Int):=qd;have ur:(5:Int)=(I:Int):=Is;have aW:k=1:=i5;have cy:Vh=0:=z3;have eE:len=0:=z4;have ir:bu=[]:=s1;have cK:CX (GX.map ol) ag:=iz;obtain⟨cs,yO,og⟩:=cK;have Bu:cs=[⟨0,1,1⟩,⟨1,2,1⟩]:=aeU (a:=[⟨0,1,1⟩,⟨1,2,1⟩]) (by simp[df,hN]) yO;subst Bu;have zf:ag=[⟨1,0,1⟩,⟨2,1,1⟩]:=aeU (a:=[⟨1,0,1⟩,⟨2,1,1⟩]) (by simp[df,hN]) og;subst zf aW cy eE ir;obtain rfl:N=4:=J
    obtain rfl:R=2:=J
    obtain rfl:C=2:=J
    obtain rfl:I=5:=J
    rfl
   subst aDQ;have fe:ax=3:=by
    rcases iI ax 3 with h1|h1
    ·have:=(A ax (cR _)).1 (by
      obtain rfl|rfl|rfl:ax=0\/ax=1\/ax=2:=J
      ·exact ayn
      ·exact ayo
      ·exact ayp)
     omega
    ·rcases iI 3 ax with ap|ap
     ·have:=(A 3 J).2 ap;rw[ayq]at this;cases this
     ·omega
   subst fe;rw[B];have nS:zc.N=4:=rfl;rw[nS]at Eo zm;rcases Eo with⟨e,_⟩|⟨dA,dU,dL,rfl,dq⟩
   ·cases e
   rcases zm with⟨e,_⟩|⟨b2,jC,kL,rfl,eF⟩
   ·cases e
   rw[ayr]at dq;rw[ays]at eF;exact⟨dA,b2,rfl,dU,J,J,dq,eF,D⟩
  |false =>
   rw[V]at E;obtain⟨eE,E⟩:=Ag E;simp only[eA,x7]at eE;obtain⟨⟨rfl,rfl⟩,rfl⟩:=eE;refine aD.plain (v:=.tuple ⟨[.slice none 0 0,.slice none 0 0,.int .i64 3]⟩) rfl ((P false).mono ?_) E;rintro _ ab Y ⟨v,w,rfl,D,dx,⟨B,rfl,rfl⟩|⟨B,_⟩⟩
   ·exact⟨by rw[show gP (gJ 4 4 1 1 GX)=3 by kernel_rfl],D⟩
   ·rw[show gP (gJ 4 4 1 1 GX)=3 by kernel_rfl]at B;cases B
 ·exact aX.elim
theorem awi{f:FuncId}{g:ac X->ae->Nat->bZ->Prop}(A:U1 f=some g){h:ae}{U:Nat}(E:g args h U K)(s:ao):aD Q s f args h U K:=by
 unfold U1 at A;cases D:Nat.beq f 16 with
 |true =>
  rw[D]at A;cases A;rw[gE D];exact awh E s
 |false =>
  rw[D]at A;cases B:Nat.beq f 172 with
  |true =>
   rw[B]at A;cases A;rw[gE B];exact atU E s
  |false=>rw[B]at A;cases A
theorem atV{n m:Nat}(e:U2 n m):aD Q false 18 [] iy 0 (λv _ _=>v = .bool true):=
 (adi l3 (λf g B args h U K D s=>awi B D s) m false 18 [] iy 0 _ (by unfold U2 at e;exact e)).mono λv _ _ A=>by
  unfold aCp at A
  split at A
  ·rfl
  ·exact A.elim
theorem awj{s:ao}{h:ae}{U:Nat}:aD Q s 18 [] h U (fs (.bool true) U h):=aD.home (b:=true) (atV (of_eq_true atT)) ⟨rfl,rfl,rfl⟩
theorem aAw:Tryz.prog.cellTypes Tryz.prog.depth 24=some [3,22]:=by kernel_rfl
section
variable {H:Type} {enc:TypeId × X->H} {w:World} {aO:Nat->ao}
theorem ajV{r:Reach}{d:DataW H}(A:Value.okWide Tryz.prog w r Bo 24 v)(h:DataW.Trod enc Tryz.prog w 0 aO true 24 v d ce):
  ∃(n:Int) (nf:X) (uv:ac hF),v = .agg ⟨[(n:X),nf]⟩/\AB n/\((uv=[]/\nf = .slice none 0 0)\/∃b off cap,nf = .slice (some ⟨b,off,none⟩) uv.length cap/\Kb w b off (a7 hW uv)):=by
 unfold Value.okWide at A;rw[u24]at A;obtain⟨cs,rfl,jE,ag,iz,_,E⟩:=A;rw[aAw]at iz;cases iz;rw[n24]at jE;obtain⟨l⟩:=cs
 match l,jE with
 | [a,b],_ =>
  obtain⟨V,bD⟩:=h;have bD:DataW.trod enc Tryz.prog w 0 aO true V 24 [a,b]=some (d,ce):=bD;obtain⟨xs',jZ,rfl,_,_,B,I⟩:=DataW.trod_struct u24 bD;have B:xs'.length=2:=B;have D:∀(i:Nat) (P:Field),#[If,Gf][i]? = some P->∃y,DataW.trod enc Tryz.prog w 0 aO true jZ P.type (([a,b].drop P.offset).take (Tryz.prog.cellsOf P.type))=some y:=λi P hfd=>by
   have aj:i<2:=aa
   exact⟨xs'[i]'J,by rw[I i P hfd,qi]⟩
  obtain⟨pf,h9⟩:=D 0 If rfl;obtain⟨i5,gv⟩:=D 1 Gf rfl;rw[show If.type=3 from rfl,show If.offset=0 from rfl,cm]at h9;rw[show Gf.type=22 from rfl,show Gf.offset=1 from rfl,LP]at gv;obtain⟨N,e,_,bV⟩:=DataW.trod_int vF h9;injection e with e _
  subst e;obtain⟨aS,eI,js⟩:=E 1 b rfl;cases eI;obtain⟨uv,_,dc⟩:=aqJ   u22 n52 (λ_=>True) (λn c y cd=>by obtain⟨e,bK,_⟩:=amy axx cd;exact⟨e,bK,trivial⟩) gv js;exact⟨N,b,uv,rfl,bV,dc⟩
theorem u50:Tryz.prog.underlying 39=some (.array 3 3):=by kernel_rfl
theorem TJ:Tryz.prog.cellsOf 39=3:=by kernel_rfl
theorem ajW{r:Reach}{d:DataW H}(A:Value.okWide Tryz.prog w r Bo 39 v)(h:DataW.Trod enc Tryz.prog w 0 aO true 39 v d ce):
  ∃a b c:Int,v = .agg ⟨[(a:X),(b:X),(c:X)]⟩:=by
 unfold Value.okWide at A;rw[u50]at A;obtain⟨cs,rfl,D,_⟩:=A;rw[TJ]at D;obtain⟨l⟩:=cs
 match l,D with
 | [a,b,c],_ =>
  obtain⟨B,I⟩:=h;have I:DataW.trod enc Tryz.prog w 0 aO true B 39 [a,b,c]=some (d,ce):=I;obtain⟨V,n,rfl,_,gT,P,E⟩:=DataW.trod_array u50 I;have get:∀i,i<3->∃y,DataW.trod enc Tryz.prog w 0 aO true n 3 (([a,b,c].drop (i*Tryz.prog.cellsOf 3)).take (Tryz.prog.cellsOf 3))=some y:=λi aj=>by
   have aX:i<V.length:=by rw[P];exact aj
   exact⟨V[i],by rw[E i aj,qi aX]⟩
  obtain⟨cA,aq⟩:=get 0 J;obtain⟨b8,h1⟩:=get 1 J;obtain⟨cN,ap⟩:=get 2 J;rw[cm]at aq h1 ap;obtain⟨x,rfl⟩:=N4 vF aq;obtain⟨y,rfl⟩:=N4 vF h1;obtain⟨z,rfl⟩:=N4 vF ap;exact⟨x,y,z,rfl⟩
end
theorem awk{n a b c:Int}{nf:X}{B:ac hF}{W:World}(E:AB n)(V:(B=[]/\nf = .slice none 0 0)\/∃b A cap,nf = .slice (some ⟨b,A,none⟩) B.length cap/\Kb W b A (a7 hW B)):
  Calls Tryz.prog 4 #[.agg ⟨[(n:X),nf]⟩,.agg ⟨[(a:X),(b:X),(c:X)]⟩] W λe bc=>e = .returned (.bool true)/\Below W.heap.size W bc:=by
 obtain⟨h1,I,D⟩:=aul  (λ_=>rfl) V;obtain⟨a9,cap,e,_⟩:=id D;rw[e]at I D;have P : -9223372036854775808<=n/\n<=9223372036854775807:=by unfold AB at E;simp[Lit.wf,IntKind.min,IntKind.max,IntKind.bits,IntKind.signed]at E;omega
 exact callsIn_wide.1 (aum (n:=0) ((aAv (λ_ _ _=>awj) (el.of D) P.1 P.2).mono λ_ _ _ h=>h.1) (aue h1) (awK _) (.cons (.agg (.cons (.int _ _) (.cons I .nil))) (.cons (.agg (.cons (.int _ _) (.cons (.int _ _) (.cons (.int _ _) .nil)))) .nil)))
end Go.Proofs.YthlhhajnbgjfmaaGreat
