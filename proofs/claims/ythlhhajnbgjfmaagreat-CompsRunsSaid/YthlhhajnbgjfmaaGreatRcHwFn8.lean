/- Parts of the proof: HwFn8: each statement bears its own conditions. -/
import Derived.Test.YthlhhajnbgjfmaaGreatRcHwFn7
namespace Go.Proofs.YthlhhajnbgjfmaaGreat
open Go Go.Ax Go.Ax.HdH
set_option linter.all false
set_option maxHeartbeats 1000000
set_option maxRecDepth 1000000
variable {v:X} {gs:aa GE} {gO aB a3 eR e1 bN aY:X} {q:Nat->al} {R N:aR} {bu:X} {sD sE:Nat} {aC:X} {aj:Nat} {cs:aa GE} {aM:aR} {m:cr} {a2 nx jl z2 z3 z4 yW Bk rQ U8:X} {d6:Nat} {aP:aR}
section
variable {s:al} {h:ae} {U b2 dv dd b n cX gu gk hu:Nat} {room:Int} {f:ev} {p:ku}
structure yK (h:ae) (U b2 dv dd b n cX gu gk hu:Nat) (room:Int) (f:ev):Prop where
 p:u h b2=some (.cells (km room (.slice (some ⟨b,0,some 1⟩) 1 1) dv dd (n+1) n) false)
 r:u h b=some (.cells [(n:X)] false)
 o:iW h dd hO [(n,.int .i64 1,cX)] gk
 m:iW h dv hO [(n,.agg ⟨d8 f⟩,gu)] hu
 oY:b2<U
 ao:dd<U/\dd≠b2
 y0:dv<U/\dv≠b2/\dv≠dd
 bv:b<U/\b≠b2/\b≠dd/\b≠dv
 fT:n<100000
theorem yK.F{ac:ae}{Y:Nat}(B:yK h U b2 dv dd b n cX gu gk hu room f)(A:∀d,d=b2\/d=dd\/d=dv\/d=b->u ac d=u h d)(D:U<=Y):yK ac Y b2 dv dd b n cX gu gk hu room f :=
 ⟨(A _ (.inl rfl)).trans B.p,(A _ (.inr (.inr (.inr rfl)))).trans B.r,B.o.F ab,B.m.F ab,by have:=B.oY;omega,⟨by have:=B.ao;omega,B.ao.2⟩,⟨by have:=B.y0;omega,B.y0.2⟩,⟨by have:=B.bv;omega,B.bv.2⟩,B.fT⟩
structure Bx0 (h:ae) (b2 dv dd b n gk hu lC:Nat) (room:Int):Prop where
 p:u h b2=some (.cells (km room (.slice (some ⟨b,0,some 1⟩) 0 1) dv dd (n+1) lC) false)
 r:u h b=some (.cells [.int .i64 0] false)
 o:u h dd=some (.map [] gk)
 m:u h dv=some (.map [] hu)
theorem asu(B:yK h U b2 dv dd b n cX gu gk hu room f):
  aH Q s 347 [bd b2,.int .i64 0] h U (λr ac Y=>r = .agg ⟨d8 f⟩/\Bx0 ac b2 dv dd b n gk hu n room/\(∀d,d<U->d≠b2->d≠dd->d≠dv->d≠b->u ac d=u h d)/\U<=Y):=by
 refine auP ?_;obtain⟨yU,Mn,aCr,aAX,dQ,P,jz,ly,aAY⟩:=B;have gL:∀{o},u (T h U o) b2=_:=λ{o}=>(aq J).trans yU;have dW:∀{o},u (T h U o) b=_:=λ{o}=>(aq J).trans Mn;have et:∀{o},iW (T h U o) dv hO [(n,.agg ⟨d8 f⟩,gu)] hu:=λ{o}=>aAX.F ab;have aV:=λo=>wp (q0 nm) (et (o:=o)) (k:=n) (z:=.agg #[(.int .i64 0),(.int .i64 0),(.int .i64 0),(.int .i64 0),(.int .i64 0),(.int .i64 0),(.slice none 0 0),(.slice none 0 0),(.slice none 0 0),(.int .i64 0),(.bool false)]) (ok:=false);rw[show iq [(n,Value.agg ⟨d8 f⟩,gu)] n=some (.agg ⟨d8 f⟩)from by rw[xx];grind,show hO n = (n:X)from rfl]at aV
 replace aV:=λo=>(aV o).trans (show _=R.ok (Value.agg ⟨d8 f⟩)from rfl)
 unfold km at gL;unfold afs;refine Q3 @gL @dW @aV ?_;unfold d8;refine l5 @gL ?_;refine(auT (n:=n) ab).mono ?_;rintro _ _ _ ⟨rfl,rfl,rfl⟩;generalize kt:T (T (T h U _) (U+1) _) (U+1) _=G;have aCs:∀d,d<U->u G d=u h d:=ab
 have U9:=aS (T (T h U (.cells [(.int .i64 0),(.int .i64 0),(.int .i64 0),(.int .i64 0),(.int .i64 0),(.int .i64 0),(.slice none 0 0),(.slice none 0 0),(.slice none 0 0),(.int .i64 0),(.bool false)] false)) (U+1) (.cells [(.int .i64 0),(.int .i64 0),(.int .i64 0),(.int .i64 0),(.int .i64 0),(.int .i64 0),(.slice none 0 0),(.slice none 0 0),(.slice none 0 0),(.int .i64 0),(.bool false)] false)) (U+1) (.cells (d8 f) false);have gN0:u G U=some (.cells [(.int .i64 0),(.int .i64 0),(.int .i64 0),(.int .i64 0),(.int .i64 0),(.int .i64 0),(.slice none 0 0),(.slice none 0 0),(.slice none 0 0),(.int .i64 0),(.bool false)] false):=ab
 replace U9:u G (U+1)=some (.cells (d8 f) false):=by rw[<-kt];exact U9
 have cp:∀{o},u (T G b o) b2=_:=λ{o}=>(aq J).trans ((aCs b2 dQ).trans yU);unfold km at cp;refine l5 @cp ?_;generalize fJ:T (T G b _) b2 _=H;have K:∀d,d≠b->d≠b2->u H d=u G d:=ab
 have A:u H b2=some (.cells (km room (.slice (some ⟨b,0,some 1⟩) 0 1) dv dd (n+1) n) false):=by rw[<-fJ,aS];rfl
 have Va:iW H dd hO [(n,.int .i64 1,cX)] gk:=aCr.F ab;have aCt:iW H dv hO [(n,.agg ⟨d8 f⟩,gu)] hu:=aAX.F ab;have aP:=wp (q0 nm) Va (k:=n) (z:=.int .i64 0) (ok:=false);rw[show iq [(n,Value.int .i64 1,cX)] n=some (.int .i64 1)from by rw[xx];grind,show hO n = (n:X)from rfl]at aP
 replace aP:=aP.trans (show _=R.ok (Value.int .i64 1)from rfl)
 have ch:=avT (x:=.int .i64 0) (q0 nm) Va;rw[show hO n = (n:X)from rfl]at ch;unfold km at A;simp(disch:=omega)only[bn,↓reduceIte,Nat.reduceAdd,Nat.reduceSub,Nat.reduceMul,Nat.reduceLT,Nat.reduceLeDiff,Nat.reduceEqDiff,Int.reduceBEq,Int.reduceLT,Int.reduceNeg,A,aP,ch,show IntKind.wrap .i64 ((1:Int)-1)=0 from rfl];have hPm:∀{o},u (T H dd o) b2=_:=λ{o}=>(aq (kw P.2)).trans A;have I:iW (T H dd (.map (lf hO [(n,.int .i64 0,cX)]) gk)) dd hO [(n,.int .i64 0,cX)] gk:=⟨ab,ab,λe bE=>by rw[iP.1 bE];exact Va.lt (n,.int .i64 1,cX) ab,ab⟩
 have V:=wp (q0 nm) I (k:=n) (z:=.int .i64 0) (ok:=false);rw[show iq [(n,Value.int .i64 0,cX)] n=some (.int .i64 0)from by rw[xx];grind,show hO n = (n:X)from rfl]at V
 replace V:=V.trans (show _=R.ok (Value.int .i64 0)from rfl)
 have gz:=λr=>afu (U:=U+1+1) (rest:=r) awZ (q0 nm) I;rw[show hO n = (n:X)from rfl]at gz;have mB':∀{o aX},iW (T (T H dd o) dd aX) dv hO [(n,.agg ⟨d8 f⟩,gu)] hu:=λ{o aX}=>aCt.F ab;have ik:=λr o aX=>afu (U:=U+1+1) (rest:=r) aw0 (q0 nm) (mB' (o:=o) (aX:=aX));rw[show hO n = (n:X)from rfl]at ik;have D:∀{o aX},u (T (T H dd o) dd aX) b2=_:=λ{o aX}=>(aq (kw P.2)).trans ((aq (kw P.2)).trans A);simp(disch:=omega)only[bn,↓reduceIte,Nat.reduceAdd,Nat.reduceSub,Nat.reduceMul,Nat.reduceLT,Nat.reduceLeDiff,Nat.reduceEqDiff,Int.reduceBEq,Int.reduceLT,Int.reduceNeg,hPm,V,gz,D,ik,dX];have E:=(K (U+1) J J).trans U9;have gN2:=(K U J J).trans gN0;unfold d8 at E;refine te @E @gN2 ?_;refine⟨⟨?_,?_,?_,?_⟩,ab,J⟩
 ·rw[aq J,aq (kw jz.2.1),aq (kw P.2),aq (kw P.2)];exact A
 all_goals grind
theorem aoM{g:ae}(B:yK h U b2 dv dd b n cX gu gk hu room f)(G:kU g h)(c6:∀d,d=b2\/d=dd\/d=dv\/d=b\/U<=d->u g d=none)(bK:mF g U f p)(aL:f.hE=(n:Int))(cF:p.lU.length<10000)(eE:p.nw.length<10000):
  aH Q s 243 [bd b2,.int .i64 0] h U (λr ac Y=>∃K,r = .tuple ⟨[.agg ⟨d8 K⟩,.bool true,.int .i64 0]⟩/\lo ac U Y K p/\Bx0 ac b2 dv dd b n gk hu (n+1) room/\(∀d,d<U->d≠b2->d≠dd->d≠dv->d≠b->u ac d=u h d)/\U<=Y):=by
 refine asn ?_;obtain⟨aC1,aC2,aC3,hE,e9,qI,bu,n6,hG,ba,n7,i2,bx,n8,g3,fn,aAr⟩:=f;have aL:hE=(n:Int):=aL;subst aL;have dQ:=B.oY;have dB:=B.ao;have jz:=B.y0;have ly:=B.bv;have aAY:=B.fT;have I:∀{o},yK (T h U o) (U+1) b2 dv dd b n cX gu gk hu room _:=λ{o}=>B.F ab J;have gL:=λo=>(I (o:=o)).p;have dW:=λo=>(I (o:=o)).r;unfold km at gL;unfold ad5;refine aF ?_;refine(auR (k:=0) I.p J).fR ?_;simp(disch:=omega)only[bn,gL,dW,Int.lt_irrefl,decide_false,seval];unfold ON;refine aF ?_;refine(asu I).mono ?_;rintro _ P E ⟨rfl,C,V,dR⟩;have g0:u P U=_:=(V U J J J J J).trans (aS _ _ _);have hw:∀{o aX},u (T (T P E o) E aX) b2=_:=λ{o aX}=>(aq J).trans ((aq J).trans C.p);unfold km at hw;unfold d8;simp(disch:=omega)only[bn,hw,Int.lt_irrefl,decide_false,seval];have jy:IntKind.wrap .i64 ((n:Int)+1)=((n+1:Nat):Int):=cG J;refine bg @jy ?_;generalize kt:T (T (T P E _) E _) b2 _=H;have D:∀d,d≠b2->d≠E->u H d=u P d:=ab
 have DO:u H b2=some (.cells (km room (.slice (some ⟨b,0,some 1⟩) 0 1) dv dd (n+1) (n+1)) false):=by rw[<-kt,aS];rfl
 have S:kU g H:=λd o bp=>by
  have bH:¬(d=b2\/d=dd\/d=dv\/d=b\/U<=d):=ab
  rw[D d J J,V d J J J J J,aq J];exact G d o bp
 refine(ab3  ((bK.sub S).F  aK J) cF eE).mono ?_;rintro _ bB bX ⟨K,rfl,hx3,ed,A,eZ⟩;have dt:u bB U=_:=(A U J).trans ((D U J J).trans g0);unfold d8;refine bg @dt ?_;refine⟨K,rfl,ed.F ab J J,⟨?_,?_,?_,?_⟩,λd aV aP ch e6 gz=>?_,J⟩
 ·rw[aq J,A b2 J];omega
 ·rw[aq J,A b J,D b ly.2.1 J];exact C.r
 ·rw[aq J,A dd J,D dd dB.2 J];exact C.o
 ·rw[aq J,A dv J,D dv jz.2.1 J];exact C.m
 ·rw[aq J,A d J,D d aP J,V d J aP ch e6 gz,aq J]
theorem aiZ(B:yK h U b2 dv dd b n cX gu gk hu room f):aH Q s 147 [bd b2] h U (dC (.int .i64 0) U h):=by refine ak6 ?_;have K:=B.oY;have I:=B.bv;have E:=B.p;refine(FL B.p).fR ?_;refine l5 @E ?_;refine⟨λh=>absurd h (by decide),λ_=>?_⟩;refine(auU B.r).fR ?_;have A:∀{o aX},u (T (T h U o) U aX) b2=_:=λ{o aX}=>(aq J).trans ((aq J).trans E);have D:∀{o},u (T h U o) b2=_:=λ{o}=>(aq J).trans E;refine te @A @D ?_;refine(auV  ((aq J).trans ((aq J).trans B.r)) ab).fR ?_;exact⟨rfl,aK,J⟩
end
def wT(own:Nat->Nat)(eb:Nat)(room:Int)(h:ae)(U b2 n:Nat):Prop:=∃dv dd rw dq cX gu,u h b2=some (.cells (km room rw dv dd n n) false)/\KX h rw dq/\u h dd=some (.map [] cX)/\u h dv=some (.map [] gu)/\b2<U/\(dd<U/\dd≠b2)/\(dv<U/\dv≠b2/\dv≠dd)/\(∀b,dq=some b->b<U/\b≠b2/\b≠dd/\b≠dv)/\own b2=eb/\own dd=eb/\own dv=eb/\∀b,dq=some b->own b=eb
def tN(own:Nat->Nat)(eb:Nat)(room:Int)(g h:ae)(U b2 n:Nat)(p:ku):Prop:=∃dv dd b cX gu gk hu f,yK h U b2 dv dd b n cX gu gk hu room f/\sB g 0 U f p/\f.hE=(n:Int)/\own b2=eb/\own dd=eb/\own dv=eb/\own b=eb
theorem lo.frN{h:ae}{ao:Nat}{f:ev}{p:ku}(H:lo h ao aj f p):sB h ao aj f p:=⟨H.is.kind,H.is.e9,H.is.lI,H.is.round,H.is.lW,H.hG.gr,H.i2.gr,H.is.n8,H.is.n,H.is.nW⟩
section
variable {s:al} {g b8 h ac:ae} {U Y b2 n eb f2:Nat} {room:Int} {own da:Nat->Nat} {p:ku} {f:ev}
theorem wT.send(E:wT own eb room h U b2 n)(w9:eb≠0)(B:1<=room)(P:n<100000)(bK:mF h U f p)(cF:p.lU.length<10000)(eE:p.nw.length<10000):
  aH Q s 238 [bd b2,.agg ⟨d8 f⟩] h U (λr ac Y=>r = .int .i64 0/\∃da b8,tN da eb room b8 ac Y b2 n p/\je da ac Y b8/\DQ eb own da h ac U Y):=by
 obtain⟨dv,dd,rw,dq,cX,gu,dE,b4,dZ,fA,f8,V,yV,aAZ,eX,dO,fZ,lr⟩:=E;refine(aoL dE f8 B b4 aAZ dZ fA V yV P bK cF eE).mono ?_;rintro _ ac Y ⟨rfl,A,ks,m,c1,c2,ci,hF,vo,hG,i2,g3,qM,I⟩;obtain⟨da,b8,fU,D,qC,md⟩:=v0 (eb:=eb) (own:=own) (h:=h) (ac:=ac) (U:=U) (Y:=Y) (some A) none J ab;have K:da A=eb:=by
  rcases ci with e|⟨aV,aP⟩
  ·exact(D.dV A ab).trans ab
  grind
 have lb':A<Y/\A≠b2/\A≠dd/\A≠dv/\(A<U\/m<=A):=ab
 exact⟨rfl,da,b8,⟨dv,dd,A,cX,gu,cX+1,gu+1,ks,⟨c1,c2,hF,vo,J,J,J,J,P⟩,i2.frN.F (fU.new I ab) J I,hG,(D.dV b2 f8).trans eX,(D.dV dd V.1).trans dO,(D.dV dv yV.1).trans fZ,K⟩,fU,D⟩
theorem tN.take(B:tN own eb room g h U b2 n p)(A:je own h U g)(E:eb≠0)(cF:p.lU.length<10000)(eE:p.nw.length<10000):
  aH Q s 243 [bd b2,.int .i64 0] h U (λr ac Y=>∃I,r = .tuple ⟨[.agg ⟨d8 I⟩,.bool true,.int .i64 0]⟩/\lo ac U Y I p/\∃da b8,wT da eb room ac Y b2 (n+1)/\je da ac Y b8/\DQ eb own da h ac U Y):=by
 obtain⟨dv,dd,b,cX,gu,gk,hu,f,B,bK,aL,eX,dO,fZ,P⟩:=B;refine(aoM B A.sub (λd V=>?_) bK.is aL cF eE).mono ?_
 ·rcases V with rfl|rfl|rfl|rfl|V
  ·exact A.Dh eX E
  ·exact A.Dh dO E
  ·exact A.Dh fZ E
  ·exact A.Dh P E
  ·rw[A d,if_neg J]
 ·rintro _ ac Y ⟨I,rfl,ed,C,hk,K⟩;obtain⟨da,b8,fU,D,_,_⟩:=v0 (eb:=eb) (own:=own) (h:=h) (ac:=ac)   none none K ab;have dQ:=B.oY;have dB:=B.ao;have jz:=B.y0;have ly:=B.bv;exact⟨I,rfl,ed,da,b8,⟨dv,dd,_,some b,gk,hu,C.p,.inr ⟨b,_,rfl,rfl,C.r⟩,C.o,C.m,J,J,J,ab,(D.dV b2 dQ).trans eX,(D.dV dd dB.1).trans dO,(D.dV dv jz.1).trans fZ,λcd e=>by cases e;exact(D.dV b ly.1).trans P⟩,fU,D⟩
theorem wT.len(E:wT own eb room h U b2 n):aH Q s 145 [bd b2] h U (fo (.int .i64 0) U h):=by
 obtain⟨dv,dd,rw,D,cX,gu,A,B,_⟩:=E;rcases B with⟨rfl,_⟩|⟨b,w,_,rfl,_⟩
 ·exact FL A
 ·exact FL A
theorem tN.len(B:tN own eb room g h U b2 n p):aH Q s 145 [bd b2] h U (fo (.int .i64 1) U h):=by obtain⟨dv,dd,b,cX,gu,gk,hu,f,B,_⟩:=B;exact FL B.p
theorem tN.auW(B:tN own eb room g h U b2 n p):aH Q s 147 [bd b2] h U (dC (.int .i64 0) U h):=by obtain⟨dv,dd,b,cX,gu,gk,hu,f,B,_⟩:=B;exact aiZ B
theorem wT.other(E:wT own eb room h U b2 n)(D:U<=Y)(same:∀d,d<U->own d=eb->u ac d=u h d)(B:∀d,d<U->da d=own d):wT da eb room ac Y b2 n:=by
 obtain⟨dv,dd,rw,I,cX,gu,V,P,dZ,fA,f8,HX,yV,aAZ,eX,dO,fZ,lr⟩:=E;refine⟨dv,dd,rw,I,cX,gu,ab,?_,ab,ab,J,J,J,ab,ab,ab,ab,ab⟩;rcases P with q|⟨b,w,A,K,gt⟩
 ·exact .inl q
 ·exact .inr ⟨b,w,A,K,ab⟩
theorem tN.other(B:tN own eb room g h U b2 n p)(A:U<=Y)(same:∀d,d<U->own d=eb->u ac d=u h d)(E:∀d,d<U->da d=own d)(D:aA U g b8):tN da eb room b8 ac Y b2 n p:=by
 obtain⟨dv,dd,b,cX,gu,gk,hu,f,B,P,K,eX,dO,fZ,V⟩:=B;have dQ:=B.oY;have dB:=B.ao;have jz:=B.y0;have ly:=B.bv;refine⟨dv,dd,b,cX,gu,gk,hu,f,B.F (λd bp=>?_) A,P.F (λd _ I=>D d I) J A,K,ab,ab,ab,ab⟩
 grind
end
section
variable {s:al} {g h:ae} {U aI i j ao av t:Nat} {c:Nat->X} {l:aa ev} {aU so:aw Nat} {Z:b5} {own:Nat->Nat} {x:f6} {bt b0 cw:Nat} {C:Nat}
theorem ak8(W:eW h U aI c i j C [] aU):aH Q s 61 [bd aI] h U (λr ac Y=>(∃v,r = .tuple ⟨[.agg ⟨d8 v⟩,.bool false]⟩)/\aA U h ac/\U<=Y):=by
 refine abP ?_;have D:∀{o},aA U h (T h U o):=aK
 have A:∀{o},eW (T h U o) (U+1) aI c i j C [] aU:=λ{o}=>W.F (λd B=>D d (B.elim (λe=>e ▸ W.lt) λe=>(W.aU d e).2)) J;unfold QN;refine aF ?_;refine(OJ A).fR ?_;have au:(((([]:aa ev).length:Nat):Int) == 0)=true:=rfl;refine bg @au ?_;exact⟨⟨⟨0,0,0,0,0,0,none,0,0,none,0,0,none,0,0,0,false⟩,rfl⟩,aK,J⟩
def A3(Z:b5)(av:Nat):Prop:=∀t,t<=av->U5 Z t/\∀v y,v<Z.N->Z.eT.x t v=some y->0<=y/\y<=er
theorem jt.cO{f:ev}(K:fV Z)(R:jt Z av x i j own g h U aI c l aU so bt b0 cw)(A:je own h U g)(E:mL Z.R Z.C av x m)(I:m.dst Z.C=i*Z.C+j)(V:j<Z.C)(eF:av<900)(D:∀t,t<=av->(Z.fY t=0↔t<av))(B:A3 Z av)(P:lo h ao U f (pA Z m))(bb:(x.out (i*Z.C+j)).length<800):
  aH Q s 63 [bd aI,.agg ⟨d8 f⟩] h U (DW Z av x m i j own h U aI bt b0 cw):=by
 have sr:=E;cases m with
 |share dJ oh t =>
  have I:oh=i*Z.C+j:=I;obtain⟨rfl,rfl⟩:=s5  (i:=0)  (aG:=i)  J E.2.1 V;exact R.share K A E eF P bb
 |spread aG oh t =>
  obtain⟨rfl,rfl⟩:=s5      I E.2.1 V;exact R.spread K A E eF (B t E.2.2.2).2 P bb
 |dw aG oh t =>
  have I:aG*Z.C=i*Z.C+j:=I;obtain⟨rfl,rfl⟩:=s5      J K.hw V;obtain⟨_,_,_,aV,_,aP,_⟩:=E;exact R.dw K A sr eF D (B t aP).1 P bb
 |dx aG t =>
  have I:0=i*Z.C+j:=I;obtain⟨rfl,rfl⟩:=s5  (i:=0)  (aG:=i)  J K.hw V;exact R.dx K A E eF D P bb
 |order aG t =>
  have I:aG*Z.C=i*Z.C+j:=I;obtain⟨rfl,rfl⟩:=s5      J K.hw V;exact R.order K A E eF D P bb
end
def r8(p:Nat):aa X:=[bd p]
structure yL where
 aB:aw Addr
 bh:Nat
 c1:Nat
 a2:aw Addr
 bX:Nat
 c2:Nat
 a3:aw Addr
 bS:Nat
 ci:Nat
def GH(N:Nat)(v:yL):aa X:=[.int .i64 0,(N:X),.slice v.aB v.bh v.c1,.slice v.a2 v.bX v.c2,.slice v.a3 v.bS v.ci]
def fM(a:Nat->X)(N R C:Nat)(room:Int)(ws:X)(pm:Nat)(os ap:X):aa X:=[a 0,(N:X),a 2,a 3,a 4,a 5,a 6,(R:X),(C:X),(room:X),a 10,a 11,ws,.map (some pm),os,ap]
def b5.G(Z:b5):Nat:=Z.R*Z.C+1
abbrev iO:=Fin 64 × Fin 64
def ps(k:iO):X:=.agg ⟨[(k.1.val:X),(k.2.val:X)]⟩
def nn(Z:b5)(k:iO):Nat:=Z.R*Z.C+2+(k.1.val*64+k.2.val)
variable {M:aa (iO × X × Nat)}
theorem asv{Z:b5}{k A:iO}(h:nn Z k=nn Z A):k=A:=by
 obtain⟨⟨a,K⟩,⟨b,E⟩⟩:=k;obtain⟨⟨P,B⟩,⟨I,D⟩⟩:=A;unfold nn at h
 grind
section
variable {s:al} {g b8 h ac:ae} {U Y:Nat} {Z:b5} {own da:Nat->Nat} {x f4:f6} {room:Int} {av L dc db cj pm:Nat} {aI:Nat->Nat} {cI oX:Nat->Nat->aa cr}
structure wU (Z:b5) (room:Int) (L:Nat) (aI:Nat->Nat) (cj pm:Nat) (own:Nat->Nat) (g h:ae) (U:Nat) (a:Nat->X) (ws os ap:X) (l:aa yL) (fN eQ f7:aw Nat):Prop where
 at_:u h cj=some (.cells (fM a Z.N Z.R Z.C room ws pm os ap) false)
 ws:gP h r8 ws ((List.range (Z.R*Z.C)).map aI) fN
 os:gP h r8 os ((List.range Z.R).map λi=>aI (i*Z.C)) eQ
 ap:fQ h (GH Z.N) 5 ap l f7
 b:∀b,f7=some b->b<U/\own b=Z.G/\b≠cj/\b≠pm
 lP:∀b,fN=some b->b<U/\own b=Z.G/\b≠cj/\b≠pm/\f7≠some b
 dq:∀b,eQ=some b->b<U/\own b=Z.G/\b≠cj/\b≠pm/\f7≠some b
 L:l.length=L
 st:∀(t:Nat) (v:yL),l[t]? = some v->ja g U (.agg ⟨GH Z.N v⟩) 0 Z.N (Z.eT.st t)
 p:cj<U/\own cj=Z.G
 m:pm<U/\own pm=Z.G/\pm≠cj
theorem wU.other{a:Nat->X}{ws os ap:X}{l:aa yL}{fN eQ f7:aw Nat}(H:wU Z room L aI cj pm own g h U a ws os ap l fN eQ f7)(E:U<=Y)(same:∀d,d<U->own d=Z.G->d≠pm->u ac d=u h d)(A:∀d,d<U->da d=own d)(I:aA U g b8):wU Z room L aI cj pm da b8 ac Y a ws os ap l fN eQ f7 where
 at_:=(same cj H.p.1 H.p.2 (kw H.m.2.2)).trans H.at_
 ws:=H.ws.F λb e=>by obtain⟨D,aP,_,B,_⟩:=H.lP b e;grind
 os:=H.os.F λb e=>by obtain⟨D,aP,_,B,_⟩:=H.dq b e;grind
 ap:=H.ap.F λb e=>by obtain⟨D,aP,_,B⟩:=H.b b e;grind
 b:=λb e=>by obtain⟨D,aP,B⟩:=H.b b e;grind
 lP:=λb e=>by obtain⟨D,aP,B⟩:=H.lP b e;grind
 dq:=λb e=>by obtain⟨D,aP,B⟩:=H.dq b e;grind
 L:=H.L
 st:=λt v e=>ja.F (H.st t v e) I E
 p:=⟨by have:=H.p.1;omega,(A cj H.p.1).trans H.p.2⟩
 m:=⟨by have:=H.m.1;omega,(A pm H.m.1).trans H.m.2.1,H.m.2.2⟩
theorem wU.wr{a:Nat->X}{ws os ap:X}{l:aa yL}{fN eQ f7:aw Nat}(H:wU Z room L aI cj pm own g h U a ws os ap l fN eQ f7):cN h U ws r8 ((List.range (Z.R*Z.C)).map aI):=(H.ws.gr (ao:=0)  λc e=>⟨J,(H.lP c e).1⟩).rd
theorem wU.or{a:Nat->X}{ws os ap:X}{l:aa yL}{fN eQ f7:aw Nat}(H:wU Z room L aI cj pm own g h U a ws os ap l fN eQ f7):cN h U os r8 ((List.range Z.R).map λi=>aI (i*Z.C)):=(H.os.gr (ao:=0)  λc e=>⟨J,(H.dq c e).1⟩).rd
def wV(Z:b5)(room:Int)(cI:Nat->Nat->aa cr)(dc db:Nat)(own:Nat->Nat)(g h:ae)(U:Nat)(k:iO)(b2:Nat):Prop :=
 (cI k.1.val k.2.val=[]/\∃n,n<=dc/\wT own (nn Z k) room h U b2 n)\/∃m n,cI k.1.val k.2.val=[m]/\n<=db/\tN own (nn Z k) room g h U b2 n (pA Z m)
theorem wV.other{k:iO}{b2 sD sE:Nat}(B:wV Z room cI dc db own g h U k b2)(D:U<=Y)(same:∀d,d<U->own d=nn Z k->u ac d=u h d)(A:∀d,d<U->da d=own d)(I:aA U g b8)(e:oX k.1.val k.2.val=cI k.1.val k.2.val)(h1:dc<=sD)(V:db<=sE):wV Z room oX sD sE da b8 ac Y k b2:=by
 rcases B with⟨K,n,P,E⟩|⟨m,n,K,P,E⟩
 ·exact .inl ⟨ab,n,J,E.other D same A⟩
 ·exact .inr ⟨m,n,ab,J,E.other D same A I⟩
structure A4 (Z:b5) (room:Int) (pm:Nat) (cI:Nat->Nat->aa cr) (dc db:Nat) (own:Nat->Nat) (g h:ae) (U:Nat) (M:aa (iO × X × Nat)) (c:Nat):Prop where
 m:iW h pm ps M c
 get:∀k v,iq M k=some v->k.1.val<Z.R*Z.C/\k.2.val<Z.R*Z.C/\∃b2,v = (bd b2)/\wV Z room cI dc db own g h U k b2
 has:∀a b,cI a b≠[]->∃k:iO,k.1.val=a/\k.2.val=b/\iq M k≠none
theorem A4.other{M:aa (iO × X × Nat)}{c sD sE:Nat}(B:A4 Z room pm cI dc db own g h U M c)(P:pm<U/\own pm=Z.G)(D:U<=Y)(same:∀d,d<U->Z.G<=own d->u ac d=u h d)(A:∀d,d<U->da d=own d)(I:aA U g b8)(h1:dc<=sD)(V:db<=sE):A4 Z room pm cI sD sE da b8 ac Y M c where
 m:=B.m.F ab
 get:=λk v e=>by obtain⟨aV,aP,b2,K,E⟩:=B.get k v e;refine⟨aV,aP,b2,K,E.other D (λd fr fG=>same d fr ?_) A I rfl h1 V⟩;unfold nn at fG;unfold b5.G;omega
 has:=B.has
structure ih (Z:b5) (room:Int) (av:Nat) (aI:Nat->Nat) (cj pm a0:Nat) (au:ae) (x:f6) (cI:Nat->Nat->aa cr) (dc db L:Nat) (own:Nat->Nat) (g h:ae) (U:Nat):Prop where
 oo:je own h U g
 du:∀i j,i<Z.R->j<Z.C->∃c l aU so bt b0 cw,jt Z av x i j own g h U (aI (i*Z.C+j)) c l aU so bt b0 cw
 hU:∃a ws os ap l fN eQ f7,wU Z room L aI cj pm own g h U a ws os ap l fN eQ f7
 pS:∃M c,A4 Z room pm cI dc db own g h U M c
 gQ:a0<=U
 hS:∀d,d<a0->own d=0/\u h d=u au d
theorem ih.still{a0:Nat}{au:ae}(H:ih Z room av aI cj pm a0 au x cI dc db L own g h U)(I:aA U h ac)(A:U<=Y):∃da b8,ih Z room av aI cj pm a0 au x cI dc db L da b8 ac Y/\(∀d,d<U->da d=own d)/\aA U g b8/\∀d,U<=d->da d=0:=by
 obtain⟨da,b8,P,D,_,cZ⟩:=v0 (eb:=Z.G)      none none A λd h1 _=>I d h1;have K:=H.oo.F P D (Nat.succ_ne_zero _);obtain⟨a,ws,os,ap,l,fN,eQ,f7,G⟩:=H.hU;obtain⟨M,c,B⟩:=H.pS;refine⟨da,b8,⟨P,λi j aj b1=>?_,⟨a,ws,os,ap,l,fN,eQ,f7,G.other A (λd E _ _=>I d E) D.dV K⟩,⟨M,c,B.other ⟨G.m.1,G.m.2.1⟩ A (λd E _=>I d E) D.dV K J J⟩,hy H.gQ A,λd V=>?_⟩,D.dV,K,ab⟩
 ·obtain⟨c,l,aU,so,bt,b0,cw,R⟩:=H.du i j aj b1;have:=ph aj b1;exact⟨c,l,aU,so,bt,b0,cw,R.other A (λd E _=>I d E) D.dV (show i*Z.C+j+1≠Z.G by unfold b5.G;omega) K rfl rfl ab ab ab⟩
 ·have:=H.gQ;exact⟨(D.dV d J).trans (H.hS d V).1,(I d J).trans (H.hS d V).2⟩
theorem ih.work{a0 i j:Nat}{au:ae}(H:ih Z room av aI cj pm a0 au x cI dc db L own g h U)(aj:i<Z.R)(b1:j<Z.C)(fU:je da ac Y b8)(I:U<=Y)(same:∀d,d<U->own d≠i*Z.C+j+1->u ac d=u h d)(E:∀d,d<U->da d=own d)(fs:aA U g b8)
  (bV:∃c l aU so bt b0 cw,jt Z av f4 i j da b8 ac Y (aI (i*Z.C+j)) c l aU so bt b0 cw)
  (eU:∀A D,A*Z.C+D≠i*Z.C+j->f4.q A D=x.q A D/\f4.out (A*Z.C+D)=x.out (A*Z.C+D)/\(A=0->f4.P D=x.P D/\f4.e3 D=x.e3 D)/\(D=0->f4.a A=x.a A/\f4.w A=x.w A/\f4.dP A=x.dP A)/\(A=0->D=0->f4.V=x.V/\f4.fL=x.fL)):
  ih Z room av aI cj pm a0 au f4 cI dc db L da b8 ac Y:=by
 obtain⟨a,ws,os,ap,l,fN,eQ,f7,G⟩:=H.hU;obtain⟨M,c,B⟩:=H.pS;have cA:=ph aj b1;have kt:Z.G=Z.R*Z.C+1:=rfl;refine⟨fU,λA D V K=>?_,⟨a,ws,os,ap,l,fN,eQ,f7,G.other I (λd P fG _=>same d P J) E fs⟩,⟨M,c,B.other ⟨G.m.1,G.m.2.1⟩ I (λd P fG=>same d P J) E fs J J⟩,hy H.gQ I,λd bp=>?_⟩
 ·by_cases e:A*Z.C+D=i*Z.C+j
  ·obtain⟨rfl,rfl⟩:=s5 e K b1;exact bV
  ·obtain⟨c,l,aU,so,bt,b0,cw,R⟩:=H.du A D V K;obtain⟨aV,aP,ch,e6,gz⟩:=eU A D e;exact⟨c,l,aU,so,bt,b0,cw,R.other I same E J fs aV aP ch e6 gz⟩
 ·have:=H.gQ;have h1:=H.hS d bp;exact⟨(E d J).trans h1.1,(same d J J).trans h1.2⟩
theorem ih.agx{a0 b2 c:Nat}{au:ae}{k:iO}(H:ih Z room av aI cj pm a0 au x cI dc db L own g h U)(B:A4 Z room pm cI dc db own g h U M c)(V:iq M k=some (bd b2))(fU:je da ac Y b8)(D:DQ (nn Z k) own da h ac U Y)(dI:wV Z room oX sD sE da b8 ac Y k b2)(bE:∀a b,¬(a=k.1.val/\b=k.2.val)->oX a b=cI a b)(h1:dc<=sD)(ar:db<=sE):ih Z room av aI cj pm a0 au x oX sD sE L da b8 ac Y:=by
 obtain⟨a,ws,os,ap,l,fN,eQ,f7,G⟩:=H.hU;have kt:Z.G=Z.R*Z.C+1:=rfl;have w9:Z.G<nn Z k:=by unfold nn;omega
 have E:=H.oo.F fU D J;obtain⟨dt,eG,_⟩:=B.get k _ V;refine⟨fU,λi j aj b1=>?_,⟨a,ws,os,ap,l,fN,eQ,f7,G.other D.le (λd A K _=>D.same d A J) D.dV E⟩,⟨M,c,B.m.F (D.same pm G.m.1 (by rw[G.m.2.1];omega)),λP v e=>?_,λa b e=>?_⟩,hy H.gQ D.le,λd bp=>?_⟩
 ·obtain⟨c,l,aU,so,bt,b0,cw,R⟩:=H.du i j aj b1;have:=ph aj b1;exact⟨c,l,aU,so,bt,b0,cw,R.other D.le D.same D.dV J E rfl rfl ab ab ab⟩
 ·by_cases cn:P=k
  ·subst cn;rw[V]at e;cases e;exact⟨dt,eG,b2,rfl,dI⟩
  ·obtain⟨eo,gY,I,i1,nC⟩:=B.get P v e;exact⟨eo,gY,I,i1,nC.other D.le (λd A K=>D.same d A (by rw[K];exact λe=>cn (asv e))) D.dV E ab h1 ar⟩
 ·by_cases cn:a=k.1.val/\b=k.2.val
  ·grind
  ·rw[bE a b cn]at e;exact B.has a b e
 ·have:=H.gQ;have aL:=H.hS d bp;exact⟨(D.dV d J).trans aL.1,(D.same d J J).trans aL.2⟩
theorem ih.mono{a0:Nat}{au:ae}(H:ih Z room av aI cj pm a0 au x cI dc db L own g h U)(D:dc<=sD)(A:db<=sE):ih Z room av aI cj pm a0 au x cI sD sE L own g h U:=by obtain⟨a,ws,os,ap,l,fN,eQ,f7,G⟩:=H.hU;obtain⟨M,c,B⟩:=H.pS;exact{ H with pS:=⟨M,c,B.other ⟨G.m.1,G.m.2.1⟩ J ab J aK D A⟩ }
end
theorem agy:Q.underlying 198=some (.array 2 3):=by kernel_rfl
theorem ay2:Q.keyTypeAt 8 198=true:=by kernel_rfl
theorem agz:Q.cellsOf 198=2:=by kernel_rfl
theorem JR:wo Q 198 ps:=by
 have fin:∀a:Fin 64,(Lit.int .i64 (a.val:Int)).wf=true:=λa=>by simp[Lit.wf,IntKind.min,IntKind.max,IntKind.bits,IntKind.signed];omega
 have A:∀a b:Fin 64,Q.keyLits 8 198 [.int .i64 (a.val:Int),.int .i64 (b.val:Int)]=some [.int .i64 (a.val:Int),.int .i64 (b.val:Int)]:=λa b=>by
  have B:∀m:Fin 64,Q.keyLits 7 3 [.int .i64 (m.val:Int)]=some [.int .i64 (m.val:Int)]:=λm=>by unfold Program.keyLits;simp only[yR,fin m,and_self,if_true]
  unfold Program.keyLits;simp only[agy,agz,ci,nJ,Et,Nat.reduceAdd,if_true];rw[show List.range 2=[0,1]from rfl];simp only[BI,List.mapM_nil,l1,ub,pb,MN,Eo,t8,B a,B b];rfl
 have e:∀a b:iO,kP Q 198 (ps a) (ps b)=some (decide (a=b)):=λa b=>by
  show sg Q 198 (ps a) (ps b)=_;have D:∀a:iO,(ps a).formed Q 198=true:=λa=>by simp[ps,Value.formed,agy,agz]
  unfold sg;rw[ay2,D,D];show(bif true&&(true&&true&&true&&true)then K0 (Q.keyLits 8 198 [.int .i64 (a.1.val:Int),.int .i64 (a.2.val:Int)]) (Q.keyLits 8 198 [.int .i64 (b.1.val:Int),.int .i64 (b.2.val:Int)])else none)=_;rw[A,A];show some ((mc .i64 .i64&&fz (a.1.val:Int) (b.1.val:Int))&&((mc .i64 .i64&&fz (a.2.val:Int) (b.2.val:Int))&&true))=_;rw[vH,kN,kN]
  congr 1
  grind
 refine⟨λk=>?_,e,λk=>?_⟩
 ·unfold xQ;grind
 ·unfold ps;simp
theorem zX:vO Q 110=true:=by kernel_rfl
theorem ak9{t:TypeId}(A:vO Q t=true):bin Q .eql t (.pointer none) (.pointer none) = .ok (.bool true):=by show R.of "compared" (oG Q t (.pointer none) (.pointer none)) _=_;unfold oG;simp[A,Gp,nP]
theorem auX{r:Nat}:nQ (.map (some r)) (.map (some r))=true:=ua r
section
variable {s:al} {g h:ae} {U:Nat} {Z:b5} {own:Nat->Nat} {x:f6} {room:Int} {av L dc db cj pm:Nat} {aI:Nat->Nat} {cI:Nat->Nat->aa cr} {a:Nat->X} {ws os ap:X} {l:aa yL} {fN eQ f7:aw Nat} {a0:Nat} {au:ae}
theorem v5{f:Nat->Nat}{n:Nat}:((List.range n).map f).length=n:=ab
theorem JS(G:wU Z room L aI cj pm own g h U a ws os ap l fN eQ f7){k:Nat}(D:k<Z.R*Z.C):aH Q s 236 [bd cj,(k:X)] h U (fo (.bool true) U h):=by
 refine auK ?_;have A:=G.at_;obtain⟨E,B,rfl,_⟩:=G.wr;rw[v5]at A;unfold afo;unfold fM at A;simp(disch:=omega)only[bn,Ng zX,A,seval];refine⟨λ_=>⟨?_,rfl,rfl⟩,λe=>absurd e J⟩
 grind
def ay3(Z:b5)(room:Int)(av:Nat)(aI:Nat->Nat)(cj pm a0:Nat)(au:ae)(x:f6)(cI:Nat->Nat->aa cr)(dc db L:Nat)(k:iO)(g h:ae)(U:Nat):bP:=λr ac Y =>
 ∃b2 da b8,r = (bd b2)/\ih Z room av aI cj pm a0 au x cI dc db L da b8 ac Y/\(∃M c,A4 Z room pm cI dc db da b8 ac Y M c/\iq M k=some r)/\(∀d,d<U->d≠pm->u ac d=u h d)/\U<=Y/\aA U g b8
theorem ab4(H:ih Z room av aI cj pm a0 au x cI dc db L own g h U)(md:a0<=pm)(k:iO)(cY:k.1.val<Z.R*Z.C)(aT:k.2.val<Z.R*Z.C)(wF:1<=room)(nZ:room<=64):
  aH Q s 237 [bd cj,(k.1.val:X),(k.2.val:X)] h U (ay3 Z room av aI cj pm a0 au x cI dc db L k g h U):=by
 refine auL ?_;obtain⟨a,ws,os,ap,l,fN,eQ,f7,G⟩:=H.hU;obtain⟨M,c,B⟩:=H.pS;have a6:=G.at_;have bk:=G.p;have bl:=G.m;refine(JS G cY).fR ?_;refine aF ?_;refine(JS G aT).fR ?_;refine aF ?_;unfold PW;unfold fM at a6;have A5:∀{o E},u (T (T h U o) U E) cj=_:=λ{o E}=>(aq J).trans ((aq J).trans a6);have K:=λo E=>wp JR (B.m.F (ac:=T (T h U o) U E) ab) (k:=k) (z:=.pointer none) (ok:=false);rw[show ps k = .agg ⟨[(k.1.val:X),(k.2.val:X)]⟩from rfl]at K
 replace K:=λo E=>(K o E).trans (show _=R.ok ((iq M k).getD (.pointer none))from rfl)
 refine cL @A5 @K ?_;cases aJ:iq M k with
 |some v =>
  obtain⟨_,_,b2,rfl,_⟩:=B.get k v aJ;rw[aJ]at K
  replace K:=λo E=>(K o E).trans (show _=R.ok (Value.pointer (some ⟨b2,0,none⟩))from rfl)
  rw[show(some (Value.pointer (some ⟨b2,0,none⟩))).getD (.pointer none) = (bd b2)from rfl];simp(disch:=omega)only[bn,pc CR,A5,K,seval];generalize fJ:T (T h U _) U _=h1;have cJ:aA U h h1:=by rw[<-fJ];exact aK
  obtain⟨da,b8,hj,D,fs,_⟩:=H.still cJ (sV U);exact⟨b2,da,b8,rfl,hj,⟨M,c,B.other J J ab D fs J J,aJ⟩,ab,J,fs⟩
 |none =>
  rw[show(none:aw X).getD (.pointer none) = .pointer none from rfl];simp(disch:=omega)only[bn,ak9 CR,A5,seval];generalize fJ:T (T h U _) U _=h1;have cJ:aA U h h1:=by rw[<-fJ];exact aK
  have ek:u h1 U=some (.cells [(k.1.val:X),(k.2.val:X)] false):=ab
  have qv:u h1 cj=_:=(cJ cj bk.1).trans a6;refine(asq wF nZ).mono ?_;rintro _ ar bX ⟨rfl,dE,b4,dZ,eA,rfl⟩;have jq:u ar cj=_:=(eA cj J).trans qv;have hN2:=(eA U J).trans ek;have ro:iW ar pm ps M c:=B.m.F ((eA pm J).trans (cJ pm bl.1));obtain⟨fF,gj⟩:=Gy (x:=.pointer (some ⟨U+1+2,0,none⟩)) JR ro aJ;rw[show ps k = .agg ⟨[(k.1.val:X),(k.2.val:X)]⟩from rfl]at fF;simp(disch:=omega)only[bn,qv,jq,ek,hN2,iD,auX,fF,seval];generalize HB:T ar pm _=aL at gj;have fZ:∀d,d≠pm->u aL d=u ar d:=ab
  have aA0:=gj aL ab;have qw:u aL cj=_:=(fZ cj (kw bl.2.2)).trans jq;have L9:=(fZ U J).trans hN2;have hv3:iq (M++[(k,Value.pointer (some ⟨U+1+2,0,none⟩),c)]) k=some (.pointer (some ⟨U+1+2,0,none⟩)):=by rw[Of,aJ,xx,if_pos rfl];rfl
  have ch:=wp JR aA0 (k:=k) (z:=.pointer none) (ok:=false);rw[hv3,show ps k = .agg ⟨[(k.1.val:X),(k.2.val:X)]⟩from rfl]at ch
  replace ch:=ch.trans (show _=R.ok (Value.pointer (some ⟨U+1+2,0,none⟩))from rfl)
  refine hK @qw @L9 @ch ?_;have Lh:cI k.1.val k.2.val=[]:=vw λe0=>by
   obtain⟨dm,dt,eG,gt⟩:=B.has _ _ e0
   grind
  have A:∀d,d<U->d≠pm->u aL d=u h d:=λd P I=>(fZ d I).trans ((eA d J).trans (cJ d P))
  let da:Nat->Nat:=λd=>if d<U then own d else if U+1<=d/\d<U+4 then nn Z k else 0
  obtain⟨b8,fU⟩:=CA da aL (U+1+3);have D:∀d,d<U->da d=own d:=ab
  have new:∀d,U+1<=d->d<U+4->da d=nn Z k:=ab
  have fs:aA U g b8:=λd bp=>by
   rw[H.oo d,fU d,D d bp]
   by_cases e:own d=0
   ·rw[if_pos ⟨J,e⟩,if_pos ⟨bp,e⟩];exact A d bp λaP=>by rw[aP,bl.2.1]at e;cases e
   grind
  have kt:Z.G=Z.R*Z.C+1:=rfl;have aA1:A4 Z room pm cI dc db da b8 aL (U+1+3) (M++[(k,Value.pointer (some ⟨U+1+2,0,none⟩),c)]) (c+1):=by
   refine⟨aA0,λdm v e=>?_,λa b e=>?_⟩
   ·rw[Of]at e;cases V:iq M dm with
    |some dN =>
     rw[V]at e;cases e;obtain⟨dt,eG,b2,gt,mr⟩:=B.get dm v V;refine⟨dt,eG,b2,gt,mr.other J (λd P I=>A d P λe=>?_) D fs rfl J J⟩;rw[e,bl.2.1]at I;unfold nn at I;omega
    |none =>
     rw[V,xx]at e
     by_cases tz:dm=k
     ·subst tz;rw[if_pos rfl]at e;cases e;refine⟨cY,aT,_,rfl,.inl ⟨Lh,0,J,U+1,U+1+1,_,none,0,0,ab,.inl ⟨rfl,rfl⟩,(fZ _ J).trans dZ,(fZ _ J).trans b4,J,⟨J,J⟩,⟨J,J,J⟩,(nofun),new _ J J,new _ J J,new _ J J,nofun⟩⟩
     ·rw[if_neg tz]at e;cases e
   ·obtain⟨dm,dt,eG,gt⟩:=B.has a b e;refine⟨dm,dt,eG,λaP=>gt ?_⟩;rw[Of]at aP
    grind
  refine⟨J,U+1+2,da,b8,rfl,⟨fU,λi j aj b1=>?_,⟨a,ws,os,ap,l,fN,eQ,f7,G.other J (λd P _ I=>A d P I) D fs⟩,⟨_,_,aA1⟩,J,λd bp=>?_⟩,⟨_,_,aA1,hv3⟩,A,J,fs⟩
  ·obtain⟨c,l,aU,so,bt,b0,cw,R⟩:=H.du i j aj b1;have:=ph aj b1;exact⟨c,l,aU,so,bt,b0,cw,R.other (eb:=Z.G) J (λd P I=>A d P λe=>I ab) D J fs rfl rfl (λ_=>⟨rfl,rfl⟩) (λ_=>⟨rfl,rfl,rfl⟩) λ_ _=>⟨rfl,rfl⟩⟩
  ·exact⟨(D d J).trans (H.hS d bp).1,(A d J J).trans (H.hS d bp).2⟩
end
section
variable {s:al} {g h:ae} {U:Nat} {Z:b5} {own:Nat->Nat} {x:f6} {room:Int} {av L dc db cj pm:Nat} {aI:Nat->Nat} {cI:Nat->Nat->aa cr} {a0:Nat} {au:ae}
theorem Ai{f:Nat->Nat}{n i:Nat}(H:cN g U v r8 ((List.range n).map f))(S:kU g h)(aj:i<n):∃b A cap cs B,v = .slice (some ⟨b,0,A⟩) n cap/\u h b=some (.cells cs B)/\cs[i]? = some (.pointer (some ⟨f i,0,none⟩))/\b<U:=by
 have e:((List.range n).map f)[i]? = some (f i):=ab
 obtain⟨_,b,A,B,cap,E,D,I⟩:=H.at e;rw[v5]at D;have:=IS (enc:=r8)  (λ_=>rfl) e (J:0<1);rw[EA,nK]at this;exact⟨b,A,cap,_,B,D,S _ _ I,this,E⟩
theorem asw(Z:b5)(m:cr):(pA Z m).lI=(m.dst Z.C:Int):=by
 cases m <;> rfl
theorem ZR(K:fV Z)(m:cr):(pA Z m).lU.length<10000/\(pA Z m).nw.length<10000:=by
 have e:∀n (x:Nat->aw Int),n<=60->(bj n x).length<10000:=λn x B=>by have:=l3 n x;omega
 have z:([]:aa (Nat × Int)).length<10000:=by decide
 have A:=K.n60;cases m with
 |share i j t=>have:=CQ K (i+1) j;exact⟨e _ _ J,z⟩
 |spread i j t=>have:=CP K j;exact⟨e _ _ (by unfold b5.W;omega),z⟩
 |dw i j t=>have:=xY K i;exact⟨z,e _ _ (by unfold b5.H;omega)⟩
 |dx i t=>exact⟨z,z⟩
 |order i t=>exact⟨z,z⟩
theorem KY(K:fV Z):Z.R*Z.C<=64:=rU K.nF K.mw
theorem J7{R C k:Nat}(h:k<R*C):∃i j,i<R/\j<C/\k=i*C+j:=by
 have A:0<C:=ab
 refine⟨k / C,k % C,by rw[MM A];exact h,zf _ A,?_⟩;have:=Nat.div_add_mod k C
 grind
def D0(Z:b5)(room:Int)(av:Nat)(aI:Nat->Nat)(cj pm a0:Nat)(au:ae)(x:f6)(cI:Nat->Nat->aa cr)(g:ae)(U:Nat)(dc db L:Nat)(ac:ae)(Y:Nat):Prop:=∃da b8,ih Z room av aI cj pm a0 au x cI dc db L da b8 ac Y/\aA U g b8/\U<=Y
theorem ala(K:fV Z)(H:ih Z room av aI cj pm a0 au x cI dc db L own g h U){k:Nat}(B:k<Z.R*Z.C)(bl:x.out k=[]):
  aH Q s 143 [bd cj,(k:X)] h U (λr ac Y=>r = .bool false/\D0 Z room av aI cj pm a0 au x cI g U dc db L ac Y):=by
 refine ab1 ?_;obtain⟨i,j,aj,b1,rfl⟩:=J7 B;obtain⟨a,ws,os,ap,og,fN,eQ,f7,G⟩:=H.hU;obtain⟨c,l,aU,so,bt,b0,cw,R⟩:=H.du i j aj b1;have bb:l=[]:=by
  have:=R.f;rw[bl]at this;cases l with
  |nil=>rfl
  |cons=>exact this.elim
 subst bb;refine(JS G B).fR ?_;obtain⟨b,aO,cap,cs,bJ,rfl,P,eG,gt⟩:=Ai G.wr (λ_ _ e=>e) B;have D:=G.at_;unfold fM at D;refine hK @D @P @eG ?_;refine(ak8 R.W).mono ?_;rintro _ h1 V ⟨⟨v,rfl⟩,cJ,A⟩;unfold d8;refine aF ?_;obtain⟨da,b8,E,_,I,_⟩:=H.still ((cJ.set A).set A) (J:U<=V+1);exact⟨da,b8,E,I,J⟩
theorem aoN(K:fV Z)(H:ih Z room av aI cj pm a0 au x cI dc db L own g h U)(md:a0<=pm)(V:1<=room)(nZ:room<=64){k:Nat}(hk:k<Z.R*Z.C){r:aa cr}(bl:x.out k=m::r)(bp:m.dst Z.C<Z.R*Z.C)(A1:cI k (m.dst Z.C)=[])(bV:dc<=db)(hw2:db<100000):
  aH Q s 143 [bd cj,(k:X)] h U (λnz ac Y=>nz = .bool true/\D0 Z room av aI cj pm a0 au { x with out:=up x.out k r } (tF cI k (m.dst Z.C) [m]) g U dc db L ac Y):=by
 refine ab1 ?_;obtain⟨cF,eE⟩:=ZR K m;obtain⟨i,j,aj,b1,rfl⟩:=J7 hk;obtain⟨a,ws,os,ap,og,fN,eQ,f7,G⟩:=H.hU;obtain⟨c,l,aU,so,bt,b0,cw,R⟩:=H.du i j aj b1;have g1:=R.f;rw[bl]at g1;obtain⟨f,b6,rfl⟩:∃f b6,l=f::b6:=by
  cases l with
  |nil=>exact g1.elim
  |cons f b6=>grind
 have hF1:sB g 0 U f (pA Z m):=g1.1;have sj:=G.m;refine(JS G hk).fR ?_;obtain⟨b,aO,cap,cs,bJ,rfl,dt,eG,gt⟩:=Ai G.wr (λ_ _ e=>e) hk;have a6:=G.at_;unfold fM at a6;refine hK @a6 @dt @eG ?_;refine(aov R.W rfl (hF1.is.sub H.oo.sub) cF eE).mono ?_;rintro _ h1 P ⟨ks,rfl,ed,cJ,fy⟩;have eto:ks.lI=(m.dst Z.C:Int):=ed.is.lI.trans (asw Z m);unfold d8;refine aF ?_;generalize n2:T (T h1 P _) P _=ar;have D:u ar P=some (.cells (d8 ks) false):=by rw[<-n2,aS];rfl
 have eA:aA U h ar:=aK
 obtain⟨R8,g2,hX,_,Ma,_⟩:=H.still eA (J:U<=P+1);have Ud:=KY K;have A:=ab4 (s:=true) hX md (⟨i*Z.C+j,J⟩,⟨m.dst Z.C,J⟩) hk bp V nZ;dsimp only at A;rw[<-eto]at A;refine A.mono ?_;rintro _ aL bS ⟨b2,GI,dj,rfl,i4,⟨M,aCu,B,aJ⟩,fZ,gA,Mb⟩;have L9:=(fZ P J J).trans D;unfold d8 at D L9;refine⟨gA,?_⟩;simp(disch:=omega)only[bn,D,L9,iD,seval];obtain⟨_,_,pb',e,S⟩:=B.get _ _ aJ;cases e;rcases S with⟨_,n,bH,E⟩|⟨bC,n,e,_⟩
 ·have Ue:lo aL U bS ks (pA Z m):=ed.F ab J J;refine(E.send (by unfold nn;omega) V J Ue.is cF eE).mono ?_;rintro _ bm dH ⟨rfl,Aj,dL,dK,xe,Mx⟩;refine⟨Mx.le,?_⟩;have sQ:=i4.agx  B aJ xe Mx (.inr ⟨m,n,qj _ _ _ _,J,dK⟩) (λa b e=>qk e) (cD _) (cD _);obtain⟨hF,ly,bo4,so4,rs4,rc4,rv4,Ia⟩:=sQ.du i j aj b1;obtain⟨f5,aAY,rfl,_,I⟩:=Ia.gone xe bl;refine aF ?_;refine I.mono ?_;rintro _ b3 _ ⟨rfl,rfl,vo,aCv,aCw,vl⟩;have Bi:=Mx.le;have HC:=i4.oo.F xe Mx (by unfold nn;omega);exact⟨Aj,dL,sQ.work aj b1 aCw J vl J aK ⟨_,_,_,_,_,_,_,aCv⟩ (λaG oh e0=>⟨rfl,g6 e0,ab,ab,ab⟩),aK,J⟩
 ·have e:cI (i*Z.C+j) (m.dst Z.C)=[bC]:=e;rw[A1]at e;cases e
end
theorem aoO{s:al}{n:Nat}{h:ae}{U:Nat}(B:n<=63)(A:cN h U v jU (eS n q)):aH Q s 119 [v] h U (aeX (fX (eh n q)) U h):=by
 by_cases au:n=0
 ·subst au;refine adk ?_;obtain⟨a,cap,rfl,E⟩:=id A;refine Rg ?_;unfold KN;refine aF ?_;refine YX ?_;refine Xc lR QA λK D I=>?_;refine(abm (j4:=.slice a (eS 0 q).length cap) ⟨a,cap,rfl,λh=>absurd rfl h⟩ ab).mono ?_;rintro _ _ _ ⟨rfl,rfl⟩;exact⟨.slice none 0 0,D,λx=>⟨none,.nil,ab,aK,J⟩⟩
 ·rw[show eS n q=[mk n q]from if_neg au]at A;exact aqR B A
theorem OO{n m:Nat}{f:Nat->Int}:cz n f++cz m (λk=>f (n+k))=cz (n+m) f:=by unfold cz;rw[List.range_add,iF,ot];rfl
theorem auY{n m:Nat}:eh n q++(eh m λk=>q (n+k)).map (n+·)=eh (n+m) q:=by unfold eh;rw[List.range_add,t6,List.filter_map];rfl
theorem agA{az:Type}{A:az->aa X}{h:ae}{U:Nat}{l:aa az}{aU:aw Nat}(w:gP h A v l aU)(B:∀c,aU=some c->c<U):cN h U v A l:=(w.gr (ao:=0)  ab).rd
section
variable {s:al} {g h:ae} {U:Nat} {Z:b5} {own:Nat->Nat} {x:f6} {room:Int} {av L dc db cj pm:Nat} {aI:Nat->Nat} {cI:Nat->Nat->aa cr} {a0:Nat} {au:ae}
def aA2:gh:=.cells [.int .i64 0,.int .i64 0,.slice none 0 0,.slice none 0 0,.slice none 0 0] false
def GaJ(Z:b5)(S:jb)(U:Nat)(h:ae)(fg:X)(m:Nat)(aE:aa X)(ac:ae)(Y:Nat):Prop :=
 ∃i o dp fB vu dq jA,m=Z.R-i/\i<=Z.R/\aE=[bd U,.pointer (some ⟨U+1,0,none⟩),o,fg,(Z.R:X),(i:X)]/\u ac (U+1)=some (.cells [.int .i64 0,(Z.N:X),dp,fB,.slice none 0 0] false)/\u ac U=some aA2 /\
  gP ac c3 dp (cz (Z.bv i) S.A) vu/\gP ac c3 fB (cz (Z.bv i) S.B) dq/\gP ac c3 o (fX (eh (Z.bv i) S.q)) jA/\(∀b,vu=some b->U+1<b/\b<Y)/\(∀b,dq=some b->U+1<b/\b<Y)/\(∀b,jA=some b->U+1<b/\b<Y) /\
  (∀b,vu=some b->dq≠some b/\jA≠some b)/\(∀b,dq=some b->jA≠some b)/\aA U h ac/\U+1<Y
def GaI(bv:Nat)(og:aa Nat)(q:aa Nat)(aC aB a3 aY bN bu ba bx:X)(aU:aw Nat)(U:Nat)(h:ae)(m:Nat)(aE:aa X)(ac:ae)(Y:Nat):Prop :=
 ∃k o jA,m=q.length-k/\k<=q.length/\aE=[aC,aB,o,a3,aY,bN,bu,ba,bx,(k:X)]/\gP ac c3 o (fX (og++(q.take k).map (bv+·))) jA/\(jA=aU\/∃b,jA=some b/\U<=b/\b<Y)/\(∀d,d<U->aU≠some d->u ac d=u h d)/\U<=Y
theorem aw2{bv:Nat}{E q:aa Nat}{o sI:X}{aU eQ:aw Nat}{A:Nat}{nu lP oe:X}{aj:Int}{K:aR}(bb:bv<=60)(cM:∀x∈q,x<=60)(fW:E.length+q.length<=1000)(aCx:gP h c3 o (fX E) aU)(aA3:gP h c3 sI (fX q) eQ)(bk:u h A=some (.cells [(bv:X),(aj:X),nu,lP,oe] false))(V:A<U)(ni:∀b,aU=some b->b<U/\b≠A/\eQ≠some b)(P:∀b,eQ=some b->b<U)(ht:∀aX jA ac Y,gP ac c3 aX (fX (E++q.map (bv+·))) jA->(jA=aU\/∃b,jA=some b/\U<=b/\b<Y)->(∀d,d<U->aU≠some d->u ac d=u h d)->U<=Y->K [aC,aB,aX,bd A,aY,bN,bu,sI,(q.length:X),(q.length:X)] ac Y):
  bD (bR Q s BM 234 1) [aC,aB,o,bd A,aY,bN,bu,sI,(q.length:X),.int .i64 0] h U [(2,K)] (λ_ _ _=>False):=by
 obtain⟨eJ,cl,rfl⟩:=aA3.form;rw[show(fX q).length=q.length from gH ..]at *
 refine bD.mk (GaI bv E q aC aB (bd A) aY bN bu (.slice eJ q.length cl) (q.length:X) aU U h) q.length ⟨0,o,aU,J,J,rfl,by rw[t8,zd,hZ];exact aCx,ab,ab,J⟩ ?_;rintro _ _ h1 bh ⟨k,eX,jA,rfl,hk,rfl,B,I,bK,dR⟩;rw[ahh];unfold VE;have yq:u h1 A=_:=(bK A V λe=>(ni A e).2.1 rfl).trans bk
 by_cases cA:k<q.length
 ·have a1:q[k]? = some q[k]:=ab
  have aAl:=cM q[k] ab;have D:(fX q)[k]? = some ((q[k]:Nat):Int):=by unfold fX;grind
  have Hq1:gP h1 c3 (.slice eJ q.length cl) (fX q) eQ:=aA3.F ab;obtain⟨_,b,aO,bJ,cap,aT,e,a6⟩:=(agA  Hq1 P).at D;rw[show(fX q).length=q.length from gH ..]at e;cases e;rw[iG]at a6;have aZ:=i6 D;have bV:IntKind.wrap .i64 ((bv:Int)+((q[k]:Nat):Int))=((bv+q[k]:Nat):Int):=by rw[<-vy];exact iT _ J
  refine k7 @a6 @aZ @yq @bV ?_;refine⟨λ_=>?_,λh=>absurd cA h⟩;refine vP (B.F  ab).hU (aS _ _ _) (by unfold fX;grind) λar DK rn=>?_;have wW:IntKind.wrap .i64 ((k:Int)+1)=((k+1:Nat):Int):=cG J;refine bg @wW ?_;refine⟨_,J,k+1,_,some (bh+1),rfl,J,rfl,?_,ab,λd h1 ar=>?_,J⟩
  ·refine .inr ⟨bh+1,rfl,?_,?_⟩
   ·congr 1
    all_goals (unfold fX;grind)
   ·rw[iG,DK]
    congr 2
    unfold fX;rw[List.take_succ,a1,iF,iF,iF,iF,kv];rfl
  grind
 ·have:k=q.length:=J
  subst this;refine aF ?_;refine⟨λh=>absurd h J,λ_=>?_⟩;rw[iQ]at B;exact ht _ _ _ _ B I bK dR
end
section
variable {s:al} {g h:ae} {U:Nat} {Z:b5} {own:Nat->Nat} {x:f6} {room:Int} {av L dc db cj pm:Nat} {aI:Nat->Nat} {cI:Nat->Nat->aa cr} {a0:Nat} {au:ae}
theorem agB(K:fV Z):Z.bv Z.R=Z.N:=by unfold b5.bv c8;rw[Nat.min_self];exact MH _ K.lA
theorem R9:Z.bv 0=0:=by unfold b5.bv c8;simp
theorem afv{n:Nat}:∀x∈eh n q,x<n:=λx A=>BJ.1 (pa.1 A).1
theorem ahj(K:fV Z)(H:ih Z room av aI cj pm a0 au x cI dc db L own g h U){t:Nat}(ck:∀i,i<Z.R->x.a i-1=t):
  aH Q s 234 [bd cj] h U (λr ac Y=>∃v:yL,r = .agg ⟨GH Z.N v⟩/\lF ac U Y r 0 (Z.N:Int) Z.N (cz Z.N (Z.eT.st t).A) (cz Z.N (Z.eT.st t).B) (Z.eT.st t).q/\aA U h ac/\U<=Y):=by
 refine ahL ?_;obtain⟨a,ws,os,ap,og,fN,eQ,f7,G⟩:=H.hU;have a6:=G.at_;have bk:=G.p.1;have n60:=K.n60;generalize dI:Z.eT.st t=S;obtain⟨eP,cX,rfl,_⟩:=id G.or;have ww:=G.or;rw[v5]at a6 ww;unfold fM at a6;have qv:∀{o},u (T h U o) cj=_:=λ{o}=>(aq J).trans a6;have jq:∀{o eX dO},u (T (T (T h U o) (U+1) eX) (U+1) dO) cj=_:=λ{o eX dO}=>(aq J).trans ((aq J).trans qv);unfold WL;refine cL @qv @jq ?_;refine bD.mk (GaJ Z S U h (.slice eP Z.R cX)) Z.R ⟨0,_,_,_,none,none,none,J,J,rfl,aS _ _ _,?_,?_,?_,?_,ab,ab,ab,ab,(nofun),(((aA.refl _ _).set (cD _)).set J).set J,J⟩ ?_
 ·rw[aq J,aq J,aS];rfl
 ·rw[R9];exact .nil
 ·rw[R9];exact .nil
 ·rw[R9];exact .nil
 rintro _ _ P bh ⟨i,o,dp,fB,vu,dq,jA,rfl,aj,rfl,c1,c2,My,Mz,Vb,yP,y0,ao,fr,fG,cJ,qC⟩;rw[ahi];unfold VF;obtain⟨bz,pT,rfl⟩:=My.form;obtain⟨bU,gu,rfl⟩:=Mz.form
 by_cases cA:i<Z.R
 ·obtain⟨c,l,aU,so,bt,b0,cw,R⟩:=H.du i 0 cA K.hw;have j5:=R.o rfl;obtain⟨b,aO,cap,cs,bJ,e,dt,eG,gt⟩:=Ai  ww (λ_ _ e=>e) cA;cases e;have q1':=(cJ b gt).trans dt;have dR:=xY K i;have fJ:Z.bv i+Z.H i=Z.bv (i+1):=by unfold b5.H;omega
  have ay4:Z.H i<=60:=J
  have gL:ja P bh (.agg ⟨[c 28,c 29,c 30,c 31,c 32]⟩) (Z.bv i) (Z.H i) S:=by have:=j5.has;rw[ck i cA,dI]at this;exact ja.F (hf.sub this H.oo.sub) cJ J
  have nD:eW P bh (aI (i*Z.C+0)) c i 0 Z.C l aU:=R.W.F (λd bp=>bp.elim (λe=>e ▸ cJ _ R.W.lt) λe=>cJ d (R.W.aU d e).2) J;refine cL @q1' @eG ?_;refine⟨λ_=>?_,λh=>absurd cA h⟩;refine(ak1 nD gL ay4).mono ?_;rintro _ B A ⟨⟨nu,lP,aC4,rfl,Eb,Bj,Bs⟩,eA,eZ⟩;obtain⟨mv,tS,rfl,_⟩:=id Eb;obtain⟨lX,qG,rfl,_⟩:=id Bj;obtain⟨MA,MB,rfl,_⟩:=id Bs;have aV:∀{o aX},u (T (T B A o) A aX) (U+1)=_:=λ{o aX}=>(aq J).trans ((aq J).trans ((eA (U+1) J).trans c1));refine bg @aV ?_;generalize HB:T (T B A _) A _=V;have fI:aA A B V:=by rw[<-HB];exact((aA.refl _ _).set (cD _)).set (cD _)
  have p27:u V A=some (.cells [.int .i64 (Z.bv i:Int),((Z.bv i+Z.H i:Nat):X),.slice mv (cz (Z.H i) λk=>S.A (Z.bv i+k)).length tS,.slice lX (cz (Z.H i) λk=>S.B (Z.bv i+k)).length qG,.slice MA (eS (Z.H i) λk=>S.q (Z.bv i+k)).length MB] false):=ab
  replace aV:u V (U+1)=_:=(fI (U+1) J).trans ((eA (U+1) J).trans c1)
  have aM:u V U=_:=(fI U J).trans ((eA U J).trans c2);clear HB;have Mc:aA bh P V:=λd bp=>(fI d J).trans (eA d bp);have Wa3:=My.F  λd e=>Mc d (yP d e).2;have Wb3:=Mz.F  λd e=>Mc d (y0 d e).2;have Wo3:=Vb.F  λd e=>Mc d (ao d e).2;have LI:=cN.o  (k:=1) (λ_=>rfl) (Eb.rd.F (Y:=A+1) fI J);have SB3:=cN.o  (k:=1) (λ_=>rfl) (Bj.rd.F (Y:=A+1) fI J);have SQ3:=Bs.rd.F (Y:=A+1) fI J;refine PI (k:=1) (λ_=>rfl) (λ_=>rfl) J (show yF V c3 1 _ _ vu from Wa3) LI (by rw[i7,i7];omega) λTl E dH Md Uf gZ U3=>?_;have hn4:A+1<=dH/\dH<=A+2:=J
  have D:∀d,d<A+1->vu≠some d->u E d=u V d:=λd P B=>U3 d J B;have UU:∀d,vu=some d->U+1<d/\d<bh:=yP;have e14:u E (U+1)=_:=(D (U+1) J λe=>ab).trans aV;have cR:u E A=_:=(D A J λe=>ab).trans p27;refine⟨J,?_⟩;simp(disch:=omega)only[bn,e14,aV,cR,p27,iD,seval];have Wb4:=Wb3.F (ac:=E) λd e=>D d ab λaP=>(fr d aP).1 e;have Wo4:=Wo3.F (ac:=E) λd e=>D d ab λaP=>(fr d aP).2 e;have LJ:ej E dH (.slice lX (cz (Z.H i) λk=>S.B (Z.bv i+k)).length qG) c3 1 (cz (Z.H i) λk=>S.B (Z.bv i+k)):=by refine cN.o (enc:=c3) (k:=1) (λ_=>rfl) ((Bj.F (ac:=E) (d6:=bh) (dy:=dH) (λd P B=>?_) (cD _) J).rd);rw[D d J (λe=>ab)];exact fI d B
  refine PI (k:=1) (λ_=>rfl) (λ_=>rfl) J (show yF E c3 1 _ _ dq from Wb4) LJ (by rw[i7,i7];omega) λTm b3 fT rB Ug w2 f5=>?_;have Dz:dH<=fT/\fT<=dH+1:=J
  have I:∀d,d<dH->dq≠some d->u b3 d=u E d:=λd P B=>f5 d J B;have e15:u b3 (U+1)=_:=(I (U+1) J λe=>ab).trans e14;have jx:u b3 A=_:=(I A J λe=>ab).trans cR;refine⟨J,?_⟩;obtain⟨aY,hF,rfl⟩:∃a c,Tl = .slice a (cz (Z.bv i) S.A++cz (Z.H i) λk=>S.A (Z.bv i+k)).length c:=(show gP E c3 Tl _ Md from Uf).form;obtain⟨bN,vo,rfl⟩:∃a c,Tm = .slice a (cz (Z.bv i) S.B++cz (Z.H i) λk=>S.B (Z.bv i+k)).length c:=(show gP b3 c3 Tm _ rB from Ug).form;have Uh:∀{o aX},u (T (T b3 (U+1) o) (U+1) aX) A=_:=λ{o aX}=>(aq J).trans ((aq J).trans jx);refine cL @e15 @Uh ?_;generalize Me:T (T b3 (U+1) _) (U+1) _=cF;have nv:∀d,d≠U+1->u cF d=u b3 d:=λd e=>ab
  have e16:u cF (U+1)=some (.cells [.int .i64 0,(Z.N:X),.slice aY (cz (Z.bv i) S.A++cz (Z.H i) λk=>S.A (Z.bv i+k)).length hF,.slice bN (cz (Z.bv i) S.B++cz (Z.H i) λk=>S.B (Z.bv i+k)).length vo,.slice none 0 0] false):=ab
  replace Uh:u cF A=_:=(nv A J).trans jx
  clear Me;have noa:∀d,bh<=d->vu≠some d/\dq≠some d:=λd bp=>⟨λe=>ab,λe=>ab⟩
  have SQ6:cN cF fT (.slice MA (eS (Z.H i) λk=>S.q (Z.bv i+k)).length MB) jU (eS (Z.H i) λk=>S.q (Z.bv i+k)):=by refine(Bs.F (ac:=cF) (d6:=bh) (dy:=fT) (λd P B=>?_) (cD _) J).rd;rw[nv d J,I d J (noa d P).2,D d J (noa d P).1];exact fI d B
  refine(aoO J SQ6).mono ?_;rintro sI eE n7 ⟨eQ,aA4,Lc,xd,uP⟩;obtain⟨gN,UJ,eq⟩:=aA4.form;subst eq;have ff:=(xd A J).trans Uh;have ay5:∀d,jA=some d->U+1<d/\d<bh/\u eE d=u V d:=λd e=>by have:=ao d e;refine⟨this.1,this.2,?_⟩;rw[xd d J,nv d J,I d J (λaP=>fG d aP e),D d J λaP=>(fr d aP).2 e]
  have Wo7:=Wo3.F (ac:=eE) λd e=>(ay5 d e).2.2;refine aF ?_;rw[show((fX (eh (Z.H i) λk=>S.q (Z.bv i+k))).length:Int)=((eh (Z.H i) λk=>S.q (Z.bv i+k)).length:Int) by unfold fX;grind]at *
  have sq:=uB (Z.H i) λk=>S.q (Z.bv i+k);have aAm:=uB (Z.bv i) S.q;refine aw2 J (λx a1=>by have:=afv x a1;omega) J Wo7 aA4 ff J (λd e=>ab) (λd e=>(Lc d e).2) λaX oo' rP n8 Wo8 Bl Ef ags=>?_;have yG:IntKind.wrap .i64 ((i:Int)+1)=((i+1:Nat):Int):=cG (by have:=K.nF;omega);refine bg @yG ?_;rw[OO,fJ]at Uf Ug;rw[OO,OO,fJ]at e16;rw[auY,fJ]at Wo8;have Mu:∀d,d<n7->d≠U+1->jA≠some d->vu≠some d->dq≠some d->d<A+1->u rP d=u V d:=λd P B V E b3 cF=>by rw[Ef d P V,xd d J,nv d B,I d J b3,D d cF E]
  have la':∀d,Md=some d->U+1<d/\d<dH/\(vu=some d\/A<d):=λd e=>ab
  have lb':∀d,rB=some d->U+1<d/\d<fT/\(dq=some d\/dH<=d):=λd e=>by
   rcases w2 with⟨aV,_⟩|⟨aV,_⟩
   all_goals grind
  have d6:∀d,oo'=some d->U+1<d/\d<n8/\(jA=some d\/n7<=d):=λd e=>by
   rcases Bl with aV|⟨b,aV,aP,ch⟩
   all_goals grind
  refine⟨_,J,i+1,aX,.slice aY (cz (Z.bv (i+1)) S.A).length hF,.slice bN (cz (Z.bv (i+1)) S.B).length vo,Md,rB,oo',rfl,J,rfl,?_,?_,?_,?_,Wo8,λd e=>ab,λd e=>ab,λd e=>ab,λd e=>⟨λaP=>?_,λaP=>?_⟩,λd e aP=>?_,λd bp=>?_,J⟩
  ·rw[Ef _ J (λe=>ab),xd _ J];omega
  ·grind
  ·refine(show gP E c3 _ _ Md from Uf).F λd e=>?_;obtain⟨eo,gY,i1⟩:=la' d e;have nC:jA≠some d/\dq≠some d:=by
    rcases i1 with i1|i1
    ·grind
    grind
   rw[Ef d J nC.1,xd d J,nv d J,I d gY nC.2]
  ·refine(show gP b3 c3 _ _ rB from Ug).F λd e=>?_;obtain⟨eo,gY,i1⟩:=lb' d e;have nC:jA≠some d:=ab
   rw[Ef d J nC,xd d J,nv d J]
  ·grind
  ·grind
  ·grind
  ·rw[Mu d J J (λe=>ab) (λe=>ab) (λe=>ab) J,Mc d J];exact cJ d bp
 ·have:i=Z.R:=J
  subst this;rw[agB K]at My Mz Vb;refine bg @c1 ?_;refine⟨λh=>absurd h (Nat.lt_irrefl _),λ_=>?_⟩;refine(J3 J (agA Vb λd e=>(ao d e).2) (λx a1=>afv x a1) (by have:=uB Z.N S.q;omega)).mono ?_;rintro r B A ⟨Bs,eA,eZ⟩;rw[QI]at Bs;obtain⟨MA,MB,rfl,_⟩:=id Bs;have aV:=(eA (U+1) J).trans c1;have aM:=(eA U J).trans c2;unfold aA2 at aM;have e0':∀{o},u (T B (U+1) o) U=_:=λ{o}=>(aq J).trans aM;rw[agB K]at aV;refine cL @aV @e0' ?_;have Vc:∀d,d<A->d≠U->d≠U+1->∀{o aX},u (T (T B (U+1) o) U aX) d=u B d:=λd P B V o aX=>ab
  refine⟨⟨bz,_,pT,bU,_,gu,MA,_,MB⟩,rfl,⟨_,_,_,rfl,(My.F λd e=>?_).gr λd e=>?_,(Mz.F λd e=>?_).gr λd e=>?_,eH.F Bs (λd P B=>?_) J (cD _)⟩,λd bp=>?_,J⟩
  ·have:=yP d e;rw[Vc d J J J];exact eA d this.2
  ·grind
  ·have:=y0 d e;rw[Vc d J J J];exact eA d this.2
  ·grind
  ·grind
  ·rw[Vc d J J J,eA d J];exact cJ d bp
end
section
variable {s:al} {g h:ae} {U:Nat} {Z:b5} {own:Nat->Nat} {x:f6} {room:Int} {av L dc db cj pm:Nat} {aI:Nat->Nat} {cI:Nat->Nat->aa cr} {a0:Nat} {au:ae}
theorem aoP{h ac:ae}{ao I:Nat}{E D:Int}{n:Nat}{A B:aa Int}(H:lF h ao aj v E D n A B q)(P:∀b,ao<=b->b<aj->u ac b=u h b)(V:d6<=ao)(K:aj<=I):lF ac d6 I v E D n A B q:=by obtain⟨dp,fB,fg,e,pR,mU,kH⟩:=H;exact⟨dp,fB,fg,e,eH.F pR P V K,eH.F mU P V K,eH.F kH P V K⟩
def NoJ(R L cj:Nat)(a:Nat->Nat)(os:X)(h:ae)(U:Nat)(m:Nat)(aE:aa X)(ac:ae)(Y:Nat):Prop:=∃i,m=R-i/\i<=R/\(∀aG,aG<i->a aG-1=L)/\aE=[bd cj,os,(R:X),(i:X)]/\ac=h/\Y=U
theorem ZS(K:fV Z)(H:ih Z room av aI cj pm a0 au x cI dc db L own g h U)(md:a0<=cj)(fq:L<1000):
  aH Q s 140 [bd cj] h U (λr ac Y=>r = .tuple ⟨[]⟩/\D0 Z room av aI cj pm a0 au x cI g U dc db (td Z.R L x.a) ac Y):=by
 refine asl ?_;obtain⟨a,ws,os,ap,og,fN,eQ,f7,G⟩:=H.hU;have a6:=G.at_;have bk:=G.p;have bl:=G.m;obtain⟨eP,cX,rfl,_⟩:=id G.or;have ww:=G.or;rw[v5]at a6 ww;have fW:=G.ap.lens;rw[G.L]at fW;unfold fM at a6;unfold ad1;refine bg @a6 ?_;refine bD.mk (NoJ Z.R L cj x.a (.slice eP Z.R cX) h U) Z.R ⟨0,J,J,J,rfl,rfl,rfl⟩ ?_;rintro _ _ ac Y ⟨i,rfl,aj,V,rfl,aV,aP⟩;subst ac Y;rw[aoF];unfold ZP
 by_cases cA:i<Z.R
 ·obtain⟨c,l,aU,so,bt,b0,cw,R⟩:=H.du i 0 cA K.hw;have j5:=R.o rfl;obtain⟨b,aO,cap,cs,bJ,e,dt,eG,gt⟩:=Ai  ww (λ_ _ e=>e) cA;cases e;refine cL @dt @eG ?_;refine⟨λ_=>?_,λh=>absurd cA h⟩;refine(akT  R.W j5.DU).fR ⟨J,?_⟩;have bV:IntKind.wrap .i64 ((i:Int)+1)=((i+1:Nat):Int):=cG (by have:=K.nF;omega);obtain⟨D9,UW,Mv,rfl⟩:∃a n c,ap = .slice a n c:=by
   have:=G.ap;generalize ap=v at this;cases this <;> grind
  simp(disch:=omega)only[bn,a6,iD,fW,bV,seval];refine⟨λe0=>?_,λbE=>?_⟩
  ·refine⟨own,g,?_,aK,J⟩;rw[show td Z.R L x.a=L from if_neg ab];exact H
  ·exact⟨_,J,i+1,rfl,J,ab,rfl,rfl,rfl⟩
 ·have:i=Z.R:=J
  subst this;refine aF ?_;refine⟨λh=>absurd h J,λ_=>?_⟩;refine(ahj K H V).mono ?_;rintro _ I P ⟨v,rfl,iY,cJ,fy⟩;have bB:=(cJ cj bk.1).trans a6;refine⟨fy,?_⟩;obtain⟨D9,UW,Mv,rfl⟩:∃a n c,ap = .slice a n c:=by
   have:=G.ap;generalize ap=v at this;cases this <;> grind
  simp(disch:=omega)only[bn,a6,bB,iD,seval];refine xD  (k:=5) (λ_=>rfl) (λ_=>rfl) J (G.ap.F λb e=>?_) v (aS _ _ _) rfl (by rw[G.L];omega) λE DK A=>?_
  ·have:=G.b b e;rw[aq J];exact cJ b this.1
  rw[G.L]at *
  have g2:u E cj=_:=(A cj J λe=>(G.b cj e).2.2.1 rfl).trans ((aq J).trans bB);refine⟨J,?_⟩;refine bg @g2 ?_;rw[show td Z.R L x.a=L+1 from if_pos V];generalize HB:T E cj _=aL;have fZ:∀d,d≠cj->u aL d=u E d:=ab
  have dj:u aL cj=some (.cells (fM a Z.N Z.R Z.C room ws pm (.slice eP Z.R cX) (.slice (some ⟨P+1,0,some 5⟩) (L+1) (L+1))) false):=by rw[<-HB,aS];rfl
  have dV:∀d,d<U->own d≠Z.G->u aL d=u h d:=λd I E=>by rw[fZ d (λe=>E ab),A d J (λe=>E (G.b d e).2.1),aq J];exact cJ d I
  obtain⟨da,b8,fU,D,qC,ay6⟩:=v0      (Y:=P+1+1) (some (P+1)) none J dV;have fs:=H.oo.F fU D (Nat.succ_ne_zero _);obtain⟨M,c,B⟩:=H.pS;have ay7:u aL pm=u h pm:=by rw[fZ pm bl.2.2,A pm J (λe=>(G.b pm e).2.2.2 rfl),aq J];exact cJ pm bl.1
  have aA5:∀b,b<U/\own b=Z.G/\b≠cj/\b≠pm/\f7≠some b->u aL b=u h b:=λb e=>by rw[fZ b e.2.2.1,A b J e.2.2.2.2,aq J];exact cJ b e.1
  have kt:Z.G=Z.R*Z.C+1:=rfl;refine⟨da,b8,⟨fU,λi j aj b1=>?_,⟨a,ws,_,_,og++[v],fN,eQ,some (P+1),dj,G.ws.F λb e=>aA5 b (G.lP b e),(by have:=G.os.F  λb e=>aA5 b (G.dq b e);rw[v5]at this;exact this),?_,λb e=>?_,λb e=>by have:=G.lP b e;exact⟨J,(D.dV b this.1).trans this.2.1,this.2.2.1,this.2.2.2.1,λe=>ab⟩,λb e=>by have:=G.dq b e;exact⟨J,(D.dV b this.1).trans this.2.1,this.2.2.1,this.2.2.2.1,λe=>ab⟩,by rw[jm,G.L];rfl,λt w e=>?_,⟨J,(D.dV cj bk.1).trans bk.2⟩,J,(D.dV pm bl.1).trans bl.2.1,bl.2.2⟩,⟨M,c,B.m.F ay7,λk w e=>?_,B.has⟩,J,λd bp=>?_⟩,fs,J⟩
  ·obtain⟨c,l,aU,so,bt,b0,cw,R⟩:=H.du i j aj b1;have:=ph aj b1;exact⟨c,l,aU,so,bt,b0,cw,R.other D.le D.same D.dV J fs rfl rfl (λ_=>⟨rfl,rfl⟩) (λ_=>⟨rfl,rfl,rfl⟩) λ_ _=>⟨rfl,rfl⟩⟩
  ·have:=fQ.own  (k:=5) DK;rw[jm,G.L]at this;exact this.F λb e=>ab
  ·grind
  ·rw[BB]at e
   split at e
   ·exact ja.F (G.st t w e) fs J
   ·rename_i eN
    rw[G.L]at eN e;have ck:t=L:=ab
    subst ck;rw[BK]at e;cases e;have ge:lF b8 U P (.agg ⟨GH Z.N v⟩) 0 (Z.N:Int) Z.N (cz Z.N (Z.eT.st t).A) (cz Z.N (Z.eT.st t).B) (Z.eT.st t).q:=by refine aoP iY (λb I E=>?_) (cD _) (cD _);rw[fU.new   J (λd I E=>ay6 d I (λe=>ab) nofun) b I E,fZ b J,A b J (λe=>by have:=G.b b e;omega),aq J]
    have Bt:=hf.F ge.rd (aA.refl P b8) (J:P<=P+1+1);unfold ja;simp only[iR];exact Bt
  ·obtain⟨aV,aP,b2,ch,e6⟩:=B.get k w e;refine⟨aV,aP,b2,ch,e6.other D.le (λd fr fG=>D.same d fr ?_) D.dV fs rfl (cD _) (cD _)⟩;rw[fG];unfold nn;omega
  ·have I:=H.hS d bp;exact⟨(D.dV d J).trans I.1,(D.same d J J).trans I.2⟩
end
section
variable {s:al} {g h:ae} {U:Nat} {Z:b5} {own:Nat->Nat} {x:f6} {room:Int} {av L dc db cj pm:Nat} {aI:Nat->Nat} {cI:Nat->Nat->aa cr} {a0:Nat} {au:ae}
theorem ahM(K:fV Z)(H:ih Z room av aI cj pm a0 au x cI dc db L own g h U)(md:a0<=pm)(qC:a0<=cj)(wF:1<=room)(nZ:room<=64){a b:Nat}(cY:a<Z.R*Z.C)(aT:b<Z.R*Z.C)(E:cI a b=[m])(bp:m.dst Z.C=b)(a1:mL Z.R Z.C av x m)(eF:av<900)(P:∀t,t<=av->(Z.fY t=0↔t<av))(B:A3 Z av)(bb:(x.out b).length<800)(bV:db<dc)(fq:L<1000):
  aH Q s 146 [bd cj,(a:X),(b:X),.int .i64 0] h U (λr ac Y=>r = .bool true/\D0 Z room av aI cj pm a0 au (cO Z.R Z.C av x m) (tF cI a b []) g U dc db (td Z.R L (cO Z.R Z.C av x m).a) ac Y):=by
 refine aiT ?_;obtain⟨cF,eE⟩:=ZR K m;have Ud:=KY K;refine(ab4 H md (⟨a,J⟩,⟨b,J⟩) cY aT wF nZ).mono ?_;rintro _ h1 bh ⟨b2,agC,bB,rfl,jh,⟨M,aCu,yU,aJ⟩,eX,fy,Kg1⟩;obtain⟨_,_,pb',e,S⟩:=yU.get _ _ aJ;cases e;rcases S with⟨e,_⟩|⟨bC,n,e,bH,dK⟩
 ·have e:cI a b=[]:=e;rw[E]at e;cases e
 have e:cI a b=[bC]:=e;rw[E]at e;cases e;refine(dK.take jh.oo (by unfold nn;omega) cF eE).mono ?_;rintro _ ar D ⟨ks,rfl,ed,R8,g2,aCy,MC,D8⟩;have hX:=jh.agx  (sD:=dc) (sE:=db) yU aJ MC D8 (.inl ⟨qj _ _ _ _,n+1,J,aCy⟩) (λa b e=>qk e) J J;unfold d8;refine aF ?_;generalize I:T (T ar D _) D _=aL;have fI:aA D ar aL:=by rw[<-I];exact aK
 have nt:u aL D=some (.cells (d8 ks) false):=by rw[<-I,aS];rfl
 have Ma:=jh.oo.F MC D8 (by unfold nn;omega);obtain⟨GI,dj,V,_,Mb,_⟩:=hX.still fI (sV D);obtain⟨i,j,aj,b1,rfl⟩:=J7 aT;obtain⟨c,l,aU,so,bt,b0,cw,Br⟩:=V.du i j aj b1;obtain⟨eg,ws,os,ap,og,fN,eQ,f7,G⟩:=V.hU;obtain⟨cd,aO,cap,cs,bJ,rfl,dt,eG,gt⟩:=Ai G.wr (λ_ _ e=>e) aT;have a6:=G.at_;unfold fM at a6;refine k7 @a6 @dt @eG @nt ?_;have Ue:lo aL bh (D+1) ks (pA Z m):=ed.F (λd fr fG=>fI d fG) J J;refine(Br.cO K V.oo a1 bp b1 eF P B Ue bb).mono ?_;rintro _ bm dH ⟨rfl,Aj,dL,hF,ly,bo4,so4,Ia,xe,A⟩;refine⟨A.le,?_⟩;have HC:=V.oo.F xe A J;have sQ:=V.work aj b1 xe A.le A.same A.dV HC ⟨_,_,_,_,_,_,_,Ia⟩ λaG oh e0=>aiY a1 J;refine(ZS K sQ qC fq).mono ?_;rintro _ b3 fT ⟨rfl,agD,gc,h8,Kg5,oJ⟩;have:=A.le;have:=D8.le;exact⟨agD,gc,h8,aK,J⟩
end
def np(k:iO):Int × Int:=((k.1.val:Int),(k.2.val:Int))
def Gl(k:iO):aa X:=Go.Ax.lb (np k)
theorem ZT:∀l:aa iO,bc Go.Ax.lb (l.map np)=bc Gl l
 | []=>rfl
 |k::l=>by show Go.Ax.lb (np k)++bc Go.Ax.lb (l.map np)=_;rw[ZT l];rfl
def Mf(p:Int × Int):iO:=(⟨p.1.toNat % 64,zf _ J⟩,⟨p.2.toNat % 64,zf _ J⟩)
theorem asx(k:iO):Mf (np k)=k:=by
 obtain⟨⟨a,A⟩,⟨b,B⟩⟩:=k;unfold Mf np
 grind
theorem asy{l:aa (Int × Int)}(h:∀x∈l,∃k:iO,np k=x):∃A:aa iO,A.map np=l:=by
 induction l with
 |nil=>exact⟨[],rfl⟩
 |cons x l B =>
  obtain⟨k,rfl⟩:=h _ (nI ..);obtain⟨A,rfl⟩:=B λy D=>h y (mx _ D);exact⟨k::A,rfl⟩
section
variable {s:al} {g h:ae} {U:Nat} {Z:b5} {own:Nat->Nat} {x:f6} {room:Int} {av L dc db cj pm:Nat} {aI:Nat->Nat} {cI:Nat->Nat->aa cr} {a0:Nat} {au:ae}
theorem Ui{l:aa iO}(A:l.Nodup):l.length<=4096:=by
 have:=Fa 4096 (l.map λe=>e.1.val*64+e.2.val) ab ab
 grind
theorem auZ(A:M.Pairwise λa b=>a.1≠b.1):M.length<=4096:=by
 have:=Ui (l:=M.map (·.1)) ab
 grind
theorem wV.at{k:iO}{b2:Nat}(S:wV Z room cI dc db own g h U k b2):b2<U/\∃P a n cap dv dd A D,u h b2=some (.cells (km P (.slice a n cap) dv dd A D) false)/\n=(if cI k.1.val k.2.val=[]then 0 else 1)/\A<=max dc (db+1):=by
 rcases S with⟨e,m,I,dv,dd,rw,dq,cX,gu,E,V,dZ,fA,K,_⟩|⟨m,bC,e,I,dv,dd,b,cX,gu,gk,hu,f,B,_⟩
 ·rw[if_pos e];rcases V with⟨rfl,_⟩|⟨b,w,_,rfl,_⟩
  all_goals exact⟨K,_,_,_,_,_,_,_,_,E,rfl,J⟩
 ·rw[if_neg ab];exact⟨B.oY,_,_,_,_,_,_,_,_,B.p,rfl,J⟩
theorem alb(H:ih Z room av aI cj pm a0 au x cI dc db L own g h U)(e0:∃a b,cI a b≠[]):
  aH Q s 144 [bd cj] h U (λr ac Y=>∃P:aa iO,r = .slice (some ⟨U,0,some 2⟩) P.length P.length/\ac=T h U (.cells (bc Gl P) false)/\Y=U+1/\P.Nodup/\∀k:iO,k∈P↔cI k.1.val k.2.val≠[]):=by
 obtain⟨a,ws,os,ap,og,fN,eQ,f7,G⟩:=H.hU;obtain⟨M,c,B⟩:=H.pS;have dI:∀e∈M,∃b2,e.2.1 = (bd b2)/\wV Z room cI dc db own g h U e.1 b2:=λe bE=>by obtain⟨_,_,b2,aV,aP⟩:=B.get e.1 e.2.1 ((Jd B.m.oQ).2 ⟨e.2.2,bE⟩);exact⟨b2,aV,aP⟩
 obtain⟨K,pD⟩:∃l:aa iO,l=(M.filter λe=>decide (cI e.1.1.val e.1.2.val≠[])).map (·.1):=⟨_,rfl⟩
 have aw5:∀k:iO,k∈K↔cI k.1.val k.2.val≠[]:=λk=>by
  rw[pD];constructor
  ·grind
  ·intro h;obtain⟨dm,aV,aP,ch⟩:=B.has _ _ h;have cn:dm=k:=ab
   rw[cn]at ch;obtain⟨v,aJ⟩:=MF.1 ch;obtain⟨n,bH⟩:=(Jd B.m.oQ).1 aJ;exact f0.2 ⟨(k,v,n),ab,rfl⟩
 have agE:K.Nodup:=by rw[pD];exact xj.2 (B.m.oQ.filter _)
 have rk:=Ui agE;obtain⟨-,bk,me⟩:=NF YQ (K.map np);generalize qc kT (K.map np)=mR at bk me;obtain⟨P,rfl⟩:=asy (l:=mR) λx a1=>by obtain⟨k,_,e⟩:=f0.1 (bk.subset a1);exact⟨k,e⟩
 have A:P.Perm K:=by have:=bk.map Mf;rw[ot,ot,show Mf ∘ np=id from funext asx,Ez,Ez]at this;exact this
 have yw:P≠[]:=λe=>by
  obtain⟨a,b,yu⟩:=e0;obtain⟨k,aV,aP,_⟩:=B.has a b yu
  grind
 have a6:=G.at_;have hpg:=G.p.1;have sj:pm<U:=G.m.1;unfold fM at a6;refine aH.mR (val:=λb=>.slice (some ⟨b,0,some 2⟩) P.length P.length) (cs:=bc Go.Ax.lb (P.map np)) (EN (λ_=>rfl) _) Xg ?_ ⟨P,rfl,by rw[ZT],rfl,(A.nodup_iff).2 agE,λk=>(A.mem_iff).trans (aw5 k)⟩;refine aoz ?_;unfold abW;refine l5 @a6 ?_;refine B.m.jp λaL I e8=>?_;refine bD.mk (λm aE ac Y=>∃acc D o,m=D.length/\aE=[o,bd U]/\d5 ac o Go.Ax.lb 2 acc (U+1) Y/\wJ ac U pm c M D/\(acc++((D.filter λe=>decide (cI e.1.1.val e.1.2.val≠[])).map (·.1)).map np).Perm (K.map np)/\(∀e∈D,e∈M)/\aA U h ac/\U+1<=Y) M.length
  ⟨[],M,_,rfl,rfl,.inl ⟨rfl,rfl⟩,I,by rw[pD];exact BH _,λe h=>h,λc aZ=>e8 c J,J⟩ ?_
 rintro _ _ bm dH ⟨acc,D,o,rfl,rfl,Ha,H6,V,pE,fP,ir⟩;rw[akX];unfold XO;refine(B.m.F (fP pm sj)).fE H6 J (λaM=>?_) λe E b3 bE oP Bq hq HD=>?_
 ·subst aM;simp only[List.filter_nil,zd,hZ]at V;refine m8 ?_;rcases id Ha with⟨rfl,rfl⟩|⟨o0,ig,fw,rfl,SV⟩
  ·have aM:=List.map_eq_nil_iff.1 (List.nil_perm.1 V);rw[aM]at A;exact absurd (List.perm_nil.1 A) yw
  ·have:=V.length_eq;rw[gH]at this;refine(aqE rfl J fw SV).mono ?_;rintro _ cF n6 ⟨lD,⟨b6,wC,nd,hh⟩,wL⟩;have:b6=P.map np:=ND (R:=λx y=>¬kT y x<0) (λx y=>aje x y) (wC.trans (V.trans bk.symm)) nd me;subst this;exact⟨o0,by rw[<-wC.length_eq,gH],J,hh,λc aZ=>by rw[wL c J J];exact fP c aZ⟩
 ·obtain⟨b2,ec,S⟩:=dI e bE;obtain⟨GS,Uv,eg,jM,mC,dv,dd,iv,lC,aT,bH,_⟩:=S.at
  rw[ec]at HD ⊢;have nB:=oP.length_eq;simp only[nJ]at nB;have bl:∀x∈E,x∈M:=λx a1=>pE x (oP.mem_iff.2 (mx _ a1));have hpf:=((oP.filter λe=>decide (cI e.1.1.val e.1.2.val≠[])).map (·.1)).map np;rw[qQ]at hpf;have AO:=(List.Perm.append_left acc hpf).symm.trans V;simp(disch:=omega)only[bn,↓reduceIte,Nat.reduceAdd,Nat.reduceSub,Nat.reduceMul,Nat.reduceLT,Nat.reduceLeDiff,Nat.reduceEqDiff,Int.reduceBEq,Int.reduceLT,Int.reduceNeg,HD,show dh (ps e.1)=[(e.1.1.val:X),(e.1.2.val:X)]from rfl];refine(FL (((aq J).trans ((aq J).trans ((hq b2 J).trans (fP b2 GS)))).trans aT)).fR ?_;rw[bH]
  by_cases au:cI e.1.1.val e.1.2.val=[]
  ·rw[if_pos au];rw[if_neg (by simp[au])]at AO;refine m8 ?_;refine⟨λaZ=>absurd aZ J,λ_=>⟨_,J,acc,E,o,rfl,rfl,Ha.F (λd h1 ar=>(aq J).trans ((aq J).trans (hq d J))) J,Bq.F ((aq J).trans (aq J)),AO,bl,λd bp=>(aq J).trans ((aq J).trans ((hq d J).trans (fP d bp))),J⟩⟩
  ·rw[if_neg au];rw[if_pos (by simp[au]),t9,t9]at AO;have Lr:=V.length_eq;simp only[jm,gH]at Lr;refine m8 ?_;refine⟨λ_=>?_,λaZ=>absurd J aZ⟩;refine l4 (enc:=Go.Ax.lb) (k:=2) (ao:=U+1) (λ_=>rfl) (λ_=>rfl) J (Ha.F (λd h1 ar=>(aq J).trans ((aq J).trans ((aq J).trans (hq d J)))) J) J (np e.1) (aS _ _ _) rfl J λHS cF hs6 hM=>?_;refine⟨_,J,acc++[np e.1],E,HS,rfl,rfl,hs6,?_,by rw[kv];exact AO,bl,λd bp=>(hM d J).trans ((aq J).trans ((aq J).trans ((aq J).trans ((hq d J).trans (fP d bp))))),J⟩;exact Bq.F ((hM U J).trans ((aq J).trans ((aq J).trans (aq J))))
end
section
variable {s:al} {g h:ae} {U:Nat} {Z:b5} {own:Nat->Nat} {x:f6} {room:Int} {av L n w cj pm:Nat} {aI:Nat->Nat} {cI:Nat->Nat->aa cr} {a0:Nat} {au:ae}
structure agF (Z:b5) (room:Int) (av cj pm a0:Nat):Prop where
 K:fV Z
 m0:a0<=pm
 m1:a0<=cj
 eo:1<=room
 gY:room<=64
 aA6:av<900
 fY:∀t,t<=av->(Z.fY t=0↔t<av)
 B:A3 Z av
structure HE (Z:b5) (av n K:Nat) (x:f6) (cI:Nat->Nat->aa cr) (L:Nat):Prop where
 P:oI Z.R Z.C av x cI
 D:pH Z.R Z.C n K x cI
 S:uO Z.R x L
def WiJ(Z:b5)(room:Int)(av:Nat)(aI:Nat->Nat)(cj pm a0:Nat)(au:ae)(x:f6)(g:ae)(U n w L:Nat)(m:Nat)(aE:aa X)(ac:ae)(Y:Nat):Prop :=
 ∃k f4 oX lx,m=Z.R*Z.C-k/\k<=Z.R*Z.C/\aE=[bd cj,.bool lx,((Z.R*Z.C:Nat):X),(k:X)]/\D0 Z room av aI cj pm a0 au f4 oX g U w w L ac Y/\HE Z av n k f4 oX L/\((lx=true/\∃a b,oX a b≠[])\/(lx=false/\f4=x/\∀dm,dm<k->x.out dm=[]))
def WiI(Z:b5)(room:Int)(av:Nat)(aI:Nat->Nat)(cj pm a0:Nat)(au:ae)(g:ae)(U n w cU:Nat)(Bu:aa iO)(m:Nat)(aE:aa X)(ac:ae)(Y:Nat):Prop :=
 ∃i f4 oX qN da b8,m=Bu.length-i/\i<=Bu.length/\aE=[bd cj,.bool true,.slice (some ⟨cU,0,some 2⟩) Bu.length Bu.length,(Bu.length:X),(i:X)]/\ih Z room av aI cj pm a0 au f4 oX (w+1) w qN da b8 ac Y/\aA U g b8/\U<=Y/\cU<Y/\u b8 cU=some (.cells (bc Gl Bu) false) /\
  HE Z av n (Z.R*Z.C) f4 oX qN/\∀k:iO,k∈Bu.drop i↔oX k.1.val k.2.val≠[]
theorem ai0(qO:agF Z room av cj pm a0)(H:ih Z room av aI cj pm a0 au x cI w w L own g h U)(gL:HE Z av n 0 x cI L)(bV:w+1<100000)(e0:∃k,k<Z.R*Z.C/\x.out k≠[]):
  aH Q s 72 [bd cj] h U (λr ac Y=>r = .bool true/\∃f4 oX qN,D0 Z room av aI cj pm a0 au f4 oX g U (w+1) (w+1) qN ac Y/\HE Z av (n+1) 0 f4 oX qN):=by
 refine ak2 ?_;have K:=qO.K;have ed:=K.hw;have dW:=K.lA;have Ud:=KY K;obtain⟨a,ws,os,ap,og,fN,eQ,f7,G⟩:=H.hU;have a6:=G.at_;obtain⟨gy,ny,rfl,_⟩:=id G.wr;rw[v5]at a6;unfold ZN bw ax aW ad cV;simp(disch:=omega)only[bn,pc zX,a6,seval];refine bD.mk (WiJ Z room av aI cj pm a0 au x g U n w L) (Z.R*Z.C) ⟨0,x,cI,false,J,J,rfl,⟨own,g,H,aK,J⟩,gL,ab⟩ ?_;rintro _ _ h1 bh ⟨k,ii,Mg,lx,rfl,hk,rfl,⟨agC,bB,jh,Kg1,fy⟩,D,hbl⟩;rw[aiR];unfold WH cH cg aW
 by_cases cA:k<Z.R*Z.C
 ·have wW:IntKind.wrap .i64 ((k:Int)+1)=((k+1:Nat):Int):=cG J;have Uj:decide ((k:Int)<((Z.R*Z.C:Nat):Int))=true:=ab
  rw[JA,Uj];cases eU:ii.out k with
  |nil =>
   refine aF ?_;refine(ala K jh cA eU).mono ?_;rintro _ ar bX ⟨rfl,E,g2,hX,Ma,eZ⟩;refine bg @wW ?_;refine⟨_,J,k+1,ii,Mg,lx,rfl,cA,rfl,⟨E,g2,hX,aK,J⟩,⟨D.P,D.D.skip eU,D.S⟩,?_⟩
   grind
  |cons m r =>
   have bp:=(J0 ed (D.P.eX k m ab).2).2;have pD:Mg k (m.dst Z.C)=[]:=D.D.t3 k _ J;refine aF ?_;refine(aoN K jh qO.m0 qO.eo qO.gY cA eU bp pD J J).mono ?_;rintro _ ar bX ⟨rfl,E,g2,hX,Ma,eZ⟩;refine bg @wW ?_;have dt:=D.P.pick eU;have eG:=D.D.pick eU;rw[pD]at dt eG;exact⟨_,J,k+1,_,_,true,rfl,cA,rfl,⟨E,g2,hX,aK,J⟩,⟨dt,eG,D.S⟩,.inl ⟨rfl,k,m.dst Z.C,by rw[qj];grind⟩⟩
 ·have:k=Z.R*Z.C:=J
  subst this;have Sa:lx=true/\∃a b,Mg a b≠[]:=ab
  obtain⟨rfl,Sa⟩:=Sa;refine aF ?_;refine⟨λh=>absurd h J,λ_=>?_⟩;refine(alb jh Sa).mono ?_;rintro _ _ _ ⟨P,rfl,rfl,rfl,Uk,KA⟩;refine aF ?_;obtain⟨E,g2,hX,_,Ma,hz2⟩:=jh.still (show aA bh h1 (T h1 bh (.cells (bc Gl P) false))from(aA.refl _ _).set (cD _)) (sV bh);refine bD.mk (WiI Z room av aI cj pm a0 au g U n w bh P) P.length ⟨0,ii,Mg,L,E,g2,J,J,rfl,hX.mono J J,aK,J,J,?_,D,ab⟩ ?_
  ·rw[hX.oo bh,if_pos ⟨J,hz2 bh (cD _)⟩,aS]
  rintro _ _ aL V ⟨i,hE,A6,Ib,GI,dj,rfl,aj,rfl,i4,Mb,gA,wA,oU,A,TQ⟩;rw[aiS];unfold WI cH cg ax hv bG aW b9 c0 ad aN bT bW
  by_cases tv:i<P.length
  ·have a1:P[i]? = some P[i]:=ab
   generalize P[i]=k at a1;have LV:P.drop i=k::P.drop (i+1):=by rw[kL tv]at a1;cases a1;exact Bw tv
   have AU:A6 k.1.val k.2.val≠[]:=ab
   have yw:=Ui Uk;have ay8:=i4.oo.sub _ _ oU;have kl:h0 (some 2) (i*2) (bc Gl P) = .ok (.agg ⟨[(k.1.val:X),(k.2.val:X)]⟩):=by rw[p6,if_pos (by rw[gg (k:=2) (λ_=>rfl)];omega),um (k:=2) (λ_=>rfl) a1];rfl
   have Hw:decide ((i:Int)<(P.length:Int))=true:=ab
   have yG:IntKind.wrap .i64 ((i:Int)+1)=((i+1:Nat):Int):=cG J;obtain⟨a,ws,os,ap,og,fN,eQ,f7,G⟩:=i4.hU;have a6:=G.at_;have hpg:=G.p;have sj:=G.m;unfold fM at a6;refine hK @Hw @ay8 @kl ?_;have A5:∀{o aX},u (T (T aL V o) V aX) cj=_:=λ{o aX}=>(aq J).trans ((aq J).trans a6);obtain⟨M,c,B⟩:=i4.pS;obtain⟨dm,aV,aP,ch⟩:=B.has _ _ AU;have cn:dm=k:=Prod.ext (Fin.ext aV) (Fin.ext aP);rw[cn]at ch;obtain⟨v,aJ⟩:=MF.1 ch;obtain⟨cY,aT,b2,rfl,S⟩:=B.get k v aJ;have I:=λo aX=>wp JR (B.m.F (ac:=T (T aL V o) V aX) ((aq J).trans (aq J))) (k:=k) (z:=.pointer none) (ok:=false);rw[aJ,show ps k = .agg ⟨[(k.1.val:X),(k.2.val:X)]⟩from rfl]at I
   replace I:=λo aX=>(I o aX).trans (show _=R.ok (Value.pointer (some ⟨b2,0,none⟩))from rfl)
   refine cL @a6 @I ?_;generalize Ul:T (T aL V _) V _=bm;have gR:aA V aL bm:=by rw[<-Ul];exact((aA.refl _ _).set (cD _)).set (cD _)
   have cR:u bm V=some (.cells [(k.1.val:X),(k.2.val:X)] false):=ab
   obtain⟨Aj,dL,sQ,ay9,HC,_⟩:=i4.still gR (sV V);have Bt:wV Z room A6 (w+1) w Aj dL bm (V+1) k b2:=S.other (sV V) (λd fr _=>gR d fr) ay9 HC rfl (cD _) (cD _);rcases Bt with⟨e,_⟩|⟨m,Ee,Um,_,xe⟩
   ·exact absurd e AU
   ·refine⟨λ_=>?_,λh=>absurd tv h⟩;refine xe.len.fR ?_;refine xe.auW.cn λb3 fT mW oJ=>⟨oJ,?_⟩
    have jx:=(mW V J).trans cR;simp(disch:=omega)only[bn,cR,jx,iD,seval];obtain⟨agD,gc,h8,_,Kg5,_⟩:=sQ.still mW oJ;obtain⟨fF,gj,mu⟩:=A.P.dO k.1.val k.2.val m ab;have a1:=Ct A.P.ord ed mu;have fq:=A.S.le A.P.ord;have eF:=qO.aA6;refine(ahM K h8 qO.m0 qO.m1 qO.eo qO.gY cY aT Um gj a1 qO.aA6 qO.fY qO.B (by have:=A.P.len ed K.nF K.mw k.2.val;omega) (Ir w) J).mono ?_;rintro _ cF n6 ⟨rfl,aza,ol,aCz,Kg6,lD⟩;refine⟨lD,?_⟩;refine bg @yG ?_;have Bn:aA V dj ol:=(HC.trans Kg5 J).trans Kg6 J;refine⟨_,J,i+1,_,_,_,aza,ol,rfl,tv,rfl,aCz,Mb.trans Bn gA,J,J,(Bn bh wA).trans oU,⟨A.P.O8 ed dW Um,A.D.O8 A.P ed (cD _) Um,A.S.step A.P.ord a1⟩,λdm=>?_⟩;have hnk:k ∉ P.drop (i+1):=by
     have:=(Uk.sublist (List.drop_sublist i P))
     grind
    by_cases ekk:dm=k
    ·subst ekk;rw[qj]
     grind
    ·rw[qk λe=>ekk (Prod.ext (Fin.ext e.1) (Fin.ext e.2)),<-TQ dm,LV,g5]
     grind
  ·have:i=P.length:=J
   subst this;refine aF ?_;refine⟨λh=>absurd h (Nat.lt_irrefl _),λ_=>?_⟩;have cZ:∀a b,A6 a b=[]:=λa b=>vw λbH=>by
    obtain⟨M,c,B⟩:=i4.pS;obtain⟨k,aV,aP,_⟩:=B.has a b bH
    grind
   exact⟨hE,A6,Ib,⟨GI,dj,i4.mono (cD _) (sV w),Mb,gA⟩,A.P,A.D.next A.P ed (cD _) cZ,A.S⟩
end
section
variable {s:al} {h:ae} {U:Nat} {Z:b5} {av:Nat}
structure NeI (Z:b5) (av:Nat) (room:Int) (a0:Nat) (au:ae) (cj pm k r:Nat) (aI:Nat->Nat) (a:Nat->X) (ws os:X) (fN eQ:aw Nat) (own:Nat->Nat) (g h:ae) (U:Nat):Prop where
 oo:je own h U g
 du:∀i j,i<Z.R->j<Z.C->i*Z.C+j<k->∃c l aU so bt b0 cw,jt Z av (mi Z.R Z.C) i j own g h U (aI (i*Z.C+j)) c l aU so bt b0 cw
 at_:u h cj=some (.cells (fM a Z.N Z.R Z.C room ws pm os (.slice none 0 0)) false)
 ws:gP h r8 ws ((List.range k).map aI) fN
 os:gP h r8 os ((List.range r).map λi=>aI (i*Z.C)) eQ
 lP:∀b,fN=some b->b<U/\own b=Z.G/\b≠cj/\b≠pm
 dq:∀b,eQ=some b->b<U/\own b=Z.G/\b≠cj/\b≠pm/\fN≠some b
 m:u h pm=some (.map [] 0)
 p:cj<U/\own cj=Z.G
 pm:pm<U/\own pm=Z.G/\pm≠cj
 eo:k<=r*Z.C/\(r=0\/(r-1)*Z.C<k)
 gQ:a0<=U
 hS:∀d,d<a0->own d=0/\u h d=u au d
def NeJ(Z:b5)(av:Nat)(room:Int)(a0:Nat)(au:ae)(cj pm cp:Nat)(st:aa X)(ao:Nat)(m:Nat)(aE:aa X)(ac:ae)(Y:Nat):Prop :=
 ∃k r aI a ws os fN eQ own g,m=Z.R*Z.C-k/\k<=Z.R*Z.C/\aE=[bd cp,.pointer none,.int .i64 0,bd cj,((Z.R*Z.C:Nat):X),(k:X)]/\NeI Z av room a0 au cj pm k r aI a ws os fN eQ own g ac Y/\u ac cp=some (.cells st false)/\own cp=0/\ao<=Y
theorem aw6{f:Nat->Nat}{k v:Nat}:(List.range (k+1)).map (up f k v)=(List.range k).map f++[v]:=by
 rw[p4,iF,List.map_singleton,gV]
 congr 1
 exact o9 λi aj=>g6 ab
theorem au0{ba bx c4 E D UP K P I V A B:X}{m:aw Nat}:q5 (pk [(13,1,.map m)]) 0 12 [aC,aB,a2,a3,aY,bN,bu,ba,bx,c4,E,D] [nx,jl,z2,z3,z4,yW,Bk,rQ,U8,UP,K,P,I,V,A,B] = .ok [aC,aB,a2,a3,aY,bN,bu,ba,bx,c4,E,D,I,.map m,A,B]:=rfl
theorem asz(K:fV Z){x:iI}(H:pr h U x eR gO e1)(An:cN h U e1 yh [])(yn:x.u9=0)(Lb:x.bM.length<1000000)(ju:he x=0)(z:Z.k=x.k/\x.n=(Z.N:Int)/\Z.src=x.src/\Z.len=x.len/\Z.bM=x.bM/\x.R=(Z.R:Int)/\x.C=(Z.C:Int)/\x.lim=(Z.lim:Int))(hg:uS x.k (x.es.map nl) Z.ag):
  aH Q s 70 [.agg ⟨gB x eR gO e1⟩] h U (λr ac Y=>∃cj pm aI own g,r = .tuple ⟨[bd cj,.int .i64 0]⟩/\U<=cj/\U<=pm/\ih Z x.M av aI cj pm U h (mi Z.R Z.C) (λ_ _=>[]) 0 0 1 own g ac Y):=by
 refine auI ?_;obtain⟨jl,z2,z3,z4,yW,Bk,rQ,U8⟩:=id z;have ed:=K.hw;have dW:=K.lA;have Un:=K.mw;have hR8:=K.nF;have Ud:=KY K;have kt:Z.G=Z.R*Z.C+1:=rfl;obtain⟨a8,gM,rfl,_⟩:=id H.d;obtain⟨bY,sN,rfl,_⟩:=id H.e;obtain⟨bQ,hr,rfl,_⟩:=id An;have bZ:∀{o},aA U h (T h U o):=aK
 unfold afn gB;refine m8 ?_;refine(Jj (H.F aK J)).cn λE A cJ fy=>?_;have dt:=(cJ U J).trans (aS _ _ _);unfold gB at dt;rw[ju];have Vd:∀{o aX},u (T (T E A o) (A+1) aX) U=_:=λ{o aX}=>(aq J).trans ((aq J).trans dt);have afJ:IntKind.wrap .i64 ((Z.R:Int)*(Z.C:Int))=((Z.R*Z.C:Nat):Int):=by rw[<-Int.natCast_mul];exact iT _ J
 have qN1:∀{o},u (T E A o) U=_:=λ{o}=>(aq J).trans dt;simp(disch:=omega)only[bn,↓reduceIte,Nat.reduceAdd,Nat.reduceSub,Nat.reduceMul,Nat.reduceLT,Nat.reduceLeDiff,Nat.reduceEqDiff,Int.reduceBEq,Int.reduceLT,Int.reduceNeg,dt,qN1,Vd,Bk,rQ,zy,afJ,au0];generalize n2:T (T E A _) (A+1) _=V;have eA:aA U h V:=by rw[<-n2];exact aK
 have k2:u V U=some (.cells (gB x (.slice a8 x.bM.length gM) (.slice bY x.es.length sN) (.slice bQ ([]:aa (Int × Int)).length hr)) false):=by rw[<-n2];exact Vd
 have g2:u V (A+1)=some (.cells (fM (λn=>(gB x (.slice a8 x.bM.length gM) (.slice bY x.es.length sN) (.slice bQ ([]:aa (Int × Int)).length hr))[n]?.getD .nilFunc) Z.N Z.R Z.C x.M (.slice none 0 0) A (.slice none 0 0) (.slice none 0 0)) false):=by rw[<-n2,aS];unfold fM gB;rw[z2,Bk,rQ];rfl
 have m2:u V A=some (.map [] 0):=ab
 clear n2 Vd qN1 dt;obtain⟨cv,aA7⟩:=CA (λd=>if d=A\/d=A+1 then Z.G else 0) V (A+1+1);refine bD.mk (NeJ Z av x.M U h (A+1) A U (gB x (.slice a8 x.bM.length gM) (.slice bY x.es.length sN) (.slice bQ ([]:aa (Int × Int)).length hr)) (A+1+1)) (Z.R*Z.C) ⟨0,0,λ_=>0,_,_,_,none,none,_,cv,J,J,rfl,⟨aA7,(λi j _ _ h=>absurd h J),g2,.nil,.nil,ab,ab,m2,ab,ab,J,J,λd P=>⟨ab,eA d P⟩⟩,k2,if_neg J,J⟩ ?_;clear g2 m2 aA7 cv;rintro _ _ aL bS ⟨k,r,aI,a,ws,os,fN,eQ,own,g,rfl,hk,rfl,I,nt,eX,gA⟩;rw[asj];unfold abZ bw ls cH cg ax bf aW b9 jg c0 ad aN bT
 by_cases cA:k<Z.R*Z.C
 ·obtain⟨i,j,aj,b1,rfl⟩:=J7 cA;have Uj:decide (((i*Z.C+j:Nat):Int)<((Z.R*Z.C:Nat):Int))=true:=g4 J;have wW:IntKind.wrap .i64 (((i*Z.C+j:Nat):Int)+1)=((i*Z.C+j+1:Nat):Int):=cG J;have HF:=nt;have yq:U<bS:=J
  unfold gB at HF;rw[JA,Uj];refine te @HF @rQ ?_;refine(PS  ed Un J b1).fR ⟨cD _,?_⟩;simp(disch:=omega)only[bn,↓reduceIte,Nat.reduceAdd,Nat.reduceSub,Nat.reduceMul,Nat.reduceLT,Nat.reduceLeDiff,Nat.reduceEqDiff,Int.reduceBEq,Int.reduceLT,Int.reduceNeg,HF,rQ,iD];refine(PT  ed Un J b1).fR ⟨cD _,?_⟩;have Eg:nQ (.agg ⟨gB x (.slice a8 x.bM.length gM) (.slice bY x.es.length sN) (.slice bQ ([]:aa (Int × Int)).length hr)⟩) (.agg ⟨gB x (.slice a8 x.bM.length gM) (.slice bY x.es.length sN) (.slice bQ ([]:aa (Int × Int)).length hr)⟩)=true:=by unfold gB;simp(disch:=omega)only[bn,↓reduceIte,Nat.reduceAdd,Nat.reduceSub,Nat.reduceMul,Nat.reduceLT,Nat.reduceLeDiff,Nat.reduceEqDiff,Int.reduceBEq,Int.reduceLT,Int.reduceNeg,iD]
  unfold gB at Eg;rw[rQ]at Eg;refine Gf @HF @rQ @rY @Eg ?_;have fI:aA U h aL:=λd P=>(I.hS d P).2;rw[<-rQ];refine(asf  K (H.F fI I.gQ) (An.F fI I.gQ) yn Lb ju aj b1 z K.n60 hg).mono ?_;rintro _ bm B ⟨qP,c,aU,bt,b0,cw,l,dL,rfl,N,ir⟩;have gc:=(N.k (A+1) I.p.1).trans I.at_;unfold fM at gc;refine⟨ir,?_⟩;refine l5 @gc ?_;have wb4:∀b,fN=some b->b<bS/\own b=Z.G/\b≠A+1/\b≠A:=I.lP;refine xD  (k:=1) (λ_=>rfl) (λ_=>rfl) J (I.ws.hU.F λb e=>?_) qP (aS _ _ _) rfl ab λb3 Dz tD=>?_
  ·have:=I.lP b e;rw[aq J];exact N.k b this.1
  rw[v5]at *
  have ol:u b3 (A+1)=_:=(tD _ J λe=>(I.lP _ e).2.2.1 rfl).trans ((aq J).trans gc);have jx:∀{o},u (T b3 (A+1) o) U=_:=λ{o}=>(aq J).trans ((tD U J λe=>ab).trans ((aq J).trans ((N.k U yq).trans HF)));refine Q3 @ol @jx @rQ ?_;refine(PT  ed Un J b1).fR ?_;generalize Me:T b3 (A+1) _=cF;have nv:∀d,d≠A+1->u cF d=u b3 d:=λd e=>ab
  have qJ:u cF (A+1)=some (.cells (fM a Z.N Z.R Z.C x.M (.slice (some ⟨B+1,0,some 1⟩) (i*Z.C+j+1) (i*Z.C+j+1)) A os (.slice none 0 0)) false):=by rw[<-Me,aS];rfl
  clear Me;have nG:gP cF r8 (.slice (some ⟨B+1,0,some 1⟩) (i*Z.C+j+1) (i*Z.C+j+1)) ((List.range (i*Z.C+j+1)).map (up aI (i*Z.C+j) qP)) (some (B+1)):=
   .inr ⟨B+1,rfl,ab,by rw[nv _ J,Dz,aw6]⟩
  have agG:∀d,d<B->d≠A+1->fN≠some d->u cF d=u bm d:=λd fr fG hW=>by rw[nv d fG,tD d J hW,aq J]
  have aA8:gP cF r8 os ((List.range r).map λi=>aI (i*Z.C)) eQ:=I.os.F λb e=>by have:=I.dq b e;rw[agG b J this.2.2.1 this.2.2.2.2,N.k b this.1]
  have fin:∀(ac:ae) (jM yN:Nat) (Mh:X) (D:aw Nat),B+2<=jM->(∀d,d<B+2->d≠A+1->eQ≠some d->u ac d=u cF d)->u ac (A+1)=some (.cells (fM a Z.N Z.R Z.C x.M (.slice (some ⟨B+1,0,some 1⟩) (i*Z.C+j+1) (i*Z.C+j+1)) A Mh (.slice none 0 0)) false) ->
    gP ac r8 Mh ((List.range yN).map λaG=>up aI (i*Z.C+j) qP (aG*Z.C)) D->(D=eQ/\(∀b,eQ=some b->u ac b=u cF b)\/∃b,D=some b/\B+2<=b/\b<jM)->(i*Z.C+j+1<=yN*Z.C/\(yN=0\/(yN-1)*Z.C<i*Z.C+j+1)) ->
    NeJ Z av x.M U h (A+1) A U (gB x (.slice a8 x.bM.length gM) (.slice bY x.es.length sN) (.slice bQ ([]:aa (Int × Int)).length hr)) (A+1+1) (Z.R*Z.C-(i*Z.C+j+1)) [bd U,.pointer none,.int .i64 0,.pointer (some ⟨A+1,0,none⟩),((Z.R*Z.C:Nat):X),((i*Z.C+j+1:Nat):X)] ac jM:=by
   intro ac jM yN Mh D SA Ap sz j5 hh hr'
   let eb:=i*Z.C+j+1
   let da:Nat->Nat:=λd=>if d<bS then own d else if d=qP\/d=bt\/d=b0\/d=cw\/aU=some d then eb else if d=B+1\/D=some d then Z.G else 0
   obtain⟨b8,fU⟩:=CA da ac jM;have jA:∀d,d<bS->da d=own d:=λd P=>if_pos P;have W:=N.W;have aB:=N.eo;have a2:=N.gY;have a3:=N.i1;have Ic:∀d,bS<=d->(d=qP\/d=bt\/d=b0\/d=cw\/aU=some d)->da d=eb:=λd E V=>ab
   have H9:∀d,B<=d->(d=B+1\/D=some d)->da d=Z.G:=λd E V=>by
    show(if d<bS then own d else if d=qP\/d=bt\/d=b0\/d=cw\/aU=some d then eb else if d=B+1\/D=some d then Z.G else 0)=Z.G;rw[if_neg J,if_neg (by
     rintro(e|e|e|e|e)
     ·have:=W.lt;omega
     ·omega
     ·omega
     ·omega
     ·have:=W.aU d e;omega),if_pos V]
   have bqn:∀d,D=some d->eQ=some d\/B+2<=d:=λd e=>ab
   have HL:∀d,bS<=d->d≠qP->d≠bt->d≠b0->d≠cw->aU≠some d->d<B->da d=0:=λd E V aL bm b3 cF eE=>by
    show(if d<bS then own d else if d=qP\/d=bt\/d=b0\/d=cw\/aU=some d then eb else if d=B+1\/D=some d then Z.G else 0)=0;rw[if_neg J,if_neg ab,if_neg (by
     rintro(e|e)
     ·omega
     ·rcases bqn d e with e|e
      ·have:=I.dq d e;omega
      omega)]
   have afw:∀d,d<B->d≠A+1->fN≠some d->eQ≠some d->u ac d=u bm d:=λd fr fG hW nE=>(Ap d J fG nE).trans (agG d fr fG hW);have same:∀d,d<B->da d≠Z.G->u ac d=u bm d:=λd fr fG=>afw d fr (λe=>fG (by rw[e,jA _ I.p.1];exact I.p.2)) (λe=>fG ab) λe=>fG (by have:=I.dq d e;grind);have Bt:kU dL b8:=λd o P=>by
    have E:bS<=d:=Nat.le_of_not_lt λbb=>by rw[N.o d bb]at P;grind
    have V:d<B:=Er λbb=>by rw[N.G.n d bb]at P;grind
    have au:da d=0:=HL d E (λe=>by rw[e,N.G.p]at P;grind) (λe=>ab) (λe=>ab) (λe=>ab) (λe=>by rw[(N.b d e).2]at P;grind) V;rw[fU d,if_pos ⟨J,au⟩,same d V J];exact N.G.s d o P
   have fs:aA bS g b8:=λd P=>by
    rw[I.oo d,fU d,jA d P]
    by_cases e:own d=0
    ·rw[if_pos ⟨J,e⟩,if_pos ⟨P,e⟩,same d J ab];exact N.k d P
    grind
   have Ia:jt Z av (mi Z.R Z.C) i j da b8 bm B qP c l aU none bt b0 cw:=jt.init K N Bt aj b1 (Ic qP N.p (.inl rfl)) (λb e=>Ic b (N.b b e).1 (.inr (.inr (.inr (.inr e))))) (Ic bt aB.1 (.inr (.inl rfl))) (Ic b0 a2.1 (.inr (.inr (.inl rfl)))) (Ic cw a3.1 (.inr (.inr (.inr (.inl rfl)))));have w9:i*Z.C+j+1≠Z.G:=J
   have azM:(A:Nat)≠A+1:=J
   refine⟨i*Z.C+j+1,yN,up aI (i*Z.C+j) qP,a,_,Mh,some (B+1),D,da,b8,rfl,cA,rfl,⟨fU,λaG oh dy Uo Rx=>?_,sz,nG.F λb e=>?_,j5,λb e=>?_,λb e=>?_,?_,⟨?_,?_⟩,⟨?_,?_,I.pm.2.2⟩,hr',?_,λd P=>?_⟩,?_,?_,?_⟩
   ·by_cases e:aG*Z.C+oh=i*Z.C+j
    ·obtain⟨rfl,rfl⟩:=s5 e Uo b1;refine⟨c,l,aU,none,bt,b0,cw,?_⟩;rw[gV];exact Ia.other  J same (λ_ _=>rfl) w9 (aA.refl _ _) rfl rfl (λ_=>⟨rfl,rfl⟩) (λ_=>⟨rfl,rfl,rfl⟩) λ_ _=>⟨rfl,rfl⟩
    ·obtain⟨bO,b6,gJ,rF,rs',rc',rv',R'⟩:=I.du aG oh dy Uo J;have:=ph dy Uo;refine⟨bO,b6,gJ,rF,rs',rc',rv',?_⟩;rw[g6 e];exact R'.other (eb:=Z.G) J (λd fr fG=>(same d J ab).trans (N.k d fr)) jA J fs rfl rfl (λ_=>⟨rfl,rfl⟩) (λ_=>⟨rfl,rfl,rfl⟩) λ_ _=>⟨rfl,rfl⟩
   ·cases e;exact Ap _ J J λe=>by have:=I.dq _ e;omega
   ·cases e;exact⟨J,H9 _ J (.inl rfl),J,J⟩
   ·rcases bqn b e with d3 | d3
    ·have:=I.dq b d3
     grind
    ·have:b<jM:=by
      rcases hh with⟨aV,_⟩|⟨cd,aV,_,ch⟩
      ·rw[aV]at e;have:=I.dq b e;omega
      grind
     exact⟨this,H9 b J (.inr e),J,J,λe=>ab⟩
   ·have E:=I.pm;rw[afw A J E.2.2 (λe=>(I.lP _ e).2.2.2 rfl) λe=>(I.dq _ e).2.2.2.1 rfl,N.k A E.1];exact I.m
   ·omega
   ·rw[jA _ I.p.1];exact I.p.2
   ·omega
   ·rw[jA _ I.pm.1];exact I.pm.2.1
   ·omega
   ·have E:=I.hS d P;have V:=I.gQ;exact⟨(jA d J).trans E.1,((same d J ab).trans (N.k d J)).trans E.2⟩
   ·rw[same U J ab,N.k U yq];omega
   ·grind
   omega
  by_cases au:j=0
  ·subst au;have a5:r=i:=by
    obtain⟨aV,aP⟩:=I.eo;have E:i<=r:=Nat.le_of_mul_le_mul_right J ed;rcases aP with aP|aP
    ·omega
    ·have:r-1<i:=ME (a:=Z.C) J;omega
   subst a5;unfold fM at qJ;refine l5 @qJ ?_;refine⟨λ_=>?_,λh=>absurd h (by decide)⟩;refine xD (enc:=r8) (k:=1) (λ_=>rfl) (λ_=>rfl) J (aA8.hU.F λb e=>?_) qP (aS _ _ _) rfl ab λeE hn7 vb=>?_
   ·have:=I.dq b e;exact aq J
   rw[v5]at *
   have aCA:u eE (A+1)=_:=(vb _ J λe=>(I.dq _ e).2.2.1 rfl).trans ((aq J).trans qJ);have azb:IntKind.wrap .i64 (((r*Z.C:Nat):Int)+1)=((r*Z.C+1:Nat):Int):=wW;refine te @aCA @azb ?_;refine⟨_,J,fin _ _ (r+1) _ (some (B+1+1+1)) J (λd fr fG hW=>?_) (by rw[aS];rfl) (.inr ⟨_,rfl,ab,?_⟩) (.inr ⟨_,rfl,J,J⟩) ⟨?_,.inr ?_⟩⟩
   ·rw[aq fG,vb d J hW,aq J]
   ·rw[aq J,hn7,p4,iF,List.map_singleton,nK,gV]
    congr 3
    refine congrArg (·++[qP]) (o9 λaG dy=>(g6 ?_).symm);have:=BJ.1 dy;have:=Nat.mul_lt_mul_of_lt_of_le this (cD Z.C) ed;omega
   all_goals grind
  ·have AZ:(((j:Nat):Int) == 0)=false:=rS.2 J;refine te @AZ @wW ?_;obtain⟨aV,aP⟩:=I.eo;refine⟨_,J,fin _ _ r os eQ J (λd _ _ _=>rfl) qJ ?_ (.inl ⟨rfl,λ_ _=>rfl⟩) ⟨?_,?_⟩⟩
   ·have:((List.range r).map λaG=>up aI (i*Z.C+j) qP (aG*Z.C))=(List.range r).map λi=>aI (i*Z.C):=o9 λaG _=>g6 λe=>by have:=s5 (C:=Z.C) (i:=aG) (j:=0) (aG:=i) (oh:=j) J ed b1;omega
    rw[this];exact aA8
   ·have E:i*Z.C<r*Z.C:=J
    have V:i<r:=ME E;have:=p2 Z.C (show i+1<=r from V)
    grind
   omega
 ·have:k=Z.R*Z.C:=J
  subst this;refine m8 ?_;refine⟨λh=>absurd h (Nat.lt_irrefl _),λ_=>?_⟩;have a5:r=Z.R:=by
   obtain⟨aV,aP⟩:=I.eo;have E:Z.R<=r:=Nat.le_of_mul_le_mul_right aV ed;rcases aP with aP|aP
   ·omega
   ·have:r-1<Z.R:=ME (a:=Z.C) aP;omega
  subst a5;have rK:ih Z x.M av aI (A+1) A U h (mi Z.R Z.C) (λ_ _=>[]) 0 0 0 own g aL bS :=
   ⟨I.oo,λi j aj b1=>I.du i j aj b1 (ph aj b1),⟨a,ws,os,_,[],fN,eQ,none,I.at_,I.ws,I.os,.nil,(nofun),(λb e=>⟨(I.lP b e).1,(I.lP b e).2.1,(I.lP b e).2.2.1,(I.lP b e).2.2.2,nofun⟩),(λb e=>⟨(I.dq b e).1,(I.dq b e).2.1,(I.dq b e).2.2.1,(I.dq b e).2.2.2.1,nofun⟩),rfl,(λt v e=>by rw[List.getElem?_nil]at e;cases e),I.p,I.pm⟩,
    ⟨[],0,Gz I.m,(λk v e=>by cases e),λa b e=>absurd rfl e⟩,I.gQ,I.hS⟩
  refine(ZS K rK J J).mono ?_;rintro _ bm B ⟨rfl,da,b8,jh,_,_⟩;rw[show td Z.R 0 (mi Z.R Z.C).a=1 from if_pos λi _=>rfl]at jh;exact⟨A+1,A,aI,da,b8,rfl,J,J,jh⟩
end
section
variable {az:Type}
theorem fQ.at{h:ae}{B:az->aa X}{k:Nat}{v:X}{l:aa az}{o:aw Nat}(g:fQ h B k v l o)(I:∀x,(B x).length=k){i:Nat}{x:az}(K:l[i]? = some x):∃b A P cs E,v = .slice (some ⟨b,A,P⟩) l.length l.length/\o=some b/\u h b=some (.cells cs E)/\h0 (some k) (A+i*k) cs = .ok (.agg ⟨B x⟩):=by
 have aj:i<l.length:=ab
 have bl:i*k+k<=l.length*k:=by have:=p2 k (show i+1<=l.length from aj);grind
 cases g with
 |nil=>grind
 | @own b _ D =>
  refine⟨b,0,some k,_,false,rfl,rfl,D,?_⟩;rw[iR,p6,if_pos (by rw[gg I];omega),um I K]
 | @part b A _ cs E D bb V =>
  refine⟨b,A,none,cs,E,rfl,rfl,D,?_⟩;rw[p6,if_pos J,<-xm];have:=congrArg (λz=>(z.drop (i*k)).take k) V;simp only[um I K,Ew,List.take_take]at this
  grind
end
section
variable {s:al} {g h:ae} {U:Nat} {Z:b5} {own:Nat->Nat} {x:f6} {room:Int} {av L dc db cj pm:Nat} {aI:Nat->Nat} {cI:Nat->Nat->aa cr} {a0:Nat} {au:ae}
def EdJ(R av:Nat)(a:Nat->Nat)(os:X)(h:ae)(U:Nat)(m:Nat)(aE:aa X)(ac:ae)(Y:Nat):Prop:=∃i,m=R-i/\i<=R/\(∀aG,aG<i->a aG=av+1)/\aE=[os,.func (.func 142) #[] #[],.int .i64 0,(R:X),(i:X)]/\ac=h/\Y=U
theorem N0(K:fV Z)(H:ih Z room av aI cj pm a0 au x cI dc db L own g h U)(j5:∀i,i<Z.R->x.a i<=av+1)(GG:∀t,t<=av->(Z.fY t=0↔t<av)):aH Q s 71 [bd cj] h U (fo (.bool (decide (∀i,i<Z.R->x.a i=av+1))) U h):=by
 refine aoE ?_;obtain⟨a,ws,os,ap,og,fN,eQ,f7,G⟩:=H.hU;have V:=G.at_;obtain⟨I,cX,rfl,_⟩:=id G.or;have D:=G.or;rw[v5]at V D;unfold ab0;simp(disch:=omega)only[bn,Ng zX,V,seval];refine(show aH Q s 141 [.slice I Z.R cX,.func (.func 142) #[] #[]] h U (fo (.bool (!decide (∀i,i<Z.R->x.a i=av+1))) U h)from ?_).fR ?_
 ·refine agN ?_;refine(show aH Q s 235 [.slice I Z.R cX,.func (.func 142) #[] #[]] h U (λr ac Y=>∃y:Int,r = (y:X)/\(0<=y↔¬∀i,i<Z.R->x.a i=av+1)/\ac=h/\Y=U)from ?_).mono ?_
  ·refine ag4 ?_;unfold VB;refine aF ?_;refine bD.mk (EdJ Z.R av x.a (.slice I Z.R cX) h U) Z.R ⟨0,J,J,J,rfl,rfl,rfl⟩ ?_;rintro _ _ ac Y ⟨i,rfl,aj,B,rfl,aV,aP⟩;subst ac Y;rw[agX];unfold Vp
   by_cases A:i<Z.R
   ·obtain⟨c,l,aU,so,bt,b0,cw,R⟩:=H.du i 0 A K.hw;have P:=R.o rfl;obtain⟨b,aO,cap,cs,bJ,e,dt,eG,gt⟩:=Ai  D (λ_ _ e=>e) A;cases e;have bV:IntKind.wrap .i64 ((i:Int)+1)=((i+1:Nat):Int):=cG (by have:=K.nF;omega);refine cL @dt @eG ?_;refine⟨λ_=>?_,λh=>absurd A h⟩;refine ak4 ?_;refine(WF R.W P.A2).fR ?_;refine bg @bV ?_;refine⟨λbE=>?_,λe0=>?_⟩
    ·grind
    ·refine⟨_,J,i+1,rfl,J,λaG h=>(Nat.lt_succ_iff_lt_or_eq.1 h).elim (B aG) λe=>?_,rfl,rfl,rfl⟩
     grind
   ·have:i=Z.R:=J
    subst this;refine aF ?_;refine⟨λh=>absurd h J,λ_=>?_⟩
    grind
  ·rintro _ _ _ ⟨y,rfl,ce,rfl,rfl⟩;refine aF ?_;refine⟨?_,rfl,rfl⟩
   by_cases E:∀i,i<Z.R->x.a i=av+1
   ·rw[g4 E,g4 (show y<0 from Int.lt_of_not_ge λh=>ce.1 h E)]
   ·have:=ce.2 E;rw[hl E,hl (J:¬y<0)]
 ·simp(disch:=omega)only[bn,Bool.not_not,seval];exact⟨rfl,rfl,rfl⟩
theorem ai1(H:ih Z room av aI cj pm a0 au x cI dc db L own g h U)(I:1<=L)(E:L<1000):aH Q s 150 [bd cj] h U (fo (((L-1:Nat):X)) U h):=by
 refine ak7 ?_;obtain⟨a,ws,os,ap,K,fN,eQ,f7,G⟩:=H.hU;have B:=G.at_;have A:=G.ap.lens;rw[G.L]at A;unfold fM at B;unfold ZQ;have D:IntKind.wrap .i64 ((L:Int)-1)=((L-1:Nat):Int):=by rw[show(L:Int)-1=((L-1:Nat):Int) by omega];exact iT _ J
 simp(disch:=omega)only[bn,pc zX,B,A,D,seval];exact⟨rfl,rfl,rfl⟩
def Sb(Z:b5)(t:Nat)(U:Nat)(h:ae)(v:X)(ac:ae)(Y:Nat):Prop:=lF ac U Y v 0 (Z.N:Int) Z.N (cz Z.N (Z.eT.st t).A) (cz Z.N (Z.eT.st t).B) (Z.eT.st t).q/\aA U h ac/\U<=Y
theorem ald(K:fV Z)(H:ih Z room av aI cj pm a0 au x cI dc db L own g h U){t:Nat}(ck:t<L)(ys:L<1000):aH Q s 155 [bd cj,(t:X)] h U (λr ac Y=>∃v,r = .tuple ⟨[v,.bool true]⟩/\Sb Z t U h v ac Y):=by
 refine aoI ?_;obtain⟨a,ws,os,ap,og,fN,eQ,f7,G⟩:=H.hU;have a6:=G.at_;have A:=G.ap.lens;have bk:=G.p.1;have n60:=K.n60;rw[G.L]at A;obtain⟨v,aJ⟩:∃v,og[t]? = some v:=⟨_,kL (by rw[G.L];omega)⟩
 obtain⟨b,off,aO,cs,bJ,rfl,w2,aT,kl⟩:=fQ.at G.ap (λ_=>rfl) aJ;have sp:=(G.b b w2).1;have E:=G.st t v aJ;rw[G.L]at a6 A;unfold fM at a6;have A5:∀{o},u (T h U o) cj=_:=λ{o}=>(aq J).trans a6;have hbN:∀{o},u (T h U o) b=_:=λ{o}=>(aq J).trans aT;unfold ja at E;simp only[iR]at E;obtain⟨dp,fB,fg,gZ,fK,ha,ge⟩:=E;unfold GH at gZ kl;simp only[Value.agg.injEq,xl,vz,ia]at gZ;obtain⟨_,_,rfl,rfl,rfl⟩:=gZ;unfold ab2;simp(disch:=omega)only[bn,pc zX,A5,A,g4 (J:(t:Int)<(L:Int)),hl (J:¬(t:Int)<0),seval];unfold IZ;refine hK @A5 @hbN @kl ?_;have bZ:∀{o eX dO},aA U h (T (T (T h U o) (U+1) eX) (U+1) dO):=aK
 have P:=H.oo.sub;refine⟨λh=>absurd ck h,λ_=>?_⟩;refine(EW ((uJ fK P).F  bZ J) (by rw[i7];omega)).mono ?_;rintro v1 h1 bh ⟨lA,I,V⟩;refine⟨V,?_⟩;have bB:=(I (U+1) J).trans (aS _ _ _);have t1:=(I U J).trans ((aq J).trans ((aq J).trans (aS _ _ _)));have cJ:=bZ.trans I J;simp(disch:=omega)only[bn,bB,iD,seval];refine(EW ((uJ ha P).F  cJ J) (by rw[i7];omega)).mono ?_;rintro v2 ar bX ⟨H7,B,eZ⟩;refine⟨eZ,?_⟩;have g2:=(B (U+1) J).trans bB;have t2:=(B U J).trans t1;have eA:=cJ.trans B J;simp(disch:=omega)only[bn,bB,g2,iD,seval];refine(ZK ((uJ ge P).F  eA J)).mono ?_;rintro v3 aL bS ⟨Br,D,gA⟩;refine⟨gA,?_⟩;have dj:=(D (U+1) J).trans g2;have t3:=(D U J).trans t2;obtain⟨ii,ct,rfl,_⟩:=id lA;obtain⟨jN,cB,rfl,_⟩:=id H7;obtain⟨hE,co,rfl,_⟩:=id Br;simp(disch:=omega)only[bn,bB,g2,dj,t3,iD,seval];exact⟨_,rfl,⟨_,_,_,rfl,lA.F (λd h1 ar=>by rw[aq J,D d J,B d J]) J J,H7.F (λd h1 ar=>by rw[aq J,D d J]) J J,Br.F ab J J⟩,aK,J⟩
end
section
variable {s:al} {g h:ae} {U:Nat} {Z:b5} {own:Nat->Nat} {x:f6} {room:Int} {av L dc db cj pm:Nat} {aI:Nat->Nat} {cI:Nat->Nat->aa cr} {a0:Nat} {au:ae}
theorem aoQ(H:ih Z room av aI cj pm a0 au x cI dc db L own g h U)(h1:dc<=100000)(ar:db<=100000):
  aH Q s 152 [bd cj] h U (λr ac Y=>∃n:Nat,r = (n:X)/\n<1000000000/\ac=h/\Y=U):=by
 obtain⟨a,ws,os,ap,og,fN,eQ,f7,G⟩:=H.hU;obtain⟨M,c,B⟩:=H.pS;have dI:∀e,∃q:Nat × Nat,e∈M->e.2.1 = .pointer (some ⟨q.1,0,none⟩)/\q.2<=100001/\∀{mp:al} {ac:ae} {Y:Nat},aA U h ac->aH Q mp 248 [.pointer (some ⟨q.1,0,none⟩)] ac Y (fo (q.2:X) Y ac):=λe=>by
  by_cases V:e∈M
  case neg=>exact⟨(0,0),λh=>absurd h V⟩
  obtain⟨_,_,b2,aV,S⟩:=B.get e.1 e.2.1 ((Jd B.m.oQ).2 ⟨e.2.2,V⟩);obtain⟨GS,Uv,eg,jM,mC,dv,dd,K,lC,aT,_,ap⟩:=S.at
  exact⟨(b2,K),λ_=>⟨aV,by show K<=_;omega,λhk=>aoJ ((hk b2 GS).trans aT)⟩⟩
 obtain⟨f,bK⟩:=Classical.skolem.1 dI;have AM:=auZ B.m.oQ;have a6:=G.at_;have hpg:=G.p.1;have sj:pm<U:=G.m.1;unfold fM at a6;obtain⟨S,azc⟩:∃S:Nat,S=(M.map λe=>(f e).2).sum:=⟨_,rfl⟩
 have dR:S<=M.length*100001:=by
  subst azc;have:∀l:aa (iO × X × Nat),(∀e∈l,e∈M)->(l.map λe=>(f e).2).sum<=l.length*100001:=by
   intro l
   induction l with
   |nil=>simp
   |cons e l eO =>
    intro bb;have:=eO λx a1=>bb x (mx _ a1);have:=(bK e (bb e (nI ..))).2.1;simp only[t9,List.sum_cons,nJ];omega
  exact this M λe V=>V
 refine aH.plain (v:=(S:X)) rfl ?_ ⟨S,rfl,J,rfl,rfl⟩;refine aoA ?_;unfold abX;simp(disch:=omega)only[bn,Ng zX,a6,seval];refine B.m.jp λaL I e8=>?_;refine bD.mk (λm aE ac Y=>∃(E:Nat) (A:aa (iO × X × Nat)),m=A.length/\aE=[(E:X),bd U]/\wJ ac U pm c M A/\E+(A.map λe=>(f e).2).sum=S/\(∀e∈A,e∈M)/\aA U h ac/\U+1<=Y) M.length
  ⟨0,M,rfl,rfl,I,J,λe h=>h,λc aZ=>e8 c J,J⟩ ?_
 rintro _ _ bm dH ⟨E,A,rfl,rfl,H6,hp4,pE,D,ir⟩;rw[akY];unfold XP;refine(B.m.F (D pm sj)).fE H6 J (λaM=>?_) λe P b3 V oP Bq hq HD=>?_
 ·subst aM;refine aF ?_;simp at hp4;exact⟨by rw[hp4],D⟩
 ·have nB:=oP.length_eq;simp only[nJ]at nB;have ty:=List.Perm.sum_nat (oP.map λe=>(f e).2)
  rw[t9,List.sum_cons]at ty;rw[(bK e V).1]at HD ⊢;refine bg @HD ?_;refine((bK e V).2.2 λd bp=>(hq d J).trans (D d bp)).fR ?_;refine aF ?_;refine⟨_,J,E+(f e).2,P,rfl,?_,Bq,J,λx a1=>pE x (oP.mem_iff.2 (mx _ a1)),λd bp=>(hq d J).trans (D d bp),J⟩;rw[<-vy,as1 _ J]
theorem ai2(K:fV Z)(H:ih Z room av aI cj pm a0 au x cI dc db (av+1) own g h U)(ju:∀i,i<Z.R->x.a i=av+1)(eF:av<900)(B:∀t,t<=av->(Z.fY t=0↔t<av)):
  aH Q s 74 [bd cj] h U (λr ac Y=>∃lp pR mU kH sO,r = .agg ⟨[.int .i64 (Z.fY av),(av:X),lp,pR,mU,kH,sO]⟩/\Sb Z av U h (.agg ⟨[lp,pR,mU,kH,sO]⟩) ac Y):=by
 refine ak3 ?_;have bZ:∀{o},aA U h (T h U o):=aK
 unfold ZO;simp(disch:=omega)only[bn,pc zX,seval];obtain⟨agC,bB,jh,_⟩:=H.still (bZ ) (J:U<=U+1);refine(ai1 jh J J).fR ?_;rw[MO];refine aF ?_;generalize D:T (T (T h U _) (U+1) _) (U+1) _=ar;have k2:u ar U=some (.cells [(.int .i64 0),(.int .i64 0),(.int .i64 0),(.int .i64 0),(.slice none 0 0),(.slice none 0 0),(.slice none 0 0)] false):=ab
 have nt:u ar (U+1)=some (.cells [(.int .i64 0),(av:X),(.int .i64 0),(.int .i64 0),(.slice none 0 0),(.slice none 0 0),(.slice none 0 0)] false):=ab
 have eA:aA U h ar:=by rw[<-D];exact aK
 obtain⟨R8,g2,E,_⟩:=H.still eA (J:U<=U+1+1);refine(N0 K E ab B).fR ?_;rw[g4 ju];obtain⟨a,ws,os,ap,og,fN,eQ,f7,G⟩:=E.hU;have a6:=G.at_;obtain⟨b,aO,cap,cs,bJ,rfl,dt,eG,gt⟩:=Ai  G.or (λ_ _ e=>e) (show 0<Z.R from K.lA);unfold fM at a6;obtain⟨c,l,aU,so,bt,b0,cw,R⟩:=E.du 0 0 K.lA K.hw;have j5:=R.o rfl;have A:=j5.A2;rw[ju 0 K.lA,if_neg J,MO]at A;rw[l1]at eG;have dW:=K.lA;refine hK @a6 @dt @eG ?_;have W:=R.W;rw[show 0*Z.C+0=0 by omega]at W;refine(WF W A).fR ?_;refine bg @nt ?_;generalize P:T ar (U+1) _=aL;have V:u aL (U+1)=some (.cells [(.int .i64 (Z.fY av)),(av:X),(.int .i64 0),(.int .i64 0),(.slice none 0 0),(.slice none 0 0),(.slice none 0 0)] false):=ab
 have jx:=(show u aL U=u ar U by grind).trans k2;have fI:aA U h aL:=by rw[<-P];exact aK
 obtain⟨GI,dj,i4,_⟩:=H.still fI (J:U<=U+1+1);unfold Nu;refine bg @V ?_;refine(ald K i4 J J).mono ?_;rintro _ bm dH ⟨v,rfl,⟨dp,fB,fg,rfl,fK,ha,ge⟩,I,ir⟩;have U6:=(I (U+1) J).trans V;have ff:∀{o},u (T bm (U+1) o) U=_:=λ{o}=>(aq J).trans ((I U J).trans jx);obtain⟨ii,ct,rfl,_⟩:=id fK;obtain⟨jN,cB,rfl,_⟩:=id ha;obtain⟨hE,co,rfl,_⟩:=id ge;refine bg @U6 ?_;refine zH.2 ⟨rfl,ab,?_⟩;refine bg @ff ?_;refine⟨_,_,_,_,_,rfl,⟨_,_,_,rfl,fK.F ab J J,ha.F ab J J,ge.F ab J J⟩,λd bp=>?_,J⟩;rw[aq J,aq J,I d J];exact fI d bp
end
section
variable {s:al} {h:ae} {U:Nat} {Z:b5} {av W:Nat}
structure x0 (h:ae) (U:Nat) (x:iI) (eR gO e1:X) (Z:b5):Prop where
 K:fV Z
 H:pr h U x eR gO e1
 yO:cN h U e1 yh []
 w8:x.u9=0
 bM:x.bM.length<1000000
 E:he x=0
 z:Z.k=x.k/\x.n=(Z.N:Int)/\Z.src=x.src/\Z.len=x.len/\Z.bM=x.bM/\x.R=(Z.R:Int)/\x.C=(Z.C:Int)/\x.lim=(Z.lim:Int)
 ag:uS x.k (x.es.map nl) Z.ag
theorem x0.F{x:iI}{eR gO e1:X}{ac:ae}{Y:Nat}(S:x0 h U x eR gO e1 Z)(B:aA U h ac)(A:U<=Y):x0 ac Y x eR gO e1 Z:={ S with H:=S.H.F B A,yO:=S.yO.F B A }
theorem x0.room{x:iI}(S:x0 h U x eR gO e1 Z):1<=x.M/\x.M<=64:=by
 have e:=S.E;unfold he at e
 split at e
 ·omega
 ·split at e
  ·cases e
  ·split at e
   ·cases e
   ·split at e
    ·cases e
    ·rename_i A
     have:j3 x.M 64=true:=ab
     unfold j3 at this
     grind
def azd(Z:b5)(room:Int)(av:Nat)(a0:Nat)(au:ae)(W:Nat)(cj pm:Nat)(aI:Nat->Nat)(m:Nat)(aE:aa X)(ac:ae)(Y:Nat):Prop :=
 ∃k x cI L own g,m=W-k/\k<=W/\aE=[bd cj,(k:X),(W:X),(k:X)]/\ih Z room av aI cj pm a0 au x cI k k L own g ac Y/\HE Z av (k+1) 0 x cI L
def aze(Z:b5)(room:Int)(av:Nat)(h:ae)(U:Nat)(cj k:Nat)(ac:ae)(Y:Nat):Prop:=∃pm aI x cI own g,ih Z room av aI cj pm U h x cI k k (av+1) own g ac Y/\(∀i,i<Z.R->x.a i=av+1)/\k<=99999
theorem ai3{x:iI}(S:x0 h U x eR gO e1 Z)(eF:av<900)(E:∀t,t<=av->(Z.fY t=0↔t<av))(B:A3 Z av)(jy:mh Z.R Z.C av+Z.R<=W)(LR:W<=99999):
  aH Q s 157 [.agg ⟨gB x eR gO e1⟩,.slice none 0 0,(W:X)] h U (λr ac Y=>∃cj k:Nat,r = .tuple ⟨[bd cj,(k:X),.int .i64 0]⟩/\aze Z x.M av h U cj k ac Y):=by
 refine XS ?_;have K:=S.K;obtain⟨a8,gM,mV,_⟩:=id S.H.d;obtain⟨bY,sN,Bm,_⟩:=id S.H.e;obtain⟨bQ,hr,HQ,_⟩:=id S.yO;have hrm:=S.room;unfold OM;subst mV Bm HQ;unfold gB;refine aF ?_;refine(Xp    (S.H.F aK J) ⟨none,0,rfl,λh=>absurd rfl h⟩ ab).cn λh1 bh cJ fy=>?_;have dt:=(cJ U J).trans (aS _ _ _);have aM:yf x [] (W:Int)=0:=by unfold yf;rw[if_neg (by rw[S.E];omega),if_neg (by decide),if_neg (by decide),if_neg (by rw[k8 J];decide)]
 rw[aM];refine bg @dt ?_;have K01:aA U h h1:=aK
 have fK:=S.F (Y:=bh) K01 J;refine(asz (av:=av) K fK.H fK.yO fK.w8 fK.bM fK.E fK.z fK.ag).mono ?_;rintro _ ar bX ⟨cj,pm,aI,own,g,rfl,dQ,dB,H⟩;refine aF ?_;have hj:ih Z x.M av aI cj pm U h (mi Z.R Z.C) (λ_ _=>[]) 0 0 1 own g ar bX:={ H with gQ:=by have:=H.gQ;omega,hS:=λd bp=>⟨(H.hS d J).1,(H.hS d J).2.trans (K01 d bp)⟩ }
 refine bD.mk (λ_ aE ac Y=>aE=[(W:X),bd cj,.slice none 0 0,.int .i64 0,.int .i64 0]/\ac=ar/\Y=bX) 0 ab ?_;rintro _ _ _ _ ⟨rfl,rfl,rfl⟩;rw[aiU];unfold WJ;refine aF ?_;have aA9:=avW   (av:=av) K.hw K.lA;refine λ_=>bD.mk (azd Z x.M av U h W cj pm aI) W ⟨0,mi Z.R Z.C,λ_ _=>[],1,own,g,rfl,J,rfl,hj,aA9.1,aA9.2,J,0,K.lA,rfl⟩ ?_;rintro _ _ aL bS ⟨k,I,A6,Ib,A,dj,rfl,hk,rfl,i4,D⟩;rw[aiV];unfold WK;have qO:agF Z x.M av cj pm U:=⟨K,J,J,hrm.1,hrm.2,eF,E,B⟩
 have dR:∀i,i<Z.R->I.a i<=av+1:=λi aj=>(D.P.ord.au i aj).1
 by_cases V:k<W
 ·refine aF ?_;refine⟨λ_=>?_,λh=>absurd V h⟩;refine(N0 K i4 dR E).fR ?_
  by_cases P:∀i,i<Z.R->I.a i=av+1
  ·rw[g4 P];refine aF ?_;have fq:=D.S.fin P;subst fq;exact⟨cj,k,rfl,pm,aI,I,A6,A,dj,i4,P,J⟩
  ·rw[hl P];refine aF ?_;have e0:∃k,k<Z.R*Z.C/\I.out k≠[]:=by obtain⟨i,aj,cY⟩:∃i,i<Z.R/\I.a i≠av+1:=vw ab;exact D.P.more K.hw K.lA (λa b=>D.D.t3 a b J) aj cY
   refine(ai0 qO i4 D J e0).mono ?_;rintro _ bm dH ⟨rfl,sG,lk4,aCB,⟨Aj,dL,sQ,_,_⟩,aCC⟩;have wW:IntKind.wrap .i64 ((k:Int)+1)=((k+1:Nat):Int):=cG J;refine bg @wW ?_;exact⟨_,J,k+1,sG,lk4,aCB,Aj,dL,rfl,V,rfl,sQ,aCC⟩
 ·have:k=W:=J
  subst this;have P:∀i,i<Z.R->I.a i=av+1:=λi aj=>D.P.fin D.D K.hw K.lA J aj;have fq:=D.S.fin P;subst fq;refine aF ?_;refine⟨λh=>absurd h J,λ_=>?_⟩;exact⟨cj,k,rfl,pm,aI,I,A6,A,dj,i4,P,LR⟩
theorem au1{n k:Int}:q5 (pk [(7,1,(n:X)),(8,1,(k:X))]) 0 7 [aC,aB,a2,a3,aY,bN,bu] [nx,jl,z2,z3,z4,yW,Bk,rQ,U8] = .ok [aC,aB,a2,a3,aY,bN,bu,(n:X),(k:X)]:=rfl
theorem asA{x:iI}(S:x0 h U x eR gO e1 Z)(eF:av<900)(A:∀t,t<=av->(Z.fY t=0↔t<av))(B:A3 Z av)(jy:mh Z.R Z.C av+Z.R<=W)(LR:W<=99999):
  aH Q s 76 [.agg ⟨gB x eR gO e1⟩,.slice none 0 0,(W:X)] h U (λr ac Y=>∃lp pR mU kH sO,∃n k:Nat,r = .tuple ⟨[.agg ⟨[.int .i64 (Z.fY av),(av:X),lp,pR,mU,kH,sO,(n:X),(k:X)]⟩,.int .i64 0]⟩/\Sb Z av U h (.agg ⟨[lp,pR,mU,kH,sO]⟩) ac Y):=by
 refine ad0 ?_;obtain⟨a8,gM,mV,_⟩:=id S.H.d;obtain⟨bY,sN,Bm,_⟩:=id S.H.e;obtain⟨bQ,hr,HQ,_⟩:=id S.yO;have K:=S.K;unfold Rn;subst mV Bm HQ;unfold gB;have ek:∀{o},u (T (T h U (.cells (gB x (.slice a8 x.bM.length gM) (.slice bY x.es.length sN) (.slice bQ ([]:aa (Int × Int)).length hr)) false)) (U+1) o) U=_:=λ{o}=>(aq J).trans (aS _ _ _);refine bg @ek ?_;generalize LQ:T (T h U _) (U+1) _=h1;have cJ:aA U h h1:=by rw[<-LQ];exact aK
 have cp:u h1 (U+1)=some (.cells [(.int .i64 0),(.int .i64 0),(.int .i64 0),(.int .i64 0),(.slice none 0 0),(.slice none 0 0),(.slice none 0 0),(.int .i64 0),(.int .i64 0)] false):=ab
 refine(ai3 (S.F  cJ J) eF A B jy LR).mono ?_;rintro _ ar bX ⟨cj,k,rfl,pm,aI,jN,lk2,R8,g2,I,ju,hk⟩;refine aF ?_;refine(ai2 K I ju eF A).mono ?_;rintro _ aL bS ⟨lp,pR,mU,kH,sO,rfl,ge,fI,gA⟩;obtain⟨GI,dj,i4,_⟩:=I.still fI gA;refine(aoQ i4 J J).mono ?_;rintro _ Az n3' ⟨n,rfl,bH,aV,aP⟩;subst Az n3';obtain⟨dp,fB,fg,gZ,P,V,E⟩:=ge;simp only[Value.agg.injEq,xl,vz,ia]at gZ;obtain⟨rfl,rfl,rfl,rfl,rfl⟩:=gZ;obtain⟨ii,ct,rfl,_⟩:=id P;obtain⟨x2',cB,rfl,_⟩:=id V;obtain⟨hE,co,rfl,_⟩:=id E;have k2:=(I.hS (U+1) J).2.trans cp;have DK:=I.gQ;refine bg @au1 ?_;generalize Ul:T (T aL bS _) bS _=bm;have D:aA bS aL bm:=by rw[<-Ul];exact aK
 have cR:u bm bS=some (.cells [.int .i64 (Z.fY av),(av:X),.int .i64 0,(Z.N:X),.slice ii (cz Z.N (Z.eT.st av).A).length ct,.slice x2' (cz Z.N (Z.eT.st av).B).length cB,.slice hE (eS Z.N (Z.eT.st av).q).length co,(n:X),(k:X)] false):=ab
 obtain⟨Aj,dL,sQ,_⟩:=i4.still D (sV bS);refine(N0 K sQ ab A).fR ?_;rw[g4 ju];have jx:=(D (U+1) J).trans ((fI (U+1) J).trans k2);refine cL @cR @jx ?_;have hS:∀d,d<U->u bm d=u h d:=λd bp=>(D d J).trans ((fI d J).trans ((I.hS d J).2.trans (cJ d bp)));refine⟨_,_,_,_,_,n,k,rfl,⟨_,_,_,rfl,P.F (λd aV aP=>?_) J J,V.F (λd aV aP=>?_) J J,E.F (λd aV aP=>?_) J J⟩,λd bp=>?_,J⟩
 ·rw[aq J];exact D d aP
 ·rw[aq J];exact D d aP
 ·rw[aq J];exact D d aP
 grind
end
def vv(o:aw Int):Prop:=∀y,o=some y->0<=y/\y<=er
theorem PY:vv none:=λ_ h=>ab
section
variable {r:Int} {Z:b5} {t:Nat}
theorem au2(I:r≠5){a b:aw Int}(B:vv a)(A:vv b):vv (eY r a b):=by
 cases a with
 |none=>exact A
 |some a =>
  cases b with
  |none=>exact B
  |some b =>
   intro y D;cases D;have K:=B a rfl;have E:=A b rfl;unfold jI;omega
theorem QQ(A:r≠5):∀{l:aa (aw Int)},(∀x∈l,vv x)->vv (fi r l)
 | [],_=>PY
 |x::l,h=>au2 A (h x ab) (QQ A λy B=>h y ab)
theorem ad8(K:r≠5){B:aa GE}{x:Nat->aw Int}(I:∀g∈B,vv (x g.t))(V:∀g∈B,0<=g.w)(v:Nat):vv (ip r B x v):=by
 refine QQ K λo P=>?_;obtain⟨g,E,rfl⟩:=f0.1 P
 split
 ·intro y D;cases A:x g.t with
  |none=>grind
  |some z =>
   rw[A]at D;cases D;have h1:=I g E z A;have ar:=V g E;unfold f3;omega
 ·exact PY
theorem J8(K:fV Z){a H b W:Nat}:∀g∈lE Z.ag a H b W,0<=g.w/\∃b8∈Z.ag,b+g.t=b8.t:=λg E=>by
 obtain⟨b8,A,rfl⟩:=f0.1 E;have B:=(pa.1 A).1;have D:=(pa.1 A).2;unfold px at D;refine⟨(K.w b8 B).1,b8,B,?_⟩
 grind
theorem PZ(K:fV Z):fb Z.k t≠5:=by
 unfold fb;rcases K.hD with h|h|h|h <;> rw[h] <;> simp;omega
theorem aw7(K:fV Z)(E:∀v,v<Z.N->vv (Z.eT.x t v)):U5 Z t where
 c:=λi P v=>by
  refine QQ (PZ K) λo I=>?_;obtain⟨j,_,rfl⟩:=f0.1 I
  split
  ·refine ad8 (PZ K) (λg A=>?_) (λg A=>(J8 K g A).1) _;obtain⟨_,b8,D,B⟩:=J8 K g A;rw[B];exact E _ (K.M.l9 b8 D)
  ·exact PY
 b:=λi j v=>by refine ad8 (PZ K) (λg A=>?_) (λg A=>(J8 K g A).1) v;obtain⟨_,b8,D,B⟩:=J8 K g A;rw[B];exact E _ (K.M.l9 b8 D)
end
theorem aw8{P:Program}{f:FuncId}{l:aa X}{h:ae}{U:Nat}{K:bP}(H:aH P true f l h U K):∃v ac Y,K v ac Y:=by obtain⟨v,ac,Y,A,_⟩:=H;exact⟨v,ac,Y,A⟩
theorem ZU{D:aa X->Go.Ax.R (aa X)}{A:Nat}{x y z w B:X}{c:aa X}:q5 D A 5 [x,y,z,w,B] c=if A+5<=c.length then D (c.take A++x::y::z::w::B::c.drop (A+5))else .no "fill" := by
 by_cases h:A+5<=c.length
 ·rw[if_pos h,I8 (n:=5)  rfl h];simp
 ·rw[if_neg h];show(bif Nat.beq (jo [x,y,z,w,B]) 5 then R.of "fill" (m9 [x,y,z,w,B] c A) D else .no "fill - size")=_;rw[s3,if_neg J];rfl
def pB(n:Int):Int:=if 0<=n then min n 8191+1 else 0
def Up(c6 src r c:Int)(es:aa hN):iI:=⟨1,c6,src,0,[],c6,es,r,c,4,pB c6,0⟩
section
variable {s:al} {h:ae} {U:Nat} {c6 src r c:Int} {a:aw Addr} {n cap:Nat} {es:aa hN} {Z:b5} {av:Nat}
theorem aoR(D : -9223372036854775808<=c6)(B:c6<=9223372036854775807):
  aH Q s 22 [.agg ⟨[(c6:X),.slice a n cap]⟩,(src:X),(r:X),(c:X)] h U (dC (.agg ⟨gB (Up c6 src r c es) (.slice none 0 0) (.slice a n cap) (.slice none 0 0)⟩) U h):=by
 refine aqL ?_;unfold adj;refine aF ?_;refine⟨λA=>?_,λA=>?_⟩
 ·rw[jE J J];unfold Jk;refine bg @ZU ?_;refine⟨?_,aK,J⟩;unfold gB Up pB
  grind
 ·unfold Jk;refine bg @ZU ?_;refine⟨?_,aK,J⟩;unfold gB Up pB
  grind
theorem ahN{x:iI}{w:Int}(H:pr h U x eR gO e1)(ju:he x≠0):
  aH Q s 157 [.agg ⟨gB x eR gO e1⟩,.slice none 0 0,(w:X)] h U (dC (.tuple ⟨[.pointer none,.int .i64 0,.int .i64 (he x)]⟩) U h):=by
 refine XS ?_;obtain⟨a8,V,rfl,_⟩:=id H.d;obtain⟨P,I,rfl,_⟩:=id H.e;obtain⟨E,D,rfl⟩:=id H.c;unfold OM gB;refine aF ?_;refine(Xp    (H.F aK J) ⟨none,0,rfl,λh=>absurd rfl h⟩ ab).cn λh1 K cJ A=>?_;have aM:yf x [] w=he x:=by unfold yf;omega
 rw[aM];have B:(he x == 0)=false:=ab
 refine bg @B ?_;exact⟨rfl,aK,J⟩
def zR9:X:=.agg ⟨[.int .i64 0,.int .i64 0,.int .i64 0,.int .i64 0,.slice none 0 0,.slice none 0 0,.slice none 0 0,.int .i64 0,.int .i64 0]⟩
theorem aoS{x:iI}{w:Int}(H:pr h U x eR gO e1)(ju:he x≠0):
  aH Q s 76 [.agg ⟨gB x eR gO e1⟩,.slice none 0 0,(w:X)] h U (dC (.tuple ⟨[zR9,.int .i64 (he x)]⟩) U h):=by
 refine ad0 ?_;obtain⟨a8,V,rfl,_⟩:=id H.d;obtain⟨P,K,rfl,_⟩:=id H.e;obtain⟨I,E,rfl⟩:=id H.c;have bZ:∀{o aX},aA U h (T (T h U o) (U+1) aX):=aK
 have B:∀{o},u (T (T h U (.cells (gB x (.slice a8 x.bM.length V) (.slice P x.es.length K) (.slice I x.u9 E)) false)) (U+1) o) U=_:=λ{o}=>(aq J).trans (aS _ _ _);unfold Rn;unfold gB at B ⊢;refine bg @B ?_;refine(ahN  (H.F  bZ J) ju).cn λh1 bh cJ A=>?_;have bB:=(cJ (U+1) J).trans (aS _ _ _);have D:(he x == 0)=false:=ab
 refine cL @D @bB ?_;exact⟨rfl,aK,J⟩
theorem ale{l:aa Int}(K:cN h U v c3 l)(I:l.length<1000000)(e:l≠[]):
  aH Q s 88 [v] h U (λr ac Y=>d5 ac r c3 1 l U Y/\aA U h ac/\U<=Y):=by
 refine Yv ?_;obtain⟨a,cap,rfl,D⟩:=id K;obtain⟨b,P,V,B,rfl,A⟩:=D e;unfold O9;simp(disch:=omega)only[bn,zr af9,seval];have E:aA U h (T h U (.cells [] false)):=aK
 rw[iG]at A;refine⟨λau=>absurd au (by simp),λ_=>?_⟩;rw[Qz (zp _) (aS _ _ _) ((E b B).trans A) ab I];refine⟨.inr ⟨U+1,J,J,rfl,?_⟩,aK,J⟩
 grind
end
section
variable {s:al} {h:ae} {U:Nat} {c6 src r c:Int} {a:aw Addr} {cap:Nat} {es:aa hN}
theorem asB{R C av N:Nat}(A:av<=N+1):mh R C av+R<=4*(R+C+4)*(N+1+2):=by
 unfold mh;have B:av*(2*R+C+2)<=(N+1)*(4*(R+C+4)):=rU A J
 grind
theorem aw9{az:Type}{h:ae}{A:az->aa X}{k:Nat}{l:aa az}{ao:Nat}(H:d5 h v A k l ao aj)(E:d6<=ao):d5 h v A k l d6 aj:=by
 rcases H with H|⟨b,I,B,D⟩
 ·exact .inl H
 ·exact .inr ⟨b,J,B,D⟩
end
def lvE:aa X:=[.int .i64 0,.int .i64 1,.int .i64 5,.int .i64 1,.int .i64 2,.int .i64 5]
def lvA:aa X:=[.int .i64 0,.int .i64 1,.int .i64 2,.int .i64 (-1)]
def lvB:aa X:=[.int .i64 (-1),.int .i64 0,.int .i64 1,.int .i64 (-1)]
def agH(h:ae)(b U:Nat):al:=Nat.blt b U&&(match u h b with|some (.cells cs false)=>nQ (.agg ⟨cs⟩) (.agg ⟨lvE⟩)|_=>false)
def pN(args:aa X)(h:ae)(U:Nat)(K:bP):Prop:=match args with
 | [.agg ⟨[.int .i64 n,.slice (some ⟨b,0,aO⟩) l cap]⟩,.int .i64 src,.int .i64 r,.int .i64 c]=>w3 (fz n 4&&Nat.beq l 2&&agH h b U)
  (Bool.rec (w3 (fz src 4&&fz r 1&&fz c 1) (K (.tuple ⟨[.slice none 0 0,.slice none 0 0,.int .i64 3]⟩) h U))
   (K (.tuple ⟨[.slice (some ⟨U,0,some 1⟩) 4 4,.slice (some ⟨U+1,0,some 1⟩) 4 4,.int .i64 0]⟩) (T (T h U (.cells lvA false)) (U+1) (.cells lvB false)) (U+1+1)) (fz src 0&&fz r 2&&fz c 2))
 |_=>False
def azf(args:aa X)(h:ae)(U:Nat)(K:bP):Prop:=match args with
 | [.int .i64 r,.slice (some ⟨b,0,aO⟩) l cap]=>w3 (fz r 1&&Nat.beq l 2&&agH h b U) (K (.tuple ⟨[.slice (some ⟨U,0,some 3⟩) 2 2,.int .i64 0]⟩) (T h U (.cells lvE false)) (U+1))
 |_=>False
def lvX(f:FuncId):aw (aa X->ae->Nat->bP->Prop):=bif Nat.beq f 16 then some pN else bif Nat.beq f 172 then some azf else none
def lvT(f:FuncId):aa (aa Nat):=match([(19,[[0,1,4,5]]),(51,[[0,1,4,5]]),(81,[[0,1,6,7,8,9]]),(82,[[3,6,7,8],[3,5,6,7,8]]),(84,[[1,2,4,5,12,13],[4,5,6,7],[4,5,6,7,8,44,45,46]]),(85,[[0,1,4,12,13]]),(162,[[0,2,3]]),(167,[[3,11,12,13]]),(255,[[0,1,4,7,8]])]:aa (Nat × aa (aa Nat))).find? λp=>Nat.beq p.1 f with
 |some p=>p.2
 |none=>[]
def Ve(v:X):Prop:=match v with | .bool true=>True|_=>False
@[irreducible] def lvP(n m:Nat):Prop:=G2 Q lvT lvX n m 18 [] ix 0 (λv _ _=>Ve v)
def SvJ(l b6:aa Int)(v dN:X)(h:ae)(U:Nat)(m:Nat)(aE:aa X)(ac:ae)(Y:Nat):Prop :=
 ∃i,m=l.length-i/\i<=l.length/\aE=[v,dN,.bool false,(i:X)]/\ac=h/\Y=U/\l.take i=b6.take i
theorem asC{s:al}{h:ae}{U:Nat}{dN:X}{l A:aa Int}(aJ:cN h U v c3 l)(D:cN h U dN c3 A)(bb:l.length<1000000):
  aH Q s 19 [v,dN] h U (fo (.bool (decide (l=A))) U h):=by
 refine atv ?_;obtain⟨a,cap,rfl,aZ⟩:=id aJ;obtain⟨eg,E,rfl,K5⟩:=id D;unfold aez;refine aF ?_;refine⟨λB=>?_,λbE=>?_⟩
 ·have:¬l=A:=λe=>by subst e;simp at B
  exact⟨by simp[this],rfl,rfl⟩
 have bE:l.length=A.length:=by
  have ar:(l.length:Int)=(A.length:Int):=by simpa using bE
  omega
 refine bD.mk (SvJ l A (.slice a l.length cap) (.slice eg A.length E) h U) l.length ⟨0,rfl,J,rfl,rfl,rfl,rfl⟩ ?_;rintro m _ _ _ ⟨i,rfl,aj,rfl,rfl,rfl,ck⟩;rw[ap2];unfold aax;refine aF ?_;refine⟨λV=>?_,λeN=>?_⟩
 ·obtain⟨x,P⟩:=d1 V;obtain⟨y,K⟩:=d1 (l:=A) (i:=i) J;obtain⟨_,b,aO,bJ,c1,aT,aV,a6⟩:=aJ.at P;obtain⟨_,cd,TA,ro',TY,hh,Uq,I⟩:=D.at K;cases aV;cases Uq;rw[iG]at a6 I;simp(disch:=omega)only[bn,a6,I,i6 P,i6 K,seval];refine⟨λB=>?_,λhe2=>?_⟩
  ·have:¬l=A:=λe=>by subst e;rw[P]at K;cases K;simp at B
   exact⟨by simp[this],rfl,rfl⟩
  ·have Su:x=y:=by simpa using he2
   subst Su;refine⟨l.length-(i+1),J,i+1,rfl,J,by rw[cG J],rfl,rfl,?_⟩;rw[hx,hx,P,K,ck]
 ·have:i=l.length:=J
  subst this;rw[iQ,bE,iQ]at ck;exact⟨by simp[ck],rfl,rfl⟩
section
variable {s:al} {h:ae} {U:Nat} {k c6 src r c:Int} {a:aw Addr} {cap:Nat} {es:aa hN}
def lJ(k c6 src r c:Int)(es:aa hN):iI:=⟨k,c6,src,0,[],c6,es,r,c,4,pB c6,0⟩
structure HG (k c6 src r c:Int) (es:aa hN) (Z:b5) (av:Nat):Prop where
 K:fV Z
 cn:Z.k=k
 ez:c6=(Z.N:Int)
 HO:Z.src=src
 Bf:r=(Z.R:Int)
 Bg:c=(Z.C:Int)
 el:pB c6=(Z.lim:Int)
 ag:uS k (es.map nl) Z.ag
 fY:∀t,t<=av->(Z.fY t=0↔t<av)
 le:av<=Z.lim
theorem au3(hk:1<=k/\k<=3)(H:pr h U (lJ k c6 src r c es) (.slice none 0 0) gO (.slice none 0 0))(ju:he (lJ k c6 src r c es)=0)(bH:c6<=30):
  ∃(Z:b5) (av:Nat),HG k c6 src r c es Z av/\(k≠3->∃v:Nat,Z.src=(v:Int)/\v<Z.N)/\x0 h U (lJ k c6 src r c es) (.slice none 0 0) gO (.slice none 0 0) Z/\av<900/\∃W:Nat,Dc (lJ k c6 src r c es) (pB c6)=(W:Int)/\mh Z.R Z.C av+Z.R<=W/\W<=99999:=by
 have D:=ju;have V:qr k c6 src 0 [] c6 es (pB c6)=0/\(1<=r/\r<=8)/\1<=c/\c<=8:=by
  have key:∀m:Int,j3 m 8≠false->1<=m/\m<=8:=λm h=>by
   have:j3 m 8=true:=ab
   exact of_decide_eq_true this
  unfold he lJ at ju
  grind
 obtain⟨V,⟨wF,hr8⟩,Dr,DT⟩:=V;have B:kh k c6 src 0 [] c6 es=0:=by unfold qr at V;omega
 have A:iU k c6 src 0 []=0:=by
  unfold kh at B
  omega
 have bk:(0<=c6/\c6<=4096)/\(k≠3->0<=src/\src<=c6-1):=by have bk:=A;unfold iU at bk;omega
 obtain⟨⟨hg0,_⟩,ap⟩:=bk;obtain⟨_,_,_,m,P,_,dI,kt,hV,_⟩:=aw8 (XQ  H.d H.e H.l B);obtain⟨N,rfl⟩:∃N:Nat,c6=(N:Int):=⟨c6.toNat,J⟩
 obtain⟨R,rfl⟩:∃R:Nat,r=(R:Int):=⟨r.toNat,J⟩
 obtain⟨C,rfl⟩:∃C:Nat,c=(C:Int):=⟨c.toNat,J⟩
 have bb:pB (N:Int)=((N+1:Nat):Int):=by unfold pB;omega
 rw[Ip]at kt hV;have K:fV ⟨k,src,0,N,R,C,N+1,[],P⟩:=⟨ab,ab,ab,ab,ab,ab,ab,⟨ab,ab⟩,A,hV,λg a6=>(kt g a6).2.2⟩
 obtain⟨av,I,_,E⟩:=ass ⟨k,src,0,N,R,C,N+1,[],P⟩;have I:av<=N+1:=I;refine⟨⟨k,src,0,N,R,C,N+1,[],P⟩,av,⟨K,rfl,rfl,rfl,rfl,rfl,bb,dI,E,I⟩,λaL=>⟨src.toNat,(by have:=ap aL;show src=_;omega),(by have:=ap aL;show _<N;omega)⟩,⟨K,H,⟨none,0,rfl,λh=>absurd rfl h⟩,rfl,(J:0<1000000),D,⟨rfl,rfl,rfl,rfl,rfl,rfl,rfl,bb⟩,dI⟩,J,4*(R+C+4)*(N+1+2),?_,?_,?_⟩
 ·unfold Dc;rw[bb,if_neg (by rw[k8 J];decide),if_neg (λh=>h D)];have e:((4*(R+C+4)*(N+1+2):Nat):Int)=4*((R:Int)+(C:Int)+4)*(((N+1:Nat):Int)+2):=ab
  exact e.symm
 ·exact asB I
 ·have:4*(R+C+4)*(N+1+2)<=80*33:=rU J J;omega
end
theorem ky.sub(h:ky (gs.map ee) (cs.map ee)):∀c∈cs,c∈gs:=λc B=>by obtain⟨D,_⟩:=(h.Lp.mem (ee c)).1 (f0.2 ⟨c,B,rfl⟩);obtain⟨d,A,e⟩:=f0.1 D;exact adZ e ▸ A
theorem ky.GJ(h:ky (gs.map ee) (cs.map ee)):∀g∈gs,∃c∈cs,c.f=g.f/\c.t=g.t:=λg E=>by obtain⟨z,D,B,A⟩:=h.Lp.G8 (ee g) (f0.2 ⟨g,E,rfl⟩);obtain⟨c,I,rfl⟩:=f0.1 D;unfold ee at B A;simp only at B A;exact⟨c,I,J,J⟩
theorem Jq{g:GE}:g∈xT gs↔∃e∈gs,g=oF e:=by
 unfold xT;simp only[f0,pa]
 grind
theorem XU{g:GE}:g∈zK gs↔∃e∈gs,g=Ae e:=by
 unfold zK;simp only[f0,pa]
 grind
theorem asD{Z:b5}(K:1<=Z.R){v:Nat}(D:v<Z.N):∃i k,i<Z.R/\k<Z.H i/\v=Z.bv i+k:=by
 have A:∀m,m<=Z.R->v<Z.bv m->∃i k,i<Z.R/\k<Z.H i/\v=Z.bv i+k:=by
  intro m
  induction m with
  |zero=>intro _ h;unfold b5.bv at h;rw[adA]at h;omega
  |succ m B =>
   intro I h
   by_cases E:v<Z.bv m
   ·exact B J E
   ·exact⟨m,v-Z.bv m,J,by unfold b5.H;omega,J⟩
 exact A Z.R J (by unfold b5.bv;rw[adB J];exact D)
theorem alf{Z:b5}{av:Nat}(bm:Z.k≠4)(E:Z.k≠5)(V:1<=Z.R)(A:Z.fY av≠0):av=Z.lim\/∀v,v<Z.N->(Z.eT.st av).q v=false:=by
 by_cases D:av=Z.lim
 ·exact .inl D
 right
 intro v B;unfold b5.fY vJ at A;have I:¬∃i,i<Z.R/\Z.i5 av i≠0:=λK=>by rw[g4 K]at A;simp at A;omega
 obtain⟨i,k,aj,hk,rfl⟩:=asD V B;have au:Z.i5 av i=0:=vw λh=>I ⟨i,aj,h⟩;unfold b5.i5 ql at au;rw[if_neg (λh=>bm h.1),if_neg E]at au;have h1:(eh (Z.H i) λk=>(Z.eT.st av).q (Z.bv i+k))=[]:=Bv J;apply vw;intro P;have:k∈(eh (Z.H i) λk=>(Z.eT.st av).q (Z.bv i+k)):=by unfold eh;rw[pa];exact⟨BJ.2 hk,by simpa using P⟩
 rw[h1]at this;cases this
theorem au4(l:aa GE):(l.map ee).map nl=l:=by rw[ot];exact(o9 λg _=>rfl).trans (Ez l)
theorem axa{h:ae}{U:Nat}(H:cN h U v cW gs):cN h U v io (gs.map ee):=by obtain⟨a,cap,rfl,I⟩:=H;refine⟨a,cap,by rw[gH],λA=>?_⟩;obtain⟨b,B,D,P,E,K⟩:=I λe=>A (by rw[e];rfl);exact⟨b,B,D,P,E,by rw[K,JH];rfl⟩
theorem au5{k N sM:Nat}{D B:Int}(au:0<N)(ek:N<24)(P:sM<N)(bb:gs.length<=60)(A:∀g∈gs,hi N g)(cY:1<=D/\D<=4)(aT:1<=B/\B<=4)(hk:1<=k/\k<=3):
  he ⟨k,N,sM,0,[],N,gs.map ee,D,B,4,pB N,0⟩=0:=by
 have a5:k5 N (gs.map ee)=0:=Ji.2 ⟨J,J,by rw[gH];omega,λe I=>by obtain⟨g,E,rfl⟩:=f0.1 I;have:=A g E;unfold hi at this;unfold ya ee;simp;omega,λe I=>by obtain⟨g,E,rfl⟩:=f0.1 I;have:=A g E;unfold hi at this;unfold C8 ee;simp;omega⟩
 have K:iU k N sM 0 []=0:=by unfold iU;rw[if_neg J,if_neg J,if_neg J,if_neg J,if_neg (by simp),if_neg (by simp)]
 have bl:kh k N sM 0 [] N (gs.map ee)=0:=by unfold kh;rw[K,a5];simp
 have V:qr k N sM 0 [] N (gs.map ee) (pB N)=0:=by unfold qr;rw[bl];unfold pB;simp;omega
 unfold he;simp only[V];have aV:j3 D 8=true:=g4 J;have aP:j3 B 8=true:=g4 J;rw[aV,aP];rfl
def azg(U:Nat)(h:ae):bP:=λr ac Y=>r = .bool true/\aA U h ac/\U<=Y
theorem cN.le{az:Type}{A:az->aa X}{h:ae}{U Y:Nat}{l:aa az}(H:cN h U v A l)(B:U<=Y):cN h Y v A l:=H.F (aA.refl _ _) B
def root:c5:=λs ah t1 h U K=>d0 h 1 ah t1 λb=>bw .neq 3 b t1 (d0 h 1 ah t1 λe=>aW s 91 [ah,e] h U λf g i=>hT 1 ah t1 λj=>af (aQ g 1 j f) λk=>d0 k 1 ah t1 λm=>K m k i) (d0 h 1 ah t1 λo=>K o h U)
theorem axb:c7 91 root:=c9 []
def F4:aa (aa Nat):=[[1,3,13,14],[3,23,24,25]]
def ab5(s:al)(aB a3 ho jd:X)(h:ae)(U:Nat)(N:aR)(aM:aR)(R:aR):Prop:=cH jd ho (hT 1 a3 jd λb=>af (aQ h 1 b jd) λc=>cg jd λd=>N [aB,a3,ho,d] c U) (aM [aB,a3,ho,jd] h U)
def ab6(s:al)(a3 i0 fd kY:X)(h:ae)(U:Nat)(N:aR)(aP:aR)(R:aR):Prop:=cH kY fd (hv 3 h 3 i0 kY λc=>bW [(ad 0),(ad 0),(ad 0)] h U λd e f=>af (aQ e 3 d c) λg=>ax g 0 d λj=>b9 91 [a3,j] g f λk l m=>bf 1 d λn=>bT l n λo=>c0 n o (b9 91 [a3,o] l m λp q r=>af (min2 false k p) λt=>af (min2 true k p) λaD=>hT 1 a3 t λv=>af (aQ q 1 v aD) λw=>cg kY λx=>N [a3,i0,fd,x] w r) 1 [g]) (aP [a3,i0,fd,kY] h U)
def grown:cP:=λs ah h U K=>bI ah h U λa b c=>ax b 0 a λe=>d4 (tf [(ad 0)] e e) b c λf g i=>cV f λj=>bD (bR Q s F4 90 0) [a,f,j,(ad 0)] g i [(0,λk l m=>ax l 1 (a7 k 0) λo=>cV o λp=>bD (bR Q s F4 90 1) [(a7 k 1),o,p,(ad 0)] l m [(2,λq r t=>K (a7 q 0) r t)] (λ_ _ _=>False))] (λ_ _ _=>False)
theorem asE{s:al}{A B:X}{h:ae}{U:Nat}:bR Q s F4 90 0 [aB,a3,A,B] h U N [(0,aM)] R=ab5 s aB a3 A B h U N aM R:=by kernel_rfl
theorem asF{s:al}{B fd A:X}{h:ae}{U:Nat}:bR Q s F4 90 1 [a3,B,fd,A] h U N [(2,aP)] R=ab6 s a3 B fd A h U N aP R:=by kernel_rfl
theorem au6:cQ 90 grown:=cT F4
def P0:aa (aa Nat):=[[4,5,20,21,22]]
def ZV(s:al)(aY bN iA hC ef:X)(h:ae)(U:Nat)(N:aR)(aM:aR)(R:aR):Prop:=cH ef hC (d0 h 1 iA ef λc=>aW s 91 [bN,ef] h U λd e f=>bw .neq 2 d c (R [(.bool false),bN,iA,hC,ef] e f) (cg ef λi=>N [aY,bN,iA,hC,i] e f)) (aM [aY,bN,iA,hC,ef] h U)
def OP(s:al)(K:bP)(ct cB Uc:X)(au:ae)(a0:Nat):Prop:=br Uc (K (.bool false) au a0) (aN 2 au cB λa=>aW s 90 [a] au a0 λb c d=>cV ct λe=>bD (bR Q s P0 28 0) [(.bool false),b,ct,e,(ad 0)] c d [(0,λf g i=>K (.bool true) g i)] (λj k l=>K (a7 j 0) k l))
def ad9:c5:=λs ah t1 h U K=>bI ah h U λa b c=>aN 2 b a λd=>aW s 83 [d] b c λe f g=>ls e (OP s K t1 a (.bool true) f g) (cV t1 λj=>ax f 0 a λl=>bG .neq 3 j l λm=>(OP s K t1 a m f g))
theorem aoT{s:al}{B A D:X}{h:ae}{U:Nat}:bR Q s P0 28 0 [aY,bN,B,A,D] h U N [(0,aM)] R=ZV s aY bN B A D h U N aM R:=by kernel_rfl
theorem asG:c7 28 ad9:=c9 P0
def zt:aa (aa Nat):=[[1,3,4],[1,3,5],[1,3,5,6]]
def XV(s:al)(aB a3 aY:X)(h:ae)(U:Nat)(N:aR)(aM:aR)(R:aR):Prop:=ax h 0 aB λb=>cH aY b (d4 (fh 1 [(ad 0)] [(0,1,aY)]) h U λd e f=>dG (dX (dT 1 e f a3 d)) λg i j=>cg aY λk=>N [aB,g,k] i j) (aM [aB,a3,aY] h U)
def XW(s:al)(aB a3 bN bu:X)(h:ae)(U:Nat)(N:aR)(e6:aR)(R:aR):Prop:=ax h 1 aB λb=>cV b λc=>cH bu c (ax h 1 aB λf=>hv 3 h 3 f bu λi=>bW [(ad 0),(ad 0),(ad 0)] h U λj k l=>af (aQ k 3 j i) λm=>ax m 0 j λo=>d0 m 1 a3 o λq=>ax m 1 j λt=>d0 m 1 a3 t λv=>af (min2 true q v) λw=>ax m 0 j λy=>hT 1 a3 y λz=>af (aQ m 1 z w) λbz=>ax bz 1 j λbQ=>hT 1 a3 bQ λa8=>af (aQ bz 1 a8 w) λbY=>cg bu λb7=>N [aB,a3,bN,b7] bY l) (e6 [aB,a3,bN,bu] h U)
def XX(s:al)(aB a3 bN:X)(h:ae)(U:Nat)(N:aR)(aP:aR)(R:aR):Prop:=ax h 0 aB λb=>cH bN b (bD (bR Q s zt 27 2) [aB,a3,bN,(ad 0)] h U [(4,λd e f=>cg (a7 d 2) λg=>N [(a7 d 0),(a7 d 1),g] e f)] (λ_ _ _=>False)) (aP [aB,a3,bN] h U)
def ab7:cP:=λs ah h U K=>bI ah h U λa b c=>bD (bR Q s zt 27 0) [a,ay,(ad 0)] b c [(0,λd e f=>bD (bR Q s zt 27 1) [(a7 d 0),(a7 d 1),(ad 0)] e f [(2,λg i j=>K (a7 g 1) i j)] (λ_ _ _=>False))] (λ_ _ _=>False)
theorem alg{s:al}{h:ae}{U:Nat}:bR Q s zt 27 0 [aB,a3,aY] h U N [(0,aM)] R=XV s aB a3 aY h U N aM R:=by kernel_rfl
theorem alh{s:al}{h:ae}{U:Nat}{A:aR}:bR Q s zt 27 2 [aB,a3,bN,bu] h U N [(4,A)] R=XW s aB a3 bN bu h U N A R:=by kernel_rfl
theorem ali{s:al}{h:ae}{U:Nat}:bR Q s zt 27 1 [aB,a3,bN] h U N [(2,aP)] R=XX s aB a3 bN h U N aP R:=by kernel_rfl
theorem aoU:cQ 27 ab7:=cT zt
def afx:gf:=λs ah t1 t2 h U K=>bI ah h U λa b c=>aN 2 b a λd=>aW s 87 [d,t1,t2] b c λe f g=>bW [(ad 0),(ad 0),(ad 0),(ad 0),ay,(ad 0),ay,(ad 0),(ad 0),(ad 0),(ad 0),ay] f g λi j k=>af (aQ j 12 i e) λl=>aN 12 l i λm=>ax l 10 i λo=>b9 75 [m,o] l k λp q r=>aN 12 q i λt=>jg 12 i t (b9 76 [t,ay,p] q r λaD v w=>af (cy aD 0) λx=>bW [(ad 0),(ad 0),(ad 0),(ad 0),ay,ay,ay,(ad 0),(ad 0)] v w λy z bz=>af (aQ z 9 y x) λbU=>af (cy aD 1) λbQ=>ls bQ (K (.tuple ⟨[ay,bQ]⟩) bU bz) (bf 0 y λbY=>bf 2 bY λb7=>ax bU 2 b7 λcK=>aW s 88 [cK] bU bz λcC dn df=>K (.tuple ⟨[cC,bQ]⟩) dn df)) 1 [l]
theorem au7:gl 25 afx:=gp []
def ab8:gf:=λs ah t1 t2 h U K=>bI ah h U λa b c=>bW [(ad 0),(ad 0),(ad 0),(ad 0),ay,(ad 0),ay,(ad 0),(ad 0),(ad 0),(ad 0),ay] b c λd e f=>aN 2 e a λg=>aW s 22 [g,(ad 0),t1,t2] e f λi j k=>bW [(ad 0),(ad 0),(ad 0),(ad 0),ay,(ad 0),ay,(ad 0),(ad 0),(ad 0),(ad 0),ay] j k λl m n=>af (aQ m 12 l i) λo=>bf 0 l λp=>bf 0 p λq=>af (aQ o 1 q (ad 3)) λr=>aN 12 r l λt=>af (aQ r 12 d t) λaD=>aN 12 aD d λv=>K v aD n
theorem aoV:gl 87 ab8:=gp []
def ab9:cP:=λs ah h U K=>bI ah h U λa b c=>aN 5 b a λd=>aW s 15 [d] b c λe f g=>af (cy e 0) λi=>af (cy e 1) λj=>af (cy e 2) λk=>af (cy e 3) λl=>bW [(ad 0),ay] f g λm n o=>af (aQ n 2 m i) λp=>aN 2 p m λq=>aW s 25 [q,k,l] p o λr t aD=>af (cy r 0) λv=>af (cy r 1) λw=>aW s 26 [] t aD λx y z=>br x (bw .eql 30 w (ad 0) (aN 2 y m λbU=>aW s 27 [bU] y z λbQ a8 bY=>aW s 19 [v,bQ] a8 bY λb7 bL cK=>br b7 (aN 2 bL m λcC=>aW s 28 [cC,v] bL cK λdn df eJ=>K dn df eJ) (K (.bool false) bL cK)) (K (.bool false) y z)) (K (.bool false) y z)
theorem aoW:cQ 5 ab9:=cT []
def axc(N b:Nat)(dK:aa Nat)(v:Nat)(h:ae)(U:Nat):bP:=λr ac Y=>∃(q:Nat) (fU:aa Nat),r = (q:X)/\gi dK v q/\q7 N fU/\(∀aD q,gi dK aD q->gi fU aD q)/\u ac b=some (.cells (f9 (hz fU)) false)/\(∀b4,b4≠b->u ac b4=u h b4)/\Y=U
theorem agI{a b:Nat}:min (a:Int) (b:Int)=((min a b:Nat):Int):=J
theorem azh{a b:Nat}:max (a:Int) (b:Int)=((max a b:Nat):Int):=J
theorem P1{A:aa Nat}{i x:Nat}(h:A[i]? = some x):(f9 (hz A))[i]? = some (x:X):=i6 (I7 h)
theorem QR{N b cap:Nat}{aO:aw Nat}(ek:N<1000000):∀(v:Nat),v<N->∀{s:al} (A:aa Nat) (h:ae) (U:Nat),q7 N A->u h b=some (.cells (f9 (hz A)) false) ->
  aH Q s 91 [.slice (some ⟨b,0,aO⟩) N cap,(v:X)] h U (axc N b A v h U):=by
 intro v
 induction v using Nat.strongRecOn with
 |_ v eO =>
  intro V s A h U K aT;obtain⟨B,P⟩:=d1 (l:=A) (i:=v) (by rw[K.1];exact V);have huv:=K.2 v B P;refine axb ?_;unfold root;simp(disch:=omega)only[bn,aT,P1 P,seval];refine⟨λD=>?_,λbE=>?_⟩
  ·have D:B≠v:=λe=>by subst e;simp at D
   refine(eO B J J A h U K aT).mono ?_;rintro r h1 kC ⟨q,aBa,rfl,a5,E,ap,ig,hk,rfl⟩;have I:gi A v q:=.up P D a5;obtain⟨DZ,rz⟩:=gi.short E (ap _ _ I);have cM:(hz (aBa.set v q))[v]? = some ((q:Nat):Int):=I7 (by rw[y9,if_pos rfl,if_pos (by rw[E.1];exact V)]);simp(disch:=omega)only[bn,ig,I9,i6 cM,seval];refine⟨by rw[qZ,E.1];exact V,q,aBa.set v q,rfl,I,DZ,λu' k0 ac=>rz _ _ (ap _ _ ac),aS _ _ _,λb4 ar=>(aq ar).trans (hk b4 ar),rfl⟩
  ·have bE:B=v:=by
    have ar:(B:Int)=(v:Int):=by simpa using bE
    omega
   subst bE;exact⟨B,A,rfl,.here P,K,λ_ _ h=>h,aT,λ_ _=>rfl,rfl⟩
def axd(N U:Nat)(v2:X)(h:ae)(m:Nat)(aE:aa X)(ac:ae)(Y:Nat):Prop :=
 ∃i:Nat,m=N-i/\i<=N/\aE=[bd U,.slice (some ⟨U+1,0,none⟩) N N,(N:X),(i:X)]/\u ac U=some (.cells [(N:X),v2] false)/\u ac (U+1)=some (.cells (f9 (hz (uL N i))) false)/\aA U h ac/\Y=U+1+1
def axe(N U:Nat)(v2:X)(gs:aa GE)(h:ae)(m:Nat)(aE:aa X)(ac:ae)(Y:Nat):Prop :=
 ∃(i:Nat) (dK:aa Nat),m=gs.length-i/\i<=gs.length/\qn N gs i dK/\aE=[.slice (some ⟨U+1,0,none⟩) N N,v2,(gs.length:X),(i:X)]/\u ac (U+1)=some (.cells (f9 (hz dK)) false)/\aA U h ac/\U+1+1<=Y
def au8(N U:Nat)(gs:aa GE)(h:ae):bP:=λr ac Y=>∃(b:Nat) (dK:aa Nat),r = .slice (some ⟨b,0,none⟩) N N/\u ac b=some (.cells (f9 (hz dK)) false)/\qn N gs gs.length dK/\U<=b/\b<Y/\aA U h ac/\U<=Y
theorem aoX(N:Nat):List.replicate N (Value.int .i64 0)=f9 (hz (uL N 0)):=by rw[ajq];simp[f9]
theorem asH{s:al}{N:Nat}{h:ae}{U:Nat}(aJ:ft h U v cW gs)(ek:N<=4096)(bb:gs.length<=65536)(iw:∀g∈gs,hi N g):
  aH Q s 90 [.agg ⟨[(N:X),v]⟩] h U (au8 N U gs h):=by
 refine au6 ?_;obtain⟨a,cap,rfl,aZ⟩:=id aJ;unfold grown;refine bg @aoX ?_;refine bD.mk (axd N U (.slice a gs.length cap) h) N ⟨0,J,J,rfl,by rw[aq J,aS],aS _ _ _,((aA.refl _ _).set (cD _)).set (sV _),rfl⟩ ?_;rintro _ _ ac _ ⟨i,rfl,aj,rfl,cv,E,K,rfl⟩;rw[asE];unfold ab5;refine cL @cv @E ?_;refine⟨λA=>?_,λeN=>?_⟩
 ·have HZ:IntKind.wrap .i64 ((i:Int)+1)=((i+1:Nat):Int):=cG J;simp(disch:=omega)only[bn,E,I9,alQ A,HZ,seval];exact⟨by rw[qZ,B0];exact A,N-(i+1),J,i+1,rfl,A,rfl,by rw[aq J];exact cv,aS _ _ _,K.set J,rfl⟩
 ·have:i=N:=J
  subst this;rw[ajr]at E;refine bD.mk (axe i U (.slice a gs.length cap) gs h) gs.length ⟨0,_,J,J,qn.init,rfl,E,K,cD _⟩ ?_;rintro _ _ ac Y ⟨j,dK,rfl,b1,g1,rfl,E,K,dR⟩;rw[asF];unfold ab6;refine aF ?_;refine⟨λA=>?_,λeN=>?_⟩
  ·obtain⟨x,a1⟩:=d1 A;obtain⟨_,b,aO,bJ,c1,cs,aT,aV,oU⟩:=aJ.at a1;cases aV;obtain⟨eX,dO,fZ,lr⟩:=iw x (k4 a1);simp(disch:=omega)only[bn,(K b aT).trans oU,yA (enc:=cW) (k:=3) (λ_=>rfl) a1,cW,seval];refine(QR (N:=i) (b:=U+1) J x.f eX dK _ _ g1.vW (by rw[aq J,aq J];exact E)).mono ?_;rintro r ar nk ⟨q,MC,rfl,a5,I,rz,fw,V,rfl⟩;have g2:=V Y J;rw[aS]at g2;refine bg @g2 ?_;refine(QR (N:=i) (b:=U+1) J x.t dO MC _ _ I fw).mono ?_;rintro r aL tH ⟨k0,aC5,rfl,Lq,D,B,n0,e8,rfl⟩;have eo:=B _ _ (rz _ _ a5);have gY:=B _ _ Lq;have P:=(g1.same I rz).same D B;have dt:=eo.le D;have eG:=Lq.le I;have Vf:IntKind.wrap .i64 ((j:Int)+1)=((j+1:Nat):Int):=cG J;have bl:max q k0<i:=J
   simp(disch:=omega)only[bn,agI,azh,n0,I9,Vf,qZ,D.1,seval];refine⟨bl,_,J,j+1,_,rfl,J,P.step a1 eo gY,rfl,aS _ _ _,λc aZ=>?_,J⟩;rw[aq J,e8 c J,V c J,aq J,aq J];exact K c aZ
  ·have:j=gs.length:=J
   subst this;exact⟨U+1,dK,rfl,E,g1,J,J,K,J⟩
end Go.Proofs.YthlhhajnbgjfmaaGreat
