/- Lemmas, each with its conditions. -/
import Derived.Test.YthlhhajnbgjfmaaGreatRwHwFn7
namespace Go.Proofs.YthlhhajnbgjfmaaGreat
open Go Go.Ax Go.Ax.HdH
set_option linter.all false
set_option maxHeartbeats 1000000
set_option maxRecDepth 1000000
variable {v gi ax a3 ew eG bl:X} {gs:aa GE} {aV:X} {q:Nat->ak} {R N:aH} {bf:X} {tG tH:Nat} {a0:X} {ai:Nat} {cs:aa GE} {aF:aH} {m:cw} {a2 pR jT z2 z3 z4 Ag CA sM JA:X} {ed:Nat} {aJ:aH}
section
variable {s:ak} {h:ad} {U b1 du dd b n co gK fD hB:Nat} {room:Int} {f:eE} {p:k0}
structure z1 (h:ad) (U b1 du dd b n co gK fD hB:Nat) (room:Int) (f:eE):Prop where
 p:u h b1=some (.cells (kS room (.slice (some ⟨b,0,some 1⟩) 1 1) du dd (n+1) n) false)
 r:u h b=some (.cells [(n:X)] false)
 o:ju h dd ik [(n,.int .i64 1,co)] fD
 m:ju h du ik [(n,.agg ⟨ef f⟩,gK)] hB
 pJ:b1<U
 ao:dd<U/\dd≠b1
 Aj:du<U/\du≠b1/\du≠dd
 bB:b<U/\b≠b1/\b≠dd/\b≠du
 fI:n<100000
theorem z1.T{ac:ad}{Y:Nat}(B:z1 h U b1 du dd b n co gK fD hB room f)(A:∀d,d=b1\/d=dd\/d=du\/d=b->u ac d=u h d)(D:U<=Y):z1 ac Y b1 du dd b n co gK fD hB room f :=
 ⟨(A _ (.inl rfl)).trans B.p,(A _ (.inr (.inr (.inr rfl)))).trans B.r,B.o.T ab,B.m.T ab,by have:=B.pJ;omega,⟨by have:=B.ao;omega,B.ao.2⟩,⟨by have:=B.Aj;omega,B.Aj.2⟩,⟨by have:=B.bB;omega,B.bB.2⟩,B.fI⟩
structure Bx0 (h:ad) (b1 du dd b n fD hB l9:Nat) (room:Int):Prop where
 p:u h b1=some (.cells (kS room (.slice (some ⟨b,0,some 1⟩) 0 1) du dd (n+1) l9) false)
 r:u h b=some (.cells [.int .i64 0] false)
 o:u h dd=some (.map [] fD)
 m:u h du=some (.map [] hB)
theorem as0(B:z1 h U b1 du dd b n co gK fD hB room f):
  aD Q s 347 [bb b1,.int .i64 0] h U (λr ac Y=>r = .agg ⟨ef f⟩/\Bx0 ac b1 du dd b n fD hB n room/\(∀d,d<U->d≠b1->d≠dd->d≠du->d≠b->u ac d=u h d)/\U<=Y):=by
 refine bS ?_;obtain⟨yu,Jv,aCC,aA4,dQ,K,j3,lG,aA5⟩:=B;have hl:∀{o},u (F h U o) b1=_:=λ{o}=>(aq J).trans yu;have dD:∀{o},u (F h U o) b=_:=λ{o}=>(aq J).trans Jv;have dZ:∀{o},ju (F h U o) du ik [(n,.agg ⟨ef f⟩,gK)] hB:=λ{o}=>aA4.T ab;have V:=λo=>xE (rT n5) (dZ (o:=o)) (k:=n) (z:=.agg #[.int .i64 0,.int .i64 0,.int .i64 0,.int .i64 0,.int .i64 0,.int .i64 0,.slice none 0 0,.slice none 0 0,.slice none 0 0,.int .i64 0,.bool false]) (ok:=false);rw[show iV [(n,Value.agg ⟨ef f⟩,gK)] n=some (.agg ⟨ef f⟩)from by rw[yX];grind,show ik n = (n:X)from rfl]at V
 replace V:=λo=>(V o).trans (show _=R.ok (Value.agg ⟨ef f⟩)from rfl)
 unfold kS at hl;refine Tk @hl @dD @V ?_;unfold ef;refine mA @hl ?_;refine(au0 (n:=n) ab).mono ?_;rintro _ _ _ ⟨rfl,rfl,rfl⟩;generalize iw:F (F (F h U _) (U+1) _) (U+1) _=G;have aCD:∀d,d<U->u G d=u h d:=ab
 have XE:=aN (F (F h U (.cells [.int .i64 0,.int .i64 0,.int .i64 0,.int .i64 0,.int .i64 0,.int .i64 0,.slice none 0 0,.slice none 0 0,.slice none 0 0,.int .i64 0,.bool false] false)) (U+1) (.cells [.int .i64 0,.int .i64 0,.int .i64 0,.int .i64 0,.int .i64 0,.int .i64 0,.slice none 0 0,.slice none 0 0,.slice none 0 0,.int .i64 0,.bool false] false)) (U+1) (.cells (ef f) false);have gN0:u G U=some (.cells [.int .i64 0,.int .i64 0,.int .i64 0,.int .i64 0,.int .i64 0,.int .i64 0,.slice none 0 0,.slice none 0 0,.slice none 0 0,.int .i64 0,.bool false] false):=ab
 replace XE:u G (U+1)=some (.cells (ef f) false):=by rw[<-iw];exact XE
 have cj:∀{o},u (F G b o) b1=_:=λ{o}=>(aq J).trans ((aCD b1 dQ).trans yu);unfold kS at cj;refine mA @cj ?_;generalize gh:F (F G b _) b1 _=H;have P:∀d,d≠b->d≠b1->u H d=u G d:=ab
 have A:u H b1=some (.cells (kS room (.slice (some ⟨b,0,some 1⟩) 0 1) du dd (n+1) n) false):=by rw[<-gh,aN];rfl
 have XF:ju H dd ik [(n,.int .i64 1,co)] fD:=aCC.T ab;have aCE:ju H du ik [(n,.agg ⟨ef f⟩,gK)] hB:=aA4.T ab;have aJ:=xE (rT n5) XF (k:=n) (z:=.int .i64 0) (ok:=false);rw[show iV [(n,Value.int .i64 1,co)] n=some (.int .i64 1)from by rw[yX];grind,show ik n = (n:X)from rfl]at aJ
 replace aJ:=aJ.trans (show _=R.ok (Value.int .i64 1)from rfl)
 have ce:=av1 (x:=.int .i64 0) (rT n5) XF;rw[show ik n = (n:X)from rfl]at ce;unfold kS at A;simp(disch:=omega)only[bd,↓reduceIte,Nat.reduceAdd,Nat.reduceSub,Nat.reduceMul,Nat.reduceLT,Nat.reduceLeDiff,Nat.reduceEqDiff,Int.reduceBEq,Int.reduceLT,Int.reduceNeg,A,aJ,ce,show IntKind.wrap .i64 ((1:Int)-1)=0 from rfl];have hPm:∀{o},u (F H dd o) b1=_:=λ{o}=>(aq (kE K.2)).trans A;have I:ju (F H dd (.map (lN ik [(n,.int .i64 0,co)]) fD)) dd ik [(n,.int .i64 0,co)] fD:=⟨ab,ab,λe bk=>by rw[iR.1 bk];exact XF.lt (n,.int .i64 1,co) ab,ab⟩
 have eC:=xE (rT n5) I (k:=n) (z:=.int .i64 0) (ok:=false);rw[show iV [(n,Value.int .i64 0,co)] n=some (.int .i64 0)from by rw[yX];grind,show ik n = (n:X)from rfl]at eC
 replace eC:=eC.trans (show _=R.ok (Value.int .i64 0)from rfl)
 have gP:=λr=>agW (U:=U+1+1) (rest:=r) awU (rT n5) I;rw[show ik n = (n:X)from rfl]at gP;have mB':∀{o aW},ju (F (F H dd o) dd aW) du ik [(n,.agg ⟨ef f⟩,gK)] hB:=λ{o aW}=>aCE.T ab;have g1:=λr o aW=>agW (U:=U+1+1) (rest:=r) awV (rT n5) (mB' (o:=o) (aW:=aW));rw[show ik n = (n:X)from rfl]at g1;have D:∀{o aW},u (F (F H dd o) dd aW) b1=_:=λ{o aW}=>(aq (kE K.2)).trans ((aq (kE K.2)).trans A);simp(disch:=omega)only[bd,↓reduceIte,Nat.reduceAdd,Nat.reduceSub,Nat.reduceMul,Nat.reduceLT,Nat.reduceLeDiff,Nat.reduceEqDiff,Int.reduceBEq,Int.reduceLT,Int.reduceNeg,hPm,eC,gP,D,g1,dS];have E:=(P (U+1) J J).trans XE;have gN2:=(P U J J).trans gN0;unfold ef at E;refine uj @E @gN2 ?_;refine⟨⟨?_,?_,?_,?_⟩,ab,J⟩
 ·rw[aq J,aq (kE j3.2.1),aq (kE K.2),aq (kE K.2)];exact A
 all_goals grind
theorem apG{g:ad}(B:z1 h U b1 du dd b n co gK fD hB room f)(G:lx g h)(bI:∀d,d=b1\/d=dd\/d=du\/d=b\/U<=d->u g d=none)(bx:nl g U f p)(V:f.hZ=(n:Int))(b9:p.mq.length<10000)(dL:p.oh.length<10000):
  aD Q s 243 [bb b1,.int .i64 0] h U (λr ac Y=>∃K,r = .tuple ⟨[.agg ⟨ef K⟩,.bool true,.int .i64 0]⟩/\lX ac U Y K p/\Bx0 ac b1 du dd b n fD hB (n+1) room/\(∀d,d<U->d≠b1->d≠dd->d≠du->d≠b->u ac d=u h d)/\U<=Y):=by
 refine asW ?_;obtain⟨aDe,aA6,aDf,hZ,e5,rB,bf,n6,hD,aZ,n7,jm,bo,n8,hE,fn,aAz⟩:=f;have V:hZ=(n:Int):=V;subst V;have dQ:=B.pJ;have dC:=B.ao;have j3:=B.Aj;have lG:=B.bB;have aA5:=B.fI;have I:∀{o},z1 (F h U o) (U+1) b1 du dd b n co gK fD hB room _:=λ{o}=>B.T ab J;have hl:=λo=>(I (o:=o)).p;have dD:=λo=>(I (o:=o)).r;unfold kS at hl;unfold afM;refine aB ?_;refine(auY (k:=0) I.p J).f4 ?_;simp(disch:=omega)only[bd,hl,dD,Int.lt_irrefl,CU,seval];unfold QS;refine aB ?_;refine(as0 I).mono ?_;rintro _ P E ⟨rfl,C,hk,dr⟩;have iH:u P U=_:=(hk U J J J J J).trans (aN _ _ _);have h0:∀{o aW},u (F (F P E o) E aW) b1=_:=λ{o aW}=>(aq J).trans ((aq J).trans C.p);unfold kS at h0;unfold ef;simp(disch:=omega)only[bd,h0,Int.lt_irrefl,CU,seval];have jF:IntKind.wrap .i64 ((n:Int)+1)=((n+1:Nat):Int):=cn J;refine a9 @jF ?_;generalize iw:F (F (F P E _) E _) b1 _=H;have D:∀d,d≠b1->d≠E->u H d=u P d:=ab
 have hHp:u H b1=some (.cells (kS room (.slice (some ⟨b,0,some 1⟩) 0 1) du dd (n+1) (n+1)) false):=by rw[<-iw,aN];rfl
 have S:lx g H:=λd o bu=>by
  have bm:¬(d=b1\/d=dd\/d=du\/d=b\/U<=d):=ab
  rw[D d J J,hk d J J J J J,aq J];exact G d o bu
 refine(aej  ((bx.sub S).T  aC J) b9 dL).mono ?_;rintro _ br bH ⟨K,rfl,hx3,d5,A,e9⟩;have c4:u br U=_:=(A U J).trans ((D U J J).trans iH);unfold ef;refine a9 @c4 ?_;refine⟨K,rfl,d5.T ab J J,⟨?_,?_,?_,?_⟩,λd aY aJ ce eC gP=>?_,J⟩
 ·rw[aq J,A b1 J];omega
 ·rw[aq J,A b J,D b lG.2.1 J];exact C.r
 ·rw[aq J,A dd J,D dd dC.2 J];exact C.o
 ·rw[aq J,A du J,D du j3.2.1 J];exact C.m
 ·rw[aq J,A d J,D d aJ J,hk d J aJ ce eC gP,aq J]
theorem aki(B:z1 h U b1 du dd b n co gK fD hB room f):aD Q s 147 [bb b1] h U (cI (.int .i64 0) U h):=by refine bS ?_;have K:=B.pJ;have I:=B.bB;have D:=B.p;refine(G9 B.p).f4 ?_;refine mA @D ?_;refine⟨λh=>absurd h (by decide),λ_=>?_⟩;refine(au1 B.r).f4 ?_;have E:∀{o aW},u (F (F h U o) U aW) b1=_:=λ{o aW}=>(aq J).trans ((aq J).trans D);have A:∀{o},u (F h U o) b1=_:=λ{o}=>(aq J).trans D;refine uj @E @A ?_;refine(au2  ((aq J).trans ((aq J).trans B.r)) ab).f4 ?_;exact⟨rfl,aC,J⟩
end
def yf(own:Nat->Nat)(dy:Nat)(room:Int)(h:ad)(U b1 n:Nat):Prop:=∃du dd rw cV co gK,u h b1=some (.cells (kS room rw du dd n n) false)/\MH h rw cV/\u h dd=some (.map [] co)/\u h du=some (.map [] gK)/\b1<U/\(dd<U/\dd≠b1)/\(du<U/\du≠b1/\du≠dd)/\(∀b,cV=some b->b<U/\b≠b1/\b≠dd/\b≠du)/\own b1=dy/\own dd=dy/\own du=dy/\∀b,cV=some b->own b=dy
def uZ(own:Nat->Nat)(dy:Nat)(room:Int)(g h:ad)(U b1 n:Nat)(p:k0):Prop:=∃du dd b co gK fD hB f,z1 h U b1 du dd b n co gK fD hB room f/\tE g 0 U f p/\f.hZ=(n:Int)/\own b1=dy/\own dd=dy/\own du=dy/\own b=dy
theorem lX.frN{h:ad}{ao:Nat}{f:eE}{p:k0}(H:lX h ao ai f p):tE h ao ai f p:=⟨H.is.kind,H.is.e5,H.is.md,H.is.round,H.is.mr,H.hD.gI,H.jm.gI,H.is.n8,H.is.n,H.is.oO⟩
section
variable {s:ak} {g cb h ac:ad} {U Y b1 n dy f2:Nat} {room:Int} {own c9:Nat->Nat} {p:k0} {f:eE}
theorem yf.send(E:yf own dy room h U b1 n)(sJ:dy≠0)(B:1<=room)(bm:n<100000)(bx:nl h U f p)(b9:p.mq.length<10000)(dL:p.oh.length<10000):
  aD Q s 238 [bb b1,.agg ⟨ef f⟩] h U (λr ac Y=>r = .int .i64 0/\∃c9 cb,uZ c9 dy room cb ac Y b1 n p/\jO c9 ac Y cb/\E9 dy own c9 h ac U Y):=by
 obtain⟨du,dd,rw,cV,co,gK,de,bO,d6,fQ,V,Af,P,aA7,d9,dI,gL,kz⟩:=E;refine(apF de V B bO aA7 d6 fQ Af P bm bx b9 dL).mono ?_;rintro _ ac Y ⟨rfl,A,mo,m,c1,c2,cm,h8,qJ,hD,jm,hE,rF,I⟩;obtain⟨c9,cb,fA,D,ru,mJ⟩:=xc (dy:=dy) (own:=own) (h:=h) (ac:=ac) (U:=U) (Y:=Y) (some A) none J ab;have K:c9 A=dy:=by
  rcases cm with e|⟨aY,aJ⟩
  ·exact(D.d8 A ab).trans ab
  grind
 have lb':A<Y/\A≠b1/\A≠dd/\A≠du/\(A<U\/m<=A):=ab
 exact⟨rfl,c9,cb,⟨du,dd,A,co,gK,co+1,gK+1,mo,⟨c1,c2,h8,qJ,J,J,J,J,bm⟩,jm.frN.T (fA.new I ab) J I,hD,(D.d8 b1 V).trans d9,(D.d8 dd Af.1).trans dI,(D.d8 du P.1).trans gL,K⟩,fA,D⟩
theorem uZ.take(B:uZ own dy room g h U b1 n p)(A:jO own h U g)(E:dy≠0)(b9:p.mq.length<10000)(dL:p.oh.length<10000):
  aD Q s 243 [bb b1,.int .i64 0] h U (λr ac Y=>∃I,r = .tuple ⟨[.agg ⟨ef I⟩,.bool true,.int .i64 0]⟩/\lX ac U Y I p/\∃c9 cb,yf c9 dy room ac Y b1 (n+1)/\jO c9 ac Y cb/\E9 dy own c9 h ac U Y):=by
 obtain⟨du,dd,b,co,gK,fD,hB,f,B,bx,aM,d9,dI,V,kz⟩:=B;refine(apG B A.sub (λd P=>?_) bx.is aM b9 dL).mono ?_
 ·rcases P with rfl|rfl|rfl|rfl|P
  ·exact A.En d9 E
  ·exact A.En dI E
  ·exact A.En V E
  ·exact A.En kz E
  ·rw[A d,if_neg J]
 ·rintro _ ac Y ⟨I,rfl,d5,C,hk,K⟩;obtain⟨c9,cb,fA,D,_,_⟩:=xc (dy:=dy) (own:=own) (h:=h) (ac:=ac)   none none K ab;have dQ:=B.pJ;have dC:=B.ao;have j3:=B.Aj;have lG:=B.bB;exact⟨I,rfl,d5,c9,cb,⟨du,dd,_,some b,fD,hB,C.p,.inr ⟨b,_,rfl,rfl,C.r⟩,C.o,C.m,J,J,J,ab,(D.d8 b1 dQ).trans d9,(D.d8 dd dC.1).trans dI,(D.d8 du j3.1).trans V,λck e=>by cases e;exact(D.d8 b lG.1).trans kz⟩,fA,D⟩
theorem yf.len(E:yf own dy room h U b1 n):aD Q s 145 [bb b1] h U (fm (.int .i64 0) U h):=by
 obtain⟨du,dd,rw,D,co,gK,A,B,_⟩:=E;rcases B with⟨rfl,_⟩|⟨b,w,_,rfl,_⟩
 ·exact G9 A
 ·exact G9 A
theorem uZ.len(B:uZ own dy room g h U b1 n p):aD Q s 145 [bb b1] h U (fm (.int .i64 1) U h):=by obtain⟨du,dd,b,co,gK,fD,hB,f,B,_⟩:=B;exact G9 B.p
theorem uZ.au3(B:uZ own dy room g h U b1 n p):aD Q s 147 [bb b1] h U (cI (.int .i64 0) U h):=by obtain⟨du,dd,b,co,gK,fD,hB,f,B,_⟩:=B;exact aki B
theorem yf.other(E:yf own dy room h U b1 n)(D:U<=Y)(same:∀d,d<U->own d=dy->u ac d=u h d)(K:∀d,d<U->c9 d=own d):yf c9 dy room ac Y b1 n:=by
 obtain⟨du,dd,rw,I,co,gK,de,B,d6,fQ,g3,Af,V,aA7,d9,dI,gL,kz⟩:=E;refine⟨du,dd,rw,I,co,gK,ab,?_,ab,ab,J,J,J,ab,ab,ab,ab,ab⟩;rcases B with q|⟨b,w,P,A,gX⟩
 ·exact .inl q
 ·exact .inr ⟨b,w,P,A,ab⟩
theorem uZ.other(B:uZ own dy room g h U b1 n p)(A:U<=Y)(same:∀d,d<U->own d=dy->u ac d=u h d)(P:∀d,d<U->c9 d=own d)(I:az U g cb):uZ c9 dy room cb ac Y b1 n p:=by
 obtain⟨du,dd,b,co,gK,fD,hB,f,B,K,E,d9,dI,gL,kz⟩:=B;have dQ:=B.pJ;have dC:=B.ao;have j3:=B.Aj;have V:=B.bB;refine⟨du,dd,b,co,gK,fD,hB,f,B.T (λd bu=>?_) A,K.T (λd _ D=>I d D) J A,E,ab,ab,ab,ab⟩
 grind
end
section
variable {s:ak} {g h:ad} {U aK i j ao aw t:Nat} {c:Nat->X} {l:aa eE} {aP so:av Nat} {Z:b5} {own:Nat->Nat} {x:gy} {bz bZ cA:Nat} {C:Nat}
theorem ame(W:e0 h U aK c i j C [] aP):aD Q s 61 [bb aK] h U (λr ac Y=>(∃v,r = .tuple ⟨[.agg ⟨ef v⟩,.bool false]⟩)/\az U h ac/\U<=Y):=by
 refine bS ?_;have D:∀{o},az U h (F h U o):=aC
 have B:∀{o},e0 (F h U o) (U+1) aK c i j C [] aP:=λ{o}=>W.T (λd A=>D d (A.elim (λe=>e ▸ W.lt) λe=>(W.aP d e).2)) J;refine aB ?_;refine(QO B).f4 ?_;have ap:(((([]:aa eE).length:Nat):Int) == 0)=true:=rfl;refine a9 @ap ?_;exact⟨⟨⟨0,0,0,0,0,0,none,0,0,none,0,0,none,0,0,0,false⟩,rfl⟩,aC,J⟩
def yg(Z:b5)(aw:Nat):Prop:=∀t,t<=aw->XC Z t/\∀v y,v<Z.N->Z.e1.x t v=some y->0<=y/\y<=eB
theorem j0.cT{f:eE}(K:gj Z)(R:j0 Z aw x i j own g h U aK c l aP so bz bZ cA)(D:jO own h U g)(I:np Z.R Z.C aw x m)(E:m.dst Z.C=i*Z.C+j)(bM:j<Z.C)(eH:aw<900)(A:∀t,t<=aw->(Z.gn t=0↔t<aw))(B:yg Z aw)(V:lX h ao U f (qf Z m))(P:(x.out (i*Z.C+j)).length<800):
  aD Q s 63 [bb aK,.agg ⟨ef f⟩] h U (Ff Z aw x m i j own h U aK bz bZ cA):=by
 have qp:=I;cases m with
 |share dP o5 t =>
  have E:o5=i*Z.C+j:=E;obtain⟨rfl,rfl⟩:=t9  (i:=0)  (aL:=i)  J I.2.1 bM;exact R.share K D I eH V P
 |spread aL o5 t =>
  obtain⟨rfl,rfl⟩:=t9      E I.2.1 bM;exact R.spread K D I eH (B t I.2.2.2).2 V P
 |dw aL o5 t =>
  have E:aL*Z.C=i*Z.C+j:=E;obtain⟨rfl,rfl⟩:=t9      J K.h0 bM;obtain⟨_,_,_,aY,_,aJ,_⟩:=I;exact R.dw K D qp eH A (B t aJ).1 V P
 |dx aL t =>
  have E:0=i*Z.C+j:=E;obtain⟨rfl,rfl⟩:=t9  (i:=0)  (aL:=i)  J K.h0 bM;exact R.dx K D I eH A V P
 |order aL t =>
  have E:aL*Z.C=i*Z.C+j:=E;obtain⟨rfl,rfl⟩:=t9      J K.h0 bM;exact R.order K D I eH A V P
end
def s9(p:Nat):aa X:=[bb p]
structure z5 where
 ax:av Addr
 a6:Nat
 c1:Nat
 a2:av Addr
 bH:Nat
 c2:Nat
 a3:av Addr
 bR:Nat
 cm:Nat
def HZ(N:Nat)(v:z5):aa X:=[.int .i64 0,(N:X),.slice v.ax v.a6 v.c1,.slice v.a2 v.bH v.c2,.slice v.a3 v.bR v.cm]
def f7(a:Nat->X)(N R C:Nat)(room:Int)(ws:X)(pm:Nat)(os ar:X):aa X:=[a 0,(N:X),a 2,a 3,a 4,a 5,a 6,(R:X),(C:X),(room:X),a 10,a 11,ws,.map (some pm),os,ar]
def b5.G(Z:b5):Nat:=Z.R*Z.C+1
abbrev jo:=Fin 64 × Fin 64
def p8(k:jo):X:=.agg ⟨[(k.1.val:X),(k.2.val:X)]⟩
def n9(Z:b5)(k:jo):Nat:=Z.R*Z.C+2+(k.1.val*64+k.2.val)
variable {M:aa (jo × X × Nat)}
theorem as1{Z:b5}{k A:jo}(h:n9 Z k=n9 Z A):k=A:=by
 obtain⟨⟨a,I⟩,⟨b,P⟩⟩:=k;obtain⟨⟨K,B⟩,⟨E,D⟩⟩:=A;unfold n9 at h
 grind
section
variable {s:ak} {g cb h ac:ad} {U Y:Nat} {Z:b5} {own c9:Nat->Nat} {x fY:gy} {room:Int} {aw L dh db cp pm:Nat} {aK:Nat->Nat} {cO pI:Nat->Nat->aa cw}
structure yh (Z:b5) (room:Int) (L:Nat) (aK:Nat->Nat) (cp pm:Nat) (own:Nat->Nat) (g h:ad) (U:Nat) (a:Nat->X) (ws os ar:X) (l:aa z5) (f0 eS fS:av Nat):Prop where
 at_:u h cp=some (.cells (f7 a Z.N Z.R Z.C room ws pm os ar) false)
 ws:hs h s9 ws ((List.range (Z.R*Z.C)).map aK) f0
 os:hs h s9 os ((List.range Z.R).map λi=>aK (i*Z.C)) eS
 ar:fb h (HZ Z.N) 5 ar l fS
 b:∀b,fS=some b->b<U/\own b=Z.G/\b≠cp/\b≠pm
 mn:∀b,f0=some b->b<U/\own b=Z.G/\b≠cp/\b≠pm/\fS≠some b
 cV:∀b,eS=some b->b<U/\own b=Z.G/\b≠cp/\b≠pm/\fS≠some b
 L:l.length=L
 st:∀(t:Nat) (v:z5),l[t]? = some v->jK g U (.agg ⟨HZ Z.N v⟩) 0 Z.N (Z.e1.st t)
 p:cp<U/\own cp=Z.G
 m:pm<U/\own pm=Z.G/\pm≠cp
theorem yh.other{a:Nat->X}{ws os ar:X}{l:aa z5}{f0 eS fS:av Nat}(H:yh Z room L aK cp pm own g h U a ws os ar l f0 eS fS)(E:U<=Y)(same:∀d,d<U->own d=Z.G->d≠pm->u ac d=u h d)(D:∀d,d<U->c9 d=own d)(I:az U g cb):yh Z room L aK cp pm c9 cb ac Y a ws os ar l f0 eS fS where
 at_:=(same cp H.p.1 H.p.2 (kE H.m.2.2)).trans H.at_
 ws:=H.ws.T λb e=>by obtain⟨B,aJ,_,A,_⟩:=H.mn b e;grind
 os:=H.os.T λb e=>by obtain⟨B,aJ,_,A,_⟩:=H.cV b e;grind
 ar:=H.ar.T λb e=>by obtain⟨B,aJ,_,A⟩:=H.b b e;grind
 b:=λb e=>by obtain⟨B,aJ,A⟩:=H.b b e;grind
 mn:=λb e=>by obtain⟨B,aJ,A⟩:=H.mn b e;grind
 cV:=λb e=>by obtain⟨B,aJ,A⟩:=H.cV b e;grind
 L:=H.L
 st:=λt v e=>jK.T (H.st t v e) I E
 p:=⟨by have:=H.p.1;omega,(D cp H.p.1).trans H.p.2⟩
 m:=⟨by have:=H.m.1;omega,(D pm H.m.1).trans H.m.2.1,H.m.2.2⟩
theorem yh.wr{a:Nat->X}{ws os ar:X}{l:aa z5}{f0 eS fS:av Nat}(H:yh Z room L aK cp pm own g h U a ws os ar l f0 eS fS):cN h U ws s9 ((List.range (Z.R*Z.C)).map aK):=(H.ws.gI (ao:=0)  λc e=>⟨J,(H.mn c e).1⟩).rd
theorem yh.or{a:Nat->X}{ws os ar:X}{l:aa z5}{f0 eS fS:av Nat}(H:yh Z room L aK cp pm own g h U a ws os ar l f0 eS fS):cN h U os s9 ((List.range Z.R).map λi=>aK (i*Z.C)):=(H.os.gI (ao:=0)  λc e=>⟨J,(H.cV c e).1⟩).rd
def yi(Z:b5)(room:Int)(cO:Nat->Nat->aa cw)(dh db:Nat)(own:Nat->Nat)(g h:ad)(U:Nat)(k:jo)(b1:Nat):Prop :=
 (cO k.1.val k.2.val=[]/\∃n,n<=dh/\yf own (n9 Z k) room h U b1 n)\/∃m n,cO k.1.val k.2.val=[m]/\n<=db/\uZ own (n9 Z k) room g h U b1 n (qf Z m)
theorem yi.other{k:jo}{b1 tG tH:Nat}(B:yi Z room cO dh db own g h U k b1)(A:U<=Y)(same:∀d,d<U->own d=n9 Z k->u ac d=u h d)(D:∀d,d<U->c9 d=own d)(K:az U g cb)(e:pI k.1.val k.2.val=cO k.1.val k.2.val)(h1:dh<=tG)(V:db<=tH):yi Z room pI tG tH c9 cb ac Y k b1:=by
 rcases B with⟨P,n,I,E⟩|⟨m,n,P,I,E⟩
 ·exact .inl ⟨ab,n,J,E.other A same D⟩
 ·exact .inr ⟨m,n,ab,J,E.other A same D K⟩
structure Cd (Z:b5) (room:Int) (pm:Nat) (cO:Nat->Nat->aa cw) (dh db:Nat) (own:Nat->Nat) (g h:ad) (U:Nat) (M:aa (jo × X × Nat)) (c:Nat):Prop where
 m:ju h pm p8 M c
 get:∀k v,iV M k=some v->k.1.val<Z.R*Z.C/\k.2.val<Z.R*Z.C/\∃b1,v = (bb b1)/\yi Z room cO dh db own g h U k b1
 has:∀a b,cO a b≠[]->∃k:jo,k.1.val=a/\k.2.val=b/\iV M k≠none
theorem Cd.other{M:aa (jo × X × Nat)}{c tG tH:Nat}(B:Cd Z room pm cO dh db own g h U M c)(r8:pm<U/\own pm=Z.G)(A:U<=Y)(same:∀d,d<U->Z.G<=own d->u ac d=u h d)(D:∀d,d<U->c9 d=own d)(gD:az U g cb)(h1:dh<=tG)(P:db<=tH):Cd Z room pm cO tG tH c9 cb ac Y M c where
 m:=B.m.T ab
 get:=λk v e=>by obtain⟨K,aJ,b1,E,I⟩:=B.get k v e;refine⟨K,aJ,b1,E,I.other A (λd fv V=>same d fv ?_) D gD rfl h1 P⟩;unfold n9 at V;unfold b5.G;omega
 has:=B.has
structure iN (Z:b5) (room:Int) (aw:Nat) (aK:Nat->Nat) (cp pm aX:Nat) (ap:ad) (x:gy) (cO:Nat->Nat->aa cw) (dh db L:Nat) (own:Nat->Nat) (g h:ad) (U:Nat):Prop where
 pa:jO own h U g
 dt:∀i j,i<Z.R->j<Z.C->∃c l aP so bz bZ cA,j0 Z aw x i j own g h U (aK (i*Z.C+j)) c l aP so bz bZ cA
 ho:∃a ws os ar l f0 eS fS,yh Z room L aK cp pm own g h U a ws os ar l f0 eS fS
 qD:∃M c,Cd Z room pm cO dh db own g h U M c
 hp:aX<=U
 hc:∀d,d<aX->own d=0/\u h d=u ap d
theorem iN.still{aX:Nat}{ap:ad}(H:iN Z room aw aK cp pm aX ap x cO dh db L own g h U)(I:az U h ac)(A:U<=Y):∃c9 cb,iN Z room aw aK cp pm aX ap x cO dh db L c9 cb ac Y/\(∀d,d<U->c9 d=own d)/\az U g cb/\∀d,U<=d->c9 d=0:=by
 obtain⟨c9,cb,fA,D,_,cX⟩:=xc (dy:=Z.G)      none none A λd h1 _=>I d h1;have K:=H.pa.T fA D (Nat.succ_ne_zero _);obtain⟨a,ws,os,ar,l,f0,eS,fS,G⟩:=H.ho;obtain⟨M,c,B⟩:=H.qD;refine⟨c9,cb,⟨fA,λi j ai V=>?_,⟨a,ws,os,ar,l,f0,eS,fS,G.other A (λd E _ _=>I d E) D.d8 K⟩,⟨M,c,B.other ⟨G.m.1,G.m.2.1⟩ A (λd E _=>I d E) D.d8 K J J⟩,hu H.hp A,λd P=>?_⟩,D.d8,K,ab⟩
 ·obtain⟨c,l,aP,so,bz,bZ,cA,R⟩:=H.dt i j ai V;have:=p2 ai V;exact⟨c,l,aP,so,bz,bZ,cA,R.other A (λd E _=>I d E) D.d8 (show i*Z.C+j+1≠Z.G by unfold b5.G;omega) K rfl rfl ab ab ab⟩
 ·have:=H.hp;exact⟨(D.d8 d J).trans (H.hc d P).1,(I d J).trans (H.hc d P).2⟩
theorem iN.work{aX i j:Nat}{ap:ad}(H:iN Z room aw aK cp pm aX ap x cO dh db L own g h U)(ai:i<Z.R)(bM:j<Z.C)(fA:jO c9 ac Y cb)(E:U<=Y)(same:∀d,d<U->own d≠i*Z.C+j+1->u ac d=u h d)(I:∀d,d<U->c9 d=own d)(P:az U g cb)
  (bN:∃c l aP so bz bZ cA,j0 Z aw fY i j c9 cb ac Y (aK (i*Z.C+j)) c l aP so bz bZ cA)
  (fj:∀A D,A*Z.C+D≠i*Z.C+j->fY.q A D=x.q A D/\fY.out (A*Z.C+D)=x.out (A*Z.C+D)/\(A=0->fY.P D=x.P D/\fY.e7 D=x.e7 D)/\(D=0->fY.a A=x.a A/\fY.w A=x.w A/\fY.dV A=x.dV A)/\(A=0->D=0->fY.V=x.V/\fY.f5=x.f5)):
  iN Z room aw aK cp pm aX ap fY cO dh db L c9 cb ac Y:=by
 obtain⟨a,ws,os,ar,l,f0,eS,fS,G⟩:=H.ho;obtain⟨M,c,B⟩:=H.qD;have ci:=p2 ai bM;have iw:Z.G=Z.R*Z.C+1:=rfl;refine⟨fA,λA D da K=>?_,⟨a,ws,os,ar,l,f0,eS,fS,G.other E (λd V fF _=>same d V J) I P⟩,⟨M,c,B.other ⟨G.m.1,G.m.2.1⟩ E (λd V fF=>same d V J) I P J J⟩,hu H.hp E,λd bu=>?_⟩
 ·by_cases e:A*Z.C+D=i*Z.C+j
  ·obtain⟨rfl,rfl⟩:=t9 e K bM;exact bN
  ·obtain⟨c,l,aP,so,bz,bZ,cA,R⟩:=H.dt A D da K;obtain⟨aY,aJ,ce,eC,gP⟩:=fj A D e;exact⟨c,l,aP,so,bz,bZ,cA,R.other E same I J P aY aJ ce eC gP⟩
 ·have:=H.hp;have h1:=H.hc d bu;exact⟨(I d J).trans h1.1,(same d J J).trans h1.2⟩
theorem iN.ahX{aX b1 c:Nat}{ap:ad}{k:jo}(H:iN Z room aw aK cp pm aX ap x cO dh db L own g h U)(B:Cd Z room pm cO dh db own g h U M c)(P:iV M k=some (bb b1))(fA:jO c9 ac Y cb)(D:E9 (n9 Z k) own c9 h ac U Y)(dW:yi Z room pI tG tH c9 cb ac Y k b1)(bk:∀a b,¬(a=k.1.val/\b=k.2.val)->pI a b=cO a b)(h1:dh<=tG)(al:db<=tH):iN Z room aw aK cp pm aX ap x pI tG tH L c9 cb ac Y:=by
 obtain⟨a,ws,os,ar,l,f0,eS,fS,G⟩:=H.ho;have iw:Z.G=Z.R*Z.C+1:=rfl;have sJ:Z.G<n9 Z k:=by unfold n9;omega
 have E:=H.pa.T fA D J;obtain⟨c4,eK,_⟩:=B.get k _ P;refine⟨fA,λi j ai bM=>?_,⟨a,ws,os,ar,l,f0,eS,fS,G.other D.le (λd I fF _=>D.same d I J) D.d8 E⟩,⟨M,c,B.m.T (D.same pm G.m.1 (by rw[G.m.2.1];omega)),λV v e=>?_,λa b e=>?_⟩,hu H.hp D.le,λd bu=>?_⟩
 ·obtain⟨c,l,aP,so,bz,bZ,cA,R⟩:=H.dt i j ai bM;have:=p2 ai bM;exact⟨c,l,aP,so,bz,bZ,cA,R.other D.le D.same D.d8 J E rfl rfl ab ab ab⟩
 ·by_cases b0:V=k
  ·subst b0;rw[P]at e;cases e;exact⟨c4,eK,b1,rfl,dW⟩
  ·obtain⟨dJ,gg,A,jE,nI⟩:=B.get V v e;exact⟨dJ,gg,A,jE,nI.other D.le (λd I fF=>D.same d I (by rw[fF];exact λe=>b0 (as1 e))) D.d8 E ab h1 al⟩
 ·by_cases b0:a=k.1.val/\b=k.2.val
  ·grind
  ·rw[bk a b b0]at e;exact B.has a b e
 ·have:=H.hp;have K:=H.hc d bu;exact⟨(D.d8 d J).trans K.1,(D.same d J J).trans K.2⟩
theorem iN.mono{aX:Nat}{ap:ad}(H:iN Z room aw aK cp pm aX ap x cO dh db L own g h U)(A:dh<=tG)(D:db<=tH):iN Z room aw aK cp pm aX ap x cO tG tH L own g h U:=by obtain⟨a,ws,os,ar,l,f0,eS,fS,G⟩:=H.ho;obtain⟨M,c,B⟩:=H.qD;exact{ H with qD:=⟨M,c,B.other ⟨G.m.1,G.m.2.1⟩ J ab J aC A D⟩ }
end
theorem ahY:Q.underlying 198=some (.array 2 3):=by kernel_rfl
theorem ayZ:Q.keyTypeAt 8 198=true:=by kernel_rfl
theorem ahZ:Q.cellsOf 198=2:=by kernel_rfl
theorem Lv:xD Q 198 p8:=by
 have fin:∀a:Fin 64,(Lit.int .i64 (a.val:Int)).wf=true:=λa=>by simp[Lit.wf,IntKind.min,IntKind.max,IntKind.bits,IntKind.signed];omega
 have A:∀a b:Fin 64,Q.keyLits 8 198 [.int .i64 (a.val:Int),.int .i64 (b.val:Int)]=some [.int .i64 (a.val:Int),.int .i64 (b.val:Int)]:=λa b=>by
  have B:∀m:Fin 64,Q.keyLits 7 3 [.int .i64 (m.val:Int)]=some [.int .i64 (m.val:Int)]:=λm=>by unfold Program.keyLits;simp only[yq,fin m,and_self,if_true]
  unfold Program.keyLits;simp only[ahY,ahZ,cm,nM,CQ,Nat.reduceAdd,if_true];rw[show List.range 2=[0,1]from rfl];simp only[Ay,Ka,mx,tX,nO,JY,CN,tV,B a,B b];rfl
 have e:∀a b:jo,lq Q 198 (p8 a) (p8 b)=some (decide (a=b)):=λa b=>by
  show rj Q 198 (p8 a) (p8 b)=_;have D:∀a:jo,(p8 a).formed Q 198=true:=λa=>by simp[p8,Value.formed,ahY,ahZ]
  unfold rj;rw[ayZ,D,D];show(bif true&&(true&&true&&true&&true)then H3 (Q.keyLits 8 198 [.int .i64 (a.1.val:Int),.int .i64 (a.2.val:Int)]) (Q.keyLits 8 198 [.int .i64 (b.1.val:Int),.int .i64 (b.2.val:Int)])else none)=_;rw[A,A];show some ((mI .i64 .i64&&fN (a.1.val:Int) (b.1.val:Int))&&((mI .i64 .i64&&fN (a.2.val:Int) (b.2.val:Int))&&true))=_;rw[wT,lo,lo]
  congr 1
  grind
 refine⟨λk=>?_,e,λk=>?_⟩
 ·unfold zj;grind
 ·unfold p8;simp
theorem Bh:w0 Q 110=true:=by kernel_rfl
theorem amf{t:TypeId}(A:w0 Q t=true):bin Q .eql t (.pointer none) (.pointer none) = .ok (.bool true):=by show R.of "compared" (nV Q t (.pointer none) (.pointer none)) _=_;unfold nV;simp[A,HK,nc]
theorem au4{r:Nat}:mz (.map (some r)) (.map (some r))=true:=tW r
section
variable {s:ak} {g h:ad} {U:Nat} {Z:b5} {own:Nat->Nat} {x:gy} {room:Int} {aw L dh db cp pm:Nat} {aK:Nat->Nat} {cO:Nat->Nat->aa cw} {a:Nat->X} {ws os ar:X} {l:aa z5} {f0 eS fS:av Nat} {aX:Nat} {ap:ad}
theorem xd{f:Nat->Nat}{n:Nat}:((List.range n).map f).length=n:=ab
theorem Lw(G:yh Z room L aK cp pm own g h U a ws os ar l f0 eS fS){k:Nat}(E:k<Z.R*Z.C):aD Q s 236 [bb cp,(k:X)] h U (fm (.bool true) U h):=by
 refine bS ?_;have A:=G.at_;obtain⟨D,B,rfl,_⟩:=G.wr;rw[xd]at A;unfold f7 at A;simp(disch:=omega)only[bd,Pk Bh,A,seval];refine⟨λ_=>⟨?_,rfl,rfl⟩,λe=>absurd e J⟩
 grind
def ay0(Z:b5)(room:Int)(aw:Nat)(aK:Nat->Nat)(cp pm aX:Nat)(ap:ad)(x:gy)(cO:Nat->Nat->aa cw)(dh db L:Nat)(k:jo)(g h:ad)(U:Nat):bD:=λr ac Y =>
 ∃b1 c9 cb,r = (bb b1)/\iN Z room aw aK cp pm aX ap x cO dh db L c9 cb ac Y/\(∃M c,Cd Z room pm cO dh db c9 cb ac Y M c/\iV M k=some r)/\(∀d,d<U->d≠pm->u ac d=u h d)/\U<=Y/\az U g cb
theorem aek(H:iN Z room aw aK cp pm aX ap x cO dh db L own g h U)(mJ:aX<=pm)(k:jo)(dg:k.1.val<Z.R*Z.C)(aG:k.2.val<Z.R*Z.C)(xV:1<=room)(oT:room<=64):
  aD Q s 237 [bb cp,(k.1.val:X),(k.2.val:X)] h U (ay0 Z room aw aK cp pm aX ap x cO dh db L k g h U):=by
 refine auW ?_;obtain⟨a,ws,os,ar,l,f0,eS,fS,G⟩:=H.ho;obtain⟨M,c,B⟩:=H.qD;have a5:=G.at_;have bv:=G.p;have hm:=G.m;refine(Lw G dg).f4 ?_;refine aB ?_;refine(Lw G aG).f4 ?_;refine aB ?_;unfold R8;unfold f7 at a5;have Ce:∀{o K},u (F (F h U o) U K) cp=_:=λ{o K}=>(aq J).trans ((aq J).trans a5);have E:=λo K=>xE Lv (B.m.T (ac:=F (F h U o) U K) ab) (k:=k) (z:=.pointer none) (ok:=false);rw[show p8 k = .agg ⟨[(k.1.val:X),(k.2.val:X)]⟩from rfl]at E
 replace E:=λo K=>(E o K).trans (show _=R.ok ((iV M k).getD (.pointer none))from rfl)
 refine cx @Ce @E ?_;cases aI:iV M k with
 |some v =>
  obtain⟨_,_,b1,rfl,_⟩:=B.get k v aI;rw[aI]at E
  replace E:=λo K=>(E o K).trans (show _=R.ok (Value.pointer (some ⟨b1,0,none⟩))from rfl)
  rw[show(some (Value.pointer (some ⟨b1,0,none⟩))).getD (.pointer none) = (bb b1)from rfl];simp(disch:=omega)only[bd,pX D3,Ce,E,seval];generalize gh:F (F h U _) U _=h1;have cD:az U h h1:=by rw[<-gh];exact aC
  obtain⟨c9,cb,h6,D,P,_⟩:=H.still cD (nP U);exact⟨b1,c9,cb,rfl,h6,⟨M,c,B.other J J ab D P J J,aI⟩,ab,J,P⟩
 |none =>
  rw[show(none:av X).getD (.pointer none) = .pointer none from rfl];simp(disch:=omega)only[bd,amf D3,Ce,seval];generalize gh:F (F h U _) U _=h1;have cD:az U h h1:=by rw[<-gh];exact aC
  have cU:u h1 U=some (.cells [(k.1.val:X),(k.2.val:X)] false):=ab
  have rm:u h1 cp=_:=(cD cp bv.1).trans a5;refine(asX xV oT).mono ?_;rintro _ al bH ⟨rfl,de,bO,d6,ez,rfl⟩;have jy:u al cp=_:=(ez cp J).trans rm;have hN2:=(ez U J).trans cU;have sg:ju al pm p8 M c:=B.m.T ((ez pm J).trans (cD pm hm.1));obtain⟨fk,gH⟩:=HU (x:=.pointer (some ⟨U+1+2,0,none⟩)) Lv sg aI;rw[show p8 k = .agg ⟨[(k.1.val:X),(k.2.val:X)]⟩from rfl]at fk;simp(disch:=omega)only[bd,rm,jy,cU,hN2,fZ,au4,fk,seval];generalize Ja:F al pm _=aM at gH;have gL:∀d,d≠pm->u aM d=u al d:=ab
  have aA8:=gH aM ab;have tu:u aM cp=_:=(gL cp (kE hm.2.2)).trans jy;have NY:=(gL U J).trans hN2;have hv3:iV (M++[(k,Value.pointer (some ⟨U+1+2,0,none⟩),c)]) k=some (.pointer (some ⟨U+1+2,0,none⟩)):=by rw[Qm,aI,yX,if_pos rfl];rfl
  have ce:=xE Lv aA8 (k:=k) (z:=.pointer none) (ok:=false);rw[hv3,show p8 k = .agg ⟨[(k.1.val:X),(k.2.val:X)]⟩from rfl]at ce
  replace ce:=ce.trans (show _=R.ok (Value.pointer (some ⟨U+1+2,0,none⟩))from rfl)
  refine hw @tu @NY @ce ?_;have EE:cO k.1.val k.2.val=[]:=vg λeg=>by
   obtain⟨dp,c4,eK,gX⟩:=B.has _ _ eg
   grind
  have A:∀d,d<U->d≠pm->u aM d=u h d:=λd V I=>(gL d I).trans ((ez d J).trans (cD d V))
  let c9:Nat->Nat:=λd=>if d<U then own d else if U+1<=d/\d<U+4 then n9 Z k else 0
  obtain⟨cb,fA⟩:=DN c9 aM (U+1+3);have D:∀d,d<U->c9 d=own d:=ab
  have new:∀d,U+1<=d->d<U+4->c9 d=n9 Z k:=ab
  have P:az U g cb:=λd bu=>by
   rw[H.pa d,fA d,D d bu]
   by_cases e:own d=0
   ·rw[if_pos ⟨J,e⟩,if_pos ⟨bu,e⟩];exact A d bu λaJ=>by rw[aJ,hm.2.1]at e;cases e
   grind
  have iw:Z.G=Z.R*Z.C+1:=rfl;have aA9:Cd Z room pm cO dh db c9 cb aM (U+1+3) (M++[(k,Value.pointer (some ⟨U+1+2,0,none⟩),c)]) (c+1):=by
   refine⟨aA8,λdp v e=>?_,λa b e=>?_⟩
   ·rw[Qm]at e;cases ND:iV M dp with
    |some dG =>
     rw[ND]at e;cases e;obtain⟨c4,eK,b1,gX,lf⟩:=B.get dp v ND;refine⟨c4,eK,b1,gX,lf.other J (λd V I=>A d V λe=>?_) D P rfl J J⟩;rw[e,hm.2.1]at I;unfold n9 at I;omega
    |none =>
     rw[ND,yX]at e
     by_cases tr:dp=k
     ·subst tr;rw[if_pos rfl]at e;cases e;refine⟨dg,aG,_,rfl,.inl ⟨EE,0,J,U+1,U+1+1,_,none,0,0,ab,.inl ⟨rfl,rfl⟩,(gL _ J).trans d6,(gL _ J).trans bO,J,⟨J,J⟩,⟨J,J,J⟩,(nofun),new _ J J,new _ J J,new _ J J,nofun⟩⟩
     ·rw[if_neg tr]at e;cases e
   ·obtain⟨dp,c4,eK,gX⟩:=B.has a b e;refine⟨dp,c4,eK,λaJ=>gX ?_⟩;rw[Qm]at aJ
    grind
  refine⟨J,U+1+2,c9,cb,rfl,⟨fA,λi j ai bM=>?_,⟨a,ws,os,ar,l,f0,eS,fS,G.other J (λd V _ I=>A d V I) D P⟩,⟨_,_,aA9⟩,J,λd bu=>?_⟩,⟨_,_,aA9,hv3⟩,A,J,P⟩
  ·obtain⟨c,l,aP,so,bz,bZ,cA,R⟩:=H.dt i j ai bM;have:=p2 ai bM;exact⟨c,l,aP,so,bz,bZ,cA,R.other (dy:=Z.G) J (λd V I=>A d V λe=>I ab) D J P rfl rfl (λ_=>⟨rfl,rfl⟩) (λ_=>⟨rfl,rfl,rfl⟩) λ_ _=>⟨rfl,rfl⟩⟩
  ·exact⟨(D d J).trans (H.hc d bu).1,(A d J J).trans (H.hc d bu).2⟩
end
section
variable {s:ak} {g h:ad} {U:Nat} {Z:b5} {own:Nat->Nat} {x:gy} {room:Int} {aw L dh db cp pm:Nat} {aK:Nat->Nat} {cO:Nat->Nat->aa cw} {aX:Nat} {ap:ad}
theorem BD{f:Nat->Nat}{n i:Nat}(H:cN g U v s9 ((List.range n).map f))(S:lx g h)(ai:i<n):∃b B cap cs A,v = .slice (some ⟨b,0,B⟩) n cap/\u h b=some (.cells cs A)/\cs[i]? = some (.pointer (some ⟨f i,0,none⟩))/\b<U:=by
 have e:((List.range n).map f)[i]? = some (f i):=ab
 obtain⟨_,b,B,A,cap,I,D,E⟩:=H.at e;rw[xd]at D;have:=Gb (enc:=s9)  (λ_=>rfl) e (J:0<1);rw[FT,m9]at this;exact⟨b,B,cap,_,A,D,S _ _ E,this,I⟩
theorem as2(Z:b5)(m:cw):(qf Z m).md=(m.dst Z.C:Int):=by
 cases m <;> rfl
theorem acb(K:gj Z)(m:cw):(qf Z m).mq.length<10000/\(qf Z m).oh.length<10000:=by
 have e:∀n (x:Nat->av Int),n<=60->(bn n x).length<10000:=λn x B=>by have:=my n x;omega
 have z:([]:aa (Nat × Int)).length<10000:=by decide
 have A:=K.n60;cases m with
 |share i j t=>have:=D2 K (i+1) j;exact⟨e _ _ J,z⟩
 |spread i j t=>have:=D1 K j;exact⟨e _ _ (by unfold b5.W;omega),z⟩
 |dw i j t=>have:=zq K i;exact⟨z,e _ _ (by unfold b5.H;omega)⟩
 |dx i t=>exact⟨z,z⟩
 |order i t=>exact⟨z,z⟩
theorem MI(K:gj Z):Z.R*Z.C<=64:=sT K.ot K.m7
theorem LN{R C k:Nat}(h:k<R*C):∃i j,i<R/\j<C/\k=i*C+j:=by
 have A:0<C:=ab
 refine⟨k / C,k % C,by rw[OP A];exact h,Az _ A,?_⟩;have:=Nat.div_add_mod k C
 grind
def Fi(Z:b5)(room:Int)(aw:Nat)(aK:Nat->Nat)(cp pm aX:Nat)(ap:ad)(x:gy)(cO:Nat->Nat->aa cw)(g:ad)(U:Nat)(dh db L:Nat)(ac:ad)(Y:Nat):Prop:=∃c9 cb,iN Z room aw aK cp pm aX ap x cO dh db L c9 cb ac Y/\az U g cb/\U<=Y
theorem amg(K:gj Z)(H:iN Z room aw aK cp pm aX ap x cO dh db L own g h U){k:Nat}(B:k<Z.R*Z.C)(V:x.out k=[]):
  aD Q s 143 [bb cp,(k:X)] h U (λr ac Y=>r = .bool false/\Fi Z room aw aK cp pm aX ap x cO g U dh db L ac Y):=by
 refine aeh ?_;obtain⟨i,j,ai,bM,rfl⟩:=LN B;obtain⟨a,ws,os,ar,o4,f0,eS,fS,G⟩:=H.ho;obtain⟨c,l,aP,so,bz,bZ,cA,R⟩:=H.dt i j ai bM;have bg:l=[]:=by
  have:=R.f;rw[V]at this;cases l with
  |nil=>rfl
  |cons=>exact this.elim
 subst bg;refine(Lw G B).f4 ?_;obtain⟨b,aO,cap,cs,bC,rfl,c4,P,gX⟩:=BD G.wr (λ_ _ e=>e) B;have D:=G.at_;unfold f7 at D;refine hw @D @c4 @P ?_;refine(ame R.W).mono ?_;rintro _ h1 a6 ⟨⟨v,rfl⟩,I,A⟩;unfold ef;refine aB ?_;obtain⟨c9,cb,E,_,gD,_⟩:=H.still ((I.set A).set A) (J:U<=a6+1);exact⟨c9,cb,E,gD,J⟩
theorem apH(K:gj Z)(H:iN Z room aw aK cp pm aX ap x cO dh db L own g h U)(mJ:aX<=pm)(P:1<=room)(oT:room<=64){k:Nat}(hk:k<Z.R*Z.C){r:aa cw}(hm:x.out k=m::r)(bu:m.dst Z.C<Z.R*Z.C)(Cb:cO k (m.dst Z.C)=[])(bN:dh<=db)(hw2:db<100000):
  aD Q s 143 [bb cp,(k:X)] h U (λoj ac Y=>oj = .bool true/\Fi Z room aw aK cp pm aX ap { x with out:=up x.out k r } (uO cO k (m.dst Z.C) [m]) g U dh db L ac Y):=by
 refine aeh ?_;obtain⟨b9,dL⟩:=acb K m;obtain⟨i,j,ai,bM,rfl⟩:=LN hk;obtain⟨a,ws,os,ar,o4,f0,eS,fS,G⟩:=H.ho;obtain⟨c,l,aP,so,bz,bZ,cA,R⟩:=H.dt i j ai bM;have he:=R.f;rw[hm]at he;obtain⟨f,cc,rfl⟩:∃f cc,l=f::cc:=by
  cases l with
  |nil=>exact he.elim
  |cons f cc=>grind
 have hF1:tE g 0 U f (qf Z m):=he.1;have r8:=G.m;refine(Lw G hk).f4 ?_;obtain⟨b,aO,cap,cs,bC,rfl,c4,eK,gX⟩:=BD G.wr (λ_ _ e=>e) hk;have a5:=G.at_;unfold f7 at a5;refine hw @a5 @c4 @eK ?_;refine(apo R.W rfl (hF1.is.sub H.pa.sub) b9 dL).mono ?_;rintro _ h1 a6 ⟨mo,rfl,d5,cD,fp⟩;have eto:mo.md=(m.dst Z.C:Int):=d5.is.md.trans (as2 Z m);unfold ef;refine aB ?_;generalize nv:F (F h1 a6 _) a6 _=al;have I:u al a6=some (.cells (ef mo) false):=by rw[<-nv,aN];rfl
 have ez:az U h al:=aC
 obtain⟨Um,g2,h9,_,NZ,_⟩:=H.still ez (J:U<=a6+1);have IF:=MI K;have A:=aek (s:=true) h9 mJ (⟨i*Z.C+j,J⟩,⟨m.dst Z.C,J⟩) hk bu P oT;dsimp only at A;rw[<-eto]at A;refine A.mono ?_;rintro _ aM bR ⟨b1,H0,c3,rfl,iQ,⟨M,aCF,B,aI⟩,gL,V,N0⟩;have NY:=(gL a6 J J).trans I;unfold ef at I NY;refine⟨V,?_⟩;simp(disch:=omega)only[bd,I,NY,fZ,seval];obtain⟨_,_,pb',e,S⟩:=B.get _ _ aI;cases e;rcases S with⟨_,n,bm,E⟩|⟨bG,n,e,_⟩
 ·have WM:lX aM U bR mo (qf Z m):=d5.T ab J J;refine(E.send (by unfold n9;omega) P J WM.is b9 dL).mono ?_;rintro _ bc d4 ⟨rfl,BE,dK,d7,yB,Ot⟩;refine⟨Ot.le,?_⟩;have tQ:=iQ.ahX  B aI yB Ot (.inr ⟨m,n,q7 _ _ _ _,J,d7⟩) (λa b e=>q8 e) (cB _) (cB _);obtain⟨h8,lG,bo4,so4,rs4,rc4,rv4,JM⟩:=tQ.dt i j ai bM;obtain⟨Oq,aA5,rfl,_,D⟩:=JM.gone yB hm;refine aB ?_;refine D.mono ?_;rintro _ bP _ ⟨rfl,rfl,qJ,aCG,aCH,wB⟩;have Cy:=Ot.le;have Jb:=iQ.pa.T yB Ot (by unfold n9;omega);exact⟨BE,dK,tQ.work ai bM aCH J wB J aC ⟨_,_,_,_,_,_,_,aCG⟩ (λaL o5 eg=>⟨rfl,hH eg,ab,ab,ab⟩),aC,J⟩
 ·have e:cO (i*Z.C+j) (m.dst Z.C)=[bG]:=e;rw[Cb]at e;cases e
end
theorem apI{s:ak}{n:Nat}{h:ad}{U:Nat}(B:n<=63)(A:cN h U v kq (eU n q)):aD Q s 119 [v] h U (agB (gm (er n q)) U h):=by
 by_cases ap:n=0
 ·subst ap;refine bS ?_;obtain⟨a,cap,rfl,I⟩:=id A;refine Tv ?_;unfold each;refine aB ?_;refine bS ?_;refine ZH l3 SO λK D E=>?_;refine(adO (hb:=.slice a (eU 0 q).length cap) ⟨a,cap,rfl,λh=>absurd rfl h⟩ ab).mono ?_;rintro _ _ _ ⟨rfl,rfl⟩;exact⟨.slice none 0 0,D,λx=>⟨none,.nil,ab,aC,J⟩⟩
 ·rw[show eU n q=[mk n q]from if_neg ap]at A;exact arH B A
theorem QT{n m:Nat}{f:Nat->Int}:cF n f++cF m (λk=>f (n+k))=cF (n+m) f:=by unfold cF;rw[List.range_add,hN,pW];rfl
theorem au5{n m:Nat}:er n q++(er m λk=>q (n+k)).map (n+·)=er (n+m) q:=by unfold er;rw[List.range_add,rJ,List.filter_map];rfl
theorem ah0{aA:Type}{A:aA->aa X}{h:ad}{U:Nat}{l:aa aA}{aP:av Nat}(w:hs h A v l aP)(B:∀c,aP=some c->c<U):cN h U v A l:=(w.gI (ao:=0)  ab).rd
section
variable {s:ak} {g h:ad} {U:Nat} {Z:b5} {own:Nat->Nat} {x:gy} {room:Int} {aw L dh db cp pm:Nat} {aK:Nat->Nat} {cO:Nat->Nat->aa cw} {aX:Nat} {ap:ad}
def aBa:fM:=.cells [.int .i64 0,.int .i64 0,.slice none 0 0,.slice none 0 0,.slice none 0 0] false
def GaJ(Z:b5)(S:jL)(U:Nat)(h:ad)(ei:X)(m:Nat)(aE:aa X)(ac:ad)(Y:Nat):Prop :=
 ∃i o cY fJ wF cV f8,m=Z.R-i/\i<=Z.R/\aE=[bb U,.pointer (some ⟨U+1,0,none⟩),o,ei,(Z.R:X),(i:X)]/\u ac (U+1)=some (.cells [.int .i64 0,(Z.N:X),cY,fJ,.slice none 0 0] false)/\u ac U=some aBa /\
  hs ac cG cY (cF (Z.bB i) S.A) wF/\hs ac cG fJ (cF (Z.bB i) S.B) cV/\hs ac cG o (gm (er (Z.bB i) S.q)) f8/\(∀b,wF=some b->U+1<b/\b<Y)/\(∀b,cV=some b->U+1<b/\b<Y)/\(∀b,f8=some b->U+1<b/\b<Y) /\
  (∀b,wF=some b->cV≠some b/\f8≠some b)/\(∀b,cV=some b->f8≠some b)/\az U h ac/\U+1<Y
def GaI(bB:Nat)(o4:aa Nat)(q:aa Nat)(a0 ax a3 aV bl bf aZ bo:X)(aP:av Nat)(U:Nat)(h:ad)(m:Nat)(aE:aa X)(ac:ad)(Y:Nat):Prop :=
 ∃k o f8,m=q.length-k/\k<=q.length/\aE=[a0,ax,o,a3,aV,bl,bf,aZ,bo,(k:X)]/\hs ac cG o (gm (o4++(q.take k).map (bB+·))) f8/\(f8=aP\/∃b,f8=some b/\U<=b/\b<Y)/\(∀d,d<U->aP≠some d->u ac d=u h d)/\U<=Y
theorem awW{bB:Nat}{E q:aa Nat}{o tL:X}{aP eS:av Nat}{A:Nat}{od mn o3:X}{ai:Int}{K:aH}(bg:bB<=60)(cz:∀x∈q,x<=60)(gA:E.length+q.length<=1000)(aCI:hs h cG o (gm E) aP)(aBb:hs h cG tL (gm q) eS)(bv:u h A=some (.cells [(bB:X),(ai:X),od,mn,o3] false))(Ix:A<U)(mM:∀b,aP=some b->b<U/\b≠A/\eS≠some b)(V:∀b,eS=some b->b<U)(ha:∀aW f8 ac Y,hs ac cG aW (gm (E++q.map (bB+·))) f8->(f8=aP\/∃b,f8=some b/\U<=b/\b<Y)->(∀d,d<U->aP≠some d->u ac d=u h d)->U<=Y->K [a0,ax,aW,bb A,aV,bl,bf,tL,(q.length:X),(q.length:X)] ac Y):
  bq (bA Q s CW 234 1) [a0,ax,o,bb A,aV,bl,bf,tL,(q.length:X),.int .i64 0] h U [(2,K)] (λ_ _ _=>False):=by
 obtain⟨eM,cl,rfl⟩:=aBb.form;rw[show(gm q).length=q.length from g5 ..]at *
 refine bq.mk (GaI bB E q a0 ax (bb A) aV bl bf (.slice eM q.length cl) (q.length:X) aP U h) q.length ⟨0,o,aP,J,J,rfl,by rw[tV,yL,hM];exact aCI,ab,ab,J⟩ ?_;rintro _ _ h1 a6 ⟨k,d9,f8,rfl,hk,rfl,B,N1,bx,dr⟩;rw[aiG];unfold X9;have P:u h1 A=_:=(bx A Ix λe=>(mM A e).2.1 rfl).trans bv
 by_cases ci:k<q.length
 ·have aR:q[k]? = some q[k]:=ab
  have aAt:=cz q[k] ab;have D:(gm q)[k]? = some ((q[k]:Nat):Int):=by unfold gm;grind
  have Hq1:hs h1 cG (.slice eM q.length cl) (gm q) eS:=aBb.T ab;obtain⟨_,b,aO,bC,cap,aG,e,a5⟩:=(ah0  Hq1 V).at D;rw[show(gm q).length=q.length from g5 ..]at e;cases e;rw[h2]at a5;have aU:=iz D;have bN:IntKind.wrap .i64 ((bB:Int)+((q[k]:Nat):Int))=((bB+q[k]:Nat):Int):=by rw[<-wH];exact js _ J
  refine j6 @a5 @aU @P @bN ?_;refine⟨λ_=>?_,λh=>absurd ci h⟩;refine rX (B.T  ab).ho (aN _ _ _) (by unfold gm;grind) λal E5 sf=>?_;have I:IntKind.wrap .i64 ((k:Int)+1)=((k+1:Nat):Int):=cn J;refine a9 @I ?_;refine⟨_,J,k+1,_,some (a6+1),rfl,J,rfl,?_,ab,λd h1 al=>?_,J⟩
  ·refine .inr ⟨a6+1,rfl,?_,?_⟩
   ·congr 1
    all_goals (unfold gm;grind)
   ·rw[h2,E5]
    congr 2
    unfold gm;rw[List.take_succ,aR,hN,hN,hN,hN,kB];rfl
  grind
 ·have:k=q.length:=J
  subst this;refine aB ?_;refine⟨λh=>absurd h J,λ_=>?_⟩;rw[ht]at B;exact ha _ _ _ _ B N1 bx dr
end
section
variable {s:ak} {g h:ad} {U:Nat} {Z:b5} {own:Nat->Nat} {x:gy} {room:Int} {aw L dh db cp pm:Nat} {aK:Nat->Nat} {cO:Nat->Nat->aa cw} {aX:Nat} {ap:ad}
theorem ah1(K:gj Z):Z.bB Z.R=Z.N:=by unfold b5.bB c6;rw[Nat.min_self];exact OJ _ K.mu
theorem Un:Z.bB 0=0:=by unfold b5.bB c6;simp
theorem agX{n:Nat}:∀x∈er n q,x<n:=λx A=>CT.1 (pV.1 A).1
theorem aiI(K:gj Z)(H:iN Z room aw aK cp pm aX ap x cO dh db L own g h U){t:Nat}(cy:∀i,i<Z.R->x.a i-1=t):
  aD Q s 234 [bb cp] h U (λr ac Y=>∃v:z5,r = .agg ⟨HZ Z.N v⟩/\mb ac U Y r 0 (Z.N:Int) Z.N (cF Z.N (Z.e1.st t).A) (cF Z.N (Z.e1.st t).B) (Z.e1.st t).q/\az U h ac/\U<=Y):=by
 refine ai8 ?_;obtain⟨a,ws,os,ar,o4,f0,eS,fS,G⟩:=H.ho;have a5:=G.at_;have bv:=G.p.1;have n60:=K.n60;generalize dW:Z.e1.st t=S;obtain⟨eR,co,rfl,_⟩:=id G.or;have xM:=G.or;rw[xd]at a5 xM;unfold f7 at a5;have rm:∀{o},u (F h U o) cp=_:=λ{o}=>(aq J).trans a5;have jy:∀{o d9 dI},u (F (F (F h U o) (U+1) d9) (U+1) dI) cp=_:=λ{o d9 dI}=>(aq J).trans ((aq J).trans rm);unfold Zg;refine cx @rm @jy ?_;refine bq.mk (GaJ Z S U h (.slice eR Z.R co)) Z.R ⟨0,_,_,_,none,none,none,J,J,rfl,aN _ _ _,?_,?_,?_,?_,ab,ab,ab,ab,(nofun),(((az.refl _ _).set (cB _)).set J).set J,J⟩ ?_
 ·rw[aq J,aq J,aN];rfl
 ·rw[Un];exact .nil
 ·rw[Un];exact .nil
 ·rw[Un];exact .nil
 rintro _ _ E a6 ⟨i,o,cY,fJ,wF,cV,f8,rfl,ai,rfl,c1,c2,Ou,Ov,XG,z8,Aj,ao,fv,fF,cD,ru⟩;rw[aiH];unfold Ya;obtain⟨bX,qE,rfl⟩:=Ou.form;obtain⟨ch,gK,rfl⟩:=Ov.form
 by_cases ci:i<Z.R
 ·obtain⟨c,l,aP,so,bz,bZ,cA,R⟩:=H.dt i 0 ci K.h0;have j1:=R.o rfl;obtain⟨b,aO,cap,cs,bC,e,c4,eK,gX⟩:=BD  xM (λ_ _ e=>e) ci;cases e;have q1':=(cD b gX).trans c4;have dr:=zq K i;have gh:Z.bB i+Z.H i=Z.bB (i+1):=by unfold b5.H;omega
  have ay1:Z.H i<=60:=J
  have hl:jK E a6 (.agg ⟨[c 28,c 29,c 30,c 31,c 32]⟩) (Z.bB i) (Z.H i) S:=by have:=j1.has;rw[cy i ci,dW]at this;exact jK.T (hP.sub this H.pa.sub) cD J
  have oo:e0 E a6 (aK (i*Z.C+0)) c i 0 Z.C l aP:=R.W.T (λd bu=>bu.elim (λe=>e ▸ cD _ R.W.lt) λe=>cD d (R.W.aP d e).2) J;refine cx @q1' @eK ?_;refine⟨λ_=>?_,λh=>absurd ci h⟩;refine(ama oo hl ay1).mono ?_;rintro _ B A ⟨⟨od,mn,aDg,rfl,Fw,Cz,CI⟩,ez,e9⟩;obtain⟨m6,u5,rfl,_⟩:=id Fw;obtain⟨ms,wA,rfl,_⟩:=id Cz;obtain⟨Ow,Ox,rfl,_⟩:=id CI;have aY:∀{o aW},u (F (F B A o) A aW) (U+1)=_:=λ{o aW}=>(aq J).trans ((aq J).trans ((ez (U+1) J).trans c1));refine a9 @aY ?_;generalize Ja:F (F B A _) A _=V;have fg:az A B V:=by rw[<-Ja];exact((az.refl _ _).set (cB _)).set (cB _)
  have p27:u V A=some (.cells [.int .i64 (Z.bB i:Int),((Z.bB i+Z.H i:Nat):X),.slice m6 (cF (Z.H i) λk=>S.A (Z.bB i+k)).length u5,.slice ms (cF (Z.H i) λk=>S.B (Z.bB i+k)).length wA,.slice Ow (eU (Z.H i) λk=>S.q (Z.bB i+k)).length Ox] false):=ab
  replace aY:u V (U+1)=_:=(fg (U+1) J).trans ((ez (U+1) J).trans c1)
  have aF:u V U=_:=(fg U J).trans ((ez U J).trans c2);clear Ja;have N2:az a6 E V:=λd bu=>(fg d J).trans (ez d bu);have Wa3:=Ou.T  λd e=>N2 d (z8 d e).2;have Wb3:=Ov.T  λd e=>N2 d (Aj d e).2;have Wo3:=XG.T  λd e=>N2 d (ao d e).2;have Nu:=cN.o  (k:=1) (λ_=>rfl) (Fw.rd.T (Y:=A+1) fg J);have SB3:=cN.o  (k:=1) (λ_=>rfl) (Cz.rd.T (Y:=A+1) fg J);have SQ3:=CI.rd.T (Y:=A+1) fg J;refine RU (k:=1) (λ_=>rfl) (λ_=>rfl) J (show zV V cG 1 _ _ wF from Wa3) Nu (by rw[jq,jq];omega) λVW I d4 N3 WN g9 JK=>?_;have Vw:A+1<=d4/\d4<=A+2:=J
  have D:∀d,d<A+1->wF≠some d->u I d=u V d:=λd E B=>JK d J B;have CF:∀d,wF=some d->U+1<d/\d<a6:=z8;have e14:u I (U+1)=_:=(D (U+1) J λe=>ab).trans aY;have cS:u I A=_:=(D A J λe=>ab).trans p27;refine⟨J,?_⟩;simp(disch:=omega)only[bd,e14,aY,cS,p27,fZ,seval];have Wb4:=Wb3.T (ac:=I) λd e=>D d ab λaJ=>(fv d aJ).1 e;have Wo4:=Wo3.T (ac:=I) λd e=>D d ab λaJ=>(fv d aJ).2 e;have Nv:eu I d4 (.slice ms (cF (Z.H i) λk=>S.B (Z.bB i+k)).length wA) cG 1 (cF (Z.H i) λk=>S.B (Z.bB i+k)):=by refine cN.o (enc:=cG) (k:=1) (λ_=>rfl) ((Cz.T (ac:=I) (ed:=a6) (da:=d4) (λd E B=>?_) (cB _) J).rd);rw[D d J (λe=>ab)];exact fg d B
  refine RU (k:=1) (λ_=>rfl) (λ_=>rfl) J (show zV I cG 1 _ _ cV from Wb4) Nv (by rw[jq,jq];omega) λVX bP fI su WO yo Oq=>?_;have EL:d4<=fI/\fI<=d4+1:=J
  have P:∀d,d<d4->cV≠some d->u bP d=u I d:=λd E B=>Oq d J B;have e15:u bP (U+1)=_:=(P (U+1) J λe=>ab).trans e14;have iv:u bP A=_:=(P A J λe=>ab).trans cS;refine⟨J,?_⟩;obtain⟨aV,h8,rfl⟩:∃a c,VW = .slice a (cF (Z.bB i) S.A++cF (Z.H i) λk=>S.A (Z.bB i+k)).length c:=(show hs I cG VW _ N3 from WN).form;obtain⟨bl,qJ,rfl⟩:∃a c,VX = .slice a (cF (Z.bB i) S.B++cF (Z.H i) λk=>S.B (Z.bB i+k)).length c:=(show hs bP cG VX _ su from WO).form;have WP:∀{o aW},u (F (F bP (U+1) o) (U+1) aW) A=_:=λ{o aW}=>(aq J).trans ((aq J).trans iv);refine cx @e15 @WP ?_;generalize N4:F (F bP (U+1) _) (U+1) _=b9;have oe:∀d,d≠U+1->u b9 d=u bP d:=λd e=>ab
  have e16:u b9 (U+1)=some (.cells [.int .i64 0,(Z.N:X),.slice aV (cF (Z.bB i) S.A++cF (Z.H i) λk=>S.A (Z.bB i+k)).length h8,.slice bl (cF (Z.bB i) S.B++cF (Z.H i) λk=>S.B (Z.bB i+k)).length qJ,.slice none 0 0] false):=ab
  replace WP:u b9 A=_:=(oe A J).trans iv
  clear N4;have noa:∀d,a6<=d->wF≠some d/\cV≠some d:=λd bu=>⟨λe=>ab,λe=>ab⟩
  have SQ6:cN b9 fI (.slice Ow (eU (Z.H i) λk=>S.q (Z.bB i+k)).length Ox) kq (eU (Z.H i) λk=>S.q (Z.bB i+k)):=by refine(CI.T (ac:=b9) (ed:=a6) (da:=fI) (λd E B=>?_) (cB _) J).rd;rw[oe d J,P d J (noa d E).2,D d J (noa d E).1];exact fg d B
  refine(apI J SQ6).mono ?_;rintro tL dL n7 ⟨eS,aBc,MW,rE,tl⟩;obtain⟨hC,Ju,eq⟩:=aBc.form;subst eq;have eY:=(rE A J).trans WP;have ay2:∀d,f8=some d->U+1<d/\d<a6/\u dL d=u V d:=λd e=>by have:=ao d e;refine⟨this.1,this.2,?_⟩;rw[rE d J,oe d J,P d J (λaJ=>fF d aJ e),D d J λaJ=>(fv d aJ).2 e]
  have Wo7:=Wo3.T (ac:=dL) λd e=>(ay2 d e).2.2;refine aB ?_;rw[show((gm (er (Z.H i) λk=>S.q (Z.bB i+k))).length:Int)=((er (Z.H i) λk=>S.q (Z.bB i+k)).length:Int) by unfold gm;grind]at *
  have oW:=vM (Z.H i) λk=>S.q (Z.bB i+k);have aAu:=vM (Z.bB i) S.q;refine awW J (λx aR=>by have:=agX x aR;omega) J Wo7 aBc eY J (λd e=>ab) (λd e=>(MW d e).2) λaW oo' h7 n8 Wo8 sK FA ahS=>?_;have zW:IntKind.wrap .i64 ((i:Int)+1)=((i+1:Nat):Int):=cn (by have:=K.ot;omega);refine a9 @zW ?_;rw[QT,gh]at WN WO;rw[QT,QT,gh]at e16;rw[au5,gh]at Wo8;have Ol:∀d,d<n7->d≠U+1->f8≠some d->wF≠some d->cV≠some d->d<A+1->u h7 d=u V d:=λd E B V I bP b9=>by rw[FA d E V,rE d J,oe d B,P d J bP,D d b9 I]
  have la':∀d,N3=some d->U+1<d/\d<d4/\(wF=some d\/A<d):=λd e=>ab
  have lb':∀d,su=some d->U+1<d/\d<fI/\(cV=some d\/d4<=d):=λd e=>by
   rcases yo with⟨aY,_⟩|⟨aY,_⟩
   all_goals grind
  have ed:∀d,oo'=some d->U+1<d/\d<n8/\(f8=some d\/n7<=d):=λd e=>by
   rcases sK with aY|⟨b,aY,aJ,ce⟩
   all_goals grind
  refine⟨_,J,i+1,aW,.slice aV (cF (Z.bB (i+1)) S.A).length h8,.slice bl (cF (Z.bB (i+1)) S.B).length qJ,N3,su,oo',rfl,J,rfl,?_,?_,?_,?_,Wo8,λd e=>ab,λd e=>ab,λd e=>ab,λd e=>⟨λaJ=>?_,λaJ=>?_⟩,λd e aJ=>?_,λd bu=>?_,J⟩
  ·rw[FA _ J (λe=>ab),rE _ J];omega
  ·grind
  ·refine(show hs I cG _ _ N3 from WN).T λd e=>?_;obtain⟨dJ,gg,jE⟩:=la' d e;have nI:f8≠some d/\cV≠some d:=by
    rcases jE with jE|jE
    ·grind
    grind
   rw[FA d J nI.1,rE d J,oe d J,P d gg nI.2]
  ·refine(show hs bP cG _ _ su from WO).T λd e=>?_;obtain⟨dJ,gg,jE⟩:=lb' d e;have nI:f8≠some d:=ab
   rw[FA d J nI,rE d J,oe d J]
  ·grind
  ·grind
  ·grind
  ·rw[Ol d J J (λe=>ab) (λe=>ab) (λe=>ab) J,N2 d J];exact cD d bu
 ·have:i=Z.R:=J
  subst this;rw[ah1 K]at Ou Ov XG;refine a9 @c1 ?_;refine⟨λh=>absurd h (Nat.lt_irrefl _),λ_=>?_⟩;refine(LJ J (ah0 XG λd e=>(ao d e).2) (λx aR=>agX x aR) (by have:=vM Z.N S.q;omega)).mono ?_;rintro r B A ⟨CI,ez,e9⟩;rw[SX]at CI;obtain⟨Ow,Ox,rfl,_⟩:=id CI;have aY:=(ez (U+1) J).trans c1;have aF:=(ez U J).trans c2;unfold aBa at aF;have e0':∀{o},u (F B (U+1) o) U=_:=λ{o}=>(aq J).trans aF;rw[ah1 K]at aY;refine cx @aY @e0' ?_;have XH:∀d,d<A->d≠U->d≠U+1->∀{o aW},u (F (F B (U+1) o) U aW) d=u B d:=λd E B V o aW=>ab
  refine⟨⟨bX,_,qE,ch,_,gK,Ow,_,Ox⟩,rfl,⟨_,_,_,rfl,(Ou.T λd e=>?_).gI λd e=>?_,(Ov.T λd e=>?_).gI λd e=>?_,eZ.T CI (λd E B=>?_) J (cB _)⟩,λd bu=>?_,J⟩
  ·have:=z8 d e;rw[XH d J J J];exact ez d this.2
  ·grind
  ·have:=Aj d e;rw[XH d J J J];exact ez d this.2
  ·grind
  ·grind
  ·rw[XH d J J J,ez d J];exact cD d bu
end
section
variable {s:ak} {g h:ad} {U:Nat} {Z:b5} {own:Nat->Nat} {x:gy} {room:Int} {aw L dh db cp pm:Nat} {aK:Nat->Nat} {cO:Nat->Nat->aa cw} {aX:Nat} {ap:ad}
theorem apJ{h ac:ad}{ao E:Nat}{I D:Int}{n:Nat}{A B:aa Int}(H:mb h ao ai v I D n A B q)(P:∀b,ao<=b->b<ai->u ac b=u h b)(V:ed<=ao)(K:ai<=E):mb ac ed E v I D n A B q:=by obtain⟨cY,fJ,ei,e,lb,ky,kY⟩:=H;exact⟨cY,fJ,ei,e,eZ.T lb P V K,eZ.T ky P V K,eZ.T kY P V K⟩
def NoJ(R L cp:Nat)(a:Nat->Nat)(os:X)(h:ad)(U:Nat)(m:Nat)(aE:aa X)(ac:ad)(Y:Nat):Prop:=∃i,m=R-i/\i<=R/\(∀aL,aL<i->a aL-1=L)/\aE=[bb cp,os,(R:X),(i:X)]/\ac=h/\Y=U
theorem acd(K:gj Z)(H:iN Z room aw aK cp pm aX ap x cO dh db L own g h U)(mJ:aX<=cp)(eJ:L<1000):
  aD Q s 140 [bb cp] h U (λr ac Y=>r = .tuple ⟨[]⟩/\Fi Z room aw aK cp pm aX ap x cO g U dh db (ui Z.R L x.a) ac Y):=by
 refine asV ?_;obtain⟨a,ws,os,ar,o4,f0,eS,fS,G⟩:=H.ho;have a5:=G.at_;have bv:=G.p;have hm:=G.m;obtain⟨eR,co,rfl,_⟩:=id G.or;have xM:=G.or;rw[xd]at a5 xM;have P:=G.ar.lens;rw[G.L]at P;unfold f7 at a5;unfold afL;refine a9 @a5 ?_;refine bq.mk (NoJ Z.R L cp x.a (.slice eR Z.R co) h U) Z.R ⟨0,J,J,J,rfl,rfl,rfl⟩ ?_;rintro _ _ ac Y ⟨i,rfl,ai,V,rfl,aY,aJ⟩;subst ac Y;rw[apA];unfold aca
 by_cases ci:i<Z.R
 ·obtain⟨c,l,aP,so,bz,bZ,cA,R⟩:=H.dt i 0 ci K.h0;have j1:=R.o rfl;obtain⟨b,aO,cap,cs,bC,e,c4,eK,gX⟩:=BD  xM (λ_ _ e=>e) ci;cases e;refine cx @c4 @eK ?_;refine⟨λ_=>?_,λh=>absurd ci h⟩;refine(al2  R.W j1.Fe).f4 ⟨J,?_⟩;have bN:IntKind.wrap .i64 ((i:Int)+1)=((i+1:Nat):Int):=cn (by have:=K.ot;omega);obtain⟨Fu,Xr,Om,rfl⟩:∃a n c,ar = .slice a n c:=by
   have:=G.ar;generalize ar=v at this;cases this <;> grind
  simp(disch:=omega)only[bd,a5,fZ,P,bN,seval];refine⟨λeg=>?_,λbk=>?_⟩
  ·refine⟨own,g,?_,aC,J⟩;rw[show ui Z.R L x.a=L from if_neg ab];exact H
  ·exact⟨_,J,i+1,rfl,J,ab,rfl,rfl,rfl⟩
 ·have:i=Z.R:=J
  subst this;refine aB ?_;refine⟨λh=>absurd h J,λ_=>?_⟩;refine(aiI K H V).mono ?_;rintro _ I a6 ⟨v,rfl,i0,cD,fp⟩;have br:=(cD cp bv.1).trans a5;refine⟨fp,?_⟩;obtain⟨Fu,Xr,Om,rfl⟩:∃a n c,ar = .slice a n c:=by
   have:=G.ar;generalize ar=v at this;cases this <;> grind
  simp(disch:=omega)only[bd,a5,br,fZ,seval];refine y6  (k:=5) (λ_=>rfl) (λ_=>rfl) J (G.ar.T λb e=>?_) v (aN _ _ _) rfl (by rw[G.L];omega) λE E5 A=>?_
  ·have:=G.b b e;rw[aq J];exact cD b this.1
  rw[G.L]at *
  have g2:u E cp=_:=(A cp J λe=>(G.b cp e).2.2.1 rfl).trans ((aq J).trans br);refine⟨J,?_⟩;refine a9 @g2 ?_;rw[show ui Z.R L x.a=L+1 from if_pos V];generalize Ja:F E cp _=aM;have gL:∀d,d≠cp->u aM d=u E d:=ab
  have c3:u aM cp=some (.cells (f7 a Z.N Z.R Z.C room ws pm (.slice eR Z.R co) (.slice (some ⟨a6+1,0,some 5⟩) (L+1) (L+1))) false):=by rw[<-Ja,aN];rfl
  have d8:∀d,d<U->own d≠Z.G->u aM d=u h d:=λd I E=>by rw[gL d (λe=>E ab),A d J (λe=>E (G.b d e).2.1),aq J];exact cD d I
  obtain⟨c9,cb,fA,D,ru,ay3⟩:=xc      (Y:=a6+1+1) (some (a6+1)) none J d8;have gD:=H.pa.T fA D (Nat.succ_ne_zero _);obtain⟨M,c,B⟩:=H.qD;have ay4:u aM pm=u h pm:=by rw[gL pm hm.2.2,A pm J (λe=>(G.b pm e).2.2.2 rfl),aq J];exact cD pm hm.1
  have aBd:∀b,b<U/\own b=Z.G/\b≠cp/\b≠pm/\fS≠some b->u aM b=u h b:=λb e=>by rw[gL b e.2.2.1,A b J e.2.2.2.2,aq J];exact cD b e.1
  have iw:Z.G=Z.R*Z.C+1:=rfl;refine⟨c9,cb,⟨fA,λi j ai bM=>?_,⟨a,ws,_,_,o4++[v],f0,eS,some (a6+1),c3,G.ws.T λb e=>aBd b (G.mn b e),(by have:=G.os.T  λb e=>aBd b (G.cV b e);rw[xd]at this;exact this),?_,λb e=>?_,λb e=>by have:=G.mn b e;exact⟨J,(D.d8 b this.1).trans this.2.1,this.2.2.1,this.2.2.2.1,λe=>ab⟩,λb e=>by have:=G.cV b e;exact⟨J,(D.d8 b this.1).trans this.2.1,this.2.2.1,this.2.2.2.1,λe=>ab⟩,by rw[jb,G.L];rfl,λt w e=>?_,⟨J,(D.d8 cp bv.1).trans bv.2⟩,J,(D.d8 pm hm.1).trans hm.2.1,hm.2.2⟩,⟨M,c,B.m.T ay4,λk w e=>?_,B.has⟩,J,λd bu=>?_⟩,gD,J⟩
  ·obtain⟨c,l,aP,so,bz,bZ,cA,R⟩:=H.dt i j ai bM;have:=p2 ai bM;exact⟨c,l,aP,so,bz,bZ,cA,R.other D.le D.same D.d8 J gD rfl rfl (λ_=>⟨rfl,rfl⟩) (λ_=>⟨rfl,rfl,rfl⟩) λ_ _=>⟨rfl,rfl⟩⟩
  ·have:=fb.own  (k:=5) E5;rw[jb,G.L]at this;exact this.T λb e=>ab
  ·grind
  ·rw[yG]at e
   split at e
   ·exact jK.T (G.st t w e) gD J
   ·rename_i eh
    rw[G.L]at eh e;have cy:t=L:=ab
    subst cy;rw[wL]at e;cases e;have gq:mb cb U a6 (.agg ⟨HZ Z.N v⟩) 0 (Z.N:Int) Z.N (cF Z.N (Z.e1.st t).A) (cF Z.N (Z.e1.st t).B) (Z.e1.st t).q:=by refine apJ i0 (λb I E=>?_) (cB _) (cB _);rw[fA.new   J (λd I E=>ay3 d I (λe=>ab) nofun) b I E,gL b J,A b J (λe=>by have:=G.b b e;omega),aq J]
    have JN:=hP.T gq.rd (az.refl a6 cb) (J:a6<=a6+1+1);unfold jK;simp only[ix];exact JN
  ·obtain⟨aY,aJ,b1,ce,eC⟩:=B.get k w e;refine⟨aY,aJ,b1,ce,eC.other D.le (λd fv fF=>D.same d fv ?_) D.d8 gD rfl (cB _) (cB _)⟩;rw[fF];unfold n9;omega
  ·have I:=H.hc d bu;exact⟨(D.d8 d J).trans I.1,(D.same d J J).trans I.2⟩
end
section
variable {s:ak} {g h:ad} {U:Nat} {Z:b5} {own:Nat->Nat} {x:gy} {room:Int} {aw L dh db cp pm:Nat} {aK:Nat->Nat} {cO:Nat->Nat->aa cw} {aX:Nat} {ap:ad}
theorem ai9(K:gj Z)(H:iN Z room aw aK cp pm aX ap x cO dh db L own g h U)(mJ:aX<=pm)(ru:aX<=cp)(xV:1<=room)(oT:room<=64){a b:Nat}(dg:a<Z.R*Z.C)(aG:b<Z.R*Z.C)(I:cO a b=[m])(bu:m.dst Z.C=b)(aR:np Z.R Z.C aw x m)(eH:aw<900)(P:∀t,t<=aw->(Z.gn t=0↔t<aw))(B:yg Z aw)(bg:(x.out b).length<800)(bN:db<dh)(eJ:L<1000):
  aD Q s 146 [bb cp,(a:X),(b:X),.int .i64 0] h U (λr ac Y=>r = .bool true/\Fi Z room aw aK cp pm aX ap (cT Z.R Z.C aw x m) (uO cO a b []) g U dh db (ui Z.R L (cT Z.R Z.C aw x m).a) ac Y):=by
 refine bS ?_;obtain⟨b9,dL⟩:=acb K m;have IF:=MI K;refine(aek H mJ (⟨a,J⟩,⟨b,J⟩) dg aG xV oT).mono ?_;rintro _ h1 a6 ⟨b1,ah2,br,rfl,iq,⟨M,aCF,yu,aI⟩,d9,fp,Kg1⟩;obtain⟨_,_,pb',e,S⟩:=yu.get _ _ aI;cases e;rcases S with⟨e,_⟩|⟨bG,n,e,bm,d7⟩
 ·have e:cO a b=[]:=e;rw[I]at e;cases e
 have e:cO a b=[bG]:=e;rw[I]at e;cases e;refine(d7.take iq.pa (by unfold n9;omega) b9 dL).mono ?_;rintro _ al D ⟨mo,rfl,d5,Um,g2,aCJ,JO,Ft⟩;have h9:=iq.ahX  (tG:=dh) (tH:=db) yu aI JO Ft (.inl ⟨q7 _ _ _ _,n+1,J,aCJ⟩) (λa b e=>q8 e) J J;unfold ef;refine aB ?_;generalize E:F (F al D _) D _=aM;have fg:az D al aM:=by rw[<-E];exact aC
 have oc:u aM D=some (.cells (ef mo) false):=by rw[<-E,aN];rfl
 have NZ:=iq.pa.T JO Ft (by unfold n9;omega);obtain⟨H0,c3,V,_,N0,_⟩:=h9.still fg (nP D);obtain⟨i,j,ai,bM,rfl⟩:=LN aG;obtain⟨c,l,aP,so,bz,bZ,cA,CH⟩:=V.dt i j ai bM;obtain⟨eo,ws,os,ar,o4,f0,eS,fS,G⟩:=V.ho;obtain⟨ck,aO,cap,cs,bC,rfl,c4,eK,gX⟩:=BD G.wr (λ_ _ e=>e) aG;have a5:=G.at_;unfold f7 at a5;refine j6 @a5 @c4 @eK @oc ?_;have WM:lX aM a6 (D+1) mo (qf Z m):=d5.T (λd fv fF=>fg d fF) J J;refine(CH.cT K V.pa aR bu bM eH P B WM bg).mono ?_;rintro _ bc d4 ⟨rfl,BE,dK,h8,lG,bo4,so4,JM,yB,A⟩;refine⟨A.le,?_⟩;have Jb:=V.pa.T yB A J;have tQ:=V.work ai bM yB A.le A.same A.d8 Jb ⟨_,_,_,_,_,_,_,JM⟩ λaL o5 eg=>akh aR J;refine(acd K tQ ru eJ).mono ?_;rintro _ bP fI ⟨rfl,ah3,gx,iI,Kg5,mE⟩;have:=A.le;have:=Ft.le;exact⟨ah3,gx,iI,aC,J⟩
end
def oa(k:jo):Int × Int:=((k.1.val:Int),(k.2.val:Int))
def HH(k:jo):aa X:=Go.Ax.lM (oa k)
theorem ace:∀l:aa jo,a1 Go.Ax.lM (l.map oa)=a1 HH l
 | []=>rfl
 |k::l=>by show Go.Ax.lM (oa k)++a1 Go.Ax.lM (l.map oa)=_;rw[ace l];rfl
def N5(p:Int × Int):jo:=(⟨p.1.toNat % 64,Az _ J⟩,⟨p.2.toNat % 64,Az _ J⟩)
theorem as3(k:jo):N5 (oa k)=k:=by
 obtain⟨⟨a,A⟩,⟨b,B⟩⟩:=k;unfold N5 oa
 grind
theorem as4{l:aa (Int × Int)}(h:∀x∈l,∃k:jo,oa k=x):∃A:aa jo,A.map oa=l:=by
 induction l with
 |nil=>exact⟨[],rfl⟩
 |cons x l D =>
  obtain⟨k,rfl⟩:=h _ (ow ..);obtain⟨A,rfl⟩:=D λy B=>h y (m8 _ B);exact⟨k::A,rfl⟩
section
variable {s:ak} {g h:ad} {U:Nat} {Z:b5} {own:Nat->Nat} {x:gy} {room:Int} {aw L dh db cp pm:Nat} {aK:Nat->Nat} {cO:Nat->Nat->aa cw} {aX:Nat} {ap:ad}
theorem WQ{l:aa jo}(A:l.Nodup):l.length<=4096:=by
 have:=Gv 4096 (l.map λe=>e.1.val*64+e.2.val) ab ab
 grind
theorem au6(A:M.Pairwise λa b=>a.1≠b.1):M.length<=4096:=by
 have:=WQ (l:=M.map (·.1)) ab
 grind
theorem yi.at{k:jo}{b1:Nat}(S:yi Z room cO dh db own g h U k b1):b1<U/\∃P a n cap du dd A D,u h b1=some (.cells (kS P (.slice a n cap) du dd A D) false)/\n=(if cO k.1.val k.2.val=[]then 0 else 1)/\A<=max dh (db+1):=by
 rcases S with⟨e,m,E,du,dd,rw,cV,co,gK,V,K,d6,fQ,I,_⟩|⟨m,bG,e,E,du,dd,b,co,gK,fD,hB,f,B,_⟩
 ·rw[if_pos e];rcases K with⟨rfl,_⟩|⟨b,w,_,rfl,_⟩
  all_goals exact⟨I,_,_,_,_,_,_,_,_,V,rfl,J⟩
 ·rw[if_neg ab];exact⟨B.pJ,_,_,_,_,_,_,_,_,B.p,rfl,J⟩
theorem amh(H:iN Z room aw aK cp pm aX ap x cO dh db L own g h U)(eg:∃a b,cO a b≠[]):
  aD Q s 144 [bb cp] h U (λr ac Y=>∃V:aa jo,r = .slice (some ⟨U,0,some 2⟩) V.length V.length/\ac=F h U (.cells (a1 HH V) false)/\Y=U+1/\V.Nodup/\∀k:jo,k∈V↔cO k.1.val k.2.val≠[]):=by
 obtain⟨a,ws,os,ar,o4,f0,eS,fS,G⟩:=H.ho;obtain⟨M,c,B⟩:=H.qD;have dW:∀e∈M,∃b1,e.2.1 = (bb b1)/\yi Z room cO dh db own g h U e.1 b1:=λe bk=>by obtain⟨_,_,b1,aY,aJ⟩:=B.get e.1 e.2.1 ((KS B.m.pD).2 ⟨e.2.2,bk⟩);exact⟨b1,aY,aJ⟩
 obtain⟨P,qh⟩:∃l:aa jo,l=(M.filter λe=>decide (cO e.1.1.val e.1.2.val≠[])).map (·.1):=⟨_,rfl⟩
 have awX:∀k:jo,k∈P↔cO k.1.val k.2.val≠[]:=λk=>by
  rw[qh];constructor
  ·grind
  ·intro h;obtain⟨dp,aY,aJ,ce⟩:=B.has _ _ h;have b0:dp=k:=ab
   rw[b0]at ce;obtain⟨v,aI⟩:=OG.1 ce;obtain⟨n,bm⟩:=(KS B.m.pD).1 aI;exact fL.2 ⟨(k,v,n),ab,rfl⟩
 have ah4:P.Nodup:=by rw[qh];exact yJ.2 (B.m.pD.filter _)
 have sb:=WQ ah4;obtain⟨-,bv,pE⟩:=PJ abl (P.map oa);generalize qZ lw (P.map oa)=ny at bv pE;obtain⟨V,rfl⟩:=as4 (l:=ny) λx aR=>by obtain⟨k,_,e⟩:=fL.1 (bv.subset aR);exact⟨k,e⟩
 have A:V.Perm P:=by have:=bv.map N5;rw[pW,pW,show N5 ∘ oa=id from funext as3,List.map_id,List.map_id]at this;exact this
 have xX:V≠[]:=λe=>by
  obtain⟨a,b,uL⟩:=eg;obtain⟨k,aY,aJ,_⟩:=B.has a b uL
  grind
 have a5:=G.at_;have hpg:=G.p.1;have r8:pm<U:=G.m.1;unfold f7 at a5;refine aD.ny (val:=λb=>.slice (some ⟨b,0,some 2⟩) V.length V.length) (cs:=a1 Go.Ax.lM (V.map oa)) (F6 (λ_=>rfl) _) ZL ?_ ⟨V,rfl,by rw[ace],rfl,(A.nodup_iff).2 ah4,λk=>(A.mem_iff).trans (awX k)⟩;refine apt ?_;unfold aec;refine mA @a5 ?_;refine B.m.jW λaM I ek=>?_;refine bq.mk (λm aE ac Y=>∃acc D o,m=D.length/\aE=[o,bb U]/\dX ac o Go.Ax.lM 2 acc (U+1) Y/\xZ ac U pm c M D/\(acc++((D.filter λe=>decide (cO e.1.1.val e.1.2.val≠[])).map (·.1)).map oa).Perm (P.map oa)/\(∀e∈D,e∈M)/\az U h ac/\U+1<=Y) M.length
  ⟨[],M,_,rfl,rfl,.inl ⟨rfl,rfl⟩,I,by rw[qh];exact CS _,λe h=>h,λc aU=>ek c J,J⟩ ?_
 rintro _ _ bc d4 ⟨acc,D,o,rfl,rfl,Iv,JI,K,sa,gd,iC⟩;rw[al6];unfold aaj;refine(B.m.T (gd pm r8)).fW JI J (λaF=>?_) λe E bP bk sd CG hi Jc=>?_
 ·subst aF;simp only[List.filter_nil,yL,hM]at K;refine nU ?_;rcases id Iv with⟨rfl,rfl⟩|⟨nF,hy,fa,rfl,Vs⟩
  ·have aF:=List.map_eq_nil_iff.1 (List.nil_perm.1 K);rw[aF]at A;exact absurd (List.perm_nil.1 A) xX
  ·have:=K.length_eq;rw[g5]at this;refine(arm rfl J fa Vs).mono ?_;rintro _ b9 n6 ⟨j9,⟨cc,xS,lP,hQ⟩,x3⟩;have:cc=V.map oa:=PH (R:=λx y=>¬lw y x<0) (λx y=>akA x y) (xS.trans (K.trans bv.symm)) lP pE;subst this;exact⟨nF,by rw[<-xS.length_eq,g5],J,hQ,λc aU=>by rw[x3 c J J];exact gd c aU⟩
 ·obtain⟨b1,ej,S⟩:=dW e bk;obtain⟨Ia,W2,eo,kx,oJ,du,dd,iX,l9,aG,bm,_⟩:=S.at
  rw[ej]at Jc ⊢;have om:=sd.length_eq;simp only[nM]at om;have hm:∀x∈E,x∈M:=λx aR=>sa x (sd.mem_iff.2 (m8 _ aR));have hpf:=((sd.filter λe=>decide (cO e.1.1.val e.1.2.val≠[])).map (·.1)).map oa;rw[rK]at hpf;have B2:=(List.Perm.append_left acc hpf).symm.trans K;simp(disch:=omega)only[bd,↓reduceIte,Nat.reduceAdd,Nat.reduceSub,Nat.reduceMul,Nat.reduceLT,Nat.reduceLeDiff,Nat.reduceEqDiff,Int.reduceBEq,Int.reduceLT,Int.reduceNeg,Jc,show c5 (p8 e.1)=[(e.1.1.val:X),(e.1.2.val:X)]from rfl];refine(G9 (((aq J).trans ((aq J).trans ((hi b1 J).trans (gd b1 Ia)))).trans aG)).f4 ?_;rw[bm]
  by_cases ap:cO e.1.1.val e.1.2.val=[]
  ·rw[if_pos ap];rw[if_neg (by simp[ap])]at B2;refine nU ?_;refine⟨λaU=>absurd aU J,λ_=>⟨_,J,acc,E,o,rfl,rfl,Iv.T (λd h1 al=>(aq J).trans ((aq J).trans (hi d J))) J,CG.T ((aq J).trans (aq J)),B2,hm,λd bu=>(aq J).trans ((aq J).trans ((hi d J).trans (gd d bu))),J⟩⟩
  ·rw[if_neg ap];rw[if_pos (by simp[ap]),qQ,qQ]at B2;have Nf:=K.length_eq;simp only[jb,g5]at Nf;refine nU ?_;refine⟨λ_=>?_,λaU=>absurd J aU⟩;refine l7 (enc:=Go.Ax.lM) (k:=2) (ao:=U+1) (λ_=>rfl) (λ_=>rfl) J (Iv.T (λd h1 al=>(aq J).trans ((aq J).trans ((aq J).trans (hi d J)))) J) J (oa e.1) (aN _ _ _) rfl J λAe b9 hs6 hz=>?_;refine⟨_,J,acc++[oa e.1],E,Ae,rfl,rfl,hs6,?_,by rw[kB];exact B2,hm,λd bu=>(hz d J).trans ((aq J).trans ((aq J).trans ((aq J).trans ((hi d J).trans (gd d bu))))),J⟩;exact CG.T ((hz U J).trans ((aq J).trans ((aq J).trans (aq J))))
end
section
variable {s:ak} {g h:ad} {U:Nat} {Z:b5} {own:Nat->Nat} {x:gy} {room:Int} {aw L n w cp pm:Nat} {aK:Nat->Nat} {cO:Nat->Nat->aa cw} {aX:Nat} {ap:ad}
structure ah5 (Z:b5) (room:Int) (aw cp pm aX:Nat):Prop where
 K:gj Z
 m0:aX<=pm
 m1:aX<=cp
 dJ:1<=room
 gg:room<=64
 aBe:aw<900
 gn:∀t,t<=aw->(Z.gn t=0↔t<aw)
 B:yg Z aw
structure Jd (Z:b5) (aw n K:Nat) (x:gy) (cO:Nat->Nat->aa cw) (L:Nat):Prop where
 P:pv Z.R Z.C aw x cO
 D:qq Z.R Z.C n K x cO
 S:vZ Z.R x L
def WiJ(Z:b5)(room:Int)(aw:Nat)(aK:Nat->Nat)(cp pm aX:Nat)(ap:ad)(x:gy)(g:ad)(U n w L:Nat)(m:Nat)(aE:aa X)(ac:ad)(Y:Nat):Prop :=
 ∃k fY pI li,m=Z.R*Z.C-k/\k<=Z.R*Z.C/\aE=[bb cp,.bool li,((Z.R*Z.C:Nat):X),(k:X)]/\Fi Z room aw aK cp pm aX ap fY pI g U w w L ac Y/\Jd Z aw n k fY pI L/\((li=true/\∃a b,pI a b≠[])\/(li=false/\fY=x/\∀dp,dp<k->x.out dp=[]))
def WiI(Z:b5)(room:Int)(aw:Nat)(aK:Nat->Nat)(cp pm aX:Nat)(ap:ad)(g:ad)(U n w cW:Nat)(CJ:aa jo)(m:Nat)(aE:aa X)(ac:ad)(Y:Nat):Prop :=
 ∃i fY pI yC c9 cb,m=CJ.length-i/\i<=CJ.length/\aE=[bb cp,.bool true,.slice (some ⟨cW,0,some 2⟩) CJ.length CJ.length,(CJ.length:X),(i:X)]/\iN Z room aw aK cp pm aX ap fY pI (w+1) w yC c9 cb ac Y/\az U g cb/\U<=Y/\cW<Y/\u cb cW=some (.cells (a1 HH CJ) false) /\
  Jd Z aw n (Z.R*Z.C) fY pI yC/\∀k:jo,k∈CJ.drop i↔pI k.1.val k.2.val≠[]
theorem akj(rG:ah5 Z room aw cp pm aX)(H:iN Z room aw aK cp pm aX ap x cO w w L own g h U)(hl:Jd Z aw n 0 x cO L)(bN:w+1<100000)(eg:∃k,k<Z.R*Z.C/\x.out k≠[]):
  aD Q s 72 [bb cp] h U (λr ac Y=>r = .bool true/\∃fY pI yC,Fi Z room aw aK cp pm aX ap fY pI g U (w+1) (w+1) yC ac Y/\Jd Z aw (n+1) 0 fY pI yC):=by
 refine amb ?_;have K:=rG.K;have d5:=K.h0;have dD:=K.mu;have IF:=MI K;obtain⟨a,ws,os,ar,o4,f0,eS,fS,G⟩:=H.ho;have a5:=G.at_;obtain⟨hd,oi,rfl,_⟩:=id G.wr;rw[xd]at a5;unfold ab8 bT ay bh ae cQ;simp(disch:=omega)only[bd,pX Bh,a5,seval];refine bq.mk (WiJ Z room aw aK cp pm aX ap x g U n w L) (Z.R*Z.C) ⟨0,x,cO,false,J,J,rfl,⟨own,g,H,aC,J⟩,hl,ab⟩ ?_;rintro _ _ h1 a6 ⟨k,ih,N6,li,rfl,hk,rfl,⟨ah2,br,iq,Kg1,fp⟩,D,BQ⟩;rw[akc];unfold Zc cq b3 bh
 by_cases ci:k<Z.R*Z.C
 ·have Cf:IntKind.wrap .i64 ((k:Int)+1)=((k+1:Nat):Int):=cn J;have WR:decide ((k:Int)<((Z.R*Z.C:Nat):Int))=true:=ab
  rw[Lh,WR];cases fj:ih.out k with
  |nil =>
   refine aB ?_;refine(amg K iq ci fj).mono ?_;rintro _ al bH ⟨rfl,E,g2,h9,NZ,e9⟩;refine a9 @Cf ?_;refine⟨_,J,k+1,ih,N6,li,rfl,ci,rfl,⟨E,g2,h9,aC,J⟩,⟨D.P,D.D.skip fj,D.S⟩,?_⟩
   grind
  |cons m r =>
   have bu:=(LD d5 (D.P.d9 k m ab).2).2;have qh:N6 k (m.dst Z.C)=[]:=D.D.t3 k _ J;refine aB ?_;refine(apH K iq rG.m0 rG.dJ rG.gg ci fj bu qh J J).mono ?_;rintro _ al bH ⟨rfl,E,g2,h9,NZ,e9⟩;refine a9 @Cf ?_;have c4:=D.P.pick fj;have eK:=D.D.pick fj;rw[qh]at c4 eK;exact⟨_,J,k+1,_,_,true,rfl,ci,rfl,⟨E,g2,h9,aC,J⟩,⟨c4,eK,D.S⟩,.inl ⟨rfl,k,m.dst Z.C,by rw[q7];grind⟩⟩
 ·have:k=Z.R*Z.C:=J
  subst this;have Uo:li=true/\∃a b,N6 a b≠[]:=ab
  obtain⟨rfl,Uo⟩:=Uo;refine aB ?_;refine⟨λh=>absurd h J,λ_=>?_⟩;refine(amh iq Uo).mono ?_;rintro _ _ _ ⟨P,rfl,rfl,rfl,WS,HR⟩;refine aB ?_;obtain⟨E,g2,h9,_,NZ,hz2⟩:=iq.still (show az a6 h1 (F h1 a6 (.cells (a1 HH P) false))from(az.refl _ _).set (cB _)) (nP a6);refine bq.mk (WiI Z room aw aK cp pm aX ap g U n w a6 P) P.length ⟨0,ih,N6,L,E,g2,J,J,rfl,h9.mono J J,aC,J,J,?_,D,ab⟩ ?_
  ·rw[h9.pa a6,if_pos ⟨J,hz2 a6 (cB _)⟩,aN]
  rintro _ _ aM V ⟨i,hZ,Cg,JP,H0,c3,rfl,ai,rfl,iQ,N0,hr,uG,n4,A,Wt⟩;rw[akd];unfold Zd cq b3 ay hq cf bh c7 eX ae a4 dc cJ
  by_cases tp:i<P.length
  ·have aR:P[i]? = some P[i]:=ab
   generalize P[i]=k at aR;have NJ:P.drop i=k::P.drop (i+1):=by rw[jU tp]at aR;cases aR;exact Am tp
   have B6:Cg k.1.val k.2.val≠[]:=ab
   have xX:=WQ WS;have ay5:=iQ.pa.sub _ _ n4;have jY:hF (some 2) (i*2) (a1 HH P) = .ok (.agg ⟨[(k.1.val:X),(k.2.val:X)]⟩):=by rw[qR,if_pos (by rw[ga (k:=2) (λ_=>rfl)];omega),vz (k:=2) (λ_=>rfl) aR];rfl
   have I4:decide ((i:Int)<(P.length:Int))=true:=ab
   have zW:IntKind.wrap .i64 ((i:Int)+1)=((i+1:Nat):Int):=cn J;obtain⟨a,ws,os,ar,o4,f0,eS,fS,G⟩:=iQ.ho;have a5:=G.at_;have hpg:=G.p;have r8:=G.m;unfold f7 at a5;refine hw @I4 @ay5 @jY ?_;have Ce:∀{o aW},u (F (F aM V o) V aW) cp=_:=λ{o aW}=>(aq J).trans ((aq J).trans a5);obtain⟨M,c,B⟩:=iQ.qD;obtain⟨dp,aY,aJ,ce⟩:=B.has _ _ B6;have b0:dp=k:=Prod.ext (Fin.ext aY) (Fin.ext aJ);rw[b0]at ce;obtain⟨v,aI⟩:=OG.1 ce;obtain⟨dg,aG,b1,rfl,S⟩:=B.get k v aI;have I:=λo aW=>xE Lv (B.m.T (ac:=F (F aM V o) V aW) ((aq J).trans (aq J))) (k:=k) (z:=.pointer none) (ok:=false);rw[aI,show p8 k = .agg ⟨[(k.1.val:X),(k.2.val:X)]⟩from rfl]at I
   replace I:=λo aW=>(I o aW).trans (show _=R.ok (Value.pointer (some ⟨b1,0,none⟩))from rfl)
   refine cx @a5 @I ?_;generalize WT:F (F aM V _) V _=bc;have hT:az V aM bc:=by rw[<-WT];exact((az.refl _ _).set (cB _)).set (cB _)
   have cS:u bc V=some (.cells [(k.1.val:X),(k.2.val:X)] false):=ab
   obtain⟨BE,dK,tQ,ay6,Jb,_⟩:=iQ.still hT (nP V);have JN:yi Z room Cg (w+1) w BE dK bc (V+1) k b1:=S.other (nP V) (λd fv _=>hT d fv) ay6 Jb rfl (cB _) (cB _);rcases JN with⟨e,_⟩|⟨m,Fz,WU,_,yB⟩
   ·exact absurd e B6
   ·refine⟨λ_=>?_,λh=>absurd tp h⟩;refine yB.len.f4 ?_;refine yB.au3.b0 λbP fI ll mE=>⟨mE,?_⟩
    have iv:=(ll V J).trans cS;simp(disch:=omega)only[bd,cS,iv,fZ,seval];obtain⟨ah3,gx,iI,_,Kg5,_⟩:=tQ.still ll mE;obtain⟨fk,gH,lg⟩:=A.P.dI k.1.val k.2.val m ab;have aR:=DG A.P.ord d5 lg;have eJ:=A.S.le A.P.ord;have eH:=rG.aBe;refine(ai9 K iI rG.m0 rG.m1 rG.dJ rG.gg dg aG WU gH aR rG.aBe rG.gn rG.B (by have:=A.P.len d5 K.ot K.m7 k.2.val;omega) (FJ w) J).mono ?_;rintro _ b9 n6 ⟨rfl,ay7,lF,aCK,Kg6,j9⟩;refine⟨j9,?_⟩;refine a9 @zW ?_;have CC:az V c3 lF:=(Jb.trans Kg5 J).trans Kg6 J;refine⟨_,J,i+1,_,_,_,ay7,lF,rfl,tp,rfl,aCK,N0.trans CC hr,J,J,(CC a6 uG).trans n4,⟨A.P.Rf d5 dD WU,A.D.Rf A.P d5 (cB _) WU,A.S.step A.P.ord aR⟩,λdp=>?_⟩;have VE:k ∉ P.drop (i+1):=by
     have:=(WS.sublist (List.drop_sublist i P))
     grind
    by_cases ekk:dp=k
    ·subst ekk;rw[q7]
     grind
    ·rw[q8 λe=>ekk (Prod.ext (Fin.ext e.1) (Fin.ext e.2)),<-Wt dp,NJ,hf]
     grind
  ·have:i=P.length:=J
   subst this;refine aB ?_;refine⟨λh=>absurd h (Nat.lt_irrefl _),λ_=>?_⟩;have cX:∀a b,Cg a b=[]:=λa b=>vg λbm=>by
    obtain⟨M,c,B⟩:=iQ.qD;obtain⟨k,aY,aJ,_⟩:=B.has a b bm
    grind
   exact⟨hZ,Cg,JP,⟨H0,c3,iQ.mono (cB _) (nP w),N0,hr⟩,A.P,A.D.next A.P d5 (cB _) cX,A.S⟩
end
section
variable {s:ak} {h:ad} {U:Nat} {Z:b5} {aw:Nat}
structure NeI (Z:b5) (aw:Nat) (room:Int) (aX:Nat) (ap:ad) (cp pm k r:Nat) (aK:Nat->Nat) (a:Nat->X) (ws os:X) (f0 eS:av Nat) (own:Nat->Nat) (g h:ad) (U:Nat):Prop where
 pa:jO own h U g
 dt:∀i j,i<Z.R->j<Z.C->i*Z.C+j<k->∃c l aP so bz bZ cA,j0 Z aw (mO Z.R Z.C) i j own g h U (aK (i*Z.C+j)) c l aP so bz bZ cA
 at_:u h cp=some (.cells (f7 a Z.N Z.R Z.C room ws pm os (.slice none 0 0)) false)
 ws:hs h s9 ws ((List.range k).map aK) f0
 os:hs h s9 os ((List.range r).map λi=>aK (i*Z.C)) eS
 mn:∀b,f0=some b->b<U/\own b=Z.G/\b≠cp/\b≠pm
 cV:∀b,eS=some b->b<U/\own b=Z.G/\b≠cp/\b≠pm/\f0≠some b
 m:u h pm=some (.map [] 0)
 p:cp<U/\own cp=Z.G
 pm:pm<U/\own pm=Z.G/\pm≠cp
 dJ:k<=r*Z.C/\(r=0\/(r-1)*Z.C<k)
 hp:aX<=U
 hc:∀d,d<aX->own d=0/\u h d=u ap d
def NeJ(Z:b5)(aw:Nat)(room:Int)(aX:Nat)(ap:ad)(cp pm cj:Nat)(st:aa X)(ao:Nat)(m:Nat)(aE:aa X)(ac:ad)(Y:Nat):Prop :=
 ∃k r aK a ws os f0 eS own g,m=Z.R*Z.C-k/\k<=Z.R*Z.C/\aE=[bb cj,.pointer none,.int .i64 0,bb cp,((Z.R*Z.C:Nat):X),(k:X)]/\NeI Z aw room aX ap cp pm k r aK a ws os f0 eS own g ac Y/\u ac cj=some (.cells st false)/\own cj=0/\ao<=Y
theorem awY{f:Nat->Nat}{k v:Nat}:(List.range (k+1)).map (up f k v)=(List.range k).map f++[v]:=by
 rw[pb,hN,List.map_singleton,hx]
 congr 1
 exact qO λi ai=>hH ab
theorem au7{aZ bo cH I D aCL P K A V B E:X}{m:av Nat}:qY (pk [(13,1,.map m)]) 0 12 [a0,ax,a2,a3,aV,bl,bf,aZ,bo,cH,I,D] [pR,jT,z2,z3,z4,Ag,CA,sM,JA,aCL,P,K,A,V,B,E] = .ok [a0,ax,a2,a3,aV,bl,bf,aZ,bo,cH,I,D,A,.map m,B,E]:=rfl
theorem as5(K:gj Z){x:iZ}(H:oH h U x ew gi eG)(BG:cN h U eG zA [])(zD:x.uR=0)(MV:x.bt.length<1000000)(kg:gl x=0)(z:Z.k=x.k/\x.n=(Z.N:Int)/\Z.src=x.src/\Z.len=x.len/\Z.bt=x.bt/\x.R=(Z.R:Int)/\x.C=(Z.C:Int)/\x.lim=(Z.lim:Int))(lW:v7 x.k (x.es.map mQ) Z.af):
  aD Q s 70 [.agg ⟨fq x ew gi eG⟩] h U (λr ac Y=>∃cp pm aK own g,r = .tuple ⟨[bb cp,.int .i64 0]⟩/\U<=cp/\U<=pm/\iN Z x.M aw aK cp pm U h (mO Z.R Z.C) (λ_ _=>[]) 0 0 1 own g ac Y):=by
 refine auU ?_;obtain⟨jT,z2,z3,z4,Ag,CA,sM,JA⟩:=id z;have d5:=K.h0;have dD:=K.mu;have WV:=K.m7;have IS:=K.ot;have IF:=MI K;have iw:Z.G=Z.R*Z.C+1:=rfl;obtain⟨bp,hn,rfl,_⟩:=id H.d;obtain⟨b2,pM,rfl,_⟩:=id H.e;obtain⟨bV,ge,rfl,_⟩:=id BG;have bF:∀{o},az U h (F h U o):=aC
 unfold agU fq;refine nU ?_;refine(KY (H.T aC J)).b0 λE A cD fp=>?_;have c4:=(cD U J).trans (aN _ _ _);unfold fq at c4;rw[kg];have XI:∀{o aW},u (F (F E A o) (A+1) aW) U=_:=λ{o aW}=>(aq J).trans ((aq J).trans c4);have ag9:IntKind.wrap .i64 ((Z.R:Int)*(Z.C:Int))=((Z.R*Z.C:Nat):Int):=by rw[<-Int.natCast_mul];exact js _ J
 have qN1:∀{o},u (F E A o) U=_:=λ{o}=>(aq J).trans c4;simp(disch:=omega)only[bd,↓reduceIte,Nat.reduceAdd,Nat.reduceSub,Nat.reduceMul,Nat.reduceLT,Nat.reduceLeDiff,Nat.reduceEqDiff,Int.reduceBEq,Int.reduceLT,Int.reduceNeg,c4,qN1,XI,CA,sM,AS,ag9,au7];generalize nv:F (F E A _) (A+1) _=V;have ez:az U h V:=by rw[<-nv];exact aC
 have ml:u V U=some (.cells (fq x (.slice bp x.bt.length hn) (.slice b2 x.es.length pM) (.slice bV ([]:aa (Int × Int)).length ge)) false):=by rw[<-nv];exact XI
 have g2:u V (A+1)=some (.cells (f7 (λn=>(fq x (.slice bp x.bt.length hn) (.slice b2 x.es.length pM) (.slice bV ([]:aa (Int × Int)).length ge))[n]?.getD .nilFunc) Z.N Z.R Z.C x.M (.slice none 0 0) A (.slice none 0 0) (.slice none 0 0)) false):=by rw[<-nv,aN];unfold f7 fq;rw[z2,CA,sM];rfl
 have m2:u V A=some (.map [] 0):=ab
 clear nv XI qN1 c4;obtain⟨b7,aBf⟩:=DN (λd=>if d=A\/d=A+1 then Z.G else 0) V (A+1+1);refine bq.mk (NeJ Z aw x.M U h (A+1) A U (fq x (.slice bp x.bt.length hn) (.slice b2 x.es.length pM) (.slice bV ([]:aa (Int × Int)).length ge)) (A+1+1)) (Z.R*Z.C) ⟨0,0,λ_=>0,_,_,_,none,none,_,b7,J,J,rfl,⟨aBf,(λi j _ _ h=>absurd h J),g2,.nil,.nil,ab,ab,m2,ab,ab,J,J,λd P=>⟨ab,ez d P⟩⟩,ml,if_neg J,J⟩ ?_;clear g2 m2 aBf b7;rintro _ _ aM bR ⟨k,r,aK,a,ws,os,f0,eS,own,g,rfl,hk,rfl,I,oc,d9,hr⟩;rw[asU];unfold aef bT lh cq b3 ay b4 bh c7 kZ eX ae a4 dc
 by_cases ci:k<Z.R*Z.C
 ·obtain⟨i,j,ai,bM,rfl⟩:=LN ci;have WR:decide (((i*Z.C+j:Nat):Int)<((Z.R*Z.C:Nat):Int))=true:=gz J;have Cf:IntKind.wrap .i64 (((i*Z.C+j:Nat):Int)+1)=((i*Z.C+j+1:Nat):Int):=cn J;have Je:=oc;have ED:U<bR:=J
  unfold fq at Je;rw[Lh,WR];refine uj @Je @sM ?_;refine(R4  d5 WV J bM).f4 ⟨cB _,?_⟩;simp(disch:=omega)only[bd,↓reduceIte,Nat.reduceAdd,Nat.reduceSub,Nat.reduceMul,Nat.reduceLT,Nat.reduceLeDiff,Nat.reduceEqDiff,Int.reduceBEq,Int.reduceLT,Int.reduceNeg,Je,sM,fZ];refine(R5  d5 WV J bM).f4 ⟨cB _,?_⟩;have yD:mz (.agg ⟨fq x (.slice bp x.bt.length hn) (.slice b2 x.es.length pM) (.slice bV ([]:aa (Int × Int)).length ge)⟩) (.agg ⟨fq x (.slice bp x.bt.length hn) (.slice b2 x.es.length pM) (.slice bV ([]:aa (Int × Int)).length ge)⟩)=true:=by unfold fq;simp(disch:=omega)only[bd,↓reduceIte,Nat.reduceAdd,Nat.reduceSub,Nat.reduceMul,Nat.reduceLT,Nat.reduceLeDiff,Nat.reduceEqDiff,Int.reduceBEq,Int.reduceLT,Int.reduceNeg,fZ]
  unfold fq at yD;rw[sM]at yD;refine L0 @Je @sM @pc @yD ?_;have fg:az U h aM:=λd P=>(I.hc d P).2;rw[<-sM];refine(asR  K (H.T fg I.hp) (BG.T fg I.hp) zD MV kg ai bM z K.n60 lW).mono ?_;rintro _ bc B ⟨rH,c,aP,bz,bZ,cA,l,dK,rfl,N,iC⟩;have gx:=(N.k (A+1) I.p.1).trans I.at_;unfold f7 at gx;refine⟨iC,?_⟩;refine mA @gx ?_;have wb4:∀b,f0=some b->b<bR/\own b=Z.G/\b≠A+1/\b≠A:=I.mn;refine y6  (k:=1) (λ_=>rfl) (λ_=>rfl) J (I.ws.ho.T λb e=>?_) rH (aN _ _ _) rfl ab λbP EL uM=>?_
  ·have:=I.mn b e;rw[aq J];exact N.k b this.1
  rw[xd]at *
  have lF:u bP (A+1)=_:=(uM _ J λe=>(I.mn _ e).2.2.1 rfl).trans ((aq J).trans gx);have iv:∀{o},u (F bP (A+1) o) U=_:=λ{o}=>(aq J).trans ((uM U J λe=>ab).trans ((aq J).trans ((N.k U ED).trans Je)));refine Tk @lF @iv @sM ?_;refine(R5  d5 WV J bM).f4 ?_;generalize N4:F bP (A+1) _=b9;have oe:∀d,d≠A+1->u b9 d=u bP d:=λd e=>ab
  have o8:u b9 (A+1)=some (.cells (f7 a Z.N Z.R Z.C x.M (.slice (some ⟨B+1,0,some 1⟩) (i*Z.C+j+1) (i*Z.C+j+1)) A os (.slice none 0 0)) false):=by rw[<-N4,aN];rfl
  clear N4;have ou:hs b9 s9 (.slice (some ⟨B+1,0,some 1⟩) (i*Z.C+j+1) (i*Z.C+j+1)) ((List.range (i*Z.C+j+1)).map (up aK (i*Z.C+j) rH)) (some (B+1)):=
   .inr ⟨B+1,rfl,ab,by rw[oe _ J,EL,awY]⟩
  have ah6:∀d,d<B->d≠A+1->f0≠some d->u b9 d=u bc d:=λd fv fF ir=>by rw[oe d fF,uM d J ir,aq J]
  have aBg:hs b9 s9 os ((List.range r).map λi=>aK (i*Z.C)) eS:=I.os.T λb e=>by have:=I.cV b e;rw[ah6 b J this.2.2.1 this.2.2.2.2,N.k b this.1]
  have fin:∀(ac:ad) (kx z7:Nat) (uT:X) (D:av Nat),B+2<=kx->(∀d,d<B+2->d≠A+1->eS≠some d->u ac d=u b9 d)->u ac (A+1)=some (.cells (f7 a Z.N Z.R Z.C x.M (.slice (some ⟨B+1,0,some 1⟩) (i*Z.C+j+1) (i*Z.C+j+1)) A uT (.slice none 0 0)) false) ->
    hs ac s9 uT ((List.range z7).map λaL=>up aK (i*Z.C+j) rH (aL*Z.C)) D->(D=eS/\(∀b,eS=some b->u ac b=u b9 b)\/∃b,D=some b/\B+2<=b/\b<kx)->(i*Z.C+j+1<=z7*Z.C/\(z7=0\/(z7-1)*Z.C<i*Z.C+j+1)) ->
    NeJ Z aw x.M U h (A+1) A U (fq x (.slice bp x.bt.length hn) (.slice b2 x.es.length pM) (.slice bV ([]:aa (Int × Int)).length ge)) (A+1+1) (Z.R*Z.C-(i*Z.C+j+1)) [bb U,.pointer none,.int .i64 0,.pointer (some ⟨A+1,0,none⟩),((Z.R*Z.C:Nat):X),((i*Z.C+j+1:Nat):X)] ac kx:=by
   intro ac kx z7 uT D US BJ uV j1 hQ hr'
   let dy:=i*Z.C+j+1
   let c9:Nat->Nat:=λd=>if d<bR then own d else if d=rH\/d=bz\/d=bZ\/d=cA\/aP=some d then dy else if d=B+1\/D=some d then Z.G else 0
   obtain⟨cb,fA⟩:=DN c9 ac kx;have f8:∀d,d<bR->c9 d=own d:=λd P=>if_pos P;have W:=N.W;have ax:=N.dJ;have a2:=N.gg;have a3:=N.jE;have JQ:∀d,bR<=d->(d=rH\/d=bz\/d=bZ\/d=cA\/aP=some d)->c9 d=dy:=λd E V=>ab
   have JL:∀d,B<=d->(d=B+1\/D=some d)->c9 d=Z.G:=λd E V=>by
    show(if d<bR then own d else if d=rH\/d=bz\/d=bZ\/d=cA\/aP=some d then dy else if d=B+1\/D=some d then Z.G else 0)=Z.G;rw[if_neg J,if_neg (by
     rintro(e|e|e|e|e)
     ·have:=W.lt;omega
     ·omega
     ·omega
     ·omega
     ·have:=W.aP d e;omega),if_pos V]
   have bqn:∀d,D=some d->eS=some d\/B+2<=d:=λd e=>ab
   have Jl:∀d,bR<=d->d≠rH->d≠bz->d≠bZ->d≠cA->aP≠some d->d<B->c9 d=0:=λd E V aM bc bP b9 dL=>by
    show(if d<bR then own d else if d=rH\/d=bz\/d=bZ\/d=cA\/aP=some d then dy else if d=B+1\/D=some d then Z.G else 0)=0;rw[if_neg J,if_neg ab,if_neg (by
     rintro(e|e)
     ·omega
     ·rcases bqn d e with e|e
      ·have:=I.cV d e;omega
      omega)]
   have agY:∀d,d<B->d≠A+1->f0≠some d->eS≠some d->u ac d=u bc d:=λd fv fF ir oq=>(BJ d J fF oq).trans (ah6 d fv fF ir);have same:∀d,d<B->c9 d≠Z.G->u ac d=u bc d:=λd fv fF=>agY d fv (λe=>fF (by rw[e,f8 _ I.p.1];exact I.p.2)) (λe=>fF ab) λe=>fF (by have:=I.cV d e;grind);have JN:lx dK cb:=λd o P=>by
    have E:bR<=d:=Nat.le_of_not_lt λbg=>by rw[N.o d bg]at P;grind
    have V:d<B:=FI λbg=>by rw[N.G.n d bg]at P;grind
    have ap:c9 d=0:=Jl d E (λe=>by rw[e,N.G.p]at P;grind) (λe=>ab) (λe=>ab) (λe=>ab) (λe=>by rw[(N.b d e).2]at P;grind) V;rw[fA d,if_pos ⟨J,ap⟩,same d V J];exact N.G.s d o P
   have gD:az bR g cb:=λd P=>by
    rw[I.pa d,fA d,f8 d P]
    by_cases e:own d=0
    ·rw[if_pos ⟨J,e⟩,if_pos ⟨P,e⟩,same d J ab];exact N.k d P
    grind
   have JM:j0 Z aw (mO Z.R Z.C) i j c9 cb bc B rH c l aP none bz bZ cA:=j0.init K N JN ai bM (JQ rH N.p (.inl rfl)) (λb e=>JQ b (N.b b e).1 (.inr (.inr (.inr (.inr e))))) (JQ bz ax.1 (.inr (.inl rfl))) (JQ bZ a2.1 (.inr (.inr (.inl rfl)))) (JQ cA a3.1 (.inr (.inr (.inr (.inl rfl)))));have sJ:i*Z.C+j+1≠Z.G:=J
   have azT:(A:Nat)≠A+1:=J
   refine⟨i*Z.C+j+1,z7,up aK (i*Z.C+j) rH,a,_,uT,some (B+1),D,c9,cb,rfl,ci,rfl,⟨fA,λaL o5 da EJ Mm=>?_,uV,ou.T λb e=>?_,j1,λb e=>?_,λb e=>?_,?_,⟨?_,?_⟩,⟨?_,?_,I.pm.2.2⟩,hr',?_,λd P=>?_⟩,?_,?_,?_⟩
   ·by_cases e:aL*Z.C+o5=i*Z.C+j
    ·obtain⟨rfl,rfl⟩:=t9 e EJ bM;refine⟨c,l,aP,none,bz,bZ,cA,?_⟩;rw[hx];exact JM.other  J same (λ_ _=>rfl) sJ (az.refl _ _) rfl rfl (λ_=>⟨rfl,rfl⟩) (λ_=>⟨rfl,rfl,rfl⟩) λ_ _=>⟨rfl,rfl⟩
    ·obtain⟨bL,cc,hj,sz,rs',rc',rv',R'⟩:=I.dt aL o5 da EJ J;have:=p2 da EJ;refine⟨bL,cc,hj,sz,rs',rc',rv',?_⟩;rw[hH e];exact R'.other (dy:=Z.G) J (λd fv fF=>(same d J ab).trans (N.k d fv)) f8 J gD rfl rfl (λ_=>⟨rfl,rfl⟩) (λ_=>⟨rfl,rfl,rfl⟩) λ_ _=>⟨rfl,rfl⟩
   ·cases e;exact BJ _ J J λe=>by have:=I.cV _ e;omega
   ·cases e;exact⟨J,JL _ J (.inl rfl),J,J⟩
   ·rcases bqn b e with ep | ep
    ·have:=I.cV b ep
     grind
    ·have:b<kx:=by
      rcases hQ with⟨aY,_⟩|⟨ck,aY,_,ce⟩
      ·rw[aY]at e;have:=I.cV b e;omega
      grind
     exact⟨this,JL b J (.inr e),J,J,λe=>ab⟩
   ·have E:=I.pm;rw[agY A J E.2.2 (λe=>(I.mn _ e).2.2.2 rfl) λe=>(I.cV _ e).2.2.2.1 rfl,N.k A E.1];exact I.m
   ·omega
   ·rw[f8 _ I.p.1];exact I.p.2
   ·omega
   ·rw[f8 _ I.pm.1];exact I.pm.2.1
   ·omega
   ·have E:=I.hc d P;have V:=I.hp;exact⟨(f8 d J).trans E.1,((same d J ab).trans (N.k d J)).trans E.2⟩
   ·rw[same U J ab,N.k U ED];omega
   ·grind
   omega
  by_cases ap:j=0
  ·subst ap;have ba:r=i:=by
    obtain⟨aY,aJ⟩:=I.dJ;have E:i<=r:=Nat.le_of_mul_le_mul_right J d5;rcases aJ with aJ|aJ
    ·omega
    ·have:r-1<i:=OF (a:=Z.C) J;omega
   subst ba;unfold f7 at o8;refine mA @o8 ?_;refine⟨λ_=>?_,λh=>absurd h (by decide)⟩;refine y6 (enc:=s9) (k:=1) (λ_=>rfl) (λ_=>rfl) J (aBg.ho.T λb e=>?_) rH (aN _ _ _) rfl ab λdL hn7 wq=>?_
   ·have:=I.cV b e;exact aq J
   rw[xd]at *
   have Xg:u dL (A+1)=_:=(wq _ J λe=>(I.cV _ e).2.2.1 rfl).trans ((aq J).trans o8);have ay8:IntKind.wrap .i64 (((r*Z.C:Nat):Int)+1)=((r*Z.C+1:Nat):Int):=Cf;refine uj @Xg @ay8 ?_;refine⟨_,J,fin _ _ (r+1) _ (some (B+1+1+1)) J (λd fv fF ir=>?_) (by rw[aN];rfl) (.inr ⟨_,rfl,ab,?_⟩) (.inr ⟨_,rfl,J,J⟩) ⟨?_,.inr ?_⟩⟩
   ·rw[aq fF,wq d J ir,aq J]
   ·rw[aq J,hn7,pb,hN,List.map_singleton,m9,hx]
    congr 3
    refine congrArg (·++[rH]) (qO λaL da=>(hH ?_).symm);have:=CT.1 da;have:=Nat.mul_lt_mul_of_lt_of_le this (cB Z.C) d5;omega
   all_goals grind
  ·have yc:(((j:Nat):Int) == 0)=false:=sR.2 J;refine uj @yc @Cf ?_;obtain⟨aY,aJ⟩:=I.dJ;refine⟨_,J,fin _ _ r os eS J (λd _ _ _=>rfl) o8 ?_ (.inl ⟨rfl,λ_ _=>rfl⟩) ⟨?_,?_⟩⟩
   ·have:((List.range r).map λaL=>up aK (i*Z.C+j) rH (aL*Z.C))=(List.range r).map λi=>aK (i*Z.C):=qO λaL _=>hH λe=>by have:=t9 (C:=Z.C) (i:=aL) (j:=0) (aL:=i) (o5:=j) J d5 bM;omega
    rw[this];exact aBg
   ·have E:i*Z.C<r*Z.C:=J
    have V:i<r:=OF E;have:=pU Z.C (show i+1<=r from V)
    grind
   omega
 ·have:k=Z.R*Z.C:=J
  subst this;refine nU ?_;refine⟨λh=>absurd h (Nat.lt_irrefl _),λ_=>?_⟩;have ba:r=Z.R:=by
   obtain⟨aY,aJ⟩:=I.dJ;have E:Z.R<=r:=Nat.le_of_mul_le_mul_right aY d5;rcases aJ with aJ|aJ
   ·omega
   ·have:r-1<Z.R:=OF (a:=Z.C) aJ;omega
  subst ba;have sD:iN Z x.M aw aK (A+1) A U h (mO Z.R Z.C) (λ_ _=>[]) 0 0 0 own g aM bR :=
   ⟨I.pa,λi j ai bM=>I.dt i j ai bM (p2 ai bM),⟨a,ws,os,_,[],f0,eS,none,I.at_,I.ws,I.os,.nil,(nofun),(λb e=>⟨(I.mn b e).1,(I.mn b e).2.1,(I.mn b e).2.2.1,(I.mn b e).2.2.2,nofun⟩),(λb e=>⟨(I.cV b e).1,(I.cV b e).2.1,(I.cV b e).2.2.1,(I.cV b e).2.2.2.1,nofun⟩),rfl,(λt v e=>by rw[List.getElem?_nil]at e;cases e),I.p,I.pm⟩,
    ⟨[],0,HV I.m,(λk v e=>by cases e),λa b e=>absurd rfl e⟩,I.hp,I.hc⟩
  refine(acd K sD J J).mono ?_;rintro _ bc B ⟨rfl,c9,cb,iq,_,_⟩;rw[show ui Z.R 0 (mO Z.R Z.C).a=1 from if_pos λi _=>rfl]at iq;exact⟨A+1,A,aK,c9,cb,rfl,J,J,iq⟩
end
section
variable {aA:Type}
theorem fb.at{h:ad}{B:aA->aa X}{k:Nat}{v:X}{l:aa aA}{o:av Nat}(g:fb h B k v l o)(I:∀x,(B x).length=k){i:Nat}{x:aA}(K:l[i]? = some x):∃b A P cs D,v = .slice (some ⟨b,A,P⟩) l.length l.length/\o=some b/\u h b=some (.cells cs D)/\hF (some k) (A+i*k) cs = .ok (.agg ⟨B x⟩):=by
 have ai:i<l.length:=ab
 have hm:i*k+k<=l.length*k:=by have:=pU k (show i+1<=l.length from ai);grind
 cases g with
 |nil=>grind
 | @own b _ E =>
  refine⟨b,0,some k,_,false,rfl,rfl,E,?_⟩;rw[ix,qR,if_pos (by rw[ga I];omega),vz I K]
 | @part b A _ cs D E bg V =>
  refine⟨b,A,none,cs,D,rfl,rfl,E,?_⟩;rw[qR,if_pos J,<-yK];have:=congrArg (λz=>(z.drop (i*k)).take k) V;simp only[vz I K,FM,List.take_take]at this
  grind
end
section
variable {s:ak} {g h:ad} {U:Nat} {Z:b5} {own:Nat->Nat} {x:gy} {room:Int} {aw L dh db cp pm:Nat} {aK:Nat->Nat} {cO:Nat->Nat->aa cw} {aX:Nat} {ap:ad}
def EdJ(R aw:Nat)(a:Nat->Nat)(os:X)(h:ad)(U:Nat)(m:Nat)(aE:aa X)(ac:ad)(Y:Nat):Prop:=∃i,m=R-i/\i<=R/\(∀aL,aL<i->a aL=aw+1)/\aE=[os,.func (.func 142) #[] #[],.int .i64 0,(R:X),(i:X)]/\ac=h/\Y=U
theorem P5(K:gj Z)(H:iN Z room aw aK cp pm aX ap x cO dh db L own g h U)(j1:∀i,i<Z.R->x.a i<=aw+1)(V:∀t,t<=aw->(Z.gn t=0↔t<aw)):aD Q s 71 [bb cp] h U (fm (.bool (decide (∀i,i<Z.R->x.a i=aw+1))) U h):=by
 refine apy ?_;obtain⟨a,ws,os,ar,o4,f0,eS,fS,G⟩:=H.ho;have a5:=G.at_;obtain⟨I,co,rfl,_⟩:=id G.or;have B:=G.or;rw[xd]at a5 B;unfold aeg;simp(disch:=omega)only[bd,Pk Bh,a5,seval];refine(show aD Q s 141 [.slice I Z.R co,.func (.func 142) #[] #[]] h U (fm (.bool (!decide (∀i,i<Z.R->x.a i=aw+1))) U h)from ?_).f4 ?_
 ·refine aif ?_;refine(show aD Q s 235 [.slice I Z.R co,.func (.func 142) #[] #[]] h U (λr ac Y=>∃y:Int,r = (y:X)/\(0<=y↔¬∀i,i<Z.R->x.a i=aw+1)/\ac=h/\Y=U)from ?_).mono ?_
  ·refine aiu ?_;unfold X6;refine aB ?_;refine bq.mk (EdJ Z.R aw x.a (.slice I Z.R co) h U) Z.R ⟨0,J,J,J,rfl,rfl,rfl⟩ ?_;rintro _ _ ac Y ⟨i,rfl,ai,D,rfl,aY,aJ⟩;subst ac Y;rw[ain];unfold XU
   by_cases A:i<Z.R
   ·obtain⟨c,l,aP,so,bz,bZ,cA,R⟩:=H.dt i 0 A K.h0;have P:=R.o rfl;obtain⟨b,aO,cap,cs,bC,e,c4,eK,gX⟩:=BD  B (λ_ _ e=>e) A;cases e;have bN:IntKind.wrap .i64 ((i:Int)+1)=((i+1:Nat):Int):=cn (by have:=K.ot;omega);refine cx @c4 @eK ?_;refine⟨λ_=>?_,λh=>absurd A h⟩;refine amd ?_;refine(Za R.W P.Cc).f4 ?_;refine a9 @bN ?_;refine⟨λbk=>?_,λeg=>?_⟩
    ·grind
    ·refine⟨_,J,i+1,rfl,J,λaL h=>(Nat.lt_succ_iff_lt_or_eq.1 h).elim (D aL) λe=>?_,rfl,rfl,rfl⟩
     grind
   ·have:i=Z.R:=J
    subst this;refine aB ?_;refine⟨λh=>absurd h J,λ_=>?_⟩
    grind
  ·rintro _ _ _ ⟨y,rfl,ca,rfl,rfl⟩;refine aB ?_;refine⟨?_,rfl,rfl⟩
   by_cases E:∀i,i<Z.R->x.a i=aw+1
   ·rw[gz E,gz (show y<0 from Int.lt_of_not_ge λh=>ca.1 h E)]
   ·have:=ca.2 E;rw[f9 E,f9 (J:¬y<0)]
 ·simp(disch:=omega)only[bd,Bool.not_not,seval];exact⟨rfl,rfl,rfl⟩
theorem akk(H:iN Z room aw aK cp pm aX ap x cO dh db L own g h U)(K:1<=L)(D:L<1000):aD Q s 150 [bb cp] h U (fm (((L-1:Nat):X)) U h):=by
 refine bS ?_;obtain⟨a,ws,os,ar,I,f0,eS,fS,G⟩:=H.ho;have B:=G.at_;have A:=G.ar.lens;rw[G.L]at A;unfold f7 at B;have E:IntKind.wrap .i64 ((L:Int)-1)=((L-1:Nat):Int):=by rw[show(L:Int)-1=((L-1:Nat):Int) by omega];exact js _ J
 simp(disch:=omega)only[bd,pX Bh,B,A,E,seval];exact⟨rfl,rfl,rfl⟩
def Up(Z:b5)(t:Nat)(U:Nat)(h:ad)(v:X)(ac:ad)(Y:Nat):Prop:=mb ac U Y v 0 (Z.N:Int) Z.N (cF Z.N (Z.e1.st t).A) (cF Z.N (Z.e1.st t).B) (Z.e1.st t).q/\az U h ac/\U<=Y
theorem ami(K:gj Z)(H:iN Z room aw aK cp pm aX ap x cO dh db L own g h U){t:Nat}(cy:t<L)(zJ:L<1000):aD Q s 155 [bb cp,(t:X)] h U (λr ac Y=>∃v,r = .tuple ⟨[v,.bool true]⟩/\Up Z t U h v ac Y):=by
 refine apC ?_;obtain⟨a,ws,os,ar,o4,f0,eS,fS,G⟩:=H.ho;have a5:=G.at_;have A:=G.ar.lens;have bv:=G.p.1;have n60:=K.n60;rw[G.L]at A;obtain⟨v,aI⟩:∃v,o4[t]? = some v:=⟨_,jU (by rw[G.L];omega)⟩
 obtain⟨b,off,aO,cs,bC,rfl,yo,aG,jY⟩:=fb.at G.ar (λ_=>rfl) aI;have tv:=(G.b b yo).1;have P:=G.st t v aI;rw[G.L]at a5 A;unfold f7 at a5;have Ce:∀{o},u (F h U o) cp=_:=λ{o}=>(aq J).trans a5;have hbN:∀{o},u (F h U o) b=_:=λ{o}=>(aq J).trans aG;unfold jK at P;simp only[ix]at P;obtain⟨cY,fJ,ei,g9,fE,gJ,gq⟩:=P;unfold HZ at g9 jY;simp only[Value.agg.injEq,wJ,vm,iy]at g9;obtain⟨_,_,rfl,rfl,rfl⟩:=g9;unfold aei;simp(disch:=omega)only[bd,pX Bh,Ce,A,gz (J:(t:Int)<(L:Int)),f9 (J:¬(t:Int)<0),seval];unfold KD;refine hw @Ce @hbN @jY ?_;have bF:∀{o d9 dI},az U h (F (F (F h U o) (U+1) d9) (U+1) dI):=aC
 have I:=H.pa.sub;refine⟨λh=>absurd cy h,λ_=>?_⟩;refine(Gg ((vU fE I).T  bF J) (by rw[jq];omega)).mono ?_;rintro v1 h1 a6 ⟨mu,E,fp⟩;refine⟨fp,?_⟩;have br:=(E (U+1) J).trans (aN _ _ _);have t1:=(E U J).trans ((aq J).trans ((aq J).trans (aN _ _ _)));have cD:=bF.trans E J;simp(disch:=omega)only[bd,br,fZ,seval];refine(Gg ((vU gJ I).T  cD J) (by rw[jq];omega)).mono ?_;rintro v2 al bH ⟨JJ,B,V⟩;refine⟨V,?_⟩;have g2:=(B (U+1) J).trans br;have t2:=(B U J).trans t1;have ez:=cD.trans B J;simp(disch:=omega)only[bd,br,g2,fZ,seval];refine(ab5 ((vU gq I).T  ez J)).mono ?_;rintro v3 aM bR ⟨CH,D,hr⟩;refine⟨hr,?_⟩;have c3:=(D (U+1) J).trans g2;have t3:=(D U J).trans t2;obtain⟨ih,bY,rfl,_⟩:=id mu;obtain⟨jC,cC,rfl,_⟩:=id JJ;obtain⟨hZ,b6,rfl,_⟩:=id CH;simp(disch:=omega)only[bd,br,g2,c3,t3,fZ,seval];exact⟨_,rfl,⟨_,_,_,rfl,mu.T (λd h1 al=>by rw[aq J,D d J,B d J]) J J,JJ.T (λd h1 al=>by rw[aq J,D d J]) J J,CH.T ab J J⟩,aC,J⟩
end
section
variable {s:ak} {g h:ad} {U:Nat} {Z:b5} {own:Nat->Nat} {x:gy} {room:Int} {aw L dh db cp pm:Nat} {aK:Nat->Nat} {cO:Nat->Nat->aa cw} {aX:Nat} {ap:ad}
theorem apK(H:iN Z room aw aK cp pm aX ap x cO dh db L own g h U)(h1:dh<=100000)(al:db<=100000):
  aD Q s 152 [bb cp] h U (λr ac Y=>∃n:Nat,r = (n:X)/\n<1000000000/\ac=h/\Y=U):=by
 obtain⟨a,ws,os,ar,o4,f0,eS,fS,G⟩:=H.ho;obtain⟨M,c,B⟩:=H.qD;have dW:∀e,∃q:Nat × Nat,e∈M->e.2.1 = .pointer (some ⟨q.1,0,none⟩)/\q.2<=100001/\∀{lY:ak} {ac:ad} {Y:Nat},az U h ac->aD Q lY 248 [.pointer (some ⟨q.1,0,none⟩)] ac Y (fm (q.2:X) Y ac):=λe=>by
  by_cases bk:e∈M
  case neg=>exact⟨(0,0),λh=>absurd h bk⟩
  obtain⟨_,_,b1,aY,S⟩:=B.get e.1 e.2.1 ((KS B.m.pD).2 ⟨e.2.2,bk⟩);obtain⟨Ia,W2,eo,kx,oJ,du,dd,K,l9,aG,_,ar⟩:=S.at
  exact⟨(b1,K),λ_=>⟨aY,by show K<=_;omega,λhk=>apD ((hk b1 Ia).trans aG)⟩⟩
 obtain⟨f,bx⟩:=Classical.skolem.1 dW;have x2:=au6 B.m.pD;have a5:=G.at_;have hpg:=G.p.1;have r8:pm<U:=G.m.1;unfold f7 at a5;obtain⟨S,ay9⟩:∃S:Nat,S=(M.map λe=>(f e).2).sum:=⟨_,rfl⟩
 have dr:S<=M.length*100001:=by
  subst ay9;have:∀l:aa (jo × X × Nat),(∀e∈l,e∈M)->(l.map λe=>(f e).2).sum<=l.length*100001:=by
   intro l
   induction l with
   |nil=>simp
   |cons e l ev =>
    intro bg;have:=ev λx aR=>bg x (m8 _ aR);have:=(bx e (bg e (ow ..))).2.1;simp only[qQ,List.sum_cons,nM];omega
  exact this M λe bk=>bk
 refine aD.plain (v:=(S:X)) rfl ?_ ⟨S,rfl,J,rfl,rfl⟩;refine apu ?_;unfold aed;simp(disch:=omega)only[bd,Pk Bh,a5,seval];refine B.m.jW λaM I ek=>?_;refine bq.mk (λm aE ac Y=>∃(D:Nat) (A:aa (jo × X × Nat)),m=A.length/\aE=[(D:X),bb U]/\xZ ac U pm c M A/\D+(A.map λe=>(f e).2).sum=S/\(∀e∈A,e∈M)/\az U h ac/\U+1<=Y) M.length
  ⟨0,M,rfl,rfl,I,J,λe h=>h,λc aU=>ek c J,J⟩ ?_
 rintro _ _ bc d4 ⟨D,A,rfl,rfl,JI,hp4,sa,E,iC⟩;rw[al7];unfold aak;refine(B.m.T (E pm r8)).fW JI J (λaF=>?_) λe V bP bk P CG hi Jc=>?_
 ·subst aF;refine aB ?_;simp at hp4;exact⟨by rw[hp4],E⟩
 ·have om:=P.length_eq;simp only[nM]at om;have oQ:=List.Perm.sum_nat (P.map λe=>(f e).2)
  rw[qQ,List.sum_cons]at oQ;rw[(bx e bk).1]at Jc ⊢;refine a9 @Jc ?_;refine((bx e bk).2.2 λd bu=>(hi d J).trans (E d bu)).f4 ?_;refine aB ?_;refine⟨_,J,D+(f e).2,V,rfl,?_,CG,J,λx aR=>sa x (P.mem_iff.2 (m8 _ aR)),λd bu=>(hi d J).trans (E d bu),J⟩;rw[<-wH,atv _ J]
theorem akl(K:gj Z)(H:iN Z room aw aK cp pm aX ap x cO dh db (aw+1) own g h U)(kg:∀i,i<Z.R->x.a i=aw+1)(eH:aw<900)(A:∀t,t<=aw->(Z.gn t=0↔t<aw)):
  aD Q s 74 [bb cp] h U (λr ac Y=>∃kf lb ky kY sN,r = .agg ⟨[.int .i64 (Z.gn aw),(aw:X),kf,lb,ky,kY,sN]⟩/\Up Z aw U h (.agg ⟨[kf,lb,ky,kY,sN]⟩) ac Y):=by
 refine amc ?_;have bF:∀{o},az U h (F h U o):=aC
 unfold ab9;simp(disch:=omega)only[bd,pX Bh,seval];obtain⟨ah2,br,iq,_⟩:=H.still (bF ) (J:U<=U+1);refine(akk iq J J).f4 ?_;rw[J0];refine aB ?_;generalize D:F (F (F h U _) (U+1) _) (U+1) _=al;have ml:u al U=some (.cells [.int .i64 0,.int .i64 0,.int .i64 0,.int .i64 0,.slice none 0 0,.slice none 0 0,.slice none 0 0] false):=ab
 have oc:u al (U+1)=some (.cells [.int .i64 0,(aw:X),.int .i64 0,.int .i64 0,.slice none 0 0,.slice none 0 0,.slice none 0 0] false):=ab
 have ez:az U h al:=by rw[<-D];exact aC
 obtain⟨Um,g2,E,_⟩:=H.still ez (J:U<=U+1+1);refine(P5 K E ab A).f4 ?_;rw[gz kg];obtain⟨a,ws,os,ar,o4,f0,eS,fS,G⟩:=E.ho;have a5:=G.at_;obtain⟨b,aO,cap,cs,bC,rfl,c4,eK,gX⟩:=BD  G.or (λ_ _ e=>e) (show 0<Z.R from K.mu);unfold f7 at a5;obtain⟨c,l,aP,so,bz,bZ,cA,R⟩:=E.dt 0 0 K.mu K.h0;have j1:=R.o rfl;have B:=j1.Cc;rw[kg 0 K.mu,if_neg J,J0]at B;rw[mx]at eK;have dD:=K.mu;refine hw @a5 @c4 @eK ?_;have W:=R.W;rw[show 0*Z.C+0=0 by omega]at W;refine(Za W B).f4 ?_;refine a9 @oc ?_;generalize P:F al (U+1) _=aM;have cS:u aM (U+1)=some (.cells [.int .i64 (Z.gn aw),(aw:X),.int .i64 0,.int .i64 0,.slice none 0 0,.slice none 0 0,.slice none 0 0] false):=ab
 have iv:=(show u aM U=u al U by grind).trans ml;have V:az U h aM:=by rw[<-P];exact aC
 obtain⟨H0,c3,iQ,_⟩:=H.still V (J:U<=U+1+1);unfold Py;refine a9 @cS ?_;refine(ami K iQ J J).mono ?_;rintro _ bc d4 ⟨v,rfl,⟨cY,fJ,ei,rfl,fE,gJ,gq⟩,I,iC⟩;have Cv:=(I (U+1) J).trans cS;have eY:∀{o},u (F bc (U+1) o) U=_:=λ{o}=>(aq J).trans ((I U J).trans iv);obtain⟨ih,bY,rfl,_⟩:=id fE;obtain⟨jC,cC,rfl,_⟩:=id gJ;obtain⟨hZ,b6,rfl,_⟩:=id gq;refine a9 @Cv ?_;refine A2.2 ⟨rfl,ab,?_⟩;refine a9 @eY ?_;refine⟨_,_,_,_,_,rfl,⟨_,_,_,rfl,fE.T ab J J,gJ.T ab J J,gq.T ab J J⟩,λd bu=>?_,J⟩;rw[aq J,aq J,I d J];exact V d bu
end
section
variable {s:ak} {h:ad} {U:Nat} {Z:b5} {aw W:Nat}
structure zs (h:ad) (U:Nat) (x:iZ) (ew gi eG:X) (Z:b5):Prop where
 K:gj Z
 H:oH h U x ew gi eG
 kW:cN h U eG zA []
 yy:x.uR=0
 bt:x.bt.length<1000000
 E:gl x=0
 z:Z.k=x.k/\x.n=(Z.N:Int)/\Z.src=x.src/\Z.len=x.len/\Z.bt=x.bt/\x.R=(Z.R:Int)/\x.C=(Z.C:Int)/\x.lim=(Z.lim:Int)
 af:v7 x.k (x.es.map mQ) Z.af
theorem zs.T{x:iZ}{ew gi eG:X}{ac:ad}{Y:Nat}(S:zs h U x ew gi eG Z)(B:az U h ac)(A:U<=Y):zs ac Y x ew gi eG Z:={ S with H:=S.H.T B A,kW:=S.kW.T B A }
theorem zs.room{x:iZ}(S:zs h U x ew gi eG Z):1<=x.M/\x.M<=64:=by
 have e:=S.E;unfold gl at e
 split at e
 ·omega
 ·split at e
  ·cases e
  ·split at e
   ·cases e
   ·split at e
    ·cases e
    ·rename_i A
     have:jQ x.M 64=true:=ab
     unfold jQ at this
     grind
def aza(Z:b5)(room:Int)(aw:Nat)(aX:Nat)(ap:ad)(W:Nat)(cp pm:Nat)(aK:Nat->Nat)(m:Nat)(aE:aa X)(ac:ad)(Y:Nat):Prop :=
 ∃k x cO L own g,m=W-k/\k<=W/\aE=[bb cp,(k:X),(W:X),(k:X)]/\iN Z room aw aK cp pm aX ap x cO k k L own g ac Y/\Jd Z aw (k+1) 0 x cO L
def azb(Z:b5)(room:Int)(aw:Nat)(h:ad)(U:Nat)(cp k:Nat)(ac:ad)(Y:Nat):Prop:=∃pm aK x cO own g,iN Z room aw aK cp pm U h x cO k k (aw+1) own g ac Y/\(∀i,i<Z.R->x.a i=aw+1)/\k<=99999
theorem akm{x:iZ}(S:zs h U x ew gi eG Z)(eH:aw<900)(A:∀t,t<=aw->(Z.gn t=0↔t<aw))(B:yg Z aw)(jF:mN Z.R Z.C aw+Z.R<=W)(zZ:W<=99999):
  aD Q s 157 [.agg ⟨fq x ew gi eG⟩,.slice none 0 0,(W:X)] h U (λr ac Y=>∃cp k:Nat,r = .tuple ⟨[bb cp,(k:X),.int .i64 0]⟩/\azb Z x.M aw h U cp k ac Y):=by
 refine aan ?_;have K:=S.K;obtain⟨bp,hn,nG,_⟩:=id S.H.d;obtain⟨b2,pM,CB,_⟩:=id S.H.e;obtain⟨bV,ge,Js,_⟩:=id S.kW;have V:=S.room;unfold QR;subst nG CB Js;unfold fq;refine aB ?_;refine(ZU    (S.H.T aC J) ⟨none,0,rfl,λh=>absurd rfl h⟩ ab).b0 λh1 a6 cD fp=>?_;have c4:=(cD U J).trans (aN _ _ _);have aF:zy x [] (W:Int)=0:=by unfold zy;rw[if_neg (by rw[S.E];omega),if_neg (by decide),if_neg (by decide),if_neg (by rw[lI J];decide)]
 rw[aF];refine a9 @c4 ?_;have K01:az U h h1:=aC
 have fE:=S.T (Y:=a6) K01 J;refine(as5 (aw:=aw) K fE.H fE.kW fE.yy fE.bt fE.E fE.z fE.af).mono ?_;rintro _ al bH ⟨cp,pm,aK,own,g,rfl,dQ,dC,H⟩;refine aB ?_;have h6:iN Z x.M aw aK cp pm U h (mO Z.R Z.C) (λ_ _=>[]) 0 0 1 own g al bH:={ H with hp:=by have:=H.hp;omega,hc:=λd bu=>⟨(H.hc d J).1,(H.hc d J).2.trans (K01 d bu)⟩ }
 refine bq.mk (λ_ aE ac Y=>aE=[(W:X),bb cp,.slice none 0 0,.int .i64 0,.int .i64 0]/\ac=al/\Y=bH) 0 ab ?_;rintro _ _ _ _ ⟨rfl,rfl,rfl⟩;rw[ake];unfold Ze;refine aB ?_;have aBh:=av4   (aw:=aw) K.h0 K.mu;refine λ_=>bq.mk (aza Z x.M aw U h W cp pm aK) W ⟨0,mO Z.R Z.C,λ_ _=>[],1,own,g,rfl,J,rfl,h6,aBh.1,aBh.2,J,0,K.mu,rfl⟩ ?_;rintro _ _ aM bR ⟨k,I,Cg,JP,D,c3,rfl,hk,rfl,iQ,E⟩;rw[akf];unfold Zf;have rG:ah5 Z x.M aw cp pm U:=⟨K,J,J,V.1,V.2,eH,A,B⟩
 have dr:∀i,i<Z.R->I.a i<=aw+1:=λi ai=>(E.P.ord.ap i ai).1
 by_cases ci:k<W
 ·refine aB ?_;refine⟨λ_=>?_,λh=>absurd ci h⟩;refine(P5 K iQ dr A).f4 ?_
  by_cases P:∀i,i<Z.R->I.a i=aw+1
  ·rw[gz P];refine aB ?_;have eJ:=E.S.fin P;subst eJ;exact⟨cp,k,rfl,pm,aK,I,Cg,D,c3,iQ,P,J⟩
  ·rw[f9 P];refine aB ?_;have eg:∃k,k<Z.R*Z.C/\I.out k≠[]:=by obtain⟨i,ai,dg⟩:∃i,i<Z.R/\I.a i≠aw+1:=vg ab;exact E.P.more K.h0 K.mu (λa b=>E.D.t3 a b J) ai dg
   refine(akj rG iQ E J eg).mono ?_;rintro _ bc d4 ⟨rfl,u3,lk4,Oy,⟨BE,dK,tQ,_,_⟩,aCM⟩;have Cf:IntKind.wrap .i64 ((k:Int)+1)=((k+1:Nat):Int):=cn J;refine a9 @Cf ?_;exact⟨_,J,k+1,u3,lk4,Oy,BE,dK,rfl,ci,rfl,tQ,aCM⟩
 ·have:k=W:=J
  subst this;have P:∀i,i<Z.R->I.a i=aw+1:=λi ai=>E.P.fin E.D K.h0 K.mu J ai;have eJ:=E.S.fin P;subst eJ;refine aB ?_;refine⟨λh=>absurd h J,λ_=>?_⟩;exact⟨cp,k,rfl,pm,aK,I,Cg,D,c3,iQ,P,zZ⟩
theorem au8{n k:Int}:qY (pk [(7,1,(n:X)),(8,1,(k:X))]) 0 7 [a0,ax,a2,a3,aV,bl,bf] [pR,jT,z2,z3,z4,Ag,CA,sM,JA] = .ok [a0,ax,a2,a3,aV,bl,bf,(n:X),(k:X)]:=rfl
theorem ael{x:iZ}(S:zs h U x ew gi eG Z)(eH:aw<900)(A:∀t,t<=aw->(Z.gn t=0↔t<aw))(B:yg Z aw)(jF:mN Z.R Z.C aw+Z.R<=W)(zZ:W<=99999):
  aD Q s 76 [.agg ⟨fq x ew gi eG⟩,.slice none 0 0,(W:X)] h U (λr ac Y=>∃kf lb ky kY sN,∃n k:Nat,r = .tuple ⟨[.agg ⟨[.int .i64 (Z.gn aw),(aw:X),kf,lb,ky,kY,sN,(n:X),(k:X)]⟩,.int .i64 0]⟩/\Up Z aw U h (.agg ⟨[kf,lb,ky,kY,sN]⟩) ac Y):=by
 refine bS ?_;obtain⟨bp,hn,nG,_⟩:=id S.H.d;obtain⟨b2,pM,CB,_⟩:=id S.H.e;obtain⟨bV,ge,Js,_⟩:=id S.kW;have K:=S.K;subst nG CB Js;unfold fq;have cU:∀{o},u (F (F h U (.cells (fq x (.slice bp x.bt.length hn) (.slice b2 x.es.length pM) (.slice bV ([]:aa (Int × Int)).length ge)) false)) (U+1) o) U=_:=λ{o}=>(aq J).trans (aN _ _ _);refine a9 @cU ?_;generalize NE:F (F h U _) (U+1) _=h1;have cD:az U h h1:=by rw[<-NE];exact aC
 have cj:u h1 (U+1)=some (.cells [.int .i64 0,.int .i64 0,.int .i64 0,.int .i64 0,.slice none 0 0,.slice none 0 0,.slice none 0 0,.int .i64 0,.int .i64 0] false):=ab
 refine(akm (S.T  cD J) eH A B jF zZ).mono ?_;rintro _ al bH ⟨cp,k,rfl,pm,aK,jC,lk2,Um,g2,E,kg,hk⟩;refine aB ?_;refine(akl K E kg eH A).mono ?_;rintro _ aM bR ⟨kf,lb,ky,kY,sN,rfl,gq,fg,P⟩;obtain⟨H0,c3,iQ,_⟩:=E.still fg P;refine(apK iQ J J).mono ?_;rintro _ zH n3' ⟨n,rfl,bm,aY,aJ⟩;subst zH n3';obtain⟨cY,fJ,ei,g9,S31,I,V⟩:=gq;simp only[Value.agg.injEq,wJ,vm,iy]at g9;obtain⟨rfl,rfl,rfl,rfl,rfl⟩:=g9;obtain⟨ih,bY,rfl,_⟩:=id S31;obtain⟨x2',cC,rfl,_⟩:=id I;obtain⟨hZ,b6,rfl,_⟩:=id V;have ml:=(E.hc (U+1) J).2.trans cj;have E5:=E.hp;refine a9 @au8 ?_;generalize WT:F (F aM bR _) bR _=bc;have D:az bR aM bc:=by rw[<-WT];exact aC
 have cS:u bc bR=some (.cells [.int .i64 (Z.gn aw),(aw:X),.int .i64 0,(Z.N:X),.slice ih (cF Z.N (Z.e1.st aw).A).length bY,.slice x2' (cF Z.N (Z.e1.st aw).B).length cC,.slice hZ (eU Z.N (Z.e1.st aw).q).length b6,(n:X),(k:X)] false):=ab
 obtain⟨BE,dK,tQ,_⟩:=iQ.still D (nP bR);refine(P5 K tQ ab A).f4 ?_;rw[gz kg];have iv:=(D (U+1) J).trans ((fg (U+1) J).trans ml);refine cx @cS @iv ?_;have hc:∀d,d<U->u bc d=u h d:=λd bu=>(D d J).trans ((fg d J).trans ((E.hc d J).2.trans (cD d bu)));refine⟨_,_,_,_,_,n,k,rfl,⟨_,_,_,rfl,S31.T (λd aY aJ=>?_) J J,I.T (λd aY aJ=>?_) J J,V.T (λd aY aJ=>?_) J J⟩,λd bu=>?_,J⟩
 ·rw[aq J];exact D d aJ
 ·rw[aq J];exact D d aJ
 ·rw[aq J];exact D d aJ
 grind
end
def wG(o:av Int):Prop:=∀y,o=some y->0<=y/\y<=eB
theorem Sa:wG none:=λ_ h=>ab
section
variable {r:Int} {Z:b5} {t:Nat}
theorem au9(I:r≠5){a b:av Int}(A:wG a)(B:wG b):wG (e3 r a b):=by
 cases a with
 |none=>exact B
 |some a =>
  cases b with
  |none=>exact A
  |some b =>
   intro y D;cases D;have K:=A a rfl;have E:=B b rfl;unfold ka;omega
theorem S4(A:r≠5):∀{l:aa (av Int)},(∀x∈l,wG x)->wG (fo r l)
 | [],_=>Sa
 |x::l,h=>au9 A (h x ab) (S4 A λy B=>h y ab)
theorem afN(K:r≠5){B:aa GE}{x:Nat->av Int}(V:∀g∈B,wG (x g.t))(P:∀g∈B,0<=g.w)(v:Nat):wG (iU r B x v):=by
 refine S4 K λo I=>?_;obtain⟨g,E,rfl⟩:=fL.1 I
 split
 ·intro y D;cases A:x g.t with
  |none=>grind
  |some z =>
   rw[A]at D;cases D;have h1:=V g E z A;have al:=P g E;unfold gw;omega
 ·exact Sa
theorem LO(K:gj Z){a H b W:Nat}:∀g∈ma Z.af a H b W,0<=g.w/\∃cb∈Z.af,b+g.t=cb.t:=λg D=>by
 obtain⟨cb,A,rfl⟩:=fL.1 D;have B:=(pV.1 A).1;have E:=(pV.1 A).2;unfold qc at E;refine⟨(K.w cb B).1,cb,B,?_⟩
 grind
theorem Sb(K:gj Z):fh Z.k t≠5:=by
 unfold fh;rcases K.gF with h|h|h|h <;> rw[h] <;> simp;omega
theorem awZ(K:gj Z)(E:∀v,v<Z.N->wG (Z.e1.x t v)):XC Z t where
 c:=λi P v=>by
  refine S4 (Sb K) λo I=>?_;obtain⟨j,_,rfl⟩:=fL.1 I
  split
  ·refine afN (Sb K) (λg A=>?_) (λg A=>(LO K g A).1) _;obtain⟨_,cb,D,B⟩:=LO K g A;rw[B];exact E _ (K.M.mF cb D)
  ·exact Sa
 b:=λi j v=>by refine afN (Sb K) (λg A=>?_) (λg A=>(LO K g A).1) v;obtain⟨_,cb,D,B⟩:=LO K g A;rw[B];exact E _ (K.M.mF cb D)
end
theorem aw0{P:Program}{f:FuncId}{l:aa X}{h:ad}{U:Nat}{K:bD}(H:aD P true f l h U K):∃v ac Y,K v ac Y:=by obtain⟨v,ac,Y,A,_⟩:=H;exact⟨v,ac,Y,A⟩
theorem QU{D:aa X->Go.Ax.R (aa X)}{A:Nat}{x y z w B:X}{c:aa X}:qY D A 5 [x,y,z,w,B] c=if A+5<=c.length then D (c.take A++x::y::z::w::B::c.drop (A+5))else .no "fill" := by
 by_cases h:A+5<=c.length
 ·rw[if_pos h,KN (n:=5)  rfl h];simp
 ·rw[if_neg h];show(bif Nat.beq (jJ [x,y,z,w,B]) 5 then R.of "fill" (ng [x,y,z,w,B] c A) D else .no "fill - size")=_;rw[t7,if_neg J];rfl
def r7(n:Int):Int:=if 0<=n then min n 8191+1 else 0
def Jf(bI src r c:Int)(es:aa gS):iZ:=⟨1,bI,src,0,[],bI,es,r,c,4,r7 bI,0⟩
section
variable {s:ak} {h:ad} {U:Nat} {bI src r c:Int} {a:av Addr} {n cap:Nat} {es:aa gS} {Z:b5} {aw:Nat}
theorem apL(B : -9223372036854775808<=bI)(D:bI<=9223372036854775807):
  aD Q s 22 [.agg ⟨[(bI:X),.slice a n cap]⟩,(src:X),(r:X),(c:X)] h U (cI (.agg ⟨fq (Jf bI src r c es) (.slice none 0 0) (.slice a n cap) (.slice none 0 0)⟩) U h):=by
 refine arC ?_;unfold afk;refine aB ?_;refine⟨λA=>?_,λA=>?_⟩
 ·rw[jI J J];unfold KZ;refine a9 @QU ?_;refine⟨?_,aC,J⟩;unfold fq Jf r7
  grind
 ·unfold KZ;refine a9 @QU ?_;refine⟨?_,aC,J⟩;unfold fq Jf r7
  grind
theorem amj(B : -9223372036854775808<=bI)(D:bI<=9223372036854775807):
  aD Q s 23 [.agg ⟨[(bI:X),.slice a n cap]⟩,(src:X),(r:X),(c:X)] h U (cI (.agg ⟨fq (Jf bI src r c es) (.slice none 0 0) (.slice a n cap) (.slice none 0 0)⟩) U h):=by
 refine bS ?_;have A:IntKind.wrap .i64 (min bI 8191+1)=min bI 8191+1:=jI J J;refine cx @A @QU ?_;refine⟨?_,aC,J⟩;unfold fq Jf r7
 grind
theorem aja{x:iZ}{w:Int}(H:oH h U x ew gi eG)(kg:gl x≠0):
  aD Q s 157 [.agg ⟨fq x ew gi eG⟩,.slice none 0 0,(w:X)] h U (cI (.tuple ⟨[.pointer none,.int .i64 0,.int .i64 (gl x)]⟩) U h):=by
 refine aan ?_;obtain⟨D,E,rfl,_⟩:=id H.d;obtain⟨b2,V,rfl,_⟩:=id H.e;obtain⟨K,ge,rfl⟩:=id H.c;unfold QR fq;refine aB ?_;refine(ZU    (H.T aC J) ⟨none,0,rfl,λh=>absurd rfl h⟩ ab).b0 λP a6 I A=>?_;have aF:zy x [] w=gl x:=by unfold zy;omega
 rw[aF];have B:(gl x == 0)=false:=ab
 refine a9 @B ?_;exact⟨rfl,aC,J⟩
def WW:X:=.agg ⟨[.int .i64 0,.int .i64 0,.int .i64 0,.int .i64 0,.slice none 0 0,.slice none 0 0,.slice none 0 0,.int .i64 0,.int .i64 0]⟩
theorem acf{x:iZ}{w:Int}(H:oH h U x ew gi eG)(kg:gl x≠0):
  aD Q s 76 [.agg ⟨fq x ew gi eG⟩,.slice none 0 0,(w:X)] h U (cI (.tuple ⟨[WW,.int .i64 (gl x)]⟩) U h):=by
 refine bS ?_;obtain⟨D,E,rfl,_⟩:=id H.d;obtain⟨b2,pM,rfl,_⟩:=id H.e;obtain⟨K,ge,rfl⟩:=id H.c;have P:∀{o aW},az U h (F (F h U o) (U+1) aW):=aC
 have B:∀{o},u (F (F h U (.cells (fq x (.slice D x.bt.length E) (.slice b2 x.es.length pM) (.slice K x.uR ge)) false)) (U+1) o) U=_:=λ{o}=>(aq J).trans (aN _ _ _);unfold fq at B ⊢;refine a9 @B ?_;refine(aja  (H.T  P J) kg).b0 λh1 a6 I A=>?_;have br:=(I (U+1) J).trans (aN _ _ _);have V:(gl x == 0)=false:=ab
 refine cx @V @br ?_;exact⟨rfl,aC,J⟩
theorem aao{l:aa Int}(E:cN h U v cG l)(D:l.length<1000000)(e:l≠[]):
  aD Q s 88 [v] h U (λr ac Y=>dX ac r cG 1 l U Y/\az U h ac/\U<=Y):=by
 refine bS ?_;obtain⟨a,cap,rfl,K⟩:=id E;obtain⟨b,V,P,I,rfl,A⟩:=K e;simp(disch:=omega)only[bd,y3 T4,seval];have B:az U h (F h U (.cells [] false)):=aC
 rw[h2]at A;refine⟨λap=>absurd ap (by simp),λ_=>?_⟩;rw[SN (AK _) (aN _ _ _) ((B b I).trans A) ab D];refine⟨.inr ⟨U+1,J,J,rfl,?_⟩,aC,J⟩
 grind
end
section
variable {s:ak} {h:ad} {U:Nat} {bI src r c:Int} {a:av Addr} {cap:Nat} {es:aa gS}
theorem as6{R C aw N:Nat}(A:aw<=N+1):mN R C aw+R<=4*(R+C+4)*(N+1+2):=by
 unfold mN;have B:aw*(2*R+C+2)<=(N+1)*(4*(R+C+4)):=sT A J
 grind
theorem aw2{aA:Type}{h:ad}{A:aA->aa X}{k:Nat}{l:aa aA}{ao:Nat}(H:dX h v A k l ao ai)(E:ed<=ao):dX h v A k l ed ai:=by
 rcases H with H|⟨b,I,B,D⟩
 ·exact .inl H
 ·exact .inr ⟨b,J,B,D⟩
end
def lvE:aa X:=[.int .i64 0,.int .i64 1,.int .i64 5,.int .i64 1,.int .i64 2,.int .i64 5]
def lvA:aa X:=[.int .i64 0,.int .i64 1,.int .i64 2,.int .i64 (-1)]
def lvB:aa X:=[.int .i64 (-1),.int .i64 0,.int .i64 1,.int .i64 (-1)]
def ah7(h:ad)(b U:Nat):ak:=Nat.blt b U&&(match u h b with|some (.cells cs false)=>mz (.agg ⟨cs⟩) (.agg ⟨lvE⟩)|_=>false)
def qx(args:aa X)(h:ad)(U:Nat)(K:bD):Prop:=match args with
 | [.agg ⟨[.int .i64 n,.slice (some ⟨b,0,aO⟩) l cap]⟩,.int .i64 src,.int .i64 r,.int .i64 c]=>yp (fN n 4&&Nat.beq l 2&&ah7 h b U)
  (Bool.rec (yp (fN src 4&&fN r 1&&fN c 1) (K (.tuple ⟨[.slice none 0 0,.slice none 0 0,.int .i64 3]⟩) h U))
   (K (.tuple ⟨[.slice (some ⟨U,0,some 1⟩) 4 4,.slice (some ⟨U+1,0,some 1⟩) 4 4,.int .i64 0]⟩) (F (F h U (.cells lvA false)) (U+1) (.cells lvB false)) (U+1+1)) (fN src 0&&fN r 2&&fN c 2))
 |_=>False
def azc(args:aa X)(h:ad)(U:Nat)(K:bD):Prop:=match args with
 | [.int .i64 r,.slice (some ⟨b,0,aO⟩) l cap]=>yp (fN r 1&&Nat.beq l 2&&ah7 h b U) (K (.tuple ⟨[.slice (some ⟨U,0,some 3⟩) 2 2,.int .i64 0]⟩) (F h U (.cells lvE false)) (U+1))
 |_=>False
def lvX(f:FuncId):av (aa X->ad->Nat->bD->Prop):=bif Nat.beq f 16 then some qx else bif Nat.beq f 172 then some azc else none
def lvT(f:FuncId):aa (aa Nat):=match([(19,[[0,1,4,5]]),(51,[[0,1,4,5]]),(81,[[0,1,6,7,8,9]]),(82,[[3,6,7,8],[3,5,6,7,8]]),(84,[[1,2,4,5,12,13],[4,5,6,7],[4,5,6,7,8,44,45,46]]),(85,[[0,1,4,12,13]]),(162,[[0,2,3]]),(167,[[3,11,12,13]]),(255,[[0,1,4,7,8]])]:aa (Nat × aa (aa Nat))).find? λp=>Nat.beq p.1 f with
 |some p=>p.2
 |none=>[]
def XJ(v:X):Prop:=match v with | .bool true=>True|_=>False
@[irreducible] def lvP(n m:Nat):Prop:=Ij Q lvT lvX n m 18 [] ic 0 (λv _ _=>XJ v)
def SvJ(l cc:aa Int)(v dG:X)(h:ad)(U:Nat)(m:Nat)(aE:aa X)(ac:ad)(Y:Nat):Prop :=
 ∃i,m=l.length-i/\i<=l.length/\aE=[v,dG,.bool false,(i:X)]/\ac=h/\Y=U/\l.take i=cc.take i
theorem as7{s:ak}{h:ad}{U:Nat}{dG:X}{l A:aa Int}(aI:cN h U v cG l)(K:cN h U dG cG A)(bg:l.length<1000000):
  aD Q s 19 [v,dG] h U (fm (.bool (decide (l=A))) U h):=by
 refine atZ ?_;obtain⟨a,cap,rfl,aU⟩:=id aI;obtain⟨eo,D,rfl,MQ⟩:=id K;unfold agj;refine aB ?_;refine⟨λB=>?_,λbk=>?_⟩
 ·have:¬l=A:=λe=>by subst e;simp at B
  exact⟨by simp[this],rfl,rfl⟩
 have bk:l.length=A.length:=by
  have al:(l.length:Int)=(A.length:Int):=by simpa using bk
  omega
 refine bq.mk (SvJ l A (.slice a l.length cap) (.slice eo A.length D) h U) l.length ⟨0,rfl,J,rfl,rfl,rfl,rfl⟩ ?_;rintro m _ _ _ ⟨i,rfl,ai,rfl,rfl,rfl,V⟩;rw[aqT];unfold ac0;refine aB ?_;refine⟨λci=>?_,λeh=>?_⟩
 ·obtain⟨x,P⟩:=dk ci;obtain⟨y,E⟩:=dk (l:=A) (i:=i) J;obtain⟨_,b,aO,bC,c1,aG,aY,a5⟩:=aI.at P;obtain⟨_,ck,Wc,ro',WB,hQ,Nj,I⟩:=K.at E;cases aY;cases Nj;rw[h2]at a5 I;simp(disch:=omega)only[bd,a5,I,iz P,iz E,seval];refine⟨λB=>?_,λhe2=>?_⟩
  ·have:¬l=A:=λe=>by subst e;rw[P]at E;cases E;simp at B
   exact⟨by simp[this],rfl,rfl⟩
  ·have UL:x=y:=by simpa using he2
   subst UL;refine⟨l.length-(i+1),J,i+1,rfl,J,by rw[cn J],rfl,rfl,?_⟩;rw[gQ,gQ,P,E,V]
 ·have:i=l.length:=J
  subst this;rw[ht,bk,ht]at V;exact⟨by simp[V],rfl,rfl⟩
section
variable {s:ak} {h:ad} {U:Nat} {k bI src r c:Int} {a:av Addr} {cap:Nat} {es:aa gS}
def iO(k bI src r c:Int)(es:aa gS):iZ:=⟨k,bI,src,0,[],bI,es,r,c,4,r7 bI,0⟩
structure Fj (k bI src r c:Int) (es:aa gS) (Z:b5) (aw:Nat):Prop where
 K:gj Z
 b0:Z.k=k
 eL:bI=(Z.N:Int)
 Jp:Z.src=src
 Xy:r=(Z.R:Int)
 Xz:c=(Z.C:Int)
 el:r7 bI=(Z.lim:Int)
 af:v7 k (es.map mQ) Z.af
 gn:∀t,t<=aw->(Z.gn t=0↔t<aw)
 le:aw<=Z.lim
theorem afO(hk:1<=k/\k<=3)(H:oH h U (iO k bI src r c es) (.slice none 0 0) gi (.slice none 0 0))(kg:gl (iO k bI src r c es)=0)(bm:bI<=30):
  ∃(Z:b5) (aw:Nat),Fj k bI src r c es Z aw/\(k≠3->∃v:Nat,Z.src=(v:Int)/\v<Z.N)/\zs h U (iO k bI src r c es) (.slice none 0 0) gi (.slice none 0 0) Z/\aw<900/\∃W:Nat,Eg (iO k bI src r c es) (r7 bI)=(W:Int)/\mN Z.R Z.C aw+Z.R<=W/\W<=99999:=by
 have E:=kg;have hm:nj k bI src 0 [] bI es (r7 bI)=0/\(1<=r/\r<=8)/\1<=c/\c<=8:=by
  have key:∀m:Int,jQ m 8≠false->1<=m/\m<=8:=λm h=>by
   have:jQ m 8=true:=ab
   exact of_decide_eq_true this
  unfold gl iO at kg
  grind
 obtain⟨hm,⟨xV,hr8⟩,BI,Fc⟩:=hm;have B:iB k bI src 0 [] bI es=0:=by unfold nj at hm;omega
 have A:gR k bI src 0 []=0:=by
  unfold iB at B
  omega
 have bv:(0<=bI/\bI<=4096)/\(k≠3->0<=src/\src<=bI-1):=by have bv:=A;unfold gR at bv;omega
 obtain⟨⟨hg0,_⟩,ar⟩:=bv;obtain⟨_,_,_,m,V,_,dW,iw,jn,_⟩:=aw0 (aal  H.d H.e H.l B);obtain⟨N,rfl⟩:∃N:Nat,bI=(N:Int):=⟨bI.toNat,J⟩
 obtain⟨R,rfl⟩:∃R:Nat,r=(R:Int):=⟨r.toNat,J⟩
 obtain⟨C,rfl⟩:∃C:Nat,c=(C:Int):=⟨c.toNat,J⟩
 have P:r7 (N:Int)=((N+1:Nat):Int):=by unfold r7;omega
 rw[yI]at iw jn;have K:gj ⟨k,src,0,N,R,C,N+1,[],V⟩:=⟨ab,ab,ab,ab,ab,ab,ab,⟨ab,ab⟩,A,jn,λg a5=>(iw g a5).2.2⟩
 obtain⟨aw,I,_,D⟩:=asY ⟨k,src,0,N,R,C,N+1,[],V⟩;have I:aw<=N+1:=I;refine⟨⟨k,src,0,N,R,C,N+1,[],V⟩,aw,⟨K,rfl,rfl,rfl,rfl,rfl,P,dW,D,I⟩,λaM=>⟨src.toNat,(by have:=ar aM;show src=_;omega),(by have:=ar aM;show _<N;omega)⟩,⟨K,H,⟨none,0,rfl,λh=>absurd rfl h⟩,rfl,(J:0<1000000),E,⟨rfl,rfl,rfl,rfl,rfl,rfl,rfl,P⟩,dW⟩,J,4*(R+C+4)*(N+1+2),?_,?_,?_⟩
 ·unfold Eg;rw[P,if_neg (by rw[lI J];decide),if_neg (λh=>h E)];have e:((4*(R+C+4)*(N+1+2):Nat):Int)=4*((R:Int)+(C:Int)+4)*(((N+1:Nat):Int)+2):=ab
  exact e.symm
 ·exact as6 I
 ·have:4*(R+C+4)*(N+1+2)<=80*33:=sT J J;omega
end
theorem jd.sub(h:jd (gs.map di) (cs.map di)):∀c∈cs,c∈gs:=λc A=>by obtain⟨D,_⟩:=(h.ES.mem (di c)).1 (fL.2 ⟨c,A,rfl⟩);obtain⟨d,B,e⟩:=fL.1 D;exact afK e ▸ B
theorem jd.H1(h:jd (gs.map di) (cs.map di)):∀g∈gs,∃c∈cs,c.f=g.f/\c.t=g.t:=λg D=>by obtain⟨z,E,B,A⟩:=h.ES.It (di g) (fL.2 ⟨g,D,rfl⟩);obtain⟨c,I,rfl⟩:=fL.1 E;unfold di at B A;simp only at B A;exact⟨c,I,J,J⟩
theorem K5{g:GE}:g∈vS gs↔∃e∈gs,g=oG e:=by
 unfold vS;simp only[fL,pV]
 grind
theorem aap{g:GE}:g∈w9 gs↔∃e∈gs,g=xG e:=by
 unfold w9;simp only[fL,pV]
 grind
theorem as8{Z:b5}(K:1<=Z.R){v:Nat}(B:v<Z.N):∃i k,i<Z.R/\k<Z.H i/\v=Z.bB i+k:=by
 have A:∀m,m<=Z.R->v<Z.bB m->∃i k,i<Z.R/\k<Z.H i/\v=Z.bB i+k:=by
  intro m
  induction m with
  |zero=>intro _ h;unfold b5.bB at h;rw[afu]at h;omega
  |succ m D =>
   intro I h
   by_cases E:v<Z.bB m
   ·exact D J E
   ·exact⟨m,v-Z.bB m,J,by unfold b5.H;omega,J⟩
 exact A Z.R J (by unfold b5.bB;rw[afv J];exact B)
theorem amk{Z:b5}{aw:Nat}(P:Z.k≠4)(D:Z.k≠5)(dD:1<=Z.R)(A:Z.gn aw≠0):aw=Z.lim\/∀v,v<Z.N->(Z.e1.st aw).q v=false:=by
 by_cases E:aw=Z.lim
 ·exact .inl E
 right
 intro v B;unfold b5.gn wV at A;have bm:¬∃i,i<Z.R/\Z.jG aw i≠0:=λK=>by rw[gz K]at A;simp at A;omega
 obtain⟨i,k,ai,V,rfl⟩:=as8 dD B;have ap:Z.jG aw i=0:=vg λh=>bm ⟨i,ai,h⟩;unfold b5.jG q9 at ap;rw[if_neg (λh=>P h.1),if_neg D]at ap;have h1:(er (Z.H i) λk=>(Z.e1.st aw).q (Z.bB i+k))=[]:=Ak J;apply vg;intro I;have:k∈(er (Z.H i) λk=>(Z.e1.st aw).q (Z.bB i+k)):=by unfold er;rw[pV];exact⟨CT.2 V,by simpa using I⟩
 rw[h1]at this;cases this
def Uq(U:Nat)(h:ad):bD:=λr ac Y=>r = .bool true/\az U h ac/\U<=Y
theorem cN.le{aA:Type}{A:aA->aa X}{h:ad}{U Y:Nat}{l:aa aA}(H:cN h U v A l)(B:U<=Y):cN h Y v A l:=H.T (az.refl _ _) B
def Hq:aa (aa Nat):=[[1,3,13,14],[3,23,24,25]]
def aem(s:ak)(ax a3 hW jN:X)(h:ad)(U:Nat)(N:aH)(aF:aH)(R:aH):Prop:=cq jN hW (f3 1 a3 jN λb=>ag (a7 h 1 b jN) λc=>b3 jN λd=>N [ax,a3,hW,d] c U) (aF [ax,a3,hW,jN] h U)
def aen(s:ak)(a3 jB fi lC:X)(h:ad)(U:Nat)(N:aH)(aJ:aH)(R:aH):Prop:=cq lC fi (hq 3 h 3 jB lC λc=>cJ [ae 0,ae 0,ae 0] h U λd e f=>ag (a7 e 3 d c) λg=>ay g 0 d λj=>c7 91 [a3,j] g f λk l m=>b4 1 d λn=>dc l n λo=>eX n o (c7 91 [a3,o] l m λp q r=>ag (min2 false k p) λt=>ag (min2 true k p) λaT=>f3 1 a3 t λv=>ag (a7 q 1 v aT) λw=>b3 lC λx=>N [a3,jB,fi,x] w r) 1 [g]) (aJ [a3,jB,fi,lC] h U)
def grown:fw:=λs au h U K=>cK au h U λa b c=>ay b 0 a λe=>ey (xt [ae 0] e e) b c λf g i=>cQ f λj=>bq (bA Q s Hq 90 0) [a,f,j,ae 0] g i [(0,λk l m=>ay l 1 (aQ k 0) λo=>cQ o λp=>bq (bA Q s Hq 90 1) [aQ k 1,o,p,ae 0] l m [(2,λq r t=>K (aQ q 0) r t)] (λ_ _ _=>False))] (λ_ _ _=>False)
theorem as9{s:ak}{A B:X}{h:ad}{U:Nat}:bA Q s Hq 90 0 [ax,a3,A,B] h U N [(0,aF)] R=aem s ax a3 A B h U N aF R:=by kernel_rfl
theorem ata{s:ak}{A fi B:X}{h:ad}{U:Nat}:bA Q s Hq 90 1 [a3,A,fi,B] h U N [(2,aJ)] R=aen s a3 A fi B h U N aJ R:=by kernel_rfl
theorem ava:fG 90 grown:=fO Hq
def Sc:aa (aa Nat):=[[4,5,20,21,22]]
def acg(s:ak)(aV bl i2 h5 en:X)(h:ad)(U:Nat)(N:aH)(aF:aH)(R:aH):Prop:=cq en h5 (ea h 1 i2 en λc=>bh s 91 [bl,en] h U λd e f=>bT .neq 2 d c (R [.bool false,bl,i2,h5,en] e f) (b3 en λi=>N [aV,bl,i2,h5,i] e f)) (aF [aV,bl,i2,h5,en] h U)
def K6(s:ak)(K:bD)(bY cC Io:X)(ap:ad)(aX:Nat):Prop:=bJ Io (K (.bool false) ap aX) (a4 2 ap cC λa=>bh s 90 [a] ap aX λb c d=>cQ bY λe=>bq (bA Q s Sc 28 0) [.bool false,b,bY,e,ae 0] c d [(0,λf g i=>K (.bool true) g i)] (λj k l=>K (aQ j 0) k l))
def S5:fH:=λs au t1 h U K=>cK au h U λa b c=>a4 2 b a λd=>bh s 83 [d] b c λe f g=>lh e (K6 s K t1 a (.bool true) f g) (cQ t1 λj=>ay f 0 a λl=>cf .neq 3 j l λm=>(K6 s K t1 a m f g))
theorem apM{s:ak}{D B A:X}{h:ad}{U:Nat}:bA Q s Sc 28 0 [aV,bl,D,B,A] h U N [(0,aF)] R=acg s aV bl D B A h U N aF R:=by kernel_rfl
theorem aeo:fR 28 S5:=fX Sc
def AN:aa (aa Nat):=[[1,3,4],[1,3,5],[1,3,5,6]]
def P6(s:ak)(ax a3 aV:X)(h:ad)(U:Nat)(N:aH)(aF:aH)(R:aH):Prop:=ay h 0 ax λb=>cq aV b (ey (fU 1 [ae 0] [(0,1,aV)]) h U λd e f=>dB (dS (dv 1 e f a3 d)) λg i j=>b3 aV λk=>N [ax,g,k] i j) (aF [ax,a3,aV] h U)
def aaq(s:ak)(ax a3 bl bf:X)(h:ad)(U:Nat)(N:aH)(eC:aH)(R:aH):Prop:=ay h 1 ax λb=>cQ b λc=>cq bf c (ay h 1 ax λf=>hq 3 h 3 f bf λi=>cJ [ae 0,ae 0,ae 0] h U λj k l=>ag (a7 k 3 j i) λm=>ay m 0 j λo=>ea m 1 a3 o λq=>ay m 1 j λt=>ea m 1 a3 t λv=>ag (min2 true q v) λw=>ay m 0 j λy=>f3 1 a3 y λz=>ag (a7 m 1 z w) λbX=>ay bX 1 j λbV=>f3 1 a3 bV λbp=>ag (a7 bX 1 bp w) λb2=>b3 bf λcM=>N [ax,a3,bl,cM] b2 l) (eC [ax,a3,bl,bf] h U)
def P7(s:ak)(ax a3 bl:X)(h:ad)(U:Nat)(N:aH)(aJ:aH)(R:aH):Prop:=ay h 0 ax λb=>cq bl b (bq (bA Q s AN 27 2) [ax,a3,bl,ae 0] h U [(4,λd e f=>b3 (aQ d 2) λg=>N [aQ d 0,aQ d 1,g] e f)] (λ_ _ _=>False)) (aJ [ax,a3,bl] h U)
def Sd:fw:=λs au h U K=>cK au h U λa b c=>bq (bA Q s AN 27 0) [a,aS,ae 0] b c [(0,λd e f=>bq (bA Q s AN 27 1) [aQ d 0,aQ d 1,ae 0] e f [(2,λg i j=>K (aQ g 1) i j)] (λ_ _ _=>False))] (λ_ _ _=>False)
theorem aar{s:ak}{h:ad}{U:Nat}:bA Q s AN 27 0 [ax,a3,aV] h U N [(0,aF)] R=P6 s ax a3 aV h U N aF R:=by kernel_rfl
theorem aml{s:ak}{h:ad}{U:Nat}{A:aH}:bA Q s AN 27 2 [ax,a3,bl,bf] h U N [(4,A)] R=aaq s ax a3 bl bf h U N A R:=by kernel_rfl
theorem aas{s:ak}{h:ad}{U:Nat}:bA Q s AN 27 1 [ax,a3,bl] h U N [(2,aJ)] R=P7 s ax a3 bl h U N aJ R:=by kernel_rfl
theorem ach:fG 27 Sd:=fO AN
def aw5(N b:Nat)(d7:aa Nat)(v:Nat)(h:ad)(U:Nat):bD:=λr ac Y=>∃(q:Nat) (fA:aa Nat),r = (q:X)/\gk d7 v q/\q0 N fA/\(∀aT q,gk d7 aT q->gk fA aT q)/\u ac b=some (.cells (fx (fe fA)) false)/\(∀bO,bO≠b->u ac bO=u h bO)/\Y=U
theorem ah8{a b:Nat}:min (a:Int) (b:Int)=((min a b:Nat):Int):=J
theorem azd{a b:Nat}:max (a:Int) (b:Int)=((max a b:Nat):Int):=J
theorem Dy{A:aa Nat}{i x:Nat}(h:A[i]? = some x):(fx (fe A))[i]? = some (x:X):=iz (y2 h)
theorem Hr{N b cap:Nat}{aO:av Nat}(cU:N<1000000):∀(v:Nat),v<N->∀{s:ak} (A:aa Nat) (h:ad) (U:Nat),q0 N A->u h b=some (.cells (fx (fe A)) false) ->
  aD Q s 91 [.slice (some ⟨b,0,aO⟩) N cap,(v:X)] h U (aw5 N b A v h U):=by
 intro v
 induction v using Nat.strongRecOn with
 |_ v ev =>
  intro aI s A h U K aG;obtain⟨B,P⟩:=dk (l:=A) (i:=v) (by rw[K.1];exact aI);have huv:=K.2 v B P;refine bS ?_;simp(disch:=omega)only[bd,aG,Dy P,seval];refine⟨λE=>?_,λbk=>?_⟩
  ·have E:B≠v:=λe=>by subst e;simp at E
   refine(ev B J J A h U K aG).mono ?_;rintro r h1 gv ⟨q,aBi,rfl,ba,D,ar,hy,hk,rfl⟩;have I:gk A v q:=.up P E ba;obtain⟨V,nu⟩:=gk.short D (ar _ _ I);have cz:(fe (aBi.set v q))[v]? = some ((q:Nat):Int):=y2 (by rw[qP,if_pos rfl,if_pos (by rw[D.1];exact aI)]);simp(disch:=omega)only[bd,hy,KO,iz cz,seval];refine⟨by rw[kG,D.1];exact aI,q,aBi.set v q,rfl,I,V,λu' kU ac=>nu _ _ (ar _ _ ac),aN _ _ _,λbO al=>(aq al).trans (hk bO al),rfl⟩
  ·have bk:B=v:=by
    have al:(B:Int)=(v:Int):=by simpa using bk
    omega
   subst bk;exact⟨B,A,rfl,.here P,K,λ_ _ h=>h,aG,λ_ _=>rfl,rfl⟩
def aw6(N U:Nat)(v2:X)(h:ad)(m:Nat)(aE:aa X)(ac:ad)(Y:Nat):Prop :=
 ∃i:Nat,m=N-i/\i<=N/\aE=[bb U,.slice (some ⟨U+1,0,none⟩) N N,(N:X),(i:X)]/\u ac U=some (.cells [(N:X),v2] false)/\u ac (U+1)=some (.cells (fx (fe (vV N i))) false)/\az U h ac/\Y=U+1+1
def aw7(N U:Nat)(v2:X)(gs:aa GE)(h:ad)(m:Nat)(aE:aa X)(ac:ad)(Y:Nat):Prop :=
 ∃(i:Nat) (d7:aa Nat),m=gs.length-i/\i<=gs.length/\pu N gs i d7/\aE=[.slice (some ⟨U+1,0,none⟩) N N,v2,(gs.length:X),(i:X)]/\u ac (U+1)=some (.cells (fx (fe d7)) false)/\az U h ac/\U+1+1<=Y
def avb(N U:Nat)(gs:aa GE)(h:ad):bD:=λr ac Y=>∃(b:Nat) (d7:aa Nat),r = .slice (some ⟨b,0,none⟩) N N/\u ac b=some (.cells (fx (fe d7)) false)/\pu N gs gs.length d7/\U<=b/\b<Y/\az U h ac/\U<=Y
theorem apN(N:Nat):List.replicate N (Value.int .i64 0)=fx (fe (vV N 0)):=by rw[akN];simp[fx]
theorem Se{s:ak}{N:Nat}{h:ad}{U:Nat}(aI:dq h U v bQ gs)(cU:N<=4096)(bg:gs.length<=65536)(jf:∀g∈gs,fy N g):
  aD Q s 90 [.agg ⟨[(N:X),v]⟩] h U (avb N U gs h):=by
 refine ava ?_;obtain⟨a,cap,rfl,aU⟩:=id aI;unfold grown;refine a9 @apN ?_;refine bq.mk (aw6 N U (.slice a gs.length cap) h) N ⟨0,J,J,rfl,by rw[aq J,aN],aN _ _ _,((az.refl _ _).set (cB _)).set (nP _),rfl⟩ ?_;rintro _ _ ac _ ⟨i,rfl,ai,rfl,b7,I,K,rfl⟩;rw[as9];unfold aem;refine cx @b7 @I ?_;refine⟨λA=>?_,λeh=>?_⟩
 ·have yw:IntKind.wrap .i64 ((i:Int)+1)=((i+1:Nat):Int):=cn J;simp(disch:=omega)only[bd,I,KO,am4 A,yw,seval];exact⟨by rw[kG,Db];exact A,N-(i+1),J,i+1,rfl,A,rfl,by rw[aq J];exact b7,aN _ _ _,K.set J,rfl⟩
 ·have:i=N:=J
  subst this;rw[akO]at I;refine bq.mk (aw7 i U (.slice a gs.length cap) gs h) gs.length ⟨0,_,J,J,pu.init,rfl,I,K,cB _⟩ ?_;rintro _ _ ac Y ⟨j,P,rfl,bM,he,rfl,I,K,dr⟩;rw[ata];unfold aen;refine aB ?_;refine⟨λA=>?_,λeh=>?_⟩
  ·obtain⟨x,aR⟩:=dk A;obtain⟨_,b,aO,bC,c1,cs,aG,aY,n4⟩:=aI.at aR;cases aY;obtain⟨d9,dI,gL,kz⟩:=jf x (jp aR);simp(disch:=omega)only[bd,(K b aG).trans n4,sj (enc:=bQ) (k:=3) (λ_=>rfl) aR,bQ,seval];refine(Hr (N:=i) (b:=U+1) J x.f d9 P _ _ he.q1 (by rw[aq J,aq J];exact I)).mono ?_;rintro r al e4 ⟨q,JO,rfl,ba,B,nu,fa,dE,rfl⟩;have g2:=dE Y J;rw[aN]at g2;refine a9 @g2 ?_;refine(Hr (N:=i) (b:=U+1) J x.t dI JO _ _ B fa).mono ?_;rintro r aM B1 ⟨kU,aDh,rfl,V,E,D,oZ,ek,rfl⟩;have dJ:=D _ _ (nu _ _ ba);have gg:=D _ _ V;have aze:=(he.same B nu).same E D;have c4:=dJ.le E;have eK:=V.le B;have Jy:IntKind.wrap .i64 ((j:Int)+1)=((j+1:Nat):Int):=cn J;have hm:max q kU<i:=J
   simp(disch:=omega)only[bd,ah8,azd,oZ,KO,Jy,kG,E.1,seval];refine⟨hm,_,J,j+1,_,rfl,J,aze.step aR dJ gg,rfl,aN _ _ _,λc aU=>?_,J⟩;rw[aq J,ek c J,dE c J,aq J,aq J];exact K c aU
  ·have:j=gs.length:=J
   subst this;exact⟨U+1,P,rfl,I,he,J,J,K,J⟩
end Go.Proofs.YthlhhajnbgjfmaaGreat
