/- Parts of the proof: HwFn8: each statement bears its own conditions. -/
import Derived.Test.YthlhhajnbgjfmaaGreatRhHwFn7
namespace Go.Proofs.YthlhhajnbgjfmaaGreat
open Go Go.Ax Go.Ax.HdH
set_option linter.all false
set_option maxHeartbeats 1000000
set_option maxRecDepth 1000000
variable {v bt:X} {aV:aa GE} {bm a2 gO:X} {N:Nat} {aB eQ e2:X} {R:aP} {aZ a6:X} {args:aa X} {k:Nat} {q:Nat->al} {br:X} {eP sW sX aj:Nat} {aE:aP} {aC a3 p7:X} {K:bR} {bY:aa Int} {ag:aa GE} {aK:aP} {cs:aa GE} {d3 dI e5:X} {m:cw} {pe h3 z2 z3 z4 r4 s6 ph xH v2 dF EK:X} {d2:Nat} {dT:aP} {e:GE}
section
variable {s:al} {h:ae} {U b4 dy dg b n c3 gt gE gW:Nat} {room:Int} {f:et} {p:ky}
structure zg (h:ae) (U b4 dy dg b n c3 gt gE gW:Nat) (room:Int) (f:et):Prop where
 p:u h b4=some (.cells (kr room (.slice (some ⟨b,0,some 1⟩) 1 1) dy dg (n+1) n) false)
 r:u h b=some (.cells [(n:X)] false)
 o:i0 h dg hW [(n,.int .i64 1,c3)] gE
 m:i0 h dy hW [(n,.agg ⟨ec f⟩,gt)] gW
 o7:b4<U
 ao:dg<U/\dg≠b4
 zA:dy<U/\dy≠b4/\dy≠dg
 bB:b<U/\b≠b4/\b≠dg/\b≠dy
 fP:n<100000
theorem zg.T{ac:ae}{Y:Nat}(B:zg h U b4 dy dg b n c3 gt gE gW room f)(A:∀d,d=b4\/d=dg\/d=dy\/d=b->u ac d=u h d)(D:U<=Y):zg ac Y b4 dy dg b n c3 gt gE gW room f :=
 ⟨(A _ (.inl rfl)).trans B.p,(A _ (.inr (.inr (.inr rfl)))).trans B.r,B.o.T ab,B.m.T ab,by have:=B.o7;omega,⟨by have:=B.ao;omega,B.ao.2⟩,⟨by have:=B.zA;omega,B.zA.2⟩,⟨by have:=B.bB;omega,B.bB.2⟩,B.fP⟩
structure Bx0 (h:ae) (b4 dy dg b n gE gW lL:Nat) (room:Int):Prop where
 p:u h b4=some (.cells (kr room (.slice (some ⟨b,0,some 1⟩) 0 1) dy dg (n+1) lL) false)
 r:u h b=some (.cells [.int .i64 0] false)
 o:u h dg=some (.map [] gE)
 m:u h dy=some (.map [] gW)
theorem ato(B:zg h U b4 dy dg b n c3 gt gE gW room f):
  aH Q s 347 [bf b4,.int .i64 0] h U (λr ac Y=>r = .agg ⟨ec f⟩/\Bx0 ac b4 dy dg b n gE gW n room/\(∀d,d<U->d≠b4->d≠dg->d≠dy->d≠b->u ac d=u h d)/\U<=Y):=by
 refine avN ?_;obtain⟨s4,zt,aD2,aCs,dH,D,jo,lb,aCt⟩:=B;have fV:∀{o},u (F h U o) b4=_:=λ{o}=>(ar J).trans s4;have ei:∀{o},u (F h U o) b=_:=λ{o}=>(ar J).trans zt;have en:∀{o},i0 (F h U o) dy hW [(n,.agg ⟨ec f⟩,gt)] gW:=λ{o}=>aCs.T ab;have aW:=λo=>wT (rh nv) (en (o:=o)) (k:=n) (z:=.agg #[(.int .i64 0),(.int .i64 0),(.int .i64 0),(.int .i64 0),(.int .i64 0),(.int .i64 0),(.slice none 0 0),(.slice none 0 0),(.slice none 0 0),(.int .i64 0),(.bool false)]) (ok:=false);rw[show iA [(n,Value.agg ⟨ec f⟩,gt)] n=some (.agg ⟨ec f⟩)from by rw[x0];grind,show hW n = (n:X)from rfl]at aW
 replace aW:=λo=>(aW o).trans (show _=R.ok (Value.agg ⟨ec f⟩)from rfl)
 unfold kr at fV;unfold agn;refine RX @fV @ei @aW ?_;unfold ec;refine mf @fV ?_;refine(avR (n:=n) ab).mono ?_;rintro _ _ _ ⟨rfl,rfl,rfl⟩;generalize kx:F (F (F h U _) (U+1) _) (U+1) _=G;have aD3:∀d,d<U->u G d=u h d:=ab
 have V1:=aT (F (F h U (.cells [(.int .i64 0),(.int .i64 0),(.int .i64 0),(.int .i64 0),(.int .i64 0),(.int .i64 0),(.slice none 0 0),(.slice none 0 0),(.slice none 0 0),(.int .i64 0),(.bool false)] false)) (U+1) (.cells [(.int .i64 0),(.int .i64 0),(.int .i64 0),(.int .i64 0),(.int .i64 0),(.int .i64 0),(.slice none 0 0),(.slice none 0 0),(.slice none 0 0),(.int .i64 0),(.bool false)] false)) (U+1) (.cells (ec f) false);have gN0:u G U=some (.cells [(.int .i64 0),(.int .i64 0),(.int .i64 0),(.int .i64 0),(.int .i64 0),(.int .i64 0),(.slice none 0 0),(.slice none 0 0),(.slice none 0 0),(.int .i64 0),(.bool false)] false):=ab
 replace V1:u G (U+1)=some (.cells (ec f) false):=by rw[<-kx];exact V1
 have cj:∀{o},u (F G b o) b4=_:=λ{o}=>(ar J).trans ((aD3 b4 dH).trans s4);unfold kr at cj;refine mf @cj ?_;generalize fK:F (F G b _) b4 _=H;have V:∀d,d≠b->d≠b4->u H d=u G d:=ab
 have A:u H b4=some (.cells (kr room (.slice (some ⟨b,0,some 1⟩) 0 1) dy dg (n+1) n) false):=by rw[<-fK,aT];rfl
 have V2:i0 H dg hW [(n,.int .i64 1,c3)] gE:=aD2.T ab;have aD4:i0 H dy hW [(n,.agg ⟨ec f⟩,gt)] gW:=aCs.T ab;have aK:=wT (rh nv) V2 (k:=n) (z:=.int .i64 0) (ok:=false);rw[show iA [(n,Value.int .i64 1,c3)] n=some (.int .i64 1)from by rw[x0];grind,show hW n = (n:X)from rfl]at aK
 replace aK:=aK.trans (show _=R.ok (Value.int .i64 1)from rfl)
 have cf:=aw8 (x:=.int .i64 0) (rh nv) V2;rw[show hW n = (n:X)from rfl]at cf;unfold kr at A;simp(disch:=omega)only[bl,↓reduceIte,Nat.reduceAdd,Nat.reduceSub,Nat.reduceMul,Nat.reduceLT,Nat.reduceLeDiff,Nat.reduceEqDiff,Int.reduceBEq,Int.reduceLT,Int.reduceNeg,A,aK,cf,show IntKind.wrap .i64 ((1:Int)-1)=0 from rfl];have hPm:∀{o},u (F H dg o) b4=_:=λ{o}=>(ar (kB D.2)).trans A;have E:i0 (F H dg (.map (lm hW [(n,.int .i64 0,c3)]) gE)) dg hW [(n,.int .i64 0,c3)] gE:=⟨ab,ab,λe bP=>by rw[iU.1 bP];exact V2.lt (n,.int .i64 1,c3) ab,ab⟩
 have dT:=wT (rh nv) E (k:=n) (z:=.int .i64 0) (ok:=false);rw[show iA [(n,Value.int .i64 0,c3)] n=some (.int .i64 0)from by rw[x0];grind,show hW n = (n:X)from rfl]at dT
 replace dT:=dT.trans (show _=R.ok (Value.int .i64 0)from rfl)
 have h5:=λr=>agp (U:=U+1+1) (rest:=r) ayf (rh nv) E;rw[show hW n = (n:X)from rfl]at h5;have mB':∀{o a0},i0 (F (F H dg o) dg a0) dy hW [(n,.agg ⟨ec f⟩,gt)] gW:=λ{o a0}=>aD4.T ab;have h2:=λr o a0=>agp (U:=U+1+1) (rest:=r) ayg (rh nv) (mB' (o:=o) (a0:=a0));rw[show hW n = (n:X)from rfl]at h2;have P:∀{o a0},u (F (F H dg o) dg a0) b4=_:=λ{o a0}=>(ar (kB D.2)).trans ((ar (kB D.2)).trans A);simp(disch:=omega)only[bl,↓reduceIte,Nat.reduceAdd,Nat.reduceSub,Nat.reduceMul,Nat.reduceLT,Nat.reduceLeDiff,Nat.reduceEqDiff,Int.reduceBEq,Int.reduceLT,Int.reduceNeg,hPm,dT,h5,P,h2,dU];have I:=(V (U+1) J J).trans V1;have gN2:=(V U J J).trans gN0;unfold ec at I;refine tA @I @gN2 ?_;refine⟨⟨?_,?_,?_,?_⟩,ab,J⟩
 ·rw[ar J,ar (kB jo.2.1),ar (kB D.2),ar (kB D.2)];exact A
 all_goals grind
theorem apH{g:ae}(B:zg h U b4 dy dg b n c3 gt gE gW room f)(G:k2 g h)(dd:∀d,d=b4\/d=dg\/d=dy\/d=b\/U<=d->u g d=none)(bE:mP g U f p)(aM:f.hI=(n:Int))(cy:p.l4.length<10000)(ev:p.nE.length<10000):
  aH Q s 243 [bf b4,.int .i64 0] h U (λr ac Y=>∃I,r = .tuple ⟨[.agg ⟨ec I⟩,.bool true,.int .i64 0]⟩/\lw ac U Y I p/\Bx0 ac b4 dy dg b n gE gW (n+1) room/\(∀d,d<U->d≠b4->d≠dg->d≠dy->d≠b->u ac d=u h d)/\U<=Y):=by
 refine ati ?_;obtain⟨aED,aEE,aEF,hI,fi,qW,bm,n6,hv,a6,n7,i7,br,n8,g9,fn,aBX⟩:=f;have aM:hI=(n:Int):=aM;subst aM;have dH:=B.o7;have dl:=B.ao;have jo:=B.zA;have lb:=B.bB;have aCt:=B.fP;have V:∀{o},zg (F h U o) (U+1) b4 dy dg b n c3 gt gE gW room _:=λ{o}=>B.T ab J;have fV:=λo=>(V (o:=o)).p;have ei:=λo=>(V (o:=o)).r;unfold kr at fV;unfold aeY;refine aD ?_;refine(avP (k:=0) V.p J).fM ?_;simp(disch:=omega)only[bl,fV,ei,Int.lt_irrefl,decide_false,seval];unfold PI;refine aD ?_;refine(ato V).mono ?_;rintro _ P E ⟨rfl,C,hk,dO⟩;have g8:u P U=_:=(hk U J J J J J).trans (aT _ _ _);have hB:∀{o a0},u (F (F P E o) E a0) b4=_:=λ{o a0}=>(ar J).trans ((ar J).trans C.p);unfold kr at hB;unfold ec;simp(disch:=omega)only[bl,hB,Int.lt_irrefl,decide_false,seval];have jB:IntKind.wrap .i64 ((n:Int)+1)=((n+1:Nat):Int):=cv J;refine bh @jB ?_;generalize kx:F (F (F P E _) E _) b4 _=H;have D:∀d,d≠b4->d≠E->u H d=u P d:=ab
 have Ee:u H b4=some (.cells (kr room (.slice (some ⟨b,0,some 1⟩) 0 1) dy dg (n+1) (n+1)) false):=by rw[<-kx,aT];rfl
 have S:k2 g H:=λd o bj=>by
  have bv:¬(d=b4\/d=dg\/d=dy\/d=b\/U<=d):=ab
  rw[D d J J,hk d J J J J J,ar J];exact G d o bj
 refine(acU  ((bE.sub S).T  aN J) cy ev).mono ?_;rintro _ g1 bX ⟨I,rfl,U5,d5,A,fg⟩;have de:u g1 U=_:=(A U J).trans ((D U J J).trans g8);unfold ec;refine bh @de ?_;refine⟨I,rfl,d5.T ab J J,⟨?_,?_,?_,?_⟩,λd aW aK cf dT h5=>?_,J⟩
 ·rw[ar J,A b4 J];omega
 ·rw[ar J,A b J,D b lb.2.1 J];exact C.r
 ·rw[ar J,A dg J,D dg dl.2 J];exact C.o
 ·rw[ar J,A dy J,D dy jo.2.1 J];exact C.m
 ·rw[ar J,A d J,D d aK J,hk d J aK cf dT h5,ar J]
theorem aj1(B:zg h U b4 dy dg b n c3 gt gE gW room f):aH Q s 147 [bf b4] h U (dJ (.int .i64 0) U h):=by refine ama ?_;have I:=B.o7;have P:=B.bB;have A:=B.p;refine(Gv B.p).fM ?_;refine mf @A ?_;refine⟨λh=>absurd h (by decide),λ_=>?_⟩;refine(avS B.r).fM ?_;have D:∀{o a0},u (F (F h U o) U a0) b4=_:=λ{o a0}=>(ar J).trans ((ar J).trans A);have E:∀{o},u (F h U o) b4=_:=λ{o}=>(ar J).trans A;refine tA @D @E ?_;refine(avT  ((ar J).trans ((ar J).trans B.r)) ab).fM ?_;exact⟨rfl,aN,J⟩
end
def xk(own:Nat->Nat)(ef:Nat)(room:Int)(h:ae)(U b4 n:Nat):Prop:=∃dy dg rw du c3 gt,u h b4=some (.cells (kr room rw dy dg n n) false)/\LI h rw du/\u h dg=some (.map [] c3)/\u h dy=some (.map [] gt)/\b4<U/\(dg<U/\dg≠b4)/\(dy<U/\dy≠b4/\dy≠dg)/\(∀b,du=some b->b<U/\b≠b4/\b≠dg/\b≠dy)/\own b4=ef/\own dg=ef/\own dy=ef/\∀b,du=some b->own b=ef
def ud(own:Nat->Nat)(ef:Nat)(room:Int)(g h:ae)(U b4 n:Nat)(p:ky):Prop:=∃dy dg b c3 gt gE gW f,zg h U b4 dy dg b n c3 gt gE gW room f/\sU g 0 U f p/\f.hI=(n:Int)/\own b4=ef/\own dg=ef/\own dy=ef/\own b=ef
theorem lw.frN{h:ae}{ao:Nat}{f:et}{p:ky}(H:lw h ao aj f p):sU h ao aj f p:=⟨H.is.kind,H.is.fi,H.is.lS,H.is.round,H.is.l6,H.hv.fj,H.i7.fj,H.is.n8,H.is.n,H.is.n4⟩
section
variable {s:al} {g ck h ac:ae} {U Y b4 n ef f7:Nat} {room:Int} {own db:Nat->Nat} {p:ky} {f:et}
theorem xk.send(E:xk own ef room h U b4 n)(xB:ef≠0)(B:1<=room)(bv:n<100000)(bE:mP h U f p)(cy:p.l4.length<10000)(ev:p.nE.length<10000):
  aH Q s 238 [bf b4,.agg ⟨ec f⟩] h U (λr ac Y=>r = .int .i64 0/\∃db ck,ud db ef room ck ac Y b4 n p/\jj db ac Y ck/\Eh ef own db h ac U Y):=by
 obtain⟨dy,dg,rw,du,c3,gt,cI,bQ,d6,fB,gb,zu,zv,aCu,eF,dP,gh,l0⟩:=E;refine(apG cI gb B bQ aCu d6 fB zu zv bv bE cy ev).mono ?_;rintro _ ac Y ⟨rfl,A,nC,m,c1,c2,b8,fL,ul,hv,i7,g9,q0,I⟩;obtain⟨db,ck,V,D,qR,mo⟩:=wz (ef:=ef) (own:=own) (h:=h) (ac:=ac) (U:=U) (Y:=Y) (some A) none J ab;have P:db A=ef:=by
  rcases b8 with e|⟨aW,aK⟩
  ·exact(D.dV A ab).trans ab
  grind
 have lb':A<Y/\A≠b4/\A≠dg/\A≠dy/\(A<U\/m<=A):=ab
 exact⟨rfl,db,ck,⟨dy,dg,A,c3,gt,c3+1,gt+1,nC,⟨c1,c2,fL,ul,J,J,J,J,bv⟩,i7.frN.T (V.new I ab) J I,hv,(D.dV b4 gb).trans eF,(D.dV dg zu.1).trans dP,(D.dV dy zv.1).trans gh,P⟩,V,D⟩
theorem ud.take(B:ud own ef room g h U b4 n p)(A:jj own h U g)(I:ef≠0)(cy:p.l4.length<10000)(ev:p.nE.length<10000):
  aH Q s 243 [bf b4,.int .i64 0] h U (λr ac Y=>∃E,r = .tuple ⟨[.agg ⟨ec E⟩,.bool true,.int .i64 0]⟩/\lw ac U Y E p/\∃db ck,xk db ef room ac Y b4 (n+1)/\jj db ac Y ck/\Eh ef own db h ac U Y):=by
 obtain⟨dy,dg,b,c3,gt,gE,gW,f,B,bE,aM,eF,dP,gh,V⟩:=B;refine(apH B A.sub (λd bj=>?_) bE.is aM cy ev).mono ?_
 ·rcases bj with rfl|rfl|rfl|rfl|bj
  ·exact A.DG eF I
  ·exact A.DG dP I
  ·exact A.DG gh I
  ·exact A.DG V I
  ·rw[A d,if_neg J]
 ·rintro _ ac Y ⟨E,rfl,d5,C,hk,P⟩;obtain⟨db,ck,gH,D,_,_⟩:=wz (ef:=ef) (own:=own) (h:=h) (ac:=ac)   none none P ab;have dH:=B.o7;have dl:=B.ao;have jo:=B.zA;have lb:=B.bB;exact⟨E,rfl,d5,db,ck,⟨dy,dg,_,some b,gE,gW,C.p,.inr ⟨b,_,rfl,rfl,C.r⟩,C.o,C.m,J,J,J,ab,(D.dV b4 dH).trans eF,(D.dV dg dl.1).trans dP,(D.dV dy jo.1).trans gh,λce e=>by cases e;exact(D.dV b lb.1).trans V⟩,gH,D⟩
theorem xk.len(E:xk own ef room h U b4 n):aH Q s 145 [bf b4] h U (fr (.int .i64 0) U h):=by
 obtain⟨dy,dg,rw,D,c3,gt,A,B,_⟩:=E;rcases B with⟨rfl,_⟩|⟨b,w,_,rfl,_⟩
 ·exact Gv A
 ·exact Gv A
theorem ud.len(B:ud own ef room g h U b4 n p):aH Q s 145 [bf b4] h U (fr (.int .i64 1) U h):=by obtain⟨dy,dg,b,c3,gt,gE,gW,f,B,_⟩:=B;exact Gv B.p
theorem ud.avU(B:ud own ef room g h U b4 n p):aH Q s 147 [bf b4] h U (dJ (.int .i64 0) U h):=by obtain⟨dy,dg,b,c3,gt,gE,gW,f,B,_⟩:=B;exact aj1 B
theorem xk.other(E:xk own ef room h U b4 n)(I:U<=Y)(same:∀d,d<U->own d=ef->u ac d=u h d)(V:∀d,d<U->db d=own d):xk db ef room ac Y b4 n:=by
 obtain⟨dy,dg,rw,B,c3,gt,cI,D,d6,fB,gb,zu,zv,aCu,eF,dP,gh,l0⟩:=E;refine⟨dy,dg,rw,B,c3,gt,ab,?_,ab,ab,J,J,J,ab,ab,ab,ab,ab⟩;rcases D with q|⟨b,w,P,A,g7⟩
 ·exact .inl q
 ·exact .inr ⟨b,w,P,A,ab⟩
theorem ud.other(B:ud own ef room g h U b4 n p)(A:U<=Y)(same:∀d,d<U->own d=ef->u ac d=u h d)(P:∀d,d<U->db d=own d)(E:aA U g ck):ud db ef room ck ac Y b4 n p:=by
 obtain⟨dy,dg,b,c3,gt,gE,gW,f,B,I,V,eF,dP,gh,l0⟩:=B;have dH:=B.o7;have dl:=B.ao;have jo:=B.zA;have lb:=B.bB;refine⟨dy,dg,b,c3,gt,gE,gW,f,B.T (λd bj=>?_) A,I.T (λd _ D=>E d D) J A,V,ab,ab,ab,ab⟩
 grind
end
section
variable {s:al} {g h:ae} {U aL i j ao av t:Nat} {c:Nat->X} {l:aa et} {aQ so:aw Nat} {Z:cb} {own:Nat->Nat} {x:f8} {bz b2 cC:Nat} {C:Nat}
theorem amc(W:eX h U aL c i j C [] aQ):aH Q s 61 [bf aL] h U (λr ac Y=>(∃v,r = .tuple ⟨[.agg ⟨ec v⟩,.bool false]⟩)/\aA U h ac/\U<=Y):=by
 refine acG ?_;have A:∀{o},aA U h (F h U o):=aN
 have D:∀{o},eX (F h U o) (U+1) aL c i j C [] aQ:=λ{o}=>W.T (λd B=>A d (B.elim (λe=>e ▸ W.lt) λe=>(W.aQ d e).2)) J;unfold RG;refine aD ?_;refine(PE D).fM ?_;have au:(((([]:aa et).length:Nat):Int) == 0)=true:=rfl;refine bh @au ?_;exact⟨⟨⟨0,0,0,0,0,0,none,0,0,none,0,0,none,0,0,0,false⟩,rfl⟩,aN,J⟩
def BD(Z:cb)(av:Nat):Prop:=∀t,t<=av->VY Z t/\∀v y,v<Z.N->Z.eo.x t v=some y->0<=y/\y<=eI
theorem jx.cR{f:et}(K:fZ Z)(R:jx Z av x i j own g h U aL c l aQ so bz b2 cC)(A:jj own h U g)(E:mU Z.R Z.C av x m)(I:m.dst Z.C=i*Z.C+j)(bZ:j<Z.C)(V:av<900)(D:∀t,t<=av->(Z.fS t=0↔t<av))(B:BD Z av)(bE:lw h ao U f (pM Z m))(P:(x.out (i*Z.C+j)).length<800):
  aH Q s 63 [bf aL,.agg ⟨ec f⟩] h U (En Z av x m i j own h U aL bz b2 cC):=by
 have vF:=E;cases m with
 |share dQ ov t =>
  have I:ov=i*Z.C+j:=I;obtain⟨rfl,rfl⟩:=tr  (i:=0)  (aJ:=i)  J E.2.1 bZ;exact R.share K A E V bE P
 |spread aJ ov t =>
  obtain⟨rfl,rfl⟩:=tr      I E.2.1 bZ;exact R.spread K A E V (B t E.2.2.2).2 bE P
 |dz aJ ov t =>
  have I:aJ*Z.C=i*Z.C+j:=I;obtain⟨rfl,rfl⟩:=tr      J K.hB bZ;obtain⟨_,_,_,aW,_,aK,_⟩:=E;exact R.dz K A vF V D (B t aK).1 bE P
 |dA aJ t =>
  have I:0=i*Z.C+j:=I;obtain⟨rfl,rfl⟩:=tr  (i:=0)  (aJ:=i)  J K.hB bZ;exact R.dA K A E V D bE P
 |order aJ t =>
  have I:aJ*Z.C=i*Z.C+j:=I;obtain⟨rfl,rfl⟩:=tr      J K.hB bZ;exact R.order K A E V D bE P
end
def sq(p:Nat):aa X:=[bf p]
structure zh where
 aB:aw Addr
 a5:Nat
 c1:Nat
 a2:aw Addr
 bX:Nat
 c2:Nat
 a3:aw Addr
 bW:Nat
 b8:Nat
def Hp(N:Nat)(v:zh):aa X:=[.int .i64 0,(N:X),.slice v.aB v.a5 v.c1,.slice v.a2 v.bX v.c2,.slice v.a3 v.bW v.b8]
def fO(a:Nat->X)(N R C:Nat)(room:Int)(ws:X)(pm:Nat)(os aq:X):aa X:=[a 0,(N:X),a 2,a 3,a 4,a 5,a 6,(R:X),(C:X),(room:X),a 10,a 11,ws,.map (some pm),os,aq]
def cb.G(Z:cb):Nat:=Z.R*Z.C+1
abbrev iT:=Fin 64 × Fin 64
def pD(k:iT):X:=.agg ⟨[(k.1.val:X),(k.2.val:X)]⟩
def nw(Z:cb)(k:iT):Nat:=Z.R*Z.C+2+(k.1.val*64+k.2.val)
variable {M:aa (iT × X × Nat)}
theorem atp{Z:cb}{k A:iT}(h:nw Z k=nw Z A):k=A:=by
 obtain⟨⟨a,E⟩,⟨b,V⟩⟩:=k;obtain⟨⟨I,D⟩,⟨P,B⟩⟩:=A;unfold nw at h
 grind
section
variable {s:al} {g ck h ac:ae} {U Y:Nat} {Z:cb} {own db:Nat->Nat} {x fU:f8} {room:Int} {av L da dc cm pm:Nat} {aL:Nat->Nat} {cK o6:Nat->Nat->aa cw}
structure xl (Z:cb) (room:Int) (L:Nat) (aL:Nat->Nat) (cm pm:Nat) (own:Nat->Nat) (g h:ae) (U:Nat) (a:Nat->X) (ws os aq:X) (l:aa zh) (fQ eO ga:aw Nat):Prop where
 at_:u h cm=some (.cells (fO a Z.N Z.R Z.C room ws pm os aq) false)
 ws:gY h sq ws ((List.range (Z.R*Z.C)).map aL) fQ
 os:gY h sq os ((List.range Z.R).map λi=>aL (i*Z.C)) eO
 aq:fa h (Hp Z.N) 5 aq l ga
 b:∀b,ga=some b->b<U/\own b=Z.G/\b≠cm/\b≠pm
 lY:∀b,fQ=some b->b<U/\own b=Z.G/\b≠cm/\b≠pm/\ga≠some b
 du:∀b,eO=some b->b<U/\own b=Z.G/\b≠cm/\b≠pm/\ga≠some b
 L:l.length=L
 st:∀(t:Nat) (v:zh),l[t]? = some v->jf g U (.agg ⟨Hp Z.N v⟩) 0 Z.N (Z.eo.st t)
 p:cm<U/\own cm=Z.G
 m:pm<U/\own pm=Z.G/\pm≠cm
theorem xl.other{a:Nat->X}{ws os aq:X}{l:aa zh}{fQ eO ga:aw Nat}(H:xl Z room L aL cm pm own g h U a ws os aq l fQ eO ga)(E:U<=Y)(same:∀d,d<U->own d=Z.G->d≠pm->u ac d=u h d)(D:∀d,d<U->db d=own d)(I:aA U g ck):xl Z room L aL cm pm db ck ac Y a ws os aq l fQ eO ga where
 at_:=(same cm H.p.1 H.p.2 (kB H.m.2.2)).trans H.at_
 ws:=H.ws.T λb e=>by obtain⟨B,aK,_,A,_⟩:=H.lY b e;grind
 os:=H.os.T λb e=>by obtain⟨B,aK,_,A,_⟩:=H.du b e;grind
 aq:=H.aq.T λb e=>by obtain⟨B,aK,_,A⟩:=H.b b e;grind
 b:=λb e=>by obtain⟨B,aK,A⟩:=H.b b e;grind
 lY:=λb e=>by obtain⟨B,aK,A⟩:=H.lY b e;grind
 du:=λb e=>by obtain⟨B,aK,A⟩:=H.du b e;grind
 L:=H.L
 st:=λt v e=>jf.T (H.st t v e) I E
 p:=⟨by have:=H.p.1;omega,(D cm H.p.1).trans H.p.2⟩
 m:=⟨by have:=H.m.1;omega,(D pm H.m.1).trans H.m.2.1,H.m.2.2⟩
theorem xl.wr{a:Nat->X}{ws os aq:X}{l:aa zh}{fQ eO ga:aw Nat}(H:xl Z room L aL cm pm own g h U a ws os aq l fQ eO ga):cr h U ws sq ((List.range (Z.R*Z.C)).map aL):=(H.ws.fj (ao:=0)  λc e=>⟨J,(H.lY c e).1⟩).rd
theorem xl.or{a:Nat->X}{ws os aq:X}{l:aa zh}{fQ eO ga:aw Nat}(H:xl Z room L aL cm pm own g h U a ws os aq l fQ eO ga):cr h U os sq ((List.range Z.R).map λi=>aL (i*Z.C)):=(H.os.fj (ao:=0)  λc e=>⟨J,(H.du c e).1⟩).rd
def xm(Z:cb)(room:Int)(cK:Nat->Nat->aa cw)(da dc:Nat)(own:Nat->Nat)(g h:ae)(U:Nat)(k:iT)(b4:Nat):Prop :=
 (cK k.1.val k.2.val=[]/\∃n,n<=da/\xk own (nw Z k) room h U b4 n)\/∃m n,cK k.1.val k.2.val=[m]/\n<=dc/\ud own (nw Z k) room g h U b4 n (pM Z m)
theorem xm.other{k:iT}{b4 sW sX:Nat}(B:xm Z room cK da dc own g h U k b4)(A:U<=Y)(same:∀d,d<U->own d=nw Z k->u ac d=u h d)(D:∀d,d<U->db d=own d)(V:aA U g ck)(e:o6 k.1.val k.2.val=cK k.1.val k.2.val)(h1:da<=sW)(ap:dc<=sX):xm Z room o6 sW sX db ck ac Y k b4:=by
 rcases B with⟨P,n,I,E⟩|⟨m,n,P,I,E⟩
 ·exact .inl ⟨ab,n,J,E.other A same D⟩
 ·exact .inr ⟨m,n,ab,J,E.other A same D V⟩
structure BE (Z:cb) (room:Int) (pm:Nat) (cK:Nat->Nat->aa cw) (da dc:Nat) (own:Nat->Nat) (g h:ae) (U:Nat) (M:aa (iT × X × Nat)) (c:Nat):Prop where
 m:i0 h pm pD M c
 get:∀k v,iA M k=some v->k.1.val<Z.R*Z.C/\k.2.val<Z.R*Z.C/\∃b4,v = (bf b4)/\xm Z room cK da dc own g h U k b4
 has:∀a b,cK a b≠[]->∃k:iT,k.1.val=a/\k.2.val=b/\iA M k≠none
theorem BE.other{M:aa (iT × X × Nat)}{c sW sX:Nat}(B:BE Z room pm cK da dc own g h U M c)(E:pm<U/\own pm=Z.G)(A:U<=Y)(same:∀d,d<U->Z.G<=own d->u ac d=u h d)(D:∀d,d<U->db d=own d)(fc:aA U g ck)(h1:da<=sW)(P:dc<=sX):BE Z room pm cK sW sX db ck ac Y M c where
 m:=B.m.T ab
 get:=λk v e=>by obtain⟨V,aK,b4,I,dT⟩:=B.get k v e;refine⟨V,aK,b4,I,dT.other A (λd e8 fX=>same d e8 ?_) D fc rfl h1 P⟩;unfold nw at fX;unfold cb.G;omega
 has:=B.has
structure ir (Z:cb) (room:Int) (av:Nat) (aL:Nat->Nat) (cm pm a4:Nat) (au:ae) (x:f8) (cK:Nat->Nat->aa cw) (da dc L:Nat) (own:Nat->Nat) (g h:ae) (U:Nat):Prop where
 oA:jj own h U g
 dx:∀i j,i<Z.R->j<Z.C->∃c l aQ so bz b2 cC,jx Z av x i j own g h U (aL (i*Z.C+j)) c l aQ so bz b2 cC
 hl:∃a ws os aq l fQ eO ga,xl Z room L aL cm pm own g h U a ws os aq l fQ eO ga
 p8:∃M c,BE Z room pm cK da dc own g h U M c
 iw:a4<=U
 hu:∀d,d<a4->own d=0/\u h d=u au d
theorem ir.still{a4:Nat}{au:ae}(H:ir Z room av aL cm pm a4 au x cK da dc L own g h U)(E:aA U h ac)(A:U<=Y):∃db ck,ir Z room av aL cm pm a4 au x cK da dc L db ck ac Y/\(∀d,d<U->db d=own d)/\aA U g ck/\∀d,U<=d->db d=0:=by
 obtain⟨db,ck,gH,D,_,cL⟩:=wz (ef:=Z.G)      none none A λd h1 _=>E d h1;have P:=H.oA.T gH D (Nat.succ_ne_zero _);obtain⟨a,ws,os,aq,l,fQ,eO,ga,G⟩:=H.hl;obtain⟨M,c,B⟩:=H.p8;refine⟨db,ck,⟨gH,λi j aj V=>?_,⟨a,ws,os,aq,l,fQ,eO,ga,G.other A (λd I _ _=>E d I) D.dV P⟩,⟨M,c,B.other ⟨G.m.1,G.m.2.1⟩ A (λd I _=>E d I) D.dV P J J⟩,h7 H.iw A,λd bj=>?_⟩,D.dV,P,ab⟩
 ·obtain⟨c,l,aQ,so,bz,b2,cC,R⟩:=H.dx i j aj V;have:=pv aj V;exact⟨c,l,aQ,so,bz,b2,cC,R.other A (λd I _=>E d I) D.dV (show i*Z.C+j+1≠Z.G by unfold cb.G;omega) P rfl rfl ab ab ab⟩
 ·have:=H.iw;exact⟨(D.dV d J).trans (H.hu d bj).1,(E d J).trans (H.hu d bj).2⟩
theorem ir.work{a4 i j:Nat}{au:ae}(H:ir Z room av aL cm pm a4 au x cK da dc L own g h U)(aj:i<Z.R)(bZ:j<Z.C)(gH:jj db ac Y ck)(E:U<=Y)(same:∀d,d<U->own d≠i*Z.C+j+1->u ac d=u h d)(I:∀d,d<U->db d=own d)(fc:aA U g ck)
  (b0:∃c l aQ so bz b2 cC,jx Z av fU i j db ck ac Y (aL (i*Z.C+j)) c l aQ so bz b2 cC)
  (fw:∀A D,A*Z.C+D≠i*Z.C+j->fU.q A D=x.q A D/\fU.out (A*Z.C+D)=x.out (A*Z.C+D)/\(A=0->fU.P D=x.P D/\fU.e4 D=x.e4 D)/\(D=0->fU.a A=x.a A/\fU.w A=x.w A/\fU.dX A=x.dX A)/\(A=0->D=0->fU.V=x.V/\fU.fN=x.fN)):
  ir Z room av aL cm pm a4 au fU cK da dc L db ck ac Y:=by
 obtain⟨a,ws,os,aq,l,fQ,eO,ga,G⟩:=H.hl;obtain⟨M,c,B⟩:=H.p8;have ct:=pv aj bZ;have kx:Z.G=Z.R*Z.C+1:=rfl;refine⟨gH,λA D V P=>?_,⟨a,ws,os,aq,l,fQ,eO,ga,G.other E (λd e8 fX _=>same d e8 J) I fc⟩,⟨M,c,B.other ⟨G.m.1,G.m.2.1⟩ E (λd e8 fX=>same d e8 J) I fc J J⟩,h7 H.iw E,λd bj=>?_⟩
 ·by_cases e:A*Z.C+D=i*Z.C+j
  ·obtain⟨rfl,rfl⟩:=tr e P bZ;exact b0
  ·obtain⟨c,l,aQ,so,bz,b2,cC,R⟩:=H.dx A D V P;obtain⟨aW,aK,cf,dT,h5⟩:=fw A D e;exact⟨c,l,aQ,so,bz,b2,cC,R.other E same I J fc aW aK cf dT h5⟩
 ·have:=H.iw;have h1:=H.hu d bj;exact⟨(I d J).trans h1.1,(same d J J).trans h1.2⟩
theorem ir.ahw{a4 b4 c:Nat}{au:ae}{k:iT}(H:ir Z room av aL cm pm a4 au x cK da dc L own g h U)(B:BE Z room pm cK da dc own g h U M c)(aG:iA M k=some (bf b4))(gH:jj db ac Y ck)(D:Eh (nw Z k) own db h ac U Y)(dn:xm Z room o6 sW sX db ck ac Y k b4)(bP:∀a b,¬(a=k.1.val/\b=k.2.val)->o6 a b=cK a b)(h1:da<=sW)(ap:dc<=sX):ir Z room av aL cm pm a4 au x o6 sW sX L db ck ac Y:=by
 obtain⟨a,ws,os,aq,l,fQ,eO,ga,G⟩:=H.hl;have kx:Z.G=Z.R*Z.C+1:=rfl;have xB:Z.G<nw Z k:=by unfold nw;omega
 have I:=H.oA.T gH D J;obtain⟨de,ew,_⟩:=B.get k _ aG;refine⟨gH,λi j aj bZ=>?_,⟨a,ws,os,aq,l,fQ,eO,ga,G.other D.le (λd A P _=>D.same d A J) D.dV I⟩,⟨M,c,B.m.T (D.same pm G.m.1 (by rw[G.m.2.1];omega)),λdi v e=>?_,λa b e=>?_⟩,h7 H.iw D.le,λd bj=>?_⟩
 ·obtain⟨c,l,aQ,so,bz,b2,cC,R⟩:=H.dx i j aj bZ;have:=pv aj bZ;exact⟨c,l,aQ,so,bz,b2,cC,R.other D.le D.same D.dV J I rfl rfl ab ab ab⟩
 ·by_cases cu:di=k
  ·subst cu;rw[aG]at e;cases e;exact⟨de,ew,b4,rfl,dn⟩
  ·obtain⟨eE,hS,E,i6,nJ⟩:=B.get di v e;exact⟨eE,hS,E,i6,nJ.other D.le (λd A P=>D.same d A (by rw[P];exact λe=>cu (atp e))) D.dV I ab h1 ap⟩
 ·by_cases cu:a=k.1.val/\b=k.2.val
  ·grind
  ·rw[bP a b cu]at e;exact B.has a b e
 ·have:=H.iw;have V:=H.hu d bj;exact⟨(D.dV d J).trans V.1,(D.same d J J).trans V.2⟩
theorem ir.mono{a4:Nat}{au:ae}(H:ir Z room av aL cm pm a4 au x cK da dc L own g h U)(D:da<=sW)(A:dc<=sX):ir Z room av aL cm pm a4 au x cK sW sX L own g h U:=by obtain⟨a,ws,os,aq,l,fQ,eO,ga,G⟩:=H.hl;obtain⟨M,c,B⟩:=H.p8;exact{ H with p8:=⟨M,c,B.other ⟨G.m.1,G.m.2.1⟩ J ab J aN D A⟩ }
end
theorem ahx:Q.underlying 198=some (.array 2 3):=by kernel_rfl
theorem aAj:Q.keyTypeAt 8 198=true:=by kernel_rfl
theorem ahy:Q.cellsOf 198=2:=by kernel_rfl
theorem KC:wS Q 198 pD:=by
 have fin:∀a:Fin 64,(Lit.int .i64 (a.val:Int)).wf=true:=λa=>by simp[Lit.wf,IntKind.min,IntKind.max,IntKind.bits,IntKind.signed];omega
 have A:∀a b:Fin 64,Q.keyLits 8 198 [.int .i64 (a.val:Int),.int .i64 (b.val:Int)]=some [.int .i64 (a.val:Int),.int .i64 (b.val:Int)]:=λa b=>by
  have B:∀m:Fin 64,Q.keyLits 7 3 [.int .i64 (m.val:Int)]=some [.int .i64 (m.val:Int)]:=λm=>by unfold Program.keyLits;simp only[zq,fin m,uG,if_true]
  unfold Program.keyLits;simp only[ahx,ahy,b8,mb,E5,Nat.reduceAdd,if_true];rw[show List.range 2=[0,1]from rfl];simp only[Cf,List.mapM_nil,mc,uD,pk,NH,E0,tf,B a,B b];rfl
 have e:∀a b:iT,kV Q 198 (pD a) (pD b)=some (decide (a=b)):=λa b=>by
  show sB Q 198 (pD a) (pD b)=_;have D:∀a:iT,(pD a).formed Q 198=true:=λa=>by simp[pD,Value.formed,ahx,ahy]
  unfold sB;rw[aAj,D,D];show(bif true&&(true&&true&&true&&true)then LO (Q.keyLits 8 198 [.int .i64 (a.1.val:Int),.int .i64 (a.2.val:Int)]) (Q.keyLits 8 198 [.int .i64 (b.1.val:Int),.int .i64 (b.2.val:Int)])else none)=_;rw[A,A];show some ((mm .i64 .i64&&f2 (a.1.val:Int) (b.1.val:Int))&&((mm .i64 .i64&&f2 (a.2.val:Int) (b.2.val:Int))&&true))=_;rw[wg,kT,kT]
  congr 1
  grind
 refine⟨λk=>?_,e,λk=>?_⟩
 ·unfold ym;grind
 ·unfold pD;simp
theorem AE:wn Q 110=true:=by kernel_rfl
theorem amd{t:TypeId}(A:wn Q t=true):bin Q .eql t (.pointer none) (.pointer none) = .ok (.bool true):=by show R.of "compared" (oP Q t (.pointer none) (.pointer none)) _=_;unfold oP;simp[A,G9,nX]
theorem avV{r:Nat}:oK (.map (some r)) (.map (some r))=true:=uC r
section
variable {s:al} {g h:ae} {U:Nat} {Z:cb} {own:Nat->Nat} {x:f8} {room:Int} {av L da dc cm pm:Nat} {aL:Nat->Nat} {cK:Nat->Nat->aa cw} {a:Nat->X} {ws os aq:X} {l:aa zh} {fQ eO ga:aw Nat} {a4:Nat} {au:ae}
theorem wA{f:Nat->Nat}{n:Nat}:((List.range n).map f).length=n:=ab
theorem KD(G:xl Z room L aL cm pm own g h U a ws os aq l fQ eO ga)(B:k<Z.R*Z.C):aH Q s 236 [bf cm,(k:X)] h U (fr (.bool true) U h):=by
 refine avI ?_;have A:=G.at_;obtain⟨E,D,rfl,_⟩:=G.wr;rw[wA]at A;unfold agj;unfold fO at A;simp(disch:=omega)only[bl,Oa AE,A,seval];refine⟨λ_=>⟨?_,rfl,rfl⟩,λe=>absurd e J⟩
 grind
def aAk(Z:cb)(room:Int)(av:Nat)(aL:Nat->Nat)(cm pm a4:Nat)(au:ae)(x:f8)(cK:Nat->Nat->aa cw)(da dc L:Nat)(k:iT)(g h:ae)(U:Nat):bR:=λr ac Y =>
 ∃b4 db ck,r = (bf b4)/\ir Z room av aL cm pm a4 au x cK da dc L db ck ac Y/\(∃M c,BE Z room pm cK da dc db ck ac Y M c/\iA M k=some r)/\(∀d,d<U->d≠pm->u ac d=u h d)/\U<=Y/\aA U g ck
theorem acV(H:ir Z room av aL cm pm a4 au x cK da dc L own g h U)(mo:a4<=pm)(k:iT)(cW:k.1.val<Z.R*Z.C)(aO:k.2.val<Z.R*Z.C)(sG:1<=room)(oc:room<=64):
  aH Q s 237 [bf cm,(k.1.val:X),(k.2.val:X)] h U (aAk Z room av aL cm pm a4 au x cK da dc L k g h U):=by
 refine avJ ?_;obtain⟨a,ws,os,aq,l,fQ,eO,ga,G⟩:=H.hl;obtain⟨M,c,B⟩:=H.p8;have a9:=G.at_;have bg:=G.p;have bp:=G.m;refine(KD G cW).fM ?_;refine aD ?_;refine(KD G aO).fM ?_;refine aD ?_;unfold QP;unfold fO at a9;have BF:∀{o P},u (F (F h U o) U P) cm=_:=λ{o P}=>(ar J).trans ((ar J).trans a9);have I:=λo P=>wT KC (B.m.T (ac:=F (F h U o) U P) ab) (k:=k) (z:=.pointer none) (ok:=false);rw[show pD k = .agg ⟨[(k.1.val:X),(k.2.val:X)]⟩from rfl]at I
 replace I:=λo P=>(I o P).trans (show _=R.ok ((iA M k).getD (.pointer none))from rfl)
 refine cQ @BF @I ?_;cases aG:iA M k with
 |some v =>
  obtain⟨_,_,b4,rfl,_⟩:=B.get k v aG;rw[aG]at I
  replace I:=λo P=>(I o P).trans (show _=R.ok (Value.pointer (some ⟨b4,0,none⟩))from rfl)
  rw[show(some (Value.pointer (some ⟨b4,0,none⟩))).getD (.pointer none) = (bf b4)from rfl];simp(disch:=omega)only[bl,po Dg,BF,I,seval];generalize fK:F (F h U _) U _=h1;have cP:aA U h h1:=by rw[<-fK];exact aN
  obtain⟨db,ck,gU,D,fc,_⟩:=H.still cP (q7 U);exact⟨b4,db,ck,rfl,gU,⟨M,c,B.other J J ab D fc J J,aG⟩,ab,J,fc⟩
 |none =>
  rw[show(none:aw X).getD (.pointer none) = .pointer none from rfl];simp(disch:=omega)only[bl,amd Dg,BF,seval];generalize fK:F (F h U _) U _=h1;have cP:aA U h h1:=by rw[<-fK];exact aN
  have d7:u h1 U=some (.cells [(k.1.val:X),(k.2.val:X)] false):=ab
  have qI:u h1 cm=_:=(cP cm bg.1).trans a9;refine(atl sG oc).mono ?_;rintro _ ap bX ⟨rfl,cI,bQ,d6,eA,rfl⟩;have iq:u ap cm=_:=(eA cm J).trans qI;have hN2:=(eA U J).trans d7;have nr:i0 ap pm pD M c:=B.m.T ((eA pm J).trans (cP pm bp.1));obtain⟨fA,fW⟩:=Hh (x:=.pointer (some ⟨U+1+2,0,none⟩)) KC nr aG;rw[show pD k = .agg ⟨[(k.1.val:X),(k.2.val:X)]⟩from rfl]at fA;simp(disch:=omega)only[bl,qI,iq,d7,hN2,gk,avV,fA,seval];generalize It:F ap pm _=aM at fW;have gh:∀d,d≠pm->u aM d=u ap d:=ab
  have aCv:=fW aM ab;have sH:u aM cm=_:=(gh cm (kB bp.2.2)).trans iq;have hN3:=(gh U J).trans hN2;have hv3:iA (M++[(k,Value.pointer (some ⟨U+1+2,0,none⟩),c)]) k=some (.pointer (some ⟨U+1+2,0,none⟩)):=by rw[Pd,aG,x0,if_pos rfl];rfl
  have cf:=wT KC aCv (k:=k) (z:=.pointer none) (ok:=false);rw[hv3,show pD k = .agg ⟨[(k.1.val:X),(k.2.val:X)]⟩from rfl]at cf
  replace cf:=cf.trans (show _=R.ok (Value.pointer (some ⟨U+1+2,0,none⟩))from rfl)
  refine hx @sH @hN3 @cf ?_;have L6:cK k.1.val k.2.val=[]:=uz λeS=>by
   obtain⟨di,de,ew,g7⟩:=B.has _ _ eS
   grind
  have A:∀d,d<U->d≠pm->u aM d=u h d:=λd V E=>(gh d E).trans ((eA d J).trans (cP d V))
  let db:Nat->Nat:=λd=>if d<U then own d else if U+1<=d/\d<U+4 then nw Z k else 0
  obtain⟨ck,gH⟩:=C2 db aM (U+1+3);have D:∀d,d<U->db d=own d:=ab
  have new:∀d,U+1<=d->d<U+4->db d=nw Z k:=ab
  have fc:aA U g ck:=λd bj=>by
   rw[H.oA d,gH d,D d bj]
   by_cases e:own d=0
   ·rw[if_pos ⟨J,e⟩,if_pos ⟨bj,e⟩];exact A d bj λaK=>by rw[aK,bp.2.1]at e;cases e
   grind
  have kx:Z.G=Z.R*Z.C+1:=rfl;have aCw:BE Z room pm cK da dc db ck aM (U+1+3) (M++[(k,Value.pointer (some ⟨U+1+2,0,none⟩),c)]) (c+1):=by
   refine⟨aCv,λdi v e=>?_,λa b e=>?_⟩
   ·rw[Pd]at e;cases MH:iA M di with
    |some dF =>
     rw[MH]at e;cases e;obtain⟨de,ew,b4,g7,mC⟩:=B.get di v MH;refine⟨de,ew,b4,g7,mC.other J (λd V E=>A d V λe=>?_) D fc rfl J J⟩;rw[e,bp.2.1]at E;unfold nw at E;omega
    |none =>
     rw[MH,x0]at e
     by_cases tV:di=k
     ·subst tV;rw[if_pos rfl]at e;cases e;refine⟨cW,aO,_,rfl,.inl ⟨L6,0,J,U+1,U+1+1,_,none,0,0,ab,.inl ⟨rfl,rfl⟩,(gh _ J).trans d6,(gh _ J).trans bQ,J,⟨J,J⟩,⟨J,J,J⟩,(nofun),new _ J J,new _ J J,new _ J J,nofun⟩⟩
     ·rw[if_neg tV]at e;cases e
   ·obtain⟨di,de,ew,g7⟩:=B.has a b e;refine⟨di,de,ew,λaK=>g7 ?_⟩;rw[Pd]at aK
    grind
  refine⟨J,U+1+2,db,ck,rfl,⟨gH,λi j aj bZ=>?_,⟨a,ws,os,aq,l,fQ,eO,ga,G.other J (λd V _ E=>A d V E) D fc⟩,⟨_,_,aCw⟩,J,λd bj=>?_⟩,⟨_,_,aCw,hv3⟩,A,J,fc⟩
  ·obtain⟨c,l,aQ,so,bz,b2,cC,R⟩:=H.dx i j aj bZ;have:=pv aj bZ;exact⟨c,l,aQ,so,bz,b2,cC,R.other (ef:=Z.G) J (λd V E=>A d V λe=>E ab) D J fc rfl rfl (λ_=>⟨rfl,rfl⟩) (λ_=>⟨rfl,rfl,rfl⟩) λ_ _=>⟨rfl,rfl⟩⟩
  ·exact⟨(D d J).trans (H.hu d bj).1,(A d J J).trans (H.hu d bj).2⟩
end
section
variable {s:al} {g h:ae} {U:Nat} {Z:cb} {own:Nat->Nat} {x:f8} {room:Int} {av L da dc cm pm:Nat} {aL:Nat->Nat} {cK:Nat->Nat->aa cw} {a4:Nat} {au:ae}
theorem AX{f:Nat->Nat}{n i:Nat}(H:cr g U v sq ((List.range n).map f))(S:k2 g h)(aj:i<n):∃b A cap cs B,v = .slice (some ⟨b,0,A⟩) n cap/\u h b=some (.cells cs B)/\cs[i]? = some (.pointer (some ⟨f i,0,none⟩))/\b<U:=by
 have e:((List.range n).map f)[i]? = some (f i):=ab
 obtain⟨_,b,A,B,cap,I,D,E⟩:=H.at e;rw[wA]at D;have:=JF (enc:=sq)  (λ_=>rfl) e (J:0<1);rw[Fg,nS]at this;exact⟨b,A,cap,_,B,D,S _ _ E,this,I⟩
theorem atq(Z:cb)(m:cw):(pM Z m).lS=(m.dst Z.C:Int):=by
 cases m <;> rfl
theorem aaG(K:fZ Z)(m:cw):(pM Z m).l4.length<10000/\(pM Z m).nE.length<10000:=by
 have e:∀n (x:Nat->aw Int),n<=60->(bq n x).length<10000:=λn x B=>by have:=me n x;omega
 have z:([]:aa (Nat × Int)).length<10000:=by decide
 have A:=K.n60;cases m with
 |share i j t=>have:=Df K (i+1) j;exact⟨e _ _ J,z⟩
 |spread i j t=>have:=De K j;exact⟨e _ _ (by unfold cb.W;omega),z⟩
 |dz i j t=>have:=yv K i;exact⟨z,e _ _ (by unfold cb.H;omega)⟩
 |dA i t=>exact⟨z,z⟩
 |order i t=>exact⟨z,z⟩
theorem LJ(K:fZ Z):Z.R*Z.C<=64:=sb K.nM K.mF
theorem KS{R C:Nat}(h:k<R*C):∃i j,i<R/\j<C/\k=i*C+j:=by
 have A:0<C:=ab
 refine⟨k / C,k % C,by rw[NF A];exact h,zN _ A,?_⟩;have:=Nat.div_add_mod k C
 grind
def Er(Z:cb)(room:Int)(av:Nat)(aL:Nat->Nat)(cm pm a4:Nat)(au:ae)(x:f8)(cK:Nat->Nat->aa cw)(g:ae)(U:Nat)(da dc L:Nat)(ac:ae)(Y:Nat):Prop:=∃db ck,ir Z room av aL cm pm a4 au x cK da dc L db ck ac Y/\aA U g ck/\U<=Y
theorem ame(K:fZ Z)(H:ir Z room av aL cm pm a4 au x cK da dc L own g h U)(B:k<Z.R*Z.C)(bp:x.out k=[]):
  aH Q s 143 [bf cm,(k:X)] h U (λr ac Y=>r = .bool false/\Er Z room av aL cm pm a4 au x cK g U da dc L ac Y):=by
 refine acS ?_;obtain⟨i,j,aj,bZ,rfl⟩:=KS B;obtain⟨a,ws,os,aq,qi,fQ,eO,ga,G⟩:=H.hl;obtain⟨c,l,aQ,so,bz,b2,cC,R⟩:=H.dx i j aj bZ;have P:l=[]:=by
  have:=R.f;rw[bp]at this;cases l with
  |nil=>rfl
  |cons=>exact this.elim
 subst P;refine(KD G B).fM ?_;obtain⟨b,aS,cap,cs,ro,rfl,de,I,g7⟩:=AX G.wr (λ_ _ e=>e) B;have D:=G.at_;unfold fO at D;refine hx @D @de @I ?_;refine(amc R.W).mono ?_;rintro _ h1 a5 ⟨⟨v,rfl⟩,V,A⟩;unfold ec;refine aD ?_;obtain⟨db,ck,E,_,fc,_⟩:=H.still ((V.set A).set A) (J:U<=a5+1);exact⟨db,ck,E,fc,J⟩
theorem apI(K:fZ Z)(H:ir Z room av aL cm pm a4 au x cK da dc L own g h U)(mo:a4<=pm)(sG:1<=room)(oc:room<=64)(hk:k<Z.R*Z.C){r:aa cw}(bp:x.out k=m::r)(bj:m.dst Z.C<Z.R*Z.C)(BC:cK k (m.dst Z.C)=[])(b0:da<=dc)(hw2:dc<100000):
  aH Q s 143 [bf cm,(k:X)] h U (λmD ac Y=>mD = .bool true/\Er Z room av aL cm pm a4 au { x with out:=up x.out k r } (t6 cK k (m.dst Z.C) [m]) g U da dc L ac Y):=by
 refine acS ?_;obtain⟨cy,ev⟩:=aaG K m;obtain⟨i,j,aj,bZ,rfl⟩:=KS hk;obtain⟨a,ws,os,aq,qi,fQ,eO,ga,G⟩:=H.hl;obtain⟨c,l,aQ,so,bz,b2,cC,R⟩:=H.dx i j aj bZ;have hK:=R.f;rw[bp]at hK;obtain⟨f,bY,rfl⟩:∃f bY,l=f::bY:=by
  cases l with
  |nil=>exact hK.elim
  |cons f bY=>grind
 have hF1:sU g 0 U f (pM Z m):=hK.1;have sC:=G.m;refine(KD G hk).fM ?_;obtain⟨b,aS,cap,cs,ro,rfl,de,ew,g7⟩:=AX G.wr (λ_ _ e=>e) hk;have a9:=G.at_;unfold fO at a9;refine hx @a9 @de @ew ?_;refine(apo R.W rfl (hF1.is.sub H.oA.sub) cy ev).mono ?_;rintro _ h1 a5 ⟨nC,rfl,d5,cP,f0⟩;have eto:nC.lS=(m.dst Z.C:Int):=d5.is.lS.trans (atq Z m);unfold ec;refine aD ?_;generalize mY:F (F h1 a5 _) a5 _=ap;have D:u ap a5=some (.cells (ec nC) false):=by rw[<-mY,aT];rfl
 have eA:aA U h ap:=aN
 obtain⟨S6,g2,h4,_,M0,_⟩:=H.still eA (J:U<=a5+1);have U6:=LJ K;have A:=acV (s:=true) h4 mo (⟨i*Z.C+j,J⟩,⟨m.dst Z.C,J⟩) hk bj sG oc;dsimp only at A;rw[<-eto]at A;refine A.mono ?_;rintro _ aM bW ⟨b4,Hq,c6,rfl,jb,⟨M,aD5,B,aG⟩,gh,gJ,M1⟩;have V:=(gh a5 J J).trans D;unfold ec at D V;refine⟨gJ,?_⟩;simp(disch:=omega)only[bl,D,V,gk,seval];obtain⟨_,_,pb',e,S⟩:=B.get _ _ aG;cases e;rcases S with⟨_,n,bv,E⟩|⟨bG,n,e,_⟩
 ·have U7:lw aM U bW nC (pM Z m):=d5.T ab J J;refine(E.send (by unfold nw;omega) sG J U7.is cy ev).mono ?_;rintro _ bc d4 ⟨rfl,P,ed,er,xI,Nq⟩;refine⟨Nq.le,?_⟩;have s9:=jb.ahw  B aG xI Nq (.inr ⟨m,n,qx _ _ _ _,J,er⟩) (λa b e=>qy e) (cD _) (cD _);obtain⟨fL,lb,bo4,so4,rs4,rc4,rv4,IZ⟩:=s9.dx i j aj bZ;obtain⟨Np,aCt,rfl,_,I⟩:=IZ.gone xI bp;refine aD ?_;refine I.mono ?_;rintro _ b3 _ ⟨rfl,rfl,ul,aD6,aD7,vN⟩;have BP:=Nq.le;have Iu:=jb.oA.T xI Nq (by unfold nw;omega);exact⟨P,ed,s9.work aj bZ aD7 J vN J aN ⟨_,_,_,_,_,_,_,aD6⟩ (λaJ ov eS=>⟨rfl,ha eS,ab,ab,ab⟩),aN,J⟩
 ·have e:cK (i*Z.C+j) (m.dst Z.C)=[bG]:=e;rw[BC]at e;cases e
end
theorem apJ{s:al}{n:Nat}{h:ae}{U:Nat}(B:n<=63)(A:cr h U v j0 (eT n q)):aH Q s 119 [v] h U (afT (f1 (ek n q)) U h):=by
 by_cases au:n=0
 ·subst au;refine aeg ?_;obtain⟨a,cap,rfl,I⟩:=id A;refine Sa ?_;unfold each;refine aD ?_;refine ZM ?_;refine X3 l1 Rt λP D E=>?_;refine(acd (ka:=.slice a (eT 0 q).length cap) ⟨a,cap,rfl,λh=>absurd rfl h⟩ ab).mono ?_;rintro _ _ _ ⟨rfl,rfl⟩;exact⟨.slice none 0 0,D,λx=>⟨none,.nil,ab,aN,J⟩⟩
 ·rw[show eT n q=[mk n q]from if_neg au]at A;exact arM B A
theorem PJ{n m:Nat}{f:Nat->Int}:cn n f++cn m (λk=>f (n+k))=cn (n+m) f:=by unfold cn;rw[List.range_add,iK,pn];rfl
theorem avW{n m:Nat}:ek n q++(ek m λk=>q (n+k)).map (n+·)=ek (n+m) q:=by unfold ek;rw[List.range_add,r9,List.filter_map];rfl
theorem ahz{az:Type}{A:az->aa X}{h:ae}{U:Nat}{l:aa az}{aQ:aw Nat}(w:gY h A v l aQ)(B:∀c,aQ=some c->c<U):cr h U v A l:=(w.fj (ao:=0)  ab).rd
section
variable {s:al} {g h:ae} {U:Nat} {Z:cb} {own:Nat->Nat} {x:f8} {room:Int} {av L da dc cm pm:Nat} {aL:Nat->Nat} {cK:Nat->Nat->aa cw} {a4:Nat} {au:ae}
def aCx:fJ:=.cells [.int .i64 0,.int .i64 0,.slice none 0 0,.slice none 0 0,.slice none 0 0] false
def GaJ(Z:cb)(S:ju)(U:Nat)(h:ae)(ft:X)(m:Nat)(aF:aa X)(ac:ae)(Y:Nat):Prop :=
 ∃i o dr fC vV du jC,m=Z.R-i/\i<=Z.R/\aF=[bf U,.pointer (some ⟨U+1,0,none⟩),o,ft,(Z.R:X),(i:X)]/\u ac (U+1)=some (.cells [.int .i64 0,(Z.N:X),dr,fC,.slice none 0 0] false)/\u ac U=some aCx /\
  gY ac cq dr (cn (Z.bB i) S.A) vV/\gY ac cq fC (cn (Z.bB i) S.B) du/\gY ac cq o (f1 (ek (Z.bB i) S.q)) jC/\(∀b,vV=some b->U+1<b/\b<Y)/\(∀b,du=some b->U+1<b/\b<Y)/\(∀b,jC=some b->U+1<b/\b<Y) /\
  (∀b,vV=some b->du≠some b/\jC≠some b)/\(∀b,du=some b->jC≠some b)/\aA U h ac/\U+1<Y
def GaI(bB:Nat)(qi:aa Nat)(q:aa Nat)(aC aB a3 aZ bt bm a6 br:X)(aQ:aw Nat)(U:Nat)(h:ae)(m:Nat)(aF:aa X)(ac:ae)(Y:Nat):Prop :=
 ∃k o jC,m=q.length-k/\k<=q.length/\aF=[aC,aB,o,a3,aZ,bt,bm,a6,br,(k:X)]/\gY ac cq o (f1 (qi++(q.take k).map (bB+·))) jC/\(jC=aQ\/∃b,jC=some b/\U<=b/\b<Y)/\(∀d,d<U->aQ≠some d->u ac d=u h d)/\U<=Y
theorem ayh{bB:Nat}{E q:aa Nat}{o s0:X}{aQ eO:aw Nat}{A:Nat}{nB lY ou:X}{aj:Int}{K:aP}(bA:bB<=60)(dt:∀x∈q,x<=60)(gz:E.length+q.length<=1000)(aD8:gY h cq o (f1 E) aQ)(aCy:gY h cq s0 (f1 q) eO)(bg:u h A=some (.cells [(bB:X),(aj:X),nB,lY,ou] false))(Mk:A<U)(mr:∀b,aQ=some b->b<U/\b≠A/\eO≠some b)(P:∀b,eO=some b->b<U)(hi:∀a0 jC ac Y,gY ac cq a0 (f1 (E++q.map (bB+·))) jC->(jC=aQ\/∃b,jC=some b/\U<=b/\b<Y)->(∀d,d<U->aQ≠some d->u ac d=u h d)->U<=Y->K [aC,aB,a0,bf A,aZ,bt,bm,s0,(q.length:X),(q.length:X)] ac Y):
  bC (bN Q s Ch 234 1) [aC,aB,o,bf A,aZ,bt,bm,s0,(q.length:X),.int .i64 0] h U [(2,K)] (λ_ _ _=>False):=by
 obtain⟨ey,cl,rfl⟩:=aCy.form;rw[show(f1 q).length=q.length from gn ..]at *
 refine bC.mk (GaI bB E q aC aB (bf A) aZ bt bm (.slice ey q.length cl) (q.length:X) aQ U h) q.length ⟨0,o,aQ,J,J,rfl,by rw[tf,zL,h6];exact aD8,ab,ab,J⟩ ?_;rintro _ _ h1 a5 ⟨k,eF,jC,rfl,hk,rfl,B,V,bE,dO⟩;rw[aih];unfold Wx;have tX:u h1 A=_:=(bE A Mk λe=>(mr A e).2.1 rfl).trans bg
 by_cases I:k<q.length
 ·have aY:q[k]? = some q[k]:=ab
  have aBN:=dt q[k] ab;have D:(f1 q)[k]? = some ((q[k]:Nat):Int):=by unfold f1;grind
  have Hq1:gY h1 cq (.slice ey q.length cl) (f1 q) eO:=aCy.T ab;obtain⟨_,b,aS,ro,cap,aO,e,a9⟩:=(ahz  Hq1 P).at D;rw[show(f1 q).length=q.length from gn ..]at e;cases e;rw[hM]at a9;have a1:=hN D;have b0:IntKind.wrap .i64 ((bB:Int)+((q[k]:Nat):Int))=((bB+q[k]:Nat):Int):=by rw[<-vZ];exact iY _ J
  refine lh @a9 @a1 @tX @b0 ?_;refine⟨λ_=>?_,λh=>absurd I h⟩;refine rm (B.T  ab).hl (aT _ _ _) (by unfold f1;grind) λap D9 mS=>?_;have xn:IntKind.wrap .i64 ((k:Int)+1)=((k+1:Nat):Int):=cv J;refine bh @xn ?_;refine⟨_,J,k+1,_,some (a5+1),rfl,J,rfl,?_,ab,λd h1 ap=>?_,J⟩
  ·refine .inr ⟨a5+1,rfl,?_,?_⟩
   ·congr 1
    all_goals (unfold f1;grind)
   ·rw[hM,D9]
    congr 2
    unfold f1;rw[List.take_succ,aY,iK,iK,iK,iK,kA];rfl
  grind
 ·have:k=q.length:=J
  subst this;refine aD ?_;refine⟨λh=>absurd h J,λ_=>?_⟩;rw[hC]at B;exact hi _ _ _ _ B V bE dO
end
section
variable {s:al} {g h:ae} {U:Nat} {Z:cb} {own:Nat->Nat} {x:f8} {room:Int} {av L da dc cm pm:Nat} {aL:Nat->Nat} {cK:Nat->Nat->aa cw} {a4:Nat} {au:ae}
theorem ahA(K:fZ Z):Z.bB Z.R=Z.N:=by unfold cb.bB c8;rw[Nat.min_self];exact NA _ K.lH
theorem S7:Z.bB 0=0:=by unfold cb.bB c8;simp
theorem agq{n:Nat}:∀x∈ek n q,x<n:=λx A=>Fa.1 (nR.1 A).1
theorem aij(K:fZ Z)(H:ir Z room av aL cm pm a4 au x cK da dc L own g h U){t:Nat}(ci:∀i,i<Z.R->x.a i-1=t):
  aH Q s 234 [bf cm] h U (λr ac Y=>∃v:zh,r = .agg ⟨Hp Z.N v⟩/\lO ac U Y r 0 (Z.N:Int) Z.N (cn Z.N (Z.eo.st t).A) (cn Z.N (Z.eo.st t).B) (Z.eo.st t).q/\aA U h ac/\U<=Y):=by
 refine aiM ?_;obtain⟨a,ws,os,aq,qi,fQ,eO,ga,G⟩:=H.hl;have a9:=G.at_;have bg:=G.p.1;have n60:=K.n60;generalize dn:Z.eo.st t=S;obtain⟨ez,c3,rfl,_⟩:=id G.or;have wY:=G.or;rw[wA]at a9 wY;unfold fO at a9;have qI:∀{o},u (F h U o) cm=_:=λ{o}=>(ar J).trans a9;have iq:∀{o eF dP},u (F (F (F h U o) (U+1) eF) (U+1) dP) cm=_:=λ{o eF dP}=>(ar J).trans ((ar J).trans qI);unfold XC;refine cQ @qI @iq ?_;refine bC.mk (GaJ Z S U h (.slice ez Z.R c3)) Z.R ⟨0,_,_,_,none,none,none,J,J,rfl,aT _ _ _,?_,?_,?_,?_,ab,ab,ab,ab,(nofun),(((aA.refl _ _).set (cD _)).set J).set J,J⟩ ?_
 ·rw[ar J,ar J,aT];rfl
 ·rw[S7];exact .nil
 ·rw[S7];exact .nil
 ·rw[S7];exact .nil
 rintro _ _ I a5 ⟨i,o,dr,fC,vV,du,jC,rfl,aj,rfl,c1,c2,Nr,Ns,V3,zm,zA,ao,e8,fX,cP,qR⟩;rw[aii];unfold Wy;obtain⟨bD,qb,rfl⟩:=Nr.form;obtain⟨bU,gt,rfl⟩:=Ns.form
 by_cases ct:i<Z.R
 ·obtain⟨c,l,aQ,so,bz,b2,cC,R⟩:=H.dx i 0 ct K.hB;have kc:=R.o rfl;obtain⟨b,aS,cap,cs,ro,e,de,ew,g7⟩:=AX  wY (λ_ _ e=>e) ct;cases e;have q1':=(cP b g7).trans de;have dO:=yv K i;have fK:Z.bB i+Z.H i=Z.bB (i+1):=by unfold cb.H;omega
  have aAl:Z.H i<=60:=J
  have fV:jf I a5 (.agg ⟨[c 28,c 29,c 30,c 31,c 32]⟩) (Z.bB i) (Z.H i) S:=by have:=kc.has;rw[ci i ct,dn]at this;exact jf.T (hs.sub this H.oA.sub) cP J
  have nK:eX I a5 (aL (i*Z.C+0)) c i 0 Z.C l aQ:=R.W.T (λd bj=>bj.elim (λe=>e ▸ cP _ R.W.lt) λe=>cP d (R.W.aQ d e).2) J;refine cQ @q1' @ew ?_;refine⟨λ_=>?_,λh=>absurd ct h⟩;refine(al5 nK fV aAl).mono ?_;rintro _ B A ⟨⟨nB,lY,aEG,rfl,EJ,BQ,BZ⟩,eA,fg⟩;obtain⟨mE,xu,rfl,_⟩:=id EJ;obtain⟨l7,vL,rfl,_⟩:=id BQ;obtain⟨Nt,Nu,rfl,_⟩:=id BZ;have aW:∀{o a0},u (F (F B A o) A a0) (U+1)=_:=λ{o a0}=>(ar J).trans ((ar J).trans ((eA (U+1) J).trans c1));refine bh @aW ?_;generalize It:F (F B A _) A _=V;have fD:aA A B V:=by rw[<-It];exact((aA.refl _ _).set (cD _)).set (cD _)
  have p27:u V A=some (.cells [.int .i64 (Z.bB i:Int),((Z.bB i+Z.H i:Nat):X),.slice mE (cn (Z.H i) λk=>S.A (Z.bB i+k)).length xu,.slice l7 (cn (Z.H i) λk=>S.B (Z.bB i+k)).length vL,.slice Nt (eT (Z.H i) λk=>S.q (Z.bB i+k)).length Nu] false):=ab
  replace aW:u V (U+1)=_:=(fD (U+1) J).trans ((eA (U+1) J).trans c1)
  have aE:u V U=_:=(fD U J).trans ((eA U J).trans c2);clear It;have M2:aA a5 I V:=λd bj=>(fD d J).trans (eA d bj);have Wa3:=Nr.T  λd e=>M2 d (zm d e).2;have Wb3:=Ns.T  λd e=>M2 d (zA d e).2;have Wo3:=V3.T  λd e=>M2 d (ao d e).2;have MA:=cr.o  (k:=1) (λ_=>rfl) (EJ.rd.T (Y:=A+1) fD J);have SB3:=cr.o  (k:=1) (λ_=>rfl) (BQ.rd.T (Y:=A+1) fD J);have SQ3:=BZ.rd.T (Y:=A+1) fD J;refine QB (k:=1) (λ_=>rfl) (λ_=>rfl) J (show za V cq 1 _ _ vV from Wa3) MA (by rw[iW,iW];omega) λUk P d4 M3 U8 ht VW=>?_;have HW:A+1<=d4/\d4<=A+2:=J
  have D:∀d,d<A+1->vV≠some d->u P d=u V d:=λd I B=>VW d J B;have VN:∀d,vV=some d->U+1<d/\d<a5:=zm;have e14:u P (U+1)=_:=(D (U+1) J λe=>ab).trans aW;have cN:u P A=_:=(D A J λe=>ab).trans p27;refine⟨J,?_⟩;simp(disch:=omega)only[bl,e14,aW,cN,p27,gk,seval];have Wb4:=Wb3.T (ac:=P) λd e=>D d ab λaK=>(e8 d aK).1 e;have Wo4:=Wo3.T (ac:=P) λd e=>D d ab λaK=>(e8 d aK).2 e;have MB:el P d4 (.slice l7 (cn (Z.H i) λk=>S.B (Z.bB i+k)).length vL) cq 1 (cn (Z.H i) λk=>S.B (Z.bB i+k)):=by refine cr.o (enc:=cq) (k:=1) (λ_=>rfl) ((BQ.T (ac:=P) (d2:=a5) (dm:=d4) (λd I B=>?_) (cD _) J).rd);rw[D d J (λe=>ab)];exact fD d B
  refine QB (k:=1) (λ_=>rfl) (λ_=>rfl) J (show za P cq 1 _ _ du from Wb4) MB (by rw[iW,iW];omega) λUl b3 fP rS U9 xt Np=>?_;have DW:d4<=fP/\fP<=d4+1:=J
  have E:∀d,d<d4->du≠some d->u b3 d=u P d:=λd I B=>Np d J B;have e15:u b3 (U+1)=_:=(E (U+1) J λe=>ab).trans e14;have i9:u b3 A=_:=(E A J λe=>ab).trans cN;refine⟨J,?_⟩;obtain⟨aZ,fL,rfl⟩:∃a c,Uk = .slice a (cn (Z.bB i) S.A++cn (Z.H i) λk=>S.A (Z.bB i+k)).length c:=(show gY P cq Uk _ M3 from U8).form;obtain⟨bt,ul,rfl⟩:∃a c,Ul = .slice a (cn (Z.bB i) S.B++cn (Z.H i) λk=>S.B (Z.bB i+k)).length c:=(show gY b3 cq Ul _ rS from U9).form;have Va:∀{o a0},u (F (F b3 (U+1) o) (U+1) a0) A=_:=λ{o a0}=>(ar J).trans ((ar J).trans i9);refine cQ @e15 @Va ?_;generalize M4:F (F b3 (U+1) _) (U+1) _=cy;have nD:∀d,d≠U+1->u cy d=u b3 d:=λd e=>ab
  have e16:u cy (U+1)=some (.cells [.int .i64 0,(Z.N:X),.slice aZ (cn (Z.bB i) S.A++cn (Z.H i) λk=>S.A (Z.bB i+k)).length fL,.slice bt (cn (Z.bB i) S.B++cn (Z.H i) λk=>S.B (Z.bB i+k)).length ul,.slice none 0 0] false):=ab
  replace Va:u cy A=_:=(nD A J).trans i9
  clear M4;have noa:∀d,a5<=d->vV≠some d/\du≠some d:=λd bj=>⟨λe=>ab,λe=>ab⟩
  have SQ6:cr cy fP (.slice Nt (eT (Z.H i) λk=>S.q (Z.bB i+k)).length Nu) j0 (eT (Z.H i) λk=>S.q (Z.bB i+k)):=by refine(BZ.T (ac:=cy) (d2:=a5) (dm:=fP) (λd I B=>?_) (cD _) J).rd;rw[nD d J,E d J (noa d I).2,D d J (noa d I).1];exact fD d B
  refine(apJ J SQ6).mono ?_;rintro s0 ev n7 ⟨eO,aCz,L2,xG,tI⟩;obtain⟨gw,VB,eq⟩:=aCz.form;subst eq;have fk:=(xG A J).trans Va;have aAm:∀d,jC=some d->U+1<d/\d<a5/\u ev d=u V d:=λd e=>by have:=ao d e;refine⟨this.1,this.2,?_⟩;rw[xG d J,nD d J,E d J (λaK=>fX d aK e),D d J λaK=>(e8 d aK).2 e]
  have Wo7:=Wo3.T (ac:=ev) λd e=>(aAm d e).2.2;refine aD ?_;rw[show((f1 (ek (Z.H i) λk=>S.q (Z.bB i+k))).length:Int)=((ek (Z.H i) λk=>S.q (Z.bB i+k)).length:Int) by unfold f1;grind]at *
  have tZ:=u0 (Z.H i) λk=>S.q (Z.bB i+k);have aBO:=u0 (Z.bB i) S.q;refine ayh J (λx aY=>by have:=agq x aY;omega) J Wo7 aCz fk J (λd e=>ab) (λd e=>(L2 d e).2) λa0 oo' m8 n8 Wo8 zw EO ahr=>?_;have zb:IntKind.wrap .i64 ((i:Int)+1)=((i+1:Nat):Int):=cv (by have:=K.nM;omega);refine bh @zb ?_;rw[PJ,fK]at U8 U9;rw[PJ,PJ,fK]at e16;rw[avW,fK]at Wo8;have Nl:∀d,d<n7->d≠U+1->jC≠some d->vV≠some d->du≠some d->d<A+1->u m8 d=u V d:=λd I B V P b3 cy=>by rw[EO d I V,xG d J,nD d B,E d J b3,D d cy P]
  have la':∀d,M3=some d->U+1<d/\d<d4/\(vV=some d\/A<d):=λd e=>ab
  have lb':∀d,rS=some d->U+1<d/\d<fP/\(du=some d\/d4<=d):=λd e=>by
   rcases xt with⟨aW,_⟩|⟨aW,_⟩
   all_goals grind
  have d2:∀d,oo'=some d->U+1<d/\d<n8/\(jC=some d\/n7<=d):=λd e=>by
   rcases zw with aW|⟨b,aW,aK,cf⟩
   all_goals grind
  refine⟨_,J,i+1,a0,.slice aZ (cn (Z.bB (i+1)) S.A).length fL,.slice bt (cn (Z.bB (i+1)) S.B).length ul,M3,rS,oo',rfl,J,rfl,?_,?_,?_,?_,Wo8,λd e=>ab,λd e=>ab,λd e=>ab,λd e=>⟨λaK=>?_,λaK=>?_⟩,λd e aK=>?_,λd bj=>?_,J⟩
  ·rw[EO _ J (λe=>ab),xG _ J];omega
  ·grind
  ·refine(show gY P cq _ _ M3 from U8).T λd e=>?_;obtain⟨eE,hS,i6⟩:=la' d e;have nJ:jC≠some d/\du≠some d:=by
    rcases i6 with i6|i6
    ·grind
    grind
   rw[EO d J nJ.1,xG d J,nD d J,E d hS nJ.2]
  ·refine(show gY b3 cq _ _ rS from U9).T λd e=>?_;obtain⟨eE,hS,i6⟩:=lb' d e;have nJ:jC≠some d:=ab
   rw[EO d J nJ,xG d J,nD d J]
  ·grind
  ·grind
  ·grind
  ·rw[Nl d J J (λe=>ab) (λe=>ab) (λe=>ab) J,M2 d J];exact cP d bj
 ·have:i=Z.R:=J
  subst this;rw[ahA K]at Nr Ns V3;refine bh @c1 ?_;refine⟨λh=>absurd h (Nat.lt_irrefl _),λ_=>?_⟩;refine(KO J (ahz V3 λd e=>(ao d e).2) (λx aY=>agq x aY) (by have:=u0 Z.N S.q;omega)).mono ?_;rintro r B A ⟨BZ,eA,fg⟩;rw[RB]at BZ;obtain⟨Nt,Nu,rfl,_⟩:=id BZ;have aW:=(eA (U+1) J).trans c1;have aE:=(eA U J).trans c2;unfold aCx at aE;have e0':∀{o},u (F B (U+1) o) U=_:=λ{o}=>(ar J).trans aE;rw[ahA K]at aW;refine cQ @aW @e0' ?_;have V4:∀d,d<A->d≠U->d≠U+1->∀{o a0},u (F (F B (U+1) o) U a0) d=u B d:=λd I B V o a0=>ab
  refine⟨⟨bD,_,qb,bU,_,gt,Nt,_,Nu⟩,rfl,⟨_,_,_,rfl,(Nr.T λd e=>?_).fj λd e=>?_,(Ns.T λd e=>?_).fj λd e=>?_,eG.T BZ (λd I B=>?_) J (cD _)⟩,λd bj=>?_,J⟩
  ·have:=zm d e;rw[V4 d J J J];exact eA d this.2
  ·grind
  ·have:=zA d e;rw[V4 d J J J];exact eA d this.2
  ·grind
  ·grind
  ·rw[V4 d J J J,eA d J];exact cP d bj
end
section
variable {s:al} {g h:ae} {U:Nat} {Z:cb} {own:Nat->Nat} {x:f8} {room:Int} {av L da dc cm pm:Nat} {aL:Nat->Nat} {cK:Nat->Nat->aa cw} {a4:Nat} {au:ae}
theorem apK{h ac:ae}{ao E:Nat}{I D:Int}{n:Nat}{A B:aa Int}(H:lO h ao aj v I D n A B q)(P:∀b,ao<=b->b<aj->u ac b=u h b)(h1:d2<=ao)(V:aj<=E):lO ac d2 E v I D n A B q:=by obtain⟨dr,fC,ft,e,kv,kb,kO⟩:=H;exact⟨dr,fC,ft,e,eG.T kv P h1 V,eG.T kb P h1 V,eG.T kO P h1 V⟩
def NoJ(R L cm:Nat)(a:Nat->Nat)(os:X)(h:ae)(U:Nat)(m:Nat)(aF:aa X)(ac:ae)(Y:Nat):Prop:=∃i,m=R-i/\i<=R/\(∀aJ,aJ<i->a aJ-1=L)/\aF=[bf cm,os,(R:X),(i:X)]/\ac=h/\Y=U
theorem aaH(K:fZ Z)(H:ir Z room av aL cm pm a4 au x cK da dc L own g h U)(mo:a4<=cm)(eD:L<1000):
  aH Q s 140 [bf cm] h U (λr ac Y=>r = .tuple ⟨[]⟩/\Er Z room av aL cm pm a4 au x cK g U da dc (tz Z.R L x.a) ac Y):=by
 refine atg ?_;obtain⟨a,ws,os,aq,qi,fQ,eO,ga,G⟩:=H.hl;have a9:=G.at_;have bg:=G.p;have bp:=G.m;obtain⟨ez,c3,rfl,_⟩:=id G.or;have wY:=G.or;rw[wA]at a9 wY;have P:=G.aq.lens;rw[G.L]at P;unfold fO at a9;unfold aeW;refine bh @a9 ?_;refine bC.mk (NoJ Z.R L cm x.a (.slice ez Z.R c3) h U) Z.R ⟨0,J,J,J,rfl,rfl,rfl⟩ ?_;rintro _ _ ac Y ⟨i,rfl,aj,V,rfl,aW,aK⟩;subst ac Y;rw[apA];unfold aaE
 by_cases ct:i<Z.R
 ·obtain⟨c,l,aQ,so,bz,b2,cC,R⟩:=H.dx i 0 ct K.hB;have kc:=R.o rfl;obtain⟨b,aS,cap,cs,ro,e,de,ew,g7⟩:=AX  wY (λ_ _ e=>e) ct;cases e;refine cQ @de @ew ?_;refine⟨λ_=>?_,λh=>absurd ct h⟩;refine(alV  R.W kc.El).fM ⟨J,?_⟩;have b0:IntKind.wrap .i64 ((i:Int)+1)=((i+1:Nat):Int):=cv (by have:=K.nM;omega);obtain⟨EH,VP,Nn,rfl⟩:∃a n c,aq = .slice a n c:=by
   have:=G.aq;generalize aq=v at this;cases this <;> grind
  simp(disch:=omega)only[bl,a9,gk,P,b0,seval];refine⟨λeS=>?_,λbP=>?_⟩
  ·refine⟨own,g,?_,aN,J⟩;rw[show tz Z.R L x.a=L from if_neg ab];exact H
  ·exact⟨_,J,i+1,rfl,J,ab,rfl,rfl,rfl⟩
 ·have:i=Z.R:=J
  subst this;refine aD ?_;refine⟨λh=>absurd h J,λ_=>?_⟩;refine(aij K H V).mono ?_;rintro _ E a5 ⟨v,rfl,js,cP,f0⟩;have g1:=(cP cm bg.1).trans a9;refine⟨f0,?_⟩;obtain⟨EH,VP,Nn,rfl⟩:∃a n c,aq = .slice a n c:=by
   have:=G.aq;generalize aq=v at this;cases this <;> grind
  simp(disch:=omega)only[bl,a9,g1,gk,seval];refine x7  (k:=5) (λ_=>rfl) (λ_=>rfl) J (G.aq.T λb e=>?_) v (aT _ _ _) rfl (by rw[G.L];omega) λI D9 A=>?_
  ·have:=G.b b e;rw[ar J];exact cP b this.1
  rw[G.L]at *
  have g2:u I cm=_:=(A cm J λe=>(G.b cm e).2.2.1 rfl).trans ((ar J).trans g1);refine⟨J,?_⟩;refine bh @g2 ?_;rw[show tz Z.R L x.a=L+1 from if_pos V];generalize It:F I cm _=aM;have gh:∀d,d≠cm->u aM d=u I d:=ab
  have c6:u aM cm=some (.cells (fO a Z.N Z.R Z.C room ws pm (.slice ez Z.R c3) (.slice (some ⟨a5+1,0,some 5⟩) (L+1) (L+1))) false):=by rw[<-It,aT];rfl
  have dV:∀d,d<U->own d≠Z.G->u aM d=u h d:=λd E I=>by rw[gh d (λe=>I ab),A d J (λe=>I (G.b d e).2.1),ar J];exact cP d E
  obtain⟨db,ck,gH,D,qR,aAn⟩:=wz      (Y:=a5+1+1) (some (a5+1)) none J dV;have fc:=H.oA.T gH D (Nat.succ_ne_zero _);obtain⟨M,c,B⟩:=H.p8;have aAo:u aM pm=u h pm:=by rw[gh pm bp.2.2,A pm J (λe=>(G.b pm e).2.2.2 rfl),ar J];exact cP pm bp.1
  have aCA:∀b,b<U/\own b=Z.G/\b≠cm/\b≠pm/\ga≠some b->u aM b=u h b:=λb e=>by rw[gh b e.2.2.1,A b J e.2.2.2.2,ar J];exact cP b e.1
  have kx:Z.G=Z.R*Z.C+1:=rfl;refine⟨db,ck,⟨gH,λi j aj bZ=>?_,⟨a,ws,_,_,qi++[v],fQ,eO,some (a5+1),c6,G.ws.T λb e=>aCA b (G.lY b e),(by have:=G.os.T  λb e=>aCA b (G.du b e);rw[wA]at this;exact this),?_,λb e=>?_,λb e=>by have:=G.lY b e;exact⟨J,(D.dV b this.1).trans this.2.1,this.2.2.1,this.2.2.2.1,λe=>ab⟩,λb e=>by have:=G.du b e;exact⟨J,(D.dV b this.1).trans this.2.1,this.2.2.1,this.2.2.2.1,λe=>ab⟩,by rw[jd,G.L];rfl,λt w e=>?_,⟨J,(D.dV cm bg.1).trans bg.2⟩,J,(D.dV pm bp.1).trans bp.2.1,bp.2.2⟩,⟨M,c,B.m.T aAo,λk w e=>?_,B.has⟩,J,λd bj=>?_⟩,fc,J⟩
  ·obtain⟨c,l,aQ,so,bz,b2,cC,R⟩:=H.dx i j aj bZ;have:=pv aj bZ;exact⟨c,l,aQ,so,bz,b2,cC,R.other D.le D.same D.dV J fc rfl rfl (λ_=>⟨rfl,rfl⟩) (λ_=>⟨rfl,rfl,rfl⟩) λ_ _=>⟨rfl,rfl⟩⟩
  ·have:=fa.own  (k:=5) D9;rw[jd,G.L]at this;exact this.T λb e=>ab
  ·grind
  ·rw[B8]at e
   split at e
   ·exact jf.T (G.st t w e) fc J
   ·rename_i eM
    rw[G.L]at eM e;have ci:t=L:=ab
    subst ci;rw[Fc]at e;cases e;have gg:lO ck U a5 (.agg ⟨Hp Z.N v⟩) 0 (Z.N:Int) Z.N (cn Z.N (Z.eo.st t).A) (cn Z.N (Z.eo.st t).B) (Z.eo.st t).q:=by refine apK js (λb E I=>?_) (cD _) (cD _);rw[gH.new   J (λd E I=>aAn d E (λe=>ab) nofun) b E I,gh b J,A b J (λe=>by have:=G.b b e;omega),ar J]
    have zB:=hs.T gg.rd (aA.refl a5 ck) (J:a5<=a5+1+1);unfold jf;simp only[iV];exact zB
  ·obtain⟨aW,aK,b4,cf,dT⟩:=B.get k w e;refine⟨aW,aK,b4,cf,dT.other D.le (λd e8 fX=>D.same d e8 ?_) D.dV fc rfl (cD _) (cD _)⟩;rw[fX];unfold nw;omega
  ·have E:=H.hu d bj;exact⟨(D.dV d J).trans E.1,(D.same d J J).trans E.2⟩
end
section
variable {s:al} {g h:ae} {U:Nat} {Z:cb} {own:Nat->Nat} {x:f8} {room:Int} {av L da dc cm pm:Nat} {aL:Nat->Nat} {cK:Nat->Nat->aa cw} {a4:Nat} {au:ae}
theorem aiN(K:fZ Z)(H:ir Z room av aL cm pm a4 au x cK da dc L own g h U)(mo:a4<=pm)(qR:a4<=cm)(sG:1<=room)(oc:room<=64){a b:Nat}(cW:a<Z.R*Z.C)(aO:b<Z.R*Z.C)(I:cK a b=[m])(bj:m.dst Z.C=b)(aY:mU Z.R Z.C av x m)(e9:av<900)(yO:∀t,t<=av->(Z.fS t=0↔t<av))(B:BD Z av)(bA:(x.out b).length<800)(b0:dc<da)(eD:L<1000):
  aH Q s 146 [bf cm,(a:X),(b:X),.int .i64 0] h U (λr ac Y=>r = .bool true/\Er Z room av aL cm pm a4 au (cR Z.R Z.C av x m) (t6 cK a b []) g U da dc (tz Z.R L (cR Z.R Z.C av x m).a) ac Y):=by
 refine ajV ?_;obtain⟨cy,ev⟩:=aaG K m;have U6:=LJ K;refine(acV H mo (⟨a,J⟩,⟨b,J⟩) cW aO sG oc).mono ?_;rintro _ h1 a5 ⟨b4,aAp,g1,rfl,iJ,⟨M,aD5,s4,aG⟩,eF,f0,Kg1⟩;obtain⟨_,_,pb',e,S⟩:=s4.get _ _ aG;cases e;rcases S with⟨e,_⟩|⟨bG,n,e,bv,er⟩
 ·have e:cK a b=[]:=e;rw[I]at e;cases e
 have e:cK a b=[bG]:=e;rw[I]at e;cases e;refine(er.take iJ.oA (by unfold nw;omega) cy ev).mono ?_;rintro _ ap A ⟨nC,rfl,d5,S6,g2,aD9,aCB,EG⟩;have h4:=iJ.ahw  (sW:=da) (sX:=dc) s4 aG aCB EG (.inl ⟨qx _ _ _ _,n+1,J,aD9⟩) (λa b e=>qy e) J J;unfold ec;refine aD ?_;generalize V:F (F ap A _) A _=aM;have fD:aA A ap aM:=by rw[<-V];exact aN
 have k8:u aM A=some (.cells (ec nC) false):=by rw[<-V,aT];rfl
 have M0:=iJ.oA.T aCB EG (by unfold nw;omega);obtain⟨Hq,c6,P,_,M1,_⟩:=h4.still fD (q7 A);obtain⟨i,j,aj,bZ,rfl⟩:=KS aO;obtain⟨c,l,aQ,so,bz,b2,cC,BY⟩:=P.dx i j aj bZ;obtain⟨eb,ws,os,aq,qi,fQ,eO,ga,G⟩:=P.hl;obtain⟨ce,aS,cap,cs,ro,rfl,de,ew,g7⟩:=AX G.wr (λ_ _ e=>e) aO;have a9:=G.at_;unfold fO at a9;refine lh @a9 @de @ew @k8 ?_;have U7:lw aM a5 (A+1) nC (pM Z m):=d5.T (λd e8 fX=>fD d fX) J J;refine(BY.cR K P.oA aY bj bZ e9 yO B U7 bA).mono ?_;rintro _ bc d4 ⟨rfl,Hr,ed,fL,lb,bo4,so4,IZ,xI,D⟩;refine⟨D.le,?_⟩;have Iu:=P.oA.T xI D J;have s9:=P.work aj bZ xI D.le D.same D.dV Iu ⟨_,_,_,_,_,_,_,IZ⟩ λaJ ov eS=>aj0 aY J;refine(aaH K s9 qR eD).mono ?_;rintro _ b3 fP ⟨rfl,E,f4,ii,Kg5,nl⟩;have:=D.le;have:=EG.le;exact⟨E,f4,ii,aN,J⟩
end
def nx(k:iT):Int × Int:=((k.1.val:Int),(k.2.val:Int))
def G5(k:iT):aa X:=Go.Ax.ll (nx k)
theorem aaI:∀l:aa iT,bd Go.Ax.ll (l.map nx)=bd G5 l
 | []=>rfl
 |k::l=>by show Go.Ax.ll (nx k)++bd Go.Ax.ll (l.map nx)=_;rw[aaI l];rfl
def M5(p:Int × Int):iT:=(⟨p.1.toNat % 64,zN _ J⟩,⟨p.2.toNat % 64,zN _ J⟩)
theorem atr(k:iT):M5 (nx k)=k:=by
 obtain⟨⟨a,B⟩,⟨b,A⟩⟩:=k;unfold M5 nx
 grind
theorem att{l:aa (Int × Int)}(h:∀x∈l,∃k:iT,nx k=x):∃A:aa iT,A.map nx=l:=by
 induction l with
 |nil=>exact⟨[],rfl⟩
 |cons x l D =>
  obtain⟨k,rfl⟩:=h _ (nQ ..);obtain⟨A,rfl⟩:=D λy B=>h y (mG _ B);exact⟨k::A,rfl⟩
section
variable {s:al} {g h:ae} {U:Nat} {Z:cb} {own:Nat->Nat} {x:f8} {room:Int} {av L da dc cm pm:Nat} {aL:Nat->Nat} {cK:Nat->Nat->aa cw} {a4:Nat} {au:ae}
theorem Vb{l:aa iT}(A:l.Nodup):l.length<=4096:=by
 have:=FV 4096 (l.map λe=>e.1.val*64+e.2.val) ab ab
 grind
theorem avX(A:M.Pairwise λa b=>a.1≠b.1):M.length<=4096:=by
 have:=Vb (l:=M.map (·.1)) ab
 grind
theorem xm.at{k:iT}{b4:Nat}(S:xm Z room cK da dc own g h U k b4):b4<U/\∃V a n cap dy dg A D,u h b4=some (.cells (kr V (.slice a n cap) dy dg A D) false)/\n=(if cK k.1.val k.2.val=[]then 0 else 1)/\A<=max da (dc+1):=by
 rcases S with⟨e,m,bp,dy,dg,rw,du,c3,gt,P,I,d6,fB,E,_⟩|⟨m,bG,e,bp,dy,dg,b,c3,gt,gE,gW,f,B,_⟩
 ·rw[if_pos e];rcases I with⟨rfl,_⟩|⟨b,w,_,rfl,_⟩
  all_goals exact⟨E,_,_,_,_,_,_,_,_,P,rfl,J⟩
 ·rw[if_neg ab];exact⟨B.o7,_,_,_,_,_,_,_,_,B.p,rfl,J⟩
theorem amf(H:ir Z room av aL cm pm a4 au x cK da dc L own g h U)(eS:∃a b,cK a b≠[]):
  aH Q s 144 [bf cm] h U (λr ac Y=>∃V:aa iT,r = .slice (some ⟨U,0,some 2⟩) V.length V.length/\ac=F h U (.cells (bd G5 V) false)/\Y=U+1/\V.Nodup/\∀k:iT,k∈V↔cK k.1.val k.2.val≠[]):=by
 obtain⟨a,ws,os,aq,qi,fQ,eO,ga,G⟩:=H.hl;obtain⟨M,c,B⟩:=H.p8;have dn:∀e∈M,∃b4,e.2.1 = (bf b4)/\xm Z room cK da dc own g h U e.1 b4:=λe bP=>by obtain⟨_,_,b4,aW,aK⟩:=B.get e.1 e.2.1 ((JY B.m.oX).2 ⟨e.2.2,bP⟩);exact⟨b4,aW,aK⟩
 obtain⟨Es,pO⟩:∃l:aa iT,l=(M.filter λe=>decide (cK e.1.1.val e.1.2.val≠[])).map (·.1):=⟨_,rfl⟩
 have ayi:∀k:iT,k∈Es↔cK k.1.val k.2.val≠[]:=λk=>by
  rw[pO];constructor
  ·grind
  ·intro h;obtain⟨di,aW,aK,cf⟩:=B.has _ _ h;have cu:di=k:=ab
   rw[cu]at cf;obtain⟨v,aG⟩:=Ny.1 cf;obtain⟨n,bv⟩:=(JY B.m.oX).1 aG;exact fz.2 ⟨(k,v,n),ab,rfl⟩
 have ahB:Es.Nodup:=by rw[pO];exact tc.2 (B.m.oX.filter _)
 have rE:=Vb ahB;obtain⟨-,bg,oZ⟩:=OC ZE (Es.map nx);generalize qr k1 (Es.map nx)=m5 at bg oZ;obtain⟨V,rfl⟩:=att (l:=m5) λx aY=>by obtain⟨k,_,e⟩:=fz.1 (bg.subset aY);exact⟨k,e⟩
 have A:V.Perm Es:=by have:=bg.map M5;rw[pn,pn,show M5 ∘ nx=id from funext atr,Ff,Ff]at this;exact this
 have Im:V≠[]:=λe=>by
  obtain⟨a,b,D8⟩:=eS;obtain⟨k,aW,aK,_⟩:=B.has a b D8
  grind
 have a9:=G.at_;have hpg:=G.p.1;have sC:pm<U:=G.m.1;unfold fO at a9;refine aH.m5 (val:=λb=>.slice (some ⟨b,0,some 2⟩) V.length V.length) (cs:=bd Go.Ax.ll (V.map nx)) (Fu (λ_=>rfl) _) JH ?_ ⟨V,rfl,by rw[aaI],rfl,(A.nodup_iff).2 ahB,λk=>(A.mem_iff).trans (ayi k)⟩;refine apt ?_;unfold acN;refine mf @a9 ?_;refine B.m.hd λaM I e1=>?_;refine bC.mk (λm aF ac Y=>∃acc D o,m=D.length/\aF=[o,bf U]/\d1 ac o Go.Ax.ll 2 acc (U+1) Y/\w9 ac U pm c M D/\(acc++((D.filter λe=>decide (cK e.1.1.val e.1.2.val≠[])).map (·.1)).map nx).Perm (Es.map nx)/\(∀e∈D,e∈M)/\aA U h ac/\U+1<=Y) M.length
  ⟨[],M,_,rfl,rfl,.inl ⟨rfl,rfl⟩,I,by rw[pO];exact Ce _,λe h=>h,λc a1=>e1 c J,J⟩ ?_
 rintro _ _ bc d4 ⟨acc,D,o,rfl,rfl,HU,IW,P,tU,fI,hb⟩;rw[alZ];unfold YE;refine(B.m.T (fI pm sC)).fH IW J (λaE=>?_) λe E b3 bP oW BW gf Iv=>?_
 ·subst aE;simp only[List.filter_nil,zL,h6]at P;refine ng ?_;rcases id HU with⟨rfl,rfl⟩|⟨pa,hR,fm,rfl,TR⟩
  ·have aE:=List.map_eq_nil_iff.1 (List.nil_perm.1 P);rw[aE]at A;exact absurd (List.perm_nil.1 A) Im
  ·have:=P.length_eq;rw[gn]at this;refine(arz rfl J fm TR).mono ?_;rintro _ cy n6 ⟨n2,⟨bY,w4,nn,gK⟩,qN⟩;have:bY=V.map nx:=OA (R:=λx y=>¬k1 y x<0) (λx y=>akg x y) (w4.trans (P.trans bg.symm)) nn oZ;subst this;exact⟨pa,by rw[<-w4.length_eq,gn],J,gK,λc a1=>by rw[qN c J J];exact fI c a1⟩
 ·obtain⟨b4,eg,S⟩:=dn e bP;obtain⟨HE,Vp,eb,jR,kZ,dy,dg,iC,lL,aO,bv,_⟩:=S.at
  rw[eg]at Iv ⊢;have nI:=oW.length_eq;simp only[mb]at nI;have bp:∀x∈E,x∈M:=λx aY=>tU x (oW.mem_iff.2 (mG _ aY));have hpf:=((oW.filter λe=>decide (cK e.1.1.val e.1.2.val≠[])).map (·.1)).map nx;rw[q4]at hpf;have Bp:=(List.Perm.append_left acc hpf).symm.trans P;simp(disch:=omega)only[bl,↓reduceIte,Nat.reduceAdd,Nat.reduceSub,Nat.reduceMul,Nat.reduceLT,Nat.reduceLeDiff,Nat.reduceEqDiff,Int.reduceBEq,Int.reduceLT,Int.reduceNeg,Iv,show dj (pD e.1)=[(e.1.1.val:X),(e.1.2.val:X)]from rfl];refine(Gv (((ar J).trans ((ar J).trans ((gf b4 J).trans (fI b4 HE)))).trans aO)).fM ?_;rw[bv]
  by_cases au:cK e.1.1.val e.1.2.val=[]
  ·rw[if_pos au];rw[if_neg (by simp[au])]at Bp;refine ng ?_;refine⟨λa1=>absurd a1 J,λ_=>⟨_,J,acc,E,o,rfl,rfl,HU.T (λd h1 ap=>(ar J).trans ((ar J).trans (gf d J))) J,BW.T ((ar J).trans (ar J)),Bp,bp,λd bj=>(ar J).trans ((ar J).trans ((gf d J).trans (fI d bj))),J⟩⟩
  ·rw[if_neg au];rw[if_pos (by simp[au]),uB,uB]at Bp;have Mj:=P.length_eq;simp only[jd,gn]at Mj;refine ng ?_;refine⟨λ_=>?_,λa1=>absurd J a1⟩;refine lJ (enc:=Go.Ax.ll) (k:=2) (ao:=U+1) (λ_=>rfl) (λ_=>rfl) J (HU.T (λd h1 ap=>(ar J).trans ((ar J).trans ((ar J).trans (gf d J)))) J) J (nx e.1) (aT _ _ _) rfl J λIK cy hs6 ji=>?_;refine⟨_,J,acc++[nx e.1],E,IK,rfl,rfl,hs6,?_,by rw[kA];exact Bp,bp,λd bj=>(ji d J).trans ((ar J).trans ((ar J).trans ((ar J).trans ((gf d J).trans (fI d bj))))),J⟩;exact BW.T ((ji U J).trans ((ar J).trans ((ar J).trans (ar J))))
end
section
variable {s:al} {g h:ae} {U:Nat} {Z:cb} {own:Nat->Nat} {x:f8} {room:Int} {av L n w cm pm:Nat} {aL:Nat->Nat} {cK:Nat->Nat->aa cw} {a4:Nat} {au:ae}
structure ahC (Z:cb) (room:Int) (av cm pm a4:Nat):Prop where
 K:fZ Z
 m0:a4<=pm
 m1:a4<=cm
 eE:1<=room
 hS:room<=64
 aCC:av<900
 fS:∀t,t<=av->(Z.fS t=0↔t<av)
 B:BD Z av
structure Iw (Z:cb) (av n K:Nat) (x:f8) (cK:Nat->Nat->aa cw) (L:Nat):Prop where
 P:oQ Z.R Z.C av x cK
 D:pV Z.R Z.C n K x cK
 S:ve Z.R x L
def WiJ(Z:cb)(room:Int)(av:Nat)(aL:Nat->Nat)(cm pm a4:Nat)(au:ae)(x:f8)(g:ae)(U n w L:Nat)(m:Nat)(aF:aa X)(ac:ae)(Y:Nat):Prop :=
 ∃k fU o6 lE,m=Z.R*Z.C-k/\k<=Z.R*Z.C/\aF=[bf cm,.bool lE,((Z.R*Z.C:Nat):X),(k:X)]/\Er Z room av aL cm pm a4 au fU o6 g U w w L ac Y/\Iw Z av n k fU o6 L/\((lE=true/\∃a b,o6 a b≠[])\/(lE=false/\fU=x/\∀di,di<k->x.out di=[]))
def WiI(Z:cb)(room:Int)(av:Nat)(aL:Nat->Nat)(cm pm a4:Nat)(au:ae)(g:ae)(U n w cY:Nat)(B0:aa iT)(m:Nat)(aF:aa X)(ac:ae)(Y:Nat):Prop :=
 ∃i fU o6 B1 db ck,m=B0.length-i/\i<=B0.length/\aF=[bf cm,.bool true,.slice (some ⟨cY,0,some 2⟩) B0.length B0.length,(B0.length:X),(i:X)]/\ir Z room av aL cm pm a4 au fU o6 (w+1) w B1 db ck ac Y/\aA U g ck/\U<=Y/\cY<Y/\u ck cY=some (.cells (bd G5 B0) false) /\
  Iw Z av n (Z.R*Z.C) fU o6 B1/\∀k:iT,k∈B0.drop i↔o6 k.1.val k.2.val≠[]
theorem aj2(q1:ahC Z room av cm pm a4)(H:ir Z room av aL cm pm a4 au x cK w w L own g h U)(fV:Iw Z av n 0 x cK L)(b0:w+1<100000)(eS:∃k,k<Z.R*Z.C/\x.out k≠[]):
  aH Q s 72 [bf cm] h U (λr ac Y=>r = .bool true/\∃fU o6 B1,Er Z room av aL cm pm a4 au fU o6 g U (w+1) (w+1) B1 ac Y/\Iw Z av (n+1) 0 fU o6 B1):=by
 refine al6 ?_;have K:=q1.K;have d5:=K.hB;have ei:=K.lH;have U6:=LJ K;obtain⟨a,ws,os,aq,qi,fQ,eO,ga,G⟩:=H.hl;have a9:=G.at_;obtain⟨gx,nF,rfl,_⟩:=id G.wr;rw[wA]at a9;unfold aaC bw ax aX ad cO;simp(disch:=omega)only[bl,po AE,a9,seval];refine bC.mk (WiJ Z room av aL cm pm a4 au x g U n w L) (Z.R*Z.C) ⟨0,x,cK,false,J,J,rfl,⟨own,g,H,aN,J⟩,fV,ab⟩ ?_;rintro _ _ h1 a5 ⟨k,hH,M6,lE,rfl,hk,rfl,⟨aAp,g1,iJ,Kg1,f0⟩,D,hbl⟩;rw[ajT];unfold Xy cF b9 aX
 by_cases ct:k<Z.R*Z.C
 ·have xn:IntKind.wrap .i64 ((k:Int)+1)=((k+1:Nat):Int):=cv J;have Vc:decide ((k:Int)<((Z.R*Z.C:Nat):Int))=true:=ab
  rw[Kl,Vc];cases fw:hH.out k with
  |nil =>
   refine aD ?_;refine(ame K iJ ct fw).mono ?_;rintro _ ap bX ⟨rfl,E,g2,h4,M0,fg⟩;refine bh @xn ?_;refine⟨_,J,k+1,hH,M6,lE,rfl,ct,rfl,⟨E,g2,h4,aN,J⟩,⟨D.P,D.D.skip fw,D.S⟩,?_⟩
   grind
  |cons m r =>
   have bj:=(KL d5 (D.P.eF k m ab).2).2;have pO:M6 k (m.dst Z.C)=[]:=D.D.t3 k _ J;refine aD ?_;refine(apI K iJ q1.m0 q1.eE q1.hS ct fw bj pO J J).mono ?_;rintro _ ap bX ⟨rfl,E,g2,h4,M0,fg⟩;refine bh @xn ?_;have de:=D.P.pick fw;have ew:=D.D.pick fw;rw[pO]at de ew;exact⟨_,J,k+1,_,_,true,rfl,ct,rfl,⟨E,g2,h4,aN,J⟩,⟨de,ew,D.S⟩,.inl ⟨rfl,k,m.dst Z.C,by rw[qx];grind⟩⟩
 ·have:k=Z.R*Z.C:=J
  subst this;have S8:lE=true/\∃a b,M6 a b≠[]:=ab
  obtain⟨rfl,S8⟩:=S8;refine aD ?_;refine⟨λh=>absurd h J,λ_=>?_⟩;refine(amf iJ S8).mono ?_;rintro _ _ _ ⟨I,rfl,rfl,rfl,Vd,agH⟩;refine aD ?_;obtain⟨E,g2,h4,_,M0,hz2⟩:=iJ.still (show aA a5 h1 (F h1 a5 (.cells (bd G5 I) false))from(aA.refl _ _).set (cD _)) (q7 a5);refine bC.mk (WiI Z room av aL cm pm a4 au g U n w a5 I) I.length ⟨0,hH,M6,L,E,g2,J,J,rfl,h4.mono J J,aN,J,J,?_,D,ab⟩ ?_
  ·rw[h4.oA a5,if_pos ⟨J,hz2 a5 (cD _)⟩,aT]
  rintro _ _ aM V ⟨i,hI,M7,zC,Hq,c6,rfl,aj,rfl,jb,M1,gJ,w1,sR,A,UM⟩;rw[ajU];unfold Xz cF b9 ax hw bH aX b6 cZ ad aR bS b1
  by_cases vo:i<I.length
  ·have aY:I[i]? = some I[i]:=ab
   generalize I[i]=k at aY;have MN:I.drop i=k::I.drop (i+1):=by rw[oB vo]at aY;cases aY;exact B5 vo
   have Bu:M7 k.1.val k.2.val≠[]:=ab
   have Im:=Vb Vd;have aAq:=jb.oA.sub _ _ sR;have mx:hV (some 2) (i*2) (bd G5 I) = .ok (.agg ⟨[(k.1.val:X),(k.2.val:X)]⟩):=by rw[pq,if_pos (by rw[gc (k:=2) (λ_=>rfl)];omega),tm (k:=2) (λ_=>rfl) aY];rfl
   have In:decide ((i:Int)<(I.length:Int))=true:=ab
   have zb:IntKind.wrap .i64 ((i:Int)+1)=((i+1:Nat):Int):=cv J;obtain⟨a,ws,os,aq,qi,fQ,eO,ga,G⟩:=jb.hl;have a9:=G.at_;have hpg:=G.p;have sC:=G.m;unfold fO at a9;refine hx @In @aAq @mx ?_;have BF:∀{o a0},u (F (F aM V o) V a0) cm=_:=λ{o a0}=>(ar J).trans ((ar J).trans a9);obtain⟨M,c,B⟩:=jb.p8;obtain⟨di,aW,aK,cf⟩:=B.has _ _ Bu;have cu:di=k:=Prod.ext (Fin.ext aW) (Fin.ext aK);rw[cu]at cf;obtain⟨v,aG⟩:=Ny.1 cf;obtain⟨cW,aO,b4,rfl,S⟩:=B.get k v aG;have P:=λo a0=>wT KC (B.m.T (ac:=F (F aM V o) V a0) ((ar J).trans (ar J))) (k:=k) (z:=.pointer none) (ok:=false);rw[aG,show pD k = .agg ⟨[(k.1.val:X),(k.2.val:X)]⟩from rfl]at P
   replace P:=λo a0=>(P o a0).trans (show _=R.ok (Value.pointer (some ⟨b4,0,none⟩))from rfl)
   refine cQ @a9 @P ?_;generalize Ve:F (F aM V _) V _=bc;have gG:aA V aM bc:=by rw[<-Ve];exact((aA.refl _ _).set (cD _)).set (cD _)
   have cN:u bc V=some (.cells [(k.1.val:X),(k.2.val:X)] false):=ab
   obtain⟨Hr,ed,s9,aAr,Iu,_⟩:=jb.still gG (q7 V);have zB:xm Z room M7 (w+1) w Hr ed bc (V+1) k b4:=S.other (q7 V) (λd e8 _=>gG d e8) aAr Iu rfl (cD _) (cD _);rcases zB with⟨e,_⟩|⟨m,EN,Vf,_,xI⟩
   ·exact absurd e Bu
   ·refine⟨λ_=>?_,λh=>absurd vo h⟩;refine xI.len.fM ?_;refine xI.avU.cu λb3 fP jp nl=>⟨nl,?_⟩
    have i9:=(jp V J).trans cN;simp(disch:=omega)only[bl,cN,i9,gk,seval];obtain⟨aBP,f4,ii,_,Kg5,_⟩:=s9.still jp nl;obtain⟨fA,fW,f3⟩:=A.P.dP k.1.val k.2.val m ab;have aY:=CV A.P.ord d5 f3;have eD:=A.S.le A.P.ord;have e9:=q1.aCC;refine(aiN K ii q1.m0 q1.m1 q1.eE q1.hS cW aO Vf fW aY q1.aCC q1.fS q1.B (by have:=A.P.len d5 K.nM K.mF k.2.val;omega) (E3 w) J).mono ?_;rintro _ cy n6 ⟨rfl,aAs,oy,aEa,Kg6,n2⟩;refine⟨n2,?_⟩;refine bh @zb ?_;have BS:aA V c6 oy:=(Iu.trans Kg5 J).trans Kg6 J;refine⟨_,J,i+1,_,_,_,aAs,oy,rfl,vo,rfl,aEa,M1.trans BS gJ,J,J,(BS a5 w1).trans sR,⟨A.P.P1 d5 ei Vf,A.D.P1 A.P d5 (cD _) Vf,A.S.step A.P.ord aY⟩,λdi=>?_⟩;have hnk:k ∉ I.drop (i+1):=by
     have:=(Vd.sublist (List.drop_sublist i I))
     grind
    by_cases ekk:di=k
    ·subst ekk;rw[qx]
     grind
    ·rw[qy λe=>ekk (Prod.ext (Fin.ext e.1) (Fin.ext e.2)),<-UM di,MN,gQ]
     grind
  ·have:i=I.length:=J
   subst this;refine aD ?_;refine⟨λh=>absurd h (Nat.lt_irrefl _),λ_=>?_⟩;have cL:∀a b,M7 a b=[]:=λa b=>uz λbv=>by
    obtain⟨M,c,B⟩:=jb.p8;obtain⟨k,aW,aK,_⟩:=B.has a b bv
    grind
   exact⟨hI,M7,zC,⟨Hq,c6,jb.mono (cD _) (q7 w),M1,gJ⟩,A.P,A.D.next A.P d5 (cD _) cL,A.S⟩
end
section
variable {s:al} {h:ae} {U:Nat} {Z:cb} {av:Nat}
structure NeI (Z:cb) (av:Nat) (room:Int) (a4:Nat) (au:ae) (cm pm k r:Nat) (aL:Nat->Nat) (a:Nat->X) (ws os:X) (fQ eO:aw Nat) (own:Nat->Nat) (g h:ae) (U:Nat):Prop where
 oA:jj own h U g
 dx:∀i j,i<Z.R->j<Z.C->i*Z.C+j<k->∃c l aQ so bz b2 cC,jx Z av (mu Z.R Z.C) i j own g h U (aL (i*Z.C+j)) c l aQ so bz b2 cC
 at_:u h cm=some (.cells (fO a Z.N Z.R Z.C room ws pm os (.slice none 0 0)) false)
 ws:gY h sq ws ((List.range k).map aL) fQ
 os:gY h sq os ((List.range r).map λi=>aL (i*Z.C)) eO
 lY:∀b,fQ=some b->b<U/\own b=Z.G/\b≠cm/\b≠pm
 du:∀b,eO=some b->b<U/\own b=Z.G/\b≠cm/\b≠pm/\fQ≠some b
 m:u h pm=some (.map [] 0)
 p:cm<U/\own cm=Z.G
 pm:pm<U/\own pm=Z.G/\pm≠cm
 eE:k<=r*Z.C/\(r=0\/(r-1)*Z.C<k)
 iw:a4<=U
 hu:∀d,d<a4->own d=0/\u h d=u au d
def NeJ(Z:cb)(av:Nat)(room:Int)(a4:Nat)(au:ae)(cm pm cj:Nat)(st:aa X)(ao:Nat)(m:Nat)(aF:aa X)(ac:ae)(Y:Nat):Prop :=
 ∃k r aL a ws os fQ eO own g,m=Z.R*Z.C-k/\k<=Z.R*Z.C/\aF=[bf cj,.pointer none,.int .i64 0,bf cm,((Z.R*Z.C:Nat):X),(k:X)]/\NeI Z av room a4 au cm pm k r aL a ws os fQ eO own g ac Y/\u ac cj=some (.cells st false)/\own cj=0/\ao<=Y
theorem ayj{f:Nat->Nat}{v:Nat}:(List.range (k+1)).map (up f k v)=(List.range k).map f++[v]:=by
 rw[q6,iK,List.map_singleton,g4]
 congr 1
 exact oC λi aj=>ha ab
theorem avY{c7 A VI V P B I D E:X}{m:aw Nat}:rn (py [(13,1,.map m)]) 0 12 [aC,aB,a2,a3,aZ,bt,bm,a6,br,c7,A,d3] [pe,h3,z2,z3,z4,r4,s6,ph,xH,VI,V,P,B,I,D,E] = .ok [aC,aB,a2,a3,aZ,bt,bm,a6,br,c7,A,d3,B,.map m,D,E]:=rfl
theorem atu(K:fZ Z){x:i2}(H:pC h U x eQ gO e2)(A1:cr h U e2 yN [])(yT:x.vz=0)(L1:x.bK.length<1000000)(kw:hc x=0)(z:Z.k=x.k/\x.n=(Z.N:Int)/\Z.src=x.src/\Z.len=x.len/\Z.bK=x.bK/\x.R=(Z.R:Int)/\x.C=(Z.C:Int)/\x.lim=(Z.lim:Int))(lQ:vh x.k (x.es.map nu) Z.ag):
  aH Q s 70 [.agg ⟨gR x eQ gO e2⟩] h U (λr ac Y=>∃cm pm aL own g,r = .tuple ⟨[bf cm,.int .i64 0]⟩/\U<=cm/\U<=pm/\ir Z x.M av aL cm pm U h (mu Z.R Z.C) (λ_ _=>[]) 0 0 1 own g ac Y):=by
 refine avG ?_;obtain⟨h3,z2,z3,z4,r4,s6,ph,xH⟩:=id z;have d5:=K.hB;have ei:=K.lH;have xe:=K.mF;have H5:=K.nM;have U6:=LJ K;have kx:Z.G=Z.R*Z.C+1:=rfl;obtain⟨bk,gj,rfl,_⟩:=id H.d;obtain⟨bV,s5,rfl,_⟩:=id H.e;obtain⟨bL,gV,rfl,_⟩:=id A1;have bT:∀{o},aA U h (F h U o):=aN
 unfold agi gR;refine ng ?_;refine(J4 (H.T aN J)).cu λE A cP f0=>?_;have de:=(cP U J).trans (aT _ _ _);unfold gR at de;rw[kw];have V5:∀{o a0},u (F (F E A o) (A+1) a0) U=_:=λ{o a0}=>(ar J).trans ((ar J).trans de);have agF:IntKind.wrap .i64 ((Z.R:Int)*(Z.C:Int))=((Z.R*Z.C:Nat):Int):=by rw[<-Int.natCast_mul];exact iY _ J
 have qN1:∀{o},u (F E A o) U=_:=λ{o}=>(ar J).trans de;simp(disch:=omega)only[bl,↓reduceIte,Nat.reduceAdd,Nat.reduceSub,Nat.reduceMul,Nat.reduceLT,Nat.reduceLeDiff,Nat.reduceEqDiff,Int.reduceBEq,Int.reduceLT,Int.reduceNeg,de,qN1,V5,s6,ph,z9,agF,avY];generalize mY:F (F E A _) (A+1) _=V;have eA:aA U h V:=by rw[<-mY];exact aN
 have iH:u V U=some (.cells (gR x (.slice bk x.bK.length gj) (.slice bV x.es.length s5) (.slice bL ([]:aa (Int × Int)).length gV)) false):=by rw[<-mY];exact V5
 have g2:u V (A+1)=some (.cells (fO (λn=>(gR x (.slice bk x.bK.length gj) (.slice bV x.es.length s5) (.slice bL ([]:aa (Int × Int)).length gV))[n]?.getD .nilFunc) Z.N Z.R Z.C x.M (.slice none 0 0) A (.slice none 0 0) (.slice none 0 0)) false):=by rw[<-mY,aT];unfold fO gR;rw[z2,s6,ph];rfl
 have m2:u V A=some (.map [] 0):=ab
 clear mY V5 qN1 de;obtain⟨cJ,aCD⟩:=C2 (λd=>if d=A\/d=A+1 then Z.G else 0) V (A+1+1);refine bC.mk (NeJ Z av x.M U h (A+1) A U (gR x (.slice bk x.bK.length gj) (.slice bV x.es.length s5) (.slice bL ([]:aa (Int × Int)).length gV)) (A+1+1)) (Z.R*Z.C) ⟨0,0,λ_=>0,_,_,_,none,none,_,cJ,J,J,rfl,⟨aCD,(λi j _ _ h=>absurd h J),g2,.nil,.nil,ab,ab,m2,ab,ab,J,J,λd P=>⟨ab,eA d P⟩⟩,iH,if_neg J,J⟩ ?_;clear g2 m2 aCD cJ;rintro _ _ aM bW ⟨k,r,aL,a,ws,os,fQ,eO,own,g,rfl,hk,rfl,I,k8,eF,gJ⟩;rw[atf];unfold acQ bw lA cF b9 ax bo aX b6 jl cZ ad aR bS
 by_cases ct:k<Z.R*Z.C
 ·obtain⟨i,j,aj,bZ,rfl⟩:=KS ct;have Vc:decide (((i*Z.C+j:Nat):Int)<((Z.R*Z.C:Nat):Int))=true:=gP J;have xn:IntKind.wrap .i64 (((i*Z.C+j:Nat):Int)+1)=((i*Z.C+j+1:Nat):Int):=cv J;have Ix:=k8;have tX:U<bW:=J
  unfold gR at Ix;rw[Kl,Vc];refine tA @Ix @ph ?_;refine(QL  d5 xe J bZ).fM ⟨cD _,?_⟩;simp(disch:=omega)only[bl,↓reduceIte,Nat.reduceAdd,Nat.reduceSub,Nat.reduceMul,Nat.reduceLT,Nat.reduceLeDiff,Nat.reduceEqDiff,Int.reduceBEq,Int.reduceLT,Int.reduceNeg,Ix,ph,gk];refine(QM  d5 xe J bZ).fM ⟨cD _,?_⟩;have EP:oK (.agg ⟨gR x (.slice bk x.bK.length gj) (.slice bV x.es.length s5) (.slice bL ([]:aa (Int × Int)).length gV)⟩) (.agg ⟨gR x (.slice bk x.bK.length gj) (.slice bV x.es.length s5) (.slice bL ([]:aa (Int × Int)).length gV)⟩)=true:=by unfold gR;simp(disch:=omega)only[bl,↓reduceIte,Nat.reduceAdd,Nat.reduceSub,Nat.reduceMul,Nat.reduceLT,Nat.reduceLeDiff,Nat.reduceEqDiff,Int.reduceBEq,Int.reduceLT,Int.reduceNeg,gk]
  unfold gR at EP;rw[ph]at EP;refine G0 @Ix @ph @sf @EP ?_;have fD:aA U h aM:=λd P=>(I.hu d P).2;rw[<-ph];refine(atc  K (H.T fD I.iw) (A1.T fD I.iw) yT L1 kw aj bZ z K.n60 lQ).mono ?_;rintro _ bc B ⟨q2,c,aQ,bz,b2,cC,l,ed,rfl,N,hb⟩;have f4:=(N.k (A+1) I.p.1).trans I.at_;unfold fO at f4;refine⟨hb,?_⟩;refine mf @f4 ?_;have wb4:∀b,fQ=some b->b<bW/\own b=Z.G/\b≠A+1/\b≠A:=I.lY;refine x7  (k:=1) (λ_=>rfl) (λ_=>rfl) J (I.ws.hl.T λb e=>?_) q2 (aT _ _ _) rfl ab λb3 DW t4=>?_
  ·have:=I.lY b e;rw[ar J];exact N.k b this.1
  rw[wA]at *
  have oy:u b3 (A+1)=_:=(t4 _ J λe=>(I.lY _ e).2.2.1 rfl).trans ((ar J).trans f4);have i9:∀{o},u (F b3 (A+1) o) U=_:=λ{o}=>(ar J).trans ((t4 U J λe=>ab).trans ((ar J).trans ((N.k U tX).trans Ix)));refine RX @oy @i9 @ph ?_;refine(QM  d5 xe J bZ).fM ?_;generalize M4:F b3 (A+1) _=cy;have nD:∀d,d≠A+1->u cy d=u b3 d:=λd e=>ab
  have qX:u cy (A+1)=some (.cells (fO a Z.N Z.R Z.C x.M (.slice (some ⟨B+1,0,some 1⟩) (i*Z.C+j+1) (i*Z.C+j+1)) A os (.slice none 0 0)) false):=by rw[<-M4,aT];rfl
  clear M4;have nN:gY cy sq (.slice (some ⟨B+1,0,some 1⟩) (i*Z.C+j+1) (i*Z.C+j+1)) ((List.range (i*Z.C+j+1)).map (up aL (i*Z.C+j) q2)) (some (B+1)):=
   .inr ⟨B+1,rfl,ab,by rw[nD _ J,DW,ayj]⟩
  have ahD:∀d,d<B->d≠A+1->fQ≠some d->u cy d=u bc d:=λd e8 fX h0=>by rw[nD d fX,t4 d J h0,ar J]
  have aCE:gY cy sq os ((List.range r).map λi=>aL (i*Z.C)) eO:=I.os.T λb e=>by have:=I.du b e;rw[ahD b J this.2.2.1 this.2.2.2.2,N.k b this.1]
  have fin:∀(ac:ae) (jR xq:Nat) (M8:X) (D:aw Nat),B+2<=jR->(∀d,d<B+2->d≠A+1->eO≠some d->u ac d=u cy d)->u ac (A+1)=some (.cells (fO a Z.N Z.R Z.C x.M (.slice (some ⟨B+1,0,some 1⟩) (i*Z.C+j+1) (i*Z.C+j+1)) A M8 (.slice none 0 0)) false) ->
    gY ac sq M8 ((List.range xq).map λaJ=>up aL (i*Z.C+j) q2 (aJ*Z.C)) D->(D=eO/\(∀b,eO=some b->u ac b=u cy b)\/∃b,D=some b/\B+2<=b/\b<jR)->(i*Z.C+j+1<=xq*Z.C/\(xq=0\/(xq-1)*Z.C<i*Z.C+j+1)) ->
    NeJ Z av x.M U h (A+1) A U (gR x (.slice bk x.bK.length gj) (.slice bV x.es.length s5) (.slice bL ([]:aa (Int × Int)).length gV)) (A+1+1) (Z.R*Z.C-(i*Z.C+j+1)) [bf U,.pointer none,.int .i64 0,.pointer (some ⟨A+1,0,none⟩),((Z.R*Z.C:Nat):X),((i*Z.C+j+1:Nat):X)] ac jR:=by
   intro ac jR xq M8 D Tv A3 sS kc gK hr'
   let ef:=i*Z.C+j+1
   let db:Nat->Nat:=λd=>if d<bW then own d else if d=q2\/d=bz\/d=b2\/d=cC\/aQ=some d then ef else if d=B+1\/D=some d then Z.G else 0
   obtain⟨ck,gH⟩:=C2 db ac jR;have jC:∀d,d<bW->db d=own d:=λd P=>if_pos P;have W:=N.W;have aB:=N.eE;have a2:=N.hS;have a3:=N.i6;have I0:∀d,bW<=d->(d=q2\/d=bz\/d=b2\/d=cC\/aQ=some d)->db d=ef:=λd E V=>ab
   have IY:∀d,B<=d->(d=B+1\/D=some d)->db d=Z.G:=λd E V=>by
    show(if d<bW then own d else if d=q2\/d=bz\/d=b2\/d=cC\/aQ=some d then ef else if d=B+1\/D=some d then Z.G else 0)=Z.G;rw[if_neg J,if_neg (by
     rintro(e|e|e|e|e)
     ·have:=W.lt;omega
     ·omega
     ·omega
     ·omega
     ·have:=W.aQ d e;omega),if_pos V]
   have bqn:∀d,D=some d->eO=some d\/B+2<=d:=λd e=>ab
   have IF:∀d,bW<=d->d≠q2->d≠bz->d≠b2->d≠cC->aQ≠some d->d<B->db d=0:=λd E V aM bc b3 cy ev=>by
    show(if d<bW then own d else if d=q2\/d=bz\/d=b2\/d=cC\/aQ=some d then ef else if d=B+1\/D=some d then Z.G else 0)=0;rw[if_neg J,if_neg ab,if_neg (by
     rintro(e|e)
     ·omega
     ·rcases bqn d e with e|e
      ·have:=I.du d e;omega
      omega)]
   have agr:∀d,d<B->d≠A+1->fQ≠some d->eO≠some d->u ac d=u bc d:=λd e8 fX h0 nL=>(A3 d J fX nL).trans (ahD d e8 fX h0);have same:∀d,d<B->db d≠Z.G->u ac d=u bc d:=λd e8 fX=>agr d e8 (λe=>fX (by rw[e,jC _ I.p.1];exact I.p.2)) (λe=>fX ab) λe=>fX (by have:=I.du d e;grind);have zB:k2 ed ck:=λd o P=>by
    have E:bW<=d:=Nat.le_of_not_lt λbA=>by rw[N.o d bA]at P;grind
    have V:d<B:=E2 λbA=>by rw[N.G.n d bA]at P;grind
    have au:db d=0:=IF d E (λe=>by rw[e,N.G.p]at P;grind) (λe=>ab) (λe=>ab) (λe=>ab) (λe=>by rw[(N.b d e).2]at P;grind) V;rw[gH d,if_pos ⟨J,au⟩,same d V J];exact N.G.s d o P
   have fc:aA bW g ck:=λd P=>by
    rw[I.oA d,gH d,jC d P]
    by_cases e:own d=0
    ·rw[if_pos ⟨J,e⟩,if_pos ⟨P,e⟩,same d J ab];exact N.k d P
    grind
   have IZ:jx Z av (mu Z.R Z.C) i j db ck bc B q2 c l aQ none bz b2 cC:=jx.init K N zB aj bZ (I0 q2 N.p (.inl rfl)) (λb e=>I0 b (N.b b e).1 (.inr (.inr (.inr (.inr e))))) (I0 bz aB.1 (.inr (.inl rfl))) (I0 b2 a2.1 (.inr (.inr (.inl rfl)))) (I0 cC a3.1 (.inr (.inr (.inr (.inl rfl)))));have xB:i*Z.C+j+1≠Z.G:=J
   have aBd:(A:Nat)≠A+1:=J
   refine⟨i*Z.C+j+1,xq,up aL (i*Z.C+j) q2,a,_,M8,some (B+1),D,db,ck,rfl,ct,rfl,⟨gH,λaJ ov dm Vg Lr=>?_,sS,nN.T λb e=>?_,kc,λb e=>?_,λb e=>?_,?_,⟨?_,?_⟩,⟨?_,?_,I.pm.2.2⟩,hr',?_,λd P=>?_⟩,?_,?_,?_⟩
   ·by_cases e:aJ*Z.C+ov=i*Z.C+j
    ·obtain⟨rfl,rfl⟩:=tr e Vg bZ;refine⟨c,l,aQ,none,bz,b2,cC,?_⟩;rw[g4];exact IZ.other  J same (λ_ _=>rfl) xB (aA.refl _ _) rfl rfl (λ_=>⟨rfl,rfl⟩) (λ_=>⟨rfl,rfl,rfl⟩) λ_ _=>⟨rfl,rfl⟩
    ·obtain⟨bM,bY,gM,rW,rs',rc',rv',R'⟩:=I.dx aJ ov dm Vg J;have:=pv dm Vg;refine⟨bM,bY,gM,rW,rs',rc',rv',?_⟩;rw[ha e];exact R'.other (ef:=Z.G) J (λd e8 fX=>(same d J ab).trans (N.k d e8)) jC J fc rfl rfl (λ_=>⟨rfl,rfl⟩) (λ_=>⟨rfl,rfl,rfl⟩) λ_ _=>⟨rfl,rfl⟩
   ·cases e;exact A3 _ J J λe=>by have:=I.du _ e;omega
   ·cases e;exact⟨J,IY _ J (.inl rfl),J,J⟩
   ·rcases bqn b e with dK | dK
    ·have:=I.du b dK
     grind
    ·have:b<jR:=by
      rcases gK with⟨aW,_⟩|⟨ce,aW,_,cf⟩
      ·rw[aW]at e;have:=I.du b e;omega
      grind
     exact⟨this,IY b J (.inr e),J,J,λe=>ab⟩
   ·have E:=I.pm;rw[agr A J E.2.2 (λe=>(I.lY _ e).2.2.2 rfl) λe=>(I.du _ e).2.2.2.1 rfl,N.k A E.1];exact I.m
   ·omega
   ·rw[jC _ I.p.1];exact I.p.2
   ·omega
   ·rw[jC _ I.pm.1];exact I.pm.2.1
   ·omega
   ·have E:=I.hu d P;have V:=I.iw;exact⟨(jC d J).trans E.1,((same d J ab).trans (N.k d J)).trans E.2⟩
   ·rw[same U J ab,N.k U tX];omega
   ·grind
   omega
  by_cases au:j=0
  ·subst au;have bb:r=i:=by
    obtain⟨aW,aK⟩:=I.eE;have E:i<=r:=Nat.le_of_mul_le_mul_right J d5;rcases aK with aK|aK
    ·omega
    ·have:r-1<i:=Nx (a:=Z.C) J;omega
   subst bb;unfold fO at qX;refine mf @qX ?_;refine⟨λ_=>?_,λh=>absurd h (by decide)⟩;refine x7 (enc:=sq) (k:=1) (λ_=>rfl) (λ_=>rfl) J (aCE.hl.T λb e=>?_) q2 (aT _ _ _) rfl ab λev hn7 vB=>?_
   ·have:=I.du b e;exact ar J
   rw[wA]at *
   have aEb:u ev (A+1)=_:=(vB _ J λe=>(I.du _ e).2.2.1 rfl).trans ((ar J).trans qX);have aAt:IntKind.wrap .i64 (((r*Z.C:Nat):Int)+1)=((r*Z.C+1:Nat):Int):=xn;refine tA @aEb @aAt ?_;refine⟨_,J,fin _ _ (r+1) _ (some (B+1+1+1)) J (λd e8 fX h0=>?_) (by rw[aT];rfl) (.inr ⟨_,rfl,ab,?_⟩) (.inr ⟨_,rfl,J,J⟩) ⟨?_,.inr ?_⟩⟩
   ·rw[ar fX,vB d J h0,ar J]
   ·rw[ar J,hn7,q6,iK,List.map_singleton,nS,g4]
    congr 3
    refine congrArg (·++[q2]) (oC λaJ dm=>(ha ?_).symm);have:=Fa.1 dm;have:=Nat.mul_lt_mul_of_lt_of_le this (cD Z.C) d5;omega
   all_goals grind
  ·have BA:(((j:Nat):Int) == 0)=false:=r8.2 J;refine tA @BA @xn ?_;obtain⟨aW,aK⟩:=I.eE;refine⟨_,J,fin _ _ r os eO J (λd _ _ _=>rfl) qX ?_ (.inl ⟨rfl,λ_ _=>rfl⟩) ⟨?_,?_⟩⟩
   ·have:((List.range r).map λaJ=>up aL (i*Z.C+j) q2 (aJ*Z.C))=(List.range r).map λi=>aL (i*Z.C):=oC λaJ _=>ha λe=>by have:=tr (C:=Z.C) (i:=aJ) (j:=0) (aJ:=i) (ov:=j) J d5 bZ;omega
    rw[this];exact aCE
   ·have E:i*Z.C<r*Z.C:=J
    have V:i<r:=Nx E;have:=qk Z.C (show i+1<=r from V)
    grind
   omega
 ·have:k=Z.R*Z.C:=J
  subst this;refine ng ?_;refine⟨λh=>absurd h (Nat.lt_irrefl _),λ_=>?_⟩;have bb:r=Z.R:=by
   obtain⟨aW,aK⟩:=I.eE;have E:Z.R<=r:=Nat.le_of_mul_le_mul_right aW d5;rcases aK with aK|aK
   ·omega
   ·have:r-1<Z.R:=Nx (a:=Z.C) aK;omega
  subst bb;have r0:ir Z x.M av aL (A+1) A U h (mu Z.R Z.C) (λ_ _=>[]) 0 0 0 own g aM bW :=
   ⟨I.oA,λi j aj bZ=>I.dx i j aj bZ (pv aj bZ),⟨a,ws,os,_,[],fQ,eO,none,I.at_,I.ws,I.os,.nil,(nofun),(λb e=>⟨(I.lY b e).1,(I.lY b e).2.1,(I.lY b e).2.2.1,(I.lY b e).2.2.2,nofun⟩),(λb e=>⟨(I.du b e).1,(I.du b e).2.1,(I.du b e).2.2.1,(I.du b e).2.2.2.1,nofun⟩),rfl,(λt v e=>by rw[List.getElem?_nil]at e;cases e),I.p,I.pm⟩,
    ⟨[],0,Hi I.m,(λk v e=>by cases e),λa b e=>absurd rfl e⟩,I.iw,I.hu⟩
  refine(aaH K r0 J J).mono ?_;rintro _ bc B ⟨rfl,db,ck,iJ,_,_⟩;rw[show tz Z.R 0 (mu Z.R Z.C).a=1 from if_pos λi _=>rfl]at iJ;exact⟨A+1,A,aL,db,ck,rfl,J,J,iJ⟩
end
section
variable {az:Type}
theorem fa.at{h:ae}{B:az->aa X}{k:Nat}{v:X}{l:aa az}{o:aw Nat}(g:fa h B k v l o)(D:∀x,(B x).length=k){i:Nat}{x:az}(P:l[i]? = some x):∃b A V cs I,v = .slice (some ⟨b,A,V⟩) l.length l.length/\o=some b/\u h b=some (.cells cs I)/\hV (some k) (A+i*k) cs = .ok (.agg ⟨B x⟩):=by
 have aj:i<l.length:=ab
 have bp:i*k+k<=l.length*k:=by have:=qk k (show i+1<=l.length from aj);grind
 cases g with
 |nil=>grind
 | @own b _ E =>
  refine⟨b,0,some k,_,false,rfl,rfl,E,?_⟩;rw[iV,pq,if_pos (by rw[gc D];omega),tm D P]
 | @part b A _ cs I E bA a1 =>
  refine⟨b,A,none,cs,I,rfl,rfl,E,?_⟩;rw[pq,if_pos J,<-xR];have:=congrArg (λz=>(z.drop (i*k)).take k) a1;simp only[tm D P,E9,List.take_take]at this
  grind
end
section
variable {s:al} {g h:ae} {U:Nat} {Z:cb} {own:Nat->Nat} {x:f8} {room:Int} {av L da dc cm pm:Nat} {aL:Nat->Nat} {cK:Nat->Nat->aa cw} {a4:Nat} {au:ae}
def EdJ(R av:Nat)(a:Nat->Nat)(os:X)(h:ae)(U:Nat)(m:Nat)(aF:aa X)(ac:ae)(Y:Nat):Prop:=∃i,m=R-i/\i<=R/\(∀aJ,aJ<i->a aJ=av+1)/\aF=[os,.func (.func 142) #[] #[],.int .i64 0,(R:X),(i:X)]/\ac=h/\Y=U
theorem OY(K:fZ Z)(H:ir Z room av aL cm pm a4 au x cK da dc L own g h U)(kc:∀i,i<Z.R->x.a i<=av+1)(V:∀t,t<=av->(Z.fS t=0↔t<av)):aH Q s 71 [bf cm] h U (fr (.bool (decide (∀i,i<Z.R->x.a i=av+1))) U h):=by
 refine apy ?_;obtain⟨a,ws,os,aq,qi,fQ,eO,ga,G⟩:=H.hl;have a9:=G.at_;obtain⟨P,c3,rfl,_⟩:=id G.or;have D:=G.or;rw[wA]at a9 D;unfold acR;simp(disch:=omega)only[bl,Oa AE,a9,seval];refine(show aH Q s 141 [.slice P Z.R c3,.func (.func 142) #[] #[]] h U (fr (.bool (!decide (∀i,i<Z.R->x.a i=av+1))) U h)from ?_).fM ?_
 ·refine ahO ?_;refine(show aH Q s 235 [.slice P Z.R c3,.func (.func 142) #[] #[]] h U (λr ac Y=>∃y:Int,r = (y:X)/\(0<=y↔¬∀i,i<Z.R->x.a i=av+1)/\ac=h/\Y=U)from ?_).mono ?_
  ·refine ah4 ?_;unfold Wu;refine aD ?_;refine bC.mk (EdJ Z.R av x.a (.slice P Z.R c3) h U) Z.R ⟨0,J,J,J,rfl,rfl,rfl⟩ ?_;rintro _ _ ac Y ⟨i,rfl,aj,B,rfl,aW,aK⟩;subst ac Y;rw[ahY];unfold Wi
   by_cases A:i<Z.R
   ·obtain⟨c,l,aQ,so,bz,b2,cC,R⟩:=H.dx i 0 A K.hB;have I:=R.o rfl;obtain⟨b,aS,cap,cs,ro,e,de,ew,g7⟩:=AX  D (λ_ _ e=>e) A;cases e;have b0:IntKind.wrap .i64 ((i:Int)+1)=((i+1:Nat):Int):=cv (by have:=K.nM;omega);refine cQ @de @ew ?_;refine⟨λ_=>?_,λh=>absurd A h⟩;refine al8 ?_;refine(Xw R.W I.xj).fM ?_;refine bh @b0 ?_;refine⟨λbP=>?_,λeS=>?_⟩
    ·grind
    ·refine⟨_,J,i+1,rfl,J,λaJ h=>(Nat.lt_succ_iff_lt_or_eq.1 h).elim (B aJ) λe=>?_,rfl,rfl,rfl⟩
     grind
   ·have:i=Z.R:=J
    subst this;refine aD ?_;refine⟨λh=>absurd h J,λ_=>?_⟩
    grind
  ·rintro _ _ _ ⟨y,rfl,cd,rfl,rfl⟩;refine aD ?_;refine⟨?_,rfl,rfl⟩
   by_cases E:∀i,i<Z.R->x.a i=av+1
   ·rw[gP E,gP (show y<0 from Int.lt_of_not_ge λh=>cd.1 h E)]
   ·have:=cd.2 E;rw[hD E,hD (J:¬y<0)]
 ·simp(disch:=omega)only[bl,Bool.not_not,seval];exact⟨rfl,rfl,rfl⟩
theorem aj3(H:ir Z room av aL cm pm a4 au x cK da dc L own g h U)(I:1<=L)(D:L<1000):aH Q s 150 [bf cm] h U (fr (((L-1:Nat):X)) U h):=by
 refine amb ?_;obtain⟨a,ws,os,aq,P,fQ,eO,ga,G⟩:=H.hl;have B:=G.at_;have A:=G.aq.lens;rw[G.L]at A;unfold fO at B;unfold aaF;have E:IntKind.wrap .i64 ((L:Int)-1)=((L-1:Nat):Int):=by rw[show(L:Int)-1=((L-1:Nat):Int) by omega];exact iY _ J
 simp(disch:=omega)only[bl,po AE,B,A,E,seval];exact⟨rfl,rfl,rfl⟩
def S9(Z:cb)(t:Nat)(U:Nat)(h:ae)(v:X)(ac:ae)(Y:Nat):Prop:=lO ac U Y v 0 (Z.N:Int) Z.N (cn Z.N (Z.eo.st t).A) (cn Z.N (Z.eo.st t).B) (Z.eo.st t).q/\aA U h ac/\U<=Y
theorem amg(K:fZ Z)(H:ir Z room av aL cm pm a4 au x cK da dc L own g h U){t:Nat}(ci:t<L)(y0:L<1000):aH Q s 155 [bf cm,(t:X)] h U (λr ac Y=>∃v,r = .tuple ⟨[v,.bool true]⟩/\S9 Z t U h v ac Y):=by
 refine apD ?_;obtain⟨a,ws,os,aq,qi,fQ,eO,ga,G⟩:=H.hl;have a9:=G.at_;have A:=G.aq.lens;have bg:=G.p.1;have n60:=K.n60;rw[G.L]at A;obtain⟨v,aG⟩:∃v,qi[t]? = some v:=⟨_,oB (by rw[G.L];omega)⟩
 obtain⟨b,off,aS,cs,ro,rfl,xt,aO,V⟩:=fa.at G.aq (λ_=>rfl) aG;have vv:=(G.b b xt).1;have I:=G.st t v aG;rw[G.L]at a9 A;unfold fO at a9;have BF:∀{o},u (F h U o) cm=_:=λ{o}=>(ar J).trans a9;have hbN:∀{o},u (F h U o) b=_:=λ{o}=>(ar J).trans aO;unfold jf at I;simp only[iV]at I;obtain⟨dr,fC,ft,ht,fx,gD,gg⟩:=I;unfold Hp at ht V;simp only[Value.agg.injEq,xQ,v0,ik]at ht;obtain⟨_,_,rfl,rfl,rfl⟩:=ht;unfold acT;simp(disch:=omega)only[bl,po AE,BF,A,gP (J:(t:Int)<(L:Int)),hD (J:¬(t:Int)<0),seval];unfold JN;refine hx @BF @hbN @V ?_;have bT:∀{o eF dP},aA U h (F (F (F h U o) (U+1) eF) (U+1) dP):=aN
 have E:=H.oA.sub;refine⟨λh=>absurd ci h,λ_=>?_⟩;refine(FF ((u9 fx E).T  bT J) (by rw[iW];omega)).mono ?_;rintro v1 h1 a5 ⟨lH,P,f0⟩;refine⟨f0,?_⟩;have g1:=(P (U+1) J).trans (aT _ _ _);have t1:=(P U J).trans ((ar J).trans ((ar J).trans (aT _ _ _)));have cP:=bT.trans P J;simp(disch:=omega)only[bl,g1,gk,seval];refine(FF ((u9 gD E).T  cP J) (by rw[iW];omega)).mono ?_;rintro v2 ap bX ⟨BX,B,fg⟩;refine⟨fg,?_⟩;have g2:=(B (U+1) J).trans g1;have t2:=(B U J).trans t1;have eA:=cP.trans B J;simp(disch:=omega)only[bl,g1,g2,gk,seval];refine(aaz ((u9 gg E).T  eA J)).mono ?_;rintro v3 aM bW ⟨BY,D,gJ⟩;refine⟨gJ,?_⟩;have c6:=(D (U+1) J).trans g2;have t3:=(D U J).trans t2;obtain⟨hH,cB,rfl,_⟩:=id lH;obtain⟨iQ,cE,rfl,_⟩:=id BX;obtain⟨hI,cg,rfl,_⟩:=id BY;simp(disch:=omega)only[bl,g1,g2,c6,t3,gk,seval];exact⟨_,rfl,⟨_,_,_,rfl,lH.T (λd h1 ap=>by rw[ar J,D d J,B d J]) J J,BX.T (λd h1 ap=>by rw[ar J,D d J]) J J,BY.T ab J J⟩,aN,J⟩
end
section
variable {s:al} {g h:ae} {U:Nat} {Z:cb} {own:Nat->Nat} {x:f8} {room:Int} {av L da dc cm pm:Nat} {aL:Nat->Nat} {cK:Nat->Nat->aa cw} {a4:Nat} {au:ae}
theorem apL(H:ir Z room av aL cm pm a4 au x cK da dc L own g h U)(h1:da<=100000)(ap:dc<=100000):
  aH Q s 152 [bf cm] h U (λr ac Y=>∃n:Nat,r = (n:X)/\n<1000000000/\ac=h/\Y=U):=by
 obtain⟨a,ws,os,aq,qi,fQ,eO,ga,G⟩:=H.hl;obtain⟨M,c,B⟩:=H.p8;have dn:∀e,∃q:Nat × Nat,e∈M->e.2.1 = .pointer (some ⟨q.1,0,none⟩)/\q.2<=100001/\∀{lx:al} {ac:ae} {Y:Nat},aA U h ac->aH Q lx 248 [.pointer (some ⟨q.1,0,none⟩)] ac Y (fr (q.2:X) Y ac):=λe=>by
  by_cases V:e∈M
  case neg=>exact⟨(0,0),λh=>absurd h V⟩
  obtain⟨_,_,b4,aW,S⟩:=B.get e.1 e.2.1 ((JY B.m.oX).2 ⟨e.2.2,V⟩);obtain⟨HE,Vp,eb,jR,kZ,dy,dg,P,lL,aO,_,aq⟩:=S.at
  exact⟨(b4,P),λ_=>⟨aW,by show P<=_;omega,λhk=>apE ((hk b4 HE).trans aO)⟩⟩
 obtain⟨f,bE⟩:=Classical.skolem.1 dn;have Bo:=avX B.m.oX;have a9:=G.at_;have hpg:=G.p.1;have sC:pm<U:=G.m.1;unfold fO at a9;obtain⟨S,aAu⟩:∃S:Nat,S=(M.map λe=>(f e).2).sum:=⟨_,rfl⟩
 have dO:S<=M.length*100001:=by
  subst aAu;have:∀l:aa (iT × X × Nat),(∀e∈l,e∈M)->(l.map λe=>(f e).2).sum<=l.length*100001:=by
   intro l
   induction l with
   |nil=>simp
   |cons e l eY =>
    intro bA;have:=eY λx aY=>bA x (mG _ aY);have:=(bE e (bA e (nQ ..))).2.1;simp only[uB,List.sum_cons,mb];omega
  exact this M λe V=>V
 refine aH.plain (v:=(S:X)) rfl ?_ ⟨S,rfl,J,rfl,rfl⟩;refine apu ?_;unfold acO;simp(disch:=omega)only[bl,Oa AE,a9,seval];refine B.m.hd λaM I e1=>?_;refine bC.mk (λm aF ac Y=>∃(D:Nat) (A:aa (iT × X × Nat)),m=A.length/\aF=[(D:X),bf U]/\w9 ac U pm c M A/\D+(A.map λe=>(f e).2).sum=S/\(∀e∈A,e∈M)/\aA U h ac/\U+1<=Y) M.length
  ⟨0,M,rfl,rfl,I,J,λe h=>h,λc a1=>e1 c J,J⟩ ?_
 rintro _ _ bc d4 ⟨D,A,rfl,rfl,IW,hp4,tU,E,hb⟩;rw[al2];unfold YF;refine(B.m.T (E pm sC)).fH IW J (λaE=>?_) λe ayk b3 V oW BW gf Iv=>?_
 ·subst aE;refine aD ?_;simp at hp4;exact⟨by rw[hp4],E⟩
 ·have nI:=oW.length_eq;simp only[mb]at nI;have oa:=List.Perm.sum_nat (oW.map λe=>(f e).2)
  rw[uB,List.sum_cons]at oa;rw[(bE e V).1]at Iv ⊢;refine bh @Iv ?_;refine((bE e V).2.2 λd bj=>(gf d J).trans (E d bj)).fM ?_;refine aD ?_;refine⟨_,J,D+(f e).2,ayk,rfl,?_,BW,J,λx aY=>tU x (oW.mem_iff.2 (mG _ aY)),λd bj=>(gf d J).trans (E d bj),J⟩;rw[<-vZ,at2 _ J]
theorem aj4(K:fZ Z)(H:ir Z room av aL cm pm a4 au x cK da dc (av+1) own g h U)(kw:∀i,i<Z.R->x.a i=av+1)(e9:av<900)(A:∀t,t<=av->(Z.fS t=0↔t<av)):
  aH Q s 74 [bf cm] h U (λr ac Y=>∃ly kv kb kO s7,r = .agg ⟨[.int .i64 (Z.fS av),(av:X),ly,kv,kb,kO,s7]⟩/\S9 Z av U h (.agg ⟨[ly,kv,kb,kO,s7]⟩) ac Y):=by
 refine al7 ?_;have bT:∀{o},aA U h (F h U o):=aN
 unfold aaD;simp(disch:=omega)only[bl,po AE,seval];obtain⟨V,g1,iJ,_⟩:=H.still (bT ) (J:U<=U+1);refine(aj3 iJ J J).fM ?_;rw[NI];refine aD ?_;generalize P:F (F (F h U _) (U+1) _) (U+1) _=ap;have iH:u ap U=some (.cells [(.int .i64 0),(.int .i64 0),(.int .i64 0),(.int .i64 0),(.slice none 0 0),(.slice none 0 0),(.slice none 0 0)] false):=ab
 have k8:u ap (U+1)=some (.cells [(.int .i64 0),(av:X),(.int .i64 0),(.int .i64 0),(.slice none 0 0),(.slice none 0 0),(.slice none 0 0)] false):=ab
 have eA:aA U h ap:=by rw[<-P];exact aN
 obtain⟨S6,g2,E,_⟩:=H.still eA (J:U<=U+1+1);refine(OY K E ab A).fM ?_;rw[gP kw];obtain⟨a,ws,os,aq,qi,fQ,eO,ga,G⟩:=E.hl;have a9:=G.at_;obtain⟨b,aS,cap,cs,ro,rfl,de,ew,g7⟩:=AX  G.or (λ_ _ e=>e) (show 0<Z.R from K.lH);unfold fO at a9;obtain⟨c,l,aQ,so,bz,b2,cC,R⟩:=E.dx 0 0 K.lH K.hB;have kc:=R.o rfl;have B:=kc.xj;rw[kw 0 K.lH,if_neg J,NI]at B;rw[mc]at ew;have ei:=K.lH;refine hx @a9 @de @ew ?_;have W:=R.W;rw[show 0*Z.C+0=0 by omega]at W;refine(Xw W B).fM ?_;refine bh @k8 ?_;generalize D:F ap (U+1) _=aM;have cN:u aM (U+1)=some (.cells [(.int .i64 (Z.fS av)),(av:X),(.int .i64 0),(.int .i64 0),(.slice none 0 0),(.slice none 0 0),(.slice none 0 0)] false):=ab
 have i9:=(show u aM U=u ap U by grind).trans iH;have fD:aA U h aM:=by rw[<-D];exact aN
 obtain⟨Hq,c6,jb,_⟩:=H.still fD (J:U<=U+1+1);unfold Oo;refine bh @cN ?_;refine(amg K jb J J).mono ?_;rintro _ bc d4 ⟨v,rfl,⟨dr,fC,ft,rfl,fx,gD,gg⟩,I,hb⟩;have VZ:=(I (U+1) J).trans cN;have fk:∀{o},u (F bc (U+1) o) U=_:=λ{o}=>(ar J).trans ((I U J).trans i9);obtain⟨hH,cB,rfl,_⟩:=id fx;obtain⟨iQ,cE,rfl,_⟩:=id gD;obtain⟨hI,cg,rfl,_⟩:=id gg;refine bh @VZ ?_;refine Aj.2 ⟨rfl,ab,?_⟩;refine bh @fk ?_;refine⟨_,_,_,_,_,rfl,⟨_,_,_,rfl,fx.T ab J J,gD.T ab J J,gg.T ab J J⟩,λd bj=>?_,J⟩;rw[ar J,ar J,I d J];exact fD d bj
end
section
variable {s:al} {h:ae} {U:Nat} {Z:cb} {av W:Nat}
structure yx (h:ae) (U:Nat) (x:i2) (eQ gO e2:X) (Z:cb):Prop where
 K:fZ Z
 H:pC h U x eQ gO e2
 zl:cr h U e2 yN []
 xA:x.vz=0
 bK:x.bK.length<1000000
 E:hc x=0
 z:Z.k=x.k/\x.n=(Z.N:Int)/\Z.src=x.src/\Z.len=x.len/\Z.bK=x.bK/\x.R=(Z.R:Int)/\x.C=(Z.C:Int)/\x.lim=(Z.lim:Int)
 ag:vh x.k (x.es.map nu) Z.ag
theorem yx.T{x:i2}{eQ gO e2:X}{ac:ae}{Y:Nat}(S:yx h U x eQ gO e2 Z)(B:aA U h ac)(A:U<=Y):yx ac Y x eQ gO e2 Z:={ S with H:=S.H.T B A,zl:=S.zl.T B A }
theorem yx.room{x:i2}(S:yx h U x eQ gO e2 Z):1<=x.M/\x.M<=64:=by
 have e:=S.E;unfold hc at e
 split at e
 ·omega
 ·split at e
  ·cases e
  ·split at e
   ·cases e
   ·split at e
    ·cases e
    ·rename_i A
     have:j9 x.M 64=true:=ab
     unfold j9 at this
     grind
def aAv(Z:cb)(room:Int)(av:Nat)(a4:Nat)(au:ae)(W:Nat)(cm pm:Nat)(aL:Nat->Nat)(m:Nat)(aF:aa X)(ac:ae)(Y:Nat):Prop :=
 ∃k x cK L own g,m=W-k/\k<=W/\aF=[bf cm,(k:X),(W:X),(k:X)]/\ir Z room av aL cm pm a4 au x cK k k L own g ac Y/\Iw Z av (k+1) 0 x cK L
def aAw(Z:cb)(room:Int)(av:Nat)(h:ae)(U:Nat)(cm k:Nat)(ac:ae)(Y:Nat):Prop:=∃pm aL x cK own g,ir Z room av aL cm pm U h x cK k k (av+1) own g ac Y/\(∀i,i<Z.R->x.a i=av+1)/\k<=99999
theorem aj5{x:i2}(S:yx h U x eQ gO e2 Z)(e9:av<900)(A:∀t,t<=av->(Z.fS t=0↔t<av))(B:BD Z av)(jB:ms Z.R Z.C av+Z.R<=W)(Eg:W<=99999):
  aH Q s 157 [.agg ⟨gR x eQ gO e2⟩,.slice none 0 0,(W:X)] h U (λr ac Y=>∃cm k:Nat,r = .tuple ⟨[bf cm,(k:X),.int .i64 0]⟩/\aAw Z x.M av h U cm k ac Y):=by
 refine YI ?_;have K:=S.K;obtain⟨bk,gj,pb,_⟩:=id S.H.d;obtain⟨bV,s5,BR,_⟩:=id S.H.e;obtain⟨bL,gV,BL,_⟩:=id S.zl;have hrm:=S.room;unfold PH;subst pb BR BL;unfold gR;refine aD ?_;refine(Yf    (S.H.T aN J) ⟨none,0,rfl,λh=>absurd rfl h⟩ ab).cu λh1 a5 cP f0=>?_;have de:=(cP U J).trans (aT _ _ _);have aE:yL x [] (W:Int)=0:=by unfold yL;rw[if_neg (by rw[S.E];omega),if_neg (by decide),if_neg (by decide),if_neg (by rw[li J];decide)]
 rw[aE];refine bh @de ?_;have K01:aA U h h1:=aN
 have fx:=S.T (Y:=a5) K01 J;refine(atu (av:=av) K fx.H fx.zl fx.xA fx.bK fx.E fx.z fx.ag).mono ?_;rintro _ ap bX ⟨cm,pm,aL,own,g,rfl,dH,dl,H⟩;refine aD ?_;have gU:ir Z x.M av aL cm pm U h (mu Z.R Z.C) (λ_ _=>[]) 0 0 1 own g ap bX:={ H with iw:=by have:=H.iw;omega,hu:=λd bj=>⟨(H.hu d J).1,(H.hu d J).2.trans (K01 d bj)⟩ }
 refine bC.mk (λ_ aF ac Y=>aF=[(W:X),bf cm,.slice none 0 0,.int .i64 0,.int .i64 0]/\ac=ap/\Y=bX) 0 ab ?_;rintro _ _ _ _ ⟨rfl,rfl,rfl⟩;rw[ajW];unfold XA;refine aD ?_;have aCF:=axb   (av:=av) K.hB K.lH;refine λ_=>bC.mk (aAv Z x.M av U h W cm pm aL) W ⟨0,mu Z.R Z.C,λ_ _=>[],1,own,g,rfl,J,rfl,gU,aCF.1,aCF.2,J,0,K.lH,rfl⟩ ?_;rintro _ _ aM bW ⟨k,P,V,zC,D,c6,rfl,hk,rfl,jb,E⟩;rw[ajX];unfold XB;have q1:ahC Z x.M av cm pm U:=⟨K,J,J,hrm.1,hrm.2,e9,A,B⟩
 have dO:∀i,i<Z.R->P.a i<=av+1:=λi aj=>(E.P.ord.au i aj).1
 by_cases ct:k<W
 ·refine aD ?_;refine⟨λ_=>?_,λh=>absurd ct h⟩;refine(OY K jb dO A).fM ?_
  by_cases I:∀i,i<Z.R->P.a i=av+1
  ·rw[gP I];refine aD ?_;have eD:=E.S.fin I;subst eD;exact⟨cm,k,rfl,pm,aL,P,V,D,c6,jb,I,J⟩
  ·rw[hD I];refine aD ?_;have eS:∃k,k<Z.R*Z.C/\P.out k≠[]:=by obtain⟨i,aj,cW⟩:∃i,i<Z.R/\P.a i≠av+1:=uz ab;exact E.P.more K.hB K.lH (λa b=>E.D.t3 a b J) aj cW
   refine(aj2 q1 jb E J eS).mono ?_;rintro _ bc d4 ⟨rfl,uh,lk4,aEc,⟨Hr,ed,s9,_,_⟩,aEd⟩;have xn:IntKind.wrap .i64 ((k:Int)+1)=((k+1:Nat):Int):=cv J;refine bh @xn ?_;exact⟨_,J,k+1,uh,lk4,aEc,Hr,ed,rfl,ct,rfl,s9,aEd⟩
 ·have:k=W:=J
  subst this;have I:∀i,i<Z.R->P.a i=av+1:=λi aj=>E.P.fin E.D K.hB K.lH J aj;have eD:=E.S.fin I;subst eD;refine aD ?_;refine⟨λh=>absurd h J,λ_=>?_⟩;exact⟨cm,k,rfl,pm,aL,P,V,D,c6,jb,I,Eg⟩
theorem avZ{n k:Int}:rn (py [(7,1,(n:X)),(8,1,(k:X))]) 0 7 [aC,aB,a2,a3,aZ,bt,bm] [pe,h3,z2,z3,z4,r4,s6,ph,xH] = .ok [aC,aB,a2,a3,aZ,bt,bm,(n:X),(k:X)]:=rfl
theorem atv{x:i2}(S:yx h U x eQ gO e2 Z)(e9:av<900)(A:∀t,t<=av->(Z.fS t=0↔t<av))(B:BD Z av)(jB:ms Z.R Z.C av+Z.R<=W)(Eg:W<=99999):
  aH Q s 76 [.agg ⟨gR x eQ gO e2⟩,.slice none 0 0,(W:X)] h U (λr ac Y=>∃ly kv kb kO s7,∃n k:Nat,r = .tuple ⟨[.agg ⟨[.int .i64 (Z.fS av),(av:X),ly,kv,kb,kO,s7,(n:X),(k:X)]⟩,.int .i64 0]⟩/\S9 Z av U h (.agg ⟨[ly,kv,kb,kO,s7]⟩) ac Y):=by
 refine aeV ?_;obtain⟨bk,gj,pb,_⟩:=id S.H.d;obtain⟨bV,s5,BR,_⟩:=id S.H.e;obtain⟨bL,gV,BL,_⟩:=id S.zl;have K:=S.K;unfold Sh;subst pb BR BL;unfold gR;have d7:∀{o},u (F (F h U (.cells (gR x (.slice bk x.bK.length gj) (.slice bV x.es.length s5) (.slice bL ([]:aa (Int × Int)).length gV)) false)) (U+1) o) U=_:=λ{o}=>(ar J).trans (aT _ _ _);refine bh @d7 ?_;generalize MI:F (F h U _) (U+1) _=h1;have cP:aA U h h1:=by rw[<-MI];exact aN
 have cj:u h1 (U+1)=some (.cells [(.int .i64 0),(.int .i64 0),(.int .i64 0),(.int .i64 0),(.slice none 0 0),(.slice none 0 0),(.slice none 0 0),(.int .i64 0),(.int .i64 0)] false):=ab
 refine(aj5 (S.T  cP J) e9 A B jB Eg).mono ?_;rintro _ ap bX ⟨cm,k,rfl,pm,aL,iQ,lk2,S6,g2,I,kw,hk⟩;refine aD ?_;refine(aj4 K I kw e9 A).mono ?_;rintro _ aM bW ⟨ly,kv,kb,kO,s7,rfl,gg,fD,gJ⟩;obtain⟨Hq,c6,jb,_⟩:=I.still fD gJ;refine(apL jb J J).mono ?_;rintro _ A9 n3' ⟨n,rfl,bv,aW,aK⟩;subst A9 n3';obtain⟨dr,fC,ft,ht,V,P,E⟩:=gg;simp only[Value.agg.injEq,xQ,v0,ik]at ht;obtain⟨rfl,rfl,rfl,rfl,rfl⟩:=ht;obtain⟨hH,cB,rfl,_⟩:=id V;obtain⟨x2',cE,rfl,_⟩:=id P;obtain⟨hI,cg,rfl,_⟩:=id E;have iH:=(I.hu (U+1) J).2.trans cj;have D9:=I.iw;refine bh @avZ ?_;generalize Ve:F (F aM bW _) bW _=bc;have D:aA bW aM bc:=by rw[<-Ve];exact aN
 have cN:u bc bW=some (.cells [.int .i64 (Z.fS av),(av:X),.int .i64 0,(Z.N:X),.slice hH (cn Z.N (Z.eo.st av).A).length cB,.slice x2' (cn Z.N (Z.eo.st av).B).length cE,.slice hI (eT Z.N (Z.eo.st av).q).length cg,(n:X),(k:X)] false):=ab
 obtain⟨Hr,ed,s9,_⟩:=jb.still D (q7 bW);refine(OY K s9 ab A).fM ?_;rw[gP kw];have i9:=(D (U+1) J).trans ((fD (U+1) J).trans iH);refine cQ @cN @i9 ?_;have hu:∀d,d<U->u bc d=u h d:=λd bj=>(D d J).trans ((fD d J).trans ((I.hu d J).2.trans (cP d bj)));refine⟨_,_,_,_,_,n,k,rfl,⟨_,_,_,rfl,V.T (λd aW aK=>?_) J J,P.T (λd aW aK=>?_) J J,E.T (λd aW aK=>?_) J J⟩,λd bj=>?_,J⟩
 ·rw[ar J];exact D d aK
 ·rw[ar J];exact D d aK
 ·rw[ar J];exact D d aK
 grind
end
def vW(o:aw Int):Prop:=∀y,o=some y->0<=y/\y<=eI
theorem QR:vW none:=λ_ h=>ab
section
variable {r:Int} {Z:cb} {t:Nat}
theorem av0(I:r≠5){a b:aw Int}(B:vW a)(A:vW b):vW (e0 r a b):=by
 cases a with
 |none=>exact A
 |some a =>
  cases b with
  |none=>exact B
  |some b =>
   intro y D;cases D;have P:=B a rfl;have E:=A b rfl;unfold jJ;omega
theorem RK(A:r≠5):∀{l:aa (aw Int)},(∀x∈l,vW x)->vW (fl r l)
 | [],_=>QR
 |x::l,h=>av0 A (h x ab) (RK A λy B=>h y ab)
theorem ae1(I:r≠5){x:Nat->aw Int}(V:∀g∈ag,vW (x g.t))(E:∀g∈ag,0<=g.w)(v:Nat):vW (il r ag x v):=by
 refine RK I λo P=>?_;obtain⟨g,B,rfl⟩:=fz.1 P
 split
 ·intro y D;cases A:x g.t with
  |none=>grind
  |some z =>
   rw[A]at D;cases D;have h1:=V g B z A;have ap:=E g B;unfold he;omega
 ·exact QR
theorem KT(K:fZ Z){a H b W:Nat}:∀g∈lN Z.ag a H b W,0<=g.w/\∃ck∈Z.ag,b+g.t=ck.t:=λg D=>by
 obtain⟨ck,A,rfl⟩:=fz.1 D;have B:=(nR.1 A).1;have E:=(nR.1 A).2;unfold pJ at E;refine⟨(K.w ck B).1,ck,B,?_⟩
 grind
theorem QS(K:fZ Z):gd Z.k t≠5:=by
 unfold gd;rcases K.hj with h|h|h|h <;> rw[h] <;> simp;omega
theorem ayl(K:fZ Z)(E:∀v,v<Z.N->vW (Z.eo.x t v)):VY Z t where
 c:=λi P v=>by
  refine RK (QS K) λo I=>?_;obtain⟨j,_,rfl⟩:=fz.1 I
  split
  ·refine ae1 (QS K) (λg A=>?_) (λg A=>(KT K g A).1) _;obtain⟨_,ck,D,B⟩:=KT K g A;rw[B];exact E _ (K.M.mi ck D)
  ·exact QR
 b:=λi j v=>by refine ae1 (QS K) (λg A=>?_) (λg A=>(KT K g A).1) v;obtain⟨_,ck,D,B⟩:=KT K g A;rw[B];exact E _ (K.M.mi ck D)
theorem apM{x:Nat->aw Int}{v:Nat}(h:∀g∈ag,g.f≠v):il r ag x v=none:=by
 refine wc λo A=>?_
 grind
theorem aym(K:fZ Z)(A:Z.k=1)(aq:∃v:Nat,Z.src=(v:Int)/\v<Z.N):∀(t v:Nat),(Z.eo.st t).q v=true->v<Z.N
 |0,v,h=>by obtain⟨w,e,E⟩:=aq;have h:rz Z.k Z.src v=true:=h;rw[A]at h;have:(v:Int)=Z.src:=of_decide_eq_true h;omega
 |t+1,v,h=>by
  apply uz;intro D;have h:(km Z.k (Z.eo.a8 (t+1)) (t+1) (Z.eo.st t) v (nf (gd Z.k (t+1)) (Z.eo.qC (t+1) (Z.eo.st t) v))).2.2=true:=h;have e:Z.eo.qC (t+1) (Z.eo.st t) v=none:=by
   unfold jK.qC
   split
   ·exact apM λg B e=>by have:=K.M.rows g B;omega
   ·rfl
  rw[e,A]at h;cases h
theorem av1(K:fZ Z)(B:Z.k=1)(aq:∃v:Nat,Z.src=(v:Int)/\v<Z.N)(av:Nat):BD Z av:=λt _=>by
 have D:∀v,vW (Z.eo.x t v):=λv y A=>by
  have A:qB Z.k (Z.eo.a8 t) t (Z.eo.st (t-1)) v=some y:=A;unfold qB at A;rw[if_pos B]at A
  split at A
  ·rename_i E
   have:=aym K B aq _ v E;have:=K.n60;cases A;unfold eI;omega
  grind
 exact⟨ayl K λv _=>D v,λv y _=>D v y⟩
end
def ags:s2:=λs ah t1 t2 t3 h U K=>bI ah h U λa b c=>aR 2 b a λd=>aX s 22 [d,t1,t2,t3] b c λe f g=>b1 [(ad 0),(ad 0),(ad 0),(ad 0),ay,(ad 0),ay,(ad 0),(ad 0),(ad 0),(ad 0),ay] f g λi j k=>af (aU j 12 i e) λl=>aR 12 l i λm=>ax l 10 i λo=>b6 75 [m,o] l k λp q r=>aR 12 q i λt=>jl 12 i t (b6 76 [t,ay,p] q r λaI v w=>af (cp aI 0) λx=>b1 [(ad 0),(ad 0),(ad 0),(ad 0),ay,ay,ay,(ad 0),(ad 0)] v w λy z bD=>af (aU z 9 y x) λbU=>af (cp aI 1) λbL=>lA bL (K (.tuple ⟨[ay,ay,bL]⟩) bU bD) (bo 0 y λbV=>i5 5 bU 2 bV λbO=>aX s 80 [bO] bU bD λcM cG ds=>af (cp cM 0) λdh=>af (cp cM 1) λey=>K (.tuple ⟨[dh,ey,bL]⟩) cG ds)) 1 [l]
theorem av2:uo 16 ags:=vw []
def ae2:cS:=λs ah h U K=>bI ah h U λa b c=>ax b 2 a λe=>b6 88 [e] b c λf g i=>bo 3 a λj=>bS g j λk=>cZ j k (b6 88 [k] g i λl m n=>K (.tuple ⟨[f,l]⟩) m n) 1 [b]
theorem atw:cT 80 ae2:=cV []
theorem ayn{P:Program}{f:FuncId}{l:aa X}{h:ae}{U:Nat}(H:aH P true f l h U K):∃v ac Y,K v ac Y:=by obtain⟨v,ac,Y,A,_⟩:=H;exact⟨v,ac,Y,A⟩
theorem aaJ{D:aa X->Go.Ax.R (aa X)}{A:Nat}{x y z w B:X}{c:aa X}:rn D A 5 [x,y,z,w,B] c=if A+5<=c.length then D (c.take A++x::y::z::w::B::c.drop (A+5))else .no "fill" := by
 by_cases h:A+5<=c.length
 ·rw[if_pos h,JV (n:=5)  rfl h];simp
 ·rw[if_neg h];show(bif Nat.beq (jr [x,y,z,w,B]) 5 then R.of "fill" (nh [x,y,z,w,B] c A) D else .no "fill - size")=_;rw[tp,if_neg J];rfl
def rA(n:Int):Int:=if 0<=n then min n 8191+1 else 0
def ib(dd src r c:Int)(es:aa iy):i2:=⟨1,dd,src,0,[],dd,es,r,c,4,rA dd,0⟩
section
variable {s:al} {h:ae} {U:Nat} {dd src r c:Int} {a:aw Addr} {n cap:Nat} {es:aa iy} {Z:cb} {av:Nat}
theorem apN(B : -9223372036854775808<=dd)(D:dd<=9223372036854775807):
  aH Q s 22 [.agg ⟨[(dd:X),.slice a n cap]⟩,(src:X),(r:X),(c:X)] h U (dJ (.agg ⟨gR (ib dd src r c es) (.slice none 0 0) (.slice a n cap) (.slice none 0 0)⟩) U h):=by
 refine arG ?_;unfold aef;refine aD ?_;refine⟨λA=>?_,λA=>?_⟩
 ·rw[jG J J];unfold J5;refine bh @aaJ ?_;refine⟨?_,aN,J⟩;unfold gR ib rA
  grind
 ·unfold J5;refine bh @aaJ ?_;refine⟨?_,aN,J⟩;unfold gR ib rA
  grind
theorem aiO{x:i2}{w:Int}(H:pC h U x eQ gO e2)(D:hc x≠0):
  aH Q s 157 [.agg ⟨gR x eQ gO e2⟩,.slice none 0 0,(w:X)] h U (dJ (.tuple ⟨[.pointer none,.int .i64 0,.int .i64 (hc x)]⟩) U h):=by
 refine YI ?_;obtain⟨E,gj,rfl,_⟩:=id H.d;obtain⟨bV,P,rfl,_⟩:=id H.e;obtain⟨bL,V,rfl⟩:=id H.c;unfold PH gR;refine aD ?_;refine(Yf    (H.T aN J) ⟨none,0,rfl,λh=>absurd rfl h⟩ ab).cu λh1 a5 I A=>?_;have aE:yL x [] w=hc x:=by unfold yL;omega
 rw[aE];have B:(hc x == 0)=false:=ab
 refine bh @B ?_;exact⟨rfl,aN,J⟩
def zR9:X:=.agg ⟨[.int .i64 0,.int .i64 0,.int .i64 0,.int .i64 0,.slice none 0 0,.slice none 0 0,.slice none 0 0,.int .i64 0,.int .i64 0]⟩
theorem apO{x:i2}{w:Int}(H:pC h U x eQ gO e2)(D:hc x≠0):
  aH Q s 76 [.agg ⟨gR x eQ gO e2⟩,.slice none 0 0,(w:X)] h U (dJ (.tuple ⟨[zR9,.int .i64 (hc x)]⟩) U h):=by
 refine aeV ?_;obtain⟨E,gj,rfl,_⟩:=id H.d;obtain⟨bV,P,rfl,_⟩:=id H.e;obtain⟨bL,gV,rfl⟩:=id H.c;have bT:∀{o a0},aA U h (F (F h U o) (U+1) a0):=aN
 have A:∀{o},u (F (F h U (.cells (gR x (.slice E x.bK.length gj) (.slice bV x.es.length P) (.slice bL x.vz gV)) false)) (U+1) o) U=_:=λ{o}=>(ar J).trans (aT _ _ _);unfold Sh;unfold gR at A ⊢;refine bh @A ?_;refine(aiO  (H.T  bT J) D).cu λh1 a5 I B=>?_;have V:=(I (U+1) J).trans (aT _ _ _);have aO:(hc x == 0)=false:=ab
 refine cQ @aO @V ?_;exact⟨rfl,aN,J⟩
theorem YK{l:aa Int}(P:cr h U v cq l)(B:l.length<1000000)(e:l≠[]):
  aH Q s 88 [v] h U (λr ac Y=>d1 ac r cq 1 l U Y/\aA U h ac/\U<=Y):=by
 refine Zj ?_;obtain⟨a,cap,rfl,E⟩:=id P;obtain⟨b,V,ro,I,rfl,A⟩:=E e;unfold P2;simp(disch:=omega)only[bl,z0 ag8,seval];have D:aA U h (F h U (.cells [] false)):=aN
 rw[hM]at A;refine⟨λau=>absurd au (by simp),λ_=>?_⟩;rw[Rs (zX _) (aT _ _ _) ((D b I).trans A) ab B];refine⟨.inr ⟨U+1,J,J,rfl,?_⟩,aN,J⟩
 grind
theorem apP{IX hH:X}{A B:Nat->Int}{v3 v4:X}(au:0<N)(d7:N<=60)(fx:cr h U v2 cq (cn N A))(gD:cr h U v3 cq (cn N B))(bc:∃a n c,v4 = .slice a n c)(aj:∃i j:Int,IX = (i:X)/\hH = (j:X)):
  aH Q s 80 [.agg ⟨[IX,hH,v2,v3,v4]⟩] h U (λmD ac Y=>∃v w D,mD = .tuple ⟨[v,w]⟩/\d1 ac v cq 1 (cn N A) U D/\d1 ac w cq 1 (cn N B) D Y/\aA U h ac/\U<=D/\D<=Y):=by
 have I:∀A,cn N A≠[]:=λA e=>by have:=iW N A;rw[e]at this;simp at this;omega
 refine atw ?_;obtain⟨fA,e8,rfl,_⟩:=id fx;obtain⟨fW,fX,rfl,_⟩:=id gD;obtain⟨aZ,d4,fL,rfl⟩:=bc;obtain⟨i,j,rfl,rfl⟩:=aj;unfold ae2;refine aD ?_;have bT:∀{o},aA U h (F h U o):=aN
 refine(YK (fx.T  bT J) (by rw[iW];omega) (I A)).mono ?_;rintro v1 h1 a5 ⟨lH,V,P⟩;refine⟨P,?_⟩;have g1:=(V U J).trans (aT _ _ _);have cP:=bT.trans V J;simp(disch:=omega)only[bl,g1,gk,seval];refine(YK (gD.T  cP J) (by rw[iW];omega) (I B)).mono ?_;rintro v2 ap bX ⟨BX,eW,E⟩;refine⟨E,v1,v2,a5,rfl,?_,BX,aN,J,E⟩;rcases lH with⟨e,_⟩|⟨b,cI,bQ,rfl,d6⟩
 ·exact absurd e (I A)
 ·exact .inr ⟨b,J,bQ,rfl,(eW b bQ).trans d6⟩
end
section
variable {s:al} {h:ae} {U:Nat} {dd src r c:Int} {a:aw Addr} {cap:Nat} {es:aa iy}
theorem atx{R C av:Nat}(A:av<=N+1):ms R C av+R<=4*(R+C+4)*(N+1+2):=by
 unfold ms;have B:av*(2*R+C+2)<=(N+1)*(4*(R+C+4)):=sb A J
 grind
theorem av3(H:pC h U (ib dd src r c es) (.slice none 0 0) gO (.slice none 0 0))(kw:hc (ib dd src r c es)=0)(bv:dd<=30):
  ∃(Z:cb) (av:Nat),yx h U (ib dd src r c es) (.slice none 0 0) gO (.slice none 0 0) Z/\av<900/\(∀t,t<=av->(Z.fS t=0↔t<av))/\BD Z av/\∃W:Nat,DA (ib dd src r c es) (rA dd)=(W:Int)/\ms Z.R Z.C av+Z.R<=W/\W<=99999:=by
 have E:=kw;have V:pI 1 dd src 0 [] dd es (rA dd)=0/\(1<=r/\r<=8)/\1<=c/\c<=8:=by
  have key:∀m:Int,j9 m 8≠false->1<=m/\m<=8:=λm h=>by
   have:j9 m 8=true:=ab
   exact of_decide_eq_true this
  unfold hc ib at kw
  grind
 obtain⟨V,⟨sG,hr8⟩,yV,Ek⟩:=V;have B:jZ 1 dd src 0 [] dd es=0:=by unfold pI at V;omega
 have A:iL 1 dd src 0 []=0:=by
  unfold jZ at B
  omega
 have P:(0<=dd/\dd<=4096)/\0<=src/\src<=dd-1:=by have P:=A;unfold iL at P;omega
 obtain⟨⟨hg0,_⟩,sD,hs1⟩:=P;obtain⟨_,_,_,m,ag,_,dn,kx,iv,_⟩:=ayn (YG  H.d H.e H.l B);obtain⟨N,rfl⟩:∃N:Nat,dd=(N:Int):=⟨dd.toNat,J⟩
 obtain⟨R,rfl⟩:∃R:Nat,r=(R:Int):=⟨r.toNat,J⟩
 obtain⟨C,rfl⟩:∃C:Nat,c=(C:Int):=⟨c.toNat,J⟩
 have bA:rA (N:Int)=((N+1:Nat):Int):=by unfold rA;omega
 rw[Je]at kx iv;have K:fZ ⟨1,src,0,N,R,C,N+1,[],ag⟩:=⟨ab,ab,ab,ab,ab,ab,ab,⟨ab,ab⟩,A,iv,λg a9=>(kx g a9).2.2⟩
 obtain⟨av,I,_,D⟩:=atm ⟨1,src,0,N,R,C,N+1,[],ag⟩;have I:av<=N+1:=I;refine⟨⟨1,src,0,N,R,C,N+1,[],ag⟩,av,⟨K,H,⟨none,0,rfl,λh=>absurd rfl h⟩,rfl,(J:0<1000000),E,⟨rfl,rfl,rfl,rfl,rfl,rfl,rfl,bA⟩,dn⟩,J,D,av1 K rfl ⟨src.toNat,ab,ab⟩ av,4*(R+C+4)*(N+1+2),?_,?_,?_⟩
 ·unfold DA;rw[bA,if_neg (by rw[li J];decide),if_neg (λh=>h E)];have e:((4*(R+C+4)*(N+1+2):Nat):Int)=4*((R:Int)+(C:Int)+4)*(((N+1:Nat):Int)+2):=ab
  exact e.symm
 ·exact atx I
 ·have:4*(R+C+4)*(N+1+2)<=80*33:=sb J J;omega
def ayo(dd src r c:Int)(es:aa iy)(v w:X)(U:Nat)(ac:ae)(Y:Nat):Prop :=
 (hc (ib dd src r c es)≠0/\v = .slice none 0 0/\w = .slice none 0 0) \/
 (hc (ib dd src r c es)=0/\∃(Z:cb) (av zi:Nat),(Z.k=(ib dd src r c es).k/\(ib dd src r c es).n=(Z.N:Int)/\Z.src=(ib dd src r c es).src/\Z.len=(ib dd src r c es).len/\Z.bK=(ib dd src r c es).bK/\(ib dd src r c es).R=(Z.R:Int)/\(ib dd src r c es).C=(Z.C:Int)/\(ib dd src r c es).lim=(Z.lim:Int))/\vh (ib dd src r c es).k ((ib dd src r c es).es.map nu) Z.ag/\(∀t,t<=av->(Z.fS t=0↔t<av))/\0<Z.N /\
  d1 ac v cq 1 (cn Z.N (Z.eo.st av).A) U zi/\d1 ac w cq 1 (cn Z.N (Z.eo.st av).B) zi Y/\U<=zi/\zi<=Y)
theorem ayp{az:Type}{h:ae}{A:az->aa X}{l:aa az}{ao:Nat}(H:d1 h v A k l ao aj)(E:d2<=ao):d1 h v A k l d2 aj:=by
 rcases H with H|⟨b,I,D,B⟩
 ·exact .inl H
 ·exact .inr ⟨b,J,D,B⟩
theorem acW(H:pC h U (ib dd src r c es) (.slice none 0 0) (.slice a es.length cap) (.slice none 0 0))(h1 : -9223372036854775808<=dd)(ap:dd<=9223372036854775807)(bv:dd<=30\/4096<dd):
  aH Q s 16 [.agg ⟨[(dd:X),.slice a es.length cap]⟩,(src:X),(r:X),(c:X)] h U (λmD ac Y=>∃v w,mD = .tuple ⟨[v,w,.int .i64 (hc (ib dd src r c es))]⟩/\aA U h ac/\U<=Y/\ayo dd src r c es v w U ac Y):=by
 refine av2 ?_;unfold ags;refine aD ?_;refine(apN (es:=es) h1 ap).cu λg1 a5 cP f0=>?_;unfold gR;refine aD ?_;generalize kx:F (F g1 a5 _) a5 _=g2;have iH:u g2 a5=some (.cells (gR (ib dd src r c es) (.slice none 0 0) (.slice a es.length cap) (.slice none 0 0)) false):=by rw[<-kx,aT];rfl
 have Kh2:aA U h g2:=aN
 have h4:=H.T (Y:=a5+1) Kh2 J;refine(akV  h4).cu λc6 bW fD V=>?_;have k8:=(fD a5 J).trans iH;have Kh3:aA U h c6:=aN
 have EP:oK (.agg ⟨gR (ib dd src r c es) (.slice none 0 0) (.slice a es.length cap) (.slice none 0 0)⟩) (.agg ⟨gR (ib dd src r c es) (.slice none 0 0) (.slice a es.length cap) (.slice none 0 0)⟩)=true:=by unfold gR;simp(disch:=omega)only[bl,gk,seval]
 unfold gR at iH k8 EP;refine⟨V,?_⟩;refine lh @iH @k8 @sf @EP ?_;have jb:=H.T (Y:=bW) Kh3 J
 by_cases E:hc (ib dd src r c es)=0
 ·have I:dd<=30:=bv.elim id λh=>absurd E λau=>by
   unfold hc ib pI jZ iL at au
   grind
  obtain⟨Z,av,S,e9,D,B,W,vQ,jB,Eg⟩:=av3 jb E I;have P:0<Z.N:=by
   have aW:dd=(Z.N:Int):=S.z.2.1;unfold hc ib pI jZ iL at E
   grind
  rw[show(ib dd src r c es).lim=rA dd from rfl,vQ];refine(atv  S e9 D B jB Eg).mono ?_;rintro _ ed d4 ⟨ly,kv,kb,kO,s7,iw,hj,rfl,⟨dr,fC,ft,ht,fx,gD,gg⟩,gG,A⟩;simp only[Value.agg.injEq,xQ,v0,ik]at ht;obtain⟨rfl,rfl,rfl,rfl,rfl⟩:=ht;obtain⟨hH,cB,rfl,_⟩:=id fx;obtain⟨iQ,cE,rfl,_⟩:=id gD;obtain⟨hI,cg,rfl,_⟩:=id gg;refine⟨A,?_⟩;refine aD ?_;have jp:∀{o a0},aA d4 ed (F (F ed d4 o) d4 a0):=aN
  refine(apP P S.K.n60 (fx.rd.T jp J) (gD.rd.T jp J) ⟨_,_,_,rfl⟩ ⟨_,_,rfl,rfl⟩).mono ?_;rintro _ oy n6 ⟨v,w,zi,rfl,zz,BV,zs,n2,tI⟩;refine aD ?_;have A1':=zz;exact⟨v,w,by rw[E],aN,J,.inr ⟨E,Z,av,zi,S.z,S.ag,D,P,ayp zz J,BV,J,J⟩⟩
 ·refine(apO  jb E).cu λed d4 gG A=>⟨A,?_⟩
  have aO:(hc (ib dd src r c es) == 0)=false:=ab
  unfold zR9;refine bh @aO ?_;exact⟨_,_,rfl,aN,J,.inl ⟨E,rfl,rfl⟩⟩
end
def Iy:aa X:=[.int .i64 0,.int .i64 1,.int .i64 5,.int .i64 1,.int .i64 2,.int .i64 5]
def Vh:aa X:=[.int .i64 0,.int .i64 1,.int .i64 2,.int .i64 (-1)]
def Vi:aa X:=[.int .i64 (-1),.int .i64 0,.int .i64 1,.int .i64 (-1)]
def LK(h:ae)(b U:Nat):al:=Nat.blt b U&&(match u h b with|some (.cells cs false)=>oK (.agg ⟨cs⟩) (.agg ⟨Iy⟩)|_=>false)
def oe(args:aa X)(h:ae)(U:Nat)(K:bR):Prop:=match args with
 | [.agg ⟨[.int .i64 n,.slice (some ⟨b,0,aS⟩) l cap]⟩,.int .i64 src,.int .i64 r,.int .i64 c]=>BM (f2 n 4&&Nat.beq l 2&&LK h b U)
  (Bool.rec (BM (f2 src 4&&f2 r 1&&f2 c 1) (K (.tuple ⟨[.slice none 0 0,.slice none 0 0,.int .i64 3]⟩) h U))
   (K (.tuple ⟨[.slice (some ⟨U,0,some 1⟩) 4 4,.slice (some ⟨U+1,0,some 1⟩) 4 4,.int .i64 0]⟩) (F (F h U (.cells Vh false)) (U+1) (.cells Vi false)) (U+1+1)) (f2 src 0&&f2 r 2&&f2 c 2))
 |_=>False
def Ta(args:aa X)(h:ae)(U:Nat)(K:bR):Prop:=match args with
 | [.int .i64 r,.slice (some ⟨b,0,aS⟩) l cap]=>BM (f2 r 1&&Nat.beq l 2&&LK h b U) (K (.tuple ⟨[.slice (some ⟨U,0,some 3⟩) 2 2,.int .i64 0]⟩) (F h U (.cells Iy false)) (U+1))
 |_=>False
def Vj(f:FuncId):aw (aa X->ae->Nat->bR->Prop):=bif Nat.beq f 16 then some oe else bif Nat.beq f 172 then some Ta else none
def lvT(f:FuncId):aa (aa Nat):=match([(19,[[0,1,4,5]]),(51,[[0,1,4,5]]),(81,[[0,1,6,7,8,9]]),(82,[[3,6,7,8],[3,5,6,7,8]]),(84,[[1,2,4,5,12,13],[4,5,6,7],[4,5,6,7,8,44,45,46]]),(85,[[0,1,4,12,13]]),(162,[[0,2,3]]),(167,[[3,11,12,13]]),(255,[[0,1,4,7,8]])]:aa (Nat × aa (aa Nat))).find? λp=>Nat.beq p.1 f with
 |some p=>p.2
 |none=>[]
def aCG(v:X):Prop:=match v with | .bool true=>True|_=>False
@[irreducible] def Vk(n m:Nat):Prop:=Mh Q lvT Vj n m 18 [] iN 0 (λv _ _=>aCG v)
theorem aty:Vk 30 20=True:=by kernel_rfl
def Iz:aa GE:=[⟨0,1,5⟩,⟨1,2,5⟩]
theorem acX{h:ae}{b U:Nat}(e:LK h b U=true):b<U/\u h b=some (.cells Iy false):=by
 unfold LK at e;simp only[eB]at e;refine⟨Jd (by simpa[v6]using e.1) (cD _),?_⟩;have aK:=e.2
 split at aK
 ·rename_i cs A
  rw[A,Ct (x:=cs) (y:=Iy) aK]
 ·cases aK
theorem av4{a b:aa GE}(h:a.map dE=b.map dE):a=b:=List.map_inj_right (λx y h=>RI h) |>.1 h
theorem ae3{a b:aa GE}(aq:(a.map dE).Pairwise jN)(h:jq (a.map dE) (b.map dE)):b=a:=av4 (h.unique (jq.self aq))
theorem atz{h:ae}{U:Nat}(A:Ta args h U K)(s:al):aH Q s 172 args h U K:=by
 unfold Ta at A
 split at A
 ·rename_i r b V l cap
  obtain⟨e,B⟩:=Az A;simp only[eB]at e;obtain⟨⟨aW,aK⟩,cf⟩:=e;obtain⟨P,a9⟩:=acX cf;rw[x5.1 aW,gm aK];have aG:fF h U (.slice (some ⟨b,0,V⟩) 2 cap) jX (Iz.map dE):=⟨_,_,rfl,λ_=>⟨b,V,false,[],P,rfl,a9⟩⟩
  have aq:(Iz.map dE).Pairwise jN:=by simp[Iz,dE,jN]
  refine aH.m5 (val:=λb=>.tuple ⟨[.slice (some ⟨b,0,some 3⟩) 2 2,.int .i64 0]⟩) (cs:=Iy) rfl W9 ((aec aG (λx A=>?_) (by decide)).mono ?_) B
  ·simp[Iz,dE]at A;rcases A with rfl|rfl <;> exact⟨rfl,rfl,rfl⟩
  ·rintro _ ac Y ⟨v2,l,rfl,I,cL,bg,D,B⟩;have e:l=Iz.map dE:=(ZI bg D).unique (jq.self aq);subst e;rcases I with⟨e,_⟩|⟨b,E,fm,rfl,P⟩
   ·cases e
   ·exact⟨b,rfl,E,P,B⟩
 ·exact A.elim
def zj:cb:=⟨1,0,0,4,2,2,5,[],[⟨1,0,1⟩,⟨2,1,1⟩]⟩
theorem ayq:zj.fS 0=0:=by kernel_rfl
theorem ayr:zj.fS 1=0:=by kernel_rfl
theorem ays:zj.fS 2=0:=by kernel_rfl
theorem ayt:zj.fS 3=1:=by kernel_rfl
theorem ayu:bd cq (cn 4 (zj.eo.st 3).A)=Vh:=by kernel_rfl
theorem ayv:bd cq (cn 4 (zj.eo.st 3).B)=Vi:=by kernel_rfl
def Hs:aa iy:=[(0,1,5),(1,2,5)]
theorem av5{h:ae}{U:Nat}(aY:oe args h U K)(s:al):aH Q s 16 args h U K:=by
 unfold oe at aY
 split at aY
 ·rename_i n b aS l cap src r c
  obtain⟨e,E⟩:=Az aY;simp only[eB]at e;obtain⟨⟨aW,aK⟩,cf⟩:=e;obtain⟨aO,a9⟩:=acX cf;cases x5.1 aW;cases gm aK;have aG:fF h U (.slice (some ⟨b,0,aS⟩) 2 cap) iz Hs:=⟨_,_,rfl,λ_=>⟨b,aS,false,[],aO,rfl,a9⟩⟩
  have I:∀lx,aH Q lx 16 [.agg ⟨[.int .i64 4,.slice (some ⟨b,0,aS⟩) 2 cap]⟩,(src:X),(r:X),(c:X)] h U _:=λlx=>acW (es:=Hs) (s:=lx) ⟨⟨none,0,rfl,λh=>absurd rfl h⟩,aG,⟨none,0,rfl⟩,.inl (J:2<=60)⟩ J J (.inl J);cases V:(f2 src 0&&f2 r 2&&f2 c 2)with
  |true =>
   rw[V]at E;simp only[eB,x5]at V;obtain⟨⟨rfl,rfl⟩,rfl⟩:=V;refine aH.sl2 (val:=λcI bQ=>.tuple ⟨[.slice (some ⟨cI,0,some 1⟩) 4 4,.slice (some ⟨bQ,0,some 1⟩) 4 4,.int .i64 0]⟩) (c1:=Vh) (c2:=Vi) rfl rfl (λai bn=>aix ai bn) ((I false).mono ?_) E;rintro _ ac Y ⟨v,w,rfl,B,dO,⟨D,_⟩|⟨D,Z,av,zi,cL,lQ,A,_,zz,BV,TD,nr⟩⟩
   ·exact absurd (by kernel_rfl) D
   have aEe:Z=zj:=by
    obtain⟨k,eP,len,N,R,C,P,bK,ag⟩:=Z;obtain⟨h3,z2,z3,z4,r4,s6,ph,xH⟩:=cL;have aK:(4:Int)=(N:Int):=z2;have h2:(2:Int)=(R:Int):=s6;have gy:(2:Int)=(C:Int):=ph;have zw:(5:Int)=(P:Int):=xH;have aW:k=1:=h3;have cf:eP=0:=z3;have dT:len=0:=z4;have h5:bK=[]:=r4;have ci:wI (Hs.map nu) ag:=lQ;obtain⟨cs,yV,nq⟩:=ci;have BL:cs=[⟨0,1,1⟩,⟨1,2,1⟩]:=ae3 (a:=[⟨0,1,1⟩,⟨1,2,1⟩]) (by simp[dE,jN]) yV;subst BL;have zn:ag=[⟨1,0,1⟩,⟨2,1,1⟩]:=ae3 (a:=[⟨1,0,1⟩,⟨2,1,1⟩]) (by simp[dE,jN]) nq;subst zn aW cf dT h5;obtain rfl:N=4:=J
    obtain rfl:R=2:=J
    obtain rfl:C=2:=J
    obtain rfl:P=5:=J
    rfl
   subst aEe;have e9:av=3:=by
    rcases h8 av 3 with h1|h1
    ·have:=(A av (cD _)).1 (by
      obtain rfl|rfl|rfl:av=0\/av=1\/av=2:=J
      ·exact ayq
      ·exact ayr
      ·exact ays)
     omega
    ·rcases h8 3 av with ap|ap
     ·have:=(A 3 J).2 ap;rw[ayt]at this;cases this
     ·omega
   subst e9;rw[D];have nO:zj.N=4:=rfl;rw[nO]at zz BV;rcases zz with⟨e,_⟩|⟨cI,dH,dl,rfl,de⟩
   ·cases e
   rcases BV with⟨e,_⟩|⟨bQ,jo,lb,rfl,ew⟩
   ·cases e
   rw[ayu]at de;rw[ayv]at ew;exact⟨cI,bQ,rfl,dH,J,J,de,ew,B⟩
  |false =>
   rw[V]at E;obtain⟨dT,E⟩:=Az E;simp only[eB,x5]at dT;obtain⟨⟨rfl,rfl⟩,rfl⟩:=dT;refine aH.plain (v:=.tuple ⟨[.slice none 0 0,.slice none 0 0,.int .i64 3]⟩) rfl ((I false).mono ?_) E;rintro _ ac Y ⟨v,w,rfl,B,dO,⟨D,rfl,rfl⟩|⟨D,_⟩⟩
   ·exact⟨by rw[show hc (ib 4 4 1 1 Hs)=3 by kernel_rfl],B⟩
   ·rw[show hc (ib 4 4 1 1 Hs)=3 by kernel_rfl]at D;cases D
 ·exact aY.elim
theorem av6{f:FuncId}{g:aa X->ae->Nat->bR->Prop}(A:Vj f=some g){h:ae}{U:Nat}(E:g args h U K)(s:al):aH Q s f args h U K:=by
 unfold Vj at A;cases D:Nat.beq f 16 with
 |true =>
  rw[D]at A;cases A;rw[gm D];exact av5 E s
 |false =>
  rw[D]at A;cases B:Nat.beq f 172 with
  |true =>
   rw[B]at A;cases A;rw[gm B];exact atz E s
  |false=>rw[B]at A;cases A
theorem atA{n m:Nat}(e:Vk n m):aH Q false 18 [] iN 0 (λv _ _=>v = .bool true):=
 (adv l1 (λf g D args h U K B s=>av6 D B s) m false 18 [] iN 0 _ (by unfold Vk at e;exact e)).mono λv _ _ A=>by
  unfold aCG at A
  split at A
  ·rfl
  ·exact A.elim
theorem av7{s:al}{h:ae}{U:Nat}:aH Q s 18 [] h U (fr (.bool true) U h):=aH.home (b:=true) (atA (of_eq_true aty)) ⟨rfl,rfl,rfl⟩
def RL:aa (aa Nat):=[[3,11,12,13]]
def acY(s:al)(a3 d3 dI e5:X)(h:ae)(U:Nat)(N:aP)(aE:aP)(R:aP):Prop:=cF e5 dI (hw 3 h 3 d3 e5 λc=>b1 [(ad 0),(ad 0),(ad 0)] h U λd e f=>af (aU e 3 d c) λg=>ax g 0 d λj=>dL g 1 a3 j λl=>ax g 1 d λn=>dS (eV 1 [(ad 0)] [(0,1,n)]) g f λo p q=>dD (dU (dM 1 p q l o)) λr t aI=>q<=aI/\bo 0 d λv=>bS t v λw=>cZ v w (hJ 1 a3 w λx=>af (aU t 1 x r) λy=>b9 e5 λz=>N [a3,d3,dI,z] y aI) 1 [g]) (aE [a3,d3,dI,e5] h U)
def agt:cS:=λs ah h U K=>bI ah h U λa b c=>ax b 0 a λe=>dS (sr [ay] e e) b c λf g i=>aR 2 g a λj=>aX s 98 [j] g i λk l m=>af (va 1 none k) λn=>cO n λo=>bC (bN Q s RL 167 0) [f,n,o,(ad 0)] l m [(0,λp q r=>K (a8 p 0) q r)] (λ_ _ _=>False)
theorem atB{s:al}{h:ae}{U:Nat}{N:aP}:bN Q s RL 167 0 [a3,d3,dI,e5] h U N [(0,aE)] R=acY s a3 d3 dI e5 h U N aE R:=by kernel_rfl
theorem av8:cT 167 agt:=cV RL
def Ar:aa (aa Nat):=[[1,2,4,5,12,13],[4,5,6,7],[4,5,6,7,8,44,45,46]]
def acZ(s:al)(aB a2 aZ bt dI e5:X)(h:ae)(U:Nat)(N:aP)(aE:aP)(R:aP):Prop:=cF e5 dI (dS (eV 1 [(ad 0)] [(0,1,(ad (-1)))]) h U λb c d=>dD (dU (dM 1 c d aZ b)) λe f g=>dS (eV 1 [(ad 0)] [(0,1,(ad (-1)))]) f g λi j k=>dD (dU (dM 1 j k bt i)) λl m n=>b9 e5 λo=>N [aB,a2,e,l,dI,o] m n) (aE [aB,a2,aZ,bt,dI,e5] h U)
def CM(s:al)(N:aP)(dT:aP)(R:aP)(df d8 eh fe hm y44 y45 y46:X)(au:ae)(a4:Nat):Prop:=b9 y46 λa=>N [df,d8,eh,fe,hm,y44,y45,a] au a4
def ac0(s:al)(aZ bt bm a6 br qM sK Et:X)(h:ae)(U:Nat)(N:aP)(dT:aP)(R:aP):Prop:=cF Et sK (dL h 1 qM Et λc=>dL h 1 aZ c λe=>bw .lss 2 e (ad 0) (dL h 1 aZ br λi=>bH .add 2 i (ad 1) λj=>hJ 1 aZ c λk=>af (aU h 1 k j) λl=>hJ 1 bt c λm=>af (aU l 1 m br) λn=>dS (eV 1 [(ad 0)] [(0,1,c)]) n U λo p q=>dD (dU (dM 1 p q a6 o)) λr t aI=>(CM s N dT R aZ bt bm r br qM sK Et t aI)) (dL h 1 aZ c λw=>dL h 1 aZ br λy=>bH .add 2 y (ad 1) λz=>bw .eql 2 w z (dL h 1 bt c λbL=>af (min2 true bL br) λbk=>hJ 1 bt c λbV=>af (aU h 1 bV bk) λca=>(CM s N dT R aZ bt bm a6 br qM sK Et ca U)) (CM s N dT R aZ bt bm a6 br qM sK Et h U))) (dT [aZ,bt,bm,a6,br,qM,sK,Et] h U)
def ac1(s:al)(aZ bt bm a6:X)(h:ae)(U:Nat)(N:aP)(aK:aP)(R:aP):Prop:=cO a6 λa=>bw .eql 3 a (ad 0) (aK [aZ,bt,bm,a6] h U) (dL h 1 a6 (ad 0) λd=>cO a6 λe=>cO a6 λf=>af (gS 1 a6 (some (ad 1)) (some e) (some f)) λg=>dL h 1 bm d λj=>cO j λk=>bC (bN Q s Ar 84 2) [aZ,bt,bm,g,d,j,k,(ad 0)] h U [(4,λl m n=>N [(a8 l 0),(a8 l 1),(a8 l 2),(a8 l 3)] m n)] (λ_ _ _=>False))
def agu:c0:=λs ah t1 h U K=>bI ah h U λa b c=>ax b 0 a λe=>bC (bN Q s Ar 84 0) [t1,a,ay,ay,e,(ad 0)] b c [(0,λf g i=>aR 2 g (a8 f 1) λj=>aX s 167 [j] g i λk l m=>hJ 1 (a8 f 2) (a8 f 0) λn=>af (aU l 1 n (ad 0)) λo=>dS (eV 1 [(ad 0)] [(0,1,(a8 f 0))]) o m λp q r=>bC (bN Q s Ar 84 1) [(a8 f 2),(a8 f 3),k,p] q r [(2,λt aI v=>K (.tuple ⟨[(a8 t 0),(a8 t 1)]⟩) aI v)] (λ_ _ _=>False))] (λ_ _ _=>False)
theorem atC{s:al}{h:ae}{U:Nat}{N:aP}:bN Q s Ar 84 0 [aB,a2,aZ,bt,dI,e5] h U N [(0,aE)] R=acZ s aB a2 aZ bt dI e5 h U N aE R:=by kernel_rfl
theorem atD{s:al}{B D A:X}{h:ae}{U:Nat}{N:aP}:bN Q s Ar 84 2 [aZ,bt,bm,a6,br,B,D,A] h U N [(4,dT)] R=ac0 s aZ bt bm a6 br B D A h U N dT R:=by kernel_rfl
theorem atE{s:al}{h:ae}{U:Nat}{N:aP}:bN Q s Ar 84 1 [aZ,bt,bm,a6] h U N [(2,aK)] R=ac1 s aZ bt bm a6 h U N aK R:=by kernel_rfl
theorem av9:c4 84 agu:=c5 Ar
def KU(s:al)(K:bR)(cB cE cg df TM:X)(au:ae)(a4:Nat):Prop:=bu TM (K (.bool false) au a4) (aR 2 au df λa=>aX s 84 [a,cB] au a4 λb c d=>af (cp b 0) λe=>af (cp b 1) λf=>aX s 85 [e,cE] c d λg i j=>bu g (aX s 85 [f,cg] i j λk l m=>K k l m) (K (.bool false) i j))
def ahE:s2:=λs ah t1 t2 t3 h U K=>bI ah h U λa b c=>aR 2 b a λd=>aX s 83 [d] b c λe f g=>lA e (KU s K t1 t2 t3 a (.bool true) f g) (cF t1 (ad 0) (KU s K t1 t2 t3 a (.bool true) f g) (ax f 0 a λl=>bH .geq 3 t1 l λm=>(KU s K t1 t2 t3 a m f g)))
theorem ayw:uo 21 ahE:=vw []
def AF:aa (aa Nat):=[[1,2,5,6],[2,5,7],[2,5,7,8]]
def ae4(s:al)(aB a2 bt bm:X)(h:ae)(U:Nat)(N:aP)(aE:aP)(R:aP):Prop:=ax h 0 a2 λb=>cF bm b (dS (eV 1 [(ad 0)] [(0,1,(ad (-1)))]) h U λd e f=>dD (dU (dM 1 e f bt d)) λg i j=>b9 bm λk=>N [aB,a2,g,k] i j) (aE [aB,a2,bt,bm] h U)
def C3(s:al)(N:aP)(dT:aP)(R:aP)(cE d8 fe hm:X)(au:ae)(a4:Nat):Prop:=b9 hm λa=>N [cE,d8,fe,a] au a4
def ae5(s:al)(a2 bt a6 br:X)(h:ae)(U:Nat)(N:aP)(dT:aP)(R:aP):Prop:=ax h 1 a2 λb=>cO b λc=>cF br c (ax h 1 a2 λf=>hw 3 h 3 f br λi=>b1 [(ad 0),(ad 0),(ad 0)] h U λj k l=>af (aU k 3 j i) λm=>ax m 0 j λo=>dL m 1 bt o λq=>bw .eql 2 q a6 (ax m 1 j λaI=>dL m 1 bt aI λw=>bw .eql 2 w (ad (-1)) (ax m 1 j λz=>bH .add 2 a6 (ad 1) λbD=>hJ 1 bt z λbU=>af (aU m 1 bU bD) λbL=>(C3 s N dT R a2 bt a6 br bL l)) (C3 s N dT R a2 bt a6 br m l)) (C3 s N dT R a2 bt a6 br m l)) (dT [a2,bt,a6,br] h U)
def ae6(s:al)(a2 bt a6:X)(h:ae)(U:Nat)(N:aP)(aK:aP)(R:aP):Prop:=ax h 0 a2 λb=>cF a6 b (bC (bN Q s AF 17 2) [a2,bt,a6,(ad 0)] h U [(4,λd e f=>b9 (a8 d 2) λg=>N [(a8 d 0),(a8 d 1),g] e f)] (λ_ _ _=>False)) (aK [a2,bt,a6] h U)
def ahF:c0:=λs ah t1 h U K=>bI ah h U λa b c=>bC (bN Q s AF 17 0) [t1,a,ay,(ad 0)] b c [(0,λd e f=>hJ 1 (a8 d 2) (a8 d 0) λg=>af (aU e 1 g (ad 0)) λi=>bC (bN Q s AF 17 1) [(a8 d 1),(a8 d 2),(ad 0)] i f [(2,λj k l=>K (a8 j 1) k l)] (λ_ _ _=>False))] (λ_ _ _=>False)
theorem awa{s:al}{h:ae}{U:Nat}{N:aP}:bN Q s AF 17 0 [aB,a2,bt,bm] h U N [(0,aE)] R=ae4 s aB a2 bt bm h U N aE R:=by kernel_rfl
theorem awb{s:al}{h:ae}{U:Nat}{N:aP}:bN Q s AF 17 2 [a2,bt,a6,br] h U N [(4,dT)] R=ae5 s a2 bt a6 br h U N dT R:=by kernel_rfl
theorem awc{s:al}{h:ae}{U:Nat}{N:aP}:bN Q s AF 17 1 [a2,bt,a6] h U N [(2,aK)] R=ae6 s a2 bt a6 h U N aK R:=by kernel_rfl
theorem ayx:c4 17 ahF:=c5 AF
def G6:aa (aa Nat):=[[1,2,5,6],[1,2,5,6,7,8]]
def As(s:al)(N:aP)(aK:aP)(R:aP)(cB cE d8 eh fe hm qf Io:X)(au:ae)(a4:Nat):Prop:=bu Io (ax au 0 qf λb=>b9 hm λc=>N [cB,cE,d8,eh,b,c] au a4) (b9 hm λd=>N [cB,cE,d8,eh,fe,d] au a4)
def ae7(s:al)(aB a2 bt bm a6 br:X)(h:ae)(U:Nat)(N:aP)(aK:aP)(R:aP):Prop:=ax h 1 a2 λb=>cO b λc=>cF br c (ax h 1 a2 λf=>hw 3 h 3 f br λi=>b1 [(ad 0),(ad 0),(ad 0)] h U λj k l=>af (aU k 3 j i) λm=>ax m 1 j λo=>bw .eql 3 o bm (dL m 1 aB bm λr=>bw .gtr 2 r (ad 0) (ax m 0 j λv=>dL m 1 aB v λx=>dL m 1 aB bm λz=>bH .sub 2 z (ad 1) λbD=>bw .eql 2 x bD (bw .eql 2 a6 (ad (-1)) (As s N aK R aB a2 bt bm a6 br j (.bool true) m l) (ax m 0 j λbV=>bH .lss 2 bV a6 λca=>(As s N aK R aB a2 bt bm a6 br j ca m l))) (As s N aK R aB a2 bt bm a6 br j (.bool false) m l)) (As s N aK R aB a2 bt bm a6 br j (.bool false) m l)) (As s N aK R aB a2 bt bm a6 br j (.bool false) m l)) (aK [aB,a2,bt,bm,a6,br] h U)
def ae8(s:al)(aB a2 bt bm:X)(h:ae)(U:Nat)(N:aP)(aE:aP)(R:aP):Prop:=ax h 0 a2 λb=>cF bm b (bC (bN Q s G6 20 1) [aB,a2,bt,bm,(ad (-1)),(ad 0)] h U [(2,λd e f=>dS (eV 1 [(ad 0)] [(0,1,(a8 d 4))]) e f λg i j=>dD (dU (dM 1 i j (a8 d 2) g)) λk l m=>b9 (a8 d 3) λn=>N [(a8 d 0),(a8 d 1),k,n] l m)] (λ_ _ _=>False)) (aE [aB,a2,bt,bm] h U)
def ahG:c0:=λs ah t1 h U K=>bI ah h U λa b c=>bC (bN Q s G6 20 0) [t1,a,ay,(ad 0)] b c [(0,λd e f=>K (a8 d 2) e f)] (λ_ _ _=>False)
theorem awd{s:al}{h:ae}{U:Nat}{N:aP}:bN Q s G6 20 1 [aB,a2,bt,bm,a6,br] h U N [(2,aK)] R=ae7 s aB a2 bt bm a6 br h U N aK R:=by kernel_rfl
theorem awe{s:al}{h:ae}{U:Nat}{N:aP}:bN Q s G6 20 0 [aB,a2,bt,bm] h U N [(0,aE)] R=ae8 s aB a2 bt bm h U N aE R:=by kernel_rfl
theorem ayy:c4 20 ahG:=c5 G6
def ac4:cS:=λs ah h U K=>bI ah h U λa b c=>aR 5 b a λd=>aX s 15 [d] b c λe f g=>af (cp e 0) λi=>af (cp e 1) λj=>af (cp e 2) λk=>af (cp e 3) λl=>b1 [(ad 0),ay] f g λm n o=>af (aU n 2 m i) λp=>aR 2 p m λq=>aX s 16 [q,j,k,l] p o λr t aI=>af (cp r 0) λv=>af (cp r 1) λw=>af (cp r 2) λx=>aR 2 t m λy=>aX s 17 [y,j] t aI λz bD bU=>aX s 18 [] bD bU λbL bk bV=>bu bL (bw .eql 30 x (ad 0) (aX s 19 [v,z] bk bV λbO cM cG=>bu bO (aR 2 cM m λds=>aX s 20 [ds,z] cM cG λdh ey am=>aX s 19 [w,dh] ey am λan ez f9=>bu an (aR 2 ez m λgw=>aX s 21 [gw,j,v,w] ez f9 λgl hT iu=>K gl hT iu) (K (.bool false) ez f9)) (K (.bool false) cM cG)) (K (.bool false) bk bV)) (K (.bool false) bk bV)
theorem apQ:cT 3 ac4:=cV []
theorem QT{i:Nat}(A:cs[i]? = some e):hV (some 3) (i*3) (bd cX cs) = .ok (.agg ⟨[(e.f:X),(e.t:X),(e.w:X)]⟩):=by have B:=tm (enc:=cX) (k:=3) (λ_=>rfl) A;have aj:=(hn.1 A).1;rw[pq,if_pos (by rw[gc (k:=3) (λ_=>rfl)];omega),B];rfl
def SvJ(l bY:aa Int)(v dF:X)(h:ae)(U:Nat)(m:Nat)(aF:aa X)(ac:ae)(Y:Nat):Prop :=
 ∃i,m=l.length-i/\i<=l.length/\aF=[v,dF,.bool false,(i:X)]/\ac=h/\Y=U/\l.take i=bY.take i
theorem ac5{s:al}{h:ae}{U:Nat}{l:aa Int}(aG:cr h U v cq l)(I:cr h U dF cq bY)(bA:l.length<1000000):
  aH Q s 19 [v,dF] h U (fr (.bool (decide (l=bY))) U h):=by
 refine auw ?_;obtain⟨a,cap,rfl,a1⟩:=id aG;obtain⟨eb,E,rfl,tS⟩:=id I;unfold afu;refine aD ?_;refine⟨λA=>?_,λbP=>?_⟩
 ·have:¬l=bY:=λe=>by subst e;simp at A
  exact⟨by simp[this],rfl,rfl⟩
 have bP:l.length=bY.length:=by
  have ap:(l.length:Int)=(bY.length:Int):=by simpa using bP
  omega
 refine bC.mk (SvJ l bY (.slice a l.length cap) (.slice eb bY.length E) h U) l.length ⟨0,rfl,J,rfl,rfl,rfl,rfl⟩ ?_;rintro m _ _ _ ⟨i,rfl,aj,rfl,rfl,rfl,ci⟩;rw[aqW];unfold abo;refine aD ?_;refine⟨λV=>?_,λeM=>?_⟩
 ·obtain⟨x,P⟩:=dR V;obtain⟨y,B⟩:=dR (l:=bY) (i:=i) J;obtain⟨_,b,aS,ro,c1,aO,aW,a9⟩:=aG.at P;obtain⟨_,ce,Ed,Ih,Ir,gK,BG,D⟩:=I.at B;cases aW;cases BG;rw[hM]at a9 D;simp(disch:=omega)only[bl,a9,D,hN P,hN B,seval];refine⟨λA=>?_,λIA=>?_⟩
  ·have:¬l=bY:=λe=>by subst e;rw[P]at B;cases B;simp at A
   exact⟨by simp[this],rfl,rfl⟩
  ·have HD:x=y:=by simpa using IA
   subst HD;refine⟨l.length-(i+1),J,i+1,rfl,J,by rw[cv J],rfl,rfl,?_⟩;rw[ho,ho,P,B,ci]
 ·have:i=l.length:=J
  subst this;rw[hC,bP,hC]at ci;exact⟨by simp[ci],rfl,rfl⟩
def aAx(N eP:Nat)(aV:aa GE)(U:Nat)(h:ae):bR:=λr ac Y=>∃l,lr N aV eP l/\cr ac Y r cq l/\aA U h ac/\U<=Y
def aAy(N eP:Nat)(o:fJ)(U:Nat)(h:ae)(m:Nat)(aF:aa X)(ac:ae)(Y:Nat):Prop :=
 ∃(i:Nat) (v:X),m=N-i/\i<=N/\aF=[(eP:X),bf U,v,(i:X)]/\d1 ac v cq 1 (List.replicate i (-1)) (U+1) Y/\u ac U=some o/\aA U h ac/\U+1<=Y
def aAz(N eP:Nat)(aV:aa GE)(b:Nat)(o:fJ)(U:Nat)(h:ae)(m:Nat)(aF:aa X)(ac:ae)(Y:Nat):Prop :=
 ∃(k:Nat) (l:aa Int),m=N-k/\k<=N/\aF=[bf U,.slice (some ⟨b,0,some 1⟩) N N,(k:X)]/\nk N aV eP k 0 l/\u ac b=some (.cells (gA l) false)/\u ac U=some o/\aA U h ac/\b<Y
def aAA(N eP k:Nat)(aV:aa GE)(b:Nat)(o:fJ)(U:Nat)(h:ae)(m:Nat)(aF:aa X)(ac:ae)(Y:Nat):Prop :=
 ∃(i:Nat) (l:aa Int),m=aV.length-i/\i<=aV.length/\aF=[bf U,.slice (some ⟨b,0,some 1⟩) N N,(k:X),(i:X)]/\nk N aV eP k i l/\u ac b=some (.cells (gA l) false)/\u ac U=some o/\aA U h ac/\b<Y
theorem awf{s:al}{h:ae}{U:Nat}(aG:cr h U v cX aV)(d7:N<=100000)(oY:eP<N)(hF:∀g∈aV,gT N g)(bA:aV.length<=60):
  aH Q s 17 [.agg ⟨[(N:X),v]⟩,(eP:X)] h U (aAx N eP aV U h):=by
 refine ayx ?_;obtain⟨a,cap,rfl,a1⟩:=id aG;unfold ahF;refine aD ?_;refine bC.mk (aAy N eP (.cells [(N:X),.slice a aV.length cap] false) U h) N ⟨0,_,rfl,J,rfl,.inl ⟨rfl,rfl⟩,aT _ _ _,λb aO=>ar J,cD _⟩ ?_;rintro m _ ap jh ⟨i,v1,rfl,aj,rfl,S,cJ,hk,dO⟩;rw[awa];unfold ae4;obtain⟨aB,a5,c1,rfl⟩:=S.form;refine bh @cJ ?_;refine⟨λct=>?_,λeM=>?_⟩
 ·refine lJ (k:=1) (enc:=cq) (λ_=>rfl) (λ_=>rfl) J (S.T ab J) J (-1) (aT _ _ _) rfl (by simp;omega) ?_;intro v3 aM Ig e1
  (try simp(disch:=omega)only[bl,seval])
  rw[cv J];refine⟨N-(i+1),J,i+1,_,rfl,J,rfl,?_,?_,?_,J⟩
  ·rw[NG];exact Ig.T ab J
  ·rw[e1 U J,ar J];exact cJ
  ·intro c V;rw[e1 c J,ar J];exact hk c V
 have:i=N:=J
 subst this;rcases S with⟨e,_⟩|⟨b,cj,iH,e,g1⟩
 ·have:=congrArg List.length e;simp at this;omega
 cases e;rw[hM]at g1;simp only[ET];simp(disch:=omega)only[bl,g1,ET,seval];refine⟨oY,?_⟩;refine bC.mk (aAz i eP aV b (.cells [(i:X),.slice a aV.length cap] false) U h) i ⟨0,_,rfl,J,rfl,nk.init oY,aT _ _ _,by rw[ar J];exact cJ,λc V=>by rw[ar J];exact hk c V,iH⟩ ?_;rintro m _ bc D4 ⟨k,l,rfl,eW,rfl,E,g2,c6,B,A⟩;rw[awc];unfold ae6;refine bh @c6 ?_;refine⟨λct=>?_,λeM=>?_⟩
 ·refine bC.mk (aAA i eP k aV b (.cells [(i:X),.slice a aV.length cap] false) U h) aV.length ⟨0,l,rfl,J,rfl,E,g2,c6,B,A⟩ ?_;clear E g2 c6 B A;rintro m _ b3 IB ⟨j,l,rfl,bZ,rfl,E,g2,c6,B,A⟩;rw[awb];unfold ae5;refine bh @c6 ?_;refine⟨λIe=>?_,λeM=>?_⟩
  ·obtain⟨e,bP⟩:=dR Ie;have D:=hF e (kz bP);obtain⟨_,ce,Ed,Ih,Ir,gK,BG,sS⟩:=aG.at bP;cases BG;have rR:=(B ce gK).trans sS;have I:=E.len;obtain⟨x,aY⟩:=dR (l:=l) (i:=e.f) (by rw[I];exact D.1);obtain⟨y,cd⟩:=dR (l:=l) (i:=e.t) (by rw[I];exact D.2.1);have pR:=D.1;have mS:=D.2.1;simp(disch:=omega)only[bl,rR,QT bP,g2,c6,hN aY,hN cd,seval];refine⟨λP=>?_,λP=>?_⟩
   ·refine⟨λVl=>?_,λVl=>?_⟩
    ·have aW:y = -1:=by simpa using Vl
     have aK:x=(k:Int):=by simpa using P
     subst aW aK;unfold C3;refine hx @g2 (cv (J:k<1000000000000)) (cv (J:j<1000000000000)) ?_;refine⟨J,?_⟩
     (try simp(disch:=omega)only[bl,cv (J:j<1000000000000),seval])
     refine⟨aV.length-(j+1),J,j+1,_,rfl,J,rfl,E.step bP aY cd,aT _ _ _,ab,aN,J⟩
    ·unfold C3;refine bh (cv (J:j<1000000000000)) ?_;refine⟨aV.length-(j+1),J,j+1,_,rfl,J,rfl,E.skip bP mS (λeZ=>?_),ab,ab,aN,J⟩;rw[cd]at eZ;have:=eZ.2;simp at this;simp[this]at Vl
   ·unfold C3;refine bh (cv (J:j<1000000000000)) ?_;refine⟨aV.length-(j+1),J,j+1,_,rfl,J,rfl,E.skip bP mS (λeZ=>?_),ab,ab,aN,J⟩;rw[aY]at eZ;have:=eZ.1;simp at this;simp[this]at P
  ·have:j=aV.length:=J
   subst this
   (try simp(disch:=omega)only[bl,cv (J:k<1000000000000),seval])
   exact⟨i-(k+1),J,k+1,l,rfl,J,rfl,E.next,g2,c6,B,A⟩
 ·have:k=i:=J
  subst this;have eD:=E.done;refine⟨l,eD,⟨some ⟨b,0,some 1⟩,k,by rw[eD.len],λ_=>⟨b,some 1,false,A,rfl,by rw[hM];exact g2⟩⟩,B,J⟩
def aAB(N:Nat)(aV:aa GE)(l:aa Int)(U:Nat)(h:ae):bR:=λr ac Y=>∃p,qK aV l N p/\cr ac Y r cq p/\aA U h ac/\U<=Y
def aAC(N:Nat)(aV:aa GE)(l:aa Int)(p7:X)(o:fJ)(U:Nat)(h:ae)(m:Nat)(aF:aa X)(ac:ae)(Y:Nat):Prop :=
 ∃(i:Nat) (v:X) (p:aa Int),m=N-i/\i<=N/\aF=[p7,bf U,v,(i:X)]/\qK aV l i p/\d1 ac v cq 1 p (U+1) Y/\u ac U=some o/\aA U h ac/\U+1<=Y
def ahH(i:Nat)(aV:aa GE)(l:aa Int)(p7 v:X)(EF U:Nat)(h:ae)(m:Nat)(aF:aa X)(ac:ae)(Y:Nat):Prop :=
 ∃(j:Nat) (x:Int),m=aV.length-j/\j<=aV.length/\aF=[p7,bf EF,v,(i:X),(x:X),(j:X)]/\mM aV l i j x/\aA U h ac/\U<=Y
theorem awg{s:al}{h:ae}{U:Nat}{l:aa Int}(D:cr h U v cX aV)(V:cr h U p7 cq l)(eD:lr N aV eP l)(d7:N<=100000)(hF:∀g∈aV,gT N g)(bA:aV.length<=60):
  aH Q s 20 [.agg ⟨[(N:X),v]⟩,p7] h U (aAB N aV l U h):=by
 refine ayy ?_;obtain⟨a,cap,rfl,a1⟩:=id D;obtain⟨ey,A,rfl,ko⟩:=id V;unfold ahG;refine aD ?_;refine bC.mk (aAC N aV l (.slice ey l.length A) (.cells [(N:X),.slice a aV.length cap] false) U h) N ⟨0,_,[],rfl,J,rfl,⟨rfl,λv x aY=>by cases aY⟩,.inl ⟨rfl,rfl⟩,aT _ _ _,λb aO=>ar J,cD _⟩ ?_;rintro m _ ap jh ⟨i,v1,p,rfl,aj,rfl,P,S,cJ,hk,dO⟩;rw[awe];unfold ae8;obtain⟨aB,a5,c1,rfl⟩:=S.form;refine bh @cJ ?_;refine⟨λct=>?_,λeM=>?_⟩
 ·refine bC.mk (ahH i aV l (.slice ey l.length A) (.slice aB a5 c1) U jh ap) aV.length ⟨0,-1,rfl,J,rfl,mM.init,aA.refl _ _,J⟩ ?_;rintro m _ b3 E ⟨j,x,rfl,bZ,rfl,V6,gf,nl⟩;rw[awd];unfold ae7;have f4:=(gf U J).trans cJ;refine bh @f4 ?_;refine⟨λIe=>?_,λeM=>?_⟩
  ·obtain⟨e,bP⟩:=dR Ie;have hoe:=hF e (kz bP);have pR:=hoe.1;have mS:=hoe.2.1;obtain⟨_,ce,Ed,Ih,Ir,gK,BG,sS⟩:=D.at bP;cases BG;have gz:=eD.len;obtain⟨y,cd⟩:=dR (l:=l) (i:=e.f) J;obtain⟨z,cL⟩:=dR (l:=l) (i:=i) J;obtain⟨_,bQ,k3,y7,c2,fm,aK,iq⟩:=V.at cd;cases aK;rw[hM]at iq;have jp:aA U h b3:=aN
   have de:=(jp ce gK).trans sS;have ew:=(jp bQ fm).trans iq;have fin:∀(aK R:aP) (q:al),(q=true↔kE l i e/\(x = -1\/(e.f:Int)<x))->As s (λaF ac Y=>∃bG,bG<aV.length-j/\ahH i aV l (.slice (some ⟨bQ,0,k3⟩) l.length A) (.slice aB a5 c1) U jh ap bG aF ac Y) aK R (.slice (some ⟨bQ,0,k3⟩) l.length A) (bf U) (.slice aB a5 c1) (i:X) (x:X) (j:X) (bf E) (.bool q) (F (F b3 E (.cells [.int .i64 0,.int .i64 0,.int .i64 0] false)) E (.cells [(e.f:X),(e.t:X),(e.w:X)] false)) (E+1):=by
    intro aK R q dt;unfold As;cases q with
    |true =>
     refine bh (cv (J:j<1000000000000)) ?_;exact⟨aV.length-(j+1),J,j+1,_,rfl,J,rfl,V6.step bP (dt.1 rfl).1 (dt.1 rfl).2,aN,J⟩
    |false =>
     refine bh (cv (J:j<1000000000000)) ?_;exact⟨aV.length-(j+1),J,j+1,_,rfl,J,rfl,V6.skip bP (λa1=>by have:=dt.2 a1;cases this),aN,J⟩
   simp(disch:=omega)only[bl,de,ew,QT bP,f4,hN cd,hN cL,seval];have B:kE l i e↔e.t=i/\0<z/\y=z-1:=by unfold kE;rw[cL,cd];simp
   have I:0<z->IntKind.wrap .i64 (z-1)=z-1:=λau=>by have:=eD.hd i z cL;rw[Ay J J]
   refine⟨λc1=>⟨λc2=>⟨λb8=>⟨λfL=>fin _ _ true ?_,λfL=>fin _ _ (decide _) ?_⟩,λb8=>fin _ _ false ?_⟩,λc2=>fin _ _ false ?_⟩,λc1=>fin _ _ false ?_⟩
   ·rw[B];rw[I c2]at b8;grind
   ·rw[B];rw[I c2]at b8;grind
   ·rw[B];rw[I c2]at b8;grind
   ·rw[B];grind
   ·rw[B];grind
  ·have:j=aV.length:=J
   subst this
   (try simp(disch:=omega)only[bl,seval])
   refine lJ (k:=1) (enc:=cq) (λ_=>rfl) (λ_=>rfl) J (S.T aN J) J x (aT _ _ _) rfl (by rw[P.1];omega) ?_;intro v3 aM Ig e1;refine bh (cv (J:i<1000000000000)) ?_;refine⟨N-(i+1),J,i+1,_,_,rfl,J,rfl,⟨by simp[P.1],λv y D=>?_⟩,Ig,?_,?_,J⟩
   ·rw[B8]at D
    split at D
    ·exact P.2 v y D
    ·rename_i h
     have:v=i:=by have:=P.1;have:=(hn.1 D).1;simp at this;omega
     subst this;rw[P.1]at D;simp at D;subst D;exact V6
   ·rw[e1 U J,ar J];exact f4
   ·intro c tS;rw[e1 c J,ar J,gf c J];exact hk c tS
 ·have:i=N:=J
  subst this;exact⟨p,P,S.rd,hk,J⟩
structure M9 (N:Nat) (aV cs:aa GE):Prop where
 can:jq (aV.map dE) (cs.map dE)
 ok:∀g∈cs,gT N g
 len:cs.length<=aV.length
theorem M9.ends(h:M9 N aV cs):FQ aV cs:=by
 refine⟨λe B=>?_,λe B=>?_⟩
 ·obtain⟨z,I,A,E⟩:=h.can.D3.D2 (dE e) (fz.2 ⟨e,B,rfl⟩);obtain⟨c,D,rfl⟩:=fz.1 I;unfold dE at A E;simp only at A E;exact⟨c,D,J,J⟩
 ·obtain⟨A,_⟩:=(h.can.D3.mem (dE e)).1 (fz.2 ⟨e,B,rfl⟩);obtain⟨c,D,aK⟩:=fz.1 A;unfold dE at aK;simp only[Prod.mk.injEq]at aK;exact⟨c,D,J,J⟩
def oR(N:Nat)(es:aa GE):aa (aa Nat):=(List.range N).map λaI=>(es.filter λe=>e.f == aI).map GE.t
theorem z5(N:Nat)(es:aa GE):(oR N es).length=N:=by simp[oR]
theorem Kb{es:aa GE}{A:Nat}(B:A<N):(oR N es)[A]? = some ((es.filter λe=>e.f == A).map GE.t):=by simp[oR,B]
theorem apR(N:Nat):oR N []=List.replicate N []:=by
 apply pj;intro i
 by_cases h:i<N <;> simp[oR,h]
theorem amh{es:aa GE}(A:e.f<N):oR N (es++[e])=(oR N es).set e.f ((es.filter λx=>x.f == e.f).map GE.t++[e.t]):=by
 apply pj;intro i;rw[vY]
 by_cases h:i<N
 ·rw[Kb h]
  by_cases aj:e.f=i
  ·subst aj;rw[if_pos rfl,if_pos (by rw[z5];exact h)];simp[r9]
  ·rw[if_neg aj,Kb h];simp[r9,aj]
 ·rw[xM (by rw[z5];omega)]
  by_cases aj:e.f=i
  ·omega
  ·rw[if_neg aj,xM (by rw[z5];omega)]
def aAD(N:Nat)(aV:aa GE)(U:Nat)(h:ae):bR:=λr ac Y=>∃aQ cs gX,r = .slice (some ⟨aQ,0,none⟩) N N/\M9 N aV cs/\o1 ac aQ U Y gX (oR N cs)/\U<=aQ/\aA U h ac/\U<=Y
def aAE(N aQ V7:Nat)(a:aw Addr)(cap:Nat)(cs:aa GE)(eD:ae)(m:Nat)(aF:aa X)(ac:ae)(Y:Nat):Prop :=
 ∃(i:Nat) (gX:aa Go.Ax.gk),m=cs.length-i/\i<=cs.length/\aF=[.slice (some ⟨aQ,0,none⟩) N N,.slice a cs.length cap,(cs.length:X),(i:X)]/\o1 ac aQ V7 Y gX (oR N (cs.take i))/\(∀c,c<V7->c≠aQ->u ac c=u eD c)/\V7<=Y
theorem atF{s:al}{h:ae}{U:Nat}(aG:cr h U v cX aV)(d7:N<=100000)(hF:∀g∈aV,gT N g)(bA:aV.length<=60):
  aH Q s 167 [.agg ⟨[(N:X),v]⟩] h U (aAD N aV U h):=by
 refine av8 ?_;obtain⟨a,cap,rfl,D⟩:=id aG;unfold agt;refine aD ?_;have hu:∀{eF dP:fJ},aA U h (F (F h U eF) (U+1) dP):=λ{eF dP} b aO=>by rw[ar J,ar J]
 refine(Qf ((fF.of aG).T hu (J:U<=U+1+1)) J hF J).mono ?_;rintro r h1 lq ⟨v2,cs,rfl,I,TE,aAF,ko,hk,dO⟩;have B:M9 N aV cs:=⟨TE,aAF,ko⟩
 have I:=I.fj;have g2:=hk (U+1) J;rw[aT]at g2;obtain⟨a2,ry,rfl,nq⟩:=id I;refine aD ?_;refine bC.mk (aAE N (U+1) lq a2 ry cs h1) cs.length ⟨0,List.replicate N (none,0),rfl,J,rfl,⟨?_,J,by simp[z5],λj s g aq a9=>.inl ?_,λj k b vM Ez bZ=>?_,λj vM bZ=>?_⟩,λc _ _=>rfl,cD _⟩ ?_
 ·rw[g2];simp[t0,y2]
 ·simp only[ES]at aq;rw[tf,apR,ES]at a9
  split at aq
  ·rw[if_pos ‹_›]at a9;cases aq;cases a9;exact⟨rfl,rfl⟩
  ·cases aq
 ·rw[ES]at bZ;split at bZ <;> cases bZ
 ·rw[ES]at bZ;split at bZ <;> cases bZ
 rintro m _ ap A ⟨i,gX,rfl,aj,rfl,L,jg,aBQ⟩;rw[atB];unfold acY;refine aD ?_;refine⟨λP=>?_,λeM=>?_⟩
 ·obtain⟨e,bP⟩:=dR P;have E:=(B.ok e (kz bP)).1;obtain⟨b,aS,ro,hR,fm,rfl,aO⟩:=nq (λaE=>by rw[aE]at P;exact absurd P (Nat.not_lt_zero _));have pX:=(jg b fm J).trans aO;obtain⟨B2,aq⟩:=dR (l:=gX) (i:=e.f) (by rw[L.len,z5];exact E);have mr:=L.Bf;simp(disch:=omega)only[bl,pX,QT bP,L.at_,abg aq,seval];have a9:(oR N (cs.take i))[e.f]? = some (((cs.take i).filter λx=>x.f == e.f).map GE.t):=Kb E;generalize mT:((cs.take i).filter λx=>x.f == e.f).map GE.t=g at a9;have sF:g.length<=60:=by rw[<-mT,gn];have:=vX (λx:GE=>x.f == e.f) (cs.take i);have:=List.length_take_le i cs;have:=B.len;omega
  have hsb:∀c,B2.1=some c->c<A:=λc D=>by obtain⟨kv,kb⟩:=B2;have D:kv=some c:=D;subst D;exact(L.below aq).2
  refine rm ((L.hl aq a9).T (λc D=>?_)) (aT _ _ _) (by rw[zY];omega) λaM sN pS=>?_
  ·have:=hsb c D;rw[ar J,ar J,ar J]
  rw[<-Ze]at sN;have U5:u aM A=some (.cells [(e.f:X),(e.t:X),.int .i64 e.w] false):=by rw[pS A J (λe=>by have:=hsb A e;omega),ar J,aT]
  have sO:∀c,c<A->B2.1≠some c->u aM c=u ap c:=λc D V=>by rw[pS c J V,ar J,ar J,ar J]
  have aEf:=L.T (ac:=F (F (F ap A (.cells [.int .i64 0,.int .i64 0,.int .i64 0] false)) A (.cells [(e.f:X),(e.t:X),(e.w:X)] false)) (A+1) (.cells [(e.t:X)] false)) (dm:=A+1+1) ?_ ?_ J;obtain⟨ho3,zC⟩:=aEf.add (ac:=aM) (Y:=A+1+1+1) J J aq a9 (v:=e.t) sN (λc D V=>pS c J V)
  ·refine hx @U5 @ho3 @zY ?_;refine⟨J,by rw[L.len,z5];exact E,cs.length-(i+1),J,i+1,gX.set e.f (some (A+1+1),g.length+1),rfl,J,by rw[cv (by have:=B.len;omega)],?_,λc h1 ap=>?_,J⟩
   ·have aW:oR N (cs.take (i+1))=(oR N (cs.take i)).set e.f (g++[e.t]):=by rw[ho,bP,<-mT];exact amh E
    rw[aW];have:=aqp gX e.f (some (A+1+1),g.length+1);rw[<-this]at zC;exact zC
   ·rw[ar ap,sO c J (λaE=>?_)]
    ·exact jg c h1 ap
    ·obtain⟨kv,kb⟩:=B2;have aE:kv=some c:=aE;subst aE;have:=(L.below aq).1;omega
  ·rw[ar J,ar J,ar J]
  ·intro c h1 ap;rw[ar J,ar J,ar J]
 ·have t7:i=cs.length:=J
  subst t7;rw[hC]at L;refine⟨U+1,cs,gX,rfl,B,L.lower J,J,λc D=>?_,J⟩;rw[jg c J J,hk c J];exact hu c D
def aAG(l bY:aa Int)(a eb:aw Addr)(cap kZ:Nat)(h:ae)(U:Nat)(m:Nat)(aF:aa X)(ac:ae)(Y:Nat):Prop :=
 ∃i,m=l.length-i/\i<=l.length/\aF=[.slice a l.length cap,.slice eb bY.length kZ,.bool false,(l.length:X),(i:X)]/\ac=h/\Y=U/\l.take i=bY.take i
theorem ac6{s:al}{h:ae}{U:Nat}{l:aa Int}(aG:cr h U v cq l)(I:cr h U dF cq bY)(bA:l.length<1000000):
  aH Q s 85 [v,dF] h U (λr ac Y=>r = .bool (decide (l=bY))/\ac=h/\Y=U):=by
 refine axg ?_;obtain⟨a,cap,rfl,a1⟩:=id aG;obtain⟨eb,E,rfl,tS⟩:=id I;unfold agQ;refine aD ?_;refine⟨λA=>?_,λbP=>?_⟩
 ·have:¬l=bY:=λe=>by subst e;simp at A
  simp[this]
 have bP:l.length=bY.length:=by
  have ap:(l.length:Int)=(bY.length:Int):=by simpa using bP
  omega
 refine bC.mk (aAG l bY a eb cap E h U) l.length ⟨0,rfl,J,rfl,rfl,rfl,rfl⟩ ?_;rintro m _ _ _ ⟨i,rfl,aj,rfl,rfl,rfl,ci⟩;rw[auv];unfold adB;refine aD ?_;refine⟨λV=>?_,λeM=>?_⟩
 ·obtain⟨x,P⟩:=dR V;obtain⟨y,B⟩:=dR (l:=bY) (i:=i) J;obtain⟨_,b,aS,ro,c1,aO,aW,a9⟩:=aG.at P;obtain⟨_,ce,Ed,Ih,Ir,gK,BG,D⟩:=I.at B;cases aW;cases BG;rw[hM]at a9 D;simp(disch:=omega)only[bl,a9,D,hN P,hN B,seval];refine⟨λA=>?_,λIA=>?_⟩
  ·have:¬l=bY:=λe=>by subst e;rw[P]at B;cases B;simp at A
   simp[this]
  ·have HD:x=y:=by simpa using IA
   subst HD;refine⟨l.length-(i+1),J,i+1,rfl,J,by rw[cv J],rfl,rfl,?_⟩;rw[ho,ho,P,B,ci]
 ·have:i=l.length:=J
  subst this;rw[hC,bP,hC]at ci;simp[ci]
def vj(l:aa Int):Nat:=l.count (-1)
theorem aaK{l:aa Int}{w:Nat}{x:Int}(A:l[w]? = some (-1))(B:x≠-1):vj (l.set w x)+1=vj l:=by
 unfold vj
 induction l generalizing w with
 |nil=>simp at A
 |cons y l D =>
  cases w with
  |zero =>
   have A:y = -1:=by simpa using A
   subst A;simp[List.count_cons,B]
  |succ w =>
   have:=D (w:=w) (by simpa using A);simp only[List.set_cons_succ,List.count_cons];omega
def awh(N:Nat)(aV:aa GE)(eP:Nat)(U:Nat)(h:ae):bR:=λr ac Y=>∃(cI bQ:Nat) (l p:aa Int),r = .tuple ⟨[.slice (some ⟨cI,0,some 1⟩) N N,.slice (some ⟨bQ,0,some 1⟩) N N]⟩/\cI<Y/\bQ<Y /\
 u ac cI=some (.cells (gA l) false)/\u ac bQ=some (.cells (gA p) false)/\lr N aV eP l/\qK aV l N p/\aA U h ac/\U<=Y
def Tb(h:ae)(v1 v2:X)(dH dl:aa Int)(ao aj:Nat):Prop :=
 (dH=[]/\dl=[]/\v1 = .slice none 0 0/\v2 = .slice none 0 0)\/∃cI bQ,cI≠bQ/\ao<=cI/\cI<aj/\ao<=bQ/\bQ<aj/\v1 = .slice (some ⟨cI,0,some 1⟩) dH.length dH.length/\v2 = .slice (some ⟨bQ,0,some 1⟩) dl.length dl.length /\
  u h cI=some (.cells (gA dH) false)/\u h bQ=some (.cells (gA dl) false)
theorem Tb.hl{h:ae}{D:X}{I P:aa Int}{ao:Nat}(av:Tb h D v2 I P ao aj):∃E A,fa h cq 1 D I E/\fa h cq 1 v2 P A/\(∀b,E=some b->ao<=b/\b<aj/\A≠some b)/\∀b,A=some b->ao<=b/\b<aj:=by
 rcases av with⟨rfl,rfl,rfl,rfl⟩|⟨cI,bQ,B,h1,ap,aM,bc,rfl,rfl,V,g2⟩
 ·exact⟨none,none,fa.nil,fa.nil,⟨λb e=>(by cases e),λb e=>(by cases e)⟩⟩
 ·rw[<-hM]at V g2;exact⟨some cI,some bQ,.own V,.own g2,λb e=>by cases e;exact⟨h1,ap,λe=>B (by cases e;rfl)⟩,λb e=>by cases e;exact⟨aM,bc⟩⟩
def aAH(N eP U:Nat)(ap:ae)(m:Nat)(aF:aa X)(ac:ae)(Y:Nat):Prop :=
 ∃(i:Nat) (v1 v2:X),m=N-i/\i<=N/\aF=[(eP:X),bf U,v1,v2,(N:X),(i:X)]/\Tb ac v1 v2 (List.replicate i (-1)) (List.replicate i (-1)) (U+1) Y/\aA (U+1) ap ac/\U+1<=Y
structure aCH (N I1 B3 cI bQ aQ:Nat) (gX:aa Go.Ax.gk) (od:aa (aa Nat)) (U:Nat) (h:ae) (ac:ae) (Y:Nat) (l p:aa Int) (q:aa Nat) (ta:X) (tb:aw Nat):Prop where
 g1:u ac cI=some (.cells (gA l) false)
 g2:u ac bQ=some (.cells (gA p) false)
 L:o1 ac aQ I1 B3 gX od
 row:fa ac cq 1 ta (lM q) tb
 ro:∀b,tb=some b->B3<=b/\b<Y
 lt:∀a∈q,a<N
 T:aA U h ac
 le:B3<=Y
def aAI(N eP I1 B3 cI bQ aQ:Nat)(cs:aa GE)(gX:aa Go.Ax.gk)(U:Nat)(h:ae)(m:Nat)(aF:aa X)(ac:ae)(Y:Nat):Prop :=
 ∃(l p:aa Int) (q D:aa Nat) (ta:X) (tb:aw Nat),m=vj l+q.length/\vj l+q.length<=N/\aF=[.slice (some ⟨cI,0,some 1⟩) N N,.slice (some ⟨bQ,0,some 1⟩) N N,.slice (some ⟨aQ,0,none⟩) N N,ta]/\w7 N cs eP l p q D/\aCH N I1 B3 cI bQ aQ gX (oR N cs) U h ac Y l p q ta tb
def aAJ(N eP I1 B3 cI bQ aQ pi aI k:Nat)(cs:aa GE)(gX:aa Go.Ax.gk)(g:aa Nat)(D:aa Nat)(aB4:X)(U:Nat)(h:ae)(m:Nat)(aF:aa X)(ac:ae)(Y:Nat):Prop :=
 ∃(j:Nat) (l p:aa Int) (q:aa Nat) (ta:X) (tb:aw Nat),m=g.length-j/\j<=g.length/\vj l+q.length=pi/\aF=[.slice (some ⟨cI,0,some 1⟩) N N,.slice (some ⟨bQ,0,some 1⟩) N N,.slice (some ⟨aQ,0,none⟩) N N,ta,(aI:X),aB4,(g.length:X),(j:X)] /\
  n0 N cs eP l p q D aI k (g.take j)/\aCH N I1 B3 cI bQ aQ gX (oR N cs) U h ac Y l p q ta tb
theorem apS{s:al}{h:ae}{U:Nat}(aG:cr h U v cX aV)(d7:N<=100000)(oY:eP<N)(hF:∀g∈aV,gT N g)(bA:aV.length<=60):
  aH Q s 84 [.agg ⟨[(N:X),v]⟩,(eP:X)] h U (awh N aV eP U h):=by
 refine av9 ?_;obtain⟨a,cap,rfl,a1⟩:=id aG;unfold agu;refine aD ?_;refine bC.mk (aAH N eP U (F h U (.cells [(N:X),.slice a aV.length cap] false))) N ⟨0,_,_,rfl,J,rfl,.inl ⟨rfl,rfl,rfl,rfl⟩,aA.refl _ _,cD _⟩ ?_;rintro m _ ap jh ⟨i,v1,v2,rfl,aj,rfl,av,hk,dO⟩;rw[atC];unfold acZ;refine aD ?_;obtain⟨eF,dP,oz,xx,s4,zt⟩:=av.hl;refine⟨λct=>?_,λeM=>?_⟩
 ·refine rm (oz.T λb aO=>ar (by have:=s4 b aO;omega)) (aT _ _ _) (by simp;omega) λaM sN pS=>?_
  (try simp(disch:=omega)only[bl,seval])
  refine rm (xx.T λb aO=>?_) (aT _ _ _) (by simp;omega) λbc HW sO=>?_
  ·have:=zt b aO;rw[ar J,pS b J (λe=>(s4 b e).2.2 aO),ar J]
  have aW:(List.replicate i (-1:Int)).length+1=(List.replicate (i+1) (-1:Int)).length:=by simp
  have aK:List.replicate i (-1:Int)++[-1]=List.replicate (i+1) (-1):=by rw[<-NG]
  rw[aK]at sN HW
  (try simp(disch:=omega)only[bl,seval])
  rw[aW,cv J];refine⟨N-(i+1),J,i+1,_,_,rfl,J,rfl,.inr ⟨jh+1,jh+1+1+1,J,J,J,J,J,rfl,rfl,?_,HW⟩,λb aO=>?_,J⟩
  ·rw[sO _ J (λe=>by have:=zt _ e;omega),ar J,sN]
  ·rw[sO b J (λe=>by have:=zt _ e;omega),ar J,pS b J (λe=>by have:=s4 _ e;omega),ar J];exact hk b aO
 have:i=N:=J
 subst this;rcases av with⟨e,_⟩|⟨cI,bQ,ahI,cj,iH,k8,cN,rfl,rfl,g1,g2⟩
 ·have:=congrArg List.length e;simp at this;omega
 have aCI:=hk U J;rw[aT]at aCI;simp only[ET];refine bh @aCI ?_;have hu:aA U h ap:=λb aO=>by rw[hk b J,ar J]
 refine(atF (aG.T hu (J:U<=jh)) d7 hF bA).mono ?_;rintro r aM vx ⟨aQ,cs,gX,rfl,LL,L,mr,e1,gJ⟩;have g1':=(e1 cI iH).trans g1;have Ij:=(e1 bQ cN).trans g2;simp(disch:=omega)only[bl,g1',ET,seval];refine⟨oY,bC.mk (aAI i eP jh vx cI bQ aQ cs gX U h) (vj ((List.replicate i (-1)).set eP 0)+1) ⟨_,_,[eP],[],_,some vx,rfl,?_,rfl,w7.init oY,?_⟩ ?_⟩
 ·have:=aaK (l:=List.replicate i (-1)) (w:=eP) (x:=0) (by simp[oY]) J;have e:vj (List.replicate i (-1))=i:=by simp[vj]
  show _+1<=i;omega
 ·have hR:=L.Bf;refine⟨by rw[ar J,aT],by rw[ar J,ar J];exact Ij,L.T ?_ (λb h1 ap=>?_) (cD _),?_,λb e=>by cases e;exact⟨cD _,J⟩,λa cW=>by simp at cW;omega,λb aO=>?_,J⟩
  ·rw[ar J,ar J]
  ·rw[ar J,ar J]
  ·exact fa.part (enc:=cq) (k:=1) (b:=vx) (o:=0) (l:=lM [eP]) (cs:=[(eP:X)]) (ro:=false) (aT _ _ _) (by simp[lM]) (by simp[lM,bd,cq])
  ·rw[ar J,ar J,e1 b J];exact hu b aO
 rintro m _ bc D4 ⟨l,p,q,D,ta,tb,rfl,hcN,rfl,B,A⟩;rw[atE];unfold ac1;simp(disch:=omega)only[bl,A.row.lens,seval];refine⟨λau=>?_,λeS=>?_⟩
 ·have dt:q=[]:=by
   cases q with
   |nil=>rfl
   |cons x q=>simp[lM]at au;omega
  subst dt;obtain⟨eD,fV⟩:=B.TF;have aq:FQ cs aV:=⟨LL.ends.2,LL.ends.1⟩
  have:=A.le;exact⟨cI,bQ,l,p,rfl,J,J,A.g1,A.g2,eD.ends aq,fV.ends aq,A.T,J⟩
 ·obtain⟨E,jy,rfl⟩:∃E jy,q=E::jy:=by
   cases q with
   |nil=>simp[lM]at eS
   |cons x q=>exact⟨x,q,rfl⟩
  obtain⟨k,P⟩:=B.pop;have ej:=A.lt E (by simp);have G:=A.row;rw[X1]at G;obtain⟨vP,or_,spr,VC,ror,dF,rfl,rfl,hcr,LV,Vm,G'⟩:=G.head;obtain⟨B2,Vn⟩:=dR (l:=gX) (i:=E) (by rw[A.L.len,z5];exact ej);have a9:(oR i cs)[E]? = some ((cs.filter λe=>e.f == E).map GE.t):=Kb ej;have aCJ:=A.L.hl Vn a9;have L9:=A.ro vP rfl;have ahq:=A.L.Bf;simp(disch:=omega)only[bl,hcr,LV,A.L.at_,abg Vn,aCJ.lens,X1,seval];generalize mT:(cs.filter λe=>e.f == E).map GE.t=g at *
  have hgw:∀w∈g,w<i/\∃e∈cs,e.f=E/\e.t=w:=λw b0=>by rw[<-mT]at b0;obtain⟨e,bP,rfl⟩:=fz.1 b0;obtain⟨he1,IA⟩:=nR.1 bP;exact⟨(LL.ok e he1).2.1,e,he1,by simpa using IA,rfl⟩
  have sF:g.length<=60:=by rw[<-mT,gn];have:=vX (λx:GE=>x.f == E) cs;have:=LL.len;omega
  simp only[zY]at Vm;simp only[mb,zY,Vm,yn];refine bC.mk (aAJ i eP jh vx cI bQ aQ (vj l+jy.length) E k cs gX g D (y2 B2) U h) g.length ⟨0,l,p,jy,dF,some vP,rfl,J,rfl,rfl,by simpa using P,A.g1,A.g2,A.L,G',λb e=>by cases e;exact L9,λa cW=>A.lt a (by simp[cW]),A.T,A.le⟩ ?_;clear P A B G G' hcr LV Vm aCJ L9;rintro m _ b3 IB ⟨j,l,p,q,ta,tb,rfl,bZ,LM,rfl,P,A⟩;rw[atD];unfold ac0;refine aD ?_;refine⟨λct=>?_,λeM=>?_⟩
  ·obtain⟨w,b0⟩:=dR ct;obtain⟨I,aE,Bi,ML,DU⟩:=hgw w (kz b0);rcases A.L.each E B2 g Vn a9 with⟨e,_⟩|⟨pc,aBR,aBS,rfl,hbg⟩
   ·rw[e]at ct;simp at ct
   obtain⟨x,aY⟩:=dR (l:=l) (i:=w) (by rw[P.len];exact I);obtain⟨z,cL⟩:=dR (l:=p) (i:=w) (by rw[P.tH];exact I);have Mm:=P.lt;have V:=A.ro;have nl:=A.le;simp only[y2];simp(disch:=omega)only[bl,hbg,hN (amG b0),A.g1,A.g2,hN aY,hN cL,hN P.qa,cv (J:k<1000000000000),seval];have mp:g.take (j+1)=g.take j++[w]:=by rw[ho,b0];rfl
   refine⟨λAO=>?_,λLn=>?_⟩
   ·have Ub:x = -1:=by have:=(P.hd w x aY).1;omega
    subst Ub;have rG:=aaK (x:=(k:Int)+1) aY J;refine⟨by rw[<-P.len]at I;exact I,by rw[<-P.tH]at I;exact I,?_⟩;have aBT:∀b,tb=some b->vx<=b/\b<IB:=V;refine rm (A.row.T λb aO=>?_) (aT _ _ _) ?_ λcy hn6 qN=>?_
    ·have:=V b aO;rw[ar J,ar J,ar J]
    ·rw[zY];simp only[mb]at hcN;omega
    unfold CM;refine bh (cv (J:j<1000000000000)) ?_;have jg:∀c,c<vx->c≠cI->c≠bQ->u cy c=u b3 c:=λc h1 ap aM=>by rw[qN c J (λe=>by have:=V c e;omega),ar J,ar aM,ar ap]
    have aW:((k+1:Nat):Int)=(k:Int)+1:=by simp
    rw[aW]at qN;rw[<-Ze]at hn6;refine⟨g.length-(j+1),J,j+1,l.set w ((k:Int)+1),p.set w (E:Int),q++[w],.slice (some ⟨IB+1,0,some 1⟩) ((lM q).length+1) ((lM q).length+1),some (IB+1),rfl,J,?_,rfl,by rw[mp];exact P.new aY Bi ML DU,?_⟩
    ·rw[jd,NE];omega
    ·refine⟨?_,?_,A.L.T (jg aQ J J J) (λc h1 ap=>jg c ap J J) (cD _),?_,λb e=>by cases e;omega,λa cW=>?_,λc a1=>?_,J⟩
     ·rw[qN cI J (λe=>by have:=V cI e;omega),ar J,ar ahI,aT]
     ·rw[qN bQ J (λe=>by have:=V bQ e;omega),ar J,aT]
     ·have:=fa.own (enc:=cq) (k:=1) (l:=lM (q++[w])) (b:=IB+1) (h:=cy) (by rw[hM];exact hn6);simpa[zY]using this
     ·rcases hp.1 cW with cW|cW
      ·exact A.lt a cW
      ·simp at cW;omega
     ·rw[jg c J J J];exact A.T c a1
   ·refine⟨λtM=>?_,λeS=>?_⟩
    ·have Ma:x=(k:Int)+1:=by simpa using tM
     subst Ma;refine⟨by rw[<-P.tH]at I;exact I,?_⟩;unfold CM;refine bh (cv (J:j<1000000000000)) ?_;refine⟨g.length-(j+1),J,j+1,l,p.set w (min z (E:Int)),q,ta,tb,rfl,J,LM,rfl,by rw[mp];exact P.same aY cL Bi ML DU,?_⟩;exact⟨by rw[ar ahI];exact A.g1,aT _ _ _,A.L.T (ar J) (λc h1 ap=>ar J) (cD _),A.row.T λb aO=>ar (by have:=V b aO;omega),V,A.lt,A.T.set J,A.le⟩
    ·have Ma:x≠(k:Int)+1:=by simpa using eS
     unfold CM;refine bh (cv (J:j<1000000000000)) ?_;exact⟨g.length-(j+1),J,j+1,l,p,q,ta,tb,rfl,J,LM,rfl,by rw[mp];exact P.skip aY J Ma,A⟩
  ·have:j=g.length:=J
   subst this;rw[hC]at P;have aEg:=P.done λe bP bE=>by rw[<-mT];exact fz.2 ⟨e,nR.2 ⟨bP,by simp[bE]⟩,rfl⟩
   exact⟨_,by rw[LM];omega,l,p,q,E::D,ta,tb,rfl,by rw[LM];simp only[mb]at hcN;omega,rfl,aEg,A⟩
def awi(L P l p:aa Int)(U:Nat)(h:ae):bR:=λr ac Y=>r = .bool (decide (L=l)&&decide (P=p))/\aA U h ac/\U<=Y
def awj(N eP:Nat)(aV:aa GE)(l p:aa Int)(U:Nat)(h:ae):bR:=λr ac Y=>∃L P,lr N aV eP L/\qK aV L N P/\r = .bool (decide (L=l)&&decide (P=p))/\aA U h ac/\U<=Y
theorem apT{s:al}{l p:aa Int}{h:ae}{U:Nat}(aG:cr h U v cX aV)(Hy:cr h U p7 cq l)(hvp:cr h U EK cq p)(d7:N<24)(oY:eP<N)(bA:aV.length<=60)(V:∀g∈aV,gT N g):
  aH Q s 21 [.agg ⟨[(N:X),v]⟩,(eP:X),p7,EK] h U (awj N eP aV l p U h):=by
 refine ayw ?_;obtain⟨a,cap,rfl,a1⟩:=id aG;unfold ahE;refine aD ?_;have I:∀{eF:fJ},aA U h (F h U eF):=λ{eF} b aO=>ar J;refine(Pp ((fF.of aG).T I (q7 _)) J V J).cu λh1 lq E D=>?_;have g1:=E U (E3 _);rw[aT]at g1;refine bh @g1 ?_;refine⟨λau=>absurd au J,λ_=>?_⟩;unfold KU;have hv1:=(aG.T I (q7 _)).T E D;have aAK:=(Hy.T I (q7 _)).T E D;have aAL:=(hvp.T I (q7 _)).T E D;refine bh @g1 ?_;refine⟨λau=>absurd oY au,λ_=>?_⟩;refine(apS hv1 J oY V bA).mono ?_;rintro r ap jh ⟨cI,bQ,L,P,rfl,hR,fm,aW,aK,eD,fV,B,A⟩;rw[<-hM]at aW aK;have kv:cr ap jh (.slice (some ⟨cI,0,some 1⟩) N N) cq L:=⟨some ⟨cI,0,some 1⟩,N,by rw[eD.len],λ_=>⟨cI,some 1,false,hR,rfl,aW⟩⟩
 have kb:cr ap jh (.slice (some ⟨bQ,0,some 1⟩) N N) cq P:=⟨some ⟨bQ,0,some 1⟩,N,by rw[fV.1],λ_=>⟨bQ,some 1,false,fm,rfl,aK⟩⟩
 have hj:aA U h ap:=((I.trans E (q7 _)).trans B J)
 refine aD ?_;refine(ac6 kv (aAK.T B A) (by rw[eD.len];omega)).mono ?_;rintro r _ _ ⟨rfl,rfl,rfl⟩;refine aD ?_;refine⟨λci=>?_,λbE=>?_⟩
 ·refine(ac6 kb (aAL.T B A) (by rw[fV.1];omega)).mono ?_;rintro r _ _ ⟨rfl,rfl,rfl⟩
  (try simp(disch:=omega)only[bl,seval])
  exact⟨L,P,eD,fV,by simp[ci],hj,J⟩
 ·exact⟨L,P,eD,fV,by simp[bE],hj,J⟩
theorem atG{s:al}{L P l p:aa Int}{h:ae}{U:Nat}(aG:cr h U v cX aV)(I:cr h U p7 cq l)(E:cr h U EK cq p)(d7:N<24)(D:eP<N)(bA:aV.length<=60)(V:∀g∈aV,gT N g)(eD:lr N aV eP L)(fV:qK aV L N P):
  aH Q s 21 [.agg ⟨[(N:X),v]⟩,(eP:X),p7,EK] h U (awi L P l p U h):=by refine(apT aG I E d7 D bA V).mono ?_;rintro r ac Y ⟨B1,nG,B,Uc,rfl,hk,A⟩;have:=eD.unique B;subst this;have:=fV.unique Uc;subst this;exact⟨rfl,hk,A⟩
end Go.Proofs.YthlhhajnbgjfmaaGreat
