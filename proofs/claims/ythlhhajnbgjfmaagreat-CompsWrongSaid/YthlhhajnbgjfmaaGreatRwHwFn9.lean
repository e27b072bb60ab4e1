/- Lemmas, each with its conditions. -/
import Derived.Test.YthlhhajnbgjfmaaGreatRwHwFn8
namespace Go.Proofs.YthlhhajnbgjfmaaGreat
open Go Go.Ax Go.Ax.HdH Go.ChangeShapes Go.WideShapes Go.ChangeAt Go.RowKit
set_option linter.all false
set_option maxHeartbeats 1000000
set_option maxRecDepth 1000000
variable {iM:aa (aa Nat)} {eO:aa Go.Ax.fZ} {bW:aa MemPlace} {f8:av Nat} {args:aa X} {a3:X} {cV:av Nat} {hb:X} {R aF:aH} {ao z9:Nat} {t:IntKind} {Z:b5} {i:Nat} {a0 aV bl ei:X} {ai aP x:Nat} {ac:ad} {K:bD} {q:Nat}
def azf(N:Nat)(v2:X)(U:Nat)(h:ad)(m:Nat)(aE:aa X)(ac:ad)(Y:Nat):Prop :=
 ∃(i:Nat) (o:X),m=N-i/\i<=N/\aE=[bb U,o,(i:X)]/\u ac U=some (.cells [(N:X),v2] false)/\dX ac o cG 1 (fe (List.range i)) (U+1) Y/\az U h ac/\U+1<=Y
def azg(N b:Nat)(gs:aa GE)(v2:X)(U:Nat)(h:ad)(m:Nat)(aE:aa X)(ac:ad)(Y:Nat):Prop :=
 ∃(k:Nat) (L:aa Nat),m=N-k/\k<=N/\aE=[bb U,.slice (some ⟨b,0,some 1⟩) N N,(k:X)]/\u ac U=some (.cells [(N:X),v2] false)/\u ac b=some (.cells (fx (fe L)) false)/\r6 N gs k 0 L/\az U h ac/\b<Y
def azh(N b k:Nat)(gs:aa GE)(v2:X)(U:Nat)(h:ad)(m:Nat)(aE:aa X)(ac:ad)(Y:Nat):Prop :=
 ∃(i:Nat) (L:aa Nat),m=gs.length-i/\i<=gs.length/\aE=[bb U,.slice (some ⟨b,0,some 1⟩) N N,(k:X),(i:X)]/\u ac U=some (.cells [(N:X),v2] false)/\u ac b=some (.cells (fx (fe L)) false)/\r6 N gs k i L/\az U h ac/\b<Y
def aw8(N:Nat)(gs:aa GE)(U:Nat)(h:ad):bD:=λr ac Y=>∃(b:Nat) (L:aa Nat),r = .slice (some ⟨b,0,some 1⟩) N N/\u ac b=some (.cells (fx (fe L)) false)/\lu N gs L/\U<=b/\b<Y/\az U h ac/\U<=Y
theorem amm{s:ak}{N:Nat}{v:X}{gs:aa GE}{h:ad}{U:Nat}(aI:dq h U v bQ gs)(hN0:0<N)(cU:N<=4096)(bg:gs.length<=65536)(M:∀g∈gs,fy N g):
  aD Q s 27 [.agg ⟨[(N:X),v]⟩] h U (aw8 N gs U h):=by
 refine ach ?_;obtain⟨a,cap,rfl,aU⟩:=id aI;unfold Sd;refine aB ?_;refine bq.mk (azf N (.slice a gs.length cap) U h) N ⟨0,_,J,J,rfl,aN _ _ _,.inl ⟨rfl,rfl⟩,(az.refl _ _).set (cB _),cB _⟩ ?_;rintro _ _ ac P ⟨i,o,rfl,ai,rfl,B,fj,D,dr⟩;rw[aar];unfold P6;refine a9 @B ?_;refine⟨λA=>?_,λV=>?_⟩
 ·have yw:IntKind.wrap .i64 ((i:Int)+1)=((i+1:Nat):Int):=cn J;refine l7 (enc:=cG) (k:=1) (ao:=U+1) (λ_=>rfl) (λ_=>rfl) J (fj.T (λb h1 al=>by rw[aq J]) J) J ((i:Nat):Int) (aN _ _ _) rfl (by rw[kG,vk];omega) ?_;intro v3 bc ar gd;rw[yw];refine⟨N-(i+1),J,i+1,v3,rfl,J,rfl,by rw[gd U J,aq J];exact B,?_,λc aU=>by rw[gd c J,aq J];exact D c aU,J⟩;have:fe (List.range (i+1))=fe (List.range i)++[((i:Nat):Int)]:=by rw[pb];simp[fe]
  rw[this];exact ar
 ·have:i=N:=J
  subst this;obtain⟨b,hy,fa,rfl,hb0⟩:∃b,U+1<=b/\b<P/\o = .slice (some ⟨b,0,some 1⟩) i i/\u ac b=some (.cells (fx (fe (List.range i))) false):=by
   rcases fj with⟨e,_⟩|⟨b,h1,al,e,E⟩
   ·have:=congrArg List.length e;rw[kG,vk]at this;simp at this;omega
   ·rw[kG,vk]at e;rw[h2]at E;exact⟨b,h1,al,e,E⟩
  refine bq.mk (azg i b gs (.slice a gs.length cap) U h) i ⟨0,_,J,J,rfl,B,hb0,r6.init,D,fa⟩ ?_;rintro _ _ ac P ⟨k,L,rfl,tq,rfl,B,E,I,D,C⟩;rw[aas];unfold P7;refine a9 @B ?_;refine⟨λA=>?_,λV=>?_⟩
  ·have b0:IntKind.wrap .i64 ((k:Int)+1)=((k+1:Nat):Int):=cn J;refine bq.mk (azh i b k gs (.slice a gs.length cap) U h) gs.length ⟨0,L,J,J,rfl,B,E,I,D,C⟩ ?_;rintro _ _ ac P ⟨j,L,rfl,bM,rfl,B,E,I,D,C⟩;rw[aml];unfold aaq;refine a9 @B ?_;refine⟨λA=>?_,λV=>?_⟩
   ·obtain⟨x,aR⟩:=dk A;obtain⟨_,i9,aO,bC,c1,cs,wg,aY,n4⟩:=aI.at aR;cases aY;obtain⟨d9,dI,gL,kz⟩:=M x (jp aR);obtain⟨p,bv⟩:=dk (l:=L) (i:=x.f) (by rw[I.len];exact d9);obtain⟨q,cz⟩:=dk (l:=L) (i:=x.t) (by rw[I.len];exact dI);have Jy:IntKind.wrap .i64 ((j:Int)+1)=((j+1:Nat):Int):=cn J;simp(disch:=omega)only[bd,(D i9 wg).trans n4,sj (enc:=bQ) (k:=3) (λ_=>rfl) aR,bQ,E,Dy bv,Dy cz,ah8,KO,Jy,kG,I.len,wI,seval];refine⟨d9,dI,gs.length-(j+1),J,j+1,_,rfl,A,rfl,by rw[aq J,aq J,aq J,aq J];exact B,aN _ _ _,I.step aR bv cz,(((D.set J).set J).set J).set J,J⟩
   ·have:j=gs.length:=J
    subst this;refine a9 @b0 ?_;exact⟨i-(k+1),J,k+1,L,rfl,A,rfl,B,E,I.next,D,C⟩
  ·have:k=i:=J
   subst this;exact⟨b,L,rfl,E,I.done (λe bk=>⟨(M e bk).1,(M e bk).2.1⟩),J,C,D,J⟩
def CcJ(N b:Nat)(c0:aa Nat)(l:aa Int)(gf:X)(Jt:Nat)(gs:aa GE)(U:Nat)(h:ad)(m:Nat)(aE:aa X)(ac:ad)(Y:Nat):Prop :=
 ∃(i:Nat) (d7:aa Nat),m=N-i/\i<=N/\aE=[.bool false,.slice (some ⟨b,0,none⟩) N Jt,gf,(N:X),(i:X)]/\pu N gs gs.length d7/\(∀v r,gk d7 v r↔c0[v]? = some r)/\u ac b=some (.cells (fx (fe d7)) false)/\az U h ac/\b<Y/\U<=Y/\l.take i=(fe c0).take i
theorem apO{s:ak}{N:Nat}{v gf:X}{gs:aa GE}{l:aa Int}{c0:aa Nat}{h:ad}{U:Nat}(aI:dq h U v bQ gs)(I:cN h U gf cG l)(cU:N<=4096)(bg:gs.length<=120)(C:∀g∈gs,fy N g)(eJ:lu N gs c0)(xX:l.length<1000000):
  aD Q s 28 [.agg ⟨[(N:X),v]⟩,gf] h U (cI (.bool (decide (l=fe c0))) U h):=by
 refine aeo ?_;obtain⟨a,cap,rfl,aU⟩:=id aI;obtain⟨eM,H2,rfl,je⟩:=id I;unfold S5;refine aB ?_;have hc:∀{d9:fM},az U h (F h U d9):=aC
 refine(Gy (aI.T hc J) cU C bg).b0 λh1 gv hk dr=>?_;have br:=hk U J;rw[aN]at br;refine a9 @br ?_;unfold K6;refine a9 @br ?_;have hv1:=(aI.T hc (nP U)).T hk dr;have aAv:=(I.T hc (nP U)).T hk dr;refine⟨λD=>?_,λP=>?_⟩
 ·have B:¬l=fe c0:=λe=>by have:=eJ.len;rw[e,kG,eJ.len]at D;simp at D
  exact⟨by rw[f9 B],aC,J⟩
 have P:l.length=N:=by
  have al:(l.length:Int)=(N:Int):=by simpa using P
  omega
 refine(Se hv1 cU J C).mono ?_;rintro r al e4 ⟨b,L,rfl,g2,M,de,bO,dE,e9⟩;obtain⟨V,Jg,dD⟩:=M.EK λe P=>⟨(C e P).1,(C e P).2.1⟩
 have:=Jg.unique eJ;subst this
 (try simp(disch:=omega)only[bd,seval])
 rw[P];refine bq.mk (CcJ N b V l (.slice eM N H2) N gs U h) N ⟨0,L,J,J,rfl,M,dD,g2,aC,bO,J,by simp⟩ ?_;clear M dD g2 dE e9 bO;rintro m _ aM B1 ⟨i,L,rfl,ai,rfl,M,dD,c3,fg,oZ,E,cy⟩;rw[apM];unfold acg;refine aB ?_;refine⟨λci=>?_,λeh=>?_⟩
 ·obtain⟨x,aR⟩:=dk (l:=l) (i:=i) J;obtain⟨_,ck,Wc,ro',WB,hQ,Nj,uV⟩:=I.at aR;cases Nj;rw[h2]at uV;have dK:=(fg ck hQ).trans uV;have tp:i<l.length:=J
  simp(disch:=omega)only[bd,dK,iz aR,P,seval];refine(Hr J i ci L aM B1 M.q1 c3).mono ?_;rintro _ bP IH ⟨q,fA,rfl,cz,hF',A,gx,k6,rfl⟩;have hq2:=(dD i q).1 cz;refine aB ?_;have bm:(fe V)[i]? = some (q:Int):=y2 hq2;refine⟨λD=>?_,λpx=>?_⟩
  ·have B:¬l=fe V:=λe=>by rw[e,bm]at aR;cases aR;simp at D
   exact⟨by rw[f9 B],aC,J⟩
  ·have hxq:(q:Int)=x:=by simpa using px
   subst hxq;refine⟨N-(i+1),J,i+1,fA,J,J,by rw[cn J],M.same hF' A,λv r=>⟨λh=>(dD v r).1 (gk.back M.q1 hF' A h),λh=>A _ _ ((dD v r).2 h)⟩,gx,aC,oZ,E,?_⟩;rw[gQ,gQ,aR,bm,cy]
 ·have:i=N:=J
  subst this;have aY:l=fe V:=by have h1:l.take i=l:=pT J;have al:(fe V).take i=fe V:=pT (by rw[kG,eJ.len];omega);rw[<-h1,cy,al]
  exact⟨by rw[gz aY],fg,E⟩
section
variable {s:ak} {h:ad} {U:Nat} {bI r c:Int} {a:av Addr} {n cap:Nat} {es:aa gS}
theorem aci(E : -9223372036854775808<=bI)(B:bI<=9223372036854775807):
  aD Q s 87 [.agg ⟨[(bI:X),.slice a n cap]⟩,(r:X),(c:X)] h U (cI (.agg ⟨fq (iO 3 bI 0 r c es) (.slice none 0 0) (.slice a n cap) (.slice none 0 0)⟩) U h):=by refine bS ?_;refine aB ?_;refine(apL (es:=es) E B).b0 λD I A g=>?_;unfold fq;have C:u D (U+1)=_:=(A (U+1) J).trans (aN _ _ _);refine a9 @C ?_;exact⟨rfl,aC,J⟩
def aw9(bI r c:Int)(es:aa gS)(v:X)(U:Nat)(ac:ad)(Y:Nat):Prop :=
 (gl (iO 3 bI 0 r c es)≠0/\v = .slice none 0 0) \/
 (gl (iO 3 bI 0 r c es)=0/\∃(Z:b5) (aw:Nat),Fj 3 bI 0 r c es Z aw/\dX ac v cG 1 (cF Z.N (Z.e1.st aw).A) U Y)
theorem avc(dZ:∀(Z:b5) (g:Nat),Fj 3 bI 0 r c es Z g->yg Z g)(H:oH h U (iO 3 bI 0 r c es) (.slice none 0 0) (.slice a es.length cap) (.slice none 0 0))(ap:0<bI)(al:bI<=9223372036854775807)(bm:bI<=30\/4096<bI):
  aD Q s 25 [.agg ⟨[(bI:X),.slice a es.length cap]⟩,(r:X),(c:X)] h U (λoj ac Y=>∃v,oj = .tuple ⟨[v,.int .i64 (gl (iO 3 bI 0 r c es))]⟩/\az U h ac/\U<=Y/\aw9 bI r c es v U ac Y):=by
 refine bS ?_;refine aB ?_;refine(aci (es:=es) J al).b0 λbr E cD fp=>?_;unfold fq;refine aB ?_;generalize iw:F (F br E _) E _=g2;have P:u g2 E=some (.cells (fq (iO 3 bI 0 r c es) (.slice none 0 0) (.slice a es.length cap) (.slice none 0 0)) false):=by rw[<-iw,aN];rfl
 have M:az U h g2:=aC
 have h9:=H.T (Y:=E+1) M J;refine(ZV  h9).b0 λc3 bR fg C=>?_;have oc:=(fg E J).trans P;have V:az U h c3:=aC
 have yD:mz (.agg ⟨fq (iO 3 bI 0 r c es) (.slice none 0 0) (.slice a es.length cap) (.slice none 0 0)⟩) (.agg ⟨fq (iO 3 bI 0 r c es) (.slice none 0 0) (.slice a es.length cap) (.slice none 0 0)⟩)=true:=by unfold fq;simp(disch:=omega)only[bd,fZ,seval]
 unfold fq at P oc yD;refine⟨C,?_⟩;refine j6 @P @oc @pc @yD ?_;have iQ:=H.T (Y:=bR) V J
 by_cases B:gl (iO 3 bI 0 r c es)=0
 ·have D:bI<=30:=bm.elim id λh=>absurd B λap=>by
   unfold gl iO nj iB gR at ap
   grind
  obtain⟨Z,g,I,azi,S,eH,W,tP,jF,zZ⟩:=afO J iQ B D;have hN0:0<Z.N:=by have:=I.eL;omega
  rw[show(iO 3 bI 0 r c es).lim=r7 bI from rfl,tP];refine(ael  S eH I.gn (dZ Z g I) jF zZ).mono ?_;rintro _ dK L ⟨kf,lb,ky,kY,sN,hp,gF,rfl,⟨cY,fJ,ei,g9,fE,gJ,gq⟩,hT,A⟩;simp only[Value.agg.injEq,wJ,vm,iy]at g9;obtain⟨rfl,rfl,rfl,rfl,rfl⟩:=g9;obtain⟨ih,bY,rfl,_⟩:=id fE;obtain⟨jC,cC,rfl,_⟩:=id gJ;obtain⟨hZ,b6,rfl,_⟩:=id gq;refine⟨A,?_⟩;refine aB ?_;have ll:∀{o aW},az L dK (F (F dK L o) L aW):=aC
  have eg:cF Z.N (Z.e1.st g).A≠[]:=λe=>by have:=jq Z.N (Z.e1.st g).A;rw[e]at this;simp at this;omega
  refine(aao (fE.rd.T ll J) (by rw[jq];have:=S.K.n60;omega) eg).mono ?_;rintro v lF n6 ⟨JE,vb,j9⟩
  (try simp(disch:=omega)only[bd,seval])
  exact⟨v,by rw[B],aC,J,.inr ⟨B,Z,g,I,aw2 JE J⟩⟩
 ·refine(acf  iQ B).b0 λdK L hT A=>⟨A,?_⟩
  have aG:(gl (iO 3 bI 0 r c es) == 0)=false:=ab
  unfold WW;refine a9 @aG ?_;exact⟨_,rfl,aC,J,.inl ⟨B,rfl⟩⟩
end
theorem agZ{gs:aa GE}(hk:Z.k=3)(bm:Z.N<=4096)(lW:zB gs Z.af)(V:∀g∈gs,fy Z.N g):vX Z.e1 gs:=by
 obtain⟨us,cs,h1,al,bt,aM,P⟩:=lW;have P:jd ((vS bt).map di) (Z.af.map di):=P;have M:∀g∈cs,∃e∈gs,(e.f=g.f/\e.t=g.t)\/(e.f=g.t/\e.t=g.f):=λg A=>by
  rcases g6.1 (al.sub g A)with h|h
  ·exact⟨g,h,.inl ⟨rfl,rfl⟩⟩
  ·obtain⟨e,B,rfl⟩:=K5.1 (h1.sub g h);exact⟨e,B,.inr ⟨rfl,rfl⟩⟩
 have back:∀g∈Z.af,∃e∈cs,g=oG (xG e):=λg A=>by obtain⟨c,C,rfl⟩:=K5.1 (P.sub g A);obtain⟨e,B,rfl⟩:=aap.1 (aM.sub c C);exact⟨e,B,rfl⟩
 have aBj:∀g∈cs,∃d∈Z.af,d.f=g.t/\d.t=g.f:=λg A=>by obtain⟨c,C,E,I⟩:=aM.H1 (xG g) (aap.2 ⟨g,A,rfl⟩);obtain⟨d,L,ce,eC⟩:=P.H1 (oG c) (K5.2 ⟨c,C,rfl⟩);exact⟨d,L,ce.trans I,eC.trans E⟩
 refine⟨hk,bm,λg A=>?_,λg A=>?_,λg A=>?_⟩
 ·obtain⟨e,B,rfl⟩:=back g A;obtain⟨x,aR,h⟩:=M e B;have:=V x aR;unfold fy at this;refine⟨rfl,?_,?_⟩
  ·show e.t<Z.N;omega
  ·show e.f<Z.N;omega
 ·obtain⟨e,B,rfl⟩:=back g A;obtain⟨x,aR,h⟩:=M e B;exact⟨x,aR,h.symm⟩
 ·obtain⟨e,B,h⟩:=Ra A;rcases h with⟨bP,b9⟩|⟨bP,b9⟩
  ·obtain⟨c,C,E,I⟩:=al.H1 e (CM _ B);obtain⟨d,L,ce,eC⟩:=aBj c C;exact⟨d,L,J,J⟩
  ·obtain⟨D,eb,E,I⟩:=h1.H1 (oG e) (K5.2 ⟨e,B,rfl⟩);obtain⟨c,C,gP,g1⟩:=al.H1 D (OO _ eb);obtain⟨d,L,ce,eC⟩:=aBj c C;have E:D.f=e.t:=E;have I:D.t=e.f:=I;exact⟨d,L,J,J⟩
theorem afP{gs:aa GE}(K:gj Z)(E:vX Z.e1 gs)(B:Nat):yg Z B:=λt _=>by
 have D:Z.k=3:=E.k;have C:∀v,v<Z.N->wG (Z.e1.x t v):=λv A y g=>by
  have g:rc Z.k (Z.e1.aQ t) t (Z.e1.st (t-1)) v=some y:=g;unfold rc at g;rw[if_neg J,if_neg J]at g
  split at g
  ·cases g;have:=(uv.all E (t-1)).hp v A;have:=K.n60;unfold eB;omega
  ·cases g
 exact⟨awZ K C,λv y A=>C v A y⟩
theorem atb{aw:Nat}{gs:aa GE}(E:vX Z.e1 gs)(g:wo Z.N gs)(D:1<=Z.R)(I:Z.N<Z.lim)(A:Z.gn aw≠0):
  ∃L,lu Z.N gs L/\cF Z.N (Z.e1.st aw).A=fe L:=by
 have M:Z.k=3:=E.k;have C:∀v,v<Z.N->(Z.e1.st aw).q v=false:=λv B=>by
  rcases amk J J D A with h|h
  ·exact E.quiet g (by show Z.N<=aw;omega) v B
  ·exact h v B
 refine⟨_,E.EK g C,?_⟩;unfold cF fe;rw[pW];refine qO λv B=>?_;have:=(uv.all E aw).hp v (CT.1 B);show _=(((Z.e1.st aw).A v).toNat:Int)
 omega
def Sf:aa (aa Nat):=[[3,10,11,12]]
def acj(s:ak)(a3 cZ dO dT:X)(h:ad)(U:Nat)(N:aH)(aF:aH)(R:aH):Prop:=cq dT dO (ea h 1 cZ dT λc=>bT .eql 3 dT c (b3 a3 λe=>b3 dT λf=>N [e,cZ,dO,f] h U) (b3 dT λg=>N [a3,cZ,dO,g] h U)) (aF [a3,cZ,dO,dT] h U)
def S6:fw:=λs au h U K=>cK au h U λa b c=>a4 2 b a λd=>bh s 83 [d] b c λe f g=>lh e (K (ae 0) f g) (a4 2 f a λj=>bh s 90 [j] f g λk l m=>cQ k λn=>bq (bA Q s Sf 31 0) [ae 0,k,n,ae 0] l m [(0,λo p q=>K (aQ o 0) p q)] (λ_ _ _=>False))
theorem apP{s:ak}{A g B:X}{h:ad}{U:Nat}{N:aH}:bA Q s Sf 31 0 [a3,A,g,B] h U N [(0,aF)] R=acj s a3 A g B h U N aF R:=by kernel_rfl
theorem aep:fG 31 S6:=fO Sf
def AH(s:ak)(K:bD)(bY cC b6 y24:X)(ap:ad)(aX:Nat):Prop:=bJ y24 (K (.bool false) ap aX) (a4 2 ap b6 λa=>bh s 90 [a] ap aX λb c d=>bh s 91 [b,bY] c d λe f g=>bh s 91 [b,cC] f g λi j k=>cf .eql 3 e i λl=>K l j k)
def Sg:i6:=λs au t1 t2 h U K=>cK au h U λa b c=>a4 2 b a λd=>bh s 83 [d] b c λe f g=>lh e (AH s K t1 t2 a (.bool true) f g) (ag (min2 true t1 t2) λj=>cq j (ae 0) (AH s K t1 t2 a (.bool true) f g) (ag (min2 false t1 t2) λl=>ay f 0 a λn=>cf .geq 3 l n λo=>(AH s K t1 t2 a o f g)))
theorem ack:jl 33 Sg:=jA []
def wP(s:ak)(K:bD)(bY cC b6 Vo:X)(ap:ad)(aX:Nat):Prop:=bJ Vo (K (.bool false) ap aX) (a4 2 ap b6 λa=>bh s 27 [a] ap aX λb c d=>ea c 1 b bY λf=>ea c 1 b cC λi=>cf .eql 2 f i λj=>K j c d)
def QV:i6:=λs au t1 t2 h U K=>cK au h U λa b c=>a4 2 b a λd=>bh s 92 [d] b c λe f g=>lh e (wP s K t1 t2 a (.bool true) f g) (cq t1 (ae 0) (wP s K t1 t2 a (.bool true) f g) (ay f 0 a λl=>bT .geq 3 t1 l (wP s K t1 t2 a (.bool true) f g) (cq t2 (ae 0) (wP s K t1 t2 a (.bool true) f g) (ay f 0 a λp=>cf .geq 3 t2 p λq=>(wP s K t1 t2 a q f g)))))
theorem aat:jl 34 QV:=jA []
def GH:aa (aa Nat):=[[0,3,4,5],[0,3,4,5,6,7]]
def aau(s:ak)(a0 a3 aV bl bf aZ:X)(h:ad)(U:Nat)(N:aH)(aJ:aH)(R:aH):Prop:=cQ aV λa=>cq aZ a (ea h 1 aV aZ λd=>ea h 1 a0 bl λf=>bT .eql 2 d f (b3 aZ λi=>N [a0,a3,aV,bl,aZ,i] h U) (b3 aZ λj=>N [a0,a3,aV,bl,bf,j] h U)) (aJ [a0,a3,aV,bl,bf,aZ] h U)
def KE(s:ak)(N:aH)(aF:aH)(R:aH)(cu b6 cR d3 dM:X)(ap:ad)(aX:Nat):Prop:=ea ap 1 b6 dM λb=>ey (fU 1 [ae 0] [(0,1,d3)]) ap aX λc d e=>dB (dS (dv 1 d e b c)) λf g i=>f3 1 b6 dM λj=>ag (a7 g 1 j f) λk=>b3 d3 λl=>N [cu,b6,cR,l] k i
def aav(s:ak)(a0 a3 aV bl:X)(h:ad)(U:Nat)(N:aH)(aF:aH)(R:aH):Prop:=cQ a0 λa=>cq bl a (bq (bA Q s GH 93 1) [a0,a3,aV,bl,ae (-1),ae 0] h U [(2,λc d e=>cq (aQ c 4) (ae 0) (cQ (aQ c 2) λg=>ea d 1 (aQ c 0) (aQ c 3) λj=>ey (fU 1 [ae 0] [(0,1,j)]) d e λk l m=>dB (dS (dv 1 l m (aQ c 2) k)) λn o p=>ey (fU 1 [aS] [(0,1,aS)]) o p λq r t=>dB (dS (dv 1 r t (aQ c 1) q)) λaT v w=>(KE s N aF R (aQ c 0) aT n (aQ c 3) g v w)) (KE s N aF R (aQ c 0) (aQ c 1) (aQ c 2) (aQ c 3) (aQ c 4) d e))] (λ_ _ _=>False)) (aF [a0,a3,aV,bl] h U)
def aeq:fw:=λs au h U K=>bq (bA Q s GH 93 0) [au,aS,aS,ae 0] h U [(0,λa b c=>K (aQ a 1) b c)] (λ_ _ _=>False)
theorem amn{s:ak}{B g:X}{h:ad}{U:Nat}{N A:aH}:bA Q s GH 93 1 [a0,a3,aV,bl,B,g] h U N [(2,A)] R=aau s a0 a3 aV bl B g h U N A R:=by kernel_rfl
theorem amo{s:ak}{h:ad}{U:Nat}{N:aH}:bA Q s GH 93 0 [a0,a3,aV,bl] h U N [(0,aF)] R=aav s a0 a3 aV bl h U N aF R:=by kernel_rfl
theorem apQ:fG 93 aeq:=fO GH
def vu(s:ak)(K:bD)(cC b6 cR Vm:X)(ap:ad)(aX:Nat):Prop:=bJ Vm (bh s 26 [] ap aX λa b c=>K a b c) (a4 2 ap b6 λd=>ag (il (.array 2 1) cR (ae 0)) λe=>dc ap e λf=>ag (il (.array 2 1) cR (ae 1)) λg=>dc ap g λi=>bh s 25 [d,f,i] ap aX λj k l=>ag (dz j 0) λm=>ag (dz j 1) λn=>c7 26 [] k l λo p q=>bJ o (a4 2 p b6 λr=>ag (il (.array 2 1) cR (ae 0)) λt=>dc p t λaT=>ag (il (.array 2 1) cR (ae 1)) λv=>dc p v λw=>c7 29 [r,aT,w] p q λx y z=>c7 24 [x] y z λbX ch bV=>bT .eql 30 n bX (a4 2 ch b6 λb2=>c7 28 [b2,cC] ch bV λcM bU dj=>a4 2 bU b6 λcP=>kZ 2 b6 cP (c7 30 [cP,cC] bU dj λd0 dH eM=>bT .eql 4 cM d0 (a4 2 dH b6 λan=>c7 31 [an] dH eM λeR gM hC=>a4 2 gM b6 λhL=>kZ 2 b6 hL (c7 32 [hL] gM hC λi7 hS hd=>bT .eql 3 eR i7 (a4 2 hS b6 λl4=>ag (il (.array 2 1) cR (ae 0)) λm5=>dc hS m5 λo7=>ag (il (.array 2 1) cR (ae 1)) λi9=>dc hS i9 λcg=>c7 33 [l4,o7,cg] hS hd λsG be sH=>a4 2 be b6 λjD=>kZ 2 b6 jD (ag (il (.array 2 1) cR (ae 0)) λfS=>dc be fS λbi=>eX fS bi (ag (il (.array 2 1) cR (ae 1)) λog=>dc be og λnF=>eX og nF (c7 34 [jD,bi,nF] be sH λli i5 tO=>cf .eql 4 sG li λaP=>K aP i5 tO) 1 [hS,gM,dH,bU,ch,y,p,k]) 1 [hS,gM,dH,bU,ch,y,p,k]) 1 [hS,gM,dH,bU,ch,y,p,k]) (K (.bool false) hS hd)) 1 [dH,bU,ch,y,p,k]) (K (.bool false) dH eM)) 1 [ch,y,p,k]) (K (.bool false) ch bV)) (K (.bool false) p q))
def acl:i6:=λs au t1 t2 h U K=>cK au h U λa b c=>cK t1 b c λd e f=>ay e 1 a λi=>cQ i λj=>kA j (ae 30) (ay e 1 a λm=>cQ m λn=>bT .leq 3 n (ae 65536) (vu s K t2 a d (.bool true) e f) (ay e 0 a λq=>kA q (ae 30) (ay e 0 a λaT=>bT .leq 3 aT (ae 4096) (vu s K t2 a d (.bool true) e f) (cQ t2 λw=>cf .gtr 3 w (ae 40) λx=>(vu s K t2 a d x e f))) (cQ t2 λy=>cf .gtr 3 y (ae 40) λz=>(vu s K t2 a d z e f)))) (ay e 0 a λch=>kA ch (ae 30) (ay e 0 a λb2=>bT .leq 3 b2 (ae 4096) (vu s K t2 a d (.bool true) e f) (cQ t2 λbU=>cf .gtr 3 bU (ae 40) λdj=>(vu s K t2 a d dj e f))) (cQ t2 λcP=>cf .gtr 3 cP (ae 40) λd0=>(vu s K t2 a d d0 e f)))
theorem amp:jl 6 acl:=jA []
section
variable {s:ak} {h:ad} {U:Nat} {bI r c a b:Int} {v gf:X} {es:aa gS} {l:aa Int}
theorem apR(B:dq h U v gc es)(L:gr bI es≠0)(g:∃a n c,gf = .slice a n c):
  aD Q s 28 [.agg ⟨[(bI:X),v]⟩,gf] h U (cI (.bool false) U h):=by
 refine aeo ?_;obtain⟨V,cap,rfl,P⟩:=id B;obtain⟨eM,I,cl,rfl⟩:=g;unfold S5;refine aB ?_;refine(Dr (B.T aC J)).b0 λh1 M E D=>?_;have C:=E U J;rw[aN]at C;have A:(gr bI es == 0)=false:=ab
 refine cx @C @A ?_;unfold K6
 (try simp(disch:=omega)only[bd,seval])
 exact⟨rfl,aC,J⟩
theorem amq(B:dq h U v gc es)(L:gr bI es≠0)(g:∃a n c,gf = .slice a n c):
  aD Q s 30 [.agg ⟨[(bI:X),v]⟩,gf] h U (cI (.bool false) U h):=by
 refine bS ?_;obtain⟨V,cap,rfl,P⟩:=id B;obtain⟨eM,I,cl,rfl⟩:=g;refine aB ?_;refine(Gz (B.T aC J)).b0 λh1 M E D=>?_;have C:=E U J;rw[aN]at C;have A:(gr bI es == 0)=false:=ab
 refine cx @C @A ?_;exact⟨rfl,aC,J⟩
theorem apS(A:dq h U v gc es)(E:gr bI es≠0):
  aD Q s 31 [.agg ⟨[(bI:X),v]⟩] h U (cI (.int .i64 0) U h):=by
 refine aep ?_;obtain⟨M,cap,rfl,L⟩:=id A;unfold S6;refine aB ?_;refine(Dr (A.T aC J)).b0 λP I D C=>?_;have B:=D U J;rw[aN]at B;have g:(gr bI es == 0)=false:=ab
 refine cx @B @g ?_;exact⟨rfl,aC,J⟩
theorem amr(A:dq h U v gc es)(E:gr bI es≠0):
  aD Q s 32 [.agg ⟨[(bI:X),v]⟩] h U (cI (.int .i64 0) U h):=by
 refine bS ?_;obtain⟨M,cap,rfl,L⟩:=id A;refine aB ?_;refine(Gz (A.T aC J)).b0 λP I D C=>?_;have B:=D U J;rw[aN]at B;have g:(gr bI es == 0)=false:=ab
 refine cx @B @g ?_;exact⟨rfl,aC,J⟩
theorem ams(A:dq h U v gc es)(E:gr bI es≠0):
  aD Q s 33 [.agg ⟨[(bI:X),v]⟩,(a:X),(b:X)] h U (cI (.bool false) U h):=by
 refine ack ?_;obtain⟨M,cap,rfl,L⟩:=id A;unfold Sg;refine aB ?_;refine(Dr (A.T aC J)).b0 λP I D C=>?_;have B:=D U J;rw[aN]at B;have g:(gr bI es == 0)=false:=ab
 refine cx @B @g ?_;unfold AH
 (try simp(disch:=omega)only[bd,seval])
 exact⟨rfl,aC,J⟩
theorem akn(A:dq h U v gc es)(E:gr bI es≠0):
  aD Q s 34 [.agg ⟨[(bI:X),v]⟩,(a:X),(b:X)] h U (cI (.bool false) U h):=by
 refine aat ?_;obtain⟨M,cap,rfl,L⟩:=id A;unfold QV;refine aB ?_;refine(Gz (A.T aC J)).b0 λP I D C=>?_;have B:=D U J;rw[aN]at B;have g:(gr bI es == 0)=false:=ab
 refine cx @B @g ?_;unfold wP
 (try simp(disch:=omega)only[bd,seval])
 exact⟨rfl,aC,J⟩
end
section
variable {s:ak} {h:ad} {U:Nat} {bI r c:Int} {a:av Addr} {n cap:Nat} {es:aa gS}
theorem amt{v:X}{l:aa Int}(B:cN h U v cG l)(C:l.length<1000000):aD Q s 88 [v] h U (λr ac A=>az U h ac/\U<=A):=by
 by_cases e:l=[]
 ·subst e;refine bS ?_;obtain⟨a,cap,rfl,D⟩:=id B;simp(disch:=omega)only[bd,y3 T4,seval];cases a with
  |none=>exact⟨λ_=>az.refl _ _,λg=>absurd g (by simp)⟩
  |some a =>
   refine⟨λg=>absurd g (by simp),λ_=>?_⟩;show az U h (F h U (.cells [] false))/\U<=U+1;exact⟨aC,J⟩
 ·exact(aao B C e).mono λ_ _ _ ⟨_,b,c⟩=>⟨b,c⟩
theorem amu(E : -9223372036854775808<=bI)(B:bI<=9223372036854775807):
  aD Q s 29 [.agg ⟨[(bI:X),.slice a n cap]⟩,(r:X),(c:X)] h U (cI (.agg ⟨fq (iO 3 bI 0 r c es) (.slice none 0 0) (.slice a n cap) (.slice none 0 0)⟩) U h):=by refine bS ?_;refine aB ?_;refine(amj (es:=es) E B).b0 λD I A g=>?_;unfold fq;have C:u D (U+1)=_:=(A (U+1) J).trans (aN _ _ _);refine a9 @C ?_;exact⟨rfl,aC,J⟩
theorem avd(dZ:gl (iO 3 bI 0 r c es)=0->∀(Z:b5) (A:Nat),Fj 3 bI 0 r c es Z A->yg Z A)(H:oH h U (iO 3 bI 0 r c es) (.slice none 0 0) (.slice a es.length cap) (.slice none 0 0))(h1 : -9223372036854775808<=bI)(al:bI<=9223372036854775807)(bm:bI<=30\/4096<bI):
  aD Q s 25 [.agg ⟨[(bI:X),.slice a es.length cap]⟩,(r:X),(c:X)] h U (λoj ac Y=>∃v,oj = .tuple ⟨[v,.int .i64 (gl (iO 3 bI 0 r c es))]⟩/\az U h ac/\U<=Y):=by
 refine bS ?_;refine aB ?_;refine(aci (es:=es) h1 al).b0 λbr E cD fp=>?_;unfold fq;refine aB ?_;generalize iw:F (F br E _) E _=g2;have M:u g2 E=some (.cells (fq (iO 3 bI 0 r c es) (.slice none 0 0) (.slice a es.length cap) (.slice none 0 0)) false):=by rw[<-iw,aN];rfl
 have L:az U h g2:=aC
 have h9:=H.T (Y:=E+1) L J;refine(ZV  h9).b0 λc3 bR fg C=>?_;have oc:=(fg E J).trans M;have P:az U h c3:=aC
 have yD:mz (.agg ⟨fq (iO 3 bI 0 r c es) (.slice none 0 0) (.slice a es.length cap) (.slice none 0 0)⟩) (.agg ⟨fq (iO 3 bI 0 r c es) (.slice none 0 0) (.slice a es.length cap) (.slice none 0 0)⟩)=true:=by unfold fq;simp(disch:=omega)only[bd,fZ,seval]
 unfold fq at M oc yD;refine⟨C,?_⟩;refine j6 @M @oc @pc @yD ?_;have iQ:=H.T (Y:=bR) P J
 by_cases B:gl (iO 3 bI 0 r c es)=0
 ·have D:bI<=30:=bm.elim id λh=>absurd B λap=>by
   unfold gl iO nj iB gR at ap
   grind
  obtain⟨Z,A,Oz,azi,S,eH,W,tP,jF,zZ⟩:=afO J iQ B D;rw[show(iO 3 bI 0 r c es).lim=r7 bI from rfl,tP];refine(ael  S eH Oz.gn (dZ B Z A Oz) jF zZ).mono ?_;rintro _ V I ⟨kf,lb,ky,kY,sN,hp,gF,rfl,⟨cY,fJ,ei,g9,fE,gJ,gq⟩,hT,g⟩;simp only[Value.agg.injEq,wJ,vm,iy]at g9;obtain⟨rfl,rfl,rfl,rfl,rfl⟩:=g9;obtain⟨ih,bY,rfl,_⟩:=id fE;obtain⟨jC,cC,rfl,_⟩:=id gJ;obtain⟨hZ,b6,rfl,_⟩:=id gq;refine⟨g,?_⟩;refine aB ?_;have ll:∀{o aW},az I V (F (F V I o) I aW):=aC
  refine(amt (fE.rd.T ll J) (by rw[jq];have:=S.K.n60;omega)).mono ?_;rintro v lF n6 ⟨vb,j9⟩
  (try simp(disch:=omega)only[bd,seval])
  exact⟨v,by rw[B],aC,J⟩
 ·refine(acf  iQ B).b0 λV I hT g=>⟨g,?_⟩
  have aG:(gl (iO 3 bI 0 r c es) == 0)=false:=ab
  unfold WW;refine a9 @aG ?_;exact⟨_,rfl,aC,J⟩
end
section
variable {s:ak} {N:Nat} {v gf:X} {gs:aa GE} {l:aa Int} {c0:aa Nat} {h:ad} {U:Nat}
def RlG(N:Nat)(gs:aa GE)(c0:aa Nat)(U:Nat)(h:ad):bD:=λr ac Y=>cN ac Y r cG (fe c0)/\az U h ac/\U<=Y
def ah9(U:Nat)(h:ad)(w:X)(m:Nat)(aE:aa X)(ac:ad)(Y:Nat):Prop:=m=0/\aE=[bb U,.slice none 0 0,.int .i64 0]/\ac=F h U (.cells [.int .i64 0,w] false)/\Y=U+1
theorem S7(E:dq h U v bQ gs)(P:N<=4096)(bg:gs.length<=120)(B:∀g∈gs,fy N g)(D:lu N gs c0):
  aD Q s 27 [.agg ⟨[(N:X),v]⟩] h U (RlG N gs c0 U h):=by
 by_cases I:N=0
 ·subst I;have e:c0=[]:=Ak D.len;subst e;refine ach ?_;obtain⟨a,cap,rfl,aU⟩:=id E;unfold Sd;refine aB ?_;refine bq.mk (ah9 U h (.slice a gs.length cap)) 0 ⟨rfl,rfl,rfl,rfl⟩ ?_;rintro m _ _ _ ⟨rfl,rfl,rfl,rfl⟩;rw[aar];unfold P6;refine aB ?_;refine λ_=>?_;refine bq.mk (ah9 U h (.slice a gs.length cap)) 0 ⟨rfl,rfl,rfl,rfl⟩ ?_;rintro m _ _ _ ⟨rfl,rfl,rfl,rfl⟩;rw[aas];unfold P7;refine aB ?_;refine λ_=>?_;exact⟨⟨none,0,rfl,λh=>absurd rfl h⟩,aC,J⟩
 ·refine(amm E J P J B).mono ?_;rintro r ac M ⟨b,yC,rfl,g,A,h1,L,V,C⟩;have:=A.unique D;subst this;exact⟨⟨some ⟨b,0,some 1⟩,N,by rw[kG,D.len],λ_=>⟨b,some 1,false,L,rfl,by rw[h2];exact g⟩⟩,V,C⟩
theorem amv(L:dq h U v bQ gs)(B:cN h U gf cG l)(cU:N<=4096)(bg:gs.length<=120)(A:∀g∈gs,fy N g)(eJ:lu N gs c0):
  aD Q s 30 [.agg ⟨[(N:X),v]⟩,gf] h U (cI (.bool (decide (l=fe c0))) U h):=by
 refine bS ?_;obtain⟨a,cap,rfl,aU⟩:=id L;obtain⟨eM,H2,rfl,je⟩:=id B;refine aB ?_;have P:∀{d9:fM},az U h (F h U d9):=aC
 refine(Kz (L.T P J) cU A bg).b0 λh1 gv V E=>?_;have br:=V U J;rw[aN]at br;refine a9 @br ?_;have I:=(L.T P (nP U)).T V E;have D:=(B.T P (nP U)).T V E;refine(S7 I cU bg A eJ).mono ?_;rintro r al e4 ⟨S,M,C⟩;refine(as7 S (D.T M C) (by rw[kG,eJ.len];omega)).f4 ?_;have e:decide (fe c0=l)=decide (l=fe c0):=by rw[decide_eq_decide];exact⟨Eq.symm,Eq.symm⟩
 exact⟨by rw[e],aC,J⟩
def ry(c0:aa Nat)(i:Nat):Nat:=((List.range i).filter λv=>decide (c0[v]? = some v)).length
theorem TB(c0:aa Nat)(i:Nat):ry c0 (i+1)=ry c0 i+(if c0[i]? = some i then 1 else 0):=by
 unfold ry;rw[pb,rJ,jb]
 by_cases h:c0[i]? = some i <;> simp[h]
theorem afQ(c0:aa Nat)(i:Nat):ry c0 i<=i:=by unfold ry;exact hu (yF _ _) (by rw[vk];omega)
theorem apT{g:aa Nat}(B:q0 N g)(C:∀v r,gk g v r↔c0[v]? = some r)(A:g[i]? = some x):x=i↔c0[i]? = some i:=by
 constructor
 ·rintro rfl;exact(C _ _).1 (.here A)
 ·intro h;cases(C i i).2 h with
  |here h=>rw[A]at h;cases h;rfl
  |up h D t =>
   rw[A]at h;cases h;have:=gk.le B t;have:=B.2 i x A;omega
def CoJ(N b:Nat)(d7 c0:aa Nat)(h:ad)(U:Nat)(m:Nat)(aE:aa X)(ac:ad)(Y:Nat):Prop :=
 ∃i,m=N-i/\i<=N/\aE=[.int .i64 (ry c0 i:Int),.slice (some ⟨b,0,none⟩) N N,(N:X),(i:X)]/\ac=h/\Y=U
theorem apU(P:dq h U v bQ gs)(cU:N<=4096)(bg:gs.length<=120)(A:∀g∈gs,fy N g)(eJ:lu N gs c0):
  aD Q s 31 [.agg ⟨[(N:X),v]⟩] h U (cI (.int .i64 (ry c0 N:Int)) U h):=by
 refine aep ?_;obtain⟨a,cap,rfl,aU⟩:=id P;unfold S6;refine aB ?_;have hc:∀{d9:fM},az U h (F h U d9):=aC
 refine(Gy (P.T hc J) cU A bg).b0 λh1 gv hk V=>?_;have br:=hk U J;rw[aN]at br;refine a9 @br ?_;have L:=(P.T hc (nP U)).T hk V;refine(Se L cU J A).mono ?_;rintro r al e4 ⟨b,C,rfl,g2,aBk,de,bO,dE,e9⟩;obtain⟨D,Jg,dD⟩:=aBk.EK λe I=>⟨(A e I).1,(A e I).2.1⟩
 have:=Jg.unique eJ;subst this;have he:=aBk.q1;refine aB ?_;refine bq.mk (CoJ N b C D al e4) N ⟨0,rfl,J,rfl,rfl,rfl⟩ ?_;rintro m _ _ _ ⟨i,rfl,ai,rfl,rfl,rfl⟩;rw[apP];unfold acj;refine aB ?_;refine⟨λM=>?_,λeh=>?_⟩
 ·obtain⟨x,aR⟩:=dk (l:=C) (i:=i) (by rw[he.1];exact M);have B:=apT he dD aR;have BI:=afQ D i;have E:=TB D i;simp(disch:=omega)only[bd,g2,Dy aR,cn (J:i<1000000000000),cn (J:ry D i<1000000000000),seval];refine⟨λI=>?_,λeg=>?_⟩
  ·have:x=i:=by
    have al:(i:Int)=(x:Int):=by simpa using I
    omega
   rw[if_pos (B.1 this)]at E;exact⟨N-(i+1),J,i+1,rfl,J,by rw[E],rfl,rfl⟩
  ·have:¬D[i]? = some i:=λh=>by have:=B.2 h;subst this;simp at eg
   rw[if_neg this]at E;exact⟨N-(i+1),J,i+1,rfl,J,by rw[E];rfl,rfl,rfl⟩
 ·have:i=N:=J
  subst this;exact⟨rfl,aC,J⟩
def xp(c0:aa Nat)(N:Nat)(a b:Int):ak:=decide ((0<=a/\a<N)/\(0<=b/\b<N)/\c0[a.toNat]? = c0[b.toNat]?)
theorem amw{a b:Int}(V:dq h U v bQ gs)(cU:N<=4096)(bg:gs.length<=120)(C:∀g∈gs,fy N g)(eJ:lu N gs c0):
  aD Q s 33 [.agg ⟨[(N:X),v]⟩,(a:X),(b:X)] h U (cI (.bool (xp c0 N a b)) U h):=by
 refine ack ?_;obtain⟨hS,cap,rfl,aU⟩:=id V;unfold Sg;refine aB ?_;have hc:∀{d9:fM},az U h (F h U d9):=aC
 refine(Gy (V.T hc J) cU C bg).b0 λh1 gv hk dr=>?_;have br:=hk U J;rw[aN]at br;refine a9 @br ?_;have P:=(V.T hc (nP U)).T hk dr;have gF:az U h h1:=aC
 refine⟨λap=>?_,λap=>?_⟩
 ·unfold AH;refine aB ?_;exact⟨by rw[show xp c0 N a b=false from f9 J],gF,J⟩
 by_cases aM:max a b<(N:Int)
 case neg =>
  rw[f9 aM];unfold AH;refine aB ?_;exact⟨by rw[show xp c0 N a b=false from f9 J],gF,J⟩
 rw[gz aM];obtain⟨A,rfl⟩:∃A:Nat,a=(A:Int):=⟨a.toNat,J⟩
 obtain⟨B,rfl⟩:∃B:Nat,b=(B:Int):=⟨b.toNat,J⟩
 unfold AH;refine a9 @br ?_;refine(Se P cU J C).mono ?_;rintro r al e4 ⟨ck,L,rfl,g2,M,de,bO,dE,e9⟩;obtain⟨yC,Jg,dD⟩:=M.EK λe bk=>⟨(C e bk).1,(C e bk).2.1⟩
 have:=Jg.unique eJ;subst this
 (try simp(disch:=omega)only[bd,seval])
 refine(Hr J A J L al e4 M.q1 g2).mono ?_;rintro _ bP IH ⟨q,fA,rfl,cz,D,ar,c3,k6,rfl⟩
 (try simp(disch:=omega)only[bd,seval])
 refine(Hr J B J fA bP IH D c3).mono ?_;rintro _ bc Iw ⟨E,JO,rfl,I,I9,nu,dK,aAw,rfl⟩;refine aB ?_;have aY:yC[A]? = some q:=(dD A q).1 cz;have aJ:yC[B]? = some E:=(dD B E).1 (gk.back M.q1 D ar I);refine⟨?_,aC,J⟩;unfold xp;rw[yI,yI,aY,aJ]
 by_cases e:q=E
 ·subst e;rw[gz ⟨J,J,rfl⟩];simp
 ·rw[f9 λh=>e (by have:=h.2.2;simpa using this)];have:((q:Int) == (E:Int))=false:=by simp;omega
  rw[this]
theorem ako{a b:Int}(P:dq h U v bQ gs)(cU:N<=4096)(bg:gs.length<=120)(D:∀g∈gs,fy N g)(I:lu N gs c0):
  aD Q s 34 [.agg ⟨[(N:X),v]⟩,(a:X),(b:X)] h U (cI (.bool (xp c0 N a b)) U h):=by
 refine aat ?_;obtain⟨hS,cap,rfl,aU⟩:=id P;unfold QV;refine aB ?_;have hc:∀{d9:fM},az U h (F h U d9):=aC
 refine(Kz (P.T hc J) cU D bg).b0 λh1 L hk V=>?_;have br:=hk U J;rw[aN]at br;refine a9 @br ?_;have M:=(P.T hc (nP U)).T hk V;have gF:az U h h1:=aC
 have fin:¬((0<=a/\a<N)/\0<=b/\b<N)->wP s (cI (.bool (xp c0 N a b)) U h) (a:X) (b:X) (bb U) (.bool true) h1 L:=λbm=>by unfold wP;refine aB ?_;exact⟨by rw[show xp c0 N a b=false from f9 J],gF,J⟩
 refine⟨λap=>fin J,λap=>⟨λal=>fin J,λal=>⟨λaM=>fin J,λaM=>?_⟩⟩⟩
 by_cases bc:b<(N:Int)
 case neg=>rw[f9 bc];exact fin J
 rw[gz bc];obtain⟨A,rfl⟩:∃A:Nat,a=(A:Int):=⟨a.toNat,J⟩
 obtain⟨B,rfl⟩:∃B:Nat,b=(B:Int):=⟨b.toNat,J⟩
 unfold wP;refine a9 @br ?_;refine(S7 M cU bg D I).mono ?_;rintro r bP IH ⟨S,hi,mE⟩;have hY:A<N:=J
 have dZ:B<N:=J
 obtain⟨q,cz⟩:=dk (l:=c0) (i:=A) (by rw[I.len];exact hY);obtain⟨eK,C⟩:=dk (l:=c0) (i:=B) (by rw[I.len];exact dZ);have a6:(fe c0)[A]? = some (q:Int):=y2 cz;have bH:(fe c0)[B]? = some (eK:Int):=y2 C;obtain⟨_,de,I2,ro1,c1,hy,aY,g2⟩:=S.at a6;subst aY;rw[h2]at g2;have E:(fe c0).length=N:=by rw[kG,I.len]
 simp(disch:=omega)only[bd,g2,E,Dy cz,Dy C,seval];refine⟨?_,aC,J⟩;unfold xp;rw[yI,yI,cz,C]
 by_cases e:q=eK
 ·subst e;rw[gz ⟨J,J,rfl⟩];simp
 ·rw[f9 λh=>e (by have:=h.2.2;simpa using this)];have:((q:Int) == (eK:Int))=false:=by simp;omega
  rw[this]
end
section
variable {s:ak} {N:Nat} {v gf:X} {gs:aa GE} {l:aa Int} {c0:aa Nat} {h:ad} {U:Nat}
def Fk(h:ad)(ao ai:Nat)(ei:X)(eO:aa Go.Ax.fZ)(iM:aa (aa Nat))(cV:av Nat):Prop :=
 (eO=[]/\iM=[]/\ei = .slice none 0 0/\cV=none)\/∃aP,cV=some aP/\ao<=aP/\ro h aP ao ai eO iM/\ei = .slice (some ⟨aP,0,some 1⟩) eO.length eO.length
theorem Fk.T{h ac:ad}{ao ai da:Nat}{ei:X}{eO:aa Go.Ax.fZ}{iM:aa (aa Nat)}{cV:av Nat}(O:Fk h ao ai ei eO iM cV)(B:∀b,ao<=b->b<ai->u ac b=u h b)(g:ai<=da):Fk ac ao da ei eO iM cV:=by
 rcases O with O|⟨aP,rfl,A,L,e⟩
 ·exact .inl O
 ·exact .inr ⟨aP,rfl,A,L.T (B aP A L.BS) B g,e⟩
theorem ave{h:ad}{U bO c2:Nat}{V:av Nat}{bC:ak}(O:Fk h ao U ei eO iM cV)(qj:ao<=U)(P:u h bO=some (.cells [.slice none 0 0] bC))(h3:eO.length<1000){K:X->ad->Nat->Prop}(ha:∀ac,ro ac U ao (U+1) (eO++[(none,0)]) (iM++[[]])->(∀c,c≠U->cV≠some c->u ac c=u h c)->K (.slice (some ⟨U,0,some 1⟩) (eO.length+1) (eO.length+1)) ac (U+1)):
  dB (dS (dv 1 h U ei (.slice (some ⟨bO,0,V⟩) 1 c2))) K:=by
 have g:fb h Go.Ax.eA 1 ei eO cV:=by
  rcases O with⟨rfl,rfl,rfl,rfl⟩|⟨aP,rfl,C,L,rfl⟩
  ·exact .nil
  ·exact .own (by rw[Qe];exact L.at_)
 obtain⟨ac,e,aM,bc⟩:=g.app (k:=1) (λ_=>rfl) Go.Ax.akI Nat.zero_lt_one (dI:=0) (x:=((none,0):Go.Ax.fZ)) P rfl J;rw[Qe]at aM;rw[e];refine ha ac ?_ bc;have I:∀(j b n:Nat),eO[j]? = some (some b,n)->ao<=b/\b<U/\cV≠some b:=λj b n A=>by
  rcases O with⟨rfl,_⟩|⟨aP,rfl,C,L,_⟩
  ·exact absurd A (by simp)
  ·have:=L.below A;refine⟨this.1,this.2,λe=>?_⟩;cases e;exact L.other j n A
 have B:eO.length=iM.length:=by
  rcases O with⟨rfl,rfl,_⟩|⟨aP,rfl,C,L,_⟩
  ·rfl
  ·exact L.len
 have get:∀(j:Nat) (b n:Nat),(eO++[((none,0):Go.Ax.fZ)])[j]? = some (some b,n)->eO[j]? = some (some b,n):=λj b n A=>by
  rw[yG]at A
  split at A
  ·exact A
  ·have:j-eO.length=0:=by have:=(gE.1 A).1;simp at this;omega
   rw[this]at A;cases A
 refine⟨aM,J,by simp[B],λj kf ki D M=>?_,λj k b E Ad A hk=>?_,λj E A=>?_⟩
 ·by_cases A:j<eO.length
  ·rw[sP A]at D;rw[sP J]at M;rcases O with⟨rfl,_⟩|⟨aP,rfl,C,L,_⟩
   ·exact absurd D (by simp)
   ·rcases L.each j kf ki D M with ap|⟨b,hy,fa,rfl,aG⟩
    ·exact .inl ap
    ·obtain⟨_,_,eg⟩:=I j b _ D;exact .inr ⟨b,hy,J,rfl,by rw[bc b J eg];exact aG⟩
  ·have UZ:j=eO.length:=by have:=(gE.1 D).1;simp at this;omega
   subst UZ;rw[vf (cB _),wL]at D;rw[B,vf (cB _),wL]at M;cases D;cases M;exact .inl ⟨rfl,rfl⟩
 ·have C:=get j b E A;have P:=get k b Ad hk;rcases O with⟨rfl,_⟩|⟨aP,rfl,_,L,_⟩
  ·exact absurd C (by simp)
  ·exact L.apart j k b E Ad C P
 ·have C:=get j U E A;have:=I j U E C;omega
end
section
variable {s:ak} {N:Nat} {v gf:X} {gs:aa GE} {l:aa Int} {c0:aa Nat} {h:ad} {U:Nat}
def ly(c0:aa Nat)(i:Nat):aa Nat:=(List.range i).filter λv=>decide (c0[v]? = some v)
theorem acm(c0:aa Nat)(i:Nat):(ly c0 i).length=ry c0 i:=rfl
theorem afR(c0:aa Nat)(i:Nat):ly c0 (i+1)=ly c0 i++(if c0[i]? = some i then[i]else[]):=by
 unfold ly;rw[pb,rJ]
 by_cases h:c0[i]? = some i <;> simp[h]
theorem acn{c0:aa Nat}:x∈ly c0 i↔x<i/\c0[x]? = some x:=by unfold ly;simp
def Ch(h:ad)(hb:X)(l:aa Int)(f8:av Nat):Prop:=(l=[]/\hb = .slice none 0 0/\f8=none)\/∃b,f8=some b/\hb = .slice (some ⟨b,0,some 1⟩) l.length l.length/\u h b=some (.cells (fx l) false)
theorem Ch.ho{h:ad}{l:aa Int}(G:Ch h hb l f8):fb h cG 1 hb l f8:=by
 rcases G with⟨rfl,rfl,rfl⟩|⟨b,rfl,rfl,g⟩
 ·exact .nil
 ·exact .own (by rw[h2];exact g)
theorem Ch.T{h:ad}{l:aa Int}(G:Ch h hb l f8)(A:∀b,f8=some b->u ac b=u h b):Ch ac hb l f8:=by
 rcases G with G|⟨b,rfl,rfl,g⟩
 ·exact .inl G
 ·exact .inr ⟨b,rfl,rfl,(A b rfl).trans g⟩
def aia(N:Nat)(c0:aa Nat)(gf:X)(U:Nat)(h:ad)(m:Nat)(aE:aa X)(ac:ad)(Y:Nat):Prop :=
 ∃(i:Nat) (ei hb:X) (eO:aa Go.Ax.fZ) (iM:aa (aa Nat)) (cV f8:av Nat),m=N-i/\i<=N/\aE=[gf,ei,hb,(i:X)]/\Fk ac U Y ei eO iM cV/\eO.length=ry c0 i/\(∀g∈iM,g.length<=i) /\
  Ch ac hb (fe (ly c0 i)) f8/\(∀b,f8=some b->U<=b/\b<Y/\cV≠some b/\∀(j n:Nat),eO[j]?≠some (some b,n))/\az U h ac/\U<=Y
def azj(c0:aa Nat)(x i:Nat)(gf ei hb:X)(h:ad)(U:Nat)(m:Nat)(aE:aa X)(ac:ad)(Y:Nat):Prop :=
 ∃(j:Nat) (at_:Int),m=(ly c0 i).length-j/\j<=(ly c0 i).length/\aE=[gf,ei,hb,(i:X),(at_:X),(j:X)]/\ac=h/\Y=U/\((at_ = -1/\x ∉ (ly c0 i).take j)\/∃q:Nat,at_=(q:Int)/\(ly c0 i)[q]? = some x)
theorem apV{h:ad}(L:ro h aP ao ai eO iM)(A:q<eO.length):∃s g,eO[q]? = some s/\iM[q]? = some g:=⟨_,_,jU A,jU (by rw[<-L.len];exact A)⟩
theorem aer{gf:X}{A:Nat}{C:ad}(cU:N<=100)(ai:i<N)(L:ro C aP U A eO iM)(cz:q<eO.length)(qm:∀g∈iM,g.length<=i)(hsl:eO.length=ry c0 (i+1))(G:Ch C hb (fe (ly c0 (i+1))) f8)(N1:∀b,f8=some b->U<=b/\b<A/\b≠aP/\∀(j n:Nat),eO[j]?≠some (some b,n))(hk:az U h C)(dr:U<=A)(mM:U<=aP):
  KE s (λaE ac Y=>∃bG,bG<N-i/\aia N c0 gf U h bG aE ac Y) aF R gf (.slice (some ⟨aP,0,some 1⟩) eO.length eO.length) hb (i:X) (q:X) C A:=by
 unfold KE;obtain⟨OA,g,M,a5⟩:=apV L cz;have fa:=L.BS;have hgm:=qm g (jp a5);have V:∀c,OA.1=some c->U<=c/\c<A:=λc B=>by obtain⟨lb,ky⟩:=OA;have B:lb=some c:=B;subst B;exact L.below M
 simp(disch:=omega)only[bd,L.at_,aqq M,seval];refine rX ((L.ho M a5).T (λc B=>?_)) (aN _ _ _) (by rw[kG];omega) λaM I E=>?_
 ·have:=V c B;rw[aq J]
 rw[<-aaZ]at I;have aCN:=L.T (ac:=F C A (.cells [(i:X)] false)) (da:=A+1) (aq J) (λb D bP=>aq J) J;obtain⟨ho3,JP⟩:=aCN.add (ac:=aM) (Y:=A+1+1) J J M a5 (v:=i) I (λc B eg=>E c J eg);have aY:=aqr eO q (some (A+1),g.length+1);rw[<-aY]at JP;have e5:∀c,c<A->c≠aP->OA.1≠some c->u (F aM aP (.cells ((tw eO).set q (EI (some (A+1),g.length+1))) false)) c=u C c:=λc D bP P=>by rw[aq bP,E c J P,aq J]
 refine j6 @ho3 @kG @acS (cn (J:i<1000000000000)) ?_;refine⟨cz,N-(i+1),J,i+1,_,hb,eO.set q (some (A+1),g.length+1),iM.set q (g++[i]),some aP,f8,rfl,J,rfl,.inr ⟨aP,rfl,mM,JP,by rw[wI]⟩,by rw[wI,hsl],λki E0=>?_,?_,λb aG=>?_,λc B=>?_,J⟩
 ·rcases OH E0 with D|rfl
  ·have:=qm ki D;omega
  ·rw[jb,ON];omega
 ·refine G.T λb aG=>?_;obtain⟨D,bP,P,dL⟩:=N1 b aG;refine e5 b bP P λe=>?_;obtain⟨lb,ky⟩:=OA;have e:lb=some b:=e;subst e;exact dL q ky M
 ·obtain⟨D,bP,P,dL⟩:=N1 b aG;refine⟨D,J,λe=>P (by cases e;rfl),λj n bM=>?_⟩;rw[qP]at bM
  split at bM
  ·cases bM;omega
  ·exact dL j n bM
 ·exact(e5 c J J (λe=>by have:=V c e;omega)).trans (hk c B)
theorem amx(wc:cN h U gf cG (fe c0))(eJ:lu N gs c0)(cU:N<=100):
  aD Q s 93 [gf] h U (λr ac Y=>∃a c,r = .slice a (ry c0 N) c/\az U h ac/\U<=Y):=by
 refine apQ ?_;obtain⟨eM,H2,rfl,je⟩:=id wc;have gA:(fe c0).length=N:=by rw[kG,eJ.len]
 unfold aeq;refine bq.mk (aia N c0 (.slice eM (fe c0).length H2) U h) N ⟨0,_,_,[],[],none,none,rfl,J,rfl,.inl ⟨rfl,rfl,rfl,rfl⟩,rfl,(λg M=>by cases M),.inl ⟨rfl,rfl,rfl⟩,(λb e=>by cases e),az.refl _ _,cB _⟩ ?_;rintro m _ h1 A ⟨i,ei,hb,eO,iM,cV,f8,rfl,ai,rfl,O,B,qm,G,I,hk,dr⟩;rw[amo];unfold aav;refine a9 @gA ?_;refine⟨λci=>?_,λeh=>?_⟩
 ·obtain⟨x,aR⟩:=dk (l:=c0) (i:=i) (by rw[eJ.len];exact ci);have hxi:=eJ.le i x aR;have azk:=eJ.own aR;have a6:(fe c0)[i]? = some (x:Int):=y2 aR;obtain⟨_,de,I2,ro1,c1,hy,aY,g2⟩:=wc.at a6;cases aY;rw[h2]at g2;have c3:=(hk de hy).trans g2;have je:=afQ c0 i;have hol:=acm c0 i;refine bq.mk (azj c0 x i (.slice (some ⟨de,0,I2⟩) N H2) ei hb h1 A) (ly c0 i).length ⟨0,-1,rfl,J,rfl,rfl,rfl,.inl ⟨rfl,by simp⟩⟩ ?_;rintro m _ h1 A ⟨j,at_,rfl,bM,rfl,rfl,rfl,P⟩;rw[amn];unfold aau;have qj:=G.ho.lens;rw[kG]at qj;refine a9 @qj ?_;refine⟨λIZ=>?_,λeh=>?_⟩
  ·obtain⟨y,ca⟩:=dk IZ;rcases G with⟨e,_⟩|⟨sH,hof,rfl,aCO⟩
   ·have:=congrArg List.length e;rw[kG]at this;rw[this]at IZ;simp at IZ
   have aCP:(fe (ly c0 i))[j]? = some (y:Int):=y2 ca;simp only[kG];simp(disch:=omega)only[bd,aCO,c3,iz aCP,iz a6,cn (J:j<1000000000000),seval];have pB:(ly c0 i).take (j+1)=(ly c0 i).take j++[y]:=by rw[gQ,ca];rfl
   refine⟨λbk=>?_,λE=>?_⟩
   ·have e:y=x:=by
     have al:(y:Int)=(x:Int):=by simpa using bk
     omega
    subst e;exact⟨(ly c0 i).length-(j+1),J,j+1,(j:Int),rfl,J,by simp only[kG],rfl,rfl,.inr ⟨j,rfl,ca⟩⟩
   ·have azl:y≠x:=λe=>by subst e;simp at E
    refine⟨(ly c0 i).length-(j+1),J,j+1,at_,rfl,J,by simp only[kG],rfl,rfl,?_⟩;rcases P with⟨D,V⟩|D
    ·refine .inl ⟨D,λhm=>?_⟩;rw[pB]at hm;rcases g6.1 hm with hm|hm
     ·exact V hm
     ·exact azl (iR.1 hm).symm
    ·exact .inr D
  ·have:j=(ly c0 i).length:=J
   subst this;rw[ht]at P
   refine⟨λBs=>?_,λahb=>?_⟩
   ·have hnm:x ∉ ly c0 i:=by
     rcases P with⟨_,V⟩|⟨q,V,_⟩
     ·exact V
     ·omega
    have azm:x=i:=vg λE=>hnm (acn.2 ⟨J,azk⟩);subst azm;have gP:=afR c0 x;rw[if_pos aR]at gP;have g1:=TB c0 x;rw[if_pos aR]at g1;simp(disch:=omega)only[bd,c3,iz a6,seval];have azn:∀b,f8=some b->b<A:=λb C=>(I b C).2.1;refine rX (G.ho.T λb C=>aq (by have:=azn b C;omega)) (aN _ _ _) (by rw[kG];omega) λaM uP uJ=>?_;rw[<-aaZ,<-gP]at uP
    (try simp(disch:=omega)only[bd,seval])
    have qi:∀b,cV=some b->U<=b/\b<A/\f8≠some b:=λb C=>by
     rcases O with⟨_,_,_,rfl⟩|⟨aP,rfl,D,L,_⟩
     ·cases C
     ·cases C;exact⟨D,L.BS,λe=>(I _ e).2.2.1 rfl⟩
    have lg:∀b,b<A->f8≠some b->u aM b=u h1 b:=λb D V=>(uJ b J V).trans (aq J);have aCQ:Fk (F aM (A+1+1) (.cells [.slice none 0 0] false)) U (A+1+1+1) ei eO iM cV:=by
     rcases O with O|⟨aP,rfl,D,L,e⟩
     ·exact .inl O
     ·refine .inr ⟨aP,rfl,D,?_,e⟩;have ho1:f8≠some aP:=(qi aP rfl).2.2;have BQ:=L.BS;refine⟨by rw[aq J,lg aP BQ ho1];exact L.at_,J,L.len,λj kf ki ar M=>?_,L.apart,L.other⟩;rcases L.each j kf ki ar M with ap|⟨b,hy,fa,rfl,C⟩
      ·exact .inl ap
      ·exact .inr ⟨b,hy,J,rfl,by rw[aq J,lg b fa (λe=>(I b e).2.2.2 j _ ar)];exact C⟩
    refine ave aCQ J (aN _ _ _) J λbc Oy tB=>?_;have uG:cV≠some (A+1):=λe=>by have:=qi _ e;omega
    have gO:(ly c0 x).length=eO.length:=by rw[acm,B]
    have sK:eO.length+1=(eO++[((none,0):Go.Ax.fZ)]).length:=by simp
    rw[gO,sK];have hl5:(fe (ly c0 x)).length+1=(fe (ly c0 (x+1))).length:=by rw[gP,kG,kG];simp
    rw[hl5];refine aer (f8:=some (A+1)) cU ci Oy (by simp) (λg M=>?_) (by rw[<-sK,g1,B]) (.inr ⟨A+1,rfl,rfl,by rw[tB _ J uG,aq J];exact uP⟩) (λb C=>?_) (λc aU=>?_) J J
    ·rcases g6.1 M with M|M
     ·exact qm g M
     ·rw[iR.1 M];simp
    ·cases C;refine⟨J,J,J,λj n bM=>?_⟩;have:=Oy.below bM;rw[yG]at bM
     split at bM
     ·rcases O with⟨rfl,_⟩|⟨aP,rfl,D,L,_⟩
      ·simp at bM
      ·have:=L.below bM;omega
     ·have yc:j-eO.length=0:=by have:=(gE.1 bM).1;simp at this;omega
      rw[yc]at bM;cases bM
    ·rw[tB c J (λe=>by have:=qi c e;omega),aq J,lg c J (λe=>by have:=I c e;omega)];exact hk c aU
   ·rcases P with⟨V,_⟩|⟨q,rfl,cz⟩
    ·omega
    have HR:=acn.1 (jp cz);have NF:=(gE.1 cz).1;have E:¬c0[i]? = some i:=λe=>by rw[aR]at e;cases e;omega
    have gP:=afR c0 i;rw[if_neg E,hM]at gP;have g1:=TB c0 i;rw[if_neg E]at g1;rcases O with⟨rfl,_⟩|⟨aP,rfl,D,L,rfl⟩
    ·simp at B;omega
    ·exact aer (f8:=f8) cU ci L J qm (by rw[g1];exact B) (by rw[gP];exact G) (λb C=>by obtain⟨V,dL,h7,hR⟩:=I b C;exact⟨V,dL,λe=>h7 (by rw[e]),hR⟩) hk dr D
 ·have:i=N:=J
  subst this;rcases O with⟨rfl,_,rfl,_⟩|⟨aP,rfl,al,L,rfl⟩
  ·rw[<-B];exact⟨none,0,rfl,hk,dr⟩
  ·rw[<-B];exact⟨_,_,rfl,hk,dr⟩
end
section
variable {s:ak} {N:Nat} {v gf:X} {gs:aa GE} {l:aa Int} {c0:aa Nat} {h:ad} {U:Nat} {bI m0 m1:Int} {es:aa gS}
theorem amy(C:dq h U v bQ gs)(cU:N<=100)(E:gs.length<=120)(A:∀g∈gs,fy N g)(L:lu N gs c0):
  aD Q s 32 [.agg ⟨[(N:X),v]⟩] h U (cI (.int .i64 (ry c0 N:Int)) U h):=by
 refine bS ?_;obtain⟨hS,cap,rfl,aU⟩:=id C;refine aB ?_;have I:∀{d9:fM},az U h (F h U d9):=aC
 refine(Kz (C.T I J) J A E).b0 λh1 gv hk D=>?_;have V:=hk U J;rw[aN]at V;refine a9 @V ?_;have B:=(C.T I (nP U)).T hk D;refine(S7 B J E A L).mono ?_;rintro r bP IH ⟨S,hi,M⟩;refine(amx S L cU).mono ?_;rintro _ b9 n3 ⟨a,c,rfl,hz,P⟩;refine aB ?_;exact⟨rfl,aC,J⟩
def azo(bI m0 m1:Int)(es:aa gS)(l:aa Int):Prop:=∃(cg:ak) (XK:Int) (og:ak),∀(s:ak) (h:ad) (U:Nat) (v gf:X),dq h U v gc es->cN h U gf cG l ->
 aD Q s 28 [.agg ⟨[(bI:X),v]⟩,gf] h U (cI (.bool cg) U h)/\aD Q s 30 [.agg ⟨[(bI:X),v]⟩,gf] h U (cI (.bool cg) U h) /\
 aD Q s 31 [.agg ⟨[(bI:X),v]⟩] h U (cI (XK:X) U h)/\aD Q s 32 [.agg ⟨[(bI:X),v]⟩] h U (cI (XK:X) U h) /\
 aD Q s 33 [.agg ⟨[(bI:X),v]⟩,(m0:X),(m1:X)] h U (cI (.bool og) U h)/\aD Q s 34 [.agg ⟨[(bI:X),v]⟩,(m0:X),(m1:X)] h U (cI (.bool og) U h)
theorem azp(bm:bI<=30\/4096<bI)(P:es.length<=60\/65536<es.length)(bg:l.length<1000000):azo bI m0 m1 es l:=by
 by_cases E:gr bI es=0
 ·have lm:=AL.1 E;have gA:=L2 E P;obtain⟨N,rfl,L,M,A⟩:=lm.Is;obtain⟨c0,I⟩:=aju (n:=N) (es:=es.map mQ) λg V=>⟨(A g V).1,(A g V).2.1⟩
  have C:(es.map mQ).length<=120:=by rw[g5];omega
  refine⟨decide (l=fe c0),(ry c0 N:Int),xp c0 N m0 m1,λs h U v gf B D=>?_⟩;have B:=dq.map B M;exact⟨apO B D L C A I bg,amv B D L C A I,apU B L C A I,amy B J C A I,amw B L C A I,ako B L C A I⟩
 ·refine⟨false,0,false,λs h U v gf B D=>?_⟩;have bx:∃a n c,gf = .slice a n c:=by obtain⟨a,c,e,_⟩:=D;exact⟨a,_,c,e⟩
  exact⟨apR B E bx,amq B E bx,apS B E,amr B E,ams B E,akn B E⟩
theorem axa(M:gl (iO 3 bI 0 m0 m1 es)=0)(L:es.length<=60\/65536<es.length)(Z:b5)(g:Nat)(A:Fj 3 bI 0 m0 m1 es Z g):yg Z g:=by
 have D:gr bI es=0:=by
  unfold gl iO nj iB at M
  grind
 obtain⟨N,E,P,I,B⟩:=(AL.1 D).Is;have e:=A.eL;obtain rfl:N=Z.N:=J
 have C:zB (es.map mQ) Z.af:=A.af;exact afP A.K (agZ A.b0 J C B) g
theorem axb:KG Q 4=true:=by kernel_rfl
theorem aes{a b:ak}:bin Q .eql 4 (.bool a) (.bool b) = .ok (.bool (a == b)):=by
 have e:nV Q 4 (.bool a) (.bool b)=some (a == b):=by unfold nV;rw[axb];rfl
 show Mc Q .eql 4 (.bool a) (.bool b)=_;unfold Mc;simp only[e];rfl
theorem afS{b:Nat}:il (.array 2 1) (bb b) (.int t 0) = .ok (bb b):=rfl
theorem afT{b:Nat}:il (.array 2 1) (bb b) (.int t 1) = .ok (.pointer (some ⟨b,1,none⟩)):=rfl
theorem azq(M:∀(s:ak) (h:ad) (U:Nat),aD Q s 26 [] h U (fm (.bool true) U h)){a:av Addr}{cap:Nat}(bk:dq h U (.slice a es.length cap) gc es)(wc:cN h U gf cG l)(h1 : -9223372036854775808<=bI)(al:bI<=9223372036854775807)
  {L g:Nat} {H:ad} {n:Nat} (bF:az U h H) (P:U<=n) (br:u H L=some (.cells [(bI:X),.slice a es.length cap] false)) (dK:u H g=some (.cells [(m0:X),(m1:X)] false)) (dQ:L<n) (lG:g<n) {b:ak}
  (aG:b=false->(bI<=30\/4096<bI)/\(es.length<=60\/65536<es.length)/\l.length<=40):
  vu s (Uq U h) gf (bb L) (bb g) (.bool b) H n:=by
 unfold vu;cases b with
 |true =>
  refine aB ?_;exact(M s H n).f4 ⟨rfl,bF,P⟩
 |false =>
  obtain⟨bm,bg,xX⟩:=aG rfl;refine j6 @br @dK @afS @afT ?_;have S:oH H n (iO 3 bI 0 m0 m1 es) (.slice none 0 0) (.slice a es.length cap) (.slice none 0 0):=⟨⟨none,0,rfl,λh=>absurd rfl h⟩,bk.T bF P,⟨none,0,rfl⟩,bg⟩
  refine(avd (λkg Z aw Oz=>axa kg bg Z aw Oz) S h1 al bm).mono ?_;rintro _ aM bR ⟨v,rfl,fg,hr⟩;have aY:=(fg L dQ).trans br;have eC:=(fg g lG).trans dK;refine aB ?_;refine(M true aM bR).f4 ⟨cB _,?_⟩;refine j6 @aY @eC @afS @afT ?_;refine(amu (es:=es) h1 al).b0 λbP fI ll mE=>⟨mE,?_⟩
  have fk:=(ll L J).trans aY;have JK:=(ll g J).trans eC;refine(alh (S.T aC J)).b0 λb9 n6 vb j9=>⟨j9,?_⟩
  have Cu:=(vb L J).trans fk;have aCR:=(vb g J).trans JK;have gN:∀z:Int,(z == z)=true:=ab
  obtain⟨cg,XK,og,A⟩:=azp (m0:=m0) (m1:=m1) bm bg (l:=l) J;have Kh6:az U h b9:=aC
  have XL:mz (.agg ⟨[(bI:X),.slice a es.length cap]⟩) (.agg ⟨[(bI:X),.slice a es.length cap]⟩)=true:=by simp(disch:=omega)only[bd,fZ,seval]
  have aCS:∀z:Int,mz (.int .i64 z) (.int .i64 z)=true:=λz=>rN _ _;refine cx @Cu @gN ?_;have he6:dq b9 n6 (.slice a es.length cap) gc es:=bk.T Kh6 J;have hv6:cN b9 n6 gf cG l:=wc.T Kh6 J;refine((A true b9 n6 _ _ he6 hv6).1).b0 λdL n7 rE D=>⟨D,?_⟩
  have On:=(rE L J).trans Cu;refine hw @On @pc @XL ?_;have he7:dq dL n7 (.slice a es.length cap) gc es:=he6.T rE D;have hv7:cN dL n7 gf cG l:=hv6.T rE D;refine((A true dL n7 _ _ he7 hv7).2.1).b0 λh7 n8 OB E=>⟨E,?_⟩
  have fD:=(OB L J).trans On;simp(disch:=omega)only[bd,aes,fD,nN,seval];have he8:dq h7 n8 (.slice a es.length cap) gc es:=he7.T OB E;have hv8:cN h7 n8 gf cG l:=hv7.T OB E;refine((A true h7 n8 _ _ he8 hv8).2.2.1).b0 λhR ov OC C=>⟨C,?_⟩
  have d9:=(OC L J).trans fD;refine j6 @d9 @fD @pc @XL ?_;have he9:dq hR ov (.slice a es.length cap) gc es:=he8.T OC C;have hv9:cN hR ov gf cG l:=hv8.T OC C;refine((A true hR ov _ _ he9 hv9).2.2.2.1).b0 λdg CF OD I=>⟨I,?_⟩
  have c4:=(OD L J).trans d9;have lf:u dg g=_:=(OD g J).trans ((OC g J).trans ((OB g J).trans ((rE g J).trans aCR)));refine hw @c4 @lf @gN ?_;have hea:dq dg CF (.slice a es.length cap) gc es:=he9.T OD I;have NA:cN dg CF gf cG l:=hv9.T OD I;refine((A true dg CF _ _ hea NA).2.2.2.2.1).b0 λdZ XM OE B=>⟨B,?_⟩
  have dJ:=(OE L J).trans c4;have nI:=(OE g J).trans lf;simp(disch:=omega)only[bd,dJ,nI,c4,lf,pc,XL,aCS,seval];have heB:dq dZ XM (.slice a es.length cap) gc es:=hea.T OE B;have hvB:cN dZ XM gf cG l:=NA.T OE B;refine((A true dZ XM _ _ heB hvB).2.2.2.2.2).b0 λd5 cJ aDi V=>⟨V,?_⟩
  simp(disch:=omega)only[bd,aes,nN,seval];exact⟨rfl,aC,J⟩
theorem azr(B:∀(s:ak) (h:ad) (U:Nat),aD Q s 26 [] h U (fm (.bool true) U h)){a:av Addr}{cap:Nat}(bk:dq h U (.slice a es.length cap) gc es)(C:cN h U gf cG l)(h1 : -9223372036854775808<=bI)(M:bI<=9223372036854775807):
  aD Q s 6 [.agg ⟨[(bI:X),.slice a es.length cap]⟩,.agg ⟨[(m0:X),(m1:X)]⟩,gf] h U (Uq U h):=by
 refine amp ?_;obtain⟨eM,cl,rfl,P⟩:=id C;have V:∀{o aW},az U h (F (F h U o) (U+1) aW):=aC
 have g:∀{b:ak},(b=false->(bI<=30\/4096<bI)/\(es.length<=60\/65536<es.length)/\l.length<=40)->vu s (Uq U h) (.slice eM l.length cl) (bb U) (.pointer (some ⟨U+1,0,none⟩)) (.bool b) (F (F h U (.cells [(bI:X),.slice a es.length cap] false)) (U+1) (.cells [(m0:X),(m1:X)] false)) (U+1+1):=λA =>
  azq B bk C h1 M V J ab (aN _ _ _) J J A
 unfold acl;refine aB ?_;have aA6:∀{p:Prop} [Decidable p],decide p=false->¬p:=λh=>OS h;refine⟨λL=>⟨λE=>g (λA=>by cases A),λE=>⟨λD=>⟨λI=>g (λA=>by cases A),λI=>g (λA=>?_)⟩,λD=>g (λA=>?_)⟩⟩,λL=>⟨λE=>⟨λD=>g (λA=>by cases A),λD=>g (λA=>?_)⟩,λE=>g (λA=>?_)⟩⟩
 all_goals
  have:=aA6 A;exact⟨J,J,J⟩
end
def WX:aa X:=[.int .i64 2,.int .i64 0,.int .i64 1,.int .i64 3,.int .i64 1,.int .i64 1]
def lcA:aa X:=[.int .i64 0,.int .i64 1,.int .i64 0,.int .i64 1,.int .i64 4]
def Ur(h:ad)(b U:Nat):ak:=Nat.blt b U&&(match u h b with|some (.cells cs false)=>mz (.agg ⟨cs⟩) (.agg ⟨WX⟩)|_=>false)
def nt(args:aa X)(h:ad)(U:Nat)(K:bD):Prop:=match args with
 | [.agg ⟨[.int .i64 n,.slice (some ⟨b,0,aO⟩) l cap]⟩,.int .i64 r,.int .i64 c]=>yp (fN n 5&&Nat.beq l 2&&Ur h b U)
  (Bool.rec (yp (fN r 0&&fN c 1) (K (.tuple ⟨[.slice none 0 0,.int .i64 3]⟩) h U))
   (K (.tuple ⟨[.slice (some ⟨U,0,some 1⟩) 5 5,.int .i64 0]⟩) (F h U (.cells lcA false)) (U+1)) (fN r 2&&fN c 2))
 |_=>False
def WY(f:FuncId):av (aa X->ad->Nat->bD->Prop):=bif Nat.beq f 25 then some nt else none
def lcT(f:FuncId):aa (aa Nat):=match([(19,[[0,1,4,5]]),(28,[[4,5,20,21,22]]),(31,[[3,10,11,12]]),(51,[[0,1,4,5]]),(89,[[3,4,10,11,12]]),(90,[[1,3,13,14],[3,23,24,25]]),(255,[[0,1,4,7,8]])]:aa (Nat × aa (aa Nat))).find? λp=>Nat.beq p.1 f with
 |some p=>p.2
 |none=>[]
@[irreducible] def WZ(n m:Nat):Prop:=Ij Q lcT WY n m 26 [] ic 0 (λv _ _=>XJ v)
theorem amz:WZ 30 20=True:=by kernel_rfl
theorem atc{h:ad}{b U:Nat}(e:Ur h b U=true):b<U/\u h b=some (.cells WX false):=by
 unfold Ur at e;simp only[eD]at e;refine⟨J2 (by simpa[wM]using e.1) (cB _),?_⟩;have g:=e.2
 split at g
 ·rename_i cs A
  rw[A,Da (x:=cs) (y:=WX) g]
 ·cases g
def Eo:aa gS:=[(2,0,1),(3,1,1)]
def yj:aa GE:=[⟨2,0,1⟩,⟨3,1,1⟩]
theorem atd:lu 5 yj [0,1,0,1,4]:=by
 refine⟨rfl,λe g=>?_,λv x h=>?_,λc A v x h=>?_⟩
 ·unfold yj at g;simp at g;rcases g with rfl|rfl <;> rfl
 ·match v,h with
  |0,h|1,h|2,h|3,h|4,h=>cases h;omega
 ·have B:c 2=c 0:=A ⟨2,0,1⟩ (by simp[yj]);have C:c 3=c 1:=A ⟨3,1,1⟩ (by simp[yj])
  match v,h with
  |0,h|1,h|4,h=>cases h;rfl
  |2,h=>cases h;exact B.symm
  |3,h=>cases h;exact C.symm
theorem avf{h:ad}{U:Nat}(aR:nt args h U K)(s:ak):aD Q s 25 args h U K:=by
 unfold nt at aR
 split at aR
 ·rename_i n b aO l cap r c
  obtain⟨e,I⟩:=DY aR;simp only[eD]at e;obtain⟨⟨aY,aJ⟩,ce⟩:=e;obtain⟨aG,C⟩:=atc ce;cases AP.1 aY;cases g4 aJ;have aI:dq h U (.slice (some ⟨b,0,aO⟩) 2 cap) gc Eo:=⟨_,_,rfl,λ_=>⟨b,aO,false,[],aG,rfl,C⟩⟩
  have A:∀(r c:Int) (Z:b5) (aw:Nat),Fj 3 5 0 r c Eo Z aw->Z.N=5/\vX Z.e1 yj:=λr c Z aw B=>by
   have e:=B.eL;have P:Z.N=5:=J
   have lW:zB (Eo.map mQ) Z.af:=B.af;exact⟨P,agZ (gs:=yj) B.b0 J lW (by rw[P];intro g C;unfold yj at C;simp at C;rcases C with rfl|rfl <;> exact⟨by decide,by decide,by decide,by decide⟩)⟩
  have M:∀lY,aD Q lY 25 [.agg ⟨[.int .i64 5,.slice (some ⟨b,0,aO⟩) 2 cap]⟩,(r:X),(c:X)] h U _:=λlY=>avc (es:=Eo) (s:=lY) (λZ aw B=>afP B.K (A r c Z aw B).2 aw) ⟨⟨none,0,rfl,λh=>absurd rfl h⟩,aI,⟨none,0,rfl⟩,.inl (J:2<=60)⟩ J J (.inl J);cases V:(fN r 2&&fN c 2)with
  |true =>
   rw[V]at I;simp only[eD,AP]at V;obtain⟨rfl,rfl⟩:=V;refine aD.ny (val:=λb=>.tuple ⟨[.slice (some ⟨b,0,some 1⟩) 5 5,.int .i64 0]⟩) (cs:=lcA) rfl YN ((M false).mono ?_) I;rintro _ ac Y ⟨v,rfl,E,dr,⟨D,_⟩|⟨D,Z,aw,B,JE⟩⟩
   ·exact absurd (by kernel_rfl) D
   obtain⟨P,LE⟩:=A 2 2 Z aw B;have sa:wo Z.N yj:=by rw[P];intro g C;unfold yj at C;simp at C;rcases C with rfl|rfl <;> exact⟨by decide,by decide⟩
   obtain⟨L,aBl,XB⟩:=atb (aw:=aw) LE sa B.K.mu (by have:=B.el;unfold r7 at this;omega) (λh=>by have:=(B.gn aw J).1 h;omega);rw[P]at aBl;have:=aBl.unique atd;subst this;rw[XB]at JE;rw[D];rcases JE with⟨e,_⟩|⟨de,dQ,dC,rfl,c4⟩
   ·cases e
   exact⟨de,rfl,dQ,c4,E⟩
  |false =>
   rw[V]at I;obtain⟨eC,I⟩:=DY I;simp only[eD,AP]at eC;obtain⟨rfl,rfl⟩:=eC;refine aD.plain (v:=.tuple ⟨[.slice none 0 0,.int .i64 3]⟩) rfl ((M false).mono ?_) I;rintro _ ac Y ⟨v,rfl,E,dr,⟨D,rfl⟩|⟨D,_⟩⟩
   ·exact⟨by rw[show gl (iO 3 5 0 0 1 Eo)=3 by kernel_rfl],E⟩
   ·rw[show gl (iO 3 5 0 0 1 Eo)=3 by kernel_rfl]at D;cases D
 ·exact aR.elim
theorem avg{f:FuncId}{g:aa X->ad->Nat->bD->Prop}(A:WY f=some g){h:ad}{U:Nat}(C:g args h U K)(s:ak):aD Q s f args h U K:=by
 unfold WY at A;cases B:Nat.beq f 25 with
 |true =>
  rw[B]at A;cases A;rw[g4 B];exact avf C s
 |false =>
  rw[B]at A;cases A
theorem amA{n m:Nat}(e:WZ n m):aD Q false 26 [] ic 0 (λv _ _=>v = .bool true):=
 (aeQ l3 (λf g B args h U K C s=>avg B C s) m false 26 [] ic 0 _ (by unfold WZ at e;exact e)).mono λv _ _ A=>by
  unfold XJ at A
  split at A
  ·rfl
  ·exact A.elim
theorem avh{s:ak}{h:ad}{U:Nat}:aD Q s 26 [] h U (fm (.bool true) U h):=aD.home (b:=true) (amA (of_eq_true amz)) ⟨rfl,rfl,rfl⟩
theorem W0:Tryz.prog.underlying 29=some (.slice 2):=by kernel_rfl
theorem w53:Tryz.prog.underlying 53=some (.array 2 3):=by kernel_rfl
theorem m53:Tryz.prog.cellsOf 53=2:=by kernel_rfl
theorem azs:Tryz.prog.cellTypes Tryz.prog.depth 24=some [3,22]:=by kernel_rfl
section
variable {H:Type} {enc:TypeId × X->H} {w:World} {aO:Nat->ak}
theorem akp{r:Reach}{v:X}{d:DataW H}(g:Value.okWide Tryz.prog w r z9 24 v)(h:DataW.Trod enc Tryz.prog w 0 aO true 24 v d bW):
  ∃(n:Int) (ny:X) (ve:aa gS),v = .agg ⟨[(n:X),ny]⟩/\Bw n/\((ve=[]/\ny = .slice none 0 0)\/∃b L cap,ny = .slice (some ⟨b,L,none⟩) ve.length cap/\w7 w b L (a1 gc ve)):=by
 unfold Value.okWide at g;rw[u24]at g;obtain⟨cs,rfl,V,af,M,_,C⟩:=g;rw[azs]at M;cases M;rw[n24]at V;obtain⟨l⟩:=cs
 match l,V with
 | [a,b],_ =>
  obtain⟨P,bx⟩:=h;have bx:DataW.trod enc Tryz.prog w 0 aO true P 24 [a,b]=some (d,bW):=bx;obtain⟨I,kx,rfl,_,_,B,D⟩:=DataW.trod_struct u24 bx;have B:I.length=2:=B;have A:∀(i:Nat) (E:Field),#[Jx,Hj][i]? = some E->∃y,DataW.trod enc Tryz.prog w 0 aO true kx E.type (([a,b].drop E.offset).take (Tryz.prog.cellsOf E.type))=some y:=λi E hfd=>by
   have ai:i<2:=ab
   exact⟨I[i]'J,by rw[D i E hfd,jU]⟩
  obtain⟨pR,hc⟩:=A 0 Jx rfl;obtain⟨jT,fD⟩:=A 1 Hj rfl;rw[show Jx.type=3 from rfl,show Jx.offset=0 from rfl,cm]at hc;rw[show Hj.type=22 from rfl,show Hj.offset=1 from rfl,Nh]at fD;obtain⟨N,e,_,bN⟩:=DataW.trod_int yq hc;injection e with e _
  subst e;obtain⟨aT,eb,jf⟩:=C 1 b rfl;cases eb;obtain⟨ve,_,cX⟩:=acV   u22 n52 (λ_=>True) (λn c y ca=>by obtain⟨e,bk,_⟩:=amV awl ca;exact⟨e,bk,trivial⟩) fD jf;exact⟨N,b,ve,rfl,bN,cX⟩
theorem amB{r:Reach}{v:X}{d:DataW H}(g:Value.okWide Tryz.prog w r z9 53 v)(h:DataW.Trod enc Tryz.prog w 0 aO true 53 v d bW):
  ∃a b:Int,v = .agg ⟨[(a:X),(b:X)]⟩:=by
 unfold Value.okWide at g;rw[w53]at g;obtain⟨cs,rfl,B,_⟩:=g;rw[m53]at B;obtain⟨l⟩:=cs
 match l,B with
 | [a,b],_ =>
  obtain⟨C,E⟩:=h;have E:DataW.trod enc Tryz.prog w 0 aO true C 53 [a,b]=some (d,bW):=E;obtain⟨L,n,rfl,_,M,D,A⟩:=DataW.trod_array w53 E;have get:∀i,i<2->∃y,DataW.trod enc Tryz.prog w 0 aO true n 3 (([a,b].drop (i*Tryz.prog.cellsOf 3)).take (Tryz.prog.cellsOf 3))=some y:=λi ai=>by
   have V:i<L.length:=by rw[D];exact ai
   exact⟨L[i],by rw[A i ai,jU V]⟩
  obtain⟨cu,I⟩:=get 0 J;obtain⟨bY,P⟩:=get 1 J;rw[cm]at I P;obtain⟨x,rfl⟩:=ZG yq I;obtain⟨y,rfl⟩:=ZG yq P;exact⟨x,y,rfl⟩
theorem open_ints{r:Reach}{v:X}{d:DataW H}(g:Value.okWide Tryz.prog w r z9 29 v)(h:DataW.Trod enc Tryz.prog w 0 aO true 29 v d bW):
  ∃A:aa Int,(A=[]/\v = .slice none 0 0)\/∃b B cap,v = .slice (some ⟨b,B,none⟩) A.length cap/\w7 w b B (a1 cG A):=by
 obtain⟨a,len,cap,rfl⟩:=okWide_slice W0 g;unfold Value.okWide at g;rw[W0]at g;obtain⟨C,E⟩:=h;have E:DataW.trod enc Tryz.prog w 0 aO true C 29 [.slice a len cap]=some (d,bW):=E;obtain⟨A,_,D⟩:=acV (ce:=cG) (k:=1) W0 c2 (λ_=>True) (λn c y D=>by obtain⟨m,I,_⟩:=DataW.trod_int Ab D;exact⟨m,I,trivial⟩) E g
 exact⟨A,D⟩
end
theorem ate{n a0 ax:Int}{ny gf:X}{B:aa gS}{A:aa Int}{W:World}(C:Bw n)(M:(B=[]/\ny = .slice none 0 0)\/∃b g cap,ny = .slice (some ⟨b,g,none⟩) B.length cap/\w7 W b g (a1 gc B))
  (I:(A=[]/\gf = .slice none 0 0)\/∃b g cap,gf = .slice (some ⟨b,g,none⟩) A.length cap/\w7 W b g (a1 cG A)):
  Calls Tryz.prog 6 #[.agg ⟨[(n:X),ny]⟩,.agg ⟨[(a0:X),(ax:X)]⟩,gf] W λe bj=>e = .returned (.bool true)/\Below W.heap.size W bj:=by
 obtain⟨bW,dG,u',P,V,aM,D,L⟩:=atG (ce:=gc) (aY:=cG) (λ_=>rfl) (λ_=>rfl) M I;obtain⟨bp,cap,rfl,aU⟩:=id D;have E : -9223372036854775808<=n/\n<=9223372036854775807:=by unfold Bw at C;simp[Lit.wf,IntKind.min,IntKind.max,IntKind.bits,IntKind.signed]at C;omega
 exact callsIn_wide.1 (atF (n:=0) ((azr (s:=false) (m0:=a0) (m1:=ax) (λ_ _ _=>avh) (dq.of D) L E.1 E.2).mono λ_ _ _ h=>h.1) (aty P) (avH _) (.cons (.agg (.cons (.int _ _) (.cons V .nil))) (.cons (.agg (.cons (.int _ _) (.cons (.int _ _) .nil))) (.cons aM .nil))))
theorem amC(os:Os)(A:os.Started)(H:Type)(enc:TypeId × X->H):
  ReturnsInHanded {} Tryz.checked os 6 .any (Rows.compsWrongSpec.pre6 enc Tryz.prog Tryz.f6 Rows.compsWrongRow.domain false) (Rows.compsWrongSpec.post enc Tryz.prog Tryz.f6 false true false false):=by
 refine returnsInHanded_of_change (C:=Tryz.checked) own A (by kernel_rfl) Tryz.func6
  (ChangeSpec.witness6 (enc:=enc) (C:=Tryz.checked) false ⟨#[],#[.agg #[.int .i64 0,.slice none 0 0],.agg #[.int .i64 0,.int .i64 0],.slice none 0 0],[]⟩ 8 (by kernel_rfl) (by kernel_rfl) (by kernel_rfl) (by kernel_rfl)) ?_
 intro W base args bt gs before B jF aAx _;have g:∀(j:Nat) t v,Tryz.f6.params[j]? = some t->args[j]? = some v->Value.okWide Tryz.prog W .any base t v:=B;have L:=jF;obtain⟨p,q,I,lm,rfl,hfz,WS⟩:=jF;have hY:DataW.TrodAll enc Tryz.prog W 0 (λ_=>true) true Tryz.f6.params.toList args.toList bt p:=I;rw[Tryz.params6]at hY g;obtain⟨lj,vs0,aCA,ds0,aCT,iH,M,rfl,rfl,ap,fu⟩:=trodAll_cons hY;obtain⟨v1,vs1,fv,ds1,cj,c4,rfl,rfl,rfl,h1,dJ⟩:=trodAll_cons fu;obtain⟨v2,zI,fF,ds2,ml,eK,rfl,rfl,rfl,al,gg⟩:=trodAll_cons dJ;obtain⟨rfl,rfl,rfl⟩:=trodAll_nil gg;obtain rfl:args=#[lj,v1,v2]:=ab
 obtain⟨rfl,rfl⟩:=trodVars_none lm;have hc:=ap;have fD:=h1;have hB:=al;have V:∀x∈ml,x.block<W.heap.size:=by obtain⟨m,E⟩:=hB;exact DataW.trod_lt m _ _ _ E
 have P:∀x∈aCT,x.block<W.heap.size:=by obtain⟨m,E⟩:=hc;exact DataW.trod_lt m _ _ _ E
 have lt1:∀x∈cj,x.block<W.heap.size:=by obtain⟨m,E⟩:=fD;exact DataW.trod_lt m _ _ _ E
 obtain⟨n,ny,ve,rfl,bN,cX⟩:=akp (g 0 24 lj rfl rfl) ap;obtain⟨a0,ax,rfl⟩:=amB (g 1 53 v1 rfl rfl) h1;obtain⟨mV,ca⟩:=open_ints (g 2 29 v2 rfl rfl) al;clear I B;refine(ate (n:=n) (a0:=a0) (ax:=ax) bN cX ca).mono λe dl ⟨bk,D⟩=>?_;subst bk;exact⟨_,rfl,_,_,_,[],_,[],L,trodAll_mk1 (shut_bool aBK _),trodAll_cons_mk (Below.trod Rz (by kernel_rfl) (of_decide_eq_true (by kernel_rfl)) hc D P) (trodAll_cons_mk (Below.trod Rz (by kernel_rfl) (of_decide_eq_true (by kernel_rfl)) fD D lt1) (trodAll_cons_mk (Below.trod Rz (by kernel_rfl) (of_decide_eq_true (by kernel_rfl)) hB D V) trodAll_mk0)),rfl,D.frame _,λh=>by cases h⟩
theorem atf:Tryz.prog.funcNamed Rows.compsWrongRow.func=some 6:=by kernel_rfl
end Go.Proofs.YthlhhajnbgjfmaaGreat
