/- Parts of the proof: HwFn9: each statement bears its own conditions. -/
import Derived.Test.YthlhhajnbgjfmaaGreatRcHwFn8
namespace Go.Proofs.YthlhhajnbgjfmaaGreat
open Go Go.Ax Go.Ax.HdH Go.ChangeShapes Go.WideShapes Go.ChangeAt Go.RowKit
set_option linter.all false
set_option maxHeartbeats 1000000
set_option maxRecDepth 1000000
variable {gs:aa GE} {args:aa X} {v:X} {Z:b5} {N:Nat} {V R C:Int} {K:bP}
def azi(N:Nat)(v2:X)(U:Nat)(h:ae)(m:Nat)(aE:aa X)(ac:ae)(Y:Nat):Prop :=
 ∃(i:Nat) (o:X),m=N-i/\i<=N/\aE=[bd U,o,(i:X)]/\u ac U=some (.cells [(N:X),v2] false)/\d5 ac o c3 1 (hz (List.range i)) (U+1) Y/\aA U h ac/\U+1<=Y
def azj(N b:Nat)(gs:aa GE)(v2:X)(U:Nat)(h:ae)(m:Nat)(aE:aa X)(ac:ae)(Y:Nat):Prop :=
 ∃(k:Nat) (L:aa Nat),m=N-k/\k<=N/\aE=[bd U,.slice (some ⟨b,0,some 1⟩) N N,(k:X)]/\u ac U=some (.cells [(N:X),v2] false)/\u ac b=some (.cells (f9 (hz L)) false)/\rh N gs k 0 L/\aA U h ac/\b<Y
def azk(N b k:Nat)(gs:aa GE)(v2:X)(U:Nat)(h:ae)(m:Nat)(aE:aa X)(ac:ae)(Y:Nat):Prop :=
 ∃(i:Nat) (L:aa Nat),m=gs.length-i/\i<=gs.length/\aE=[bd U,.slice (some ⟨b,0,some 1⟩) N N,(k:X),(i:X)]/\u ac U=some (.cells [(N:X),v2] false)/\u ac b=some (.cells (f9 (hz L)) false)/\rh N gs k i L/\aA U h ac/\b<Y
def axf(N:Nat)(gs:aa GE)(U:Nat)(h:ae):bP:=λr ac Y=>∃(b:Nat) (L:aa Nat),r = .slice (some ⟨b,0,some 1⟩) N N/\u ac b=some (.cells (f9 (hz L)) false)/\po N gs L/\U<=b/\b<Y/\aA U h ac/\U<=Y
theorem alj{s:al}{h:ae}{U:Nat}(aJ:ft h U v cW gs)(hN0:0<N)(ek:N<=4096)(bb:gs.length<=65536)(iw:∀g∈gs,hi N g):
  aH Q s 27 [.agg ⟨[(N:X),v]⟩] h U (axf N gs U h):=by
 refine aoU ?_;obtain⟨a,cap,rfl,aZ⟩:=id aJ;unfold ab7;refine aF ?_;refine bD.mk (azi N (.slice a gs.length cap) U h) N ⟨0,_,J,J,rfl,aS _ _ _,.inl ⟨rfl,rfl⟩,(aA.refl _ _).set (cD _),cD _⟩ ?_;rintro _ _ ac P ⟨i,o,rfl,aj,rfl,B,eU,E,dR⟩;rw[alg];unfold XV;refine bg @B ?_;refine⟨λA=>?_,λeN=>?_⟩
 ·have HZ:IntKind.wrap .i64 ((i:Int)+1)=((i+1:Nat):Int):=cG J;refine l4 (enc:=c3) (k:=1) (ao:=U+1) (λ_=>rfl) (λ_=>rfl) J (eU.F (λb h1 ar=>by rw[aq J]) J) J ((i:Nat):Int) (aS _ _ _) rfl (by rw[qZ,vx];omega) ?_;intro v3 bm ap fP;rw[HZ];refine⟨N-(i+1),J,i+1,v3,rfl,J,rfl,by rw[fP U J,aq J];exact B,?_,λc aZ=>by rw[fP c J,aq J];exact E c aZ,J⟩;have:hz (List.range (i+1))=hz (List.range i)++[((i:Nat):Int)]:=by rw[p4];simp[hz]
  rw[this];exact ap
 ·have:i=N:=J
  subst this;obtain⟨b,ig,fw,rfl,hb0⟩:∃b,U+1<=b/\b<P/\o = .slice (some ⟨b,0,some 1⟩) i i/\u ac b=some (.cells (f9 (hz (List.range i))) false):=by
   rcases eU with⟨e,_⟩|⟨b,h1,ar,e,M⟩
   ·have:=congrArg List.length e;rw[qZ,vx]at this;simp at this;omega
   ·rw[qZ,vx]at e;rw[iG]at M;exact⟨b,h1,ar,e,M⟩
  refine bD.mk (azj i b gs (.slice a gs.length cap) U h) i ⟨0,_,J,J,rfl,B,hb0,rh.init,E,fw⟩ ?_;rintro _ _ ac P ⟨k,L,rfl,sk,rfl,B,M,I,E,D⟩;rw[ali];unfold XX;refine bg @B ?_;refine⟨λA=>?_,λeN=>?_⟩
  ·have cn:IntKind.wrap .i64 ((k:Int)+1)=((k+1:Nat):Int):=cG J;refine bD.mk (azk i b k gs (.slice a gs.length cap) U h) gs.length ⟨0,L,J,J,rfl,B,M,I,E,D⟩ ?_;rintro _ _ ac P ⟨j,L,rfl,b1,rfl,B,M,I,E,D⟩;rw[alh];unfold XW;refine bg @B ?_;refine⟨λA=>?_,λeN=>?_⟩
   ·obtain⟨x,a1⟩:=d1 A;obtain⟨_,oj,aO,bJ,c1,cs,ym,aV,oU⟩:=aJ.at a1;cases aV;obtain⟨eX,dO,fZ,lr⟩:=iw x (k4 a1);obtain⟨p,bk⟩:=d1 (l:=L) (i:=x.f) (by rw[I.len];exact eX);obtain⟨q,cM⟩:=d1 (l:=L) (i:=x.t) (by rw[I.len];exact dO);have Vf:IntKind.wrap .i64 ((j:Int)+1)=((j+1:Nat):Int):=cG J;simp(disch:=omega)only[bn,(E oj ym).trans oU,yA (enc:=cW) (k:=3) (λ_=>rfl) a1,cW,M,P1 bk,P1 cM,agI,I9,Vf,qZ,I.len,Eu,seval];refine⟨eX,dO,gs.length-(j+1),J,j+1,_,rfl,A,rfl,by rw[aq J,aq J,aq J,aq J];exact B,aS _ _ _,I.step a1 bk cM,(((E.set J).set J).set J).set J,J⟩
   ·have:j=gs.length:=J
    subst this;refine bg @cn ?_;exact⟨i-(k+1),J,k+1,L,rfl,A,rfl,B,M,I.next,E,D⟩
  ·have:k=i:=J
   subst this;exact⟨b,L,rfl,M,I.done (λe bE=>⟨(iw e bE).1,(iw e bE).2.1⟩),J,D,E,J⟩
def CcJ(N b:Nat)(Eh:aa Nat)(l:aa Int)(w1:X)(UI:Nat)(gs:aa GE)(U:Nat)(h:ae)(m:Nat)(aE:aa X)(ac:ae)(Y:Nat):Prop :=
 ∃(i:Nat) (dK:aa Nat),m=N-i/\i<=N/\aE=[.bool false,.slice (some ⟨b,0,none⟩) N UI,w1,(N:X),(i:X)]/\qn N gs gs.length dK/\(∀v r,gi dK v r↔Eh[v]? = some r)/\u ac b=some (.cells (f9 (hz dK)) false)/\aA U h ac/\b<Y/\U<=Y/\l.take i=(hz Eh).take i
theorem aoY{s:al}{w1:X}{l:aa Int}{Eh:aa Nat}{h:ae}{U:Nat}(aJ:ft h U v cW gs)(L:cN h U w1 c3 l)(ek:N<=4096)(bb:gs.length<=120)(D:∀g∈gs,hi N g)(fq:po N gs Eh)(yw:l.length<1000000):
  aH Q s 28 [.agg ⟨[(N:X),v]⟩,w1] h U (dC (.bool (decide (l=hz Eh))) U h):=by
 refine asG ?_;obtain⟨a,cap,rfl,aZ⟩:=id aJ;obtain⟨eJ,azl,rfl,lG⟩:=id L;unfold ad9;refine aF ?_;have hS:∀{eX:gh},aA U h (T h U eX):=aK
 refine(Ou (aJ.F hS J) ek D bb).cn λh1 kC hk dR=>?_;have bB:=hk U J;rw[aS]at bB;refine bg @bB ?_;unfold OP;refine bg @bB ?_;have hv1:=(aJ.F hS (sV U)).F hk dR;have aAn:=(L.F hS (sV U)).F hk dR;refine⟨λE=>?_,λbE=>?_⟩
 ·have B:¬l=hz Eh:=λe=>by have:=fq.len;rw[e,qZ,fq.len]at E;simp at E
  exact⟨by rw[hl B],aK,J⟩
 have bE:l.length=N:=by
  have ar:(l.length:Int)=(N:Int):=by simpa using bE
  omega
 refine(asH hv1 ek J D).mono ?_;rintro r ar nk ⟨b,P,rfl,g2,M,dE,b4,ei,eZ⟩;obtain⟨qN,hL',dW⟩:=M.SK λe bE=>⟨(D e bE).1,(D e bE).2.1⟩
 have:=hL'.unique fq;subst this
 (try simp(disch:=omega)only[bn,seval])
 rw[bE];refine bD.mk (CcJ N b qN l (.slice eJ N azl) N gs U h) N ⟨0,P,J,J,rfl,M,dW,g2,aK,b4,J,by simp⟩ ?_;clear M dW g2 ei eZ b4;rintro m _ aL tH ⟨i,P,rfl,aj,rfl,M,dW,dj,fI,n0,I,ck⟩;rw[aoT];unfold ZV;refine aF ?_;refine⟨λcA=>?_,λeN=>?_⟩
 ·obtain⟨x,a1⟩:=d1 (l:=l) (i:=i) J;obtain⟨_,cd,TA,ro',TY,hh,Uq,sz⟩:=L.at a1;cases Uq;rw[iG]at sz;have dL:=(fI cd hh).trans sz;have tv:i<l.length:=J
  simp(disch:=omega)only[bn,dL,i6 a1,bE,seval];refine(QR J i cA P aL tH M.vW dj).mono ?_;rintro _ b3 nx5 ⟨q,fU,rfl,cM,hF',A,gc,lh,rfl⟩;have hq2:=(dW i q).1 cM;refine aF ?_;have bH:(hz qN)[i]? = some (q:Int):=I7 hq2;refine⟨λE=>?_,λAQ=>?_⟩
  ·have B:¬l=hz qN:=λe=>by rw[e,bH]at a1;cases a1;simp at E
   exact⟨by rw[hl B],aK,J⟩
  ·have hxq:(q:Int)=x:=by simpa using AQ
   subst hxq;refine⟨N-(i+1),J,i+1,fU,J,J,by rw[cG J],M.same hF' A,λv r=>⟨λh=>(dW v r).1 (gi.back M.vW hF' A h),λh=>A _ _ ((dW v r).2 h)⟩,gc,aK,n0,I,?_⟩;rw[hx,hx,a1,bH,ck]
 ·have:i=N:=J
  subst this;have aV:l=hz qN:=by have h1:l.take i=l:=o8 J;have ar:(hz qN).take i=hz qN:=o8 (by rw[qZ,fq.len];omega);rw[<-h1,ck,ar]
  exact⟨by rw[g4 aV],fI,I⟩
section
variable {s:al} {h:ae} {U:Nat} {c6 r c:Int} {a:aw Addr} {n cap:Nat} {es:aa hN}
theorem aoZ(E : -9223372036854775808<=c6)(l:c6<=9223372036854775807):
  aH Q s 87 [.agg ⟨[(c6:X),.slice a n cap]⟩,(r:X),(c:X)] h U (dC (.agg ⟨gB (lJ 3 c6 0 r c es) (.slice none 0 0) (.slice a n cap) (.slice none 0 0)⟩) U h):=by refine aoV ?_;unfold ab8;refine aF ?_;refine(aoR (es:=es) E l).cn λB I A g=>?_;unfold gB;have D:u B (U+1)=_:=(A (U+1) J).trans (aS _ _ _);refine bg @D ?_;exact⟨rfl,aK,J⟩
def axg(c6 r c:Int)(es:aa hN)(v:X)(U:Nat)(ac:ae)(Y:Nat):Prop :=
 (he (lJ 3 c6 0 r c es)≠0/\v = .slice none 0 0) \/
 (he (lJ 3 c6 0 r c es)=0/\∃(Z:b5) (av:Nat),HG 3 c6 0 r c es Z av/\d5 ac v c3 1 (cz Z.N (Z.eT.st av).A) U Y)
theorem aea(et:∀(Z:b5) (g:Nat),HG 3 c6 0 r c es Z g->A3 Z g)(H:pr h U (lJ 3 c6 0 r c es) (.slice none 0 0) (.slice a es.length cap) (.slice none 0 0))(au:0<c6)(ar:c6<=9223372036854775807)(bH:c6<=30\/4096<c6):
  aH Q s 25 [.agg ⟨[(c6:X),.slice a es.length cap]⟩,(r:X),(c:X)] h U (λnz ac Y=>∃v,nz = .tuple ⟨[v,.int .i64 (he (lJ 3 c6 0 r c es))]⟩/\aA U h ac/\U<=Y/\axg c6 r c es v U ac Y):=by
 refine au7 ?_;unfold afx;refine aF ?_;refine(aoZ (es:=es) J ar).cn λbB B cJ fy=>?_;unfold gB;refine aF ?_;generalize kt:T (T bB B _) B _=g2;have k2:u g2 B=some (.cells (gB (lJ 3 c6 0 r c es) (.slice none 0 0) (.slice a es.length cap) (.slice none 0 0)) false):=by rw[<-kt,aS];rfl
 have P:aA U h g2:=aK
 have hX:=H.F (Y:=B+1) P J;refine(ajV  hX).cn λdj bS fI D=>?_;have nt:=(fI B J).trans k2;have Kh3:aA U h dj:=aK
 have Eg:nQ (.agg ⟨gB (lJ 3 c6 0 r c es) (.slice none 0 0) (.slice a es.length cap) (.slice none 0 0)⟩) (.agg ⟨gB (lJ 3 c6 0 r c es) (.slice none 0 0) (.slice a es.length cap) (.slice none 0 0)⟩)=true:=by unfold gB;simp(disch:=omega)only[bn,iD,seval]
 unfold gB at k2 nt Eg;refine⟨D,?_⟩;refine k7 @k2 @nt @rY @Eg ?_;have i4:=H.F (Y:=bS) Kh3 J
 by_cases A:he (lJ 3 c6 0 r c es)=0
 ·have E:c6<=30:=bH.elim id λh=>absurd A λau=>by
   unfold he lJ qr kh iU at au
   grind
  obtain⟨Z,g,L,aAo,S,eF,W,vp,jy,M⟩:=au3 J i4 A E;have hN0:0<Z.N:=by have:=L.ez;omega
  rw[show(lJ 3 c6 0 r c es).lim=pB c6 from rfl,vp];refine(asA  S eF L.fY (et Z g L) jy M).mono ?_;rintro _ dL I ⟨lp,pR,mU,kH,sO,gQ,hD,rfl,⟨dp,fB,fg,gZ,fK,ha,ge⟩,gR,l⟩;simp only[Value.agg.injEq,xl,vz,ia]at gZ;obtain⟨rfl,rfl,rfl,rfl,rfl⟩:=gZ;obtain⟨ii,ct,rfl,_⟩:=id fK;obtain⟨jN,cB,rfl,_⟩:=id ha;obtain⟨hE,co,rfl,_⟩:=id ge;refine⟨l,?_⟩;refine aF ?_;have mW:∀{o aX},aA I dL (T (T dL I o) I aX):=aK
  have e0:cz Z.N (Z.eT.st g).A≠[]:=λe=>by have:=i7 Z.N (Z.eT.st g).A;rw[e]at this;simp at this;omega
  refine(ale (fK.rd.F mW J) (by rw[i7];have:=S.K.n60;omega) e0).mono ?_;rintro v ol n6 ⟨yZ,yT,lD⟩
  (try simp(disch:=omega)only[bn,seval])
  exact⟨v,by rw[A],aK,J,.inr ⟨A,Z,g,L,aw9 yZ J⟩⟩
 ·refine(aoS  i4 A).cn λdL I gR l=>⟨l,?_⟩
  have aT:(he (lJ 3 c6 0 r c es) == 0)=false:=ab
  unfold zR9;refine bg @aT ?_;exact⟨_,rfl,aK,J,.inl ⟨A,rfl⟩⟩
end
theorem afy(hk:Z.k=3)(bH:Z.N<=4096)(hg:yi gs Z.ag)(iw:∀g∈gs,hi Z.N g):tp Z.eT gs:=by
 obtain⟨us,cs,h1,ar,bM,aL,P⟩:=hg;have P:ky ((xT bM).map ee) (Z.ag.map ee):=P;have I:∀g∈cs,∃e∈gs,(e.f=g.f/\e.t=g.t)\/(e.f=g.t/\e.t=g.f):=λg l=>by
  rcases hb.1 (ar.sub g l)with h|h
  ·exact⟨g,h,.inl ⟨rfl,rfl⟩⟩
  ·obtain⟨e,A,rfl⟩:=Jq.1 (h1.sub g h);exact⟨e,A,.inr ⟨rfl,rfl⟩⟩
 have back:∀g∈Z.ag,∃e∈cs,g=oF (Ae e):=λg l=>by obtain⟨c,D,rfl⟩:=Jq.1 (P.sub g l);obtain⟨e,A,rfl⟩:=XU.1 (aL.sub c D);exact⟨e,A,rfl⟩
 have aBb:∀g∈cs,∃d∈Z.ag,d.f=g.t/\d.t=g.f:=λg l=>by obtain⟨c,D,M,L⟩:=aL.GJ (Ae g) (XU.2 ⟨g,l,rfl⟩);obtain⟨d,E,ch,e6⟩:=P.GJ (oF c) (Jq.2 ⟨c,D,rfl⟩);exact⟨d,E,ch.trans L,e6.trans M⟩
 refine⟨hk,bH,λg l=>?_,λg l=>?_,λg l=>?_⟩
 ·obtain⟨e,A,rfl⟩:=back g l;obtain⟨x,a1,h⟩:=I e A;have:=iw x a1;unfold hi at this;refine⟨rfl,?_,?_⟩
  ·show e.t<Z.N;omega
  ·show e.f<Z.N;omega
 ·obtain⟨e,A,rfl⟩:=back g l;obtain⟨x,a1,h⟩:=I e A;exact⟨x,a1,h.symm⟩
 ·obtain⟨e,A,h⟩:=O4 l;rcases h with⟨b3,cF⟩|⟨b3,cF⟩
  ·obtain⟨c,D,M,L⟩:=ar.GJ e (BD _ A);obtain⟨d,E,ch,e6⟩:=aBb c D;exact⟨d,E,J,J⟩
  ·obtain⟨B,dY,M,L⟩:=h1.GJ (oF e) (Jq.2 ⟨e,A,rfl⟩);obtain⟨c,D,gz,ik⟩:=ar.GJ B (ML _ dY);obtain⟨d,E,ch,e6⟩:=aBb c D;have M:B.f=e.t:=M;have L:B.t=e.f:=L;exact⟨d,E,J,J⟩
theorem aeb(K:fV Z)(E:tp Z.eT gs)(l:Nat):A3 Z l:=λt _=>by
 have D:Z.k=3:=E.k;have B:∀v,v<Z.N->vv (Z.eT.x t v):=λv A y g=>by
  have g:qo Z.k (Z.eT.a7 t) t (Z.eT.st (t-1)) v=some y:=g;unfold qo at g;rw[if_neg J,if_neg J]at g
  split at g
  ·cases g;have:=(tn.all E (t-1)).gQ v A;have:=K.n60;unfold er;omega
  ·cases g
 exact⟨aw7 K B,λv y A=>B v A y⟩
theorem aca{av:Nat}(E:tp Z.eT gs)(g:wH Z.N gs)(D:1<=Z.R)(I:Z.N<Z.lim)(l:Z.fY av≠0):
  ∃L,po Z.N gs L/\cz Z.N (Z.eT.st av).A=hz L:=by
 have M:Z.k=3:=E.k;have B:∀v,v<Z.N->(Z.eT.st av).q v=false:=λv A=>by
  rcases alf J J D l with h|h
  ·exact E.quiet g (by show Z.N<=av;omega) v A
  ·exact h v A
 refine⟨_,E.SK g B,?_⟩;unfold cz hz;rw[ot];refine o9 λv A=>?_;have:=(tn.all E av).gQ v (BJ.1 A);show _=(((Z.eT.st av).A v).toNat:Int)
 omega
theorem asI{s:al}(M:∀(s:al) (h:ae) (U:Nat),aH Q s 26 [] h U (fo (.bool true) U h)){n:Int}{es:aa hN}{h:ae}{U:Nat}(aJ:cN h U v io es)(dW:0<=R/\R<=255)(ed:0<=C/\C<=255):
  aH Q s 5 [.agg ⟨[(n:X),v,(V:X),.int .u8 R,.int .u8 C]⟩] h U (azg U h):=by
 refine aoW ?_;obtain⟨a,cap,rfl,aZ⟩:=id aJ;unfold ab9;refine aF ?_;refine(atW (aJ.F aK J)).mono ?_;rintro r h1 l ⟨N,sM,k3,rM,v2,gs,rfl,I,ek,Aw,P,A,kW,dR,hk,Vg,Vh⟩;have Vg:=Vg dW.1 dW.2;have Vh:=Vh ed.1 ed.2;have rm:cN h1 l v2 cW gs:=kW.rd;obtain⟨a2,c2,rfl,qu⟩:=id kW;refine aF ?_;generalize fJ:T (T h1 l _) l _=ar;have k2:u ar l=some (.cells [(N:X),.slice a2 gs.length c2] false):=by rw[<-fJ,aS]
 have eA:aA U h ar:=aK
 have rd2:cN ar (l+1) (.slice a2 gs.length c2) cW gs:=rm.F aK J;have S:pr ar (l+1) (lJ 3 N 0 k3 rM (gs.map ee)) (.slice none 0 0) (.slice a2 gs.length c2) (.slice none 0 0):=⟨⟨none,0,rfl,λh=>absurd rfl h⟩,ft.of (axa rd2),⟨none,0,rfl⟩,.inl (by show(gs.map ee).length<=60;rw[gH];exact P)⟩
 have ju:he (lJ 3 N 0 k3 rM (gs.map ee))=0:=au5 (k:=3) (sM:=0) I ek I P A Vg Vh J;have MD:gs.length=(gs.map ee).length:=by rw[gH]
 have jB:=S;rw[MD]at jB;have E:∀(Z:b5) (av:Nat),HG 3 N 0 k3 rM (gs.map ee) Z av->N=Z.N/\tp Z.eT gs/\wH Z.N gs:=λZ av B=>by
  have e:=B.ez;obtain rfl:N=Z.N:=J
  have hg:yi ((gs.map ee).map nl) Z.ag:=B.ag;rw[au4]at hg;exact⟨rfl,afy B.cn (by have:=B.K.n60;omega) hg A,λg a6=>⟨(A g a6).1,(A g a6).2.1⟩⟩
 have run:=aea (s:=s) (λZ av B=>aeb B.K (E Z av B).2.1 av) jB J J J;rw[<-MD]at run;refine run.mono ?_;rintro _ aL bS ⟨v,rfl,fI,gA,aCD⟩;rw[ju];rcases aCD with⟨au,_⟩|⟨_,Z,av,B,yZ⟩
 ·exact absurd ju au
 obtain⟨rfl,LE,pE⟩:=E Z av B;have azm:Z.N<Z.lim:=by have:=B.el;unfold pB at this;omega
 obtain⟨L,y1,H8⟩:=aca (av:=av) LE pE B.K.lA azm (λh=>by have:=(B.fY av J).1 h;omega);rw[H8]at yZ;have Ib:cN aL bS v c3 (hz L):=yZ.rd;have nt:=(fI l J).trans k2;have dj:cN aL bS (.slice a2 gs.length c2) cW gs:=rd2.F fI J;refine(M s aL bS).fR ?_;refine bg @nt ?_;refine(alj (ft.of dj) I J J A).mono ?_;rintro nC bm dH ⟨b,qN,rfl,Bt,HL',ig,fw,gR,D⟩;have MD:=HL'.unique y1;subst MD;have aCE:cN bm dH (.slice (some ⟨b,0,some 1⟩) Z.N Z.N) c3 (hz qN):=⟨some ⟨b,0,some 1⟩,Z.N,by rw[qZ,y1.len],λ_=>⟨b,some 1,false,fw,rfl,by rw[iG];exact Bt⟩⟩
 refine(asC (Ib.F gR D) aCE (by rw[qZ,y1.len];omega)).fR ?_;have cR:=(gR l J).trans nt;have dL:cN bm dH (.slice a2 gs.length c2) cW gs:=dj.F gR D;simp(disch:=omega)only[bn,cR,decide_true,seval];refine(aoY (ft.of dL) (Ib.F gR D) J J A y1 (by rw[qZ,y1.len];omega)).mono ?_;rintro _ cF n6 ⟨rfl,yT,lD⟩;exact⟨by simp,aK,J⟩
def Ur:aa X:=[.int .i64 2,.int .i64 0,.int .i64 1,.int .i64 3,.int .i64 1,.int .i64 1]
def lcA:aa X:=[.int .i64 0,.int .i64 1,.int .i64 0,.int .i64 1,.int .i64 4]
def Sc(h:ae)(b U:Nat):al:=Nat.blt b U&&(match u h b with|some (.cells cs false)=>nQ (.agg ⟨cs⟩) (.agg ⟨Ur⟩)|_=>false)
def mP(args:aa X)(h:ae)(U:Nat)(K:bP):Prop:=match args with
 | [.agg ⟨[.int .i64 n,.slice (some ⟨b,0,aO⟩) l cap]⟩,.int .i64 r,.int .i64 c]=>w3 (fz n 5&&Nat.beq l 2&&Sc h b U)
  (Bool.rec (w3 (fz r 0&&fz c 1) (K (.tuple ⟨[.slice none 0 0,.int .i64 3]⟩) h U))
   (K (.tuple ⟨[.slice (some ⟨U,0,some 1⟩) 5 5,.int .i64 0]⟩) (T h U (.cells lcA false)) (U+1)) (fz r 2&&fz c 2))
 |_=>False
def Us(f:FuncId):aw (aa X->ae->Nat->bP->Prop):=bif Nat.beq f 25 then some mP else none
def lcT(f:FuncId):aa (aa Nat):=match([(19,[[0,1,4,5]]),(28,[[4,5,20,21,22]]),(31,[[3,10,11,12]]),(51,[[0,1,4,5]]),(89,[[3,4,10,11,12]]),(90,[[1,3,13,14],[3,23,24,25]]),(255,[[0,1,4,7,8]])]:aa (Nat × aa (aa Nat))).find? λp=>Nat.beq p.1 f with
 |some p=>p.2
 |none=>[]
@[irreducible] def Ut(n m:Nat):Prop:=G2 Q lcT Us n m 26 [] ix 0 (λv _ _=>Ve v)
theorem alk:Ut 30 20=True:=by kernel_rfl
theorem asJ{h:ae}{b U:Nat}(e:Sc h b U=true):b<U/\u h b=some (.cells Ur false):=by
 unfold Sc at e;simp only[eC]at e;refine⟨Io (by simpa[vB]using e.1) (cD _),?_⟩;have g:=e.2
 split at g
 ·rename_i l A
  rw[A,BZ (x:=l) (y:=Ur) g]
 ·cases g
def Di:aa hN:=[(2,0,1),(3,1,1)]
def wX:aa GE:=[⟨2,0,1⟩,⟨3,1,1⟩]
theorem asK:po 5 wX [0,1,0,1,4]:=by
 refine⟨rfl,λe g=>?_,λv x h=>?_,λc l v x h=>?_⟩
 ·unfold wX at g;simp at g;rcases g with rfl|rfl <;> rfl
 ·match v,h with
  |0,h|1,h|2,h|3,h|4,h=>cases h;omega
 ·have B:c 2=c 0:=l ⟨2,0,1⟩ (by simp[wX]);have A:c 3=c 1:=l ⟨3,1,1⟩ (by simp[wX])
  match v,h with
  |0,h|1,h|4,h=>cases h;rfl
  |2,h=>cases h;exact B.symm
  |3,h=>cases h;exact A.symm
theorem au9{h:ae}{U:Nat}(a1:mP args h U K)(s:al):aH Q s 25 args h U K:=by
 unfold mP at a1
 split at a1
 ·rename_i n b aO l cap r c
  obtain⟨e,M⟩:=CM a1;simp only[eC]at e;obtain⟨⟨aV,aP⟩,ch⟩:=e;obtain⟨aT,D⟩:=asJ ch;cases zv.1 aV;cases gG aP;have aJ:ft h U (.slice (some ⟨b,0,aO⟩) 2 cap) io Di:=⟨_,_,rfl,λ_=>⟨b,aO,false,[],aT,rfl,D⟩⟩
  have A:∀(r c:Int) (Z:b5) (av:Nat),HG 3 5 0 r c Di Z av->Z.N=5/\tp Z.eT wX:=λr c Z av B=>by
   have e:=B.ez;have gz:Z.N=5:=J
   have hg:yi (Di.map nl) Z.ag:=B.ag;exact⟨gz,afy (gs:=wX) B.cn J hg (by rw[gz];intro g D;unfold wX at D;simp at D;rcases D with rfl|rfl <;> exact⟨by decide,by decide,by decide,by decide⟩)⟩
  have P:∀mp,aH Q mp 25 [.agg ⟨[.int .i64 5,.slice (some ⟨b,0,aO⟩) 2 cap]⟩,(r:X),(c:X)] h U _:=λmp=>aea (es:=Di) (s:=mp) (λZ av B=>aeb B.K (A r c Z av B).2 av) ⟨⟨none,0,rfl,λh=>absurd rfl h⟩,aJ,⟨none,0,rfl⟩,.inl (J:2<=60)⟩ J J (.inl J);cases cM:(fz r 2&&fz c 2)with
  |true =>
   rw[cM]at M;simp only[eC,zv]at cM;obtain⟨rfl,rfl⟩:=cM;refine aH.mR (val:=λb=>.tuple ⟨[.slice (some ⟨b,0,some 1⟩) 5 5,.int .i64 0]⟩) (cs:=lcA) rfl Wi ((P false).mono ?_) M;rintro _ ac Y ⟨v,rfl,E,dR,⟨I,_⟩|⟨I,Z,av,B,yZ⟩⟩
   ·exact absurd (by kernel_rfl) I
   obtain⟨gz,LE⟩:=A 2 2 Z av B;have pE:wH Z.N wX:=by rw[gz];intro g D;unfold wX at D;simp at D;rcases D with rfl|rfl <;> exact⟨by decide,by decide⟩
   obtain⟨L,y1,H8⟩:=aca (av:=av) LE pE B.K.lA (by have:=B.el;unfold pB at this;omega) (λh=>by have:=(B.fY av J).1 h;omega);rw[gz]at y1;have:=y1.unique asK;subst this;rw[H8]at yZ;rw[I];rcases yZ with⟨e,_⟩|⟨dE,dQ,dB,rfl,dt⟩
   ·cases e
   exact⟨dE,rfl,dQ,dt,E⟩
  |false =>
   rw[cM]at M;obtain⟨e6,M⟩:=CM M;simp only[eC,zv]at e6;obtain⟨rfl,rfl⟩:=e6;refine aH.plain (v:=.tuple ⟨[.slice none 0 0,.int .i64 3]⟩) rfl ((P false).mono ?_) M;rintro _ ac Y ⟨v,rfl,E,dR,⟨I,rfl⟩|⟨I,_⟩⟩
   ·exact⟨by rw[show he (lJ 3 5 0 0 1 Di)=3 by kernel_rfl],E⟩
   ·rw[show he (lJ 3 5 0 0 1 Di)=3 by kernel_rfl]at I;cases I
 ·exact a1.elim
theorem ava{f:FuncId}{g:aa X->ae->Nat->bP->Prop}(l:Us f=some g){h:ae}{U:Nat}(B:g args h U K)(s:al):aH Q s f args h U K:=by
 unfold Us at l;cases A:Nat.beq f 25 with
 |true =>
  rw[A]at l;cases l;rw[gG A];exact au9 B s
 |false =>
  rw[A]at l;cases l
theorem alm{n m:Nat}(e:Ut n m):aH Q false 26 [] ix 0 (λv _ _=>v = .bool true):=
 (acz lR (λf g A args h U K B s=>ava A B s) m false 26 [] ix 0 _ (by unfold Ut at e;exact e)).mono λv _ _ l=>by
  unfold Ve at l
  split at l
  ·rfl
  ·exact l.elim
theorem avb{s:al}{h:ae}{U:Nat}:aH Q s 26 [] h U (fo (.bool true) U h):=aH.home (b:=true) (alm (of_eq_true alk)) ⟨rfl,rfl,rfl⟩
theorem asL{n:Int}{mR:X}{l:aa hN}{W:World}(B:(l=[]/\mR = .slice none 0 0)\/∃b g cap,mR = .slice (some ⟨b,g,none⟩) l.length cap/\JY W b g (bc io l))(I:0<=R/\R<=255)(L:0<=C/\C<=255):
  Calls Tryz.prog 5 #[.agg ⟨[(n:X),mR,(V:X),.int .u8 R,.int .u8 C]⟩] W λe E=>e = .returned (.bool true)/\Below W.heap.size W E:=by obtain⟨M,A,D⟩:=atb (λ_=>rfl) B;exact callsIn_wide.1 (atc (n:=0) ((asI (s:=false) (λ_ _ _=>avb) (n:=n) (V:=V) D I L).mono λ_ _ _ h=>h.1) (as4 M) (avz _) (.cons (.agg (.cons (.int _ _) (.cons A (.cons (.int _ _) (.cons (.int _ _) (.cons (.int _ _) .nil)))))) .nil))
theorem aln(P:Os)(g:P.Started)(H:Type)(enc:TypeId × X->H):
  ReturnsInHanded {} Tryz.checked P 5 .any (Rows.compsRunsSpec.pre6 enc Tryz.prog Tryz.f5 Rows.compsRunsRow.domain false) (Rows.compsRunsSpec.post enc Tryz.prog Tryz.f5 false true false false):=by
 refine returnsInHanded_of_change (C:=Tryz.checked) own g (by kernel_rfl) Tryz.func5
  (ChangeSpec.witness6 (enc:=enc) (C:=Tryz.checked) false ⟨#[],#[.agg #[.int .i64 0,.slice none 0 0,.int .i64 0,.int .u8 0,.int .u8 0]],[]⟩ 8 (by kernel_rfl) (by kernel_rfl) (by kernel_rfl) (by kernel_rfl)) ?_
 intro W base args bM gs before l jy aAp _;have A:∀(j:Nat) t v,Tryz.f5.params[j]? = some t->args[j]? = some v->Value.okWide Tryz.prog W .any base t v:=l;have I:=jy;obtain⟨p,q,B,lz,rfl,hfz,Uk⟩:=jy;have hs:DataW.TrodAll enc Tryz.prog W 0 (λ_=>true) true Tryz.f5.params.toList args.toList bM p:=B;rw[Tryz.params5]at hs A;obtain⟨kJ,vs0,aCp,ds0,aCF,g0,L,rfl,rfl,M,gb⟩:=trodAll_cons hs;obtain⟨rfl,rfl,rfl⟩:=trodAll_nil gb;obtain rfl:args=#[kJ]:=ab
 obtain⟨rfl,rfl⟩:=trodVars_none lz;have hS:=M;have E:∀x∈aCF,x.block<W.heap.size:=by obtain⟨m,bl⟩:=hS;exact DataW.trod_lt m _ _ _ bl
 obtain⟨n,V,R,C,mR,tZ,rfl,cZ,dW,ed⟩:=ajW (A 0 26 kJ rfl rfl) M;clear B l;refine(asL (n:=n) (V:=V) cZ dW ed).mono λe dk ⟨bE,D⟩=>?_;subst bE;exact⟨_,rfl,_,_,_,[],_,[],I,trodAll_mk1 (shut_bool aBx _),(trodAll_cons_mk (Below.trod aqK (by kernel_rfl) (of_decide_eq_true (by kernel_rfl)) hS D E) trodAll_mk0),rfl,D.frame _,λh=>by cases h⟩
theorem asM:Tryz.prog.funcNamed Rows.compsRunsRow.func=some 5:=by kernel_rfl
end Go.Proofs.YthlhhajnbgjfmaaGreat
