/- Parts of the proof: HwFn5: each statement bears its own conditions. -/
import Derived.Test.YthlhhajnbgjfmaaGreatRpHwFn4
namespace Go.Proofs.YthlhhajnbgjfmaaGreat
open Go Go.Ax Go.Ax.HdH
set_option linter.all false
set_option maxHeartbeats 1000000
set_option maxRecDepth 1000000
variable {ai:aa GE} {cs:aa X} {W:aa e8} {aB:aw Nat} {a b cap j m r cQ:Nat} {w:X} {p:Nat × Int} {cr:Nat} {b9:aa e8} {dw:aw Nat} {K:X->ae->Nat->Prop} {L:aa (Nat × Int)} {bG:al} {R C fl:Nat} {S:ae->Nat->Prop} {q:Nat->al} {eL:X} {eA:Nat} {N:aP} {a2 bp ba aZ:X} {aL:aP} {G:Nat} {y:e8}
def sb(a:Nat)(p:Nat × Int):Nat × Int:=(a+p.1,p.2)
theorem ye(a:Nat)(f:Nat->aw Int):∀b,bj (a+b) f=bj a f++(bj b λk=>f (a+k)).map (sb a)
 |0=>by simp[axX]
 |b+1=>by
  rw[show a+(b+1)=(a+b)+1 from rfl,tL,ye a f b,tL,iU,kl];cases h:f (a+b) <;> simp[sb]
theorem KQ{n k:Nat}{f:Nat->aw Int}{x:Int}(D:a<=n)(h:(bj n f)[j]? = some (k,x)):k<a↔j<(bj a f).length:=by
 obtain⟨b,rfl⟩:∃b,n=a+b:=⟨n-a,J⟩
 rw[ye]at h;constructor
 ·intro E;rcases jJ j (bj a f).length with g|g
  ·omega
  ·rw[Fc g,sw,mq]at h;obtain⟨p,_,B⟩:=h;unfold sb at B
   grind
 ·intro A;rw[tt A]at h;exact(wJ h).1
theorem QI{s:al}{a b:Int}{h:ae}{U:Nat}:aE Q s 242 [(a:X),(b:X)] h U (fs (.int .i64 (fV a b)) U h):=by
 have g:∀{n:Int} {K:bN},K (.bool false) h U->aE Q s 345 [(n:X)] h U K:=λ{n K} hk=>by refine aeF ?_;unfold Sp;simp(disch:=omega)only[bk,ru,seval];exact hk
 refine avE ?_;unfold af1 fV;refine g (g ?_);refine aG ?_;refine⟨λA=>?_,λA=>⟨λB=>?_,λB=>?_⟩⟩
 ·rw[if_pos A];exact⟨rfl,rfl,rfl⟩
 ·rw[if_neg J,if_pos J];exact⟨rfl,rfl,rfl⟩
 ·rw[if_neg J,if_neg J];exact⟨rfl,rfl,rfl⟩
theorem YF{s:al}{x:Nat × Int}{a:Int}{h:ae}{U:Nat}:aE Q s 486 [.agg ⟨fF x⟩,(a:X)] h U (dI (.int .i64 (fV (x.1:Int) a)) U h):=by refine apo ?_;unfold acI fF;refine aG ?_;refine QI.mono ?_;rintro _ _ _ ⟨rfl,rfl,rfl⟩;exact⟨rfl,aM,J⟩
def BsJ(l:aa (Nat × Int))(v dq ki:X)(a:Nat)(au:ae)(a0:Nat)(m:Nat)(aF:aa X)(ac:ae)(Y:Nat):Prop :=
 ∃ap ag:Nat,m=ag-ap/\ap<=ag/\ag<=l.length/\aF=[v,dq,ki,(l.length:X),(ap:X),(ag:X)]/\(∀j k x,l[j]? = some (k,x)->j<ap->k<a)/\(∀j k x,l[j]? = some (k,x)->ag<=j->a<=k)/\aA a0 au ac/\a0<=Y
theorem PC{s:al}{n:Nat}{v:X}{x:Nat->aw Int}{h:ae}{U:Nat}(aI:j2 h U v n x)(bw:n<=4096)(dR:a<=n):
  aE Q s 458 [v,(a:X)] h U (λr ac Y=>∃b,r = .tuple ⟨[.int .i64 ((bj a x).length:Int),.bool b]⟩/\(a<n->b=(x a).isSome)/\aA U h ac/\U<=Y):=by
 refine att ?_;obtain⟨gB,rfl,ar⟩:=aI;obtain⟨bg,cap,rfl,a1⟩:=id ar;unfold aeW;refine aG ?_;have fO:=ms n x;have b4:∀{o},aA U h (T h U o):=aM
 refine(aik (K:=λr ac Y=>∃b,r = .tuple ⟨[.int .i64 ((bj a x).length:Int),.bool b]⟩/\(a<n->b=(x a).isSome)/\aA U h ac/\U<=Y) ?_).mono ?_
 ·unfold Ws;refine aG ?_;refine bE.mk (BsJ (bj n x) (.slice bg (bj n x).length cap) (a:X) (.func (.func 486) ⟨[]⟩ ⟨[]⟩) a h U) (bj n x).length ⟨0,(bj n x).length,rfl,J,J,rfl,J,ab,b4,J⟩ ?_;rintro _ _ h1 a5 ⟨ap,ag,rfl,dv,hhi,rfl,D,eT,V,qo⟩;have P:=ar.F V qo;rw[aij];unfold Wr;refine aG ?_;refine⟨λcb=>?_,λeG=>?_⟩
  ·have fa:IntKind.wrap .i64 ((ap:Int)+(ag:Int))=((ap+ag:Nat):Int):=by rw[<-wm];exact ie _ J
   have Is:IntKind.wrap .u64 ((ap+ag:Nat):Int)=((ap+ag:Nat):Int):=Dm J;have ew3:IntKind.wrap .i64 (((ap+ag) / 2:Nat):Int)=(((ap+ag) / 2:Nat):Int):=ie _ J;obtain⟨⟨k,y⟩,g⟩:=dH (l:=bj n x) (i:=(ap+ag) / 2) J;obtain⟨b,o,aB,bG,cs,j4,aW,aU,aY,I⟩:=P.ld (λ_=>rfl) g;cases aU;refine AP @fa @Is @Pb @ew3 @aY @I ?_;refine YF.mono ?_;rintro _ ao bQ ⟨rfl,dD,Z⟩;have eY:=V.trans dD J;unfold fV
   by_cases hka:k<a
   ·rw[if_pos J];refine bl (cD (J:(ap+ag) / 2<1000000000000)) ?_;refine⟨?_,λh=>absurd trivial h⟩;refine⟨_,?_,(ap+ag) / 2+1,ag,rfl,J,hhi,rfl,λj dm nV M hjl=>?_,eT,eY,J⟩
    ·omega
    ·by_cases E:j<(ap+ag) / 2
     ·have:=vh M g E;omega
     grind
   ·rw[if_neg J];refine aG ?_;refine⟨λa1=>by exfalso;omega,λ_=>?_⟩;refine⟨_,?_,ap,(ap+ag) / 2,rfl,J,J,rfl,D,λj dm nV M hjl=>?_,eY,J⟩
    ·omega
    ·by_cases E:(ap+ag) / 2<j
     ·have:=vh g M E;omega
     grind
  ·have:ag=ap:=J
   subst this;have B:ag=(bj a x).length:=by
    rcases z1 ag (bj a x).length with aT|aT|aT
    ·obtain⟨⟨k,y⟩,g⟩:=dH (l:=bj n x) (i:=ag) (by
      have:(bj a x).length<=(bj n x).length:=by
       obtain⟨b,rfl⟩:∃b,n=a+b:=⟨n-a,J⟩
       rw[ye,ib];omega
      omega)
     have a9:=eT ag k y g (cC _);have bY:=(KQ dR g).2 aT;omega
    ·omega
    ·obtain⟨⟨k,y⟩,g⟩:=dH (l:=bj n x) (i:=(bj a x).length) J;have a9:=D _ k y g aT;have bY:=(KQ dR g).1 a9;omega
   rw[B]at D eT hhi;rw[B];have here:∀k y,(bj n x)[(bj a x).length]? = some (k,y)->a<n->(x a).isSome=decide (k=a):=λk y g A=>by
    have a9:=eT _ k y g (cC _)
    by_cases e:k=a
    ·subst e;rw[(wJ g).2];simp
    ·cases bd:x a with
     |none=>grind
     |some z =>
      exfalso;obtain⟨j,M⟩:=Fg.1 (j0.2 ⟨A,bd⟩);have bY:¬j<(bj a x).length:=ab
      by_cases cy:j=(bj a x).length
      ·grind
      ·have:=vh g M J;omega
   refine⟨λbo=>?_,λbo=>?_⟩
   ·obtain⟨⟨k,y⟩,g⟩:=dH   J;obtain⟨b,o,aB,bG,cs,j4,aW,aU,aY,I⟩:=P.ld (λ_=>rfl) g;cases aU;refine cN @aY @I ?_;refine YF.mono ?_;rintro _ ao bQ ⟨rfl,dD,Z⟩;refine aG ?_;refine⟨_,rfl,λA=>?_,aM,J⟩;rw[here k y g A];unfold fV
    grind
   ·refine⟨false,rfl,λA=>?_,V,qo⟩;cases bd:x a with
    |none=>rfl
    |some z =>
     exfalso;obtain⟨j,M⟩:=Fg.1 (j0.2 ⟨A,bd⟩)
     grind
 ·rintro _ ao bQ ⟨b,rfl,aW,V,dv⟩;refine aG ?_;exact⟨b,rfl,aW,V,dv⟩
theorem atu{s:al}{n:Nat}{v:X}{x:Nat->aw Int}{h:ae}{U:Nat}(aI:j2 h U v n x)(bw:n<=4096)(V:a<n):
  aE Q s 401 [v,(a:X)] h U (dI (.tuple ⟨[.int .i64 ((x a).getD 0),.bool (x a).isSome]⟩) U h):=by
 refine awe ?_;have B:=aI;obtain⟨gB,rfl,ar⟩:=aI;obtain⟨bg,cap,rfl,a1⟩:=id ar;unfold ags;refine aG ?_;have b4:∀{o},aA U h (T h U o):=aM
 refine(Kp (B.F b4 J) bw).mono ?_;rintro _ h1 a5 ⟨rfl,hk,dv⟩;have cH:=hk U J;rw[aR]at cH;refine bl @cH ?_;have cM:∀{o},aA U h (T h1 U o):=aM
 refine(PC (B.F cM J) bw J).mono ?_;rintro _ ao bQ ⟨b,rfl,D,A,Z⟩;have D:=D V;subst D;have g2:=A U J;rw[aR]at g2;have M:=cM.trans A J;cases bd:x a with
 |none =>
  simp(disch:=omega)only[bk,Cz,seval];exact⟨rfl,M,J⟩
 |some y =>
  obtain⟨j,E⟩:=Fg.1 (j0.2 ⟨V,bd⟩);have bY:¬j<(bj a x).length:=λI=>by have:=(KQ J E).2 I;omega
  have I:j=(bj a x).length:=by
   by_cases eD:(bj a x).length<j
   ·obtain⟨⟨k,z⟩,c0⟩:=dH (l:=bj n x) (i:=(bj a x).length) ab;have mc:=vh c0 E eD;have k0:=(KQ J c0).1 mc;omega
   omega
  subst I;obtain⟨b,o,aB,bG,cs,j4,D,aU,aY,g⟩:=(ar.F M (Y:=bQ) J).ld (λ_=>rfl) E;cases aU;have cb:=(fb.1 E).1;have P:cs[o+(bj a x).length*2+1]? = some (y:X):=by
   rw[o3]at g
   split at g
   ·injection g with g
    injection g with g
    have k0:=congrArg (λl:Array X=>l.toList[1]?) g;simp[fF]at k0;omega
   grind
  simp(disch:=omega)only[bk,NP,g2,aY,P,seval];exact⟨rfl,M,J⟩
theorem tyI:nD Q 95=true:=by kernel_rfl
theorem CJ{s:al}{h:ae}{U:Nat}{v:X}{l:aa (Nat × Int)}(D:ep h U v fF 2 l)(E:l.length<10000):
  aE Q s 217 [v] h U (λr ac Y=>iP ac U Y r fF 2 l/\aA U h ac/\U<=Y):=by refine alM ?_;exact acA (K:=λr ac Y=>iP ac U Y r fF 2 l/\aA U h ac/\U<=Y) D (λ_=>rfl) J J tyI λr ac Y A B g=>⟨A,B,g⟩
theorem Sq{az:Type}{enc:az->aa X}{k:Nat}(g:∀x,(enc x).length=k)(D:∀x,d4 (enc x)=true){h:ae}{i:Nat}{l:aa az}{y:az}(ag:i<l.length):jQ (some (.cells (a7 enc l) false)) h b (i*k) (enc y) = .ok (T h b (.cells (a7 enc (l.set i y)) false)):=by have A:=Kf g [] y l i ag;rw[hz,hz]at A;have E:=fN g l;have B:(i+1)*k<=l.length*k:=qD k ag;rw[z8]at B;rw[Lk (D y) ab,g,A]
def aAw(ki:X)(a:aw Addr)(cap cQ Uw n:Nat)(l:aa (Nat × Int))(g:Nat × Int->Nat × Int)(U a0:Nat)(au:ae)(m:Nat)(aF:aa X)(ac:ae)(Y:Nat):Prop :=
 ∃i,m=l.length-i/\i<=l.length/\aF=[ki,bf cQ,bf Uw,.slice a l.length cap,(l.length:X),(i:X)]/\u ac Uw=some (.cells [(n:X),.slice a l.length cap] false)/\u ac cQ=some (.cells [.int .i64 0,.slice none 0 0] false) /\
  (l≠[]->∃b,U+1<b/\b<Uw/\a=some ⟨b,0,some 2⟩/\u ac b=some (.cells (a7 fF ((l.take i).map g++l.drop i)) false))/\aA U au ac/\a0<=Y
theorem aax{s:al}{n:Nat}{x:Nat->aw Int}{v:X}{g:Nat × Int->Nat × Int}{h:ae}{U:Nat}(aI:j2 h U v n x)(bw:n<=4096)(bK:∀p I a5,p∈bj n x->aA U h I->U<=a5->aE Q true eA (.agg ⟨fF p⟩::cs) I a5 (dI (.agg ⟨fF (g p)⟩) a5 I)):
  aE Q s 445 [v,.func (.func eA) ⟨[]⟩ ⟨cs⟩] h U (λr ac Y=>∃w,r = .agg ⟨[(n:X),w]⟩/\eJ ac U Y w fF ((bj n x).map g)/\aA U h ac/\U<=Y):=by
 refine atp ?_;have ih:=aI;obtain⟨gB,rfl,ar⟩:=aI;obtain⟨bg,cap,rfl,a1⟩:=id ar;have fO:=ms n x;have b4:∀{o aX},aA U h (T (T h U o) (U+1) aX):=aM
 unfold aeT;refine aG ?_;refine(Kp (ih.F b4 J) bw).mono ?_;rintro _ I a5 ⟨rfl,V,fi⟩;have cH:=V U J;rw[aq J,aR]at cH;have dZ:=V (U+1) J;rw[aR]at dZ;refine bl @cH ?_;have cM:∀{o},aA U h (T I U o):=aM
 refine(CJ (ar.F cM  J) J).mono ?_;rintro _ ao bQ ⟨hn,dD,P⟩;obtain⟨a,c2,rfl⟩:=hn.form;have zl:=dD U J;rw[aR]at zl;have H8:=dD (U+1) J;rw[aq J,dZ]at H8;refine⟨P,?_⟩;refine bl @zl ?_;generalize bj n x=l at *
 have er:∀{o aX},aA U h (T (T ao bQ o) bQ aX):=aM
 refine bE.mk (aAw (.func (.func eA) ⟨[]⟩ ⟨cs⟩) a c2 (U+1) bQ n l g U (bQ+1) h) l.length ⟨0,J,J,rfl,ab,ab,λeh=>?_,er,J⟩ ?_
 ·rcases hn with⟨e,_⟩|⟨b,dL,b3,d8,gg⟩
  ·grind
  ·cases d8;exact⟨b,J,J,rfl,by rw[aq J,aq J];grind⟩
 rintro _ _ aT bT ⟨i,rfl,ag,rfl,D,g40,aW,eY,ga⟩;rw[api];unfold aas;refine aG ?_;refine⟨λcb=>?_,λeG=>?_⟩
 ·obtain⟨y,ck⟩:=dH   J;obtain⟨b,dL,b3,rfl,E⟩:=aW ab;have hyy:((l.take i).map g++l.drop i)[i]? = some y:=ab
  have iQ:hB (some 2) (i*2) (a7 fF ((l.take i).map g++l.drop i)) = .ok (.agg ⟨fF y⟩):=Ew  (k:=2) (λ_=>rfl) hyy;refine cN @E @iQ ?_;rw[show fF y=[(y.1:X),(y.2:X)]from rfl];refine aG ?_;have g1:∀{o aX},aA U h (T (T aT bT o) bT aX):=aM
  refine(bK y _ _ ab g1 J).mono ?_;rintro _ a9 dP ⟨rfl,A,g5⟩;have B:=A bQ J;rw[aq J,aq J,D]at B;have M:=A (U+1) J;rw[aq J,aq J,g40]at M;have Z:=A b J;rw[aq J,aq J,E]at Z;refine⟨g5,?_⟩;have rT:((l.take i).map g++l.drop i).length=l.length:=ab
  simp(disch:=omega)only[bk,B,D,Z,Sq (enc:=fF) (k:=2) (λ_=>rfl) (λ_=>rfl) (J:i<((l.take i).map g++l.drop i).length),cD (J:i<1000000000000),seval];refine⟨rfl,l.length-(i+1),J,i+1,rfl,J,rfl,ab,ab,λ_=>⟨b,dL,b3,rfl,?_⟩,(g1.trans A J).set J,J⟩;rw[aR];have e:((l.take i).map g++l.drop i).set i (g y)=(l.take (i+1)).map g++l.drop (i+1):=by
   have bh:l.drop i=y::l.drop (i+1):=by
    rw[zT (by omega:i<l.length)]
    grind
   rw[bh,Jo _ _ ab,gX,oc,z6 J,CG,gW,ck];simp
  rw[e]
 ·have:i=l.length:=J
  subst this;refine cN @D @g40 ?_;refine⟨_,rfl,⟨a,c2,ab,λeh=>?_⟩,eY.set J,J⟩;obtain⟨b,dL,b3,rfl,E⟩:=aW (λe=>eh ab)
  grind
def p6(h:ae)(ap ag:Nat)(v:X)(n:Nat)(x:Nat->aw Int):Prop:=∃gB,v = .agg ⟨[(n:X),gB]⟩/\iP h ap ag gB fF 2 (bj n x)
section
variable {h ac:ae} {U Y ap ag ec dk n:Nat} {v:X} {x:Nat->aw Int}
theorem p6.gv(H:p6 h ap ag v n x):lv h ap ag v n x:=by obtain⟨g,e,A⟩:=H;exact⟨g,e,A.gv⟩
theorem p6.is(H:p6 h ap ag v n x):j2 h ag v n x:=H.gv.is
theorem p6.F(H:p6 h ap ag v n x)(D:∀b,ap<=b->b<ag->u ac b=u h b)(g:ec<=ap)(E:ag<=dk):p6 ac ec dk v n x:=by obtain⟨B,e,A⟩:=H;exact⟨B,e,A.F D g E⟩
end
theorem iP.cut{az:Type}{h:ae}{ap ag k:Nat}{v:X}{enc:az->aa X}{l:aa az}(M:∀x,(enc x).length=k)(xo:0<k)(H:iP h ap ag v enc k l){i:Nat}(Z:i<=j)(P:j<=l.length):
  ∃w,gi k v (some (i:X)) (some (j:X)) none = .ok w/\ep h ag w enc k ((l.drop i).take (j-i)):=by
 have g:((l.drop i).take (j-i)).length=j-i:=ab
 rcases H with⟨rfl,aI⟩|⟨b,dL,b3,rfl,aY⟩
 ·have I:j=0:=ab
  subst I;have ag:i=0:=J
  subst ag;rcases aI with rfl|⟨b,rfl⟩
  ·exact⟨.slice none 0 0,rfl,.nil⟩
  ·exact⟨.slice (some ⟨b,0,none⟩) 0 0,rfl,.nil⟩
 ·obtain⟨ea,hj,e,V⟩:=atj   (aB:=some k)    (cap:=l.length) ab Z P J k;refine⟨_,e,ea,hj,ab,λA=>?_⟩;have B:i<j:=by have:=zY.2 A;omega
  obtain⟨D,rfl⟩:=V B;have I:j*k<=l.length*k:=qD k P;have E:i*k+(j-i)*k=j*k:=by rw[<-z8];grind
  refine⟨b,0+i*k,D,false,_,b3,rfl,aY,by rw[g,fN M];omega,?_⟩;rw[g,iE];exact aak M l i j
theorem alY{s:al}{h:ae}{U:Nat}(A:u h cQ=some (.cells [(a:X)] bG))(g:cQ<U)(D:a<=p.1)(E:p.1<=5000):
  aE Q s 460 [.agg ⟨fF p⟩,bf cQ] h U (dI (.agg ⟨fF (p.1-a,p.2)⟩) U h):=by
 refine apl ?_;unfold acF fF;have B:IntKind.wrap .i64 ((p.1:Int)-(a:Int))=((p.1-a:Nat):Int):=by rw[show(p.1:Int)-(a:Int)=((p.1-a:Nat):Int) by omega];exact ie _ J
 refine cN @A @B ?_;exact⟨rfl,aM,J⟩
theorem aay{n:Nat}(x:Nat->aw Int)(g:a<=b)(A:b<=n):((bj n x).drop (bj a x).length).take ((bj b x).length-(bj a x).length)=(bj (b-a) λk=>x (a+k)).map (sb a):=by
 obtain⟨c,rfl⟩:∃c,b=a+c:=⟨b-a,J⟩
 obtain⟨d,rfl⟩:∃d,n=a+c+d:=⟨n-(a+c),J⟩
 rw[ye (a+c) x d,ye a x c,kl,List.drop_left,ib,Jj,List.take_left,Jj]
theorem apq{n:Nat}(x:Nat->aw Int)(g:a<=b)(A:b<=n):(bj a x).length<=(bj b x).length/\(bj b x).length<=(bj n x).length:=by
 obtain⟨c,rfl⟩:∃c,b=a+c:=⟨b-a,J⟩
 obtain⟨d,rfl⟩:∃d,n=a+c+d:=⟨n-(a+c),J⟩
 rw[ye (a+c) x d,ye a x c];grind
theorem RN(a m n:Nat)(x:Nat->aw Int)(h:a+m<=n):(bj m λk=>x (a+k)).map (sb a)=bj n λk=>if a<=k/\k<a+m then x k else none:=by
 refine Rg ?_ λi y=>?_
 ·rw[wl];exact(yw m _).imp λh=>by unfold sb;omega
 ·rw[f3];constructor
  ·rintro⟨⟨k,z⟩,B,e⟩;obtain⟨D,g⟩:=j0.1 B;unfold sb at e
   grind
  ·rintro⟨D,g⟩
   by_cases A:a<=i/\i<a+m
   ·rw[if_pos A]at g;exact⟨(i-a,y),j0.2 ab,by unfold sb;grind⟩
   grind
theorem apr{s:al}{n B ap:Nat}{v:X}{x:Nat->aw Int}{h:ae}{U:Nat}(aI:p6 h ap U v n x)(bw:n<=4096)(ey:min B n=b):
  aE Q s 405 [v,(a:X),(B:X)] h U (λr ac Y=>lv ac U Y r (b-a) (λk=>x (a+k))/\aA U h ac/\U<=Y):=by
 refine ato ?_;have V:=aI;obtain⟨gB,rfl,ar⟩:=aI;obtain⟨bg,cap,rfl⟩:=ar.form;have b4:∀{o aX ll},aA U h (T (T (T h U o) (U+1) aX) (U+2) ll):=aM
 unfold aeS;refine aG ?_;refine(Kp (V.is.F b4 J) bw).mono ?_;rintro _ h1 a5 ⟨rfl,M,fi⟩;have cH:=M U J;rw[aq J,aq J,aR]at cH;have bP:=M (U+1) J;rw[aq J,aR]at bP;have g2:=M (U+2) J;rw[aR]at g2;have em:max (a:Int) 0=(a:Int):=J
 have aW:b<=n:=J
 have em2:min (B:Int) (n:Int)=(b:Int):=J
 refine ls @cH @bP @em @em2 ?_;have cM:∀{o aX},aA U h (T (T h1 U o) (U+1) aX):=aM
 refine⟨λdv=>?_,λvG=>?_⟩
 ·refine bl @g2 ?_;refine⟨⟨_,by rw[show b-a=0 by omega];rfl,⟨none,0,by rw[show b-a=0 by omega];rfl,λeh=>absurd (by rw[show b-a=0 by omega];rfl) eh⟩⟩,aM,J⟩
 have EC:a<b:=J
 refine(PC (V.is.F cM  J) bw  J).mono ?_;rintro _ aT bT ⟨t1,rfl,_,E,ga⟩;have P:=E U J;rw[aq J,aR]at P;have EE:=E (U+1) J;rw[aR]at EE;have ML:=E (U+2) J;rw[aq J,aq J,g2]at ML;have fC:=cM.trans E J;refine bl @P ?_;refine(PC (V.is.F fC  J) bw  J).mono ?_;rintro _ a9 Z ⟨t2,rfl,_,D,g5⟩;have Ux:=(D U J).trans P;have MM:=(D (U+1) J).trans EE;have g24:=(D (U+2) J).trans ML;have g1:=fC.trans D J;obtain⟨dK,dr⟩:=apq x (Nat.le_of_lt EC) aW;obtain⟨w,fa,bO⟩:=iP.cut (k:=2) (λ_=>rfl) J (ar.F  (ec:=ap) (dk:=U) (λb _ aW=>g1 b aW) J J) dK dr;obtain⟨ny,oW,rfl⟩:=bO.form;refine cN @Ux @fa ?_;rw[aay x J aW,RN a (b-a) n x J]at bO;rw[aay x J aW,RN a (b-a) n x J];have nz:∀{o aX},aA U h (T (T a9 Z o) Z aX):=aM
 have g15:∀{o aX},u (T (T a9 Z o) Z aX) (U+1)=some (.cells [(a:X)] false):=ab
 have aD9:∀{o aX},aA U a9 (T (T a9 Z o) Z aX):=aM
 refine(aax  (g:=λp=>(p.1-a,p.2)) ⟨_,rfl,bO.F aD9  J⟩ bw (λp cy n6 a6 A kN=>?_)).mono ?_
 ·have:=j0.1 a6;have eD:a<=p.1:=ab
  exact alY ((A (U+1) J).trans g15) J eD J
 rintro _ cy n6 ⟨aC5,rfl,I,A,kN⟩;have EF:=(A (U+1) J).trans g15;have g26:=A (U+2) J;rw[aq J,aq J,g24]at g26;obtain⟨bp,hQ,rfl,BQ⟩:=id I;have Uy:IntKind.wrap .i64 ((b:Int)-(a:Int))=((b-a:Nat):Int):=by rw[show(b:Int)-(a:Int)=((b-a:Nat):Int) by omega];exact ie _ J
 refine hV @EF @g26 @Uy ?_;have gI:(bj n λk=>if a<=k/\k<a+(b-a)then x k else none).map (λp=>(p.1-a,p.2))=bj (b-a) λk=>x (a+k):=by
  rw[<-RN a (b-a) n x J,pJ];have:((λp:Nat × Int=>(p.1-a,p.2)) ∘ sb a)=id:=by funext p;unfold sb;simp
  rw[this,Fw]
 rw[gI]at I;have Iv:=congrArg List.length gI;rw[gX]at Iv;refine⟨⟨_,rfl,?_⟩,((((nz.trans A J).set J).set J).set J).set J,J⟩;rw[gI];exact I.F (λd h1 ao=>ab) J J
def zp{az:Type}(h:ae)(enc:az->aa X)(k:Nat)(v:X)(l:aa az)(o:aw Nat):Prop:=(l=[]/\v = .slice none 0 0/\o=none)\/∃b,o=some b/\v = .slice (some ⟨b,0,some k⟩) l.length l.length/\u h b=some (.cells (a7 enc l) false)
theorem zp.F{az:Type}{h ac:ae}{enc:az->aa X}{k:Nat}{v:X}{l:aa az}{o:aw Nat}(H:zp h enc k v l o)(D:∀b,o=some b->u ac b=u h b):zp ac enc k v l o:=by
 rcases H with H|⟨b,A,g,B⟩
 ·exact .inl H
 ·exact .inr ⟨b,A,g,ab⟩
theorem QJ{az:Type}{enc:az->aa X}{k:Nat}(hk:∀x,(enc x).length=k)(aB6:∀x,d4 (enc x)=true)(g:0<k){h:ae}{U:Nat}{v:X}{l m:aa az}{o:aw Nat}(H:zp h enc k v l o)(W:ep h U w enc k m)(I:(l.length+m.length)*k<=1000000)(B:∀dX ac Y aX,zp ac enc k dX (l++m) aX->(aX=o/\Y=U\/aX=some U/\Y=U+1)->(∀c,c≠U->o≠some c->u ac c=u h c)->K dX ac Y):dG (dO (dM k h U v w)) K:=by
 obtain⟨a,cap,rfl,W⟩:=W;rcases JF (m=[])with e|e
 ·subst e;rw[hz]at B;have:dM k h U v (.slice a 0 cap) = .ok (.val v h U):=by
   rcases H with⟨rfl,rfl,rfl⟩|⟨b,rfl,rfl,aY⟩
   ·show lr h a (Nat.mul 0 k) (λnew=>gZ k h U none 0 0 0 new)=_;rw[show Nat.mul 0 k=0 from lY k];rfl
   ·show lr h a (Nat.mul 0 k) (λnew=>gZ k h U (some ⟨b,0,some k⟩) l.length l.length 0 new)=_;rw[show Nat.mul 0 k=0 from lY k];unfold gZ;rw[show Nat.ble (Nat.add l.length 0) l.length=true from zV ab];rfl
  show dG (dO (dM k h U v (.slice a 0 cap))) K;rw[this];exact B _ _ _ _ H ab ab
 ·obtain⟨M,A,aB,bG,cs,eR,rfl,aY,h1,ao⟩:=W e;have au:=zY.2 e;have TN:m.length<=m.length*k:=Cx _ g;have P:l.length+m.length<=1000000:=iv (Cx _ g) I;have V:(Nat.ble (Nat.mul (Nat.add l.length m.length) k) 1000000&&Nat.ble (Nat.add l.length m.length) 1000000)=true:=by
   simp only[eo,pK]
   grind
  have E:Nat.ble (Nat.add l.length m.length) l.length=false:=by
   cases Z:Nat.ble (Nat.add l.length m.length) l.length with
   |false=>rfl
   |true=>have:=lX Z;grind
  have bc:∀{f:aa X->R fr},lr h (some ⟨M,A,aB⟩) (m.length.mul k) f=f (a7 enc m):=λ{f}=>by
   rw[rD aY ab ab]
   grind
  rcases H with⟨rfl,rfl,rfl⟩|⟨b,rfl,rfl,ta⟩
  ·have:dM k h U (.slice none 0 0) (.slice (some ⟨M,A,aB⟩) m.length cap) = .ok (.val (.slice (some ⟨U,0,some k⟩) (0+m.length) (0+m.length)) (T h U (.cells (a7 enc m) false)) (U+1)):=by show lr h (some ⟨M,A,aB⟩) (m.length.mul k) (λnew=>gZ k h U none 0 0 m.length new)=_;rw[bc];unfold gZ;have E:Nat.ble (Nat.add 0 m.length) 0=false:=E;have V:(Nat.ble (Nat.mul (Nat.add 0 m.length) k) 1000000&&Nat.ble (Nat.add 0 m.length) 1000000)=true:=V;rw[E,V];exact pN g
   rw[this];exact B _ _ _ _ (.inr ⟨U,rfl,ab,ab⟩) ab ab
  ·have:dM k h U (.slice (some ⟨b,0,some k⟩) l.length l.length) (.slice (some ⟨M,A,aB⟩) m.length cap) = .ok (.val (.slice (some ⟨U,0,some k⟩) (l.length+m.length) (l.length+m.length)) (T (wZ h b) U (.cells (a7 enc l++a7 enc m) false)) (U+1)):=by
    show lr h (some ⟨M,A,aB⟩) (m.length.mul k) (λnew=>gZ k h U (some ⟨b,0,some k⟩) l.length l.length m.length new)=_;rw[bc];unfold gZ;rw[E,V];show pU h U k (some ⟨b,0,some k⟩) l.length l.length (l.length+m.length) (a7 enc m)=_;unfold pU;simp only[uT ta];have D:m8 (Nat.mul l.length k) (mY (a7 enc l) 0)=some (a7 enc l):=by rw[rA,oe,qG,if_pos (by rw[fN hk];grind)];rw[o2 (by rw[fN hk];grind)]
    rw[D];have Uz:d4 (a7 enc m)=true:=by
     clear bc V E I P TN au ao h1 B e W
     induction m with
     |nil=>rfl
     |cons x m eS =>
      have:∀a b:aa X,d4 a=true->d4 b=true->d4 (a++b)=true:=λa=>by
       induction a with
       |nil=>grind
       |cons y a TQ =>
        intro b dR Z;rw[ry,eo]at dR;show d4 (y::(a++b))=true;rw[ry,eo]
        grind
      exact this _ _ ab eS
    have cc:(!false&&Nat.beq 0 0&&Nat.beq (jo (a7 enc l)) (Nat.mul l.length k)&&Nat.beq k k&&Nat.beq l.length l.length&&d4 (a7 enc m))=true:=by rw[oi,fN hk,Uz];simp
    show(bif _ then _ else _)=_;rw[cc,jK];exact pN g
   rw[this];exact B _ _ _ _ (.inr ⟨U,rfl,ab,by rw[aR,Ag]⟩) ab λc a1 Z=>by rw[aq a1,mG,if_neg λe=>Z (by rw[e])]
theorem atv{az:Type}{enc:az->aa X}{k:Nat}(hk:∀x,(enc x).length=k)(g:∀x,d4 (enc x)=true)(E:0<k){h:ae}{U ap ag:Nat}{v:X}{l m:aa az}(H:eb h v enc k l ap ag)(W:ep h U w enc k m)(sY:ap<=U)(Z:ag<=U)(B:(l.length+m.length)*k<=1000000)(h8:∀D ac Y,eb ac D enc k (l++m) ap Y->(∀c,c<ap\/ag<=c/\c<U->u ac c=u h c)->U<=Y->K D ac Y):dG (dO (dM k h U v w)) K:=by
 obtain⟨o,P,gM⟩:∃o,zp h enc k v l o/\∀b,o=some b->ap<=b/\b<ag:=by
  rcases H with⟨A,I⟩|⟨b,dL,b3,e,V⟩
  ·exact⟨none,.inl ab,ab⟩
  ·exact⟨some b,.inr ⟨b,rfl,e,V⟩,ab⟩
 refine QJ hk g E P W B λD ac Y aX G e f=>h8 _ _ _ ?_ ab J;rcases G with⟨A,I,_⟩|⟨b,A,I,M⟩
 ·exact .inl ab
 ·subst A;refine .inr ⟨b,?_,?_,I,M⟩
  all_goals grind
def PlJ(dq:X)(l:aa (Nat × Int))(ap:Nat)(au:ae)(m:Nat)(aF:aa X)(ac:ae)(Y:Nat):Prop :=
 ∃i o,m=l.length-i/\i<=l.length/\aF=[o,dq,(l.length:X),(i:X)]/\eb ac o c4 1 ((l.take i).map λp=>(p.1:Int)) ap Y/\aA ap au ac/\ap<=Y
theorem XC{s:al}{n:Nat}{v:X}{x:Nat->aw Int}{h:ae}{U:Nat}(aI:j2 h U v n x)(bw:n<=4096):
  aE Q s 389 [v] h U (λr ac Y=>eJ ac U Y r c4 ((bj n x).map λp=>(p.1:Int))/\aA U h ac/\U<=Y):=by
 refine alQ ?_;have V:=aI;obtain⟨gB,rfl,ar⟩:=aI;obtain⟨bg,cap,rfl,P⟩:=id ar;have fO:=ms n x;have b4:∀{o},aA U h (T h U o):=aM
 unfold aap;refine aG ?_;refine(Kp (V.F b4 J) bw).mono ?_;rintro _ h1 a5 ⟨rfl,I,fi⟩;have cM:=b4.trans I J;have Z:=ar.F cM (Y:=a5) J;refine aG ?_;refine bE.mk (PlJ (.slice bg (bj n x).length cap) (bj n x) a5 h1) (bj n x).length ⟨0,_,J,J,rfl,.inl ab,aM,J⟩ ?_;rintro _ _ ao bQ ⟨i,o,rfl,ag,rfl,D,A,g⟩;rw[ajW];unfold Xz;refine aG ?_;refine⟨λcb=>?_,λeG=>?_⟩
 ·obtain⟨⟨k,y⟩,ck⟩:=dH   J;obtain⟨b,aX,aB,bG,cs,j4,aW,B,aY,iQ⟩:=(Z.F A g).ld (λ_=>rfl) ck;cases B;refine cN @aY @iQ ?_;rw[show fF (k,y)=[(k:X),(y:X)]from rfl];refine aG ?_;refine mu  (k:=1)  (λ_=>rfl) (λ_=>rfl) J (D.F ab J) J (k:Int) (aR _ _ _) rfl ab λdX bY M E=>?_;refine bl (cD (J:i<1000000000000)) ?_;refine⟨_,?_,i+1,_,rfl,J,rfl,?_,λc P=>?_,J⟩
  ·omega
  ·rw[gW,ck];simpa using M
  ·rw[E c P,aq J,aq J,aq J];exact A c P
 ·have:i=(bj n x).length:=J
  subst this;rw[ic]at D;refine⟨?_,aM,J⟩;rcases D with⟨B,rfl⟩|⟨b,h1,ao,rfl,aY⟩
  ·exact⟨_,_,by rw[B];rfl,λeh=>absurd B eh⟩
  ·exact⟨_,_,rfl,λ_=>⟨b,_,_,J,J,rfl,aY⟩⟩
def yD(p:Nat × X):aa X:=[(p.1:X),p.2]
theorem alZ{s:al}{h:ae}{U:Nat}(A:u h cQ=some (.cells [(a:X)] bG))(g:cQ<U)(D:a<=5000)(E:p.1<=5000):
  aE Q s 446 [.agg ⟨fF p⟩,bf cQ] h U (dI (.agg ⟨fF (sb a p)⟩) U h):=by
 refine apj ?_;unfold acD fF sb;have B:IntKind.wrap .i64 ((a:Int)+(p.1:Int))=((a+p.1:Nat):Int):=by rw[<-wm];exact ie _ J
 refine cN @A @B ?_;exact⟨rfl,aM,J⟩
structure AJ (h:ae) (U:Nat) (v:X) (ap:Nat->Nat) (m:Nat) (x:Nat->aw Int):Prop where
 ex:∃L:aa (Nat × X),L.length=m/\ep h U v yD 2 L/\∀i p,L[i]? = some p->p.1=ap (i+1)-ap i/\ep h U p.2 fF 2 (bj p.1 λk=>x (ap i+k))
 mono:∀i,ap i<=ap (i+1)
 le:ap m<=4096
theorem AJ.F{h ac:ae}{U Y m:Nat}{v:X}{ap:Nat->Nat}{x:Nat->aw Int}(H:AJ h U v ap m x)(A:aA U h ac)(g:U<=Y):AJ ac Y v ap m x:=by obtain⟨⟨L,D,M,B⟩,I,E⟩:=H;exact⟨⟨L,D,M.F A g,λi p P=>⟨ab,(B i p P).2.F A g⟩⟩,I,E⟩
theorem QK{ap:Nat->Nat}(h:∀i,ap i<=ap (i+1)){i:Nat}(g:i<=j):ap i<=ap j:=by
 induction j with
 |zero=>grind
 |succ j A =>
  grind
def GlJ(cr cQ:Nat)(v:X)(ap:Nat->Nat)(n:Nat)(x:Nat->aw Int)(a0:Nat)(au:ae)(U:Nat)(m:Nat)(aF:aa X)(ac:ae)(Y:Nat):Prop :=
 ∃i w,m=n-i/\i<=n/\aF=[bf cr,.int .i64 0,bf cQ,v,(n:X),(i:X)]/\u ac cr=some (.cells [.int .i64 0,.slice none 0 0] false)/\u ac cQ=some (.cells [((ap i-ap 0:Nat):X),w] false) /\
  eb ac w fF 2 (bj (ap i-ap 0) λk=>x (ap 0+k)) a0 Y/\aA U au ac/\a0<=Y
theorem aps{s:al}{v:X}{ap:Nat->Nat}{x:Nat->aw Int}{h:ae}{U:Nat}(H:AJ h U v ap m x)(hm:m<=1000):
  aE Q s 387 [v] h U (λr ac Y=>∃w,r = .tuple ⟨[w,.int .i64 0]⟩/\p6 ac U Y w (ap m-ap 0) (λk=>x (ap 0+k))/\aA U h ac/\U<=Y):=by
 refine atl ?_;obtain⟨⟨L,rfl,ar,fJ⟩,A,g5⟩:=H;obtain⟨bg,cap,rfl⟩:=ar.form;have b4:∀{o aX},aA U h (T (T h U o) (U+1) aX):=aM
 unfold aeP;refine aG ?_;refine bE.mk (GlJ U (U+1) (.slice bg L.length cap) ap L.length x (U+2) h U) L.length ⟨0,.slice none 0 0,J,J,rfl,ab,ab,.inl ⟨by rw[CG];rfl,rfl⟩,b4,J⟩ ?_;rintro _ _ Z B ⟨i,w,rfl,ag,rfl,bP,dZ,dV,P,fi⟩;have aCr:ap 0<=ap i:=QK A J;rw[apg];unfold aao;obtain⟨ny,oW,rfl⟩:∃a c,w = .slice a (bj (ap i-ap 0) λk=>x (ap 0+k)).length c:=by
  rcases dV with⟨e,rfl⟩|⟨b,_,_,rfl,_⟩
  all_goals grind
 refine aG ?_;refine⟨λcb=>?_,λeG=>?_⟩
 ·obtain⟨⟨n,gB⟩,ck⟩:=dH   J;obtain⟨bw,I⟩:=fJ i _ ck;have I:ep h U gB fF 2 (bj n λk=>x (ap i+k)):=I;have ayN:ap (i+1)<=ap L.length:=QK A J;have hms:=A i;obtain⟨dq,e6,rfl⟩:=I.form;obtain⟨b,aX,aB,bG,cs,j4,aW,aU,aY,iQ⟩:=(ar.F P (Y:=B) J).ld (λ_=>rfl) ck;cases aU;refine cN @aY @iQ ?_;rw[show yD (n,.slice dq (bj n λk=>x (ap i+k)).length e6)=[(n:X),.slice dq (bj n λk=>x (ap i+k)).length e6]from rfl];have cM:∀{o aX ll gn},aA U h (T (T (T (T Z B o) B aX) (B+1) ll) (B+1) gn):=(((P.set J).set J).set J).set J;refine bl @dZ ?_;refine(aax   ⟨_,rfl,I.F cM  J⟩ J (λp cy n6 a6 g kN=>alZ ((g (B+1) J).trans (aR _ _ _)) J J (by have:=(j0.1 a6).1;omega))).mono ?_;rintro _ cy n6 ⟨aC5,rfl,hw6,g,kN⟩;have D:=g (U+1) J;rw[aq J,aq J,aq J,aq J,dZ]at D;have EF:=g U J;rw[aq J,aq J,aq J,aq J,bP]at EF;have M:=g B J;rw[aq J,aq J,aR]at M;obtain⟨bp,hQ,rfl,BQ⟩:=id hw6;have Uy:IntKind.wrap .i64 (4096-((ap i-ap 0:Nat):Int))=((4096-(ap i-ap 0):Nat):Int):=by rw[show(4096:Int)-((ap i-ap 0:Nat):Int)=((4096-(ap i-ap 0):Nat):Int) by omega];exact ie _ J
  have ew7:IntKind.wrap .i64 (((ap i-ap 0:Nat):Int)+(n:Int))=((ap (i+1)-ap 0:Nat):Int):=by rw[show((ap i-ap 0:Nat):Int)+(n:Int)=((ap (i+1)-ap 0:Nat):Int) by omega];exact ie _ J
  refine hV @D @M @Uy ?_;have zH:∀{o},aA U h (T cy B o):=(cM.trans g J).set J;refine⟨λa1=>absurd a1 J,λ_=>?_⟩;have xz:∀{o},eb (T cy B o) (.slice ny (bj (ap i-ap 0) λk=>x (ap 0+k)).length oW) fF 2 (bj (ap i-ap 0) λk=>x (ap 0+k)) (U+2) B:=λ{o}=>dV.F (λc Z ao=>by rw[aq J,g c J,aq J,aq J,aq J,aq J]) J;have dK:=ms (ap i-ap 0) λk=>x (ap 0+k);have dr:=ms n λk=>x (ap i+k);refine atv  (k:=2) (λ_=>rfl) (λ_=>rfl) J  xz (cL.o (λ_=>rfl) (hw6.F   (λb Z ao=>aq J) (cC _) (cC _)).rd) J J ab λdX eD n7 V E tY=>?_;have mD:ap (i+1)-ap 0=(ap i-ap 0)+n:=J
  have Ci:(bj (ap i-ap 0) λk=>x (ap 0+k))++(bj n λk=>x (ap i+k)).map (sb (ap i-ap 0))=bj (ap (i+1)-ap 0) λk=>x (ap 0+k):=by
   rw[mD,ye]
   congr 2
   exact ym λk _=>by congr 1;omega
  rw[Ci]at V;obtain⟨v7a,v7c,rfl⟩:∃a c,dX = .slice a (bj (ap (i+1)-ap 0) λk=>x (ap 0+k)).length c:=by
   rcases V with⟨e,rfl⟩|⟨b,_,_,rfl,_⟩
   all_goals grind
  have g47:=(E (U+1) (.inl J)).trans (aq J);rw[D]at g47;have g17:=(E U (.inl J)).trans (aq J);rw[EF]at g17;have aAx:=(E B (.inr J)).trans (aR _ _ _);refine⟨J,?_⟩;refine tO @g47 @D @aAx @ew7 (cD (J:i<1000000000000)) ?_;refine⟨_,?_,i+1,_,rfl,J,rfl,ab,aR _ _ _,V.F (λc Z ao=>aq J) J,λc a1=>?_,J⟩
  ·omega
  ·rw[aq J,E c (.inl J)];exact zH c a1
 ·have:i=L.length:=J
  subst this;refine cN @dZ @bP ?_;exact⟨_,rfl,⟨_,rfl,(eb.f dV).F (λc Z ao=>aq J) J (cC _)⟩,P.set J,J⟩
def QL(s:al)(K:bN)(di ee ev fv hY lE s7:X)(au:ae)(a0:Nat):Prop:=br s7 (af (cV [(ad 0),ay] []) λa=>af (aS au 2 lE a) λb=>aN 2 b lE λc=>K (.tuple ⟨[c,(ad 3)]⟩) b a0) (bS au ev λd=>af (.ok (.func (.func 315) ⟨[]⟩ ⟨[ee,ev,fv,hY]⟩)) λe=>aV s 314 [di,d,e] au a0 λf g i=>af (cp f 0) λj=>af (cp f 1) λk=>af (aS g 2 lE j) λl=>aN 2 l lE λm=>K (.tuple ⟨[m,k]⟩) l i)
def agt:xO:=λs ah t1 t2 t3 f1 h U K=>bH ah h U λa b c=>bH t1 b c λd e f=>bH t2 e f λg i j=>bH t3 i j λk l m=>bX [(ad 0),ay] l m λn o p=>bS o a λq=>aV s 313 [q] o p λr t aO=>af (du .not r) λv=>br v (QL s K f1 a d g k n (.bool true) t aO) (bS t d λw=>bS t g λx=>bS t k λy=>aV s 202 [w,x,(ad 0),y] t aO λz bC bV=>af (du .not z) λbM=>(QL s K f1 a d g k n bM bC bV))
theorem awg:zG 223 agt:=BH []
def aeX:cO:=λs ah t1 h U K=>bz .eql 40 ah (ad 2) (K (ad 1) h U) (bz .eql 40 ah (ad 4) (K (ad 5) h U) (bz .eql 40 ah (ad 5) (bt .and 3 t1 (ad 1) λd=>bz .eql 3 d (ad 0) (K (ad 2) h U) (K (ad 4) h U)) (bz .eql 40 ah (ad 1) (K (ad 4) h U) (bz .eql 40 ah (ad 3) (K (ad 4) h U) (K (ad 0) h U)))))
theorem atw:cX 225 aeX:=cZ []
def aaz:cU:=λs ah h U K=>bz .geq 3 ah (ad 0) (bt .leq 3 ah (ad 4096) λb=>K b h U) (K (.bool false) h U)
theorem al2:cW 313 aaz:=cY []
def PD:aa (aa Nat):=[[0,2,6,7,15,16,17]]
def YG(s:al)(aC a2 bp ba jd hg kR:X)(h:ae)(U:Nat)(N:aP)(aL:aP)(R:aP):Prop:=cG kR hg (gT 2 h 2 jd kR λc=>bX [(ad 0),ay] h U λd e f=>af (aS e 2 d c) λg=>aN 2 g d λi=>cg 312 [i] g f λj k l=>af (du .not j) λm=>br m (af (cV [(ad 0),ay] []) λn=>af (aS k 2 bp n) λo=>R [aC,a2,bp,(ad 4),jd,hg,kR] o l) (eQ Q true (hU k l [kR] a2) λp q r=>l<=r/\bn 0 d λt=>bS q t λaO=>c7 t aO (bz .neq 3 aO p (af (cV [(ad 0),ay] []) λw=>af (aS q 2 bp w) λx=>R [aC,a2,bp,(ad 4),jd,hg,kR] x r) (cj kR λy=>N [aC,a2,bp,ba,jd,hg,y] q r)) 1 [k,g])) (aL [aC,a2,bp,ba,jd,hg,kR] h U)
def acJ:ge:=λs ah t1 t2 h U K=>bX [(ad 0),ay] h U λa b c=>cP ah λd=>bz .neq 3 d t1 (af (cV [(ad 0),ay] []) λf=>af (aS b 2 a f) λg=>aN 2 g a λi=>K (.tuple ⟨[i,(ad 4)]⟩) g c) (cP ah λj=>bE (bU Q s PD 314 0) [ah,t2,a,(ad 0),ah,j,(ad 0)] b c [(0,λk l m=>aV s 387 [(bb k 0)] l m λn o p=>af (cp n 0) λq=>af (cp n 1) λr=>af (aS o 2 (bb k 2) q) λt=>aN 2 t (bb k 2) λaO=>K (.tuple ⟨[aO,r]⟩) t p)] (λv w x=>aN 2 w (bb v 2) λy=>K (.tuple ⟨[y,(bb v 3)]⟩) w x))
theorem al3{s:al}{D g B A:X}{h:ae}{U:Nat}{R:aP}:bU Q s PD 314 0 [D,a2,bp,ba,g,B,A] h U N [(0,aL)] R=YG s D a2 bp ba g B A h U N aL R:=by kernel_rfl
theorem apt:gp 314 acJ:=gu PD
def aeY:xO:=λs ah t1 t2 t3 f1 h U K=>bS h t1 λa=>bS h t2 λb=>cg 204 [a,b,ah] h U λc d e=>bS d t1 λf=>c7 t1 f (bS d t3 λg=>c7 t3 g (bS d f1 λi=>c7 f1 i (cg 204 [f,g,i] d e λj k l=>cg 316 [c,j] k l λm n o=>bX [(ad 0),(ad 0)] n o λp q r=>af (aS q 2 p m) λt=>af (iy (.array 2 1) p (ad 1)) λaO=>bS t aO λv=>af (iy (.array 2 1) p (ad 0)) λw=>bS t w λx=>bt .sub 3 v x λy=>K y t r) 1 [h]) 1 [h]) 1 [h]
theorem atx:zG 315 aeY:=BH []
def aaA:cO:=λs ah t1 h U K=>bH ah h U λa b c=>bH t1 b c λd e f=>bX [(ad 0),(ad 0)] e f λg i j=>af (iy (.array 2 1) a (ad 0)) λk=>bS i k λl=>af (iy (.array 2 1) d (ad 0)) λm=>bS i m λn=>af (min2 false l n) λo=>af (iy (.array 2 1) a (ad 1)) λp=>bS i p λq=>af (iy (.array 2 1) d (ad 1)) λr=>bS i r λt=>af (min2 true q t) λaO=>af (min2 false o aO) λv=>af (cV [(ad 0),(ad 0)] [(0,1,o),(1,1,v)]) λw=>af (aS i 2 g w) λx=>aN 2 x g λy=>K y x j
theorem al4:cX 316 aaA:=cZ []
def PE:aa (aa Nat):=[[4,8,9,22,23,24]]
def YH(s:al)(aZ bv cF eL kc fW:X)(h:ae)(U:Nat)(N:aP)(aU:aP)(R:aP):Prop:=cG fW kc (d2 h 1 eL fW λc=>bz .eql 2 c bv (dY (fc 1 [(ad 0)] [(0,1,fW)]) h U λe f g=>dG (dO (dM 1 f g cF e)) λi j k=>cj fW λl=>N [aZ,bv,i,eL,kc,l] j k) (cj fW λm=>N [aZ,bv,cF,eL,kc,m] h U)) (aU [aZ,bv,cF,eL,kc,fW] h U)
def J3(s:al)(K:bN)(di hY:X)(au:ae)(a0:Nat):Prop:=ax au 2 di λb=>cP b λc=>bE (bU Q s PE 331 0) [di,hY,ay,b,c,(ad 0)] au a0 [(1,λd e f=>ax e 1 (bb d 0) λi=>ax e 0 (bb d 0) λk=>bt .sub 3 i k λl=>aV s 108 [l,(bb d 2)] e f λm n o=>K (.tuple ⟨[m,(.bool false)]⟩) n o)] (λ_ _ _=>False)
def acK:ge:=λs ah t1 t2 h U K=>bH ah h U λa b c=>bH t1 b c λd e f=>aN 5 e a λg=>aN 5 e d λi=>aV s 299 [g,i] e f λj k l=>af (aS k 5 d j) λm=>ax m 0 a λo=>bz .eql 40 o (ad 1) (J3 s K d (ad (-1)) m l) (bz .eql 40 o (ad 5) (J3 s K d (ad 0) m l) (K (.tuple ⟨[ay,(.bool true)]⟩) m l))
theorem al5{s:al}{A B g fW:X}{h:ae}{U:Nat}{D R:aP}:bU Q s PE 331 0 [aZ,A,B,eL,g,fW] h U N [(1,D)] R=YH s aZ A B eL g fW h U N D R:=by kernel_rfl
theorem apu:gp 331 acK:=gu PE
def Ot(s:al)(K:bN)(di ee ev fv hY oY Ih:X)(au:ae)(a0:Nat):Prop:=br Ih (ax au 2 ee λb=>cg 88 [b] au a0 λc d e=>bn 3 ee λf=>bS d f λg=>c7 f g (cg 88 [g] d e λi j k=>bn 4 ee λl=>bS j l λm=>c7 l m (cg 139 [m] j k λn o p=>bn 0 ee λq=>bS o q λr=>c7 q r (bn 1 ee λt=>bS o t λaO=>c7 t aO (af (cV [(ad 0),(ad 0),ay,ay,ay] [(0,1,r),(1,1,aO),(2,1,c),(3,1,i),(4,1,n)]) λv=>af (aS o 5 hY v) λw=>aN 5 w hY λx=>K x w p) 3 [j,d,au]) 3 [j,d,au]) 2 [d,au]) 1 [au]) (aN 5 au ee λy=>af (.ok (.func (.func 400) ⟨[]⟩ ⟨[fv,di,ee,ev]⟩)) λz=>aV s 208 [y,oY,z] au a0 λbC bV bM=>af (aS bV 5 hY bC) λbg=>aN 5 bg hY λbW=>K bW bg bM)
def aaB:sr:=λs ah t1 t2 t3 h U K=>bH ah h U λa b c=>bH t1 b c λd e f=>bH t2 e f λg i j=>bH t3 i j λk l m=>bX [(ad 0),(ad 0),ay,ay,ay] l m λn o p=>aN 5 o a λq=>aN 5 o d λr=>aV s 299 [q,r] o p λt aO v=>af (aS aO 5 d t) λw=>ax w 1 d λy=>ax w 0 d λbC=>bt .sub 3 y bC λbV=>aN 2 w k λbM=>aV s 312 [bM] w v λbg bW b7=>af (du .not bg) λbI=>br bI (Ot s K a d g k n bV (.bool true) bW b7) (ax bW 0 k λcB=>bt .neq 3 cB bV λds=>(Ot s K a d g k n bV ds bW b7))
theorem al6:uC 336 aaB:=vK []
def RO:aa (aa Nat):=[[2,3,4,6,7,21,22]]
def acL(s:al)(a2 a3 aZ bp ba iO eL:X)(h:ae)(U:Nat)(N:aP)(aL:aP)(R:aP):Prop:=cG eL iO (aN 5 h a3 λb=>aN 5 h aZ λc=>aV s 403 [b,c,a2,eL] h U λd e f=>af (cp d 0) λg=>af (cp d 1) λi=>br i (ax e 1 ba λk=>af (cV [(ad 0),(ad 0)] [(0,1,eL),(1,1,g)]) λl=>dY (fc 1 [(ad 0),(ad 0)] [(0,2,l)]) e f λm n o=>dG (dO (dM 2 n o k m)) λp q r=>bn 1 ba λt=>af (aS q 1 t p) λaO=>cj eL λv=>N [a2,a3,aZ,bp,ba,iO,v] aO r) (cj eL λw=>N [a2,a3,aZ,bp,ba,iO,w] e f)) (aL [a2,a3,aZ,bp,ba,iO,eL] h U)
def agu:ge:=λs ah t1 t2 h U K=>bH ah h U λa b c=>bH t1 b c λd e f=>bX [(ad 0),ay] e f λg i j=>aN 5 i a λk=>aN 5 i d λl=>aV s 299 [k,l] i j λm n o=>af (aS n 5 d m) λp=>ax p 1 d λr=>ax p 0 d λaO=>bt .sub 3 r aO λv=>af (cV [(ad 0),ay] [(0,1,v)]) λw=>bX [(ad 0),ay] p o λx y z=>af (aS y 2 x w) λbC=>ax bC 0 x λbM=>bE (bU Q s RO 337 0) [t2,a,d,g,x,bM,(ad 0)] bC z [(0,λbg bW b7=>aN 2 bW (bb bg 4) λbI=>af (aS bW 2 (bb bg 3) bI) λcJ=>aN 2 cJ (bb bg 3) λcB=>K cB cJ b7)] (λ_ _ _=>False)
theorem aty{s:al}{A g:X}{h:ae}{U:Nat}{R:aP}:bU Q s RO 337 0 [a2,A,aZ,bp,ba,g,eL] h U N [(0,aL)] R=acL s a2 A aZ bp ba g eL h U N aL R:=by kernel_rfl
theorem awh:gp 337 agu:=gu RO
def FX(s:al)(K:bN)(cz cE cm di ee ev s6 MC:X)(au:ae)(a0:Nat):Prop:=br MC (af (cV [(ad 0),ay] []) λa=>af (aS au 2 s6 a) λb=>aN 2 b s6 λc=>K c b a0) (aV s 204 [cz,cE,di] au a0 λd e f=>bX [(ad 0),(ad 0)] e f λg i j=>af (aS i 2 g d) λk=>cg 204 [cz,cm,ee] k j λl m n=>aN 2 m g λo=>jt 2 g o (cg 316 [o,l] m n λp q r=>bX [(ad 0),(ad 0)] q r λt aO v=>af (aS aO 2 t p) λw=>aN 2 w ev λx=>af (iy (.array 2 1) t (ad 0)) λy=>bS w y λz=>af (iy (.array 2 1) g (ad 0)) λbC=>bS w bC λbV=>bt .sub 3 z bV λbM=>af (iy (.array 2 1) t (ad 1)) λbg=>bS w bg λbW=>af (iy (.array 2 1) g (ad 0)) λb7=>bS w b7 λbI=>bt .sub 3 bW bI λcJ=>aV s 405 [x,bM,cJ] w v λcB ds de=>af (aS ds 2 s6 cB) λeN=>aN 2 eN s6 λam=>K am eN de) 1 [k])
def acM:Np:=λs ah t1 t2 t3 f1 tm h U K=>bH ah h U λa b c=>bX [(ad 0),ay] b c λd e f=>cg 313 [t1] e f λg i j=>af (du .not g) λk=>br k (FX s K t1 t2 t3 f1 tm a d (.bool true) i j) (cg 202 [t2,t3,f1,tm] i j λl m n=>af (du .not l) λo=>br o (FX s K t1 t2 t3 f1 tm a d (.bool true) m n) (aN 2 m a λp=>cg 312 [p] m n λq r t=>af (du .not q) λaO=>br aO (FX s K t1 t2 t3 f1 tm a d (.bool true) r t) (cg 404 [t1,t2,f1] r t λv w x=>bn 0 a λy=>bS w y λz=>c7 y z (bt .neq 3 z v λbC=>(FX s K t1 t2 t3 f1 tm a d bC w x)) 1 [r,m,i,e])))
theorem apv:VK 338 acM:=zf6 []
def YI:xO:=λs ah t1 t2 t3 f1 h U K=>aN 2 h t1 λa=>aV s 401 [a,ah] h U λb c d=>af (cp b 0) λe=>af (cp b 1) λf=>aN 5 c t2 λg=>aN 5 c t3 λi=>bS c f1 λj=>aV s 402 [g,i,j,ah,e,f] c d λk l m=>af (cp k 0) λn=>af (cp k 1) λo=>af (cp k 2) λp=>K (.tuple ⟨[n,o,p]⟩) l m
theorem aj2:zG 400 YI:=BH []
def ty(s:al)(K:bN)(sc pv:X)(au:ae)(a0:Nat):Prop:=K (.tuple ⟨[sc,pv,(.bool false)]⟩) au a0
def Ou(s:al)(K:bN)(cE cm di ee ev fv sc pv y60:X)(au:ae)(a0:Nat):Prop:=br y60 (K (.tuple ⟨[(ad 2),pv,(.bool false)]⟩) au a0) (bt .and 3 cE (ad 1) λa=>bz .eql 3 a (ad 1) (af (du .not ee) λc=>br c (K (.tuple ⟨[(ad 1),pv,(.bool true)]⟩) au a0) (cg 459 [cE] au a0 λd e f=>aN 5 e ev λg=>jt 5 ev g (bn 0 fv λi=>bS e i λj=>c7 i j (ln j cm λk=>cg 368 [g,d,k] e f λl m n=>bz .gtr 2 di l (K (.tuple ⟨[(ad 1),pv,(.bool true)]⟩) m n) (ty s K sc pv m n)) 1 [au]) 1 [au])) (ty s K sc pv au a0))
def FN(s:al)(K:bN)(cE cm di ee ev fv sc pv y28 Uv:X)(au:ae)(a0:Nat):Prop:=br Uv (br ee (bz .lss 2 di sc (K (.tuple ⟨[di,pv,(.bool true)]⟩) au a0) (ty s K sc pv au a0)) (ty s K sc pv au a0)) (bz .eql 40 y28 (ad 4) (bt .neq 2 di (ad 0) λc=>K (.tuple ⟨[di,pv,c]⟩) au a0) (bz .eql 40 y28 (ad 5) (bz .neq 2 sc (ad 0) (ty s K sc pv au a0) (bt .and 3 cE (ad 1) λf=>bz .eql 3 f (ad 0) (Ou s K cE cm di ee ev fv sc pv ee au a0) (Ou s K cE cm di ee ev fv sc pv (.bool false) au a0))) (ty s K sc pv au a0)))
def aaC:Np:=λs ah t1 t2 t3 f1 tm h U K=>bH ah h U λa b c=>bH t1 b c λd e f=>ax e 2 d λi=>d2 e 1 i t3 λk=>ax e 3 d λm=>d2 e 1 m t3 λo=>ax e 0 a λq=>bz .eql 40 q (ad 1) (br tm (bz .eql 2 k (ad (-1)) (K (.tuple ⟨[t2,f1,(.bool true)]⟩) e f) (ty s K k o e f)) (ty s K k o e f)) (bz .eql 40 q (ad 2) (FN s K t2 t3 f1 tm a d k o q (.bool true) e f) (bt .eql 40 q (ad 3) λv=>(FN s K t2 t3 f1 tm a d k o q v e f)))
theorem al7:VK 402 aaC:=zf6 []
def acN:sr:=λs ah t1 t2 t3 h U K=>bH ah h U λa b c=>bH t1 b c λd e f=>ax e 4 d λi=>aV s 334 [i,t3] e f λj k l=>ax k 0 a λn=>bz .eql 40 n (ad 1) (ax k 0 d λq=>ln q t3 λr=>K (.tuple ⟨[r,j]⟩) k l) (bz .eql 40 n (ad 5) (bt .and 3 t2 (ad 1) λaO=>bz .eql 3 aO (ad 0) (K (.tuple ⟨[(ad 1),j]⟩) k l) (cg 459 [t2] k l λw x y=>aN 5 x a λz=>jt 5 a z (bn 0 d λbC=>bS x bC λbV=>c7 bC bV (ln bV t3 λbM=>cg 368 [z,w,bM] x y λbg bW b7=>bn 2 d λbI=>bS bW bI λcJ=>c7 bI cJ (hx 1 cJ t3 λcB=>bS bW cB λds=>c7 cB ds (bt .eql 2 ds (ad 0) λde=>K (.tuple ⟨[bg,de]⟩) bW b7) 2 [x,k]) 2 [x,k]) 1 [k]) 1 [k])) (ax k 2 d λam=>d2 k 1 am t3 λeU=>K (.tuple ⟨[eU,j]⟩) k l))
theorem apw:uC 403 acN:=vK []
def aeZ:cU:=λs ah h U K=>bt .sub 3 ah (ad 1) λa=>bt .shr 3 a (.int .u64 1) λb=>K b h U
theorem atz:cW 459 aeZ:=cY []
def jz(a c d:Nat):Nat:=min (max a c) d
theorem XD{s:al}{n:Nat}{h:ae}{U:Nat}(A:n<=4096):aE Q s 313 [(n:X)] h U (fs (.bool true) U h):=by
 refine al2 ?_;unfold aaz;refine aG ?_;refine⟨λ_=>⟨?_,rfl,rfl⟩,λg=>absurd g J⟩
 grind
theorem XE{s:al}{g B A D:Nat}{h:ae}{U:Nat}:aE Q s 316 [.agg ⟨[(g:X),(B:X)]⟩,.agg ⟨[(A:X),(D:X)]⟩] h U (dI (.agg ⟨[((max g A:Nat):X),((max (max g A) (min B D):Nat):X)]⟩) U h):=by
 refine al4 ?_;unfold aaA;have I:max (g:Int) (A:Int)=((max g A:Nat):Int):=J
 have M:min (B:Int) (D:Int)=((min B D:Nat):Int):=J
 have E:max ((max g A:Nat):Int) ((min B D:Nat):Int)=((max (max g A) (min B D):Nat):Int):=J
 refine hV @I @M @E ?_;exact⟨rfl,aM,J⟩
theorem apx{s:al}{n k i:Nat}{h:ae}{U:Nat}(D:n<=4096)(B:0<k)(g:k<=8)(ag:i<k):aE Q s 404 [(n:X),(k:X),(i:X)] h U (fs (((da n k (i+1)-da n k i:Nat):X)) U h):=by
 refine atn ?_;unfold aeR;refine bl (cD (J:i<1000000000000)) ?_;refine⟨λA=>absurd A J,λ_=>⟨λA=>absurd A J,λ_=>?_⟩⟩;refine(u9 D B g J).mono ?_;rintro _ _ _ ⟨rfl,rfl,rfl⟩;refine(u9 D B g J).mono ?_;rintro _ _ _ ⟨rfl,rfl,rfl⟩;have M:da n k i<=da n k (i+1):=uY J;have I:=tE (n:=n) B (i+1);have E:IntKind.wrap .i64 ((da n k (i+1):Int)-(da n k i:Int))=((da n k (i+1)-da n k i:Nat):Int):=by rw[show(da n k (i+1):Int)-(da n k i:Int)=((da n k (i+1)-da n k i:Nat):Int) by omega];exact ie _ J
 refine bl @E ?_;exact⟨rfl,rfl,rfl⟩
theorem al8{s:al}{n i ap:Nat}{v:X}{x:Nat->aw Int}{h:ae}{U:Nat}(bw:n<=4096)(ef:0<R)(B:R<=8)(d0:0<C)(M:C<=8)(ag:i<R)(b5:j<C)(aI:p6 h ap U v (da n R (i+1)-da n R i) (λk=>x (da n R i+k))):
  aE Q s 338 [v,(n:X),(R:X),(C:X),(i:X),(j:X)] h U (λr ac Y =>
   lv ac U Y r (jz (da n R (i+1)) (da n C j) (da n C (j+1))-jz (da n R i) (da n C j) (da n C (j+1))) (λk=>x (jz (da n R i) (da n C j) (da n C (j+1))+k))/\aA U h ac/\U<=Y):=by
 refine apv ?_;have ih:=aI;obtain⟨gB,rfl,ar⟩:=aI;obtain⟨bg,cap,rfl⟩:=ar.form;have hmj:da n C j<=da n C (j+1):=uY J;have bo:=tE (n:=n) ef (i+1);have hlj:=tE (n:=n) d0 (j+1);unfold acM;refine aG ?_;refine(XD bw).mono ?_;rintro _ _ _ ⟨rfl,rfl,rfl⟩;refine⟨J,?_⟩;refine aG ?_;refine(Qz ef B d0 M ag b5).mono ?_;rintro _ _ _ ⟨rfl,rfl,rfl⟩;refine⟨J,?_⟩;have b4:∀{o aX},aA U h (T (T h U o) (U+1) aX):=aM
 refine aG ?_;refine(wx (ih.is.F b4  J) J).mono ?_;rintro _ h1 a5 ⟨rfl,P,fi⟩;refine⟨fi,?_⟩;have cH:=P U J;rw[aq J,aR]at cH;have bP:=P (U+1) J;rw[aR]at bP;refine aG ?_;refine(apx bw ef B ag).mono ?_;rintro _ h1 a5 ⟨rfl,rfl,rfl⟩;refine⟨J,?_⟩;simp(disch:=omega)only[bk,cH,ru,seval];unfold FX;refine aG ?_;refine(CR  bw ef B J).mono ?_;rintro _ ao bQ ⟨rfl,dD,f5⟩;refine aG ?_;refine(CR  bw d0 M J).mono ?_;rintro _ aT bT ⟨rfl,E,ga⟩;refine⟨J,?_⟩;have D:=E bQ J;rw[aR]at D;have Z:=E U J;rw[aq J,aq J,dD U J,cH]at Z;have I:=E (U+1) J;rw[aq J,aq J,dD (U+1) J,bP]at I;refine bl @D ?_;refine XE.mono ?_;rintro _ a9 dP ⟨rfl,A,g5⟩;refine⟨J,?_⟩;have g42:=(A bQ J).trans D;have Ux:=(A U J).trans Z;have MM:=(A (U+1) J).trans I;have g1:aA U h a9:=aM
 generalize dR:da n R i=a at *
 generalize Mj:da n R (i+1)=aD at *
 generalize a1:da n C j=c at *
 generalize bh:da n C (j+1)=d at *
 have Uu:IntKind.wrap .i64 (((max a c:Nat):Int)-(a:Int))=((max a c-a:Nat):Int):=by rw[show((max a c:Nat):Int)-(a:Int)=((max a c-a:Nat):Int) by omega];exact ie _ J
 have Is:IntKind.wrap .i64 (((max (max a c) (min aD d):Nat):Int)-(a:Int))=((max (max a c) (min aD d)-a:Nat):Int):=by rw[show((max (max a c) (min aD d):Nat):Int)-(a:Int)=((max (max a c) (min aD d)-a:Nat):Int) by omega];exact ie _ J
 refine ls @Ux @g42 @Uu @Is ?_;have nz:∀{o aX},aA U h (T (T a9 dP o) dP aX):=(g1.set J).set J;refine(apr   (ih.F  (λb _ aW=>nz b aW) (cC _) J) J rfl).mono ?_;rintro r cy n6 ⟨bc,hX,kN⟩;obtain⟨aC5,rfl,g⟩:=bc;obtain⟨ny,oW,rfl,_⟩:=id g;have V:=hX (U+1) J;rw[aq J,aq J,MM]at V;refine bl @V ?_;have es:min (max (max a c) (min aD d)-a) (aD-a)-(max a c-a)=jz aD c d-jz a c d:=by unfold jz;omega
 rw[es]at g ⊢;refine⟨⟨_,rfl,?_⟩,(nz.trans hX J).set J,J⟩;have Cj:(bj (jz aD c d-jz a c d) λk=>x (a+(max a c-a+k)))=bj (jz aD c d-jz a c d) λk=>x (jz a c d+k):=ym λk hk=>by
  congr 1
  unfold jz at hk ⊢;omega
 rw[Cj]at g ⊢;exact g.F (λb h1 ao=>aq J) J J
def GdJ(cr:Nat)(v ki:X)(n:Nat)(au:ae)(U a0:Nat)(m:Nat)(aF:aa X)(ac:ae)(Y:Nat):Prop :=
 ∃i,m=n-i/\i<=n/\aF=[v,ki,bf cr,.int .i64 0,v,(n:X),(i:X)]/\u ac cr=some (.cells [.int .i64 0,.slice none 0 0] false)/\aA U au ac/\a0<=Y
theorem al9{s:al}{v:X}{ap:Nat->Nat}{x:Nat->aw Int}{h:ae}{U:Nat}(H:AJ h U v ap m x)(hm:m<=1000)(bK:∀i I B,i<m->aA U h I->U<=B->aE Q true eA ((i:X)::cs) I B (dI (((ap (i+1)-ap i:Nat):X)) B I)):
  aE Q s 314 [v,(m:X),.func (.func eA) ⟨[]⟩ ⟨cs⟩] h U (λr ac Y=>∃w,r = .tuple ⟨[w,.int .i64 0]⟩/\p6 ac U Y w (ap m-ap 0) (λk=>x (ap 0+k))/\aA U h ac/\U<=Y):=by
 refine apt ?_;have sp:=H;obtain⟨⟨L,rfl,ar,fJ⟩,E,g5⟩:=H;obtain⟨bg,cap,rfl⟩:=ar.form;have b4:∀{o},aA U h (T h U o):=aM
 unfold acJ;simp(disch:=omega)only[bk,ru,seval];refine bE.mk (GdJ U (.slice bg L.length cap) (.func (.func eA) ⟨[]⟩ ⟨cs⟩) L.length h U (U+1)) L.length ⟨0,J,J,rfl,ab,b4,J⟩ ?_;rintro _ _ I B ⟨i,rfl,ag,rfl,bP,M,fi⟩;rw[al3];unfold YG;refine aG ?_;refine⟨λcb=>?_,λeG=>?_⟩
 ·obtain⟨⟨n,gB⟩,ck⟩:=dH   J;obtain⟨bw,A⟩:=fJ i _ ck;have A:ep h U gB fF 2 (bj n λk=>x (ap i+k)):=A;have ayN:ap (i+1)<=ap L.length:=QK E J;obtain⟨dq,e6,rfl⟩:=A.form;obtain⟨b,aX,aB,bG,l3,j4,aW,aU,aY,iQ⟩:=(ar.F M (Y:=B) J).ld (λ_=>rfl) ck;cases aU;refine cN @aY @iQ ?_;rw[show yD (n,.slice dq (bj n λk=>x (ap i+k)).length e6)=[(n:X),.slice dq (bj n λk=>x (ap i+k)).length e6]from rfl];have cM:∀{o aX},aA U h (T (T I B o) B aX):=aM
  refine aG ?_;refine(wx   ⟨_,rfl,A.F cM  J⟩ J).mono ?_;rintro _ ao bQ ⟨rfl,g,D⟩;refine⟨D,?_⟩;have P:=g B J;rw[aR]at P;have um:=g U J;rw[aq J,aq J,bP]at um;refine aG ?_;have er:=cM.trans g J;refine(bK i ao bQ J er J).mono ?_;rintro _ aT bT ⟨rfl,V,Z⟩;refine⟨Z,?_⟩;have dp:=(V B J).trans P;have EE:=(V U J).trans um;refine hV @dp @P (cD (J:i<1000000000000)) ?_;refine⟨λaW=>absurd aW ab,λ_=>?_⟩;refine⟨_,?_,i+1,rfl,J,rfl,EE,aM,J⟩;omega
 ·have:i=L.length:=J
  subst this;refine(aps (sp.F M  J) hm).mono ?_;rintro _ ao bQ ⟨w,rfl,bO,g,D⟩;obtain⟨VV,rfl,zq⟩:=id bO;obtain⟨ny,oW,rfl⟩:=zq.form;have P:=(g U J).trans bP;refine bl @P ?_;exact⟨_,rfl,bO.F ab J J,aM,J⟩
theorem apy{s:al}{n i g:Nat}{eH n5 aEa P:al}{h:ae}{U:Nat}(bw:n<=4096)(ef:0<R)(Im:R<=8)(d0:0<C)(Z:C<=8)(ag:i<R)(b5:j<C)(V:u h cr=some (.cells [(n:X)] eH))(dZ:u h cQ=some (.cells [(R:X)] n5))(rm:u h fl=some (.cells [(C:X)] aEa))(B:u h g=some (.cells [(j:X)] P))(dL:cr<U)(fM:cQ<U)(Cg:fl<U)(b10:g<U):
  aE Q s 315 [(i:X),bf cr,bf cQ,bf fl,bf g] h U
   (dI (((jz (da n R (i+1)) (da n C j) (da n C (j+1))-jz (da n R i) (da n C j) (da n C (j+1)):Nat):X)) U h):=by
 refine atx ?_;unfold aeY;refine cN @V @dZ ?_;refine(CR  bw ef Im J).mono ?_;rintro _ ao bQ ⟨rfl,A,D⟩;refine⟨D,?_⟩;have um:=(A cr dL).trans V;have g72:=(A fl Cg).trans rm;have E:=(A g b10).trans B;refine AP @um @g72 @E @V @rm @B ?_;refine(CR  bw d0 Z J).mono ?_;rintro _ aT bT ⟨rfl,eY,M⟩;refine⟨M,?_⟩;refine XE.mono ?_;rintro _ a9 dP ⟨rfl,g8,I⟩;refine⟨I,?_⟩;have bo:=tE (n:=n) ef (i+1);generalize da n R i=a at *
 generalize da n R (i+1)=aD at *
 generalize da n C j=c at *
 generalize da n C (j+1)=d at *
 have fa:IntKind.wrap .i64 (((max (max a c) (min aD d):Nat):Int)-((max a c:Nat):Int))=((jz aD c d-jz a c d:Nat):Int):=by rw[show((max (max a c) (min aD d):Nat):Int)-((max a c:Nat):Int)=((jz aD c d-jz a c d:Nat):Int) by unfold jz;omega];exact ie _ (by unfold jz;omega)
 refine bl @fa ?_;exact⟨rfl,aM,J⟩
theorem atA{s:al}{n:Nat}{v:X}{x:Nat->aw Int}{h:ae}{U:Nat}(bw:n<=4096)(E:0<R)(B:R<=8)(P:0<C)(A:C<=8)(b5:j<C)(H:AJ h U v (λi=>jz (da n R i) (da n C j) (da n C (j+1))) R x):
  aE Q s 223 [(n:X),(R:X),(C:X),(j:X),v] h U (λr ac Y=>∃w,r = .tuple ⟨[w,.int .i64 0]⟩ /\
   p6 ac U Y w (da n C (j+1)-da n C j) (λk=>x (da n C j+k))/\aA U h ac/\U<=Y):=by
 refine awg ?_;have hmj:da n C j<=da n C (j+1):=uY J;have hlj:=tE (n:=n) P (j+1);have b4:∀{o aX ll gn mg},aA U h (T (T (T (T (T h U o) (U+1) aX) (U+2) ll) (U+3) gn) (U+4) mg):=aM
 unfold agt;refine aG ?_;refine(XD bw).mono ?_;rintro _ h1 a5 ⟨rfl,gl,eM⟩;rw[gl,eM];refine aG ?_;refine(Qz  E B P A E b5).mono ?_;rintro _ ao bQ ⟨rfl,I,Z⟩;rw[I,Z];refine aG ?_;unfold QL;refine aG ?_;refine(al9 (H.F b4  J) J   (λi aT bT ag g D=>?_)).mono ?_
 ·exact apy bw E B P A ag b5 ((g U J).trans (by rw[aq J,aq J,aq J,aq J,aR])) ((g (U+1) J).trans (by rw[aq J,aq J,aq J,aR])) ((g (U+2) J).trans (by rw[aq J,aq J,aR])) ((g (U+3) J).trans (by rw[aq J,aR])) J J J J
 rintro _ aT bT ⟨w,rfl,V,g,D⟩;have aL:jz (da n R 0) (da n C j) (da n C (j+1))=da n C j:=by rw[aeI];unfold jz;omega
 have aU:jz (da n R R) (da n C j) (da n C (j+1))=da n C (j+1):=by rw[aeJ E];unfold jz;omega
 rw[aL,aU]at V;obtain⟨VV,rfl,M⟩:=id V;obtain⟨ny,oW,rfl⟩:=M.form;have dp:=(g (U+4) J).trans (aR _ _ _);refine bl @dp ?_;exact⟨_,rfl,V.F ab J J,aM,J⟩
theorem K7{s:al}{n k:Nat}{p:Nat->al}{v:X}{h:ae}{U:Nat}(bw:n<=63)(E:k<n)(D:cL h U v j8 (eZ n p)):aE Q s 334 [v,(k:X)] h U (fs (.bool (p k)) U h):=by
 refine ago ?_;have fa:eZ n p=[mk n p]:=if_neg J;rw[fa]at D;obtain⟨a,cap,rfl,P⟩:=id D;obtain⟨b,aB,bG,aW,rfl,V⟩:=P (by simp);unfold S2 bt cg c7 bS hx;refine(Yw J).mono ?_;rintro r I bT ⟨rfl,g,B⟩;rw[g,B];refine⟨cC _,?_⟩;refine aG ?_;refine(aev J).mono ?_;rintro r I bT ⟨rfl,g,B⟩;rw[g,B];refine⟨cC _,?_⟩;have M:bin Q .and 188 (.int .u64 (mk n p:Int)) (.int .u64 ((2 ^ k:Nat):Int)) = .ok (.int .u64 (mk n (λi=>p i&&decide (i=k)):Int)):=by rw[adA E,F5 (xb J) (xb J),au3]
 have A:u h b=some (.cells [.int .u64 (mk n p:Int)] bG):=V;simp(disch:=omega)only[bk,F6,show k / 64=0 by omega,show((0:Nat):Int)=0 from rfl,A,M,nC,Fr,seval];have Z:(!((mk n (λi=>p i&&decide (i=k)):Int) == 0))=p k:=by
  cases a6:p k with
  |true =>
   have:mk n (λi=>p i&&decide (i=k))≠0:=λe=>by
    have:=Gu.1 e k E
    grind
   grind
  |false =>
   have:mk n (λi=>p i&&decide (i=k))=0:=Gu.2 λi ag=>ab
   grind
 rw[Z];exact⟨rfl,rfl,rfl⟩
def ke(x:Nat->aw Int)(i:Nat):al:=(x i).isSome
def jW(x:Nat->aw Int)(i:Nat):Int:=(x i).getD 0
def sN(h:ae)(U:Nat)(v:X)(n:Nat)(x:Nat->aw Int):Prop:=∃fD dq,v = .agg ⟨[(n:X),fD,dq]⟩/\cL h U fD j8 (eZ n (ke x))/\ep h U dq c4 1 (cA n (jW x))
def DG(h:ae)(ap ag:Nat)(v:X)(n:Nat)(x:Nat->aw Int):Prop:=∃fD dq,v = .agg ⟨[(n:X),fD,dq]⟩/\eJ h ap ag fD j8 (eZ n (ke x))/\eJ h ap ag dq c4 (cA n (jW x))
section
variable {h ac:ae} {U Y ap ag ec dk n:Nat} {v:X} {x:Nat->aw Int}
theorem sN.F(H:sN h U v n x)(A:aA U h ac)(g:U<=Y):sN ac Y v n x:=by obtain⟨a,b,e,B,D⟩:=H;exact⟨a,b,e,B.F A g,D.F A g⟩
theorem DG.is(H:DG h ap ag v n x):sN h ag v n x:=by obtain⟨a,b,e,g,A⟩:=H;exact⟨a,b,e,g.rd,cL.o (λ_=>rfl) A.rd⟩
theorem DG.F(H:DG h ap ag v n x)(A:∀b,ap<=b->b<ag->u ac b=u h b)(g:ec<=ap)(B:ag<=dk):DG ac ec dk v n x:=by obtain⟨a,b,e,E,D⟩:=H;exact⟨a,b,e,E.F A g B,D.F A g B⟩
end
theorem apA(n:Nat)(f:Nat->Int)(k:Nat)(y:Int):(cA n f).set k y=cA n (λj=>if j=k then y else f j):=by
 apply pI;intro i;unfold cA
 grind
theorem ama(n:Nat):List.replicate n (Value.int .i64 0)=a7 c4 (cA n λ_=>0):=by
 induction n with
 |zero=>rfl
 |succ n g =>
  rw[G2,Ag,<-g,List.replicate_succ'];rfl
theorem Kq{n:Nat}{f g:Nat->Int}(h:∀i,i<n->f i=g i):cA n f=cA n g:=by exact qE ab
theorem atB{s:al}{n:Nat}{h:ae}{U:Nat}(M:n<=63):aE Q s 388 [(n:X)] h U (λr ac Y=>∃D b,r = .agg ⟨[(n:X),D,.slice (some ⟨b,0,none⟩) n n]⟩/\U<b/\b<Y/\u ac b=some (.cells (a7 c4 (cA n λ_=>0)) false)/\eJ ac (U+1) b D j8 (eZ n λ_=>false)/\aA U h ac/\U<=Y):=by
 refine avA ?_;unfold afY;refine aG ?_;unfold Qi Qh;refine aG ?_;refine⟨λA=>absurd A J,λ_=>⟨λA=>absurd A J,λ_=>?_⟩⟩;refine(acz M).mono ?_;rintro v V P ⟨E,B,g⟩;obtain⟨Z,cap,rfl,A⟩:=id E;refine⟨g,?_⟩;have I:=(B U J).trans (aR _ _ _);refine bl @I ?_;refine⟨_,P,rfl,J,J,?_,?_,aM,J⟩
 ·rw[aq J,aR,ama]
 ·exact E.F ab J J
theorem YJ{s:al}{n:Nat}{v:X}{x:Nat->aw Int}{h:ae}{U:Nat}(aI:sN h U v n x)(bw:n<=63):aE Q s 478 [v] h U (dI (.bool true) U h):=by
 refine aoa ?_;obtain⟨fD,dq,rfl,V,D⟩:=aI;obtain⟨bg,cap,rfl,a1⟩:=id V;obtain⟨I,g,rfl,oG⟩:=id D;have b4:∀{o},aA U h (T h U o):=aM
 unfold abY;refine aG ?_;refine(YA bw (V.F  b4 J)).mono ?_;rintro _ h1 a5 ⟨rfl,E,fi⟩;have Z:=(E U J).trans (aR _ _ _);refine bl @Z ?_;unfold OP;refine bl @Z ?_;rw[jl];refine⟨λa1=>absurd a1 (by simp),λ_=>?_⟩;have P:=b4.trans E J;refine bE.mk (λm aF ac Y=>∃i,m=n-i/\i<=n/\aF=[bf U,.bool false,.slice I n g,(n:X),(i:X)]/\ac=h1/\Y=a5) n ⟨0,J,J,rfl,rfl,rfl⟩ ?_;rintro _ _ ao bQ ⟨i,rfl,ag,rfl,gl,eM⟩;rw[alg];unfold Yq;refine aG ?_;refine⟨λM=>?_,λeG=>by rw[gl,eM];exact⟨rfl,P,J⟩⟩;have M:i<n:=J
 have ck:(cA n (jW x))[i]? = some (jW x i):=by
  unfold cA
  grind
 rw[gl,eM];have A:ep h1 a5 (.slice I (cA n (jW x)).length g) c4 1 (cA n (jW x)):=D.F P J;rw[jl]at A;obtain⟨b,aX,aB,bG,cs,j4,aW,aU,aY,iQ⟩:=ep.ld1  A ck;rw[jl]at aU;cases aU;refine cN @aY @iQ ?_;have fin:∃bD,bD<n-i/\∃B,bD=n-B/\B<=n/\[Value.pointer (some ⟨U,0,none⟩),Value.bool false,Value.slice (some ⟨b,aX,aB⟩) n g,Value.int IntKind.i64 (n:Int),Value.int IntKind.i64 (IntKind.i64.wrap ((i:Int)+1))]=[Value.pointer (some ⟨U,0,none⟩),Value.bool false,Value.slice (some ⟨b,aX,aB⟩) n g,Value.int IntKind.i64 (n:Int),Value.int IntKind.i64 (B:Int)]:=⟨_,J,i+1,rfl,J,by rw[cD J]⟩
 refine⟨λc0=>?_,λ_=>fin⟩;rw[Z];refine aG ?_;refine(K7 bw M (V.F P  J)).mono ?_;rintro _ _ _ ⟨rfl,rfl,rfl⟩;have fI:ke x i=true:=by
  unfold ke;unfold jW at c0;cases bd:x i with
  |none=>grind
  |some y=>rfl
 refine bl @fI ?_;omega
theorem apB{s:al}{n:Nat}{v:X}{x:Nat->aw Int}{h:ae}{U:Nat}(M:sN h U v n x)(V:n<=63):aE Q s 450 [v] h U (dI v U h):=by
 refine ar5 ?_;have B:=M;obtain⟨fD,dq,rfl,P,A⟩:=M;obtain⟨_,_,rfl,_⟩:=id P;obtain⟨_,_,rfl,_⟩:=id A;have Z:∀{o aX},aA U h (T (T h U o) (U+1) aX):=aM
 unfold aee;refine aG ?_;refine(YJ (B.F  Z J) V).mono ?_;rintro _ h1 a5 ⟨rfl,g,D⟩;have E:=g U J;rw[aq J,aR]at E;have I:=g (U+1) J;rw[aR]at I;refine cN @E @I ?_;exact⟨rfl,aM,J⟩
theorem ae0{s:al}{n:Nat}{v:X}{x:Nat->aw Int}{h:ae}{U:Nat}(aI:j2 h U v n x)(bw:n<=63):aE Q s 318 [v] h U (λr ac Y=>DG ac U Y r n x/\aA U h ac/\U<=Y):=by
 refine ayd ?_;have ih:=aI;obtain⟨gB,rfl,ar⟩:=aI;obtain⟨bg,cap,rfl,a1⟩:=id ar;have b4:∀{o aX},aA U h (T (T h U o) (U+1) aX):=aM
 unfold aho;refine aG ?_;refine(wx (ih.F  b4 J) J).mono ?_;rintro _ h1 a5 ⟨rfl,Z,fi⟩;have cH:=Z U J;rw[aq J,aR]at cH;have bP:=Z (U+1) J;rw[aR]at bP;refine bl @cH ?_;refine(atB bw).mono ?_;rintro _ ao g ⟨fD,b,rfl,g6,eR,rj,Ec,dD,f5⟩;have EG:=(dD U J).trans cH;have um:=(dD (U+1) J).trans bP;obtain⟨D,A,rfl,_⟩:=id Ec;refine bl @EG ?_;have fO:=ms n x;have g2n:u (T (T ao g (.cells [.int .i64 0,.slice none 0 0,.slice none 0 0] false)) g (.cells [(n:X),.slice D (eZ n λx=>false).length A,.slice (some ⟨b,0,none⟩) n n] false)) g=some (.cells [(n:X),.slice D (eZ n λx=>false).length A,.slice (some ⟨b,0,none⟩) n n] false):=ab
 have er:aA g ao (T (T ao g (.cells [.int .i64 0,.slice none 0 0,.slice none 0 0] false)) g (.cells [(n:X),.slice D (eZ n λx=>false).length A,.slice (some ⟨b,0,none⟩) n n] false)):=aM
 generalize fu:T (T ao g (.cells [.int .i64 0,.slice none 0 0,.slice none 0 0] false)) g (.cells [(n:X),.slice D (eZ n λx=>false).length A,.slice (some ⟨b,0,none⟩) n n] false)=aT at g2n er ⊢;refine bE.mk (λm aF ac Y=>∃i,m=(bj n x).length-i/\i<=(bj n x).length/\aF=[bf U,.pointer (some ⟨U+1,0,none⟩),bf g,.slice bg (bj n x).length cap,.int .i64 ((bj n x).length:Int),(i:X)] /\
  u ac b=some (.cells (a7 c4 (cA n λk=>if nr (((bj n x).map (·.1)).take i) k=true then jW x k else 0)) false)/\(∀c,c<g+1->c≠b->u ac c=u aT c)/\g+1<=Y) (bj n x).length ⟨0,J,J,rfl,?_,ab,J⟩ ?_
 ·rw[er b eR,rj];rfl
 rintro _ _ a9 dP ⟨i,rfl,ag,rfl,V,M,g5⟩;have g1:aA U h a9:=aM
 have I:=(M g J J).trans g2n;have P:=(M U J J).trans ((er U J).trans EG);have MM:=(M (U+1) J J).trans ((er (U+1) J).trans um);rw[avv];unfold ad6;refine aG ?_;refine⟨λcb=>?_,λeG=>?_⟩
 ·obtain⟨⟨k,y⟩,ck⟩:=dH   J;obtain⟨hk,bd⟩:=wJ ck;obtain⟨b6,aX,aB,bG,cs,j4,ht,aU,aY,iQ⟩:=(ar.F g1 (Y:=dP) J).ld (λ_=>rfl) ck;cases aU;refine cN @aY @iQ ?_;rw[show fF (k,y)=[(k:X),(y:X)]from rfl];refine bl @I ?_;have bO:=Sq (enc:=c4)  (λ_=>rfl) (λ_=>rfl) (h:=T (T a9 dP (.cells [.int .i64 0,.int .i64 0] false)) dP (.cells [(k:X),(y:X)] false)) (b:=b)  (l:=cA n λk=>if nr (((bj n x).map (·.1)).take i) k=true then jW x k else 0) (y:=y) (by rw[jl];omega);rw[z9]at bO;rw[show c4 y=[Value.int .i64 y]from rfl]at bO;rw[V,bO];refine bl (cD (J:i<1000000000000)) ?_;refine⟨_,?_,i+1,rfl,J,rfl,?_,λc h1 ao=>?_,J⟩
  ·omega
  ·rw[apA]
   congr 3
   apply Kq;intro j b5;rw[Z4 (show((bj n x).map (·.1))[i]? = some k by grind)]
   by_cases e:j=k
   ·subst e;simp[jW,bd]
   grind
  grind
 ·have:i=(bj n x).length:=J
  subst this;refine bl @P ?_;refine(XC ((ih.F g1  J)) J).mono ?_;rintro aEb bY f2 ⟨a6,B,oB⟩;refine⟨oB,?_⟩;have g05:=(B U J).trans P;refine cN @P @g05 ?_;have qa:(bj n x).map (λp=>(p.1:Int))=f6 ((bj n x).map (·.1)):=by unfold f6;rw[pJ];rfl
  rw[qa]at a6;refine(K6 bw a6.rd (λj b5=>?_) ab).mono ?_
  ·obtain⟨⟨a,c⟩,dR,rfl⟩:=f3.1 b5;exact(j0.1 dR).1
  rintro ki cy n6 ⟨bK,E,kN⟩;refine⟨kN,?_⟩;obtain⟨adf,aCs,rfl,_⟩:=id bK;have aAy:=(E g J).trans ((B g J).trans I);have EF:=(E (U+1) J).trans ((B (U+1) J).trans MM);refine cN @aAy @EF ?_;have qv:eZ n (nr ((bj n x).map (·.1)))=eZ n (ke x):=by
   unfold eZ
   by_cases c0:n=0
   ·grind
   ·rw[if_neg c0,if_neg c0,Dl];intro i ag;unfold nr ke;cases bd:x i with
    |none =>
     refine hA λhm=>?_;obtain⟨⟨a,c⟩,dR,rfl⟩:=f3.1 hm;have:=(j0.1 dR).2
     grind
    |some y=>exact gY (f3.2 ⟨(i,y),j0.2 ab,rfl⟩)
  have ek:(cA n λk=>if nr (((bj n x).map (·.1)).take (bj n x).length) k=true then jW x k else 0)=cA n (jW x):=by
   apply Kq;intro i ag;rw[o2 ab];unfold nr jW;cases bd:x i with
   |none=>simp
   |some y =>
    rw[if_pos];exact gY (f3.2 ⟨(i,y),j0.2 ab,rfl⟩)
  rw[ek]at V;refine⟨⟨_,_,rfl,?_,?_⟩,?_,J⟩
  ·rw[qv]at bK ⊢;exact bK.F ab J J
  ·refine⟨some ⟨b,0,none⟩,n,by rw[jl],λ_=>⟨b,none,false,J,J,rfl,?_⟩⟩;rw[aq J,aq J,E b J,B b J];omega
  ·exact(((g1.trans B J).trans E J).set J).set J
def Iw(s:al)(G:Nat)(cs:aa X)(N:Nat)(A:Nat->aa X)(S:ae->Nat->Prop):Prop :=
 ∀(l:Nat) (I:Nat->ae->Nat->Prop) (ac:ae) (Y:Nat),(∀k h1 a5,I k h1 a5->S h1 a5)->(∀k h1 a5 ao bQ,I k h1 a5->aA a5 h1 ao->a5<=bQ->I k ao bQ)->I 0 ac Y ->
  (∀(lJ:al) k,k<N->∀h1 a5,I k h1 a5->mb Q lJ l (A k) h1 a5 (λr ao bQ=>r = .bool true/\I (k+1) ao bQ/\a5<=bQ))->aE Q s G (.func (.yield l) ⟨[]⟩ ⟨[]⟩::cs) ac Y (λ_ ao bQ=>I N ao bQ)
theorem Sr{s:al}{ak:ch}{Z:aa Nat}{a b:Code}{N:Nat}{A:Nat->aa X}{h:ae}{U:Nat}{aC6 aEc:ae->Nat->Prop}(I:Nat->ae->Nat->Prop)(it:Iw s G cs N A S)(hk:∀k g B,I k g B->S g B/\U+1<=B)(P:∀k g B M E,I k g B->(∀c,c<B->c≠U->u M c=u g c)->B<=E->I k M E)(au:I 0 (T h U (.loop 0 none ak Z a b)) (U+1))(step:∀(s:al) k,k<N->∀g B,I k g B->u g U=some (.loop 0 none ak Z a b)->mb Q s U (A k) g B (λr M E=>r = .bool true/\u M U=some (.loop 0 none ak Z a b)/\I (k+1) M E/\B<=E))(fin:∀g B,I N g B->aC6 g B):t8 Q s (.func (.func G) ⟨[]⟩ ⟨cs⟩) h U (.loop 0 none ak Z a b) (yL U aC6 aEc):=by
 refine(it U (λk g B=>u g U=some (.loop 0 none ak Z a b)/\I k g B) _ _ (λk g B D=>(hk k g B D.2).1)
  (λk g B M E D V dv=>⟨(V U (by have:=(hk k g B D.2).2;omega)).trans D.1,P k g B M E D.2 (λc g _=>V c g) dv⟩) ⟨ab,au⟩ λs k Ud g B D=>?_).mono ?_
 ·exact(step s k Ud g B D.2 D.1).mono λr M E ⟨aU,aK,cc,d6⟩=>⟨aU,⟨aK,cc⟩,d6⟩
 ·rintro _ g B ⟨bo,D⟩;exact⟨0,none,_,_,_,_,bo,J,.inl ⟨rfl,fin _ _ (P _ _ _ _ _ D ab J)⟩⟩
theorem amb{s:al}{h:ae}{U:Nat}(fJ:L.length<=10000)(it:Iw s G cs L.length (λk=>[.agg ⟨fF (L.getD k (0,0))⟩]) S)(Z:∀g A,aA U h g->U<=A->S g A):
  aE Q s 495 [.slice none 0 0,.func (.func G) ⟨[]⟩ ⟨cs⟩] h U (λr ac Y=>eJ ac U Y r fF L/\aA U h ac/\U<=Y):=by
 refine aoY ?_;unfold acw;refine aG ?_;refine Sr (λk g A=>∃v,u g U=some (.cells [v] false)/\gN v=true/\eb g v fF 2 (L.take k) (U+2) A/\aA U h g/\U+2<=A) it ?_ ?_ ?_ ?_ ?_
 ·rintro k g A ⟨v,_,_,_,g,ao⟩;exact⟨Z _ _ g J,ao⟩
 ·rintro k g A ao bQ ⟨v,e,ek,B,hk,I⟩ dD M;exact⟨v,ab,ek,B.F ab M,aM,J⟩
 ·exact⟨_,ab,rfl,.inl ⟨rfl,rfl⟩,aM,J⟩
 ·rintro s k hk g A ⟨v,e,ek,B,D,I⟩ bo;obtain⟨p,a6⟩:=dH hk;have mG:L.getD k (0,0)=p:=ab
  rw[mG];refine alH bo ?_;unfold Pz aaj;generalize u4 _ _ _=ak at *
  simp(disch:=omega)only[bk,show dn (.agg ⟨fF p⟩)=[(p.1:X),(p.2:X)]from rfl,seval];refine⟨none,bo,?_⟩;refine bl @e ?_;refine mu (k:=2) (λ_=>rfl) (λ_=>rfl) J (B.F ab J) J p (aR _ _ _) rfl ab λdX bY V h3=>?_;have el:u bY (U+1)=some (.loop 1 none ak [7] uZ u0):=ab
  have hd:u bY U=some (.cells [v] false):=ab
  have cq:L.take (k+1)=L.take k++[p]:=by rw[gW,a6];rfl
  rcases V with⟨aL,rfl⟩|⟨b,E,P,rfl,aY⟩
  ·simp at aL
  ·refine bl @hd ?_;refine⟨1,none,el,⟨_,rfl,rfl,.inr ⟨b,E,J,by rw[cq],?_⟩,aM,J⟩,J⟩
   grind
 ·rintro g A ⟨v,e,ek,B,D,I⟩;rw[ic]at B;refine bl @e ?_;refine⟨?_,D,J⟩;rcases B with⟨rfl,rfl⟩|⟨b,E,P,rfl,aY⟩
  ·exact⟨_,_,rfl,λh=>absurd rfl h⟩
  ·exact⟨_,_,rfl,λ_=>⟨b,some 2,false,J,P,rfl,aY⟩⟩
theorem Kr{q:Nat->al}{a:Int}:∀{n:Nat},(∀i,i<n->q i=true->¬a<=(i:Int))->fG q a n = -1
 |0,_=>rfl
 |n+1,h=>by show(if fG q a n = -1 then(if q n=true/\a<=(n:Int)then(n:Int)else -1)else fG q a n) = -1;rw[if_pos (Kr ab),if_neg λg=>h n J g.1 g.2]
theorem ae1{a:Int}{n:Nat}(I:m<n)(B:q m=true)(A:a<=(m:Int))(g:∀i,i<m->q i=true->¬a<=(i:Int)):fG q a n=(m:Int):=by
 have E:fG q a m = -1:=Kr g;have D:fG q a (m+1)=(m:Int):=by
  show(if fG q a m = -1 then(if q m=true/\a<=(m:Int)then(m:Int)else -1)else fG q a m)=_
  grind
 have:=RL (q:=q) (a:=a) (k:=m+1) J (n-(m+1))
 grind
def xA(n:Nat)(x:Nat->aw Int)(j:Nat):Int:=match(bj n x)[j]? with
 |some p=>(p.1:Int)
 |none=>-1
theorem apC(n:Nat)(x:Nat->aw Int):fG (ke x) 0 n=xA n x 0:=by
 unfold xA;cases E:(bj n x)[0]? with
 |none =>
  refine Kr λi ag g=>?_;unfold ke at g;cases D:x i with
  |none=>grind
  |some y =>
   have:=j0.2 ⟨ag,D⟩
   grind
 |some p =>
  obtain⟨I,D⟩:=wJ   E;refine ae1 I (by unfold ke;grind) J λi ag g=>?_;unfold ke at g;cases A:x i with
  |none=>grind
  |some y =>
   obtain⟨j,P,e⟩:=Fk (j0.2 ⟨show i<n by omega,A⟩);have B:(bj n x)[j]? = some (i,y):=ab
   rcases xZ j with rfl|M
   ·grind
   ·have:=vh   E B M;omega
theorem atC{n:Nat}{x:Nat->aw Int}(M:(bj n x)[j]? = some p):fG (ke x) ((p.1:Int)+1) n=xA n x (j+1):=by
 unfold xA;have D:∀i,i<n->ke x i=true->(p.1:Int)+1<=(i:Int)->∃m y,j<m/\(bj n x)[m]? = some (i,y):=λi ag B A=>by
  unfold ke at B;cases I:x i with
  |none=>grind
  |some y =>
   obtain⟨m,V,e⟩:=Fk (j0.2 ⟨ag,I⟩);have g:(bj n x)[m]? = some (i,y):=ab
   refine⟨m,y,?_,g⟩;rcases z1 m j with h|h|h
   ·have:=vh   g M h;omega
   all_goals grind
 cases E:(bj n x)[j+1]? with
 |none =>
  refine Kr λi ag B A=>?_
  grind
 |some kY =>
  obtain⟨P,Z⟩:=wJ   E;have:=vh     M E J;refine ae1 P (by unfold ke;grind) J λi ag B A=>?_;obtain⟨m,y,V,g⟩:=D i J B A;rcases jJ (j+1) m with h|h
  ·have:=vh   E g h;omega
  grind
def aAz(n cr:Nat)(x:Nat->aw Int)(fD dq:X)(h:ae)(U:Nat):Prop:=u h cr=some (.cells [(n:X),fD,dq] false)/\cL h U fD j8 (eZ n (ke x))/\ep h U dq c4 1 (cA n (jW x))
theorem apD{s:al}{n:Nat}{x:Nat->aw Int}{fD dq:X}(bw:n<=63):
  Iw s 479 [bf cr] (bj n x).length (λk=>[.int .i64 (((bj n x).getD k (0,0)).1:Int),.int .i64 ((bj n x).getD k (0,0)).2]) (aAz n cr x fD dq):=by
 intro l I ac Y ag g au ck;refine ar9 ?_;unfold aeh;obtain⟨cH,ar,V⟩:=ag _ _ _ au;obtain⟨bg,cap,rfl,a1⟩:=id ar;obtain⟨ad2,pf,rfl,oG⟩:=id V;refine bl @cH ?_;refine(QD bw ar).mono ?_;rintro _ h1 a5 ⟨rfl,e5,B⟩;rw[apC];refine bE.mk (λm aF ao bQ=>∃j,m=(bj n x).length-j/\j<=(bj n x).length/\aF=[.func (.yield l) ⟨[]⟩ ⟨[]⟩,bf cr,.int .i64 (xA n x j)]/\I j ao bQ) (bj n x).length ⟨0,J,J,rfl,g _ _ _ _ _ au e5 B⟩ ?_;rintro _ _ ao bQ ⟨j,rfl,b5,rfl,sn⟩;rw[aob];unfold ZL;obtain⟨g2,nK,A⟩:=ag _ _ _ sn;rcases jJ j (bj n x).length with E|eG
 ·obtain⟨p,D⟩:=dH E;obtain⟨hk,bd⟩:=wJ   D;have hv:xA n x j=(p.1:Int):=by unfold xA;grind
  have mG:(bj n x).getD j (0,0)=p:=ab
  have TO:(cA n (jW x))[p.1]? = some p.2:=by unfold cA;rw[sw,Cy hk];unfold jW;grind
  obtain⟨b,aX,aB,bG,cs,j4,aW,aU,ta,iQ⟩:=ep.ld1  A TO;cases aU;rw[hv];rw[jl]at *
  refine hV @g2 @ta @iQ ?_;refine⟨λ_=>?_,λa1=>absurd a1 J⟩;have wb:=ck s j E ao bQ sn;simp only[mG]at wb;refine wb.mono ?_;rintro _ aT bT ⟨rfl,P,Ey⟩;obtain⟨dp,Z,aCt⟩:=ag _ _ _ P;refine cN @dp (cD (J:p.1<1000000000000)) ?_;refine(QD bw Z).mono ?_;rintro _ a9 dP ⟨rfl,g8,M⟩;exact⟨_,J,j+1,rfl,J,by rw[show((p.1+1:Nat):Int)=(p.1:Int)+1 by omega,atC D],g _ _ _ _ _ P g8 M⟩
 ·have:j=(bj n x).length:=J
  subst this;have hv:xA n x (bj n x).length = -1:=by unfold xA;grind
  rw[hv];refine aG ?_;exact⟨λh=>absurd trivial h,sn⟩
theorem apE{s:al}{n:Nat}{v:X}{x:Nat->aw Int}{h:ae}{U:Nat}(aI:sN h U v n x)(bw:n<=63):aE Q s 391 [v] h U (λr ac Y=>lv ac U Y r n x/\aA U h ac/\U<=Y):=by
 refine as6 ?_;have ih:=aI;obtain⟨fD,dq,rfl,ar,Z⟩:=aI;obtain⟨bg,cap,rfl,a1⟩:=id ar;obtain⟨P,g,rfl,oG⟩:=id Z;have fO:=ms n x;unfold aeM;refine aG ?_;refine(apB (ih.F aM J) bw).mono ?_;rintro _ ao B ⟨rfl,D,I⟩;have cH:=(D U J).trans ((aq J).trans (aR _ _ _));have bP:=(D (U+1) J).trans (aR _ _ _);refine cN @cH @bP ?_;refine avB ?_;unfold afZ;refine aG ?_;have UA:=apD (s:=s) (cr:=B+1) (x:=x) (fD:=.slice bg (eZ n (ke x)).length cap) (dq:=.slice P (cA n (jW x)).length g) bw;generalize fJ:bj n x=L at *
 refine Sr (λk A V=>∃w,u A B=some (.cells [(n:X),w] false)/\gN w=true/\eb A w fF 2 (L.take k) (B+3) V/\u A (U+1)=some (.cells [.int .i64 0,.slice none 0 0] false)/\u A (B+1)=some (.cells [(n:X),.slice bg (eZ n (ke x)).length cap,.slice P (cA n (jW x)).length g] false)/\aA U h A/\B+3<=V) UA ?_ ?_ ?_ ?_ ?_
 ·rintro k A V ⟨w,e,fa,E,aK,cc,hk,M⟩;exact⟨⟨cc,ar.F hk J,Z.F hk J⟩,J⟩
 ·rintro k A V ao n2' ⟨w,e,fa,E,aK,cc,hk,M⟩ D I;exact⟨w,ab,fa,E.F ab I,ab,ab,aM,J⟩
 ·exact⟨.slice none 0 0,ab,rfl,.inl ab,ab,ab,λc a1=>by
   repeat rw[aq J]
   rw[D c J]
   repeat rw[aq J],J⟩
 ·rintro s k hk A V ⟨w,e,fa,E,aK,cc,MJ,M⟩ bo;obtain⟨p,a6⟩:=dH hk;have mG:L.getD k (0,0)=p:=ab
  rw[mG];refine ao0 bo ?_;unfold QB acx;generalize va _ _ _ _ _ _ _ _ _ _ _=ak at *
  refine⟨none,bo,?_⟩;refine bl @e ?_;refine mu (k:=2) (ap:=B+3) (λ_=>rfl) (λ_=>rfl) J (E.F ab J) J p (aR _ _ _) rfl ab λdX bY r5 h3=>?_;have el:u bY (B+1+1)=some (.loop 1 none ak [13,14] u5 u6):=ab
  have hd:u bY B=some (.cells [(n:X),w] false):=ab
  have hy:u bY (U+1)=some (.cells [.int .i64 0,.slice none 0 0] false):=ab
  have gI:u bY (B+1)=some (.cells [(n:X),.slice bg (eZ n (ke x)).length cap,.slice P (cA n (jW x)).length g] false):=ab
  have VW:aA U h bY:=aM
  have cq:L.take (k+1)=L.take k++[p]:=by rw[gW,a6];rfl
  rcases r5 with⟨aL,rfl⟩|⟨b,g6,eR,rfl,aY⟩
  ·simp at aL
  ·refine bl @hd ?_;refine⟨1,none,el,⟨_,rfl,rfl,.inr ⟨b,g6,J,by rw[cq],?_⟩,hy,gI,(VW.set J).set J,J⟩,J⟩
   grind
 ·rintro A V ⟨w,e,fa,E,aK,cc,MJ,M⟩;rw[ic]at E;obtain⟨_,_,rfl⟩:∃a c,w = .slice a L.length c:=by
   rcases E with⟨aU,rfl⟩|⟨b,_,_,rfl,_⟩
   all_goals grind
  refine cN @e @aK ?_;refine⟨⟨_,rfl,?_⟩,aM,J⟩;rw[fJ];rcases E with⟨rfl,aU⟩|⟨b,g6,eR,aU,aY⟩
  ·exact⟨_,_,aU,λh=>absurd rfl h⟩
  ·exact⟨_,_,aU,λ_=>⟨b,some 2,false,J,eR,rfl,ab⟩⟩
theorem KR:∀(p:aa GE) (a:Nat),a∈dW p↔∃g∈p,g.f=a:=by
 refine De (λa=>⟨λh=>(sx h).elim,ab⟩) λp g B a=>⟨GD _ a,?_⟩
 rintro⟨x,A,rfl⟩;rw[wC];unfold tG
 grind
theorem awi:∀(p:aa GE),k2 p->(dW p).Pairwise (·<·):=by
 refine De (λ_=>List.Pairwise.nil) λp g eS E=>?_;have a6:=eS (tv.1 E).1;rw[wC];unfold tG
 split
 ·omega
 ·rename_i B
  refine tv.2 ⟨a6,ab,λa P b Z=>?_⟩;rw[iu.1 Z];obtain⟨x,A,rfl⟩:=GD p a P;have I:=Av E x A;rcases I with I|I
  ·omega
  ·exfalso;rw[aah]at B;cases M:p.getLast? with
   |none=>grind
   |some y =>
    rw[M]at B;have ao:=Av E y ab;unfold nn at ao;have ck:¬y.f=g.f:=ab
    obtain⟨q,V⟩:=Ji.1 M;have D:=(tv.1 E).1;rw[V]at D A;rcases he.1 A with A|A
    ·have:=Av D x A;unfold nn at this;omega
    grind
theorem acO(A:a<=b)(h:∀g∈ai,¬(a<=g.f/\g.f<b)):dF ai b=dF ai a:=by
 unfold dF
 congr 1
 apply Jv
 grind
theorem AK(A:k2 ai){i:Nat}(ag:(dW ai)[i]? = some a)(B:(dW ai)[j]? = some b)(g:i<j):a<b:=by
 have h:=awi ai A;rw[Cw]at h
 grind
theorem Ds(g:(dW ai)[m]? = some a):(g9 ai)[m]? = some (dF ai a:Int):=by
 unfold g9
 grind
theorem QM(ai:aa GE):(g9 ai)[(dW ai).length]? = some (ai.length:Int):=by
 unfold g9
 grind
theorem atD(h:∀g∈ai,g.f<a):dF ai a=ai.length:=by unfold dF;rw[zX.2 ab]
theorem Ks(M:k2 ai)(D:(dW ai)[m]? = some a):(g9 ai)[m+1]? = some (dF ai (a+1):Int):=by
 have V:=(fb.1 D).1;have E:∀g∈ai,a<g.f->∃j,m<j/\(dW ai)[j]? = some g.f:=λg I cb=>by
  obtain⟨j,Z,e⟩:=Fk ((KR ai g.f).2 ⟨g,I,rfl⟩);have A:(dW ai)[j]? = some g.f:=ab
  refine⟨j,?_,A⟩;rcases z1 m j with h|h|h
  ·exact h
  ·grind
  ·have:=AK M A D h;omega
 rcases jJ (m+1) (dW ai).length with h|h
 ·have B:(dW ai)[m+1]? = some (dW ai)[m+1]:=ab
  generalize (dW ai)[m+1]=b at B;have EC:=AK M D B J;rw[Ds B,acO (a:=a+1) J];rintro g I ⟨h1,ao⟩;obtain⟨j,Z,e⟩:=E g I J;rcases jJ (m+1) j with P|P
  ·have:=AK M B e P;omega
  grind
 ·have:m+1=(dW ai).length:=J
  rw[this,QM,atD]
  grind
theorem atE(A:a∈dW ai):dF ai a<dF ai (a+1):=by
 obtain⟨g,B,rfl⟩:=GD ai a A;rw[aad];have:0<hI ai (g.f+1):=by
  apply zY.2;intro e;have this:g∈(ai.filter λx=>decide (x.f+1=g.f+1)):=ab
  grind
 omega
theorem ayO(E:k2 ai):(g9 ai)[0]? = some 0:=by
 cases h:(dW ai)[0]? with
 |some a =>
  rw[Ds h,show dF ai a=dF ai 0 from acO (by omega) ?_,Lt];rfl;rintro g D ⟨_,P⟩;obtain⟨j,M,e⟩:=Fk ((KR ai g.f).2 ⟨g,D,rfl⟩);have A:(dW ai)[j]? = some g.f:=ab
  rcases xZ j with rfl|I
  ·grind
  ·have:=AK E h A I;omega
 |none =>
  have e:(dW ai).length=0:=ab
  have B:=QM ai;rw[e]at B;rw[B];have:ai=[]:=by
   cases ai with
   |nil=>rfl
   |cons x l =>
    have:=(KR (x::l) x.f).2 ⟨x,ab,rfl⟩
    grind
  grind
theorem awj(D:k2 ai){x y:Int}(B:(g9 ai)[m]? = some x)(A:(g9 ai)[m+1]? = some y):x<y:=by
 have E:=(fb.1 A).1;rw[yo]at E;have g:(dW ai)[m]? = some (dW ai)[m]:=ab
 generalize (dW ai)[m]'J=a at g;rw[Ds g]at B;rw[Ks D g]at A;cases B;cases A;have:=atE (kk g);omega
theorem ayP{x:Int}(g:(g9 ai)[m]? = some x):0<=x/\x<=ai.length:=by
 have:=kk g;rcases he.1 this with h|h
 ·obtain⟨a,_,rfl⟩:=f3.1 h;have:=vg ai a;omega
 grind
theorem ep.i{h:ae}{U:Nat}{v:X}{l:aa Int}(H:ep h U v c4 1 l):s9 h U v l:=by
 obtain⟨a,cap,e,E⟩:=id H;refine⟨a,cap,e,λg=>?_⟩;obtain⟨b,o,aB,bG,cs,D,aK,I,h1,ao⟩:=E g;refine⟨b,o,aB,bG,cs,D,aK,I,λi x B=>?_⟩;obtain⟨b6,aX,P,Z,l3,A,_,cc,V,M⟩:=ep.ld1  H B
 grind
theorem Ov{s:al}{n m:Int}{h:ae}{U:Nat}:aE Q s 492 [(n:X),(m:X)] h U (fs (.bool (decide (0<=n/\n<=m))) U h):=by
 refine alV ?_;unfold aau;refine aG ?_;refine⟨λA=>?_,λA=>?_⟩
 ·by_cases g:m<n
  ·rw[gY g,hA J];exact⟨rfl,rfl,rfl⟩
  ·rw[hA g,gY J];exact⟨rfl,rfl,rfl⟩
 ·rw[hA J];exact⟨rfl,rfl,rfl⟩
theorem Ow{s:al}{l:aa Int}{v:X}{B:Int}{h:ae}{U:Nat}(aI:ep h U v c4 1 l)(bo:l.length<1000000)(ey:0<=B/\B<1000000000)(aW:∀(i:Nat) x,l[i]? = some x->0<=x/\x<B)(bc:∀(i:Nat) x y,l[i]? = some x->l[i+1]? = some y->x<y):
  aE Q s 493 [v,(B:X)] h U (fs (.bool true) U h):=by
 refine alW ?_;unfold aav;obtain⟨V,cap,rfl,a1⟩:=id aI;refine aG ?_;refine bE.mk (λm aF ac Y=>∃i,m=l.length-i/\i<=l.length/\aF=[.slice V l.length cap,(B:X),.bool false,.slice V l.length cap,(l.length:X),(i:X)]/\ac=h/\Y=U) l.length ⟨0,J,J,rfl,rfl,rfl⟩ ?_;rintro _ _ ao bQ ⟨i,rfl,ag,rfl,gl,eM⟩;rw[ajY,gl,eM];unfold XA;refine aG ?_;refine⟨λcb=>?_,λeG=>⟨rfl,rfl,rfl⟩⟩;obtain⟨x,I⟩:=dH   J;obtain⟨_,_,aU,sn⟩:=aI.i;cases aU;obtain⟨b,aX,aB,bG,cs,ht,rfl,aY,E⟩:=sn ab;have D:=E i x I;have hbx:=aW i x I;have fa:IntKind.wrap .i64 (B-1)=B-1:=by rw[nI];omega
 have fin:∀a,∃M,M<l.length-i/\∃g,M=l.length-g/\g<=l.length/\[Value.slice a l.length cap,Value.int .i64 B,Value.bool false,Value.slice a l.length cap,Value.int .i64 (l.length:Int),Value.int .i64 (IntKind.wrap .i64 ((i:Int)+1))]=[Value.slice a l.length cap,Value.int .i64 B,Value.bool false,Value.slice a l.length cap,Value.int .i64 (l.length:Int),Value.int .i64 (g:Int)]:=λa=>⟨_,J,i+1,rfl,J,by rw[cD J]⟩
 refine hV @aY @D @fa ?_;refine Ov.mono ?_;rintro _ _ _ ⟨rfl,rfl,rfl⟩;rw[gY (J:0<=x/\x<=B-1)];refine aG ?_;refine⟨λa6=>?_,λ_=>fin _⟩;obtain⟨k,rfl⟩:∃k,i=k+1:=⟨i-1,J⟩
 obtain⟨y,P⟩:=dH (l:=l) (i:=k) J;have A:=E k y P;have Z:=bc k y x P I;have cu:IntKind.wrap .i64 (((k+1:Nat):Int)-1)=(k:Int):=by rw[nI];omega
 rw[cu];refine cN @aY @A ?_;exact⟨λh=>absurd h J,λ_=>fin _⟩
def nb(h:ae)(U:Nat)(v:X)(r c:Nat)(ai:aa GE):Prop :=
 ∃v1 v2 v3 v4,v = .agg ⟨[(r:X),(c:X),v1,v2,v3,v4]⟩/\ep h U v1 c4 1 (gK ai)/\ep h U v2 c4 1 (g9 ai)/\iP h 0 U v3 c4 1 (ft ai)/\ep h U v4 c4 1 (gA ai)
theorem nb.F{h ac:ae}{U Y:Nat}{v:X}{r c:Nat}{ai:aa GE}(H:nb h U v r c ai)(A:aA U h ac)(g:U<=Y):nb ac Y v r c ai:=by obtain⟨P,I,M,Z,e,D,ao,B,V⟩:=H;exact⟨P,I,M,Z,e,D.F A g,ao.F A g,B.F (λb _ E=>A b E) J g,V.F A g⟩
theorem oA.o{h:ae}{ap ag:Nat}{v:X}{l:aa Int}(H:oA h ap ag v l):ep h ag v c4 1 l:=by
 obtain⟨B,g,D⟩:=H;rcases g with⟨rfl,rfl,rfl⟩|⟨b,rfl,rfl,A⟩
 ·exact ep.nil
 ·exact cL.o (λ_=>rfl) ⟨_,_,rfl,λ_=>⟨b,_,_,ab,rfl,A⟩⟩
theorem oA.f{h:ae}{ap ag:Nat}{v:X}{l:aa Int}(H:oA h ap ag v l):iP h 0 ag v c4 1 l:=by
 obtain⟨B,g,D⟩:=H;rcases g with⟨rfl,rfl,rfl⟩|⟨b,rfl,rfl,A⟩
 ·exact .inl ab
 ·exact .inr ⟨b,J,ab,rfl,A⟩
theorem yy.s{h:ae}{ap ag:Nat}{v:X}{c:Nat}(H:yy h ap ag v r c ai):nb h ag v r c ai:=by obtain⟨V,Z,E,P,e,B,⟨b,aB,rfl,I,g,D⟩,A,M⟩:=H;refine⟨V,_,E,P,e,B.o,cL.o (λ_=>rfl) ⟨some ⟨b,0,aB⟩,_,rfl,λ_=>⟨b,aB,false,g,rfl,?_⟩⟩,A.f,M.o⟩;rw[D,iF]
theorem apF(h:k2 ai)(a:Nat):((ft ai).drop (dF ai a)).take (dF ai (a+1)-dF ai a)=(eP ai a).map λg=>(g.t:Int):=by unfold ft;rw[<-List.map_drop,<-List.map_take,Dc h]
theorem Df{g:GE}(h:g∈eP ai a):g∈ai/\g.f=a:=by
 unfold eP at h
 grind
theorem YK{s:al}{c:Nat}{v:X}{h:ae}{U:Nat}(M:hh c r ai)(aI:nb h U v r c ai):aE Q s 477 [v] h U (dI (.bool true) U h):=by
 refine apm ?_;obtain⟨v1,v2,v3,v4,rfl,h1,ao,aT,a9⟩:=aI;obtain⟨aD,V,rfl,_⟩:=id h1;obtain⟨a2,c2,rfl,_⟩:=id ao;obtain⟨a3,ci,rfl⟩:=aT.form;obtain⟨aZ,Z,rfl,_⟩:=id a9;have bc:=M.bc;have a1:=M.a1;have bo:=M.len;have b4:∀{o},aA U h (T h U o):=aM
 have dK:(gK ai).length=(dW ai).length:=GG ai;have dr:(g9 ai).length=(dW ai).length+1:=yo ai;have jF:(ft ai).length=ai.length:=by unfold ft;grind
 have lU:(gA ai).length=ai.length:=by unfold gA;grind
 have zC:=GF ai;unfold acG;rw[dK,dr,jF,lU];have o0:u (T h U (.cells [(r:X),(c:X),.slice aD (dW ai).length V,.slice a2 ((dW ai).length+1) c2,.slice a3 ai.length ci,.slice aZ ai.length Z] false)) U=some (.cells [(r:X),(c:X),.slice aD (dW ai).length V,.slice a2 ((dW ai).length+1) c2,.slice a3 ai.length ci,.slice aZ ai.length Z] false):=ab
 have rb:=h1.F (b4 (o:=.cells [(r:X),(c:X),.slice aD (dW ai).length V,.slice a2 ((dW ai).length+1) c2,.slice a3 ai.length ci,.slice aZ ai.length Z] false)) (Y:=U+1) J;have P:=ao.F (b4 (o:=.cells [(r:X),(c:X),.slice aD (dW ai).length V,.slice a2 ((dW ai).length+1) c2,.slice a3 ai.length ci,.slice aZ ai.length Z] false)) (Y:=U+1) J;have Bu:=aT.F (λb _ aW=>b4 (o:=.cells [(r:X),(c:X),.slice aD (dW ai).length V,.slice a2 ((dW ai).length+1) c2,.slice a3 ai.length ci,.slice aZ ai.length Z] false) b aW) (cC _) (dk:=U+1) J;rw[dK]at rb;rw[dr]at P;rw[jF]at Bu;have Ck:=b4 (o:=.cells [(r:X),(c:X),.slice aD (dW ai).length V,.slice a2 ((dW ai).length+1) c2,.slice a3 ai.length ci,.slice aZ ai.length Z] false);refine aG ?_;generalize T h U (.cells [(r:X),(c:X),.slice aD (dW ai).length V,.slice a2 ((dW ai).length+1) c2,.slice a3 ai.length ci,.slice aZ ai.length Z] false)=H at *
 refine Ov.mono ?_;rintro _ _ _ ⟨rfl,I,E⟩;rw[I,E,gY (J:0<=(r:Int)/\(r:Int)<=4096)];refine bl @o0 ?_;refine Ov.mono ?_;rintro _ _ _ ⟨rfl,I,E⟩;rw[I,E,gY (J:0<=(c:Int)/\(c:Int)<=4096)];refine cN @o0 (cD (J:(dW ai).length<1000000000000)) ?_;have qx:∀x:Int,(x == x)=true:=ab
 have lS:decide (65536<(ai.length:Int))=false:=ab
 simp only[qx,lS];refine⟨λh=>absurd h (by decide),λ_=>⟨λh=>absurd h (by decide),λ_=>?_⟩⟩;have VX:∀(i:Nat) x,(gK ai)[i]? = some x->∃a:Nat,(dW ai)[i]? = some a/\x=(a:Int):=λi x A=>by
  unfold gK at A
  grind
 unfold CS;refine bl @o0 ?_;have h1r:=Ow (s:=s) (B:=(c:Int)) (by rw[<-dK]at rb;exact rb) J J (λi x A=>by obtain⟨a,aU,rfl⟩:=VX i x A;obtain⟨g,aY,rfl⟩:=GD ai a ab;have:=M.rows g aY;omega) (λi x y A ck=>by obtain⟨a,aU,rfl⟩:=VX i x A;obtain⟨b,aK,rfl⟩:=VX _ y ck;have:=AK M.up aU aK J;omega)
 rw[dK]at h1r;refine h1r.mono ?_;rintro _ _ _ ⟨rfl,I,E⟩;rw[I,E];refine cN @o0 (cD (J:ai.length<1000000000000)) ?_;have h2r:=Ow (s:=s) (B:=((ai.length+1:Nat):Int)) (by rw[<-dr]at P;exact P) J J (λi x A=>by have:=ayP A;omega) (λi x y A ck=>awj M.up A ck)
 rw[dr]at h2r;refine h2r.mono ?_;rintro _ _ _ ⟨rfl,I,E⟩;rw[I,E];have h2i:=P;rw[<-dr]at h2i;obtain⟨_,_,aK,Ix⟩:=h2i.i;rw[dr]at aK;cases aK;obtain⟨b3,db,li,xt,zk,eR,rfl,jy,D⟩:=Ix ab;have n0:=D 0 _ (ayO M.up);rw[og]at n0;have jx:=D _ _ (QM ai);refine tO @o0 @jy @n0 @jx @qx ?_;unfold FW;refine bl @o0 ?_;refine bE.mk (λm aF ac Y=>∃i,m=(dW ai).length-i/\i<=(dW ai).length/\aF=[bf U,.bool false,.int .i64 ((dW ai).length:Int),(i:X)]/\ac=H/\Y=U+1) (dW ai).length ⟨0,J,J,rfl,rfl,rfl⟩ ?_;rintro _ _ bY f2 ⟨i,rfl,ag,rfl,I,E⟩;rw[alU,I,E];unfold YE;refine aG ?_;refine⟨λcb=>?_,λeG=>⟨rfl,Ck,J⟩⟩;obtain⟨a,dR⟩:=dH   J;have co:=D _ _ (Ds dR);have cz:=D _ _ (Ks M.up dR);refine tO @o0 @jy @co @cz (cD (J:i<1000000000000)) ?_;rw[<-jF]at Bu;obtain⟨w,fa,bO⟩:=iP.cut  (k:=1) (λ_=>rfl) J Bu (i:=dF ai a) (j:=dF ai (a+1)) (Am ai J) (by rw[jF];exact vg ai _);rw[jF]at fa;rw[fa];rw[apF M.up]at bO;have hlr:((eP ai a).map λg=>(g.t:Int)).length<=120:=by
  rw[gX];unfold eP
  grind
 refine aG ?_;refine(Ow  bO J J (λi x A=>?_) (λi x y A ck=>?_)).mono ?_
 ·obtain⟨g,aY,rfl⟩:=f3.1 (kk A);have:=M.mz g (Df aY).1;omega
 ·rw[sw]at A ck;obtain⟨g,aU,rfl⟩:=mq.1 A;obtain⟨cd,aK,rfl⟩:=mq.1 ck;have a6:=Qw M.up a;rw[Cw]at a6
  grind
 rintro _ _ _ ⟨rfl,I,E⟩;rw[I,E];refine⟨J,?_⟩;refine aG ?_;exact⟨_,J,i+1,rfl,J,rfl⟩
theorem aaD{s:al}{c:Nat}{v:X}{h:ae}{U:Nat}(M:hh c r ai)(P:nb h U v r c ai):aE Q s 448 [v] h U (dI v U h):=by
 refine atr ?_;have A:=P;obtain⟨v1,v2,v3,v4,rfl,B,ao,V,a9⟩:=P;obtain⟨aD,c1,rfl,_⟩:=id B;obtain⟨a2,c2,rfl,_⟩:=id ao;obtain⟨a3,ci,rfl⟩:=V.form;obtain⟨aZ,hP,rfl,_⟩:=id a9;have Z:∀{o aX},aA U h (T (T h U o) (U+1) aX):=aM
 unfold aeV;refine aG ?_;refine(YK M (A.F  Z J)).mono ?_;rintro _ B a5 ⟨rfl,g,I⟩;have E:=g U J;rw[aq J,aR]at E;have D:=g (U+1) J;rw[aR]at D;refine cN @E @D ?_;exact⟨rfl,aM,J⟩
theorem aAA{n:Nat}(h:n<1000000000000):bin Q .quo 3 (n:X) (.int .i64 2) = .ok (((n / 2:Nat):X)):=by rw[Ar (by decide),show((n:Int)).tdiv 2=((n / 2:Nat):Int)from rfl,show IntKind.wrap .i64 ((n / 2:Nat):Int)=((n / 2:Nat):Int) by rw[nI];omega]
def plC(ai:aa GE)(k:Nat)(r:Int):Prop:=(∃m:Nat,(dW ai)[m]? = some k/\r=(m:Int))\/(k ∉ dW ai/\r = -1)
theorem YL{s:al}{c k:Nat}{v:X}{h:ae}{U:Nat}(M:hh c r ai)(aI:nb h U v r c ai):aE Q s 449 [v,(k:X)] h U (λw ac Y=>(∃x,w = .int .i64 x/\plC ai k x)/\aA U h ac/\U<=Y):=by
 refine apk ?_;obtain⟨v1,v2,v3,v4,rfl,h1,ao,aT,a9⟩:=aI;obtain⟨E,g,rfl,_⟩:=id h1;obtain⟨a2,c2,rfl,_⟩:=id ao;obtain⟨B,ci,rfl⟩:=aT.form;obtain⟨aZ,A,rfl,_⟩:=id a9;have bo:=M.len;have zC:=GF ai;have dK:(gK ai).length=(dW ai).length:=GG ai;have b4:∀{o},aA U h (T h U o):=aM
 unfold acE;have rb:=h1.F (b4 (o:=.cells [(r:X),(c:X),.slice E (gK ai).length g,.slice a2 (g9 ai).length c2,.slice B (ft ai).length ci,.slice aZ (gA ai).length A] false)) (Y:=U+1) J;have o0:u (T h U (.cells [(r:X),(c:X),.slice E (gK ai).length g,.slice a2 (g9 ai).length c2,.slice B (ft ai).length ci,.slice aZ (gA ai).length A] false)) U=some (.cells [(r:X),(c:X),.slice E (gK ai).length g,.slice a2 (g9 ai).length c2,.slice B (ft ai).length ci,.slice aZ (gA ai).length A] false):=ab
 have Ck:=b4 (o:=.cells [(r:X),(c:X),.slice E (gK ai).length g,.slice a2 (g9 ai).length c2,.slice B (ft ai).length ci,.slice aZ (gA ai).length A] false);refine aG ?_;generalize T h U (.cells [(r:X),(c:X),.slice E (gK ai).length g,.slice a2 (g9 ai).length c2,.slice B (ft ai).length ci,.slice aZ (gA ai).length A] false)=H at *
 rw[dK];refine bE.mk (λm aF ac Y=>∃ap ag:Nat,m=ag-ap/\ap<=ag/\ag<=(dW ai).length/\aF=[(k:X),bf U,(ap:X),(ag:X)]/\(∀i a,(dW ai)[i]? = some a->i<ap->a<k)/\(∀i a,(dW ai)[i]? = some a->ag<=i->k<a)/\ac=H/\Y=U+1) (dW ai).length ⟨0,(dW ai).length,J,J,J,rfl,J,ab,rfl,rfl⟩ ?_;rintro _ _ bY f2 ⟨ap,ag,rfl,hlh,Z,rfl,ik,ey,gl,eM⟩;rw[alS,gl,eM];unfold YD;refine aG ?_;refine⟨λcb=>?_,λeG=>?_⟩
 ·obtain⟨x,P⟩:=dH (l:=dW ai) (i:=ap+(ag-ap) / 2) J;have hxA:(gK ai)[ap+(ag-ap) / 2]? = some (x:Int):=by unfold gK;grind
  obtain⟨_,_,aK,V⟩:=rb.i;rw[dK]at aK;cases aK;obtain⟨b3,db,li,xt,zk,eR,rfl,jy,D⟩:=V ab;have co:=D _ _ hxA;have aU:IntKind.wrap .i64 ((ag:Int)-(ap:Int))=((ag-ap:Nat):Int):=by rw[nI];omega
  have cc:IntKind.wrap .i64 ((ap:Int)+(((ag-ap) / 2:Nat):Int))=((ap+(ag-ap) / 2:Nat):Int):=by rw[nI];omega
  simp(disch:=omega)only[bk,aU,aAA (J:ag-ap<1000000000000),cc,o0,jy,co,seval];refine⟨λt6=>?_,λeh=>?_⟩
  ·have hxk:x=k:=ab
   subst hxk;exact⟨λ_=>⟨⟨_,rfl,.inl ⟨_,P,rfl⟩⟩,Ck,J⟩,λh=>absurd J h⟩
  ·refine⟨λbo=>?_,λbo=>?_⟩
   ·rw[cD J];refine⟨_,?_,ap+(ag-ap) / 2+1,ag,rfl,J,Z,rfl,λi a I dk=>?_,ey⟩
    ·omega
    ·rcases jJ i (ap+(ag-ap) / 2)with h|h
     ·have:=AK M.up I P h;omega
     grind
   ·refine⟨_,?_,ap,ap+(ag-ap) / 2,rfl,J,J,rfl,ik,λi a I dk=>?_⟩
    ·omega
    ·rcases jJ (ap+(ag-ap) / 2) i with h|h
     ·have:=AK M.up P I h;omega
     grind
 ·have:ap=ag:=J
  subst this;refine⟨λh=>absurd h J,λ_=>?_⟩;refine⟨⟨_,rfl,.inr ⟨λhk=>?_,rfl⟩⟩,Ck,J⟩;obtain⟨i,dk,e⟩:=Fk hk;have hi2:(dW ai)[i]? = some k:=ab
  grind
def mB(ai:aa GE)(k:Nat):aa (Nat × Int):=(eP ai k).map λg=>(g.t,g.w)
def aAB(r c:Nat)(ai:aa GE)(m cr cQ:Nat)(v1 v2 v3 v4:X)(h:ae)(U:Nat):Prop:=u h cr=some (.cells [(r:X),(c:X),v1,v2,v3,v4] false)/\u h cQ=some (.cells [(m:X)] false)/\ep h U v2 c4 1 (g9 ai)/\ep h U v3 c4 1 (ft ai)/\ep h U v4 c4 1 (gA ai)
theorem aj3{s:al}{c k:Nat}{v1 v2 v3 v4:X}(M:hh c r ai)(hm:(dW ai)[m]? = some k):
  Iw s 496 [bf cr,bf cQ] (mB ai k).length (λj=>[.agg ⟨fF ((mB ai k).getD j (0,0))⟩]) (aAB r c ai m cr cQ v1 v2 v3 v4):=by
 intro l I ac Y ag jc au ck;have bo:=M.len;have zC:=GF ai;have BJ:=(fb.1 hm).1;refine alX ?_;unfold aaw;obtain⟨bP,dZ,kX,kZ,tq⟩:=ag _ _ _ au;obtain⟨a2,c2,rfl,A⟩:=kX.i;obtain⟨b3,db,li,xt,zk,eR,rfl,jy,V⟩:=A (by intro e;have:=yo ai;grind);have co:=V _ _ (Ds hm);have sd:m<(g9 ai).length:=by rw[yo];omega
 refine ls @bP @dZ @jy @co ?_;have lh:(mB ai k).length=dF ai (k+1)-dF ai k:=by unfold mB;rw[gX,Gc M.up]
 have dv:=vg ai (k+1);refine bE.mk (λq aF ao bQ=>∃j,q=(mB ai k).length-j/\j<=(mB ai k).length/\aF=[.func (.yield l) ⟨[]⟩ ⟨[]⟩,bf cr,bf cQ,((dF ai k+j:Nat):X)]/\I j ao bQ) (mB ai k).length ⟨0,J,J,rfl,au⟩ ?_;rintro _ _ ao bQ ⟨j,rfl,b5,rfl,sn⟩;obtain⟨bP,dZ,kX,kZ,tq⟩:=ag _ _ _ sn;obtain⟨_,_,aU,A⟩:=kX.i;cases aU;obtain⟨Uo,o2',aCu,aCv,aCw,aCx,aK,aAC,B⟩:=A ab;cases aK;have cz:=B _ _ (Ks M.up hm);have aCy:m+1<(g9 ai).length:=by rw[yo];omega
 rw[ajZ];unfold XB;refine tO @bP @dZ @aAC @cz (cD (J:m<1000000000000)) ?_;refine⟨λD=>?_,λeG=>?_⟩
 ·have D:j<(eP ai k).length:=by rw[Gc M.up];omega
  obtain⟨g,aY⟩:=dH   D;have zr:ai[dF ai k+j]? = some g:=by rw[<-Pw M.up D];omega
  have eI:(ft ai)[dF ai k+j]? = some (g.t:Int):=by unfold ft;grind
  have ip:(gA ai)[dF ai k+j]? = some g.w:=by unfold gA;grind
  obtain⟨a3,ci,rfl,E⟩:=kZ.i;obtain⟨aZ,hP,rfl,hI4⟩:=tq.i;obtain⟨d8,gn,sp3,Ik,xx,mK,rfl,s2,Z⟩:=E ab;obtain⟨fM,mg,Iy,ro4,cs4,hb4,rfl,Iz,P⟩:=hI4 ab;have z3:=Z _ _ eI;have z4:=P _ _ ip;have hb:=(fb.1 eI).1;have mR:=(fb.1 ip).1;have mG:(mB ai k).getD j (0,0)=(g.t,g.w):=by unfold mB;grind
  have wb:=ck true j J ao bQ sn;simp only[mG]at wb;refine tO @bP @s2 @z3 @Iz @z4 ?_;refine wb.mono ?_;rintro _ aT bT ⟨rfl,E,Ey⟩;refine⟨Ey,?_⟩;refine bl (cD (J:dF ai k+j<1000000000000)) ?_;exact⟨_,J,j+1,rfl,J,ab,E⟩
 ·have:j=(mB ai k).length:=J
  subst this;exact sn
theorem aj4{s:al}{c k:Nat}{v:X}{h:ae}{U:Nat}(M:hh c r ai)(aI:nb h U v r c ai):aE Q s 454 [v,(k:X)] h U (λw ac Y=>eJ ac U Y w fF (mB ai k)/\aA U h ac/\U<=Y):=by
 refine alT ?_;have D:=aI;obtain⟨v1,v2,v3,v4,rfl,h1,ao,V,a9⟩:=aI;obtain⟨aD,Z,rfl,_⟩:=id h1;obtain⟨a2,c2,rfl,_⟩:=id ao;obtain⟨a3,ci,rfl⟩:=V.form;obtain⟨aZ,hP,rfl,_⟩:=id a9;have bo:=M.len;have b4:∀{o},aA U h (T h U o):=aM
 unfold aat;refine aG ?_;refine(aaD M (D.F  b4 J)).mono ?_;rintro _ aU a5 ⟨rfl,A,fi⟩;have cH:=(A U J).trans (aR _ _ _);refine bl @cH ?_;have cM:=(b4.trans A J).set (o:=.cells [(r:X),(c:X),.slice aD (gK ai).length Z,.slice a2 (g9 ai).length c2,.slice a3 (ft ai).length ci,.slice aZ (gA ai).length hP] false) (cC _);refine(YL  M (D.F  cM J)).mono ?_;rintro _ aK bQ ⟨⟨x,rfl,bd⟩,B,f5⟩;have g2:=(B U J).trans (aR _ _ _);have er:=cM.trans B J;rcases bd with⟨m,hm,rfl⟩|⟨E,rfl⟩
 ·refine bl @g2 ?_;refine⟨λh=>absurd h J,λ_=>?_⟩;refine apn ?_;unfold acH;refine aG ?_;refine ajc ?_;have lh:(mB ai k).length<=120:=by
   unfold mB eP
   grind
  refine(amb  J (aj3   (v1:=.slice aD (gK ai).length Z) (v2:=.slice a2 (g9 ai).length c2) (v3:=.slice a3 (ft ai).length ci) (v4:=.slice aZ (gA ai).length hP) M hm) λI n1' E dv=>?_).mono ?_
  ·have P:aA U h I:=aM
   refine⟨(E bQ J).trans ?_,(E (bQ+1) J).trans ab,ao.F P J,ep.F (cL.o (λ_=>rfl) V.gv.rd) P J,a9.F P J⟩
   grind
  ·rintro w cc bT ⟨bO,eY,ga⟩;exact⟨bO.F ab J J,aM,J⟩
 ·refine aG ?_;have:mB ai k=[]:=by
   cases a1:eP ai k with
   |nil=>unfold mB;grind
   |cons g l =>
    have aY:g∈eP ai k:=ab
    exact absurd ((KR ai k).2 ⟨g,(Df aY).1,(Df aY).2⟩) E
  rw[this];exact⟨⟨⟨none,0,rfl,λh=>absurd rfl h⟩,er,J⟩,λh=>absurd trivial h⟩
theorem apG{s:al}{c:Nat}{v:X}{L:aa Nat}{h:ae}{U:Nat}(M:hh c r ai)(aI:nb h U v r c ai)(bO:ep h U w c4 1 (f6 L))(fJ:L.length<1000000):aE Q s 390 [v,w] h U (λaO ac Y=>(∃y,aO = .int .i64 y)/\aA U h ac/\U<=Y):=by
 refine atm ?_;have E:=aI;obtain⟨v1,v2,v3,v4,rfl,h1,ao,aT,a9⟩:=aI;obtain⟨aD,c1,rfl,_⟩:=id h1;obtain⟨a2,c2,rfl,_⟩:=id ao;obtain⟨a3,ci,rfl⟩:=aT.form;obtain⟨aZ,hP,rfl,_⟩:=id a9;obtain⟨bA,v8,rfl,hIw⟩:=bO.i;have bo:=M.len;have zC:=GF ai;have aEd:(f6 L).length=L.length:=by unfold f6;grind
 have b4:∀{o},aA U h (T h U o):=aM
 unfold aeQ;rw[aEd];refine aG ?_;refine(aaD M (E.F  b4 J)).mono ?_;rintro _ aU a5 ⟨rfl,B,fi⟩;have cH:=(B U J).trans (aR _ _ _);have cM:=(b4.trans B J).set (o:=.cells [(r:X),(c:X),.slice aD (gK ai).length c1,.slice a2 (g9 ai).length c2,.slice a3 (ft ai).length ci,.slice aZ (gA ai).length hP] false) (cC _);refine bl @cH ?_;refine bE.mk (λm aF ac Y=>∃i y,m=L.length-i/\i<=L.length/\aF=[bf U,.int .i64 y,.slice bA L.length v8,(L.length:X),(i:X)]/\u ac U=some (.cells [(r:X),(c:X),.slice aD (gK ai).length c1,.slice a2 (g9 ai).length c2,.slice a3 (ft ai).length ci,.slice aZ (gA ai).length hP] false)/\aA U h ac/\U+1<=Y) L.length ⟨0,0,J,J,rfl,ab,cM,J⟩ ?_;rintro _ _ aK bQ ⟨i,y,rfl,ag,rfl,g2,V,f5⟩;rw[aph];unfold aaq;refine aG ?_;refine⟨λcb=>?_,λeG=>⟨⟨_,rfl⟩,V,J⟩⟩;obtain⟨k,hk⟩:=dH   J;have ua:(f6 L)[i]? = some (k:Int):=by unfold f6;grind
 obtain⟨gg,v5,sp5,ro5,cs5,xB,rfl,Z,P⟩:=hIw ab;have zK:=P _ _ ua;have A:=(V gg xB).trans Z;refine hV @A @zK @g2 ?_;refine(YL  M (E.F  V J)).mono ?_;rintro _ cc bT ⟨⟨x,rfl,bd⟩,I,ga⟩;have dp:=(I U J).trans g2;have fC:=V.trans I J;rcases bd with⟨m,hm,rfl⟩|⟨hk,rfl⟩
 ·have BJ:=(fb.1 hm).1;obtain⟨_,_,Cj,Ix⟩:=ao.i;cases Cj;obtain⟨b3,db,li,xt,zk,eR,rfl,jy,g⟩:=Ix (by intro e;have:=yo ai;grind);have co:=g _ _ (Ds hm);have cz:=g _ _ (Ks M.up hm);have sd:m+1<(g9 ai).length:=by rw[yo];omega
  have D:=(fC b3 eR).trans jy;refine AP @dp @D @co @cz (cD (J:m<1000000000000)) (cD (J:i<1000000000000)) ?_;refine⟨λ_=>?_,λh=>absurd h J⟩;exact⟨_,J,i+1,_,rfl,J,rfl,fC,J⟩
 ·refine bl (cD (J:i<1000000000000)) ?_;exact⟨λh=>absurd trivial h,_,J,i+1,_,rfl,J,rfl,dp,fC,J⟩
theorem amc{s:al}{c:Nat}{v:X}{h:ae}{U:Nat}(M:hh r c ai)(D:kq h U v r c ai):aE Q s 322 [v] h U (λA ac Y=>A = (ai.length:X)/\aA U h ac/\U<=Y):=by
 refine apf ?_;have g:=D;obtain⟨b,aB,cap,v2,v3,rfl,aW,aY,P,V⟩:=D;obtain⟨a2,c2,rfl⟩:=P.form;obtain⟨a3,ci,rfl⟩:=V.form;have Z:∀{o},aA U h (T h U o):=aM
 have I:(ft ai).length=ai.length:=by unfold ft;grind
 unfold acC;refine aG ?_;refine(Gd M (g.F  Z J)).mono ?_;rintro _ aU a5 ⟨rfl,E,B⟩;refine bl @I ?_;exact aM
theorem apH{s:al}{c n:Nat}{v:X}{x:Nat->aw Int}{h:ae}{U:Nat}(M:hh r c ai)(aI:kq h U v r c ai)(bO:sN h U w n x)(bw:n<=63):aE Q s 455 [v,w] h U (dI (.tuple ⟨[v,w]⟩) U h):=by
 refine ar7 ?_;have V:=aI;have E:=bO;obtain⟨b,aB,cap,v2,v3,rfl,aW,aY,qA,pE⟩:=aI;obtain⟨a2,c2,rfl⟩:=qA.form;obtain⟨a3,ci,rfl⟩:=pE.form;obtain⟨fD,dq,rfl,ar,B⟩:=bO;obtain⟨_,_,rfl,_⟩:=id ar;obtain⟨_,_,rfl,_⟩:=id B;have b4:∀{o aX ll aAD},aA U h (T (T (T (T h U o) (U+1) aX) (U+1+1) ll) (U+1+1+1) aAD):=aM
 unfold aeg;refine aG ?_;refine(J2 M (V.F  b4 J)).mono ?_;rintro _ aU a5 ⟨rfl,g,fi⟩;have cH:=g U J;rw[aq J,aq J,aq J,aR]at cH;have D:=g (U+1) J;rw[aq J,aq J,aR]at D;have g2:=g (U+1+1) J;rw[aq J,aR]at g2;have dp:=g (U+1+1+1) J;rw[aR]at dp;have cM:=b4.trans g J;refine aG ?_;unfold Pr;refine bl @D ?_;refine(YJ (E.F  cM J) bw).mono ?_;rintro _ aK bQ ⟨rfl,A,f5⟩;have zl:=(A U J).trans cH;have I:=(A (U+1) J).trans D;have P:=(A (U+1+1) J).trans g2;have Z:=(A (U+1+1+1) J).trans dp;refine aG ?_;unfold Pq;refine ls @zl @I @P @Z ?_;exact⟨rfl,aM,J⟩
theorem agv{r a b:Int}(g:oz r)(A:0<=a/\a<=dg)(B:0<=b/\b<=dg):0<=jR r a b/\jR r a b<=dg:=by
 unfold jR dg at *
 rcases g with rfl|rfl|rfl
 all_goals omega
def DH(h:ae)(cQ fl:Nat)(a:aw Int):Prop:=u h cQ=some (.cells (wid (a.getD 0)) false)/\u h fl=some (.cells [.bool a.isSome] false)
theorem aj5{s:al}{r w:Int}{a:aw Int}{h:ae}{U:Nat}(bc:oz r)(E:u h cr=some (.cells [(r:X)] bG))(dR:DH h cQ fl a)(dL:cr<U)(fM:cQ<U)(Cg:fl<U)(BN:cQ≠fl)(aW:∀y,a=some y->0<=y/\y<=dg)(bO:0<=w/\w<=dg):
  aE Q s 497 [.agg ⟨wid w⟩,bf fl,bf cr,bf cQ] h U (λaO ac Y=>DH ac cQ fl (e4 r a (some w))/\(∀c,c<U->c≠cQ->c≠fl->u ac c=u h c)/\U<=Y):=by
 refine ali ?_;unfold ZN aV aN bS bH;obtain⟨P,B⟩:=dR;rw[show dn (.agg ⟨wid w⟩)=[.int .i64 (w / 18446744073709551616),.int .u64 (w % 18446744073709551616)]from rfl];have g:u h cQ=some (.cells [.int .i64 (a.getD 0 / 18446744073709551616),.int .u64 (a.getD 0 % 18446744073709551616)] false):=P;have aL:∀x:Int,(Value.agg ⟨[.int .i64 (x / 18446744073709551616),.int .u64 (x % 18446744073709551616)]⟩) = .agg ⟨wid x⟩:=λ_=>rfl;cases a with
 |none =>
  have B:u h fl=some (.cells [.bool false] false):=B;refine cN @B @g ?_;refine⟨⟨?_,?_⟩,λc h1 Z aT=>?_,J⟩
  ·rw[aq J,aR];rfl
  ·rw[aR];rfl
  grind
 |some y =>
  have B:u h fl=some (.cells [.bool true] false):=B;have g:u h cQ=some (.cells [.int .i64 (y / 18446744073709551616),.int .u64 (y % 18446744073709551616)] false):=P;have ck:=aW y rfl;refine hV @B @g @E ?_;rw[aL,aL];refine(Qm bc (Gy (by unfold kz dg at *;omega)) (Gy (by unfold kz dg at *;omega))).mono ?_;rintro _ Z bQ ⟨rfl,A,V⟩;have M:=(A fl J).trans ((aq J).trans B);have I:=(A cQ J).trans ((aq J).trans g);have D:=(A U J).trans (aR _ _ _);have aU:∀x:Int,dn (.agg ⟨wid x⟩)=[.int .i64 (x / 18446744073709551616),.int .u64 (x % 18446744073709551616)]:=λ_=>rfl;refine ls @M @I @D @aU ?_;refine⟨⟨?_,?_⟩,λc h1 Z aT=>?_,J⟩
  ·rw[aq J,aR];rfl
  ·rw[aR];rfl
  ·rw[aq J,aq J,aq J,A c J,aq J]
theorem aj6{s:al}{a:aw Int}{h:ae}{U:Nat}(A:DH h cQ fl a)(E:cQ<U)(I:fl<U):aE Q s 498 [bf cQ,bf fl] h U (dI (.tuple ⟨[.agg ⟨wid (a.getD 0)⟩,.bool a.isSome]⟩) U h):=by refine alj ?_;unfold ZO;obtain⟨D,B⟩:=A;have g:u h cQ=some (.cells [.int .i64 (a.getD 0 / 18446744073709551616),.int .u64 (a.getD 0 % 18446744073709551616)] false):=D;refine cN @B @g ?_;exact⟨rfl,aM,J⟩
theorem aj7{r:Int}{x:Nat->aw Int}(I:oz r)(B:∀g∈ai,0<=g.w/\g.w<=2147483647)(M:∀i y,x i=some y->0<=y/\y<=dg)(y:Int)(h:fo r (ai.map λg=>(x g.t).map (fH r g.w))=some y):0<=y/\y<=dg:=by
 revert y
 refine De (C:=λai=>(∀g∈ai,0<=g.w/\g.w<=2147483647)->∀y,fo r (ai.map λg=>(x g.t).map (fH r g.w))=some y->0<=y/\y<=dg) (λ_ y h=>by cases h) (λp g E B y h=>?_) ai B;rw[iU,uO,z7,OJ]at h;have E:=E ab;have P:=B g (List.mem_append_right _ (iu.2 rfl));cases A:x g.t with
 |none=>rw[A]at h;simp only[Option.map_none,rz]at h;grind
 |some z =>
  rw[A]at h;have V:=M _ _ A;have hm:=Sj P V I;cases D:fo r (p.map λg=>(x g.t).map (fH r g.w))with
  |none=>rw[D]at h;cases h;omega
  |some Z =>
   rw[D]at h;cases h;exact agv I ab hm
theorem atF(r:Int)(ai:aa GE)(x:Nat->aw Int)(i:Nat):iJ r ai x i=fo r ((eP ai i).map λg=>(x g.t).map (fH r g.w)):=by
 unfold iJ eP;rw[Oh]
 grind
theorem lj.i{h:ae}{U:Nat}{v:X}{l:aa Int}(H:lj h U v l):s9 h U v l:=by obtain⟨g,A,B⟩:=H;exact ep.i (oA.o (ap:=0) ⟨g,A,ab⟩)
theorem atG{s:al}{r:Int}{i:Nat}{v:X}{x:Nat->aw Int}{h:ae}{U:Nat}(bc:oz r)(M:hh R C ai)(LU:C<=63)(aI:kq h U v R C ai)(bh:sN h U w C x)(ag:i<R)(bO:∀g∈ai,0<=g.w/\g.w<=2147483647)(bd:∀i y,x i=some y->0<=y/\y<=dg):
  aE Q s 457 [(r:X),v,(i:X),w] h U (dI (.tuple ⟨[.agg ⟨wid ((iJ r ai x i).getD 0)⟩,.bool (iJ r ai x i).isSome]⟩) U h):=by
 refine avC ?_;obtain⟨b,aB,cap,v2,v3,rfl,aW,aY,qA,pE⟩:=aI;obtain⟨a2,c2,rfl⟩:=qA.form;obtain⟨a3,ci,rfl⟩:=pE.form;obtain⟨fD,dq,rfl,ar,UB⟩:=bh;obtain⟨eU,c6,rfl,_⟩:=id ar;obtain⟨bg,gw,rfl,hId⟩:=UB.i;have ef:=M.bc;have bo:=M.len;have aC4:(ft ai).length=ai.length:=by unfold ft;grind
 have aD8:(gA ai).length=ai.length:=by unfold gA;grind
 unfold af0;have b4:∀{o aX ll},aA U h (T (T (T h U o) (U+1) aX) (U+1+1) ll):=aM
 refine aG ?_;refine aoc ?_;unfold abZ;refine aG ?_;have au:((qi ai R)[i]? = some (dF ai i:Int)):=wI J;have h1:((qi ai R)[i+1]? = some (dF ai (i+1):Int)):=wI J;simp(disch:=omega)only[bk,aY,ix au,seval];obtain⟨H,fu⟩:∃H,H=T (T (T (T (T (T (T h U (.cells [(R:X),(C:X),.slice (some ⟨b,0,aB⟩) (R+1) cap,.slice a2 (ft ai).length c2,.slice a3 (gA ai).length ci] false)) (U+1) (.cells [(C:X),.slice eU (eZ C (ke x)).length c6,.slice bg (cA C (jW x)).length gw] false)) (U+1+1) (.cells [.int .i64 0,.int .u64 0] false)) (U+1+1+1) (.cells [(r:X)] false)) (U+1+1+1+1) (.cells [.int .i64 0,.int .u64 0] false)) (U+1+1+1+1+1) (.cells [.bool false] false)) (U+1+1+1+1+1) (.cells [.bool false] false):=⟨_,rfl⟩
 have Cl:u H U=some (.cells [(R:X),(C:X),.slice (some ⟨b,0,aB⟩) (R+1) cap,.slice a2 (ft ai).length c2,.slice a3 (gA ai).length ci] false):=ab
 have qy:u H (U+1)=some (.cells [(C:X),.slice eU (eZ C (ke x)).length c6,.slice bg (cA C (jW x)).length gw] false):=ab
 have Cb:u H (U+1+1)=some (.cells [.int .i64 0,.int .u64 0] false):=ab
 have aEe:u H (U+1+1+1)=some (.cells [(r:X)] false):=ab
 have aEf:DH H (U+1+1+1+1) (U+1+1+1+1+1) none:=⟨by rw[fu,aq J,aq J,aR];rfl,ab⟩
 have uI:aA U h H:=by rw[fu];exact aM
 rw[<-fu];clear fu;refine bE.mk (λm aF ac Y=>∃j,m=(eP ai i).length-j/\j<=(eP ai i).length/\aF=[(r:X),(i:X),bf U,.pointer (some ⟨U+1,0,none⟩),.pointer (some ⟨U+1+1,0,none⟩),.func (.func 497) ⟨[]⟩ ⟨[.pointer (some ⟨U+1+1+1+1+1,0,none⟩),.pointer (some ⟨U+1+1+1,0,none⟩),.pointer (some ⟨U+1+1+1+1,0,none⟩)]⟩,.func (.func 498) ⟨[]⟩ ⟨[.pointer (some ⟨U+1+1+1+1,0,none⟩),.pointer (some ⟨U+1+1+1+1+1,0,none⟩)]⟩,((dF ai i+j:Nat):X)] /\
  DH ac (U+1+1+1+1) (U+1+1+1+1+1) (fo r (((eP ai i).take j).map λg=>(x g.t).map (fH r g.w)))/\(∀c,c<U+6->c≠U+1+1+1+1->c≠U+1+1+1+1+1->u ac c=u H c)/\U+6<=Y) (eP ai i).length ⟨0,J,J,rfl,aEf,ab,J⟩ ?_
 rintro _ _ ao bQ ⟨j,rfl,b5,rfl,ik,D,Z⟩;have Ij:=Gc M.up i;have hmn:=Am ai J;have hse:=vg ai (i+1);have V:aA U h ao:=aM
 have cH:=(D U J J J).trans Cl;have bP:=(D (U+1) J J J).trans qy;have g2:=(D (U+1+1) J J J).trans Cb;have dp:=(D (U+1+1+1) J J J).trans aEe;have ta:=(V b aW).trans aY;rw[ar8];unfold abX;simp(disch:=omega)only[bk,cH,ta,ix h1,cD (J:i<1000000000000),seval];refine⟨λI=>?_,λeG=>?_⟩
 ·have I:j<(eP ai i).length:=J
  obtain⟨g,hgj⟩:=dH   I;have zr:ai[dF ai i+j]? = some g:=by rw[<-Pw M.up I];omega
  have MN:=kk zr;have vG:=M.mz g MN;have eI:(ft ai)[dF ai i+j]? = some (g.t:Int):=by unfold ft;grind
  have ip:(gA ai)[dF ai i+j]? = some g.w:=by unfold gA;grind
  have lV:(cA C (jW x))[g.t]? = some (jW x g.t):=by
   unfold cA
   grind
  obtain⟨_,_,aK,Ix⟩:=qA.i;obtain⟨_,_,cc,hI3⟩:=pE.i;cases aK;cases cc;obtain⟨d8,gn,sp3,Ik,xx,mK,rfl,s2,LV⟩:=Ix ab;obtain⟨fM,mg,Iy,ro4,cs4,hb4,rfl,Iz,aAE⟩:=hI3 ab;obtain⟨gg,v5,sp5,ro5,cs5,xB,rfl,UC,aAF⟩:=hId ab;have z3:=LV _ _ eI;have z4:=aAE _ _ ip;have zK:=aAF _ _ lV;have aEg:=(fb.1 lV).1;have cm:=(V d8 mK).trans s2;have di:=(V fM hb4).trans Iz;have ee:=(V gg xB).trans UC;have Mf:=bO g MN;have A:fo r (((eP ai i).take (j+1)).map λg=>(x g.t).map (fH r g.w))=e4 r (fo r (((eP ai i).take j).map λg=>(x g.t).map (fH r g.w))) ((x g.t).map (fH r g.w)):=by rw[gW,hgj];show fo r (List.map _ (_++[g]))=_;rw[iU,uO,z7,OJ]
  refine hV @cm @z3 @bP ?_;refine(K7 LU vG (ar.F V  J)).mono ?_;rintro _ _ _ ⟨rfl,gl,eM⟩;rw[gl,eM];cases P:x g.t with
  |none =>
   have fI:ke x g.t=false:=by unfold ke;grind
   rw[P]at A;simp only[Option.map_none,rz]at A;rw[fI];refine bl (cD (J:dF ai i+j<1000000000000)) ?_;exact⟨_,J,j+1,rfl,J,rfl,by rw[A];exact ik,D,Z⟩
  |some y =>
   have fI:ke x g.t=true:=by unfold ke;grind
   have hva:jW x g.t=y:=by unfold jW;grind
   rw[hva]at zK;rw[P]at A;have hyr:=bd _ _ P;rw[fI];refine AP @cH @bP @di @z4 @ee @zK ?_;refine(ab3 bc Mf hyr).mono ?_;rintro _ aT bT ⟨rfl,B,E⟩;refine⟨E,?_⟩;have hA3:DH aT (U+1+1+1+1) (U+1+1+1+1+1) (fo r (((eP ai i).take j).map λg=>(x g.t).map (fH r g.w))):=⟨(B _ J).trans ik.1,(B _ J).trans ik.2⟩
   refine(aj5 bc ((B _ J).trans dp) hA3 J J J J (λy ck=>?_) (Sj Mf hyr bc)).mono ?_
   ·exact aj7 bc (λg aY=>bO g (Df (List.mem_of_mem_take aY)).1) bd y ck
   rintro _ a9 dP ⟨hA4,g8,g5⟩;refine⟨g5,?_⟩;refine bl (cD (J:dF ai i+j<1000000000000)) ?_;refine⟨_,J,j+1,rfl,J,rfl,by rw[A];exact hA4,λc h1 ao aT=>?_,J⟩;rw[g8 c J ao aT,B c J];grind
 ·have:j=(eP ai i).length:=J
  subst this;rw[ic,<-atF]at ik;refine(aj6 ik J J).mono ?_;rintro _ aT bT ⟨rfl,B,E⟩;have ML:=(B (U+1+1) J).trans g2;have aU:∀x:Int,dn (.agg ⟨wid x⟩)=[.int .i64 (x / 18446744073709551616),.int .u64 (x % 18446744073709551616)]:=λ_=>rfl;refine cN @aU @ML ?_;exact⟨rfl,(V.trans B J).set J,J⟩
theorem QN{s:al}{k:Nat}{h:ae}{U:Nat}:aE Q s 334 [.slice none 0 0,(k:X)] h U (fs (.bool false) U h):=by refine ago ?_;unfold S2 bt cg c7 bS hx;refine Z0 ?_;unfold Qq;refine bl @F6 ?_;refine⟨λ_=>⟨λg=>absurd g J,λ_=>⟨rfl,rfl,rfl⟩⟩,λg=>absurd g J⟩
def ahL(n cr cQ fl:Nat)(h:ae)(U:Nat):Prop:=u h cr=some (.cells [(n:X)] false)/\u h cQ=some (.cells [.slice none 0 0] false)/\u h fl=some (.cells [.bool true] false)
theorem aj8{s:al}{n:Nat}(bw:n<1000000):
  Iw s 483 [bf cr,bf cQ,bf fl] n (λk=>[(k:X)]) (ahL n cr cQ fl):=by
 intro l I ac Y ag jc E ck;refine alh ?_;unfold ZM;obtain⟨P,M,Z⟩:=ag _ _ _ E;refine bl @P ?_;refine bE.mk (λm aF ao V=>∃j,m=n-j/\j<=n/\aF=[.func (.yield l) ⟨[]⟩ ⟨[]⟩,bf cQ,bf fl,(n:X),(j:X)]/\I j ao V) n ⟨0,J,J,rfl,E⟩ ?_;rintro _ _ ao V ⟨j,rfl,b5,rfl,B⟩;obtain⟨P,M,Z⟩:=ag _ _ _ B;rw[ajK];unfold Xr;refine bl @M ?_;refine⟨λg=>?_,λeG=>?_⟩
 ·have g:j<n:=J
  refine QN.mono ?_;rintro _ _ _ ⟨rfl,rfl,rfl⟩;simp(disch:=omega)only[bk,Z,show bin Q .neq 4 (.bool false) (.bool true) = .ok (.bool true) by kernel_rfl,seval];have wb:=ck true j g _ _ B;refine wb.mono ?_;rintro _ aT bT ⟨rfl,D,A⟩;refine⟨A,?_⟩;refine bl (cD (J:j<1000000000000)) ?_;exact⟨_,J,j+1,rfl,J,rfl,D⟩
 ·have:j=n:=J
  subst this;exact B
def eO(p:Nat × Int):aa X:=[(p.1:X),.int .i64 (p.2 / 18446744073709551616),.int .u64 (p.2 % 18446744073709551616)]
theorem apI(p:Nat × Int):(eO p).length=3:=rfl
theorem apJ{s:al}{r:Int}{v:X}{x:Nat->aw Int}{h:ae}{U:Nat}(bc:oz r)(M:hh R C ai)(LU:C<=63)(aI:kq h U v R C ai)(bh:sN h U w C x)(bO:∀g∈ai,0<=g.w/\g.w<=2147483647)(bd:∀i y,x i=some y->0<=y/\y<=dg):
  aE Q s 393 [(r:X),v,w,.slice none 0 0,.bool true] h U (λaO ac Y=>∃z,aO = .tuple ⟨[z,.int .i64 0]⟩/\eJ ac U Y z eO (bj R (iJ r ai x))/\aA U h ac/\U<=Y):=by
 refine as7 ?_;have ih:=aI;have HW:=bh;have ef:=M.bc;obtain⟨b,aB,cap,v2,v3,rfl,aW,aY,qA,pE⟩:=aI;obtain⟨a2,c2,rfl⟩:=qA.form;obtain⟨a3,ci,rfl⟩:=pE.form;obtain⟨fD,dq,rfl,ar,UB⟩:=bh;obtain⟨eU,c6,rfl,_⟩:=id ar;obtain⟨bg,gw,rfl,_⟩:=id UB;unfold aeN;refine aG ?_;refine(apH M (ih.F aM J) (HW.F aM J) LU).mono ?_;rintro _ ao A ⟨rfl,I,Z⟩;have cH:=(I U J).trans ((aq J).trans ((aq J).trans (aR _ _ _)));have bP:=(I (U+1) J).trans ((aq J).trans (aR _ _ _));have g2:=(I (U+1+1) J).trans (aR _ _ _);refine hV @cH @bP @g2 ?_;refine(AG (r:=r) (by rcases bc with rfl|rfl|rfl <;> omega) (by rcases bc with rfl|rfl|rfl <;> omega)).mono ?_;rintro _ _ _ ⟨rfl,gl,eM⟩;rw[gl,eM];simp(disch:=omega)only[bk,ru,seval];refine an9 ?_;unfold abW;refine aG ?_;generalize E6:T _ _ _=iq;have fu:∀c,c<A->c≠U+1->c≠U+1+1->u iq c=u ao c:=λc D aT a9=>by subst E6;repeat rw[aq J]
 have hR:=(fu U J J J).trans cH;have dl:u iq (U+1)=some (.cells [(R:X),(C:X),.slice (some ⟨b,0,aB⟩) (R+1) cap,.slice a2 (ft ai).length c2,.slice a3 (gA ai).length ci] false):=by subst E6;grind
 have e1:u iq (U+1+1)=some (.cells [(C:X),.slice eU (eZ C (ke x)).length c6,.slice bg (cA C (jW x)).length gw] false):=by subst E6;grind
 have q12:u iq A=some (.cells [.slice none 0 0] false):=by subst E6;grind
 have UD:ahL R (A+1) (A+1+1) (A+1+1+1) iq (A+1+1+1+1):=by subst E6;refine⟨?_,?_,?_⟩ <;> grind
 have th:aA U h iq:=λc P=>by rw[fu c J J J,I c J];repeat rw[aq J]
 clear E6 fu;have UA:=aj8 (s:=s) (n:=R) (cr:=A+1) (cQ:=A+1+1) (fl:=A+1+1+1) J;obtain⟨L,fJ⟩:∃L:Nat->aw Int,L=iJ r ai x:=⟨_,rfl⟩
 refine Sr (λk D a5=>∃w,u D A=some (.cells [w] false)/\gN w=true/\eb D w eO 3 (bj k L) (A+6) a5/\(∀c,c<A+5->c≠A->c≠A+4->u D c=u iq c)/\A+5<=a5/\k<=R) UA ?_ ?_ ?_ ?_ ?_
 ·rintro k D a5 ⟨w,e,fa,dV,B,dv,hk⟩;exact⟨⟨(B _ J J J).trans UD.1,(B _ J J J).trans UD.2.1,(B _ J J J).trans UD.2.2⟩,J⟩
 ·rintro k D a5 ao n2' ⟨w,e,fa,dV,B,dv,hk⟩ I Z;exact⟨w,ab,fa,dV.F ab Z,ab,J,hk⟩
 ·exact⟨.slice none 0 0,ab,rfl,.inl ⟨rfl,rfl⟩,ab,J,J⟩
 ·rintro s k hk D a5 ⟨w,e,fa,dV,B,dv,BR⟩ bo;have cH:u D U=some (.cells [(r:X)] false):=(B _ J J J).trans hR;have bP:=(B (U+1) J J J).trans dl;have g2:=(B (U+1+1) J J J).trans e1;have hL:aA U h D:=λc P=>(B c J J J).trans (th c P);refine ao2 bo ?_;unfold QC acy;generalize vb _ _ _ _ _ _ _ _ _ _ _ _ _ _ _ _ _ _ _ _ _ _ _ _ _=ak at *
  refine⟨none,bo,?_⟩;generalize eHH:T D (A+1+1+1+1) (.loop 1 none ak [37] sG sH)=zL;have V:∀c,c≠A+4->u zL c=u D c:=λc P=>ab
  have rS:u zL (A+1+1+1+1)=some (.loop 1 none ak [37] sG sH):=ab
  have cH:=(V _ J).trans cH;have bP:=(V _ J).trans bP;have g2:=(V _ J).trans g2;have e:=(V _ J).trans e;have hL:aA U h zL:=λc P=>(V c J).trans (hL c P);refine hV @cH @bP @g2 ?_;refine(atG bc M LU (ih.F hL (Y:=a5) J) (HW.F hL (Y:=a5) J) hk bO bd).mono ?_;rintro _ eD n7 ⟨rfl,E,tY⟩;rw[<-fJ];have gI:=(E _ J).trans e;have Iv:=(E _ J).trans rS;have aU:∀x:Int,dn (.agg ⟨wid x⟩)=[.int .i64 (x / 18446744073709551616),.int .u64 (x % 18446744073709551616)]:=λ_=>rfl;cases hLk:L k with
  |none =>
   have ag:bj (k+1) L=bj k L:=by rw[tL,hLk,hz]
   refine bl @aU ?_;refine⟨λP=>absurd P (by simp),λ_=>⟨1,none,Iv,⟨w,gI,fa,?_,λc D ao aT=>?_,J,J⟩,J⟩⟩
   ·rw[ag];exact dV.F (λc D ao=>by rw[aq J,aq J,aq J,E c J,V c J]) J
   ·rw[aq J,aq J,aq J,E c J,V c J];grind
  |some y =>
   have ag:bj (k+1) L=bj k L++[(k,y)]:=by rw[tL,hLk]
   have w6:=ms k L;refine cN @aU @gI ?_;refine⟨λ_=>?_,λP=>absurd P (by simp)⟩;refine mu (enc:=eO) (k:=3) (ap:=A+6) (λ_=>rfl) (λ_=>rfl) J (dV.F (dk:=n7+1+1) (λc D ao=>by rw[aq J,aq J,aq J,E c J,V c J]) J) J (k,y) (aR _ _ _) rfl J λdX k0 UE vR=>?_;have hl9:u k0 (A+1+1+1+1)=some (.loop 1 none ak [37] sG sH):=ab
   have jD:u k0 A=some (.cells [w] false):=ab
   have aFa:∀c,c<A+5->c≠A->c≠A+4->u k0 c=u iq c:=λc D ao aT=>by rw[vR _ J,aq J,aq J,aq J,E c J,V c J];grind
   rcases UE with⟨aL,rfl⟩|⟨Cm,g6,eR,rfl,MO⟩
   ·simp at aL
   ·refine bl @jD ?_;refine⟨1,none,hl9,⟨_,rfl,rfl,.inr ⟨Cm,g6,J,by rw[ag],?_⟩,λc D ao aT=>?_,J,J⟩,J⟩
    all_goals grind
 ·rintro D a5 ⟨w,e,fa,dV,B,dv,BR⟩;refine bl @e ?_;refine⟨w,rfl,?_,λc P=>?_,J⟩
  ·rw[<-fJ];rcases dV with⟨aU,rfl⟩|⟨Cm,g6,eR,rfl,MO⟩
   ·exact⟨_,_,by rw[aU];rfl,λh=>absurd aU h⟩
   ·exact⟨_,_,rfl,λ_=>⟨Cm,some 3,false,J,eR,rfl,MO⟩⟩
  ·rw[B _ J J J];exact th c P
theorem ep.all{az:Type}{h:ae}{U k:Nat}{v:X}{enc:az->aa X}{l:aa az}(H:ep h U v enc k l)(B:∀x,(enc x).length=k)(g:l≠[]):
  ∃b o aB bG cs cap,b<U/\v = .slice (some ⟨b,o,aB⟩) l.length cap/\u h b=some (.cells cs bG)/\∀(i:Nat) x,l[i]? = some x->hB (some k) (o+i*k) cs = .ok (.agg ⟨enc x⟩)/\∀(j:Nat) y,j<k->(enc x)[j]? = some y->cs[o+i*k+j]? = some y:=by
 obtain⟨a,cap,e,I⟩:=id H;obtain⟨b,o,aB,bG,cs,E,rfl,Z,h1,ao⟩:=I g;refine⟨b,o,aB,bG,cs,cap,E,e,Z,λi x A=>⟨?_,λj y b5 ck=>?_⟩⟩
 ·obtain⟨b6,aX,M,ro',V,D,_,cc,P,iQ⟩:=H.ld B A
  grind
 ·have aT:=N2 B rfl ao A
  grind
theorem awk{s:al}{v:X}{h:ae}{U:Nat}(fJ:L.length<1000000)(I:ep h U v eO 3 L)(M:∀(p:Nat × Int),p∈L->∀ac Y,aA U h ac->U<=Y->aE Q s eA (.agg ⟨eO p⟩::cs) ac Y (dI (.bool false) Y ac)):
  aE Q s 396 [v,.func (.func eA) ⟨[]⟩ ⟨cs⟩] h U (dI (.int .i64 (-1)) U h):=by refine WD ?_;unfold Oa;obtain⟨bg,cap,rfl,a1⟩:=id I;refine aG ?_;refine bE.mk (λm aF ac Y=>∃i,m=L.length-i/\i<=L.length/\aF=[.slice bg L.length cap,.func (.func eA) ⟨[]⟩ ⟨cs⟩,.int .i64 0,(L.length:X),(i:X)]/\aA U h ac/\U<=Y) L.length ⟨0,J,J,rfl,aM,J⟩ ?_;rintro _ _ ao V ⟨i,rfl,ag,rfl,A,g⟩;rw[Wz];unfold N4;refine aG ?_;refine⟨λcb=>?_,λZ=>⟨rfl,A,g⟩⟩;obtain⟨p,a6⟩:=dH   J;obtain⟨b,aX,aB,bG,l3,D,aW,P,aY,B⟩:=(I.F A g).ld (λ_=>rfl) a6;cases P;refine cN @aY @B ?_;refine(M p ab ao V A g).mono ?_;rintro _ aT bT ⟨rfl,eY,E⟩;refine bl (cD (J:i<1000000000000)) ?_;exact⟨_,J,i+1,rfl,J,rfl,aM,J⟩
theorem amd{s:al}{n:Nat}{h:ae}{U:Nat}(g:u h cr=some (.cells [(n:X)] bG))(B:cr<U)(A:p.1<n):aE Q s 398 [.agg ⟨eO p⟩,bf cr] h U (dI (.bool false) U h):=by refine an7 ?_;unfold abV bH;rw[show dn (.agg ⟨eO p⟩)=[(p.1:X),.int .i64 (p.2 / 18446744073709551616),.int .u64 (p.2 % 18446744073709551616)]from rfl];refine bl @g ?_;refine⟨λh=>absurd h J,λ_=>?_⟩;rw[gY A];exact⟨rfl,aM,J⟩
def tb(r:Int)(l:aa (Nat × Int)):aa (Nat × Int):=l.filter λp=>decide (p.2≠DF r)
theorem atH(r:Int)(n:Nat)(S:Nat->aw Int):tb r (bj n S)=bj n λi=>qQ r (S i):=by
 refine Rg (Jp _ (yw n S)) λi x=>?_;unfold tb;rw[od,j0];unfold qQ
 grind
theorem apK{s:al}{r:Int}{n:Nat}{v:X}{S:Nat->aw Int}{h:ae}{U:Nat}(bc:oz r)(bw:n<=4096)(aI:ep h U v eO 3 (bj n S))(dV:∀i y,S i=some y->0<=y/\y<=dg):
  aE Q s 335 [(r:X),(n:X),v] h U (λaO ac Y=>∃w,aO = .tuple ⟨[w,.int .i64 0]⟩/\lv ac U Y w n (λi=>qQ r (S i))/\aA U h ac/\U<=Y):=by
 refine ar1 ?_;unfold aeb;obtain⟨bg,cap,rfl,a1⟩:=id aI;have fO:=ms n S;have b4:∀{o aX},aA U h (T (T h U o) (U+1) aX):=aM
 refine aG ?_;refine(AG  (by rcases bc with rfl|rfl|rfl <;> omega) (by rcases bc with rfl|rfl|rfl <;> omega)).mono ?_;rintro _ _ _ ⟨rfl,gl,eM⟩;rw[gl,eM];refine aG ?_;have Cl:u (T (T h U (.cells [(n:X)] false)) (U+1) (.cells [.int .i64 0,.slice none 0 0] false)) U=some (.cells [(n:X)] false):=ab
 have qy:u (T (T h U (.cells [(n:X)] false)) (U+1) (.cells [.int .i64 0,.slice none 0 0] false)) (U+1)=some (.cells [.int .i64 0,.slice none 0 0] false):=ab
 have uI:=b4 (o:=.cells [(n:X)] false) (aX:=.cells [.int .i64 0,.slice none 0 0] false);generalize T (T h U (.cells [(n:X)] false)) (U+1) (.cells [.int .i64 0,.slice none 0 0] false)=H at *
 refine⟨λh=>absurd h J,λ_=>?_⟩;rw[hA (J:¬(4096:Int)<(n:Int))];unfold Pn;refine aG ?_;refine aiq ?_;refine(awk J (aI.F uI  J) λp a6 ac Y hk dv=>amd  ((hk U J).trans Cl) (by omega) ?_).mono ?_
 ·exact(j0  ).1 a6 |>.1
 rintro _ Z A ⟨rfl,I,f5⟩;have cH:=(I U J).trans Cl;have bP:=(I (U+1) J).trans qy;have ha:=uI.trans I J;refine aG ?_;unfold ZI;refine aG ?_;refine⟨λh=>absurd trivial h,?_⟩;refine bE.mk (λm aF ac Y=>∃i,m=(bj n S).length-i/\i<=(bj n S).length/\aF=[(r:X),.slice bg (bj n S).length cap,bf U,.pointer (some ⟨U+1,0,none⟩),.int .i64 0,.int .i64 ((bj n S).length:Int),(i:X)]/\ac=Z/\Y=A) (bj n S).length ⟨0,J,J,rfl,rfl,rfl⟩ ?_;rintro _ _ aT bT ⟨i,rfl,ag,rfl,gl,eM⟩;rw[an2,gl,eM];unfold ZG;refine aG ?_;refine⟨λcb=>?_,λeG=>?_⟩
 ·obtain⟨b,o,aB,bG,cs,j4,aW,V,aY,g⟩:=aI.all (λ_=>rfl) ab;cases V;have E:=(ha b aW).trans aY;have fin:∃bD,bD<(bj n S).length-i/\∃D,bD=(bj n S).length-D/\D<=(bj n S).length/\[Value.int .i64 r,.slice (some ⟨b,o,aB⟩) (bj n S).length cap,bf U,.pointer (some ⟨U+1,0,none⟩),.int .i64 0,.int .i64 ((bj n S).length:Int),.int .i64 (IntKind.wrap .i64 ((i:Int)+1))]=[(r:X),.slice (some ⟨b,o,aB⟩) (bj n S).length cap,bf U,.pointer (some ⟨U+1,0,none⟩),.int .i64 0,.int .i64 ((bj n S).length:Int),(D:X)]:=⟨_,J,i+1,rfl,J,by rw[cD J]⟩
  refine⟨λa6=>?_,λ_=>fin⟩;obtain⟨j,rfl⟩:∃j,i=j+1:=⟨i-1,J⟩
  obtain⟨p,xn⟩:=dH (l:=bj n S) (i:=j) J;obtain⟨q,MP⟩:=dH   J;have c1:=(g j p xn).2 0 _ J rfl;have c2:=(g (j+1) q MP).2 0 _ J rfl;rw[og]at c1 c2;have HR:=vh     xn MP J;have cu:IntKind.wrap .i64 (((j+1:Nat):Int)-1)=(j:Int):=by rw[nI];omega
  refine ls @cu @E @c1 @c2 ?_;exact⟨λh=>absurd HR h,λ_=>fin⟩
 ·obtain⟨zL,hHH⟩:∃zL,zL=T (T Z A (.cells [.int .i64 0,.slice none 0 0] false)) A (.cells [(n:X),.slice none 0 0] false):=⟨_,rfl⟩
  have Cb:u zL A=some (.cells [(n:X),.slice none 0 0] false):=ab
  have kHH:aA A Z zL:=by rw[hHH];exact aM
  refine bl @cH ?_;rw[<-hHH];refine bE.mk (λm aF ac Y=>∃i w,m=(bj n S).length-i/\i<=(bj n S).length/\aF=[(r:X),.pointer (some ⟨U+1,0,none⟩),.int .i64 0,bf A,.slice bg (bj n S).length cap,.int .i64 ((bj n S).length:Int),(i:X)] /\
   u ac A=some (.cells [(n:X),w] false)/\eb ac w fF 2 (tb r ((bj n S).take i)) (A+1) Y/\aA A Z ac/\A+1<=Y) (bj n S).length ⟨0,_,J,J,rfl,Cb,.inl ⟨rfl,rfl⟩,kHH,J⟩ ?_
  rintro _ _ aT bT ⟨i,w,rfl,ag,rfl,cc,B,P,ga⟩;have lN:aA U h aT:=aM
  have EE:=(P (U+1) J).trans bP;rw[an3];unfold ZH;refine aG ?_;refine⟨λcb=>?_,λeG=>?_⟩
  ·obtain⟨p,a6⟩:=dH   J;obtain⟨H9,hpS⟩:=wJ   a6;have oI:=dV _ _ hpS;obtain⟨b,o,aB,bG,cs,j4,aW,V,aY,g⟩:=aI.all (λ_=>rfl) ab;cases V;have E:=(lN b aW).trans aY;have iQ:=(g i p a6).1;have M:lA p.2:=Gy (by unfold kz dg at *;omega);have yO:sS p.2=true:=by unfold sS dg at *;grind
   simp(disch:=omega)only[bk,E,iQ,show dn (.agg ⟨eO p⟩)=[(p.1:X),.int .i64 (p.2 / 18446744073709551616),.int .u64 (p.2 % 18446744073709551616)]from rfl,seval];refine(Xs M).mono ?_;rintro _ a9 dP ⟨rfl,g8,g5⟩;rw[yO];refine aG ?_;refine(aog  (by rcases bc with rfl|rfl|rfl <;> simp)).mono ?_;rintro _ _ _ ⟨rfl,gl,eM⟩;rw[gl,eM];have gn4:=(g8 bT J).trans (aR _ _ _);have d6:=(g8 A J).trans ((aq J).trans ((aq J).trans cc));have g1:aA bT aT a9:=aM
   have cq:(bj n S).take (i+1)=(bj n S).take i++[p]:=by rw[gW,a6];rfl
   refine aG ?_;refine⟨λc0=>?_,λc0=>?_⟩
   ·have bh:tb r ((bj n S).take (i+1))=tb r ((bj n S).take i)++[p]:=by
     unfold tb
     grind
    have hdl:(tb r ((bj n S).take i)).length<=i:=iv (uL _ _) ab;obtain⟨gH,n1,rfl⟩:∃a c,w = .slice a (tb r ((bj n S).take i)).length c:=by
     rcases B with⟨V,rfl⟩|⟨b,_,_,rfl,_⟩
     all_goals grind
    refine cN @gn4 @d6 ?_;refine mu  (k:=2)  (λ_=>rfl) (λ_=>rfl) J (B.F  (λc h1 Z=>by rw[aq J,g1 c J]) J) J p (aR _ _ _) rfl J λdX k0 UE vR=>?_;have jD:u k0 A=some (.cells [(n:X),.slice gH (tb r ((bj n S).take i)).length n1] false):=ab
    have VW:aA A Z k0:=λc a1=>by rw[vR c J,aq J,g1 c J];exact P c a1
    rcases UE with⟨aL,rfl⟩|⟨Cm,g6,eR,rfl,MO⟩
    ·simp at aL
    ·refine cN @jD (cD (J:i<1000000000000)) ?_;refine⟨_,J,i+1,_,rfl,J,rfl,rfl,.inr ⟨Cm,g6,J,by rw[bh],?_⟩,VW.set (cC _),J⟩
     grind
   ·have bh:tb r ((bj n S).take (i+1))=tb r ((bj n S).take i):=by
     unfold tb
     grind
    refine bl (cD (J:i<1000000000000)) ?_;exact⟨_,J,i+1,w,rfl,J,rfl,d6,by rw[bh];exact B.F (λc h1 Z=>g1 c J) J,λc a1=>(g1 c J).trans (P c a1),J⟩
  ·have:i=(bj n S).length:=J
   subst this;rw[ic,atH]at B;obtain⟨_,_,rfl⟩:∃a c,w = .slice a (bj n λi=>qQ r (S i)).length c:=by
    rcases B with⟨V,rfl⟩|⟨b,_,_,rfl,_⟩
    all_goals grind
   refine cN @cc @EE ?_;refine⟨_,rfl,⟨_,rfl,?_⟩,lN.set J,J⟩;rcases B with⟨V,aK⟩|⟨Cm,g6,eR,aK,MO⟩
   ·rw[V]at aK ⊢;exact⟨_,_,rfl,λh=>absurd rfl h⟩
   ·cases aK;exact⟨_,_,rfl,λ_=>⟨Cm,some 2,false,J,eR,rfl,ab⟩⟩
def acP:ge:=λs ah t1 t2 h U K=>hx 2 ah t1 λa=>ax h 0 a λc=>hx 3 c (ad 0) λd=>ax h 0 d λf=>hx 2 ah t2 λg=>ax h 0 g λj=>hx 3 j (ad 0) λk=>ax h 0 k λm=>cg 242 [f,m] h U λn o p=>hx 2 ah t1 λq=>bn 1 q λr=>bS o r λt=>c7 r t (hx 2 ah t2 λaO=>bn 1 aO λv=>bS o v λw=>c7 v w (cg 242 [t,w] o p λx y z=>dY (fc 2 [(ad 0),(ad 0)] [(0,1,n),(1,1,x)]) y z λbC bV bM=>cg 241 [bC] bV bM λbg bW b7=>bt .lss 3 bg (ad 0) λbI=>K bI bW b7) 1 [h]) 1 [h]
theorem apL:gp 523 acP:=gu []
def ae2:cU:=λs ah h U K=>af (bs ah) λa=>bS h a λb=>cP b λc=>bt .sub 3 c (ad 1) λd=>af (bs ah) λe=>bS h e λf=>gT 2 h 2 f d λi=>bX [ay,(ad 0)] h U λj k l=>af (aS k 2 j i) λm=>af (bs ah) λn=>bS m n λo=>af (gi 2 o none (some d) none) λp=>af (bs ah) λq=>af (aS m 1 q p) λr=>aN 2 r j λt=>af (.ok (Value.iface 417 t)) λaO=>K aO r l
theorem atJ:cW 524 ae2:=cY []
def acQ:cO:=λs ah t1 h U K=>af (Ao Q 417 true t1) λa=>af (cp a 0) λb=>af (cp a 1) λc=>bX [ay,(ad 0)] h U λd e f=>af (aS e 2 d b) λg=>br c (af (bs ah) λi=>bS g i λj=>aN 2 g d λk=>dY (fc 1 [ay,(ad 0)] [(0,2,k)]) g f λl m n=>dG (dO (dM 2 m n j l)) λo p q=>n<=q/\af (bs ah) λr=>af (aS p 1 r o) λt=>K (.tuple ⟨[]⟩) t q) (K (.tuple ⟨[]⟩) g f)
theorem apM:cX 525 acQ:=cZ []
def acR:ge:=λs ah t1 t2 h U K=>gT 2 h 2 ah t2 λb=>gT 2 h 2 ah t1 λd=>hx 2 ah t1 λe=>af (aS h 2 e b) λf=>hx 2 ah t2 λg=>af (aS f 2 g d) λi=>K (.tuple ⟨[]⟩) i U
theorem apN:gp 526 acR:=gu []
theorem agw:lp Tryz.prog 415 "Len" = some (329,false):=by kernel_rfl
theorem RP:lp Tryz.prog 415 "Less" = some (523,false):=by kernel_rfl
theorem RQ:lp Tryz.prog 415 "Swap" = some (526,false):=by kernel_rfl
theorem awl:lp Tryz.prog 415 "Push" = some (525,true):=by kernel_rfl
theorem ayQ:lp Tryz.prog 415 "Pop" = some (524,true):=by kernel_rfl
theorem ahM:Tryz.prog.underlying 415=some (.pointer 370):=by kernel_rfl
theorem aAG:oq Tryz.prog 370=some none:=by kernel_rfl
theorem atK:wv Tryz.prog 417=true:=by kernel_rfl
section
variable {h:ae} {U bm:Nat} {v:X} {l bx:aa X}
theorem yE{m:String}{f:FuncId}(B:lp Tryz.prog 415 m=some (f,false))(D:u h bm=some (.cells (v::bx) false)):jm Q h U l m (.iface 415 (bf bm)) = .call f (v::l) h U:=by show HG "invoke - method" (lp Tryz.prog 415 m) (λg=>vy (rK Tryz.prog h 415 g.2 (bf bm)) (λy=>.call g.1 (y::l) h U))=_;rw[B];unfold rK;rw[ahM];show vy (R.of "type" (oq Tryz.prog 370) (λA=>iz A h (bf bm))) _=_;rw[aAG];show vy (iz none h (bf bm)) _=_;rw[Hc,D];rfl
theorem agx{m:String}{f:FuncId}(A:lp Tryz.prog 415 m=some (f,true)):jm Q h U l m (.iface 415 (bf bm)) = .call f ((bf bm)::l) h U:=by show HG "invoke - method" (lp Tryz.prog 415 m) (λg=>vy (rK Tryz.prog h 415 g.2 (bf bm)) (λy=>.call g.1 (y::l) h U))=_;rw[A];unfold rK;rw[ahM];rfl
end
def vu(h:ae)(ap:Nat)(x:e8):Prop:=∃b o aB bG cs c a,x.v = .slice (some ⟨b,o,aB⟩) (x.n+1) c/\b<ap/\u h b=some (.cells cs bG)/\cs[o]? = some (((a:Nat):X))/\x.k=(a:Int)*1000+(x.w:Int)/\x.w<1000
theorem vu.F{h ac:ae}{ap:Nat}{x:e8}(H:vu h ap x)(E:∀c,c<ap->u ac c=u h c):vu ac ap x:=by obtain⟨b,o,aB,bG,cs,c,a,g,B,D,A⟩:=H;exact⟨b,o,aB,bG,cs,c,a,g,B,ab,A⟩
theorem agy{h:ae}{i:Nat}{x:e8}(g:gN x.v=true)(ag:i<W.length):jQ (some (.cells (a7 hp W++cs) false)) h b (i*2) [x.v,(x.w:X)] = .ok (T h b (.cells (a7 hp (W.set i x)++cs) false)):=by
 have B:=fN  wB;have A:d4 [x.v,(x.w:X)]=true:=by rw[ry,g];rfl
 have:=Kf  wB cs x W i ag;rw[Lk A ab]
 grind
theorem QO{s:al}{h:ae}{U n:Nat}{a:aw Addr}:aE Q s 329 [.slice a n cap] h U (λr ac Y=>r = (n:X)/\ac=h/\Y=U):=by refine avy ?_;unfold afW;simp(disch:=omega)only[bk,seval]
theorem OZ{s:al}{h:ae}{U n ap:Nat}{i k:Nat}{x:e8}(E:u h b=some (.cells (a7 hp W++cs) false))(q8:b<U)(sY:ap<=U)(bw:W.length=n)(ag:W[i]? = some x)(M:W[k]? = some y)(aEh:vu h ap x)(aEi:vu h ap y):
  aE Q s 523 [.slice (some ⟨b,0,aB⟩) n cap,(i:X),(k:X)] h U (dI (.bool (decide (x.k<y.k))) U h):=by
 refine apL ?_;unfold acP;have aEj:=(fb.1 ag).1;have gx:=(fb.1 M).1;rw[bw]at aEj gx;obtain⟨dL,e7,sp1,ro1,cs1,c1,aD,aU,dK,I,V,dl,cT⟩:=aEh;obtain⟨b3,db,li,xt,zk,c2,a2,aK,dr,P,Z,e1,c8⟩:=aEi;have g:=afN (cs:=cs) ag;have A:=afN (cs:=cs) M;rw[aU]at g;rw[aK]at A;simp(disch:=omega)only[bk,E,g.1,g.2,A.1,A.2,I,P,V,Z,seval];refine QI.mono ?_;rintro _ _ _ ⟨rfl,D,B⟩;rw[D,B];refine⟨J,?_⟩;simp(disch:=omega)only[bk,E,g.1,g.2,A.1,A.2,I,P,V,Z,seval];refine QI.mono ?_;rintro _ _ _ ⟨rfl,D,B⟩;rw[D,B];refine⟨J,?_⟩;refine aG ?_;refine(Do (aR _ _ _)).mono ?_;rintro _ _ _ ⟨rfl,rfl,rfl⟩;refine⟨J,?_⟩;refine aG ?_;refine⟨?_,aM,J⟩
 congr 1
 rw[dl,e1,decide_eq_decide];unfold fV;omega
theorem O0{s:al}{h:ae}{U n:Nat}{i k:Nat}{x:e8}(B:u h b=some (.cells (a7 hp W++cs) false))(I:W.length=n)(ag:W[i]? = some x)(g:W[k]? = some y)(D:gN x.v=true)(E:gN y.v=true):
  aE Q s 526 [.slice (some ⟨b,0,aB⟩) n cap,(i:X),(k:X)] h U (λr ac Y=>r = .tuple ⟨[]⟩/\u ac b=some (.cells (a7 hp (s4 W i k x y)++cs) false)/\(∀c,c≠b->u ac c=u h c)/\Y=U):=by refine apN ?_;unfold acR;have A:=(fb.1 ag).1;have M:=(fb.1 g).1;simp(disch:=omega)only[bk,B,K2 ag,K2 g,seval];rw[agy E A,tK];rw[aR,agy D ab,tK];exact⟨aR _ _ _,ab⟩
abbrev tZ(bm:Nat):X:=.iface 415 (bf bm)
def mw(h:ae)(ap:Nat)(W:aa e8):Prop:=∀x∈W,vu h ap x
theorem mw.F{h ac:ae}{ap:Nat}{W:aa e8}(H:mw h ap W)(A:∀c,c<ap->u ac c=u h c):mw ac ap W:=λx g=>(H x g).F A
theorem mw.perm{h:ae}{ap:Nat}(H:mw h ap W)(p:b9.Perm W):mw h ap b9:=λx g=>H x ab
theorem vu.cell{h:ae}{ap:Nat}{x:e8}(H:vu h ap x):gN x.v=true:=by obtain⟨b,o,aB,bG,cs,c,a,g,_⟩:=H;rw[g];rfl
theorem mw.at{h:ae}{ap i:Nat}{x:e8}(H:mw h ap W)(g:W[i]? = some x):vu h ap x:=H x ab
theorem Ss{h ac:ae}{bm:Nat}{bx:aa X}(w:pc h bm b aB cap W cs bx)(B:u ac b=some (.cells (a7 hp b9++cs) false))(g:b9.length=W.length)(A:u ac bm=u h bm):pc ac bm b aB cap b9 cs bx :=
 ⟨by rw[A,g];exact w.cell,B,by rw[g];exact w.len,w.r1,w.ne⟩
theorem Hi{h ac:ae}{bm U:Nat}{bx:aa X}(w:pc h bm b aB cap W cs bx)(A:aA U h ac)(B:b<U)(g:bm<U):pc ac bm b aB cap W cs bx :=
 ⟨(A _ g).trans w.cell,(A _ B).trans w.ca,w.len,w.r1,w.ne⟩
theorem agz(h:m<1000000000):IntKind.wrap .i64 ((m:Int)-1)=(m:Int)-1:=by rw[nI];omega
theorem aAH(g:j<=100000):bin Q .quo 3 (.int .i64 ((j:Int)-1)) (.int .i64 2) = .ok (((eK j:Nat):X)):=by
 rw[Ar (by decide)];have:((j:Int)-1).tdiv 2=((eK j:Nat):Int):=by
  cases j with
  |zero=>rfl
  |succ j =>
   have e:((j+1:Nat):Int)-1=(j:Int):=J
   rw[e];rfl
 rw[this,show IntKind.wrap .i64 ((eK j:Nat):Int)=((eK j:Nat):Int) by rw[nI];grind]
def BS(b U:Nat)(h ac:ae)(Y:Nat):Prop:=(∀c,c<U->c≠b->u ac c=u h c)/\U<=Y
def UpJ(bm b ap:Nat)(aB:aw Nat)(cap:Nat)(W:aa e8)(cs bx:aa X)(h:ae)(U:Nat)(m:Nat)(aF:aa X)(ac:ae)(Y:Nat):Prop :=
 ∃(b9:aa e8),aF=[tZ bm,(m:X)]/\pc ac bm b aB cap b9 cs bx/\vr b9 m/\m<b9.length/\b9.Perm W/\BS b U h ac Y
def ayR(bm b:Nat)(aB:aw Nat)(cap:Nat)(W:aa e8)(cs bx:aa X)(h:ae)(U:Nat):bN:=λr ac Y=>r = .tuple ⟨[]⟩/\∃b9,pc ac bm b aB cap b9 cs bx/\ow b9/\b9.Perm W/\BS b U h ac Y
theorem awm{s:al}{h:ae}{U bm ap:Nat}{bx:aa X}(w:pc h bm b aB cap W cs bx)(zM:vr W j)(b5:j<W.length)(bo:W.length<=100000)(ok:mw h ap W)(sY:ap<=U)(UF:ap<=b)(rV:ap<=bm)(aW:b<U)(oN:bm<U):
  aE Q s 258 [tZ bm,(j:X)] h U (ayR bm b aB cap W cs bx h U):=by
 refine afT ?_;have eh:=w.ne;refine bE.mk (UpJ bm b ap aB cap W cs bx h U) j ⟨W,rfl,w,zM,b5,x2 _,ab,J⟩ ?_;rintro m _ ac Y ⟨b9,rfl,P,A,hm,M,bK,dv⟩;have g:mw ac ap b9:=(ok.F ab).perm M;rw[ad5];unfold Rt;have fO:=M.length_eq;obtain⟨y,E⟩:=dH hm;obtain⟨x,D⟩:=dH (l:=b9) (i:=eK m) (by unfold eK;omega);simp(disch:=omega)only[bk,agz (J:m<1000000000),aAH (J:m<=100000),yE RP P.cell,seval];refine⟨λau=>?_,λau=>?_⟩
 ·have I:m=0:=by
   have:((eK m:Nat):Int)=(m:Int):=ab
   unfold eK at this;omega
  exact⟨rfl,b9,P,A.done J,M,bK,dv⟩
 ·have I:0<m:=by
   rcases xZ m with e|e
   ·subst e;simp[eK]at au
   omega
  refine(OZ  P.ca J J rfl E D (g.at E) (g.at D)).mono ?_;rintro r h1 a5 ⟨rfl,B,fi⟩;have V:=Hi P B J J;simp(disch:=omega)only[bk,yE RQ V.cell,seval];refine⟨λeG=>?_,λcb=>?_⟩
  ·refine⟨rfl,b9,V,A.done λfK nV _ Bl HM=>?_,M,λc ao aT=>(B c J).trans ab,J⟩
   grind
  ·refine(O0 V.ca rfl D E (g.at D).cell (g.at E).cell).mono ?_;rintro r ao _ ⟨rfl,eR,Z,rfl⟩;have qb:eK m<m:=by unfold eK;omega
   exact⟨eK m,qb,_,rfl,Ss V eR (As _ _ _ _ _) ab,A.step I D E cb,by rw[As];omega,(Kh D E).trans M,λc aT a9=>by rw[Z c a9,B c J];grind,J⟩
def DnJ(bm b n:Nat)(aB:aw Nat)(cap:Nat)(W:aa e8)(cs bx:aa X)(h:ae)(U:Nat)(m:Nat)(aF:aa X)(ac:ae)(Y:Nat):Prop :=
 ∃(b9:aa e8) (i:Nat),m=n-i/\i<=n/\aF=[tZ bm,.int .i64 0,(n:X),(i:X)]/\pc ac bm b aB cap b9 cs bx/\ve b9 n i/\b9.Perm W/\b9[n]? = W[n]?/\BS b U h ac Y
def agA(bm b n:Nat)(aB:aw Nat)(cap:Nat)(W:aa e8)(cs bx:aa X)(h:ae)(U:Nat):bN:=λr ac Y=>∃b9,pc ac bm b aB cap b9 cs bx/\ow (b9.take n)/\b9.Perm W/\b9[n]? = W[n]?/\BS b U h ac Y
theorem apO{s:al}{h:ae}{U bm n ap:Nat}{bx:aa X}(w:pc h bm b aB cap W cs bx)(rn:ve W n 0)(bw:W.length=n+1)(bo:W.length<=100000)(ok:mw h ap W)(sY:ap<=U)(UF:ap<=b)(rV:ap<=bm)(aW:b<U)(oN:bm<U):
  aE Q s 257 [tZ bm,.int .i64 0,(n:X)] h U (agA bm b n aB cap W cs bx h U):=by
 refine abQ ?_;have eh:=w.ne;refine bE.mk (DnJ bm b n aB cap W cs bx h U) n ⟨W,0,rfl,J,rfl,w,rn,x2 _,rfl,ab,J⟩ ?_;rintro m _ ac Y ⟨b9,i,rfl,ag,rfl,a8,P,a6,g,bK,dv⟩;have ok':mw ac ap b9:=(ok.F ab).perm a6;rw[ZF];unfold Pl;have fO:=a6.length_eq;obtain⟨x,M⟩:=dH (l:=b9) (i:=i) J;have aU:(2:Int)*(i:Int)=((2*i:Nat):Int):=J
 have aK:IntKind.wrap .i64 ((2*i:Nat):Int)=((2*i:Nat):Int):=by rw[nI];omega
 refine tO @yk @aU @aK (cD (J:2*i<1000000000000)) (cD (J:2*i+1<1000000000000)) ?_;have tail:∀(I:ae) (a5 j:Nat) (y:e8),pc I bm b aB cap b9 cs bx->BS b U h I a5->eK j=i->0<j->j<n->b9[j]? = some y->(∀(c:Nat) (z:e8),0<c->c<n->eK c=i->b9[c]? = some z->y.k<=z.k) ->
   eQ Q s (jm Q I a5 [(j:X),(i:X)] "Less" (tZ bm)) λjf IA BO=>af (du .not jf) λlG=>br lG (af (bin Q .gtr 3 (bb [tZ bm,.int .i64 0,(n:X),(i:X)] 3) (bb [tZ bm,.int .i64 0,(n:X),(i:X)] 1)) λoK=>agA bm b n aB cap W cs bx h U oK IA BO) (eQ Q s (jm Q IA BO [(i:X),(j:X)] "Swap" (tZ bm)) λoL UG Ie =>
    ∃bD,bD<n-i/\DnJ bm b n aB cap W cs bx h U bD [tZ bm,.int .i64 0,(n:X),(j:X)] UG Ie):=by
  intro I a5 j y cT rZ Ef uh UH Z Hz;have Mr:i<j:=by unfold eK at Ef;omega
  have fi:=rZ.2;have B:mw I ap b9:=(ok.F λc a1=>rZ.1 c J J).perm a6;rw[yE RP cT.cell,qP];refine(OZ  cT.ca J J rfl Z M (B.at Z) (B.at M)).mono ?_;rintro r V bQ ⟨rfl,dD,f5⟩;have c8:=Hi cT dD J J;have nL:BS b U h V bQ:=⟨λc I V=>(dD c J).trans (rZ.1 c I V),J⟩
  simp(disch:=omega)only[bk,yE RQ c8.cell,seval];refine⟨λeG=>?_,λD=>?_⟩
  ·refine⟨b9,c8,P.done λc fK nV a1 xm q6 Bl HM=>?_,a6,g,nL⟩
   grind
  ·refine(O0 c8.ca rfl M Z (B.at M).cell (B.at Z).cell).mono ?_;rintro r aT _ ⟨rfl,mK,E,rfl⟩;refine⟨n-j,J,_,j,rfl,J,rfl,Ss c8 mK (As _ _ _ _ _) ab,P.step uh UH Ef M Z D Hz,(Kh M Z).trans a6,?_,λc a9 bY=>(E c bY).trans (nL.1 c a9 bY),J⟩;rw[Gv M Z J,if_neg J,if_neg J];omega
 have aAI:∀c,0<c->eK c=i->c=2*i+1\/c=2*i+2:=λc a1 h=>(anz a1).1 h;refine⟨λeG=>?_,λD=>?_⟩
 ·unfold CY;refine aG ?_;exact⟨b9,a8,P.done ab,a6,g,bK,dv⟩
 ·rw[hA (J:¬((2*i+1:Nat):Int)<0)];unfold CY;refine bl (cD (J:2*i+1<1000000000000)) ?_;obtain⟨cz,A⟩:=dH (l:=b9) (i:=2*i+1) J;refine⟨λV=>?_,λV=>?_⟩
  ·obtain⟨cE,zg⟩:=dH (l:=b9) (i:=2*i+1+1) J;rw[yE RP a8.cell,qP];refine(OZ  a8.ca J J rfl zg A (ok'.at zg) (ok'.at A)).mono ?_;rintro r aT bT ⟨rfl,eY,ga⟩;have iS:=Hi a8 eY J J;have E:BS b U h aT bT:=⟨λc I V=>(eY c J).trans ab,J⟩
   unfold CX;rw[yQ];refine⟨λa9=>tail aT bT _ cE iS E (by unfold eK;omega) J V zg ab,λa9=>tail aT bT _ cz iS E (by unfold eK;omega) J D A ab⟩
   all_goals grind
  ·unfold CX;rw[yQ];refine⟨λa9=>absurd a9 (by simp),λ_=>tail ac Y _ cz a8 ⟨bK,dv⟩ (by unfold eK;omega) J D A λc z a1 xm q6 c0=>?_⟩
   grind
theorem ame{y:X}:Ao Tryz.prog 417 true (.iface 417 y) = .ok (.tuple ⟨[y,.bool true]⟩):=by show(bif wv Tryz.prog 417&&Nat.beq 417 417 then R.ok (om true y true)else .no "typeAssert")=_;rw[atK];rfl
def vv(h:ae)(bm:Nat)(bx:aa X)(W:aa e8)(dw:aw Nat):Prop:=(dw=none/\W=[]/\u h bm=some (.cells (.slice none 0 0::bx) false))\/∃b aB cap cs,dw=some b/\pc h bm b aB cap W cs bx
def St(bm:Nat)(bx:aa X)(dw:aw Nat)(U:Nat)(h:ae)(p:aa e8->Prop):bN:=λr ac Y=>∃b9 se,vv ac bm bx b9 se/\p b9/\(se=dw\/∃b6,se=some b6/\U<=b6/\b6<Y)/\U<=Y/\∀c,c<U->c≠bm->dw≠some c->u ac c=u h c
theorem agB{h:ae}{bm:Nat}{v g:X}{bx:aa X}(A:gN g=true):jQ (some (.cells (v::bx) false)) h bm 0 [g] = .ok (T h bm (.cells (g::bx) false)):=by rw[Lk (by rw[ry,A];rfl) ab];rfl
theorem amf{s:al}{h:ae}{U bm:Nat}{x:e8}{bx:aa X}(w:vv h bm bx W dw)(aW:∀b,dw=some b->b<U)(oN:bm<U)(bo:W.length<1000)(E:gN x.v=true)(D:dn x.v=[x.v]):
  aE Q s 525 [bf bm,.iface 417 (.agg ⟨[x.v,(x.w:X)]⟩)] h U (St bm bx dw U h λb9=>b9=W++[x]):=by
 refine apM ?_;unfold acQ;rw[ame];rcases w with⟨rfl,rfl,a1⟩|⟨b,aB,cap,cs,rfl,w⟩
 ·have g:u (T (T h U (.cells [.slice none 0 0,.int .i64 0] false)) U (.cells [x.v,(x.w:X)] false)) bm=some (.cells (.slice none 0 0::bx) false):=ab
  refine hV @g @E @D ?_;refine mu  (enc:=λ_=>hp x)  (ap:=U+1+1) (l:=[]) ab (λ_=>by rw[ry,E];rfl) J (.inl ab) J () (aR _ _ _) rfl J λdX bY P h3=>?_;rcases P with⟨aL,rfl⟩|⟨b,g6,eR,rfl,aY⟩
  ·simp at aL
  ·have Z:u bY bm=some (.cells (.slice none 0 0::bx) false):=ab
   rw[Z];show _/\_/\af (jQ (some (.cells (.slice none 0 0::bx) false)) bY bm 0 [.slice (some ⟨b,0,some 2⟩) 1 1]) _;rw[agB rfl];refine⟨J,rfl,[x],some b,.inr ⟨b,some 2,1,[],rfl,⟨ab,?_,rfl,ab,J⟩⟩,rfl,ab,J,λc h1 ao _=>?_⟩
   ·rw[aq J,aY];rfl
   grind
 ·have eh:=w.ne;have q8:=aW b rfl;have g:u (T (T h U (.cells [.slice none 0 0,.int .i64 0] false)) U (.cells [x.v,(x.w:X)] false)) bm=some (.cells (.slice (some ⟨b,0,aB⟩) W.length cap::bx) false):=by rw[aq J,aq J];exact w.cell
  refine hV @g @E @D ?_;obtain⟨I,B,A,M,ac,Y,aU,aK,cc,d6,hd,hy,gI,Ci⟩:=art (h:=T (T (T h U (.cells [.slice none 0 0,.int .i64 0] false)) U (.cells [x.v,(x.w:X)] false)) (U+1) (.cells [x.v,(x.w:X)] false)) (U:=U+1+1) (b:=b)        (db:=0)  (by rw[aq J,aq J,aq J];exact w.ca) rfl w.len w.r1 J x E (aR _ _ _) rfl J;rw[aU];have V:u ac bm=some (.cells (.slice (some ⟨b,0,aB⟩) W.length cap::bx) false):=ab
  have ht:I≠bm:=J
  show U+1+1<=Y/\_/\af (jQ (u ac bm) ac bm 0 [.slice (some ⟨I,0,B⟩) (W.length+1) A]) _;rw[V,agB rfl];refine⟨hy,rfl,_,some I,.inr ⟨I,B,A,M,rfl,⟨?_,?_,cc,d6,ht⟩⟩,rfl,?_,J,ab⟩
  all_goals grind
theorem apP{s:al}{h:ae}{U bm n:Nat}{bx:aa X}(w:pc h bm b aB cap W cs bx)(aW:b<U)(oN:bm<U)(Z:W.length=n+1)(bo:W.length<100000){ap:Nat}(ok:mw h ap W):
  aE Q s 524 [bf bm] h U (λr ac Y=>∃P,pc ac bm b aB cap (W.take n) P bx/\Y=U+1/\∀c,c<U->c≠bm->u ac c=u h c):=by
 refine atJ ?_;unfold ae2;have D:=w.ne;have e:IntKind.wrap .i64 ((W.length:Int)-1)=(n:Int):=by rw[nI];omega
 obtain⟨x,E⟩:=dH (l:=W) (i:=n) J;have xj:=w.len;have I:=(ok.at E).cell;have M:dn x.v=[x.v]:=by obtain⟨_,_,_,_,_,_,_,V,_⟩:=ok.at E;rw[V];rfl
 have g:u (T (T h U (.cells [.slice none 0 0,.int .i64 0] false)) U (.cells [x.v,(x.w:X)] false)) bm=some (.cells (.slice (some ⟨b,0,aB⟩) W.length cap::bx) false):=by rw[aq J,aq J];exact w.cell
 have A:=aru (b:=b) (aB:=aB) (n:=n) (cap:=cap) J;rw[Z]at g e;have B:=w.cell;rw[Z]at B;simp(disch:=omega)only[bk,B,e,w.ca,K2 E,I,M,g,A,seval];have ip:W=W.take n++[x]:=by
  have V:W.take (n+1)=W.take n++[x]:=by rw[gW,E];rfl
  grind
 refine⟨J,hp x++cs,⟨ab,?_,?_,w.r1,D⟩,ab⟩
 ·rw[aq D,aq J,aq J,w.ca]
  conv=>lhs;rw[ip]
  rw[o4,kl]
 grind
theorem apQ{s:al}{h:ae}{U bm ap:Nat}{x:e8}{bx:aa X}(w:vv h bm bx W dw)(aW:∀b,dw=some b->ap<=b/\b<U)(oN:bm<U)(rV:ap<=bm)(sY:ap<=U)(bo:W.length<1000)(fu:ow W)(ok:mw h ap (W++[x])):
  aE Q s 171 [tZ bm,.iface 417 (.agg ⟨[x.v,(x.w:X)]⟩)] h U (St bm bx dw U h λb9=>ow b9/\b9.Perm (W++[x])):=by
 refine arT ?_;unfold ad0;have B:=ok x ab;have hxc:dn x.v=[x.v]:=by obtain⟨_,_,_,_,_,_,_,M,_⟩:=B;rw[M];rfl
 rw[agx awl,qP];refine(amf w ab oN bo B.cell hxc).mono ?_;rintro r M a5 ⟨b9,se,P,rfl,aU,aK,cc⟩;rcases P with⟨_,au,_⟩|⟨D,IB,E,l3,rfl,P⟩
 ·simp at au
 have g:ap<=D/\D<a5:=ab
 rw[yE agw P.cell,qP];refine QO.mono ?_;rintro r _ _ ⟨rfl,gl,eM⟩;rw[gl,eM];have I:(W++[x]).length=W.length+1:=by simp
 rw[I];have e:IntKind.wrap .i64 (((W.length+1:Nat):Int)-1)=(W.length:Int):=by rw[nI];omega
 refine bl @e ?_;have Z:mw M ap (W++[x]):=ok.F ab;refine(awm P (vr.push  fu) J J Z J g.1 rV g.2 J).mono ?_;rintro r ao bQ ⟨rfl,b9,c8,l7,V,A⟩;have f5:=A.2;refine⟨b9,some D,.inr ⟨D,IB,E,l3,rfl,c8⟩,⟨l7,V⟩,?_,J,λc M ao aT=>?_⟩
 ·grind
 ·have hcb:c≠D:=ab
  exact(A.1 c J hcb).trans ab
theorem atL{s:al}{h:ae}{U bm ap:Nat}{p:e8}{bx:aa X}(w:pc h bm b aB cap W cs bx)(aW:b<U)(UF:ap<=b)(oN:bm<U)(rV:ap<=bm)(sY:ap<=U)(bo:W.length<1000)(fu:ow W)(ok:mw h ap W)(hs:W[0]? = some p):
  aE Q s 170 [tZ bm] h U (λr ac Y=>∃l3 b9,pc ac bm b aB cap b9 l3 bx/\ow b9/\(p::b9).Perm W/\U<=Y/\∀c,c<U->c≠b->c≠bm->u ac c=u h c):=by
 refine avt ?_;unfold afS;have eh:=w.ne;obtain⟨n,bw⟩:∃n,W.length=n+1:=⟨W.length-1,ab⟩
 obtain⟨q,E⟩:=dH (l:=W) (i:=n) J;have g:=w.cell;rw[yE agw g,qP];refine QO.mono ?_;rintro r eT gD ⟨rfl,aU,aK⟩;rw[aU,aK];have e:IntKind.wrap .i64 ((W.length:Int)-1)=(n:Int):=by rw[nI];omega
 simp(disch:=omega)only[bk,e,yE RQ g,seval];have qc:aE Q s 526 [.slice (some ⟨b,0,aB⟩) W.length cap,((0:Nat):X),(n:X)] h U _:=O0  w.ca rfl hs E (ok.at hs).cell (ok.at E).cell;refine qc.mono ?_;rintro r V _ ⟨rfl,g6,rZ,rfl⟩;have cT:=Ss w g6 (As _ _ _ _ _) ab;have I:mw V ap (s4 W 0 n p q):=(ok.F ab).perm (Kh hs E);refine(apO cT (ve.pop fu bw hs E) (by rw[As];omega) (by rw[As];omega) I sY UF rV aW oN).mono ?_;rintro r Z bQ ⟨A,c8,l7,B,rT,D⟩;have f5:=D.2;rw[agx ayQ,qP];have M:=B.length_eq;rw[As]at M;have ok2:mw Z ap A:=(I.F λc a1=>D.1 c J J).perm B;refine(apP (n:=n) c8 J J J J ok2).mono ?_;rintro r aT _ ⟨xx,iS,rfl,vH⟩;refine⟨xx,A.take n,iS,l7,?_,J,λc V Z aT=>by rw[vH c J aT,D.1 c V Z,rZ c Z]⟩
 by_cases ky:n=0
 ·subst ky;rw[sz];have:W=[p]:=by
   match W,bw,hs with
   | [a],_,h=>grind
  rw[this]
 have bd:A[n]? = some p:=by rw[rT,Gv hs E J,if_pos rfl]
 have ip:A=A.take n++[p]:=by
  have V:A.take (n+1)=A.take n++[p]:=by rw[gW,bd];rfl
  grind
 have P:(p::A.take n).Perm (A.take n++[p]):=(Jn  (l₂:=[p])).symm;rw[<-ip]at P;exact(P.trans B).trans (Kh hs E)
def mL{az:Type}(h:ae)(U:Nat)(v:X)(enc:az->aa X)(k:Nat)(l:aa az):Prop :=
 ∃a c,v = .slice a l.length c/\(l≠[]->∃b o aB bG cs,b<U/\a=some ⟨b,o,aB⟩/\aB≠some 0/\l.length<=c/\u h b=some (.cells cs bG)/\o+l.length*k<=cs.length/\(cs.drop o).take (l.length*k)=a7 enc l)
section
variable {az:Type} {h ac:ae} {U Y k:Nat} {v:X} {enc:az->aa X} {l:aa az}
theorem mL.o(H:mL h U v enc k l):ep h U v enc k l:=by obtain⟨a,c,e,H⟩:=H;exact⟨a,c,e,λg=>ab⟩
theorem mL.F(H:mL h U v enc k l)(B:∀c,c<U->u ac c=u h c)(A:U<=Y):mL ac Y v enc k l:=by obtain⟨a,c,e,H⟩:=H;exact⟨a,c,e,λg=>ab⟩
theorem eb.c{ap ag:Nat}(B:0<k)(g:∀x,(enc x).length=k)(H:eb h v enc k l ap ag):mL h ag v enc k l:=by
 rcases H with⟨rfl,rfl⟩|⟨b,E,D,rfl,A⟩
 ·exact⟨_,_,rfl,λh=>absurd rfl h⟩
 ·exact⟨_,_,rfl,λ_=>⟨b,0,some k,false,_,D,rfl,ab,J,A,by rw[fN g];omega,by rw[oe,o2 (by rw[fN g];omega)]⟩⟩
theorem mL.tail{x:az}(hk:∀x,(enc x).length=k)(H:mL h U v enc k (x::l)):∃w,gi k v (some (.int .i64 1)) none none = .ok w/\mL h U w enc k l:=by
 obtain⟨a,c,rfl,H⟩:=H;obtain⟨b,o,aB,bG,cs,E,rfl,D,V,P,cy,B⟩:=H (by simp);have g:(x::l).length=l.length+1:=rfl;rw[g]at V cy B;show ∃w,gi k (.slice (some ⟨b,o,aB⟩) (l.length+1) c) (some (.int .i64 1)) none none = .ok w/\_;have e:gi k (.slice (some ⟨b,o,aB⟩) (l.length+1) c) (some (.int .i64 1)) none none=k6 k (some ⟨b,o,aB⟩) c false c (l.length+1) 1:=rfl;rw[e];clear e;unfold k6;rw[show(Nat.ble c c&&(Nat.ble (l.length+1) c&&Nat.ble 1 (l.length+1)))=true by simp;omega];unfold o6
 by_cases e:c=1
 ·have M:l=[]:=by
   cases l with
   |nil=>rfl
   |cons y l=>grind
  subst M;subst e;unfold k5 An xf L7;cases aB with
  |none=>exact⟨.slice (Gj (some ⟨b,o,none⟩) 0 false) 0 0,by simp,_,_,rfl,λh=>absurd rfl h⟩
  |some q =>
   cases q with
   |zero=>exact absurd rfl D
   |succ q=>exact⟨.slice (some ⟨b,o,some 0⟩) 0 0,by simp,_,_,rfl,λh=>absurd rfl h⟩
 ·have A:Nat.beq c 1=false:=by
   cases A:Nat.beq c 1 with
   |true=>exact absurd (gr A) e
   |false=>rfl
  rw[A];refine⟨_,rfl,some ⟨b,o+1*k,aB⟩,c-1,rfl,λI=>⟨b,_,aB,bG,cs,E,rfl,D,J,P,?_,?_⟩⟩
  ·grind
  ·rw[z8,uR]at B;have Z:(cs.drop o).take (l.length*k+k)=enc x++a7 enc l:=B;have k0:((cs.drop o).drop k).take (l.length*k)=a7 enc l:=by
    have:=congrArg (λz=>z.drop k) Z
    grind
   rw[uR,<-x3];omega
end
theorem amg{s:al}{l:aa (Nat × Int)}{v:X}{h:ae}{U:Nat}(V:ep h U v eO 3 l)(bo:l.length<1000000)(d5:l.Pairwise λx y=>x.1<y.1):aE Q s 327 [v] h U (fs (.bool true) U h):=by
 refine an1 ?_;unfold abS;obtain⟨bg,cap,rfl,a1⟩:=id V;refine aG ?_;refine bE.mk (λm aF ac Y=>∃i,m=l.length-i/\i<=l.length/\aF=[.slice bg l.length cap,.bool false,(l.length:X),(i:X)]/\ac=h/\Y=U) l.length ⟨0,J,J,rfl,rfl,rfl⟩ ?_;rintro _ _ ao bQ ⟨i,rfl,ag,rfl,gl,Z⟩;rw[ale,gl,Z];unfold Yp;refine aG ?_;refine⟨λcb=>?_,λeG=>⟨rfl,rfl,rfl⟩⟩;obtain⟨b,o,aB,bG,cs,P,aW,aU,aY,g⟩:=V.all (λ_=>rfl) ab;cases aU;have fin:∃M,M<l.length-i/\∃A,M=l.length-A/\A<=l.length/\[Value.slice (some ⟨b,o,aB⟩) l.length cap,.bool false,(l.length:X),.int .i64 (IntKind.wrap .i64 ((i:Int)+1))]=[.slice (some ⟨b,o,aB⟩) l.length cap,.bool false,(l.length:X),(A:X)]:=⟨_,J,i+1,rfl,J,by rw[cD J]⟩
 refine⟨λa6=>?_,λ_=>fin⟩;obtain⟨j,rfl⟩:∃j,i=j+1:=⟨i-1,J⟩
 obtain⟨p,D⟩:=dH (l:=l) (i:=j) J;obtain⟨q,E⟩:=dH   J;have I:=(g j p D).2 0 _ J rfl;have c2:=(g (j+1) q E).2 0 _ J rfl;rw[og]at I c2;have B:p.1<q.1:=by
  rw[Cw]at d5
  grind
 have cu:IntKind.wrap .i64 (((j+1:Nat):Int)-1)=(j:Int):=by rw[nI];omega
 refine ls @cu @aY @I @c2 ?_;exact⟨λh=>absurd B h,λ_=>fin⟩
def LW(v:X)(w:Nat)(l:aa (Nat × Int)):e8:=⟨v,w,(((l.getD 0 (0,0)).1:Nat):Int)*1000+(w:Int),l.length-1,l⟩
def zs(h:ae)(ap:Nat)(x:e8):Prop:=mL h ap x.v eO 3 x.l/\x.l≠[]/\x.w<1000/\x=LW x.v x.w x.l/\x.l.Pairwise λa b=>a.1<b.1
theorem zs.F{h ac:ae}{ap:Nat}{x:e8}(H:zs h ap x)(g:∀c,c<ap->u ac c=u h c):zs ac ap x:=⟨H.1.F g J,H.2⟩
theorem zs.ok{h:ae}{ap:Nat}{x:e8}(H:zs h ap x):vu h ap x:=by
 obtain⟨E,A,M,e,_⟩:=H;obtain⟨b,o,aB,bG,cs,cap,B,P,D,g⟩:=E.o.all (λ_=>rfl) A;cases I:x.l with
 |nil=>exact absurd I A
 |cons p l =>
  have V:=(g 0 p ab).2 0 _ J rfl;have Z:x.n=l.length:=by rw[e];show x.l.length-1=_;grind
  have cu:x.k=(p.1:Int)*1000+(x.w:Int):=by rw[e];show(((x.l.getD 0 (0,0)).1:Nat):Int)*1000+(x.w:Int)=_;grind
  refine⟨b,o,aB,bG,cs,cap,p.1,?_,B,D,?_,cu,M⟩
  all_goals grind
def p7(h:ae)(ap:Nat)(W:aa e8):Prop:=∀x∈W,zs h ap x
theorem p7.ok{h:ae}{ap:Nat}{W:aa e8}(H:p7 h ap W):mw h ap W:=λx g=>(H x g).ok
theorem p7.F{h ac:ae}{ap:Nat}{W:aa e8}(H:p7 h ap W)(A:∀c,c<ap->u ac c=u h c):p7 ac ap W:=λx g=>(H x g).F A
theorem p7.perm{h:ae}{ap:Nat}(H:p7 h ap W)(p:b9.Perm W):p7 h ap b9:=λx g=>H x ab
def left(W:aa e8):aa (Nat × Int):=W.flatMap (·.l)
theorem YM(h:b9.Perm W):(left b9).Perm (left W):=h.flatMap_right _
theorem apR:ow ([]:aa e8):=⟨ab⟩
def ns(h:ae)(v:X)(l:aa (Nat × Int))(aQ:aw Nat):Prop:=(l=[]/\v = .slice none 0 0/\aQ=none)\/∃b,aQ=some b/\v = .slice (some ⟨b,0,some 3⟩) l.length l.length/\u h b=some (.cells (a7 eO l) false)
theorem ns.F{h ac:ae}{v:X}{l:aa (Nat × Int)}{g:aw Nat}(H:ns h v l g)(E:∀b,g=some b->u ac b=u h b):ns ac v l g:=by
 rcases H with H|⟨b,A,B,D⟩
 ·exact .inl H
 ·exact .inr ⟨b,A,B,ab⟩
theorem acS{s:al}{h:ae}{U bm ap w:Nat}{v:X}{l:aa (Nat × Int)}{bx:aa X}(H:vv h bm bx W dw)(aW:∀b,dw=some b->ap<=b/\b<U)(V:bm<U)(E:ap<=bm)(M:ap<=U)(bo:W.length<1000)(fu:ow W)(eN:p7 h ap W)(aI:mL h ap v eO 3 l)(bO:w<1000)(d5:l.Pairwise λa b=>a.1<b.1):
  aE Q s 328 [bf bm,v,(w:X)] h U (St bm bx dw U h λb9=>ow b9/\(left b9).Perm (left W++l)/\b9.length<=W.length+1/\(∀ac,(∀c,c<ap->u ac c=u h c)->p7 ac ap b9)):=by
 refine avx ?_;unfold afV;obtain⟨a,c,rfl,hv'⟩:=id aI;refine aG ?_;refine⟨λvG=>?_,λdv=>?_⟩
 ·have eh:l≠[]:=ab
  have bd:zs h ap (LW (.slice a l.length c) w l):=⟨aI,eh,bO,rfl,d5⟩
  have g:p7 h ap (W++[LW (.slice a l.length c) w l]):=λx I=>by
   rcases he.1 I with A|A
   ·exact eN x A
   ·rw[iu.1 A];exact bd
  refine(apQ  H aW V E M bo fu g.ok).mono ?_;rintro r A a5 ⟨b9,Z,a8,⟨B,P⟩,aU,aK,cc⟩;refine⟨b9,Z,a8,⟨B,?_,?_,λac D=>(g.F D).perm P⟩,aU,aK,cc⟩
  ·have:=YM P;unfold left at this ⊢;rw[Jr]at this;simpa[LW]using this
  ·rw[P.length_eq];simp
 ·have:l=[]:=by
   cases l with
   |nil=>rfl
   |cons p l=>grind
  subst this;refine⟨W,dw,H,⟨fu,by simp,J,λac D=>eN.F D⟩,ab,J,ab⟩
def HA(h:ae)(U ap bm:Nat)(r:Int)(W:aa e8)(O:aa (Nat × Int))(dw:aw Nat):Prop:=∃out aQ,vv h bm [(r:X),out] W dw/\ow W/\p7 h ap W/\ns h out O aQ/\(∀b,dw=some b->ap<=b/\b<U)/\(∀b,aQ=some b->ap<=b/\b<U/\b≠bm/\dw≠some b)
end Go.Proofs.YthlhhajnbgjfmaaGreat
