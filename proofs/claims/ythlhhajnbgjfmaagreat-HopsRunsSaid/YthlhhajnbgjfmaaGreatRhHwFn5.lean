/- Parts of the proof: HwFn5: each statement bears its own conditions. -/
import Derived.Test.YthlhhajnbgjfmaaGreatRhHwFn4
namespace Go.Proofs.YthlhhajnbgjfmaaGreat
open Go Go.Ax Go.Ax.HdH
set_option linter.all false
set_option maxHeartbeats 1000000
set_option maxRecDepth 1000000
variable {ag:aa GE} {cs:aa X} {W:aa e3} {aS:aw Nat} {a b cap j m r cN:Nat} {w:X} {p:Nat × Int} {cj:Nat} {dp:aa e3} {du:aw Nat} {K:X->ae->Nat->Prop} {L:aa (Nat × Int)} {ro:al} {R C fk:Nat} {S:ae->Nat->Prop} {q:Nat->al} {eJ:X} {er:Nat} {N:aP} {a2 bm a6 aZ:X} {aE:aP} {G:Nat} {y:e3}
def rP(a:Nat)(p:Nat × Int):Nat × Int:=(a+p.1,p.2)
theorem x1(a:Nat)(f:Nat->aw Int):∀b,bq (a+b) f=bq a f++(bq b λk=>f (a+k)).map (rP a)
 |0=>by simp[aw6]
 |b+1=>by
  rw[show a+(b+1)=(a+b)+1 from rfl,ty,x1 a f b,ty,iK,kA];cases h:f (a+b) <;> simp[rP]
theorem Kz{n k:Nat}{f:Nat->aw Int}{x:Int}(E:a<=n)(h:(bq n f)[j]? = some (k,x)):k<a↔j<(bq a f).length:=by
 obtain⟨b,rfl⟩:∃b,n=a+b:=⟨n-a,J⟩
 rw[x1]at h;constructor
 ·intro D;rcases h8 j (bq a f).length with g|g
  ·omega
  ·rw[EQ g,sa,l9]at h;obtain⟨p,_,A⟩:=h;unfold rP at A
   grind
 ·intro B;rw[xJ B]at h;exact(wq h).1
theorem QA{s:al}{a b:Int}{h:ae}{U:Nat}:aH Q s 242 [(a:X),(b:X)] h U (fr (.int .i64 (fR a b)) U h):=by
 have g:∀{n:Int} {K:bR},K (.bool false) h U->aH Q s 345 [(n:X)] h U K:=λ{n K} hk=>by refine aet ?_;unfold Sc;simp(disch:=omega)only[bl,q5,seval];exact hk
 refine auO ?_;unfold afF fR;refine g (g ?_);refine aD ?_;refine⟨λA=>?_,λA=>⟨λB=>?_,λB=>?_⟩⟩
 ·rw[if_pos A];exact⟨rfl,rfl,rfl⟩
 ·rw[if_neg J,if_pos J];exact⟨rfl,rfl,rfl⟩
 ·rw[if_neg J,if_neg J];exact⟨rfl,rfl,rfl⟩
theorem Yp{s:al}{x:Nat × Int}{a:Int}{h:ae}{U:Nat}:aH Q s 486 [.agg ⟨fG x⟩,(a:X)] h U (dJ (.int .i64 (fR (x.1:Int) a)) U h):=by refine aoJ ?_;unfold acr fG;refine aD ?_;refine QA.mono ?_;rintro _ _ _ ⟨rfl,rfl,rfl⟩;exact⟨rfl,aN,J⟩
def BsJ(l:aa (Nat × Int))(v dr ka:X)(a:Nat)(au:ae)(a4:Nat)(m:Nat)(aF:aa X)(ac:ae)(Y:Nat):Prop :=
 ∃ao aj:Nat,m=aj-ao/\ao<=aj/\aj<=l.length/\aF=[v,dr,ka,(l.length:X),(ao:X),(aj:X)]/\(∀j k x,l[j]? = some (k,x)->j<ao->k<a)/\(∀j k x,l[j]? = some (k,x)->aj<=j->a<=k)/\aA a4 au ac/\a4<=Y
theorem Py{s:al}{n:Nat}{v:X}{x:Nat->aw Int}{h:ae}{U:Nat}(aG:jU h U v n x)(bv:n<=4096)(cW:a<=n):
  aH Q s 458 [v,(a:X)] h U (λr ac Y=>∃b,r = .tuple ⟨[.int .i64 ((bq a x).length:Int),.bool b]⟩/\(a<n->b=(x a).isSome)/\aA U h ac/\U<=Y):=by
 refine asH ?_;obtain⟨gN,rfl,aq⟩:=aG;obtain⟨bk,cap,rfl,a1⟩:=id aq;unfold aeK;refine aD ?_;have gz:=me n x;have bT:∀{o},aA U h (F h U o):=aN
 refine(ahL (K:=λr ac Y=>∃b,r = .tuple ⟨[.int .i64 ((bq a x).length:Int),.bool b]⟩/\(a<n->b=(x a).isSome)/\aA U h ac/\U<=Y) ?_).mono ?_
 ·unfold Wd;refine aD ?_;refine bC.mk (BsJ (bq n x) (.slice bk (bq n x).length cap) (a:X) (.func (.func 486) ⟨[]⟩ ⟨[]⟩) a h U) (bq n x).length ⟨0,(bq n x).length,rfl,J,J,rfl,J,ab,bT,J⟩ ?_;rintro _ _ h1 a5 ⟨ao,aj,rfl,dO,Z,rfl,I,eZ,P,qR⟩;have xf:=aq.T P qR;rw[ahK];unfold Wc;refine aD ?_;refine⟨λct=>?_,λeM=>?_⟩
  ·have fb:IntKind.wrap .i64 ((ao:Int)+(aj:Int))=((ao+aj:Nat):Int):=by rw[<-vZ];exact iY _ J
   have Ia:IntKind.wrap .u64 ((ao+aj:Nat):Int)=((ao+aj:Nat):Int):=CU J;have ew3:IntKind.wrap .i64 (((ao+aj) / 2:Nat):Int)=(((ao+aj) / 2:Nat):Int):=iY _ J;obtain⟨⟨k,y⟩,g⟩:=dR (l:=bq n x) (i:=(ao+aj) / 2) J;obtain⟨b,o,aS,ro,cs,kZ,aO,aW,a9,D⟩:=xf.ld (λ_=>rfl) g;cases aW;refine AA @fb @Ia @O7 @ew3 @a9 @D ?_;refine Yp.mono ?_;rintro _ ap bX ⟨rfl,V,fg⟩;have e1:=P.trans V J;unfold fR
   by_cases hka:k<a
   ·rw[if_pos J];refine bh (cv (J:(ao+aj) / 2<1000000000000)) ?_;refine⟨?_,λh=>absurd trivial h⟩;refine⟨_,?_,(ao+aj) / 2+1,aj,rfl,J,Z,rfl,λj di qU M Ie=>?_,eZ,e1,J⟩
    ·omega
    ·by_cases E:j<(ao+aj) / 2
     ·have:=u2 M g E;omega
     grind
   ·rw[if_neg J];refine aD ?_;refine⟨λa1=>by exfalso;omega,λ_=>?_⟩;refine⟨_,?_,ao,(ao+aj) / 2,rfl,J,J,rfl,I,λj di qU M Ie=>?_,e1,J⟩
    ·omega
    ·by_cases E:(ao+aj) / 2<j
     ·have:=u2 g M E;omega
     grind
  ·have:aj=ao:=J
   subst this;have B:aj=(bq a x).length:=by
    rcases zJ aj (bq a x).length with aM|aM|aM
    ·obtain⟨⟨k,y⟩,g⟩:=dR (l:=bq n x) (i:=aj) (by
      have:(bq a x).length<=(bq n x).length:=by
       obtain⟨b,rfl⟩:∃b,n=a+b:=⟨n-a,J⟩
       rw[x1,jd];omega
      omega)
     have bc:=eZ aj k y g (cD _);have b3:=(Kz cW g).2 aM;omega
    ·omega
    ·obtain⟨⟨k,y⟩,g⟩:=dR (l:=bq n x) (i:=(bq a x).length) J;have bc:=I _ k y g aM;have b3:=(Kz cW g).1 bc;omega
   rw[B]at I eZ Z;rw[B];have here:∀k y,(bq n x)[(bq a x).length]? = some (k,y)->a<n->(x a).isSome=decide (k=a):=λk y g A=>by
    have bc:=eZ _ k y g (cD _)
    by_cases e:k=a
    ·subst e;rw[(wq g).2];simp
    ·cases aY:x a with
     |none=>grind
     |some z =>
      exfalso;obtain⟨j,M⟩:=EU.1 (jS.2 ⟨A,aY⟩);have b3:¬j<(bq a x).length:=ab
      by_cases cy:j=(bq a x).length
      ·grind
      ·have:=u2 g M J;omega
   refine⟨λbA=>?_,λbA=>?_⟩
   ·obtain⟨⟨k,y⟩,g⟩:=dR   J;obtain⟨b,o,aS,ro,cs,kZ,aO,aW,a9,D⟩:=xf.ld (λ_=>rfl) g;cases aW;refine cQ @a9 @D ?_;refine Yp.mono ?_;rintro _ ap bX ⟨rfl,V,fg⟩;refine aD ?_;refine⟨_,rfl,λA=>?_,aN,J⟩;rw[here k y g A];unfold fR
    grind
   ·refine⟨false,rfl,λA=>?_,P,qR⟩;cases aY:x a with
    |none=>rfl
    |some z =>
     exfalso;obtain⟨j,M⟩:=EU.1 (jS.2 ⟨A,aY⟩)
     grind
 ·rintro _ ap bX ⟨b,rfl,aO,P,dO⟩;refine aD ?_;exact⟨b,rfl,aO,P,dO⟩
theorem asI{s:al}{n:Nat}{v:X}{x:Nat->aw Int}{h:ae}{U:Nat}(aG:jU h U v n x)(bv:n<=4096)(Z:a<n):
  aH Q s 401 [v,(a:X)] h U (dJ (.tuple ⟨[.int .i64 ((x a).getD 0),.bool (x a).isSome]⟩) U h):=by
 refine avo ?_;have B:=aG;obtain⟨gN,rfl,aq⟩:=aG;obtain⟨bk,cap,rfl,a1⟩:=id aq;unfold af6;refine aD ?_;have bT:∀{o},aA U h (F h U o):=aN
 refine(J7 (B.T bT J) bv).mono ?_;rintro _ h1 a5 ⟨rfl,hk,dO⟩;have V:=hk U J;rw[aT]at V;refine bh @V ?_;have cP:∀{o},aA U h (F h1 U o):=aN
 refine(Py (B.T cP J) bv J).mono ?_;rintro _ ap bX ⟨b,rfl,D,A,fg⟩;have D:=D Z;subst D;have g2:=A U J;rw[aT]at g2;have P:=cP.trans A J;cases aY:x a with
 |none =>
  simp(disch:=omega)only[bl,Ca,seval];exact⟨rfl,P,J⟩
 |some y =>
  obtain⟨j,E⟩:=EU.1 (jS.2 ⟨Z,aY⟩);have b3:¬j<(bq a x).length:=λM=>by have:=(Kz J E).2 M;omega
  have M:j=(bq a x).length:=by
   by_cases ev:(bq a x).length<j
   ·obtain⟨⟨k,z⟩,cL⟩:=dR (l:=bq n x) (i:=(bq a x).length) ab;have m8:=u2 cL E ev;have kP:=(Kz J cL).1 m8;omega
   omega
  subst M;obtain⟨b,o,aS,ro,cs,kZ,D,aW,a9,g⟩:=(aq.T P (Y:=bX) J).ld (λ_=>rfl) E;cases aW;have ct:=(hn.1 E).1;have I:cs[o+(bq a x).length*2+1]? = some (y:X):=by
   rw[pq]at g
   split at g
   ·injection g with g
    injection g with g
    have kP:=congrArg (λl:Array X=>l.toList[1]?) g;simp[fG]at kP;omega
   grind
  simp(disch:=omega)only[bl,NJ,g2,a9,I,seval];exact⟨rfl,P,J⟩
theorem tyI:m9 Q 95=true:=by kernel_rfl
theorem Ci{s:al}{h:ae}{U:Nat}{v:X}{l:aa (Nat × Int)}(B:el h U v fG 2 l)(E:l.length<10000):
  aH Q s 217 [v] h U (λr ac Y=>iF ac U Y r fG 2 l/\aA U h ac/\U<=Y):=by refine ald ?_;exact acj (K:=λr ac Y=>iF ac U Y r fG 2 l/\aA U h ac/\U<=Y) B (λ_=>rfl) J J tyI λr ac Y A g D=>⟨A,g,D⟩
theorem Sd{az:Type}{enc:az->aa X}{k:Nat}(g:∀x,(enc x).length=k)(B:∀x,ee (enc x)=true){h:ae}{i:Nat}{l:aa az}{y:az}(aj:i<l.length):j4 (some (.cells (bd enc l) false)) h b (i*k) (enc y) = .ok (F h b (.cells (bd enc (l.set i y)) false)):=by have A:=Pa g [] y l i aj;rw[h6,h6]at A;have E:=gc g l;have D:(i+1)*k<=l.length*k:=qk k aj;rw[zM]at D;rw[K3 (B y) ab,g,A]
def azJ(ka:X)(a:aw Addr)(cap cN Uo n:Nat)(l:aa (Nat × Int))(g:Nat × Int->Nat × Int)(U a4:Nat)(au:ae)(m:Nat)(aF:aa X)(ac:ae)(Y:Nat):Prop :=
 ∃i,m=l.length-i/\i<=l.length/\aF=[ka,bf cN,bf Uo,.slice a l.length cap,(l.length:X),(i:X)]/\u ac Uo=some (.cells [(n:X),.slice a l.length cap] false)/\u ac cN=some (.cells [.int .i64 0,.slice none 0 0] false) /\
  (l≠[]->∃b,U+1<b/\b<Uo/\a=some ⟨b,0,some 2⟩/\u ac b=some (.cells (bd fG ((l.take i).map g++l.drop i)) false))/\aA U au ac/\a4<=Y
theorem aai{s:al}{n:Nat}{x:Nat->aw Int}{v:X}{g:Nat × Int->Nat × Int}{h:ae}{U:Nat}(aG:jU h U v n x)(bv:n<=4096)(bE:∀p P a5,p∈bq n x->aA U h P->U<=a5->aH Q true er (.agg ⟨fG p⟩::cs) P a5 (dJ (.agg ⟨fG (g p)⟩) a5 P)):
  aH Q s 445 [v,.func (.func er) ⟨[]⟩ ⟨cs⟩] h U (λr ac Y=>∃w,r = .agg ⟨[(n:X),w]⟩/\eG ac U Y w fG ((bq n x).map g)/\aA U h ac/\U<=Y):=by
 refine asE ?_;have ia:=aG;obtain⟨gN,rfl,aq⟩:=aG;obtain⟨bk,cap,rfl,a1⟩:=id aq;have gz:=me n x;have bT:∀{o a0},aA U h (F (F h U o) (U+1) a0):=aN
 unfold aeH;refine aD ?_;refine(J7 (ia.T bT J) bv).mono ?_;rintro _ P a5 ⟨rfl,d0,f0⟩;have cJ:=d0 U J;rw[ar J,aT]at cJ;have ed:=d0 (U+1) J;rw[aT]at ed;refine bh @cJ ?_;have cP:∀{o},aA U h (F P U o):=aN
 refine(Ci (aq.T cP  J) J).mono ?_;rintro _ ap Z ⟨hK,I,fg⟩;obtain⟨a,c2,rfl⟩:=hK.form;have Ml:=I U J;rw[aT]at Ml;have HV:=I (U+1) J;rw[ar J,ed]at HV;refine⟨fg,?_⟩;refine bh @Ml ?_;generalize bq n x=l at *
 have eA:∀{o a0},aA U h (F (F ap Z o) Z a0):=aN
 refine bC.mk (azJ (.func (.func er) ⟨[]⟩ ⟨cs⟩) a c2 (U+1) Z n l g U (Z+1) h) l.length ⟨0,J,J,rfl,ab,ab,λV=>?_,eA,J⟩ ?_
 ·rcases hK with⟨e,_⟩|⟨b,cI,bQ,d6,gb⟩
  ·grind
  ·cases d6;exact⟨b,J,J,rfl,by rw[ar J,ar J];grind⟩
 rintro _ _ aM bW ⟨i,rfl,aj,rfl,D,g40,aO,e1,gJ⟩;rw[aoD];unfold aad;refine aD ?_;refine⟨λct=>?_,λeM=>?_⟩
 ·obtain⟨y,cd⟩:=dR   J;obtain⟨b,cI,bQ,rfl,E⟩:=aO ab;have hyy:((l.take i).map g++l.drop i)[i]? = some y:=ab
  have mx:hV (some 2) (i*2) (bd fG ((l.take i).map g++l.drop i)) = .ok (.agg ⟨fG y⟩):=D1  (k:=2) (λ_=>rfl) hyy;refine cQ @E @mx ?_;rw[show fG y=[(y.1:X),(y.2:X)]from rfl];refine aD ?_;have gG:∀{o a0},aA U h (F (F aM bW o) bW a0):=aN
  refine(bE y _ _ ab gG J).mono ?_;rintro _ bc d4 ⟨rfl,A,hb⟩;have B:=A Z J;rw[ar J,ar J,D]at B;have azK:=A (U+1) J;rw[ar J,ar J,g40]at azK;have M:=A b J;rw[ar J,ar J,E]at M;refine⟨hb,?_⟩;have tQ:((l.take i).map g++l.drop i).length=l.length:=ab
  simp(disch:=omega)only[bl,B,D,M,Sd (enc:=fG) (k:=2) (λ_=>rfl) (λ_=>rfl) (J:i<((l.take i).map g++l.drop i).length),cv (J:i<1000000000000),seval];refine⟨rfl,l.length-(i+1),J,i+1,rfl,J,rfl,ab,ab,λ_=>⟨b,cI,bQ,rfl,?_⟩,(gG.trans A J).set J,J⟩;rw[aT];have e:((l.take i).map g++l.drop i).set i (g y)=(l.take (i+1)).map g++l.drop (i+1):=by
   have bj:l.drop i=y::l.drop (i+1):=by
    rw[B5 (by omega:i<l.length)]
    grind
   rw[bj,I8 _ _ ab,gn,ql,E7 J,Fc,ho,cd];simp
  rw[e]
 ·have:i=l.length:=J
  subst this;refine cQ @D @g40 ?_;refine⟨_,rfl,⟨a,c2,ab,λV=>?_⟩,e1.set J,J⟩;obtain⟨b,cI,bQ,rfl,E⟩:=aO (λe=>V ab)
  grind
def pK(h:ae)(ao aj:Nat)(v:X)(n:Nat)(x:Nat->aw Int):Prop:=∃gN,v = .agg ⟨[(n:X),gN]⟩/\iF h ao aj gN fG 2 (bq n x)
section
variable {h ac:ae} {U Y ao aj d2 dm n:Nat} {v:X} {x:Nat->aw Int}
theorem pK.fj(H:pK h ao aj v n x):lj h ao aj v n x:=by obtain⟨A,e,g⟩:=H;exact⟨A,e,g.fj⟩
theorem pK.is(H:pK h ao aj v n x):jU h aj v n x:=H.fj.is
theorem pK.T(H:pK h ao aj v n x)(g:∀b,ao<=b->b<aj->u ac b=u h b)(D:d2<=ao)(A:aj<=dm):pK ac d2 dm v n x:=by obtain⟨B,e,E⟩:=H;exact⟨B,e,E.T g D A⟩
end
theorem iF.cut{az:Type}{h:ae}{ao aj k:Nat}{v:X}{enc:az->aa X}{l:aa az}(E:∀x,(enc x).length=k)(L6:0<k)(H:iF h ao aj v enc k l){i:Nat}(h1:i<=j)(I:j<=l.length):
  ∃w,gS k v (some (i:X)) (some (j:X)) none = .ok w/\el h aj w enc k ((l.drop i).take (j-i)):=by
 have g:((l.drop i).take (j-i)).length=j-i:=ab
 rcases H with⟨rfl,aG⟩|⟨b,cI,Z,rfl,V⟩
 ·have M:j=0:=ab
  subst M;have aj:i=0:=J
  subst aj;rcases aG with rfl|⟨b,rfl⟩
  ·exact⟨.slice none 0 0,rfl,.nil⟩
  ·exact⟨.slice (some ⟨b,0,none⟩) 0 0,rfl,.nil⟩
 ·obtain⟨eb,gV,e,cW⟩:=asy   (aS:=some k)    (cap:=l.length) ab h1 I J k;refine⟨_,e,eb,gV,ab,λD=>?_⟩;have B:i<j:=by have:=EY.2 D;omega
  obtain⟨A,rfl⟩:=cW B;have M:j*k<=l.length*k:=qk k I;have P:i*k+(j-i)*k=j*k:=by rw[<-zM];grind
  refine⟨b,0+i*k,A,false,_,Z,rfl,V,by rw[g,gc E];omega,?_⟩;rw[g,iV];exact Z5 E l i j
theorem alq{s:al}{h:ae}{U:Nat}(g:u h cN=some (.cells [(a:X)] ro))(A:cN<U)(E:a<=p.1)(D:p.1<=5000):
  aH Q s 460 [.agg ⟨fG p⟩,bf cN] h U (dJ (.agg ⟨fG (p.1-a,p.2)⟩) U h):=by
 refine aoG ?_;unfold aco fG;have B:IntKind.wrap .i64 ((p.1:Int)-(a:Int))=((p.1-a:Nat):Int):=by rw[show(p.1:Int)-(a:Int)=((p.1-a:Nat):Int) by omega];exact iY _ J
 refine cQ @g @B ?_;exact⟨rfl,aN,J⟩
theorem aaj{n:Nat}(x:Nat->aw Int)(A:a<=b)(g:b<=n):((bq n x).drop (bq a x).length).take ((bq b x).length-(bq a x).length)=(bq (b-a) λk=>x (a+k)).map (rP a):=by
 obtain⟨c,rfl⟩:∃c,b=a+c:=⟨b-a,J⟩
 obtain⟨d,rfl⟩:∃d,n=a+c+d:=⟨n-(a+c),J⟩
 rw[x1 (a+c) x d,x1 a x c,kA,List.drop_left,jd,Nz,List.take_left,Nz]
theorem aoK{n:Nat}(x:Nat->aw Int)(A:a<=b)(g:b<=n):(bq a x).length<=(bq b x).length/\(bq b x).length<=(bq n x).length:=by
 obtain⟨c,rfl⟩:∃c,b=a+c:=⟨b-a,J⟩
 obtain⟨d,rfl⟩:∃d,n=a+c+d:=⟨n-(a+c),J⟩
 rw[x1 (a+c) x d,x1 a x c];grind
theorem RC(a m n:Nat)(x:Nat->aw Int)(h:a+m<=n):(bq m λk=>x (a+k)).map (rP a)=bq n λk=>if a<=k/\k<a+m then x k else none:=by
 refine Q5 ?_ λi y=>?_
 ·rw[tc];exact(yh m _).imp λh=>by unfold rP;omega
 ·rw[fz];constructor
  ·rintro⟨⟨k,z⟩,A,e⟩;obtain⟨D,g⟩:=jS.1 A;unfold rP at e
   grind
  ·rintro⟨D,g⟩
   by_cases B:a<=i/\i<a+m
   ·rw[if_pos B]at g;exact⟨(i-a,y),jS.2 ab,by unfold rP;grind⟩
   grind
theorem aoL{s:al}{n B ao:Nat}{v:X}{x:Nat->aw Int}{h:ae}{U:Nat}(aG:pK h ao U v n x)(bv:n<=4096)(en:min B n=b):
  aH Q s 405 [v,(a:X),(B:X)] h U (λr ac Y=>lj ac U Y r (b-a) (λk=>x (a+k))/\aA U h ac/\U<=Y):=by
 refine asD ?_;have M:=aG;obtain⟨gN,rfl,aq⟩:=aG;obtain⟨bk,cap,rfl⟩:=aq.form;have bT:∀{o a0 k6},aA U h (F (F (F h U o) (U+1) a0) (U+2) k6):=aN
 unfold aeG;refine aD ?_;refine(J7 (M.is.T bT J) bv).mono ?_;rintro _ h1 a5 ⟨rfl,P,f0⟩;have cJ:=P U J;rw[ar J,ar J,aT]at cJ;have g1:=P (U+1) J;rw[ar J,aT]at g1;have g2:=P (U+2) J;rw[aT]at g2;have em:max (a:Int) 0=(a:Int):=J
 have aO:b<=n:=J
 have em2:min (B:Int) (n:Int)=(b:Int):=J
 refine lh @cJ @g1 @em @em2 ?_;have cP:∀{o a0},aA U h (F (F h1 U o) (U+1) a0):=aN
 refine⟨λdO=>?_,λvt=>?_⟩
 ·refine bh @g2 ?_;refine⟨⟨_,by rw[show b-a=0 by omega];rfl,⟨none,0,by rw[show b-a=0 by omega];rfl,λeS=>absurd (by rw[show b-a=0 by omega];rfl) eS⟩⟩,aN,J⟩
 have D8:a<b:=J
 refine(Py (M.is.T cP  J) bv  J).mono ?_;rintro _ aM bW ⟨t1,rfl,_,D,gJ⟩;have I:=D U J;rw[ar J,aT]at I;have Ea:=D (U+1) J;rw[aT]at Ea;have MD:=D (U+2) J;rw[ar J,ar J,g2]at MD;have fD:=cP.trans D J;refine bh @I ?_;refine(Py (M.is.T fD  J) bv  J).mono ?_;rintro _ bc Z ⟨t2,rfl,_,E,hb⟩;have Up:=(E U J).trans I;have ME:=(E (U+1) J).trans Ea;have g24:=(E (U+2) J).trans MD;have gG:=fD.trans E J;obtain⟨dH,dl⟩:=aoK x (Nat.le_of_lt D8) aO;obtain⟨w,fb,b0⟩:=iF.cut (k:=2) (λ_=>rfl) J (aq.T  (d2:=ao) (dm:=U) (λb _ aO=>gG b aO) J J) dH dl;obtain⟨nB,ou,rfl⟩:=b0.form;refine cQ @Up @fb ?_;rw[aaj x J aO,RC a (b-a) n x J]at b0;rw[aaj x J aO,RC a (b-a) n x J];have jp:∀{o a0},aA U h (F (F bc Z o) Z a0):=aN
 have g15:∀{o a0},u (F (F bc Z o) Z a0) (U+1)=some (.cells [(a:X)] false):=ab
 have aDl:∀{o a0},aA U bc (F (F bc Z o) Z a0):=aN
 refine(aai  (g:=λp=>(p.1-a,p.2)) ⟨_,rfl,b0.T aDl  J⟩ bv (λp cy n6 bg A n2=>?_)).mono ?_
 ·have:=jS.1 bg;have ev:a<=p.1:=ab
  exact alq ((A (U+1) J).trans g15) J ev J
 rintro _ cy n6 ⟨aCc,rfl,V,A,n2⟩;have xg:=(A (U+1) J).trans g15;have g26:=A (U+2) J;rw[ar J,ar J,g24]at g26;obtain⟨bm,hv,rfl,Bw⟩:=id V;have Uq:IntKind.wrap .i64 ((b:Int)-(a:Int))=((b-a:Nat):Int):=by rw[show(b:Int)-(a:Int)=((b-a:Nat):Int) by omega];exact iY _ J
 refine hx @xg @g26 @Uq ?_;have gy:(bq n λk=>if a<=k/\k<a+(b-a)then x k else none).map (λp=>(p.1-a,p.2))=bq (b-a) λk=>x (a+k):=by
  rw[<-RC a (b-a) n x J,pn];have:((λp:Nat × Int=>(p.1-a,p.2)) ∘ rP a)=id:=by funext p;unfold rP;simp
  rw[this,Ff]
 rw[gy]at V;have Ur:=congrArg List.length gy;rw[gn]at Ur;refine⟨⟨_,rfl,?_⟩,((((jp.trans A J).set J).set J).set J).set J,J⟩;rw[gy];exact V.T (λd h1 ap=>ab) J J
def za{az:Type}(h:ae)(enc:az->aa X)(k:Nat)(v:X)(l:aa az)(o:aw Nat):Prop:=(l=[]/\v = .slice none 0 0/\o=none)\/∃b,o=some b/\v = .slice (some ⟨b,0,some k⟩) l.length l.length/\u h b=some (.cells (bd enc l) false)
theorem za.T{az:Type}{h ac:ae}{enc:az->aa X}{k:Nat}{v:X}{l:aa az}{o:aw Nat}(H:za h enc k v l o)(D:∀b,o=some b->u ac b=u h b):za ac enc k v l o:=by
 rcases H with H|⟨b,A,g,B⟩
 ·exact .inl H
 ·exact .inr ⟨b,A,g,ab⟩
theorem QB{az:Type}{enc:az->aa X}{k:Nat}(hk:∀x,(enc x).length=k)(aBa:∀x,ee (enc x)=true)(g:0<k){h:ae}{U:Nat}{v:X}{l m:aa az}{o:aw Nat}(H:za h enc k v l o)(W:el h U w enc k m)(M:(l.length+m.length)*k<=1000000)(B:∀dF ac Y a0,za ac enc k dF (l++m) a0->(a0=o/\Y=U\/a0=some U/\Y=U+1)->(∀c,c≠U->o≠some c->u ac c=u h c)->K dF ac Y):dD (dU (dM k h U v w)) K:=by
 obtain⟨a,cap,rfl,W⟩:=W;rcases Jl (m=[])with e|e
 ·subst e;rw[h6]at B;have:dM k h U v (.slice a 0 cap) = .ok (.val v h U):=by
   rcases H with⟨rfl,rfl,rfl⟩|⟨b,rfl,rfl,a9⟩
   ·show lg h a (Nat.mul 0 k) (λnew=>g0 k h U none 0 0 0 new)=_;rw[show Nat.mul 0 k=0 from mc k];rfl
   ·show lg h a (Nat.mul 0 k) (λnew=>g0 k h U (some ⟨b,0,some k⟩) l.length l.length 0 new)=_;rw[show Nat.mul 0 k=0 from mc k];unfold g0;rw[show Nat.ble (Nat.add l.length 0) l.length=true from B7 ab];rfl
  show dD (dU (dM k h U v (.slice a 0 cap))) K;rw[this];exact B _ _ _ _ H ab ab
 ·obtain⟨A,D,aS,ro,cs,fm,rfl,a9,h1,ap⟩:=W e;have au:=EY.2 e;have Tw:m.length<=m.length*k:=B6 _ g;have I:l.length+m.length<=1000000:=h7 (B6 _ g) M;have E:(Nat.ble (Nat.mul (Nat.add l.length m.length) k) 1000000&&Nat.ble (Nat.add l.length m.length) 1000000)=true:=by
   simp only[eB,tg]
   grind
  have V:Nat.ble (Nat.add l.length m.length) l.length=false:=by
   cases Z:Nat.ble (Nat.add l.length m.length) l.length with
   |false=>rfl
   |true=>have:=ma Z;grind
  have bb:∀{f:aa X->R fq},lg h (some ⟨A,D,aS⟩) (m.length.mul k) f=f (bd enc m):=λ{f}=>by
   rw[tn a9 ab ab]
   grind
  rcases H with⟨rfl,rfl,rfl⟩|⟨b,rfl,rfl,sR⟩
  ·have:dM k h U (.slice none 0 0) (.slice (some ⟨A,D,aS⟩) m.length cap) = .ok (.val (.slice (some ⟨U,0,some k⟩) (0+m.length) (0+m.length)) (F h U (.cells (bd enc m) false)) (U+1)):=by show lg h (some ⟨A,D,aS⟩) (m.length.mul k) (λnew=>g0 k h U none 0 0 m.length new)=_;rw[bb];unfold g0;have V:Nat.ble (Nat.add 0 m.length) 0=false:=V;have E:(Nat.ble (Nat.mul (Nat.add 0 m.length) k) 1000000&&Nat.ble (Nat.add 0 m.length) 1000000)=true:=E;rw[V,E];exact rf g
   rw[this];exact B _ _ _ _ (.inr ⟨U,rfl,ab,ab⟩) ab ab
  ·have:dM k h U (.slice (some ⟨b,0,some k⟩) l.length l.length) (.slice (some ⟨A,D,aS⟩) m.length cap) = .ok (.val (.slice (some ⟨U,0,some k⟩) (l.length+m.length) (l.length+m.length)) (F (yy h b) U (.cells (bd enc l++bd enc m) false)) (U+1)):=by
    show lg h (some ⟨A,D,aS⟩) (m.length.mul k) (λnew=>g0 k h U (some ⟨b,0,some k⟩) l.length l.length m.length new)=_;rw[bb];unfold g0;rw[V,E];show rq h U k (some ⟨b,0,some k⟩) l.length l.length (l.length+m.length) (bd enc m)=_;unfold rq;simp only[v8 sR];have P:ni (Nat.mul l.length k) (nc (bd enc l) 0)=some (bd enc l):=by rw[sd,pk,ri,if_pos (by rw[gc hk];grind)];rw[q3 (by rw[gc hk];grind)]
    rw[P];have Us:ee (bd enc m)=true:=by
     clear bb E V M I Tw au ap h1 B e W
     induction m with
     |nil=>rfl
     |cons x m eY =>
      have:∀a b:aa X,ee a=true->ee b=true->ee (a++b)=true:=λa=>by
       induction a with
       |nil=>grind
       |cons y a Ty =>
        intro b cW Z;rw[q9,eB]at cW;show ee (y::(a++b))=true;rw[q9,eB]
        grind
      exact this _ _ ab eY
    have cf:(!false&&Nat.beq 0 0&&Nat.beq (jr (bd enc l)) (Nat.mul l.length k)&&Nat.beq k k&&Nat.beq l.length l.length&&ee (bd enc m))=true:=by rw[oD,gc hk,Us];simp
    show(bif _ then _ else _)=_;rw[cf,kh];exact rf g
   rw[this];exact B _ _ _ _ (.inr ⟨U,rfl,ab,by rw[aT,zU]⟩) ab λc a1 Z=>by rw[ar a1,mT,if_neg λe=>Z (by rw[e])]
theorem asJ{az:Type}{enc:az->aa X}{k:Nat}(P:∀x,(enc x).length=k)(g:∀x,ee (enc x)=true)(E:0<k){h:ae}{U ao aj:Nat}{v:X}{l m:aa az}(H:d1 h v enc k l ao aj)(W:el h U w enc k m)(tT:ao<=U)(V:aj<=U)(A:(l.length+m.length)*k<=1000000)(hi:∀I ac Y,d1 ac I enc k (l++m) ao Y->(∀c,c<ao\/aj<=c/\c<U->u ac c=u h c)->U<=Y->K I ac Y):dD (dU (dM k h U v w)) K:=by
 obtain⟨o,iJ,h4⟩:∃o,za h enc k v l o/\∀b,o=some b->ao<=b/\b<aj:=by
  rcases H with⟨D,B⟩|⟨b,cI,bQ,e,M⟩
  ·exact⟨none,.inl ab,ab⟩
  ·exact⟨some b,.inr ⟨b,rfl,e,M⟩,ab⟩
 refine QB P g E iJ W A λI ac Y a0 G e f=>hi _ _ _ ?_ ab J;rcases G with⟨D,B,_⟩|⟨b,D,B,Z⟩
 ·exact .inl ab
 ·subst D;refine .inr ⟨b,?_,?_,B,Z⟩
  all_goals grind
def PlJ(dr:X)(l:aa (Nat × Int))(ao:Nat)(au:ae)(m:Nat)(aF:aa X)(ac:ae)(Y:Nat):Prop :=
 ∃i o,m=l.length-i/\i<=l.length/\aF=[o,dr,(l.length:X),(i:X)]/\d1 ac o cq 1 ((l.take i).map λp=>(p.1:Int)) ao Y/\aA ao au ac/\ao<=Y
theorem Xm{s:al}{n:Nat}{v:X}{x:Nat->aw Int}{h:ae}{U:Nat}(aG:jU h U v n x)(bv:n<=4096):
  aH Q s 389 [v] h U (λr ac Y=>eG ac U Y r cq ((bq n x).map λp=>(p.1:Int))/\aA U h ac/\U<=Y):=by
 refine alh ?_;have Z:=aG;obtain⟨gN,rfl,aq⟩:=aG;obtain⟨bk,cap,rfl,a1⟩:=id aq;have gz:=me n x;have bT:∀{o},aA U h (F h U o):=aN
 unfold aaa;refine aD ?_;refine(J7 (Z.T bT J) bv).mono ?_;rintro _ h1 a5 ⟨rfl,d0,f0⟩;have cP:=bT.trans d0 J;have I:=aq.T cP (Y:=a5) J;refine aD ?_;refine bC.mk (PlJ (.slice bk (bq n x).length cap) (bq n x) a5 h1) (bq n x).length ⟨0,_,J,J,rfl,.inl ab,aN,J⟩ ?_;rintro _ _ ap bX ⟨i,o,rfl,aj,rfl,dn,g,A⟩;rw[ajp];unfold Xj;refine aD ?_;refine⟨λct=>?_,λeM=>?_⟩
 ·obtain⟨⟨k,y⟩,cd⟩:=dR   J;obtain⟨b,a0,aS,ro,cs,kZ,aO,B,P,D⟩:=(I.T g A).ld (λ_=>rfl) cd;cases B;refine cQ @P @D ?_;rw[show fG (k,y)=[(k:X),(y:X)]from rfl];refine aD ?_;refine lJ  (k:=1)  (λ_=>rfl) (λ_=>rfl) J (dn.T ab J) J (k:Int) (aT _ _ _) rfl ab λdF b3 E V=>?_;refine bh (cv (J:i<1000000000000)) ?_;refine⟨_,?_,i+1,_,rfl,J,rfl,?_,λc a1=>?_,J⟩
  ·omega
  ·rw[ho,cd];simpa using E
  ·rw[V c a1,ar J,ar J,ar J];exact g c a1
 ·have:i=(bq n x).length:=J
  subst this;rw[hC]at dn;refine⟨?_,aN,J⟩;rcases dn with⟨B,rfl⟩|⟨b,h1,ap,rfl,P⟩
  ·exact⟨_,_,by rw[B];rfl,λM=>absurd B M⟩
  ·exact⟨_,_,rfl,λ_=>⟨b,_,_,J,J,rfl,P⟩⟩
def yr(p:Nat × X):aa X:=[(p.1:X),p.2]
theorem alr{s:al}{h:ae}{U:Nat}(g:u h cN=some (.cells [(a:X)] ro))(A:cN<U)(E:a<=5000)(D:p.1<=5000):
  aH Q s 446 [.agg ⟨fG p⟩,bf cN] h U (dJ (.agg ⟨fG (rP a p)⟩) U h):=by
 refine aoE ?_;unfold acm fG rP;have B:IntKind.wrap .i64 ((a:Int)+(p.1:Int))=((a+p.1:Nat):Int):=by rw[<-vZ];exact iY _ J
 refine cQ @g @B ?_;exact⟨rfl,aN,J⟩
structure Ap (h:ae) (U:Nat) (v:X) (ao:Nat->Nat) (m:Nat) (x:Nat->aw Int):Prop where
 ex:∃L:aa (Nat × X),L.length=m/\el h U v yr 2 L/\∀i p,L[i]? = some p->p.1=ao (i+1)-ao i/\el h U p.2 fG 2 (bq p.1 λk=>x (ao i+k))
 mono:∀i,ao i<=ao (i+1)
 le:ao m<=4096
theorem Ap.T{h ac:ae}{U Y m:Nat}{v:X}{ao:Nat->Nat}{x:Nat->aw Int}(H:Ap h U v ao m x)(A:aA U h ac)(g:U<=Y):Ap ac Y v ao m x:=by obtain⟨⟨L,I,D,P⟩,M,B⟩:=H;exact⟨⟨L,I,D.T A g,λi p E=>⟨ab,(P i p E).2.T A g⟩⟩,M,B⟩
theorem QC{ao:Nat->Nat}(h:∀i,ao i<=ao (i+1)){i:Nat}(g:i<=j):ao i<=ao j:=by
 induction j with
 |zero=>grind
 |succ j A =>
  grind
def GlJ(cj cN:Nat)(v:X)(ao:Nat->Nat)(n:Nat)(x:Nat->aw Int)(a4:Nat)(au:ae)(U:Nat)(m:Nat)(aF:aa X)(ac:ae)(Y:Nat):Prop :=
 ∃i w,m=n-i/\i<=n/\aF=[bf cj,.int .i64 0,bf cN,v,(n:X),(i:X)]/\u ac cj=some (.cells [.int .i64 0,.slice none 0 0] false)/\u ac cN=some (.cells [((ao i-ao 0:Nat):X),w] false) /\
  d1 ac w fG 2 (bq (ao i-ao 0) λk=>x (ao 0+k)) a4 Y/\aA U au ac/\a4<=Y
theorem aoM{s:al}{v:X}{ao:Nat->Nat}{x:Nat->aw Int}{h:ae}{U:Nat}(H:Ap h U v ao m x)(bp:m<=1000):
  aH Q s 387 [v] h U (λr ac Y=>∃w,r = .tuple ⟨[w,.int .i64 0]⟩/\pK ac U Y w (ao m-ao 0) (λk=>x (ao 0+k))/\aA U h ac/\U<=Y):=by
 refine asA ?_;obtain⟨⟨L,rfl,aq,eD⟩,A,hb⟩:=H;obtain⟨bk,cap,rfl⟩:=aq.form;have bT:∀{o a0},aA U h (F (F h U o) (U+1) a0):=aN
 unfold aeD;refine aD ?_;refine bC.mk (GlJ U (U+1) (.slice bk L.length cap) ao L.length x (U+2) h U) L.length ⟨0,.slice none 0 0,J,J,rfl,ab,ab,.inl ⟨by rw[Fc];rfl,rfl⟩,bT,J⟩ ?_;rintro _ _ h1 B ⟨i,w,rfl,aj,rfl,g1,ed,dn,P,f0⟩;have aBv:ao 0<=ao i:=QC A J;rw[aoB];unfold Z9;obtain⟨nB,ou,rfl⟩:∃a c,w = .slice a (bq (ao i-ao 0) λk=>x (ao 0+k)).length c:=by
  rcases dn with⟨e,rfl⟩|⟨b,_,_,rfl,_⟩
  all_goals grind
 refine aD ?_;refine⟨λct=>?_,λeM=>?_⟩
 ·obtain⟨⟨n,gN⟩,cd⟩:=dR   J;obtain⟨bv,E⟩:=eD i _ cd;have E:el h U gN fG 2 (bq n λk=>x (ao i+k)):=E;have axW:ao (i+1)<=ao L.length:=QC A J;have hms:=A i;obtain⟨dr,e2,rfl⟩:=E.form;obtain⟨b,a0,aS,ro,cs,kZ,aO,aW,a9,mx⟩:=(aq.T P (Y:=B) J).ld (λ_=>rfl) cd;cases aW;refine cQ @a9 @mx ?_;rw[show yr (n,.slice dr (bq n λk=>x (ao i+k)).length e2)=[(n:X),.slice dr (bq n λk=>x (ao i+k)).length e2]from rfl];have cP:∀{o a0 k6 gh},aA U h (F (F (F (F h1 B o) B a0) (B+1) k6) (B+1) gh):=(((P.set J).set J).set J).set J;refine bh @ed ?_;refine(aai   ⟨_,rfl,E.T cP  J⟩ J (λp cy n6 bg g Z=>alr ((g (B+1) J).trans (aT _ _ _)) J J (by have:=(jS.1 bg).1;omega))).mono ?_;rintro _ cy n6 ⟨aCc,rfl,hw6,g,Z⟩;have D:=g (U+1) J;rw[ar J,ar J,ar J,ar J,ed]at D;have xg:=g U J;rw[ar J,ar J,ar J,ar J,g1]at xg;have M:=g B J;rw[ar J,ar J,aT]at M;obtain⟨bm,hv,rfl,Bw⟩:=id hw6;have Uq:IntKind.wrap .i64 (4096-((ao i-ao 0:Nat):Int))=((4096-(ao i-ao 0):Nat):Int):=by rw[show(4096:Int)-((ao i-ao 0:Nat):Int)=((4096-(ao i-ao 0):Nat):Int) by omega];exact iY _ J
  have ew7:IntKind.wrap .i64 (((ao i-ao 0:Nat):Int)+(n:Int))=((ao (i+1)-ao 0:Nat):Int):=by rw[show((ao i-ao 0:Nat):Int)+(n:Int)=((ao (i+1)-ao 0:Nat):Int) by omega];exact iY _ J
  refine hx @D @M @Uq ?_;have zs:∀{o},aA U h (F cy B o):=(cP.trans g J).set J;refine⟨λa1=>absurd a1 J,λ_=>?_⟩;have xd:∀{o},d1 (F cy B o) (.slice nB (bq (ao i-ao 0) λk=>x (ao 0+k)).length ou) fG 2 (bq (ao i-ao 0) λk=>x (ao 0+k)) (U+2) B:=λ{o}=>dn.T (λc h1 ap=>by rw[ar J,g c J,ar J,ar J,ar J,ar J]) J;have dH:=me (ao i-ao 0) λk=>x (ao 0+k);have dl:=me n λk=>x (ao i+k);refine asJ  (k:=2) (λ_=>rfl) (λ_=>rfl) J  xd (cr.o (λ_=>rfl) (hw6.T   (λb h1 ap=>ar J) (cD _) (cD _)).rd) J J ab λdF ev n7 V I tI=>?_;have n5:ao (i+1)-ao 0=(ao i-ao 0)+n:=J
  have zw:(bq (ao i-ao 0) λk=>x (ao 0+k))++(bq n λk=>x (ao i+k)).map (rP (ao i-ao 0))=bq (ao (i+1)-ao 0) λk=>x (ao 0+k):=by
   rw[n5,x1]
   congr 2
   exact x8 λk _=>by congr 1;omega
  rw[zw]at V;obtain⟨v7a,v7c,rfl⟩:∃a c,dF = .slice a (bq (ao (i+1)-ao 0) λk=>x (ao 0+k)).length c:=by
   rcases V with⟨e,rfl⟩|⟨b,_,_,rfl,_⟩
   all_goals grind
  have g47:=(I (U+1) (.inl J)).trans (ar J);rw[D]at g47;have g17:=(I U (.inl J)).trans (ar J);rw[xg]at g17;have azL:=(I B (.inr J)).trans (aT _ _ _);refine⟨J,?_⟩;refine u5 @g47 @D @azL @ew7 (cv (J:i<1000000000000)) ?_;refine⟨_,?_,i+1,_,rfl,J,rfl,ab,aT _ _ _,V.T (λc h1 ap=>ar J) J,λc a1=>?_,J⟩
  ·omega
  ·rw[ar J,I c (.inl J)];exact zs c a1
 ·have:i=L.length:=J
  subst this;refine cQ @ed @g1 ?_;exact⟨_,rfl,⟨_,rfl,(d1.f dn).T (λc h1 ap=>ar J) J (cD _)⟩,P.set J,J⟩
def QD(s:al)(K:bR)(df d8 eh fe hm lu sM:X)(au:ae)(a4:Nat):Prop:=bu sM (af (cU [(ad 0),ay] []) λa=>af (aU au 2 lu a) λb=>aR 2 b lu λc=>K (.tuple ⟨[c,(ad 3)]⟩) b a4) (bS au eh λd=>af (.ok (.func (.func 315) ⟨[]⟩ ⟨[d8,eh,fe,hm]⟩)) λe=>aX s 314 [df,d,e] au a4 λf g i=>af (cp f 0) λj=>af (cp f 1) λk=>af (aU g 2 lu j) λl=>aR 2 l lu λm=>K (.tuple ⟨[m,k]⟩) l i)
def af7:xv:=λs ah t1 t2 t3 fY h U K=>bI ah h U λa b c=>bI t1 b c λd e f=>bI t2 e f λg i j=>bI t3 i j λk l m=>b1 [(ad 0),ay] l m λn o p=>bS o a λq=>aX s 313 [q] o p λr t aI=>af (dv .not r) λv=>bu v (QD s K fY a d g k n (.bool true) t aI) (bS t d λw=>bS t g λx=>bS t k λy=>aX s 202 [w,x,(ad 0),y] t aI λz bD bU=>af (dv .not z) λbL=>(QD s K fY a d g k n bL bD bU))
theorem avq:zr 223 af7:=Bm []
def aeL:c0:=λs ah t1 h U K=>bw .eql 40 ah (ad 2) (K (ad 1) h U) (bw .eql 40 ah (ad 4) (K (ad 5) h U) (bw .eql 40 ah (ad 5) (bH .and 3 t1 (ad 1) λd=>bw .eql 3 d (ad 0) (K (ad 2) h U) (K (ad 4) h U)) (bw .eql 40 ah (ad 1) (K (ad 4) h U) (bw .eql 40 ah (ad 3) (K (ad 4) h U) (K (ad 0) h U)))))
theorem asK:c4 225 aeL:=c5 []
def aak:cS:=λs ah h U K=>bw .geq 3 ah (ad 0) (bH .leq 3 ah (ad 4096) λb=>K b h U) (K (.bool false) h U)
theorem als:cT 313 aak:=cV []
def Pz:aa (aa Nat):=[[0,2,6,7,15,16,17]]
def Yq(s:al)(aC a2 bm a6 i3 hf kK:X)(h:ae)(U:Nat)(N:aP)(aE:aP)(R:aP):Prop:=cF kK hf (hw 2 h 2 i3 kK λc=>b1 [(ad 0),ay] h U λd e f=>af (aU e 2 d c) λg=>aR 2 g d λi=>b6 312 [i] g f λj k l=>af (dv .not j) λm=>bu m (af (cU [(ad 0),ay] []) λn=>af (aU k 2 bm n) λo=>R [aC,a2,bm,(ad 4),i3,hf,kK] o l) (fh Q true (hP k l [kK] a2) λp q r=>l<=r/\bo 0 d λt=>bS q t λaI=>cZ t aI (bw .neq 3 aI p (af (cU [(ad 0),ay] []) λw=>af (aU q 2 bm w) λx=>R [aC,a2,bm,(ad 4),i3,hf,kK] x r) (b9 kK λy=>N [aC,a2,bm,a6,i3,hf,y] q r)) 1 [k,g])) (aE [aC,a2,bm,a6,i3,hf,kK] h U)
def acs:gv:=λs ah t1 t2 h U K=>b1 [(ad 0),ay] h U λa b c=>cO ah λd=>bw .neq 3 d t1 (af (cU [(ad 0),ay] []) λf=>af (aU b 2 a f) λg=>aR 2 g a λi=>K (.tuple ⟨[i,(ad 4)]⟩) g c) (cO ah λj=>bC (bN Q s Pz 314 0) [ah,t2,a,(ad 0),ah,j,(ad 0)] b c [(0,λk l m=>aX s 387 [(a8 k 0)] l m λn o p=>af (cp n 0) λq=>af (cp n 1) λr=>af (aU o 2 (a8 k 2) q) λt=>aR 2 t (a8 k 2) λaI=>K (.tuple ⟨[aI,r]⟩) t p)] (λv w x=>aR 2 w (a8 v 2) λy=>K (.tuple ⟨[y,(a8 v 3)]⟩) w x))
theorem alt{s:al}{D B A g:X}{h:ae}{U:Nat}{R:aP}:bN Q s Pz 314 0 [D,a2,bm,a6,B,A,g] h U N [(0,aE)] R=Yq s D a2 bm a6 B A g h U N aE R:=by kernel_rfl
theorem aoN:gF 314 acs:=gL Pz
def aeM:xv:=λs ah t1 t2 t3 fY h U K=>bS h t1 λa=>bS h t2 λb=>b6 204 [a,b,ah] h U λc d e=>bS d t1 λf=>cZ t1 f (bS d t3 λg=>cZ t3 g (bS d fY λi=>cZ fY i (b6 204 [f,g,i] d e λj k l=>b6 316 [c,j] k l λm n o=>b1 [(ad 0),(ad 0)] n o λp q r=>af (aU q 2 p m) λt=>af (im (.array 2 1) p (ad 1)) λaI=>bS t aI λv=>af (im (.array 2 1) p (ad 0)) λw=>bS t w λx=>bH .sub 3 v x λy=>K y t r) 1 [h]) 1 [h]) 1 [h]
theorem asL:zr 315 aeM:=Bm []
def aal:c0:=λs ah t1 h U K=>bI ah h U λa b c=>bI t1 b c λd e f=>b1 [(ad 0),(ad 0)] e f λg i j=>af (im (.array 2 1) a (ad 0)) λk=>bS i k λl=>af (im (.array 2 1) d (ad 0)) λm=>bS i m λn=>af (min2 false l n) λo=>af (im (.array 2 1) a (ad 1)) λp=>bS i p λq=>af (im (.array 2 1) d (ad 1)) λr=>bS i r λt=>af (min2 true q t) λaI=>af (min2 false o aI) λv=>af (cU [(ad 0),(ad 0)] [(0,1,o),(1,1,v)]) λw=>af (aU i 2 g w) λx=>aR 2 x g λy=>K y x j
theorem alu:c4 316 aal:=c5 []
def PA:aa (aa Nat):=[[4,8,9,22,23,24]]
def Yr(s:al)(aZ br c7 eJ j5 fT:X)(h:ae)(U:Nat)(N:aP)(aW:aP)(R:aP):Prop:=cF fT j5 (dL h 1 eJ fT λc=>bw .eql 2 c br (dS (eV 1 [(ad 0)] [(0,1,fT)]) h U λe f g=>dD (dU (dM 1 f g c7 e)) λi j k=>b9 fT λl=>N [aZ,br,i,eJ,j5,l] j k) (b9 fT λm=>N [aZ,br,c7,eJ,j5,m] h U)) (aW [aZ,br,c7,eJ,j5,fT] h U)
def JM(s:al)(K:bR)(df hm:X)(au:ae)(a4:Nat):Prop:=ax au 2 df λb=>cO b λc=>bC (bN Q s PA 331 0) [df,hm,ay,b,c,(ad 0)] au a4 [(1,λd e f=>ax e 1 (a8 d 0) λi=>ax e 0 (a8 d 0) λk=>bH .sub 3 i k λl=>aX s 108 [l,(a8 d 2)] e f λm n o=>K (.tuple ⟨[m,(.bool false)]⟩) n o)] (λ_ _ _=>False)
def act:gv:=λs ah t1 t2 h U K=>bI ah h U λa b c=>bI t1 b c λd e f=>aR 5 e a λg=>aR 5 e d λi=>aX s 299 [g,i] e f λj k l=>af (aU k 5 d j) λm=>ax m 0 a λo=>bw .eql 40 o (ad 1) (JM s K d (ad (-1)) m l) (bw .eql 40 o (ad 5) (JM s K d (ad 0) m l) (K (.tuple ⟨[ay,(.bool true)]⟩) m l))
theorem alv{s:al}{D B g fT:X}{h:ae}{U:Nat}{A R:aP}:bN Q s PA 331 0 [aZ,D,B,eJ,g,fT] h U N [(1,A)] R=Yr s aZ D B eJ g fT h U N A R:=by kernel_rfl
theorem aoO:gF 331 act:=gL PA
def Oj(s:al)(K:bR)(df d8 eh fe hm qf T9:X)(au:ae)(a4:Nat):Prop:=bu T9 (ax au 2 d8 λb=>b6 88 [b] au a4 λc d e=>bo 3 d8 λf=>bS d f λg=>cZ f g (b6 88 [g] d e λi j k=>bo 4 d8 λl=>bS j l λm=>cZ l m (b6 139 [m] j k λn o p=>bo 0 d8 λq=>bS o q λr=>cZ q r (bo 1 d8 λt=>bS o t λaI=>cZ t aI (af (cU [(ad 0),(ad 0),ay,ay,ay] [(0,1,r),(1,1,aI),(2,1,c),(3,1,i),(4,1,n)]) λv=>af (aU o 5 hm v) λw=>aR 5 w hm λx=>K x w p) 3 [j,d,au]) 3 [j,d,au]) 2 [d,au]) 1 [au]) (aR 5 au d8 λy=>af (.ok (.func (.func 400) ⟨[]⟩ ⟨[fe,df,d8,eh]⟩)) λz=>aX s 208 [y,qf,z] au a4 λbD bU bL=>af (aU bU 5 hm bD) λbk=>aR 5 bk hm λbV=>K bV bk bL)
def aam:s2:=λs ah t1 t2 t3 h U K=>bI ah h U λa b c=>bI t1 b c λd e f=>bI t2 e f λg i j=>bI t3 i j λk l m=>b1 [(ad 0),(ad 0),ay,ay,ay] l m λn o p=>aR 5 o a λq=>aR 5 o d λr=>aX s 299 [q,r] o p λt aI v=>af (aU aI 5 d t) λw=>ax w 1 d λy=>ax w 0 d λbD=>bH .sub 3 y bD λbU=>aR 2 w k λbL=>aX s 312 [bL] w v λbk bV ca=>af (dv .not bk) λbO=>bu bO (Oj s K a d g k n bU (.bool true) bV ca) (ax bV 0 k λcG=>bH .neq 3 cG bU λds=>(Oj s K a d g k n bU ds bV ca))
theorem alw:uo 336 aam:=vw []
def RD:aa (aa Nat):=[[2,3,4,6,7,21,22]]
def acu(s:al)(a2 a3 aZ bm a6 iE eJ:X)(h:ae)(U:Nat)(N:aP)(aE:aP)(R:aP):Prop:=cF eJ iE (aR 5 h a3 λb=>aR 5 h aZ λc=>aX s 403 [b,c,a2,eJ] h U λd e f=>af (cp d 0) λg=>af (cp d 1) λi=>bu i (ax e 1 a6 λk=>af (cU [(ad 0),(ad 0)] [(0,1,eJ),(1,1,g)]) λl=>dS (eV 1 [(ad 0),(ad 0)] [(0,2,l)]) e f λm n o=>dD (dU (dM 2 n o k m)) λp q r=>bo 1 a6 λt=>af (aU q 1 t p) λaI=>b9 eJ λv=>N [a2,a3,aZ,bm,a6,iE,v] aI r) (b9 eJ λw=>N [a2,a3,aZ,bm,a6,iE,w] e f)) (aE [a2,a3,aZ,bm,a6,iE,eJ] h U)
def af8:gv:=λs ah t1 t2 h U K=>bI ah h U λa b c=>bI t1 b c λd e f=>b1 [(ad 0),ay] e f λg i j=>aR 5 i a λk=>aR 5 i d λl=>aX s 299 [k,l] i j λm n o=>af (aU n 5 d m) λp=>ax p 1 d λr=>ax p 0 d λaI=>bH .sub 3 r aI λv=>af (cU [(ad 0),ay] [(0,1,v)]) λw=>b1 [(ad 0),ay] p o λx y z=>af (aU y 2 x w) λbD=>ax bD 0 x λbL=>bC (bN Q s RD 337 0) [t2,a,d,g,x,bL,(ad 0)] bD z [(0,λbk bV ca=>aR 2 bV (a8 bk 4) λbO=>af (aU bV 2 (a8 bk 3) bO) λcM=>aR 2 cM (a8 bk 3) λcG=>K cG cM ca)] (λ_ _ _=>False)
theorem asM{s:al}{A g:X}{h:ae}{U:Nat}{R:aP}:bN Q s RD 337 0 [a2,A,aZ,bm,a6,g,eJ] h U N [(0,aE)] R=acu s a2 A aZ bm a6 g eJ h U N aE R:=by kernel_rfl
theorem avr:gF 337 af8:=gL RD
def FI(s:al)(K:bR)(cB cE cg df d8 eh sL Mu:X)(au:ae)(a4:Nat):Prop:=bu Mu (af (cU [(ad 0),ay] []) λa=>af (aU au 2 sL a) λb=>aR 2 b sL λc=>K c b a4) (aX s 204 [cB,cE,df] au a4 λd e f=>b1 [(ad 0),(ad 0)] e f λg i j=>af (aU i 2 g d) λk=>b6 204 [cB,cg,d8] k j λl m n=>aR 2 m g λo=>jl 2 g o (b6 316 [o,l] m n λp q r=>b1 [(ad 0),(ad 0)] q r λt aI v=>af (aU aI 2 t p) λw=>aR 2 w eh λx=>af (im (.array 2 1) t (ad 0)) λy=>bS w y λz=>af (im (.array 2 1) g (ad 0)) λbD=>bS w bD λbU=>bH .sub 3 z bU λbL=>af (im (.array 2 1) t (ad 1)) λbk=>bS w bk λbV=>af (im (.array 2 1) g (ad 0)) λca=>bS w ca λbO=>bH .sub 3 bV bO λcM=>aX s 405 [x,bL,cM] w v λcG ds dh=>af (aU ds 2 sL cG) λey=>aR 2 ey sL λam=>K am ey dh) 1 [k])
def acv:Nd:=λs ah t1 t2 t3 fY s3 h U K=>bI ah h U λa b c=>b1 [(ad 0),ay] b c λd e f=>b6 313 [t1] e f λg i j=>af (dv .not g) λk=>bu k (FI s K t1 t2 t3 fY s3 a d (.bool true) i j) (b6 202 [t2,t3,fY,s3] i j λl m n=>af (dv .not l) λo=>bu o (FI s K t1 t2 t3 fY s3 a d (.bool true) m n) (aR 2 m a λp=>b6 312 [p] m n λq r t=>af (dv .not q) λaI=>bu aI (FI s K t1 t2 t3 fY s3 a d (.bool true) r t) (b6 404 [t1,t2,fY] r t λv w x=>bo 0 a λy=>bS w y λz=>cZ y z (bH .neq 3 z v λbD=>(FI s K t1 t2 t3 fY s3 a d bD w x)) 1 [r,m,i,e])))
theorem aoP:Vw 338 acv:=zf6 []
def Ys:xv:=λs ah t1 t2 t3 fY h U K=>aR 2 h t1 λa=>aX s 401 [a,ah] h U λb c d=>af (cp b 0) λe=>af (cp b 1) λf=>aR 5 c t2 λg=>aR 5 c t3 λi=>bS c fY λj=>aX s 402 [g,i,j,ah,e,f] c d λk l m=>af (cp k 0) λn=>af (cp k 1) λo=>af (cp k 2) λp=>K (.tuple ⟨[n,o,p]⟩) l m
theorem ajv:zr 400 Ys:=Bm []
def tj(s:al)(K:bR)(rQ o4:X)(au:ae)(a4:Nat):Prop:=K (.tuple ⟨[rQ,o4,(.bool false)]⟩) au a4
def Ol(s:al)(K:bR)(cE cg df d8 eh fe rQ o4 y60:X)(au:ae)(a4:Nat):Prop:=bu y60 (K (.tuple ⟨[(ad 2),o4,(.bool false)]⟩) au a4) (bH .and 3 cE (ad 1) λa=>bw .eql 3 a (ad 1) (af (dv .not d8) λc=>bu c (K (.tuple ⟨[(ad 1),o4,(.bool true)]⟩) au a4) (b6 459 [cE] au a4 λd e f=>aR 5 e eh λg=>jl 5 eh g (bo 0 fe λi=>bS e i λj=>cZ i j (lB j cg λk=>b6 368 [g,d,k] e f λl m n=>bw .gtr 2 df l (K (.tuple ⟨[(ad 1),o4,(.bool true)]⟩) m n) (tj s K rQ o4 m n)) 1 [au]) 1 [au])) (tj s K rQ o4 au a4))
def Fy(s:al)(K:bR)(cE cg df d8 eh fe rQ o4 y28 Un:X)(au:ae)(a4:Nat):Prop:=bu Un (bu d8 (bw .lss 2 df rQ (K (.tuple ⟨[df,o4,(.bool true)]⟩) au a4) (tj s K rQ o4 au a4)) (tj s K rQ o4 au a4)) (bw .eql 40 y28 (ad 4) (bH .neq 2 df (ad 0) λc=>K (.tuple ⟨[df,o4,c]⟩) au a4) (bw .eql 40 y28 (ad 5) (bw .neq 2 rQ (ad 0) (tj s K rQ o4 au a4) (bH .and 3 cE (ad 1) λf=>bw .eql 3 f (ad 0) (Ol s K cE cg df d8 eh fe rQ o4 d8 au a4) (Ol s K cE cg df d8 eh fe rQ o4 (.bool false) au a4))) (tj s K rQ o4 au a4)))
def aan:Nd:=λs ah t1 t2 t3 fY s3 h U K=>bI ah h U λa b c=>bI t1 b c λd e f=>ax e 2 d λi=>dL e 1 i t3 λk=>ax e 3 d λm=>dL e 1 m t3 λo=>ax e 0 a λq=>bw .eql 40 q (ad 1) (bu s3 (bw .eql 2 k (ad (-1)) (K (.tuple ⟨[t2,fY,(.bool true)]⟩) e f) (tj s K k o e f)) (tj s K k o e f)) (bw .eql 40 q (ad 2) (Fy s K t2 t3 fY s3 a d k o q (.bool true) e f) (bH .eql 40 q (ad 3) λv=>(Fy s K t2 t3 fY s3 a d k o q v e f)))
theorem alx:Vw 402 aan:=zf6 []
def acw:s2:=λs ah t1 t2 t3 h U K=>bI ah h U λa b c=>bI t1 b c λd e f=>ax e 4 d λi=>aX s 334 [i,t3] e f λj k l=>ax k 0 a λn=>bw .eql 40 n (ad 1) (ax k 0 d λq=>lB q t3 λr=>K (.tuple ⟨[r,j]⟩) k l) (bw .eql 40 n (ad 5) (bH .and 3 t2 (ad 1) λaI=>bw .eql 3 aI (ad 0) (K (.tuple ⟨[(ad 1),j]⟩) k l) (b6 459 [t2] k l λw x y=>aR 5 x a λz=>jl 5 a z (bo 0 d λbD=>bS x bD λbU=>cZ bD bU (lB bU t3 λbL=>b6 368 [z,w,bL] x y λbk bV ca=>bo 2 d λbO=>bS bV bO λcM=>cZ bO cM (hJ 1 cM t3 λcG=>bS bV cG λds=>cZ cG ds (bH .eql 2 ds (ad 0) λdh=>K (.tuple ⟨[bk,dh]⟩) bV ca) 2 [x,k]) 2 [x,k]) 1 [k]) 1 [k])) (ax k 2 d λam=>dL k 1 am t3 λez=>K (.tuple ⟨[ez,j]⟩) k l))
theorem aoQ:uo 403 acw:=vw []
def aeN:cS:=λs ah h U K=>bH .sub 3 ah (ad 1) λa=>bH .shr 3 a (.int .u64 1) λb=>K b h U
theorem asN:cT 459 aeN:=cV []
def jw(a c d:Nat):Nat:=min (max a c) d
theorem Xn{s:al}{n:Nat}{h:ae}{U:Nat}(A:n<=4096):aH Q s 313 [(n:X)] h U (fr (.bool true) U h):=by
 refine als ?_;unfold aak;refine aD ?_;refine⟨λ_=>⟨?_,rfl,rfl⟩,λg=>absurd g J⟩
 grind
theorem Xo{s:al}{g D A B:Nat}{h:ae}{U:Nat}:aH Q s 316 [.agg ⟨[(g:X),(D:X)]⟩,.agg ⟨[(A:X),(B:X)]⟩] h U (dJ (.agg ⟨[((max g A:Nat):X),((max (max g A) (min D B):Nat):X)]⟩) U h):=by
 refine alu ?_;unfold aal;have M:max (g:Int) (A:Int)=((max g A:Nat):Int):=J
 have I:min (D:Int) (B:Int)=((min D B:Nat):Int):=J
 have E:max ((max g A:Nat):Int) ((min D B:Nat):Int)=((max (max g A) (min D B):Nat):Int):=J
 refine hx @M @I @E ?_;exact⟨rfl,aN,J⟩
theorem aoR{s:al}{n k i:Nat}{h:ae}{U:Nat}(D:n<=4096)(A:0<k)(g:k<=8)(aj:i<k):aH Q s 404 [(n:X),(k:X),(i:X)] h U (fr (((c8 n k (i+1)-c8 n k i:Nat):X)) U h):=by
 refine asC ?_;unfold aeF;refine bh (cv (J:i<1000000000000)) ?_;refine⟨λB=>absurd B J,λ_=>⟨λB=>absurd B J,λ_=>?_⟩⟩;refine(uT D A g J).mono ?_;rintro _ _ _ ⟨rfl,rfl,rfl⟩;refine(uT D A g J).mono ?_;rintro _ _ _ ⟨rfl,rfl,rfl⟩;have M:c8 n k i<=c8 n k (i+1):=uL J;have I:=ts (n:=n) A (i+1);have E:IntKind.wrap .i64 ((c8 n k (i+1):Int)-(c8 n k i:Int))=((c8 n k (i+1)-c8 n k i:Nat):Int):=by rw[show(c8 n k (i+1):Int)-(c8 n k i:Int)=((c8 n k (i+1)-c8 n k i:Nat):Int) by omega];exact iY _ J
 refine bh @E ?_;exact⟨rfl,rfl,rfl⟩
theorem aly{s:al}{n i ao:Nat}{v:X}{x:Nat->aw Int}{h:ae}{U:Nat}(bv:n<=4096)(ei:0<R)(E:R<=8)(d5:0<C)(xe:C<=8)(aj:i<R)(bZ:j<C)(aG:pK h ao U v (c8 n R (i+1)-c8 n R i) (λk=>x (c8 n R i+k))):
  aH Q s 338 [v,(n:X),(R:X),(C:X),(i:X),(j:X)] h U (λr ac Y =>
   lj ac U Y r (jw (c8 n R (i+1)) (c8 n C j) (c8 n C (j+1))-jw (c8 n R i) (c8 n C j) (c8 n C (j+1))) (λk=>x (jw (c8 n R i) (c8 n C j) (c8 n C (j+1))+k))/\aA U h ac/\U<=Y):=by
 refine aoP ?_;have ia:=aG;obtain⟨gN,rfl,aq⟩:=aG;obtain⟨bk,cap,rfl⟩:=aq.form;have hmj:c8 n C j<=c8 n C (j+1):=uL J;have bA:=ts (n:=n) ei (i+1);have hlj:=ts (n:=n) d5 (j+1);unfold acv;refine aD ?_;refine(Xn bv).mono ?_;rintro _ _ _ ⟨rfl,rfl,rfl⟩;refine⟨J,?_⟩;refine aD ?_;refine(Qr ei E d5 xe aj bZ).mono ?_;rintro _ _ _ ⟨rfl,rfl,rfl⟩;refine⟨J,?_⟩;have bT:∀{o a0},aA U h (F (F h U o) (U+1) a0):=aN
 refine aD ?_;refine(wd (ia.is.T bT  J) J).mono ?_;rintro _ h1 a5 ⟨rfl,d0,V⟩;refine⟨V,?_⟩;have cJ:=d0 U J;rw[ar J,aT]at cJ;have g1:=d0 (U+1) J;rw[aT]at g1;refine aD ?_;refine(aoR bv ei E aj).mono ?_;rintro _ h1 a5 ⟨rfl,rfl,rfl⟩;refine⟨J,?_⟩;simp(disch:=omega)only[bl,cJ,q5,seval];unfold FI;refine aD ?_;refine(Co  bv ei E J).mono ?_;rintro _ ap bX ⟨rfl,I,fg⟩;refine aD ?_;refine(Co  bv d5 xe J).mono ?_;rintro _ aM bW ⟨rfl,B,gJ⟩;refine⟨J,?_⟩;have A:=B bX J;rw[aT]at A;have P:=B U J;rw[ar J,ar J,I U J,cJ]at P;have Z:=B (U+1) J;rw[ar J,ar J,I (U+1) J,g1]at Z;refine bh @A ?_;refine Xo.mono ?_;rintro _ bc d4 ⟨rfl,D,hb⟩;refine⟨J,?_⟩;have g42:=(D bX J).trans A;have Up:=(D U J).trans P;have ME:=(D (U+1) J).trans Z;have gG:aA U h bc:=aN
 generalize cW:c8 n R i=a at *
 generalize L5:c8 n R (i+1)=aB at *
 generalize a1:c8 n C j=c at *
 generalize bj:c8 n C (j+1)=d at *
 have Um:IntKind.wrap .i64 (((max a c:Nat):Int)-(a:Int))=((max a c-a:Nat):Int):=by rw[show((max a c:Nat):Int)-(a:Int)=((max a c-a:Nat):Int) by omega];exact iY _ J
 have Ia:IntKind.wrap .i64 (((max (max a c) (min aB d):Nat):Int)-(a:Int))=((max (max a c) (min aB d)-a:Nat):Int):=by rw[show((max (max a c) (min aB d):Nat):Int)-(a:Int)=((max (max a c) (min aB d)-a:Nat):Int) by omega];exact iY _ J
 refine lh @Up @g42 @Um @Ia ?_;have jp:∀{o a0},aA U h (F (F bc d4 o) d4 a0):=(gG.set J).set J;refine(aoL   (ia.T  (λb _ aO=>jp b aO) (cD _) J) J rfl).mono ?_;rintro r cy n6 ⟨bb,M,n2⟩;obtain⟨aCc,rfl,g⟩:=bb;obtain⟨nB,ou,rfl,_⟩:=id g;have xg:=M (U+1) J;rw[ar J,ar J,ME]at xg;refine bh @xg ?_;have es:min (max (max a c) (min aB d)-a) (aB-a)-(max a c-a)=jw aB c d-jw a c d:=by unfold jw;omega
 rw[es]at g ⊢;refine⟨⟨_,rfl,?_⟩,(jp.trans M J).set J,J⟩;have BR:(bq (jw aB c d-jw a c d) λk=>x (a+(max a c-a+k)))=bq (jw aB c d-jw a c d) λk=>x (jw a c d+k):=x8 λk hk=>by
  congr 1
  unfold jw at hk ⊢;omega
 rw[BR]at g ⊢;exact g.T (λb h1 ap=>ar J) J J
def GdJ(cj:Nat)(v ka:X)(n:Nat)(au:ae)(U a4:Nat)(m:Nat)(aF:aa X)(ac:ae)(Y:Nat):Prop :=
 ∃i,m=n-i/\i<=n/\aF=[v,ka,bf cj,.int .i64 0,v,(n:X),(i:X)]/\u ac cj=some (.cells [.int .i64 0,.slice none 0 0] false)/\aA U au ac/\a4<=Y
theorem alz{s:al}{v:X}{ao:Nat->Nat}{x:Nat->aw Int}{h:ae}{U:Nat}(H:Ap h U v ao m x)(bp:m<=1000)(bE:∀i M B,i<m->aA U h M->U<=B->aH Q true er ((i:X)::cs) M B (dJ (((ao (i+1)-ao i:Nat):X)) B M)):
  aH Q s 314 [v,(m:X),.func (.func er) ⟨[]⟩ ⟨cs⟩] h U (λr ac Y=>∃w,r = .tuple ⟨[w,.int .i64 0]⟩/\pK ac U Y w (ao m-ao 0) (λk=>x (ao 0+k))/\aA U h ac/\U<=Y):=by
 refine aoN ?_;have r0:=H;obtain⟨⟨L,rfl,aq,eD⟩,E,hb⟩:=H;obtain⟨bk,cap,rfl⟩:=aq.form;have bT:∀{o},aA U h (F h U o):=aN
 unfold acs;simp(disch:=omega)only[bl,q5,seval];refine bC.mk (GdJ U (.slice bk L.length cap) (.func (.func er) ⟨[]⟩ ⟨cs⟩) L.length h U (U+1)) L.length ⟨0,J,J,rfl,ab,bT,J⟩ ?_;rintro _ _ M B ⟨i,rfl,aj,rfl,g1,d0,f0⟩;rw[alt];unfold Yq;refine aD ?_;refine⟨λct=>?_,λeM=>?_⟩
 ·obtain⟨⟨n,gN⟩,cd⟩:=dR   J;obtain⟨bv,A⟩:=eD i _ cd;have A:el h U gN fG 2 (bq n λk=>x (ao i+k)):=A;have axW:ao (i+1)<=ao L.length:=QC E J;obtain⟨dr,e2,rfl⟩:=A.form;obtain⟨b,a0,aS,ro,tP,kZ,aO,aW,a9,mx⟩:=(aq.T d0 (Y:=B) J).ld (λ_=>rfl) cd;cases aW;refine cQ @a9 @mx ?_;rw[show yr (n,.slice dr (bq n λk=>x (ao i+k)).length e2)=[(n:X),.slice dr (bq n λk=>x (ao i+k)).length e2]from rfl];have cP:∀{o a0},aA U h (F (F M B o) B a0):=aN
  refine aD ?_;refine(wd   ⟨_,rfl,A.T cP  J⟩ J).mono ?_;rintro _ ap bX ⟨rfl,g,D⟩;refine⟨D,?_⟩;have P:=g B J;rw[aT]at P;have I:=g U J;rw[ar J,ar J,g1]at I;refine aD ?_;have eA:=cP.trans g J;refine(bE i ap bX J eA J).mono ?_;rintro _ aM bW ⟨rfl,V,Z⟩;refine⟨Z,?_⟩;have c6:=(V B J).trans P;have Ea:=(V U J).trans I;refine hx @c6 @P (cv (J:i<1000000000000)) ?_;refine⟨λaO=>absurd aO ab,λ_=>?_⟩;refine⟨_,?_,i+1,rfl,J,rfl,Ea,aN,J⟩;omega
 ·have:i=L.length:=J
  subst this;refine(aoM (r0.T d0  J) bp).mono ?_;rintro _ ap bX ⟨w,rfl,b0,g,D⟩;obtain⟨VJ,rfl,zb⟩:=id b0;obtain⟨nB,ou,rfl⟩:=zb.form;have P:=(g U J).trans g1;refine bh @P ?_;exact⟨_,rfl,b0.T ab J J,aN,J⟩
theorem aoS{s:al}{n i g:Nat}{eE nJ aDm r10:al}{h:ae}{U:Nat}(bv:n<=4096)(ei:0<R)(H5:R<=8)(d5:0<C)(Z:C<=8)(aj:i<R)(bZ:j<C)(V:u h cj=some (.cells [(n:X)] eE))(ed:u h cN=some (.cells [(R:X)] nJ))(qX:u h fk=some (.cells [(C:X)] aDm))(E:u h g=some (.cells [(j:X)] r10))(cI:cj<U)(fB:cN<U)(zv:fk<U)(b10:g<U):
  aH Q s 315 [(i:X),bf cj,bf cN,bf fk,bf g] h U
   (dJ (((jw (c8 n R (i+1)) (c8 n C j) (c8 n C (j+1))-jw (c8 n R i) (c8 n C j) (c8 n C (j+1)):Nat):X)) U h):=by
 refine asL ?_;unfold aeM;refine cQ @V @ed ?_;refine(Co  bv ei H5 J).mono ?_;rintro _ ap bX ⟨rfl,A,D⟩;refine⟨D,?_⟩;have P:=(A cj cI).trans V;have g72:=(A fk zv).trans qX;have B:=(A g b10).trans E;refine AA @P @g72 @B @V @qX @E ?_;refine(Co  bv d5 Z J).mono ?_;rintro _ aM bW ⟨rfl,e1,I⟩;refine⟨I,?_⟩;refine Xo.mono ?_;rintro _ bc d4 ⟨rfl,fI,M⟩;refine⟨M,?_⟩;have bA:=ts (n:=n) ei (i+1);generalize c8 n R i=a at *
 generalize c8 n R (i+1)=aB at *
 generalize c8 n C j=c at *
 generalize c8 n C (j+1)=d at *
 have fb:IntKind.wrap .i64 (((max (max a c) (min aB d):Nat):Int)-((max a c:Nat):Int))=((jw aB c d-jw a c d:Nat):Int):=by rw[show((max (max a c) (min aB d):Nat):Int)-((max a c:Nat):Int)=((jw aB c d-jw a c d:Nat):Int) by unfold jw;omega];exact iY _ (by unfold jw;omega)
 refine bh @fb ?_;exact⟨rfl,aN,J⟩
theorem asO{s:al}{n:Nat}{v:X}{x:Nat->aw Int}{h:ae}{U:Nat}(bv:n<=4096)(E:0<R)(D:R<=8)(V:0<C)(A:C<=8)(bZ:j<C)(H:Ap h U v (λi=>jw (c8 n R i) (c8 n C j) (c8 n C (j+1))) R x):
  aH Q s 223 [(n:X),(R:X),(C:X),(j:X),v] h U (λr ac Y=>∃w,r = .tuple ⟨[w,.int .i64 0]⟩ /\
   pK ac U Y w (c8 n C (j+1)-c8 n C j) (λk=>x (c8 n C j+k))/\aA U h ac/\U<=Y):=by
 refine avq ?_;have hmj:c8 n C j<=c8 n C (j+1):=uL J;have hlj:=ts (n:=n) V (j+1);have bT:∀{o a0 k6 gh l0},aA U h (F (F (F (F (F h U o) (U+1) a0) (U+2) k6) (U+3) gh) (U+4) l0):=aN
 unfold af7;refine aD ?_;refine(Xn bv).mono ?_;rintro _ h1 a5 ⟨rfl,gi,eN⟩;rw[gi,eN];refine aD ?_;refine(Qr  E D V A E bZ).mono ?_;rintro _ ap bX ⟨rfl,Z,M⟩;rw[Z,M];refine aD ?_;unfold QD;refine aD ?_;refine(alz (H.T bT  J) J   (λi aM bW aj g B=>?_)).mono ?_
 ·exact aoS bv E D V A aj bZ ((g U J).trans (by rw[ar J,ar J,ar J,ar J,aT])) ((g (U+1) J).trans (by rw[ar J,ar J,ar J,aT])) ((g (U+2) J).trans (by rw[ar J,ar J,aT])) ((g (U+3) J).trans (by rw[ar J,aT])) J J J J
 rintro _ aM bW ⟨w,rfl,P,g,B⟩;have aE:jw (c8 n R 0) (c8 n C j) (c8 n C (j+1))=c8 n C j:=by rw[aew];unfold jw;omega
 have aW:jw (c8 n R R) (c8 n C j) (c8 n C (j+1))=c8 n C (j+1):=by rw[aex E];unfold jw;omega
 rw[aE,aW]at P;obtain⟨VJ,rfl,I⟩:=id P;obtain⟨nB,ou,rfl⟩:=I.form;have c6:=(g (U+4) J).trans (aT _ _ _);refine bh @c6 ?_;exact⟨_,rfl,P.T ab J J,aN,J⟩
theorem KP{s:al}{n k:Nat}{p:Nat->al}{v:X}{h:ae}{U:Nat}(bv:n<=63)(D:k<n)(E:cr h U v j0 (eT n p)):aH Q s 334 [v,(k:X)] h U (fr (.bool (p k)) U h):=by
 refine af2 ?_;have Z:eT n p=[mk n p]:=if_neg J;rw[Z]at E;obtain⟨a,cap,rfl,a1⟩:=id E;obtain⟨b,aS,ro,aO,rfl,I⟩:=a1 (by simp);unfold SM bH b6 cZ bS hJ;refine(Yg J).mono ?_;rintro r aM M ⟨rfl,B,A⟩;rw[B,A];refine⟨cD _,?_⟩;refine aD ?_;refine(aej J).mono ?_;rintro r aM M ⟨rfl,B,A⟩;rw[B,A];refine⟨cD _,?_⟩;have P:bin Q .and 188 (.int .u64 (mk n p:Int)) (.int .u64 ((2 ^ k:Nat):Int)) = .ok (.int .u64 (mk n (λi=>p i&&decide (i=k)):Int)):=by rw[adn D,FR (wU J) (wU J),aue]
 have g:u h b=some (.cells [.int .u64 (mk n p:Int)] ro):=I;simp(disch:=omega)only[bl,FT,show k / 64=0 by omega,show((0:Nat):Int)=0 from rfl,g,P,mb,E5,seval];have V:(!((mk n (λi=>p i&&decide (i=k)):Int) == 0))=p k:=by
  cases bg:p k with
  |true =>
   have:mk n (λi=>p i&&decide (i=k))≠0:=λe=>by
    have:=Gh.1 e k D
    grind
   grind
  |false =>
   have:mk n (λi=>p i&&decide (i=k))=0:=Gh.2 λi aj=>ab
   grind
 rw[V];exact⟨rfl,rfl,rfl⟩
def j7(x:Nat->aw Int)(i:Nat):al:=(x i).isSome
def jP(x:Nat->aw Int)(i:Nat):Int:=(x i).getD 0
def sp(h:ae)(U:Nat)(v:X)(n:Nat)(x:Nat->aw Int):Prop:=∃ft dr,v = .agg ⟨[(n:X),ft,dr]⟩/\cr h U ft j0 (eT n (j7 x))/\el h U dr cq 1 (cn n (jP x))
def Dc(h:ae)(ao aj:Nat)(v:X)(n:Nat)(x:Nat->aw Int):Prop:=∃ft dr,v = .agg ⟨[(n:X),ft,dr]⟩/\eG h ao aj ft j0 (eT n (j7 x))/\eG h ao aj dr cq (cn n (jP x))
section
variable {h ac:ae} {U Y ao aj d2 dm n:Nat} {v:X} {x:Nat->aw Int}
theorem sp.T(H:sp h U v n x)(A:aA U h ac)(g:U<=Y):sp ac Y v n x:=by obtain⟨a,b,e,D,B⟩:=H;exact⟨a,b,e,D.T A g,B.T A g⟩
theorem Dc.is(H:Dc h ao aj v n x):sp h aj v n x:=by obtain⟨a,b,e,A,g⟩:=H;exact⟨a,b,e,A.rd,cr.o (λ_=>rfl) g.rd⟩
theorem Dc.T(H:Dc h ao aj v n x)(g:∀b,ao<=b->b<aj->u ac b=u h b)(B:d2<=ao)(A:aj<=dm):Dc ac d2 dm v n x:=by obtain⟨a,b,e,D,E⟩:=H;exact⟨a,b,e,D.T g B A,E.T g B A⟩
end
theorem aoT(n:Nat)(f:Nat->Int)(k:Nat)(y:Int):(cn n f).set k y=cn n (λj=>if j=k then y else f j):=by
 apply pj;intro i;unfold cn
 grind
theorem alA(n:Nat):List.replicate n (Value.int .i64 0)=bd cq (cn n λ_=>0):=by
 induction n with
 |zero=>rfl
 |succ n g =>
  rw[GM,zU,<-g,NG];rfl
theorem J8{n:Nat}{f g:Nat->Int}(h:∀i,i<n->f i=g i):cn n f=cn n g:=by exact oC ab
theorem asP{s:al}{n:Nat}{h:ae}{U:Nat}(M:n<=63):aH Q s 388 [(n:X)] h U (λr ac Y=>∃D b,r = .agg ⟨[(n:X),D,.slice (some ⟨b,0,none⟩) n n]⟩/\U<b/\b<Y/\u ac b=some (.cells (bd cq (cn n λ_=>0)) false)/\eG ac (U+1) b D j0 (eT n λ_=>false)/\aA U h ac/\U<=Y):=by
 refine auK ?_;unfold afC;refine aD ?_;unfold Qa P9;refine aD ?_;refine⟨λA=>absurd A J,λ_=>⟨λA=>absurd A J,λ_=>?_⟩⟩;refine(aci M).mono ?_;rintro v Z P ⟨E,B,g⟩;obtain⟨V,cap,rfl,A⟩:=id E;refine⟨g,?_⟩;have I:=(B U J).trans (aT _ _ _);refine bh @I ?_;refine⟨_,P,rfl,J,J,?_,?_,aN,J⟩
 ·rw[ar J,aT,alA]
 ·exact E.T ab J J
theorem Yt{s:al}{n:Nat}{v:X}{x:Nat->aw Int}{h:ae}{U:Nat}(aG:sp h U v n x)(bv:n<=63):aH Q s 478 [v] h U (dJ (.bool true) U h):=by
 refine anu ?_;obtain⟨ft,dr,rfl,aq,E⟩:=aG;obtain⟨bk,cap,rfl,a1⟩:=id aq;obtain⟨I,g,rfl,nq⟩:=id E;have bT:∀{o},aA U h (F h U o):=aN
 unfold abH;refine aD ?_;refine(Yk bv (aq.T  bT J)).mono ?_;rintro _ h1 a5 ⟨rfl,M,f0⟩;have V:=(M U J).trans (aT _ _ _);refine bh @V ?_;unfold OK;refine bh @V ?_;rw[iW];refine⟨λa1=>absurd a1 (by simp),λ_=>?_⟩;have Z:=bT.trans M J;refine bC.mk (λm aF ac Y=>∃i,m=n-i/\i<=n/\aF=[bf U,.bool false,.slice I n g,(n:X),(i:X)]/\ac=h1/\Y=a5) n ⟨0,J,J,rfl,rfl,rfl⟩ ?_;rintro _ _ ap bX ⟨i,rfl,aj,rfl,gi,eN⟩;rw[akH];unfold Ya;refine aD ?_;refine⟨λD=>?_,λeM=>by rw[gi,eN];exact⟨rfl,Z,J⟩⟩;have D:i<n:=J
 have cd:(cn n (jP x))[i]? = some (jP x i):=by
  unfold cn
  grind
 rw[gi,eN];have A:el h1 a5 (.slice I (cn n (jP x)).length g) cq 1 (cn n (jP x)):=E.T Z J;rw[iW]at A;obtain⟨b,a0,aS,ro,cs,kZ,aO,aW,a9,P⟩:=el.ld1  A cd;rw[iW]at aW;cases aW;refine cQ @a9 @P ?_;have fin:∃bG,bG<n-i/\∃B,bG=n-B/\B<=n/\[Value.pointer (some ⟨U,0,none⟩),Value.bool false,Value.slice (some ⟨b,a0,aS⟩) n g,Value.int IntKind.i64 (n:Int),Value.int IntKind.i64 (IntKind.i64.wrap ((i:Int)+1))]=[Value.pointer (some ⟨U,0,none⟩),Value.bool false,Value.slice (some ⟨b,a0,aS⟩) n g,Value.int IntKind.i64 (n:Int),Value.int IntKind.i64 (B:Int)]:=⟨_,J,i+1,rfl,J,by rw[cv J]⟩
 refine⟨λcL=>?_,λ_=>fin⟩;rw[V];refine aD ?_;refine(KP bv D (aq.T Z  J)).mono ?_;rintro _ _ _ ⟨rfl,rfl,rfl⟩;have fw:j7 x i=true:=by
  unfold j7;unfold jP at cL;cases aY:x i with
  |none=>grind
  |some y=>rfl
 refine bh @fw ?_;omega
theorem aoU{s:al}{n:Nat}{v:X}{x:Nat->aw Int}{h:ae}{U:Nat}(I:sp h U v n x)(P:n<=63):aH Q s 450 [v] h U (dJ v U h):=by
 refine arl ?_;have B:=I;obtain⟨ft,dr,rfl,Z,A⟩:=I;obtain⟨_,_,rfl,_⟩:=id Z;obtain⟨_,_,rfl,_⟩:=id A;have V:∀{o a0},aA U h (F (F h U o) (U+1) a0):=aN
 unfold ad0;refine aD ?_;refine(Yt (B.T  V J) P).mono ?_;rintro _ h1 a5 ⟨rfl,g,M⟩;have D:=g U J;rw[ar J,aT]at D;have E:=g (U+1) J;rw[aT]at E;refine cQ @D @E ?_;exact⟨rfl,aN,J⟩
theorem aeO{s:al}{n:Nat}{v:X}{x:Nat->aw Int}{h:ae}{U:Nat}(aG:jU h U v n x)(bv:n<=63):aH Q s 318 [v] h U (λr ac Y=>Dc ac U Y r n x/\aA U h ac/\U<=Y):=by
 refine axm ?_;have ia:=aG;obtain⟨gN,rfl,aq⟩:=aG;obtain⟨bk,cap,rfl,a1⟩:=id aq;have bT:∀{o a0},aA U h (F (F h U o) (U+1) a0):=aN
 unfold agT;refine aD ?_;refine(wd (ia.T  bT J) J).mono ?_;rintro _ h1 a5 ⟨rfl,d0,f0⟩;have cJ:=d0 U J;rw[ar J,aT]at cJ;have g1:=d0 (U+1) J;rw[aT]at g1;refine bh @cJ ?_;refine(asP bv).mono ?_;rintro _ ap g ⟨ft,b,rfl,hR,fm,vL,DL,V,fg⟩;have Eb:=(V U J).trans cJ;have Mz:=(V (U+1) J).trans g1;obtain⟨E,A,rfl,_⟩:=id DL;refine bh @Eb ?_;have gz:=me n x;have g2n:u (F (F ap g (.cells [.int .i64 0,.slice none 0 0,.slice none 0 0] false)) g (.cells [(n:X),.slice E (eT n λx=>false).length A,.slice (some ⟨b,0,none⟩) n n] false)) g=some (.cells [(n:X),.slice E (eT n λx=>false).length A,.slice (some ⟨b,0,none⟩) n n] false):=ab
 have eA:aA g ap (F (F ap g (.cells [.int .i64 0,.slice none 0 0,.slice none 0 0] false)) g (.cells [(n:X),.slice E (eT n λx=>false).length A,.slice (some ⟨b,0,none⟩) n n] false)):=aN
 generalize fK:F (F ap g (.cells [.int .i64 0,.slice none 0 0,.slice none 0 0] false)) g (.cells [(n:X),.slice E (eT n λx=>false).length A,.slice (some ⟨b,0,none⟩) n n] false)=aM at g2n eA ⊢;refine bC.mk (λm aF ac Y=>∃i,m=(bq n x).length-i/\i<=(bq n x).length/\aF=[bf U,.pointer (some ⟨U+1,0,none⟩),bf g,.slice bk (bq n x).length cap,.int .i64 ((bq n x).length:Int),(i:X)] /\
  u ac b=some (.cells (bd cq (cn n λk=>if mX (((bq n x).map (·.1)).take i) k=true then jP x k else 0)) false)/\(∀c,c<g+1->c≠b->u ac c=u aM c)/\g+1<=Y) (bq n x).length ⟨0,J,J,rfl,?_,ab,J⟩ ?_
 ·rw[eA b fm,vL];rfl
 rintro _ _ bc d4 ⟨i,rfl,aj,rfl,gb4,P,hb⟩;have gG:aA U h bc:=aN
 have I:=(P g J J).trans g2n;have M:=(P U J J).trans ((eA U J).trans Eb);have ME:=(P (U+1) J J).trans ((eA (U+1) J).trans Mz);rw[auF];unfold adS;refine aD ?_;refine⟨λct=>?_,λeM=>?_⟩
 ·obtain⟨⟨k,y⟩,cd⟩:=dR   J;obtain⟨hk,aY⟩:=wq cd;obtain⟨ce,a0,aS,ro,cs,kZ,gK,aW,a9,mx⟩:=(aq.T gG (Y:=d4) J).ld (λ_=>rfl) cd;cases aW;refine cQ @a9 @mx ?_;rw[show fG (k,y)=[(k:X),(y:X)]from rfl];refine bh @I ?_;have b0:=Sd (enc:=cq)  (λ_=>rfl) (λ_=>rfl) (h:=F (F bc d4 (.cells [.int .i64 0,.int .i64 0] false)) d4 (.cells [(k:X),(y:X)] false)) (b:=b)  (l:=cn n λk=>if mX (((bq n x).map (·.1)).take i) k=true then jP x k else 0) (y:=y) (by rw[iW];omega);rw[Fg]at b0;rw[show cq y=[Value.int .i64 y]from rfl]at b0;rw[gb4,b0];refine bh (cv (J:i<1000000000000)) ?_;refine⟨_,?_,i+1,rfl,J,rfl,?_,λc h1 ap=>?_,J⟩
  ·omega
  ·rw[aoT]
   congr 3
   apply J8;intro j bZ;rw[ZP (show((bq n x).map (·.1))[i]? = some k by grind)]
   by_cases e:j=k
   ·subst e;simp[jP,aY]
   grind
  grind
 ·have:i=(bq n x).length:=J
  subst this;refine bh @M ?_;refine(Xm ((ia.T gG  J)) J).mono ?_;rintro EK b3 fP ⟨bg,B,nl⟩;refine⟨nl,?_⟩;have g05:=(B U J).trans M;refine cQ @M @g05 ?_;have mn:(bq n x).map (λp=>(p.1:Int))=f1 ((bq n x).map (·.1)):=by unfold f1;rw[pn];rfl
  rw[mn]at bg;refine(KO bv bg.rd (λj bZ=>?_) ab).mono ?_
  ·obtain⟨⟨a,c⟩,cW,rfl⟩:=fz.1 bZ;exact(jS.1 cW).1
  rintro ka cy n6 ⟨bE,D,Z⟩;refine⟨Z,?_⟩;obtain⟨adf,aBw,rfl,_⟩:=id bE;have azM:=(D g J).trans ((B g J).trans I);have xg:=(D (U+1) J).trans ((B (U+1) J).trans ME);refine cQ @azM @xg ?_;have qc:eT n (mX ((bq n x).map (·.1)))=eT n (j7 x):=by
   unfold eT
   by_cases cL:n=0
   ·grind
   ·rw[if_neg cL,if_neg cL,CT];intro i aj;unfold mX j7;cases aY:x i with
    |none =>
     refine hD λbp=>?_;obtain⟨⟨a,c⟩,cW,rfl⟩:=fz.1 bp;have:=(jS.1 cW).2
     grind
    |some y=>exact gP (fz.2 ⟨(i,y),jS.2 ab,rfl⟩)
  have eg:(cn n λk=>if mX (((bq n x).map (·.1)).take (bq n x).length) k=true then jP x k else 0)=cn n (jP x):=by
   apply J8;intro i aj;rw[q3 ab];unfold mX jP;cases aY:x i with
   |none=>simp
   |some y =>
    rw[if_pos];exact gP (fz.2 ⟨(i,y),jS.2 ab,rfl⟩)
  rw[eg]at gb4;refine⟨⟨_,_,rfl,?_,?_⟩,?_,J⟩
  ·rw[qc]at bE ⊢;exact bE.T ab J J
  ·refine⟨some ⟨b,0,none⟩,n,by rw[iW],λ_=>⟨b,none,false,J,J,rfl,?_⟩⟩;rw[ar J,ar J,D b J,B b J];omega
  ·exact(((gG.trans B J).trans D J).set J).set J
def If(s:al)(G:Nat)(cs:aa X)(N:Nat)(A:Nat->aa X)(S:ae->Nat->Prop):Prop :=
 ∀(l:Nat) (I:Nat->ae->Nat->Prop) (ac:ae) (Y:Nat),(∀k h1 a5,I k h1 a5->S h1 a5)->(∀k h1 a5 ap bX,I k h1 a5->aA a5 h1 ap->a5<=bX->I k ap bX)->I 0 ac Y ->
  (∀(lx:al) k,k<N->∀h1 a5,I k h1 a5->lW Q lx l (A k) h1 a5 (λr ap bX=>r = .bool true/\I (k+1) ap bX/\a5<=bX))->aH Q s G (.func (.yield l) ⟨[]⟩ ⟨[]⟩::cs) ac Y (λ_ ap bX=>I N ap bX)
theorem Se{s:al}{ak:cc}{Z:aa Nat}{a b:Code}{N:Nat}{A:Nat->aa X}{h:ae}{U:Nat}{aCd aDn:ae->Nat->Prop}(I:Nat->ae->Nat->Prop)(it:If s G cs N A S)(hk:∀k g B,I k g B->S g B/\U+1<=B)(V:∀k g B M E,I k g B->(∀c,c<B->c≠U->u M c=u g c)->B<=E->I k M E)(au:I 0 (F h U (.loop 0 none ak Z a b)) (U+1))(step:∀(s:al) k,k<N->∀g B,I k g B->u g U=some (.loop 0 none ak Z a b)->lW Q s U (A k) g B (λr M E=>r = .bool true/\u M U=some (.loop 0 none ak Z a b)/\I (k+1) M E/\B<=E))(fin:∀g B,I N g B->aCd g B):tO Q s (.func (.func G) ⟨[]⟩ ⟨cs⟩) h U (.loop 0 none ak Z a b) (yA U aCd aDn):=by
 refine(it U (λk g B=>u g U=some (.loop 0 none ak Z a b)/\I k g B) _ _ (λk g B D=>(hk k g B D.2).1)
  (λk g B M E D P dO=>⟨(P U (by have:=(hk k g B D.2).2;omega)).trans D.1,V k g B M E D.2 (λc g _=>P c g) dO⟩) ⟨ab,au⟩ λs k Mm g B D=>?_).mono ?_
 ·exact(step s k Mm g B D.2 D.1).mono λr M E ⟨aW,aK,cf,dT⟩=>⟨aW,⟨aK,cf⟩,dT⟩
 ·rintro _ g B ⟨bA,D⟩;exact⟨0,none,_,_,_,_,bA,J,.inl ⟨rfl,fin _ _ (V _ _ _ _ _ D ab J)⟩⟩
theorem alB{s:al}{h:ae}{U:Nat}(eD:L.length<=10000)(it:If s G cs L.length (λk=>[.agg ⟨fG (L.getD k (0,0))⟩]) S)(Z:∀g A,aA U h g->U<=A->S g A):
  aH Q s 495 [.slice none 0 0,.func (.func G) ⟨[]⟩ ⟨cs⟩] h U (λr ac Y=>eG ac U Y r fG L/\aA U h ac/\U<=Y):=by
 refine aoj ?_;unfold acf;refine aD ?_;refine Se (λk g A=>∃v,u g U=some (.cells [v] false)/\gZ v=true/\d1 g v fG 2 (L.take k) (U+2) A/\aA U h g/\U+2<=A) it ?_ ?_ ?_ ?_ ?_
 ·rintro k g A ⟨v,_,_,_,g,ap⟩;exact⟨Z _ _ g J,ap⟩
 ·rintro k g A ap bX ⟨v,e,eg,B,hk,M⟩ eW I;exact⟨v,ab,eg,B.T ab I,aN,J⟩
 ·exact⟨_,ab,rfl,.inl ⟨rfl,rfl⟩,aN,J⟩
 ·rintro s k hk g A ⟨v,e,eg,B,D,M⟩ bA;obtain⟨p,bg⟩:=dR hk;have mT:L.getD k (0,0)=p:=ab
  rw[mT];refine ak7 bA ?_;unfold Pv Z4;generalize uP _ _ _=ak at *
  simp(disch:=omega)only[bl,show dj (.agg ⟨fG p⟩)=[(p.1:X),(p.2:X)]from rfl,seval];refine⟨none,bA,?_⟩;refine bh @e ?_;refine lJ (k:=2) (λ_=>rfl) (λ_=>rfl) J (B.T ab J) J p (aT _ _ _) rfl ab λdF b3 V gf=>?_;have xC:u b3 (U+1)=some (.loop 1 none ak [7] uM uN):=ab
  have h5:u b3 U=some (.cells [v] false):=ab
  have ci:L.take (k+1)=L.take k++[p]:=by rw[ho,bg];rfl
  rcases V with⟨aE,rfl⟩|⟨b,P,E,rfl,a9⟩
  ·simp at aE
  ·refine bh @h5 ?_;refine⟨1,none,xC,⟨_,rfl,rfl,.inr ⟨b,P,J,by rw[ci],?_⟩,aN,J⟩,J⟩
   grind
 ·rintro g A ⟨v,e,eg,B,D,M⟩;rw[hC]at B;refine bh @e ?_;refine⟨?_,D,J⟩;rcases B with⟨rfl,rfl⟩|⟨b,P,E,rfl,a9⟩
  ·exact⟨_,_,rfl,λh=>absurd rfl h⟩
  ·exact⟨_,_,rfl,λ_=>⟨b,some 2,false,J,E,rfl,a9⟩⟩
theorem J9{q:Nat->al}{a:Int}:∀{n:Nat},(∀i,i<n->q i=true->¬a<=(i:Int))->fH q a n = -1
 |0,_=>rfl
 |n+1,h=>by show(if fH q a n = -1 then(if q n=true/\a<=(n:Int)then(n:Int)else -1)else fH q a n) = -1;rw[if_pos (J9 ab),if_neg λg=>h n J g.1 g.2]
theorem aeP{a:Int}{n:Nat}(E:m<n)(A:q m=true)(D:a<=(m:Int))(g:∀i,i<m->q i=true->¬a<=(i:Int)):fH q a n=(m:Int):=by
 have B:fH q a m = -1:=J9 g;have I:fH q a (m+1)=(m:Int):=by
  show(if fH q a m = -1 then(if q m=true/\a<=(m:Int)then(m:Int)else -1)else fH q a m)=_
  grind
 have:=RA (q:=q) (a:=a) (k:=m+1) J (n-(m+1))
 grind
def xh(n:Nat)(x:Nat->aw Int)(j:Nat):Int:=match(bq n x)[j]? with
 |some p=>(p.1:Int)
 |none=>-1
theorem aoV(n:Nat)(x:Nat->aw Int):fH (j7 x) 0 n=xh n x 0:=by
 unfold xh;cases D:(bq n x)[0]? with
 |none =>
  refine J9 λi aj g=>?_;unfold j7 at g;cases E:x i with
  |none=>grind
  |some y =>
   have:=jS.2 ⟨aj,E⟩
   grind
 |some p =>
  obtain⟨I,E⟩:=wq   D;refine aeP I (by unfold j7;grind) J λi aj g=>?_;unfold j7 at g;cases A:x i with
  |none=>grind
  |some y =>
   obtain⟨j,P,e⟩:=EX (jS.2 ⟨show i<n by omega,A⟩);have B:(bq n x)[j]? = some (i,y):=ab
   rcases zI j with rfl|M
   ·grind
   ·have:=u2   D B M;omega
theorem asQ{n:Nat}{x:Nat->aw Int}(M:(bq n x)[j]? = some p):fH (j7 x) ((p.1:Int)+1) n=xh n x (j+1):=by
 unfold xh;have I:∀i,i<n->j7 x i=true->(p.1:Int)+1<=(i:Int)->∃m y,j<m/\(bq n x)[m]? = some (i,y):=λi aj B A=>by
  unfold j7 at B;cases E:x i with
  |none=>grind
  |some y =>
   obtain⟨m,V,e⟩:=EX (jS.2 ⟨aj,E⟩);have g:(bq n x)[m]? = some (i,y):=ab
   refine⟨m,y,?_,g⟩;rcases zJ m j with h|h|h
   ·have:=u2   g M h;omega
   all_goals grind
 cases D:(bq n x)[j+1]? with
 |none =>
  refine J9 λi aj B A=>?_
  grind
 |some Z =>
  obtain⟨P,aY⟩:=wq   D;have:=u2     M D J;refine aeP P (by unfold j7;grind) J λi aj B A=>?_;obtain⟨m,y,V,g⟩:=I i J B A;rcases h8 (j+1) m with h|h
  ·have:=u2   D g h;omega
  grind
def azN(n cj:Nat)(x:Nat->aw Int)(ft dr:X)(h:ae)(U:Nat):Prop:=u h cj=some (.cells [(n:X),ft,dr] false)/\cr h U ft j0 (eT n (j7 x))/\el h U dr cq 1 (cn n (jP x))
theorem aoW{s:al}{n:Nat}{x:Nat->aw Int}{ft dr:X}(bv:n<=63):
  If s 479 [bf cj] (bq n x).length (λk=>[.int .i64 (((bq n x).getD k (0,0)).1:Int),.int .i64 ((bq n x).getD k (0,0)).2]) (azN n cj x ft dr):=by
 intro l I ac Y aj D au cd;refine arp ?_;unfold ad5;obtain⟨cJ,aq,Z⟩:=aj _ _ _ au;obtain⟨bk,cap,rfl,a1⟩:=id aq;obtain⟨ad2,ry,rfl,nq⟩:=id Z;refine bh @cJ ?_;refine(Qv bv aq).mono ?_;rintro _ h1 a5 ⟨rfl,d0,A⟩;rw[aoV];refine bC.mk (λm aF ap bX=>∃j,m=(bq n x).length-j/\j<=(bq n x).length/\aF=[.func (.yield l) ⟨[]⟩ ⟨[]⟩,bf cj,.int .i64 (xh n x j)]/\I j ap bX) (bq n x).length ⟨0,J,J,rfl,D _ _ _ _ _ au d0 A⟩ ?_;rintro _ _ ap bX ⟨j,rfl,bZ,rfl,p9⟩;rw[anv];unfold Zw;obtain⟨g2,nn,B⟩:=aj _ _ _ p9;rcases h8 j (bq n x).length with g|eM
 ·obtain⟨p,E⟩:=dR g;obtain⟨hk,aY⟩:=wq   E;have ht:xh n x j=(p.1:Int):=by unfold xh;grind
  have mT:(bq n x).getD j (0,0)=p:=ab
  have Tx:(cn n (jP x))[p.1]? = some p.2:=by unfold cn;rw[sa,B9 hk];unfold jP;grind
  obtain⟨b,a0,aS,ro,cs,kZ,aO,aW,sR,V⟩:=el.ld1  B Tx;cases aW;rw[ht];rw[iW]at *
  refine hx @g2 @sR @V ?_;refine⟨λ_=>?_,λa1=>absurd a1 J⟩;have vT:=cd s j g ap bX p9;simp only[mT]at vT;refine vT.mono ?_;rintro _ aM bW ⟨rfl,P,sN⟩;obtain⟨c6,Ig,aBx⟩:=aj _ _ _ P;refine cQ @c6 (cv (J:p.1<1000000000000)) ?_;refine(Qv bv Ig).mono ?_;rintro _ bc d4 ⟨rfl,fI,M⟩;exact⟨_,J,j+1,rfl,J,by rw[show((p.1+1:Nat):Int)=(p.1:Int)+1 by omega,asQ E],D _ _ _ _ _ P fI M⟩
 ·have:j=(bq n x).length:=J
  subst this;have ht:xh n x (bq n x).length = -1:=by unfold xh;grind
  rw[ht];refine aD ?_;exact⟨λh=>absurd trivial h,p9⟩
theorem aoX{s:al}{n:Nat}{v:X}{x:Nat->aw Int}{h:ae}{U:Nat}(aG:sp h U v n x)(bv:n<=63):aH Q s 391 [v] h U (λr ac Y=>lj ac U Y r n x/\aA U h ac/\U<=Y):=by
 refine asj ?_;have ia:=aG;obtain⟨ft,dr,rfl,aq,xf⟩:=aG;obtain⟨bk,cap,rfl,a1⟩:=id aq;obtain⟨M,g,rfl,nq⟩:=id xf;have gz:=me n x;unfold aeA;refine aD ?_;refine(aoU (ia.T aN J) bv).mono ?_;rintro _ ap D ⟨rfl,A,E⟩;have cJ:=(A U J).trans ((ar J).trans (aT _ _ _));have g1:=(A (U+1) J).trans (aT _ _ _);refine cQ @cJ @g1 ?_;refine auL ?_;unfold afD;refine aD ?_;have Ut:=aoW (s:=s) (cj:=D+1) (x:=x) (ft:=.slice bk (eT n (j7 x)).length cap) (dr:=.slice M (cn n (jP x)).length g) bv;generalize eD:bq n x=L at *
 refine Se (λk B V=>∃w,u B D=some (.cells [(n:X),w] false)/\gZ w=true/\d1 B w fG 2 (L.take k) (D+3) V/\u B (U+1)=some (.cells [.int .i64 0,.slice none 0 0] false)/\u B (D+1)=some (.cells [(n:X),.slice bk (eT n (j7 x)).length cap,.slice M (cn n (jP x)).length g] false)/\aA U h B/\D+3<=V) Ut ?_ ?_ ?_ ?_ ?_
 ·rintro k B V ⟨w,e,fb,I,aK,cf,Z,P⟩;exact⟨⟨cf,aq.T Z J,xf.T Z J⟩,J⟩
 ·rintro k B V ap n2' ⟨w,e,fb,I,aK,cf,Z,P⟩ A E;exact⟨w,ab,fb,I.T ab E,ab,ab,aN,J⟩
 ·exact⟨.slice none 0 0,ab,rfl,.inl ab,ab,ab,λc a1=>by
   repeat rw[ar J]
   rw[A c J]
   repeat rw[ar J],J⟩
 ·rintro s k Z B V ⟨w,e,fb,I,aK,cf,hkp,P⟩ bA;obtain⟨p,bg⟩:=dR Z;have mT:L.getD k (0,0)=p:=ab
  rw[mT];refine aol bA ?_;unfold Qt acg;generalize uU _ _ _ _ _ _ _ _ _ _ _=ak at *
  refine⟨none,bA,?_⟩;refine bh @e ?_;refine lJ (k:=2) (ao:=D+3) (λ_=>rfl) (λ_=>rfl) J (I.T ab J) J p (aT _ _ _) rfl ab λdF b3 t9 gf=>?_;have xC:u b3 (D+1+1)=some (.loop 1 none ak [13,14] uQ uR):=ab
  have h5:u b3 D=some (.cells [(n:X),w] false):=ab
  have h2:u b3 (U+1)=some (.cells [.int .i64 0,.slice none 0 0] false):=ab
  have gy:u b3 (D+1)=some (.cells [(n:X),.slice bk (eT n (j7 x)).length cap,.slice M (cn n (jP x)).length g] false):=ab
  have VK:aA U h b3:=aN
  have ci:L.take (k+1)=L.take k++[p]:=by rw[ho,bg];rfl
  rcases t9 with⟨aE,rfl⟩|⟨b,hR,fm,rfl,a9⟩
  ·simp at aE
  ·refine bh @h5 ?_;refine⟨1,none,xC,⟨_,rfl,rfl,.inr ⟨b,hR,J,by rw[ci],?_⟩,h2,gy,(VK.set J).set J,J⟩,J⟩
   grind
 ·rintro B V ⟨w,e,fb,I,aK,cf,hkp,P⟩;rw[hC]at I;obtain⟨_,_,rfl⟩:∃a c,w = .slice a L.length c:=by
   rcases I with⟨aW,rfl⟩|⟨b,_,_,rfl,_⟩
   all_goals grind
  refine cQ @e @aK ?_;refine⟨⟨_,rfl,?_⟩,aN,J⟩;rw[eD];rcases I with⟨rfl,aW⟩|⟨b,hR,fm,aW,a9⟩
  ·exact⟨_,_,aW,λh=>absurd rfl h⟩
  ·exact⟨_,_,aW,λ_=>⟨b,some 2,false,J,fm,rfl,ab⟩⟩
theorem KA:∀(p:aa GE) (a:Nat),a∈dY p↔∃g∈p,g.f=a:=by
 refine CK (λa=>⟨λh=>(td h).elim,ab⟩) λp g B a=>⟨Gr _ a,?_⟩
 rintro⟨x,A,rfl⟩;rw[wk];unfold tu
 grind
theorem avs:∀(p:aa GE),kR p->(dY p).Pairwise (·<·):=by
 refine CK (λ_=>List.Pairwise.nil) λp g eY E=>?_;have Z:=eY (r7.1 E).1;rw[wk];unfold tu
 split
 ·omega
 ·rename_i D
  refine r7.2 ⟨Z,ab,λa cW b aO=>?_⟩;rw[iU.1 aO];obtain⟨x,A,rfl⟩:=Gr p a cW;have I:=Ad E x A;rcases I with I|I
  ·omega
  ·exfalso;rw[Z2]at D;cases M:p.getLast? with
   |none=>grind
   |some y =>
    rw[M]at D;have V:=Ad E y ab;unfold mV at V;have cd:¬y.f=g.f:=ab
    obtain⟨q,P⟩:=I6.1 M;have B:=(r7.1 E).1;rw[P]at B A;rcases hp.1 A with A|A
    ·have:=Ad B x A;unfold mV at this;omega
    grind
theorem acx(A:a<=b)(h:∀g∈ag,¬(a<=g.f/\g.f<b)):dC ag b=dC ag a:=by
 unfold dC
 congr 1
 apply Jf
 grind
theorem Aq(A:kR ag){i:Nat}(aj:(dY ag)[i]? = some a)(B:(dY ag)[j]? = some b)(g:i<j):a<b:=by
 have h:=avs ag A;rw[xK]at h
 grind
theorem C0(g:(dY ag)[m]? = some a):(g5 ag)[m]? = some (dC ag a:Int):=by
 unfold g5
 grind
theorem QE(ag:aa GE):(g5 ag)[(dY ag).length]? = some (ag.length:Int):=by
 unfold g5
 grind
theorem asR(h:∀g∈ag,g.f<a):dC ag a=ag.length:=by unfold dC;rw[zG.2 ab]
theorem Ka(M:kR ag)(I:(dY ag)[m]? = some a):(g5 ag)[m+1]? = some (dC ag (a+1):Int):=by
 have P:=(hn.1 I).1;have E:∀g∈ag,a<g.f->∃j,m<j/\(dY ag)[j]? = some g.f:=λg D Z=>by
  obtain⟨j,bZ,e⟩:=EX ((KA ag g.f).2 ⟨g,D,rfl⟩);have A:(dY ag)[j]? = some g.f:=ab
  refine⟨j,?_,A⟩;rcases zJ m j with h|h|h
  ·exact h
  ·grind
  ·have:=Aq M A I h;omega
 rcases h8 (m+1) (dY ag).length with h|h
 ·have B:(dY ag)[m+1]? = some (dY ag)[m+1]:=ab
  generalize (dY ag)[m+1]=b at B;have D8:=Aq M I B J;rw[C0 B,acx (a:=a+1) J];rintro g D ⟨h1,ap⟩;obtain⟨j,bZ,e⟩:=E g D J;rcases h8 (m+1) j with V|V
  ·have:=Aq M B e V;omega
  grind
 ·have:m+1=(dY ag).length:=J
  rw[this,QE,asR]
  grind
theorem asS(A:a∈dY ag):dC ag a<dC ag (a+1):=by
 obtain⟨g,B,rfl⟩:=Gr ag a A;rw[ZY];have:0<hE ag (g.f+1):=by
  apply EY.2;intro e;have this:g∈(ag.filter λx=>decide (x.f+1=g.f+1)):=ab
  grind
 omega
theorem axX(I:kR ag):(g5 ag)[0]? = some 0:=by
 cases h:(dY ag)[0]? with
 |some a =>
  rw[C0 h,show dC ag a=dC ag 0 from acx (by omega) ?_,Lb];rfl;rintro g D ⟨_,M⟩;obtain⟨j,P,e⟩:=EX ((KA ag g.f).2 ⟨g,D,rfl⟩);have A:(dY ag)[j]? = some g.f:=ab
  rcases zI j with rfl|E
  ·grind
  ·have:=Aq I h A E;omega
 |none =>
  have e:(dY ag).length=0:=ab
  have B:=QE ag;rw[e]at B;rw[B];have:ag=[]:=by
   cases ag with
   |nil=>rfl
   |cons x l =>
    have:=(KA (x::l) x.f).2 ⟨x,ab,rfl⟩
    grind
  grind
theorem avt(E:kR ag){x y:Int}(B:(g5 ag)[m]? = some x)(A:(g5 ag)[m+1]? = some y):x<y:=by
 have D:=(hn.1 A).1;rw[ya]at D;have g:(dY ag)[m]? = some (dY ag)[m]:=ab
 generalize (dY ag)[m]'J=a at g;rw[C0 g]at B;rw[Ka E g]at A;cases B;cases A;have:=asS (kz g);omega
theorem axY{x:Int}(g:(g5 ag)[m]? = some x):0<=x/\x<=ag.length:=by
 have:=kz g;rcases hp.1 this with h|h
 ·obtain⟨a,_,rfl⟩:=fz.1 h;have:=u1 ag a;omega
 grind
theorem el.i{h:ae}{U:Nat}{v:X}{l:aa Int}(H:el h U v cq 1 l):sP h U v l:=by
 obtain⟨a,cap,e,D⟩:=id H;refine⟨a,cap,e,λg=>?_⟩;obtain⟨b,o,aS,ro,cs,aO,P,B,h1,ap⟩:=D g;refine⟨b,o,aS,ro,cs,aO,P,B,λi x Z=>?_⟩;obtain⟨ce,a0,M,Ih,V,A,_,cf,I,E⟩:=el.ld1  H Z
 grind
theorem Om{s:al}{n m:Int}{h:ae}{U:Nat}:aH Q s 492 [(n:X),(m:X)] h U (fr (.bool (decide (0<=n/\n<=m))) U h):=by
 refine aln ?_;unfold aaf;refine aD ?_;refine⟨λA=>?_,λA=>?_⟩
 ·by_cases g:m<n
  ·rw[gP g,hD J];exact⟨rfl,rfl,rfl⟩
  ·rw[hD g,gP J];exact⟨rfl,rfl,rfl⟩
 ·rw[hD J];exact⟨rfl,rfl,rfl⟩
theorem On{s:al}{l:aa Int}{v:X}{B:Int}{h:ae}{U:Nat}(aG:el h U v cq 1 l)(bA:l.length<1000000)(en:0<=B/\B<1000000000)(aO:∀(i:Nat) x,l[i]? = some x->0<=x/\x<B)(bb:∀(i:Nat) x y,l[i]? = some x->l[i+1]? = some y->x<y):
  aH Q s 493 [v,(B:X)] h U (fr (.bool true) U h):=by
 refine alo ?_;unfold aag;obtain⟨M,cap,rfl,a1⟩:=id aG;refine aD ?_;refine bC.mk (λm aF ac Y=>∃i,m=l.length-i/\i<=l.length/\aF=[.slice M l.length cap,(B:X),.bool false,.slice M l.length cap,(l.length:X),(i:X)]/\ac=h/\Y=U) l.length ⟨0,J,J,rfl,rfl,rfl⟩ ?_;rintro _ _ ap bX ⟨i,rfl,aj,rfl,gi,eN⟩;rw[ajr,gi,eN];unfold Xk;refine aD ?_;refine⟨λct=>?_,λeM=>⟨rfl,rfl,rfl⟩⟩;obtain⟨x,I⟩:=dR   J;obtain⟨_,_,aW,p9⟩:=aG.i;cases aW;obtain⟨b,a0,aS,ro,cs,gK,rfl,V,A⟩:=p9 ab;have D:=A i x I;have hbx:=aO i x I;have fb:IntKind.wrap .i64 (B-1)=B-1:=by rw[oO];omega
 have fin:∀a,∃Z,Z<l.length-i/\∃g,Z=l.length-g/\g<=l.length/\[Value.slice a l.length cap,Value.int .i64 B,Value.bool false,Value.slice a l.length cap,Value.int .i64 (l.length:Int),Value.int .i64 (IntKind.wrap .i64 ((i:Int)+1))]=[Value.slice a l.length cap,Value.int .i64 B,Value.bool false,Value.slice a l.length cap,Value.int .i64 (l.length:Int),Value.int .i64 (g:Int)]:=λa=>⟨_,J,i+1,rfl,J,by rw[cv J]⟩
 refine hx @V @D @fb ?_;refine Om.mono ?_;rintro _ _ _ ⟨rfl,rfl,rfl⟩;rw[gP (J:0<=x/\x<=B-1)];refine aD ?_;refine⟨λbg=>?_,λ_=>fin _⟩;obtain⟨k,rfl⟩:∃k,i=k+1:=⟨i-1,J⟩
 obtain⟨y,P⟩:=dR (l:=l) (i:=k) J;have E:=A k y P;have Lr:=bb k y x P I;have cu:IntKind.wrap .i64 (((k+1:Nat):Int)-1)=(k:Int):=by rw[oO];omega
 rw[cu];refine cQ @V @E ?_;exact⟨λh=>absurd h J,λ_=>fin _⟩
def mO(h:ae)(U:Nat)(v:X)(r c:Nat)(ag:aa GE):Prop :=
 ∃v1 v2 v3 v4,v = .agg ⟨[(r:X),(c:X),v1,v2,v3,v4]⟩/\el h U v1 cq 1 (gB ag)/\el h U v2 cq 1 (g5 ag)/\iF h 0 U v3 cq 1 (fs ag)/\el h U v4 cq 1 (gr ag)
theorem mO.T{h ac:ae}{U Y:Nat}{v:X}{r c:Nat}{ag:aa GE}(H:mO h U v r c ag)(A:aA U h ac)(g:U<=Y):mO ac Y v r c ag:=by obtain⟨D,I,E,B,e,Z,M,aM,P⟩:=H;exact⟨D,I,E,B,e,Z.T A g,M.T A g,aM.T (λb _ V=>A b V) J g,P.T A g⟩
theorem n3.o{h:ae}{ao aj:Nat}{v:X}{l:aa Int}(H:n3 h ao aj v l):el h aj v cq 1 l:=by
 obtain⟨B,A,D⟩:=H;rcases A with⟨rfl,rfl,rfl⟩|⟨b,rfl,rfl,g⟩
 ·exact el.nil
 ·exact cr.o (λ_=>rfl) ⟨_,_,rfl,λ_=>⟨b,_,_,ab,rfl,g⟩⟩
theorem n3.f{h:ae}{ao aj:Nat}{v:X}{l:aa Int}(H:n3 h ao aj v l):iF h 0 aj v cq 1 l:=by
 obtain⟨B,A,D⟩:=H;rcases A with⟨rfl,rfl,rfl⟩|⟨b,rfl,rfl,g⟩
 ·exact .inl ab
 ·exact .inr ⟨b,J,ab,rfl,g⟩
theorem yk.s{h:ae}{ao aj:Nat}{v:X}{c:Nat}(H:yk h ao aj v r c ag):mO h aj v r c ag:=by obtain⟨B,Z,E,A,e,P,⟨b,aS,rfl,I,g,D⟩,V,M⟩:=H;refine⟨B,_,E,A,e,P.o,cr.o (λ_=>rfl) ⟨some ⟨b,0,aS⟩,_,rfl,λ_=>⟨b,aS,false,g,rfl,?_⟩⟩,V.f,M.o⟩;rw[D,hM]
theorem aoY(h:kR ag)(a:Nat):((fs ag).drop (dC ag a)).take (dC ag (a+1)-dC ag a)=(eL ag a).map λg=>(g.t:Int):=by unfold fs;rw[<-List.map_drop,<-List.map_take,CI h]
theorem CL{g:GE}(h:g∈eL ag a):g∈ag/\g.f=a:=by
 unfold eL at h
 grind
theorem Yu{s:al}{c:Nat}{v:X}{h:ae}{U:Nat}(M:hg c r ag)(aG:mO h U v r c ag):aH Q s 477 [v] h U (dJ (.bool true) U h):=by
 refine aoH ?_;obtain⟨v1,v2,v3,v4,rfl,h1,ap,aM,bc⟩:=aG;obtain⟨aB,c1,rfl,_⟩:=id h1;obtain⟨a2,c2,rfl,_⟩:=id ap;obtain⟨a3,b8,rfl⟩:=aM.form;obtain⟨aZ,fL,rfl,_⟩:=id bc;have bb:=M.bb;have a1:=M.a1;have bA:=M.len;have bT:∀{o},aA U h (F h U o):=aN
 have dH:(gB ag).length=(dY ag).length:=Gt ag;have dl:(g5 ag).length=(dY ag).length+1:=ya ag;have jo:(fs ag).length=ag.length:=by unfold fs;grind
 have lb:(gr ag).length=ag.length:=by unfold gr;grind
 have zm:=Gs ag;unfold acp;rw[dH,dl,jo,lb];have V:u (F h U (.cells [(r:X),(c:X),.slice aB (dY ag).length c1,.slice a2 ((dY ag).length+1) c2,.slice a3 ag.length b8,.slice aZ ag.length fL] false)) U=some (.cells [(r:X),(c:X),.slice aB (dY ag).length c1,.slice a2 ((dY ag).length+1) c2,.slice a3 ag.length b8,.slice aZ ag.length fL] false):=ab
 have Z:=h1.T (bT (o:=.cells [(r:X),(c:X),.slice aB (dY ag).length c1,.slice a2 ((dY ag).length+1) c2,.slice a3 ag.length b8,.slice aZ ag.length fL] false)) (Y:=U+1) J;have P:=ap.T (bT (o:=.cells [(r:X),(c:X),.slice aB (dY ag).length c1,.slice a2 ((dY ag).length+1) c2,.slice a3 ag.length b8,.slice aZ ag.length fL] false)) (Y:=U+1) J;have A9:=aM.T (λb _ aO=>bT (o:=.cells [(r:X),(c:X),.slice aB (dY ag).length c1,.slice a2 ((dY ag).length+1) c2,.slice a3 ag.length b8,.slice aZ ag.length fL] false) b aO) (cD _) (dm:=U+1) J;rw[dH]at Z;rw[dl]at P;rw[jo]at A9;have BS:=bT (o:=.cells [(r:X),(c:X),.slice aB (dY ag).length c1,.slice a2 ((dY ag).length+1) c2,.slice a3 ag.length b8,.slice aZ ag.length fL] false);refine aD ?_;generalize F h U (.cells [(r:X),(c:X),.slice aB (dY ag).length c1,.slice a2 ((dY ag).length+1) c2,.slice a3 ag.length b8,.slice aZ ag.length fL] false)=H at *
 refine Om.mono ?_;rintro _ _ _ ⟨rfl,I,E⟩;rw[I,E,gP (J:0<=(r:Int)/\(r:Int)<=4096)];refine bh @V ?_;refine Om.mono ?_;rintro _ _ _ ⟨rfl,I,E⟩;rw[I,E,gP (J:0<=(c:Int)/\(c:Int)<=4096)];refine cQ @V (cv (J:(dY ag).length<1000000000000)) ?_;have qe:∀x:Int,(x == x)=true:=ab
 have lE:decide (65536<(ag.length:Int))=false:=ab
 simp only[qe,lE];refine⟨λh=>absurd h (by decide),λ_=>⟨λh=>absurd h (by decide),λ_=>?_⟩⟩;have VL:∀(i:Nat) x,(gB ag)[i]? = some x->∃a:Nat,(dY ag)[i]? = some a/\x=(a:Int):=λi x D=>by
  unfold gB at D
  grind
 unfold Cp;refine bh @V ?_;have h1r:=On (s:=s) (B:=(c:Int)) (by rw[<-dH]at Z;exact Z) J J (λi x D=>by obtain⟨a,aW,rfl⟩:=VL i x D;obtain⟨g,a9,rfl⟩:=Gr ag a ab;have:=M.rows g a9;omega) (λi x y D cd=>by obtain⟨a,aW,rfl⟩:=VL i x D;obtain⟨b,aK,rfl⟩:=VL _ y cd;have:=Aq M.up aW aK J;omega)
 rw[dH]at h1r;refine h1r.mono ?_;rintro _ _ _ ⟨rfl,I,E⟩;rw[I,E];refine cQ @V (cv (J:ag.length<1000000000000)) ?_;have h2r:=On (s:=s) (B:=((ag.length+1:Nat):Int)) (by rw[<-dl]at P;exact P) J J (λi x D=>by have:=axY D;omega) (λi x y D cd=>avt M.up D cd)
 rw[dl]at h2r;refine h2r.mono ?_;rintro _ _ _ ⟨rfl,I,E⟩;rw[I,E];have h2i:=P;rw[<-dl]at h2i;obtain⟨_,_,aK,Bx⟩:=h2i.i;rw[dl]at aK;cases aK;obtain⟨bQ,dP,k3,y7,y6,fm,rfl,iq,A⟩:=Bx ab;have pe:=A 0 _ (axX M.up);rw[nS]at pe;have h3:=A _ _ (QE ag);refine u5 @V @iq @pe @h3 @qe ?_;unfold FH;refine bh @V ?_;refine bC.mk (λm aF ac Y=>∃i,m=(dY ag).length-i/\i<=(dY ag).length/\aF=[bf U,.bool false,.int .i64 ((dY ag).length:Int),(i:X)]/\ac=H/\Y=U+1) (dY ag).length ⟨0,J,J,rfl,rfl,rfl⟩ ?_;rintro _ _ b3 fP ⟨i,rfl,aj,rfl,I,E⟩;rw[alm,I,E];unfold Yo;refine aD ?_;refine⟨λct=>?_,λeM=>⟨rfl,BS,J⟩⟩;obtain⟨a,cW⟩:=dR   J;have cz:=A _ _ (C0 cW);have cB:=A _ _ (Ka M.up cW);refine u5 @V @iq @cz @cB (cv (J:i<1000000000000)) ?_;rw[<-jo]at A9;obtain⟨w,fb,b0⟩:=iF.cut  (k:=1) (λ_=>rfl) J A9 (i:=dC ag a) (j:=dC ag (a+1)) (z1 ag J) (by rw[jo];exact u1 ag _);rw[jo]at fb;rw[fb];rw[aoY M.up]at b0;have hlr:((eL ag a).map λg=>(g.t:Int)).length<=120:=by
  rw[gn];unfold eL
  grind
 refine aD ?_;refine(On  b0 J J (λi x D=>?_) (λi x y D cd=>?_)).mono ?_
 ·obtain⟨g,a9,rfl⟩:=fz.1 (kz D);have:=M.mi g (CL a9).1;omega
 ·rw[sa]at D cd;obtain⟨g,aW,rfl⟩:=l9.1 D;obtain⟨ck,aK,rfl⟩:=l9.1 cd;have bg:=Qo M.up a;rw[xK]at bg
  grind
 rintro _ _ _ ⟨rfl,I,E⟩;rw[I,E];refine⟨J,?_⟩;refine aD ?_;exact⟨_,J,i+1,rfl,J,rfl⟩
theorem aao{s:al}{c:Nat}{v:X}{h:ae}{U:Nat}(M:hg c r ag)(P:mO h U v r c ag):aH Q s 448 [v] h U (dJ v U h):=by
 refine asG ?_;have A:=P;obtain⟨v1,v2,v3,v4,rfl,B,ap,V,bc⟩:=P;obtain⟨aB,c1,rfl,_⟩:=id B;obtain⟨a2,c2,rfl,_⟩:=id ap;obtain⟨a3,b8,rfl⟩:=V.form;obtain⟨aZ,fL,rfl,_⟩:=id bc;have Z:∀{o a0},aA U h (F (F h U o) (U+1) a0):=aN
 unfold aeJ;refine aD ?_;refine(Yu M (A.T  Z J)).mono ?_;rintro _ B a5 ⟨rfl,g,D⟩;have E:=g U J;rw[ar J,aT]at E;have I:=g (U+1) J;rw[aT]at I;refine cQ @E @I ?_;exact⟨rfl,aN,J⟩
theorem azO{n:Nat}(h:n<1000000000000):bin Q .quo 3 (n:X) (.int .i64 2) = .ok (((n / 2:Nat):X)):=by rw[CC (by decide),show((n:Int)).tdiv 2=((n / 2:Nat):Int)from rfl,show IntKind.wrap .i64 ((n / 2:Nat):Int)=((n / 2:Nat):Int) by rw[oO];omega]
def plC(ag:aa GE)(k:Nat)(r:Int):Prop:=(∃m:Nat,(dY ag)[m]? = some k/\r=(m:Int))\/(k ∉ dY ag/\r = -1)
theorem Yv{s:al}{c k:Nat}{v:X}{h:ae}{U:Nat}(M:hg c r ag)(aG:mO h U v r c ag):aH Q s 449 [v,(k:X)] h U (λw ac Y=>(∃x,w = .int .i64 x/\plC ag k x)/\aA U h ac/\U<=Y):=by
 refine aoF ?_;obtain⟨v1,v2,v3,v4,rfl,h1,ap,aM,bc⟩:=aG;obtain⟨A,g,rfl,_⟩:=id h1;obtain⟨a2,c2,rfl,_⟩:=id ap;obtain⟨D,b8,rfl⟩:=aM.form;obtain⟨aZ,B,rfl,_⟩:=id bc;have bA:=M.len;have zm:=Gs ag;have dH:(gB ag).length=(dY ag).length:=Gt ag;have bT:∀{o},aA U h (F h U o):=aN
 unfold acn;have I:=h1.T (bT (o:=.cells [(r:X),(c:X),.slice A (gB ag).length g,.slice a2 (g5 ag).length c2,.slice D (fs ag).length b8,.slice aZ (gr ag).length B] false)) (Y:=U+1) J;have xy:u (F h U (.cells [(r:X),(c:X),.slice A (gB ag).length g,.slice a2 (g5 ag).length c2,.slice D (fs ag).length b8,.slice aZ (gr ag).length B] false)) U=some (.cells [(r:X),(c:X),.slice A (gB ag).length g,.slice a2 (g5 ag).length c2,.slice D (fs ag).length b8,.slice aZ (gr ag).length B] false):=ab
 have BS:=bT (o:=.cells [(r:X),(c:X),.slice A (gB ag).length g,.slice a2 (g5 ag).length c2,.slice D (fs ag).length b8,.slice aZ (gr ag).length B] false);refine aD ?_;generalize F h U (.cells [(r:X),(c:X),.slice A (gB ag).length g,.slice a2 (g5 ag).length c2,.slice D (fs ag).length b8,.slice aZ (gr ag).length B] false)=H at *
 rw[dH];refine bC.mk (λm aF ac Y=>∃ao aj:Nat,m=aj-ao/\ao<=aj/\aj<=(dY ag).length/\aF=[(k:X),bf U,(ao:X),(aj:X)]/\(∀i a,(dY ag)[i]? = some a->i<ao->a<k)/\(∀i a,(dY ag)[i]? = some a->aj<=i->k<a)/\ac=H/\Y=U+1) (dY ag).length ⟨0,(dY ag).length,J,J,J,rfl,J,ab,rfl,rfl⟩ ?_;rintro _ _ b3 fP ⟨ao,aj,rfl,hlh,P,rfl,g6,en,gi,eN⟩;rw[alj,gi,eN];unfold Yn;refine aD ?_;refine⟨λct=>?_,λeM=>?_⟩
 ·obtain⟨x,aY⟩:=dR (l:=dY ag) (i:=ao+(aj-ao) / 2) J;have Z:(gB ag)[ao+(aj-ao) / 2]? = some (x:Int):=by unfold gB;grind
  obtain⟨_,_,aK,Bx⟩:=I.i;rw[dH]at aK;cases aK;obtain⟨bQ,dP,k3,y7,y6,fm,rfl,iq,E⟩:=Bx ab;have cz:=E _ _ Z;have aW:IntKind.wrap .i64 ((aj:Int)-(ao:Int))=((aj-ao:Nat):Int):=by rw[oO];omega
  have cf:IntKind.wrap .i64 ((ao:Int)+(((aj-ao) / 2:Nat):Int))=((ao+(aj-ao) / 2:Nat):Int):=by rw[oO];omega
  simp(disch:=omega)only[bl,aW,azO (J:aj-ao<1000000000000),cf,xy,iq,cz,seval];refine⟨λtM=>?_,λeS=>?_⟩
  ·have V:x=k:=ab
   subst V;exact⟨λ_=>⟨⟨_,rfl,.inl ⟨_,aY,rfl⟩⟩,BS,J⟩,λh=>absurd J h⟩
  ·refine⟨λbA=>?_,λbA=>?_⟩
   ·rw[cv J];refine⟨_,?_,ao+(aj-ao) / 2+1,aj,rfl,J,P,rfl,λi a cW dm=>?_,en⟩
    ·omega
    ·rcases h8 i (ao+(aj-ao) / 2)with h|h
     ·have:=Aq M.up cW aY h;omega
     grind
   ·refine⟨_,?_,ao,ao+(aj-ao) / 2,rfl,J,J,rfl,g6,λi a cW dm=>?_⟩
    ·omega
    ·rcases h8 (ao+(aj-ao) / 2) i with h|h
     ·have:=Aq M.up aY cW h;omega
     grind
 ·have:ao=aj:=J
  subst this;refine⟨λh=>absurd h J,λ_=>?_⟩;refine⟨⟨_,rfl,.inr ⟨λhk=>?_,rfl⟩⟩,BS,J⟩;obtain⟨i,dm,e⟩:=EX hk;have hi2:(dY ag)[i]? = some k:=ab
  grind
def ml(ag:aa GE)(k:Nat):aa (Nat × Int):=(eL ag k).map λg=>(g.t,g.w)
def azP(r c:Nat)(ag:aa GE)(m cj cN:Nat)(v1 v2 v3 v4:X)(h:ae)(U:Nat):Prop:=u h cj=some (.cells [(r:X),(c:X),v1,v2,v3,v4] false)/\u h cN=some (.cells [(m:X)] false)/\el h U v2 cq 1 (g5 ag)/\el h U v3 cq 1 (fs ag)/\el h U v4 cq 1 (gr ag)
theorem ajw{s:al}{c k:Nat}{v1 v2 v3 v4:X}(M:hg c r ag)(bp:(dY ag)[m]? = some k):
  If s 496 [bf cj,bf cN] (ml ag k).length (λj=>[.agg ⟨fG ((ml ag k).getD j (0,0))⟩]) (azP r c ag m cj cN v1 v2 v3 v4):=by
 intro l I ac Y aj js au cd;have bA:=M.len;have zm:=Gs ag;have Bo:=(hn.1 bp).1;refine alp ?_;unfold aah;obtain⟨g1,ed,kb,kO,s7⟩:=aj _ _ _ au;obtain⟨a2,c2,rfl,B⟩:=kb.i;obtain⟨bQ,dP,k3,y7,y6,fm,rfl,iq,Z⟩:=B (by intro e;have:=ya ag;grind);have cz:=Z _ _ (C0 bp);have ua:m<(g5 ag).length:=by rw[ya];omega
 refine lh @g1 @ed @iq @cz ?_;have ko:(ml ag k).length=dC ag (k+1)-dC ag k:=by unfold ml;rw[gn,FZ M.up]
 have dO:=u1 ag (k+1);refine bC.mk (λq aF ap bX=>∃j,q=(ml ag k).length-j/\j<=(ml ag k).length/\aF=[.func (.yield l) ⟨[]⟩ ⟨[]⟩,bf cj,bf cN,((dC ag k+j:Nat):X)]/\I j ap bX) (ml ag k).length ⟨0,J,J,rfl,au⟩ ?_;rintro _ _ ap bX ⟨j,rfl,bZ,rfl,p9⟩;obtain⟨g1,ed,kb,kO,s7⟩:=aj _ _ _ p9;obtain⟨_,_,aW,B⟩:=kb.i;cases aW;obtain⟨Ug,o2',aBy,aBz,aBA,aBB,aK,V,D⟩:=B ab;cases aK;have cB:=D _ _ (Ka M.up bp);have aBC:m+1<(g5 ag).length:=by rw[ya];omega
 rw[ajs];unfold Xl;refine u5 @g1 @ed @V @cB (cv (J:m<1000000000000)) ?_;refine⟨λA=>?_,λeM=>?_⟩
 ·have A:j<(eL ag k).length:=by rw[FZ M.up];omega
  obtain⟨g,a9⟩:=dR   A;have sS:ag[dC ag k+j]? = some g:=by rw[<-Ps M.up A];omega
  have e9:(fs ag)[dC ag k+j]? = some (g.t:Int):=by unfold fs;grind
  have jB:(gr ag)[dC ag k+j]? = some g.w:=by unfold gr;grind
  obtain⟨a3,b8,rfl,E⟩:=kO.i;obtain⟨aZ,fL,rfl,hI4⟩:=s7.i;obtain⟨d6,gh,sp3,H3,Bv,pX,rfl,sH,DC⟩:=E ab;obtain⟨fB,l0,sp4,ro4,cs4,hb4,rfl,Ii,P⟩:=hI4 ab;have z3:=DC _ _ e9;have z4:=P _ _ jB;have g7:=(hn.1 e9).1;have mC:=(hn.1 jB).1;have mT:(ml ag k).getD j (0,0)=(g.t,g.w):=by unfold ml;grind
  have vT:=cd true j J ap bX p9;simp only[mT]at vT;refine u5 @g1 @sH @z3 @Ii @z4 ?_;refine vT.mono ?_;rintro _ aM bW ⟨rfl,E,sN⟩;refine⟨sN,?_⟩;refine bh (cv (J:dC ag k+j<1000000000000)) ?_;exact⟨_,J,j+1,rfl,J,ab,E⟩
 ·have:j=(ml ag k).length:=J
  subst this;exact p9
theorem ajx{s:al}{c k:Nat}{v:X}{h:ae}{U:Nat}(M:hg c r ag)(aG:mO h U v r c ag):aH Q s 454 [v,(k:X)] h U (λw ac Y=>eG ac U Y w fG (ml ag k)/\aA U h ac/\U<=Y):=by
 refine alk ?_;have B:=aG;obtain⟨v1,v2,v3,v4,rfl,h1,ap,aM,bc⟩:=aG;obtain⟨aB,V,rfl,_⟩:=id h1;obtain⟨a2,c2,rfl,_⟩:=id ap;obtain⟨a3,b8,rfl⟩:=aM.form;obtain⟨aZ,fL,rfl,_⟩:=id bc;have bA:=M.len;have bT:∀{o},aA U h (F h U o):=aN
 unfold aae;refine aD ?_;refine(aao M (B.T  bT J)).mono ?_;rintro _ aW a5 ⟨rfl,D,Z⟩;have cJ:=(D U J).trans (aT _ _ _);refine bh @cJ ?_;have cP:=(bT.trans D J).set (o:=.cells [(r:X),(c:X),.slice aB (gB ag).length V,.slice a2 (g5 ag).length c2,.slice a3 (fs ag).length b8,.slice aZ (gr ag).length fL] false) (cD _);refine(Yv  M (B.T  cP J)).mono ?_;rintro _ aK bX ⟨⟨x,rfl,aY⟩,A,fg⟩;have g2:=(A U J).trans (aT _ _ _);have eA:=cP.trans A J;rcases aY with⟨m,bp,rfl⟩|⟨E,rfl⟩
 ·refine bh @g2 ?_;refine⟨λh=>absurd h J,λ_=>?_⟩;refine aoI ?_;unfold acq;refine aD ?_;refine aiE ?_;have ko:(ml ag k).length<=120:=by
   unfold ml eL
   grind
  refine(alB  J (ajw   (v1:=.slice aB (gB ag).length V) (v2:=.slice a2 (g5 ag).length c2) (v3:=.slice a3 (fs ag).length b8) (v4:=.slice aZ (gr ag).length fL) M bp) λI n1' E dO=>?_).mono ?_
  ·have P:aA U h I:=aN
   refine⟨(E bX J).trans ?_,(E (bX+1) J).trans ab,ap.T P J,el.T (cr.o (λ_=>rfl) aM.fj.rd) P J,bc.T P J⟩
   grind
  ·rintro w cf bW ⟨b0,e1,gJ⟩;exact⟨b0.T ab J J,aN,J⟩
 ·refine aD ?_;have:ml ag k=[]:=by
   cases a1:eL ag k with
   |nil=>unfold ml;grind
   |cons g l =>
    have a9:g∈eL ag k:=ab
    exact absurd ((KA ag k).2 ⟨g,(CL a9).1,(CL a9).2⟩) E
  rw[this];exact⟨⟨⟨none,0,rfl,λh=>absurd rfl h⟩,eA,J⟩,λh=>absurd trivial h⟩
theorem aoZ{s:al}{c:Nat}{v:X}{L:aa Nat}{h:ae}{U:Nat}(M:hg c r ag)(aG:mO h U v r c ag)(b0:el h U w cq 1 (f1 L))(eD:L.length<1000000):aH Q s 390 [v,w] h U (λaI ac Y=>(∃y,aI = .int .i64 y)/\aA U h ac/\U<=Y):=by
 refine asB ?_;have E:=aG;obtain⟨v1,v2,v3,v4,rfl,h1,ap,aM,bc⟩:=aG;obtain⟨aB,c1,rfl,_⟩:=id h1;obtain⟨a2,c2,rfl,_⟩:=id ap;obtain⟨a3,b8,rfl⟩:=aM.form;obtain⟨aZ,fL,rfl,_⟩:=id bc;obtain⟨bt,ul,rfl,Z⟩:=b0.i;have bA:=M.len;have zm:=Gs ag;have aDo:(f1 L).length=L.length:=by unfold f1;grind
 have bT:∀{o},aA U h (F h U o):=aN
 unfold aeE;rw[aDo];refine aD ?_;refine(aao M (E.T  bT J)).mono ?_;rintro _ aW a5 ⟨rfl,I,f0⟩;have cJ:=(I U J).trans (aT _ _ _);have cP:=(bT.trans I J).set (o:=.cells [(r:X),(c:X),.slice aB (gB ag).length c1,.slice a2 (g5 ag).length c2,.slice a3 (fs ag).length b8,.slice aZ (gr ag).length fL] false) (cD _);refine bh @cJ ?_;refine bC.mk (λm aF ac Y=>∃i y,m=L.length-i/\i<=L.length/\aF=[bf U,.int .i64 y,.slice bt L.length ul,(L.length:X),(i:X)]/\u ac U=some (.cells [(r:X),(c:X),.slice aB (gB ag).length c1,.slice a2 (g5 ag).length c2,.slice a3 (fs ag).length b8,.slice aZ (gr ag).length fL] false)/\aA U h ac/\U+1<=Y) L.length ⟨0,0,J,J,rfl,ab,cP,J⟩ ?_;rintro _ _ aK bX ⟨i,y,rfl,aj,rfl,g2,V,fg⟩;rw[aoC];unfold aab;refine aD ?_;refine⟨λct=>?_,λeM=>⟨⟨_,rfl⟩,V,J⟩⟩;obtain⟨k,hk⟩:=dR   J;have tR:(f1 L)[i]? = some (k:Int):=by unfold f1;grind
 obtain⟨gb,vN,sp5,ro5,cs5,Ec,rfl,rR,B⟩:=Z ab;have r4:=B _ _ tR;have P:=(V gb Ec).trans rR;refine hx @P @r4 @g2 ?_;refine(Yv  M (E.T  V J)).mono ?_;rintro _ cf bW ⟨⟨x,rfl,aY⟩,D,gJ⟩;have c6:=(D U J).trans g2;have fD:=V.trans D J;rcases aY with⟨m,bp,rfl⟩|⟨hk,rfl⟩
 ·have Bo:=(hn.1 bp).1;obtain⟨_,_,BR,Bx⟩:=ap.i;cases BR;obtain⟨bQ,dP,k3,y7,y6,fm,rfl,iq,g⟩:=Bx (by intro e;have:=ya ag;grind);have cz:=g _ _ (C0 bp);have cB:=g _ _ (Ka M.up bp);have ua:m+1<(g5 ag).length:=by rw[ya];omega
  have A:=(fD bQ fm).trans iq;refine AA @c6 @A @cz @cB (cv (J:m<1000000000000)) (cv (J:i<1000000000000)) ?_;refine⟨λ_=>?_,λh=>absurd h J⟩;exact⟨_,J,i+1,_,rfl,J,rfl,fD,J⟩
 ·refine bh (cv (J:i<1000000000000)) ?_;exact⟨λh=>absurd trivial h,_,J,i+1,_,rfl,J,rfl,c6,fD,J⟩
theorem alC{s:al}{c:Nat}{v:X}{h:ae}{U:Nat}(M:hg r c ag)(B:kj h U v r c ag):aH Q s 322 [v] h U (λA ac Y=>A = (ag.length:X)/\aA U h ac/\U<=Y):=by
 refine aoA ?_;have g:=B;obtain⟨b,aS,cap,v2,v3,rfl,aO,a9,E,P⟩:=B;obtain⟨a2,c2,rfl⟩:=E.form;obtain⟨a3,b8,rfl⟩:=P.form;have Z:∀{o},aA U h (F h U o):=aN
 have I:(fs ag).length=ag.length:=by unfold fs;grind
 unfold acl;refine aD ?_;refine(F0 M (g.T  Z J)).mono ?_;rintro _ aW a5 ⟨rfl,V,D⟩;refine bh @I ?_;exact aN
theorem ao0{s:al}{c n:Nat}{v:X}{x:Nat->aw Int}{h:ae}{U:Nat}(M:hg r c ag)(aG:kj h U v r c ag)(b0:sp h U w n x)(bv:n<=63):aH Q s 455 [v,w] h U (dJ (.tuple ⟨[v,w]⟩) U h):=by
 refine arn ?_;have P:=aG;have B:=b0;obtain⟨b,aS,cap,v2,v3,rfl,aO,a9,qg,pf⟩:=aG;obtain⟨a2,c2,rfl⟩:=qg.form;obtain⟨a3,b8,rfl⟩:=pf.form;obtain⟨ft,dr,rfl,aq,D⟩:=b0;obtain⟨_,_,rfl,_⟩:=id aq;obtain⟨_,_,rfl,_⟩:=id D;have bT:∀{o a0 k6 azQ},aA U h (F (F (F (F h U o) (U+1) a0) (U+1+1) k6) (U+1+1+1) azQ):=aN
 unfold ad3;refine aD ?_;refine(JL M (P.T  bT J)).mono ?_;rintro _ aW a5 ⟨rfl,g,f0⟩;have cJ:=g U J;rw[ar J,ar J,ar J,aT]at cJ;have E:=g (U+1) J;rw[ar J,ar J,aT]at E;have g2:=g (U+1+1) J;rw[ar J,aT]at g2;have c6:=g (U+1+1+1) J;rw[aT]at c6;have cP:=bT.trans g J;refine aD ?_;unfold Pn;refine bh @E ?_;refine(Yt (B.T  cP J) bv).mono ?_;rintro _ aK bX ⟨rfl,A,fg⟩;have V:=(A U J).trans cJ;have I:=(A (U+1) J).trans E;have Ij:=(A (U+1+1) J).trans g2;have Z:=(A (U+1+1+1) J).trans c6;refine aD ?_;unfold Pm;refine lh @V @I @Ij @Z ?_;exact⟨rfl,aN,J⟩
theorem af9{r a b:Int}(g:n1 r)(B:0<=a/\a<=eI)(A:0<=b/\b<=eI):0<=jJ r a b/\jJ r a b<=eI:=by
 unfold jJ eI at *
 rcases g with rfl|rfl|rfl
 all_goals omega
def Dd(h:ae)(cN fk:Nat)(a:aw Int):Prop:=u h cN=some (.cells (wid (a.getD 0)) false)/\u h fk=some (.cells [.bool a.isSome] false)
theorem ajy{s:al}{r w:Int}{a:aw Int}{h:ae}{U:Nat}(bb:n1 r)(M:u h cj=some (.cells [(r:X)] ro))(cW:Dd h cN fk a)(cI:cj<U)(fB:cN<U)(zv:fk<U)(Bt:cN≠fk)(aO:∀y,a=some y->0<=y/\y<=eI)(b0:0<=w/\w<=eI):
  aH Q s 497 [.agg ⟨wid w⟩,bf fk,bf cj,bf cN] h U (λaI ac Y=>Dd ac cN fk (e0 r a (some w))/\(∀c,c<U->c≠cN->c≠fk->u ac c=u h c)/\U<=Y):=by
 refine akJ ?_;unfold Zy aX aR bS bI;obtain⟨P,B⟩:=cW;rw[show dj (.agg ⟨wid w⟩)=[.int .i64 (w / 18446744073709551616),.int .u64 (w % 18446744073709551616)]from rfl];have A:u h cN=some (.cells [.int .i64 (a.getD 0 / 18446744073709551616),.int .u64 (a.getD 0 % 18446744073709551616)] false):=P;have aE:∀x:Int,(Value.agg ⟨[.int .i64 (x / 18446744073709551616),.int .u64 (x % 18446744073709551616)]⟩) = .agg ⟨wid x⟩:=λ_=>rfl;cases a with
 |none =>
  have B:u h fk=some (.cells [.bool false] false):=B;refine cQ @B @A ?_;refine⟨⟨?_,?_⟩,λc h1 Z aM=>?_,J⟩
  ·rw[ar J,aT];rfl
  ·rw[aT];rfl
  grind
 |some y =>
  have B:u h fk=some (.cells [.bool true] false):=B;have A:u h cN=some (.cells [.int .i64 (y / 18446744073709551616),.int .u64 (y % 18446744073709551616)] false):=P;have cd:=aO y rfl;refine hx @B @A @M ?_;rw[aE,aE];refine(Qe bb (Gl (by unfold kq eI at *;omega)) (Gl (by unfold kq eI at *;omega))).mono ?_;rintro _ Z bX ⟨rfl,g,V⟩;have E:=(g fk J).trans ((ar J).trans B);have D:=(g cN J).trans ((ar J).trans A);have I:=(g U J).trans (aT _ _ _);have aW:∀x:Int,dj (.agg ⟨wid x⟩)=[.int .i64 (x / 18446744073709551616),.int .u64 (x % 18446744073709551616)]:=λ_=>rfl;refine lh @E @D @I @aW ?_;refine⟨⟨?_,?_⟩,λc h1 Z aM=>?_,J⟩
  ·rw[ar J,aT];rfl
  ·rw[aT];rfl
  ·rw[ar J,ar J,ar J,g c J,ar J]
theorem ajz{s:al}{a:aw Int}{h:ae}{U:Nat}(D:Dd h cN fk a)(E:cN<U)(I:fk<U):aH Q s 498 [bf cN,bf fk] h U (dJ (.tuple ⟨[.agg ⟨wid (a.getD 0)⟩,.bool a.isSome]⟩) U h):=by refine akK ?_;unfold Zz;obtain⟨B,A⟩:=D;have g:u h cN=some (.cells [.int .i64 (a.getD 0 / 18446744073709551616),.int .u64 (a.getD 0 % 18446744073709551616)] false):=B;refine cQ @A @g ?_;exact⟨rfl,aN,J⟩
theorem ajA{r:Int}{x:Nat->aw Int}(D:n1 r)(B:∀g∈ag,0<=g.w/\g.w<=2147483647)(Z:∀i y,x i=some y->0<=y/\y<=eI)(y:Int)(h:fl r (ag.map λg=>(x g.t).map (he r g.w))=some y):0<=y/\y<=eI:=by
 revert y
 refine CK (C:=λag=>(∀g∈ag,0<=g.w/\g.w<=2147483647)->∀y,fl r (ag.map λg=>(x g.t).map (he r g.w))=some y->0<=y/\y<=eI) (λ_ y h=>by cases h) (λp g I B y h=>?_) ag B;rw[iK,uB,zL,OE]at h;have I:=I ab;have M:=B g (List.mem_append_right _ (iU.2 rfl));cases A:x g.t with
 |none=>rw[A]at h;simp only[Option.map_none,ra]at h;grind
 |some z =>
  rw[A]at h;have V:=Z _ _ A;have bp:=R7 M V D;cases E:fl r (p.map λg=>(x g.t).map (he r g.w))with
  |none=>rw[E]at h;cases h;omega
  |some P =>
   rw[E]at h;cases h;exact af9 D ab bp
theorem asT(r:Int)(ag:aa GE)(x:Nat->aw Int)(i:Nat):il r ag x i=fl r ((eL ag i).map λg=>(x g.t).map (he r g.w)):=by
 unfold il eL;rw[Oc]
 grind
theorem k4.i{h:ae}{U:Nat}{v:X}{l:aa Int}(H:k4 h U v l):sP h U v l:=by obtain⟨g,A,B⟩:=H;exact el.i (n3.o (ao:=0) ⟨g,A,ab⟩)
theorem asU{s:al}{r:Int}{i:Nat}{v:X}{x:Nat->aw Int}{h:ae}{U:Nat}(bb:n1 r)(M:hg R C ag)(LC:C<=63)(aG:kj h U v R C ag)(bj:sp h U w C x)(aj:i<R)(b0:∀g∈ag,0<=g.w/\g.w<=2147483647)(aY:∀i y,x i=some y->0<=y/\y<=eI):
  aH Q s 457 [(r:X),v,(i:X),w] h U (dJ (.tuple ⟨[.agg ⟨wid ((il r ag x i).getD 0)⟩,.bool (il r ag x i).isSome]⟩) U h):=by
 refine auM ?_;obtain⟨b,aS,cap,v2,v3,rfl,aO,a9,qg,pf⟩:=aG;obtain⟨a2,c2,rfl⟩:=qg.form;obtain⟨a3,b8,rfl⟩:=pf.form;obtain⟨ft,dr,rfl,aq,xf⟩:=bj;obtain⟨ez,c3,rfl,_⟩:=id aq;obtain⟨bk,gj,rfl,hId⟩:=xf.i;have ei:=M.bb;have bA:=M.len;have aCa:(fs ag).length=ag.length:=by unfold fs;grind
 have aDk:(gr ag).length=ag.length:=by unfold gr;grind
 unfold afE;have bT:∀{o a0 k6},aA U h (F (F (F h U o) (U+1) a0) (U+1+1) k6):=aN
 refine aD ?_;refine anw ?_;unfold abI;refine aD ?_;have au:((pY ag R)[i]? = some (dC ag i:Int)):=wp J;have h1:((pY ag R)[i+1]? = some (dC ag (i+1):Int)):=wp J;simp(disch:=omega)only[bl,a9,hN au,seval];obtain⟨H,fK⟩:∃H,H=F (F (F (F (F (F (F h U (.cells [(R:X),(C:X),.slice (some ⟨b,0,aS⟩) (R+1) cap,.slice a2 (fs ag).length c2,.slice a3 (gr ag).length b8] false)) (U+1) (.cells [(C:X),.slice ez (eT C (j7 x)).length c3,.slice bk (cn C (jP x)).length gj] false)) (U+1+1) (.cells [.int .i64 0,.int .u64 0] false)) (U+1+1+1) (.cells [(r:X)] false)) (U+1+1+1+1) (.cells [.int .i64 0,.int .u64 0] false)) (U+1+1+1+1+1) (.cells [.bool false] false)) (U+1+1+1+1+1) (.cells [.bool false] false):=⟨_,rfl⟩
 have BT:u H U=some (.cells [(R:X),(C:X),.slice (some ⟨b,0,aS⟩) (R+1) cap,.slice a2 (fs ag).length c2,.slice a3 (gr ag).length b8] false):=ab
 have oz:u H (U+1)=some (.cells [(C:X),.slice ez (eT C (j7 x)).length c3,.slice bk (cn C (jP x)).length gj] false):=ab
 have xx:u H (U+1+1)=some (.cells [.int .i64 0,.int .u64 0] false):=ab
 have aDp:u H (U+1+1+1)=some (.cells [(r:X)] false):=ab
 have aDq:Dd H (U+1+1+1+1) (U+1+1+1+1+1) none:=⟨by rw[fK,ar J,ar J,aT];rfl,ab⟩
 have ux:aA U h H:=by rw[fK];exact aN
 rw[<-fK];clear fK;refine bC.mk (λm aF ac Y=>∃j,m=(eL ag i).length-j/\j<=(eL ag i).length/\aF=[(r:X),(i:X),bf U,.pointer (some ⟨U+1,0,none⟩),.pointer (some ⟨U+1+1,0,none⟩),.func (.func 497) ⟨[]⟩ ⟨[.pointer (some ⟨U+1+1+1+1+1,0,none⟩),.pointer (some ⟨U+1+1+1,0,none⟩),.pointer (some ⟨U+1+1+1+1,0,none⟩)]⟩,.func (.func 498) ⟨[]⟩ ⟨[.pointer (some ⟨U+1+1+1+1,0,none⟩),.pointer (some ⟨U+1+1+1+1+1,0,none⟩)]⟩,((dC ag i+j:Nat):X)] /\
  Dd ac (U+1+1+1+1) (U+1+1+1+1+1) (fl r (((eL ag i).take j).map λg=>(x g.t).map (he r g.w)))/\(∀c,c<U+6->c≠U+1+1+1+1->c≠U+1+1+1+1+1->u ac c=u H c)/\U+6<=Y) (eL ag i).length ⟨0,J,J,rfl,aDq,ab,J⟩ ?_
 rintro _ _ ap bX ⟨j,rfl,bZ,rfl,g6,D,fg⟩;have H2:=FZ M.up i;have hmn:=z1 ag J;have hse:=u1 ag (i+1);have V:aA U h ap:=aN
 have cJ:=(D U J J J).trans BT;have g1:=(D (U+1) J J J).trans oz;have g2:=(D (U+1+1) J J J).trans xx;have c6:=(D (U+1+1+1) J J J).trans aDp;have sR:=(V b aO).trans a9;rw[aro];unfold abG;simp(disch:=omega)only[bl,cJ,sR,hN h1,cv (J:i<1000000000000),seval];refine⟨λI=>?_,λeM=>?_⟩
 ·have I:j<(eL ag i).length:=J
  obtain⟨g,hgj⟩:=dR   I;have sS:ag[dC ag i+j]? = some g:=by rw[<-Ps M.up I];omega
  have hgm:=kz sS;have vt:=M.mi g hgm;have e9:(fs ag)[dC ag i+j]? = some (g.t:Int):=by unfold fs;grind
  have jB:(gr ag)[dC ag i+j]? = some g.w:=by unfold gr;grind
  have lG:(cn C (jP x))[g.t]? = some (jP x g.t):=by
   unfold cn
   grind
  obtain⟨_,_,aK,Bx⟩:=qg.i;obtain⟨_,_,cf,hI3⟩:=pf.i;cases aK;cases cf;obtain⟨d6,gh,sp3,H3,Bv,pX,rfl,sH,DC⟩:=Bx ab;obtain⟨fB,l0,sp4,ro4,cs4,hb4,rfl,Ii,Z⟩:=hI3 ab;obtain⟨gb,vN,sp5,ro5,cs5,Ec,rfl,rR,azR⟩:=hId ab;have z3:=DC _ _ e9;have z4:=Z _ _ jB;have r4:=azR _ _ lG;have aDr:=(hn.1 lG).1;have cg:=(V d6 pX).trans sH;have df:=(V fB hb4).trans Ii;have d8:=(V gb Ec).trans rR;have L0:=b0 g hgm;have A:fl r (((eL ag i).take (j+1)).map λg=>(x g.t).map (he r g.w))=e0 r (fl r (((eL ag i).take j).map λg=>(x g.t).map (he r g.w))) ((x g.t).map (he r g.w)):=by rw[ho,hgj];show fl r (List.map _ (_++[g]))=_;rw[iK,uB,zL,OE]
  refine hx @cg @z3 @g1 ?_;refine(KP LC vt (aq.T V  J)).mono ?_;rintro _ _ _ ⟨rfl,gi,eN⟩;rw[gi,eN];cases P:x g.t with
  |none =>
   have fw:j7 x g.t=false:=by unfold j7;grind
   rw[P]at A;simp only[Option.map_none,ra]at A;rw[fw];refine bh (cv (J:dC ag i+j<1000000000000)) ?_;exact⟨_,J,j+1,rfl,J,rfl,by rw[A];exact g6,D,fg⟩
  |some y =>
   have fw:j7 x g.t=true:=by unfold j7;grind
   have hva:jP x g.t=y:=by unfold jP;grind
   rw[hva]at r4;rw[P]at A;have hyr:=aY _ _ P;rw[fw];refine AA @cJ @g1 @df @z4 @d8 @r4 ?_;refine(abM bb L0 hyr).mono ?_;rintro _ aM bW ⟨rfl,B,E⟩;refine⟨E,?_⟩;have hA3:Dd aM (U+1+1+1+1) (U+1+1+1+1+1) (fl r (((eL ag i).take j).map λg=>(x g.t).map (he r g.w))):=⟨(B _ J).trans g6.1,(B _ J).trans g6.2⟩
   refine(ajy bb ((B _ J).trans c6) hA3 J J J J (λy cd=>?_) (R7 L0 hyr bb)).mono ?_
   ·exact ajA bb (λg a9=>b0 g (CL (List.mem_of_mem_take a9)).1) aY y cd
   rintro _ bc d4 ⟨hA4,fI,hb⟩;refine⟨hb,?_⟩;refine bh (cv (J:dC ag i+j<1000000000000)) ?_;refine⟨_,J,j+1,rfl,J,rfl,by rw[A];exact hA4,λc h1 ap aM=>?_,J⟩;rw[fI c J ap aM,B c J];grind
 ·have:j=(eL ag i).length:=J
  subst this;rw[hC,<-asT]at g6;refine(ajz g6 J J).mono ?_;rintro _ aM bW ⟨rfl,B,E⟩;have MD:=(B (U+1+1) J).trans g2;have aW:∀x:Int,dj (.agg ⟨wid x⟩)=[.int .i64 (x / 18446744073709551616),.int .u64 (x % 18446744073709551616)]:=λ_=>rfl;refine cQ @aW @MD ?_;exact⟨rfl,(V.trans B J).set J,J⟩
theorem QF{s:al}{k:Nat}{h:ae}{U:Nat}:aH Q s 334 [.slice none 0 0,(k:X)] h U (fr (.bool false) U h):=by refine af2 ?_;unfold SM bH b6 cZ bS hJ;refine ZL ?_;unfold Qi;refine bh @FT ?_;refine⟨λ_=>⟨λg=>absurd g J,λ_=>⟨rfl,rfl,rfl⟩⟩,λg=>absurd g J⟩
def ahg(n cj cN fk:Nat)(h:ae)(U:Nat):Prop:=u h cj=some (.cells [(n:X)] false)/\u h cN=some (.cells [.slice none 0 0] false)/\u h fk=some (.cells [.bool true] false)
theorem ajB{s:al}{n:Nat}(bv:n<1000000):
  If s 483 [bf cj,bf cN,bf fk] n (λk=>[(k:X)]) (ahg n cj cN fk):=by
 intro l I ac Y aj js V cd;refine akI ?_;unfold Zx;obtain⟨Z,E,M⟩:=aj _ _ _ V;refine bh @Z ?_;refine bC.mk (λm aF ap P=>∃j,m=n-j/\j<=n/\aF=[.func (.yield l) ⟨[]⟩ ⟨[]⟩,bf cN,bf fk,(n:X),(j:X)]/\I j ap P) n ⟨0,J,J,rfl,V⟩ ?_;rintro _ _ ap P ⟨j,rfl,bZ,rfl,A⟩;obtain⟨Z,E,M⟩:=aj _ _ _ A;rw[ajd];unfold Xb;refine bh @E ?_;refine⟨λg=>?_,λeM=>?_⟩
 ·have g:j<n:=J
  refine QF.mono ?_;rintro _ _ _ ⟨rfl,rfl,rfl⟩;simp(disch:=omega)only[bl,M,show bin Q .neq 4 (.bool false) (.bool true) = .ok (.bool true) by kernel_rfl,seval];have vT:=cd true j g _ _ A;refine vT.mono ?_;rintro _ aM bW ⟨rfl,D,B⟩;refine⟨B,?_⟩;refine bh (cv (J:j<1000000000000)) ?_;exact⟨_,J,j+1,rfl,J,rfl,D⟩
 ·have:j=n:=J
  subst this;exact A
def eK(p:Nat × Int):aa X:=[(p.1:X),.int .i64 (p.2 / 18446744073709551616),.int .u64 (p.2 % 18446744073709551616)]
theorem ao1(p:Nat × Int):(eK p).length=3:=rfl
theorem ao2{s:al}{r:Int}{v:X}{x:Nat->aw Int}{h:ae}{U:Nat}(bb:n1 r)(M:hg R C ag)(LC:C<=63)(aG:kj h U v R C ag)(bj:sp h U w C x)(b0:∀g∈ag,0<=g.w/\g.w<=2147483647)(aY:∀i y,x i=some y->0<=y/\y<=eI):
  aH Q s 393 [(r:X),v,w,.slice none 0 0,.bool true] h U (λaI ac Y=>∃z,aI = .tuple ⟨[z,.int .i64 0]⟩/\eG ac U Y z eK (bq R (il r ag x))/\aA U h ac/\U<=Y):=by
 refine asl ?_;have ia:=aG;have T5:=bj;have ei:=M.bb;obtain⟨b,aS,cap,v2,v3,rfl,aO,a9,qg,pf⟩:=aG;obtain⟨a2,c2,rfl⟩:=qg.form;obtain⟨a3,b8,rfl⟩:=pf.form;obtain⟨ft,dr,rfl,aq,xf⟩:=bj;obtain⟨ez,c3,rfl,_⟩:=id aq;obtain⟨bk,gj,rfl,_⟩:=id xf;unfold aeB;refine aD ?_;refine(ao0 M (ia.T aN J) (T5.T aN J) LC).mono ?_;rintro _ ap A ⟨rfl,I,Z⟩;have cJ:=(I U J).trans ((ar J).trans ((ar J).trans (aT _ _ _)));have g1:=(I (U+1) J).trans ((ar J).trans (aT _ _ _));have g2:=(I (U+1+1) J).trans (aT _ _ _);refine hx @cJ @g1 @g2 ?_;refine(Al (r:=r) (by rcases bb with rfl|rfl|rfl <;> omega) (by rcases bb with rfl|rfl|rfl <;> omega)).mono ?_;rintro _ _ _ ⟨rfl,gi,eN⟩;rw[gi,eN];simp(disch:=omega)only[bl,q5,seval];refine ant ?_;unfold abF;refine aD ?_;generalize EL:F _ _ _=ii;have fK:∀c,c<A->c≠U+1->c≠U+1+1->u ii c=u ap c:=λc D aM bc=>by subst EL;repeat rw[ar J]
 have g8:=(fK U J J J).trans cJ;have de:u ii (U+1)=some (.cells [(R:X),(C:X),.slice (some ⟨b,0,aS⟩) (R+1) cap,.slice a2 (fs ag).length c2,.slice a3 (gr ag).length b8] false):=by subst EL;grind
 have ew:u ii (U+1+1)=some (.cells [(C:X),.slice ez (eT C (j7 x)).length c3,.slice bk (cn C (jP x)).length gj] false):=by subst EL;grind
 have q12:u ii A=some (.cells [.slice none 0 0] false):=by subst EL;grind
 have Uu:ahg R (A+1) (A+1+1) (A+1+1+1) ii (A+1+1+1+1):=by subst EL;refine⟨?_,?_,?_⟩ <;> grind
 have sZ:aA U h ii:=λc P=>by rw[fK c J J J,I c J];repeat rw[ar J]
 clear EL fK;have Ut:=ajB (s:=s) (n:=R) (cj:=A+1) (cN:=A+1+1) (fk:=A+1+1+1) J;obtain⟨L,eD⟩:∃L:Nat->aw Int,L=il r ag x:=⟨_,rfl⟩
 refine Se (λk D a5=>∃w,u D A=some (.cells [w] false)/\gZ w=true/\d1 D w eK 3 (bq k L) (A+6) a5/\(∀c,c<A+5->c≠A->c≠A+4->u D c=u ii c)/\A+5<=a5/\k<=R) Ut ?_ ?_ ?_ ?_ ?_
 ·rintro k D a5 ⟨w,e,fb,dn,B,dO,hk⟩;exact⟨⟨(B _ J J J).trans Uu.1,(B _ J J J).trans Uu.2.1,(B _ J J J).trans Uu.2.2⟩,J⟩
 ·rintro k D a5 ap n2' ⟨w,e,fb,dn,B,dO,hk⟩ I Z;exact⟨w,ab,fb,dn.T ab Z,ab,J,hk⟩
 ·exact⟨.slice none 0 0,ab,rfl,.inl ⟨rfl,rfl⟩,ab,J,J⟩
 ·rintro s k hk D a5 ⟨w,e,fb,dn,B,dO,By⟩ bA;have cJ:u D U=some (.cells [(r:X)] false):=(B _ J J J).trans g8;have g1:=(B (U+1) J J J).trans de;have g2:=(B (U+1+1) J J J).trans ew;have hj:aA U h D:=λc P=>(B c J J J).trans (sZ c P);refine aon bA ?_;unfold Qu ach;generalize uV _ _ _ _ _ _ _ _ _ _ _ _ _ _ _ _ _ _ _ _ _ _ _ _ _=ak at *
  refine⟨none,bA,?_⟩;generalize eHH:F D (A+1+1+1+1) (.loop 1 none ak [37] sh si)=zx;have V:∀c,c≠A+4->u zx c=u D c:=λc P=>ab
  have rB:u zx (A+1+1+1+1)=some (.loop 1 none ak [37] sh si):=ab
  have cJ:=(V _ J).trans cJ;have g1:=(V _ J).trans g1;have g2:=(V _ J).trans g2;have e:=(V _ J).trans e;have hj:aA U h zx:=λc P=>(V c J).trans (hj c P);refine hx @cJ @g1 @g2 ?_;refine(asU bb M LC (ia.T hj (Y:=a5) J) (T5.T hj (Y:=a5) J) hk b0 aY).mono ?_;rintro _ ev n7 ⟨rfl,E,tI⟩;rw[<-eD];have gy:=(E _ J).trans e;have Ur:=(E _ J).trans rB;have aW:∀x:Int,dj (.agg ⟨wid x⟩)=[.int .i64 (x / 18446744073709551616),.int .u64 (x % 18446744073709551616)]:=λ_=>rfl;cases hLk:L k with
  |none =>
   have aj:bq (k+1) L=bq k L:=by rw[ty,hLk,h6]
   refine bh @aW ?_;refine⟨λP=>absurd P (by simp),λ_=>⟨1,none,Ur,⟨w,gy,fb,?_,λc D ap aM=>?_,J,J⟩,J⟩⟩
   ·rw[aj];exact dn.T (λc D ap=>by rw[ar J,ar J,ar J,E c J,V c J]) J
   ·rw[ar J,ar J,ar J,E c J,V c J];grind
  |some y =>
   have aj:bq (k+1) L=bq k L++[(k,y)]:=by rw[ty,hLk]
   have wP:=me k L;refine cQ @aW @gy ?_;refine⟨λ_=>?_,λP=>absurd P (by simp)⟩;refine lJ (enc:=eK) (k:=3) (ao:=A+6) (λ_=>rfl) (λ_=>rfl) J (dn.T (dm:=n7+1+1) (λc D ap=>by rw[ar J,ar J,ar J,E c J,V c J]) J) J (k,y) (aT _ _ _) rfl J λdF kP Uv vD=>?_;have hl9:u kP (A+1+1+1+1)=some (.loop 1 none ak [37] sh si):=ab
   have jA:u kP A=some (.cells [w] false):=ab
   have aEr:∀c,c<A+5->c≠A->c≠A+4->u kP c=u ii c:=λc D ap aM=>by rw[vD _ J,ar J,ar J,ar J,E c J,V c J];grind
   rcases Uv with⟨aE,rfl⟩|⟨BU,hR,fm,rfl,MF⟩
   ·simp at aE
   ·refine bh @jA ?_;refine⟨1,none,hl9,⟨_,rfl,rfl,.inr ⟨BU,hR,J,by rw[aj],?_⟩,λc D ap aM=>?_,J,J⟩,J⟩
    all_goals grind
 ·rintro D a5 ⟨w,e,fb,dn,B,dO,By⟩;refine bh @e ?_;refine⟨w,rfl,?_,λc P=>?_,J⟩
  ·rw[<-eD];rcases dn with⟨aW,rfl⟩|⟨BU,hR,fm,rfl,MF⟩
   ·exact⟨_,_,by rw[aW];rfl,λh=>absurd aW h⟩
   ·exact⟨_,_,rfl,λ_=>⟨BU,some 3,false,J,fm,rfl,MF⟩⟩
  ·rw[B _ J J J];exact sZ c P
theorem el.all{az:Type}{h:ae}{U k:Nat}{v:X}{enc:az->aa X}{l:aa az}(H:el h U v enc k l)(A:∀x,(enc x).length=k)(g:l≠[]):
  ∃b o aS ro cs cap,b<U/\v = .slice (some ⟨b,o,aS⟩) l.length cap/\u h b=some (.cells cs ro)/\∀(i:Nat) x,l[i]? = some x->hV (some k) (o+i*k) cs = .ok (.agg ⟨enc x⟩)/\∀(j:Nat) y,j<k->(enc x)[j]? = some y->cs[o+i*k+j]? = some y:=by
 obtain⟨a,cap,e,Z⟩:=id H;obtain⟨b,o,aS,ro,cs,V,rfl,I,h1,ap⟩:=Z g;refine⟨b,o,aS,ro,cs,cap,V,e,I,λi x D=>⟨?_,λj y bZ cd=>?_⟩⟩
 ·obtain⟨ce,a0,Ed,Ih,P,B,_,cf,M,E⟩:=H.ld A D
  grind
 ·have aM:=NX A rfl ap D
  grind
theorem avu{s:al}{v:X}{h:ae}{U:Nat}(eD:L.length<1000000)(I:el h U v eK 3 L)(bE:∀(p:Nat × Int),p∈L->∀ac Y,aA U h ac->U<=Y->aH Q s er (.agg ⟨eK p⟩::cs) ac Y (dJ (.bool false) Y ac)):
  aH Q s 396 [v,.func (.func er) ⟨[]⟩ ⟨cs⟩] h U (dJ (.int .i64 (-1)) U h):=by refine Wo ?_;unfold N5;obtain⟨M,cap,rfl,a1⟩:=id I;refine aD ?_;refine bC.mk (λm V ac Y=>∃i,m=L.length-i/\i<=L.length/\V=[.slice M L.length cap,.func (.func er) ⟨[]⟩ ⟨cs⟩,.int .i64 0,(L.length:X),(i:X)]/\aA U h ac/\U<=Y) L.length ⟨0,J,J,rfl,aN,J⟩ ?_;rintro _ _ ap bX ⟨i,rfl,aj,rfl,A,g⟩;rw[Wk];unfold NZ;refine aD ?_;refine⟨λP=>?_,λZ=>⟨rfl,A,g⟩⟩;obtain⟨p,bg⟩:=dR   J;obtain⟨b,a0,aS,ro,tP,E,aO,aW,a9,B⟩:=(I.T A g).ld (λ_=>rfl) bg;cases aW;refine cQ @a9 @B ?_;refine(bE p ab ap bX A g).mono ?_;rintro _ aM bW ⟨rfl,e1,D⟩;refine bh (cv (J:i<1000000000000)) ?_;exact⟨_,J,i+1,rfl,J,rfl,aN,J⟩
theorem alD{s:al}{n:Nat}{h:ae}{U:Nat}(g:u h cj=some (.cells [(n:X)] ro))(B:cj<U)(A:p.1<n):aH Q s 398 [.agg ⟨eK p⟩,bf cj] h U (dJ (.bool false) U h):=by refine anr ?_;unfold abE bI;rw[show dj (.agg ⟨eK p⟩)=[(p.1:X),.int .i64 (p.2 / 18446744073709551616),.int .u64 (p.2 % 18446744073709551616)]from rfl];refine bh @g ?_;refine⟨λh=>absurd h J,λ_=>?_⟩;rw[gP A];exact⟨rfl,aN,J⟩
def sT(r:Int)(l:aa (Nat × Int)):aa (Nat × Int):=l.filter λp=>decide (p.2≠GZ r)
theorem asV(r:Int)(n:Nat)(S:Nat->aw Int):sT r (bq n S)=bq n λi=>nf r (S i):=by
 refine Q5 (I9 _ (yh n S)) λi x=>?_;unfold sT;rw[nR,jS];unfold nf
 grind
theorem ao3{s:al}{r:Int}{n:Nat}{v:X}{S:Nat->aw Int}{h:ae}{U:Nat}(bb:n1 r)(bv:n<=4096)(aG:el h U v eK 3 (bq n S))(dn:∀i y,S i=some y->0<=y/\y<=eI):
  aH Q s 335 [(r:X),(n:X),v] h U (λaI ac Y=>∃w,aI = .tuple ⟨[w,.int .i64 0]⟩/\lj ac U Y w n (λi=>nf r (S i))/\aA U h ac/\U<=Y):=by
 refine arh ?_;unfold adX;obtain⟨bk,cap,rfl,a1⟩:=id aG;have gz:=me n S;have bT:∀{o a0},aA U h (F (F h U o) (U+1) a0):=aN
 refine aD ?_;refine(Al  (by rcases bb with rfl|rfl|rfl <;> omega) (by rcases bb with rfl|rfl|rfl <;> omega)).mono ?_;rintro _ _ _ ⟨rfl,gi,eN⟩;rw[gi,eN];refine aD ?_;have BT:u (F (F h U (.cells [(n:X)] false)) (U+1) (.cells [.int .i64 0,.slice none 0 0] false)) U=some (.cells [(n:X)] false):=ab
 have oz:u (F (F h U (.cells [(n:X)] false)) (U+1) (.cells [.int .i64 0,.slice none 0 0] false)) (U+1)=some (.cells [.int .i64 0,.slice none 0 0] false):=ab
 have ux:=bT (o:=.cells [(n:X)] false) (a0:=.cells [.int .i64 0,.slice none 0 0] false);generalize F (F h U (.cells [(n:X)] false)) (U+1) (.cells [.int .i64 0,.slice none 0 0] false)=H at *
 refine⟨λh=>absurd h J,λ_=>?_⟩;rw[hD (J:¬(4096:Int)<(n:Int))];unfold Pj;refine aD ?_;refine ahR ?_;refine(avu J (aG.T ux  J) λp bg ac Y hk dO=>alD  ((hk U J).trans BT) (by omega) ?_).mono ?_
 ·exact(jS  ).1 bg |>.1
 rintro _ Z A ⟨rfl,M,fg⟩;have cJ:=(M U J).trans BT;have g1:=(M (U+1) J).trans oz;have gW:=ux.trans M J;refine aD ?_;unfold Zt;refine aD ?_;refine⟨λh=>absurd trivial h,?_⟩;refine bC.mk (λm aF ac Y=>∃i,m=(bq n S).length-i/\i<=(bq n S).length/\aF=[(r:X),.slice bk (bq n S).length cap,bf U,.pointer (some ⟨U+1,0,none⟩),.int .i64 0,.int .i64 ((bq n S).length:Int),(i:X)]/\ac=Z/\Y=A) (bq n S).length ⟨0,J,J,rfl,rfl,rfl⟩ ?_;rintro _ _ aM bW ⟨i,rfl,aj,rfl,gi,eN⟩;rw[anm,gi,eN];unfold Zr;refine aD ?_;refine⟨λct=>?_,λeM=>?_⟩
 ·obtain⟨b,o,aS,ro,cs,kZ,aO,V,a9,g⟩:=aG.all (λ_=>rfl) ab;cases V;have I:=(gW b aO).trans a9;have fin:∃bG,bG<(bq n S).length-i/\∃D,bG=(bq n S).length-D/\D<=(bq n S).length/\[Value.int .i64 r,.slice (some ⟨b,o,aS⟩) (bq n S).length cap,bf U,.pointer (some ⟨U+1,0,none⟩),.int .i64 0,.int .i64 ((bq n S).length:Int),.int .i64 (IntKind.wrap .i64 ((i:Int)+1))]=[(r:X),.slice (some ⟨b,o,aS⟩) (bq n S).length cap,bf U,.pointer (some ⟨U+1,0,none⟩),.int .i64 0,.int .i64 ((bq n S).length:Int),(D:X)]:=⟨_,J,i+1,rfl,J,by rw[cv J]⟩
  refine⟨λbg=>?_,λ_=>fin⟩;obtain⟨j,rfl⟩:∃j,i=j+1:=⟨i-1,J⟩
  obtain⟨p,w4⟩:=dR (l:=bq n S) (i:=j) J;obtain⟨q,MG⟩:=dR   J;have c1:=(g j p w4).2 0 _ J rfl;have c2:=(g (j+1) q MG).2 0 _ J rfl;rw[nS]at c1 c2;have HH:=u2     w4 MG J;have cu:IntKind.wrap .i64 (((j+1:Nat):Int)-1)=(j:Int):=by rw[oO];omega
  refine lh @cu @I @c1 @c2 ?_;exact⟨λh=>absurd HH h,λ_=>fin⟩
 ·obtain⟨zx,hHH⟩:∃zx,zx=F (F Z A (.cells [.int .i64 0,.slice none 0 0] false)) A (.cells [(n:X),.slice none 0 0] false):=⟨_,rfl⟩
  have xx:u zx A=some (.cells [(n:X),.slice none 0 0] false):=ab
  have kHH:aA A Z zx:=by rw[hHH];exact aN
  refine bh @cJ ?_;rw[<-hHH];refine bC.mk (λm aF ac Y=>∃i w,m=(bq n S).length-i/\i<=(bq n S).length/\aF=[(r:X),.pointer (some ⟨U+1,0,none⟩),.int .i64 0,bf A,.slice bk (bq n S).length cap,.int .i64 ((bq n S).length:Int),(i:X)] /\
   u ac A=some (.cells [(n:X),w] false)/\d1 ac w fG 2 (sT r ((bq n S).take i)) (A+1) Y/\aA A Z ac/\A+1<=Y) (bq n S).length ⟨0,_,J,J,rfl,xx,.inl ⟨rfl,rfl⟩,kHH,J⟩ ?_
  rintro _ _ aM bW ⟨i,w,rfl,aj,rfl,cf,B,P,gJ⟩;have ow:aA U h aM:=aN
  have Ea:=(P (U+1) J).trans g1;rw[ann];unfold Zs;refine aD ?_;refine⟨λct=>?_,λeM=>?_⟩
  ·obtain⟨p,bg⟩:=dR   J;obtain⟨Mk,hpS⟩:=wq   bg;have oc:=dn _ _ hpS;obtain⟨b,o,aS,ro,cs,kZ,aO,V,a9,g⟩:=aG.all (λ_=>rfl) ab;cases V;have I:=(ow b aO).trans a9;have mx:=(g i p bg).1;have E:ln p.2:=Gl (by unfold kq eI at *;omega);have yD:sv p.2=true:=by unfold sv eI at *;grind
   simp(disch:=omega)only[bl,I,mx,show dj (.agg ⟨eK p⟩)=[(p.1:X),.int .i64 (p.2 / 18446744073709551616),.int .u64 (p.2 % 18446744073709551616)]from rfl,seval];refine(Xc E).mono ?_;rintro _ bc d4 ⟨rfl,fI,hb⟩;rw[yD];refine aD ?_;refine(anB  (by rcases bb with rfl|rfl|rfl <;> simp)).mono ?_;rintro _ _ _ ⟨rfl,gi,eN⟩;rw[gi,eN];have gn4:=(fI bW J).trans (aT _ _ _);have dT:=(fI A J).trans ((ar J).trans ((ar J).trans cf));have gG:aA bW aM bc:=aN
   have ci:(bq n S).take (i+1)=(bq n S).take i++[p]:=by rw[ho,bg];rfl
   refine aD ?_;refine⟨λcL=>?_,λcL=>?_⟩
   ·have bj:sT r ((bq n S).take (i+1))=sT r ((bq n S).take i)++[p]:=by
     unfold sT
     grind
    have hdl:(sT r ((bq n S).take i)).length<=i:=h7 (vX _ _) ab;obtain⟨gx,nF,rfl⟩:∃a c,w = .slice a (sT r ((bq n S).take i)).length c:=by
     rcases B with⟨V,rfl⟩|⟨b,_,_,rfl,_⟩
     all_goals grind
    refine cQ @gn4 @dT ?_;refine lJ  (k:=2)  (λ_=>rfl) (λ_=>rfl) J (B.T  (λc h1 Z=>by rw[ar J,gG c J]) J) J p (aT _ _ _) rfl J λdF kP Uv vD=>?_;have jA:u kP A=some (.cells [(n:X),.slice gx (sT r ((bq n S).take i)).length nF] false):=ab
    have VK:aA A Z kP:=λc a1=>by rw[vD c J,ar J,gG c J];exact P c a1
    rcases Uv with⟨aE,rfl⟩|⟨BU,hR,fm,rfl,MF⟩
    ·simp at aE
    ·refine cQ @jA (cv (J:i<1000000000000)) ?_;refine⟨_,J,i+1,_,rfl,J,rfl,rfl,.inr ⟨BU,hR,J,by rw[bj],?_⟩,VK.set (cD _),J⟩
     grind
   ·have bj:sT r ((bq n S).take (i+1))=sT r ((bq n S).take i):=by
     unfold sT
     grind
    refine bh (cv (J:i<1000000000000)) ?_;exact⟨_,J,i+1,w,rfl,J,rfl,dT,by rw[bj];exact B.T (λc h1 Z=>gG c J) J,λc a1=>(gG c J).trans (P c a1),J⟩
  ·have:i=(bq n S).length:=J
   subst this;rw[hC,asV]at B;obtain⟨_,_,rfl⟩:∃a c,w = .slice a (bq n λi=>nf r (S i)).length c:=by
    rcases B with⟨V,rfl⟩|⟨b,_,_,rfl,_⟩
    all_goals grind
   refine cQ @cf @Ea ?_;refine⟨_,rfl,⟨_,rfl,?_⟩,ow.set J,J⟩;rcases B with⟨V,aK⟩|⟨BU,hR,fm,aK,MF⟩
   ·rw[V]at aK ⊢;exact⟨_,_,rfl,λh=>absurd rfl h⟩
   ·cases aK;exact⟨_,_,rfl,λ_=>⟨BU,some 2,false,J,fm,rfl,ab⟩⟩
def acy:gv:=λs ah t1 t2 h U K=>hJ 2 ah t1 λa=>ax h 0 a λc=>hJ 3 c (ad 0) λd=>ax h 0 d λf=>hJ 2 ah t2 λg=>ax h 0 g λj=>hJ 3 j (ad 0) λk=>ax h 0 k λm=>b6 242 [f,m] h U λn o p=>hJ 2 ah t1 λq=>bo 1 q λr=>bS o r λt=>cZ r t (hJ 2 ah t2 λaI=>bo 1 aI λv=>bS o v λw=>cZ v w (b6 242 [t,w] o p λx y z=>dS (eV 2 [(ad 0),(ad 0)] [(0,1,n),(1,1,x)]) y z λbD bU bL=>b6 241 [bD] bU bL λbk bV ca=>bH .lss 3 bk (ad 0) λbO=>K bO bV ca) 1 [h]) 1 [h]
theorem ao4:gF 523 acy:=gL []
def aeQ:cS:=λs ah h U K=>af (bx ah) λa=>bS h a λb=>cO b λc=>bH .sub 3 c (ad 1) λd=>af (bx ah) λe=>bS h e λf=>hw 2 h 2 f d λi=>b1 [ay,(ad 0)] h U λj k l=>af (aU k 2 j i) λm=>af (bx ah) λn=>bS m n λo=>af (gS 2 o none (some d) none) λp=>af (bx ah) λq=>af (aU m 1 q p) λr=>aR 2 r j λt=>af (.ok (Value.iface 417 t)) λaI=>K aI r l
theorem asW:cT 524 aeQ:=cV []
def acz:c0:=λs ah t1 h U K=>af (F9 Q 417 true t1) λa=>af (cp a 0) λb=>af (cp a 1) λc=>b1 [ay,(ad 0)] h U λd e f=>af (aU e 2 d b) λg=>bu c (af (bx ah) λi=>bS g i λj=>aR 2 g d λk=>dS (eV 1 [ay,(ad 0)] [(0,2,k)]) g f λl m n=>dD (dU (dM 2 m n j l)) λo p q=>n<=q/\af (bx ah) λr=>af (aU p 1 r o) λt=>K (.tuple ⟨[]⟩) t q) (K (.tuple ⟨[]⟩) g f)
theorem ao5:c4 525 acz:=c5 []
def acA:gv:=λs ah t1 t2 h U K=>hw 2 h 2 ah t2 λb=>hw 2 h 2 ah t1 λd=>hJ 2 ah t1 λe=>af (aU h 2 e b) λf=>hJ 2 ah t2 λg=>af (aU f 2 g d) λi=>K (.tuple ⟨[]⟩) i U
theorem ao6:gF 526 acA:=gL []
theorem aga:rb Tryz.prog 415 "Len" = some (329,false):=by kernel_rfl
theorem RE:rb Tryz.prog 415 "Less" = some (523,false):=by kernel_rfl
theorem RF:rb Tryz.prog 415 "Swap" = some (526,false):=by kernel_rfl
theorem avv:rb Tryz.prog 415 "Push" = some (525,true):=by kernel_rfl
theorem axZ:rb Tryz.prog 415 "Pop" = some (524,true):=by kernel_rfl
theorem ahh:Tryz.prog.underlying 415=some (.pointer 370):=by kernel_rfl
theorem azS:px Tryz.prog 370=some none:=by kernel_rfl
theorem asX:zQ Tryz.prog 417=true:=by kernel_rfl
section
variable {h:ae} {U ch:Nat} {v:X} {l bz:aa X}
theorem ys{m:String}{f:FuncId}(B:rb Tryz.prog 415 m=some (f,false))(A:u h ch=some (.cells (v::bz) false)):md Q h U l m (.iface 415 (bf ch)) = .call f (v::l) h U:=by show Td "invoke - method" (rb Tryz.prog 415 m) (λg=>DI (wB Tryz.prog h 415 g.2 (bf ch)) (λy=>.call g.1 (y::l) h U))=_;rw[B];unfold wB;rw[ahh];show DI (R.of "type" (px Tryz.prog 370) (λD=>iM D h (bf ch))) _=_;rw[azS];show DI (iM none h (bf ch)) _=_;rw[K2,A];rfl
theorem agb{m:String}{f:FuncId}(A:rb Tryz.prog 415 m=some (f,true)):md Q h U l m (.iface 415 (bf ch)) = .call f ((bf ch)::l) h U:=by show Td "invoke - method" (rb Tryz.prog 415 m) (λg=>DI (wB Tryz.prog h 415 g.2 (bf ch)) (λy=>.call g.1 (y::l) h U))=_;rw[A];unfold wB;rw[ahh];rfl
end
def vf(h:ae)(ao:Nat)(x:e3):Prop:=∃b o aS ro cs c a,x.v = .slice (some ⟨b,o,aS⟩) (x.n+1) c/\b<ao/\u h b=some (.cells cs ro)/\cs[o]? = some (((a:Nat):X))/\x.k=(a:Int)*1000+(x.w:Int)/\x.w<1000
theorem vf.T{h ac:ae}{ao:Nat}{x:e3}(H:vf h ao x)(D:∀c,c<ao->u ac c=u h c):vf ac ao x:=by obtain⟨b,o,aS,ro,cs,c,a,B,g,E,A⟩:=H;exact⟨b,o,aS,ro,cs,c,a,B,g,ab,A⟩
theorem agc{h:ae}{i:Nat}{x:e3}(g:gZ x.v=true)(aj:i<W.length):j4 (some (.cells (bd hr W++cs) false)) h b (i*2) [x.v,(x.w:X)] = .ok (F h b (.cells (bd hr (W.set i x)++cs) false)):=by
 have B:=gc  wj;have A:ee [x.v,(x.w:X)]=true:=by rw[q9,g];rfl
 have:=Pa  wj cs x W i aj;rw[K3 A ab]
 grind
theorem QG{s:al}{h:ae}{U n:Nat}{a:aw Addr}:aH Q s 329 [.slice a n cap] h U (λr ac Y=>r = (n:X)/\ac=h/\Y=U):=by refine auI ?_;unfold afA;simp(disch:=omega)only[bl,seval]
theorem OU{s:al}{h:ae}{U n ao:Nat}{i k:Nat}{x:e3}(M:u h b=some (.cells (bd hr W++cs) false))(vv:b<U)(tT:ao<=U)(bv:W.length=n)(aj:W[i]? = some x)(E:W[k]? = some y)(aDs:vf h ao x)(aDt:vf h ao y):
  aH Q s 523 [.slice (some ⟨b,0,aS⟩) n cap,(i:X),(k:X)] h U (dJ (.bool (decide (x.k<y.k))) U h):=by
 refine ao4 ?_;unfold acy;have aDu:=(hn.1 aj).1;have gE:=(hn.1 E).1;rw[bv]at aDu gE;obtain⟨cI,eF,sp1,ro1,cs1,c1,aB,aW,dH,I,Z,de,da⟩:=aDs;obtain⟨bQ,dP,k3,y7,y6,c2,a2,aK,dl,P,V,ew,dc⟩:=aDt;have A:=afs (cs:=cs) aj;have g:=afs (cs:=cs) E;rw[aW]at A;rw[aK]at g;simp(disch:=omega)only[bl,M,A.1,A.2,g.1,g.2,I,P,Z,V,seval];refine QA.mono ?_;rintro _ _ _ ⟨rfl,D,B⟩;rw[D,B];refine⟨J,?_⟩;simp(disch:=omega)only[bl,M,A.1,A.2,g.1,g.2,I,P,Z,V,seval];refine QA.mono ?_;rintro _ _ _ ⟨rfl,D,B⟩;rw[D,B];refine⟨J,?_⟩;refine aD ?_;refine(CW (aT _ _ _)).mono ?_;rintro _ _ _ ⟨rfl,rfl,rfl⟩;refine⟨J,?_⟩;refine aD ?_;refine⟨?_,aN,J⟩
 congr 1
 rw[de,ew,decide_eq_decide];unfold fR;omega
theorem OV{s:al}{h:ae}{U n:Nat}{i k:Nat}{x:e3}(E:u h b=some (.cells (bd hr W++cs) false))(M:W.length=n)(aj:W[i]? = some x)(g:W[k]? = some y)(D:gZ x.v=true)(A:gZ y.v=true):
  aH Q s 526 [.slice (some ⟨b,0,aS⟩) n cap,(i:X),(k:X)] h U (λr ac Y=>r = .tuple ⟨[]⟩/\u ac b=some (.cells (bd hr (sI W i k x y)++cs) false)/\(∀c,c≠b->u ac c=u h c)/\Y=U):=by refine ao6 ?_;unfold acA;have B:=(hn.1 aj).1;have I:=(hn.1 g).1;simp(disch:=omega)only[bl,E,KK aj,KK g,seval];rw[agc A B,yn];rw[aT,agc D ab,yn];exact⟨aT _ _ _,ab⟩
abbrev tJ(ch:Nat):X:=.iface 415 (bf ch)
def mg(h:ae)(ao:Nat)(W:aa e3):Prop:=∀x∈W,vf h ao x
theorem mg.T{h ac:ae}{ao:Nat}{W:aa e3}(H:mg h ao W)(g:∀c,c<ao->u ac c=u h c):mg ac ao W:=λx A=>(H x A).T g
theorem mg.perm{h:ae}{ao:Nat}(H:mg h ao W)(p:dp.Perm W):mg h ao dp:=λx g=>H x ab
theorem vf.cell{h:ae}{ao:Nat}{x:e3}(H:vf h ao x):gZ x.v=true:=by obtain⟨b,o,aS,ro,cs,c,a,g,_⟩:=H;rw[g];rfl
theorem mg.at{h:ae}{ao i:Nat}{x:e3}(H:mg h ao W)(g:W[i]? = some x):vf h ao x:=H x ab
theorem Sf{h ac:ae}{ch:Nat}{bz:aa X}(w:oN h ch b aS cap W cs bz)(A:u ac b=some (.cells (bd hr dp++cs) false))(g:dp.length=W.length)(B:u ac ch=u h ch):oN ac ch b aS cap dp cs bz :=
 ⟨by rw[B,g];exact w.cell,A,by rw[g];exact w.len,w.HL,w.ne⟩
theorem G3{h ac:ae}{ch U:Nat}{bz:aa X}(w:oN h ch b aS cap W cs bz)(A:aA U h ac)(B:b<U)(g:ch<U):oN ac ch b aS cap W cs bz :=
 ⟨(A _ g).trans w.cell,(A _ B).trans w.co,w.len,w.HL,w.ne⟩
theorem ax0(h:m<1000000000):IntKind.wrap .i64 ((m:Int)-1)=(m:Int)-1:=by rw[oO];omega
theorem azT(g:j<=100000):bin Q .quo 3 (.int .i64 ((j:Int)-1)) (.int .i64 2) = .ok (((eH j:Nat):X)):=by
 rw[CC (by decide)];have:((j:Int)-1).tdiv 2=((eH j:Nat):Int):=by
  cases j with
  |zero=>rfl
  |succ j =>
   have e:((j+1:Nat):Int)-1=(j:Int):=J
   rw[e];rfl
 rw[this,show IntKind.wrap .i64 ((eH j:Nat):Int)=((eH j:Nat):Int) by rw[oO];grind]
def Bz(b U:Nat)(h ac:ae)(Y:Nat):Prop:=(∀c,c<U->c≠b->u ac c=u h c)/\U<=Y
def UpJ(ch b ao:Nat)(aS:aw Nat)(cap:Nat)(W:aa e3)(cs bz:aa X)(h:ae)(U:Nat)(m:Nat)(aF:aa X)(ac:ae)(Y:Nat):Prop :=
 ∃(dp:aa e3),aF=[tJ ch,(m:X)]/\oN ac ch b aS cap dp cs bz/\vd dp m/\m<dp.length/\dp.Perm W/\Bz b U h ac Y
def ax1(ch b:Nat)(aS:aw Nat)(cap:Nat)(W:aa e3)(cs bz:aa X)(h:ae)(U:Nat):bR:=λr ac Y=>r = .tuple ⟨[]⟩/\∃dp,oN ac ch b aS cap dp cs bz/\nY dp/\dp.Perm W/\Bz b U h ac Y
theorem avw{s:al}{h:ae}{U ch ao:Nat}{bz:aa X}(w:oN h ch b aS cap W cs bz)(EM:vd W j)(bZ:j<W.length)(bA:W.length<=100000)(ok:mg h ao W)(tT:ao<=U)(Uw:ao<=b)(rC:ao<=ch)(aO:b<U)(t8:ch<U):
  aH Q s 258 [tJ ch,(j:X)] h U (ax1 ch b aS cap W cs bz h U):=by
 refine axl ?_;have eS:=w.ne;refine bC.mk (UpJ ch b ao aS cap W cs bz h U) j ⟨W,rfl,w,EM,bZ,Ce _,ab,J⟩ ?_;rintro m _ ac Y ⟨dp,rfl,P,A,bp,M,bE,dO⟩;have g:mg ac ao dp:=(ok.T ab).perm M;rw[auE];unfold adR;have gz:=M.length_eq;obtain⟨y,D⟩:=dR bp;obtain⟨x,E⟩:=dR (l:=dp) (i:=eH m) (by unfold eH;omega);simp(disch:=omega)only[bl,ax0 (J:m<1000000000),azT (J:m<=100000),ys RE P.cell,seval];refine⟨λau=>?_,λau=>?_⟩
 ·have I:m=0:=by
   have:((eH m:Nat):Int)=(m:Int):=ab
   unfold eH at this;omega
  exact⟨rfl,dp,P,A.done J,M,bE,dO⟩
 ·have I:0<m:=by
   rcases zI m with e|e
   ·subst e;simp[eH]at au
   omega
  refine(OU  P.co J J rfl D E (g.at D) (g.at E)).mono ?_;rintro r h1 a5 ⟨rfl,B,f0⟩;have V:=G3 P B J J;simp(disch:=omega)only[bl,ys RF V.cell,seval];refine⟨λeM=>?_,λZ=>?_⟩
  ·refine⟨rfl,dp,V,A.done λfU qU _ A0 Tq=>?_,M,λc ap aM=>(B c J).trans ab,J⟩
   grind
  ·refine(OV V.co rfl E D (g.at E).cell (g.at D).cell).mono ?_;rintro r ap _ ⟨rfl,fm,mS,rfl⟩;have sC:eH m<m:=by unfold eH;omega
   exact⟨eH m,sC,_,rfl,Sf V fm (Ab _ _ _ _ _) ab,A.step I E D Z,by rw[Ab];omega,(JX E D).trans M,λc aM bc=>by rw[mS c bc,B c J];grind,J⟩
def DnJ(ch b n:Nat)(aS:aw Nat)(cap:Nat)(W:aa e3)(cs bz:aa X)(h:ae)(U:Nat)(m:Nat)(aF:aa X)(ac:ae)(Y:Nat):Prop :=
 ∃(dp:aa e3) (i:Nat),m=n-i/\i<=n/\aF=[tJ ch,.int .i64 0,(n:X),(i:X)]/\oN ac ch b aS cap dp cs bz/\uZ dp n i/\dp.Perm W/\dp[n]? = W[n]?/\Bz b U h ac Y
def agd(ch b n:Nat)(aS:aw Nat)(cap:Nat)(W:aa e3)(cs bz:aa X)(h:ae)(U:Nat):bR:=λr ac Y=>∃dp,oN ac ch b aS cap dp cs bz/\nY (dp.take n)/\dp.Perm W/\dp[n]? = W[n]?/\Bz b U h ac Y
theorem ao7{s:al}{h:ae}{U ch n ao:Nat}{bz:aa X}(w:oN h ch b aS cap W cs bz)(BP:uZ W n 0)(bv:W.length=n+1)(bA:W.length<=100000)(ok:mg h ao W)(tT:ao<=U)(Uw:ao<=b)(rC:ao<=ch)(aO:b<U)(t8:ch<U):
  aH Q s 257 [tJ ch,.int .i64 0,(n:X)] h U (agd ch b n aS cap W cs bz h U):=by
 refine arb ?_;have eS:=w.ne;refine bC.mk (DnJ ch b n aS cap W cs bz h U) n ⟨W,0,rfl,J,rfl,w,BP,Ce _,rfl,ab,J⟩ ?_;rintro m _ ac Y ⟨dp,i,rfl,aj,rfl,ba,P,bg,g,bE,dO⟩;have ok':mg ac ao dp:=(ok.T ab).perm bg;rw[ani];unfold Zq;have gz:=bg.length_eq;obtain⟨x,aY⟩:=dR (l:=dp) (i:=i) J;have aW:(2:Int)*(i:Int)=((2*i:Nat):Int):=J
 have aK:IntKind.wrap .i64 ((2*i:Nat):Int)=((2*i:Nat):Int):=by rw[oO];omega
 refine u5 @z9 @aW @aK (cv (J:2*i<1000000000000)) (cv (J:2*i+1<1000000000000)) ?_;have tail:∀(I:ae) (a5 j:Nat) (y:e3),oN I ch b aS cap dp cs bz->Bz b U h I a5->eH j=i->0<j->j<n->dp[j]? = some y->(∀(c:Nat) (z:e3),0<c->c<n->eH c=i->dp[c]? = some z->y.k<=z.k) ->
   fh Q s (md Q I a5 [(j:X),(i:X)] "Less" (tJ ch)) λjv h21 Mo=>af (dv .not jv) λmw=>bu mw (af (bin Q .gtr 3 (a8 [tJ ch,.int .i64 0,(n:X),(i:X)] 3) (a8 [tJ ch,.int .i64 0,(n:X),(i:X)] 1)) λp0=>agd ch b n aS cap W cs bz h U p0 h21 Mo) (fh Q s (md Q h21 Mo [(i:X),(j:X)] "Swap" (tJ ch)) λo3 h25 T4 =>
    ∃bG,bG<n-i/\DnJ ch b n aS cap W cs bz h U bG [tJ ch,.int .i64 0,(n:X),(j:X)] h25 T4):=by
  intro I a5 j y da pR Tt BA hjn V SQ;have Mb:i<j:=by unfold eH at Tt;omega
  have f0:=pR.2;have B:mg I ao dp:=(ok.T λc a1=>pR.1 c J J).perm bg;rw[ys RE da.cell,yo];refine(OU  da.co J J rfl V aY (B.at V) (B.at aY)).mono ?_;rintro r Z bX ⟨rfl,eW,fg⟩;have dc:=G3 da eW J J;have mS:Bz b U h Z bX:=⟨λc I Z=>(eW c J).trans (pR.1 c I Z),J⟩
  simp(disch:=omega)only[bl,ys RF dc.cell,seval];refine⟨λeM=>?_,λA=>?_⟩
  ·refine⟨dp,dc,P.done λc fU qU a1 A7 sE A0 Tq=>?_,bg,g,mS⟩
   grind
  ·refine(OV dc.co rfl aY V (B.at aY).cell (B.at V).cell).mono ?_;rintro r aM _ ⟨rfl,pX,D,rfl⟩;refine⟨n-j,J,_,j,rfl,J,rfl,Sf dc pX (Ab _ _ _ _ _) ab,P.step BA hjn Tt aY V A SQ,(JX aY V).trans bg,?_,λc bc b3=>(D c b3).trans (mS.1 c bc b3),J⟩;rw[Gi aY V J,if_neg J,if_neg J];omega
 have aBD:∀c,0<c->eH c=i->c=2*i+1\/c=2*i+2:=λc a1 h=>(amQ a1).1 h;refine⟨λeM=>?_,λA=>?_⟩
 ·unfold J1;refine aD ?_;exact⟨dp,ba,P.done ab,bg,g,bE,dO⟩
 ·rw[hD (J:¬((2*i+1:Nat):Int)<0)];unfold J1;refine bh (cv (J:2*i+1<1000000000000)) ?_;obtain⟨cB,E⟩:=dR (l:=dp) (i:=2*i+1) J;refine⟨λZ=>?_,λZ=>?_⟩
  ·obtain⟨cE,M⟩:=dR (l:=dp) (i:=2*i+1+1) J;rw[ys RE ba.cell,yo];refine(OU  ba.co J J rfl M E (ok'.at M) (ok'.at E)).mono ?_;rintro r aM bW ⟨rfl,e1,gJ⟩;have ja:=G3 ba e1 J J;have D:Bz b U h aM bW:=⟨λc I Z=>(e1 c J).trans ab,J⟩
   unfold J0;rw[Dt];refine⟨λbc=>tail aM bW _ cE ja D (by unfold eH;omega) J Z M ab,λbc=>tail aM bW _ cB ja D (by unfold eH;omega) J A E ab⟩
   all_goals grind
  ·unfold J0;rw[Dt];refine⟨λbc=>absurd bc (by simp),λ_=>tail ac Y _ cB ba ⟨bE,dO⟩ (by unfold eH;omega) J A E λc z a1 A7 sE cL=>?_⟩
   grind
theorem alE{y:X}:F9 Tryz.prog 417 true (.iface 417 y) = .ok (.tuple ⟨[y,.bool true]⟩):=by show(bif zQ Tryz.prog 417&&Nat.beq 417 417 then R.ok (oF true y true)else .no "typeAssert")=_;rw[asX];rfl
def vg(h:ae)(ch:Nat)(bz:aa X)(W:aa e3)(du:aw Nat):Prop:=(du=none/\W=[]/\u h ch=some (.cells (.slice none 0 0::bz) false))\/∃b aS cap cs,du=some b/\oN h ch b aS cap W cs bz
def Sg(ch:Nat)(bz:aa X)(du:aw Nat)(U:Nat)(h:ae)(p:aa e3->Prop):bR:=λr ac Y=>∃dp rS,vg ac ch bz dp rS/\p dp/\(rS=du\/∃ce,rS=some ce/\U<=ce/\ce<Y)/\U<=Y/\∀c,c<U->c≠ch->du≠some c->u ac c=u h c
theorem age{h:ae}{ch:Nat}{v g:X}{bz:aa X}(A:gZ g=true):j4 (some (.cells (v::bz) false)) h ch 0 [g] = .ok (F h ch (.cells (g::bz) false)):=by rw[K3 (by rw[q9,A];rfl) ab];rfl
theorem alF{s:al}{h:ae}{U ch:Nat}{x:e3}{bz:aa X}(w:vg h ch bz W du)(aO:∀b,du=some b->b<U)(t8:ch<U)(bA:W.length<1000)(I:gZ x.v=true)(B:dj x.v=[x.v]):
  aH Q s 525 [bf ch,.iface 417 (.agg ⟨[x.v,(x.w:X)]⟩)] h U (Sg ch bz du U h λdp=>dp=W++[x]):=by
 refine ao5 ?_;unfold acz;rw[alE];rcases w with⟨rfl,rfl,a1⟩|⟨b,aS,cap,cs,rfl,w⟩
 ·have g:u (F (F h U (.cells [.slice none 0 0,.int .i64 0] false)) U (.cells [x.v,(x.w:X)] false)) ch=some (.cells (.slice none 0 0::bz) false):=ab
  refine hx @g @I @B ?_;refine lJ  (enc:=λ_=>hr x)  (ao:=U+1+1) (l:=[]) ab (λ_=>by rw[q9,I];rfl) J (.inl ab) J () (aT _ _ _) rfl J λdF b3 M gf=>?_;rcases M with⟨aE,rfl⟩|⟨b,hR,fm,rfl,a9⟩
  ·simp at aE
  ·have Z:u b3 ch=some (.cells (.slice none 0 0::bz) false):=ab
   rw[Z];show _/\_/\af (j4 (some (.cells (.slice none 0 0::bz) false)) b3 ch 0 [.slice (some ⟨b,0,some 2⟩) 1 1]) _;rw[age rfl];refine⟨J,rfl,[x],some b,.inr ⟨b,some 2,1,[],rfl,⟨ab,?_,rfl,ab,J⟩⟩,rfl,ab,J,λc h1 ap _=>?_⟩
   ·rw[ar J,a9];rfl
   grind
 ·have eS:=w.ne;have vv:=aO b rfl;have g:u (F (F h U (.cells [.slice none 0 0,.int .i64 0] false)) U (.cells [x.v,(x.w:X)] false)) ch=some (.cells (.slice (some ⟨b,0,aS⟩) W.length cap::bz) false):=by rw[ar J,ar J];exact w.cell
  refine hx @g @I @B ?_;obtain⟨E,D,A,P,ac,Y,aW,aK,cf,dT,h5,h2,gy,zw⟩:=aqG (h:=F (F (F h U (.cells [.slice none 0 0,.int .i64 0] false)) U (.cells [x.v,(x.w:X)] false)) (U+1) (.cells [x.v,(x.w:X)] false)) (U:=U+1+1) (b:=b)        (dP:=0)  (by rw[ar J,ar J,ar J];exact w.co) rfl w.len w.HL J x I (aT _ _ _) rfl J;rw[aW];have V:u ac ch=some (.cells (.slice (some ⟨b,0,aS⟩) W.length cap::bz) false):=ab
  have gK:E≠ch:=J
  show U+1+1<=Y/\_/\af (j4 (u ac ch) ac ch 0 [.slice (some ⟨E,0,D⟩) (W.length+1) A]) _;rw[V,age rfl];refine⟨h2,rfl,_,some E,.inr ⟨E,D,A,P,rfl,⟨?_,?_,cf,dT,gK⟩⟩,rfl,?_,J,ab⟩
  all_goals grind
theorem ao8{s:al}{h:ae}{U ch n:Nat}{bz:aa X}(w:oN h ch b aS cap W cs bz)(aO:b<U)(t8:ch<U)(Z:W.length=n+1)(bA:W.length<100000){ao:Nat}(ok:mg h ao W):
  aH Q s 524 [bf ch] h U (λr ac Y=>∃P,oN ac ch b aS cap (W.take n) P bz/\Y=U+1/\∀c,c<U->c≠ch->u ac c=u h c):=by
 refine asW ?_;unfold aeQ;have D:=w.ne;have e:IntKind.wrap .i64 ((W.length:Int)-1)=(n:Int):=by rw[oO];omega
 obtain⟨x,E⟩:=dR (l:=W) (i:=n) J;have vq:=w.len;have M:=(ok.at E).cell;have I:dj x.v=[x.v]:=by obtain⟨_,_,_,_,_,_,_,V,_⟩:=ok.at E;rw[V];rfl
 have g:u (F (F h U (.cells [.slice none 0 0,.int .i64 0] false)) U (.cells [x.v,(x.w:X)] false)) ch=some (.cells (.slice (some ⟨b,0,aS⟩) W.length cap::bz) false):=by rw[ar J,ar J];exact w.cell
 have B:=aqH (b:=b) (aS:=aS) (n:=n) (cap:=cap) J;rw[Z]at g e;have A:=w.cell;rw[Z]at A;simp(disch:=omega)only[bl,A,e,w.co,KK E,M,I,g,B,seval];have jB:W=W.take n++[x]:=by
  have V:W.take (n+1)=W.take n++[x]:=by rw[ho,E];rfl
  grind
 refine⟨J,hr x++cs,⟨ab,?_,?_,w.HL,D⟩,ab⟩
 ·rw[ar D,ar J,ar J,w.co]
  conv=>lhs;rw[jB]
  rw[se,kA]
 grind
theorem ao9{s:al}{h:ae}{U ch ao:Nat}{x:e3}{bz:aa X}(w:vg h ch bz W du)(aO:∀b,du=some b->ao<=b/\b<U)(t8:ch<U)(rC:ao<=ch)(tT:ao<=U)(bA:W.length<1000)(fK:nY W)(ok:mg h ao (W++[x])):
  aH Q s 171 [tJ ch,.iface 417 (.agg ⟨[x.v,(x.w:X)]⟩)] h U (Sg ch bz du U h λdp=>nY dp/\dp.Perm (W++[x])):=by
 refine aq7 ?_;unfold adO;have B:=ok x ab;have hxc:dj x.v=[x.v]:=by obtain⟨_,_,_,_,_,_,_,M,_⟩:=B;rw[M];rfl
 rw[agb avv,yo];refine(alF w ab t8 bA B.cell hxc).mono ?_;rintro r M a5 ⟨dp,rS,P,rfl,aW,aK,cf⟩;rcases P with⟨_,au,_⟩|⟨A,Ed,E,Z,rfl,P⟩
 ·simp at au
 have I:ao<=A/\A<a5:=ab
 rw[ys aga P.cell,yo];refine QG.mono ?_;rintro r _ _ ⟨rfl,gi,eN⟩;rw[gi,eN];have g:(W++[x]).length=W.length+1:=by simp
 rw[g];have e:IntKind.wrap .i64 (((W.length+1:Nat):Int)-1)=(W.length:Int):=by rw[oO];omega
 refine bh @e ?_;have V:mg M ao (W++[x]):=ok.T ab;refine(avw P (vd.push  fK) J J V J I.1 rC I.2 J).mono ?_;rintro r ap bX ⟨rfl,dp,dc,mY,DV,D⟩;have fg:=D.2;refine⟨dp,some A,.inr ⟨A,Ed,E,Z,rfl,dc⟩,⟨mY,DV⟩,?_,J,λc M ap aM=>?_⟩
 ·grind
 ·have hcb:c≠A:=ab
  exact(D.1 c J hcb).trans ab
theorem asY{s:al}{h:ae}{U ch ao:Nat}{p:e3}{bz:aa X}(w:oN h ch b aS cap W cs bz)(aO:b<U)(Uw:ao<=b)(t8:ch<U)(rC:ao<=ch)(tT:ao<=U)(bA:W.length<1000)(fK:nY W)(ok:mg h ao W)(iN:W[0]? = some p):
  aH Q s 170 [tJ ch] h U (λr ac Y=>∃tP dp,oN ac ch b aS cap dp tP bz/\nY dp/\(p::dp).Perm W/\U<=Y/\∀c,c<U->c≠b->c≠ch->u ac c=u h c):=by
 refine auC ?_;unfold afx;have eS:=w.ne;obtain⟨n,bv⟩:∃n,W.length=n+1:=⟨W.length-1,ab⟩
 obtain⟨q,E⟩:=dR (l:=W) (i:=n) J;have g:=w.cell;rw[ys aga g,yo];refine QG.mono ?_;rintro r eZ iw ⟨rfl,aW,aK⟩;rw[aW,aK];have e:IntKind.wrap .i64 ((W.length:Int)-1)=(n:Int):=by rw[oO];omega
 simp(disch:=omega)only[bl,e,ys RF g,seval];have sD:aH Q s 526 [.slice (some ⟨b,0,aS⟩) W.length cap,((0:Nat):X),(n:X)] h U _:=OV  w.co rfl iN E (ok.at iN).cell (ok.at E).cell;refine sD.mono ?_;rintro r V _ ⟨rfl,hR,pR,rfl⟩;have da:=Sf w hR (Ab _ _ _ _ _) ab;have I:mg V ao (sI W 0 n p q):=(ok.T ab).perm (JX iN E);refine(ao7 da (uZ.pop fK bv iN E) (by rw[Ab];omega) (by rw[Ab];omega) I tT Uw rC aO t8).mono ?_;rintro r Z bX ⟨A,dc,mY,D,tQ,B⟩;have fg:=B.2;rw[agb axZ,yo];have M:=D.length_eq;rw[Ab]at M;have ok2:mg Z ao A:=(I.T λc a1=>B.1 c J J).perm D;refine(ao8 (n:=n) dc J J J J ok2).mono ?_;rintro r aM _ ⟨Bv,ja,rfl,pS⟩;refine⟨Bv,A.take n,ja,mY,?_,J,λc V Z aM=>by rw[pS c J aM,B.1 c V Z,pR c Z]⟩
 by_cases mo:n=0
 ·subst mo;rw[tf];have:W=[p]:=by
   match W,bv,iN with
   | [a],_,h=>grind
  rw[this]
 have aY:A[n]? = some p:=by rw[tQ,Gi iN E J,if_pos rfl]
 have jB:A=A.take n++[p]:=by
  have V:A.take (n+1)=A.take n++[p]:=by rw[ho,aY];rfl
  grind
 have P:(p::A.take n).Perm (A.take n++[p]):=(List.perm_append_comm  (l₂:=[p])).symm;rw[<-jB]at P;exact(P.trans D).trans (JX iN E)
def my{az:Type}(h:ae)(U:Nat)(v:X)(enc:az->aa X)(k:Nat)(l:aa az):Prop :=
 ∃a c,v = .slice a l.length c/\(l≠[]->∃b o aS ro cs,b<U/\a=some ⟨b,o,aS⟩/\aS≠some 0/\l.length<=c/\u h b=some (.cells cs ro)/\o+l.length*k<=cs.length/\(cs.drop o).take (l.length*k)=bd enc l)
section
variable {az:Type} {h ac:ae} {U Y k:Nat} {v:X} {enc:az->aa X} {l:aa az}
theorem my.o(H:my h U v enc k l):el h U v enc k l:=by obtain⟨a,c,e,H⟩:=H;exact⟨a,c,e,λg=>ab⟩
theorem my.T(H:my h U v enc k l)(B:∀c,c<U->u ac c=u h c)(g:U<=Y):my ac Y v enc k l:=by obtain⟨a,c,e,H⟩:=H;exact⟨a,c,e,λA=>ab⟩
theorem d1.c{ao aj:Nat}(D:0<k)(g:∀x,(enc x).length=k)(H:d1 h v enc k l ao aj):my h aj v enc k l:=by
 rcases H with⟨rfl,rfl⟩|⟨b,E,B,rfl,A⟩
 ·exact⟨_,_,rfl,λh=>absurd rfl h⟩
 ·exact⟨_,_,rfl,λ_=>⟨b,0,some k,false,_,B,rfl,ab,J,A,by rw[gc g];omega,by rw[pk,q3 (by rw[gc g];omega)]⟩⟩
theorem my.tail{x:az}(hk:∀x,(enc x).length=k)(H:my h U v enc k (x::l)):∃w,gS k v (some (.int .i64 1)) none none = .ok w/\my h U w enc k l:=by
 obtain⟨a,c,rfl,H⟩:=H;obtain⟨b,o,aS,ro,cs,Z,rfl,D,V,I,P,A⟩:=H (by simp);have g:(x::l).length=l.length+1:=rfl;rw[g]at V P A;show ∃w,gS k (.slice (some ⟨b,o,aS⟩) (l.length+1) c) (some (.int .i64 1)) none none = .ok w/\_;have e:gS k (.slice (some ⟨b,o,aS⟩) (l.length+1) c) (some (.int .i64 1)) none none=nV k (some ⟨b,o,aS⟩) c false c (l.length+1) 1:=rfl;rw[e];clear e;unfold nV;rw[show(Nat.ble c c&&(Nat.ble (l.length+1) c&&Nat.ble 1 (l.length+1)))=true by simp;omega];unfold uX
 by_cases e:c=1
 ·have E:l=[]:=by
   cases l with
   |nil=>rfl
   |cons y l=>grind
  subst E;subst e;unfold kU z6 wX LP;cases aS with
  |none=>exact⟨.slice (F6 (some ⟨b,o,none⟩) 0 false) 0 0,by simp,_,_,rfl,λh=>absurd rfl h⟩
  |some q =>
   cases q with
   |zero=>exact absurd rfl D
   |succ q=>exact⟨.slice (some ⟨b,o,some 0⟩) 0 0,by simp,_,_,rfl,λh=>absurd rfl h⟩
 ·have B:Nat.beq c 1=false:=by
   cases B:Nat.beq c 1 with
   |true=>exact absurd (gm B) e
   |false=>rfl
  rw[B];refine⟨_,rfl,some ⟨b,o+1*k,aS⟩,c-1,rfl,λeS=>⟨b,_,aS,ro,cs,Z,rfl,D,J,I,?_,?_⟩⟩
  ·grind
  ·rw[zM,uD]at A;have M:(cs.drop o).take (l.length*k+k)=enc x++bd enc l:=A;have kP:((cs.drop o).drop k).take (l.length*k)=bd enc l:=by
    have:=congrArg (λz=>z.drop k) M
    grind
   rw[uD,<-xR];omega
end
theorem alG{s:al}{l:aa (Nat × Int)}{v:X}{h:ae}{U:Nat}(V:el h U v eK 3 l)(bA:l.length<1000000)(ej:l.Pairwise λx y=>x.1<y.1):aH Q s 327 [v] h U (fr (.bool true) U h):=by
 refine anl ?_;unfold abB;obtain⟨Z,cap,rfl,a1⟩:=id V;refine aD ?_;refine bC.mk (λm aF ac Y=>∃i,m=l.length-i/\i<=l.length/\aF=[.slice Z l.length cap,.bool false,(l.length:X),(i:X)]/\ac=h/\Y=U) l.length ⟨0,J,J,rfl,rfl,rfl⟩ ?_;rintro _ _ ap bX ⟨i,rfl,aj,rfl,gi,eN⟩;rw[akF,gi,eN];unfold X9;refine aD ?_;refine⟨λct=>?_,λeM=>⟨rfl,rfl,rfl⟩⟩;obtain⟨b,o,aS,ro,cs,P,aO,aW,a9,g⟩:=V.all (λ_=>rfl) ab;cases aW;have fin:∃M,M<l.length-i/\∃A,M=l.length-A/\A<=l.length/\[Value.slice (some ⟨b,o,aS⟩) l.length cap,.bool false,(l.length:X),.int .i64 (IntKind.wrap .i64 ((i:Int)+1))]=[.slice (some ⟨b,o,aS⟩) l.length cap,.bool false,(l.length:X),(A:X)]:=⟨_,J,i+1,rfl,J,by rw[cv J]⟩
 refine⟨λbg=>?_,λ_=>fin⟩;obtain⟨j,rfl⟩:∃j,i=j+1:=⟨i-1,J⟩
 obtain⟨p,E⟩:=dR (l:=l) (i:=j) J;obtain⟨q,D⟩:=dR   J;have I:=(g j p E).2 0 _ J rfl;have c2:=(g (j+1) q D).2 0 _ J rfl;rw[nS]at I c2;have B:p.1<q.1:=by
  rw[xK]at ej
  grind
 have cu:IntKind.wrap .i64 (((j+1:Nat):Int)-1)=(j:Int):=by rw[oO];omega
 refine lh @cu @a9 @I @c2 ?_;exact⟨λh=>absurd B h,λ_=>fin⟩
def LD(v:X)(w:Nat)(l:aa (Nat × Int)):e3:=⟨v,w,(((l.getD 0 (0,0)).1:Nat):Int)*1000+(w:Int),l.length-1,l⟩
def zc(h:ae)(ao:Nat)(x:e3):Prop:=my h ao x.v eK 3 x.l/\x.l≠[]/\x.w<1000/\x=LD x.v x.w x.l/\x.l.Pairwise λa b=>a.1<b.1
theorem zc.T{h ac:ae}{ao:Nat}{x:e3}(H:zc h ao x)(g:∀c,c<ao->u ac c=u h c):zc ac ao x:=⟨H.1.T g J,H.2⟩
theorem zc.ok{h:ae}{ao:Nat}{x:e3}(H:zc h ao x):vf h ao x:=by
 obtain⟨I,A,D,e,_⟩:=H;obtain⟨b,o,aS,ro,cs,cap,M,P,B,g⟩:=I.o.all (λ_=>rfl) A;cases E:x.l with
 |nil=>exact absurd E A
 |cons p l =>
  have Z:=(g 0 p ab).2 0 _ J rfl;have V:x.n=l.length:=by rw[e];show x.l.length-1=_;grind
  have cu:x.k=(p.1:Int)*1000+(x.w:Int):=by rw[e];show(((x.l.getD 0 (0,0)).1:Nat):Int)*1000+(x.w:Int)=_;grind
  refine⟨b,o,aS,ro,cs,cap,p.1,?_,M,B,?_,cu,D⟩
  all_goals grind
def pL(h:ae)(ao:Nat)(W:aa e3):Prop:=∀x∈W,zc h ao x
theorem pL.ok{h:ae}{ao:Nat}{W:aa e3}(H:pL h ao W):mg h ao W:=λx g=>(H x g).ok
theorem pL.T{h ac:ae}{ao:Nat}{W:aa e3}(H:pL h ao W)(g:∀c,c<ao->u ac c=u h c):pL ac ao W:=λx A=>(H x A).T g
theorem pL.perm{h:ae}{ao:Nat}(H:pL h ao W)(p:dp.Perm W):pL h ao dp:=λx g=>H x ab
def left(W:aa e3):aa (Nat × Int):=W.flatMap (·.l)
theorem Yw(h:dp.Perm W):(left dp).Perm (left W):=h.flatMap_right _
theorem apa:nY ([]:aa e3):=⟨ab⟩
def mZ(h:ae)(v:X)(l:aa (Nat × Int))(aQ:aw Nat):Prop:=(l=[]/\v = .slice none 0 0/\aQ=none)\/∃b,aQ=some b/\v = .slice (some ⟨b,0,some 3⟩) l.length l.length/\u h b=some (.cells (bd eK l) false)
theorem mZ.T{h ac:ae}{v:X}{l:aa (Nat × Int)}{g:aw Nat}(H:mZ h v l g)(E:∀b,g=some b->u ac b=u h b):mZ ac v l g:=by
 rcases H with H|⟨b,B,A,D⟩
 ·exact .inl H
 ·exact .inr ⟨b,B,A,ab⟩
theorem acB{s:al}{h:ae}{U ch ao w:Nat}{v:X}{l:aa (Nat × Int)}{bz:aa X}(H:vg h ch bz W du)(aO:∀b,du=some b->ao<=b/\b<U)(M:ch<U)(P:ao<=ch)(V:ao<=U)(bA:W.length<1000)(fK:nY W)(ey:pL h ao W)(aG:my h ao v eK 3 l)(b0:w<1000)(ej:l.Pairwise λa b=>a.1<b.1):
  aH Q s 328 [bf ch,v,(w:X)] h U (Sg ch bz du U h λdp=>nY dp/\(left dp).Perm (left W++l)/\dp.length<=W.length+1/\(∀ac,(∀c,c<ao->u ac c=u h c)->pL ac ao dp)):=by
 refine auH ?_;unfold afz;obtain⟨a,c,rfl,MH⟩:=id aG;refine aD ?_;refine⟨λvt=>?_,λdO=>?_⟩
 ·have E:l≠[]:=ab
  have aY:zc h ao (LD (.slice a l.length c) w l):=⟨aG,E,b0,rfl,ej⟩
  have g:pL h ao (W++[LD (.slice a l.length c) w l]):=λx A0=>by
   rcases hp.1 A0 with A|A
   ·exact ey x A
   ·rw[iU.1 A];exact aY
  refine(ao9  H aO M P V bA fK g.ok).mono ?_;rintro r A a5 ⟨dp,I,ba,⟨D,Z⟩,aW,aK,cf⟩;refine⟨dp,I,ba,⟨D,?_,?_,λac B=>(g.T B).perm Z⟩,aW,aK,cf⟩
  ·have:=Yw Z;unfold left at this ⊢;rw[Jb]at this;simpa[LD]using this
  ·rw[Z.length_eq];simp
 ·have:l=[]:=by
   cases l with
   |nil=>rfl
   |cons p l=>grind
  subst this;refine⟨W,du,H,⟨fK,by simp,J,λac B=>ey.T B⟩,ab,J,ab⟩
def Hl(h:ae)(U ao ch:Nat)(r:Int)(W:aa e3)(O:aa (Nat × Int))(du:aw Nat):Prop:=∃out aQ,vg h ch [(r:X),out] W du/\nY W/\pL h ao W/\mZ h out O aQ/\(∀b,du=some b->ao<=b/\b<U)/\(∀b,aQ=some b->ao<=b/\b<U/\b≠ch/\du≠some b)
end Go.Proofs.YthlhhajnbgjfmaaGreat
