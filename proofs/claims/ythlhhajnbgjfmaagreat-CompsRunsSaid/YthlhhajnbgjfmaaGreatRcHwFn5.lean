/- Parts of the proof: HwFn5: each statement bears its own conditions. -/
import Derived.Test.YthlhhajnbgjfmaaGreatRcHwFn4
namespace Go.Proofs.YthlhhajnbgjfmaaGreat
open Go Go.Ax Go.Ax.HdH
set_option linter.all false
set_option maxHeartbeats 1000000
set_option maxRecDepth 1000000
variable {ag:aa GE} {cs:aa X} {W:aa e2} {aO:aw Nat} {a b cap j m r cR:Nat} {w:X} {p:Nat × Int} {cp:Nat} {dk:aa e2} {dq:aw Nat} {K:X->ae->Nat->Prop} {L:aa (Nat × Int)} {bJ:al} {R C ff:Nat} {S:ae->Nat->Prop} {q:Nat->al} {ef:X} {dK:Nat} {N:aR} {a2 bu ba aY:X} {aM:aR} {G:Nat} {y:e2}
def ry(a:Nat)(p:Nat × Int):Nat × Int:=(a+p.1,p.2)
theorem xy(a:Nat)(f:Nat->aw Int):∀b,bj (a+b) f=bj a f++(bj b λk=>f (a+k)).map (ry a)
 |0=>by simp[avQ]
 |b+1=>by
  rw[show a+(b+1)=(a+b)+1 from rfl,tc,xy a f b,tc,iF,kv];cases h:f (a+b) <;> simp[ry]
theorem JO{n k:Nat}{f:Nat->aw Int}{x:Int}(D:a<=n)(h:(bj n f)[j]? = some (k,x)):k<a↔j<(bj a f).length:=by
 obtain⟨b,rfl⟩:∃b,n=a+b:=⟨n-a,J⟩
 rw[xy]at h;constructor
 ·intro E;rcases jn j (bj a f).length with g|g
  ·omega
  ·rw[Ei g,rT,lZ]at h;obtain⟨p,_,A⟩:=h;unfold ry at A
   grind
 ·intro B;rw[xf B]at h;exact(vS h).1
theorem PH{s:al}{a b:Int}{h:ae}{U:Nat}:aH Q s 242 [(a:X),(b:X)] h U (fo (.int .i64 (fO a b)) U h):=by
 have g:∀{n:Int} {K:bP},K (.bool false) h U->aH Q s 345 [(n:X)] h U K:=λ{n K} hk=>by refine adx ?_;unfold Ri;simp(disch:=omega)only[bn,qR,seval];exact hk
 refine atO ?_;unfold aeK fO;refine g (g ?_);refine aF ?_;refine⟨λA=>?_,λA=>⟨λB=>?_,λB=>?_⟩⟩
 ·rw[if_pos A];exact⟨rfl,rfl,rfl⟩
 ·rw[if_neg J,if_pos J];exact⟨rfl,rfl,rfl⟩
 ·rw[if_neg J,if_neg J];exact⟨rfl,rfl,rfl⟩
theorem Xz{s:al}{x:Nat × Int}{a:Int}{h:ae}{U:Nat}:aH Q s 486 [.agg ⟨fD x⟩,(a:X)] h U (dC (.int .i64 (fO (x.1:Int) a)) U h):=by refine anQ ?_;unfold abA fD;refine aF ?_;refine PH.mono ?_;rintro _ _ _ ⟨rfl,rfl,rfl⟩;exact⟨rfl,aK,J⟩
def BsJ(l:aa (Nat × Int))(v dp j4:X)(a:Nat)(au:ae)(a0:Nat)(m:Nat)(aE:aa X)(ac:ae)(Y:Nat):Prop :=
 ∃ao aj:Nat,m=aj-ao/\ao<=aj/\aj<=l.length/\aE=[v,dp,j4,(l.length:X),(ao:X),(aj:X)]/\(∀j k x,l[j]? = some (k,x)->j<ao->k<a)/\(∀j k x,l[j]? = some (k,x)->aj<=j->a<=k)/\aA a0 au ac/\a0<=Y
theorem OD{s:al}{n:Nat}{v:X}{x:Nat->aw Int}{h:ae}{U:Nat}(aJ:jQ h U v n x)(bH:n<=4096)(cY:a<=n):
  aH Q s 458 [v,(a:X)] h U (λr ac Y=>∃b,r = .tuple ⟨[.int .i64 ((bj a x).length:Int),.bool b]⟩/\(a<n->b=(x a).isSome)/\aA U h ac/\U<=Y):=by
 refine arJ ?_;obtain⟨gK,rfl,ap⟩:=aJ;obtain⟨a8,cap,rfl,aZ⟩:=id ap;unfold adO;refine aF ?_;have fW:=l3 n x;have bZ:∀{o},aA U h (T h U o):=aK
 refine(agK (K:=λr ac Y=>∃b,r = .tuple ⟨[.int .i64 ((bj a x).length:Int),.bool b]⟩/\(a<n->b=(x a).isSome)/\aA U h ac/\U<=Y) ?_).mono ?_
 ·unfold Vk;refine aF ?_;refine bD.mk (BsJ (bj n x) (.slice a8 (bj n x).length cap) (a:X) (.func (.func 486) ⟨[]⟩ ⟨[]⟩) a h U) (bj n x).length ⟨0,(bj n x).length,rfl,J,J,rfl,J,ab,bZ,J⟩ ?_;rintro _ _ h1 bh ⟨ao,aj,rfl,V,LL,rfl,E,fm,hk,qC⟩;have rz:=ap.F hk qC;rw[agJ];unfold Vj;refine aF ?_;refine⟨λcA=>?_,λeN=>?_⟩
  ·have fe:IntKind.wrap .i64 ((ao:Int)+(aj:Int))=((ao+aj:Nat):Int):=by rw[<-vy];exact iT _ J
   have Hp:IntKind.wrap .u64 ((ao+aj:Nat):Int)=((ao+aj:Nat):Int):=Cs J;have ew3:IntKind.wrap .i64 (((ao+aj) / 2:Nat):Int)=(((ao+aj) / 2:Nat):Int):=iT _ J;obtain⟨⟨k,y⟩,g⟩:=d1 (l:=bj n x) (i:=(ao+aj) / 2) J;obtain⟨b,o,aO,bJ,cs,P,aT,aV,a6,D⟩:=rz.ld (λ_=>rfl) g;cases aV;refine zT @fe @Hp @N9 @ew3 @a6 @D ?_;refine Xz.mono ?_;rintro _ ar bX ⟨rfl,Z,eZ⟩;have e8:=hk.trans Z J;unfold fO
   by_cases hka:k<a
   ·rw[if_pos J];refine bg (cG (J:(ao+aj) / 2<1000000000000)) ?_;refine⟨?_,λh=>absurd trivial h⟩;refine⟨_,?_,(ao+aj) / 2+1,aj,rfl,J,LL,rfl,λj dm qF M hjl=>?_,fm,e8,J⟩
    ·omega
    ·by_cases I:j<(ao+aj) / 2
     ·have:=uD M g I;omega
     grind
   ·rw[if_neg J];refine aF ?_;refine⟨λaZ=>by exfalso;omega,λ_=>?_⟩;refine⟨_,?_,ao,(ao+aj) / 2,rfl,J,J,rfl,E,λj dm qF M hjl=>?_,e8,J⟩
    ·omega
    ·by_cases I:(ao+aj) / 2<j
     ·have:=uD g M I;omega
     grind
  ·have:aj=ao:=J
   subst this;have B:aj=(bj a x).length:=by
    rcases za aj (bj a x).length with aL|aL|aL
    ·obtain⟨⟨k,y⟩,g⟩:=d1 (l:=bj n x) (i:=aj) (by
      have:(bj a x).length<=(bj n x).length:=by
       obtain⟨b,rfl⟩:∃b,n=a+b:=⟨n-a,J⟩
       rw[xy,jm];omega
      omega)
     have bm:=fm aj k y g (cD _);have b3:=(JO cY g).2 aL;omega
    ·omega
    ·obtain⟨⟨k,y⟩,g⟩:=d1 (l:=bj n x) (i:=(bj a x).length) J;have bm:=E _ k y g aL;have b3:=(JO cY g).1 bm;omega
   rw[B]at E fm LL;rw[B];have here:∀k y,(bj n x)[(bj a x).length]? = some (k,y)->a<n->(x a).isSome=decide (k=a):=λk y g A=>by
    have bm:=fm _ k y g (cD _)
    by_cases e:k=a
    ·subst e;rw[(vS g).2];simp
    ·cases a1:x a with
     |none=>grind
     |some z =>
      exfalso;obtain⟨j,M⟩:=Ej.1 (jO.2 ⟨A,a1⟩);have b3:¬j<(bj a x).length:=ab
      by_cases cF:j=(bj a x).length
      ·grind
      ·have:=uD g M J;omega
   refine⟨λbb=>?_,λbb=>?_⟩
   ·obtain⟨⟨k,y⟩,g⟩:=d1   J;obtain⟨b,o,aO,bJ,cs,P,aT,aV,a6,D⟩:=rz.ld (λ_=>rfl) g;cases aV;refine cL @a6 @D ?_;refine Xz.mono ?_;rintro _ ar bX ⟨rfl,Z,eZ⟩;refine aF ?_;refine⟨_,rfl,λA=>?_,aK,J⟩;rw[here k y g A];unfold fO
    grind
   ·refine⟨false,rfl,λA=>?_,hk,qC⟩;cases a1:x a with
    |none=>rfl
    |some z =>
     exfalso;obtain⟨j,M⟩:=Ej.1 (jO.2 ⟨A,a1⟩)
     grind
 ·rintro _ ar bX ⟨b,rfl,aT,hk,V⟩;refine aF ?_;exact⟨b,rfl,aT,hk,V⟩
theorem arK{s:al}{n:Nat}{v:X}{x:Nat->aw Int}{h:ae}{U:Nat}(aJ:jQ h U v n x)(V:n<=4096)(cY:a<n):
  aH Q s 401 [v,(a:X)] h U (dC (.tuple ⟨[.int .i64 ((x a).getD 0),.bool (x a).isSome]⟩) U h):=by
 refine auq ?_;have B:=aJ;obtain⟨gK,rfl,ap⟩:=aJ;obtain⟨a8,cap,rfl,aZ⟩:=id ap;unfold afa;refine aF ?_;have bZ:∀{o},aA U h (T h U o):=aK
 refine(Jm (B.F bZ J) V).mono ?_;rintro _ h1 bh ⟨rfl,hk,dR⟩;have cv:=hk U J;rw[aS]at cv;refine bg @cv ?_;have cJ:∀{o},aA U h (T h1 U o):=aK
 refine(OD (B.F cJ J) V J).mono ?_;rintro _ ar bX ⟨b,rfl,D,A,eZ⟩;have D:=D cY;subst D;have g2:=A U J;rw[aS]at g2;have P:=cJ.trans A J;cases a1:x a with
 |none =>
  simp(disch:=omega)only[bn,BE,seval];exact⟨rfl,P,J⟩
 |some y =>
  obtain⟨j,E⟩:=Ej.1 (jO.2 ⟨cY,a1⟩);have b3:¬j<(bj a x).length:=λI=>by have:=(JO J E).2 I;omega
  have I:j=(bj a x).length:=by
   by_cases eE:(bj a x).length<j
   ·obtain⟨⟨k,z⟩,Z⟩:=d1 (l:=bj n x) (i:=(bj a x).length) ab;have rP:=uD Z E eE;have kI:=(JO J Z).1 rP;omega
   omega
  subst I;obtain⟨b,o,aO,bJ,cs,mC,D,aV,a6,g⟩:=(ap.F P (Y:=bX) J).ld (λ_=>rfl) E;cases aV;have cA:=(hY.1 E).1;have M:cs[o+(bj a x).length*2+1]? = some (y:X):=by
   rw[p6]at g
   split at g
   ·injection g with g
    injection g with g
    have kI:=congrArg (λl:Array X=>l.toList[1]?) g;simp[fD]at kI;omega
   grind
  simp(disch:=omega)only[bn,MP,g2,a6,M,seval];exact⟨rfl,P,J⟩
theorem tyI:mY Q 95=true:=by kernel_rfl
theorem BN{s:al}{h:ae}{U:Nat}{v:X}{l:aa (Nat × Int)}(B:ej h U v fD 2 l)(E:l.length<10000):
  aH Q s 217 [v] h U (λr ac Y=>iB ac U Y r fD 2 l/\aA U h ac/\U<=Y):=by refine akc ?_;exact abs (K:=λr ac Y=>iB ac U Y r fD 2 l/\aA U h ac/\U<=Y) B (λ_=>rfl) J J tyI λr ac Y D g A=>⟨D,g,A⟩
theorem Rj{az:Type}{enc:az->aa X}{k:Nat}(g:∀x,(enc x).length=k)(B:∀x,ea (enc x)=true){h:ae}{i:Nat}{l:aa az}{y:az}(aj:i<l.length):jY (some (.cells (bc enc l) false)) h b (i*k) (enc y) = .ok (T h b (.cells (bc enc (l.set i y)) false)):=by have A:=Oc g [] y l i aj;rw[hZ,hZ]at A;have E:=gg g l;have D:(i+1)*k<=l.length*k:=p2 k aj;rw[ze]at D;rw[Kh (B y) ab,g,A]
def ays(j4:X)(a:aw Addr)(cap cR Tp n:Nat)(l:aa (Nat × Int))(g:Nat × Int->Nat × Int)(U a0:Nat)(au:ae)(m:Nat)(aE:aa X)(ac:ae)(Y:Nat):Prop :=
 ∃i,m=l.length-i/\i<=l.length/\aE=[j4,bd cR,bd Tp,.slice a l.length cap,(l.length:X),(i:X)]/\u ac Tp=some (.cells [(n:X),.slice a l.length cap] false)/\u ac cR=some (.cells [.int .i64 0,.slice none 0 0] false) /\
  (l≠[]->∃b,U+1<b/\b<Tp/\a=some ⟨b,0,some 2⟩/\u ac b=some (.cells (bc fD ((l.take i).map g++l.drop i)) false))/\aA U au ac/\a0<=Y
theorem Zt{s:al}{n:Nat}{x:Nat->aw Int}{v:X}{g:Nat × Int->Nat × Int}{h:ae}{U:Nat}(aJ:jQ h U v n x)(bH:n<=4096)(bK:∀p h1 bh,p∈bj n x->aA U h h1->U<=bh->aH Q true dK (.agg ⟨fD p⟩::cs) h1 bh (dC (.agg ⟨fD (g p)⟩) bh h1)):
  aH Q s 445 [v,.func (.func dK) ⟨[]⟩ ⟨cs⟩] h U (λr ac Y=>∃w,r = .agg ⟨[(n:X),w]⟩/\eH ac U Y w fD ((bj n x).map g)/\aA U h ac/\U<=Y):=by
 refine arG ?_;have hp:=aJ;obtain⟨gK,rfl,ap⟩:=aJ;obtain⟨a8,cap,rfl,aZ⟩:=id ap;have fW:=l3 n x;have bZ:∀{o aX},aA U h (T (T h U o) (U+1) aX):=aK
 unfold adL;refine aF ?_;refine(Jm (hp.F bZ J) bH).mono ?_;rintro _ h1 bh ⟨rfl,d9,fy⟩;have cv:=d9 U J;rw[aq J,aS]at cv;have dL:=d9 (U+1) J;rw[aS]at dL;refine bg @cv ?_;have cJ:∀{o},aA U h (T h1 U o):=aK
 refine(BN (ap.F cJ  J) J).mono ?_;rintro _ ar M ⟨g1,V,Z⟩;obtain⟨a,c2,rfl⟩:=g1.form;have Lt:=V U J;rw[aS]at Lt;have Hc:=V (U+1) J;rw[aq J,dL]at Hc;refine⟨Z,?_⟩;refine bg @Lt ?_;generalize bj n x=l at *
 have eA:∀{o aX},aA U h (T (T ar M o) M aX):=aK
 refine bD.mk (ays (.func (.func dK) ⟨[]⟩ ⟨cs⟩) a c2 (U+1) M n l g U (M+1) h) l.length ⟨0,J,J,rfl,ab,ab,λe0=>?_,eA,J⟩ ?_
 ·rcases g1 with⟨e,_⟩|⟨b,dE,b4,dZ,f8⟩
  ·grind
  ·cases dZ;exact⟨b,J,J,rfl,by rw[aq J,aq J];grind⟩
 rintro _ _ aL bS ⟨i,rfl,aj,rfl,D,I,aT,e8,gA⟩;rw[anK];unfold Zo;refine aF ?_;refine⟨λcA=>?_,λeN=>?_⟩
 ·obtain⟨y,ce⟩:=d1   J;obtain⟨b,dE,b4,rfl,E⟩:=aT ab;have hyy:((l.take i).map g++l.drop i)[i]? = some y:=ab
  have kl:h0 (some 2) (i*2) (bc fD ((l.take i).map g++l.drop i)) = .ok (.agg ⟨fD y⟩):=DE  (k:=2) (λ_=>rfl) hyy;refine cL @E @kl ?_;rw[show fD y=[(y.1:X),(y.2:X)]from rfl];refine aF ?_;have gR:∀{o aX},aA U h (T (T aL bS o) bS aX):=aK
  refine(bK y _ _ ab gR J).mono ?_;rintro _ bm dH ⟨rfl,A,P⟩;have B:=A M J;rw[aq J,aq J,D]at B;have ayt:=A (U+1) J;rw[aq J,aq J,I]at ayt;have gb':=A b J;rw[aq J,aq J,E]at gb';refine⟨P,?_⟩;have tw:((l.take i).map g++l.drop i).length=l.length:=ab
  simp(disch:=omega)only[bn,B,D,gb',Rj (enc:=fD) (k:=2) (λ_=>rfl) (λ_=>rfl) (J:i<((l.take i).map g++l.drop i).length),cG (J:i<1000000000000),seval];refine⟨rfl,l.length-(i+1),J,i+1,rfl,J,rfl,ab,ab,λ_=>⟨b,dE,b4,rfl,?_⟩,(gR.trans A J).set J,J⟩;rw[aS];have e:((l.take i).map g++l.drop i).set i (g y)=(l.take (i+1)).map g++l.drop (i+1):=by
   have bp:l.drop i=y::l.drop (i+1):=by
    rw[Bw (by omega:i<l.length)]
    grind
   rw[bp,Ik _ _ ab,gH,p3,BG J,BK,hx,ce];simp
  rw[e]
 ·have:i=l.length:=J
  subst this;refine cL @D @I ?_;refine⟨_,rfl,⟨a,c2,ab,λe0=>?_⟩,e8.set J,J⟩;obtain⟨b,dE,b4,rfl,E⟩:=aT (λe=>e0 ab)
  grind
def py(h:ae)(ao aj:Nat)(v:X)(n:Nat)(x:Nat->aw Int):Prop:=∃gK,v = .agg ⟨[(n:X),gK]⟩/\iB h ao aj gK fD 2 (bj n x)
section
variable {h ac:ae} {U Y ao aj d6 dy n:Nat} {v:X} {x:Nat->aw Int}
theorem py.gr(H:py h ao aj v n x):k9 h ao aj v n x:=by obtain⟨A,e,g⟩:=H;exact⟨A,e,g.gr⟩
theorem py.is(H:py h ao aj v n x):jQ h aj v n x:=H.gr.is
theorem py.F(H:py h ao aj v n x)(B:∀b,ao<=b->b<aj->u ac b=u h b)(E:d6<=ao)(g:aj<=dy):py ac d6 dy v n x:=by obtain⟨A,e,D⟩:=H;exact⟨A,e,D.F B E g⟩
end
theorem iB.cut{az:Type}{h:ae}{ao aj k:Nat}{v:X}{enc:az->aa X}{l:aa az}(P:∀x,(enc x).length=k)(Lh:0<k)(H:iB h ao aj v enc k l){i:Nat}(h1:i<=j)(E:j<=l.length):
  ∃w,gW k v (some (i:X)) (some (j:X)) none = .ok w/\ej h aj w enc k ((l.drop i).take (j-i)):=by
 have g:((l.drop i).take (j-i)).length=j-i:=ab
 rcases H with⟨rfl,aJ⟩|⟨b,dE,b4,rfl,Z⟩
 ·have M:j=0:=ab
  subst M;have aj:i=0:=J
  subst aj;rcases aJ with rfl|⟨b,rfl⟩
  ·exact⟨.slice none 0 0,rfl,.nil⟩
  ·exact⟨.slice (some ⟨b,0,none⟩) 0 0,rfl,.nil⟩
 ·obtain⟨eg,V,e,cY⟩:=arA   (aO:=some k)    (cap:=l.length) ab h1 E J k;refine⟨_,e,eg,V,ab,λD=>?_⟩;have B:i<j:=by have:=Em.2 D;omega
  obtain⟨A,rfl⟩:=cY B;have M:j*k<=l.length*k:=p2 k E;have I:i*k+(j-i)*k=j*k:=by rw[<-ze];grind
  refine⟨b,0+i*k,A,false,_,b4,rfl,Z,by rw[g,gg P];omega,?_⟩;rw[g,iR];exact Zg P l i j
theorem ako{s:al}{h:ae}{U:Nat}(B:u h cR=some (.cells [(a:X)] bJ))(A:cR<U)(E:a<=p.1)(D:p.1<=5000):
  aH Q s 460 [.agg ⟨fD p⟩,bd cR] h U (dC (.agg ⟨fD (p.1-a,p.2)⟩) U h):=by
 refine anN ?_;unfold abx fD;have g:IntKind.wrap .i64 ((p.1:Int)-(a:Int))=((p.1-a:Nat):Int):=by rw[show(p.1:Int)-(a:Int)=((p.1-a:Nat):Int) by omega];exact iT _ J
 refine cL @B @g ?_;exact⟨rfl,aK,J⟩
theorem Zu{n:Nat}(x:Nat->aw Int)(A:a<=b)(g:b<=n):((bj n x).drop (bj a x).length).take ((bj b x).length-(bj a x).length)=(bj (b-a) λk=>x (a+k)).map (ry a):=by
 obtain⟨c,rfl⟩:∃c,b=a+c:=⟨b-a,J⟩
 obtain⟨d,rfl⟩:∃d,n=a+c+d:=⟨n-(a+c),J⟩
 rw[xy (a+c) x d,xy a x c,kv,List.drop_left,jm,MG,List.take_left,MG]
theorem anR{n:Nat}(x:Nat->aw Int)(A:a<=b)(g:b<=n):(bj a x).length<=(bj b x).length/\(bj b x).length<=(bj n x).length:=by
 obtain⟨c,rfl⟩:∃c,b=a+c:=⟨b-a,J⟩
 obtain⟨d,rfl⟩:∃d,n=a+c+d:=⟨n-(a+c),J⟩
 rw[xy (a+c) x d,xy a x c];grind
theorem QJ(a m n:Nat)(x:Nat->aw Int)(h:a+m<=n):(bj m λk=>x (a+k)).map (ry a)=bj n λk=>if a<=k/\k<a+m then x k else none:=by
 refine Qd ?_ λi y=>?_
 ·rw[xj];exact(xN m _).imp λh=>by unfold ry;omega
 ·rw[f0];constructor
  ·rintro⟨⟨k,z⟩,B,e⟩;obtain⟨D,g⟩:=jO.1 B;unfold ry at e
   grind
  ·rintro⟨D,g⟩
   by_cases A:a<=i/\i<a+m
   ·rw[if_pos A]at g;exact⟨(i-a,y),jO.2 ab,by unfold ry;grind⟩
   grind
theorem anS{s:al}{n B ao:Nat}{v:X}{x:Nat->aw Int}{h:ae}{U:Nat}(aJ:py h ao U v n x)(bH:n<=4096)(et:min B n=b):
  aH Q s 405 [v,(a:X),(B:X)] h U (λr ac Y=>k9 ac U Y r (b-a) (λk=>x (a+k))/\aA U h ac/\U<=Y):=by
 refine arF ?_;have V:=aJ;obtain⟨gK,rfl,ap⟩:=aJ;obtain⟨a8,cap,rfl⟩:=ap.form;have bZ:∀{o aX kZ},aA U h (T (T (T h U o) (U+1) aX) (U+2) kZ):=aK
 unfold adK;refine aF ?_;refine(Jm (V.is.F bZ J) bH).mono ?_;rintro _ h1 bh ⟨rfl,M,fy⟩;have cv:=M U J;rw[aq J,aq J,aS]at cv;have bB:=M (U+1) J;rw[aq J,aS]at bB;have g2:=M (U+2) J;rw[aS]at g2;have em:max (a:Int) 0=(a:Int):=J
 have aT:b<=n:=J
 have em2:min (B:Int) (n:Int)=(b:Int):=J
 refine k7 @cv @bB @em @em2 ?_;have cJ:∀{o aX},aA U h (T (T h1 U o) (U+1) aX):=aK
 refine⟨λdR=>?_,λu2=>?_⟩
 ·refine bg @g2 ?_;refine⟨⟨_,by rw[show b-a=0 by omega];rfl,⟨none,0,by rw[show b-a=0 by omega];rfl,λe0=>absurd (by rw[show b-a=0 by omega];rfl) e0⟩⟩,aK,J⟩
 have yu:a<b:=J
 refine(OD (V.is.F cJ  J) bH  J).mono ?_;rintro _ aL bS ⟨t1,rfl,_,E,gA⟩;have P:=E U J;rw[aq J,aS]at P;have DL:=E (U+1) J;rw[aS]at DL;have LM:=E (U+2) J;rw[aq J,aq J,g2]at LM;have fI:=cJ.trans E J;refine bg @P ?_;refine(OD (V.is.F fI  J) bH  J).mono ?_;rintro _ bm Z ⟨t2,rfl,_,D,ir⟩;have Tq:=(D U J).trans P;have LN:=(D (U+1) J).trans DL;have g24:=(D (U+2) J).trans LM;have gR:=fI.trans D J;obtain⟨dQ,dB⟩:=anR x (Nat.le_of_lt yu) aT;obtain⟨w,fe,bV⟩:=iB.cut (k:=2) (λ_=>rfl) J (ap.F  (d6:=ao) (dy:=U) (λb _ aT=>gR b aT) J J) dQ dB;obtain⟨nu,oe,rfl⟩:=bV.form;refine cL @Tq @fe ?_;rw[Zu x J aT,QJ a (b-a) n x J]at bV;rw[Zu x J aT,QJ a (b-a) n x J];have mW:∀{o aX},aA U h (T (T bm Z o) Z aX):=aK
 have g15:∀{o aX},u (T (T bm Z o) Z aX) (U+1)=some (.cells [(a:X)] false):=ab
 have aBL:∀{o aX},aA U bm (T (T bm Z o) Z aX):=aK
 refine(Zt  (g:=λp=>(p.1-a,p.2)) ⟨_,rfl,bV.F aBL  J⟩ bH (λp cF n6 bk A lD=>?_)).mono ?_
 ·have:=jO.1 bk;have eE:a<=p.1:=ab
  exact ako ((A (U+1) J).trans g15) J eE J
 rintro _ cF n6 ⟨aAG,rfl,I,A,lD⟩;have wP:=(A (U+1) J).trans g15;have g26:=A (U+2) J;rw[aq J,aq J,g24]at g26;obtain⟨bu,hG,rfl,AW⟩:=id I;have Tr:IntKind.wrap .i64 ((b:Int)-(a:Int))=((b-a:Nat):Int):=by rw[show(b:Int)-(a:Int)=((b-a:Nat):Int) by omega];exact iT _ J
 refine hK @wP @g26 @Tr ?_;have gF:(bj n λk=>if a<=k/\k<a+(b-a)then x k else none).map (λp=>(p.1-a,p.2))=bj (b-a) λk=>x (a+k):=by
  rw[<-QJ a (b-a) n x J,ot];have:((λp:Nat × Int=>(p.1-a,p.2)) ∘ ry a)=id:=by funext p;unfold ry;simp
  rw[this,Ez]
 rw[gF]at I;have Ts:=congrArg List.length gF;rw[gH]at Ts;refine⟨⟨_,rfl,?_⟩,((((mW.trans A J).set J).set J).set J).set J,J⟩;rw[gF];exact I.F (λd h1 ar=>ab) J J
def yF{az:Type}(h:ae)(enc:az->aa X)(k:Nat)(v:X)(l:aa az)(o:aw Nat):Prop:=(l=[]/\v = .slice none 0 0/\o=none)\/∃b,o=some b/\v = .slice (some ⟨b,0,some k⟩) l.length l.length/\u h b=some (.cells (bc enc l) false)
theorem yF.F{az:Type}{h ac:ae}{enc:az->aa X}{k:Nat}{v:X}{l:aa az}{o:aw Nat}(H:yF h enc k v l o)(D:∀b,o=some b->u ac b=u h b):yF ac enc k v l o:=by
 rcases H with H|⟨b,g,A,B⟩
 ·exact .inl H
 ·exact .inr ⟨b,g,A,ab⟩
theorem PI{az:Type}{enc:az->aa X}{k:Nat}(hk:∀x,(enc x).length=k)(azJ:∀x,ea (enc x)=true)(g:0<k){h:ae}{U:Nat}{v:X}{l m:aa az}{o:aw Nat}(H:yF h enc k v l o)(W:ej h U w enc k m)(I:(l.length+m.length)*k<=1000000)(B:∀dN ac Y aX,yF ac enc k dN (l++m) aX->(aX=o/\Y=U\/aX=some U/\Y=U+1)->(∀c,c≠U->o≠some c->u ac c=u h c)->K dN ac Y):dG (dX (dT k h U v w)) K:=by
 obtain⟨a,cap,rfl,W⟩:=W;rcases Ix (m=[])with e|e
 ·subst e;rw[hZ]at B;have:dT k h U v (.slice a 0 cap) = .ok (.val v h U):=by
   rcases H with⟨rfl,rfl,rfl⟩|⟨b,rfl,rfl,a6⟩
   ·show k6 h a (Nat.mul 0 k) (λnew=>gT k h U none 0 0 0 new)=_;rw[show Nat.mul 0 k=0 from l1 k];rfl
   ·show k6 h a (Nat.mul 0 k) (λnew=>gT k h U (some ⟨b,0,some k⟩) l.length l.length 0 new)=_;rw[show Nat.mul 0 k=0 from l1 k];unfold gT;rw[show Nat.ble (Nat.add l.length 0) l.length=true from BA ab];rfl
  show dG (dX (dT k h U v (.slice a 0 cap))) K;rw[this];exact B _ _ _ _ H ab ab
 ·obtain⟨E,V,aO,bJ,cs,fw,rfl,a6,h1,ar⟩:=W e;have au:=Em.2 e;have SC:m.length<=m.length*k:=Bz _ g;have D:l.length+m.length<=1000000:=hy (Bz _ g) I;have P:(Nat.ble (Nat.mul (Nat.add l.length m.length) k) 1000000&&Nat.ble (Nat.add l.length m.length) 1000000)=true:=by
   simp only[eC,sW]
   grind
  have M:Nat.ble (Nat.add l.length m.length) l.length=false:=by
   cases Z:Nat.ble (Nat.add l.length m.length) l.length with
   |false=>rfl
   |true=>have:=l0 Z;grind
  have a5:∀{f:aa X->R fl},k6 h (some ⟨E,V,aO⟩) (m.length.mul k) f=f (bc enc m):=λ{f}=>by
   rw[s2 a6 ab ab]
   grind
  rcases H with⟨rfl,rfl,rfl⟩|⟨b,rfl,rfl,oU⟩
  ·have:dT k h U (.slice none 0 0) (.slice (some ⟨E,V,aO⟩) m.length cap) = .ok (.val (.slice (some ⟨U,0,some k⟩) (0+m.length) (0+m.length)) (T h U (.cells (bc enc m) false)) (U+1)):=by show k6 h (some ⟨E,V,aO⟩) (m.length.mul k) (λnew=>gT k h U none 0 0 m.length new)=_;rw[a5];unfold gT;have M:Nat.ble (Nat.add 0 m.length) 0=false:=M;have P:(Nat.ble (Nat.mul (Nat.add 0 m.length) k) 1000000&&Nat.ble (Nat.add 0 m.length) 1000000)=true:=P;rw[M,P];exact qY g
   rw[this];exact B _ _ _ _ (.inr ⟨U,rfl,ab,ab⟩) ab ab
  ·have:dT k h U (.slice (some ⟨b,0,some k⟩) l.length l.length) (.slice (some ⟨E,V,aO⟩) m.length cap) = .ok (.val (.slice (some ⟨U,0,some k⟩) (l.length+m.length) (l.length+m.length)) (T (x1 h b) U (.cells (bc enc l++bc enc m) false)) (U+1)):=by
    show k6 h (some ⟨E,V,aO⟩) (m.length.mul k) (λnew=>gT k h U (some ⟨b,0,some k⟩) l.length l.length m.length new)=_;rw[a5];unfold gT;rw[M,P];show q8 h U k (some ⟨b,0,some k⟩) l.length l.length (l.length+m.length) (bc enc m)=_;unfold q8;simp only[vD oU];have A:na (Nat.mul l.length k) (m6 (bc enc l) 0)=some (bc enc l):=by rw[rW,pb,q1,if_pos (by rw[gg hk];grind)];rw[o8 (by rw[gg hk];grind)]
    rw[A];have Tt:ea (bc enc m)=true:=by
     clear a5 P M I D SC au ar h1 B e W
     induction m with
     |nil=>rfl
     |cons x m eO =>
      have:∀a b:aa X,ea a=true->ea b=true->ea (a++b)=true:=λa=>by
       induction a with
       |nil=>grind
       |cons y a SE =>
        intro b cY Z;rw[qT,eC]at cY;show ea (y::(a++b))=true;rw[qT,eC]
        grind
      exact this _ _ ab eO
    have ch:(!false&&Nat.beq 0 0&&Nat.beq (jo (bc enc l)) (Nat.mul l.length k)&&Nat.beq k k&&Nat.beq l.length l.length&&ea (bc enc m))=true:=by rw[ou,gg hk,Tt];simp
    show(bif _ then _ else _)=_;rw[ch,ka];exact qY g
   rw[this];exact B _ _ _ _ (.inr ⟨U,rfl,ab,by rw[aS,zm]⟩) ab λc aZ Z=>by rw[aq aZ,sn,if_neg λe=>Z (by rw[e])]
theorem arL{az:Type}{enc:az->aa X}{k:Nat}(hk:∀x,(enc x).length=k)(g:∀x,ea (enc x)=true)(D:0<k){h:ae}{U ao aj:Nat}{v:X}{l m:aa az}(H:d5 h v enc k l ao aj)(W:ej h U w enc k m)(M:ao<=U)(Z:aj<=U)(I:(l.length+m.length)*k<=1000000)(ht:∀B ac Y,d5 ac B enc k (l++m) ao Y->(∀c,c<ao\/aj<=c/\c<U->u ac c=u h c)->U<=Y->K B ac Y):dG (dX (dT k h U v w)) K:=by
 obtain⟨o,jh,hX⟩:∃o,yF h enc k v l o/\∀b,o=some b->ao<=b/\b<aj:=by
  rcases H with⟨E,A⟩|⟨b,dE,b4,e,V⟩
  ·exact⟨none,.inl ab,ab⟩
  ·exact⟨some b,.inr ⟨b,rfl,e,V⟩,ab⟩
 refine PI hk g D jh W I λB ac Y aX G e f=>ht _ _ _ ?_ ab J;rcases G with⟨E,A,_⟩|⟨b,E,A,P⟩
 ·exact .inl ab
 ·subst E;refine .inr ⟨b,?_,?_,A,P⟩
  all_goals grind
def PlJ(dp:X)(l:aa (Nat × Int))(ao:Nat)(au:ae)(m:Nat)(aE:aa X)(ac:ae)(Y:Nat):Prop :=
 ∃i o,m=l.length-i/\i<=l.length/\aE=[o,dp,(l.length:X),(i:X)]/\d5 ac o c3 1 ((l.take i).map λp=>(p.1:Int)) ao Y/\aA ao au ac/\ao<=Y
theorem Wv{s:al}{n:Nat}{v:X}{x:Nat->aw Int}{h:ae}{U:Nat}(aJ:jQ h U v n x)(bH:n<=4096):
  aH Q s 389 [v] h U (λr ac Y=>eH ac U Y r c3 ((bj n x).map λp=>(p.1:Int))/\aA U h ac/\U<=Y):=by
 refine akg ?_;have hp:=aJ;obtain⟨gK,rfl,ap⟩:=aJ;obtain⟨a8,cap,rfl,aZ⟩:=id ap;have fW:=l3 n x;have bZ:∀{o},aA U h (T h U o):=aK
 unfold Zl;refine aF ?_;refine(Jm (hp.F bZ J) bH).mono ?_;rintro _ h1 bh ⟨rfl,P,fy⟩;have cJ:=bZ.trans P J;have hs1:=ap.F cJ (Y:=bh) J;refine aF ?_;refine bD.mk (PlJ (.slice a8 (bj n x).length cap) (bj n x) bh h1) (bj n x).length ⟨0,_,J,J,rfl,.inl ab,aK,J⟩ ?_;rintro _ _ ar bX ⟨i,o,rfl,aj,rfl,I,g,A⟩;rw[ain];unfold Ws;refine aF ?_;refine⟨λcA=>?_,λeN=>?_⟩
 ·obtain⟨⟨k,y⟩,ce⟩:=d1   J;obtain⟨b,aX,aO,bJ,cs,mC,aT,B,E,M⟩:=(hs1.F g A).ld (λ_=>rfl) ce;cases B;refine cL @E @M ?_;rw[show fD (k,y)=[(k:X),(y:X)]from rfl];refine aF ?_;refine l4  (k:=1)  (λ_=>rfl) (λ_=>rfl) J (I.F ab J) J (k:Int) (aS _ _ _) rfl ab λdN b3 V D=>?_;refine bg (cG (J:i<1000000000000)) ?_;refine⟨_,?_,i+1,_,rfl,J,rfl,?_,λc aZ=>?_,J⟩
  ·omega
  ·rw[hx,ce];simpa using V
  ·rw[D c aZ,aq J,aq J,aq J];exact g c aZ
 ·have:i=(bj n x).length:=J
  subst this;rw[iQ]at I;refine⟨?_,aK,J⟩;rcases I with⟨B,rfl⟩|⟨b,h1,ar,rfl,E⟩
  ·exact⟨_,_,by rw[B];rfl,λZ=>absurd B Z⟩
  ·exact⟨_,_,rfl,λ_=>⟨b,_,_,J,J,rfl,E⟩⟩
def xU(p:Nat × X):aa X:=[(p.1:X),p.2]
theorem akp{s:al}{h:ae}{U:Nat}(B:u h cR=some (.cells [(a:X)] bJ))(A:cR<U)(E:a<=5000)(D:p.1<=5000):
  aH Q s 446 [.agg ⟨fD p⟩,bd cR] h U (dC (.agg ⟨fD (ry a p)⟩) U h):=by
 refine anL ?_;unfold abv fD ry;have g:IntKind.wrap .i64 ((a:Int)+(p.1:Int))=((a+p.1:Nat):Int):=by rw[<-vy];exact iT _ J
 refine cL @B @g ?_;exact⟨rfl,aK,J⟩
structure zN (h:ae) (U:Nat) (v:X) (ao:Nat->Nat) (m:Nat) (x:Nat->aw Int):Prop where
 ex:∃L:aa (Nat × X),L.length=m/\ej h U v xU 2 L/\∀i p,L[i]? = some p->p.1=ao (i+1)-ao i/\ej h U p.2 fD 2 (bj p.1 λk=>x (ao i+k))
 mono:∀i,ao i<=ao (i+1)
 le:ao m<=4096
theorem zN.F{h ac:ae}{U Y m:Nat}{v:X}{ao:Nat->Nat}{x:Nat->aw Int}(H:zN h U v ao m x)(A:aA U h ac)(g:U<=Y):zN ac Y v ao m x:=by obtain⟨⟨L,P,B,E⟩,I,M⟩:=H;exact⟨⟨L,P,B.F A g,λi p D=>⟨ab,(E i p D).2.F A g⟩⟩,I,M⟩
theorem PJ{ao:Nat->Nat}(h:∀i,ao i<=ao (i+1)){i:Nat}(g:i<=j):ao i<=ao j:=by
 induction j with
 |zero=>grind
 |succ j A =>
  grind
def GlJ(cp cR:Nat)(v:X)(ao:Nat->Nat)(n:Nat)(x:Nat->aw Int)(a0:Nat)(au:ae)(U:Nat)(m:Nat)(aE:aa X)(ac:ae)(Y:Nat):Prop :=
 ∃i w,m=n-i/\i<=n/\aE=[bd cp,.int .i64 0,bd cR,v,(n:X),(i:X)]/\u ac cp=some (.cells [.int .i64 0,.slice none 0 0] false)/\u ac cR=some (.cells [((ao i-ao 0:Nat):X),w] false) /\
  d5 ac w fD 2 (bj (ao i-ao 0) λk=>x (ao 0+k)) a0 Y/\aA U au ac/\a0<=Y
theorem anT{s:al}{v:X}{ao:Nat->Nat}{x:Nat->aw Int}{h:ae}{U:Nat}(H:zN h U v ao m x)(bl:m<=1000):
  aH Q s 387 [v] h U (λr ac Y=>∃w,r = .tuple ⟨[w,.int .i64 0]⟩/\py ac U Y w (ao m-ao 0) (λk=>x (ao 0+k))/\aA U h ac/\U<=Y):=by
 refine arC ?_;obtain⟨⟨L,rfl,ap,fq⟩,g,ir⟩:=H;obtain⟨a8,cap,rfl⟩:=ap.form;have bZ:∀{o aX},aA U h (T (T h U o) (U+1) aX):=aK
 unfold adH;refine aF ?_;refine bD.mk (GlJ U (U+1) (.slice a8 L.length cap) ao L.length x (U+2) h U) L.length ⟨0,.slice none 0 0,J,J,rfl,ab,ab,.inl ⟨by rw[BK];rfl,rfl⟩,bZ,J⟩ ?_;rintro _ _ h1 B ⟨i,w,rfl,aj,rfl,bB,dL,dI,V,fy⟩;have az3:ao 0<=ao i:=PJ g J;rw[anI];unfold Zk;obtain⟨nu,oe,rfl⟩:∃a c,w = .slice a (bj (ao i-ao 0) λk=>x (ao 0+k)).length c:=by
  rcases dI with⟨e,rfl⟩|⟨b,_,_,rfl,_⟩
  all_goals grind
 refine aF ?_;refine⟨λcA=>?_,λeN=>?_⟩
 ·obtain⟨⟨n,gK⟩,ce⟩:=d1   J;obtain⟨bH,D⟩:=fq i _ ce;have D:ej h U gK fD 2 (bj n λk=>x (ao i+k)):=D;have awG:ao (i+1)<=ao L.length:=PJ g J;have hms:=g i;obtain⟨dp,e1,rfl⟩:=D.form;obtain⟨b,aX,aO,bJ,cs,mC,aT,aV,a6,kl⟩:=(ap.F V (Y:=B) J).ld (λ_=>rfl) ce;cases aV;refine cL @a6 @kl ?_;rw[show xU (n,.slice dp (bj n λk=>x (ao i+k)).length e1)=[(n:X),.slice dp (bj n λk=>x (ao i+k)).length e1]from rfl];have cJ:∀{o aX kZ fZ},aA U h (T (T (T (T h1 B o) B aX) (B+1) kZ) (B+1) fZ):=(((V.set J).set J).set J).set J;refine bg @dL ?_;refine(Zt   ⟨_,rfl,D.F cJ  J⟩ J (λp cF n6 bk A lD=>akp ((A (B+1) J).trans (aS _ _ _)) J J (by have:=(jO.1 bk).1;omega))).mono ?_;rintro _ cF n6 ⟨aAG,rfl,Z,A,lD⟩;have E:=A (U+1) J;rw[aq J,aq J,aq J,aq J,dL]at E;have wP:=A U J;rw[aq J,aq J,aq J,aq J,bB]at wP;have M:=A B J;rw[aq J,aq J,aS]at M;obtain⟨bu,hG,rfl,AW⟩:=id Z;have Tr:IntKind.wrap .i64 (4096-((ao i-ao 0:Nat):Int))=((4096-(ao i-ao 0):Nat):Int):=by rw[show(4096:Int)-((ao i-ao 0:Nat):Int)=((4096-(ao i-ao 0):Nat):Int) by omega];exact iT _ J
  have ew7:IntKind.wrap .i64 (((ao i-ao 0:Nat):Int)+(n:Int))=((ao (i+1)-ao 0:Nat):Int):=by rw[show((ao i-ao 0:Nat):Int)+(n:Int)=((ao (i+1)-ao 0:Nat):Int) by omega];exact iT _ J
  refine hK @E @M @Tr ?_;have yT:∀{o},aA U h (T cF B o):=(cJ.trans A J).set J;refine⟨λaZ=>absurd aZ J,λ_=>?_⟩;have wO:∀{o},d5 (T cF B o) (.slice nu (bj (ao i-ao 0) λk=>x (ao 0+k)).length oe) fD 2 (bj (ao i-ao 0) λk=>x (ao 0+k)) (U+2) B:=λ{o}=>dI.F (λc h1 ar=>by rw[aq J,A c J,aq J,aq J,aq J,aq J]) J;have dQ:=l3 (ao i-ao 0) λk=>x (ao 0+k);have dB:=l3 n λk=>x (ao i+k);refine arL  (k:=2) (λ_=>rfl) (λ_=>rfl) J  wO (cN.o (λ_=>rfl) (Z.F   (λb h1 ar=>aq J) (cD _) (cD _)).rd) J J ab λdN eE n7 P I uP=>?_;have qt:ao (i+1)-ao 0=(ao i-ao 0)+n:=J
  have Bl:(bj (ao i-ao 0) λk=>x (ao 0+k))++(bj n λk=>x (ao i+k)).map (ry (ao i-ao 0))=bj (ao (i+1)-ao 0) λk=>x (ao 0+k):=by
   rw[qt,xy]
   congr 2
   exact xE λk _=>by congr 1;omega
  rw[Bl]at P;obtain⟨v7a,v7c,rfl⟩:∃a c,dN = .slice a (bj (ao (i+1)-ao 0) λk=>x (ao 0+k)).length c:=by
   rcases P with⟨e,rfl⟩|⟨b,_,_,rfl,_⟩
   all_goals grind
  have g47:=(I (U+1) (.inl J)).trans (aq J);rw[E]at g47;have g17:=(I U (.inl J)).trans (aq J);rw[wP]at g17;have ayu:=(I B (.inr J)).trans (aS _ _ _);refine⟨J,?_⟩;refine uG @g47 @E @ayu @ew7 (cG (J:i<1000000000000)) ?_;refine⟨_,?_,i+1,_,rfl,J,rfl,ab,aS _ _ _,P.F (λc h1 ar=>aq J) J,λc aZ=>?_,J⟩
  ·omega
  ·rw[aq J,I c (.inl J)];exact yT c aZ
 ·have:i=L.length:=J
  subst this;refine cL @dL @bB ?_;exact⟨_,rfl,⟨_,rfl,(d5.f dI).F (λc h1 ar=>aq J) J (cD _)⟩,V.set J,J⟩
def PK(s:al)(K:bP)(de ep ey fH ij ll sw:X)(au:ae)(a0:Nat):Prop:=br sw (af (cS [(ad 0),ay] []) λa=>af (aQ au 2 ll a) λb=>aN 2 b ll λc=>K (.tuple ⟨[c,(ad 3)]⟩) b a0) (bT au ey λd=>af (.ok (.func (.func 315) ⟨[]⟩ ⟨[ep,ey,fH,ij]⟩)) λe=>aW s 314 [de,d,e] au a0 λf g i=>af (cy f 0) λj=>af (cy f 1) λk=>af (aQ g 2 ll j) λl=>aN 2 l ll λm=>K (.tuple ⟨[m,k]⟩) l i)
def afb:w5:=λs ah t1 t2 t3 fS h U K=>bI ah h U λa b c=>bI t1 b c λd e f=>bI t2 e f λg i j=>bI t3 i j λk l m=>bW [(ad 0),ay] l m λn o p=>bT o a λq=>aW s 313 [q] o p λr t aD=>af (dr .not r) λv=>br v (PK s K fS a d g k n (.bool true) t aD) (bT t d λw=>bT t g λx=>bT t k λy=>aW s 202 [w,x,(ad 0),y] t aD λz bz bU=>af (dr .not z) λbQ=>(PK s K fS a d g k n bQ bz bU))
theorem aus:yS 223 afb:=AL []
def adP:c5:=λs ah t1 h U K=>bw .eql 40 ah (ad 2) (K (ad 1) h U) (bw .eql 40 ah (ad 4) (K (ad 5) h U) (bw .eql 40 ah (ad 5) (bG .and 3 t1 (ad 1) λd=>bw .eql 3 d (ad 0) (K (ad 2) h U) (K (ad 4) h U)) (bw .eql 40 ah (ad 1) (K (ad 4) h U) (bw .eql 40 ah (ad 3) (K (ad 4) h U) (K (ad 0) h U)))))
theorem arM:c7 225 adP:=c9 []
def Zv:cP:=λs ah h U K=>bw .geq 3 ah (ad 0) (bG .leq 3 ah (ad 4096) λb=>K b h U) (K (.bool false) h U)
theorem akq:cQ 313 Zv:=cT []
def OE:aa (aa Nat):=[[0,2,6,7,15,16,17]]
def XA(s:al)(aC a2 bu ba iZ g7 kE:X)(h:ae)(U:Nat)(N:aR)(aM:aR)(R:aR):Prop:=cH kE g7 (hv 2 h 2 iZ kE λc=>bW [(ad 0),ay] h U λd e f=>af (aQ e 2 d c) λg=>aN 2 g d λi=>b9 312 [i] g f λj k l=>af (dr .not j) λm=>br m (af (cS [(ad 0),ay] []) λn=>af (aQ k 2 bu n) λo=>R [aC,a2,bu,(ad 4),iZ,g7,kE] o l) (fc Q true (hJ k l [kE] a2) λp q r=>l<=r/\bf 0 d λt=>bT q t λaD=>c0 t aD (bw .neq 3 aD p (af (cS [(ad 0),ay] []) λw=>af (aQ q 2 bu w) λx=>R [aC,a2,bu,(ad 4),iZ,g7,kE] x r) (cg kE λy=>N [aC,a2,bu,ba,iZ,g7,y] q r)) 1 [k,g])) (aM [aC,a2,bu,ba,iZ,g7,kE] h U)
def abB:gf:=λs ah t1 t2 h U K=>bW [(ad 0),ay] h U λa b c=>cV ah λd=>bw .neq 3 d t1 (af (cS [(ad 0),ay] []) λf=>af (aQ b 2 a f) λg=>aN 2 g a λi=>K (.tuple ⟨[i,(ad 4)]⟩) g c) (cV ah λj=>bD (bR Q s OE 314 0) [ah,t2,a,(ad 0),ah,j,(ad 0)] b c [(0,λk l m=>aW s 387 [(a7 k 0)] l m λn o p=>af (cy n 0) λq=>af (cy n 1) λr=>af (aQ o 2 (a7 k 2) q) λt=>aN 2 t (a7 k 2) λaD=>K (.tuple ⟨[aD,r]⟩) t p)] (λv w x=>aN 2 w (a7 v 2) λy=>K (.tuple ⟨[y,(a7 v 3)]⟩) w x))
theorem akr{s:al}{D g B A:X}{h:ae}{U:Nat}{R:aR}:bR Q s OE 314 0 [D,a2,bu,ba,g,B,A] h U N [(0,aM)] R=XA s D a2 bu ba g B A h U N aM R:=by kernel_rfl
theorem anU:gl 314 abB:=gp OE
def adQ:w5:=λs ah t1 t2 t3 fS h U K=>bT h t1 λa=>bT h t2 λb=>b9 204 [a,b,ah] h U λc d e=>bT d t1 λf=>c0 t1 f (bT d t3 λg=>c0 t3 g (bT d fS λi=>c0 fS i (b9 204 [f,g,i] d e λj k l=>b9 316 [c,j] k l λm n o=>bW [(ad 0),(ad 0)] n o λp q r=>af (aQ q 2 p m) λt=>af (ib (.array 2 1) p (ad 1)) λaD=>bT t aD λv=>af (ib (.array 2 1) p (ad 0)) λw=>bT t w λx=>bG .sub 3 v x λy=>K y t r) 1 [h]) 1 [h]) 1 [h]
theorem arN:yS 315 adQ:=AL []
def Zw:c5:=λs ah t1 h U K=>bI ah h U λa b c=>bI t1 b c λd e f=>bW [(ad 0),(ad 0)] e f λg i j=>af (ib (.array 2 1) a (ad 0)) λk=>bT i k λl=>af (ib (.array 2 1) d (ad 0)) λm=>bT i m λn=>af (min2 false l n) λo=>af (ib (.array 2 1) a (ad 1)) λp=>bT i p λq=>af (ib (.array 2 1) d (ad 1)) λr=>bT i r λt=>af (min2 true q t) λaD=>af (min2 false o aD) λv=>af (cS [(ad 0),(ad 0)] [(0,1,o),(1,1,v)]) λw=>af (aQ i 2 g w) λx=>aN 2 x g λy=>K y x j
theorem aks:c7 316 Zw:=c9 []
def OF:aa (aa Nat):=[[4,8,9,22,23,24]]
def XB(s:al)(aY bx c4 ef i0 fd:X)(h:ae)(U:Nat)(N:aR)(aV:aR)(R:aR):Prop:=cH fd i0 (d0 h 1 ef fd λc=>bw .eql 2 c bx (d4 (fh 1 [(ad 0)] [(0,1,fd)]) h U λe f g=>dG (dX (dT 1 f g c4 e)) λi j k=>cg fd λl=>N [aY,bx,i,ef,i0,l] j k) (cg fd λm=>N [aY,bx,c4,ef,i0,m] h U)) (aV [aY,bx,c4,ef,i0,fd] h U)
def IY(s:al)(K:bP)(de ij:X)(au:ae)(a0:Nat):Prop:=ax au 2 de λb=>cV b λc=>bD (bR Q s OF 331 0) [de,ij,ay,b,c,(ad 0)] au a0 [(1,λd e f=>ax e 1 (a7 d 0) λi=>ax e 0 (a7 d 0) λk=>bG .sub 3 i k λl=>aW s 108 [l,(a7 d 2)] e f λm n o=>K (.tuple ⟨[m,(.bool false)]⟩) n o)] (λ_ _ _=>False)
def abC:gf:=λs ah t1 t2 h U K=>bI ah h U λa b c=>bI t1 b c λd e f=>aN 5 e a λg=>aN 5 e d λi=>aW s 299 [g,i] e f λj k l=>af (aQ k 5 d j) λm=>ax m 0 a λo=>bw .eql 40 o (ad 1) (IY s K d (ad (-1)) m l) (bw .eql 40 o (ad 5) (IY s K d (ad 0) m l) (K (.tuple ⟨[ay,(.bool true)]⟩) m l))
theorem akt{s:al}{A B g fd:X}{h:ae}{U:Nat}{D R:aR}:bR Q s OF 331 0 [aY,A,B,ef,g,fd] h U N [(1,D)] R=XB s aY A B ef g fd h U N D R:=by kernel_rfl
theorem anV:gl 331 abC:=gp OF
def Nq(s:al)(K:bP)(de ep ey fH ij rN Tc:X)(au:ae)(a0:Nat):Prop:=br Tc (ax au 2 ep λb=>b9 88 [b] au a0 λc d e=>bf 3 ep λf=>bT d f λg=>c0 f g (b9 88 [g] d e λi j k=>bf 4 ep λl=>bT j l λm=>c0 l m (b9 139 [m] j k λn o p=>bf 0 ep λq=>bT o q λr=>c0 q r (bf 1 ep λt=>bT o t λaD=>c0 t aD (af (cS [(ad 0),(ad 0),ay,ay,ay] [(0,1,r),(1,1,aD),(2,1,c),(3,1,i),(4,1,n)]) λv=>af (aQ o 5 ij v) λw=>aN 5 w ij λx=>K x w p) 3 [j,d,au]) 3 [j,d,au]) 2 [d,au]) 1 [au]) (aN 5 au ep λy=>af (.ok (.func (.func 400) ⟨[]⟩ ⟨[fH,de,ep,ey]⟩)) λz=>aW s 208 [y,rN,z] au a0 λbz bU bQ=>af (aQ bU 5 ij bz) λa8=>aN 5 a8 ij λbY=>K bY a8 bQ)
def Zx:vm:=λs ah t1 t2 t3 h U K=>bI ah h U λa b c=>bI t1 b c λd e f=>bI t2 e f λg i j=>bI t3 i j λk l m=>bW [(ad 0),(ad 0),ay,ay,ay] l m λn o p=>aN 5 o a λq=>aN 5 o d λr=>aW s 299 [q,r] o p λt aD v=>af (aQ aD 5 d t) λw=>ax w 1 d λy=>ax w 0 d λbz=>bG .sub 3 y bz λbU=>aN 2 w k λbQ=>aW s 312 [bQ] w v λa8 bY b7=>af (dr .not a8) λbL=>br bL (Nq s K a d g k n bU (.bool true) bY b7) (ax bY 0 k λcC=>bG .neq 3 cC bU λdn=>(Nq s K a d g k n bU dn bY b7))
theorem aku:w4 336 Zx:=yy []
def QK:aa (aa Nat):=[[2,3,4,6,7,21,22]]
def abD(s:al)(a2 a3 aY bu ba hC ef:X)(h:ae)(U:Nat)(N:aR)(aM:aR)(R:aR):Prop:=cH ef hC (aN 5 h a3 λb=>aN 5 h aY λc=>aW s 403 [b,c,a2,ef] h U λd e f=>af (cy d 0) λg=>af (cy d 1) λi=>br i (ax e 1 ba λk=>af (cS [(ad 0),(ad 0)] [(0,1,ef),(1,1,g)]) λl=>d4 (fh 1 [(ad 0),(ad 0)] [(0,2,l)]) e f λm n o=>dG (dX (dT 2 n o k m)) λp q r=>bf 1 ba λt=>af (aQ q 1 t p) λaD=>cg ef λv=>N [a2,a3,aY,bu,ba,hC,v] aD r) (cg ef λw=>N [a2,a3,aY,bu,ba,hC,w] e f)) (aM [a2,a3,aY,bu,ba,hC,ef] h U)
def afc:gf:=λs ah t1 t2 h U K=>bI ah h U λa b c=>bI t1 b c λd e f=>bW [(ad 0),ay] e f λg i j=>aN 5 i a λk=>aN 5 i d λl=>aW s 299 [k,l] i j λm n o=>af (aQ n 5 d m) λp=>ax p 1 d λr=>ax p 0 d λaD=>bG .sub 3 r aD λv=>af (cS [(ad 0),ay] [(0,1,v)]) λw=>bW [(ad 0),ay] p o λx y z=>af (aQ y 2 x w) λbz=>ax bz 0 x λbQ=>bD (bR Q s QK 337 0) [t2,a,d,g,x,bQ,(ad 0)] bz z [(0,λa8 bY b7=>aN 2 bY (a7 a8 4) λbL=>af (aQ bY 2 (a7 a8 3) bL) λcK=>aN 2 cK (a7 a8 3) λcC=>K cC cK b7)] (λ_ _ _=>False)
theorem arO{s:al}{A g:X}{h:ae}{U:Nat}{R:aR}:bR Q s QK 337 0 [a2,A,aY,bu,ba,g,ef] h U N [(0,aM)] R=abD s a2 A aY bu ba g ef h U N aM R:=by kernel_rfl
theorem aut:gl 337 afc:=gp QK
def EZ(s:al)(K:bP)(ct cB co de ep ey sv LB:X)(au:ae)(a0:Nat):Prop:=br LB (af (cS [(ad 0),ay] []) λa=>af (aQ au 2 sv a) λb=>aN 2 b sv λc=>K c b a0) (aW s 204 [ct,cB,de] au a0 λd e f=>bW [(ad 0),(ad 0)] e f λg i j=>af (aQ i 2 g d) λk=>b9 204 [ct,co,ep] k j λl m n=>aN 2 m g λo=>jg 2 g o (b9 316 [o,l] m n λp q r=>bW [(ad 0),(ad 0)] q r λt aD v=>af (aQ aD 2 t p) λw=>aN 2 w ey λx=>af (ib (.array 2 1) t (ad 0)) λy=>bT w y λz=>af (ib (.array 2 1) g (ad 0)) λbz=>bT w bz λbU=>bG .sub 3 z bU λbQ=>af (ib (.array 2 1) t (ad 1)) λa8=>bT w a8 λbY=>af (ib (.array 2 1) g (ad 0)) λb7=>bT w b7 λbL=>bG .sub 3 bY bL λcK=>aW s 405 [x,bQ,cK] w v λcC dn df=>af (aQ dn 2 sv cC) λeJ=>aN 2 eJ sv λam=>K am eJ df) 1 [k])
def abE:Mm:=λs ah t1 t2 t3 fS sL h U K=>bI ah h U λa b c=>bW [(ad 0),ay] b c λd e f=>b9 313 [t1] e f λg i j=>af (dr .not g) λk=>br k (EZ s K t1 t2 t3 fS sL a d (.bool true) i j) (b9 202 [t2,t3,fS,sL] i j λl m n=>af (dr .not l) λo=>br o (EZ s K t1 t2 t3 fS sL a d (.bool true) m n) (aN 2 m a λp=>b9 312 [p] m n λq r t=>af (dr .not q) λaD=>br aD (EZ s K t1 t2 t3 fS sL a d (.bool true) r t) (b9 404 [t1,t2,fS] r t λv w x=>bf 0 a λy=>bT w y λz=>c0 y z (bG .neq 3 z v λbz=>(EZ s K t1 t2 t3 fS sL a d bz w x)) 1 [r,m,i,e])))
theorem anW:UD 338 abE:=zf6 []
def XC:w5:=λs ah t1 t2 t3 fS h U K=>aN 2 h t1 λa=>aW s 401 [a,ah] h U λb c d=>af (cy b 0) λe=>af (cy b 1) λf=>aN 5 c t2 λg=>aN 5 c t3 λi=>bT c fS λj=>aW s 402 [g,i,j,ah,e,f] c d λk l m=>af (cy k 0) λn=>af (cy k 1) λo=>af (cy k 2) λp=>K (.tuple ⟨[n,o,p]⟩) l m
theorem ait:yS 400 XC:=AL []
def sZ(s:al)(K:bP)(rA oV:X)(au:ae)(a0:Nat):Prop:=K (.tuple ⟨[rA,oV,(.bool false)]⟩) au a0
def Nr(s:al)(K:bP)(cB co de ep ey fH rA oV y60:X)(au:ae)(a0:Nat):Prop:=br y60 (K (.tuple ⟨[(ad 2),oV,(.bool false)]⟩) au a0) (bG .and 3 cB (ad 1) λa=>bw .eql 3 a (ad 1) (af (dr .not ep) λc=>br c (K (.tuple ⟨[(ad 1),oV,(.bool true)]⟩) au a0) (b9 459 [cB] au a0 λd e f=>aN 5 e ey λg=>jg 5 ey g (bf 0 fH λi=>bT e i λj=>c0 i j (lu j co λk=>b9 368 [g,d,k] e f λl m n=>bw .gtr 2 de l (K (.tuple ⟨[(ad 1),oV,(.bool true)]⟩) m n) (sZ s K rA oV m n)) 1 [au]) 1 [au])) (sZ s K rA oV au a0))
def EQ(s:al)(K:bP)(cB co de ep ey fH rA oV y28 To:X)(au:ae)(a0:Nat):Prop:=br To (br ep (bw .lss 2 de rA (K (.tuple ⟨[de,oV,(.bool true)]⟩) au a0) (sZ s K rA oV au a0)) (sZ s K rA oV au a0)) (bw .eql 40 y28 (ad 4) (bG .neq 2 de (ad 0) λc=>K (.tuple ⟨[de,oV,c]⟩) au a0) (bw .eql 40 y28 (ad 5) (bw .neq 2 rA (ad 0) (sZ s K rA oV au a0) (bG .and 3 cB (ad 1) λf=>bw .eql 3 f (ad 0) (Nr s K cB co de ep ey fH rA oV ep au a0) (Nr s K cB co de ep ey fH rA oV (.bool false) au a0))) (sZ s K rA oV au a0)))
def Zy:Mm:=λs ah t1 t2 t3 fS sL h U K=>bI ah h U λa b c=>bI t1 b c λd e f=>ax e 2 d λi=>d0 e 1 i t3 λk=>ax e 3 d λm=>d0 e 1 m t3 λo=>ax e 0 a λq=>bw .eql 40 q (ad 1) (br sL (bw .eql 2 k (ad (-1)) (K (.tuple ⟨[t2,fS,(.bool true)]⟩) e f) (sZ s K k o e f)) (sZ s K k o e f)) (bw .eql 40 q (ad 2) (EQ s K t2 t3 fS sL a d k o q (.bool true) e f) (bG .eql 40 q (ad 3) λv=>(EQ s K t2 t3 fS sL a d k o q v e f)))
theorem akv:UD 402 Zy:=zf6 []
def abF:vm:=λs ah t1 t2 t3 h U K=>bI ah h U λa b c=>bI t1 b c λd e f=>ax e 4 d λi=>aW s 334 [i,t3] e f λj k l=>ax k 0 a λn=>bw .eql 40 n (ad 1) (ax k 0 d λq=>lu q t3 λr=>K (.tuple ⟨[r,j]⟩) k l) (bw .eql 40 n (ad 5) (bG .and 3 t2 (ad 1) λaD=>bw .eql 3 aD (ad 0) (K (.tuple ⟨[(ad 1),j]⟩) k l) (b9 459 [t2] k l λw x y=>aN 5 x a λz=>jg 5 a z (bf 0 d λbz=>bT x bz λbU=>c0 bz bU (lu bU t3 λbQ=>b9 368 [z,w,bQ] x y λa8 bY b7=>bf 2 d λbL=>bT bY bL λcK=>c0 bL cK (hT 1 cK t3 λcC=>bT bY cC λdn=>c0 cC dn (bG .eql 2 dn (ad 0) λdf=>K (.tuple ⟨[a8,df]⟩) bY b7) 2 [x,k]) 2 [x,k]) 1 [k]) 1 [k])) (ax k 2 d λam=>d0 k 1 am t3 λeP=>K (.tuple ⟨[eP,j]⟩) k l))
theorem anX:w4 403 abF:=yy []
def adR:cP:=λs ah h U K=>bG .sub 3 ah (ad 1) λa=>bG .shr 3 a (.int .u64 1) λb=>K b h U
theorem arP:cQ 459 adR:=cT []
def js(a c d:Nat):Nat:=min (max a c) d
theorem Ww{s:al}{n:Nat}{h:ae}{U:Nat}(A:n<=4096):aH Q s 313 [(n:X)] h U (fo (.bool true) U h):=by
 refine akq ?_;unfold Zv;refine aF ?_;refine⟨λ_=>⟨?_,rfl,rfl⟩,λg=>absurd g J⟩
 grind
theorem Wx{s:al}{g D A B:Nat}{h:ae}{U:Nat}:aH Q s 316 [.agg ⟨[(g:X),(D:X)]⟩,.agg ⟨[(A:X),(B:X)]⟩] h U (dC (.agg ⟨[((max g A:Nat):X),((max (max g A) (min D B):Nat):X)]⟩) U h):=by
 refine aks ?_;unfold Zw;have M:max (g:Int) (A:Int)=((max g A:Nat):Int):=J
 have I:min (D:Int) (B:Int)=((min D B:Nat):Int):=J
 have E:max ((max g A:Nat):Int) ((min D B:Nat):Int)=((max (max g A) (min D B):Nat):Int):=J
 refine hK @M @I @E ?_;exact⟨rfl,aK,J⟩
theorem anY{s:al}{n k i:Nat}{h:ae}{U:Nat}(D:n<=4096)(B:0<k)(g:k<=8)(aj:i<k):aH Q s 404 [(n:X),(k:X),(i:X)] h U (fo (((c8 n k (i+1)-c8 n k i:Nat):X)) U h):=by
 refine arE ?_;unfold adJ;refine bg (cG (J:i<1000000000000)) ?_;refine⟨λA=>absurd A J,λ_=>⟨λA=>absurd A J,λ_=>?_⟩⟩;refine(uu D B g J).mono ?_;rintro _ _ _ ⟨rfl,rfl,rfl⟩;refine(uu D B g J).mono ?_;rintro _ _ _ ⟨rfl,rfl,rfl⟩;have I:c8 n k i<=c8 n k (i+1):=ui J;have M:=s6 (n:=n) B (i+1);have E:IntKind.wrap .i64 ((c8 n k (i+1):Int)-(c8 n k i:Int))=((c8 n k (i+1)-c8 n k i:Nat):Int):=by rw[show(c8 n k (i+1):Int)-(c8 n k i:Int)=((c8 n k (i+1)-c8 n k i:Nat):Int) by omega];exact iT _ J
 refine bg @E ?_;exact⟨rfl,rfl,rfl⟩
theorem akw{s:al}{n i ao:Nat}{v:X}{x:Nat->aw Int}{h:ae}{U:Nat}(bH:n<=4096)(dW:0<R)(D:R<=8)(ed:0<C)(I:C<=8)(aj:i<R)(b1:j<C)(aJ:py h ao U v (c8 n R (i+1)-c8 n R i) (λk=>x (c8 n R i+k))):
  aH Q s 338 [v,(n:X),(R:X),(C:X),(i:X),(j:X)] h U (λr ac Y =>
   k9 ac U Y r (js (c8 n R (i+1)) (c8 n C j) (c8 n C (j+1))-js (c8 n R i) (c8 n C j) (c8 n C (j+1))) (λk=>x (js (c8 n R i) (c8 n C j) (c8 n C (j+1))+k))/\aA U h ac/\U<=Y):=by
 refine anW ?_;have hp:=aJ;obtain⟨gK,rfl,ap⟩:=aJ;obtain⟨a8,cap,rfl⟩:=ap.form;have hmj:c8 n C j<=c8 n C (j+1):=ui J;have bb:=s6 (n:=n) dW (i+1);have hlj:=s6 (n:=n) ed (j+1);unfold abE;refine aF ?_;refine(Ww bH).mono ?_;rintro _ _ _ ⟨rfl,rfl,rfl⟩;refine⟨J,?_⟩;refine aF ?_;refine(Py dW D ed I aj b1).mono ?_;rintro _ _ _ ⟨rfl,rfl,rfl⟩;refine⟨J,?_⟩;have bZ:∀{o aX},aA U h (T (T h U o) (U+1) aX):=aK
 refine aF ?_;refine(vG (hp.is.F bZ  J) J).mono ?_;rintro _ h1 bh ⟨rfl,Z,M⟩;refine⟨M,?_⟩;have cv:=Z U J;rw[aq J,aS]at cv;have bB:=Z (U+1) J;rw[aS]at bB;refine aF ?_;refine(anY bH dW D aj).mono ?_;rintro _ h1 bh ⟨rfl,rfl,rfl⟩;refine⟨J,?_⟩;simp(disch:=omega)only[bn,cv,qR,seval];unfold EZ;refine aF ?_;refine(BU  bH dW D J).mono ?_;rintro _ ar bX ⟨rfl,V,eZ⟩;refine aF ?_;refine(BU  bH ed I J).mono ?_;rintro _ aL bS ⟨rfl,E,gA⟩;refine⟨J,?_⟩;have A:=E bX J;rw[aS]at A;have DH:=E U J;rw[aq J,aq J,V U J,cv]at DH;have P:=E (U+1) J;rw[aq J,aq J,V (U+1) J,bB]at P;refine bg @A ?_;refine Wx.mono ?_;rintro _ bm dH ⟨rfl,B,ir⟩;refine⟨J,?_⟩;have g42:=(B bX J).trans A;have Tq:=(B U J).trans DH;have LN:=(B (U+1) J).trans P;have gR:aA U h bm:=aK
 generalize cY:c8 n R i=a at *
 generalize Lg:c8 n R (i+1)=aB at *
 generalize aZ:c8 n C j=c at *
 generalize bp:c8 n C (j+1)=d at *
 have Tn:IntKind.wrap .i64 (((max a c:Nat):Int)-(a:Int))=((max a c-a:Nat):Int):=by rw[show((max a c:Nat):Int)-(a:Int)=((max a c-a:Nat):Int) by omega];exact iT _ J
 have Hp:IntKind.wrap .i64 (((max (max a c) (min aB d):Nat):Int)-(a:Int))=((max (max a c) (min aB d)-a:Nat):Int):=by rw[show((max (max a c) (min aB d):Nat):Int)-(a:Int)=((max (max a c) (min aB d)-a:Nat):Int) by omega];exact iT _ J
 refine k7 @Tq @g42 @Tn @Hp ?_;have mW:∀{o aX},aA U h (T (T bm dH o) dH aX):=(gR.set J).set J;refine(anS   (hp.F  (λb _ aT=>mW b aT) (cD _) J) J rfl).mono ?_;rintro r cF n6 ⟨a5,hM,lD⟩;obtain⟨aAG,rfl,g⟩:=a5;obtain⟨nu,oe,rfl,_⟩:=id g;have wP:=hM (U+1) J;rw[aq J,aq J,LN]at wP;refine bg @wP ?_;have es:min (max (max a c) (min aB d)-a) (aB-a)-(max a c-a)=js aB c d-js a c d:=by unfold js;omega
 rw[es]at g ⊢;refine⟨⟨_,rfl,?_⟩,(mW.trans hM J).set J,J⟩;have Bm:(bj (js aB c d-js a c d) λk=>x (a+(max a c-a+k)))=bj (js aB c d-js a c d) λk=>x (js a c d+k):=xE λk hk=>by
  congr 1
  unfold js at hk ⊢;omega
 rw[Bm]at g ⊢;exact g.F (λb h1 ar=>aq J) J J
def GdJ(cp:Nat)(v j4:X)(n:Nat)(au:ae)(U a0:Nat)(m:Nat)(aE:aa X)(ac:ae)(Y:Nat):Prop :=
 ∃i,m=n-i/\i<=n/\aE=[v,j4,bd cp,.int .i64 0,v,(n:X),(i:X)]/\u ac cp=some (.cells [.int .i64 0,.slice none 0 0] false)/\aA U au ac/\a0<=Y
theorem akx{s:al}{v:X}{ao:Nat->Nat}{x:Nat->aw Int}{h:ae}{U:Nat}(H:zN h U v ao m x)(bl:m<=1000)(bK:∀i h1 A,i<m->aA U h h1->U<=A->aH Q true dK ((i:X)::cs) h1 A (dC (((ao (i+1)-ao i:Nat):X)) A h1)):
  aH Q s 314 [v,(m:X),.func (.func dK) ⟨[]⟩ ⟨cs⟩] h U (λr ac Y=>∃w,r = .tuple ⟨[w,.int .i64 0]⟩/\py ac U Y w (ao m-ao 0) (λk=>x (ao 0+k))/\aA U h ac/\U<=Y):=by
 refine anU ?_;have rK:=H;obtain⟨⟨L,rfl,ap,fq⟩,E,ir⟩:=H;obtain⟨a8,cap,rfl⟩:=ap.form;have bZ:∀{o},aA U h (T h U o):=aK
 unfold abB;simp(disch:=omega)only[bn,qR,seval];refine bD.mk (GdJ U (.slice a8 L.length cap) (.func (.func dK) ⟨[]⟩ ⟨cs⟩) L.length h U (U+1)) L.length ⟨0,J,J,rfl,ab,bZ,J⟩ ?_;rintro _ _ h1 A ⟨i,rfl,aj,rfl,bB,P,fy⟩;rw[akr];unfold XA;refine aF ?_;refine⟨λcA=>?_,λeN=>?_⟩
 ·obtain⟨⟨n,gK⟩,ce⟩:=d1   J;obtain⟨bH,B⟩:=fq i _ ce;have B:ej h U gK fD 2 (bj n λk=>x (ao i+k)):=B;have awG:ao (i+1)<=ao L.length:=PJ E J;obtain⟨dp,e1,rfl⟩:=B.form;obtain⟨b,aX,aO,bJ,sh,mC,aT,aV,a6,kl⟩:=(ap.F P (Y:=A) J).ld (λ_=>rfl) ce;cases aV;refine cL @a6 @kl ?_;rw[show xU (n,.slice dp (bj n λk=>x (ao i+k)).length e1)=[(n:X),.slice dp (bj n λk=>x (ao i+k)).length e1]from rfl];have cJ:∀{o aX},aA U h (T (T h1 A o) A aX):=aK
  refine aF ?_;refine(vG   ⟨_,rfl,B.F cJ  J⟩ J).mono ?_;rintro _ ar bX ⟨rfl,g,D⟩;refine⟨D,?_⟩;have Z:=g A J;rw[aS]at Z;have I:=g U J;rw[aq J,aq J,bB]at I;refine aF ?_;have eA:=cJ.trans g J;refine(bK i ar bX J eA J).mono ?_;rintro _ aL bS ⟨rfl,M,V⟩;refine⟨V,?_⟩;have dj:=(M A J).trans Z;have DL:=(M U J).trans I;refine hK @dj @Z (cG (J:i<1000000000000)) ?_;refine⟨λaT=>absurd aT ab,λ_=>?_⟩;refine⟨_,?_,i+1,rfl,J,rfl,DL,aK,J⟩;omega
 ·have:i=L.length:=J
  subst this;refine(anT (rK.F P  J) bl).mono ?_;rintro _ ar bX ⟨w,rfl,bV,g,D⟩;obtain⟨UQ,rfl,yG⟩:=id bV;obtain⟨nu,oe,rfl⟩:=yG.form;have Z:=(g U J).trans bB;refine bg @Z ?_;exact⟨_,rfl,bV.F ab J J,aK,J⟩
theorem anZ{s:al}{n i g:Nat}{eo nC aBM r10:al}{h:ae}{U:Nat}(bH:n<=4096)(dW:0<R)(Z:R<=8)(ed:0<C)(P:C<=8)(aj:i<R)(b1:j<C)(bB:u h cp=some (.cells [(n:X)] eo))(dL:u h cR=some (.cells [(R:X)] nC))(qJ:u h ff=some (.cells [(C:X)] aBM))(D:u h g=some (.cells [(j:X)] r10))(dE:cp<U)(fA:cR<U)(yV:ff<U)(b10:g<U):
  aH Q s 315 [(i:X),bd cp,bd cR,bd ff,bd g] h U
   (dC (((js (c8 n R (i+1)) (c8 n C j) (c8 n C (j+1))-js (c8 n R i) (c8 n C j) (c8 n C (j+1)):Nat):X)) U h):=by
 refine arN ?_;unfold adQ;refine cL @bB @dL ?_;refine(BU  bH dW Z J).mono ?_;rintro _ ar bX ⟨rfl,A,E⟩;refine⟨E,?_⟩;have V:=(A cp dE).trans bB;have g72:=(A ff yV).trans qJ;have M:=(A g b10).trans D;refine zT @V @g72 @M @bB @qJ @D ?_;refine(BU  bH ed P J).mono ?_;rintro _ aL bS ⟨rfl,e8,I⟩;refine⟨I,?_⟩;refine Wx.mono ?_;rintro _ bm dH ⟨rfl,fP,B⟩;refine⟨B,?_⟩;have bb:=s6 (n:=n) dW (i+1);generalize c8 n R i=a at *
 generalize c8 n R (i+1)=aB at *
 generalize c8 n C j=c at *
 generalize c8 n C (j+1)=d at *
 have fe:IntKind.wrap .i64 (((max (max a c) (min aB d):Nat):Int)-((max a c:Nat):Int))=((js aB c d-js a c d:Nat):Int):=by rw[show((max (max a c) (min aB d):Nat):Int)-((max a c:Nat):Int)=((js aB c d-js a c d:Nat):Int) by unfold js;omega];exact iT _ (by unfold js;omega)
 refine bg @fe ?_;exact⟨rfl,aK,J⟩
theorem arQ{s:al}{n:Nat}{v:X}{x:Nat->aw Int}{h:ae}{U:Nat}(bH:n<=4096)(E:0<R)(B:R<=8)(Z:0<C)(A:C<=8)(b1:j<C)(H:zN h U v (λi=>js (c8 n R i) (c8 n C j) (c8 n C (j+1))) R x):
  aH Q s 223 [(n:X),(R:X),(C:X),(j:X),v] h U (λr ac Y=>∃w,r = .tuple ⟨[w,.int .i64 0]⟩ /\
   py ac U Y w (c8 n C (j+1)-c8 n C j) (λk=>x (c8 n C j+k))/\aA U h ac/\U<=Y):=by
 refine aus ?_;have hmj:c8 n C j<=c8 n C (j+1):=ui J;have hlj:=s6 (n:=n) Z (j+1);have bZ:∀{o aX kZ fZ lr},aA U h (T (T (T (T (T h U o) (U+1) aX) (U+2) kZ) (U+3) fZ) (U+4) lr):=aK
 unfold afb;refine aF ?_;refine(Ww bH).mono ?_;rintro _ h1 bh ⟨rfl,gd,ez⟩;rw[gd,ez];refine aF ?_;refine(Py  E B Z A E b1).mono ?_;rintro _ ar bX ⟨rfl,I,V⟩;rw[I,V];refine aF ?_;unfold PK;refine aF ?_;refine(akx (H.F bZ  J) J   (λi aL bS aj g D=>?_)).mono ?_
 ·exact anZ bH E B Z A aj b1 ((g U J).trans (by rw[aq J,aq J,aq J,aq J,aS])) ((g (U+1) J).trans (by rw[aq J,aq J,aq J,aS])) ((g (U+2) J).trans (by rw[aq J,aq J,aS])) ((g (U+3) J).trans (by rw[aq J,aS])) J J J J
 rintro _ aL bS ⟨w,rfl,P,g,D⟩;have aM:js (c8 n R 0) (c8 n C j) (c8 n C (j+1))=c8 n C j:=by rw[adA];unfold js;omega
 have aV:js (c8 n R R) (c8 n C j) (c8 n C (j+1))=c8 n C (j+1):=by rw[adB E];unfold js;omega
 rw[aM,aV]at P;obtain⟨UQ,rfl,M⟩:=id P;obtain⟨nu,oe,rfl⟩:=M.form;have dj:=(g (U+4) J).trans (aS _ _ _);refine bg @dj ?_;exact⟨_,rfl,P.F ab J J,aK,J⟩
theorem J4{s:al}{n k:Nat}{p:Nat->al}{v:X}{h:ae}{U:Nat}(bH:n<=63)(E:k<n)(D:cN h U v jU (eS n p)):aH Q s 334 [v,(k:X)] h U (fo (.bool (p k)) U h):=by
 refine ae6 ?_;have I:eS n p=[mk n p]:=if_neg J;rw[I]at D;obtain⟨a,cap,rfl,Z⟩:=id D;obtain⟨b,aO,bJ,aT,rfl,V⟩:=Z (by simp);unfold RQ bG b9 c0 bT hT;refine(Xq J).mono ?_;rintro r aL M ⟨rfl,B,g⟩;rw[B,g];refine⟨cD _,?_⟩;refine aF ?_;refine(adn J).mono ?_;rintro r aL M ⟨rfl,B,g⟩;rw[B,g];refine⟨cD _,?_⟩;have eU:bin Q .and 188 (.int .u64 (mk n p:Int)) (.int .u64 ((2 ^ k:Nat):Int)) = .ok (.int .u64 (mk n (λi=>p i&&decide (i=k)):Int)):=by rw[acr E,E7 (wq J) (wq J),atd]
 have A:u h b=some (.cells [.int .u64 (mk n p:Int)] bJ):=V;simp(disch:=omega)only[bn,E8,show k / 64=0 by omega,show((0:Nat):Int)=0 from rfl,A,eU,nJ,Et,seval];have P:(!((mk n (λi=>p i&&decide (i=k)):Int) == 0))=p k:=by
  cases bk:p k with
  |true =>
   have:mk n (λi=>p i&&decide (i=k))≠0:=λe=>by
    have:=Fy.1 e k E
    grind
   grind
  |false =>
   have:mk n (λi=>p i&&decide (i=k))=0:=Fy.2 λi aj=>ab
   grind
 rw[P];exact⟨rfl,rfl,rfl⟩
def j0(x:Nat->aw Int)(i:Nat):al:=(x i).isSome
def jL(x:Nat->aw Int)(i:Nat):Int:=(x i).getD 0
def r7(h:ae)(U:Nat)(v:X)(n:Nat)(x:Nat->aw Int):Prop:=∃fg dp,v = .agg ⟨[(n:X),fg,dp]⟩/\cN h U fg jU (eS n (j0 x))/\ej h U dp c3 1 (cz n (jL x))
def CN(h:ae)(ao aj:Nat)(v:X)(n:Nat)(x:Nat->aw Int):Prop:=∃fg dp,v = .agg ⟨[(n:X),fg,dp]⟩/\eH h ao aj fg jU (eS n (j0 x))/\eH h ao aj dp c3 (cz n (jL x))
section
variable {h ac:ae} {U Y ao aj d6 dy n:Nat} {v:X} {x:Nat->aw Int}
theorem r7.F(H:r7 h U v n x)(A:aA U h ac)(g:U<=Y):r7 ac Y v n x:=by obtain⟨a,b,e,D,B⟩:=H;exact⟨a,b,e,D.F A g,B.F A g⟩
theorem CN.is(H:CN h ao aj v n x):r7 h aj v n x:=by obtain⟨a,b,e,A,g⟩:=H;exact⟨a,b,e,A.rd,cN.o (λ_=>rfl) g.rd⟩
theorem CN.F(H:CN h ao aj v n x)(A:∀b,ao<=b->b<aj->u ac b=u h b)(B:d6<=ao)(g:aj<=dy):CN ac d6 dy v n x:=by obtain⟨a,b,e,D,E⟩:=H;exact⟨a,b,e,D.F A B g,E.F A B g⟩
end
theorem an0(n:Nat)(f:Nat->Int)(k:Nat)(y:Int):(cz n f).set k y=cz n (λj=>if j=k then y else f j):=by
 apply oq;intro i;unfold cz
 grind
theorem aky(n:Nat):List.replicate n (Value.int .i64 0)=bc c3 (cz n λ_=>0):=by
 induction n with
 |zero=>rfl
 |succ n g =>
  rw[F2,zm,<-g,List.replicate_succ'];rfl
theorem Jn{n:Nat}{f g:Nat->Int}(h:∀i,i<n->f i=g i):cz n f=cz n g:=by exact o9 ab
theorem arR{s:al}{n:Nat}{h:ae}{U:Nat}(M:n<=63):aH Q s 388 [(n:X)] h U (λr ac Y=>∃E b,r = .agg ⟨[(n:X),E,.slice (some ⟨b,0,none⟩) n n]⟩/\U<b/\b<Y/\u ac b=some (.cells (bc c3 (cz n λ_=>0)) false)/\eH ac (U+1) b E jU (eS n λ_=>false)/\aA U h ac/\U<=Y):=by
 refine atK ?_;unfold aeH;refine aF ?_;unfold Ph Pg;refine aF ?_;refine⟨λA=>absurd A J,λ_=>⟨λA=>absurd A J,λ_=>?_⟩⟩;refine(abr M).mono ?_;rintro v Z I ⟨D,B,g⟩;obtain⟨V,cap,rfl,A⟩:=id D;refine⟨g,?_⟩;have P:=(B U J).trans (aS _ _ _);refine bg @P ?_;refine⟨_,I,rfl,J,J,?_,?_,aK,J⟩
 ·rw[aq J,aS,aky]
 ·exact D.F ab J J
theorem XD{s:al}{n:Nat}{v:X}{x:Nat->aw Int}{h:ae}{U:Nat}(aJ:r7 h U v n x)(bH:n<=63):aH Q s 478 [v] h U (dC (.bool true) U h):=by
 refine amy ?_;obtain⟨fg,dp,rfl,ap,E⟩:=aJ;obtain⟨a8,cap,rfl,aZ⟩:=id ap;obtain⟨M,g,rfl,qu⟩:=id E;have bZ:∀{o},aA U h (T h U o):=aK
 unfold aaQ;refine aF ?_;refine(Xu bH (ap.F  bZ J)).mono ?_;rintro _ h1 bh ⟨rfl,I,fy⟩;have Z:=(I U J).trans (aS _ _ _);refine bg @Z ?_;unfold NM;refine bg @Z ?_;rw[i7];refine⟨λaZ=>absurd aZ (by simp),λ_=>?_⟩;have V:=bZ.trans I J;refine bD.mk (λm aE ac Y=>∃i,m=n-i/\i<=n/\aE=[bd U,.bool false,.slice M n g,(n:X),(i:X)]/\ac=h1/\Y=bh) n ⟨0,J,J,rfl,rfl,rfl⟩ ?_;rintro _ _ ar bX ⟨i,rfl,aj,rfl,gd,ez⟩;rw[ajH];unfold Xk;refine aF ?_;refine⟨λD=>?_,λeN=>by rw[gd,ez];exact⟨rfl,V,J⟩⟩;have D:i<n:=J
 have ce:(cz n (jL x))[i]? = some (jL x i):=by
  unfold cz
  grind
 rw[gd,ez];have A:ej h1 bh (.slice M (cz n (jL x)).length g) c3 1 (cz n (jL x)):=E.F V J;rw[i7]at A;obtain⟨b,aX,aO,bJ,cs,mC,aT,aV,a6,P⟩:=ej.ld1  A ce;rw[i7]at aV;cases aV;refine cL @a6 @P ?_;have fin:∃bC,bC<n-i/\∃B,bC=n-B/\B<=n/\[Value.pointer (some ⟨U,0,none⟩),Value.bool false,Value.slice (some ⟨b,aX,aO⟩) n g,Value.int IntKind.i64 (n:Int),Value.int IntKind.i64 (IntKind.i64.wrap ((i:Int)+1))]=[Value.pointer (some ⟨U,0,none⟩),Value.bool false,Value.slice (some ⟨b,aX,aO⟩) n g,Value.int IntKind.i64 (n:Int),Value.int IntKind.i64 (B:Int)]:=⟨_,J,i+1,rfl,J,by rw[cG J]⟩
 refine⟨λcZ=>?_,λ_=>fin⟩;rw[Z];refine aF ?_;refine(J4 bH D (ap.F V  J)).mono ?_;rintro _ _ _ ⟨rfl,rfl,rfl⟩;have eU:j0 x i=true:=by
  unfold j0;unfold jL at cZ;cases a1:x i with
  |none=>grind
  |some y=>rfl
 refine bg @eU ?_;omega
theorem an1{s:al}{n:Nat}{v:X}{x:Nat->aw Int}{h:ae}{U:Nat}(D:r7 h U v n x)(P:n<=63):aH Q s 450 [v] h U (dC v U h):=by
 refine aqq ?_;have B:=D;obtain⟨fg,dp,rfl,Z,A⟩:=D;obtain⟨_,_,rfl,_⟩:=id Z;obtain⟨_,_,rfl,_⟩:=id A;have V:∀{o aX},aA U h (T (T h U o) (U+1) aX):=aK
 unfold ac5;refine aF ?_;refine(XD (B.F  V J) P).mono ?_;rintro _ h1 bh ⟨rfl,g,M⟩;have E:=g U J;rw[aq J,aS]at E;have I:=g (U+1) J;rw[aS]at I;refine cL @E @I ?_;exact⟨rfl,aK,J⟩
theorem adS{s:al}{n:Nat}{v:X}{x:Nat->aw Int}{h:ae}{U:Nat}(aJ:jQ h U v n x)(bH:n<=63):aH Q s 318 [v] h U (λr ac Y=>CN ac U Y r n x/\aA U h ac/\U<=Y):=by
 refine av6 ?_;have hp:=aJ;obtain⟨gK,rfl,ap⟩:=aJ;obtain⟨a8,cap,rfl,aZ⟩:=id ap;have bZ:∀{o aX},aA U h (T (T h U o) (U+1) aX):=aK
 unfold afU;refine aF ?_;refine(vG (hp.F  bZ J) J).mono ?_;rintro _ h1 bh ⟨rfl,d9,fy⟩;have cv:=d9 U J;rw[aq J,aS]at cv;have bB:=d9 (U+1) J;rw[aS]at bB;refine bg @cv ?_;refine(arR bH).mono ?_;rintro _ ar g ⟨fg,b,rfl,ig,fw,qG,Dp,Z,eZ⟩;have DM:=(Z U J).trans cv;have LH:=(Z (U+1) J).trans bB;obtain⟨E,A,rfl,_⟩:=id Dp;refine bg @DM ?_;have fW:=l3 n x;have g2n:u (T (T ar g (.cells [.int .i64 0,.slice none 0 0,.slice none 0 0] false)) g (.cells [(n:X),.slice E (eS n λx=>false).length A,.slice (some ⟨b,0,none⟩) n n] false)) g=some (.cells [(n:X),.slice E (eS n λx=>false).length A,.slice (some ⟨b,0,none⟩) n n] false):=ab
 have eA:aA g ar (T (T ar g (.cells [.int .i64 0,.slice none 0 0,.slice none 0 0] false)) g (.cells [(n:X),.slice E (eS n λx=>false).length A,.slice (some ⟨b,0,none⟩) n n] false)):=aK
 generalize fJ:T (T ar g (.cells [.int .i64 0,.slice none 0 0,.slice none 0 0] false)) g (.cells [(n:X),.slice E (eS n λx=>false).length A,.slice (some ⟨b,0,none⟩) n n] false)=aL at g2n eA ⊢;refine bD.mk (λm aE ac Y=>∃i,m=(bj n x).length-i/\i<=(bj n x).length/\aE=[bd U,.pointer (some ⟨U+1,0,none⟩),bd g,.slice a8 (bj n x).length cap,.int .i64 ((bj n x).length:Int),(i:X)] /\
  u ac b=some (.cells (bc c3 (cz n λk=>if mO (((bj n x).map (·.1)).take i) k=true then jL x k else 0)) false)/\(∀c,c<g+1->c≠b->u ac c=u aL c)/\g+1<=Y) (bj n x).length ⟨0,J,J,rfl,?_,ab,J⟩ ?_
 ·rw[eA b fw,qG];rfl
 rintro _ _ bm dH ⟨i,rfl,aj,rfl,gb4,M,ir⟩;have gR:aA U h bm:=aK
 have I:=(M g J J).trans g2n;have P:=(M U J J).trans ((eA U J).trans DM);have LN:=(M (U+1) J J).trans ((eA (U+1) J).trans LH);rw[atE];unfold acV;refine aF ?_;refine⟨λcA=>?_,λeN=>?_⟩
 ·obtain⟨⟨k,y⟩,ce⟩:=d1   J;obtain⟨hk,a1⟩:=vS ce;obtain⟨cd,aX,aO,bJ,cs,mC,hh,aV,a6,kl⟩:=(ap.F gR (Y:=dH) J).ld (λ_=>rfl) ce;cases aV;refine cL @a6 @kl ?_;rw[show fD (k,y)=[(k:X),(y:X)]from rfl];refine bg @I ?_;have bV:=Rj (enc:=c3)  (λ_=>rfl) (λ_=>rfl) (h:=T (T bm dH (.cells [.int .i64 0,.int .i64 0] false)) dH (.cells [(k:X),(y:X)] false)) (b:=b)  (l:=cz n λk=>if mO (((bj n x).map (·.1)).take i) k=true then jL x k else 0) (y:=y) (by rw[i7];omega);rw[EA]at bV;rw[show c3 y=[Value.int .i64 y]from rfl]at bV;rw[gb4,bV];refine bg (cG (J:i<1000000000000)) ?_;refine⟨_,?_,i+1,rfl,J,rfl,?_,λc h1 ar=>?_,J⟩
  ·omega
  ·rw[an0]
   congr 3
   apply Jn;intro j b1;rw[Y0 (show((bj n x).map (·.1))[i]? = some k by grind)]
   by_cases e:j=k
   ·subst e;simp[jL,a1]
   grind
  grind
 ·have:i=(bj n x).length:=J
  subst this;refine bg @P ?_;refine(Wv ((hp.F gR  J)) J).mono ?_;rintro aBN b3 fT ⟨bk,B,oJ⟩;refine⟨oJ,?_⟩;have g05:=(B U J).trans P;refine cL @P @g05 ?_;have mJ:(bj n x).map (λp=>(p.1:Int))=fX ((bj n x).map (·.1)):=by unfold fX;rw[ot];rfl
  rw[mJ]at bk;refine(J3 bH bk.rd (λj b1=>?_) ab).mono ?_
  ·obtain⟨⟨a,c⟩,cY,rfl⟩:=f0.1 b1;exact(jO.1 cY).1
  rintro j4 cF n6 ⟨bK,D,lD⟩;refine⟨lD,?_⟩;obtain⟨adf,az4,rfl,_⟩:=id bK;have V:=(D g J).trans ((B g J).trans I);have wP:=(D (U+1) J).trans ((B (U+1) J).trans LN);refine cL @V @wP ?_;have pV:eS n (mO ((bj n x).map (·.1)))=eS n (j0 x):=by
   unfold eS
   by_cases cZ:n=0
   ·grind
   ·rw[if_neg cZ,if_neg cZ,Cr];intro i aj;unfold mO j0;cases a1:x i with
    |none =>
     refine hl λbl=>?_;obtain⟨⟨a,c⟩,cY,rfl⟩:=f0.1 bl;have:=(jO.1 cY).2
     grind
    |some y=>exact g4 (f0.2 ⟨(i,y),jO.2 ab,rfl⟩)
  have ec:(cz n λk=>if mO (((bj n x).map (·.1)).take (bj n x).length) k=true then jL x k else 0)=cz n (jL x):=by
   apply Jn;intro i aj;rw[o8 ab];unfold mO jL;cases a1:x i with
   |none=>simp
   |some y =>
    rw[if_pos];exact g4 (f0.2 ⟨(i,y),jO.2 ab,rfl⟩)
  rw[ec]at gb4;refine⟨⟨_,_,rfl,?_,?_⟩,?_,J⟩
  ·rw[pV]at bK ⊢;exact bK.F ab J J
  ·refine⟨some ⟨b,0,none⟩,n,by rw[i7],λ_=>⟨b,none,false,J,J,rfl,?_⟩⟩;rw[aq J,aq J,D b J,B b J];omega
  ·exact(((gR.trans B J).trans D J).set J).set J
def Hs(s:al)(G:Nat)(cs:aa X)(N:Nat)(A:Nat->aa X)(S:ae->Nat->Prop):Prop :=
 ∀(l:Nat) (I:Nat->ae->Nat->Prop) (ac:ae) (Y:Nat),(∀k h1 bh,I k h1 bh->S h1 bh)->(∀k h1 bh ar bX,I k h1 bh->aA bh h1 ar->bh<=bX->I k ar bX)->I 0 ac Y ->
  (∀(mp:al) k,k<N->∀h1 bh,I k h1 bh->lN Q mp l (A k) h1 bh (λr ar bX=>r = .bool true/\I (k+1) ar bX/\bh<=bX))->aH Q s G (.func (.yield l) ⟨[]⟩ ⟨[]⟩::cs) ac Y (λ_ ar bX=>I N ar bX)
theorem Rk{s:al}{ak:cc}{Z:aa Nat}{a b:Code}{N:Nat}{A:Nat->aa X}{h:ae}{U:Nat}{aAH aBO:ae->Nat->Prop}(I:Nat->ae->Nat->Prop)(it:Hs s G cs N A S)(hk:∀k g B,I k g B->S g B/\U+1<=B)(V:∀k g B M E,I k g B->(∀c,c<B->c≠U->u M c=u g c)->B<=E->I k M E)(au:I 0 (T h U (.loop 0 none ak Z a b)) (U+1))(step:∀(s:al) k,k<N->∀g B,I k g B->u g U=some (.loop 0 none ak Z a b)->lN Q s U (A k) g B (λr M E=>r = .bool true/\u M U=some (.loop 0 none ak Z a b)/\I (k+1) M E/\B<=E))(fin:∀g B,I N g B->aAH g B):tu Q s (.func (.func G) ⟨[]⟩ ⟨cs⟩) h U (.loop 0 none ak Z a b) (x4 U aAH aBO):=by
 refine(it U (λk g B=>u g U=some (.loop 0 none ak Z a b)/\I k g B) _ _ (λk g B D=>(hk k g B D.2).1)
  (λk g B M E D P dR=>⟨(P U (by have:=(hk k g B D.2).2;omega)).trans D.1,V k g B M E D.2 (λc g _=>P c g) dR⟩) ⟨ab,au⟩ λs k S3 g B D=>?_).mono ?_
 ·exact(step s k S3 g B D.2 D.1).mono λr M E ⟨aV,aP,ch,e6⟩=>⟨aV,⟨aP,ch⟩,e6⟩
 ·rintro _ g B ⟨bb,D⟩;exact⟨0,none,_,_,_,_,bb,J,.inl ⟨rfl,fin _ _ (V _ _ _ _ _ D ab J)⟩⟩
theorem akz{s:al}{h:ae}{U:Nat}(fq:L.length<=10000)(it:Hs s G cs L.length (λk=>[.agg ⟨fD (L.getD k (0,0))⟩]) S)(V:∀g A,aA U h g->U<=A->S g A):
  aH Q s 495 [.slice none 0 0,.func (.func G) ⟨[]⟩ ⟨cs⟩] h U (λr ac Y=>eH ac U Y r fD L/\aA U h ac/\U<=Y):=by
 refine anp ?_;unfold abo;refine aF ?_;refine Rk (λk g A=>∃v,u g U=some (.cells [v] false)/\gS v=true/\d5 g v fD 2 (L.take k) (U+2) A/\aA U h g/\U+2<=A) it ?_ ?_ ?_ ?_ ?_
 ·rintro k g A ⟨v,_,_,_,g,ar⟩;exact⟨V _ _ g J,ar⟩
 ·rintro k g A ar bX ⟨v,e,ec,B,hk,E⟩ ei I;exact⟨v,ab,ec,B.F ab I,aK,J⟩
 ·exact⟨_,ab,rfl,.inl ⟨rfl,rfl⟩,aK,J⟩
 ·rintro s k hk g A ⟨v,e,ec,B,D,E⟩ bb;obtain⟨p,bk⟩:=d1 hk;have sn:L.getD k (0,0)=p:=ab
  rw[sn];refine aj7 bb ?_;unfold OA Zf;generalize uo _ _ _=ak at *
  simp(disch:=omega)only[bn,show dh (.agg ⟨fD p⟩)=[(p.1:X),(p.2:X)]from rfl,seval];refine⟨none,bb,?_⟩;refine bg @e ?_;refine l4 (k:=2) (λ_=>rfl) (λ_=>rfl) J (B.F ab J) J p (aS _ _ _) rfl ab λdN b3 Z hq=>?_;have el:u b3 (U+1)=some (.loop 1 none ak [7] uj uk):=ab
  have gz:u b3 U=some (.cells [v] false):=ab
  have ck:L.take (k+1)=L.take k++[p]:=by rw[hx,bk];rfl
  rcases Z with⟨aM,rfl⟩|⟨b,M,P,rfl,a6⟩
  ·simp at aM
  ·refine bg @gz ?_;refine⟨1,none,el,⟨_,rfl,rfl,.inr ⟨b,M,J,by rw[ck],?_⟩,aK,J⟩,J⟩
   grind
 ·rintro g A ⟨v,e,ec,B,D,E⟩;rw[iQ]at B;refine bg @e ?_;refine⟨?_,D,J⟩;rcases B with⟨rfl,rfl⟩|⟨b,M,P,rfl,a6⟩
  ·exact⟨_,_,rfl,λh=>absurd rfl h⟩
  ·exact⟨_,_,rfl,λ_=>⟨b,some 2,false,J,P,rfl,a6⟩⟩
theorem Jo{q:Nat->al}{a:Int}:∀{n:Nat},(∀i,i<n->q i=true->¬a<=(i:Int))->fE q a n = -1
 |0,_=>rfl
 |n+1,h=>by show(if fE q a n = -1 then(if q n=true/\a<=(n:Int)then(n:Int)else -1)else fE q a n) = -1;rw[if_pos (Jo ab),if_neg λg=>h n J g.1 g.2]
theorem adT{a:Int}{n:Nat}(D:m<n)(B:q m=true)(E:a<=(m:Int))(g:∀i,i<m->q i=true->¬a<=(i:Int)):fE q a n=(m:Int):=by
 have A:fE q a m = -1:=Jo g;have I:fE q a (m+1)=(m:Int):=by
  show(if fE q a m = -1 then(if q m=true/\a<=(m:Int)then(m:Int)else -1)else fE q a m)=_
  grind
 have:=QH (q:=q) (a:=a) (k:=m+1) J (n-(m+1))
 grind
def wQ(n:Nat)(x:Nat->aw Int)(j:Nat):Int:=match(bj n x)[j]? with
 |some p=>(p.1:Int)
 |none=>-1
theorem an2(n:Nat)(x:Nat->aw Int):fE (j0 x) 0 n=wQ n x 0:=by
 unfold wQ;cases D:(bj n x)[0]? with
 |none =>
  refine Jo λi aj g=>?_;unfold j0 at g;cases E:x i with
  |none=>grind
  |some y =>
   have:=jO.2 ⟨aj,E⟩
   grind
 |some p =>
  obtain⟨M,E⟩:=vS   D;refine adT M (by unfold j0;grind) J λi aj g=>?_;unfold j0 at g;cases A:x i with
  |none=>grind
  |some y =>
   obtain⟨j,P,e⟩:=El (jO.2 ⟨show i<n by omega,A⟩);have B:(bj n x)[j]? = some (i,y):=ab
   rcases y8 j with rfl|I
   ·grind
   ·have:=uD   D B I;omega
theorem arS{n:Nat}{x:Nat->aw Int}(M:(bj n x)[j]? = some p):fE (j0 x) ((p.1:Int)+1) n=wQ n x (j+1):=by
 unfold wQ;have E:∀i,i<n->j0 x i=true->(p.1:Int)+1<=(i:Int)->∃m y,j<m/\(bj n x)[m]? = some (i,y):=λi aj B A=>by
  unfold j0 at B;cases I:x i with
  |none=>grind
  |some y =>
   obtain⟨m,P,e⟩:=El (jO.2 ⟨aj,I⟩);have g:(bj n x)[m]? = some (i,y):=ab
   refine⟨m,y,?_,g⟩;rcases za m j with h|h|h
   ·have:=uD   g M h;omega
   all_goals grind
 cases D:(bj n x)[j+1]? with
 |none =>
  refine Jo λi aj B A=>?_
  grind
 |some Z =>
  obtain⟨V,a1⟩:=vS   D;have:=uD     M D J;refine adT V (by unfold j0;grind) J λi aj B A=>?_;obtain⟨m,y,P,g⟩:=E i J B A;rcases jn (j+1) m with h|h
  ·have:=uD   D g h;omega
  grind
def ayv(n cp:Nat)(x:Nat->aw Int)(fg dp:X)(h:ae)(U:Nat):Prop:=u h cp=some (.cells [(n:X),fg,dp] false)/\cN h U fg jU (eS n (j0 x))/\ej h U dp c3 1 (cz n (jL x))
theorem an3{s:al}{n:Nat}{x:Nat->aw Int}{fg dp:X}(bH:n<=63):
  Hs s 479 [bd cp] (bj n x).length (λk=>[.int .i64 (((bj n x).getD k (0,0)).1:Int),.int .i64 ((bj n x).getD k (0,0)).2]) (ayv n cp x fg dp):=by
 intro l I ac Y aj M au ce;refine aqu ?_;unfold ac8;obtain⟨cv,ap,rz⟩:=aj _ _ _ au;obtain⟨a8,cap,rfl,aZ⟩:=id ap;obtain⟨ad2,tm,rfl,qu⟩:=id rz;refine bg @cv ?_;refine(PC bH ap).mono ?_;rintro _ h1 bh ⟨rfl,d9,A⟩;rw[an2];refine bD.mk (λm aE ar Z=>∃j,m=(bj n x).length-j/\j<=(bj n x).length/\aE=[.func (.yield l) ⟨[]⟩ ⟨[]⟩,bd cp,.int .i64 (wQ n x j)]/\I j ar Z) (bj n x).length ⟨0,J,J,rfl,M _ _ _ _ _ au d9 A⟩ ?_;rintro _ _ ar Z ⟨j,rfl,b1,rfl,rJ⟩;rw[amz];unfold YI;obtain⟨g2,nd,P⟩:=aj _ _ _ rJ;rcases jn j (bj n x).length with D|eN
 ·obtain⟨p,E⟩:=d1 D;obtain⟨hk,a1⟩:=vS   E;have gZ:wQ n x j=(p.1:Int):=by unfold wQ;grind
  have sn:(bj n x).getD j (0,0)=p:=ab
  have SD:(cz n (jL x))[p.1]? = some p.2:=by unfold cz;rw[rT,xg hk];unfold jL;grind
  obtain⟨b,aX,aO,bJ,cs,mC,aT,aV,oU,kl⟩:=ej.ld1  P SD;cases aV;rw[gZ];rw[i7]at *
  refine hK @g2 @oU @kl ?_;refine⟨λ_=>?_,λaZ=>absurd aZ J⟩;have vr:=ce s j D ar Z rJ;simp only[sn]at vr;refine vr.mono ?_;rintro _ aL bS ⟨rfl,g,DF⟩;obtain⟨dj,V,az5⟩:=aj _ _ _ g;refine cL @dj (cG (J:p.1<1000000000000)) ?_;refine(PC bH V).mono ?_;rintro _ bm dH ⟨rfl,fP,B⟩;exact⟨_,J,j+1,rfl,J,by rw[show((p.1+1:Nat):Int)=(p.1:Int)+1 by omega,arS E],M _ _ _ _ _ g fP B⟩
 ·have:j=(bj n x).length:=J
  subst this;have gZ:wQ n x (bj n x).length = -1:=by unfold wQ;grind
  rw[gZ];refine aF ?_;exact⟨λh=>absurd trivial h,rJ⟩
theorem an4{s:al}{n:Nat}{v:X}{x:Nat->aw Int}{h:ae}{U:Nat}(aJ:r7 h U v n x)(bH:n<=63):aH Q s 391 [v] h U (λr ac Y=>k9 ac U Y r n x/\aA U h ac/\U<=Y):=by
 refine arn ?_;have hp:=aJ;obtain⟨fg,dp,rfl,ap,Z⟩:=aJ;obtain⟨a8,cap,rfl,aZ⟩:=id ap;obtain⟨P,g,rfl,qu⟩:=id Z;have fW:=l3 n x;unfold adE;refine aF ?_;refine(an1 (hp.F aK J) bH).mono ?_;rintro _ ar B ⟨rfl,D,I⟩;have cv:=(D U J).trans ((aq J).trans (aS _ _ _));have bB:=(D (U+1) J).trans (aS _ _ _);refine cL @cv @bB ?_;refine atL ?_;unfold aeI;refine aF ?_;have Tu:=an3 (s:=s) (cp:=B+1) (x:=x) (fg:=.slice a8 (eS n (j0 x)).length cap) (dp:=.slice P (cz n (jL x)).length g) bH;generalize fq:bj n x=L at *
 refine Rk (λk A V=>∃w,u A B=some (.cells [(n:X),w] false)/\gS w=true/\d5 A w fD 2 (L.take k) (B+3) V/\u A (U+1)=some (.cells [.int .i64 0,.slice none 0 0] false)/\u A (B+1)=some (.cells [(n:X),.slice a8 (eS n (j0 x)).length cap,.slice P (cz n (jL x)).length g] false)/\aA U h A/\B+3<=V) Tu ?_ ?_ ?_ ?_ ?_
 ·rintro k A V ⟨w,e,fe,E,aP,ch,hk,M⟩;exact⟨⟨ch,ap.F hk J,Z.F hk J⟩,J⟩
 ·rintro k A V ar n2' ⟨w,e,fe,E,aP,ch,hk,M⟩ D I;exact⟨w,ab,fe,E.F ab I,ab,ab,aK,J⟩
 ·exact⟨.slice none 0 0,ab,rfl,.inl ab,ab,ab,λc aZ=>by
   repeat rw[aq J]
   rw[D c J]
   repeat rw[aq J],J⟩
 ·rintro s k hk A V ⟨w,e,fe,E,aP,ch,hkp,M⟩ bb;obtain⟨p,bk⟩:=d1 hk;have sn:L.getD k (0,0)=p:=ab
  rw[sn];refine anr bb ?_;unfold PA abp;generalize uv _ _ _ _ _ _ _ _ _ _ _=ak at *
  refine⟨none,bb,?_⟩;refine bg @e ?_;refine l4 (k:=2) (ao:=B+3) (λ_=>rfl) (λ_=>rfl) J (E.F ab J) J p (aS _ _ _) rfl ab λdN b3 rr hq=>?_;have el:u b3 (B+1+1)=some (.loop 1 none ak [13,14] uq ur):=ab
  have gz:u b3 B=some (.cells [(n:X),w] false):=ab
  have ik:u b3 (U+1)=some (.cells [.int .i64 0,.slice none 0 0] false):=ab
  have gF:u b3 (B+1)=some (.cells [(n:X),.slice a8 (eS n (j0 x)).length cap,.slice P (cz n (jL x)).length g] false):=ab
  have UR:aA U h b3:=aK
  have ck:L.take (k+1)=L.take k++[p]:=by rw[hx,bk];rfl
  rcases rr with⟨aM,rfl⟩|⟨b,ig,fw,rfl,a6⟩
  ·simp at aM
  ·refine bg @gz ?_;refine⟨1,none,el,⟨_,rfl,rfl,.inr ⟨b,ig,J,by rw[ck],?_⟩,ik,gF,(UR.set J).set J,J⟩,J⟩
   grind
 ·rintro A V ⟨w,e,fe,E,aP,ch,hkp,M⟩;rw[iQ]at E;obtain⟨_,_,rfl⟩:∃a c,w = .slice a L.length c:=by
   rcases E with⟨aV,rfl⟩|⟨b,_,_,rfl,_⟩
   all_goals grind
  refine cL @e @aP ?_;refine⟨⟨_,rfl,?_⟩,aK,J⟩;rw[fq];rcases E with⟨rfl,aV⟩|⟨b,ig,fw,aV,a6⟩
  ·exact⟨_,_,aV,λh=>absurd rfl h⟩
  ·exact⟨_,_,aV,λ_=>⟨b,some 2,false,J,fw,rfl,ab⟩⟩
theorem JP:∀(p:aa GE) (a:Nat),a∈dS p↔∃g∈p,g.f=a:=by
 refine Cj (λa=>⟨λh=>(sT h).elim,ab⟩) λp g B a=>⟨FH _ a,?_⟩
 rintro⟨x,A,rfl⟩;rw[vL];unfold s8
 grind
theorem auu:∀(p:aa GE),kK p->(dS p).Pairwise (·<·):=by
 refine Cj (λ_=>List.Pairwise.nil) λp g V E=>?_;have bk:=V (sS.1 E).1;rw[vL];unfold s8
 split
 ·omega
 ·rename_i D
  refine sS.2 ⟨bk,ab,λa cY b P=>?_⟩;rw[iP.1 P];obtain⟨x,A,rfl⟩:=FH p a cY;have I:=zB E x A;rcases I with I|I
  ·omega
  ·exfalso;rw[Zd]at D;cases M:p.getLast? with
   |none=>grind
   |some y =>
    rw[M]at D;have Z:=zB E y ab;unfold mM at Z;have ce:¬y.f=g.f:=ab
    obtain⟨q,cM⟩:=Ii.1 M;have B:=(sS.1 E).1;rw[cM]at B A;rcases hb.1 A with A|A
    ·have:=zB B x A;unfold mM at this;omega
    grind
theorem abG(A:a<=b)(h:∀g∈ag,¬(a<=g.f/\g.f<b)):dA ag b=dA ag a:=by
 unfold dA
 congr 1
 apply Iq
 grind
theorem zO(A:kK ag){i:Nat}(aj:(dS ag)[i]? = some a)(B:(dS ag)[j]? = some b)(g:i<j):a<b:=by
 have h:=auu ag A;rw[Bx]at h
 grind
theorem Cy(g:(dS ag)[m]? = some a):(gX ag)[m]? = some (dA ag a:Int):=by
 unfold gX
 grind
theorem PL(ag:aa GE):(gX ag)[(dS ag).length]? = some (ag.length:Int):=by
 unfold gX
 grind
theorem arT(h:∀g∈ag,g.f<a):dA ag a=ag.length:=by unfold dA;rw[y6.2 ab]
theorem Jp(M:kK ag)(E:(dS ag)[m]? = some a):(gX ag)[m+1]? = some (dA ag (a+1):Int):=by
 have P:=(hY.1 E).1;have I:∀g∈ag,a<g.f->∃j,m<j/\(dS ag)[j]? = some g.f:=λg D Z=>by
  obtain⟨j,b1,e⟩:=El ((JP ag g.f).2 ⟨g,D,rfl⟩);have A:(dS ag)[j]? = some g.f:=ab
  refine⟨j,?_,A⟩;rcases za m j with h|h|h
  ·exact h
  ·grind
  ·have:=zO M A E h;omega
 rcases jn (m+1) (dS ag).length with h|h
 ·have B:(dS ag)[m+1]? = some (dS ag)[m+1]:=ab
  generalize (dS ag)[m+1]=b at B;have yu:=zO M E B J;rw[Cy B,abG (a:=a+1) J];rintro g D ⟨h1,ar⟩;obtain⟨j,b1,e⟩:=I g D J;rcases jn (m+1) j with V|V
  ·have:=zO M B e V;omega
  grind
 ·have:m+1=(dS ag).length:=J
  rw[this,PL,arT]
  grind
theorem arU(A:a∈dS ag):dA ag a<dA ag (a+1):=by
 obtain⟨g,B,rfl⟩:=FH ag a A;rw[Y9];have:0<hA ag (g.f+1):=by
  apply Em.2;intro e;have this:g∈(ag.filter λx=>decide (x.f+1=g.f+1)):=ab
  grind
 omega
theorem awH(I:kK ag):(gX ag)[0]? = some 0:=by
 cases h:(dS ag)[0]? with
 |some a =>
  rw[Cy h,show dA ag a=dA ag 0 from abG (by omega) ?_,Kp];rfl;rintro g E ⟨_,M⟩;obtain⟨j,P,e⟩:=El ((JP ag g.f).2 ⟨g,E,rfl⟩);have A:(dS ag)[j]? = some g.f:=ab
  rcases y8 j with rfl|D
  ·grind
  ·have:=zO I h A D;omega
 |none =>
  have e:(dS ag).length=0:=ab
  have B:=PL ag;rw[e]at B;rw[B];have:ag=[]:=by
   cases ag with
   |nil=>rfl
   |cons x l =>
    have:=(JP (x::l) x.f).2 ⟨x,ab,rfl⟩
    grind
  grind
theorem auv(E:kK ag){x y:Int}(B:(gX ag)[m]? = some x)(A:(gX ag)[m+1]? = some y):x<y:=by
 have D:=(hY.1 A).1;rw[xG]at D;have g:(dS ag)[m]? = some (dS ag)[m]:=ab
 generalize (dS ag)[m]'J=a at g;rw[Cy g]at B;rw[Jp E g]at A;cases B;cases A;have:=arU (k4 g);omega
theorem awI{x:Int}(g:(gX ag)[m]? = some x):0<=x/\x<=ag.length:=by
 have:=k4 g;rcases hb.1 this with h|h
 ·obtain⟨a,_,rfl⟩:=f0.1 h;have:=uC ag a;omega
 grind
theorem ej.i{h:ae}{U:Nat}{v:X}{l:aa Int}(H:ej h U v c3 1 l):sx h U v l:=by
 obtain⟨a,cap,e,D⟩:=id H;refine⟨a,cap,e,λg=>?_⟩;obtain⟨b,o,aO,bJ,cs,E,I,V,h1,ar⟩:=D g;refine⟨b,o,aO,bJ,cs,E,I,V,λi x M=>?_⟩;obtain⟨cd,aX,B,ro',sh,A,_,ch,P,Z⟩:=ej.ld1  H M
 grind
theorem Ns{s:al}{n m:Int}{h:ae}{U:Nat}:aH Q s 492 [(n:X),(m:X)] h U (fo (.bool (decide (0<=n/\n<=m))) U h):=by
 refine akl ?_;unfold Zq;refine aF ?_;refine⟨λA=>?_,λA=>?_⟩
 ·by_cases g:m<n
  ·rw[g4 g,hl J];exact⟨rfl,rfl,rfl⟩
  ·rw[hl g,g4 J];exact⟨rfl,rfl,rfl⟩
 ·rw[hl J];exact⟨rfl,rfl,rfl⟩
theorem Nt{s:al}{l:aa Int}{v:X}{B:Int}{h:ae}{U:Nat}(V:ej h U v c3 1 l)(bb:l.length<1000000)(et:0<=B/\B<1000000000)(aT:∀(i:Nat) x,l[i]? = some x->0<=x/\x<B)(a5:∀(i:Nat) x y,l[i]? = some x->l[i+1]? = some y->x<y):
  aH Q s 493 [v,(B:X)] h U (fo (.bool true) U h):=by
 refine akm ?_;unfold Zr;obtain⟨a8,cap,rfl,aZ⟩:=id V;refine aF ?_;refine bD.mk (λm aE ac Y=>∃i,m=l.length-i/\i<=l.length/\aE=[.slice a8 l.length cap,(B:X),.bool false,.slice a8 l.length cap,(l.length:X),(i:X)]/\ac=h/\Y=U) l.length ⟨0,J,J,rfl,rfl,rfl⟩ ?_;rintro _ _ ar bX ⟨i,rfl,aj,rfl,gd,ez⟩;rw[aip,gd,ez];unfold Wt;refine aF ?_;refine⟨λcA=>?_,λeN=>⟨rfl,rfl,rfl⟩⟩;obtain⟨x,I⟩:=d1   J;obtain⟨_,_,aV,rJ⟩:=V.i;cases aV;obtain⟨b,aX,aO,bJ,cs,hh,rfl,M,D⟩:=rJ ab;have E:=D i x I;have hbx:=aT i x I;have fe:IntKind.wrap .i64 (B-1)=B-1:=by rw[oE];omega
 have fin:∀a,∃P,P<l.length-i/\∃g,P=l.length-g/\g<=l.length/\[Value.slice a l.length cap,Value.int .i64 B,Value.bool false,Value.slice a l.length cap,Value.int .i64 (l.length:Int),Value.int .i64 (IntKind.wrap .i64 ((i:Int)+1))]=[Value.slice a l.length cap,Value.int .i64 B,Value.bool false,Value.slice a l.length cap,Value.int .i64 (l.length:Int),Value.int .i64 (g:Int)]:=λa=>⟨_,J,i+1,rfl,J,by rw[cG J]⟩
 refine hK @M @E @fe ?_;refine Ns.mono ?_;rintro _ _ _ ⟨rfl,rfl,rfl⟩;rw[g4 (J:0<=x/\x<=B-1)];refine aF ?_;refine⟨λbk=>?_,λ_=>fin _⟩;obtain⟨k,rfl⟩:∃k,i=k+1:=⟨i-1,J⟩
 obtain⟨y,ce⟩:=d1 (l:=l) (i:=k) J;have A:=D k y ce;have Z:=a5 k y x ce I;have cn:IntKind.wrap .i64 (((k+1:Nat):Int)-1)=(k:Int):=by rw[oE];omega
 rw[cn];refine cL @M @A ?_;exact⟨λh=>absurd h J,λ_=>fin _⟩
def mE(h:ae)(U:Nat)(v:X)(r c:Nat)(ag:aa GE):Prop :=
 ∃v1 v2 v3 v4,v = .agg ⟨[(r:X),(c:X),v1,v2,v3,v4]⟩/\ej h U v1 c3 1 (gC ag)/\ej h U v2 c3 1 (gX ag)/\iB h 0 U v3 c3 1 (fp ag)/\ej h U v4 c3 1 (gq ag)
theorem mE.F{h ac:ae}{U Y:Nat}{v:X}{r c:Nat}{ag:aa GE}(H:mE h U v r c ag)(A:aA U h ac)(g:U<=Y):mE ac Y v r c ag:=by obtain⟨Z,P,D,M,e,h1,I,V,E⟩:=H;exact⟨Z,P,D,M,e,h1.F A g,I.F A g,V.F (λb _ B=>A b B) J g,E.F A g⟩
theorem nV.o{h:ae}{ao aj:Nat}{v:X}{l:aa Int}(H:nV h ao aj v l):ej h aj v c3 1 l:=by
 obtain⟨B,g,D⟩:=H;rcases g with⟨rfl,rfl,rfl⟩|⟨b,rfl,rfl,A⟩
 ·exact ej.nil
 ·exact cN.o (λ_=>rfl) ⟨_,_,rfl,λ_=>⟨b,_,_,ab,rfl,A⟩⟩
theorem nV.f{h:ae}{ao aj:Nat}{v:X}{l:aa Int}(H:nV h ao aj v l):iB h 0 aj v c3 1 l:=by
 obtain⟨B,g,D⟩:=H;rcases g with⟨rfl,rfl,rfl⟩|⟨b,rfl,rfl,A⟩
 ·exact .inl ab
 ·exact .inr ⟨b,J,ab,rfl,A⟩
theorem xP.s{h:ae}{ao aj:Nat}{v:X}{c:Nat}(H:xP h ao aj v r c ag):mE h aj v r c ag:=by obtain⟨M,Z,A,D,e,V,⟨b,aO,rfl,P,g,E⟩,I,B⟩:=H;refine⟨M,_,A,D,e,V.o,cN.o (λ_=>rfl) ⟨some ⟨b,0,aO⟩,_,rfl,λ_=>⟨b,aO,false,g,rfl,?_⟩⟩,I.f,B.o⟩;rw[E,iG]
theorem an5(h:kK ag)(a:Nat):((fp ag).drop (dA ag a)).take (dA ag (a+1)-dA ag a)=(eM ag a).map λg=>(g.t:Int):=by unfold fp;rw[<-List.map_drop,<-List.map_take,Ch h]
theorem Ck{g:GE}(h:g∈eM ag a):g∈ag/\g.f=a:=by
 unfold eM at h
 grind
theorem XE{s:al}{c:Nat}{v:X}{h:ae}{U:Nat}(M:g8 c r ag)(aJ:mE h U v r c ag):aH Q s 477 [v] h U (dC (.bool true) U h):=by
 refine anO ?_;obtain⟨v1,v2,v3,v4,rfl,h1,ar,aL,bm⟩:=aJ;obtain⟨aB,V,rfl,_⟩:=id h1;obtain⟨a2,c2,rfl,_⟩:=id ar;obtain⟨a3,ci,rfl⟩:=aL.form;obtain⟨aY,Z,rfl,_⟩:=id bm;have a5:=M.a5;have aZ:=M.aZ;have bb:=M.len;have bZ:∀{o},aA U h (T h U o):=aK
 have dQ:(gC ag).length=(dS ag).length:=FJ ag;have dB:(gX ag).length=(dS ag).length+1:=xG ag;have jz:(fp ag).length=ag.length:=by unfold fp;grind
 have ly:(gq ag).length=ag.length:=by unfold gq;grind
 have yP:=FI ag;unfold aby;rw[dQ,dB,jz,ly];have om:u (T h U (.cells [(r:X),(c:X),.slice aB (dS ag).length V,.slice a2 ((dS ag).length+1) c2,.slice a3 ag.length ci,.slice aY ag.length Z] false)) U=some (.cells [(r:X),(c:X),.slice aB (dS ag).length V,.slice a2 ((dS ag).length+1) c2,.slice a3 ag.length ci,.slice aY ag.length Z] false):=ab
 have ng:=h1.F (bZ (o:=.cells [(r:X),(c:X),.slice aB (dS ag).length V,.slice a2 ((dS ag).length+1) c2,.slice a3 ag.length ci,.slice aY ag.length Z] false)) (Y:=U+1) J;have P:=ar.F (bZ (o:=.cells [(r:X),(c:X),.slice aB (dS ag).length V,.slice a2 ((dS ag).length+1) c2,.slice a3 ag.length ci,.slice aY ag.length Z] false)) (Y:=U+1) J;have Az:=aL.F (λb _ aT=>bZ (o:=.cells [(r:X),(c:X),.slice aB (dS ag).length V,.slice a2 ((dS ag).length+1) c2,.slice a3 ag.length ci,.slice aY ag.length Z] false) b aT) (cD _) (dy:=U+1) J;rw[dQ]at ng;rw[dB]at P;rw[jz]at Az;have Bn:=bZ (o:=.cells [(r:X),(c:X),.slice aB (dS ag).length V,.slice a2 ((dS ag).length+1) c2,.slice a3 ag.length ci,.slice aY ag.length Z] false);refine aF ?_;generalize T h U (.cells [(r:X),(c:X),.slice aB (dS ag).length V,.slice a2 ((dS ag).length+1) c2,.slice a3 ag.length ci,.slice aY ag.length Z] false)=H at *
 refine Ns.mono ?_;rintro _ _ _ ⟨rfl,E,I⟩;rw[E,I,g4 (J:0<=(r:Int)/\(r:Int)<=4096)];refine bg @om ?_;refine Ns.mono ?_;rintro _ _ _ ⟨rfl,E,I⟩;rw[E,I,g4 (J:0<=(c:Int)/\(c:Int)<=4096)];refine cL @om (cG (J:(dS ag).length<1000000000000)) ?_;have pX:∀x:Int,(x == x)=true:=ab
 have lx:decide (65536<(ag.length:Int))=false:=ab
 simp only[pX,lx];refine⟨λh=>absurd h (by decide),λ_=>⟨λh=>absurd h (by decide),λ_=>?_⟩⟩;have US:∀(i:Nat) x,(gC ag)[i]? = some x->∃a:Nat,(dS ag)[i]? = some a/\x=(a:Int):=λi x A=>by
  unfold gC at A
  grind
 unfold BV;refine bg @om ?_;have h1r:=Nt (s:=s) (B:=(c:Int)) (by rw[<-dQ]at ng;exact ng) J J (λi x A=>by obtain⟨a,aV,rfl⟩:=US i x A;obtain⟨g,a6,rfl⟩:=FH ag a ab;have:=M.rows g a6;omega) (λi x y A ce=>by obtain⟨a,aV,rfl⟩:=US i x A;obtain⟨b,aP,rfl⟩:=US _ y ce;have:=zO M.up aV aP J;omega)
 rw[dQ]at h1r;refine h1r.mono ?_;rintro _ _ _ ⟨rfl,E,I⟩;rw[E,I];refine cL @om (cG (J:ag.length<1000000000000)) ?_;have h2r:=Nt (s:=s) (B:=((ag.length+1:Nat):Int)) (by rw[<-dB]at P;exact P) J J (λi x A=>by have:=awI A;omega) (λi x y A ce=>auv M.up A ce)
 rw[dB]at h2r;refine h2r.mono ?_;rintro _ _ _ ⟨rfl,E,I⟩;rw[E,I];have h2i:=P;rw[<-dB]at h2i;obtain⟨_,_,aP,Ht⟩:=h2i.i;rw[dB]at aP;cases aP;obtain⟨b4,dO,mf,wG,yB,fw,rfl,jq,D⟩:=Ht ab;have nx:=D 0 _ (awH M.up);rw[nK]at nx;have jl:=D _ _ (PL ag);refine uG @om @jq @nx @jl @pX ?_;unfold EY;refine bg @om ?_;refine bD.mk (λm aE ac Y=>∃i,m=(dS ag).length-i/\i<=(dS ag).length/\aE=[bd U,.bool false,.int .i64 ((dS ag).length:Int),(i:X)]/\ac=H/\Y=U+1) (dS ag).length ⟨0,J,J,rfl,rfl,rfl⟩ ?_;rintro _ _ b3 fT ⟨i,rfl,aj,rfl,E,I⟩;rw[akk,E,I];unfold Xy;refine aF ?_;refine⟨λcA=>?_,λeN=>⟨rfl,Bn,J⟩⟩;obtain⟨a,cY⟩:=d1   J;have cu:=D _ _ (Cy cY);have ct:=D _ _ (Jp M.up cY);refine uG @om @jq @cu @ct (cG (J:i<1000000000000)) ?_;rw[<-jz]at Az;obtain⟨w,fe,bV⟩:=iB.cut  (k:=1) (λ_=>rfl) J Az (i:=dA ag a) (j:=dA ag (a+1)) (zs ag J) (by rw[jz];exact uC ag _);rw[jz]at fe;rw[fe];rw[an5 M.up]at bV;have hlr:((eM ag a).map λg=>(g.t:Int)).length<=120:=by
  rw[gH];unfold eM
  grind
 refine aF ?_;refine(Nt  bV J J (λi x A=>?_) (λi x y A ce=>?_)).mono ?_
 ·obtain⟨g,a6,rfl⟩:=f0.1 (k4 A);have:=M.l9 g (Ck a6).1;omega
 ·rw[rT]at A ce;obtain⟨g,aV,rfl⟩:=lZ.1 A;obtain⟨b8,aP,rfl⟩:=lZ.1 ce;have bk:=Pv M.up a;rw[Bx]at bk
  grind
 rintro _ _ _ ⟨rfl,E,I⟩;rw[E,I];refine⟨J,?_⟩;refine aF ?_;exact⟨_,J,i+1,rfl,J,rfl⟩
theorem Zz{s:al}{c:Nat}{v:X}{h:ae}{U:Nat}(M:g8 c r ag)(D:mE h U v r c ag):aH Q s 448 [v] h U (dC v U h):=by
 refine arI ?_;have A:=D;obtain⟨v1,v2,v3,v4,rfl,P,Z,aL,bm⟩:=D;obtain⟨aB,c1,rfl,_⟩:=id P;obtain⟨a2,c2,rfl,_⟩:=id Z;obtain⟨a3,ci,rfl⟩:=aL.form;obtain⟨aY,hF,rfl,_⟩:=id bm;have V:∀{o aX},aA U h (T (T h U o) (U+1) aX):=aK
 unfold adN;refine aF ?_;refine(XE M (A.F  V J)).mono ?_;rintro _ P bh ⟨rfl,g,B⟩;have I:=g U J;rw[aq J,aS]at I;have E:=g (U+1) J;rw[aS]at E;refine cL @I @E ?_;exact⟨rfl,aK,J⟩
theorem ayw{n:Nat}(h:n<1000000000000):bin Q .quo 3 (n:X) (.int .i64 2) = .ok (((n / 2:Nat):X)):=by rw[B9 (by decide),show((n:Int)).tdiv 2=((n / 2:Nat):Int)from rfl,show IntKind.wrap .i64 ((n / 2:Nat):Int)=((n / 2:Nat):Int) by rw[oE];omega]
def plC(ag:aa GE)(k:Nat)(r:Int):Prop:=(∃m:Nat,(dS ag)[m]? = some k/\r=(m:Int))\/(k ∉ dS ag/\r = -1)
theorem XF{s:al}{c k:Nat}{v:X}{h:ae}{U:Nat}(M:g8 c r ag)(aJ:mE h U v r c ag):aH Q s 449 [v,(k:X)] h U (λw ac Y=>(∃x,w = .int .i64 x/\plC ag k x)/\aA U h ac/\U<=Y):=by
 refine anM ?_;obtain⟨v1,v2,v3,v4,rfl,h1,ar,aL,bm⟩:=aJ;obtain⟨E,g,rfl,_⟩:=id h1;obtain⟨a2,c2,rfl,_⟩:=id ar;obtain⟨B,ci,rfl⟩:=aL.form;obtain⟨aY,A,rfl,_⟩:=id bm;have bb:=M.len;have yP:=FI ag;have dQ:(gC ag).length=(dS ag).length:=FJ ag;have bZ:∀{o},aA U h (T h U o):=aK
 unfold abw;have ng:=h1.F (bZ (o:=.cells [(r:X),(c:X),.slice E (gC ag).length g,.slice a2 (gX ag).length c2,.slice B (fp ag).length ci,.slice aY (gq ag).length A] false)) (Y:=U+1) J;have om:u (T h U (.cells [(r:X),(c:X),.slice E (gC ag).length g,.slice a2 (gX ag).length c2,.slice B (fp ag).length ci,.slice aY (gq ag).length A] false)) U=some (.cells [(r:X),(c:X),.slice E (gC ag).length g,.slice a2 (gX ag).length c2,.slice B (fp ag).length ci,.slice aY (gq ag).length A] false):=ab
 have Bn:=bZ (o:=.cells [(r:X),(c:X),.slice E (gC ag).length g,.slice a2 (gX ag).length c2,.slice B (fp ag).length ci,.slice aY (gq ag).length A] false);refine aF ?_;generalize T h U (.cells [(r:X),(c:X),.slice E (gC ag).length g,.slice a2 (gX ag).length c2,.slice B (fp ag).length ci,.slice aY (gq ag).length A] false)=H at *
 rw[dQ];refine bD.mk (λm aE ac Y=>∃ao aj:Nat,m=aj-ao/\ao<=aj/\aj<=(dS ag).length/\aE=[(k:X),bd U,(ao:X),(aj:X)]/\(∀i a,(dS ag)[i]? = some a->i<ao->a<k)/\(∀i a,(dS ag)[i]? = some a->aj<=i->k<a)/\ac=H/\Y=U+1) (dS ag).length ⟨0,(dS ag).length,J,J,J,rfl,J,ab,rfl,rfl⟩ ?_;rintro _ _ b3 fT ⟨ao,aj,rfl,hlh,LL,rfl,hs,et,gd,ez⟩;rw[aki,gd,ez];unfold Xx;refine aF ?_;refine⟨λcA=>?_,λeN=>?_⟩
 ·obtain⟨x,I⟩:=d1 (l:=dS ag) (i:=ao+(aj-ao) / 2) J;have P:(gC ag)[ao+(aj-ao) / 2]? = some (x:Int):=by unfold gC;grind
  obtain⟨_,_,aP,Z⟩:=ng.i;rw[dQ]at aP;cases aP;obtain⟨b4,dO,mf,wG,yB,fw,rfl,jq,D⟩:=Z ab;have cu:=D _ _ P;have aV:IntKind.wrap .i64 ((aj:Int)-(ao:Int))=((aj-ao:Nat):Int):=by rw[oE];omega
  have ch:IntKind.wrap .i64 ((ao:Int)+(((aj-ao) / 2:Nat):Int))=((ao+(aj-ao) / 2:Nat):Int):=by rw[oE];omega
  simp(disch:=omega)only[bn,aV,ayw (J:aj-ao<1000000000000),ch,om,jq,cu,seval];refine⟨λAQ=>?_,λe0=>?_⟩
  ·have hxk:x=k:=ab
   subst hxk;exact⟨λ_=>⟨⟨_,rfl,.inl ⟨_,I,rfl⟩⟩,Bn,J⟩,λh=>absurd J h⟩
  ·refine⟨λbb=>?_,λbb=>?_⟩
   ·rw[cG J];refine⟨_,?_,ao+(aj-ao) / 2+1,aj,rfl,J,LL,rfl,λi a V dy=>?_,et⟩
    ·omega
    ·rcases jn i (ao+(aj-ao) / 2)with h|h
     ·have:=zO M.up V I h;omega
     grind
   ·refine⟨_,?_,ao,ao+(aj-ao) / 2,rfl,J,J,rfl,hs,λi a V dy=>?_⟩
    ·omega
    ·rcases jn (ao+(aj-ao) / 2) i with h|h
     ·have:=zO M.up I V h;omega
     grind
 ·have:ao=aj:=J
  subst this;refine⟨λh=>absurd h J,λ_=>?_⟩;refine⟨⟨_,rfl,.inr ⟨λhk=>?_,rfl⟩⟩,Bn,J⟩;obtain⟨i,dy,e⟩:=El hk;have hi2:(dS ag)[i]? = some k:=ab
  grind
def mb(ag:aa GE)(k:Nat):aa (Nat × Int):=(eM ag k).map λg=>(g.t,g.w)
def ayx(r c:Nat)(ag:aa GE)(m cp cR:Nat)(v1 v2 v3 v4:X)(h:ae)(U:Nat):Prop:=u h cp=some (.cells [(r:X),(c:X),v1,v2,v3,v4] false)/\u h cR=some (.cells [(m:X)] false)/\ej h U v2 c3 1 (gX ag)/\ej h U v3 c3 1 (fp ag)/\ej h U v4 c3 1 (gq ag)
theorem aiu{s:al}{c k:Nat}{v1 v2 v3 v4:X}(M:g8 c r ag)(bl:(dS ag)[m]? = some k):
  Hs s 496 [bd cp,bd cR] (mb ag k).length (λj=>[.agg ⟨fD ((mb ag k).getD j (0,0))⟩]) (ayx r c ag m cp cR v1 v2 v3 v4):=by
 intro l I ac Y aj iY au ce;have bb:=M.len;have yP:=FI ag;have AM:=(hY.1 bl).1;refine akn ?_;unfold Zs;obtain⟨bB,dL,mU,kH,sO⟩:=aj _ _ _ au;obtain⟨a2,c2,rfl,D⟩:=mU.i;obtain⟨b4,dO,mf,wG,yB,fw,rfl,jq,P⟩:=D (by intro e;have:=xG ag;grind);have cu:=P _ _ (Cy bl);have tI:m<(gX ag).length:=by rw[xG];omega
 refine k7 @bB @dL @jq @cu ?_;have lG:(mb ag k).length=dA ag (k+1)-dA ag k:=by unfold mb;rw[gH,Ff M.up]
 have dR:=uC ag (k+1);refine bD.mk (λq aE ar bX=>∃j,q=(mb ag k).length-j/\j<=(mb ag k).length/\aE=[.func (.yield l) ⟨[]⟩ ⟨[]⟩,bd cp,bd cR,((dA ag k+j:Nat):X)]/\I j ar bX) (mb ag k).length ⟨0,J,J,rfl,au⟩ ?_;rintro _ _ ar bX ⟨j,rfl,b1,rfl,rJ⟩;obtain⟨bB,dL,mU,kH,sO⟩:=aj _ _ _ rJ;obtain⟨_,_,aV,D⟩:=mU.i;cases aV;obtain⟨Th,o2',az6,az7,az8,az9,aP,V,E⟩:=D ab;cases aP;have ct:=E _ _ (Jp M.up bl);have aAa:m+1<(gX ag).length:=by rw[xG];omega
 rw[aiq];unfold Wu;refine uG @bB @dL @V @ct (cG (J:m<1000000000000)) ?_;refine⟨λB=>?_,λeN=>?_⟩
 ·have B:j<(eM ag k).length:=by rw[Ff M.up];omega
  obtain⟨g,a6⟩:=d1   B;have sz:ag[dA ag k+j]? = some g:=by rw[<-Ox M.up B];omega
  have eF:(fp ag)[dA ag k+j]? = some (g.t:Int):=by unfold fp;grind
  have jy:(gq ag)[dA ag k+j]? = some g.w:=by unfold gq;grind
  obtain⟨a3,ci,rfl,A⟩:=kH.i;obtain⟨aY,hF,rfl,hI4⟩:=sO.i;obtain⟨dZ,fZ,sp3,Hj,AV,n0,rfl,qw,Z⟩:=A ab;obtain⟨fA,lr,sp4,ro4,cs4,hb4,rfl,Hu,RU⟩:=hI4 ab;have z3:=Z _ _ eF;have z4:=RU _ _ jy;have gt:=(hY.1 eF).1;have mr:=(hY.1 jy).1;have sn:(mb ag k).getD j (0,0)=(g.t,g.w):=by unfold mb;grind
  have vr:=ce true j J ar bX rJ;simp only[sn]at vr;refine uG @bB @qw @z3 @Hu @z4 ?_;refine vr.mono ?_;rintro _ aL bS ⟨rfl,A,DF⟩;refine⟨DF,?_⟩;refine bg (cG (J:dA ag k+j<1000000000000)) ?_;exact⟨_,J,j+1,rfl,J,ab,A⟩
 ·have:j=(mb ag k).length:=J
  subst this;exact rJ
theorem aiv{s:al}{c k:Nat}{v:X}{h:ae}{U:Nat}(M:g8 c r ag)(aJ:mE h U v r c ag):aH Q s 454 [v,(k:X)] h U (λw ac Y=>eH ac U Y w fD (mb ag k)/\aA U h ac/\U<=Y):=by
 refine akj ?_;have D:=aJ;obtain⟨v1,v2,v3,v4,rfl,h1,ar,aL,V⟩:=aJ;obtain⟨aB,Z,rfl,_⟩:=id h1;obtain⟨a2,c2,rfl,_⟩:=id ar;obtain⟨a3,ci,rfl⟩:=aL.form;obtain⟨aY,hF,rfl,_⟩:=id V;have bb:=M.len;have bZ:∀{o},aA U h (T h U o):=aK
 unfold Zp;refine aF ?_;refine(Zz M (D.F  bZ J)).mono ?_;rintro _ aV bh ⟨rfl,B,fy⟩;have cv:=(B U J).trans (aS _ _ _);refine bg @cv ?_;have cJ:=(bZ.trans B J).set (o:=.cells [(r:X),(c:X),.slice aB (gC ag).length Z,.slice a2 (gX ag).length c2,.slice a3 (fp ag).length ci,.slice aY (gq ag).length hF] false) (cD _);refine(XF  M (D.F  cJ J)).mono ?_;rintro _ aP bX ⟨⟨x,rfl,a1⟩,A,eZ⟩;have g2:=(A U J).trans (aS _ _ _);have eA:=cJ.trans A J;rcases a1 with⟨m,bl,rfl⟩|⟨E,rfl⟩
 ·refine bg @g2 ?_;refine⟨λh=>absurd h J,λ_=>?_⟩;refine anP ?_;unfold abz;refine aF ?_;refine ahD ?_;have lG:(mb ag k).length<=120:=by
   unfold mb eM
   grind
  refine(akz  J (aiu   (v1:=.slice aB (gC ag).length Z) (v2:=.slice a2 (gX ag).length c2) (v3:=.slice a3 (fp ag).length ci) (v4:=.slice aY (gq ag).length hF) M bl) λP n1' E dR=>?_).mono ?_
  ·have I:aA U h P:=aK
   refine⟨(E bX J).trans ?_,(E (bX+1) J).trans ab,ar.F I J,ej.F (cN.o (λ_=>rfl) aL.gr.rd) I J,V.F I J⟩
   grind
  ·rintro w ch bS ⟨bV,e8,gA⟩;exact⟨bV.F ab J J,aK,J⟩
 ·refine aF ?_;have:mb ag k=[]:=by
   cases aZ:eM ag k with
   |nil=>unfold mb;grind
   |cons g l =>
    have a6:g∈eM ag k:=ab
    exact absurd ((JP ag k).2 ⟨g,(Ck a6).1,(Ck a6).2⟩) E
  rw[this];exact⟨⟨⟨none,0,rfl,λh=>absurd rfl h⟩,eA,J⟩,λh=>absurd trivial h⟩
theorem an6{s:al}{c:Nat}{v:X}{L:aa Nat}{h:ae}{U:Nat}(M:g8 c r ag)(aJ:mE h U v r c ag)(bV:ej h U w c3 1 (fX L))(fq:L.length<1000000):aH Q s 390 [v,w] h U (λaD ac Y=>(∃y,aD = .int .i64 y)/\aA U h ac/\U<=Y):=by
 refine arD ?_;have P:=aJ;obtain⟨v1,v2,v3,v4,rfl,h1,ar,aL,bm⟩:=aJ;obtain⟨aB,c1,rfl,_⟩:=id h1;obtain⟨a2,c2,rfl,_⟩:=id ar;obtain⟨a3,ci,rfl⟩:=aL.form;obtain⟨aY,hF,rfl,_⟩:=id bm;obtain⟨bN,vo,rfl,hIw⟩:=bV.i;have bb:=M.len;have yP:=FI ag;have aBP:(fX L).length=L.length:=by unfold fX;grind
 have bZ:∀{o},aA U h (T h U o):=aK
 unfold adI;rw[aBP];refine aF ?_;refine(Zz M (P.F  bZ J)).mono ?_;rintro _ aV bh ⟨rfl,E,fy⟩;have cv:=(E U J).trans (aS _ _ _);have cJ:=(bZ.trans E J).set (o:=.cells [(r:X),(c:X),.slice aB (gC ag).length c1,.slice a2 (gX ag).length c2,.slice a3 (fp ag).length ci,.slice aY (gq ag).length hF] false) (cD _);refine bg @cv ?_;refine bD.mk (λm aE ac Y=>∃i y,m=L.length-i/\i<=L.length/\aE=[bd U,.int .i64 y,.slice bN L.length vo,(L.length:X),(i:X)]/\u ac U=some (.cells [(r:X),(c:X),.slice aB (gC ag).length c1,.slice a2 (gX ag).length c2,.slice a3 (fp ag).length ci,.slice aY (gq ag).length hF] false)/\aA U h ac/\U+1<=Y) L.length ⟨0,0,J,J,rfl,ab,cJ,J⟩ ?_;rintro _ _ aP bX ⟨i,y,rfl,aj,rfl,g2,V,eZ⟩;rw[anJ];unfold Zm;refine aF ?_;refine⟨λcA=>?_,λeN=>⟨⟨_,rfl⟩,V,J⟩⟩;obtain⟨k,hk⟩:=d1   J;have sk:(fX L)[i]? = some (k:Int):=by unfold fX;grind
 obtain⟨f8,vl,sp5,ro5,cs5,DN,rfl,tJ,A⟩:=hIw ab;have yW:=A _ _ sk;have I:=(V f8 DN).trans tJ;refine hK @I @yW @g2 ?_;refine(XF  M (P.F  V J)).mono ?_;rintro _ ch bS ⟨⟨x,rfl,a1⟩,D,gA⟩;have dj:=(D U J).trans g2;have Z:=V.trans D J;rcases a1 with⟨m,bl,rfl⟩|⟨hk,rfl⟩
 ·have AM:=(hY.1 bl).1;obtain⟨_,_,Bm,Ht⟩:=ar.i;cases Bm;obtain⟨b4,dO,mf,wG,yB,fw,rfl,jq,g⟩:=Ht (by intro e;have:=xG ag;grind);have cu:=g _ _ (Cy bl);have ct:=g _ _ (Jp M.up bl);have tI:m+1<(gX ag).length:=by rw[xG];omega
  have B:=(Z b4 fw).trans jq;refine zT @dj @B @cu @ct (cG (J:m<1000000000000)) (cG (J:i<1000000000000)) ?_;refine⟨λ_=>?_,λh=>absurd h J⟩;exact⟨_,J,i+1,_,rfl,J,rfl,Z,J⟩
 ·refine bg (cG (J:i<1000000000000)) ?_;exact⟨λh=>absurd trivial h,_,J,i+1,_,rfl,J,rfl,dj,Z,J⟩
theorem akA{s:al}{c:Nat}{v:X}{h:ae}{U:Nat}(M:g8 r c ag)(B:kc h U v r c ag):aH Q s 322 [v] h U (λg ac Y=>g = (ag.length:X)/\aA U h ac/\U<=Y):=by
 refine anH ?_;have A:=B;obtain⟨b,aO,cap,v2,v3,rfl,aT,a6,Z,V⟩:=B;obtain⟨a2,c2,rfl⟩:=Z.form;obtain⟨a3,ci,rfl⟩:=V.form;have P:∀{o},aA U h (T h U o):=aK
 have E:(fp ag).length=ag.length:=by unfold fp;grind
 unfold abu;refine aF ?_;refine(Fg M (A.F  P J)).mono ?_;rintro _ aV bh ⟨rfl,I,D⟩;refine bg @E ?_;exact aK
theorem an7{s:al}{c n:Nat}{v:X}{x:Nat->aw Int}{h:ae}{U:Nat}(M:g8 r c ag)(aJ:kc h U v r c ag)(bV:r7 h U w n x)(bH:n<=63):aH Q s 455 [v,w] h U (dC (.tuple ⟨[v,w]⟩) U h):=by
 refine aqs ?_;have Z:=aJ;have D:=bV;obtain⟨b,aO,cap,v2,v3,rfl,aT,a6,pZ,o4⟩:=aJ;obtain⟨a2,c2,rfl⟩:=pZ.form;obtain⟨a3,ci,rfl⟩:=o4.form;obtain⟨fg,dp,rfl,ap,I⟩:=bV;obtain⟨_,_,rfl,_⟩:=id ap;obtain⟨_,_,rfl,_⟩:=id I;have bZ:∀{o aX kZ ayy},aA U h (T (T (T (T h U o) (U+1) aX) (U+1+1) kZ) (U+1+1+1) ayy):=aK
 unfold ac7;refine aF ?_;refine(IX M (Z.F  bZ J)).mono ?_;rintro _ aV bh ⟨rfl,g,fy⟩;have cv:=g U J;rw[aq J,aq J,aq J,aS]at cv;have V:=g (U+1) J;rw[aq J,aq J,aS]at V;have g2:=g (U+1+1) J;rw[aq J,aS]at g2;have dj:=g (U+1+1+1) J;rw[aS]at dj;have cJ:=bZ.trans g J;refine aF ?_;unfold Oq;refine bg @V ?_;refine(XD (D.F  cJ J) bH).mono ?_;rintro _ aP bX ⟨rfl,A,eZ⟩;have P:=(A U J).trans cv;have B:=(A (U+1) J).trans V;have Tv:=(A (U+1+1) J).trans g2;have E:=(A (U+1+1+1) J).trans dj;refine aF ?_;unfold Oo;refine k7 @P @B @Tv @E ?_;exact⟨rfl,aK,J⟩
theorem afd{r a b:Int}(g:nU r)(A:0<=a/\a<=er)(B:0<=b/\b<=er):0<=jI r a b/\jI r a b<=er:=by
 unfold jI er at *
 rcases g with rfl|rfl|rfl
 all_goals omega
def CO(h:ae)(cR ff:Nat)(a:aw Int):Prop:=u h cR=some (.cells (wid (a.getD 0)) false)/\u h ff=some (.cells [.bool a.isSome] false)
theorem aiw{s:al}{r w:Int}{a:aw Int}{h:ae}{U:Nat}(a5:nU r)(I:u h cp=some (.cells [(r:X)] bJ))(cY:CO h cR ff a)(dE:cp<U)(fA:cR<U)(yV:ff<U)(AT:cR≠ff)(aT:∀y,a=some y->0<=y/\y<=er)(bV:0<=w/\w<=er):
  aH Q s 497 [.agg ⟨wid w⟩,bd ff,bd cp,bd cR] h U (λaD ac Y=>CO ac cR ff (eY r a (some w))/\(∀c,c<U->c≠cR->c≠ff->u ac c=u h c)/\U<=Y):=by
 refine ajJ ?_;unfold YK aW aN bT bI;obtain⟨Z,B⟩:=cY;rw[show dh (.agg ⟨wid w⟩)=[.int .i64 (w / 18446744073709551616),.int .u64 (w % 18446744073709551616)]from rfl];have A:u h cR=some (.cells [.int .i64 (a.getD 0 / 18446744073709551616),.int .u64 (a.getD 0 % 18446744073709551616)] false):=Z;have aM:∀x:Int,(Value.agg ⟨[.int .i64 (x / 18446744073709551616),.int .u64 (x % 18446744073709551616)]⟩) = .agg ⟨wid x⟩:=λ_=>rfl;cases a with
 |none =>
  have B:u h ff=some (.cells [.bool false] false):=B;refine cL @B @A ?_;refine⟨⟨?_,?_⟩,λc h1 P aL=>?_,J⟩
  ·rw[aq J,aS];rfl
  ·rw[aS];rfl
  grind
 |some y =>
  have B:u h ff=some (.cells [.bool true] false):=B;have A:u h cR=some (.cells [.int .i64 (y / 18446744073709551616),.int .u64 (y % 18446744073709551616)] false):=Z;have ce:=aT y rfl;refine hK @B @A @I ?_;rw[aM,aM];refine(Pm a5 (FC (by unfold kk er at *;omega)) (FC (by unfold kk er at *;omega))).mono ?_;rintro _ P bX ⟨rfl,g,V⟩;have M:=(g ff J).trans ((aq J).trans B);have E:=(g cR J).trans ((aq J).trans A);have D:=(g U J).trans (aS _ _ _);have aV:∀x:Int,dh (.agg ⟨wid x⟩)=[.int .i64 (x / 18446744073709551616),.int .u64 (x % 18446744073709551616)]:=λ_=>rfl;refine k7 @M @E @D @aV ?_;refine⟨⟨?_,?_⟩,λc h1 P aL=>?_,J⟩
  ·rw[aq J,aS];rfl
  ·rw[aS];rfl
  ·rw[aq J,aq J,aq J,g c J,aq J]
theorem aix{s:al}{a:aw Int}{h:ae}{U:Nat}(D:CO h cR ff a)(I:cR<U)(E:ff<U):aH Q s 498 [bd cR,bd ff] h U (dC (.tuple ⟨[.agg ⟨wid (a.getD 0)⟩,.bool a.isSome]⟩) U h):=by refine ajK ?_;unfold YL;obtain⟨B,A⟩:=D;have g:u h cR=some (.cells [.int .i64 (a.getD 0 / 18446744073709551616),.int .u64 (a.getD 0 % 18446744073709551616)] false):=B;refine cL @A @g ?_;exact⟨rfl,aK,J⟩
theorem aiy{r:Int}{x:Nat->aw Int}(E:nU r)(B:∀g∈ag,0<=g.w/\g.w<=2147483647)(P:∀i y,x i=some y->0<=y/\y<=er)(y:Int)(h:fi r (ag.map λg=>(x g.t).map (f3 r g.w))=some y):0<=y/\y<=er:=by
 revert y
 refine Cj (C:=λag=>(∀g∈ag,0<=g.w/\g.w<=2147483647)->∀y,fi r (ag.map λg=>(x g.t).map (f3 r g.w))=some y->0<=y/\y<=er) (λ_ y h=>by cases h) (λp g D B y h=>?_) ag B;rw[iF,t9,zd,NG]at h;have D:=D ab;have Z:=B g (ML _ (iP.2 rfl));cases A:x g.t with
 |none=>rw[A]at h;simp only[Option.map_none,qU]at h;grind
 |some z =>
  rw[A]at h;have V:=P _ _ A;have bl:=Rc Z V E;cases I:fi r (p.map λg=>(x g.t).map (f3 r g.w))with
  |none=>rw[I]at h;cases h;omega
  |some M =>
   rw[I]at h;cases h;exact afd E ab bl
theorem arV(r:Int)(ag:aa GE)(x:Nat->aw Int)(i:Nat):ip r ag x i=fi r ((eM ag i).map λg=>(x g.t).map (f3 r g.w)):=by
 unfold ip eM;rw[Ni]
 grind
theorem kX.i{h:ae}{U:Nat}{v:X}{l:aa Int}(H:kX h U v l):sx h U v l:=by obtain⟨g,A,B⟩:=H;exact ej.i (nV.o (ao:=0) ⟨g,A,ab⟩)
theorem arW{s:al}{r:Int}{i:Nat}{v:X}{x:Nat->aw Int}{h:ae}{U:Nat}(a5:nU r)(M:g8 R C ag)(KR:C<=63)(aJ:kc h U v R C ag)(bp:r7 h U w C x)(aj:i<R)(bV:∀g∈ag,0<=g.w/\g.w<=2147483647)(a1:∀i y,x i=some y->0<=y/\y<=er):
  aH Q s 457 [(r:X),v,(i:X),w] h U (dC (.tuple ⟨[.agg ⟨wid ((ip r ag x i).getD 0)⟩,.bool (ip r ag x i).isSome]⟩) U h):=by
 refine atM ?_;obtain⟨b,aO,cap,v2,v3,rfl,aT,a6,pZ,o4⟩:=aJ;obtain⟨a2,c2,rfl⟩:=pZ.form;obtain⟨a3,ci,rfl⟩:=o4.form;obtain⟨fg,dp,rfl,ap,rz⟩:=bp;obtain⟨eP,cX,rfl,_⟩:=id ap;obtain⟨a8,gM,rfl,hId⟩:=rz.i;have dW:=M.a5;have bb:=M.len;have aAE:(fp ag).length=ag.length:=by unfold fp;grind
 have aBK:(gq ag).length=ag.length:=by unfold gq;grind
 unfold aeJ;have bZ:∀{o aX kZ},aA U h (T (T (T h U o) (U+1) aX) (U+1+1) kZ):=aK
 refine aF ?_;refine amA ?_;unfold aaR;refine aF ?_;have au:((pJ ag R)[i]? = some (dA ag i:Int)):=vR J;have h1:((pJ ag R)[i+1]? = some (dA ag (i+1):Int)):=vR J;simp(disch:=omega)only[bn,a6,i6 au,seval];obtain⟨H,fJ⟩:∃H,H=T (T (T (T (T (T (T h U (.cells [(R:X),(C:X),.slice (some ⟨b,0,aO⟩) (R+1) cap,.slice a2 (fp ag).length c2,.slice a3 (gq ag).length ci] false)) (U+1) (.cells [(C:X),.slice eP (eS C (j0 x)).length cX,.slice a8 (cz C (jL x)).length gM] false)) (U+1+1) (.cells [.int .i64 0,.int .u64 0] false)) (U+1+1+1) (.cells [(r:X)] false)) (U+1+1+1+1) (.cells [.int .i64 0,.int .u64 0] false)) (U+1+1+1+1+1) (.cells [.bool false] false)) (U+1+1+1+1+1) (.cells [.bool false] false):=⟨_,rfl⟩
 have Bo:u H U=some (.cells [(R:X),(C:X),.slice (some ⟨b,0,aO⟩) (R+1) cap,.slice a2 (fp ag).length c2,.slice a3 (gq ag).length ci] false):=ab
 have pY:u H (U+1)=some (.cells [(C:X),.slice eP (eS C (j0 x)).length cX,.slice a8 (cz C (jL x)).length gM] false):=ab
 have Be:u H (U+1+1)=some (.cells [.int .i64 0,.int .u64 0] false):=ab
 have aBQ:u H (U+1+1+1)=some (.cells [(r:X)] false):=ab
 have aBR:CO H (U+1+1+1+1) (U+1+1+1+1+1) none:=⟨by rw[fJ,aq J,aq J,aS];rfl,ab⟩
 have t0:aA U h H:=by rw[fJ];exact aK
 rw[<-fJ];clear fJ;refine bD.mk (λm aE ac Y=>∃j,m=(eM ag i).length-j/\j<=(eM ag i).length/\aE=[(r:X),(i:X),bd U,.pointer (some ⟨U+1,0,none⟩),.pointer (some ⟨U+1+1,0,none⟩),.func (.func 497) ⟨[]⟩ ⟨[.pointer (some ⟨U+1+1+1+1+1,0,none⟩),.pointer (some ⟨U+1+1+1,0,none⟩),.pointer (some ⟨U+1+1+1+1,0,none⟩)]⟩,.func (.func 498) ⟨[]⟩ ⟨[.pointer (some ⟨U+1+1+1+1,0,none⟩),.pointer (some ⟨U+1+1+1+1+1,0,none⟩)]⟩,((dA ag i+j:Nat):X)] /\
  CO ac (U+1+1+1+1) (U+1+1+1+1+1) (fi r (((eM ag i).take j).map λg=>(x g.t).map (f3 r g.w)))/\(∀c,c<U+6->c≠U+1+1+1+1->c≠U+1+1+1+1+1->u ac c=u H c)/\U+6<=Y) (eM ag i).length ⟨0,J,J,rfl,aBR,ab,J⟩ ?_
 rintro _ _ ar bX ⟨j,rfl,b1,rfl,hs,D,eZ⟩;have Hi:=Ff M.up i;have hmn:=zs ag J;have hse:=uC ag (i+1);have V:aA U h ar:=aK
 have cv:=(D U J J J).trans Bo;have bB:=(D (U+1) J J J).trans pY;have g2:=(D (U+1+1) J J J).trans Be;have dj:=(D (U+1+1+1) J J J).trans aBQ;have oU:=(V b aT).trans a6;rw[aqt];unfold aaP;simp(disch:=omega)only[bn,cv,oU,i6 h1,cG (J:i<1000000000000),seval];refine⟨λP=>?_,λeN=>?_⟩
 ·have P:j<(eM ag i).length:=J
  obtain⟨g,hgj⟩:=d1   P;have sz:ag[dA ag i+j]? = some g:=by rw[<-Ox M.up P];omega
  have hgm:=k4 sz;have u2:=M.l9 g hgm;have eF:(fp ag)[dA ag i+j]? = some (g.t:Int):=by unfold fp;grind
  have jy:(gq ag)[dA ag i+j]? = some g.w:=by unfold gq;grind
  have lz:(cz C (jL x))[g.t]? = some (jL x g.t):=by
   unfold cz
   grind
  obtain⟨_,_,aP,Ht⟩:=pZ.i;obtain⟨_,_,ch,hI3⟩:=o4.i;cases aP;cases ch;obtain⟨dZ,fZ,sp3,Hj,AV,n0,rfl,qw,KS⟩:=Ht ab;obtain⟨fA,lr,sp4,ro4,cs4,hb4,rfl,Hu,RU⟩:=hI3 ab;obtain⟨f8,vl,sp5,ro5,cs5,DN,rfl,tJ,Z⟩:=hId ab;have z3:=KS _ _ eF;have z4:=RU _ _ jy;have yW:=Z _ _ lz;have aBS:=(hY.1 lz).1;have co:=(V dZ n0).trans qw;have de:=(V fA hb4).trans Hu;have ep:=(V f8 DN).trans tJ;have La:=bV g hgm;have A:fi r (((eM ag i).take (j+1)).map λg=>(x g.t).map (f3 r g.w))=eY r (fi r (((eM ag i).take j).map λg=>(x g.t).map (f3 r g.w))) ((x g.t).map (f3 r g.w)):=by rw[hx,hgj];show fi r (List.map _ (_++[g]))=_;rw[iF,t9,zd,NG]
  refine hK @co @z3 @bB ?_;refine(J4 KR u2 (ap.F V  J)).mono ?_;rintro _ _ _ ⟨rfl,gd,ez⟩;rw[gd,ez];cases I:x g.t with
  |none =>
   have eU:j0 x g.t=false:=by unfold j0;grind
   rw[I]at A;simp only[Option.map_none,qU]at A;rw[eU];refine bg (cG (J:dA ag i+j<1000000000000)) ?_;exact⟨_,J,j+1,rfl,J,rfl,by rw[A];exact hs,D,eZ⟩
  |some y =>
   have eU:j0 x g.t=true:=by unfold j0;grind
   have hva:jL x g.t=y:=by unfold jL;grind
   rw[hva]at yW;rw[I]at A;have hyr:=a1 _ _ I;rw[eU];refine zT @cv @bB @de @z4 @ep @yW ?_;refine(aaV a5 La hyr).mono ?_;rintro _ aL bS ⟨rfl,B,E⟩;refine⟨E,?_⟩;have hA3:CO aL (U+1+1+1+1) (U+1+1+1+1+1) (fi r (((eM ag i).take j).map λg=>(x g.t).map (f3 r g.w))):=⟨(B _ J).trans hs.1,(B _ J).trans hs.2⟩
   refine(aiw a5 ((B _ J).trans dj) hA3 J J J J (λy ce=>?_) (Rc La hyr a5)).mono ?_
   ·exact aiy a5 (λg a6=>bV g (Ck (List.mem_of_mem_take a6)).1) a1 y ce
   rintro _ bm dH ⟨hA4,fP,ir⟩;refine⟨ir,?_⟩;refine bg (cG (J:dA ag i+j<1000000000000)) ?_;refine⟨_,J,j+1,rfl,J,rfl,by rw[A];exact hA4,λc h1 ar aL=>?_,J⟩;rw[fP c J ar aL,B c J];grind
 ·have:j=(eM ag i).length:=J
  subst this;rw[iQ,<-arV]at hs;refine(aix hs J J).mono ?_;rintro _ aL bS ⟨rfl,B,E⟩;have LM:=(B (U+1+1) J).trans g2;have aV:∀x:Int,dh (.agg ⟨wid x⟩)=[.int .i64 (x / 18446744073709551616),.int .u64 (x % 18446744073709551616)]:=λ_=>rfl;refine cL @aV @LM ?_;exact⟨rfl,(V.trans B J).set J,J⟩
theorem PM{s:al}{k:Nat}{h:ae}{U:Nat}:aH Q s 334 [.slice none 0 0,(k:X)] h U (fo (.bool false) U h):=by refine ae6 ?_;unfold RQ bG b9 c0 bT hT;refine YW ?_;unfold Pp;refine bg @E8 ?_;refine⟨λ_=>⟨λg=>absurd g J,λ_=>⟨rfl,rfl,rfl⟩⟩,λg=>absurd g J⟩
def agi(n cp cR ff:Nat)(h:ae)(U:Nat):Prop:=u h cp=some (.cells [(n:X)] false)/\u h cR=some (.cells [.slice none 0 0] false)/\u h ff=some (.cells [.bool true] false)
theorem aiz{s:al}{n:Nat}(bH:n<1000000):
  Hs s 483 [bd cp,bd cR,bd ff] n (λk=>[(k:X)]) (agi n cp cR ff):=by
 intro l I ac Y aj iY M ce;refine ajI ?_;unfold YJ;obtain⟨Z,dL,V⟩:=aj _ _ _ M;refine bg @Z ?_;refine bD.mk (λm aE P E=>∃j,m=n-j/\j<=n/\aE=[.func (.yield l) ⟨[]⟩ ⟨[]⟩,bd cR,bd ff,(n:X),(j:X)]/\I j P E) n ⟨0,J,J,rfl,M⟩ ?_;rintro _ _ P E ⟨j,rfl,b1,rfl,B⟩;obtain⟨Z,dL,V⟩:=aj _ _ _ B;rw[aib];unfold Wk;refine bg @dL ?_;refine⟨λg=>?_,λeN=>?_⟩
 ·have g:j<n:=J
  refine PM.mono ?_;rintro _ _ _ ⟨rfl,rfl,rfl⟩;simp(disch:=omega)only[bn,V,show bin Q .neq 4 (.bool false) (.bool true) = .ok (.bool true) by kernel_rfl,seval];have vr:=ce true j g _ _ B;refine vr.mono ?_;rintro _ aL bS ⟨rfl,A,D⟩;refine⟨D,?_⟩;refine bg (cG (J:j<1000000000000)) ?_;exact⟨_,J,j+1,rfl,J,rfl,A⟩
 ·have:j=n:=J
  subst this;exact B
def eL(p:Nat × Int):aa X:=[(p.1:X),.int .i64 (p.2 / 18446744073709551616),.int .u64 (p.2 % 18446744073709551616)]
theorem an8(p:Nat × Int):(eL p).length=3:=rfl
theorem an9{s:al}{r:Int}{v:X}{x:Nat->aw Int}{h:ae}{U:Nat}(a5:nU r)(M:g8 R C ag)(KR:C<=63)(aJ:kc h U v R C ag)(bp:r7 h U w C x)(bV:∀g∈ag,0<=g.w/\g.w<=2147483647)(a1:∀i y,x i=some y->0<=y/\y<=er):
  aH Q s 393 [(r:X),v,w,.slice none 0 0,.bool true] h U (λaD ac Y=>∃z,aD = .tuple ⟨[z,.int .i64 0]⟩/\eH ac U Y z eL (bj R (ip r ag x))/\aA U h ac/\U<=Y):=by
 refine aro ?_;have hp:=aJ;have S9:=bp;have dW:=M.a5;obtain⟨b,aO,cap,v2,v3,rfl,aT,a6,pZ,o4⟩:=aJ;obtain⟨a2,c2,rfl⟩:=pZ.form;obtain⟨a3,ci,rfl⟩:=o4.form;obtain⟨fg,dp,rfl,ap,rz⟩:=bp;obtain⟨eP,cX,rfl,_⟩:=id ap;obtain⟨a8,gM,rfl,_⟩:=id rz;unfold adF;refine aF ?_;refine(an7 M (hp.F aK J) (S9.F aK J) KR).mono ?_;rintro _ ar A ⟨rfl,P,eZ⟩;have cv:=(P U J).trans ((aq J).trans ((aq J).trans (aS _ _ _)));have bB:=(P (U+1) J).trans ((aq J).trans (aS _ _ _));have g2:=(P (U+1+1) J).trans (aS _ _ _);refine hK @cv @bB @g2 ?_;refine(zJ (r:=r) (by rcases a5 with rfl|rfl|rfl <;> omega) (by rcases a5 with rfl|rfl|rfl <;> omega)).mono ?_;rintro _ _ _ ⟨rfl,gd,ez⟩;rw[gd,ez];simp(disch:=omega)only[bn,qR,seval];refine amx ?_;unfold aaO;refine aF ?_;generalize Ec:T _ _ _=h8;have fJ:∀c,c<A->c≠U+1->c≠U+1+1->u h8 c=u ar c:=λc D aL bm=>by subst Ec;repeat rw[aq J]
 have g0:=(fJ U J J J).trans cv;have dt:u h8 (U+1)=some (.cells [(R:X),(C:X),.slice (some ⟨b,0,aO⟩) (R+1) cap,.slice a2 (fp ag).length c2,.slice a3 (gq ag).length ci] false):=by subst Ec;grind
 have eG:u h8 (U+1+1)=some (.cells [(C:X),.slice eP (eS C (j0 x)).length cX,.slice a8 (cz C (jL x)).length gM] false):=by subst Ec;grind
 have q12:u h8 A=some (.cells [.slice none 0 0] false):=by subst Ec;grind
 have Tw:agi R (A+1) (A+1+1) (A+1+1+1) h8 (A+1+1+1+1):=by subst Ec;refine⟨?_,?_,?_⟩ <;> grind
 have sH:aA U h h8:=λc I=>by rw[fJ c J J J,P c J];repeat rw[aq J]
 clear Ec fJ;have Tu:=aiz (s:=s) (n:=R) (cp:=A+1) (cR:=A+1+1) (ff:=A+1+1+1) J;obtain⟨L,fq⟩:∃L:Nat->aw Int,L=ip r ag x:=⟨_,rfl⟩
 refine Rk (λk D Z=>∃w,u D A=some (.cells [w] false)/\gS w=true/\d5 D w eL 3 (bj k L) (A+6) Z/\(∀c,c<A+5->c≠A->c≠A+4->u D c=u h8 c)/\A+5<=Z/\k<=R) Tu ?_ ?_ ?_ ?_ ?_
 ·rintro k D Z ⟨w,e,fe,dI,B,dR,hk⟩;exact⟨⟨(B _ J J J).trans Tw.1,(B _ J J J).trans Tw.2.1,(B _ J J J).trans Tw.2.2⟩,J⟩
 ·rintro k D Z ar n2' ⟨w,e,fe,dI,B,dR,hk⟩ P eZ;exact⟨w,ab,fe,dI.F ab eZ,ab,J,hk⟩
 ·exact⟨.slice none 0 0,ab,rfl,.inl ⟨rfl,rfl⟩,ab,J,J⟩
 ·rintro s k hk D Z ⟨w,e,fe,dI,B,dR,AX⟩ bb;have cv:u D U=some (.cells [(r:X)] false):=(B _ J J J).trans g0;have bB:=(B (U+1) J J J).trans dt;have g2:=(B (U+1+1) J J J).trans eG;have hD:aA U h D:=λc I=>(B c J J J).trans (sH c I);refine ant bb ?_;unfold PB abq;generalize uw _ _ _ _ _ _ _ _ _ _ _ _ _ _ _ _ _ _ _ _ _ _ _ _ _=ak at *
  refine⟨none,bb,?_⟩;generalize eHH:T D (A+1+1+1+1) (.loop 1 none ak [37] r0 r1)=yX;have V:∀c,c≠A+4->u yX c=u D c:=λc I=>ab
  have oM:u yX (A+1+1+1+1)=some (.loop 1 none ak [37] r0 r1):=ab
  have cv:=(V _ J).trans cv;have bB:=(V _ J).trans bB;have g2:=(V _ J).trans g2;have e:=(V _ J).trans e;have hD:aA U h yX:=λc I=>(V c J).trans (hD c I);refine hK @cv @bB @g2 ?_;refine(arW a5 M KR (hp.F hD (Y:=Z) J) (S9.F hD (Y:=Z) J) hk bV a1).mono ?_;rintro _ eE n7 ⟨rfl,E,uP⟩;rw[<-fq];have gF:=(E _ J).trans e;have Ts:=(E _ J).trans oM;have aV:∀x:Int,dh (.agg ⟨wid x⟩)=[.int .i64 (x / 18446744073709551616),.int .u64 (x % 18446744073709551616)]:=λ_=>rfl;cases hLk:L k with
  |none =>
   have aj:bj (k+1) L=bj k L:=by rw[tc,hLk,hZ]
   refine bg @aV ?_;refine⟨λI=>absurd I (by simp),λ_=>⟨1,none,Ts,⟨w,gF,fe,?_,λc D ar aL=>?_,J,J⟩,J⟩⟩
   ·rw[aj];exact dI.F (λc D ar=>by rw[aq J,aq J,aq J,E c J,V c J]) J
   ·rw[aq J,aq J,aq J,E c J,V c J];grind
  |some y =>
   have aj:bj (k+1) L=bj k L++[(k,y)]:=by rw[tc,hLk]
   have wl:=l3 k L;refine cL @aV @gF ?_;refine⟨λ_=>?_,λI=>absurd I (by simp)⟩;refine l4 (enc:=eL) (k:=3) (ao:=A+6) (λ_=>rfl) (λ_=>rfl) J (dI.F (dy:=n7+1+1) (λc D ar=>by rw[aq J,aq J,aq J,E c J,V c J]) J) J (k,y) (aS _ _ _) rfl J λdN kI Tx vd=>?_;have hl9:u kI (A+1+1+1+1)=some (.loop 1 none ak [37] r0 r1):=ab
   have jw:u kI A=some (.cells [w] false):=ab
   have aCP:∀c,c<A+5->c≠A->c≠A+4->u kI c=u h8 c:=λc D ar aL=>by rw[vd _ J,aq J,aq J,aq J,E c J,V c J];grind
   rcases Tx with⟨aM,rfl⟩|⟨Bp,ig,fw,rfl,LO⟩
   ·simp at aM
   ·refine bg @jw ?_;refine⟨1,none,hl9,⟨_,rfl,rfl,.inr ⟨Bp,ig,J,by rw[aj],?_⟩,λc D ar aL=>?_,J,J⟩,J⟩
    all_goals grind
 ·rintro D Z ⟨w,e,fe,dI,B,dR,AX⟩;refine bg @e ?_;refine⟨w,rfl,?_,λc I=>?_,J⟩
  ·rw[<-fq];rcases dI with⟨aV,rfl⟩|⟨Bp,ig,fw,rfl,LO⟩
   ·exact⟨_,_,by rw[aV];rfl,λh=>absurd aV h⟩
   ·exact⟨_,_,rfl,λ_=>⟨Bp,some 3,false,J,fw,rfl,LO⟩⟩
  ·rw[B _ J J J];exact sH c I
theorem ej.all{az:Type}{h:ae}{U k:Nat}{v:X}{enc:az->aa X}{l:aa az}(H:ej h U v enc k l)(D:∀x,(enc x).length=k)(g:l≠[]):
  ∃b o aO bJ cs cap,b<U/\v = .slice (some ⟨b,o,aO⟩) l.length cap/\u h b=some (.cells cs bJ)/\∀(i:Nat) x,l[i]? = some x->h0 (some k) (o+i*k) cs = .ok (.agg ⟨enc x⟩)/\∀(j:Nat) y,j<k->(enc x)[j]? = some y->cs[o+i*k+j]? = some y:=by
 obtain⟨a,cap,e,hj⟩:=id H;obtain⟨b,o,aO,bJ,cs,Z,rfl,E,h1,ar⟩:=hj g;refine⟨b,o,aO,bJ,cs,cap,Z,e,E,λi x A=>⟨?_,λj y b1 ce=>?_⟩⟩
 ·obtain⟨cd,aX,P,M,I,B,_,ch,sz,V⟩:=H.ld D A
  grind
 ·have aL:=M2 D rfl ar A
  grind
theorem auw{s:al}{v:X}{h:ae}{U:Nat}(fq:L.length<1000000)(E:ej h U v eL 3 L)(bK:∀(p:Nat × Int),p∈L->∀ac Y,aA U h ac->U<=Y->aH Q s dK (.agg ⟨eL p⟩::cs) ac Y (dC (.bool false) Y ac)):
  aH Q s 396 [v,.func (.func dK) ⟨[]⟩ ⟨cs⟩] h U (dC (.int .i64 (-1)) U h):=by refine Vv ?_;unfold Na;obtain⟨a8,cap,rfl,aZ⟩:=id E;refine aF ?_;refine bD.mk (λm aE ac Y=>∃i,m=L.length-i/\i<=L.length/\aE=[.slice a8 L.length cap,.func (.func dK) ⟨[]⟩ ⟨cs⟩,.int .i64 0,(L.length:X),(i:X)]/\aA U h ac/\U<=Y) L.length ⟨0,J,J,rfl,aK,J⟩ ?_;rintro _ _ ar V ⟨i,rfl,aj,rfl,B,g⟩;rw[Vr];unfold M4;refine aF ?_;refine⟨λZ=>?_,λeN=>⟨rfl,B,g⟩⟩;obtain⟨p,bk⟩:=d1   J;obtain⟨b,aX,aO,bJ,P,D,aT,aV,M,A⟩:=(E.F B g).ld (λ_=>rfl) bk;cases aV;refine cL @M @A ?_;refine(bK p ab ar V B g).mono ?_;rintro _ aL bS ⟨rfl,e8,I⟩;refine bg (cG (J:i<1000000000000)) ?_;exact⟨_,J,i+1,rfl,J,rfl,aK,J⟩
theorem akB{s:al}{n:Nat}{h:ae}{U:Nat}(g:u h cp=some (.cells [(n:X)] bJ))(B:cp<U)(A:p.1<n):aH Q s 398 [.agg ⟨eL p⟩,bd cp] h U (dC (.bool false) U h):=by refine amv ?_;unfold aaN bI;rw[show dh (.agg ⟨eL p⟩)=[(p.1:X),.int .i64 (p.2 / 18446744073709551616),.int .u64 (p.2 % 18446744073709551616)]from rfl];refine bg @g ?_;refine⟨λh=>absurd h J,λ_=>?_⟩;rw[g4 A];exact⟨rfl,aK,J⟩
def sA(r:Int)(l:aa (Nat × Int)):aa (Nat × Int):=l.filter λp=>decide (p.2≠CL r)
theorem arX(r:Int)(n:Nat)(S:Nat->aw Int):sA r (bj n S)=bj n λi=>qi r (S i):=by
 refine Qd (Il _ (xN n S)) λi x=>?_;unfold sA;rw[pa,jO];unfold qi
 grind
theorem aoa{s:al}{r:Int}{n:Nat}{v:X}{S:Nat->aw Int}{h:ae}{U:Nat}(a5:nU r)(bH:n<=4096)(aJ:ej h U v eL 3 (bj n S))(dI:∀i y,S i=some y->0<=y/\y<=er):
  aH Q s 335 [(r:X),(n:X),v] h U (λaD ac Y=>∃w,aD = .tuple ⟨[w,.int .i64 0]⟩/\k9 ac U Y w n (λi=>qi r (S i))/\aA U h ac/\U<=Y):=by
 refine aqm ?_;unfold ac0;obtain⟨a8,cap,rfl,aZ⟩:=id aJ;have fW:=l3 n S;have bZ:∀{o aX},aA U h (T (T h U o) (U+1) aX):=aK
 refine aF ?_;refine(zJ  (by rcases a5 with rfl|rfl|rfl <;> omega) (by rcases a5 with rfl|rfl|rfl <;> omega)).mono ?_;rintro _ _ _ ⟨rfl,gd,ez⟩;rw[gd,ez];refine aF ?_;have Bo:u (T (T h U (.cells [(n:X)] false)) (U+1) (.cells [.int .i64 0,.slice none 0 0] false)) U=some (.cells [(n:X)] false):=ab
 have pY:u (T (T h U (.cells [(n:X)] false)) (U+1) (.cells [.int .i64 0,.slice none 0 0] false)) (U+1)=some (.cells [.int .i64 0,.slice none 0 0] false):=ab
 have t0:=bZ (o:=.cells [(n:X)] false) (aX:=.cells [.int .i64 0,.slice none 0 0] false);generalize T (T h U (.cells [(n:X)] false)) (U+1) (.cells [.int .i64 0,.slice none 0 0] false)=H at *
 refine⟨λh=>absurd h J,λ_=>?_⟩;rw[hl (J:¬(4096:Int)<(n:Int))];unfold Ol;refine aF ?_;refine agQ ?_;refine(auw J (aJ.F t0  J) λp bk ac Y hk dR=>akB  ((hk U J).trans Bo) (by omega) ?_).mono ?_
 ·exact(jO  ).1 bk |>.1
 rintro _ E B ⟨rfl,P,eZ⟩;have cv:=(P U J).trans Bo;have bB:=(P (U+1) J).trans pY;have hu:=t0.trans P J;refine aF ?_;unfold YF;refine aF ?_;refine⟨λh=>absurd trivial h,?_⟩;refine bD.mk (λm aE ac Y=>∃i,m=(bj n S).length-i/\i<=(bj n S).length/\aE=[(r:X),.slice a8 (bj n S).length cap,bd U,.pointer (some ⟨U+1,0,none⟩),.int .i64 0,.int .i64 ((bj n S).length:Int),(i:X)]/\ac=E/\Y=B) (bj n S).length ⟨0,J,J,rfl,rfl,rfl⟩ ?_;rintro _ _ aL bS ⟨i,rfl,aj,rfl,gd,ez⟩;rw[amq,gd,ez];unfold YD;refine aF ?_;refine⟨λcA=>?_,λeN=>?_⟩
 ·obtain⟨b,o,aO,bJ,cs,mC,aT,V,a6,g⟩:=aJ.all (λ_=>rfl) ab;cases V;have D:=(hu b aT).trans a6;have fin:∃bC,bC<(bj n S).length-i/\∃Z,bC=(bj n S).length-Z/\Z<=(bj n S).length/\[Value.int .i64 r,.slice (some ⟨b,o,aO⟩) (bj n S).length cap,bd U,.pointer (some ⟨U+1,0,none⟩),.int .i64 0,.int .i64 ((bj n S).length:Int),.int .i64 (IntKind.wrap .i64 ((i:Int)+1))]=[(r:X),.slice (some ⟨b,o,aO⟩) (bj n S).length cap,bd U,.pointer (some ⟨U+1,0,none⟩),.int .i64 0,.int .i64 ((bj n S).length:Int),(Z:X)]:=⟨_,J,i+1,rfl,J,by rw[cG J]⟩
  refine⟨λbk=>?_,λ_=>fin⟩;obtain⟨j,rfl⟩:∃j,i=j+1:=⟨i-1,J⟩
  obtain⟨p,wC⟩:=d1 (l:=bj n S) (i:=j) J;obtain⟨q,LP⟩:=d1   J;have c1:=(g j p wC).2 0 _ J rfl;have c2:=(g (j+1) q LP).2 0 _ J rfl;rw[nK]at c1 c2;have GW:=uD     wC LP J;have cn:IntKind.wrap .i64 (((j+1:Nat):Int)-1)=(j:Int):=by rw[oE];omega
  refine k7 @cn @D @c1 @c2 ?_;exact⟨λh=>absurd GW h,λ_=>fin⟩
 ·obtain⟨yX,hHH⟩:∃yX,yX=T (T E B (.cells [.int .i64 0,.slice none 0 0] false)) B (.cells [(n:X),.slice none 0 0] false):=⟨_,rfl⟩
  have Be:u yX B=some (.cells [(n:X),.slice none 0 0] false):=ab
  have kHH:aA B E yX:=by rw[hHH];exact aK
  refine bg @cv ?_;rw[<-hHH];refine bD.mk (λm aE ac Y=>∃i w,m=(bj n S).length-i/\i<=(bj n S).length/\aE=[(r:X),.pointer (some ⟨U+1,0,none⟩),.int .i64 0,bd B,.slice a8 (bj n S).length cap,.int .i64 ((bj n S).length:Int),(i:X)] /\
   u ac B=some (.cells [(n:X),w] false)/\d5 ac w fD 2 (sA r ((bj n S).take i)) (B+1) Y/\aA B E ac/\B+1<=Y) (bj n S).length ⟨0,_,J,J,rfl,Be,.inl ⟨rfl,rfl⟩,kHH,J⟩ ?_
  rintro _ _ aL bS ⟨i,w,rfl,aj,rfl,ch,A,I,gA⟩;have o1:aA U h aL:=aK
  have DL:=(I (U+1) J).trans bB;rw[amr];unfold YE;refine aF ?_;refine⟨λcA=>?_,λeN=>?_⟩
  ·obtain⟨p,bk⟩:=d1   J;obtain⟨hpn,hpS⟩:=vS   bk;have nZ:=dI _ _ hpS;obtain⟨b,o,aO,bJ,cs,mC,aT,V,a6,g⟩:=aJ.all (λ_=>rfl) ab;cases V;have D:=(o1 b aT).trans a6;have kl:=(g i p bk).1;have M:lg p.2:=FC (by unfold kk er at *;omega);have x7:sb p.2=true:=by unfold sb er at *;grind
   simp(disch:=omega)only[bn,D,kl,show dh (.agg ⟨eL p⟩)=[(p.1:X),.int .i64 (p.2 / 18446744073709551616),.int .u64 (p.2 % 18446744073709551616)]from rfl,seval];refine(Wl M).mono ?_;rintro _ bm dH ⟨rfl,fP,ir⟩;rw[x7];refine aF ?_;refine(amE  (by rcases a5 with rfl|rfl|rfl <;> simp)).mono ?_;rintro _ _ _ ⟨rfl,gd,ez⟩;rw[gd,ez];have gn4:=(fP bS J).trans (aS _ _ _);have e6:=(fP B J).trans ((aq J).trans ((aq J).trans ch));have gR:aA bS aL bm:=aK
   have ck:(bj n S).take (i+1)=(bj n S).take i++[p]:=by rw[hx,bk];rfl
   refine aF ?_;refine⟨λcZ=>?_,λcZ=>?_⟩
   ·have bp:sA r ((bj n S).take (i+1))=sA r ((bj n S).take i)++[p]:=by
     unfold sA
     grind
    have hdl:(sA r ((bj n S).take i)).length<=i:=hy (y4 _ _) ab;obtain⟨gy,ny,rfl⟩:∃a c,w = .slice a (sA r ((bj n S).take i)).length c:=by
     rcases A with⟨V,rfl⟩|⟨b,_,_,rfl,_⟩
     all_goals grind
    refine cL @gn4 @e6 ?_;refine l4  (k:=2)  (λ_=>rfl) (λ_=>rfl) J (A.F  (λc h1 E=>by rw[aq J,gR c J]) J) J p (aS _ _ _) rfl J λdN kI Tx vd=>?_;have jw:u kI B=some (.cells [(n:X),.slice gy (sA r ((bj n S).take i)).length ny] false):=ab
    have UR:aA B E kI:=λc aZ=>by rw[vd c J,aq J,gR c J];exact I c aZ
    rcases Tx with⟨aM,rfl⟩|⟨Bp,ig,fw,rfl,LO⟩
    ·simp at aM
    ·refine cL @jw (cG (J:i<1000000000000)) ?_;refine⟨_,J,i+1,_,rfl,J,rfl,rfl,.inr ⟨Bp,ig,J,by rw[bp],?_⟩,UR.set (cD _),J⟩
     grind
   ·have bp:sA r ((bj n S).take (i+1))=sA r ((bj n S).take i):=by
     unfold sA
     grind
    refine bg (cG (J:i<1000000000000)) ?_;exact⟨_,J,i+1,w,rfl,J,rfl,e6,by rw[bp];exact A.F (λc h1 E=>gR c J) J,λc aZ=>(gR c J).trans (I c aZ),J⟩
  ·have:i=(bj n S).length:=J
   subst this;rw[iQ,arX]at A;obtain⟨_,_,rfl⟩:∃a c,w = .slice a (bj n λi=>qi r (S i)).length c:=by
    rcases A with⟨V,rfl⟩|⟨b,_,_,rfl,_⟩
    all_goals grind
   refine cL @ch @DL ?_;refine⟨_,rfl,⟨_,rfl,?_⟩,o1.set J,J⟩;rcases A with⟨V,aP⟩|⟨Bp,ig,fw,aP,LO⟩
   ·rw[V]at aP ⊢;exact⟨_,_,rfl,λh=>absurd rfl h⟩
   ·cases aP;exact⟨_,_,rfl,λ_=>⟨Bp,some 2,false,J,fw,rfl,ab⟩⟩
def abH:gf:=λs ah t1 t2 h U K=>hT 2 ah t1 λa=>ax h 0 a λc=>hT 3 c (ad 0) λd=>ax h 0 d λf=>hT 2 ah t2 λg=>ax h 0 g λj=>hT 3 j (ad 0) λk=>ax h 0 k λm=>b9 242 [f,m] h U λn o p=>hT 2 ah t1 λq=>bf 1 q λr=>bT o r λt=>c0 r t (hT 2 ah t2 λaD=>bf 1 aD λv=>bT o v λw=>c0 v w (b9 242 [t,w] o p λx y z=>d4 (fh 2 [(ad 0),(ad 0)] [(0,1,n),(1,1,x)]) y z λbz bU bQ=>b9 241 [bz] bU bQ λa8 bY b7=>bG .lss 3 a8 (ad 0) λbL=>K bL bY b7) 1 [h]) 1 [h]
theorem aob:gl 523 abH:=gp []
def adU:cP:=λs ah h U K=>af (bs ah) λa=>bT h a λb=>cV b λc=>bG .sub 3 c (ad 1) λd=>af (bs ah) λe=>bT h e λf=>hv 2 h 2 f d λi=>bW [ay,(ad 0)] h U λj k l=>af (aQ k 2 j i) λm=>af (bs ah) λn=>bT m n λo=>af (gW 2 o none (some d) none) λp=>af (bs ah) λq=>af (aQ m 1 q p) λr=>aN 2 r j λt=>af (.ok (Value.iface 417 t)) λaD=>K aD r l
theorem arY:cQ 524 adU:=cT []
def abI:c5:=λs ah t1 h U K=>af (Fq Q 417 true t1) λa=>af (cy a 0) λb=>af (cy a 1) λc=>bW [ay,(ad 0)] h U λd e f=>af (aQ e 2 d b) λg=>br c (af (bs ah) λi=>bT g i λj=>aN 2 g d λk=>d4 (fh 1 [ay,(ad 0)] [(0,2,k)]) g f λl m n=>dG (dX (dT 2 m n j l)) λo p q=>n<=q/\af (bs ah) λr=>af (aQ p 1 r o) λt=>K (.tuple ⟨[]⟩) t q) (K (.tuple ⟨[]⟩) g f)
theorem aoc:c7 525 abI:=c9 []
def abJ:gf:=λs ah t1 t2 h U K=>hv 2 h 2 ah t2 λb=>hv 2 h 2 ah t1 λd=>hT 2 ah t1 λe=>af (aQ h 2 e b) λf=>hT 2 ah t2 λg=>af (aQ f 2 g d) λi=>K (.tuple ⟨[]⟩) i U
theorem aod:gl 526 abJ:=gp []
theorem afe:qV Tryz.prog 415 "Len" = some (329,false):=by kernel_rfl
theorem QL:qV Tryz.prog 415 "Less" = some (523,false):=by kernel_rfl
theorem QM:qV Tryz.prog 415 "Swap" = some (526,false):=by kernel_rfl
theorem aux:qV Tryz.prog 415 "Push" = some (525,true):=by kernel_rfl
theorem awJ:qV Tryz.prog 415 "Pop" = some (524,true):=by kernel_rfl
theorem agj:Tryz.prog.underlying 415=some (.pointer 370):=by kernel_rfl
theorem ayz:pj Tryz.prog 370=some none:=by kernel_rfl
theorem arZ:zi Tryz.prog 417=true:=by kernel_rfl
section
variable {h:ae} {U cf:Nat} {v:X} {l bt:aa X}
theorem xV{m:String}{f:FuncId}(D:qV Tryz.prog 415 m=some (f,false))(B:u h cf=some (.cells (v::bt) false)):l2 Q h U l m (.iface 415 (bd cf)) = .call f (v::l) h U:=by show Se "invoke - method" (qV Tryz.prog 415 m) (λg=>Dk (v6 Tryz.prog h 415 g.2 (bd cf)) (λy=>.call g.1 (y::l) h U))=_;rw[D];unfold v6;rw[agj];show Dk (R.of "type" (pj Tryz.prog 370) (λA=>iH A h (bd cf))) _=_;rw[ayz];show Dk (iH none h (bd cf)) _=_;rw[Kg,B];rfl
theorem aff{m:String}{f:FuncId}(A:qV Tryz.prog 415 m=some (f,true)):l2 Q h U l m (.iface 415 (bd cf)) = .call f ((bd cf)::l) h U:=by show Se "invoke - method" (qV Tryz.prog 415 m) (λg=>Dk (v6 Tryz.prog h 415 g.2 (bd cf)) (λy=>.call g.1 (y::l) h U))=_;rw[A];unfold v6;rw[agj];rfl
end
def uQ(h:ae)(ao:Nat)(x:e2):Prop:=∃b o aO bJ cs c a,x.v = .slice (some ⟨b,o,aO⟩) (x.n+1) c/\b<ao/\u h b=some (.cells cs bJ)/\cs[o]? = some (((a:Nat):X))/\x.k=(a:Int)*1000+(x.w:Int)/\x.w<1000
theorem uQ.F{h ac:ae}{ao:Nat}{x:e2}(H:uQ h ao x)(E:∀c,c<ao->u ac c=u h c):uQ ac ao x:=by obtain⟨b,o,aO,bJ,cs,c,a,B,g,D,A⟩:=H;exact⟨b,o,aO,bJ,cs,c,a,B,g,ab,A⟩
theorem afg{h:ae}{i:Nat}{x:e2}(g:gS x.v=true)(aj:i<W.length):jY (some (.cells (bc hd W++cs) false)) h b (i*2) [x.v,(x.w:X)] = .ok (T h b (.cells (bc hd (W.set i x)++cs) false)):=by
 have B:=gg  vK;have A:ea [x.v,(x.w:X)]=true:=by rw[qT,g];rfl
 have:=Oc  vK cs x W i aj;rw[Kh A ab]
 grind
theorem PN{s:al}{h:ae}{U n:Nat}{a:aw Addr}:aH Q s 329 [.slice a n cap] h U (λr ac Y=>r = (n:X)/\ac=h/\Y=U):=by refine atH ?_;unfold aeF;simp(disch:=omega)only[bn,seval]
theorem NW{s:al}{h:ae}{U n ao:Nat}{i k:Nat}{x:e2}(I:u h b=some (.cells (bc hd W++cs) false))(sp:b<U)(wz:ao<=U)(bH:W.length=n)(aj:W[i]? = some x)(Z:W[k]? = some y)(aBT:uQ h ao x)(aBU:uQ h ao y):
  aH Q s 523 [.slice (some ⟨b,0,aO⟩) n cap,(i:X),(k:X)] h U (dC (.bool (decide (x.k<y.k))) U h):=by
 refine aob ?_;unfold abH;have aBV:=(hY.1 aj).1;have gk:=(hY.1 Z).1;rw[bH]at aBV gk;obtain⟨dE,eX,sp1,ro1,cs1,c1,aB,aV,dQ,P,M,dt,dc⟩:=aBT;obtain⟨b4,dO,mf,wG,yB,c2,a2,aP,dB,V,E,eG,db⟩:=aBU;have g:=aex (cs:=cs) aj;have A:=aex (cs:=cs) Z;rw[aV]at g;rw[aP]at A;simp(disch:=omega)only[bn,I,g.1,g.2,A.1,A.2,P,V,M,E,seval];refine PH.mono ?_;rintro _ _ _ ⟨rfl,B,D⟩;rw[B,D];refine⟨J,?_⟩;simp(disch:=omega)only[bn,I,g.1,g.2,A.1,A.2,P,V,M,E,seval];refine PH.mono ?_;rintro _ _ _ ⟨rfl,B,D⟩;rw[B,D];refine⟨J,?_⟩;refine aF ?_;refine(Cu (aS _ _ _)).mono ?_;rintro _ _ _ ⟨rfl,rfl,rfl⟩;refine⟨J,?_⟩;refine aF ?_;refine⟨?_,aK,J⟩
 congr 1
 rw[dt,eG,decide_eq_decide];unfold fO;omega
theorem NX{s:al}{h:ae}{U n:Nat}{i k:Nat}{x:e2}(A:u h b=some (.cells (bc hd W++cs) false))(I:W.length=n)(aj:W[i]? = some x)(g:W[k]? = some y)(D:gS x.v=true)(B:gS y.v=true):
  aH Q s 526 [.slice (some ⟨b,0,aO⟩) n cap,(i:X),(k:X)] h U (λr ac Y=>r = .tuple ⟨[]⟩/\u ac b=some (.cells (bc hd (ss W i k x y)++cs) false)/\(∀c,c≠b->u ac c=u h c)/\Y=U):=by refine aod ?_;unfold abJ;have E:=(hY.1 aj).1;have M:=(hY.1 g).1;simp(disch:=omega)only[bn,A,JZ aj,JZ g,seval];rw[afg B E,zS];rw[aS,afg D ab,zS];exact⟨aS _ _ _,ab⟩
abbrev tq(cf:Nat):X:=.iface 415 (bd cf)
def l6(h:ae)(ao:Nat)(W:aa e2):Prop:=∀x∈W,uQ h ao x
theorem l6.F{h ac:ae}{ao:Nat}{W:aa e2}(H:l6 h ao W)(g:∀c,c<ao->u ac c=u h c):l6 ac ao W:=λx A=>(H x A).F g
theorem l6.perm{h:ae}{ao:Nat}(H:l6 h ao W)(p:dk.Perm W):l6 h ao dk:=λx g=>H x ab
theorem uQ.cell{h:ae}{ao:Nat}{x:e2}(H:uQ h ao x):gS x.v=true:=by obtain⟨b,o,aO,bJ,cs,c,a,g,_⟩:=H;rw[g];rfl
theorem l6.at{h:ae}{ao i:Nat}{x:e2}(H:l6 h ao W)(g:W[i]? = some x):uQ h ao x:=H x ab
theorem Rl{h ac:ae}{cf:Nat}{bt:aa X}(w:oD h cf b aO cap W cs bt)(A:u ac b=some (.cells (bc hd dk++cs) false))(g:dk.length=W.length)(B:u ac cf=u h cf):oD ac cf b aO cap dk cs bt :=
 ⟨by rw[B,g];exact w.cell,A,by rw[g];exact w.len,w.G0,w.ne⟩
theorem Gi{h ac:ae}{cf U:Nat}{bt:aa X}(w:oD h cf b aO cap W cs bt)(A:aA U h ac)(B:b<U)(g:cf<U):oD ac cf b aO cap W cs bt :=
 ⟨(A _ g).trans w.cell,(A _ B).trans w.cm,w.len,w.G0,w.ne⟩
theorem awK(h:m<1000000000):IntKind.wrap .i64 ((m:Int)-1)=(m:Int)-1:=by rw[oE];omega
theorem ayA(g:j<=100000):bin Q .quo 3 (.int .i64 ((j:Int)-1)) (.int .i64 2) = .ok (((eI j:Nat):X)):=by
 rw[B9 (by decide)];have:((j:Int)-1).tdiv 2=((eI j:Nat):Int):=by
  cases j with
  |zero=>rfl
  |succ j =>
   have e:((j+1:Nat):Int)-1=(j:Int):=J
   rw[e];rfl
 rw[this,show IntKind.wrap .i64 ((eI j:Nat):Int)=((eI j:Nat):Int) by rw[oE];grind]
def AY(b U:Nat)(h ac:ae)(Y:Nat):Prop:=(∀c,c<U->c≠b->u ac c=u h c)/\U<=Y
def UpJ(cf b ao:Nat)(aO:aw Nat)(cap:Nat)(W:aa e2)(cs bt:aa X)(h:ae)(U:Nat)(m:Nat)(aE:aa X)(ac:ae)(Y:Nat):Prop :=
 ∃(dk:aa e2),aE=[tq cf,(m:X)]/\oD ac cf b aO cap dk cs bt/\uN dk m/\m<dk.length/\dk.Perm W/\AY b U h ac Y
def awL(cf b:Nat)(aO:aw Nat)(cap:Nat)(W:aa e2)(cs bt:aa X)(h:ae)(U:Nat):bP:=λr ac Y=>r = .tuple ⟨[]⟩/\∃dk,oD ac cf b aO cap dk cs bt/\nR dk/\dk.Perm W/\AY b U h ac Y
theorem auy{s:al}{h:ae}{U cf ao:Nat}{bt:aa X}(w:oD h cf b aO cap W cs bt)(Ed:uN W j)(b1:j<W.length)(bb:W.length<=100000)(ok:l6 h ao W)(wz:ao<=U)(Ty:ao<=b)(ri:ao<=cf)(aT:b<U)(rx:cf<U):
  aH Q s 258 [tq cf,(j:X)] h U (awL cf b aO cap W cs bt h U):=by
 refine av5 ?_;have e0:=w.ne;refine bD.mk (UpJ cf b ao aO cap W cs bt h U) j ⟨W,rfl,w,Ed,b1,BH _,ab,J⟩ ?_;rintro m _ ac Y ⟨dk,rfl,V,A,bl,I,bK,dR⟩;have g:l6 ac ao dk:=(ok.F ab).perm I;rw[atD];unfold acU;have fW:=I.length_eq;obtain⟨y,E⟩:=d1 bl;obtain⟨x,D⟩:=d1 (l:=dk) (i:=eI m) (by unfold eI;omega);simp(disch:=omega)only[bn,awK (J:m<1000000000),ayA (J:m<=100000),xV QL V.cell,seval];refine⟨λau=>?_,λau=>?_⟩
 ·have M:m=0:=by
   have:((eI m:Nat):Int)=(m:Int):=ab
   unfold eI at this;omega
  exact⟨rfl,dk,V,A.done J,I,bK,dR⟩
 ·have M:0<m:=by
   rcases y8 m with e|e
   ·subst e;simp[eI]at au
   omega
  refine(NW  V.cm J J rfl E D (g.at E) (g.at D)).mono ?_;rintro r h1 bh ⟨rfl,B,fy⟩;have P:=Gi V B J J;simp(disch:=omega)only[bn,xV QM P.cell,seval];refine⟨λeN=>?_,λZ=>?_⟩
  ·refine⟨rfl,dk,P,A.done λf4 qF _ GQ Ss=>?_,I,λc ar aL=>(B c J).trans ab,J⟩
   grind
  ·refine(NX P.cm rfl D E (g.at D).cell (g.at E).cell).mono ?_;rintro r ar _ ⟨rfl,fw,rn,rfl⟩;have sj:eI m<m:=by unfold eI;omega
   exact⟨eI m,sj,_,rfl,Rl P fw (zz _ _ _ _ _) ab,A.step M D E Z,by rw[zz];omega,(Jc D E).trans I,λc aL bm=>by rw[rn c bm,B c J];grind,J⟩
def DnJ(cf b n:Nat)(aO:aw Nat)(cap:Nat)(W:aa e2)(cs bt:aa X)(h:ae)(U:Nat)(m:Nat)(aE:aa X)(ac:ae)(Y:Nat):Prop :=
 ∃(dk:aa e2) (i:Nat),m=n-i/\i<=n/\aE=[tq cf,.int .i64 0,(n:X),(i:X)]/\oD ac cf b aO cap dk cs bt/\uA dk n i/\dk.Perm W/\dk[n]? = W[n]?/\AY b U h ac Y
def afh(cf b n:Nat)(aO:aw Nat)(cap:Nat)(W:aa e2)(cs bt:aa X)(h:ae)(U:Nat):bP:=λr ac Y=>∃dk,oD ac cf b aO cap dk cs bt/\nR (dk.take n)/\dk.Perm W/\dk[n]? = W[n]?/\AY b U h ac Y
theorem aoe{s:al}{h:ae}{U cf n ao:Nat}{bt:aa X}(w:oD h cf b aO cap W cs bt)(Bi:uA W n 0)(bH:W.length=n+1)(bb:W.length<=100000)(ok:l6 h ao W)(wz:ao<=U)(Ty:ao<=b)(ri:ao<=cf)(aT:b<U)(rx:cf<U):
  aH Q s 257 [tq cf,.int .i64 0,(n:X)] h U (afh cf b n aO cap W cs bt h U):=by
 refine aqh ?_;have e0:=w.ne;refine bD.mk (DnJ cf b n aO cap W cs bt h U) n ⟨W,0,rfl,J,rfl,w,Bi,BH _,rfl,ab,J⟩ ?_;rintro m _ ac Y ⟨dk,i,rfl,aj,rfl,a9,P,bk,g,bK,dR⟩;have ok':l6 ac ao dk:=(ok.F ab).perm bk;rw[amm];unfold YC;have fW:=bk.length_eq;obtain⟨x,V⟩:=d1 (l:=dk) (i:=i) J;have aV:(2:Int)*(i:Int)=((2*i:Nat):Int):=J
 have aP:IntKind.wrap .i64 ((2*i:Nat):Int)=((2*i:Nat):Int):=by rw[oE];omega
 refine uG @zy @aV @aP (cG (J:2*i<1000000000000)) (cG (J:2*i+1<1000000000000)) ?_;have tail:∀(I:ae) (bh j:Nat) (y:e2),oD I cf b aO cap dk cs bt->AY b U h I bh->eI j=i->0<j->j<n->dk[j]? = some y->(∀(c:Nat) (z:e2),0<c->c<n->eI c=i->dk[c]? = some z->y.k<=z.k) ->
   fc Q s (l2 Q I bh [(j:X),(i:X)] "Less" (tq cf)) λjr h21 Lv=>af (dr .not jr) λml=>br ml (af (bin Q .gtr 3 (a7 [tq cf,.int .i64 0,(n:X),(i:X)] 3) (a7 [tq cf,.int .i64 0,(n:X),(i:X)] 1)) λpL=>afh cf b n aO cap W cs bt h U pL h21 Lv) (fc Q s (l2 Q h21 Lv [(i:X),(j:X)] "Swap" (tq cf)) λoT h25 S8 =>
    ∃bC,bC<n-i/\DnJ cf b n aO cap W cs bt h U bC [tq cf,.int .i64 0,(n:X),(j:X)] h25 S8):=by
  intro I bh j y dc M Sy AZ hjn ce KM;have hij:i<j:=by unfold eI at Sy;omega
  have fy:=M.2;have D:l6 I ao dk:=(ok.F λc aZ=>M.1 c J J).perm bk;rw[xV QL dc.cell,xR];refine(NW  dc.cm J J rfl ce V (D.at ce) (D.at V)).mono ?_;rintro r Z bX ⟨rfl,ei,eZ⟩;have db:=Gi dc ei J J;have rn:AY b U h Z bX:=⟨λc I Z=>(ei c J).trans (M.1 c I Z),J⟩
  simp(disch:=omega)only[bn,xV QM db.cell,seval];refine⟨λeN=>?_,λB=>?_⟩
  ·refine⟨dk,db,P.done λc f4 qF aZ Av tB GQ Ss=>?_,bk,g,rn⟩
   grind
  ·refine(NX db.cm rfl V ce (D.at V).cell (D.at ce).cell).mono ?_;rintro r aL _ ⟨rfl,n0,A,rfl⟩;refine⟨n-j,J,_,j,rfl,J,rfl,Rl db n0 (zz _ _ _ _ _) ab,P.step AZ hjn Sy V ce B KM,(Jc V ce).trans bk,?_,λc bm b3=>(A c b3).trans (rn.1 c bm b3),J⟩;rw[Fz V ce J,if_neg J,if_neg J];omega
 have aAb:∀c,0<c->eI c=i->c=2*i+1\/c=2*i+2:=λc aZ h=>(alU aZ).1 h;refine⟨λeN=>?_,λB=>?_⟩
 ·unfold Jg;refine aF ?_;exact⟨dk,a9,P.done ab,bk,g,bK,dR⟩
 ·rw[hl (J:¬((2*i+1:Nat):Int)<0)];unfold Jg;refine bg (cG (J:2*i+1<1000000000000)) ?_;obtain⟨ct,E⟩:=d1 (l:=dk) (i:=2*i+1) J;refine⟨λZ=>?_,λZ=>?_⟩
  ·obtain⟨cB,Tz⟩:=d1 (l:=dk) (i:=2*i+1+1) J;rw[xV QL a9.cell,xR];refine(NW  a9.cm J J rfl Tz E (ok'.at Tz) (ok'.at E)).mono ?_;rintro r aL bS ⟨rfl,e8,gA⟩;have i3:=Gi a9 e8 J J;have A:AY b U h aL bS:=⟨λc I Z=>(e8 c J).trans ab,J⟩
   unfold Jf;rw[C4];refine⟨λbm=>tail aL bS _ cB i3 A (by unfold eI;omega) J Z Tz ab,λbm=>tail aL bS _ ct i3 A (by unfold eI;omega) J B E ab⟩
   all_goals grind
  ·unfold Jf;rw[C4];refine⟨λbm=>absurd bm (by simp),λ_=>tail ac Y _ ct a9 ⟨bK,dR⟩ (by unfold eI;omega) J B E λc z aZ Av tB cZ=>?_⟩
   grind
theorem akC{y:X}:Fq Tryz.prog 417 true (.iface 417 y) = .ok (.tuple ⟨[y,.bool true]⟩):=by show(bif zi Tryz.prog 417&&Nat.beq 417 417 then R.ok (ow true y true)else .no "typeAssert")=_;rw[arZ];rfl
def uR(h:ae)(cf:Nat)(bt:aa X)(W:aa e2)(dq:aw Nat):Prop:=(dq=none/\W=[]/\u h cf=some (.cells (.slice none 0 0::bt) false))\/∃b aO cap cs,dq=some b/\oD h cf b aO cap W cs bt
def Rm(cf:Nat)(bt:aa X)(dq:aw Nat)(U:Nat)(h:ae)(p:aa e2->Prop):bP:=λr ac Y=>∃dk rB,uR ac cf bt dk rB/\p dk/\(rB=dq\/∃cd,rB=some cd/\U<=cd/\cd<Y)/\U<=Y/\∀c,c<U->c≠cf->dq≠some c->u ac c=u h c
theorem afi{h:ae}{cf:Nat}{v g:X}{bt:aa X}(A:gS g=true):jY (some (.cells (v::bt) false)) h cf 0 [g] = .ok (T h cf (.cells (g::bt) false)):=by rw[Kh (by rw[qT,A];rfl) ab];rfl
theorem akD{s:al}{h:ae}{U cf:Nat}{x:e2}{bt:aa X}(w:uR h cf bt W dq)(aT:∀b,dq=some b->b<U)(rx:cf<U)(bb:W.length<1000)(E:gS x.v=true)(D:dh x.v=[x.v]):
  aH Q s 525 [bd cf,.iface 417 (.agg ⟨[x.v,(x.w:X)]⟩)] h U (Rm cf bt dq U h λdk=>dk=W++[x]):=by
 refine aoc ?_;unfold abI;rw[akC];rcases w with⟨rfl,rfl,aZ⟩|⟨b,aO,cap,cs,rfl,w⟩
 ·have g:u (T (T h U (.cells [.slice none 0 0,.int .i64 0] false)) U (.cells [x.v,(x.w:X)] false)) cf=some (.cells (.slice none 0 0::bt) false):=ab
  refine hK @g @E @D ?_;refine l4  (enc:=λ_=>hd x)  (ao:=U+1+1) (l:=[]) ab (λ_=>by rw[qT,E];rfl) J (.inl ab) J () (aS _ _ _) rfl J λdN b3 V hq=>?_;rcases V with⟨aM,rfl⟩|⟨b,ig,fw,rfl,a6⟩
  ·simp at aM
  ·have Dn:u b3 cf=some (.cells (.slice none 0 0::bt) false):=ab
   rw[Dn];show _/\_/\af (jY (some (.cells (.slice none 0 0::bt) false)) b3 cf 0 [.slice (some ⟨b,0,some 2⟩) 1 1]) _;rw[afi rfl];refine⟨J,rfl,[x],some b,.inr ⟨b,some 2,1,[],rfl,⟨ab,?_,rfl,ab,J⟩⟩,rfl,ab,J,λc h1 ar _=>?_⟩
   ·rw[aq J,a6];rfl
   grind
 ·have e0:=w.ne;have sp:=aT b rfl;have g:u (T (T h U (.cells [.slice none 0 0,.int .i64 0] false)) U (.cells [x.v,(x.w:X)] false)) cf=some (.cells (.slice (some ⟨b,0,aO⟩) W.length cap::bt) false):=by rw[aq J,aq J];exact w.cell
  refine hK @g @E @D ?_;obtain⟨I,B,A,M,ac,Y,aV,aP,ch,e6,gz,ik,gF,Bl⟩:=apN (h:=T (T (T h U (.cells [.slice none 0 0,.int .i64 0] false)) U (.cells [x.v,(x.w:X)] false)) (U+1) (.cells [x.v,(x.w:X)] false)) (U:=U+1+1) (b:=b)        (dO:=0)  (by rw[aq J,aq J,aq J];exact w.cm) rfl w.len w.G0 J x E (aS _ _ _) rfl J;rw[aV];have P:u ac cf=some (.cells (.slice (some ⟨b,0,aO⟩) W.length cap::bt) false):=ab
  have Z:I≠cf:=J
  show U+1+1<=Y/\_/\af (jY (u ac cf) ac cf 0 [.slice (some ⟨I,0,B⟩) (W.length+1) A]) _;rw[P,afi rfl];refine⟨ik,rfl,_,some I,.inr ⟨I,B,A,M,rfl,⟨?_,?_,ch,e6,Z⟩⟩,rfl,?_,J,ab⟩
  all_goals grind
theorem aof{s:al}{h:ae}{U cf n:Nat}{bt:aa X}(w:oD h cf b aO cap W cs bt)(aT:b<U)(rx:cf<U)(V:W.length=n+1)(bb:W.length<100000){ao:Nat}(ok:l6 h ao W):
  aH Q s 524 [bd cf] h U (λr ac Y=>∃P,oD ac cf b aO cap (W.take n) P bt/\Y=U+1/\∀c,c<U->c≠cf->u ac c=u h c):=by
 refine arY ?_;unfold adU;have D:=w.ne;have e:IntKind.wrap .i64 ((W.length:Int)-1)=(n:Int):=by rw[oE];omega
 obtain⟨x,E⟩:=d1 (l:=W) (i:=n) J;have yl:=w.len;have M:=(ok.at E).cell;have I:dh x.v=[x.v]:=by obtain⟨_,_,_,_,_,_,_,Z,_⟩:=ok.at E;rw[Z];rfl
 have g:u (T (T h U (.cells [.slice none 0 0,.int .i64 0] false)) U (.cells [x.v,(x.w:X)] false)) cf=some (.cells (.slice (some ⟨b,0,aO⟩) W.length cap::bt) false):=by rw[aq J,aq J];exact w.cell
 have B:=apO (b:=b) (aO:=aO) (n:=n) (cap:=cap) J;rw[V]at g e;have A:=w.cell;rw[V]at A;simp(disch:=omega)only[bn,A,e,w.cm,JZ E,M,I,g,B,seval];have jy:W=W.take n++[x]:=by
  have Z:W.take (n+1)=W.take n++[x]:=by rw[hx,E];rfl
  grind
 refine⟨J,hd x++cs,⟨ab,?_,?_,w.G0,D⟩,ab⟩
 ·rw[aq D,aq J,aq J,w.cm]
  conv=>lhs;rw[jy]
  rw[rX,kv]
 grind
theorem aog{s:al}{h:ae}{U cf ao:Nat}{x:e2}{bt:aa X}(w:uR h cf bt W dq)(aT:∀b,dq=some b->ao<=b/\b<U)(rx:cf<U)(ri:ao<=cf)(wz:ao<=U)(bb:W.length<1000)(fJ:nR W)(ok:l6 h ao (W++[x])):
  aH Q s 171 [tq cf,.iface 417 (.agg ⟨[x.v,(x.w:X)]⟩)] h U (Rm cf bt dq U h λdk=>nR dk/\dk.Perm (W++[x])):=by
 refine aqd ?_;unfold acR;have I:=ok x ab;have hxc:dh x.v=[x.v]:=by obtain⟨_,_,_,_,_,_,_,P,_⟩:=I;rw[P];rfl
 rw[aff aux,xR];refine(akD w ab rx bb I.cell hxc).mono ?_;rintro r P bh ⟨dk,rB,M,rfl,aV,aP,ch⟩;rcases M with⟨_,au,_⟩|⟨A,TA,g,sh,rfl,M⟩
 ·simp at au
 have D:ao<=A/\A<bh:=ab
 rw[xV afe M.cell,xR];refine PN.mono ?_;rintro r _ _ ⟨rfl,gd,ez⟩;rw[gd,ez];have E:(W++[x]).length=W.length+1:=by simp
 rw[E];have e:IntKind.wrap .i64 (((W.length+1:Nat):Int)-1)=(W.length:Int):=by rw[oE];omega
 refine bg @e ?_;have ok1:l6 P ao (W++[x]):=ok.F ab;refine(auy M (uN.push  fJ) J J ok1 J D.1 ri D.2 J).mono ?_;rintro r ar bX ⟨rfl,dk,db,V,Z,B⟩;have eZ:=B.2;refine⟨dk,some A,.inr ⟨A,TA,g,sh,rfl,db⟩,⟨V,Z⟩,?_,J,λc P ar aL=>?_⟩
 ·grind
 ·have hcb:c≠A:=ab
  exact(B.1 c J hcb).trans ab
theorem ar0{s:al}{h:ae}{U cf ao:Nat}{p:e2}{bt:aa X}(w:oD h cf b aO cap W cs bt)(aT:b<U)(Ty:ao<=b)(rx:cf<U)(ri:ao<=cf)(wz:ao<=U)(bb:W.length<1000)(fJ:nR W)(ok:l6 h ao W)(ix:W[0]? = some p):
  aH Q s 170 [tq cf] h U (λr ac Y=>∃sh dk,oD ac cf b aO cap dk sh bt/\nR dk/\(p::dk).Perm W/\U<=Y/\∀c,c<U->c≠b->c≠cf->u ac c=u h c):=by
 refine atB ?_;unfold aeC;have e0:=w.ne;obtain⟨n,bH⟩:∃n,W.length=n+1:=⟨W.length-1,ab⟩
 obtain⟨q,E⟩:=d1 (l:=W) (i:=n) J;have g:=w.cell;rw[xV afe g,xR];refine PN.mono ?_;rintro r fm gQ ⟨rfl,aV,aP⟩;rw[aV,aP];have e:IntKind.wrap .i64 ((W.length:Int)-1)=(n:Int):=by rw[oE];omega
 simp(disch:=omega)only[bn,e,xV QM g,seval];have nY:aH Q s 526 [.slice (some ⟨b,0,aO⟩) W.length cap,((0:Nat):X),(n:X)] h U _:=NX  w.cm rfl ix E (ok.at ix).cell (ok.at E).cell;refine nY.mono ?_;rintro r Z _ ⟨rfl,ig,Dv,rfl⟩;have dc:=Rl w ig (zz _ _ _ _ _) ab;have P:l6 Z ao (ss W 0 n p q):=(ok.F ab).perm (Jc ix E);refine(aoe dc (uA.pop fJ bH ix E) (by rw[zz];omega) (by rw[zz];omega) P wz Ty ri aT rx).mono ?_;rintro r V bX ⟨A,db,n2,B,tw,D⟩;have eZ:=D.2;rw[aff awJ,xR];have I:=B.length_eq;rw[zz]at I;have ok2:l6 V ao A:=(P.F λc aZ=>D.1 c J J).perm B;refine(aof (n:=n) db J J J J ok2).mono ?_;rintro r aL _ ⟨AV,i3,rfl,yr⟩;refine⟨AV,A.take n,i3,n2,?_,J,λc Z V aL=>by rw[yr c J aL,D.1 c Z V,Dv c V]⟩
 by_cases md:n=0
 ·subst md;rw[t8];have:W=[p]:=by
   match W,bH,ix with
   | [a],_,h=>grind
  rw[this]
 have a1:A[n]? = some p:=by rw[tw,Fz ix E J,if_pos rfl]
 have jy:A=A.take n++[p]:=by
  have Z:A.take (n+1)=A.take n++[p]:=by rw[hx,a1];rfl
  grind
 have M:(p::A.take n).Perm (A.take n++[p]):=(List.perm_append_comm  (l₂:=[p])).symm;rw[<-jy]at M;exact(M.trans B).trans (Jc ix E)
def mm{az:Type}(h:ae)(U:Nat)(v:X)(enc:az->aa X)(k:Nat)(l:aa az):Prop :=
 ∃a c,v = .slice a l.length c/\(l≠[]->∃b o aO bJ cs,b<U/\a=some ⟨b,o,aO⟩/\aO≠some 0/\l.length<=c/\u h b=some (.cells cs bJ)/\o+l.length*k<=cs.length/\(cs.drop o).take (l.length*k)=bc enc l)
section
variable {az:Type} {h ac:ae} {U Y k:Nat} {v:X} {enc:az->aa X} {l:aa az}
theorem mm.o(H:mm h U v enc k l):ej h U v enc k l:=by obtain⟨a,c,e,H⟩:=H;exact⟨a,c,e,λg=>ab⟩
theorem mm.F(H:mm h U v enc k l)(B:∀c,c<U->u ac c=u h c)(A:U<=Y):mm ac Y v enc k l:=by obtain⟨a,c,e,H⟩:=H;exact⟨a,c,e,λg=>ab⟩
theorem d5.c{ao aj:Nat}(D:0<k)(g:∀x,(enc x).length=k)(H:d5 h v enc k l ao aj):mm h aj v enc k l:=by
 rcases H with⟨rfl,rfl⟩|⟨b,E,A,rfl,B⟩
 ·exact⟨_,_,rfl,λh=>absurd rfl h⟩
 ·exact⟨_,_,rfl,λ_=>⟨b,0,some k,false,_,A,rfl,ab,J,B,by rw[gg g];omega,by rw[pb,o8 (by rw[gg g];omega)]⟩⟩
theorem mm.tail{x:az}(hk:∀x,(enc x).length=k)(H:mm h U v enc k (x::l)):∃w,gW k v (some (.int .i64 1)) none none = .ok w/\mm h U w enc k l:=by
 obtain⟨a,c,rfl,H⟩:=H;obtain⟨b,o,aO,bJ,cs,h1,rfl,D,M,I,P,B⟩:=H (by simp);have g:(x::l).length=l.length+1:=rfl;rw[g]at M P B;show ∃w,gW k (.slice (some ⟨b,o,aO⟩) (l.length+1) c) (some (.int .i64 1)) none none = .ok w/\_;have e:gW k (.slice (some ⟨b,o,aO⟩) (l.length+1) c) (some (.int .i64 1)) none none=nN k (some ⟨b,o,aO⟩) c false c (l.length+1) 1:=rfl;rw[e];clear e;unfold nN;rw[show(Nat.ble c c&&(Nat.ble (l.length+1) c&&Nat.ble 1 (l.length+1)))=true by simp;omega];unfold uy
 by_cases e:c=1
 ·have Z:l=[]:=by
   cases l with
   |nil=>rfl
   |cons y l=>grind
  subst Z;subst e;unfold kO zu wv K1;cases aO with
  |none=>exact⟨.slice (Fm (some ⟨b,o,none⟩) 0 false) 0 0,by simp,_,_,rfl,λh=>absurd rfl h⟩
  |some q =>
   cases q with
   |zero=>exact absurd rfl D
   |succ q=>exact⟨.slice (some ⟨b,o,some 0⟩) 0 0,by simp,_,_,rfl,λh=>absurd rfl h⟩
 ·have A:Nat.beq c 1=false:=by
   cases A:Nat.beq c 1 with
   |true=>exact absurd (gG A) e
   |false=>rfl
  rw[A];refine⟨_,rfl,some ⟨b,o+1*k,aO⟩,c-1,rfl,λV=>⟨b,_,aO,bJ,cs,h1,rfl,D,J,I,?_,?_⟩⟩
  ·grind
  ·rw[ze,ub]at B;have E:(cs.drop o).take (l.length*k+k)=enc x++bc enc l:=B;have kI:((cs.drop o).drop k).take (l.length*k)=bc enc l:=by
    have:=congrArg (λz=>z.drop k) E
    grind
   rw[ub,<-xm];omega
end
theorem akE{s:al}{l:aa (Nat × Int)}{v:X}{h:ae}{U:Nat}(V:ej h U v eL 3 l)(bb:l.length<1000000)(dY:l.Pairwise λx y=>x.1<y.1):aH Q s 327 [v] h U (fo (.bool true) U h):=by
 refine amp ?_;unfold aaK;obtain⟨a8,cap,rfl,aZ⟩:=id V;refine aF ?_;refine bD.mk (λm aE ac Y=>∃i,m=l.length-i/\i<=l.length/\aE=[.slice a8 l.length cap,.bool false,(l.length:X),(i:X)]/\ac=h/\Y=U) l.length ⟨0,J,J,rfl,rfl,rfl⟩ ?_;rintro _ _ ar bX ⟨i,rfl,aj,rfl,gd,ez⟩;rw[ajF,gd,ez];unfold Xj;refine aF ?_;refine⟨λcA=>?_,λeN=>⟨rfl,rfl,rfl⟩⟩;obtain⟨b,o,aO,bJ,cs,M,aT,aV,Z,g⟩:=V.all (λ_=>rfl) ab;cases aV;have fin:∃P,P<l.length-i/\∃A,P=l.length-A/\A<=l.length/\[Value.slice (some ⟨b,o,aO⟩) l.length cap,.bool false,(l.length:X),.int .i64 (IntKind.wrap .i64 ((i:Int)+1))]=[.slice (some ⟨b,o,aO⟩) l.length cap,.bool false,(l.length:X),(A:X)]:=⟨_,J,i+1,rfl,J,by rw[cG J]⟩
 refine⟨λbk=>?_,λ_=>fin⟩;obtain⟨j,rfl⟩:∃j,i=j+1:=⟨i-1,J⟩
 obtain⟨p,B⟩:=d1 (l:=l) (i:=j) J;obtain⟨q,D⟩:=d1   J;have I:=(g j p B).2 0 _ J rfl;have c2:=(g (j+1) q D).2 0 _ J rfl;rw[nK]at I c2;have E:p.1<q.1:=by
  rw[Bx]at dY
  grind
 have cn:IntKind.wrap .i64 (((j+1:Nat):Int)-1)=(j:Int):=by rw[oE];omega
 refine k7 @cn @Z @I @c2 ?_;exact⟨λh=>absurd E h,λ_=>fin⟩
def KT(v:X)(w:Nat)(l:aa (Nat × Int)):e2:=⟨v,w,(((l.getD 0 (0,0)).1:Nat):Int)*1000+(w:Int),l.length-1,l⟩
def yH(h:ae)(ao:Nat)(x:e2):Prop:=mm h ao x.v eL 3 x.l/\x.l≠[]/\x.w<1000/\x=KT x.v x.w x.l/\x.l.Pairwise λa b=>a.1<b.1
theorem yH.F{h ac:ae}{ao:Nat}{x:e2}(H:yH h ao x)(g:∀c,c<ao->u ac c=u h c):yH ac ao x:=⟨H.1.F g J,H.2⟩
theorem yH.ok{h:ae}{ao:Nat}{x:e2}(H:yH h ao x):uQ h ao x:=by
 obtain⟨B,g,M,e,_⟩:=H;obtain⟨b,o,aO,bJ,cs,cap,D,Z,E,A⟩:=B.o.all (λ_=>rfl) g;cases I:x.l with
 |nil=>exact absurd I g
 |cons p l =>
  have V:=(A 0 p ab).2 0 _ J rfl;have P:x.n=l.length:=by rw[e];show x.l.length-1=_;grind
  have cn:x.k=(p.1:Int)*1000+(x.w:Int):=by rw[e];show(((x.l.getD 0 (0,0)).1:Nat):Int)*1000+(x.w:Int)=_;grind
  refine⟨b,o,aO,bJ,cs,cap,p.1,?_,D,E,?_,cn,M⟩
  all_goals grind
def pz(h:ae)(ao:Nat)(W:aa e2):Prop:=∀x∈W,yH h ao x
theorem pz.ok{h:ae}{ao:Nat}{W:aa e2}(H:pz h ao W):l6 h ao W:=λx g=>(H x g).ok
theorem pz.F{h ac:ae}{ao:Nat}{W:aa e2}(H:pz h ao W)(g:∀c,c<ao->u ac c=u h c):pz ac ao W:=λx A=>(H x A).F g
theorem pz.perm{h:ae}{ao:Nat}(H:pz h ao W)(p:dk.Perm W):pz h ao dk:=λx g=>H x ab
def left(W:aa e2):aa (Nat × Int):=W.flatMap (·.l)
theorem XG(h:dk.Perm W):(left dk).Perm (left W):=h.flatMap_right _
theorem aoh:nR ([]:aa e2):=⟨ab⟩
def mQ(h:ae)(v:X)(l:aa (Nat × Int))(aU:aw Nat):Prop:=(l=[]/\v = .slice none 0 0/\aU=none)\/∃b,aU=some b/\v = .slice (some ⟨b,0,some 3⟩) l.length l.length/\u h b=some (.cells (bc eL l) false)
theorem mQ.F{h ac:ae}{v:X}{l:aa (Nat × Int)}{g:aw Nat}(H:mQ h v l g)(E:∀b,g=some b->u ac b=u h b):mQ ac v l g:=by
 rcases H with H|⟨b,B,A,D⟩
 ·exact .inl H
 ·exact .inr ⟨b,B,A,ab⟩
theorem abK{s:al}{h:ae}{U cf ao w:Nat}{v:X}{l:aa (Nat × Int)}{bt:aa X}(H:uR h cf bt W dq)(aT:∀b,dq=some b->ao<=b/\b<U)(rx:cf<U)(B:ao<=cf)(P:ao<=U)(bb:W.length<1000)(fJ:nR W)(eJ:pz h ao W)(aJ:mm h ao v eL 3 l)(bV:w<1000)(dY:l.Pairwise λa b=>a.1<b.1):
  aH Q s 328 [bd cf,v,(w:X)] h U (Rm cf bt dq U h λdk=>nR dk/\(left dk).Perm (left W++l)/\dk.length<=W.length+1/\(∀ac,(∀c,c<ao->u ac c=u h c)->pz ac ao dk)):=by
 refine atG ?_;unfold aeE;obtain⟨a,c,rfl,hv'⟩:=id aJ;refine aF ?_;refine⟨λu2=>?_,λdR=>?_⟩
 ·have M:l≠[]:=ab
  have a1:yH h ao (KT (.slice a l.length c) w l):=⟨aJ,M,bV,rfl,dY⟩
  have g:pz h ao (W++[KT (.slice a l.length c) w l]):=λx E=>by
   rcases hb.1 E with A|A
   ·exact eJ x A
   ·rw[iP.1 A];exact a1
  refine(aog  H aT rx B P bb fJ g.ok).mono ?_;rintro r A bh ⟨dk,D,a9,⟨I,V⟩,aV,aP,ch⟩;refine⟨dk,D,a9,⟨I,?_,?_,λac Z=>(g.F Z).perm V⟩,aV,aP,ch⟩
  ·have:=XG V;unfold left at this ⊢;rw[Im]at this;simpa[KT]using this
  ·rw[V.length_eq];simp
 ·have:l=[]:=by
   cases l with
   |nil=>rfl
   |cons p l=>grind
  subst this;refine⟨W,dq,H,⟨fJ,by simp,J,λac Z=>eJ.F Z⟩,ab,J,ab⟩
def GC(h:ae)(U ao cf:Nat)(r:Int)(W:aa e2)(O:aa (Nat × Int))(dq:aw Nat):Prop:=∃out aU,uR h cf [(r:X),out] W dq/\nR W/\pz h ao W/\mQ h out O aU/\(∀b,dq=some b->ao<=b/\b<U)/\(∀b,aU=some b->ao<=b/\b<U/\b≠cf/\dq≠some b)
end Go.Proofs.YthlhhajnbgjfmaaGreat
