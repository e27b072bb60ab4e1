/- Parts of the proof: HwFn5: each statement bears its own conditions. -/
import Derived.Test.YthlhhajnbgjfmaaGreatHwFn4
namespace Go.Proofs.YthlhhajnbgjfmaaGreat
open Go Go.Ax Go.Ax.HdH
set_option linter.all false
set_option maxHeartbeats 1000000
set_option maxRecDepth 1000000
variable {ag:ac GE} {cs:ac X} {W:ac eW} {aO:ay Nat} {a b cap j m r cW:Nat} {w:X} {p:Nat × Int} {cf:Nat} {dr:ac eW} {dC:ay Nat} {K:X->ae->Nat->Prop} {L:ac (Nat × Int)} {bL:ao} {R C eX:Nat} {S:ae->Nat->Prop} {q:Nat->ao} {eM:X} {eL:Nat} {N:aQ} {a2 bj a6 aZ:X} {aM:aQ} {G:Nat} {y:eW}
def rQ(a:Nat)(p:Nat × Int):Nat × Int:=(a+p.1,p.2)
theorem x2(a:Nat)(f:Nat->ay Int):∀b,bp (a+b) f=bp a f++(bp b λk=>f (a+k)).map (rQ a)
 |0=>by simp[aw2]
 |b+1=>by
  rw[show a+(b+1)=(a+b)+1 from rfl,ts,x2 a f b,ts,hr,kq];cases h:f (a+b) <;> simp[rQ]
theorem J1{n k:Nat}{f:Nat->ay Int}{x:Int}(E:a<=n)(h:(bp n f)[j]? = some (k,x)):k<a↔j<(bp a f).length:=by
 obtain⟨b,rfl⟩:∃b,n=a+b:=⟨n-a,J⟩
 rw[x2]at h;constructor
 ·intro D;rcases iI j (bp a f).length with g|g
  ·omega
  ·rw[zr g,s5,ma]at h;obtain⟨p,_,A⟩:=h;unfold rQ at A
   grind
 ·intro B;rw[uw B]at h;exact(wh h).1
theorem Qb{s:ao}{a b:Int}{h:ae}{U:Nat}:aD Q s 242 [(a:X),(b:X)] h U (fs (.int .i64 (fY a b)) U h):=by
 have g:∀{n:Int} {K:bZ},K (.bool false) h U->aD Q s 345 [(n:X)] h U K:=λ{n K} hk=>by refine ael ?_;unfold RJ;simp(disch:=omega)only[bk,oH,seval];exact hk
 refine auW ?_;unfold afs fY;refine g (g ?_);refine aE ?_;refine⟨λA=>?_,λA=>⟨λB=>?_,λB=>?_⟩⟩
 ·rw[if_pos A];exact⟨rfl,rfl,rfl⟩
 ·rw[if_neg J,if_pos J];exact⟨rfl,rfl,rfl⟩
 ·rw[if_neg J,if_neg J];exact⟨rfl,rfl,rfl⟩
theorem XZ{s:ao}{x:Nat × Int}{a:Int}{h:ae}{U:Nat}:aD Q s 486 [.agg ⟨fN x⟩,(a:X)] h U (c9 (.int .i64 (fY (x.1:Int) a)) U h):=by refine aoU ?_;unfold acl fN;refine aE ?_;refine Qb.mono ?_;rintro _ _ _ ⟨rfl,rfl,rfl⟩;exact⟨rfl,aF,J⟩
def BsJ(l:ac (Nat × Int))(v dp km:X)(a:Nat)(aq:ae)(a0:Nat)(m:Nat)(aJ:ac X)(ab:ae)(Y:Nat):Prop :=
 ∃al aj:Nat,m=aj-al/\al<=aj/\aj<=l.length/\aJ=[v,dp,km,(l.length:X),(al:X),(aj:X)]/\(∀j k x,l[j]? = some (k,x)->j<al->k<a)/\(∀j k x,l[j]? = some (k,x)->aj<=j->a<=k)/\aA a0 aq ab/\a0<=Y
theorem O5{s:ao}{n:Nat}{v:X}{x:Nat->ay Int}{h:ae}{U:Nat}(aI:j8 h U v n x)(bw:n<=4096)(dy:a<=n):
  aD Q s 458 [v,(a:X)] h U (λr ab Y=>∃b,r = .tuple ⟨[.int .i64 ((bp a x).length:Int),.bool b]⟩/\(a<n->b=(x a).isSome)/\aA U h ab/\U<=Y):=by
 refine asZ ?_;obtain⟨gK,rfl,au⟩:=aI;obtain⟨a9,cap,rfl,a5⟩:=id au;unfold aeA;refine aE ?_;have gT:=md n x;have bH:∀{o},aA U h (T h U o):=aF
 refine(ahz (K:=λr ab Y=>∃b,r = .tuple ⟨[.int .i64 ((bp a x).length:Int),.bool b]⟩/\(a<n->b=(x a).isSome)/\aA U h ab/\U<=Y) ?_).mono ?_
 ·unfold VK;refine aE ?_;refine bF.mk (BsJ (bp n x) (.slice a9 (bp n x).length cap) (a:X) (.func (.func 486) ⟨[]⟩ ⟨[]⟩) a h U) (bp n x).length ⟨0,(bp n x).length,rfl,J,J,rfl,J,aa,bH,J⟩ ?_;rintro _ _ h1 bg ⟨al,aj,rfl,dx,V,rfl,E,fo,hk,qQ⟩;have P:=au.F hk qQ;rw[ahy];unfold VJ;refine aE ?_;refine⟨λcS=>?_,λeZ=>?_⟩
  ·have fh:IntKind.wrap .i64 ((al:Int)+(aj:Int))=((al+aj:Nat):Int):=by rw[<-vQ];exact jb _ J
   have HK:IntKind.wrap .u64 ((al+aj:Nat):Int)=((al+aj:Nat):Int):=CA J;have ew3:IntKind.wrap .i64 (((al+aj) / 2:Nat):Int)=(((al+aj) / 2:Nat):Int):=jb _ J;obtain⟨⟨k,y⟩,g⟩:=dW (l:=bp n x) (i:=(al+aj) / 2) J;obtain⟨b,o,aO,bL,cs,mV,a1,aW,bd,D⟩:=P.ld (λ_=>rfl) g;cases aW;refine Ah @fh @HK @OD @ew3 @bd @D ?_;refine XZ.mono ?_;rintro _ ap bU ⟨rfl,dM,Z⟩;have f1:=hk.trans dM J;unfold fY
   by_cases hka:k<a
   ·rw[if_pos J];refine bf (cF (J:(al+aj) / 2<1000000000000)) ?_;refine⟨?_,λh=>absurd trivial h⟩;refine⟨_,?_,(al+aj) / 2+1,aj,rfl,J,V,rfl,λj dw p4 M hjl=>?_,fo,f1,J⟩
    ·omega
    ·by_cases I:j<(al+aj) / 2
     ·have:=u1 M g I;omega
     grind
   ·rw[if_neg J];refine aE ?_;refine⟨λa5=>by exfalso;omega,λ_=>?_⟩;refine⟨_,?_,al,(al+aj) / 2,rfl,J,J,rfl,E,λj dw p4 M hjl=>?_,f1,J⟩
    ·omega
    ·by_cases I:(al+aj) / 2<j
     ·have:=u1 g M I;omega
     grind
  ·have:aj=al:=J
   subst this;have B:aj=(bp a x).length:=by
    rcases zA aj (bp a x).length with aH|aH|aH
    ·obtain⟨⟨k,y⟩,g⟩:=dW (l:=bp n x) (i:=aj) (by
      have:(bp a x).length<=(bp n x).length:=by
       obtain⟨b,rfl⟩:∃b,n=a+b:=⟨n-a,J⟩
       rw[x2,jk];omega
      omega)
     have bh:=fo aj k y g (cR _);have b0:=(J1 dy g).2 aH;omega
    ·omega
    ·obtain⟨⟨k,y⟩,g⟩:=dW (l:=bp n x) (i:=(bp a x).length) J;have bh:=E _ k y g aH;have b0:=(J1 dy g).1 bh;omega
   rw[B]at E fo V;rw[B];have here:∀k y,(bp n x)[(bp a x).length]? = some (k,y)->a<n->(x a).isSome=decide (k=a):=λk y g A=>by
    have bh:=fo _ k y g (cR _)
    by_cases e:k=a
    ·subst e;rw[(wh g).2];simp
    ·cases aX:x a with
     |none=>grind
     |some z =>
      exfalso;obtain⟨j,M⟩:=Et.1 (j6.2 ⟨A,aX⟩);have b0:¬j<(bp a x).length:=aa
      by_cases cj:j=(bp a x).length
      ·grind
      ·have:=u1 g M J;omega
   refine⟨λbr=>?_,λbr=>?_⟩
   ·obtain⟨⟨k,y⟩,g⟩:=dW   J;obtain⟨b,o,aO,bL,cs,mV,a1,aW,bd,D⟩:=P.ld (λ_=>rfl) g;cases aW;refine cM @bd @D ?_;refine XZ.mono ?_;rintro _ ap bU ⟨rfl,dM,Z⟩;refine aE ?_;refine⟨_,rfl,λA=>?_,aF,J⟩;rw[here k y g A];unfold fY
    grind
   ·refine⟨false,rfl,λA=>?_,hk,qQ⟩;cases aX:x a with
    |none=>rfl
    |some z =>
     exfalso;obtain⟨j,M⟩:=Et.1 (j6.2 ⟨A,aX⟩)
     grind
 ·rintro _ ap bU ⟨b,rfl,a1,hk,dx⟩;refine aE ?_;exact⟨b,rfl,a1,hk,dx⟩
theorem as0{s:ao}{n:Nat}{v:X}{x:Nat->ay Int}{h:ae}{U:Nat}(aI:j8 h U v n x)(bw:n<=4096)(dy:a<n):
  aD Q s 401 [v,(a:X)] h U (c9 (.tuple ⟨[.int .i64 ((x a).getD 0),.bool (x a).isSome]⟩) U h):=by
 refine avA ?_;have A:=aI;obtain⟨gK,rfl,au⟩:=aI;obtain⟨a9,cap,rfl,a5⟩:=id au;unfold afW;refine aE ?_;have bH:∀{o},aA U h (T h U o):=aF
 refine(JD (A.F bH J) bw).mono ?_;rintro _ h1 bg ⟨rfl,hk,dx⟩;have ch:=hk U J;rw[aR]at ch;refine bf @ch ?_;have V:∀{o},aA U h (T h1 U o):=aF
 refine(O5 (A.F V J) bw J).mono ?_;rintro _ ap bU ⟨b,rfl,D,B,fx⟩;have D:=D dy;subst D;have Z:=B U J;rw[aR]at Z;have P:=V.trans B J;cases aX:x a with
 |none =>
  simp(disch:=omega)only[bk,BR,seval];exact⟨rfl,P,J⟩
 |some y =>
  obtain⟨j,E⟩:=Et.1 (j6.2 ⟨dy,aX⟩);have b0:¬j<(bp a x).length:=λI=>by have:=(J1 J E).2 I;omega
  have I:j=(bp a x).length:=by
   by_cases d8:(bp a x).length<j
   ·obtain⟨⟨k,z⟩,dc⟩:=dW (l:=bp n x) (i:=(bp a x).length) aa;have h8:=u1 dc E d8;have iG:=(J1 J dc).1 h8;omega
   omega
  subst I;obtain⟨b,o,aO,bL,cs,mV,D,aW,bd,g⟩:=(au.F P (Y:=bU) J).ld (λ_=>rfl) E;cases aW;have cS:=(g0.1 E).1;have M:cs[o+(bp a x).length*2+1]? = some (y:X):=by
   rw[qm]at g
   split at g
   ·injection g with g
    injection g with g
    have iG:=congrArg (λl:Array X=>l.toList[1]?) g;simp[fN]at iG;omega
   grind
  simp(disch:=omega)only[bk,Nc,Z,bd,M,seval];exact⟨rfl,P,J⟩
theorem tyI:ns Q 95=true:=by kernel_rfl
theorem BY{s:ao}{h:ae}{U:Nat}{v:X}{l:ac (Nat × Int)}(A:ep h U v fN 2 l)(E:l.length<10000):
  aD Q s 217 [v] h U (λr ab Y=>iR ab U Y r fN 2 l/\aA U h ab/\U<=Y):=by refine ak9 ?_;exact acd (K:=λr ab Y=>iR ab U Y r fN 2 l/\aA U h ab/\U<=Y) A (λ_=>rfl) J J tyI λr ab Y B g D=>⟨B,g,D⟩
theorem RK{aB:Type}{enc:aB->ac X}{k:Nat}(g:∀x,(enc x).length=k)(B:∀x,ef (enc x)=true){h:ae}{i:Nat}{l:ac aB}{y:aB}(aj:i<l.length):iW (some (.cells (a7 enc l) false)) h b (i*k) (enc y) = .ok (T h b (.cells (a7 enc (l.set i y)) false)):=by have A:=OG g [] y l i aj;rw[hC,hC]at A;have E:=fX g l;have D:(i+1)*k<=l.length*k:=ph k aj;rw[xR]at D;rw[Kw (B y) aa,g,A]
def azF(km:X)(a:ay Addr)(cap cW T3 n:Nat)(l:ac (Nat × Int))(g:Nat × Int->Nat × Int)(U a0:Nat)(aq:ae)(m:Nat)(aJ:ac X)(ab:ae)(Y:Nat):Prop :=
 ∃i,m=l.length-i/\i<=l.length/\aJ=[km,bb cW,bb T3,.slice a l.length cap,(l.length:X),(i:X)]/\u ab T3=some (.cells [(n:X),.slice a l.length cap] false)/\u ab cW=some (.cells [.int .i64 0,.slice none 0 0] false) /\
  (l≠[]->∃b,U+1<b/\b<T3/\a=some ⟨b,0,some 2⟩/\u ab b=some (.cells (a7 fN ((l.take i).map g++l.drop i)) false))/\aA U aq ab/\a0<=Y
theorem ZZ{s:ao}{n:Nat}{x:Nat->ay Int}{v:X}{g:Nat × Int->Nat × Int}{h:ae}{U:Nat}(aI:j8 h U v n x)(bw:n<=4096)(bD:∀p V bg,p∈bp n x->aA U h V->U<=bg->aD Q true eL (.agg ⟨fN p⟩::cs) V bg (c9 (.agg ⟨fN (g p)⟩) bg V)):
  aD Q s 445 [v,.func (.func eL) ⟨[]⟩ ⟨cs⟩] h U (λr ab Y=>∃w,r = .agg ⟨[(n:X),w]⟩/\eY ab U Y w fN ((bp n x).map g)/\aA U h ab/\U<=Y):=by
 refine asW ?_;have hZ:=aI;obtain⟨gK,rfl,au⟩:=aI;obtain⟨a9,cap,rfl,a5⟩:=id au;have gT:=md n x;have bH:∀{o aU},aA U h (T (T h U o) (U+1) aU):=aF
 unfold aex;refine aE ?_;refine(JD (hZ.F bH J) bw).mono ?_;rintro _ V bg ⟨rfl,dv,fa⟩;have ch:=dv U J;rw[ar J,aR]at ch;have dO:=dv (U+1) J;rw[aR]at dO;refine bf @ch ?_;have cI:∀{o},aA U h (T V U o):=aF
 refine(BY (au.F cI  J) J).mono ?_;rintro _ ap bU ⟨hS,dM,M⟩;obtain⟨a,c2,rfl⟩:=hS.form;have yW:=dM U J;rw[aR]at yW;have A5:=dM (U+1) J;rw[ar J,dO]at A5;refine⟨M,?_⟩;refine bf @yW ?_;generalize bp n x=l at *
 have ey:∀{o aU},aA U h (T (T ap bU o) bU aU):=aF
 refine bF.mk (azF (.func (.func eL) ⟨[]⟩ ⟨cs⟩) a c2 (U+1) bU n l g U (bU+1) h) l.length ⟨0,J,J,rfl,aa,aa,λI=>?_,ey,J⟩ ?_
 ·rcases hS with⟨e,_⟩|⟨b,dA,b2,d2,gl⟩
  ·grind
  ·cases d2;exact⟨b,J,J,rfl,by rw[ar J,ar J];grind⟩
 rintro _ _ aH b1 ⟨i,rfl,aj,rfl,D,g40,a1,f1,gg⟩;rw[aoO];unfold ZU;refine aE ?_;refine⟨λcS=>?_,λeZ=>?_⟩
 ·obtain⟨y,cd⟩:=dW   J;obtain⟨b,dA,b2,rfl,E⟩:=a1 aa;have hyy:((l.take i).map g++l.drop i)[i]? = some y:=aa
  have lS:hg (some 2) (i*2) (a7 fN ((l.take i).map g++l.drop i)) = .ok (.agg ⟨fN y⟩):=xa  (k:=2) (λ_=>rfl) hyy;refine cM @E @lS ?_;rw[show fN y=[(y.1:X),(y.2:X)]from rfl];refine aE ?_;have hR:∀{o aU},aA U h (T (T aH b1 o) b1 aU):=aF
  refine(bD y _ _ aa hR J).mono ?_;rintro _ bh d9 ⟨rfl,A,Z⟩;have B:=A bU J;rw[ar J,ar J,D]at B;have P:=A (U+1) J;rw[ar J,ar J,g40]at P;have gb':=A b J;rw[ar J,ar J,E]at gb';refine⟨Z,?_⟩;have tN:((l.take i).map g++l.drop i).length=l.length:=aa
  simp(disch:=omega)only[bk,B,D,gb',RK (enc:=fN) (k:=2) (λ_=>rfl) (λ_=>rfl) (J:i<((l.take i).map g++l.drop i).length),cF (J:i<1000000000000),seval];refine⟨rfl,l.length-(i+1),J,i+1,rfl,J,rfl,aa,aa,λ_=>⟨b,dA,b2,rfl,?_⟩,(hR.trans A J).set J,J⟩;rw[aR];have e:((l.take i).map g++l.drop i).set i (g y)=(l.take (i+1)).map g++l.drop (i+1):=by
   have bs:l.drop i=y::l.drop (i+1):=by
    rw[zs (by omega:i<l.length)]
    grind
   rw[bs,ID _ _ aa,gW,nU,EG J,EM,hq,cd];simp
  rw[e]
 ·have:i=l.length:=J
  subst this;refine cM @D @g40 ?_;refine⟨_,rfl,⟨a,c2,aa,λI=>?_⟩,f1.set J,J⟩;obtain⟨b,dA,b2,rfl,E⟩:=a1 (λe=>I aa)
  grind
def pG(h:ae)(al aj:Nat)(v:X)(n:Nat)(x:Nat->ay Int):Prop:=∃gK,v = .agg ⟨[(n:X),gK]⟩/\iR h al aj gK fN 2 (bp n x)
section
variable {h ab:ae} {U Y al aj ea dB n:Nat} {v:X} {x:Nat->ay Int}
theorem pG.gC(H:pG h al aj v n x):ln h al aj v n x:=by obtain⟨A,e,g⟩:=H;exact⟨A,e,g.gC⟩
theorem pG.is(H:pG h al aj v n x):j8 h aj v n x:=H.gC.is
theorem pG.F(H:pG h al aj v n x)(g:∀b,al<=b->b<aj->u ab b=u h b)(E:ea<=al)(B:aj<=dB):pG ab ea dB v n x:=by obtain⟨A,e,D⟩:=H;exact⟨A,e,D.F g E B⟩
end
theorem iR.cut{aB:Type}{h:ae}{al aj k:Nat}{v:X}{enc:aB->ac X}{l:ac aB}(E:∀x,(enc x).length=k)(Ly:0<k)(H:iR h al aj v enc k l){i:Nat}(h1:i<=j)(I:j<=l.length):
  ∃w,g5 k v (some (i:X)) (some (j:X)) none = .ok w/\ep h aj w enc k ((l.drop i).take (j-i)):=by
 have g:((l.drop i).take (j-i)).length=j-i:=aa
 rcases H with⟨rfl,aI⟩|⟨b,dA,b2,rfl,Z⟩
 ·have P:j=0:=aa
  subst P;have aj:i=0:=J
  subst aj;rcases aI with rfl|⟨b,rfl⟩
  ·exact⟨.slice none 0 0,rfl,.nil⟩
  ·exact⟨.slice (some ⟨b,0,none⟩) 0 0,rfl,.nil⟩
 ·obtain⟨ev,gq,e,V⟩:=asQ   (aO:=some k)    (cap:=l.length) aa h1 I J k;refine⟨_,e,ev,gq,aa,λA=>?_⟩;have D:i<j:=by have:=Ez.2 A;omega
  obtain⟨B,rfl⟩:=V D;have P:j*k<=l.length*k:=ph k I;have M:i*k+(j-i)*k=j*k:=by rw[<-xR];grind
  refine⟨b,0+i*k,B,false,_,b2,rfl,Z,by rw[g,fX E];omega,?_⟩;rw[g,iU];exact ZM E l i j
theorem aln{s:ao}{h:ae}{U:Nat}(A:u h cW=some (.cells [(a:X)] bL))(B:cW<U)(E:a<=p.1)(D:p.1<=5000):
  aD Q s 460 [.agg ⟨fN p⟩,bb cW] h U (c9 (.agg ⟨fN (p.1-a,p.2)⟩) U h):=by
 refine aoR ?_;unfold aci fN;have g:IntKind.wrap .i64 ((p.1:Int)-(a:Int))=((p.1-a:Nat):Int):=by rw[show(p.1:Int)-(a:Int)=((p.1-a:Nat):Int) by omega];exact jb _ J
 refine cM @A @g ?_;exact⟨rfl,aF,J⟩
theorem Z0{n:Nat}(x:Nat->ay Int)(g:a<=b)(A:b<=n):((bp n x).drop (bp a x).length).take ((bp b x).length-(bp a x).length)=(bp (b-a) λk=>x (a+k)).map (rQ a):=by
 obtain⟨c,rfl⟩:∃c,b=a+c:=⟨b-a,J⟩
 obtain⟨d,rfl⟩:∃d,n=a+c+d:=⟨n-(a+c),J⟩
 rw[x2 (a+c) x d,x2 a x c,kq,List.drop_left,jk,M5,IT,M5]
theorem aoV{n:Nat}(x:Nat->ay Int)(g:a<=b)(A:b<=n):(bp a x).length<=(bp b x).length/\(bp b x).length<=(bp n x).length:=by
 obtain⟨c,rfl⟩:∃c,b=a+c:=⟨b-a,J⟩
 obtain⟨d,rfl⟩:∃d,n=a+c+d:=⟨n-(a+c),J⟩
 rw[x2 (a+c) x d,x2 a x c];grind
theorem Ra(a m n:Nat)(x:Nat->ay Int)(h:a+m<=n):(bp m λk=>x (a+k)).map (rQ a)=bp n λk=>if a<=k/\k<a+m then x k else none:=by
 refine QF ?_ λi y=>?_
 ·rw[xM];exact(yk m _).imp λh=>by unfold rQ;omega
 ·rw[gO];constructor
  ·rintro⟨⟨k,z⟩,A,e⟩;obtain⟨D,g⟩:=j6.1 A;unfold rQ at e
   grind
  ·rintro⟨D,g⟩
   by_cases B:a<=i/\i<a+m
   ·rw[if_pos B]at g;exact⟨(i-a,y),j6.2 aa,by unfold rQ;grind⟩
   grind
theorem aoW{s:ao}{n B al:Nat}{v:X}{x:Nat->ay Int}{h:ae}{U:Nat}(aI:pG h al U v n x)(bw:n<=4096)(er:min B n=b):
  aD Q s 405 [v,(a:X),(B:X)] h U (λr ab Y=>ln ab U Y r (b-a) (λk=>x (a+k))/\aA U h ab/\U<=Y):=by
 refine asV ?_;have M:=aI;obtain⟨gK,rfl,au⟩:=aI;obtain⟨a9,cap,rfl⟩:=au.form;have bH:∀{o aU kD},aA U h (T (T (T h U o) (U+1) aU) (U+2) kD):=aF
 unfold aew;refine aE ?_;refine(JD (M.is.F bH J) bw).mono ?_;rintro _ h1 bg ⟨rfl,V,fa⟩;have ch:=V U J;rw[ar J,ar J,aR]at ch;have bP:=V (U+1) J;rw[ar J,aR]at bP;have g2:=V (U+2) J;rw[aR]at g2;have em:max (a:Int) 0=(a:Int):=J
 have a1:b<=n:=J
 have em2:min (B:Int) (n:Int)=(b:Int):=J
 refine ll @ch @bP @em @em2 ?_;have cI:∀{o aU},aA U h (T (T h1 U o) (U+1) aU):=aF
 refine⟨λdx=>?_,λvp=>?_⟩
 ·refine bf @g2 ?_;refine⟨⟨_,by rw[show b-a=0 by omega];rfl,⟨none,0,by rw[show b-a=0 by omega];rfl,λfk=>absurd (by rw[show b-a=0 by omega];rfl) fk⟩⟩,aF,J⟩
 have DV:a<b:=J
 refine(O5 (M.is.F cI  J) bw  J).mono ?_;rintro _ aH b1 ⟨t1,rfl,_,E,gg⟩;have P:=E U J;rw[ar J,aR]at P;have DX:=E (U+1) J;rw[aR]at DX;have L8:=E (U+2) J;rw[ar J,ar J,g2]at L8;have fr:=cI.trans E J;refine bf @P ?_;refine(O5 (M.is.F fr  J) bw  J).mono ?_;rintro _ bh Z ⟨t2,rfl,_,D,hX⟩;have T4:=(D U J).trans P;have L9:=(D (U+1) J).trans DX;have g24:=(D (U+2) J).trans L8;have hR:=fr.trans D J;obtain⟨dU,dL⟩:=aoV x (Nat.le_of_lt DV) a1;obtain⟨w,fh,bV⟩:=iR.cut (k:=2) (λ_=>rfl) J (au.F  (ea:=al) (dB:=U) (λb _ a1=>hR b a1) J J) dU dL;obtain⟨nI,qc,rfl⟩:=bV.form;refine cM @T4 @fh ?_;rw[Z0 x J a1,Ra a (b-a) n x J]at bV;rw[Z0 x J a1,Ra a (b-a) n x J];have lk:∀{o aU},aA U h (T (T bh Z o) Z aU):=aF
 have g15:∀{o aU},u (T (T bh Z o) Z aU) (U+1)=some (.cells [(a:X)] false):=aa
 have aCZ:∀{o aU},aA U bh (T (T bh Z o) Z aU):=aF
 refine(ZZ  (g:=λp=>(p.1-a,p.2)) ⟨_,rfl,bV.F aCZ  J⟩ bw (λp cj n6 bn A mi=>?_)).mono ?_
 ·have:=j6.1 bn;have d8:a<=p.1:=aa
  exact aln ((A (U+1) J).trans g15) J d8 J
 rintro _ cj n6 ⟨aBQ,rfl,I,A,mi⟩;have DY:=(A (U+1) J).trans g15;have g26:=A (U+2) J;rw[ar J,ar J,g24]at g26;obtain⟨bj,hc,rfl,Bc⟩:=id I;have T5:IntKind.wrap .i64 ((b:Int)-(a:Int))=((b-a:Nat):Int):=by rw[show(b:Int)-(a:Int)=((b-a:Nat):Int) by omega];exact jb _ J
 refine gX @DY @g26 @T5 ?_;have gN:(bp n λk=>if a<=k/\k<a+(b-a)then x k else none).map (λp=>(p.1-a,p.2))=bp (b-a) λk=>x (a+k):=by
  rw[<-Ra a (b-a) n x J,qk];have:((λp:Nat × Int=>(p.1-a,p.2)) ∘ rQ a)=id:=by funext p;unfold rQ;simp
  rw[this,List.map_id]
 rw[gN]at I;have T6:=congrArg List.length gN;rw[gW]at T6;refine⟨⟨_,rfl,?_⟩,((((lk.trans A J).set J).set J).set J).set J,J⟩;rw[gN];exact I.F (λd h1 ap=>aa) J J
def y3{aB:Type}(h:ae)(enc:aB->ac X)(k:Nat)(v:X)(l:ac aB)(o:ay Nat):Prop:=(l=[]/\v = .slice none 0 0/\o=none)\/∃b,o=some b/\v = .slice (some ⟨b,0,some k⟩) l.length l.length/\u h b=some (.cells (a7 enc l) false)
theorem y3.F{aB:Type}{h ab:ae}{enc:aB->ac X}{k:Nat}{v:X}{l:ac aB}{o:ay Nat}(H:y3 h enc k v l o)(B:∀b,o=some b->u ab b=u h b):y3 ab enc k v l o:=by
 rcases H with H|⟨b,A,g,D⟩
 ·exact .inl H
 ·exact .inr ⟨b,A,g,aa⟩
theorem Qc{aB:Type}{enc:aB->ac X}{k:Nat}(hk:∀x,(enc x).length=k)(aAT:∀x,ef (enc x)=true)(g:0<k){h:ae}{U:Nat}{v:X}{l m:ac aB}{o:ay Nat}(H:y3 h enc k v l o)(W:ep h U w enc k m)(P:(l.length+m.length)*k<=1000000)(D:∀d7 ab Y aU,y3 ab enc k d7 (l++m) aU->(aU=o/\Y=U\/aU=some U/\Y=U+1)->(∀c,c≠U->o≠some c->u ab c=u h c)->K d7 ab Y):dm (dI (dn k h U v w)) K:=by
 obtain⟨a,cap,rfl,W⟩:=W;rcases IV (m=[])with e|e
 ·subst e;rw[hC]at D;have:dn k h U v (.slice a 0 cap) = .ok (.val v h U):=by
   rcases H with⟨rfl,rfl,rfl⟩|⟨b,rfl,rfl,bd⟩
   ·show jD h a (Nat.mul 0 k) (λnew=>ge k h U none 0 0 0 new)=_;rw[show Nat.mul 0 k=0 from mb k];rfl
   ·show jD h a (Nat.mul 0 k) (λnew=>ge k h U (some ⟨b,0,some k⟩) l.length l.length 0 new)=_;rw[show Nat.mul 0 k=0 from mb k];unfold ge;rw[show Nat.ble (Nat.add l.length 0) l.length=true from zv aa];rfl
  show dm (dI (dn k h U v (.slice a 0 cap))) K;rw[this];exact D _ _ _ _ H aa aa
 ·obtain⟨V,I,aO,bL,cs,fH,rfl,bd,h1,ap⟩:=W e;have aq:=Ez.2 e;have S7:m.length<=m.length*k:=BP _ g;have B:l.length+m.length<=1000000:=hJ (BP _ g) P;have A:(Nat.ble (Nat.mul (Nat.add l.length m.length) k) 1000000&&Nat.ble (Nat.add l.length m.length) 1000000)=true:=by
   simp only[eA,sd]
   grind
  have E:Nat.ble (Nat.add l.length m.length) l.length=false:=by
   cases Z:Nat.ble (Nat.add l.length m.length) l.length with
   |false=>rfl
   |true=>have:=lJ Z;grind
  have ba:∀{f:ac X->R fc},jD h (some ⟨V,I,aO⟩) (m.length.mul k) f=f (a7 enc m):=λ{f}=>by
   rw[sh bd aa aa]
   grind
  rcases H with⟨rfl,rfl,rfl⟩|⟨b,rfl,rfl,qM⟩
  ·have:dn k h U (.slice none 0 0) (.slice (some ⟨V,I,aO⟩) m.length cap) = .ok (.val (.slice (some ⟨U,0,some k⟩) (0+m.length) (0+m.length)) (T h U (.cells (a7 enc m) false)) (U+1)):=by show jD h (some ⟨V,I,aO⟩) (m.length.mul k) (λnew=>ge k h U none 0 0 m.length new)=_;rw[ba];unfold ge;have E:Nat.ble (Nat.add 0 m.length) 0=false:=E;have A:(Nat.ble (Nat.mul (Nat.add 0 m.length) k) 1000000&&Nat.ble (Nat.add 0 m.length) 1000000)=true:=A;rw[E,A];exact po g
   rw[this];exact D _ _ _ _ (.inr ⟨U,rfl,aa,aa⟩) aa aa
  ·have:dn k h U (.slice (some ⟨b,0,some k⟩) l.length l.length) (.slice (some ⟨V,I,aO⟩) m.length cap) = .ok (.val (.slice (some ⟨U,0,some k⟩) (l.length+m.length) (l.length+m.length)) (T (wB h b) U (.cells (a7 enc l++a7 enc m) false)) (U+1)):=by
    show jD h (some ⟨V,I,aO⟩) (m.length.mul k) (λnew=>ge k h U (some ⟨b,0,some k⟩) l.length l.length m.length new)=_;rw[ba];unfold ge;rw[E,A];show pw h U k (some ⟨b,0,some k⟩) l.length l.length (l.length+m.length) (a7 enc m)=_;unfold pw;simp only[uE qM];have M:mT (Nat.mul l.length k) (mO (a7 enc l) 0)=some (a7 enc l):=by rw[rc,nr,qn,if_pos (by rw[fX hk];grind)];rw[q3 (by rw[fX hk];grind)]
    rw[M];have T7:ef (a7 enc m)=true:=by
     clear ba A E P B S7 aq ap h1 D e W
     induction m with
     |nil=>rfl
     |cons x m fb =>
      have:∀a b:ac X,ef a=true->ef b=true->ef (a++b)=true:=λa=>by
       induction a with
       |nil=>grind
       |cons y a Ta =>
        intro b dy Z;rw[ra,eA]at dy;show ef (y::(a++b))=true;rw[ra,eA]
        grind
      exact this _ _ aa fb
    have cy:(!false&&Nat.beq 0 0&&Nat.beq (jq (a7 enc l)) (Nat.mul l.length k)&&Nat.beq k k&&Nat.beq l.length l.length&&ef (a7 enc m))=true:=by rw[nX,fX hk,T7];simp
    show(bif _ then _ else _)=_;rw[cy,j5];exact po g
   rw[this];exact D _ _ _ _ (.inr ⟨U,rfl,aa,by rw[aR,zK]⟩) aa λc a5 Z=>by rw[ar a5,rI,if_neg λe=>Z (by rw[e])]
theorem as1{aB:Type}{enc:aB->ac X}{k:Nat}(P:∀x,(enc x).length=k)(g:∀x,ef (enc x)=true)(E:0<k){h:ae}{U al aj:Nat}{v:X}{l m:ac aB}(H:dX h v enc k l al aj)(W:ep h U w enc k m)(M:al<=U)(hhi:aj<=U)(I:(l.length+m.length)*k<=1000000)(hm:∀B ab Y,dX ab B enc k (l++m) al Y->(∀c,c<al\/aj<=c/\c<U->u ab c=u h c)->U<=Y->K B ab Y):dm (dI (dn k h U v w)) K:=by
 obtain⟨o,kp,ig⟩:∃o,y3 h enc k v l o/\∀b,o=some b->al<=b/\b<aj:=by
  rcases H with⟨D,A⟩|⟨b,dA,b2,e,Z⟩
  ·exact⟨none,.inl aa,aa⟩
  ·exact⟨some b,.inr ⟨b,rfl,e,Z⟩,aa⟩
 refine Qc P g E kp W I λB ab Y aU G e f=>hm _ _ _ ?_ aa J;rcases G with⟨D,A,_⟩|⟨b,D,A,V⟩
 ·exact .inl aa
 ·subst D;refine .inr ⟨b,?_,?_,A,V⟩
  all_goals grind
def PlJ(dp:X)(l:ac (Nat × Int))(al:Nat)(aq:ae)(m:Nat)(aJ:ac X)(ab:ae)(Y:Nat):Prop :=
 ∃i o,m=l.length-i/\i<=l.length/\aJ=[o,dp,(l.length:X),(i:X)]/\dX ab o cY 1 ((l.take i).map λp=>(p.1:Int)) al Y/\aA al aq ab/\al<=Y
theorem WV{s:ao}{n:Nat}{v:X}{x:Nat->ay Int}{h:ae}{U:Nat}(aI:j8 h U v n x)(bw:n<=4096):
  aD Q s 389 [v] h U (λr ab Y=>eY ab U Y r cY ((bp n x).map λp=>(p.1:Int))/\aA U h ab/\U<=Y):=by
 refine ale ?_;have Z:=aI;obtain⟨gK,rfl,au⟩:=aI;obtain⟨a9,cap,rfl,a5⟩:=id au;have gT:=md n x;have bH:∀{o},aA U h (T h U o):=aF
 unfold ZR;refine aE ?_;refine(JD (Z.F bH J) bw).mono ?_;rintro _ h1 bg ⟨rfl,dv,fa⟩;have cI:=bH.trans dv J;have I:=au.F cI (Y:=bg) J;refine aE ?_;refine bF.mk (PlJ (.slice a9 (bp n x).length cap) (bp n x) bg h1) (bp n x).length ⟨0,_,J,J,rfl,.inl aa,aF,J⟩ ?_;rintro _ _ ap bU ⟨i,o,rfl,aj,rfl,P,A,g⟩;rw[aje];unfold WS;refine aE ?_;refine⟨λcS=>?_,λeZ=>?_⟩
 ·obtain⟨⟨k,y⟩,cd⟩:=dW   J;obtain⟨b,aU,aO,bL,cs,mV,a1,B,D,M⟩:=(I.F A g).ld (λ_=>rfl) cd;cases B;refine cM @D @M ?_;rw[show fN (k,y)=[(k:X),(y:X)]from rfl];refine aE ?_;refine me  (k:=1)  (λ_=>rfl) (λ_=>rfl) J (P.F aa J) J (k:Int) (aR _ _ _) rfl aa λd7 b0 pU E=>?_;refine bf (cF (J:i<1000000000000)) ?_;refine⟨_,?_,i+1,_,rfl,J,rfl,?_,λc a5=>?_,J⟩
  ·omega
  ·rw[hq,cd];simpa using pU
  ·rw[E c a5,ar J,ar J,ar J];exact A c a5
 ·have:i=(bp n x).length:=J
  subst this;rw[hB]at P;refine⟨?_,aF,J⟩;rcases P with⟨B,rfl⟩|⟨b,h1,ap,rfl,D⟩
  ·exact⟨_,_,by rw[B];rfl,λV=>absurd B V⟩
  ·exact⟨_,_,rfl,λ_=>⟨b,_,_,J,J,rfl,D⟩⟩
def yr(p:Nat × X):ac X:=[(p.1:X),p.2]
theorem alo{s:ao}{h:ae}{U:Nat}(A:u h cW=some (.cells [(a:X)] bL))(B:cW<U)(E:a<=5000)(D:p.1<=5000):
  aD Q s 446 [.agg ⟨fN p⟩,bb cW] h U (c9 (.agg ⟨fN (rQ a p)⟩) U h):=by
 refine aoP ?_;unfold acg fN rQ;have g:IntKind.wrap .i64 ((a:Int)+(p.1:Int))=((a+p.1:Nat):Int):=by rw[<-vQ];exact jb _ J
 refine cM @A @g ?_;exact⟨rfl,aF,J⟩
structure Ac (h:ae) (U:Nat) (v:X) (al:Nat->Nat) (m:Nat) (x:Nat->ay Int):Prop where
 ex:∃L:ac (Nat × X),L.length=m/\ep h U v yr 2 L/\∀i p,L[i]? = some p->p.1=al (i+1)-al i/\ep h U p.2 fN 2 (bp p.1 λk=>x (al i+k))
 mono:∀i,al i<=al (i+1)
 le:al m<=4096
theorem Ac.F{h ab:ae}{U Y m:Nat}{v:X}{al:Nat->Nat}{x:Nat->ay Int}(H:Ac h U v al m x)(A:aA U h ab)(g:U<=Y):Ac ab Y v al m x:=by obtain⟨⟨L,M,I,P⟩,B,E⟩:=H;exact⟨⟨L,M,I.F A g,λi p D=>⟨aa,(P i p D).2.F A g⟩⟩,B,E⟩
theorem Qd{al:Nat->Nat}(h:∀i,al i<=al (i+1)){i:Nat}(g:i<=j):al i<=al j:=by
 induction j with
 |zero=>grind
 |succ j A =>
  grind
def GlJ(cf cW:Nat)(v:X)(al:Nat->Nat)(n:Nat)(x:Nat->ay Int)(a0:Nat)(aq:ae)(U:Nat)(m:Nat)(aJ:ac X)(ab:ae)(Y:Nat):Prop :=
 ∃i w,m=n-i/\i<=n/\aJ=[bb cf,.int .i64 0,bb cW,v,(n:X),(i:X)]/\u ab cf=some (.cells [.int .i64 0,.slice none 0 0] false)/\u ab cW=some (.cells [((al i-al 0:Nat):X),w] false) /\
  dX ab w fN 2 (bp (al i-al 0) λk=>x (al 0+k)) a0 Y/\aA U aq ab/\a0<=Y
theorem aoX{s:ao}{v:X}{al:Nat->Nat}{x:Nat->ay Int}{h:ae}{U:Nat}(H:Ac h U v al m x)(bx:m<=1000):
  aD Q s 387 [v] h U (λr ab Y=>∃w,r = .tuple ⟨[w,.int .i64 0]⟩/\pG ab U Y w (al m-al 0) (λk=>x (al 0+k))/\aA U h ab/\U<=Y):=by
 refine asS ?_;obtain⟨⟨L,rfl,au,f3⟩,A,hX⟩:=H;obtain⟨a9,cap,rfl⟩:=au.form;have bH:∀{o aU},aA U h (T (T h U o) (U+1) aU):=aF
 unfold aet;refine aE ?_;refine bF.mk (GlJ U (U+1) (.slice a9 L.length cap) al L.length x (U+2) h U) L.length ⟨0,.slice none 0 0,J,J,rfl,aa,aa,.inl ⟨by rw[EM];rfl,rfl⟩,bH,J⟩ ?_;rintro _ _ h1 B ⟨i,w,rfl,aj,rfl,bP,dO,dV,P,fa⟩;have aBe:al 0<=al i:=Qd A J;rw[aoM];unfold ZQ;obtain⟨nI,qc,rfl⟩:∃a c,w = .slice a (bp (al i-al 0) λk=>x (al 0+k)).length c:=by
  rcases dV with⟨e,rfl⟩|⟨b,_,_,rfl,_⟩
  all_goals grind
 refine aE ?_;refine⟨λcS=>?_,λeZ=>?_⟩
 ·obtain⟨⟨n,gK⟩,cd⟩:=dW   J;obtain⟨bw,E⟩:=f3 i _ cd;have E:ep h U gK fN 2 (bp n λk=>x (al i+k)):=E;have axT:al (i+1)<=al L.length:=Qd A J;have hms:=A i;obtain⟨dp,eD,rfl⟩:=E.form;obtain⟨b,aU,aO,bL,cs,mV,a1,aW,bd,lS⟩:=(au.F P (Y:=B) J).ld (λ_=>rfl) cd;cases aW;refine cM @bd @lS ?_;rw[show yr (n,.slice dp (bp n λk=>x (al i+k)).length eD)=[(n:X),.slice dp (bp n λk=>x (al i+k)).length eD]from rfl];have cI:∀{o aU kD gu},aA U h (T (T (T (T h1 B o) B aU) (B+1) kD) (B+1) gu):=(((P.set J).set J).set J).set J;refine bf @dO ?_;refine(ZZ   ⟨_,rfl,E.F cI  J⟩ J (λp cj n6 bn g mi=>alo ((g (B+1) J).trans (aR _ _ _)) J J (by have:=(j6.1 bn).1;omega))).mono ?_;rintro _ cj n6 ⟨aBQ,rfl,hw6,g,mi⟩;have D:=g (U+1) J;rw[ar J,ar J,ar J,ar J,dO]at D;have DY:=g U J;rw[ar J,ar J,ar J,ar J,bP]at DY;have M:=g B J;rw[ar J,ar J,aR]at M;obtain⟨bj,hc,rfl,Bc⟩:=id hw6;have T5:IntKind.wrap .i64 (4096-((al i-al 0:Nat):Int))=((4096-(al i-al 0):Nat):Int):=by rw[show(4096:Int)-((al i-al 0:Nat):Int)=((4096-(al i-al 0):Nat):Int) by omega];exact jb _ J
  have ew7:IntKind.wrap .i64 (((al i-al 0:Nat):Int)+(n:Int))=((al (i+1)-al 0:Nat):Int):=by rw[show((al i-al 0:Nat):Int)+(n:Int)=((al (i+1)-al 0:Nat):Int) by omega];exact jb _ J
  refine gX @D @M @T5 ?_;have vG:∀{o},aA U h (T cj B o):=(cI.trans g J).set J;refine⟨λa5=>absurd a5 J,λ_=>?_⟩;have xm:∀{o},dX (T cj B o) (.slice nI (bp (al i-al 0) λk=>x (al 0+k)).length qc) fN 2 (bp (al i-al 0) λk=>x (al 0+k)) (U+2) B:=λ{o}=>dV.F (λc h1 ap=>by rw[ar J,g c J,ar J,ar J,ar J,ar J]) J;have dU:=md (al i-al 0) λk=>x (al 0+k);have dL:=md n λk=>x (al i+k);refine as1  (k:=2) (λ_=>rfl) (λ_=>rfl) J  xm (dg.o (λ_=>rfl) (hw6.F   (λb h1 ap=>ar J) (cR _) (cR _)).rd) J J aa λd7 d8 n7 V I qD=>?_;have oe:al (i+1)-al 0=(al i-al 0)+n:=J
  have ur:(bp (al i-al 0) λk=>x (al 0+k))++(bp n λk=>x (al i+k)).map (rQ (al i-al 0))=bp (al (i+1)-al 0) λk=>x (al 0+k):=by
   rw[oe,x2]
   congr 2
   exact ya λk _=>by congr 1;omega
  rw[ur]at V;obtain⟨v7a,v7c,rfl⟩:∃a c,d7 = .slice a (bp (al (i+1)-al 0) λk=>x (al 0+k)).length c:=by
   rcases V with⟨e,rfl⟩|⟨b,_,_,rfl,_⟩
   all_goals grind
  have Z:=(I (U+1) (.inl J)).trans (ar J);rw[D]at Z;have g17:=(I U (.inl J)).trans (ar J);rw[DY]at g17;have azG:=(I B (.inr J)).trans (aR _ _ _);refine⟨J,?_⟩;refine u4 @Z @D @azG @ew7 (cF (J:i<1000000000000)) ?_;refine⟨_,?_,i+1,_,rfl,J,rfl,aa,aR _ _ _,V.F (λc h1 ap=>ar J) J,λc a5=>?_,J⟩
  ·omega
  ·rw[ar J,I c (.inl J)];exact vG c a5
 ·have:i=L.length:=J
  subst this;refine cM @dO @bP ?_;exact⟨_,rfl,⟨_,rfl,(dX.f dV).F (λc h1 ap=>ar J) J (cR _)⟩,P.set J,J⟩
def Qe(s:ao)(K:bZ)(c6 eb dY fi ib lx sO:X)(aq:ae)(a0:Nat):Prop:=bt sO (af (cw [(ad 0),aw] []) λa=>af (aN aq 2 lx a) λb=>aG 2 b lx λc=>K (.tuple ⟨[c,(ad 3)]⟩) b a0) (bY aq dY λd=>af (.ok (.func (.func 315) ⟨[]⟩ ⟨[eb,dY,fi,ib]⟩)) λe=>aV s 314 [c6,d,e] aq a0 λf g i=>af (cu f 0) λj=>af (cu f 1) λk=>af (aN g 2 lx j) λl=>aG 2 l lx λm=>K (.tuple ⟨[m,k]⟩) l i)
def afX:xz:=λs ah t1 t2 t3 f6 h U K=>bG ah h U λa b c=>bG t1 b c λd e f=>bG t2 e f λg i j=>bG t3 i j λk l m=>bX [(ad 0),aw] l m λn o p=>bY o a λq=>aV s 313 [q] o p λr t aS=>af (ds .not r) λv=>bt v (Qe s K f6 a d g k n (.bool true) t aS) (bY t d λw=>bY t g λx=>bY t k λy=>aV s 202 [w,x,(ad 0),y] t aS λz bz bS=>af (ds .not z) λbA=>(Qe s K f6 a d g k n bA bz bS))
theorem avC:zi 223 afX:=A3 []
def aeB:c0:=λs ah t1 h U K=>bm .eql 40 ah (ad 2) (K (ad 1) h U) (bm .eql 40 ah (ad 4) (K (ad 5) h U) (bm .eql 40 ah (ad 5) (bE .and 3 t1 (ad 1) λd=>bm .eql 3 d (ad 0) (K (ad 2) h U) (K (ad 4) h U)) (bm .eql 40 ah (ad 1) (K (ad 4) h U) (bm .eql 40 ah (ad 3) (K (ad 4) h U) (K (ad 0) h U)))))
theorem as2:c4 225 aeB:=c5 []
def Z1:cO:=λs ah h U K=>bm .geq 3 ah (ad 0) (bE .leq 3 ah (ad 4096) λb=>K b h U) (K (.bool false) h U)
theorem alp:cQ 313 Z1:=cT []
def O6:ac (ac Nat):=[[0,2,6,7,15,16,17]]
def X0(s:ao)(aC a2 bj a6 jg hi kV:X)(h:ae)(U:Nat)(N:aQ)(aM:aQ)(R:aQ):Prop:=cv kV hi (gD 2 h 2 jg kV λc=>bX [(ad 0),aw] h U λd e f=>af (aN e 2 d c) λg=>aG 2 g d λi=>cg 312 [i] g f λj k l=>af (ds .not j) λm=>bt m (af (cw [(ad 0),aw] []) λn=>af (aN k 2 bj n) λo=>R [aC,a2,bj,(ad 4),jg,hi,kV] o l) (fg Q true (hV k l [kV] a2) λp q r=>l<=r/\bl 0 d λt=>bY q t λaS=>da t aS (bm .neq 3 aS p (af (cw [(ad 0),aw] []) λw=>af (aN q 2 bj w) λx=>R [aC,a2,bj,(ad 4),jg,hi,kV] x r) (b9 kV λy=>N [aC,a2,bj,a6,jg,hi,y] q r)) 1 [k,g])) (aM [aC,a2,bj,a6,jg,hi,kV] h U)
def acm:gj:=λs ah t1 t2 h U K=>bX [(ad 0),aw] h U λa b c=>cP ah λd=>bm .neq 3 d t1 (af (cw [(ad 0),aw] []) λf=>af (aN b 2 a f) λg=>aG 2 g a λi=>K (.tuple ⟨[i,(ad 4)]⟩) g c) (cP ah λj=>bF (bW Q s O6 314 0) [ah,t2,a,(ad 0),ah,j,(ad 0)] b c [(0,λk l m=>aV s 387 [(aT k 0)] l m λn o p=>af (cu n 0) λq=>af (cu n 1) λr=>af (aN o 2 (aT k 2) q) λt=>aG 2 t (aT k 2) λaS=>K (.tuple ⟨[aS,r]⟩) t p)] (λv w x=>aG 2 w (aT v 2) λy=>K (.tuple ⟨[y,(aT v 3)]⟩) w x))
theorem alq{s:ao}{D A g B:X}{h:ae}{U:Nat}{R:aQ}:bW Q s O6 314 0 [D,a2,bj,a6,A,g,B] h U N [(0,aM)] R=X0 s D a2 bj a6 A g B h U N aM R:=by kernel_rfl
theorem aoY:gw 314 acm:=gz O6
def aeC:xz:=λs ah t1 t2 t3 f6 h U K=>bY h t1 λa=>bY h t2 λb=>cg 204 [a,b,ah] h U λc d e=>bY d t1 λf=>da t1 f (bY d t3 λg=>da t3 g (bY d f6 λi=>da f6 i (cg 204 [f,g,i] d e λj k l=>cg 316 [c,j] k l λm n o=>bX [(ad 0),(ad 0)] n o λp q r=>af (aN q 2 p m) λt=>af (f0 (.array 2 1) p (ad 1)) λaS=>bY t aS λv=>af (f0 (.array 2 1) p (ad 0)) λw=>bY t w λx=>bE .sub 3 v x λy=>K y t r) 1 [h]) 1 [h]) 1 [h]
theorem as3:zi 315 aeC:=A3 []
def Z2:c0:=λs ah t1 h U K=>bG ah h U λa b c=>bG t1 b c λd e f=>bX [(ad 0),(ad 0)] e f λg i j=>af (f0 (.array 2 1) a (ad 0)) λk=>bY i k λl=>af (f0 (.array 2 1) d (ad 0)) λm=>bY i m λn=>af (min2 false l n) λo=>af (f0 (.array 2 1) a (ad 1)) λp=>bY i p λq=>af (f0 (.array 2 1) d (ad 1)) λr=>bY i r λt=>af (min2 true q t) λaS=>af (min2 false o aS) λv=>af (cw [(ad 0),(ad 0)] [(0,1,o),(1,1,v)]) λw=>af (aN i 2 g w) λx=>aG 2 x g λy=>K y x j
theorem alr:c4 316 Z2:=c5 []
def O7:ac (ac Nat):=[[4,8,9,22,23,24]]
def X1(s:ao)(aZ bq cH eM ki f2:X)(h:ae)(U:Nat)(N:aQ)(aW:aQ)(R:aQ):Prop:=cv f2 ki (et h 1 eM f2 λc=>bm .eql 2 c bq (dS (eO 1 [(ad 0)] [(0,1,f2)]) h U λe f g=>dm (dI (dn 1 f g cH e)) λi j k=>b9 f2 λl=>N [aZ,bq,i,eM,ki,l] j k) (b9 f2 λm=>N [aZ,bq,cH,eM,ki,m] h U)) (aW [aZ,bq,cH,eM,ki,f2] h U)
def Jj(s:ao)(K:bZ)(c6 ib:X)(aq:ae)(a0:Nat):Prop:=av aq 2 c6 λb=>cP b λc=>bF (bW Q s O7 331 0) [c6,ib,aw,b,c,(ad 0)] aq a0 [(1,λd e f=>av e 1 (aT d 0) λi=>av e 0 (aT d 0) λk=>bE .sub 3 i k λl=>aV s 108 [l,(aT d 2)] e f λm n o=>K (.tuple ⟨[m,(.bool false)]⟩) n o)] (λ_ _ _=>False)
def acn:gj:=λs ah t1 t2 h U K=>bG ah h U λa b c=>bG t1 b c λd e f=>aG 5 e a λg=>aG 5 e d λi=>aV s 299 [g,i] e f λj k l=>af (aN k 5 d j) λm=>av m 0 a λo=>bm .eql 40 o (ad 1) (Jj s K d (ad (-1)) m l) (bm .eql 40 o (ad 5) (Jj s K d (ad 0) m l) (K (.tuple ⟨[aw,(.bool true)]⟩) m l))
theorem als{s:ao}{A D g f2:X}{h:ae}{U:Nat}{B R:aQ}:bW Q s O7 331 0 [aZ,A,D,eM,g,f2] h U N [(1,B)] R=X1 s aZ A D eM g f2 h U N B R:=by kernel_rfl
theorem aoZ:gw 331 acn:=gz O7
def NO(s:ao)(K:bZ)(c6 eb dY fi ib p8 TQ:X)(aq:ae)(a0:Nat):Prop:=bt TQ (av aq 2 eb λb=>cg 88 [b] aq a0 λc d e=>bl 3 eb λf=>bY d f λg=>da f g (cg 88 [g] d e λi j k=>bl 4 eb λl=>bY j l λm=>da l m (cg 139 [m] j k λn o p=>bl 0 eb λq=>bY o q λr=>da q r (bl 1 eb λt=>bY o t λaS=>da t aS (af (cw [(ad 0),(ad 0),aw,aw,aw] [(0,1,r),(1,1,aS),(2,1,c),(3,1,i),(4,1,n)]) λv=>af (aN o 5 ib v) λw=>aG 5 w ib λx=>K x w p) 3 [j,d,aq]) 3 [j,d,aq]) 2 [d,aq]) 1 [aq]) (aG 5 aq eb λy=>af (.ok (.func (.func 400) ⟨[]⟩ ⟨[fi,c6,eb,dY]⟩)) λz=>aV s 208 [y,p8,z] aq a0 λbz bS bA=>af (aN bS 5 ib bz) λa9=>aG 5 a9 ib λbM=>K bM a9 bA)
def Z3:sZ:=λs ah t1 t2 t3 h U K=>bG ah h U λa b c=>bG t1 b c λd e f=>bG t2 e f λg i j=>bG t3 i j λk l m=>bX [(ad 0),(ad 0),aw,aw,aw] l m λn o p=>aG 5 o a λq=>aG 5 o d λr=>aV s 299 [q,r] o p λt aS v=>af (aN aS 5 d t) λw=>av w 1 d λy=>av w 0 d λbz=>bE .sub 3 y bz λbS=>aG 2 w k λbA=>aV s 312 [bA] w v λa9 bM b5=>af (ds .not a9) λbO=>bt bO (NO s K a d g k n bS (.bool true) bM b5) (av bM 0 k λcp=>bE .neq 3 cp bS λdk=>(NO s K a d g k n bS dk bM b5))
theorem alt:uj 336 Z3:=vu []
def Rb:ac (ac Nat):=[[2,3,4,6,7,21,22]]
def aco(s:ao)(a2 a3 aZ bj a6 iQ eM:X)(h:ae)(U:Nat)(N:aQ)(aM:aQ)(R:aQ):Prop:=cv eM iQ (aG 5 h a3 λb=>aG 5 h aZ λc=>aV s 403 [b,c,a2,eM] h U λd e f=>af (cu d 0) λg=>af (cu d 1) λi=>bt i (av e 1 a6 λk=>af (cw [(ad 0),(ad 0)] [(0,1,eM),(1,1,g)]) λl=>dS (eO 1 [(ad 0),(ad 0)] [(0,2,l)]) e f λm n o=>dm (dI (dn 2 n o k m)) λp q r=>bl 1 a6 λt=>af (aN q 1 t p) λaS=>b9 eM λv=>N [a2,a3,aZ,bj,a6,iQ,v] aS r) (b9 eM λw=>N [a2,a3,aZ,bj,a6,iQ,w] e f)) (aM [a2,a3,aZ,bj,a6,iQ,eM] h U)
def afY:gj:=λs ah t1 t2 h U K=>bG ah h U λa b c=>bG t1 b c λd e f=>bX [(ad 0),aw] e f λg i j=>aG 5 i a λk=>aG 5 i d λl=>aV s 299 [k,l] i j λm n o=>af (aN n 5 d m) λp=>av p 1 d λr=>av p 0 d λaS=>bE .sub 3 r aS λv=>af (cw [(ad 0),aw] [(0,1,v)]) λw=>bX [(ad 0),aw] p o λx y z=>af (aN y 2 x w) λbz=>av bz 0 x λbA=>bF (bW Q s Rb 337 0) [t2,a,d,g,x,bA,(ad 0)] bz z [(0,λa9 bM b5=>aG 2 bM (aT a9 4) λbO=>af (aN bM 2 (aT a9 3) bO) λcJ=>aG 2 cJ (aT a9 3) λcp=>K cp cJ b5)] (λ_ _ _=>False)
theorem as4{s:ao}{A g:X}{h:ae}{U:Nat}{R:aQ}:bW Q s Rb 337 0 [a2,A,aZ,bj,a6,g,eM] h U N [(0,aM)] R=aco s a2 A aZ bj a6 g eM h U N aM R:=by kernel_rfl
theorem avD:gw 337 afY:=gz Rb
def Fg(s:ao)(K:bZ)(b8 cN ca c6 eb dY sN LY:X)(aq:ae)(a0:Nat):Prop:=bt LY (af (cw [(ad 0),aw] []) λa=>af (aN aq 2 sN a) λb=>aG 2 b sN λc=>K c b a0) (aV s 204 [b8,cN,c6] aq a0 λd e f=>bX [(ad 0),(ad 0)] e f λg i j=>af (aN i 2 g d) λk=>cg 204 [b8,ca,eb] k j λl m n=>aG 2 m g λo=>jx 2 g o (cg 316 [o,l] m n λp q r=>bX [(ad 0),(ad 0)] q r λt aS v=>af (aN aS 2 t p) λw=>aG 2 w dY λx=>af (f0 (.array 2 1) t (ad 0)) λy=>bY w y λz=>af (f0 (.array 2 1) g (ad 0)) λbz=>bY w bz λbS=>bE .sub 3 z bS λbA=>af (f0 (.array 2 1) t (ad 1)) λa9=>bY w a9 λbM=>af (f0 (.array 2 1) g (ad 0)) λb5=>bY w b5 λbO=>bE .sub 3 bM bO λcJ=>aV s 405 [x,bA,cJ] w v λcp dk c3=>af (aN dk 2 sN cp) λeo=>aG 2 eo sN λam=>K am eo c3) 1 [k])
def acp:MH:=λs ah t1 t2 t3 f6 s0 h U K=>bG ah h U λa b c=>bX [(ad 0),aw] b c λd e f=>cg 313 [t1] e f λg i j=>af (ds .not g) λk=>bt k (Fg s K t1 t2 t3 f6 s0 a d (.bool true) i j) (cg 202 [t2,t3,f6,s0] i j λl m n=>af (ds .not l) λo=>bt o (Fg s K t1 t2 t3 f6 s0 a d (.bool true) m n) (aG 2 m a λp=>cg 312 [p] m n λq r t=>af (ds .not q) λaS=>bt aS (Fg s K t1 t2 t3 f6 s0 a d (.bool true) r t) (cg 404 [t1,t2,f6] r t λv w x=>bl 0 a λy=>bY w y λz=>da y z (bE .neq 3 z v λbz=>(Fg s K t1 t2 t3 f6 s0 a d bz w x)) 1 [r,m,i,e])))
theorem ao0:Vb 338 acp:=zf6 []
def X2:xz:=λs ah t1 t2 t3 f6 h U K=>aG 2 h t1 λa=>aV s 401 [a,ah] h U λb c d=>af (cu b 0) λe=>af (cu b 1) λf=>aG 5 c t2 λg=>aG 5 c t3 λi=>bY c f6 λj=>aV s 402 [g,i,j,ah,e,f] c d λk l m=>af (cu k 0) λn=>af (cu k 1) λo=>af (cu k 2) λp=>K (.tuple ⟨[n,o,p]⟩) l m
theorem ajk:zi 400 X2:=A3 []
def tc(s:ao)(K:bZ)(rR o3:X)(aq:ae)(a0:Nat):Prop:=K (.tuple ⟨[rR,o3,(.bool false)]⟩) aq a0
def NP(s:ao)(K:bZ)(cN ca c6 eb dY fi rR o3 y60:X)(aq:ae)(a0:Nat):Prop:=bt y60 (K (.tuple ⟨[(ad 2),o3,(.bool false)]⟩) aq a0) (bE .and 3 cN (ad 1) λa=>bm .eql 3 a (ad 1) (af (ds .not eb) λc=>bt c (K (.tuple ⟨[(ad 1),o3,(.bool true)]⟩) aq a0) (cg 459 [cN] aq a0 λd e f=>aG 5 e dY λg=>jx 5 dY g (bl 0 fi λi=>bY e i λj=>da i j (lD j ca λk=>cg 368 [g,d,k] e f λl m n=>bm .gtr 2 c6 l (K (.tuple ⟨[(ad 1),o3,(.bool true)]⟩) m n) (tc s K rR o3 m n)) 1 [aq]) 1 [aq])) (tc s K rR o3 aq a0))
def E5(s:ao)(K:bZ)(cN ca c6 eb dY fi rR o3 y28 T2:X)(aq:ae)(a0:Nat):Prop:=bt T2 (bt eb (bm .lss 2 c6 rR (K (.tuple ⟨[c6,o3,(.bool true)]⟩) aq a0) (tc s K rR o3 aq a0)) (tc s K rR o3 aq a0)) (bm .eql 40 y28 (ad 4) (bE .neq 2 c6 (ad 0) λc=>K (.tuple ⟨[c6,o3,c]⟩) aq a0) (bm .eql 40 y28 (ad 5) (bm .neq 2 rR (ad 0) (tc s K rR o3 aq a0) (bE .and 3 cN (ad 1) λf=>bm .eql 3 f (ad 0) (NP s K cN ca c6 eb dY fi rR o3 eb aq a0) (NP s K cN ca c6 eb dY fi rR o3 (.bool false) aq a0))) (tc s K rR o3 aq a0)))
def Z4:MH:=λs ah t1 t2 t3 f6 s0 h U K=>bG ah h U λa b c=>bG t1 b c λd e f=>av e 2 d λi=>et e 1 i t3 λk=>av e 3 d λm=>et e 1 m t3 λo=>av e 0 a λq=>bm .eql 40 q (ad 1) (bt s0 (bm .eql 2 k (ad (-1)) (K (.tuple ⟨[t2,f6,(.bool true)]⟩) e f) (tc s K k o e f)) (tc s K k o e f)) (bm .eql 40 q (ad 2) (E5 s K t2 t3 f6 s0 a d k o q (.bool true) e f) (bE .eql 40 q (ad 3) λv=>(E5 s K t2 t3 f6 s0 a d k o q v e f)))
theorem alu:Vb 402 Z4:=zf6 []
def acq:sZ:=λs ah t1 t2 t3 h U K=>bG ah h U λa b c=>bG t1 b c λd e f=>av e 4 d λi=>aV s 334 [i,t3] e f λj k l=>av k 0 a λn=>bm .eql 40 n (ad 1) (av k 0 d λq=>lD q t3 λr=>K (.tuple ⟨[r,j]⟩) k l) (bm .eql 40 n (ad 5) (bE .and 3 t2 (ad 1) λaS=>bm .eql 3 aS (ad 0) (K (.tuple ⟨[(ad 1),j]⟩) k l) (cg 459 [t2] k l λw x y=>aG 5 x a λz=>jx 5 a z (bl 0 d λbz=>bY x bz λbS=>da bz bS (lD bS t3 λbA=>cg 368 [z,w,bA] x y λa9 bM b5=>bl 2 d λbO=>bY bM bO λcJ=>da bO cJ (fq 1 cJ t3 λcp=>bY bM cp λdk=>da cp dk (bE .eql 2 dk (ad 0) λc3=>K (.tuple ⟨[a9,c3]⟩) bM b5) 2 [x,k]) 2 [x,k]) 1 [k]) 1 [k])) (av k 2 d λam=>et k 1 am t3 λek=>K (.tuple ⟨[ek,j]⟩) k l))
theorem ao1:uj 403 acq:=vu []
def aeD:cO:=λs ah h U K=>bE .sub 3 ah (ad 1) λa=>bE .shr 3 a (.int .u64 1) λb=>K b h U
theorem as5:cQ 459 aeD:=cT []
def jG(a c d:Nat):Nat:=min (max a c) d
theorem WW{s:ao}{n:Nat}{h:ae}{U:Nat}(A:n<=4096):aD Q s 313 [(n:X)] h U (fs (.bool true) U h):=by
 refine alp ?_;unfold Z1;refine aE ?_;refine⟨λ_=>⟨?_,rfl,rfl⟩,λg=>absurd g J⟩
 grind
theorem WX{s:ao}{g B A D:Nat}{h:ae}{U:Nat}:aD Q s 316 [.agg ⟨[(g:X),(B:X)]⟩,.agg ⟨[(A:X),(D:X)]⟩] h U (c9 (.agg ⟨[((max g A:Nat):X),((max (max g A) (min B D):Nat):X)]⟩) U h):=by
 refine alr ?_;unfold Z2;have M:max (g:Int) (A:Int)=((max g A:Nat):Int):=J
 have I:min (B:Int) (D:Int)=((min B D:Nat):Int):=J
 have E:max ((max g A:Nat):Int) ((min B D:Nat):Int)=((max (max g A) (min B D):Nat):Int):=J
 refine gX @M @I @E ?_;exact⟨rfl,aF,J⟩
theorem ao2{s:ao}{n k i:Nat}{h:ae}{U:Nat}(D:n<=4096)(A:0<k)(g:k<=8)(aj:i<k):aD Q s 404 [(n:X),(k:X),(i:X)] h U (fs (((c8 n k (i+1)-c8 n k i:Nat):X)) U h):=by
 refine asU ?_;unfold aev;refine bf (cF (J:i<1000000000000)) ?_;refine⟨λB=>absurd B J,λ_=>⟨λB=>absurd B J,λ_=>?_⟩⟩;refine(uS D A g J).mono ?_;rintro _ _ _ ⟨rfl,rfl,rfl⟩;refine(uS D A g J).mono ?_;rintro _ _ _ ⟨rfl,rfl,rfl⟩;have I:c8 n k i<=c8 n k (i+1):=uJ J;have M:=tk (n:=n) A (i+1);have E:IntKind.wrap .i64 ((c8 n k (i+1):Int)-(c8 n k i:Int))=((c8 n k (i+1)-c8 n k i:Nat):Int):=by rw[show(c8 n k (i+1):Int)-(c8 n k i:Int)=((c8 n k (i+1)-c8 n k i:Nat):Int) by omega];exact jb _ J
 refine bf @E ?_;exact⟨rfl,rfl,rfl⟩
theorem alv{s:ao}{n i al:Nat}{v:X}{x:Nat->ay Int}{h:ae}{U:Nat}(bw:n<=4096)(ei:0<R)(A:R<=8)(ee:0<C)(Z:C<=8)(aj:i<R)(cb:j<C)(aI:pG h al U v (c8 n R (i+1)-c8 n R i) (λk=>x (c8 n R i+k))):
  aD Q s 338 [v,(n:X),(R:X),(C:X),(i:X),(j:X)] h U (λr ab Y =>
   ln ab U Y r (jG (c8 n R (i+1)) (c8 n C j) (c8 n C (j+1))-jG (c8 n R i) (c8 n C j) (c8 n C (j+1))) (λk=>x (jG (c8 n R i) (c8 n C j) (c8 n C (j+1))+k))/\aA U h ab/\U<=Y):=by
 refine ao0 ?_;have hZ:=aI;obtain⟨gK,rfl,au⟩:=aI;obtain⟨a9,cap,rfl⟩:=au.form;have hmj:c8 n C j<=c8 n C (j+1):=uJ J;have br:=tk (n:=n) ei (i+1);have hlj:=tk (n:=n) ee (j+1);unfold acp;refine aE ?_;refine(WW bw).mono ?_;rintro _ _ _ ⟨rfl,rfl,rfl⟩;refine⟨J,?_⟩;refine aE ?_;refine(P2 ei A ee Z aj cb).mono ?_;rintro _ _ _ ⟨rfl,rfl,rfl⟩;refine⟨J,?_⟩;have bH:∀{o aU},aA U h (T (T h U o) (U+1) aU):=aF
 refine aE ?_;refine(v5 (hZ.is.F bH  J) J).mono ?_;rintro _ h1 bg ⟨rfl,dv,I⟩;refine⟨I,?_⟩;have ch:=dv U J;rw[ar J,aR]at ch;have bP:=dv (U+1) J;rw[aR]at bP;refine aE ?_;refine(ao2 bw ei A aj).mono ?_;rintro _ h1 bg ⟨rfl,rfl,rfl⟩;refine⟨J,?_⟩;simp(disch:=omega)only[bk,ch,oH,seval];unfold Fg;refine aE ?_;refine(B5  bw ei A J).mono ?_;rintro _ ap bU ⟨rfl,dM,fx⟩;refine aE ?_;refine(B5  bw ee Z J).mono ?_;rintro _ aH b1 ⟨rfl,B,gg⟩;refine⟨J,?_⟩;have E:=B bU J;rw[aR]at E;have DM:=B U J;rw[ar J,ar J,dM U J,ch]at DM;have P:=B (U+1) J;rw[ar J,ar J,dM (U+1) J,bP]at P;refine bf @E ?_;refine WX.mono ?_;rintro _ bh d9 ⟨rfl,D,hX⟩;refine⟨J,?_⟩;have g42:=(D bU J).trans E;have T4:=(D U J).trans DM;have L9:=(D (U+1) J).trans P;have hR:aA U h bh:=aF
 generalize dy:c8 n R i=a at *
 generalize Lx:c8 n R (i+1)=az at *
 generalize a5:c8 n C j=c at *
 generalize bs:c8 n C (j+1)=d at *
 have T1:IntKind.wrap .i64 (((max a c:Nat):Int)-(a:Int))=((max a c-a:Nat):Int):=by rw[show((max a c:Nat):Int)-(a:Int)=((max a c-a:Nat):Int) by omega];exact jb _ J
 have HK:IntKind.wrap .i64 (((max (max a c) (min az d):Nat):Int)-(a:Int))=((max (max a c) (min az d)-a:Nat):Int):=by rw[show((max (max a c) (min az d):Nat):Int)-(a:Int)=((max (max a c) (min az d)-a:Nat):Int) by omega];exact jb _ J
 refine ll @T4 @g42 @T1 @HK ?_;have lk:∀{o aU},aA U h (T (T bh d9 o) d9 aU):=(hR.set J).set J;refine(aoW   (hZ.F  (λb _ a1=>lk b a1) (cR _) J) J rfl).mono ?_;rintro r cj n6 ⟨ba,M,mi⟩;obtain⟨aBQ,rfl,g⟩:=ba;obtain⟨nI,qc,rfl,_⟩:=id g;have V:=M (U+1) J;rw[ar J,ar J,L9]at V;refine bf @V ?_;have es:min (max (max a c) (min az d)-a) (az-a)-(max a c-a)=jG az c d-jG a c d:=by unfold jG;omega
 rw[es]at g ⊢;refine⟨⟨_,rfl,?_⟩,(lk.trans M J).set J,J⟩;have BG:(bp (jG az c d-jG a c d) λk=>x (a+(max a c-a+k)))=bp (jG az c d-jG a c d) λk=>x (jG a c d+k):=ya λk hk=>by
  congr 1
  unfold jG at hk ⊢;omega
 rw[BG]at g ⊢;exact g.F (λb h1 ap=>ar J) J J
def GdJ(cf:Nat)(v km:X)(n:Nat)(aq:ae)(U a0:Nat)(m:Nat)(aJ:ac X)(ab:ae)(Y:Nat):Prop :=
 ∃i,m=n-i/\i<=n/\aJ=[v,km,bb cf,.int .i64 0,v,(n:X),(i:X)]/\u ab cf=some (.cells [.int .i64 0,.slice none 0 0] false)/\aA U aq ab/\a0<=Y
theorem alw{s:ao}{v:X}{al:Nat->Nat}{x:Nat->ay Int}{h:ae}{U:Nat}(H:Ac h U v al m x)(bx:m<=1000)(bD:∀i M A,i<m->aA U h M->U<=A->aD Q true eL ((i:X)::cs) M A (c9 (((al (i+1)-al i:Nat):X)) A M)):
  aD Q s 314 [v,(m:X),.func (.func eL) ⟨[]⟩ ⟨cs⟩] h U (λr ab Y=>∃w,r = .tuple ⟨[w,.int .i64 0]⟩/\pG ab U Y w (al m-al 0) (λk=>x (al 0+k))/\aA U h ab/\U<=Y):=by
 refine aoY ?_;have r1:=H;obtain⟨⟨L,rfl,au,f3⟩,E,hX⟩:=H;obtain⟨a9,cap,rfl⟩:=au.form;have bH:∀{o},aA U h (T h U o):=aF
 unfold acm;simp(disch:=omega)only[bk,oH,seval];refine bF.mk (GdJ U (.slice a9 L.length cap) (.func (.func eL) ⟨[]⟩ ⟨cs⟩) L.length h U (U+1)) L.length ⟨0,J,J,rfl,aa,bH,J⟩ ?_;rintro _ _ M A ⟨i,rfl,aj,rfl,bP,dv,fa⟩;rw[alq];unfold X0;refine aE ?_;refine⟨λcS=>?_,λeZ=>?_⟩
 ·obtain⟨⟨n,gK⟩,cd⟩:=dW   J;obtain⟨bw,B⟩:=f3 i _ cd;have B:ep h U gK fN 2 (bp n λk=>x (al i+k)):=B;have axT:al (i+1)<=al L.length:=Qd E J;obtain⟨dp,eD,rfl⟩:=B.form;obtain⟨b,aU,aO,bL,rz,mV,a1,aW,bd,lS⟩:=(au.F dv (Y:=A) J).ld (λ_=>rfl) cd;cases aW;refine cM @bd @lS ?_;rw[show yr (n,.slice dp (bp n λk=>x (al i+k)).length eD)=[(n:X),.slice dp (bp n λk=>x (al i+k)).length eD]from rfl];have cI:∀{o aU},aA U h (T (T M A o) A aU):=aF
  refine aE ?_;refine(v5   ⟨_,rfl,B.F cI  J⟩ J).mono ?_;rintro _ ap bU ⟨rfl,g,D⟩;refine⟨D,?_⟩;have I:=g A J;rw[aR]at I;have V:=g U J;rw[ar J,ar J,bP]at V;refine aE ?_;have ey:=cI.trans g J;refine(bD i ap bU J ey J).mono ?_;rintro _ aH b1 ⟨rfl,P,Z⟩;refine⟨Z,?_⟩;have dz:=(P A J).trans I;have DX:=(P U J).trans V;refine gX @dz @I (cF (J:i<1000000000000)) ?_;refine⟨λa1=>absurd a1 aa,λ_=>?_⟩;refine⟨_,?_,i+1,rfl,J,rfl,DX,aF,J⟩;omega
 ·have:i=L.length:=J
  subst this;refine(aoX (r1.F dv  J) bx).mono ?_;rintro _ ap bU ⟨w,rfl,bV,g,D⟩;obtain⟨Vm,rfl,y4⟩:=id bV;obtain⟨nI,qc,rfl⟩:=y4.form;have I:=(g U J).trans bP;refine bf @I ?_;exact⟨_,rfl,bV.F aa J J,aF,J⟩
theorem ao3{s:ao}{n i g:Nat}{d6 oF aC0 Z:ao}{h:ae}{U:Nat}(bw:n<=4096)(ei:0<R)(V:R<=8)(ee:0<C)(y1:C<=8)(aj:i<R)(cb:j<C)(bP:u h cf=some (.cells [(n:X)] d6))(dO:u h cW=some (.cells [(R:X)] oF))(mI:u h eX=some (.cells [(C:X)] aC0))(M:u h g=some (.cells [(j:X)] Z))(dA:cf<U)(fJ:cW<U)(zk:eX<U)(b10:g<U):
  aD Q s 315 [(i:X),bb cf,bb cW,bb eX,bb g] h U
   (c9 (((jG (c8 n R (i+1)) (c8 n C j) (c8 n C (j+1))-jG (c8 n R i) (c8 n C j) (c8 n C (j+1)):Nat):X)) U h):=by
 refine as3 ?_;unfold aeC;refine cM @bP @dO ?_;refine(B5  bw ei V J).mono ?_;rintro _ ap bU ⟨rfl,A,D⟩;refine⟨D,?_⟩;have DW:=(A cf dA).trans bP;have P:=(A eX zk).trans mI;have B:=(A g b10).trans M;refine Ah @DW @P @B @bP @mI @M ?_;refine(B5  bw ee y1 J).mono ?_;rintro _ aH b1 ⟨rfl,f1,I⟩;refine⟨I,?_⟩;refine WX.mono ?_;rintro _ bh d9 ⟨rfl,g6,E⟩;refine⟨E,?_⟩;have br:=tk (n:=n) ei (i+1);generalize c8 n R i=a at *
 generalize c8 n R (i+1)=az at *
 generalize c8 n C j=c at *
 generalize c8 n C (j+1)=d at *
 have fh:IntKind.wrap .i64 (((max (max a c) (min az d):Nat):Int)-((max a c:Nat):Int))=((jG az c d-jG a c d:Nat):Int):=by rw[show((max (max a c) (min az d):Nat):Int)-((max a c:Nat):Int)=((jG az c d-jG a c d:Nat):Int) by unfold jG;omega];exact jb _ (by unfold jG;omega)
 refine bf @fh ?_;exact⟨rfl,aF,J⟩
theorem as6{s:ao}{n:Nat}{v:X}{x:Nat->ay Int}{h:ae}{U:Nat}(bw:n<=4096)(E:0<R)(A:R<=8)(M:0<C)(B:C<=8)(cb:j<C)(H:Ac h U v (λi=>jG (c8 n R i) (c8 n C j) (c8 n C (j+1))) R x):
  aD Q s 223 [(n:X),(R:X),(C:X),(j:X),v] h U (λr ab Y=>∃w,r = .tuple ⟨[w,.int .i64 0]⟩ /\
   pG ab U Y w (c8 n C (j+1)-c8 n C j) (λk=>x (c8 n C j+k))/\aA U h ab/\U<=Y):=by
 refine avC ?_;have hmj:c8 n C j<=c8 n C (j+1):=uJ J;have hlj:=tk (n:=n) M (j+1);have bH:∀{o aU kD gu l2},aA U h (T (T (T (T (T h U o) (U+1) aU) (U+2) kD) (U+3) gu) (U+4) l2):=aF
 unfold afX;refine aE ?_;refine(WW bw).mono ?_;rintro _ h1 bg ⟨rfl,gB,e1⟩;rw[gB,e1];refine aE ?_;refine(P2  E A M B E cb).mono ?_;rintro _ ap bU ⟨rfl,Z,I⟩;rw[Z,I];refine aE ?_;unfold Qe;refine aE ?_;refine(alw (H.F bH  J) J   (λi aH b1 aj g D=>?_)).mono ?_
 ·exact ao3 bw E A M B aj cb ((g U J).trans (by rw[ar J,ar J,ar J,ar J,aR])) ((g (U+1) J).trans (by rw[ar J,ar J,ar J,aR])) ((g (U+2) J).trans (by rw[ar J,ar J,aR])) ((g (U+3) J).trans (by rw[ar J,aR])) J J J J
 rintro _ aH b1 ⟨w,rfl,V,g,D⟩;have aM:jG (c8 n R 0) (c8 n C j) (c8 n C (j+1))=c8 n C j:=by rw[avp];unfold jG;omega
 have aW:jG (c8 n R R) (c8 n C j) (c8 n C (j+1))=c8 n C (j+1):=by rw[avq E];unfold jG;omega
 rw[aM,aW]at V;obtain⟨Vm,rfl,P⟩:=id V;obtain⟨nI,qc,rfl⟩:=P.form;have dz:=(g (U+4) J).trans (aR _ _ _);refine bf @dz ?_;exact⟨_,rfl,V.F aa J J,aF,J⟩
theorem Kj{s:ao}{n k:Nat}{p:Nat->ao}{v:X}{h:ae}{U:Nat}(bw:n<=63)(D:k<n)(E:dg h U v kd (eT n p)):aD Q s 334 [v,(k:X)] h U (fs (.bool (p k)) U h):=by
 refine afS ?_;have I:eT n p=[mk n p]:=if_neg J;rw[I]at E;obtain⟨a,cap,rfl,Z⟩:=id E;obtain⟨b,aO,bL,a1,rfl,P⟩:=Z (by simp);unfold Sk bE cg da bY fq;refine(XQ J).mono ?_;rintro r aH V ⟨rfl,A,g⟩;rw[A,g];refine⟨cR _,?_⟩;refine aE ?_;refine(aeb J).mono ?_;rintro r aH V ⟨rfl,A,g⟩;rw[A,g];refine⟨cR _,?_⟩;have fd:bin Q .and 188 (.int .u64 (mk n p:Int)) (.int .u64 ((2 ^ k:Nat):Int)) = .ok (.int .u64 (mk n (λi=>p i&&decide (i=k)):Int)):=by rw[ac8 D,Fp (wO J) (wO J),aun]
 have B:u h b=some (.cells [.int .u64 (mk n p:Int)] bL):=P;simp(disch:=omega)only[bk,Fq,show k / 64=0 by omega,show((0:Nat):Int)=0 from rfl,B,fd,nq,BU,seval];have M:(!((mk n (λi=>p i&&decide (i=k)):Int) == 0))=p k:=by
  cases bn:p k with
  |true =>
   have:mk n (λi=>p i&&decide (i=k))≠0:=λe=>by
    have:=FO.1 e k D
    grind
   grind
  |false =>
   have:mk n (λi=>p i&&decide (i=k))=0:=FO.2 λi aj=>aa
   grind
 rw[M];exact⟨rfl,rfl,rfl⟩
def kk(x:Nat->ay Int)(i:Nat):ao:=(x i).isSome
def jX(x:Nat->ay Int)(i:Nat):Int:=(x i).getD 0
def su(h:ae)(U:Nat)(v:X)(n:Nat)(x:Nat->ay Int):Prop:=∃fw dp,v = .agg ⟨[(n:X),fw,dp]⟩/\dg h U fw kd (eT n (kk x))/\ep h U dp cY 1 (cx n (jX x))
def CT(h:ae)(al aj:Nat)(v:X)(n:Nat)(x:Nat->ay Int):Prop:=∃fw dp,v = .agg ⟨[(n:X),fw,dp]⟩/\eY h al aj fw kd (eT n (kk x))/\eY h al aj dp cY (cx n (jX x))
section
variable {h ab:ae} {U Y al aj ea dB n:Nat} {v:X} {x:Nat->ay Int}
theorem su.F(H:su h U v n x)(A:aA U h ab)(g:U<=Y):su ab Y v n x:=by obtain⟨a,b,e,B,D⟩:=H;exact⟨a,b,e,B.F A g,D.F A g⟩
theorem CT.is(H:CT h al aj v n x):su h aj v n x:=by obtain⟨a,b,e,g,A⟩:=H;exact⟨a,b,e,g.rd,dg.o (λ_=>rfl) A.rd⟩
theorem CT.F(H:CT h al aj v n x)(g:∀b,al<=b->b<aj->u ab b=u h b)(B:ea<=al)(A:aj<=dB):CT ab ea dB v n x:=by obtain⟨a,b,e,D,E⟩:=H;exact⟨a,b,e,D.F g B A,E.F g B A⟩
end
theorem ao4(n:Nat)(f:Nat->Int)(k:Nat)(y:Int):(cx n f).set k y=cx n (λj=>if j=k then y else f j):=by
 apply q6;intro i;unfold cx
 grind
theorem alx(n:Nat):List.replicate n (Value.int .i64 0)=a7 cY (cx n λ_=>0):=by
 induction n with
 |zero=>rfl
 |succ n g =>
  rw[Gk,zK,<-g,List.replicate_succ'];rfl
theorem JE{n:Nat}{f g:Nat->Int}(h:∀i,i<n->f i=g i):cx n f=cx n g:=by exact q5 aa
theorem as7{s:ao}{n:Nat}{h:ae}{U:Nat}(P:n<=63):aD Q s 388 [(n:X)] h U (λr ab Y=>∃E b,r = .agg ⟨[(n:X),E,.slice (some ⟨b,0,none⟩) n n]⟩/\U<b/\b<Y/\u ab b=some (.cells (a7 cY (cx n λ_=>0)) false)/\eY ab (U+1) b E kd (eT n λ_=>false)/\aA U h ab/\U<=Y):=by
 refine auS ?_;unfold afp;refine aE ?_;unfold PJ PI;refine aE ?_;refine⟨λA=>absurd A J,λ_=>⟨λA=>absurd A J,λ_=>?_⟩⟩;refine(acb P).mono ?_;rintro v Z I ⟨D,B,g⟩;obtain⟨V,cap,rfl,A⟩:=id D;refine⟨g,?_⟩;have M:=(B U J).trans (aR _ _ _);refine bf @M ?_;refine⟨_,I,rfl,J,J,?_,?_,aF,J⟩
 ·rw[ar J,aR,alx]
 ·exact D.F aa J J
theorem X3{s:ao}{n:Nat}{v:X}{x:Nat->ay Int}{h:ae}{U:Nat}(aI:su h U v n x)(bw:n<=63):aD Q s 478 [v] h U (c9 (.bool true) U h):=by
 refine ans ?_;obtain⟨fw,dp,rfl,Z,E⟩:=aI;obtain⟨a9,cap,rfl,a5⟩:=id Z;obtain⟨M,g,rfl,og⟩:=id E;have bH:∀{o},aA U h (T h U o):=aF
 unfold abp;refine aE ?_;refine(XU bw (Z.F  bH J)).mono ?_;rintro _ h1 bg ⟨rfl,I,fa⟩;have ch:=(I U J).trans (aR _ _ _);refine bf @ch ?_;unfold Ob;refine bf @ch ?_;rw[i9];refine⟨λa5=>absurd a5 (by simp),λ_=>?_⟩;have V:=bH.trans I J;refine bF.mk (λm aJ ab Y=>∃i,m=n-i/\i<=n/\aJ=[bb U,.bool false,.slice M n g,(n:X),(i:X)]/\ab=h1/\Y=bg) n ⟨0,J,J,rfl,rfl,rfl⟩ ?_;rintro _ _ ap bU ⟨i,rfl,aj,rfl,gB,e1⟩;rw[aky];unfold XH;refine aE ?_;refine⟨λD=>?_,λeZ=>by rw[gB,e1];exact⟨rfl,V,J⟩⟩;have D:i<n:=J
 have cd:(cx n (jX x))[i]? = some (jX x i):=by
  unfold cx
  grind
 rw[gB,e1];have A:ep h1 bg (.slice M (cx n (jX x)).length g) cY 1 (cx n (jX x)):=E.F V J;rw[i9]at A;obtain⟨b,aU,aO,bL,cs,mV,a1,aW,bd,P⟩:=ep.ld1  A cd;rw[i9]at aW;cases aW;refine cM @bd @P ?_;have fin:∃bR,bR<n-i/\∃B,bR=n-B/\B<=n/\[Value.pointer (some ⟨U,0,none⟩),Value.bool false,Value.slice (some ⟨b,aU,aO⟩) n g,Value.int IntKind.i64 (n:Int),Value.int IntKind.i64 (IntKind.i64.wrap ((i:Int)+1))]=[Value.pointer (some ⟨U,0,none⟩),Value.bool false,Value.slice (some ⟨b,aU,aO⟩) n g,Value.int IntKind.i64 (n:Int),Value.int IntKind.i64 (B:Int)]:=⟨_,J,i+1,rfl,J,by rw[cF J]⟩
 refine⟨λdc=>?_,λ_=>fin⟩;rw[ch];refine aE ?_;refine(Kj bw D (Z.F V  J)).mono ?_;rintro _ _ _ ⟨rfl,rfl,rfl⟩;have fd:kk x i=true:=by
  unfold kk;unfold jX at dc;cases aX:x i with
  |none=>grind
  |some y=>rfl
 refine bf @fd ?_;omega
theorem ao5{s:ao}{n:Nat}{v:X}{x:Nat->ay Int}{h:ae}{U:Nat}(D:su h U v n x)(Z:n<=63):aD Q s 450 [v] h U (c9 v U h):=by
 refine art ?_;have B:=D;obtain⟨fw,dp,rfl,P,A⟩:=D;obtain⟨_,_,rfl,_⟩:=id P;obtain⟨_,_,rfl,_⟩:=id A;have V:∀{o aU},aA U h (T (T h U o) (U+1) aU):=aF
 unfold adO;refine aE ?_;refine(X3 (B.F  V J) Z).mono ?_;rintro _ h1 bg ⟨rfl,g,M⟩;have I:=g U J;rw[ar J,aR]at I;have E:=g (U+1) J;rw[aR]at E;refine cM @I @E ?_;exact⟨rfl,aF,J⟩
theorem aeE{s:ao}{n:Nat}{v:X}{x:Nat->ay Int}{h:ae}{U:Nat}(aI:j8 h U v n x)(bw:n<=63):aD Q s 318 [v] h U (λr ab Y=>CT ab U Y r n x/\aA U h ab/\U<=Y):=by
 refine axj ?_;have hZ:=aI;obtain⟨gK,rfl,au⟩:=aI;obtain⟨a9,cap,rfl,a5⟩:=id au;have bH:∀{o aU},aA U h (T (T h U o) (U+1) aU):=aF
 unfold agJ;refine aE ?_;refine(v5 (hZ.F  bH J) J).mono ?_;rintro _ h1 bg ⟨rfl,dv,fa⟩;have ch:=dv U J;rw[ar J,aR]at ch;have bP:=dv (U+1) J;rw[aR]at bP;refine bf @ch ?_;refine(as7 bw).mono ?_;rintro _ ap A ⟨fw,b,rfl,iB,fH,qT,Dt,dM,fx⟩;have V:=(dM U J).trans ch;have DW:=(dM (U+1) J).trans bP;obtain⟨D,g,rfl,_⟩:=id Dt;refine bf @V ?_;have gT:=md n x;have g2n:u (T (T ap A (.cells [.int .i64 0,.slice none 0 0,.slice none 0 0] false)) A (.cells [(n:X),.slice D (eT n λx=>false).length g,.slice (some ⟨b,0,none⟩) n n] false)) A=some (.cells [(n:X),.slice D (eT n λx=>false).length g,.slice (some ⟨b,0,none⟩) n n] false):=aa
 have ey:aA A ap (T (T ap A (.cells [.int .i64 0,.slice none 0 0,.slice none 0 0] false)) A (.cells [(n:X),.slice D (eT n λx=>false).length g,.slice (some ⟨b,0,none⟩) n n] false)):=aF
 generalize fp:T (T ap A (.cells [.int .i64 0,.slice none 0 0,.slice none 0 0] false)) A (.cells [(n:X),.slice D (eT n λx=>false).length g,.slice (some ⟨b,0,none⟩) n n] false)=aH at g2n ey ⊢;refine bF.mk (λm aJ ab Y=>∃i,m=(bp n x).length-i/\i<=(bp n x).length/\aJ=[bb U,.pointer (some ⟨U+1,0,none⟩),bb A,.slice a9 (bp n x).length cap,.int .i64 ((bp n x).length:Int),(i:X)] /\
  u ab b=some (.cells (a7 cY (cx n λk=>if na (((bp n x).map (·.1)).take i) k=true then jX x k else 0)) false)/\(∀c,c<A+1->c≠b->u ab c=u aH c)/\A+1<=Y) (bp n x).length ⟨0,J,J,rfl,?_,aa,J⟩ ?_
 ·rw[ey b fH,qT];rfl
 rintro _ _ bh d9 ⟨i,rfl,aj,rfl,gb4,P,hX⟩;have hR:aA U h bh:=aF
 have I:=(P A J J).trans g2n;have M:=(P U J J).trans ((ey U J).trans V);have L9:=(P (U+1) J J).trans ((ey (U+1) J).trans DW);rw[auN];unfold adG;refine aE ?_;refine⟨λcS=>?_,λeZ=>?_⟩
 ·obtain⟨⟨k,y⟩,cd⟩:=dW   J;obtain⟨hk,aX⟩:=wh cd;obtain⟨cr,aU,aO,bL,cs,mV,h4,aW,bd,lS⟩:=(au.F hR (Y:=d9) J).ld (λ_=>rfl) cd;cases aW;refine cM @bd @lS ?_;rw[show fN (k,y)=[(k:X),(y:X)]from rfl];refine bf @I ?_;have bV:=RK (enc:=cY)  (λ_=>rfl) (λ_=>rfl) (h:=T (T bh d9 (.cells [.int .i64 0,.int .i64 0] false)) d9 (.cells [(k:X),(y:X)] false)) (b:=b)  (l:=cx n λk=>if na (((bp n x).map (·.1)).take i) k=true then jX x k else 0) (y:=y) (by rw[i9];omega);rw[EO]at bV;rw[show cY y=[Value.int .i64 y]from rfl]at bV;rw[gb4,bV];refine bf (cF (J:i<1000000000000)) ?_;refine⟨_,?_,i+1,rfl,J,rfl,?_,λc h1 ap=>?_,J⟩
  ·omega
  ·rw[ao4]
   congr 3
   apply JE;intro j cb;rw[Zw (show((bp n x).map (·.1))[i]? = some k by grind)]
   by_cases e:j=k
   ·subst e;simp[jX,aX]
   grind
  grind
 ·have:i=(bp n x).length:=J
  subst this;refine bf @M ?_;refine(WV ((hZ.F hR  J)) J).mono ?_;rintro aC1 b0 eN ⟨bn,B,ny⟩;refine⟨ny,?_⟩;have g05:=(B U J).trans M;refine cM @M @g05 ?_;have qG:(bp n x).map (λp=>(p.1:Int))=f9 ((bp n x).map (·.1)):=by unfold f9;rw[qk];rfl
  rw[qG]at bn;refine(Ki bw bn.rd (λj cb=>?_) aa).mono ?_
  ·obtain⟨⟨a,c⟩,dy,rfl⟩:=gO.1 cb;exact(j6.1 dy).1
  rintro km cj n6 ⟨bD,E,Z⟩;refine⟨Z,?_⟩;obtain⟨adf,aBf,rfl,_⟩:=id bD;have azH:=(E A J).trans ((B A J).trans I);have DY:=(E (U+1) J).trans ((B (U+1) J).trans L9);refine cM @azH @DY ?_;have p5:eT n (na ((bp n x).map (·.1)))=eT n (kk x):=by
   unfold eT
   by_cases dc:n=0
   ·grind
   ·rw[if_neg dc,if_neg dc,Cz];intro i aj;unfold na kk;cases aX:x i with
    |none =>
     refine ht λbx=>?_;obtain⟨⟨a,c⟩,dy,rfl⟩:=gO.1 bx;have:=(j6.1 dy).2
     grind
    |some y=>exact hf (gO.2 ⟨(i,y),j6.2 aa,rfl⟩)
  have ej:(cx n λk=>if na (((bp n x).map (·.1)).take (bp n x).length) k=true then jX x k else 0)=cx n (jX x):=by
   apply JE;intro i aj;rw[q3 aa];unfold na jX;cases aX:x i with
   |none=>simp
   |some y =>
    rw[if_pos];exact hf (gO.2 ⟨(i,y),j6.2 aa,rfl⟩)
  rw[ej]at gb4;refine⟨⟨_,_,rfl,?_,?_⟩,?_,J⟩
  ·rw[p5]at bD ⊢;exact bD.F aa J J
  ·refine⟨some ⟨b,0,none⟩,n,by rw[i9],λ_=>⟨b,none,false,J,J,rfl,?_⟩⟩;rw[ar J,ar J,E b J,B b J];omega
  ·exact(((hR.trans B J).trans E J).set J).set J
def HN(s:ao)(G:Nat)(cs:ac X)(N:Nat)(A:Nat->ac X)(S:ae->Nat->Prop):Prop :=
 ∀(l:Nat) (I:Nat->ae->Nat->Prop) (ab:ae) (Y:Nat),(∀k h1 bg,I k h1 bg->S h1 bg)->(∀k h1 bg ap bU,I k h1 bg->aA bg h1 ap->bg<=bU->I k ap bU)->I 0 ab Y ->
  (∀(mA:ao) k,k<N->∀h1 bg,I k h1 bg->lW Q mA l (A k) h1 bg (λr ap bU=>r = .bool true/\I (k+1) ap bU/\bg<=bU))->aD Q s G (.func (.yield l) ⟨[]⟩ ⟨[]⟩::cs) ab Y (λ_ ap bU=>I N ap bU)
theorem RL{s:ao}{ak:ck}{P:ac Nat}{a b:Code}{N:Nat}{A:Nat->ac X}{h:ae}{U:Nat}{aBR aC2:ae->Nat->Prop}(I:Nat->ae->Nat->Prop)(it:HN s G cs N A S)(hk:∀k g B,I k g B->S g B/\U+1<=B)(V:∀k g B E M,I k g B->(∀c,c<B->c≠U->u E c=u g c)->B<=M->I k E M)(aq:I 0 (T h U (.loop 0 none ak P a b)) (U+1))(step:∀(s:ao) k,k<N->∀g B,I k g B->u g U=some (.loop 0 none ak P a b)->lW Q s U (A k) g B (λr E M=>r = .bool true/\u E U=some (.loop 0 none ak P a b)/\I (k+1) E M/\B<=M))(fin:∀g B,I N g B->aBR g B):tL Q s (.func (.func G) ⟨[]⟩ ⟨cs⟩) h U (.loop 0 none ak P a b) (yB U aBR aC2):=by
 refine(it U (λk g B=>u g U=some (.loop 0 none ak P a b)/\I k g B) _ _ (λk g B D=>(hk k g B D.2).1)
  (λk g B E M D Z dx=>⟨(Z U (by have:=(hk k g B D.2).2;omega)).trans D.1,V k g B E M D.2 (λc g _=>Z c g) dx⟩) ⟨aa,aq⟩ λs k Ty g B D=>?_).mono ?_
 ·exact(step s k Ty g B D.2 D.1).mono λr E M ⟨aW,aP,cy,eE⟩=>⟨aW,⟨aP,cy⟩,eE⟩
 ·rintro _ g B ⟨br,D⟩;exact⟨0,none,_,_,_,_,br,J,.inl ⟨rfl,fin _ _ (V _ _ _ _ _ D aa J)⟩⟩
theorem aly{s:ao}{h:ae}{U:Nat}(f3:L.length<=10000)(it:HN s G cs L.length (λk=>[.agg ⟨fN (L.getD k (0,0))⟩]) S)(V:∀g A,aA U h g->U<=A->S g A):
  aD Q s 495 [.slice none 0 0,.func (.func G) ⟨[]⟩ ⟨cs⟩] h U (λr ab Y=>eY ab U Y r fN L/\aA U h ab/\U<=Y):=by
 refine aou ?_;unfold ab8;refine aE ?_;refine RL (λk g A=>∃v,u g U=some (.cells [v] false)/\g1 v=true/\dX g v fN 2 (L.take k) (U+2) A/\aA U h g/\U+2<=A) it ?_ ?_ ?_ ?_ ?_
 ·rintro k g A ⟨v,_,_,_,g,ap⟩;exact⟨V _ _ g J,ap⟩
 ·rintro k g A ap bU ⟨v,e,ej,B,hk,P⟩ dM D;exact⟨v,aa,ej,B.F aa D,aF,J⟩
 ·exact⟨_,aa,rfl,.inl ⟨rfl,rfl⟩,aF,J⟩
 ·rintro s k hk g A ⟨v,e,ej,B,E,P⟩ br;obtain⟨p,bn⟩:=dW hk;have rI:L.getD k (0,0)=p:=aa
  rw[rI];refine ak4 br ?_;unfold O2 ZL;generalize uO _ _ _=ak at *
  simp(disch:=omega)only[bk,show c7 (.agg ⟨fN p⟩)=[(p.1:X),(p.2:X)]from rfl,seval];refine⟨none,br,?_⟩;refine bf @e ?_;refine me (k:=2) (λ_=>rfl) (λ_=>rfl) J (B.F aa J) J p (aR _ _ _) rfl aa λd7 b0 Z e7=>?_;have xE:u b0 (U+1)=some (.loop 1 none ak [7] uK uL):=aa
  have ir:u b0 U=some (.cells [v] false):=aa
  have cK:L.take (k+1)=L.take k++[p]:=by rw[hq,bn];rfl
  rcases Z with⟨aM,rfl⟩|⟨b,M,I,rfl,bd⟩
  ·simp at aM
  ·refine bf @ir ?_;refine⟨1,none,xE,⟨_,rfl,rfl,.inr ⟨b,M,J,by rw[cK],?_⟩,aF,J⟩,J⟩
   grind
 ·rintro g A ⟨v,e,ej,B,E,P⟩;rw[hB]at B;refine bf @e ?_;refine⟨?_,E,J⟩;rcases B with⟨rfl,rfl⟩|⟨b,M,I,rfl,bd⟩
  ·exact⟨_,_,rfl,λh=>absurd rfl h⟩
  ·exact⟨_,_,rfl,λ_=>⟨b,some 2,false,J,I,rfl,bd⟩⟩
theorem JF{q:Nat->ao}{a:Int}:∀{n:Nat},(∀i,i<n->q i=true->¬a<=(i:Int))->fO q a n = -1
 |0,_=>rfl
 |n+1,h=>by show(if fO q a n = -1 then(if q n=true/\a<=(n:Int)then(n:Int)else -1)else fO q a n) = -1;rw[if_pos (JF aa),if_neg λg=>h n J g.1 g.2]
theorem aeF{a:Int}{n:Nat}(A:m<n)(B:q m=true)(D:a<=(m:Int))(g:∀i,i<m->q i=true->¬a<=(i:Int)):fO q a n=(m:Int):=by
 have E:fO q a m = -1:=JF g;have I:fO q a (m+1)=(m:Int):=by
  show(if fO q a m = -1 then(if q m=true/\a<=(m:Int)then(m:Int)else -1)else fO q a m)=_
  grind
 have:=Q8 (q:=q) (a:=a) (k:=m+1) J (n-(m+1))
 grind
def xn(n:Nat)(x:Nat->ay Int)(j:Nat):Int:=match(bp n x)[j]? with
 |some p=>(p.1:Int)
 |none=>-1
theorem ao6(n:Nat)(x:Nat->ay Int):fO (kk x) 0 n=xn n x 0:=by
 unfold xn;cases E:(bp n x)[0]? with
 |none =>
  refine JF λi aj g=>?_;unfold kk at g;cases D:x i with
  |none=>grind
  |some y =>
   have:=j6.2 ⟨aj,D⟩
   grind
 |some p =>
  obtain⟨I,D⟩:=wh   E;refine aeF I (by unfold kk;grind) J λi aj g=>?_;unfold kk at g;cases A:x i with
  |none=>grind
  |some y =>
   obtain⟨j,P,e⟩:=Ey (j6.2 ⟨show i<n by omega,A⟩);have B:(bp n x)[j]? = some (i,y):=aa
   rcases zz j with rfl|M
   ·grind
   ·have:=u1   E B M;omega
theorem as8{n:Nat}{x:Nat->ay Int}(M:(bp n x)[j]? = some p):fO (kk x) ((p.1:Int)+1) n=xn n x (j+1):=by
 unfold xn;have D:∀i,i<n->kk x i=true->(p.1:Int)+1<=(i:Int)->∃m y,j<m/\(bp n x)[m]? = some (i,y):=λi aj B A=>by
  unfold kk at B;cases I:x i with
  |none=>grind
  |some y =>
   obtain⟨m,P,e⟩:=Ey (j6.2 ⟨aj,I⟩);have g:(bp n x)[m]? = some (i,y):=aa
   refine⟨m,y,?_,g⟩;rcases zA m j with h|h|h
   ·have:=u1   g M h;omega
   all_goals grind
 cases E:(bp n x)[j+1]? with
 |none =>
  refine JF λi aj B A=>?_
  grind
 |some Z =>
  obtain⟨V,aX⟩:=wh   E;have:=u1     M E J;refine aeF V (by unfold kk;grind) J λi aj B A=>?_;obtain⟨m,y,P,g⟩:=D i J B A;rcases iI (j+1) m with h|h
  ·have:=u1   E g h;omega
  grind
def azI(n cf:Nat)(x:Nat->ay Int)(fw dp:X)(h:ae)(U:Nat):Prop:=u h cf=some (.cells [(n:X),fw,dp] false)/\dg h U fw kd (eT n (kk x))/\ep h U dp cY 1 (cx n (jX x))
theorem ao7{s:ao}{n:Nat}{x:Nat->ay Int}{fw dp:X}(bw:n<=63):
  HN s 479 [bb cf] (bp n x).length (λk=>[.int .i64 (((bp n x).getD k (0,0)).1:Int),.int .i64 ((bp n x).getD k (0,0)).2]) (azI n cf x fw dp):=by
 intro l I ab Y aj E aq cd;refine arx ?_;unfold adR;obtain⟨ch,au,V⟩:=aj _ _ _ aq;obtain⟨a9,cap,rfl,a5⟩:=id au;obtain⟨ad2,rv,rfl,og⟩:=id V;refine bf @ch ?_;refine(P6 bw au).mono ?_;rintro _ h1 bg ⟨rfl,dv,A⟩;rw[ao6];refine bF.mk (λm aJ ap bU=>∃j,m=(bp n x).length-j/\j<=(bp n x).length/\aJ=[.func (.yield l) ⟨[]⟩ ⟨[]⟩,bb cf,.int .i64 (xn n x j)]/\I j ap bU) (bp n x).length ⟨0,J,J,rfl,E _ _ _ _ _ aq dv A⟩ ?_;rintro _ _ ap bU ⟨j,rfl,cb,rfl,mD⟩;rw[ant];unfold Y7;obtain⟨g2,ls,M⟩:=aj _ _ _ mD;rcases iI j (bp n x).length with g|eZ
 ·obtain⟨p,P⟩:=dW g;obtain⟨hk,aX⟩:=wh   P;have hz:xn n x j=(p.1:Int):=by unfold xn;grind
  have rI:(bp n x).getD j (0,0)=p:=aa
  have S8:(cx n (jX x))[p.1]? = some p.2:=by unfold cx;rw[s5,Ex hk];unfold jX;grind
  obtain⟨b,aU,aO,bL,cs,mV,a1,aW,qM,Z⟩:=ep.ld1  M S8;cases aW;rw[hz];rw[i9]at *
  refine gX @g2 @qM @Z ?_;refine⟨λ_=>?_,λa5=>absurd a5 J⟩;have qX:=cd s j g ap bU mD;simp only[rI]at qX;refine qX.mono ?_;rintro _ aH b1 ⟨rfl,B,yV⟩;obtain⟨dz,hs3,aBg⟩:=aj _ _ _ B;refine cM @dz (cF (J:p.1<1000000000000)) ?_;refine(P6 bw hs3).mono ?_;rintro _ bh d9 ⟨rfl,g6,D⟩;exact⟨_,J,j+1,rfl,J,by rw[show((p.1+1:Nat):Int)=(p.1:Int)+1 by omega,as8 P],E _ _ _ _ _ B g6 D⟩
 ·have:j=(bp n x).length:=J
  subst this;have hz:xn n x (bp n x).length = -1:=by unfold xn;grind
  rw[hz];refine aE ?_;exact⟨λh=>absurd trivial h,mD⟩
theorem ao8{s:ao}{n:Nat}{v:X}{x:Nat->ay Int}{h:ae}{U:Nat}(aI:su h U v n x)(bw:n<=63):aD Q s 391 [v] h U (λr ab Y=>ln ab U Y r n x/\aA U h ab/\U<=Y):=by
 refine asD ?_;have hZ:=aI;obtain⟨fw,dp,rfl,au,Z⟩:=aI;obtain⟨a9,cap,rfl,a5⟩:=id au;obtain⟨P,g,rfl,og⟩:=id Z;have gT:=md n x;unfold aeq;refine aE ?_;refine(ao5 (hZ.F aF J) bw).mono ?_;rintro _ ap D ⟨rfl,B,I⟩;have ch:=(B U J).trans ((ar J).trans (aR _ _ _));have bP:=(B (U+1) J).trans (aR _ _ _);refine cM @ch @bP ?_;refine auT ?_;unfold afq;refine aE ?_;have T8:=ao7 (s:=s) (cf:=D+1) (x:=x) (fw:=.slice a9 (eT n (kk x)).length cap) (dp:=.slice P (cx n (jX x)).length g) bw;generalize f3:bp n x=L at *
 refine RL (λk A V=>∃w,u A D=some (.cells [(n:X),w] false)/\g1 w=true/\dX A w fN 2 (L.take k) (D+3) V/\u A (U+1)=some (.cells [.int .i64 0,.slice none 0 0] false)/\u A (D+1)=some (.cells [(n:X),.slice a9 (eT n (kk x)).length cap,.slice P (cx n (jX x)).length g] false)/\aA U h A/\D+3<=V) T8 ?_ ?_ ?_ ?_ ?_
 ·rintro k A V ⟨w,e,fh,E,aP,cy,hk,M⟩;exact⟨⟨cy,au.F hk J,Z.F hk J⟩,J⟩
 ·rintro k A V ap n2' ⟨w,e,fh,E,aP,cy,hk,M⟩ B I;exact⟨w,aa,fh,E.F aa I,aa,aa,aF,J⟩
 ·exact⟨.slice none 0 0,aa,rfl,.inl aa,aa,aa,λc a5=>by
   repeat rw[ar J]
   rw[B c J]
   repeat rw[ar J],J⟩
 ·rintro s k hk A V ⟨w,e,fh,E,aP,cy,hkp,M⟩ br;obtain⟨p,bn⟩:=dW hk;have rI:L.getD k (0,0)=p:=aa
  rw[rI];refine aow br ?_;unfold P4 ab9;generalize uT _ _ _ _ _ _ _ _ _ _ _=ak at *
  refine⟨none,br,?_⟩;refine bf @e ?_;refine me (k:=2) (al:=D+3) (λ_=>rfl) (λ_=>rfl) J (E.F aa J) J p (aR _ _ _) rfl aa λd7 b0 pU e7=>?_;have xE:u b0 (D+1+1)=some (.loop 1 none ak [13,14] uP uQ):=aa
  have ir:u b0 D=some (.cells [(n:X),w] false):=aa
  have hA:u b0 (U+1)=some (.cells [.int .i64 0,.slice none 0 0] false):=aa
  have gN:u b0 (D+1)=some (.cells [(n:X),.slice a9 (eT n (kk x)).length cap,.slice P (cx n (jX x)).length g] false):=aa
  have Vn:aA U h b0:=aF
  have cK:L.take (k+1)=L.take k++[p]:=by rw[hq,bn];rfl
  rcases pU with⟨aM,rfl⟩|⟨b,iB,fH,rfl,bd⟩
  ·simp at aM
  ·refine bf @ir ?_;refine⟨1,none,xE,⟨_,rfl,rfl,.inr ⟨b,iB,J,by rw[cK],?_⟩,hA,gN,(Vn.set J).set J,J⟩,J⟩
   grind
 ·rintro A V ⟨w,e,fh,E,aP,cy,hkp,M⟩;rw[hB]at E;obtain⟨_,_,rfl⟩:∃a c,w = .slice a L.length c:=by
   rcases E with⟨aW,rfl⟩|⟨b,_,_,rfl,_⟩
   all_goals grind
  refine cM @e @aP ?_;refine⟨⟨_,rfl,?_⟩,aF,J⟩;rw[f3];rcases E with⟨rfl,aW⟩|⟨b,iB,fH,aW,bd⟩
  ·exact⟨_,_,aW,λh=>absurd rfl h⟩
  ·exact⟨_,_,aW,λ_=>⟨b,some 2,false,J,fH,rfl,aa⟩⟩
theorem J2:∀(p:ac GE) (a:Nat),a∈d3 p↔∃g∈p,g.f=a:=by
 refine Cs (λa=>⟨λh=>(s6 h).elim,aa⟩) λp g A a=>⟨F0 _ a,?_⟩
 rintro⟨x,B,rfl⟩;rw[v9];unfold tn
 grind
theorem avE:∀(p:ac GE),k0 p->(d3 p).Pairwise (·<·):=by
 refine Cs (λ_=>List.Pairwise.nil) λp g V E=>?_;have bn:=V (q4.1 E).1;rw[v9];unfold tn
 split
 ·omega
 ·rename_i B
  refine q4.2 ⟨bn,aa,λa dy b Z=>?_⟩;rw[jl.1 Z];obtain⟨x,A,rfl⟩:=F0 p a dy;have I:=zX E x A;rcases I with I|I
  ·omega
  ·exfalso;rw[ZJ]at B;cases M:p.getLast? with
   |none=>grind
   |some y =>
    rw[M]at B;have ap:=zX E y aa;unfold m8 at ap;have cd:¬y.f=g.f:=aa
    obtain⟨q,P⟩:=IA.1 M;have D:=(q4.1 E).1;rw[P]at D A;rcases hs.1 A with A|A
    ·have:=zX D x A;unfold m8 at this;omega
    grind
theorem acr(A:a<=b)(h:∀g∈ag,¬(a<=g.f/\g.f<b)):dK ag b=dK ag a:=by
 unfold dK
 congr 1
 apply IM
 grind
theorem Ad(g:k0 ag){i:Nat}(aj:(d3 ag)[i]? = some a)(B:(d3 ag)[j]? = some b)(A:i<j):a<b:=by
 have h:=avE ag g;rw[xL]at h
 grind
theorem CG(g:(d3 ag)[m]? = some a):(g7 ag)[m]? = some (dK ag a:Int):=by
 unfold g7
 grind
theorem Qf(ag:ac GE):(g7 ag)[(d3 ag).length]? = some (ag.length:Int):=by
 unfold g7
 grind
theorem as9(h:∀g∈ag,g.f<a):dK ag a=ag.length:=by unfold dK;rw[zx.2 aa]
theorem JG(I:k0 ag)(D:(d3 ag)[m]? = some a):(g7 ag)[m+1]? = some (dK ag (a+1):Int):=by
 have V:=(g0.1 D).1;have M:∀g∈ag,a<g.f->∃j,m<j/\(d3 ag)[j]? = some g.f:=λg E Z=>by
  obtain⟨j,cb,e⟩:=Ey ((J2 ag g.f).2 ⟨g,E,rfl⟩);have A:(d3 ag)[j]? = some g.f:=aa
  refine⟨j,?_,A⟩;rcases zA m j with h|h|h
  ·exact h
  ·grind
  ·have:=Ad I A D h;omega
 rcases iI (m+1) (d3 ag).length with h|h
 ·have B:(d3 ag)[m+1]? = some (d3 ag)[m+1]:=aa
  generalize (d3 ag)[m+1]=b at B;have DV:=Ad I D B J;rw[CG B,acr (a:=a+1) J];rintro g E ⟨h1,ap⟩;obtain⟨j,cb,e⟩:=M g E J;rcases iI (m+1) j with P|P
  ·have:=Ad I B e P;omega
  grind
 ·have:m+1=(d3 ag).length:=J
  rw[this,Qf,as9]
  grind
theorem ata(A:a∈d3 ag):dK ag a<dK ag (a+1):=by
 obtain⟨g,B,rfl⟩:=F0 ag a A;rw[ZF];have:0<hK ag (g.f+1):=by
  apply Ez.2;intro e;have this:g∈(ag.filter λx=>decide (x.f+1=g.f+1)):=aa
  grind
 omega
theorem axU(I:k0 ag):(g7 ag)[0]? = some 0:=by
 cases h:(d3 ag)[0]? with
 |some a =>
  rw[CG h,show dK ag a=dK ag 0 from acr (by omega) ?_,KF];rfl;rintro g E ⟨_,M⟩;obtain⟨j,P,e⟩:=Ey ((J2 ag g.f).2 ⟨g,E,rfl⟩);have A:(d3 ag)[j]? = some g.f:=aa
  rcases zz j with rfl|D
  ·grind
  ·have:=Ad I h A D;omega
 |none =>
  have e:(d3 ag).length=0:=aa
  have B:=Qf ag;rw[e]at B;rw[B];have:ag=[]:=by
   cases ag with
   |nil=>rfl
   |cons x l =>
    have:=(J2 (x::l) x.f).2 ⟨x,aa,rfl⟩
    grind
  grind
theorem avF(E:k0 ag){x y:Int}(B:(g7 ag)[m]? = some x)(A:(g7 ag)[m+1]? = some y):x<y:=by
 have D:=(g0.1 A).1;rw[yc]at D;have g:(d3 ag)[m]? = some (d3 ag)[m]:=aa
 generalize (d3 ag)[m]'J=a at g;rw[CG g]at B;rw[JG E g]at A;cases B;cases A;have:=ata (k1 g);omega
theorem axV{x:Int}(g:(g7 ag)[m]? = some x):0<=x/\x<=ag.length:=by
 have:=k1 g;rcases hs.1 this with h|h
 ·obtain⟨a,_,rfl⟩:=gO.1 h;have:=u0 ag a;omega
 grind
theorem ep.i{h:ae}{U:Nat}{v:X}{l:ac Int}(H:ep h U v cY 1 l):sQ h U v l:=by
 obtain⟨a,cap,e,M⟩:=id H;refine⟨a,cap,e,λg=>?_⟩;obtain⟨b,o,aO,bL,cs,D,B,E,h1,ap⟩:=M g;refine⟨b,o,aO,bL,cs,D,B,E,λi x aX=>?_⟩;obtain⟨cr,aU,P,V,I,A,_,cy,Z,lS⟩:=ep.ld1  H aX
 grind
theorem NQ{s:ao}{n m:Int}{h:ae}{U:Nat}:aD Q s 492 [(n:X),(m:X)] h U (fs (.bool (decide (0<=n/\n<=m))) U h):=by
 refine alj ?_;unfold ZW;refine aE ?_;refine⟨λA=>?_,λA=>?_⟩
 ·by_cases g:m<n
  ·rw[hf g,ht J];exact⟨rfl,rfl,rfl⟩
  ·rw[ht g,hf J];exact⟨rfl,rfl,rfl⟩
 ·rw[ht J];exact⟨rfl,rfl,rfl⟩
theorem NR{s:ao}{l:ac Int}{v:X}{B:Int}{h:ae}{U:Nat}(aI:ep h U v cY 1 l)(br:l.length<1000000)(er:0<=B/\B<1000000000)(a1:∀(i:Nat) x,l[i]? = some x->0<=x/\x<B)(ba:∀(i:Nat) x y,l[i]? = some x->l[i+1]? = some y->x<y):
  aD Q s 493 [v,(B:X)] h U (fs (.bool true) U h):=by
 refine alk ?_;unfold ZX;obtain⟨M,cap,rfl,a5⟩:=id aI;refine aE ?_;refine bF.mk (λm aJ ab Y=>∃i,m=l.length-i/\i<=l.length/\aJ=[.slice M l.length cap,(B:X),.bool false,.slice M l.length cap,(l.length:X),(i:X)]/\ab=h/\Y=U) l.length ⟨0,J,J,rfl,rfl,rfl⟩ ?_;rintro _ _ ap bU ⟨i,rfl,aj,rfl,gB,e1⟩;rw[ajg,gB,e1];unfold WT;refine aE ?_;refine⟨λcS=>?_,λeZ=>⟨rfl,rfl,rfl⟩⟩;obtain⟨x,I⟩:=dW   J;obtain⟨_,_,aW,mD⟩:=aI.i;cases aW;obtain⟨b,aU,aO,bL,cs,h4,rfl,P,A⟩:=mD aa;have D:=A i x I;have hbx:=a1 i x I;have fh:IntKind.wrap .i64 (B-1)=B-1:=by rw[oS];omega
 have fin:∀a,∃V,V<l.length-i/\∃g,V=l.length-g/\g<=l.length/\[Value.slice a l.length cap,Value.int .i64 B,Value.bool false,Value.slice a l.length cap,Value.int .i64 (l.length:Int),Value.int .i64 (IntKind.wrap .i64 ((i:Int)+1))]=[Value.slice a l.length cap,Value.int .i64 B,Value.bool false,Value.slice a l.length cap,Value.int .i64 (l.length:Int),Value.int .i64 (g:Int)]:=λa=>⟨_,J,i+1,rfl,J,by rw[cF J]⟩
 refine gX @P @D @fh ?_;refine NQ.mono ?_;rintro _ _ _ ⟨rfl,rfl,rfl⟩;rw[hf (J:0<=x/\x<=B-1)];refine aE ?_;refine⟨λbn=>?_,λ_=>fin _⟩;obtain⟨k,rfl⟩:∃k,i=k+1:=⟨i-1,J⟩
 obtain⟨y,cd⟩:=dW (l:=l) (i:=k) J;have E:=A k y cd;have Z:=ba k y x cd I;have cz:IntKind.wrap .i64 (((k+1:Nat):Int)-1)=(k:Int):=by rw[oS];omega
 rw[cz];refine cM @P @E ?_;exact⟨λh=>absurd h J,λ_=>fin _⟩
def mX(h:ae)(U:Nat)(v:X)(r c:Nat)(ag:ac GE):Prop :=
 ∃v1 v2 v3 v4,v = .agg ⟨[(r:X),(c:X),v1,v2,v3,v4]⟩/\ep h U v1 cY 1 (gR ag)/\ep h U v2 cY 1 (g7 ag)/\iR h 0 U v3 cY 1 (ft ag)/\ep h U v4 cY 1 (gI ag)
theorem mX.F{h ab:ae}{U Y:Nat}{v:X}{r c:Nat}{ag:ac GE}(H:mX h U v r c ag)(A:aA U h ab)(g:U<=Y):mX ab Y v r c ag:=by obtain⟨M,E,V,P,e,Z,D,aH,I⟩:=H;exact⟨M,E,V,P,e,Z.F A g,D.F A g,aH.F (λb _ B=>A b B) J g,I.F A g⟩
theorem oc.o{h:ae}{al aj:Nat}{v:X}{l:ac Int}(H:oc h al aj v l):ep h aj v cY 1 l:=by
 obtain⟨D,g,B⟩:=H;rcases g with⟨rfl,rfl,rfl⟩|⟨b,rfl,rfl,A⟩
 ·exact ep.nil
 ·exact dg.o (λ_=>rfl) ⟨_,_,rfl,λ_=>⟨b,_,_,aa,rfl,A⟩⟩
theorem oc.f{h:ae}{al aj:Nat}{v:X}{l:ac Int}(H:oc h al aj v l):iR h 0 aj v cY 1 l:=by
 obtain⟨D,g,B⟩:=H;rcases g with⟨rfl,rfl,rfl⟩|⟨b,rfl,rfl,A⟩
 ·exact .inl aa
 ·exact .inr ⟨b,J,aa,rfl,A⟩
theorem ym.s{h:ae}{al aj:Nat}{v:X}{c:Nat}(H:ym h al aj v r c ag):mX h aj v r c ag:=by obtain⟨E,Z,M,I,e,P,⟨b,aO,rfl,D,g,A⟩,V,B⟩:=H;refine⟨E,_,M,I,e,P.o,dg.o (λ_=>rfl) ⟨some ⟨b,0,aO⟩,_,rfl,λ_=>⟨b,aO,false,g,rfl,?_⟩⟩,V.f,B.o⟩;rw[A,jm]
theorem ao9(h:k0 ag)(a:Nat):((ft ag).drop (dK ag a)).take (dK ag (a+1)-dK ag a)=(eQ ag a).map λg=>(g.t:Int):=by unfold ft;rw[<-EK,<-EL,Cq h]
theorem Ct{g:GE}(h:g∈eQ ag a):g∈ag/\g.f=a:=by
 unfold eQ at h
 grind
theorem X4{s:ao}{c:Nat}{v:X}{h:ae}{U:Nat}(M:hj c r ag)(aI:mX h U v r c ag):aD Q s 477 [v] h U (c9 (.bool true) U h):=by
 refine aoS ?_;obtain⟨v1,v2,v3,v4,rfl,h1,ap,aH,bh⟩:=aI;obtain⟨az,c1,rfl,_⟩:=id h1;obtain⟨a2,c2,rfl,_⟩:=id ap;obtain⟨V,cm,rfl⟩:=aH.form;obtain⟨aZ,gd,rfl,_⟩:=id bh;have ba:=M.ba;have a5:=M.a5;have br:=M.len;have bH:∀{o},aA U h (T h U o):=aF
 have dU:(gR ag).length=(d3 ag).length:=F2 ag;have dL:(g7 ag).length=(d3 ag).length+1:=yc ag;have jC:(ft ag).length=ag.length:=by unfold ft;grind
 have kL:(gI ag).length=ag.length:=by unfold gI;grind
 have ze:=F1 ag;unfold acj;rw[dU,dL,jC,kL];have l6:u (T h U (.cells [(r:X),(c:X),.slice az (d3 ag).length c1,.slice a2 ((d3 ag).length+1) c2,.slice V ag.length cm,.slice aZ ag.length gd] false)) U=some (.cells [(r:X),(c:X),.slice az (d3 ag).length c1,.slice a2 ((d3 ag).length+1) c2,.slice V ag.length cm,.slice aZ ag.length gd] false):=aa
 have oZ:=h1.F (bH (o:=.cells [(r:X),(c:X),.slice az (d3 ag).length c1,.slice a2 ((d3 ag).length+1) c2,.slice V ag.length cm,.slice aZ ag.length gd] false)) (Y:=U+1) J;have P:=ap.F (bH (o:=.cells [(r:X),(c:X),.slice az (d3 ag).length c1,.slice a2 ((d3 ag).length+1) c2,.slice V ag.length cm,.slice aZ ag.length gd] false)) (Y:=U+1) J;have Z:=aH.F (λb _ a1=>bH (o:=.cells [(r:X),(c:X),.slice az (d3 ag).length c1,.slice a2 ((d3 ag).length+1) c2,.slice V ag.length cm,.slice aZ ag.length gd] false) b a1) (cR _) (dB:=U+1) J;rw[dU]at oZ;rw[dL]at P;rw[jC]at Z;have BH:=bH (o:=.cells [(r:X),(c:X),.slice az (d3 ag).length c1,.slice a2 ((d3 ag).length+1) c2,.slice V ag.length cm,.slice aZ ag.length gd] false);refine aE ?_;generalize T h U (.cells [(r:X),(c:X),.slice az (d3 ag).length c1,.slice a2 ((d3 ag).length+1) c2,.slice V ag.length cm,.slice aZ ag.length gd] false)=H at *
 refine NQ.mono ?_;rintro _ _ _ ⟨rfl,E,I⟩;rw[E,I,hf (J:0<=(r:Int)/\(r:Int)<=4096)];refine bf @l6 ?_;refine NQ.mono ?_;rintro _ _ _ ⟨rfl,E,I⟩;rw[E,I,hf (J:0<=(c:Int)/\(c:Int)<=4096)];refine cM @l6 (cF (J:(d3 ag).length<1000000000000)) ?_;have gx:∀x:Int,(x == x)=true:=aa
 have jK:decide (65536<(ag.length:Int))=false:=aa
 simp only[gx,jK];refine⟨λh=>absurd h (by decide),λ_=>⟨λh=>absurd h (by decide),λ_=>?_⟩⟩;have Vo:∀(i:Nat) x,(gR ag)[i]? = some x->∃a:Nat,(d3 ag)[i]? = some a/\x=(a:Int):=λi x D=>by
  unfold gR at D
  grind
 unfold B6;refine bf @l6 ?_;have h1r:=NR (s:=s) (B:=(c:Int)) (by rw[<-dU]at oZ;exact oZ) J J (λi x D=>by obtain⟨a,aW,rfl⟩:=Vo i x D;obtain⟨g,bd,rfl⟩:=F0 ag a aa;have:=M.rows g bd;omega) (λi x y D cd=>by obtain⟨a,aW,rfl⟩:=Vo i x D;obtain⟨b,aP,rfl⟩:=Vo _ y cd;have:=Ad M.up aW aP J;omega)
 rw[dU]at h1r;refine h1r.mono ?_;rintro _ _ _ ⟨rfl,E,I⟩;rw[E,I];refine cM @l6 (cF (J:ag.length<1000000000000)) ?_;have h2r:=NR (s:=s) (B:=((ag.length+1:Nat):Int)) (by rw[<-dL]at P;exact P) J J (λi x D=>by have:=axV D;omega) (λi x y D cd=>avF M.up D cd)
 rw[dL]at h2r;refine h2r.mono ?_;rintro _ _ _ ⟨rfl,E,I⟩;rw[E,I];have h2i:=P;rw[<-dL]at h2i;obtain⟨_,_,aP,Bd⟩:=h2i.i;rw[dL]at aP;cases aP;obtain⟨b2,dQ,mr,w6,xd,fH,rfl,kh,A⟩:=Bd aa;have pf:=A 0 _ (axU M.up);rw[mM]at pf;have i5:=A _ _ (Qf ag);refine u4 @l6 @kh @pf @i5 @gx ?_;unfold Ff;refine bf @l6 ?_;refine bF.mk (λm aJ ab Y=>∃i,m=(d3 ag).length-i/\i<=(d3 ag).length/\aJ=[bb U,.bool false,.int .i64 ((d3 ag).length:Int),(i:X)]/\ab=H/\Y=U+1) (d3 ag).length ⟨0,J,J,rfl,rfl,rfl⟩ ?_;rintro _ _ b0 eN ⟨i,rfl,aj,rfl,E,I⟩;rw[ali,E,I];unfold XY;refine aE ?_;refine⟨λcS=>?_,λeZ=>⟨rfl,BH,J⟩⟩;obtain⟨a,dy⟩:=dW   J;have cA:=A _ _ (CG dy);have b8:=A _ _ (JG M.up dy);refine u4 @l6 @kh @cA @b8 (cF (J:i<1000000000000)) ?_;rw[<-jC]at Z;obtain⟨w,fh,bV⟩:=iR.cut  (k:=1) (λ_=>rfl) J Z (i:=dK ag a) (j:=dK ag (a+1)) (zP ag J) (by rw[jC];exact u0 ag _);rw[jC]at fh;rw[fh];rw[ao9 M.up]at bV;have hlr:((eQ ag a).map λg=>(g.t:Int)).length<=120:=by
  rw[gW];unfold eQ
  grind
 refine aE ?_;refine(NR  bV J J (λi x D=>?_) (λi x y D cd=>?_)).mono ?_
 ·obtain⟨g,bd,rfl⟩:=gO.1 (k1 D);have:=M.mj g (Ct bd).1;omega
 ·rw[s5]at D cd;obtain⟨g,aW,rfl⟩:=ma.1 D;obtain⟨cG,aP,rfl⟩:=ma.1 cd;have bn:=PZ M.up a;rw[xL]at bn
  grind
 rintro _ _ _ ⟨rfl,E,I⟩;rw[E,I];refine⟨J,?_⟩;refine aE ?_;exact⟨_,J,i+1,rfl,J,rfl⟩
theorem Z5{s:ao}{c:Nat}{v:X}{h:ae}{U:Nat}(M:hj c r ag)(P:mX h U v r c ag):aD Q s 448 [v] h U (c9 v U h):=by
 refine asY ?_;have A:=P;obtain⟨v1,v2,v3,v4,rfl,E,Z,aH,V⟩:=P;obtain⟨az,c1,rfl,_⟩:=id E;obtain⟨a2,c2,rfl,_⟩:=id Z;obtain⟨a3,cm,rfl⟩:=aH.form;obtain⟨aZ,gd,rfl,_⟩:=id V;have bH:∀{o aU},aA U h (T (T h U o) (U+1) aU):=aF
 unfold aez;refine aE ?_;refine(X4 M (A.F  bH J)).mono ?_;rintro _ E bg ⟨rfl,g,B⟩;have I:=g U J;rw[ar J,aR]at I;have D:=g (U+1) J;rw[aR]at D;refine cM @I @D ?_;exact⟨rfl,aF,J⟩
theorem azJ{n:Nat}(h:n<1000000000000):bin Q .quo 3 (n:X) (.int .i64 2) = .ok (((n / 2:Nat):X)):=by rw[Ck (by decide),show((n:Int)).tdiv 2=((n / 2:Nat):Int)from rfl,show IntKind.wrap .i64 ((n / 2:Nat):Int)=((n / 2:Nat):Int) by rw[oS];omega]
def plC(ag:ac GE)(k:Nat)(r:Int):Prop:=(∃m:Nat,(d3 ag)[m]? = some k/\r=(m:Int))\/(k ∉ d3 ag/\r = -1)
theorem X5{s:ao}{c k:Nat}{v:X}{h:ae}{U:Nat}(M:hj c r ag)(aI:mX h U v r c ag):aD Q s 449 [v,(k:X)] h U (λw ab Y=>(∃x,w = .int .i64 x/\plC ag k x)/\aA U h ab/\U<=Y):=by
 refine aoQ ?_;obtain⟨v1,v2,v3,v4,rfl,h1,ap,aH,bh⟩:=aI;obtain⟨D,A,rfl,_⟩:=id h1;obtain⟨a2,c2,rfl,_⟩:=id ap;obtain⟨g,cm,rfl⟩:=aH.form;obtain⟨aZ,E,rfl,_⟩:=id bh;have br:=M.len;have ze:=F1 ag;have dU:(gR ag).length=(d3 ag).length:=F2 ag;have bH:∀{o},aA U h (T h U o):=aF
 unfold ach;have Z:=h1.F (bH (o:=.cells [(r:X),(c:X),.slice D (gR ag).length A,.slice a2 (g7 ag).length c2,.slice g (ft ag).length cm,.slice aZ (gI ag).length E] false)) (Y:=U+1) J;have l6:u (T h U (.cells [(r:X),(c:X),.slice D (gR ag).length A,.slice a2 (g7 ag).length c2,.slice g (ft ag).length cm,.slice aZ (gI ag).length E] false)) U=some (.cells [(r:X),(c:X),.slice D (gR ag).length A,.slice a2 (g7 ag).length c2,.slice g (ft ag).length cm,.slice aZ (gI ag).length E] false):=aa
 have BH:=bH (o:=.cells [(r:X),(c:X),.slice D (gR ag).length A,.slice a2 (g7 ag).length c2,.slice g (ft ag).length cm,.slice aZ (gI ag).length E] false);refine aE ?_;generalize T h U (.cells [(r:X),(c:X),.slice D (gR ag).length A,.slice a2 (g7 ag).length c2,.slice g (ft ag).length cm,.slice aZ (gI ag).length E] false)=H at *
 rw[dU];refine bF.mk (λm aJ ab Y=>∃al aj:Nat,m=aj-al/\al<=aj/\aj<=(d3 ag).length/\aJ=[(k:X),bb U,(al:X),(aj:X)]/\(∀i a,(d3 ag)[i]? = some a->i<al->a<k)/\(∀i a,(d3 ag)[i]? = some a->aj<=i->k<a)/\ab=H/\Y=U+1) (d3 ag).length ⟨0,(d3 ag).length,J,J,J,rfl,J,aa,rfl,rfl⟩ ?_;rintro _ _ b0 eN ⟨al,aj,rfl,hlh,I,rfl,h0,er,gB,e1⟩;rw[alg,gB,e1];unfold XX;refine aE ?_;refine⟨λcS=>?_,λeZ=>?_⟩
 ·obtain⟨x,aX⟩:=dW (l:=d3 ag) (i:=al+(aj-al) / 2) J;have V:(gR ag)[al+(aj-al) / 2]? = some (x:Int):=by unfold gR;grind
  obtain⟨_,_,aP,Bd⟩:=Z.i;rw[dU]at aP;cases aP;obtain⟨b2,dQ,mr,w6,xd,fH,rfl,P,B⟩:=Bd aa;have cA:=B _ _ V;have aW:IntKind.wrap .i64 ((aj:Int)-(al:Int))=((aj-al:Nat):Int):=by rw[oS];omega
  have cy:IntKind.wrap .i64 ((al:Int)+(((aj-al) / 2:Nat):Int))=((al+(aj-al) / 2:Nat):Int):=by rw[oS];omega
  simp(disch:=omega)only[bk,aW,azJ (J:aj-al<1000000000000),cy,l6,P,cA,seval];refine⟨λyX=>?_,λfk=>?_⟩
  ·have hxk:x=k:=aa
   subst hxk;exact⟨λ_=>⟨⟨_,rfl,.inl ⟨_,aX,rfl⟩⟩,BH,J⟩,λh=>absurd J h⟩
  ·refine⟨λbr=>?_,λbr=>?_⟩
   ·rw[cF J];refine⟨_,?_,al+(aj-al) / 2+1,aj,rfl,J,I,rfl,λi a dy dB=>?_,er⟩
    ·omega
    ·rcases iI i (al+(aj-al) / 2)with h|h
     ·have:=Ad M.up dy aX h;omega
     grind
   ·refine⟨_,?_,al,al+(aj-al) / 2,rfl,J,J,rfl,h0,λi a dy dB=>?_⟩
    ·omega
    ·rcases iI (al+(aj-al) / 2) i with h|h
     ·have:=Ad M.up aX dy h;omega
     grind
 ·have:al=aj:=J
  subst this;refine⟨λh=>absurd h J,λ_=>?_⟩;refine⟨⟨_,rfl,.inr ⟨λhk=>?_,rfl⟩⟩,BH,J⟩;obtain⟨i,dB,e⟩:=Ey hk;have hi2:(d3 ag)[i]? = some k:=aa
  grind
def mm(ag:ac GE)(k:Nat):ac (Nat × Int):=(eQ ag k).map λg=>(g.t,g.w)
def azK(r c:Nat)(ag:ac GE)(m cf cW:Nat)(v1 v2 v3 v4:X)(h:ae)(U:Nat):Prop:=u h cf=some (.cells [(r:X),(c:X),v1,v2,v3,v4] false)/\u h cW=some (.cells [(m:X)] false)/\ep h U v2 cY 1 (g7 ag)/\ep h U v3 cY 1 (ft ag)/\ep h U v4 cY 1 (gI ag)
theorem ajl{s:ao}{c k:Nat}{v1 v2 v3 v4:X}(M:hj c r ag)(bx:(d3 ag)[m]? = some k):
  HN s 496 [bb cf,bb cW] (mm ag k).length (λj=>[.agg ⟨fN ((mm ag k).getD j (0,0))⟩]) (azK r c ag m cf cW v1 v2 v3 v4):=by
 intro l I ab Y aj ij aq cd;have br:=M.len;have ze:=F1 ag;have xb:=(g0.1 bx).1;refine alm ?_;unfold ZY;obtain⟨bP,dO,nk,kZ,xH⟩:=aj _ _ _ aq;obtain⟨a2,c2,rfl,E⟩:=nk.i;obtain⟨b2,dQ,mr,w6,xd,fH,rfl,kh,P⟩:=E (by intro e;have:=yc ag;grind);have cA:=P _ _ (CG bx);have t8:m<(g7 ag).length:=by rw[yc];omega
 refine ll @bP @dO @kh @cA ?_;have lf:(mm ag k).length=dK ag (k+1)-dK ag k:=by unfold mm;rw[gW,Fx M.up]
 have dx:=u0 ag (k+1);refine bF.mk (λq aJ ap bU=>∃j,q=(mm ag k).length-j/\j<=(mm ag k).length/\aJ=[.func (.yield l) ⟨[]⟩ ⟨[]⟩,bb cf,bb cW,((dK ag k+j:Nat):X)]/\I j ap bU) (mm ag k).length ⟨0,J,J,rfl,aq⟩ ?_;rintro _ _ ap bU ⟨j,rfl,cb,rfl,mD⟩;obtain⟨bP,dO,nk,kZ,xH⟩:=aj _ _ _ mD;obtain⟨_,_,aW,E⟩:=nk.i;cases aW;obtain⟨TV,o2',aBh,aBi,aBj,aBk,aP,azL,B⟩:=E aa;cases aP;have b8:=B _ _ (JG M.up bx);have aBl:m+1<(g7 ag).length:=by rw[yc];omega
 rw[ajh];unfold WU;refine u4 @bP @dO @azL @b8 (cF (J:m<1000000000000)) ?_;refine⟨λA=>?_,λeZ=>?_⟩
 ·have A:j<(eQ ag k).length:=by rw[Fx M.up];omega
  obtain⟨g,bd⟩:=dW   A;have y5:ag[dK ag k+j]? = some g:=by rw[<-OZ M.up A];omega
  have fe:(ft ag)[dK ag k+j]? = some (g.t:Int):=by unfold ft;grind
  have jM:(gI ag)[dK ag k+j]? = some g.w:=by unfold gI;grind
  obtain⟨a3,cm,rfl,D⟩:=kZ.i;obtain⟨aZ,gd,rfl,hI4⟩:=xH.i;obtain⟨d2,gu,sp3,HE,Bb,pR,rfl,sG,V⟩:=D aa;obtain⟨fJ,l2,sp4,ro4,cs4,hb4,rfl,HO,Z⟩:=hI4 aa;have z3:=V _ _ fe;have z4:=Z _ _ jM;have hb:=(g0.1 fe).1;have mF:=(g0.1 jM).1;have rI:(mm ag k).getD j (0,0)=(g.t,g.w):=by unfold mm;grind
  have qX:=cd true j J ap bU mD;simp only[rI]at qX;refine u4 @bP @sG @z3 @HO @z4 ?_;refine qX.mono ?_;rintro _ aH b1 ⟨rfl,D,yV⟩;refine⟨yV,?_⟩;refine bf (cF (J:dK ag k+j<1000000000000)) ?_;exact⟨_,J,j+1,rfl,J,aa,D⟩
 ·have:j=(mm ag k).length:=J
  subst this;exact mD
theorem ajm{s:ao}{c k:Nat}{v:X}{h:ae}{U:Nat}(M:hj c r ag)(aI:mX h U v r c ag):aD Q s 454 [v,(k:X)] h U (λw ab Y=>eY ab U Y w fN (mm ag k)/\aA U h ab/\U<=Y):=by
 refine alh ?_;have A:=aI;obtain⟨v1,v2,v3,v4,rfl,h1,ap,aH,bh⟩:=aI;obtain⟨az,c1,rfl,_⟩:=id h1;obtain⟨a2,c2,rfl,_⟩:=id ap;obtain⟨V,cm,rfl⟩:=aH.form;obtain⟨aZ,gd,rfl,_⟩:=id bh;have br:=M.len;have bH:∀{o},aA U h (T h U o):=aF
 unfold ZV;refine aE ?_;refine(Z5 M (A.F  bH J)).mono ?_;rintro _ aW bg ⟨rfl,D,fa⟩;have ch:=(D U J).trans (aR _ _ _);refine bf @ch ?_;have cI:=(bH.trans D J).set (o:=.cells [(r:X),(c:X),.slice az (gR ag).length c1,.slice a2 (g7 ag).length c2,.slice V (ft ag).length cm,.slice aZ (gI ag).length gd] false) (cR _);refine(X5  M (A.F  cI J)).mono ?_;rintro _ aP bU ⟨⟨x,rfl,aX⟩,B,fx⟩;have g2:=(B U J).trans (aR _ _ _);have ey:=cI.trans B J;rcases aX with⟨m,bx,rfl⟩|⟨E,rfl⟩
 ·refine bf @g2 ?_;refine⟨λh=>absurd h J,λ_=>?_⟩;refine aoT ?_;unfold ack;refine aE ?_;refine ait ?_;have lf:(mm ag k).length<=120:=by
   unfold mm eQ
   grind
  refine(aly  J (ajl   (v1:=.slice az (gR ag).length c1) (v2:=.slice a2 (g7 ag).length c2) (v3:=.slice V (ft ag).length cm) (v4:=.slice aZ (gI ag).length gd) M bx) λP n1' E dx=>?_).mono ?_
  ·have I:aA U h P:=aF
   refine⟨(E bU J).trans ?_,(E (bU+1) J).trans aa,ap.F I J,ep.F (dg.o (λ_=>rfl) aH.gC.rd) I J,bh.F I J⟩
   grind
  ·rintro w cy b1 ⟨bV,f1,gg⟩;exact⟨bV.F aa J J,aF,J⟩
 ·refine aE ?_;have:mm ag k=[]:=by
   cases a5:eQ ag k with
   |nil=>unfold mm;grind
   |cons g l =>
    have Z:g∈eQ ag k:=aa
    exact absurd ((J2 ag k).2 ⟨g,(Ct Z).1,(Ct Z).2⟩) E
  rw[this];exact⟨⟨⟨none,0,rfl,λh=>absurd rfl h⟩,ey,J⟩,λh=>absurd trivial h⟩
theorem apa{s:ao}{c:Nat}{v:X}{L:ac Nat}{h:ae}{U:Nat}(M:hj c r ag)(aI:mX h U v r c ag)(bV:ep h U w cY 1 (f9 L))(f3:L.length<1000000):aD Q s 390 [v,w] h U (λaS ab Y=>(∃y,aS = .int .i64 y)/\aA U h ab/\U<=Y):=by
 refine asT ?_;have B:=aI;obtain⟨v1,v2,v3,v4,rfl,h1,ap,aH,bh⟩:=aI;obtain⟨az,c1,rfl,_⟩:=id h1;obtain⟨a2,c2,rfl,_⟩:=id ap;obtain⟨a3,cm,rfl⟩:=aH.form;obtain⟨aZ,gd,rfl,_⟩:=id bh;obtain⟨bI,p9,rfl,Z⟩:=bV.i;have br:=M.len;have ze:=F1 ag;have aC3:(f9 L).length=L.length:=by unfold f9;grind
 have bH:∀{o},aA U h (T h U o):=aF
 unfold aeu;rw[aC3];refine aE ?_;refine(Z5 M (B.F  bH J)).mono ?_;rintro _ aW bg ⟨rfl,E,fa⟩;have ch:=(E U J).trans (aR _ _ _);have cI:=(bH.trans E J).set (o:=.cells [(r:X),(c:X),.slice az (gR ag).length c1,.slice a2 (g7 ag).length c2,.slice a3 (ft ag).length cm,.slice aZ (gI ag).length gd] false) (cR _);refine bf @ch ?_;refine bF.mk (λm aJ ab Y=>∃i y,m=L.length-i/\i<=L.length/\aJ=[bb U,.int .i64 y,.slice bI L.length p9,(L.length:X),(i:X)]/\u ab U=some (.cells [(r:X),(c:X),.slice az (gR ag).length c1,.slice a2 (g7 ag).length c2,.slice a3 (ft ag).length cm,.slice aZ (gI ag).length gd] false)/\aA U h ab/\U+1<=Y) L.length ⟨0,0,J,J,rfl,aa,cI,J⟩ ?_;rintro _ _ aP bU ⟨i,y,rfl,aj,rfl,g2,V,fx⟩;rw[aoN];unfold ZS;refine aE ?_;refine⟨λcS=>?_,λeZ=>⟨⟨_,rfl⟩,V,J⟩⟩;obtain⟨k,hk⟩:=dW   J;have tQ:(f9 L)[i]? = some (k:Int):=by unfold f9;grind
 obtain⟨gl,vE,sp5,ro5,cs5,DZ,rfl,t9,P⟩:=Z aa;have s1:=P _ _ tQ;have D:=(V gl DZ).trans t9;refine gX @D @s1 @g2 ?_;refine(X5  M (B.F  V J)).mono ?_;rintro _ cy b1 ⟨⟨x,rfl,aX⟩,A,gg⟩;have dz:=(A U J).trans g2;have fr:=V.trans A J;rcases aX with⟨m,bx,rfl⟩|⟨hk,rfl⟩
 ·have xb:=(g0.1 bx).1;obtain⟨_,_,BG,Bd⟩:=ap.i;cases BG;obtain⟨b2,dQ,mr,w6,xd,fH,rfl,kh,g⟩:=Bd (by intro e;have:=yc ag;grind);have cA:=g _ _ (CG bx);have b8:=g _ _ (JG M.up bx);have t8:m+1<(g7 ag).length:=by rw[yc];omega
  have I:=(fr b2 fH).trans kh;refine Ah @dz @I @cA @b8 (cF (J:m<1000000000000)) (cF (J:i<1000000000000)) ?_;refine⟨λ_=>?_,λh=>absurd h J⟩;exact⟨_,J,i+1,_,rfl,J,rfl,fr,J⟩
 ·refine bf (cF (J:i<1000000000000)) ?_;exact⟨λh=>absurd trivial h,_,J,i+1,_,rfl,J,rfl,dz,fr,J⟩
theorem alz{s:ao}{c:Nat}{v:X}{h:ae}{U:Nat}(M:hj r c ag)(D:kw h U v r c ag):aD Q s 322 [v] h U (λg ab Y=>g = (ag.length:X)/\aA U h ab/\U<=Y):=by
 refine aoL ?_;have A:=D;obtain⟨b,aO,cap,v2,v3,rfl,a1,bd,I,Z⟩:=D;obtain⟨a2,c2,rfl⟩:=I.form;obtain⟨a3,cm,rfl⟩:=Z.form;have V:∀{o},aA U h (T h U o):=aF
 have E:(ft ag).length=ag.length:=by unfold ft;grind
 unfold acf;refine aE ?_;refine(Fy M (A.F  V J)).mono ?_;rintro _ aW bg ⟨rfl,P,B⟩;refine bf @E ?_;exact aF
theorem apb{s:ao}{c n:Nat}{v:X}{x:Nat->ay Int}{h:ae}{U:Nat}(M:hj r c ag)(aI:kw h U v r c ag)(bV:su h U w n x)(bw:n<=63):aD Q s 455 [v,w] h U (c9 (.tuple ⟨[v,w]⟩) U h):=by
 refine arv ?_;have Z:=aI;have V:=bV;obtain⟨b,aO,cap,v2,v3,rfl,a1,bd,qb,pc⟩:=aI;obtain⟨a2,c2,rfl⟩:=qb.form;obtain⟨a3,cm,rfl⟩:=pc.form;obtain⟨fw,dp,rfl,au,B⟩:=bV;obtain⟨_,_,rfl,_⟩:=id au;obtain⟨_,_,rfl,_⟩:=id B;have bH:∀{o aU kD azM},aA U h (T (T (T (T h U o) (U+1) aU) (U+1+1) kD) (U+1+1+1) azM):=aF
 unfold adQ;refine aE ?_;refine(Ji M (Z.F  bH J)).mono ?_;rintro _ aW bg ⟨rfl,g,fa⟩;have ch:=g U J;rw[ar J,ar J,ar J,aR]at ch;have E:=g (U+1) J;rw[ar J,ar J,aR]at E;have g2:=g (U+1+1) J;rw[ar J,aR]at g2;have dz:=g (U+1+1+1) J;rw[aR]at dz;have cI:=bH.trans g J;refine aE ?_;unfold OT;refine bf @E ?_;refine(X3 (V.F  cI J) bw).mono ?_;rintro _ aP bU ⟨rfl,A,fx⟩;have yW:=(A U J).trans ch;have P:=(A (U+1) J).trans E;have I:=(A (U+1+1) J).trans g2;have D:=(A (U+1+1+1) J).trans dz;refine aE ?_;unfold OS;refine ll @yW @P @I @D ?_;exact⟨rfl,aF,J⟩
theorem afZ{r a b:Int}(g:ob r)(A:0<=a/\a<=eS)(B:0<=b/\b<=eS):0<=kB r a b/\kB r a b<=eS:=by
 unfold kB eS at *
 rcases g with rfl|rfl|rfl
 all_goals omega
def CU(h:ae)(cW eX:Nat)(a:ay Int):Prop:=u h cW=some (.cells (wid (a.getD 0)) false)/\u h eX=some (.cells [.bool a.isSome] false)
theorem ajn{s:ao}{r w:Int}{a:ay Int}{h:ae}{U:Nat}(ba:ob r)(I:u h cf=some (.cells [(r:X)] bL))(dy:CU h cW eX a)(dA:cf<U)(fJ:cW<U)(zk:eX<U)(A8:cW≠eX)(a1:∀y,a=some y->0<=y/\y<=eS)(bV:0<=w/\w<=eS):
  aD Q s 497 [.agg ⟨wid w⟩,bb eX,bb cf,bb cW] h U (λaS ab Y=>CU ab cW eX (e6 r a (some w))/\(∀c,c<U->c≠cW->c≠eX->u ab c=u h c)/\U<=Y):=by
 refine akA ?_;unfold Y9 aV aG bY bG;obtain⟨P,B⟩:=dy;rw[show c7 (.agg ⟨wid w⟩)=[.int .i64 (w / 18446744073709551616),.int .u64 (w % 18446744073709551616)]from rfl];have A:u h cW=some (.cells [.int .i64 (a.getD 0 / 18446744073709551616),.int .u64 (a.getD 0 % 18446744073709551616)] false):=P;have aM:∀x:Int,(Value.agg ⟨[.int .i64 (x / 18446744073709551616),.int .u64 (x % 18446744073709551616)]⟩) = .agg ⟨wid x⟩:=λ_=>rfl;cases a with
 |none =>
  have B:u h eX=some (.cells [.bool false] false):=B;refine cM @B @A ?_;refine⟨⟨?_,?_⟩,λc h1 Z aH=>?_,J⟩
  ·rw[ar J,aR];rfl
  ·rw[aR];rfl
  grind
 |some y =>
  have B:u h eX=some (.cells [.bool true] false):=B;have A:u h cW=some (.cells [.int .i64 (y / 18446744073709551616),.int .u64 (y % 18446744073709551616)] false):=P;have cd:=a1 y rfl;refine gX @B @A @I ?_;rw[aM,aM];refine(PN ba (FU (by unfold kC eS at *;omega)) (FU (by unfold kC eS at *;omega))).mono ?_;rintro _ Z bU ⟨rfl,g,V⟩;have D:=(g eX J).trans ((ar J).trans B);have M:=(g cW J).trans ((ar J).trans A);have E:=(g U J).trans (aR _ _ _);have aW:∀x:Int,c7 (.agg ⟨wid x⟩)=[.int .i64 (x / 18446744073709551616),.int .u64 (x % 18446744073709551616)]:=λ_=>rfl;refine ll @D @M @E @aW ?_;refine⟨⟨?_,?_⟩,λc h1 Z aH=>?_,J⟩
  ·rw[ar J,aR];rfl
  ·rw[aR];rfl
  ·rw[ar J,ar J,ar J,g c J,ar J]
theorem ajo{s:ao}{a:ay Int}{h:ae}{U:Nat}(A:CU h cW eX a)(I:cW<U)(E:eX<U):aD Q s 498 [bb cW,bb eX] h U (c9 (.tuple ⟨[.agg ⟨wid (a.getD 0)⟩,.bool a.isSome]⟩) U h):=by refine akB ?_;unfold Za;obtain⟨D,B⟩:=A;have g:u h cW=some (.cells [.int .i64 (a.getD 0 / 18446744073709551616),.int .u64 (a.getD 0 % 18446744073709551616)] false):=D;refine cM @B @g ?_;exact⟨rfl,aF,J⟩
theorem ajp{r:Int}{x:Nat->ay Int}(E:ob r)(B:∀g∈ag,0<=g.w/\g.w<=2147483647)(aX:∀i y,x i=some y->0<=y/\y<=eS)(y:Int)(h:fZ r (ag.map λg=>(x g.t).map (hM r g.w))=some y):0<=y/\y<=eS:=by
 revert y
 refine Cs (C:=λag=>(∀g∈ag,0<=g.w/\g.w<=2147483647)->∀y,fZ r (ag.map λg=>(x g.t).map (hM r g.w))=some y->0<=y/\y<=eS) (λ_ y h=>by cases h) (λp g D B y h=>?_) ag B;rw[hr,qj,xP,N5]at h;have D:=D aa;have V:=B g (List.mem_append_right _ (jl.2 rfl));cases A:x g.t with
 |none=>rw[A]at h;simp only[Option.map_none,rb]at h;grind
 |some z =>
  rw[A]at h;have P:=aX _ _ A;have M:=RD V P E;cases I:fZ r (p.map λg=>(x g.t).map (hM r g.w))with
  |none=>rw[I]at h;cases h;omega
  |some Z =>
   rw[I]at h;cases h;exact afZ E aa M
theorem atb(r:Int)(ag:ac GE)(x:Nat->ay Int)(i:Nat):iK r ag x i=fZ r ((eQ ag i).map λg=>(x g.t).map (hM r g.w)):=by
 unfold iK eQ;rw[NG]
 grind
theorem lh.i{h:ae}{U:Nat}{v:X}{l:ac Int}(H:lh h U v l):sQ h U v l:=by obtain⟨A,g,B⟩:=H;exact ep.i (oc.o (al:=0) ⟨A,g,aa⟩)
theorem atc{s:ao}{r:Int}{i:Nat}{v:X}{x:Nat->ay Int}{h:ae}{U:Nat}(ba:ob r)(M:hj R C ag)(K8:C<=63)(aI:kw h U v R C ag)(bs:su h U w C x)(aj:i<R)(bV:∀g∈ag,0<=g.w/\g.w<=2147483647)(aX:∀i y,x i=some y->0<=y/\y<=eS):
  aD Q s 457 [(r:X),v,(i:X),w] h U (c9 (.tuple ⟨[.agg ⟨wid ((iK r ag x i).getD 0)⟩,.bool (iK r ag x i).isSome]⟩) U h):=by
 refine auU ?_;obtain⟨b,aO,cap,v2,v3,rfl,a1,bd,qb,pc⟩:=aI;obtain⟨a2,c2,rfl⟩:=qb.form;obtain⟨a3,cm,rfl⟩:=pc.form;obtain⟨fw,dp,rfl,au,T9⟩:=bs;obtain⟨ek,co,rfl,_⟩:=id au;obtain⟨a9,gs,rfl,hId⟩:=T9.i;have ei:=M.ba;have br:=M.len;have aBO:(ft ag).length=ag.length:=by unfold ft;grind
 have aCY:(gI ag).length=ag.length:=by unfold gI;grind
 unfold afr;have bH:∀{o aU kD},aA U h (T (T (T h U o) (U+1) aU) (U+1+1) kD):=aF
 refine aE ?_;refine anu ?_;unfold abq;refine aE ?_;have aq:((pT ag R)[i]? = some (dK ag i:Int)):=wg J;have h1:((pT ag R)[i+1]? = some (dK ag (i+1):Int)):=wg J;simp(disch:=omega)only[bk,bd,j4 aq,seval];obtain⟨H,fp⟩:∃H,H=T (T (T (T (T (T (T h U (.cells [(R:X),(C:X),.slice (some ⟨b,0,aO⟩) (R+1) cap,.slice a2 (ft ag).length c2,.slice a3 (gI ag).length cm] false)) (U+1) (.cells [(C:X),.slice ek (eT C (kk x)).length co,.slice a9 (cx C (jX x)).length gs] false)) (U+1+1) (.cells [.int .i64 0,.int .u64 0] false)) (U+1+1+1) (.cells [(r:X)] false)) (U+1+1+1+1) (.cells [.int .i64 0,.int .u64 0] false)) (U+1+1+1+1+1) (.cells [.bool false] false)) (U+1+1+1+1+1) (.cells [.bool false] false):=⟨_,rfl⟩
 have BI:u H U=some (.cells [(R:X),(C:X),.slice (some ⟨b,0,aO⟩) (R+1) cap,.slice a2 (ft ag).length c2,.slice a3 (gI ag).length cm] false):=aa
 have oE:u H (U+1)=some (.cells [(C:X),.slice ek (eT C (kk x)).length co,.slice a9 (cx C (jX x)).length gs] false):=aa
 have xA:u H (U+1+1)=some (.cells [.int .i64 0,.int .u64 0] false):=aa
 have aC4:u H (U+1+1+1)=some (.cells [(r:X)] false):=aa
 have aC5:CU H (U+1+1+1+1) (U+1+1+1+1+1) none:=⟨by rw[fp,ar J,ar J,aR];rfl,aa⟩
 have uu:aA U h H:=by rw[fp];exact aF
 rw[<-fp];clear fp;refine bF.mk (λm aJ ab Y=>∃j,m=(eQ ag i).length-j/\j<=(eQ ag i).length/\aJ=[(r:X),(i:X),bb U,.pointer (some ⟨U+1,0,none⟩),.pointer (some ⟨U+1+1,0,none⟩),.func (.func 497) ⟨[]⟩ ⟨[.pointer (some ⟨U+1+1+1+1+1,0,none⟩),.pointer (some ⟨U+1+1+1,0,none⟩),.pointer (some ⟨U+1+1+1+1,0,none⟩)]⟩,.func (.func 498) ⟨[]⟩ ⟨[.pointer (some ⟨U+1+1+1+1,0,none⟩),.pointer (some ⟨U+1+1+1+1+1,0,none⟩)]⟩,((dK ag i+j:Nat):X)] /\
  CU ab (U+1+1+1+1) (U+1+1+1+1+1) (fZ r (((eQ ag i).take j).map λg=>(x g.t).map (hM r g.w)))/\(∀c,c<U+6->c≠U+1+1+1+1->c≠U+1+1+1+1+1->u ab c=u H c)/\U+6<=Y) (eQ ag i).length ⟨0,J,J,rfl,aC5,aa,J⟩ ?_
 rintro _ _ ap bU ⟨j,rfl,cb,rfl,h0,D,Z⟩;have HD:=Fx M.up i;have hmn:=zP ag J;have hse:=u0 ag (i+1);have V:aA U h ap:=aF
 have ch:=(D U J J J).trans BI;have bP:=(D (U+1) J J J).trans oE;have g2:=(D (U+1+1) J J J).trans xA;have dz:=(D (U+1+1+1) J J J).trans aC4;have qM:=(V b a1).trans bd;rw[arw];unfold abo;simp(disch:=omega)only[bk,ch,qM,j4 h1,cF (J:i<1000000000000),seval];refine⟨λI=>?_,λeZ=>?_⟩
 ·have I:j<(eQ ag i).length:=J
  obtain⟨g,hgj⟩:=dW   I;have y5:ag[dK ag i+j]? = some g:=by rw[<-OZ M.up I];omega
  have hgm:=k1 y5;have vp:=M.mj g hgm;have fe:(ft ag)[dK ag i+j]? = some (g.t:Int):=by unfold ft;grind
  have jM:(gI ag)[dK ag i+j]? = some g.w:=by unfold gI;grind
  have lG:(cx C (jX x))[g.t]? = some (jX x g.t):=by
   unfold cx
   grind
  obtain⟨_,_,aP,Bd⟩:=qb.i;obtain⟨_,_,cy,LU⟩:=pc.i;cases aP;cases cy;obtain⟨d2,gu,sp3,HE,Bb,pR,rfl,sG,K9⟩:=Bd aa;obtain⟨fJ,l2,sp4,ro4,cs4,hb4,rfl,HO,azN⟩:=LU aa;obtain⟨gl,vE,sp5,ro5,cs5,DZ,rfl,t9,azO⟩:=hId aa;have z3:=K9 _ _ fe;have z4:=azN _ _ jM;have s1:=azO _ _ lG;have MQ:=(g0.1 lG).1;have ca:=(V d2 pR).trans sG;have c6:=(V fJ hb4).trans HO;have eb:=(V gl DZ).trans t9;have Ls:=bV g hgm;have A:fZ r (((eQ ag i).take (j+1)).map λg=>(x g.t).map (hM r g.w))=e6 r (fZ r (((eQ ag i).take j).map λg=>(x g.t).map (hM r g.w))) ((x g.t).map (hM r g.w)):=by rw[hq,hgj];show fZ r (List.map _ (_++[g]))=_;rw[hr,qj,xP,N5]
  refine gX @ca @z3 @bP ?_;refine(Kj K8 vp (au.F V  J)).mono ?_;rintro _ _ _ ⟨rfl,gB,e1⟩;rw[gB,e1];cases P:x g.t with
  |none =>
   have fd:kk x g.t=false:=by unfold kk;grind
   rw[P]at A;simp only[Option.map_none,rb]at A;rw[fd];refine bf (cF (J:dK ag i+j<1000000000000)) ?_;exact⟨_,J,j+1,rfl,J,rfl,by rw[A];exact h0,D,Z⟩
  |some y =>
   have fd:kk x g.t=true:=by unfold kk;grind
   have hva:jX x g.t=y:=by unfold jX;grind
   rw[hva]at s1;rw[P]at A;have hyr:=aX _ _ P;rw[fd];refine Ah @ch @bP @c6 @z4 @eb @s1 ?_;refine(abu ba Ls hyr).mono ?_;rintro _ aH b1 ⟨rfl,B,E⟩;refine⟨E,?_⟩;have hA3:CU aH (U+1+1+1+1) (U+1+1+1+1+1) (fZ r (((eQ ag i).take j).map λg=>(x g.t).map (hM r g.w))):=⟨(B _ J).trans h0.1,(B _ J).trans h0.2⟩
   refine(ajn ba ((B _ J).trans dz) hA3 J J J J (λy cd=>?_) (RD Ls hyr ba)).mono ?_
   ·exact ajp ba (λg bd=>bV g (Ct (Nb bd)).1) aX y cd
   rintro _ bh d9 ⟨hA4,g6,hX⟩;refine⟨hX,?_⟩;refine bf (cF (J:dK ag i+j<1000000000000)) ?_;refine⟨_,J,j+1,rfl,J,rfl,by rw[A];exact hA4,λc h1 ap aH=>?_,J⟩;rw[g6 c J ap aH,B c J];grind
 ·have:j=(eQ ag i).length:=J
  subst this;rw[hB,<-atb]at h0;refine(ajo h0 J J).mono ?_;rintro _ aH b1 ⟨rfl,B,E⟩;have L8:=(B (U+1+1) J).trans g2;have aW:∀x:Int,c7 (.agg ⟨wid x⟩)=[.int .i64 (x / 18446744073709551616),.int .u64 (x % 18446744073709551616)]:=λ_=>rfl;refine cM @aW @L8 ?_;exact⟨rfl,(V.trans B J).set J,J⟩
theorem Qg{s:ao}{k:Nat}{h:ae}{U:Nat}:aD Q s 334 [.slice none 0 0,(k:X)] h U (fs (.bool false) U h):=by refine afS ?_;unfold Sk bE cg da bY fq;refine Zs ?_;unfold PT;refine bf @Fq ?_;refine⟨λ_=>⟨λg=>absurd g J,λ_=>⟨rfl,rfl,rfl⟩⟩,λg=>absurd g J⟩
def ag9(n cf cW eX:Nat)(h:ae)(U:Nat):Prop:=u h cf=some (.cells [(n:X)] false)/\u h cW=some (.cells [.slice none 0 0] false)/\u h eX=some (.cells [.bool true] false)
theorem ajq{s:ao}{n:Nat}(bw:n<1000000):
  HN s 483 [bb cf,bb cW,bb eX] n (λk=>[(k:X)]) (ag9 n cf cW eX):=by
 intro l I ab Y aj ij V cd;refine akz ?_;unfold Y8;obtain⟨M,E,mI⟩:=aj _ _ _ V;refine bf @M ?_;refine bF.mk (λm aJ P Z=>∃j,m=n-j/\j<=n/\aJ=[.func (.yield l) ⟨[]⟩ ⟨[]⟩,bb cW,bb eX,(n:X),(j:X)]/\I j P Z) n ⟨0,J,J,rfl,V⟩ ?_;rintro _ _ P Z ⟨j,rfl,cb,rfl,A⟩;obtain⟨M,E,mI⟩:=aj _ _ _ A;rw[ai1];unfold WJ;refine bf @E ?_;refine⟨λg=>?_,λeZ=>?_⟩
 ·have g:j<n:=J
  refine Qg.mono ?_;rintro _ _ _ ⟨rfl,rfl,rfl⟩;simp(disch:=omega)only[bk,mI,show bin Q .neq 4 (.bool false) (.bool true) = .ok (.bool true) by kernel_rfl,seval];have qX:=cd true j g _ _ A;refine qX.mono ?_;rintro _ aH b1 ⟨rfl,B,D⟩;refine⟨D,?_⟩;refine bf (cF (J:j<1000000000000)) ?_;exact⟨_,J,j+1,rfl,J,rfl,B⟩
 ·have:j=n:=J
  subst this;exact A
def eP(p:Nat × Int):ac X:=[(p.1:X),.int .i64 (p.2 / 18446744073709551616),.int .u64 (p.2 % 18446744073709551616)]
theorem apc(p:Nat × Int):(eP p).length=3:=rfl
theorem apd{s:ao}{r:Int}{v:X}{x:Nat->ay Int}{h:ae}{U:Nat}(ba:ob r)(M:hj R C ag)(K8:C<=63)(aI:kw h U v R C ag)(bs:su h U w C x)(bV:∀g∈ag,0<=g.w/\g.w<=2147483647)(aX:∀i y,x i=some y->0<=y/\y<=eS):
  aD Q s 393 [(r:X),v,w,.slice none 0 0,.bool true] h U (λaS ab Y=>∃z,aS = .tuple ⟨[z,.int .i64 0]⟩/\eY ab U Y z eP (bp R (iK r ag x))/\aA U h ab/\U<=Y):=by
 refine asE ?_;have hZ:=aI;have TM:=bs;have ei:=M.ba;obtain⟨b,aO,cap,v2,v3,rfl,a1,bd,qb,pc⟩:=aI;obtain⟨a2,c2,rfl⟩:=qb.form;obtain⟨a3,cm,rfl⟩:=pc.form;obtain⟨fw,dp,rfl,au,T9⟩:=bs;obtain⟨ek,co,rfl,_⟩:=id au;obtain⟨a9,gs,rfl,_⟩:=id T9;unfold aer;refine aE ?_;refine(apb M (hZ.F aF J) (TM.F aF J) K8).mono ?_;rintro _ ap A ⟨rfl,P,Z⟩;have ch:=(P U J).trans ((ar J).trans ((ar J).trans (aR _ _ _)));have bP:=(P (U+1) J).trans ((ar J).trans (aR _ _ _));have g2:=(P (U+1+1) J).trans (aR _ _ _);refine gX @ch @bP @g2 ?_;refine(z8 (r:=r) (by rcases ba with rfl|rfl|rfl <;> omega) (by rcases ba with rfl|rfl|rfl <;> omega)).mono ?_;rintro _ _ _ ⟨rfl,gB,e1⟩;rw[gB,e1];simp(disch:=omega)only[bk,oH,seval];refine anr ?_;unfold abn;refine aE ?_;generalize El:T _ _ _=iq;have fp:∀c,c<A->c≠U+1->c≠U+1+1->u iq c=u ap c:=λc D aH bh=>by subst El;repeat rw[ar J]
 have hd:=(fp U J J J).trans ch;have dq:u iq (U+1)=some (.cells [(R:X),(C:X),.slice (some ⟨b,0,aO⟩) (R+1) cap,.slice a2 (ft ag).length c2,.slice a3 (gI ag).length cm] false):=by subst El;grind
 have eF:u iq (U+1+1)=some (.cells [(C:X),.slice ek (eT C (kk x)).length co,.slice a9 (cx C (jX x)).length gs] false):=by subst El;grind
 have q12:u iq A=some (.cells [.slice none 0 0] false):=by subst El;grind
 have Ua:ag9 R (A+1) (A+1+1) (A+1+1+1) iq (A+1+1+1+1):=by subst El;refine⟨?_,?_,?_⟩ <;> grind
 have zh:aA U h iq:=λc I=>by rw[fp c J J J,P c J];repeat rw[ar J]
 clear El fp;have T8:=ajq (s:=s) (n:=R) (cf:=A+1) (cW:=A+1+1) (eX:=A+1+1+1) J;obtain⟨L,f3⟩:∃L:Nat->ay Int,L=iK r ag x:=⟨_,rfl⟩
 refine RL (λk D bg=>∃w,u D A=some (.cells [w] false)/\g1 w=true/\dX D w eP 3 (bp k L) (A+6) bg/\(∀c,c<A+5->c≠A->c≠A+4->u D c=u iq c)/\A+5<=bg/\k<=R) T8 ?_ ?_ ?_ ?_ ?_
 ·rintro k D bg ⟨w,e,fh,dV,B,dx,hk⟩;exact⟨⟨(B _ J J J).trans Ua.1,(B _ J J J).trans Ua.2.1,(B _ J J J).trans Ua.2.2⟩,J⟩
 ·rintro k D bg ap n2' ⟨w,e,fh,dV,B,dx,hk⟩ P Z;exact⟨w,aa,fh,dV.F aa Z,aa,J,hk⟩
 ·exact⟨.slice none 0 0,aa,rfl,.inl ⟨rfl,rfl⟩,aa,J,J⟩
 ·rintro s k hk D bg ⟨w,e,fh,dV,B,dx,Be⟩ br;have ch:u D U=some (.cells [(r:X)] false):=(B _ J J J).trans hd;have bP:=(B (U+1) J J J).trans dq;have g2:=(B (U+1+1) J J J).trans eF;have hn:aA U h D:=λc I=>(B c J J J).trans (zh c I);refine aoy br ?_;unfold P5 aca;generalize uU _ _ _ _ _ _ _ _ _ _ _ _ _ _ _ _ _ _ _ _ _ _ _ _ _=ak at *
  refine⟨none,br,?_⟩;generalize eHH:T D (A+1+1+1+1) (.loop 1 none ak [37] sk sl)=zl;have V:∀c,c≠A+4->u zl c=u D c:=λc I=>aa
  have rA:u zl (A+1+1+1+1)=some (.loop 1 none ak [37] sk sl):=aa
  have ch:=(V _ J).trans ch;have bP:=(V _ J).trans bP;have g2:=(V _ J).trans g2;have e:=(V _ J).trans e;have hn:aA U h zl:=λc I=>(V c J).trans (hn c I);refine gX @ch @bP @g2 ?_;refine(atc ba M K8 (hZ.F hn (Y:=bg) J) (TM.F hn (Y:=bg) J) hk bV aX).mono ?_;rintro _ d8 n7 ⟨rfl,E,qD⟩;rw[<-f3];have gN:=(E _ J).trans e;have T6:=(E _ J).trans rA;have aW:∀x:Int,c7 (.agg ⟨wid x⟩)=[.int .i64 (x / 18446744073709551616),.int .u64 (x % 18446744073709551616)]:=λ_=>rfl;cases hLk:L k with
  |none =>
   have aj:bp (k+1) L=bp k L:=by rw[ts,hLk,hC]
   refine bf @aW ?_;refine⟨λI=>absurd I (by simp),λ_=>⟨1,none,T6,⟨w,gN,fh,?_,λc D ap aH=>?_,J,J⟩,J⟩⟩
   ·rw[aj];exact dV.F (λc D ap=>by rw[ar J,ar J,ar J,E c J,V c J]) J
   ·rw[ar J,ar J,ar J,E c J,V c J];grind
  |some y =>
   have aj:bp (k+1) L=bp k L++[(k,y)]:=by rw[ts,hLk]
   have wH:=md k L;refine cM @aW @gN ?_;refine⟨λ_=>?_,λI=>absurd I (by simp)⟩;refine me (enc:=eP) (k:=3) (al:=A+6) (λ_=>rfl) (λ_=>rfl) J (dV.F (dB:=n7+1+1) (λc D ap=>by rw[ar J,ar J,ar J,E c J,V c J]) J) J (k,y) (aR _ _ _) rfl J λd7 iG Ub vy=>?_;have hl9:u iG (A+1+1+1+1)=some (.loop 1 none ak [37] sk sl):=aa
   have i1:u iG A=some (.cells [w] false):=aa
   have aD1:∀c,c<A+5->c≠A->c≠A+4->u iG c=u iq c:=λc D ap aH=>by rw[vy _ J,ar J,ar J,ar J,E c J,V c J];grind
   rcases Ub with⟨aM,rfl⟩|⟨BJ,iB,fH,rfl,Ma⟩
   ·simp at aM
   ·refine bf @i1 ?_;refine⟨1,none,hl9,⟨_,rfl,rfl,.inr ⟨BJ,iB,J,by rw[aj],?_⟩,λc D ap aH=>?_,J,J⟩,J⟩
    all_goals grind
 ·rintro D bg ⟨w,e,fh,dV,B,dx,Be⟩;refine bf @e ?_;refine⟨w,rfl,?_,λc I=>?_,J⟩
  ·rw[<-f3];rcases dV with⟨aW,rfl⟩|⟨BJ,iB,fH,rfl,Ma⟩
   ·exact⟨_,_,by rw[aW];rfl,λh=>absurd aW h⟩
   ·exact⟨_,_,rfl,λ_=>⟨BJ,some 3,false,J,fH,rfl,Ma⟩⟩
  ·rw[B _ J J J];exact zh c I
theorem ep.all{aB:Type}{h:ae}{U k:Nat}{v:X}{enc:aB->ac X}{l:ac aB}(H:ep h U v enc k l)(B:∀x,(enc x).length=k)(g:l≠[]):
  ∃b o aO bL cs cap,b<U/\v = .slice (some ⟨b,o,aO⟩) l.length cap/\u h b=some (.cells cs bL)/\∀(i:Nat) x,l[i]? = some x->hg (some k) (o+i*k) cs = .ok (.agg ⟨enc x⟩)/\∀(j:Nat) y,j<k->(enc x)[j]? = some y->cs[o+i*k+j]? = some y:=by
 obtain⟨a,cap,e,gA⟩:=id H;obtain⟨b,o,aO,bL,cs,M,rfl,E,h1,ap⟩:=gA g;refine⟨b,o,aO,bL,cs,cap,M,e,E,λi x D=>⟨?_,λj y cb cd=>?_⟩⟩
 ·obtain⟨cr,aU,sp',V,P,A,_,cy,Z,I⟩:=H.ld B D
  grind
 ·have aH:=Nr B rfl ap D
  grind
theorem avG{s:ao}{v:X}{h:ae}{U:Nat}(f3:L.length<1000000)(I:ep h U v eP 3 L)(bD:∀(p:Nat × Int),p∈L->∀ab Y,aA U h ab->U<=Y->aD Q s eL (.agg ⟨eP p⟩::cs) ab Y (c9 (.bool false) Y ab)):
  aD Q s 396 [v,.func (.func eL) ⟨[]⟩ ⟨cs⟩] h U (c9 (.int .i64 (-1)) U h):=by refine VV ?_;unfold Nz;obtain⟨V,cap,rfl,a5⟩:=id I;refine aE ?_;refine bF.mk (λm aJ ab Y=>∃i,m=L.length-i/\i<=L.length/\aJ=[.slice V L.length cap,.func (.func eL) ⟨[]⟩ ⟨cs⟩,.int .i64 0,(L.length:X),(i:X)]/\aA U h ab/\U<=Y) L.length ⟨0,J,J,rfl,aF,J⟩ ?_;rintro _ _ ap bU ⟨i,rfl,aj,rfl,B,g⟩;rw[VR];unfold Nt;refine aE ?_;refine⟨λM=>?_,λP=>⟨rfl,B,g⟩⟩;obtain⟨p,bn⟩:=dW   J;obtain⟨b,aU,aO,bL,rz,D,a1,aW,Z,A⟩:=(I.F B g).ld (λ_=>rfl) bn;cases aW;refine cM @Z @A ?_;refine(bD p aa ap bU B g).mono ?_;rintro _ aH b1 ⟨rfl,f1,E⟩;refine bf (cF (J:i<1000000000000)) ?_;exact⟨_,J,i+1,rfl,J,rfl,aF,J⟩
theorem alA{s:ao}{n:Nat}{h:ae}{U:Nat}(g:u h cf=some (.cells [(n:X)] bL))(B:cf<U)(A:p.1<n):aD Q s 398 [.agg ⟨eP p⟩,bb cf] h U (c9 (.bool false) U h):=by refine anp ?_;unfold abm bG;rw[show c7 (.agg ⟨eP p⟩)=[(p.1:X),.int .i64 (p.2 / 18446744073709551616),.int .u64 (p.2 % 18446744073709551616)]from rfl];refine bf @g ?_;refine⟨λh=>absurd h J,λ_=>?_⟩;rw[hf A];exact⟨rfl,aF,J⟩
def sR(r:Int)(l:ac (Nat × Int)):ac (Nat × Int):=l.filter λp=>decide (p.2≠Kx r)
theorem atd(r:Int)(n:Nat)(S:Nat->ay Int):sR r (bp n S)=bp n λi=>tt r (S i):=by
 refine QF (IE _ (yk n S)) λi x=>?_;unfold sR;rw[sb,j6];unfold tt
 grind
theorem ape{s:ao}{r:Int}{n:Nat}{v:X}{S:Nat->ay Int}{h:ae}{U:Nat}(ba:ob r)(bw:n<=4096)(aI:ep h U v eP 3 (bp n S))(dV:∀i y,S i=some y->0<=y/\y<=eS):
  aD Q s 335 [(r:X),(n:X),v] h U (λaS ab Y=>∃w,aS = .tuple ⟨[w,.int .i64 0]⟩/\ln ab U Y w n (λi=>tt r (S i))/\aA U h ab/\U<=Y):=by
 refine arp ?_;unfold adL;obtain⟨a9,cap,rfl,a5⟩:=id aI;have gT:=md n S;have bH:∀{o aU},aA U h (T (T h U o) (U+1) aU):=aF
 refine aE ?_;refine(z8  (by rcases ba with rfl|rfl|rfl <;> omega) (by rcases ba with rfl|rfl|rfl <;> omega)).mono ?_;rintro _ _ _ ⟨rfl,gB,e1⟩;rw[gB,e1];refine aE ?_;have BI:u (T (T h U (.cells [(n:X)] false)) (U+1) (.cells [.int .i64 0,.slice none 0 0] false)) U=some (.cells [(n:X)] false):=aa
 have oE:u (T (T h U (.cells [(n:X)] false)) (U+1) (.cells [.int .i64 0,.slice none 0 0] false)) (U+1)=some (.cells [.int .i64 0,.slice none 0 0] false):=aa
 have uu:=bH (o:=.cells [(n:X)] false) (aU:=.cells [.int .i64 0,.slice none 0 0] false);generalize T (T h U (.cells [(n:X)] false)) (U+1) (.cells [.int .i64 0,.slice none 0 0] false)=H at *
 refine⟨λh=>absurd h J,λ_=>?_⟩;rw[ht (J:¬(4096:Int)<(n:Int))];unfold OP;refine aE ?_;refine ahF ?_;refine(avG J (aI.F uu  J) λp bn ab Y hk dx=>alA  ((hk U J).trans BI) (by omega) ?_).mono ?_
 ·exact(j6  ).1 bn |>.1
 rintro _ M A ⟨rfl,Z,fx⟩;have ch:=(Z U J).trans BI;have bP:=(Z (U+1) J).trans oE;have ha:=uu.trans Z J;refine aE ?_;unfold Y4;refine aE ?_;refine⟨λh=>absurd trivial h,?_⟩;refine bF.mk (λm aJ ab Y=>∃i,m=(bp n S).length-i/\i<=(bp n S).length/\aJ=[(r:X),.slice a9 (bp n S).length cap,bb U,.pointer (some ⟨U+1,0,none⟩),.int .i64 0,.int .i64 ((bp n S).length:Int),(i:X)]/\ab=M/\Y=A) (bp n S).length ⟨0,J,J,rfl,rfl,rfl⟩ ?_;rintro _ _ aH b1 ⟨i,rfl,aj,rfl,gB,e1⟩;rw[ank,gB,e1];unfold Y2;refine aE ?_;refine⟨λcS=>?_,λeZ=>?_⟩
 ·obtain⟨b,o,aO,bL,cs,mV,a1,I,bd,g⟩:=aI.all (λ_=>rfl) aa;cases I;have P:=(ha b a1).trans bd;have fin:∃bR,bR<(bp n S).length-i/\∃V,bR=(bp n S).length-V/\V<=(bp n S).length/\[Value.int .i64 r,.slice (some ⟨b,o,aO⟩) (bp n S).length cap,bb U,.pointer (some ⟨U+1,0,none⟩),.int .i64 0,.int .i64 ((bp n S).length:Int),.int .i64 (IntKind.wrap .i64 ((i:Int)+1))]=[(r:X),.slice (some ⟨b,o,aO⟩) (bp n S).length cap,bb U,.pointer (some ⟨U+1,0,none⟩),.int .i64 0,.int .i64 ((bp n S).length:Int),(V:X)]:=⟨_,J,i+1,rfl,J,by rw[cF J]⟩
  refine⟨λbn=>?_,λ_=>fin⟩;obtain⟨j,rfl⟩:∃j,i=j+1:=⟨i-1,J⟩
  obtain⟨p,wZ⟩:=dW (l:=bp n S) (i:=j) J;obtain⟨q,Mb⟩:=dW   J;have c1:=(g j p wZ).2 0 _ J rfl;have c2:=(g (j+1) q Mb).2 0 _ J rfl;rw[mM]at c1 c2;have Hc:=u1     wZ Mb J;have cz:IntKind.wrap .i64 (((j+1:Nat):Int)-1)=(j:Int):=by rw[oS];omega
  refine ll @cz @P @c1 @c2 ?_;exact⟨λh=>absurd Hc h,λ_=>fin⟩
 ·obtain⟨zl,hHH⟩:∃zl,zl=T (T M A (.cells [.int .i64 0,.slice none 0 0] false)) A (.cells [(n:X),.slice none 0 0] false):=⟨_,rfl⟩
  have xA:u zl A=some (.cells [(n:X),.slice none 0 0] false):=aa
  have kHH:aA A M zl:=by rw[hHH];exact aF
  refine bf @ch ?_;rw[<-hHH];refine bF.mk (λm aJ ab Y=>∃i w,m=(bp n S).length-i/\i<=(bp n S).length/\aJ=[(r:X),.pointer (some ⟨U+1,0,none⟩),.int .i64 0,bb A,.slice a9 (bp n S).length cap,.int .i64 ((bp n S).length:Int),(i:X)] /\
   u ab A=some (.cells [(n:X),w] false)/\dX ab w fN 2 (sR r ((bp n S).take i)) (A+1) Y/\aA A M ab/\A+1<=Y) (bp n S).length ⟨0,_,J,J,rfl,xA,.inl ⟨rfl,rfl⟩,kHH,J⟩ ?_
  rintro _ _ aH b1 ⟨i,w,rfl,aj,rfl,cy,B,D,gg⟩;have nm:aA U h aH:=aF
  have DX:=(D (U+1) J).trans bP;rw[anl];unfold Y3;refine aE ?_;refine⟨λcS=>?_,λeZ=>?_⟩
  ·obtain⟨p,bn⟩:=dW   J;obtain⟨Hp,hpS⟩:=wh   bn;have oj:=dV _ _ hpS;obtain⟨b,o,aO,bL,cs,mV,a1,I,bd,g⟩:=aI.all (λ_=>rfl) aa;cases I;have P:=(nm b a1).trans bd;have lS:=(g i p bn).1;have E:lr p.2:=FU (by unfold kC eS at *;omega);have yE:sy p.2=true:=by unfold sy eS at *;grind
   simp(disch:=omega)only[bk,P,lS,show c7 (.agg ⟨eP p⟩)=[(p.1:X),.int .i64 (p.2 / 18446744073709551616),.int .u64 (p.2 % 18446744073709551616)]from rfl,seval];refine(WK E).mono ?_;rintro _ bh d9 ⟨rfl,g6,hX⟩;rw[yE];refine aE ?_;refine(anz  (by rcases ba with rfl|rfl|rfl <;> simp)).mono ?_;rintro _ _ _ ⟨rfl,gB,e1⟩;rw[gB,e1];have gn4:=(g6 b1 J).trans (aR _ _ _);have eE:=(g6 A J).trans ((ar J).trans ((ar J).trans cy));have hR:aA b1 aH bh:=aF
   have cK:(bp n S).take (i+1)=(bp n S).take i++[p]:=by rw[hq,bn];rfl
   refine aE ?_;refine⟨λdc=>?_,λdc=>?_⟩
   ·have bs:sR r ((bp n S).take (i+1))=sR r ((bp n S).take i)++[p]:=by
     unfold sR
     grind
    have hdl:(sR r ((bp n S).take i)).length<=i:=hJ (zu _ _) aa;obtain⟨fV,nL,rfl⟩:∃a c,w = .slice a (sR r ((bp n S).take i)).length c:=by
     rcases B with⟨I,rfl⟩|⟨b,_,_,rfl,_⟩
     all_goals grind
    refine cM @gn4 @eE ?_;refine me  (k:=2)  (λ_=>rfl) (λ_=>rfl) J (B.F  (λc h1 M=>by rw[ar J,hR c J]) J) J p (aR _ _ _) rfl J λd7 iG Ub vy=>?_;have i1:u iG A=some (.cells [(n:X),.slice fV (sR r ((bp n S).take i)).length nL] false):=aa
    have Vn:aA A M iG:=λc a5=>by rw[vy c J,ar J,hR c J];exact D c a5
    rcases Ub with⟨aM,rfl⟩|⟨BJ,iB,fH,rfl,Ma⟩
    ·simp at aM
    ·refine cM @i1 (cF (J:i<1000000000000)) ?_;refine⟨_,J,i+1,_,rfl,J,rfl,rfl,.inr ⟨BJ,iB,J,by rw[bs],?_⟩,Vn.set (cR _),J⟩
     grind
   ·have bs:sR r ((bp n S).take (i+1))=sR r ((bp n S).take i):=by
     unfold sR
     grind
    refine bf (cF (J:i<1000000000000)) ?_;exact⟨_,J,i+1,w,rfl,J,rfl,eE,by rw[bs];exact B.F (λc h1 M=>hR c J) J,λc a5=>(hR c J).trans (D c a5),J⟩
  ·have:i=(bp n S).length:=J
   subst this;rw[hB,atd]at B;obtain⟨_,_,rfl⟩:∃a c,w = .slice a (bp n λi=>tt r (S i)).length c:=by
    rcases B with⟨I,rfl⟩|⟨b,_,_,rfl,_⟩
    all_goals grind
   refine cM @cy @DX ?_;refine⟨_,rfl,⟨_,rfl,?_⟩,nm.set J,J⟩;rcases B with⟨I,aP⟩|⟨BJ,iB,fH,aP,Ma⟩
   ·rw[I]at aP ⊢;exact⟨_,_,rfl,λh=>absurd rfl h⟩
   ·cases aP;exact⟨_,_,rfl,λ_=>⟨BJ,some 2,false,J,fH,rfl,aa⟩⟩
def acs:gj:=λs ah t1 t2 h U K=>fq 2 ah t1 λa=>av h 0 a λc=>fq 3 c (ad 0) λd=>av h 0 d λf=>fq 2 ah t2 λg=>av h 0 g λj=>fq 3 j (ad 0) λk=>av h 0 k λm=>cg 242 [f,m] h U λn o p=>fq 2 ah t1 λq=>bl 1 q λr=>bY o r λt=>da r t (fq 2 ah t2 λaS=>bl 1 aS λv=>bY o v λw=>da v w (cg 242 [t,w] o p λx y z=>dS (eO 2 [(ad 0),(ad 0)] [(0,1,n),(1,1,x)]) y z λbz bS bA=>cg 241 [bz] bS bA λa9 bM b5=>bE .lss 3 a9 (ad 0) λbO=>K bO bM b5) 1 [h]) 1 [h]
theorem apf:gw 523 acs:=gz []
def aeG:cO:=λs ah h U K=>af (bB ah) λa=>bY h a λb=>cP b λc=>bE .sub 3 c (ad 1) λd=>af (bB ah) λe=>bY h e λf=>gD 2 h 2 f d λi=>bX [aw,(ad 0)] h U λj k l=>af (aN k 2 j i) λm=>af (bB ah) λn=>bY m n λo=>af (g5 2 o none (some d) none) λp=>af (bB ah) λq=>af (aN m 1 q p) λr=>aG 2 r j λt=>af (.ok (Value.iface 417 t)) λaS=>K aS r l
theorem ate:cQ 524 aeG:=cT []
def act:c0:=λs ah t1 h U K=>af (FG Q 417 true t1) λa=>af (cu a 0) λb=>af (cu a 1) λc=>bX [aw,(ad 0)] h U λd e f=>af (aN e 2 d b) λg=>bt c (af (bB ah) λi=>bY g i λj=>aG 2 g d λk=>dS (eO 1 [aw,(ad 0)] [(0,2,k)]) g f λl m n=>dm (dI (dn 2 m n j l)) λo p q=>n<=q/\af (bB ah) λr=>af (aN p 1 r o) λt=>K (.tuple ⟨[]⟩) t q) (K (.tuple ⟨[]⟩) g f)
theorem apg:c4 525 act:=c5 []
def acu:gj:=λs ah t1 t2 h U K=>gD 2 h 2 ah t2 λb=>gD 2 h 2 ah t1 λd=>fq 2 ah t1 λe=>af (aN h 2 e b) λf=>fq 2 ah t2 λg=>af (aN f 2 g d) λi=>K (.tuple ⟨[]⟩) i U
theorem aph:gw 526 acu:=gz []
theorem af0:re Tryz.prog 415 "Len" = some (329,false):=by kernel_rfl
theorem Rc:re Tryz.prog 415 "Less" = some (523,false):=by kernel_rfl
theorem Re:re Tryz.prog 415 "Swap" = some (526,false):=by kernel_rfl
theorem avH:re Tryz.prog 415 "Push" = some (525,true):=by kernel_rfl
theorem axW:re Tryz.prog 415 "Pop" = some (524,true):=by kernel_rfl
theorem aha:Tryz.prog.underlying 415=some (.pointer 370):=by kernel_rfl
theorem azP:pu Tryz.prog 370=some none:=by kernel_rfl
theorem atf:zG Tryz.prog 417=true:=by kernel_rfl
section
variable {h:ae} {U b7:Nat} {v:X} {l bC:ac X}
theorem ys{m:String}{f:FuncId}(A:re Tryz.prog 415 m=some (f,false))(B:u h b7=some (.cells (v::bC) false)):mc Q h U l m (.iface 415 (bb b7)) = .call f (v::l) h U:=by show SK "invoke - method" (re Tryz.prog 415 m) (λg=>Dq (wt Tryz.prog h 415 g.2 (bb b7)) (λy=>.call g.1 (y::l) h U))=_;rw[A];unfold wt;rw[aha];show Dq (R.of "type" (pu Tryz.prog 370) (λD=>iO D h (bb b7))) _=_;rw[azP];show Dq (iO none h (bb b7)) _=_;rw[Kv,B];rfl
theorem af1{m:String}{f:FuncId}(A:re Tryz.prog 415 m=some (f,true)):mc Q h U l m (.iface 415 (bb b7)) = .call f ((bb b7)::l) h U:=by show SK "invoke - method" (re Tryz.prog 415 m) (λg=>Dq (wt Tryz.prog h 415 g.2 (bb b7)) (λy=>.call g.1 (y::l) h U))=_;rw[A];unfold wt;rw[aha];rfl
end
def ve(h:ae)(al:Nat)(x:eW):Prop:=∃b o aO bL cs c a,x.v = .slice (some ⟨b,o,aO⟩) (x.n+1) c/\b<al/\u h b=some (.cells cs bL)/\cs[o]? = some (((a:Nat):X))/\x.k=(a:Int)*1000+(x.w:Int)/\x.w<1000
theorem ve.F{h ab:ae}{al:Nat}{x:eW}(H:ve h al x)(D:∀c,c<al->u ab c=u h c):ve ab al x:=by obtain⟨b,o,aO,bL,cs,c,a,B,g,E,A⟩:=H;exact⟨b,o,aO,bL,cs,c,a,B,g,aa,A⟩
theorem af2{h:ae}{i:Nat}{x:eW}(g:g1 x.v=true)(aj:i<W.length):iW (some (.cells (a7 hx W++cs) false)) h b (i*2) [x.v,(x.w:X)] = .ok (T h b (.cells (a7 hx (W.set i x)++cs) false)):=by
 have B:=fX  v8;have A:ef [x.v,(x.w:X)]=true:=by rw[ra,g];rfl
 have:=OG  v8 cs x W i aj;rw[Kw A aa]
 grind
theorem Qh{s:ao}{h:ae}{U n:Nat}{a:ay Addr}:aD Q s 329 [.slice a n cap] h U (λr ab Y=>r = (n:X)/\ab=h/\Y=U):=by refine auQ ?_;unfold afn;simp(disch:=omega)only[bk,seval]
theorem On{s:ao}{h:ae}{U n al:Nat}{i k:Nat}{x:eW}(M:u h b=some (.cells (a7 hx W++cs) false))(sJ:b<U)(vq:al<=U)(bw:W.length=n)(aj:W[i]? = some x)(V:W[k]? = some y)(aC6:ve h al x)(aC7:ve h al y):
  aD Q s 523 [.slice (some ⟨b,0,aO⟩) n cap,(i:X),(k:X)] h U (c9 (.bool (decide (x.k<y.k))) U h):=by
 refine apf ?_;unfold acs;have MK:=(g0.1 aj).1;have gv:=(g0.1 V).1;rw[bw]at MK gv;obtain⟨dA,eV,sp1,ro1,cs1,c1,az,aW,dU,P,E,dq,de⟩:=aC6;obtain⟨b2,dQ,mr,w6,xd,c2,a2,aP,dL,I,Z,eF,dj⟩:=aC7;have g:=afe (cs:=cs) aj;have A:=afe (cs:=cs) V;rw[aW]at g;rw[aP]at A;simp(disch:=omega)only[bk,M,g.1,g.2,A.1,A.2,P,I,E,Z,seval];refine Qb.mono ?_;rintro _ _ _ ⟨rfl,B,D⟩;rw[B,D];refine⟨J,?_⟩;simp(disch:=omega)only[bk,M,g.1,g.2,A.1,A.2,P,I,E,Z,seval];refine Qb.mono ?_;rintro _ _ _ ⟨rfl,B,D⟩;rw[B,D];refine⟨J,?_⟩;refine aE ?_;refine(CC (aR _ _ _)).mono ?_;rintro _ _ _ ⟨rfl,rfl,rfl⟩;refine⟨J,?_⟩;refine aE ?_;refine⟨?_,aF,J⟩
 congr 1
 rw[dq,eF,decide_eq_decide];unfold fY;omega
theorem Oo{s:ao}{h:ae}{U n:Nat}{i k:Nat}{x:eW}(A:u h b=some (.cells (a7 hx W++cs) false))(I:W.length=n)(aj:W[i]? = some x)(g:W[k]? = some y)(E:g1 x.v=true)(D:g1 y.v=true):
  aD Q s 526 [.slice (some ⟨b,0,aO⟩) n cap,(i:X),(k:X)] h U (λr ab Y=>r = .tuple ⟨[]⟩/\u ab b=some (.cells (a7 hx (sL W i k x y)++cs) false)/\(∀c,c≠b->u ab c=u h c)/\Y=U):=by refine aph ?_;unfold acu;have B:=(g0.1 aj).1;have M:=(g0.1 g).1;simp(disch:=omega)only[bk,A,Kc aj,Kc g,seval];rw[af2 D B,CR];rw[aR,af2 E aa,CR];exact⟨aR _ _ _,aa⟩
abbrev tH(b7:Nat):X:=.iface 415 (bb b7)
def mg(h:ae)(al:Nat)(W:ac eW):Prop:=∀x∈W,ve h al x
theorem mg.F{h ab:ae}{al:Nat}{W:ac eW}(H:mg h al W)(g:∀c,c<al->u ab c=u h c):mg ab al W:=λx A=>(H x A).F g
theorem mg.perm{h:ae}{al:Nat}(H:mg h al W)(p:dr.Perm W):mg h al dr:=λx g=>H x aa
theorem ve.cell{h:ae}{al:Nat}{x:eW}(H:ve h al x):g1 x.v=true:=by obtain⟨b,o,aO,bL,cs,c,a,g,_⟩:=H;rw[g];rfl
theorem mg.at{h:ae}{al i:Nat}{x:eW}(H:mg h al W)(g:W[i]? = some x):ve h al x:=H x aa
theorem RM{h ab:ae}{b7:Nat}{bC:ac X}(w:oR h b7 b aO cap W cs bC)(A:u ab b=some (.cells (a7 hx dr++cs) false))(g:dr.length=W.length)(B:u ab b7=u h b7):oR ab b7 b aO cap dr cs bC :=
 ⟨by rw[B,g];exact w.cell,A,by rw[g];exact w.len,w.Hg,w.ne⟩
theorem Gz{h ab:ae}{b7 U:Nat}{bC:ac X}(w:oR h b7 b aO cap W cs bC)(A:aA U h ab)(B:b<U)(g:b7<U):oR ab b7 b aO cap W cs bC :=
 ⟨(A _ g).trans w.cell,(A _ B).trans w.ct,w.len,w.Hg,w.ne⟩
theorem axX(h:m<1000000000):IntKind.wrap .i64 ((m:Int)-1)=(m:Int)-1:=by rw[oS];omega
theorem azQ(g:j<=100000):bin Q .quo 3 (.int .i64 ((j:Int)-1)) (.int .i64 2) = .ok (((eK j:Nat):X)):=by
 rw[Ck (by decide)];have:((j:Int)-1).tdiv 2=((eK j:Nat):Int):=by
  cases j with
  |zero=>rfl
  |succ j =>
   have e:((j+1:Nat):Int)-1=(j:Int):=J
   rw[e];rfl
 rw[this,show IntKind.wrap .i64 ((eK j:Nat):Int)=((eK j:Nat):Int) by rw[oS];grind]
def Bf(b U:Nat)(h ab:ae)(Y:Nat):Prop:=(∀c,c<U->c≠b->u ab c=u h c)/\U<=Y
def UpJ(b7 b al:Nat)(aO:ay Nat)(cap:Nat)(W:ac eW)(cs bC:ac X)(h:ae)(U:Nat)(m:Nat)(aJ:ac X)(ab:ae)(Y:Nat):Prop :=
 ∃(dr:ac eW),aJ=[tH b7,(m:X)]/\oR ab b7 b aO cap dr cs bC/\vb dr m/\m<dr.length/\dr.Perm W/\Bf b U h ab Y
def axY(b7 b:Nat)(aO:ay Nat)(cap:Nat)(W:ac eW)(cs bC:ac X)(h:ae)(U:Nat):bZ:=λr ab Y=>r = .tuple ⟨[]⟩/\∃dr,oR ab b7 b aO cap dr cs bC/\n2 dr/\dr.Perm W/\Bf b U h ab Y
theorem avI{s:ao}{h:ae}{U b7 al:Nat}{bC:ac X}(w:oR h b7 b aO cap W cs bC)(Em:vb W j)(cb:j<W.length)(br:W.length<=100000)(ok:mg h al W)(vq:al<=U)(Uc:al<=b)(rC:al<=b7)(a1:b<U)(t7:b7<U):
  aD Q s 258 [tH b7,(j:X)] h U (axY b7 b aO cap W cs bC h U):=by
 refine axi ?_;have fk:=w.ne;refine bF.mk (UpJ b7 b al aO cap W cs bC h U) j ⟨W,rfl,w,Em,cb,BV _,aa,J⟩ ?_;rintro m _ ab Y ⟨dr,rfl,V,A,bx,M,bD,dx⟩;have g:mg ab al dr:=(ok.F aa).perm M;rw[auM];unfold adF;have gT:=M.length_eq;obtain⟨y,E⟩:=dW bx;obtain⟨x,D⟩:=dW (l:=dr) (i:=eK m) (by unfold eK;omega);simp(disch:=omega)only[bk,axX (J:m<1000000000),azQ (J:m<=100000),ys Rc V.cell,seval];refine⟨λaq=>?_,λaq=>?_⟩
 ·have I:m=0:=by
   have:((eK m:Nat):Int)=(m:Int):=aa
   unfold eK at this;omega
  exact⟨rfl,dr,V,A.done J,M,bD,dx⟩
 ·have I:0<m:=by
   rcases zz m with e|e
   ·subst e;simp[eK]at aq
   omega
  refine(On  V.ct J J rfl E D (g.at E) (g.at D)).mono ?_;rintro r h1 bg ⟨rfl,B,fa⟩;have P:=Gz V B J J;simp(disch:=omega)only[bk,ys Re P.cell,seval];refine⟨λeZ=>?_,λZ=>?_⟩
  ·refine⟨rfl,dr,P,A.done λfD p4 _ tR SZ=>?_,M,λc ap aH=>(B c J).trans aa,J⟩
   grind
  ·refine(Oo P.ct rfl D E (g.at D).cell (g.at E).cell).mono ?_;rintro r ap _ ⟨rfl,fH,pM,rfl⟩;have rB:eK m<m:=by unfold eK;omega
   exact⟨eK m,rB,_,rfl,RM P fH (zU _ _ _ _ _) aa,A.step I D E Z,by rw[zU];omega,(Jt D E).trans M,λc aH bh=>by rw[pM c bh,B c J];grind,J⟩
def DnJ(b7 b n:Nat)(aO:ay Nat)(cap:Nat)(W:ac eW)(cs bC:ac X)(h:ae)(U:Nat)(m:Nat)(aJ:ac X)(ab:ae)(Y:Nat):Prop :=
 ∃(dr:ac eW) (i:Nat),m=n-i/\i<=n/\aJ=[tH b7,.int .i64 0,(n:X),(i:X)]/\oR ab b7 b aO cap dr cs bC/\uY dr n i/\dr.Perm W/\dr[n]? = W[n]?/\Bf b U h ab Y
def af3(b7 b n:Nat)(aO:ay Nat)(cap:Nat)(W:ac eW)(cs bC:ac X)(h:ae)(U:Nat):bZ:=λr ab Y=>∃dr,oR ab b7 b aO cap dr cs bC/\n2 (dr.take n)/\dr.Perm W/\dr[n]? = W[n]?/\Bf b U h ab Y
theorem api{s:ao}{h:ae}{U b7 n al:Nat}{bC:ac X}(w:oR h b7 b aO cap W cs bC)(BE:uY W n 0)(bw:W.length=n+1)(br:W.length<=100000)(ok:mg h al W)(vq:al<=U)(Uc:al<=b)(rC:al<=b7)(a1:b<U)(t7:b7<U):
  aD Q s 257 [tH b7,.int .i64 0,(n:X)] h U (af3 b7 b n aO cap W cs bC h U):=by
 refine ark ?_;have fk:=w.ne;refine bF.mk (DnJ b7 b n aO cap W cs bC h U) n ⟨W,0,rfl,J,rfl,w,BE,BV _,rfl,aa,J⟩ ?_;rintro m _ ab Y ⟨dr,i,rfl,aj,rfl,bc,P,bn,g,bD,dx⟩;have ok':mg ab al dr:=(ok.F aa).perm bn;rw[ang];unfold Y1;have gT:=bn.length_eq;obtain⟨x,aX⟩:=dW (l:=dr) (i:=i) J;have aW:(2:Int)*(i:Int)=((2*i:Nat):Int):=J
 have aP:IntKind.wrap .i64 ((2*i:Nat):Int)=((2*i:Nat):Int):=by rw[oS];omega
 refine u4 @zT @aW @aP (cF (J:2*i<1000000000000)) (cF (J:2*i+1<1000000000000)) ?_;have tail:∀(I:ae) (bg j:Nat) (y:eW),oR I b7 b aO cap dr cs bC->Bf b U h I bg->eK j=i->0<j->j<n->dr[j]? = some y->(∀(c:Nat) (z:eW),0<c->c<n->eK c=i->dr[c]? = some z->y.k<=z.k) ->
   fg Q s (mc Q I bg [(j:X),(i:X)] "Less" (tH b7)) λjF h21 LP=>af (ds .not jF) λmw=>bt mw (af (bin Q .gtr 3 (aT [tH b7,.int .i64 0,(n:X),(i:X)] 3) (aT [tH b7,.int .i64 0,(n:X),(i:X)] 1)) λpW=>af3 b7 b n aO cap W cs bC h U pW h21 LP) (fg Q s (mc Q h21 LP [(i:X),(j:X)] "Swap" (tH b7)) λo2 h25 n26 =>
    ∃bR,bR<n-i/\DnJ b7 b n aO cap W cs bC h U bR [tH b7,.int .i64 0,(n:X),(j:X)] h25 n26):=by
  intro I bg j y de M S3 Bg hjn cd Sp;have hij:i<j:=by unfold eK at S3;omega
  have fa:=M.2;have B:mg I al dr:=(ok.F λc a5=>M.1 c J J).perm bn;rw[ys Rc de.cell,yp];refine(On  de.ct J J rfl cd aX (B.at cd) (B.at aX)).mono ?_;rintro r Z bU ⟨rfl,dM,fx⟩;have dj:=Gz de dM J J;have pM:Bf b U h Z bU:=⟨λc I Z=>(dM c J).trans (M.1 c I Z),J⟩
  simp(disch:=omega)only[bk,ys Re dj.cell,seval];refine⟨λeZ=>?_,λA=>?_⟩
  ·refine⟨dr,dj,P.done λc fD p4 a5 AS w0 tR SZ=>?_,bn,g,pM⟩
   grind
  ·refine(Oo dj.ct rfl aX cd (B.at aX).cell (B.at cd).cell).mono ?_;rintro r aH _ ⟨rfl,pR,D,rfl⟩;refine⟨n-j,J,_,j,rfl,J,rfl,RM dj pR (zU _ _ _ _ _) aa,P.step Bg hjn S3 aX cd A Sp,(Jt aX cd).trans bn,?_,λc bh b0=>(D c b0).trans (pM.1 c bh b0),J⟩;rw[FP aX cd J,if_neg J,if_neg J];omega
 have aBm:∀c,0<c->eK c=i->c=2*i+1\/c=2*i+2:=λc a5 h=>(amL a5).1 h;refine⟨λeZ=>?_,λA=>?_⟩
 ·unfold Jx;refine aE ?_;exact⟨dr,bc,P.done aa,bn,g,bD,dx⟩
 ·rw[ht (J:¬((2*i+1:Nat):Int)<0)];unfold Jx;refine bf (cF (J:2*i+1<1000000000000)) ?_;obtain⟨b8,E⟩:=dW (l:=dr) (i:=2*i+1) J;refine⟨λZ=>?_,λZ=>?_⟩
  ·obtain⟨cN,V⟩:=dW (l:=dr) (i:=2*i+1+1) J;rw[ys Rc bc.cell,yp];refine(On  bc.ct J J rfl V E (ok'.at V) (ok'.at E)).mono ?_;rintro r aH b1 ⟨rfl,f1,gg⟩;have j2:=Gz bc f1 J J;have D:Bf b U h aH b1:=⟨λc I Z=>(f1 c J).trans aa,J⟩
   unfold Jw;rw[sx];refine⟨λbh=>tail aH b1 _ cN j2 D (by unfold eK;omega) J Z V aa,λbh=>tail aH b1 _ b8 j2 D (by unfold eK;omega) J A E aa⟩
   all_goals grind
  ·unfold Jw;rw[sx];refine⟨λbh=>absurd bh (by simp),λ_=>tail ab Y _ b8 bc ⟨bD,dx⟩ (by unfold eK;omega) J A E λc z a5 AS w0 dc=>?_⟩
   grind
theorem alB{y:X}:FG Tryz.prog 417 true (.iface 417 y) = .ok (.tuple ⟨[y,.bool true]⟩):=by show(bif zG Tryz.prog 417&&Nat.beq 417 417 then R.ok (oJ true y true)else .no "typeAssert")=_;rw[atf];rfl
def vf(h:ae)(b7:Nat)(bC:ac X)(W:ac eW)(dC:ay Nat):Prop:=(dC=none/\W=[]/\u h b7=some (.cells (.slice none 0 0::bC) false))\/∃b aO cap cs,dC=some b/\oR h b7 b aO cap W cs bC
def RN(b7:Nat)(bC:ac X)(dC:ay Nat)(U:Nat)(h:ae)(p:ac eW->Prop):bZ:=λr ab Y=>∃dr rS,vf ab b7 bC dr rS/\p dr/\(rS=dC\/∃cr,rS=some cr/\U<=cr/\cr<Y)/\U<=Y/\∀c,c<U->c≠b7->dC≠some c->u ab c=u h c
theorem af4{h:ae}{b7:Nat}{v g:X}{bC:ac X}(A:g1 g=true):iW (some (.cells (v::bC) false)) h b7 0 [g] = .ok (T h b7 (.cells (g::bC) false)):=by rw[Kw (by rw[ra,A];rfl) aa];rfl
theorem alC{s:ao}{h:ae}{U b7:Nat}{x:eW}{bC:ac X}(w:vf h b7 bC W dC)(a1:∀b,dC=some b->b<U)(t7:b7<U)(br:W.length<1000)(I:g1 x.v=true)(B:c7 x.v=[x.v]):
  aD Q s 525 [bb b7,.iface 417 (.agg ⟨[x.v,(x.w:X)]⟩)] h U (RN b7 bC dC U h λdr=>dr=W++[x]):=by
 refine apg ?_;unfold act;rw[alB];rcases w with⟨rfl,rfl,a5⟩|⟨b,aO,cap,cs,rfl,w⟩
 ·have g:u (T (T h U (.cells [.slice none 0 0,.int .i64 0] false)) U (.cells [x.v,(x.w:X)] false)) b7=some (.cells (.slice none 0 0::bC) false):=aa
  refine gX @g @I @B ?_;refine me  (enc:=λ_=>hx x)  (al:=U+1+1) (l:=[]) aa (λ_=>by rw[ra,I];rfl) J (.inl aa) J () (aR _ _ _) rfl J λd7 b0 V e7=>?_;rcases V with⟨aM,rfl⟩|⟨b,iB,fH,rfl,bd⟩
  ·simp at aM
  ·have M:u b0 b7=some (.cells (.slice none 0 0::bC) false):=aa
   rw[M];show _/\_/\af (iW (some (.cells (.slice none 0 0::bC) false)) b0 b7 0 [.slice (some ⟨b,0,some 2⟩) 1 1]) _;rw[af4 rfl];refine⟨J,rfl,[x],some b,.inr ⟨b,some 2,1,[],rfl,⟨aa,?_,rfl,aa,J⟩⟩,rfl,aa,J,λc h1 ap _=>?_⟩
   ·rw[ar J,bd];rfl
   grind
 ·have fk:=w.ne;have sJ:=a1 b rfl;have g:u (T (T h U (.cells [.slice none 0 0,.int .i64 0] false)) U (.cells [x.v,(x.w:X)] false)) b7=some (.cells (.slice (some ⟨b,0,aO⟩) W.length cap::bC) false):=by rw[ar J,ar J];exact w.cell
  refine gX @g @I @B ?_;obtain⟨E,D,A,P,ab,Y,aW,aP,cy,eE,ir,hA,gN,ur⟩:=aqL (h:=T (T (T h U (.cells [.slice none 0 0,.int .i64 0] false)) U (.cells [x.v,(x.w:X)] false)) (U+1) (.cells [x.v,(x.w:X)] false)) (U:=U+1+1) (b:=b)        (dQ:=0)  (by rw[ar J,ar J,ar J];exact w.ct) rfl w.len w.Hg J x I (aR _ _ _) rfl J;rw[aW];have Z:u ab b7=some (.cells (.slice (some ⟨b,0,aO⟩) W.length cap::bC) false):=aa
  have h4:E≠b7:=J
  show U+1+1<=Y/\_/\af (iW (u ab b7) ab b7 0 [.slice (some ⟨E,0,D⟩) (W.length+1) A]) _;rw[Z,af4 rfl];refine⟨hA,rfl,_,some E,.inr ⟨E,D,A,P,rfl,⟨?_,?_,cy,eE,h4⟩⟩,rfl,?_,J,aa⟩
  all_goals grind
theorem apj{s:ao}{h:ae}{U b7 n:Nat}{bC:ac X}(w:oR h b7 b aO cap W cs bC)(a1:b<U)(t7:b7<U)(V:W.length=n+1)(br:W.length<100000){al:Nat}(ok:mg h al W):
  aD Q s 524 [bb b7] h U (λr ab Y=>∃I,oR ab b7 b aO cap (W.take n) I bC/\Y=U+1/\∀c,c<U->c≠b7->u ab c=u h c):=by
 refine ate ?_;unfold aeG;have B:=w.ne;have e:IntKind.wrap .i64 ((W.length:Int)-1)=(n:Int):=by rw[oS];omega
 obtain⟨x,E⟩:=dW (l:=W) (i:=n) J;have tP:=w.len;have P:=(ok.at E).cell;have M:c7 x.v=[x.v]:=by obtain⟨_,_,_,_,_,_,_,Z,_⟩:=ok.at E;rw[Z];rfl
 have g:u (T (T h U (.cells [.slice none 0 0,.int .i64 0] false)) U (.cells [x.v,(x.w:X)] false)) b7=some (.cells (.slice (some ⟨b,0,aO⟩) W.length cap::bC) false):=by rw[ar J,ar J];exact w.cell
 have D:=aqM (b:=b) (aO:=aO) (n:=n) (cap:=cap) J;rw[V]at g e;have A:=w.cell;rw[V]at A;simp(disch:=omega)only[bk,A,e,w.ct,Kc E,P,M,g,D,seval];have jM:W=W.take n++[x]:=by
  have Z:W.take (n+1)=W.take n++[x]:=by rw[hq,E];rfl
  grind
 refine⟨J,hx x++cs,⟨aa,?_,?_,w.Hg,B⟩,aa⟩
 ·rw[ar B,ar J,ar J,w.ct]
  conv=>lhs;rw[jM]
  rw[sg,kq]
 grind
theorem apk{s:ao}{h:ae}{U b7 al:Nat}{x:eW}{bC:ac X}(w:vf h b7 bC W dC)(a1:∀b,dC=some b->al<=b/\b<U)(t7:b7<U)(rC:al<=b7)(vq:al<=U)(br:W.length<1000)(fp:n2 W)(ok:mg h al (W++[x])):
  aD Q s 171 [tH b7,.iface 417 (.agg ⟨[x.v,(x.w:X)]⟩)] h U (RN b7 bC dC U h λdr=>n2 dr/\dr.Perm (W++[x])):=by
 refine arf ?_;unfold adC;have g:=ok x aa;have Z:c7 x.v=[x.v]:=by obtain⟨_,_,_,_,_,_,_,P,_⟩:=g;rw[P];rfl
 rw[af1 avH,yp];refine(alC w aa t7 br g.cell Z).mono ?_;rintro r P bg ⟨dr,rS,M,rfl,aW,aP,cy⟩;rcases M with⟨_,aq,_⟩|⟨A,sp',B,rz,rfl,M⟩
 ·simp at aq
 have I:al<=A/\A<bg:=aa
 rw[ys af0 M.cell,yp];refine Qh.mono ?_;rintro r _ _ ⟨rfl,gB,e1⟩;rw[gB,e1];have D:(W++[x]).length=W.length+1:=by simp
 rw[D];have e:IntKind.wrap .i64 (((W.length+1:Nat):Int)-1)=(W.length:Int):=by rw[oS];omega
 refine bf @e ?_;have ok1:mg P al (W++[x]):=ok.F aa;refine(avI M (vb.push  fp) J J ok1 J I.1 rC I.2 J).mono ?_;rintro r ap bU ⟨rfl,dr,dj,nb,V,E⟩;have fx:=E.2;refine⟨dr,some A,.inr ⟨A,sp',B,rz,rfl,dj⟩,⟨nb,V⟩,?_,J,λc P ap aH=>?_⟩
 ·grind
 ·have hcb:c≠A:=aa
  exact(E.1 c J hcb).trans aa
theorem atg{s:ao}{h:ae}{U b7 al:Nat}{p:eW}{bC:ac X}(w:oR h b7 b aO cap W cs bC)(a1:b<U)(Uc:al<=b)(t7:b7<U)(rC:al<=b7)(vq:al<=U)(br:W.length<1000)(fp:n2 W)(ok:mg h al W)(iy:W[0]? = some p):
  aD Q s 170 [tH b7] h U (λr ab Y=>∃rz dr,oR ab b7 b aO cap dr rz bC/\n2 dr/\(p::dr).Perm W/\U<=Y/\∀c,c<U->c≠b->c≠b7->u ab c=u h c):=by
 refine auK ?_;unfold afk;have fk:=w.ne;obtain⟨n,bw⟩:∃n,W.length=n+1:=⟨W.length-1,aa⟩
 obtain⟨q,E⟩:=dW (l:=W) (i:=n) J;have g:=w.cell;rw[ys af0 g,yp];refine Qh.mono ?_;rintro r fo i6 ⟨rfl,aW,aP⟩;rw[aW,aP];have e:IntKind.wrap .i64 ((W.length:Int)-1)=(n:Int):=by rw[oS];omega
 simp(disch:=omega)only[bk,e,ys Re g,seval];have qJ:aD Q s 526 [.slice (some ⟨b,0,aO⟩) W.length cap,((0:Nat):X),(n:X)] h U _:=Oo  w.ct rfl iy E (ok.at iy).cell (ok.at E).cell;refine qJ.mono ?_;rintro r V _ ⟨rfl,iB,w3,rfl⟩;have de:=RM w iB (zU _ _ _ _ _) aa;have I:mg V al (sL W 0 n p q):=(ok.F aa).perm (Jt iy E);refine(api de (uY.pop fp bw iy E) (by rw[zU];omega) (by rw[zU];omega) I vq Uc rC a1 t7).mono ?_;rintro r Z bU ⟨A,dj,nb,B,tN,D⟩;have fx:=D.2;rw[af1 axW,yp];have M:=B.length_eq;rw[zU]at M;have ok2:mg Z al A:=(I.F λc a5=>D.1 c J J).perm B;refine(apj (n:=n) dj J J J J ok2).mono ?_;rintro r aH _ ⟨Bb,j2,rfl,w4⟩;refine⟨Bb,A.take n,j2,nb,?_,J,λc V Z aH=>by rw[w4 c J aH,D.1 c V Z,w3 c Z]⟩
 by_cases lg:n=0
 ·subst lg;rw[s8];have:W=[p]:=by
   match W,bw,iy with
   | [a],_,h=>grind
  rw[this]
 have aX:A[n]? = some p:=by rw[tN,FP iy E J,if_pos rfl]
 have jM:A=A.take n++[p]:=by
  have V:A.take (n+1)=A.take n++[p]:=by rw[hq,aX];rfl
  grind
 have P:(p::A.take n).Perm (A.take n++[p]):=(List.perm_append_comm  (l₂:=[p])).symm;rw[<-jM]at P;exact(P.trans B).trans (Jt iy E)
def mx{aB:Type}(h:ae)(U:Nat)(v:X)(enc:aB->ac X)(k:Nat)(l:ac aB):Prop :=
 ∃a c,v = .slice a l.length c/\(l≠[]->∃b o aO bL cs,b<U/\a=some ⟨b,o,aO⟩/\aO≠some 0/\l.length<=c/\u h b=some (.cells cs bL)/\o+l.length*k<=cs.length/\(cs.drop o).take (l.length*k)=a7 enc l)
section
variable {aB:Type} {h ab:ae} {U Y k:Nat} {v:X} {enc:aB->ac X} {l:ac aB}
theorem mx.o(H:mx h U v enc k l):ep h U v enc k l:=by obtain⟨a,c,e,H⟩:=H;exact⟨a,c,e,λg=>aa⟩
theorem mx.F(H:mx h U v enc k l)(B:∀c,c<U->u ab c=u h c)(A:U<=Y):mx ab Y v enc k l:=by obtain⟨a,c,e,H⟩:=H;exact⟨a,c,e,λg=>aa⟩
theorem dX.c{al aj:Nat}(D:0<k)(g:∀x,(enc x).length=k)(H:dX h v enc k l al aj):mx h aj v enc k l:=by
 rcases H with⟨rfl,rfl⟩|⟨b,E,B,rfl,A⟩
 ·exact⟨_,_,rfl,λh=>absurd rfl h⟩
 ·exact⟨_,_,rfl,λ_=>⟨b,0,some k,false,_,B,rfl,aa,J,A,by rw[fX g];omega,by rw[nr,q3 (by rw[fX g];omega)]⟩⟩
theorem mx.tail{x:aB}(hk:∀x,(enc x).length=k)(H:mx h U v enc k (x::l)):∃w,g5 k v (some (.int .i64 1)) none none = .ok w/\mx h U w enc k l:=by
 obtain⟨a,c,rfl,H⟩:=H;obtain⟨b,o,aO,bL,cs,h1,rfl,D,P,V,M,A⟩:=H (by simp);have g:(x::l).length=l.length+1:=rfl;rw[g]at P M A;show ∃w,g5 k (.slice (some ⟨b,o,aO⟩) (l.length+1) c) (some (.int .i64 1)) none none = .ok w/\_;have e:g5 k (.slice (some ⟨b,o,aO⟩) (l.length+1) c) (some (.int .i64 1)) none none=nZ k (some ⟨b,o,aO⟩) c false c (l.length+1) 1:=rfl;rw[e];clear e;unfold nZ;rw[show(Nat.ble c c&&(Nat.ble (l.length+1) c&&Nat.ble 1 (l.length+1)))=true by simp;omega];unfold uW
 by_cases e:c=1
 ·have I:l=[]:=by
   cases l with
   |nil=>rfl
   |cons y l=>grind
  subst I;subst e;unfold k4 zQ wS Li;cases aO with
  |none=>exact⟨.slice (FD (some ⟨b,o,none⟩) 0 false) 0 0,by simp,_,_,rfl,λh=>absurd rfl h⟩
  |some q =>
   cases q with
   |zero=>exact absurd rfl D
   |succ q=>exact⟨.slice (some ⟨b,o,some 0⟩) 0 0,by simp,_,_,rfl,λh=>absurd rfl h⟩
 ·have B:Nat.beq c 1=false:=by
   cases B:Nat.beq c 1 with
   |true=>exact absurd (gE B) e
   |false=>rfl
  rw[B];refine⟨_,rfl,some ⟨b,o+1*k,aO⟩,c-1,rfl,λE=>⟨b,_,aO,bL,cs,h1,rfl,D,J,V,?_,?_⟩⟩
  ·grind
  ·rw[xR,s9]at A;have Z:(cs.drop o).take (l.length*k+k)=enc x++a7 enc l:=A;have iG:((cs.drop o).drop k).take (l.length*k)=a7 enc l:=by
    have:=congrArg (λz=>z.drop k) Z
    grind
   rw[s9,<-xO];omega
end
theorem alD{s:ao}{l:ac (Nat × Int)}{v:X}{h:ae}{U:Nat}(V:ep h U v eP 3 l)(br:l.length<1000000)(eI:l.Pairwise λx y=>x.1<y.1):aD Q s 327 [v] h U (fs (.bool true) U h):=by
 refine anj ?_;unfold abj;obtain⟨a9,cap,rfl,a5⟩:=id V;refine aE ?_;refine bF.mk (λm aJ ab Y=>∃i,m=l.length-i/\i<=l.length/\aJ=[.slice a9 l.length cap,.bool false,(l.length:X),(i:X)]/\ab=h/\Y=U) l.length ⟨0,J,J,rfl,rfl,rfl⟩ ?_;rintro _ _ ap bU ⟨i,rfl,aj,rfl,gB,e1⟩;rw[akw,gB,e1];unfold XG;refine aE ?_;refine⟨λZ=>?_,λeZ=>⟨rfl,rfl,rfl⟩⟩;obtain⟨b,o,aO,bL,cs,P,a1,aW,bd,g⟩:=V.all (λ_=>rfl) aa;cases aW;have fin:∃M,M<l.length-i/\∃A,M=l.length-A/\A<=l.length/\[Value.slice (some ⟨b,o,aO⟩) l.length cap,.bool false,(l.length:X),.int .i64 (IntKind.wrap .i64 ((i:Int)+1))]=[.slice (some ⟨b,o,aO⟩) l.length cap,.bool false,(l.length:X),(A:X)]:=⟨_,J,i+1,rfl,J,by rw[cF J]⟩
 refine⟨λbn=>?_,λ_=>fin⟩;obtain⟨j,rfl⟩:∃j,i=j+1:=⟨i-1,J⟩
 obtain⟨p,E⟩:=dW (l:=l) (i:=j) J;obtain⟨q,D⟩:=dW   J;have I:=(g j p E).2 0 _ J rfl;have c2:=(g (j+1) q D).2 0 _ J rfl;rw[mM]at I c2;have B:p.1<q.1:=by
  rw[xL]at eI
  grind
 have cz:IntKind.wrap .i64 (((j+1:Nat):Int)-1)=(j:Int):=by rw[oS];omega
 refine ll @cz @bd @I @c2 ?_;exact⟨λh=>absurd B h,λ_=>fin⟩
def La(v:X)(w:Nat)(l:ac (Nat × Int)):eW:=⟨v,w,(((l.getD 0 (0,0)).1:Nat):Int)*1000+(w:Int),l.length-1,l⟩
def y6(h:ae)(al:Nat)(x:eW):Prop:=mx h al x.v eP 3 x.l/\x.l≠[]/\x.w<1000/\x=La x.v x.w x.l/\x.l.Pairwise λa b=>a.1<b.1
theorem y6.F{h ab:ae}{al:Nat}{x:eW}(H:y6 h al x)(g:∀c,c<al->u ab c=u h c):y6 ab al x:=⟨H.1.F g J,H.2⟩
theorem y6.ok{h:ae}{al:Nat}{x:eW}(H:y6 h al x):ve h al x:=by
 obtain⟨M,g,E,e,_⟩:=H;obtain⟨b,o,aO,bL,cs,cap,B,V,I,A⟩:=M.o.all (λ_=>rfl) g;cases D:x.l with
 |nil=>exact absurd D g
 |cons p l =>
  have Z:=(A 0 p aa).2 0 _ J rfl;have P:x.n=l.length:=by rw[e];show x.l.length-1=_;grind
  have cz:x.k=(p.1:Int)*1000+(x.w:Int):=by rw[e];show(((x.l.getD 0 (0,0)).1:Nat):Int)*1000+(x.w:Int)=_;grind
  refine⟨b,o,aO,bL,cs,cap,p.1,?_,B,I,?_,cz,E⟩
  all_goals grind
def pH(h:ae)(al:Nat)(W:ac eW):Prop:=∀x∈W,y6 h al x
theorem pH.ok{h:ae}{al:Nat}{W:ac eW}(H:pH h al W):mg h al W:=λx g=>(H x g).ok
theorem pH.F{h ab:ae}{al:Nat}{W:ac eW}(H:pH h al W)(g:∀c,c<al->u ab c=u h c):pH ab al W:=λx A=>(H x A).F g
theorem pH.perm{h:ae}{al:Nat}(H:pH h al W)(p:dr.Perm W):pH h al dr:=λx g=>H x aa
def left(W:ac eW):ac (Nat × Int):=W.flatMap (·.l)
theorem X6(h:dr.Perm W):(left dr).Perm (left W):=h.flatMap_right _
theorem apl:n2 ([]:ac eW):=⟨aa⟩
def nc(h:ae)(v:X)(l:ac (Nat × Int))(aY:ay Nat):Prop:=(l=[]/\v = .slice none 0 0/\aY=none)\/∃b,aY=some b/\v = .slice (some ⟨b,0,some 3⟩) l.length l.length/\u h b=some (.cells (a7 eP l) false)
theorem nc.F{h ab:ae}{v:X}{l:ac (Nat × Int)}{g:ay Nat}(H:nc h v l g)(D:∀b,g=some b->u ab b=u h b):nc ab v l g:=by
 rcases H with H|⟨b,B,A,E⟩
 ·exact .inl H
 ·exact .inr ⟨b,B,A,aa⟩
theorem acv{s:ao}{h:ae}{U b7 al w:Nat}{v:X}{l:ac (Nat × Int)}{bC:ac X}(H:vf h b7 bC W dC)(a1:∀b,dC=some b->al<=b/\b<U)(V:b7<U)(M:al<=b7)(Z:al<=U)(br:W.length<1000)(fp:n2 W)(eo:pH h al W)(aI:mx h al v eP 3 l)(bV:w<1000)(eI:l.Pairwise λa b=>a.1<b.1):
  aD Q s 328 [bb b7,v,(w:X)] h U (RN b7 bC dC U h λdr=>n2 dr/\(left dr).Perm (left W++l)/\dr.length<=W.length+1/\(∀ab,(∀c,c<al->u ab c=u h c)->pH ab al dr)):=by
 refine auP ?_;unfold afm;obtain⟨a,c,rfl,Mc⟩:=id aI;refine aE ?_;refine⟨λvp=>?_,λdx=>?_⟩
 ·have I:l≠[]:=aa
  have aX:y6 h al (La (.slice a l.length c) w l):=⟨aI,I,bV,rfl,eI⟩
  have g:pH h al (W++[La (.slice a l.length c) w l]):=λx E=>by
   rcases hs.1 E with A|A
   ·exact eo x A
   ·rw[jl.1 A];exact aX
  refine(apk  H a1 V M Z br fp g.ok).mono ?_;rintro r A bg ⟨dr,B,bc,⟨D,bn⟩,aW,aP,cy⟩;refine⟨dr,B,bc,⟨D,?_,?_,λab P=>(g.F P).perm bn⟩,aW,aP,cy⟩
  ·have:=X6 bn;unfold left at this ⊢;rw[IH]at this;simpa[La]using this
  ·rw[bn.length_eq];simp
 ·have:l=[]:=by
   cases l with
   |nil=>rfl
   |cons p l=>grind
  subst this;refine⟨W,dC,H,⟨fp,by simp,J,λab P=>eo.F P⟩,aa,J,aa⟩
def GP(h:ae)(U al b7:Nat)(r:Int)(W:ac eW)(O:ac (Nat × Int))(dC:ay Nat):Prop:=∃out aY,vf h b7 [(r:X),out] W dC/\n2 W/\pH h al W/\nc h out O aY/\(∀b,dC=some b->al<=b/\b<U)/\(∀b,aY=some b->al<=b/\b<U/\b≠b7/\dC≠some b)
end Go.Proofs.YthlhhajnbgjfmaaGreat
