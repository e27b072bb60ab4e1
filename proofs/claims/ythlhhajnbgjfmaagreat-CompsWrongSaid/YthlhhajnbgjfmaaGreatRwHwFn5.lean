/- Parts of the proof: HwFn5: each statement bears its own conditions. -/
import Derived.Test.YthlhhajnbgjfmaaGreatRwHwFn4
namespace Go.Proofs.YthlhhajnbgjfmaaGreat
open Go Go.Ax Go.Ax.HdH
set_option linter.all false
set_option maxHeartbeats 1000000
set_option maxRecDepth 1000000
variable {af:aa GE} {cs:aa X} {W:aa e6} {aO:av Nat} {a b cap j m r cS:Nat} {w:X} {p:Nat × Int} {cj:Nat} {dl:aa e6} {cV:av Nat} {K:X->ad->Nat->Prop} {L:aa (Nat × Int)} {bC:ak} {R C eY:Nat} {S:ad->Nat->Prop} {q:Nat->ak} {en:X} {d7:Nat} {N:aH} {a2 bf aZ aV:X} {aF:aH} {G:Nat} {y:e6}
def sr(a:Nat)(p:Nat × Int):Nat × Int:=(a+p.1,p.2)
theorem yZ(a:Nat)(f:Nat->av Int):∀b,bn (a+b) f=bn a f++(bn b λk=>f (a+k)).map (sr a)
 |0=>by simp[avY]
 |b+1=>by
  rw[show a+(b+1)=(a+b)+1 from rfl,uh,yZ a f b,uh,hN,kB];cases h:f (a+b) <;> simp[sr]
theorem Ls{n k:Nat}{f:Nat->av Int}{x:Int}(D:a<=n)(h:(bn n f)[j]? = some (k,x)):k<a↔j<(bn a f).length:=by
 obtain⟨b,rfl⟩:∃b,n=a+b:=⟨n-a,J⟩
 rw[yZ]at h;constructor
 ·intro E;rcases jH j (bn a f).length with g|g
  ·omega
  ·rw[vf g,sS,mw]at h;obtain⟨p,_,A⟩:=h;unfold sr at A
   grind
 ·intro B;rw[sP B]at h;exact(w3 h).1
theorem RT{s:ak}{a b:Int}{h:ad}{U:Nat}:aD Q s 242 [(a:X),(b:X)] h U (fm (.int .i64 (gb a b)) U h):=by
 have g:∀{n:Int} {K:bD},K (.bool false) h U->aD Q s 345 [(n:X)] h U K:=λ{n K} hk=>by refine bS ?_;simp(disch:=omega)only[bd,nN,seval];exact hk
 refine bS ?_;unfold gb;refine g (g ?_);refine aB ?_;refine⟨λA=>?_,λA=>⟨λB=>?_,λB=>?_⟩⟩
 ·rw[if_pos A];exact⟨rfl,rfl,rfl⟩
 ·rw[if_neg J,if_pos J];exact⟨rfl,rfl,rfl⟩
 ·rw[if_neg J,if_neg J];exact⟨rfl,rfl,rfl⟩
theorem Z6{s:ak}{x:Nat × Int}{a:Int}{h:ad}{U:Nat}:aD Q s 486 [.agg ⟨fV x⟩,(a:X)] h U (cI (.int .i64 (gb (x.1:Int) a)) U h):=by refine bS ?_;unfold fV;refine aB ?_;refine RT.mono ?_;rintro _ _ _ ⟨rfl,rfl,rfl⟩;exact⟨rfl,aC,J⟩
def BsJ(l:aa (Nat × Int))(v cY hb:X)(a:Nat)(ap:ad)(aX:Nat)(m:Nat)(aE:aa X)(ac:ad)(Y:Nat):Prop :=
 ∃ao ai:Nat,m=ai-ao/\ao<=ai/\ai<=l.length/\aE=[v,cY,hb,(l.length:X),(ao:X),(ai:X)]/\(∀j k x,l[j]? = some (k,x)->j<ao->k<a)/\(∀j k x,l[j]? = some (k,x)->ai<=j->a<=k)/\az aX ap ac/\aX<=Y
theorem QI{s:ak}{n:Nat}{v:X}{x:Nat->av Int}{h:ad}{U:Nat}(aI:kn h U v n x)(bm:n<=4096)(dg:a<=n):
  aD Q s 458 [v,(a:X)] h U (λr ac Y=>∃b,r = .tuple ⟨[.int .i64 ((bn a x).length:Int),.bool b]⟩/\(a<n->b=(x a).isSome)/\az U h ac/\U<=Y):=by
 refine ass ?_;obtain⟨gW,rfl,ar⟩:=aI;obtain⟨bp,cap,rfl,aU⟩:=id ar;unfold afE;refine aB ?_;have gA:=my n x;have bF:∀{o},az U h (F h U o):=aC
 refine(aic (K:=λr ac Y=>∃b,r = .tuple ⟨[.int .i64 ((bn a x).length:Int),.bool b]⟩/\(a<n->b=(x a).isSome)/\az U h ac/\U<=Y) ?_).mono ?_
 ·unfold XP;refine aB ?_;refine bq.mk (BsJ (bn n x) (.slice bp (bn n x).length cap) (a:X) (.func (.func 486) ⟨[]⟩ ⟨[]⟩) a h U) (bn n x).length ⟨0,(bn n x).length,rfl,J,J,rfl,J,ab,bF,J⟩ ?_;rintro _ _ h1 a6 ⟨ao,ai,rfl,Z,hhi,rfl,D,ft,hk,ru⟩;have nu:=ar.T hk ru;rw[aib];unfold XO;refine aB ?_;refine⟨λci=>?_,λeh=>?_⟩
  ·have e8:IntKind.wrap .i64 ((ao:Int)+(ai:Int))=((ao+ai:Nat):Int):=by rw[<-wH];exact js _ J
   have V0:IntKind.wrap .u64 ((ao+ai:Nat):Int)=((ao+ai:Nat):Int):=DF J;have ew3:IntKind.wrap .i64 (((ao+ai) / 2:Nat):Int)=(((ao+ai) / 2:Nat):Int):=js _ J;obtain⟨⟨k,y⟩,g⟩:=dk (l:=bn n x) (i:=(ao+ai) / 2) J;obtain⟨b,o,aO,bC,cs,P,aG,aY,a5,E⟩:=nu.ld (λ_=>rfl) g;cases aY;refine Bc @e8 @V0 @Qg @ew3 @a5 @E ?_;refine Z6.mono ?_;rintro _ al bH ⟨rfl,dE,V⟩;have ek:=hk.trans dE J;unfold gb
   by_cases hka:k<a
   ·rw[if_pos J];refine a9 (cn (J:(ao+ai) / 2<1000000000000)) ?_;refine⟨?_,λh=>absurd trivial h⟩;refine⟨_,?_,(ao+ai) / 2+1,ai,rfl,J,hhi,rfl,λj dp qC M IZ=>?_,ft,ek,J⟩
    ·omega
    ·by_cases I:j<(ao+ai) / 2
     ·have:=vO M g I;omega
     grind
   ·rw[if_neg J];refine aB ?_;refine⟨λaU=>by exfalso;omega,λ_=>?_⟩;refine⟨_,?_,ao,(ao+ai) / 2,rfl,J,J,rfl,D,λj dp qC M IZ=>?_,ek,J⟩
    ·omega
    ·by_cases I:(ao+ai) / 2<j
     ·have:=vO g M I;omega
     grind
  ·have:ai=ao:=J
   subst this;have B:ai=(bn a x).length:=by
    rcases Au ai (bn a x).length with aM|aM|aM
    ·obtain⟨⟨k,y⟩,g⟩:=dk (l:=bn n x) (i:=ai) (by
      have:(bn a x).length<=(bn n x).length:=by
       obtain⟨b,rfl⟩:∃b,n=a+b:=⟨n-a,J⟩
       rw[yZ,jb];omega
      omega)
     have bc:=ft ai k y g (cB _);have bP:=(Ls dg g).2 aM;omega
    ·omega
    ·obtain⟨⟨k,y⟩,g⟩:=dk (l:=bn n x) (i:=(bn a x).length) J;have bc:=D _ k y g aM;have bP:=(Ls dg g).1 bc;omega
   rw[B]at D ft hhi;rw[B];have here:∀k y,(bn n x)[(bn a x).length]? = some (k,y)->a<n->(x a).isSome=decide (k=a):=λk y g A=>by
    have bc:=ft _ k y g (cB _)
    by_cases e:k=a
    ·subst e;rw[(w3 g).2];simp
    ·cases aR:x a with
     |none=>grind
     |some z =>
      exfalso;obtain⟨j,M⟩:=FB.1 (kl.2 ⟨A,aR⟩);have bP:¬j<(bn a x).length:=ab
      by_cases b9:j=(bn a x).length
      ·grind
      ·have:=vO g M J;omega
   refine⟨λbg=>?_,λbg=>?_⟩
   ·obtain⟨⟨k,y⟩,g⟩:=dk   J;obtain⟨b,o,aO,bC,cs,P,aG,aY,a5,E⟩:=nu.ld (λ_=>rfl) g;cases aY;refine cx @a5 @E ?_;refine Z6.mono ?_;rintro _ al bH ⟨rfl,dE,V⟩;refine aB ?_;refine⟨_,rfl,λA=>?_,aC,J⟩;rw[here k y g A];unfold gb
    grind
   ·refine⟨false,rfl,λA=>?_,hk,ru⟩;cases aR:x a with
    |none=>rfl
    |some z =>
     exfalso;obtain⟨j,M⟩:=FB.1 (kl.2 ⟨A,aR⟩)
     grind
 ·rintro _ al bH ⟨b,rfl,aG,hk,Z⟩;refine aB ?_;exact⟨b,rfl,aG,hk,Z⟩
theorem ast{s:ak}{n:Nat}{v:X}{x:Nat->av Int}{h:ad}{U:Nat}(aI:kn h U v n x)(bm:n<=4096)(dg:a<n):
  aD Q s 401 [v,(a:X)] h U (cI (.tuple ⟨[.int .i64 ((x a).getD 0),.bool (x a).isSome]⟩) U h):=by
 refine bS ?_;have A:=aI;obtain⟨gW,rfl,ar⟩:=aI;obtain⟨bp,cap,rfl,aU⟩:=id ar;refine aB ?_;have bF:∀{o},az U h (F h U o):=aC
 refine(K1 (A.T bF J) bm).mono ?_;rintro _ h1 a6 ⟨rfl,hk,dr⟩;have b7:=hk U J;rw[aN]at b7;refine a9 @b7 ?_;have cD:∀{o},az U h (F h1 U o):=aC
 refine(QI (A.T cD J) bm J).mono ?_;rintro _ al bH ⟨b,rfl,D,B,e9⟩;have D:=D dg;subst D;have g2:=B U J;rw[aN]at g2;have M:=cD.trans B J;cases aR:x a with
 |none =>
  simp(disch:=omega)only[bd,CO,seval];exact⟨rfl,M,J⟩
 |some y =>
  obtain⟨j,E⟩:=FB.1 (kl.2 ⟨dg,aR⟩);have bP:¬j<(bn a x).length:=λP=>by have:=(Ls J E).2 P;omega
  have P:j=(bn a x).length:=by
   by_cases dL:(bn a x).length<j
   ·obtain⟨⟨k,z⟩,V⟩:=dk (l:=bn n x) (i:=(bn a x).length) ab;have h7:=vO V E dL;have hR:=(Ls J V).1 h7;omega
   omega
  subst P;obtain⟨b,o,aO,bC,cs,Z,D,aY,a5,g⟩:=(ar.T M (Y:=bH) J).ld (λ_=>rfl) E;cases aY;have ci:=(gE.1 E).1;have I:cs[o+(bn a x).length*2+1]? = some (y:X):=by
   rw[qR]at g
   split at g
   ·injection g with g
    injection g with g
    have hR:=congrArg (λl:Array X=>l.toList[1]?) g;simp[fV]at hR;omega
   grind
  simp(disch:=omega)only[bd,OR,g2,a5,I,seval];exact⟨rfl,M,J⟩
theorem tyI:nQ Q 95=true:=by kernel_rfl
theorem CX{s:ak}{h:ad}{U:Nat}{v:X}{l:aa (Nat × Int)}(B:eu h U v fV 2 l)(E:l.length<10000):
  aD Q s 217 [v] h U (λr ac Y=>i4 ac U Y r fV 2 l/\az U h ac/\U<=Y):=by refine bS ?_;exact adU (K:=λr ac Y=>i4 ac U Y r fV 2 l/\az U h ac/\U<=Y) B (λ_=>rfl) J J tyI λr ac Y D g A=>⟨D,g,A⟩
theorem Tx{aA:Type}{enc:aA->aa X}{k:Nat}(g:∀x,(enc x).length=k)(D:∀x,ec (enc x)=true){h:ad}{i:Nat}{l:aa aA}{y:aA}(ai:i<l.length):jg (some (.cells (a1 enc l) false)) h b (i*k) (enc y) = .ok (F h b (.cells (a1 enc (l.set i y)) false)):=by have A:=Qj g [] y l i ai;rw[hM,hM]at A;have E:=ga g l;have B:(i+1)*k<=l.length*k:=pU k ai;rw[yN]at B;rw[LY (D y) ab,g,A]
def ayo(hb:X)(a:av Addr)(cap cS V1 n:Nat)(l:aa (Nat × Int))(g:Nat × Int->Nat × Int)(U aX:Nat)(ap:ad)(m:Nat)(aE:aa X)(ac:ad)(Y:Nat):Prop :=
 ∃i,m=l.length-i/\i<=l.length/\aE=[hb,bb cS,bb V1,.slice a l.length cap,(l.length:X),(i:X)]/\u ac V1=some (.cells [(n:X),.slice a l.length cap] false)/\u ac cS=some (.cells [.int .i64 0,.slice none 0 0] false) /\
  (l≠[]->∃b,U+1<b/\b<V1/\a=some ⟨b,0,some 2⟩/\u ac b=some (.cells (a1 fV ((l.take i).map g++l.drop i)) false))/\az U ap ac/\aX<=Y
theorem abU{s:ak}{n:Nat}{x:Nat->av Int}{v:X}{g:Nat × Int->Nat × Int}{h:ad}{U:Nat}(aI:kn h U v n x)(bm:n<=4096)(bx:∀p h1 a6,p∈bn n x->az U h h1->U<=a6->aD Q true d7 (.agg ⟨fV p⟩::cs) h1 a6 (cI (.agg ⟨fV (g p)⟩) a6 h1)):
  aD Q s 445 [v,.func (.func d7) ⟨[]⟩ ⟨cs⟩] h U (λr ac Y=>∃w,r = .agg ⟨[(n:X),w]⟩/\eZ ac U Y w fV ((bn n x).map g)/\az U h ac/\U<=Y):=by
 refine asq ?_;have kR:=aI;obtain⟨gW,rfl,ar⟩:=aI;obtain⟨bp,cap,rfl,aU⟩:=id ar;have gA:=my n x;have bF:∀{o aW},az U h (F (F h U o) (U+1) aW):=aC
 unfold afD;refine aB ?_;refine(K1 (kR.T bF J) bm).mono ?_;rintro _ h1 a6 ⟨rfl,I,fp⟩;have b7:=I U J;rw[aq J,aN]at b7;have dK:=I (U+1) J;rw[aN]at dK;refine a9 @b7 ?_;have cD:∀{o},az U h (F h1 U o):=aC
 refine(CX (ar.T cD  J) J).mono ?_;rintro _ al bH ⟨he,V,M⟩;obtain⟨a,c2,rfl⟩:=he.form;have EU:=V U J;rw[aN]at EU;have B0:=V (U+1) J;rw[aq J,dK]at B0;refine⟨M,?_⟩;refine a9 @EU ?_;generalize bn n x=l at *
 have ez:∀{o aW},az U h (F (F al bH o) bH aW):=aC
 refine bq.mk (ayo (.func (.func d7) ⟨[]⟩ ⟨cs⟩) a c2 (U+1) bH n l g U (bH+1) h) l.length ⟨0,J,J,rfl,ab,ab,λeg=>?_,ez,J⟩ ?_
 ·rcases he with⟨e,_⟩|⟨b,de,bO,d6,g3⟩
  ·grind
  ·cases d6;exact⟨b,J,J,rfl,by rw[aq J,aq J];grind⟩
 rintro _ _ aM bR ⟨i,rfl,ai,rfl,E,P,aG,ek,hr⟩;rw[aoO];unfold abR;refine aB ?_;refine⟨λci=>?_,λeh=>?_⟩
 ·obtain⟨y,ca⟩:=dk   J;obtain⟨b,de,bO,rfl,D⟩:=aG ab;have hyy:((l.take i).map g++l.drop i)[i]? = some y:=ab
  have jY:hF (some 2) (i*2) (a1 fV ((l.take i).map g++l.drop i)) = .ok (.agg ⟨fV y⟩):=x1  (k:=2) (λ_=>rfl) hyy;refine cx @D @jY ?_;rw[show fV y=[(y.1:X),(y.2:X)]from rfl];refine aB ?_;have hT:∀{o aW},az U h (F (F aM bR o) bR aW):=aC
  refine(bx y _ _ ab hT J).mono ?_;rintro _ bc d4 ⟨rfl,A,Z⟩;have B:=A bH J;rw[aq J,aq J,E]at B;have ayp:=A (U+1) J;rw[aq J,aq J,P]at ayp;have gb':=A b J;rw[aq J,aq J,D]at gb';refine⟨Z,?_⟩;have uC:((l.take i).map g++l.drop i).length=l.length:=ab
  simp(disch:=omega)only[bd,B,E,gb',Tx (enc:=fV) (k:=2) (λ_=>rfl) (λ_=>rfl) (J:i<((l.take i).map g++l.drop i).length),cn (J:i<1000000000000),seval];refine⟨rfl,l.length-(i+1),J,i+1,rfl,J,rfl,ab,ab,λ_=>⟨b,de,bO,rfl,?_⟩,(hT.trans A J).set J,J⟩;rw[aN];have e:((l.take i).map g++l.drop i).set i (g y)=(l.take (i+1)).map g++l.drop (i+1):=by
   have bu:l.drop i=y::l.drop (i+1):=by
    rw[Am (by omega:i<l.length)]
    grind
   rw[bu,JW _ _ ab,g5,ox,CR J,wL,gQ,ca];simp
  rw[e]
 ·have:i=l.length:=J
  subst this;refine cx @E @P ?_;refine⟨_,rfl,⟨a,c2,ab,λeg=>?_⟩,ek.set J,J⟩;obtain⟨b,de,bO,rfl,D⟩:=aG (λe=>eg ab)
  grind
def qd(h:ad)(ao ai:Nat)(v:X)(n:Nat)(x:Nat->av Int):Prop:=∃gW,v = .agg ⟨[(n:X),gW]⟩/\i4 h ao ai gW fV 2 (bn n x)
section
variable {h ac:ad} {U Y ao ai ed da n:Nat} {v:X} {x:Nat->av Int}
theorem qd.gI(H:qd h ao ai v n x):lJ h ao ai v n x:=by obtain⟨g,e,A⟩:=H;exact⟨g,e,A.gI⟩
theorem qd.is(H:qd h ao ai v n x):kn h ai v n x:=H.gI.is
theorem qd.T(H:qd h ao ai v n x)(D:∀b,ao<=b->b<ai->u ac b=u h b)(E:ed<=ao)(g:ai<=da):qd ac ed da v n x:=by obtain⟨A,e,B⟩:=H;exact⟨A,e,B.T D E g⟩
end
theorem i4.cut{aA:Type}{h:ad}{ao ai k:Nat}{v:X}{enc:aA->aa X}{l:aa aA}(M:∀x,(enc x).length=k)(EE:0<k)(H:i4 h ao ai v enc k l){i:Nat}(h1:i<=j)(E:j<=l.length):
  ∃w,iY k v (some (i:X)) (some (j:X)) none = .ok w/\eu h ai w enc k ((l.drop i).take (j-i)):=by
 have g:((l.drop i).take (j-i)).length=j-i:=ab
 rcases H with⟨rfl,aI⟩|⟨b,de,bO,rfl,V⟩
 ·have P:j=0:=ab
  subst P;have ai:i=0:=J
  subst ai;rcases aI with rfl|⟨b,rfl⟩
  ·exact⟨.slice none 0 0,rfl,.nil⟩
  ·exact⟨.slice (some ⟨b,0,none⟩) 0 0,rfl,.nil⟩
 ·obtain⟨eo,ge,e,Z⟩:=asm   (aO:=some k)    (cap:=l.length) ab h1 E J k;refine⟨_,e,eo,ge,ab,λD=>?_⟩;have B:i<j:=by have:=FF.2 D;omega
  obtain⟨A,rfl⟩:=Z B;have P:j*k<=l.length*k:=pU k E;have I:i*k+(j-i)*k=j*k:=by rw[<-yN];grind
  refine⟨b,0+i*k,A,false,_,bO,rfl,V,by rw[g,ga M];omega,?_⟩;rw[g,ix];exact abM M l i j
theorem alB{s:ak}{h:ad}{U:Nat}(g:u h cS=some (.cells [(a:X)] bC))(A:cS<U)(E:a<=p.1)(D:p.1<=5000):
  aD Q s 460 [.agg ⟨fV p⟩,bb cS] h U (cI (.agg ⟨fV (p.1-a,p.2)⟩) U h):=by
 refine bS ?_;unfold fV;have B:IntKind.wrap .i64 ((p.1:Int)-(a:Int))=((p.1-a:Nat):Int):=by rw[show(p.1:Int)-(a:Int)=((p.1-a:Nat):Int) by omega];exact js _ J
 refine cx @g @B ?_;exact⟨rfl,aC,J⟩
theorem abV{n:Nat}(x:Nat->av Int)(g:a<=b)(A:b<=n):((bn n x).drop (bn a x).length).take ((bn b x).length-(bn a x).length)=(bn (b-a) λk=>x (a+k)).map (sr a):=by
 obtain⟨c,rfl⟩:∃c,b=a+c:=⟨b-a,J⟩
 obtain⟨d,rfl⟩:∃d,n=a+c+d:=⟨n-(a+c),J⟩
 rw[yZ (a+c) x d,yZ a x c,kB,List.drop_left,jb,OI,J9,OI]
theorem aoR{n:Nat}(x:Nat->av Int)(g:a<=b)(A:b<=n):(bn a x).length<=(bn b x).length/\(bn b x).length<=(bn n x).length:=by
 obtain⟨c,rfl⟩:∃c,b=a+c:=⟨b-a,J⟩
 obtain⟨d,rfl⟩:∃d,n=a+c+d:=⟨n-(a+c),J⟩
 rw[yZ (a+c) x d,yZ a x c];grind
theorem SY(a m n:Nat)(x:Nat->av Int)(h:a+m<=n):(bn m λk=>x (a+k)).map (sr a)=bn n λk=>if a<=k/\k<a+m then x k else none:=by
 refine St ?_ λi y=>?_
 ·rw[yJ];exact(zg m _).imp λh=>by unfold sr;omega
 ·rw[fL];constructor
  ·rintro⟨⟨k,z⟩,D,e⟩;obtain⟨A,g⟩:=kl.1 D;unfold sr at e
   grind
  ·rintro⟨A,g⟩
   by_cases B:a<=i/\i<a+m
   ·rw[if_pos B]at g;exact⟨(i-a,y),kl.2 ab,by unfold sr;grind⟩
   grind
theorem aoS{s:ak}{n B ao:Nat}{v:X}{x:Nat->av Int}{h:ad}{U:Nat}(aI:qd h ao U v n x)(bm:n<=4096)(dZ:min B n=b):
  aD Q s 405 [v,(a:X),(B:X)] h U (λr ac Y=>lJ ac U Y r (b-a) (λk=>x (a+k))/\az U h ac/\U<=Y):=by
 refine bS ?_;have I:=aI;obtain⟨gW,rfl,ar⟩:=aI;obtain⟨bp,cap,rfl⟩:=ar.form;have bF:∀{o aW kQ},az U h (F (F (F h U o) (U+1) aW) (U+2) kQ):=aC
 refine aB ?_;refine(K1 (I.is.T bF J) bm).mono ?_;rintro _ h1 a6 ⟨rfl,P,fp⟩;have b7:=P U J;rw[aq J,aq J,aN]at b7;have br:=P (U+1) J;rw[aq J,aN]at br;have g2:=P (U+2) J;rw[aN]at g2;have em:max (a:Int) 0=(a:Int):=J
 have aG:b<=n:=J
 have em2:min (B:Int) (n:Int)=(b:Int):=J
 refine j6 @b7 @br @em @em2 ?_;have cD:∀{o aW},az U h (F (F h1 U o) (U+1) aW):=aC
 refine⟨λdr=>?_,λwj=>?_⟩
 ·refine a9 @g2 ?_;refine⟨⟨_,by rw[show b-a=0 by omega];rfl,⟨none,0,by rw[show b-a=0 by omega];rfl,λeg=>absurd (by rw[show b-a=0 by omega];rfl) eg⟩⟩,aC,J⟩
 have uL:a<b:=J
 refine(QI (I.is.T cD  J) bm  J).mono ?_;rintro _ aM bR ⟨t1,rfl,_,E,hr⟩;have V:=E U J;rw[aq J,aN]at V;have ya:=E (U+1) J;rw[aN]at ya;have Nx:=E (U+2) J;rw[aq J,aq J,g2]at Nx;have fg:=cD.trans E J;refine a9 @V ?_;refine(QI (I.is.T fg  J) bm  J).mono ?_;rintro _ bc Z ⟨t2,rfl,_,D,iC⟩;have V2:=(D U J).trans V;have Ny:=(D (U+1) J).trans ya;have g24:=(D (U+2) J).trans Nx;have hT:=fg.trans D J;obtain⟨dQ,dC⟩:=aoR x (Nat.le_of_lt uL) aG;obtain⟨w,e8,bN⟩:=i4.cut (k:=2) (λ_=>rfl) J (ar.T  (ed:=ao) (da:=U) (λb _ aG=>hT b aG) J J) dQ dC;obtain⟨od,o3,rfl⟩:=bN.form;refine cx @V2 @e8 ?_;rw[abV x J aG,SY a (b-a) n x J]at bN;rw[abV x J aG,SY a (b-a) n x J];have ll:∀{o aW},az U h (F (F bc Z o) Z aW):=aC
 have g15:∀{o aW},u (F (F bc Z o) Z aW) (U+1)=some (.cells [(a:X)] false):=ab
 have aBY:∀{o aW},az U bc (F (F bc Z o) Z aW):=aC
 refine(abU  (g:=λp=>(p.1-a,p.2)) ⟨_,rfl,bN.T aBY  J⟩ bm (λp b9 n6 bv A j9=>?_)).mono ?_
 ·have:=kl.1 bv;have dL:a<=p.1:=ab
  exact alB ((A (U+1) J).trans g15) J dL J
 rintro _ b9 n6 ⟨aAP,rfl,M,A,j9⟩;have E7:=(A (U+1) J).trans g15;have g26:=A (U+2) J;rw[aq J,aq J,g24]at g26;obtain⟨bf,hD,rfl,B8⟩:=id M;have V3:IntKind.wrap .i64 ((b:Int)-(a:Int))=((b-a:Nat):Int):=by rw[show(b:Int)-(a:Int)=((b-a:Nat):Int) by omega];exact js _ J
 refine hw @E7 @g26 @V3 ?_;have gO:(bn n λk=>if a<=k/\k<a+(b-a)then x k else none).map (λp=>(p.1-a,p.2))=bn (b-a) λk=>x (a+k):=by
  rw[<-SY a (b-a) n x J,pW];have:((λp:Nat × Int=>(p.1-a,p.2)) ∘ sr a)=id:=by funext p;unfold sr;simp
  rw[this,List.map_id]
 rw[gO]at M;have V4:=congrArg List.length gO;rw[g5]at V4;refine⟨⟨_,rfl,?_⟩,((((ll.trans A J).set J).set J).set J).set J,J⟩;rw[gO];exact M.T (λd h1 al=>ab) J J
def zV{aA:Type}(h:ad)(enc:aA->aa X)(k:Nat)(v:X)(l:aa aA)(o:av Nat):Prop:=(l=[]/\v = .slice none 0 0/\o=none)\/∃b,o=some b/\v = .slice (some ⟨b,0,some k⟩) l.length l.length/\u h b=some (.cells (a1 enc l) false)
theorem zV.T{aA:Type}{h ac:ad}{enc:aA->aa X}{k:Nat}{v:X}{l:aa aA}{o:av Nat}(H:zV h enc k v l o)(D:∀b,o=some b->u ac b=u h b):zV ac enc k v l o:=by
 rcases H with H|⟨b,A,g,B⟩
 ·exact .inl H
 ·exact .inr ⟨b,A,g,ab⟩
theorem RU{aA:Type}{enc:aA->aa X}{k:Nat}(hk:∀x,(enc x).length=k)(azQ:∀x,ec (enc x)=true)(g:0<k){h:ad}{U:Nat}{v:X}{l m:aa aA}{o:av Nat}(H:zV h enc k v l o)(W:eu h U w enc k m)(P:(l.length+m.length)*k<=1000000)(V:∀dG ac Y aW,zV ac enc k dG (l++m) aW->(aW=o/\Y=U\/aW=some U/\Y=U+1)->(∀c,c≠U->o≠some c->u ac c=u h c)->K dG ac Y):dB (dS (dv k h U v w)) K:=by
 obtain⟨a,cap,rfl,W⟩:=W;rcases Kc (m=[])with e|e
 ·subst e;rw[hM]at V;have:dv k h U v (.slice a 0 cap) = .ok (.val v h U):=by
   rcases H with⟨rfl,rfl,rfl⟩|⟨b,rfl,rfl,a5⟩
   ·show jV h a (Nat.mul 0 k) (λnew=>gt k h U none 0 0 0 new)=_;rw[show Nat.mul 0 k=0 from mx k];rfl
   ·show jV h a (Nat.mul 0 k) (λnew=>gt k h U (some ⟨b,0,some k⟩) l.length l.length 0 new)=_;rw[show Nat.mul 0 k=0 from mx k];unfold gt;rw[show Nat.ble (Nat.add l.length 0) l.length=true from Ao ab];rfl
  show dB (dS (dv k h U v (.slice a 0 cap))) K;rw[this];exact V _ _ _ _ H ab ab
 ·obtain⟨D,I,aO,bC,cs,fa,rfl,a5,h1,al⟩:=W e;have ap:=FF.2 e;have UU:m.length<=m.length*k:=CL _ g;have E:l.length+m.length<=1000000:=hu (CL _ g) P;have B:(Nat.ble (Nat.mul (Nat.add l.length m.length) k) 1000000&&Nat.ble (Nat.add l.length m.length) 1000000)=true:=by
   simp only[eD,sU]
   grind
  have M:Nat.ble (Nat.add l.length m.length) l.length=false:=by
   cases Z:Nat.ble (Nat.add l.length m.length) l.length with
   |false=>rfl
   |true=>have:=l6 Z;grind
  have ba:∀{f:aa X->R ff},jV h (some ⟨D,I,aO⟩) (m.length.mul k) f=f (a1 enc m):=λ{f}=>by
   rw[sX a5 ab ab]
   grind
  rcases H with⟨rfl,rfl,rfl⟩|⟨b,rfl,rfl,n4⟩
  ·have:dv k h U (.slice none 0 0) (.slice (some ⟨D,I,aO⟩) m.length cap) = .ok (.val (.slice (some ⟨U,0,some k⟩) (0+m.length) (0+m.length)) (F h U (.cells (a1 enc m) false)) (U+1)):=by show jV h (some ⟨D,I,aO⟩) (m.length.mul k) (λnew=>gt k h U none 0 0 m.length new)=_;rw[ba];unfold gt;have M:Nat.ble (Nat.add 0 m.length) 0=false:=M;have B:(Nat.ble (Nat.mul (Nat.add 0 m.length) k) 1000000&&Nat.ble (Nat.add 0 m.length) 1000000)=true:=B;rw[M,B];exact pZ g
   rw[this];exact V _ _ _ _ (.inr ⟨U,rfl,ab,ab⟩) ab ab
  ·have:dv k h U (.slice (some ⟨b,0,some k⟩) l.length l.length) (.slice (some ⟨D,I,aO⟩) m.length cap) = .ok (.val (.slice (some ⟨U,0,some k⟩) (l.length+m.length) (l.length+m.length)) (F (xq h b) U (.cells (a1 enc l++a1 enc m) false)) (U+1)):=by
    show jV h (some ⟨D,I,aO⟩) (m.length.mul k) (λnew=>gt k h U (some ⟨b,0,some k⟩) l.length l.length m.length new)=_;rw[ba];unfold gt;rw[M,B];show p5 h U k (some ⟨b,0,some k⟩) l.length l.length (l.length+m.length) (a1 enc m)=_;unfold p5;simp only[vp n4];have A:nh (Nat.mul l.length k) (na (a1 enc l) 0)=some (a1 enc l):=by rw[rP,nO,qT,if_pos (by rw[ga hk];grind)];rw[pT (by rw[ga hk];grind)]
    rw[A];have V5:ec (a1 enc m)=true:=by
     clear ba B M P E UU ap al h1 V e W
     induction m with
     |nil=>rfl
     |cons x m ev =>
      have:∀a b:aa X,ec a=true->ec b=true->ec (a++b)=true:=λa=>by
       induction a with
       |nil=>grind
       |cons y a UX =>
        intro b dg Z;rw[rM,eD]at dg;show ec (y::(a++b))=true;rw[rM,eD]
        grind
      exact this _ _ ab ev
    have ce:(!false&&Nat.beq 0 0&&Nat.beq (jJ (a1 enc l)) (Nat.mul l.length k)&&Nat.beq k k&&Nat.beq l.length l.length&&ec (a1 enc m))=true:=by rw[oB,ga hk,V5];simp
    show(bif _ then _ else _)=_;rw[ce,kk];exact pZ g
   rw[this];exact V _ _ _ _ (.inr ⟨U,rfl,ab,by rw[aN,AG]⟩) ab λc aU Z=>by rw[aq aU,sh,if_neg λe=>Z (by rw[e])]
theorem asu{aA:Type}{enc:aA->aa X}{k:Nat}(hk:∀x,(enc x).length=k)(g:∀x,ec (enc x)=true)(E:0<k){h:ad}{U ao ai:Nat}{v:X}{l m:aa aA}(H:dX h v enc k l ao ai)(W:eu h U w enc k m)(V:ao<=U)(Z:ai<=U)(B:(l.length+m.length)*k<=1000000)(ha:∀I ac Y,dX ac I enc k (l++m) ao Y->(∀c,c<ao\/ai<=c/\c<U->u ac c=u h c)->U<=Y->K I ac Y):dB (dS (dv k h U v w)) K:=by
 obtain⟨o,iq,h9⟩:∃o,zV h enc k v l o/\∀b,o=some b->ao<=b/\b<ai:=by
  rcases H with⟨A,D⟩|⟨b,de,bO,e,P⟩
  ·exact⟨none,.inl ab,ab⟩
  ·exact⟨some b,.inr ⟨b,rfl,e,P⟩,ab⟩
 refine RU hk g E iq W B λI ac Y aW G e f=>ha _ _ _ ?_ ab J;rcases G with⟨A,D,_⟩|⟨b,A,D,M⟩
 ·exact .inl ab
 ·subst A;refine .inr ⟨b,?_,?_,D,M⟩
  all_goals grind
def PlJ(cY:X)(l:aa (Nat × Int))(ao:Nat)(ap:ad)(m:Nat)(aE:aa X)(ac:ad)(Y:Nat):Prop :=
 ∃i o,m=l.length-i/\i<=l.length/\aE=[o,cY,(l.length:X),(i:X)]/\dX ac o cG 1 ((l.take i).map λp=>(p.1:Int)) ao Y/\az ao ap ac/\ao<=Y
theorem Y1{s:ak}{n:Nat}{v:X}{x:Nat->av Int}{h:ad}{U:Nat}(aI:kn h U v n x)(bm:n<=4096):
  aD Q s 389 [v] h U (λr ac Y=>eZ ac U Y r cG ((bn n x).map λp=>(p.1:Int))/\az U h ac/\U<=Y):=by
 refine alw ?_;have D:=aI;obtain⟨gW,rfl,ar⟩:=aI;obtain⟨bp,cap,rfl,aU⟩:=id ar;have gA:=my n x;have bF:∀{o},az U h (F h U o):=aC
 unfold abP;refine aB ?_;refine(K1 (D.T bF J) bm).mono ?_;rintro _ h1 a6 ⟨rfl,I,fp⟩;have cD:=bF.trans I J;have hs1:=ar.T cD (Y:=a6) J;refine aB ?_;refine bq.mk (PlJ (.slice bp (bn n x).length cap) (bn n x) a6 h1) (bn n x).length ⟨0,_,J,J,rfl,.inl ab,aC,J⟩ ?_;rintro _ _ al bH ⟨i,o,rfl,ai,rfl,E,A,g⟩;rw[ajL];unfold YY;refine aB ?_;refine⟨λci=>?_,λeh=>?_⟩
 ·obtain⟨⟨k,y⟩,ca⟩:=dk   J;obtain⟨b,aW,aO,bC,cs,oJ,aG,B,P,jY⟩:=(hs1.T A g).ld (λ_=>rfl) ca;cases B;refine cx @P @jY ?_;rw[show fV (k,y)=[(k:X),(y:X)]from rfl];refine aB ?_;refine l7  (k:=1)  (λ_=>rfl) (λ_=>rfl) J (E.T ab J) J (k:Int) (aN _ _ _) rfl ab λdG bP V M=>?_;refine a9 (cn (J:i<1000000000000)) ?_;refine⟨_,?_,i+1,_,rfl,J,rfl,?_,λc aU=>?_,J⟩
  ·omega
  ·rw[gQ,ca];simpa using V
  ·rw[M c aU,aq J,aq J,aq J];exact A c aU
 ·have:i=(bn n x).length:=J
  subst this;rw[ht]at E;refine⟨?_,aC,J⟩;rcases E with⟨B,rfl⟩|⟨b,h1,al,rfl,P⟩
  ·exact⟨_,_,by rw[B];rfl,λZ=>absurd B Z⟩
  ·exact⟨_,_,rfl,λ_=>⟨b,_,_,J,J,rfl,P⟩⟩
def zm(p:Nat × X):aa X:=[(p.1:X),p.2]
theorem alC{s:ak}{h:ad}{U:Nat}(g:u h cS=some (.cells [(a:X)] bC))(A:cS<U)(E:a<=5000)(D:p.1<=5000):
  aD Q s 446 [.agg ⟨fV p⟩,bb cS] h U (cI (.agg ⟨fV (sr a p)⟩) U h):=by
 refine bS ?_;unfold fV sr;have B:IntKind.wrap .i64 ((a:Int)+(p.1:Int))=((a+p.1:Nat):Int):=by rw[<-wH];exact js _ J
 refine cx @g @B ?_;exact⟨rfl,aC,J⟩
structure A7 (h:ad) (U:Nat) (v:X) (ao:Nat->Nat) (m:Nat) (x:Nat->av Int):Prop where
 ex:∃L:aa (Nat × X),L.length=m/\eu h U v zm 2 L/\∀i p,L[i]? = some p->p.1=ao (i+1)-ao i/\eu h U p.2 fV 2 (bn p.1 λk=>x (ao i+k))
 mono:∀i,ao i<=ao (i+1)
 le:ao m<=4096
theorem A7.T{h ac:ad}{U Y m:Nat}{v:X}{ao:Nat->Nat}{x:Nat->av Int}(H:A7 h U v ao m x)(A:az U h ac)(g:U<=Y):A7 ac Y v ao m x:=by obtain⟨⟨L,P,B,E⟩,D,I⟩:=H;exact⟨⟨L,P,B.T A g,λi p M=>⟨ab,(E i p M).2.T A g⟩⟩,D,I⟩
theorem RV{ao:Nat->Nat}(h:∀i,ao i<=ao (i+1)){i:Nat}(g:i<=j):ao i<=ao j:=by
 induction j with
 |zero=>grind
 |succ j A =>
  grind
def GlJ(cj cS:Nat)(v:X)(ao:Nat->Nat)(n:Nat)(x:Nat->av Int)(aX:Nat)(ap:ad)(U:Nat)(m:Nat)(aE:aa X)(ac:ad)(Y:Nat):Prop :=
 ∃i w,m=n-i/\i<=n/\aE=[bb cj,.int .i64 0,bb cS,v,(n:X),(i:X)]/\u ac cj=some (.cells [.int .i64 0,.slice none 0 0] false)/\u ac cS=some (.cells [((ao i-ao 0:Nat):X),w] false) /\
  dX ac w fV 2 (bn (ao i-ao 0) λk=>x (ao 0+k)) aX Y/\az U ap ac/\aX<=Y
theorem aoT{s:ak}{v:X}{ao:Nat->Nat}{x:Nat->av Int}{h:ad}{U:Nat}(H:A7 h U v ao m x)(hm:m<=1000):
  aD Q s 387 [v] h U (λr ac Y=>∃w,r = .tuple ⟨[w,.int .i64 0]⟩/\qd ac U Y w (ao m-ao 0) (λk=>x (ao 0+k))/\az U h ac/\U<=Y):=by
 refine aso ?_;obtain⟨⟨L,rfl,ar,eJ⟩,g,iC⟩:=H;obtain⟨bp,cap,rfl⟩:=ar.form;have bF:∀{o aW},az U h (F (F h U o) (U+1) aW):=aC
 unfold afB;refine aB ?_;refine bq.mk (GlJ U (U+1) (.slice bp L.length cap) ao L.length x (U+2) h U) L.length ⟨0,.slice none 0 0,J,J,rfl,ab,ab,.inl ⟨by rw[wL];rfl,rfl⟩,bF,J⟩ ?_;rintro _ _ h1 B ⟨i,w,rfl,ai,rfl,br,dK,dW,P,fp⟩;have aAb:ao 0<=ao i:=RV g J;rw[aoM];unfold abO;obtain⟨od,o3,rfl⟩:∃a c,w = .slice a (bn (ao i-ao 0) λk=>x (ao 0+k)).length c:=by
  rcases dW with⟨e,rfl⟩|⟨b,_,_,rfl,_⟩
  all_goals grind
 refine aB ?_;refine⟨λci=>?_,λeh=>?_⟩
 ·obtain⟨⟨n,gW⟩,ca⟩:=dk   J;obtain⟨bm,I⟩:=eJ i _ ca;have I:eu h U gW fV 2 (bn n λk=>x (ao i+k)):=I;have awC:ao (i+1)<=ao L.length:=RV g J;have hms:=g i;obtain⟨cY,eG,rfl⟩:=I.form;obtain⟨b,aW,aO,bC,cs,oJ,aG,aY,a5,jY⟩:=(ar.T P (Y:=B) J).ld (λ_=>rfl) ca;cases aY;refine cx @a5 @jY ?_;rw[show zm (n,.slice cY (bn n λk=>x (ao i+k)).length eG)=[(n:X),.slice cY (bn n λk=>x (ao i+k)).length eG]from rfl];have cD:∀{o aW kQ gL},az U h (F (F (F (F h1 B o) B aW) (B+1) kQ) (B+1) gL):=(((P.set J).set J).set J).set J;refine a9 @dK ?_;refine(abU   ⟨_,rfl,I.T cD  J⟩ J (λp b9 n6 bv A j9=>alC ((A (B+1) J).trans (aN _ _ _)) J J (by have:=(kl.1 bv).1;omega))).mono ?_;rintro _ b9 n6 ⟨aAP,rfl,Z,A,j9⟩;have E:=A (U+1) J;rw[aq J,aq J,aq J,aq J,dK]at E;have E7:=A U J;rw[aq J,aq J,aq J,aq J,br]at E7;have M:=A B J;rw[aq J,aq J,aN]at M;obtain⟨bf,hD,rfl,B8⟩:=id Z;have V3:IntKind.wrap .i64 (4096-((ao i-ao 0:Nat):Int))=((4096-(ao i-ao 0):Nat):Int):=by rw[show(4096:Int)-((ao i-ao 0:Nat):Int)=((4096-(ao i-ao 0):Nat):Int) by omega];exact js _ J
  have ew7:IntKind.wrap .i64 (((ao i-ao 0:Nat):Int)+(n:Int))=((ao (i+1)-ao 0:Nat):Int):=by rw[show((ao i-ao 0:Nat):Int)+(n:Int)=((ao (i+1)-ao 0:Nat):Int) by omega];exact js _ J
  refine hw @E @M @V3 ?_;have vb:∀{o},az U h (F b9 B o):=(cD.trans A J).set J;refine⟨λaU=>absurd aU J,λ_=>?_⟩;have x9:∀{o},dX (F b9 B o) (.slice od (bn (ao i-ao 0) λk=>x (ao 0+k)).length o3) fV 2 (bn (ao i-ao 0) λk=>x (ao 0+k)) (U+2) B:=λ{o}=>dW.T (λc h1 al=>by rw[aq J,A c J,aq J,aq J,aq J,aq J]) J;have dQ:=my (ao i-ao 0) λk=>x (ao 0+k);have dC:=my n λk=>x (ao i+k);refine asu  (k:=2) (λ_=>rfl) (λ_=>rfl) J  x9 (cN.o (λ_=>rfl) (Z.T   (λb h1 al=>aq J) (cB _) (cB _)).rd) J J ab λdG dL n7 V D tl=>?_;have rl:ao (i+1)-ao 0=(ao i-ao 0)+n:=J
  have sK:(bn (ao i-ao 0) λk=>x (ao 0+k))++(bn n λk=>x (ao i+k)).map (sr (ao i-ao 0))=bn (ao (i+1)-ao 0) λk=>x (ao 0+k):=by
   rw[rl,yZ]
   congr 2
   exact y7 λk _=>by congr 1;omega
  rw[sK]at V;obtain⟨v7a,v7c,rfl⟩:∃a c,dG = .slice a (bn (ao (i+1)-ao 0) λk=>x (ao 0+k)).length c:=by
   rcases V with⟨e,rfl⟩|⟨b,_,_,rfl,_⟩
   all_goals grind
  have II:=(D (U+1) (.inl J)).trans (aq J);rw[E]at II;have g17:=(D U (.inl J)).trans (aq J);rw[E7]at g17;have ayq:=(D B (.inr J)).trans (aN _ _ _);refine⟨J,?_⟩;refine vR @II @E @ayq @ew7 (cn (J:i<1000000000000)) ?_;refine⟨_,?_,i+1,_,rfl,J,rfl,ab,aN _ _ _,V.T (λc h1 al=>aq J) J,λc aU=>?_,J⟩
  ·omega
  ·rw[aq J,D c (.inl J)];exact vb c aU
 ·have:i=L.length:=J
  subst this;refine cx @dK @br ?_;exact⟨_,rfl,⟨_,rfl,(dX.f dW).T (λc h1 al=>aq J) J (cB _)⟩,P.set J,J⟩
def RW(s:ak)(K:bD)(cR d3 dM fl iu lU tA:X)(ap:ad)(aX:Nat):Prop:=bJ tA (ag (c8 [(ae 0),aS] []) λa=>ag (a7 ap 2 lU a) λb=>a4 2 b lU λc=>K (.tuple ⟨[c,(ae 3)]⟩) b aX) (dc ap dM λd=>ag (.ok (.func (.func 315) ⟨[]⟩ ⟨[d3,dM,fl,iu]⟩)) λe=>bh s 314 [cR,d,e] ap aX λf g i=>ag (dz f 0) λj=>ag (dz f 1) λk=>ag (a7 g 2 lU j) λl=>a4 2 l lU λm=>K (.tuple ⟨[m,k]⟩) l i)
def agK:Co:=λs au t1 t2 t3 g0 h U K=>cK au h U λa b c=>cK t1 b c λd e f=>cK t2 e f λg i j=>cK t3 i j λk l m=>cJ [(ae 0),aS] l m λn o p=>dc o a λq=>bh s 313 [q] o p λr t aT=>ag (d2 .not r) λv=>bJ v (RW s K g0 a d g k n (.bool true) t aT) (dc t d λw=>dc t g λx=>dc t k λy=>bh s 202 [w,x,(ae 0),y] t aT λz bX ch=>ag (d2 .not z) λbV=>(RW s K g0 a d g k n bV bX ch))
theorem auG:Fr 223 agK:=In []
def QJ:aa (aa Nat):=[[0,2,6,7,15,16,17]]
def Z7(s:ak)(a0 a2 bf aZ jz hI k8:X)(h:ad)(U:Nat)(N:aH)(aF:aH)(R:aH):Prop:=cq k8 hI (hq 2 h 2 jz k8 λc=>cJ [(ae 0),aS] h U λd e f=>ag (a7 e 2 d c) λg=>a4 2 g d λi=>c7 312 [i] g f λj k l=>ag (d2 .not j) λm=>bJ m (ag (c8 [(ae 0),aS] []) λn=>ag (a7 k 2 bf n) λo=>R [a0,a2,bf,(ae 4),jz,hI,k8] o l) (gB Q true (jc k l [k8] a2) λp q r=>l<=r/\b4 0 d λt=>dc q t λaT=>eX t aT (bT .neq 3 aT p (ag (c8 [(ae 0),aS] []) λw=>ag (a7 q 2 bf w) λx=>R [a0,a2,bf,(ae 4),jz,hI,k8] x r) (b3 k8 λy=>N [a0,a2,bf,aZ,jz,hI,y] q r)) 1 [k,g])) (aF [a0,a2,bf,aZ,jz,hI,k8] h U)
def adX:i6:=λs au t1 t2 h U K=>cJ [(ae 0),aS] h U λa b c=>cQ au λd=>bT .neq 3 d t1 (ag (c8 [(ae 0),aS] []) λf=>ag (a7 b 2 a f) λg=>a4 2 g a λi=>K (.tuple ⟨[i,(ae 4)]⟩) g c) (cQ au λj=>bq (bA Q s QJ 314 0) [au,t2,a,(ae 0),au,j,(ae 0)] b c [(0,λk l m=>bh s 387 [(aQ k 0)] l m λn o p=>ag (dz n 0) λq=>ag (dz n 1) λr=>ag (a7 o 2 (aQ k 2) q) λt=>a4 2 t (aQ k 2) λaT=>K (.tuple ⟨[aT,r]⟩) t p)] (λv w x=>a4 2 w (aQ v 2) λy=>K (.tuple ⟨[y,(aQ v 3)]⟩) w x))
theorem alD{s:ak}{D A g B:X}{h:ad}{U:Nat}{R:aH}:bA Q s QJ 314 0 [D,a2,bf,aZ,A,g,B] h U N [(0,aF)] R=Z7 s D a2 bf aZ A g B h U N aF R:=by kernel_rfl
theorem aoU:jl 314 adX:=jA QJ
def QK:aa (aa Nat):=[[4,8,9,22,23,24]]
def Z8(s:ak)(aV bo cH en jB fi:X)(h:ad)(U:Nat)(N:aH)(aY:aH)(R:aH):Prop:=cq fi jB (ea h 1 en fi λc=>bT .eql 2 c bo (ey (fU 1 [(ae 0)] [(0,1,fi)]) h U λe f g=>dB (dS (dv 1 f g cH e)) λi j k=>b3 fi λl=>N [aV,bo,i,en,jB,l] j k) (b3 fi λm=>N [aV,bo,cH,en,jB,m] h U)) (aY [aV,bo,cH,en,jB,fi] h U)
def KC(s:ak)(K:bD)(cR iu:X)(ap:ad)(aX:Nat):Prop:=ay ap 2 cR λb=>cQ b λc=>bq (bA Q s QK 331 0) [cR,iu,aS,b,c,(ae 0)] ap aX [(1,λd e f=>ay e 1 (aQ d 0) λi=>ay e 0 (aQ d 0) λk=>cf .sub 3 i k λl=>bh s 108 [l,(aQ d 2)] e f λm n o=>K (.tuple ⟨[m,(.bool false)]⟩) n o)] (λ_ _ _=>False)
def adY:i6:=λs au t1 t2 h U K=>cK au h U λa b c=>cK t1 b c λd e f=>a4 5 e a λg=>a4 5 e d λi=>bh s 299 [g,i] e f λj k l=>ag (a7 k 5 d j) λm=>ay m 0 a λo=>bT .eql 40 o (ae 1) (KC s K d (ae (-1)) m l) (bT .eql 40 o (ae 5) (KC s K d (ae 0) m l) (K (.tuple ⟨[aS,(.bool true)]⟩) m l))
theorem alE{s:ak}{D A g fi:X}{h:ad}{U:Nat}{B R:aH}:bA Q s QK 331 0 [aV,D,A,en,g,fi] h U N [(1,B)] R=Z8 s aV D A en g fi h U N B R:=by kernel_rfl
theorem aoV:jl 331 adY:=jA QK
def Pu(s:ak)(K:bD)(cR d3 dM fl iu qI VN:X)(ap:ad)(aX:Nat):Prop:=bJ VN (ay ap 2 d3 λb=>c7 88 [b] ap aX λc d e=>b4 3 d3 λf=>dc d f λg=>eX f g (c7 88 [g] d e λi j k=>b4 4 d3 λl=>dc j l λm=>eX l m (c7 139 [m] j k λn o p=>b4 0 d3 λq=>dc o q λr=>eX q r (b4 1 d3 λt=>dc o t λaT=>eX t aT (ag (c8 [(ae 0),(ae 0),aS,aS,aS] [(0,1,r),(1,1,aT),(2,1,c),(3,1,i),(4,1,n)]) λv=>ag (a7 o 5 iu v) λw=>a4 5 w iu λx=>K x w p) 3 [j,d,ap]) 3 [j,d,ap]) 2 [d,ap]) 1 [ap]) (a4 5 ap d3 λy=>ag (.ok (.func (.func 400) ⟨[]⟩ ⟨[fl,cR,d3,dM]⟩)) λz=>bh s 208 [y,qI,z] ap aX λbX ch bV=>ag (a7 ch 5 iu bX) λbp=>a4 5 bp iu λb2=>K b2 bp bV)
def abW:Cn:=λs au t1 t2 t3 h U K=>cK au h U λa b c=>cK t1 b c λd e f=>cK t2 e f λg i j=>cK t3 i j λk l m=>cJ [(ae 0),(ae 0),aS,aS,aS] l m λn o p=>a4 5 o a λq=>a4 5 o d λr=>bh s 299 [q,r] o p λt aT v=>ag (a7 aT 5 d t) λw=>ay w 1 d λy=>ay w 0 d λbX=>cf .sub 3 y bX λch=>a4 2 w k λbV=>bh s 312 [bV] w v λbp b2 cM=>ag (d2 .not bp) λbU=>bJ bU (Pu s K a d g k n ch (.bool true) b2 cM) (ay b2 0 k λcP=>cf .neq 3 cP ch λd0=>(Pu s K a d g k n ch d0 b2 cM))
theorem alF:Fq 336 abW:=Im []
def SZ:aa (aa Nat):=[[2,3,4,6,7,21,22]]
def adZ(s:ak)(a2 a3 aV bf aZ h5 en:X)(h:ad)(U:Nat)(N:aH)(aF:aH)(R:aH):Prop:=cq en h5 (a4 5 h a3 λb=>a4 5 h aV λc=>bh s 403 [b,c,a2,en] h U λd e f=>ag (dz d 0) λg=>ag (dz d 1) λi=>bJ i (ay e 1 aZ λk=>ag (c8 [(ae 0),(ae 0)] [(0,1,en),(1,1,g)]) λl=>ey (fU 1 [(ae 0),(ae 0)] [(0,2,l)]) e f λm n o=>dB (dS (dv 2 n o k m)) λp q r=>b4 1 aZ λt=>ag (a7 q 1 t p) λaT=>b3 en λv=>N [a2,a3,aV,bf,aZ,h5,v] aT r) (b3 en λw=>N [a2,a3,aV,bf,aZ,h5,w] e f)) (aF [a2,a3,aV,bf,aZ,h5,en] h U)
def agL:i6:=λs au t1 t2 h U K=>cK au h U λa b c=>cK t1 b c λd e f=>cJ [(ae 0),aS] e f λg i j=>a4 5 i a λk=>a4 5 i d λl=>bh s 299 [k,l] i j λm n o=>ag (a7 n 5 d m) λp=>ay p 1 d λr=>ay p 0 d λaT=>cf .sub 3 r aT λv=>ag (c8 [(ae 0),aS] [(0,1,v)]) λw=>cJ [(ae 0),aS] p o λx y z=>ag (a7 y 2 x w) λbX=>ay bX 0 x λbV=>bq (bA Q s SZ 337 0) [t2,a,d,g,x,bV,(ae 0)] bX z [(0,λbp b2 cM=>a4 2 b2 (aQ bp 4) λbU=>ag (a7 b2 2 (aQ bp 3) bU) λdj=>a4 2 dj (aQ bp 3) λcP=>K cP dj cM)] (λ_ _ _=>False)
theorem asv{s:ak}{A g:X}{h:ad}{U:Nat}{R:aH}:bA Q s SZ 337 0 [a2,A,aV,bf,aZ,g,en] h U N [(0,aF)] R=adZ s a2 A aV bf aZ g en h U N aF R:=by kernel_rfl
theorem auH:jl 337 agL:=jA SZ
def Gj(s:ak)(K:bD)(bY cC b6 cR d3 dM tz Np:X)(ap:ad)(aX:Nat):Prop:=bJ Np (ag (c8 [(ae 0),aS] []) λa=>ag (a7 ap 2 tz a) λb=>a4 2 b tz λc=>K c b aX) (bh s 204 [bY,cC,cR] ap aX λd e f=>cJ [(ae 0),(ae 0)] e f λg i j=>ag (a7 i 2 g d) λk=>c7 204 [bY,b6,d3] k j λl m n=>a4 2 m g λo=>kZ 2 g o (c7 316 [o,l] m n λp q r=>cJ [(ae 0),(ae 0)] q r λt aT v=>ag (a7 aT 2 t p) λw=>a4 2 w dM λx=>ag (il (.array 2 1) t (ae 0)) λy=>dc w y λz=>ag (il (.array 2 1) g (ae 0)) λbX=>dc w bX λch=>cf .sub 3 z ch λbV=>ag (il (.array 2 1) t (ae 1)) λbp=>dc w bp λb2=>ag (il (.array 2 1) g (ae 0)) λcM=>dc w cM λbU=>cf .sub 3 b2 bU λdj=>bh s 405 [x,bV,dj] w v λcP d0 dH=>ag (a7 d0 2 tz cP) λeM=>a4 2 eM tz λam=>K am eM dH) 1 [k])
def ad0:Oa:=λs au t1 t2 t3 g0 tN h U K=>cK au h U λa b c=>cJ [(ae 0),aS] b c λd e f=>c7 313 [t1] e f λg i j=>ag (d2 .not g) λk=>bJ k (Gj s K t1 t2 t3 g0 tN a d (.bool true) i j) (c7 202 [t2,t3,g0,tN] i j λl m n=>ag (d2 .not l) λo=>bJ o (Gj s K t1 t2 t3 g0 tN a d (.bool true) m n) (a4 2 m a λp=>c7 312 [p] m n λq r t=>ag (d2 .not q) λaT=>bJ aT (Gj s K t1 t2 t3 g0 tN a d (.bool true) r t) (c7 404 [t1,t2,g0] r t λv w x=>b4 0 a λy=>dc w y λz=>eX y z (cf .neq 3 z v λbX=>(Gj s K t1 t2 t3 g0 tN a d bX w x)) 1 [r,m,i,e])))
theorem aoW:Xa 338 ad0:=zf6 []
def t0(s:ak)(K:bD)(ss pG:X)(ap:ad)(aX:Nat):Prop:=K (.tuple ⟨[ss,pG,(.bool false)]⟩) ap aX
def Pv(s:ak)(K:bD)(cC b6 cR d3 dM fl ss pG y60:X)(ap:ad)(aX:Nat):Prop:=bJ y60 (K (.tuple ⟨[(ae 2),pG,(.bool false)]⟩) ap aX) (cf .and 3 cC (ae 1) λa=>bT .eql 3 a (ae 1) (ag (d2 .not d3) λc=>bJ c (K (.tuple ⟨[(ae 1),pG,(.bool true)]⟩) ap aX) (c7 459 [cC] ap aX λd e f=>a4 5 e dM λg=>kZ 5 dM g (b4 0 fl λi=>dc e i λj=>eX i j (o6 j b6 λk=>c7 368 [g,d,k] e f λl m n=>bT .gtr 2 cR l (K (.tuple ⟨[(ae 1),pG,(.bool true)]⟩) m n) (t0 s K ss pG m n)) 1 [ap]) 1 [ap])) (t0 s K ss pG ap aX))
def Ga(s:ak)(K:bD)(cC b6 cR d3 dM fl ss pG y28 VZ:X)(ap:ad)(aX:Nat):Prop:=bJ VZ (bJ d3 (bT .lss 2 cR ss (K (.tuple ⟨[cR,pG,(.bool true)]⟩) ap aX) (t0 s K ss pG ap aX)) (t0 s K ss pG ap aX)) (bT .eql 40 y28 (ae 4) (cf .neq 2 cR (ae 0) λc=>K (.tuple ⟨[cR,pG,c]⟩) ap aX) (bT .eql 40 y28 (ae 5) (bT .neq 2 ss (ae 0) (t0 s K ss pG ap aX) (cf .and 3 cC (ae 1) λf=>bT .eql 3 f (ae 0) (Pv s K cC b6 cR d3 dM fl ss pG d3 ap aX) (Pv s K cC b6 cR d3 dM fl ss pG (.bool false) ap aX))) (t0 s K ss pG ap aX)))
def abX:Oa:=λs au t1 t2 t3 g0 tN h U K=>cK au h U λa b c=>cK t1 b c λd e f=>ay e 2 d λi=>ea e 1 i t3 λk=>ay e 3 d λm=>ea e 1 m t3 λo=>ay e 0 a λq=>bT .eql 40 q (ae 1) (bJ tN (bT .eql 2 k (ae (-1)) (K (.tuple ⟨[t2,g0,(.bool true)]⟩) e f) (t0 s K k o e f)) (t0 s K k o e f)) (bT .eql 40 q (ae 2) (Ga s K t2 t3 g0 tN a d k o q (.bool true) e f) (cf .eql 40 q (ae 3) λv=>(Ga s K t2 t3 g0 tN a d k o q v e f)))
theorem alG:Xa 402 abX:=zf6 []
def jZ(a c d:Nat):Nat:=min (max a c) d
theorem Y2{s:ak}{n:Nat}{h:ad}{U:Nat}(A:n<=4096):aD Q s 313 [(n:X)] h U (fm (.bool true) U h):=by
 refine bS ?_;refine aB ?_;refine⟨λ_=>⟨?_,rfl,rfl⟩,λg=>absurd g J⟩
 grind
theorem Y3{s:ak}{A B g D:Nat}{h:ad}{U:Nat}:aD Q s 316 [.agg ⟨[(A:X),(B:X)]⟩,.agg ⟨[(g:X),(D:X)]⟩] h U (cI (.agg ⟨[((max A g:Nat):X),((max (max A g) (min B D):Nat):X)]⟩) U h):=by
 refine bS ?_;have I:max (A:Int) (g:Int)=((max A g:Nat):Int):=J
 have M:min (B:Int) (D:Int)=((min B D:Nat):Int):=J
 have E:max ((max A g:Nat):Int) ((min B D:Nat):Int)=((max (max A g) (min B D):Nat):Int):=J
 refine hw @I @M @E ?_;exact⟨rfl,aC,J⟩
theorem aoX{s:ak}{n k i:Nat}{h:ad}{U:Nat}(D:n<=4096)(B:0<k)(g:k<=8)(ai:i<k):aD Q s 404 [(n:X),(k:X),(i:X)] h U (fm (((c6 n k (i+1)-c6 n k i:Nat):X)) U h):=by
 refine bS ?_;refine a9 (cn (J:i<1000000000000)) ?_;refine⟨λA=>absurd A J,λ_=>⟨λA=>absurd A J,λ_=>?_⟩⟩;refine(vE D B g J).mono ?_;rintro _ _ _ ⟨rfl,rfl,rfl⟩;refine(vE D B g J).mono ?_;rintro _ _ _ ⟨rfl,rfl,rfl⟩;have I:c6 n k i<=c6 n k (i+1):=vv J;have M:=ua (n:=n) B (i+1);have E:IntKind.wrap .i64 ((c6 n k (i+1):Int)-(c6 n k i:Int))=((c6 n k (i+1)-c6 n k i:Nat):Int):=by rw[show(c6 n k (i+1):Int)-(c6 n k i:Int)=((c6 n k (i+1)-c6 n k i:Nat):Int) by omega];exact js _ J
 refine a9 @E ?_;exact⟨rfl,rfl,rfl⟩
theorem alH{s:ak}{n i ao:Nat}{v:X}{x:Nat->av Int}{h:ad}{U:Nat}(bm:n<=4096)(dD:0<R)(B:R<=8)(d5:0<C)(M:C<=8)(ai:i<R)(bM:j<C)(aI:qd h ao U v (c6 n R (i+1)-c6 n R i) (λk=>x (c6 n R i+k))):
  aD Q s 338 [v,(n:X),(R:X),(C:X),(i:X),(j:X)] h U (λr ac Y =>
   lJ ac U Y r (jZ (c6 n R (i+1)) (c6 n C j) (c6 n C (j+1))-jZ (c6 n R i) (c6 n C j) (c6 n C (j+1))) (λk=>x (jZ (c6 n R i) (c6 n C j) (c6 n C (j+1))+k))/\az U h ac/\U<=Y):=by
 refine aoW ?_;have I:=aI;obtain⟨gW,rfl,ar⟩:=aI;obtain⟨bp,cap,rfl⟩:=ar.form;have hmj:c6 n C j<=c6 n C (j+1):=vv J;have bg:=ua (n:=n) dD (i+1);have hlj:=ua (n:=n) d5 (j+1);unfold ad0;refine aB ?_;refine(Y2 bm).mono ?_;rintro _ _ _ ⟨rfl,rfl,rfl⟩;refine⟨J,?_⟩;refine aB ?_;refine(RK dD B d5 M ai bM).mono ?_;rintro _ _ _ ⟨rfl,rfl,rfl⟩;refine⟨J,?_⟩;have bF:∀{o aW},az U h (F (F h U o) (U+1) aW):=aC
 refine aB ?_;refine(wS (I.is.T bF  J) J).mono ?_;rintro _ h1 a6 ⟨rfl,P,Z⟩;refine⟨Z,?_⟩;have b7:=P U J;rw[aq J,aN]at b7;have br:=P (U+1) J;rw[aN]at br;refine aB ?_;refine(aoX bm dD B ai).mono ?_;rintro _ h1 a6 ⟨rfl,rfl,rfl⟩;refine⟨J,?_⟩;simp(disch:=omega)only[bd,b7,nN,seval];unfold Gj;refine aB ?_;refine(C5  bm dD B J).mono ?_;rintro _ al bH ⟨rfl,dE,e9⟩;refine aB ?_;refine(C5  bm d5 M J).mono ?_;rintro _ aM bR ⟨rfl,E,hr⟩;refine⟨J,?_⟩;have A:=E bH J;rw[aN]at A;have EV:=E U J;rw[aq J,aq J,dE U J,b7]at EV;have ya:=E (U+1) J;rw[aq J,aq J,dE (U+1) J,br]at ya;refine a9 @A ?_;refine Y3.mono ?_;rintro _ bc d4 ⟨rfl,D,iC⟩;refine⟨J,?_⟩;have g42:=(D bH J).trans A;have V2:=(D U J).trans EV;have Ny:=(D (U+1) J).trans ya;have hT:az U h bc:=aC
 generalize dg:c6 n R i=a at *
 generalize M0:c6 n R (i+1)=ax at *
 generalize aU:c6 n C j=c at *
 generalize bu:c6 n C (j+1)=d at *
 have VY:IntKind.wrap .i64 (((max a c:Nat):Int)-(a:Int))=((max a c-a:Nat):Int):=by rw[show((max a c:Nat):Int)-(a:Int)=((max a c-a:Nat):Int) by omega];exact js _ J
 have V0:IntKind.wrap .i64 (((max (max a c) (min ax d):Nat):Int)-(a:Int))=((max (max a c) (min ax d)-a:Nat):Int):=by rw[show((max (max a c) (min ax d):Nat):Int)-(a:Int)=((max (max a c) (min ax d)-a:Nat):Int) by omega];exact js _ J
 refine j6 @V2 @g42 @VY @V0 ?_;have ll:∀{o aW},az U h (F (F bc d4 o) d4 aW):=(hT.set J).set J;refine(aoS   (I.T  (λb _ aG=>ll b aG) (cB _) J) J rfl).mono ?_;rintro r b9 n6 ⟨ba,hz,j9⟩;obtain⟨aAP,rfl,g⟩:=ba;obtain⟨od,o3,rfl,_⟩:=id g;have V:=hz (U+1) J;rw[aq J,aq J,Ny]at V;refine a9 @V ?_;have es:min (max (max a c) (min ax d)-a) (ax-a)-(max a c-a)=jZ ax c d-jZ a c d:=by unfold jZ;omega
 rw[es]at g ⊢;refine⟨⟨_,rfl,?_⟩,(ll.trans hz J).set J,J⟩;have CB:(bn (jZ ax c d-jZ a c d) λk=>x (a+(max a c-a+k)))=bn (jZ ax c d-jZ a c d) λk=>x (jZ a c d+k):=y7 λk hk=>by
  congr 1
  unfold jZ at hk ⊢;omega
 rw[CB]at g ⊢;exact g.T (λb h1 al=>aq J) J J
def GdJ(cj:Nat)(v hb:X)(n:Nat)(ap:ad)(U aX:Nat)(m:Nat)(aE:aa X)(ac:ad)(Y:Nat):Prop :=
 ∃i,m=n-i/\i<=n/\aE=[v,hb,bb cj,.int .i64 0,v,(n:X),(i:X)]/\u ac cj=some (.cells [.int .i64 0,.slice none 0 0] false)/\az U ap ac/\aX<=Y
theorem alI{s:ak}{v:X}{ao:Nat->Nat}{x:Nat->av Int}{h:ad}{U:Nat}(H:A7 h U v ao m x)(hm:m<=1000)(bx:∀i h1 B,i<m->az U h h1->U<=B->aD Q true d7 ((i:X)::cs) h1 B (cI (((ao (i+1)-ao i:Nat):X)) B h1)):
  aD Q s 314 [v,(m:X),.func (.func d7) ⟨[]⟩ ⟨cs⟩] h U (λr ac Y=>∃w,r = .tuple ⟨[w,.int .i64 0]⟩/\qd ac U Y w (ao m-ao 0) (λk=>x (ao 0+k))/\az U h ac/\U<=Y):=by
 refine aoU ?_;have sD:=H;obtain⟨⟨L,rfl,ar,eJ⟩,E,iC⟩:=H;obtain⟨bp,cap,rfl⟩:=ar.form;have bF:∀{o},az U h (F h U o):=aC
 unfold adX;simp(disch:=omega)only[bd,nN,seval];refine bq.mk (GdJ U (.slice bp L.length cap) (.func (.func d7) ⟨[]⟩ ⟨cs⟩) L.length h U (U+1)) L.length ⟨0,J,J,rfl,ab,bF,J⟩ ?_;rintro _ _ h1 B ⟨i,rfl,ai,rfl,br,I,fp⟩;rw[alD];unfold Z7;refine aB ?_;refine⟨λci=>?_,λeh=>?_⟩
 ·obtain⟨⟨n,gW⟩,ca⟩:=dk   J;obtain⟨bm,A⟩:=eJ i _ ca;have A:eu h U gW fV 2 (bn n λk=>x (ao i+k)):=A;have awC:ao (i+1)<=ao L.length:=RV E J;obtain⟨cY,eG,rfl⟩:=A.form;obtain⟨b,aW,aO,bC,qg,oJ,aG,aY,a5,jY⟩:=(ar.T I (Y:=B) J).ld (λ_=>rfl) ca;cases aY;refine cx @a5 @jY ?_;rw[show zm (n,.slice cY (bn n λk=>x (ao i+k)).length eG)=[(n:X),.slice cY (bn n λk=>x (ao i+k)).length eG]from rfl];have cD:∀{o aW},az U h (F (F h1 B o) B aW):=aC
  refine aB ?_;refine(wS   ⟨_,rfl,A.T cD  J⟩ J).mono ?_;rintro _ al bH ⟨rfl,g,D⟩;refine⟨D,?_⟩;have V:=g B J;rw[aN]at V;have P:=g U J;rw[aq J,aq J,br]at P;refine aB ?_;have ez:=cD.trans g J;refine(bx i al bH J ez J).mono ?_;rintro _ aM bR ⟨rfl,Z,M⟩;refine⟨M,?_⟩;have c3:=(Z B J).trans V;have ya:=(Z U J).trans P;refine hw @c3 @V (cn (J:i<1000000000000)) ?_;refine⟨λaG=>absurd aG ab,λ_=>?_⟩;refine⟨_,?_,i+1,rfl,J,rfl,ya,aC,J⟩;omega
 ·have:i=L.length:=J
  subst this;refine(aoT (sD.T I  J) hm).mono ?_;rintro _ al bH ⟨w,rfl,bN,g,D⟩;obtain⟨Xl,rfl,zW⟩:=id bN;obtain⟨od,o3,rfl⟩:=zW.form;have V:=(g U J).trans br;refine a9 @V ?_;exact⟨_,rfl,bN.T ab J J,aC,J⟩
theorem aoY{s:ak}{n i g:Nat}{dJ nI aBZ V:ak}{h:ad}{U:Nat}(bm:n<=4096)(dD:0<R)(IS:R<=8)(d5:0<C)(P:C<=8)(ai:i<R)(bM:j<C)(br:u h cj=some (.cells [(n:X)] dJ))(dK:u h cS=some (.cells [(R:X)] nI))(o8:u h eY=some (.cells [(C:X)] aBZ))(D:u h g=some (.cells [(j:X)] V))(de:cj<U)(fQ:cS<U)(Oh:eY<U)(b10:g<U):
  aD Q s 315 [(i:X),bb cj,bb cS,bb eY,bb g] h U
   (cI (((jZ (c6 n R (i+1)) (c6 n C j) (c6 n C (j+1))-jZ (c6 n R i) (c6 n C j) (c6 n C (j+1)):Nat):X)) U h):=by
 refine bS ?_;refine cx @br @dK ?_;refine(C5  bm dD IS J).mono ?_;rintro _ al bH ⟨rfl,A,B⟩;refine⟨B,?_⟩;have E6:=(A cj de).trans br;have Z:=(A eY Oh).trans o8;have E:=(A g b10).trans D;refine Bc @E6 @Z @E @br @o8 @D ?_;refine(C5  bm d5 P J).mono ?_;rintro _ aM bR ⟨rfl,ek,M⟩;refine⟨M,?_⟩;refine Y3.mono ?_;rintro _ bc d4 ⟨rfl,gd,I⟩;refine⟨I,?_⟩;have bg:=ua (n:=n) dD (i+1);generalize c6 n R i=a at *
 generalize c6 n R (i+1)=ax at *
 generalize c6 n C j=c at *
 generalize c6 n C (j+1)=d at *
 have e8:IntKind.wrap .i64 (((max (max a c) (min ax d):Nat):Int)-((max a c:Nat):Int))=((jZ ax c d-jZ a c d:Nat):Int):=by rw[show((max (max a c) (min ax d):Nat):Int)-((max a c:Nat):Int)=((jZ ax c d-jZ a c d:Nat):Int) by unfold jZ;omega];exact js _ (by unfold jZ;omega)
 refine a9 @e8 ?_;exact⟨rfl,aC,J⟩
theorem asw{s:ak}{n:Nat}{v:X}{x:Nat->av Int}{h:ad}{U:Nat}(bm:n<=4096)(E:0<R)(D:R<=8)(V:0<C)(A:C<=8)(bM:j<C)(H:A7 h U v (λi=>jZ (c6 n R i) (c6 n C j) (c6 n C (j+1))) R x):
  aD Q s 223 [(n:X),(R:X),(C:X),(j:X),v] h U (λr ac Y=>∃w,r = .tuple ⟨[w,.int .i64 0]⟩ /\
   qd ac U Y w (c6 n C (j+1)-c6 n C j) (λk=>x (c6 n C j+k))/\az U h ac/\U<=Y):=by
 refine auG ?_;have hmj:c6 n C j<=c6 n C (j+1):=vv J;have hlj:=ua (n:=n) V (j+1);have bF:∀{o aW kQ gL kz},az U h (F (F (F (F (F h U o) (U+1) aW) (U+2) kQ) (U+3) gL) (U+4) kz):=aC
 unfold agK;refine aB ?_;refine(Y2 bm).mono ?_;rintro _ h1 a6 ⟨rfl,gG,eL⟩;rw[gG,eL];refine aB ?_;refine(RK  E D V A E bM).mono ?_;rintro _ al bH ⟨rfl,I,P⟩;rw[I,P];refine aB ?_;unfold RW;refine aB ?_;refine(alI (H.T bF  J) J   (λi aM bR ai g B=>?_)).mono ?_
 ·exact aoY bm E D V A ai bM ((g U J).trans (by rw[aq J,aq J,aq J,aq J,aN])) ((g (U+1) J).trans (by rw[aq J,aq J,aq J,aN])) ((g (U+2) J).trans (by rw[aq J,aq J,aN])) ((g (U+3) J).trans (by rw[aq J,aN])) J J J J
 rintro _ aM bR ⟨w,rfl,M,g,B⟩;have aF:jZ (c6 n R 0) (c6 n C j) (c6 n C (j+1))=c6 n C j:=by rw[afu];unfold jZ;omega
 have aY:jZ (c6 n R R) (c6 n C j) (c6 n C (j+1))=c6 n C (j+1):=by rw[afv E];unfold jZ;omega
 rw[aF,aY]at M;obtain⟨Xl,rfl,Z⟩:=id M;obtain⟨od,o3,rfl⟩:=Z.form;have c3:=(g (U+4) J).trans (aN _ _ _);refine a9 @c3 ?_;exact⟨_,rfl,M.T ab J J,aC,J⟩
theorem LK{s:ak}{n k:Nat}{p:Nat->ak}{v:X}{h:ad}{U:Nat}(bm:n<=63)(E:k<n)(D:cN h U v kq (eU n p)):aD Q s 334 [v,(k:X)] h U (fm (.bool (p k)) U h):=by
 refine agG ?_;have e8:eU n p=[mk n p]:=if_neg J;rw[e8]at D;obtain⟨a,cap,rfl,aU⟩:=id D;obtain⟨b,aO,bC,aG,rfl,P⟩:=aU (by simp);unfold T5 cf c7 eX dc f3;refine(ZY J).mono ?_;rintro r V Z ⟨rfl,g,A⟩;rw[g,A];refine⟨cB _,?_⟩;refine aB ?_;refine(afn J).mono ?_;rintro r V Z ⟨rfl,g,A⟩;rw[g,A];refine⟨cB _,?_⟩;have I:bin Q .and 188 (.int .u64 (mk n p:Int)) (.int .u64 ((2 ^ k:Nat):Int)) = .ok (.int .u64 (mk n (λi=>p i&&decide (i=k)):Int)):=by rw[aeI E,Gs (xI J) (xI J),atH]
 have B:u h b=some (.cells [.int .u64 (mk n p:Int)] bC):=P;simp(disch:=omega)only[bd,Gt,show k / 64=0 by omega,show((0:Nat):Int)=0 from rfl,B,I,nM,CQ,seval];have M:(!((mk n (λi=>p i&&decide (i=k)):Int) == 0))=p k:=by
  cases bv:p k with
  |true =>
   have:mk n (λi=>p i&&decide (i=k))≠0:=λe=>by
    have:=GU.1 e k E
    grind
   grind
  |false =>
   have:mk n (λi=>p i&&decide (i=k))=0:=GU.2 λi ai=>ab
   grind
 rw[M];exact⟨rfl,rfl,rfl⟩
def ku(x:Nat->av Int)(i:Nat):ak:=(x i).isSome
def kd(x:Nat->av Int)(i:Nat):Int:=(x i).getD 0
def s8(h:ad)(U:Nat)(v:X)(n:Nat)(x:Nat->av Int):Prop:=∃ei cY,v = .agg ⟨[(n:X),ei,cY]⟩/\cN h U ei kq (eU n (ku x))/\eu h U cY cG 1 (cF n (kd x))
def DZ(h:ad)(ao ai:Nat)(v:X)(n:Nat)(x:Nat->av Int):Prop:=∃ei cY,v = .agg ⟨[(n:X),ei,cY]⟩/\eZ h ao ai ei kq (eU n (ku x))/\eZ h ao ai cY cG (cF n (kd x))
section
variable {h ac:ad} {U Y ao ai ed da n:Nat} {v:X} {x:Nat->av Int}
theorem s8.T(H:s8 h U v n x)(A:az U h ac)(g:U<=Y):s8 ac Y v n x:=by obtain⟨a,b,e,B,D⟩:=H;exact⟨a,b,e,B.T A g,D.T A g⟩
theorem DZ.is(H:DZ h ao ai v n x):s8 h ai v n x:=by obtain⟨a,b,e,g,A⟩:=H;exact⟨a,b,e,g.rd,cN.o (λ_=>rfl) A.rd⟩
theorem DZ.T(H:DZ h ao ai v n x)(A:∀b,ao<=b->b<ai->u ac b=u h b)(B:ed<=ao)(g:ai<=da):DZ ac ed da v n x:=by obtain⟨a,b,e,E,D⟩:=H;exact⟨a,b,e,E.T A B g,D.T A B g⟩
end
theorem aoZ(n:Nat)(f:Nat->Int)(k:Nat)(y:Int):(cF n f).set k y=cF n (λj=>if j=k then y else f j):=by
 apply nL;intro i;unfold cF
 grind
theorem alJ(n:Nat):List.replicate n (Value.int .i64 0)=a1 cG (cF n λ_=>0):=by
 induction n with
 |zero=>rfl
 |succ n g =>
  rw[Ho,AG,<-g,List.replicate_succ'];rfl
theorem K2{n:Nat}{f g:Nat->Int}(h:∀i,i<n->f i=g i):cF n f=cF n g:=by exact qO ab
theorem asx{s:ak}{n:Nat}{h:ad}{U:Nat}(P:n<=63):aD Q s 388 [(n:X)] h U (λr ac Y=>∃E b,r = .agg ⟨[(n:X),E,.slice (some ⟨b,0,none⟩) n n]⟩/\U<b/\b<Y/\u ac b=some (.cells (a1 cG (cF n λ_=>0)) false)/\eZ ac (U+1) b E kq (eU n λ_=>false)/\az U h ac/\U<=Y):=by
 refine aua ?_;unfold agn;refine aB ?_;unfold Rr Rq;refine aB ?_;refine⟨λA=>absurd A J,λ_=>⟨λA=>absurd A J,λ_=>?_⟩⟩;refine(adT P).mono ?_;rintro v Z I ⟨D,B,g⟩;obtain⟨V,cap,rfl,A⟩:=id D;refine⟨g,?_⟩;have M:=(B U J).trans (aN _ _ _);refine a9 @M ?_;refine⟨_,I,rfl,J,J,?_,?_,aC,J⟩
 ·rw[aq J,aN,alJ]
 ·exact D.T ab J J
theorem Z9{s:ak}{n:Nat}{v:X}{x:Nat->av Int}{h:ad}{U:Nat}(aI:s8 h U v n x)(bm:n<=63):aD Q s 478 [v] h U (cI (.bool true) U h):=by
 refine anF ?_;obtain⟨ei,cY,rfl,P,M⟩:=aI;obtain⟨bp,cap,rfl,aU⟩:=id P;obtain⟨I,g,rfl,qk⟩:=id M;have bF:∀{o},az U h (F h U o):=aC
 unfold adj;refine aB ?_;refine(Z2 bm (P.T  bF J)).mono ?_;rintro _ h1 a6 ⟨rfl,D,fp⟩;have b7:=(D U J).trans (aN _ _ _);refine a9 @b7 ?_;unfold PQ;refine a9 @b7 ?_;rw[jq];refine⟨λaU=>absurd aU (by simp),λ_=>?_⟩;have Z:=bF.trans D J;refine bq.mk (λm aE ac Y=>∃i,m=n-i/\i<=n/\aE=[bb U,.bool false,.slice I n g,(n:X),(i:X)]/\ac=h1/\Y=a6) n ⟨0,J,J,rfl,rfl,rfl⟩ ?_;rintro _ _ al bH ⟨i,rfl,ai,rfl,gG,eL⟩;rw[ak2];unfold ZP;refine aB ?_;refine⟨λE=>?_,λeh=>by rw[gG,eL];exact⟨rfl,Z,J⟩⟩;have E:i<n:=J
 have ca:(cF n (kd x))[i]? = some (kd x i):=by
  unfold cF
  grind
 rw[gG,eL];have A:eu h1 a6 (.slice I (cF n (kd x)).length g) cG 1 (cF n (kd x)):=M.T Z J;rw[jq]at A;obtain⟨b,aW,aO,bC,cs,oJ,aG,aY,a5,V⟩:=eu.ld1  A ca;rw[jq]at aY;cases aY;refine cx @a5 @V ?_;have fin:∃bG,bG<n-i/\∃B,bG=n-B/\B<=n/\[Value.pointer (some ⟨U,0,none⟩),Value.bool false,Value.slice (some ⟨b,aW,aO⟩) n g,Value.int IntKind.i64 (n:Int),Value.int IntKind.i64 (IntKind.i64.wrap ((i:Int)+1))]=[Value.pointer (some ⟨U,0,none⟩),Value.bool false,Value.slice (some ⟨b,aW,aO⟩) n g,Value.int IntKind.i64 (n:Int),Value.int IntKind.i64 (B:Int)]:=⟨_,J,i+1,rfl,J,by rw[cn J]⟩
 refine⟨λcX=>?_,λ_=>fin⟩;rw[b7];refine aB ?_;refine(LK bm E (P.T Z  J)).mono ?_;rintro _ _ _ ⟨rfl,rfl,rfl⟩;have fj:ku x i=true:=by
  unfold ku;unfold kd at cX;cases aR:x i with
  |none=>grind
  |some y=>rfl
 refine a9 @fj ?_;omega
theorem ao0{s:ak}{n:Nat}{v:X}{x:Nat->av Int}{h:ad}{U:Nat}(E:s8 h U v n x)(Z:n<=63):aD Q s 450 [v] h U (cI v U h):=by
 refine bS ?_;have A:=E;obtain⟨ei,cY,rfl,V,B⟩:=E;obtain⟨_,_,rfl,_⟩:=id V;obtain⟨_,_,rfl,_⟩:=id B;have P:∀{o aW},az U h (F (F h U o) (U+1) aW):=aC
 refine aB ?_;refine(Z9 (A.T  P J) Z).mono ?_;rintro _ h1 a6 ⟨rfl,g,D⟩;have M:=g U J;rw[aq J,aN]at M;have I:=g (U+1) J;rw[aN]at I;refine cx @M @I ?_;exact⟨rfl,aC,J⟩
theorem afF{s:ak}{n:Nat}{v:X}{x:Nat->av Int}{h:ad}{U:Nat}(aI:kn h U v n x)(bm:n<=63):aD Q s 318 [v] h U (λr ac Y=>DZ ac U Y r n x/\az U h ac/\U<=Y):=by
 refine awc ?_;have V:=aI;obtain⟨gW,rfl,ar⟩:=aI;obtain⟨bp,cap,rfl,aU⟩:=id ar;have bF:∀{o aW},az U h (F (F h U o) (U+1) aW):=aC
 unfold ahp;refine aB ?_;refine(wS (V.T  bF J) J).mono ?_;rintro _ h1 a6 ⟨rfl,eT,fp⟩;have b7:=eT U J;rw[aq J,aN]at b7;have br:=eT (U+1) J;rw[aN]at br;refine a9 @b7 ?_;refine(asx bm).mono ?_;rintro _ al A ⟨ei,b,rfl,hy,fa,wA,Ew,dE,e9⟩;have Nz:=(dE U J).trans b7;have E6:=(dE (U+1) J).trans br;obtain⟨D,g,rfl,_⟩:=id Ew;refine a9 @Nz ?_;have gA:=my n x;have Z:u (F (F al A (.cells [.int .i64 0,.slice none 0 0,.slice none 0 0] false)) A (.cells [(n:X),.slice D (eU n λx=>false).length g,.slice (some ⟨b,0,none⟩) n n] false)) A=some (.cells [(n:X),.slice D (eU n λx=>false).length g,.slice (some ⟨b,0,none⟩) n n] false):=ab
 have ez:az A al (F (F al A (.cells [.int .i64 0,.slice none 0 0,.slice none 0 0] false)) A (.cells [(n:X),.slice D (eU n λx=>false).length g,.slice (some ⟨b,0,none⟩) n n] false)):=aC
 generalize gh:F (F al A (.cells [.int .i64 0,.slice none 0 0,.slice none 0 0] false)) A (.cells [(n:X),.slice D (eU n λx=>false).length g,.slice (some ⟨b,0,none⟩) n n] false)=aM at Z ez ⊢;refine bq.mk (λm aE ac Y=>∃i,m=(bn n x).length-i/\i<=(bn n x).length/\aE=[bb U,.pointer (some ⟨U+1,0,none⟩),bb A,.slice bp (bn n x).length cap,.int .i64 ((bn n x).length:Int),(i:X)] /\
  u ac b=some (.cells (a1 cG (cF n λk=>if ns (((bn n x).map (·.1)).take i) k=true then kd x k else 0)) false)/\(∀c,c<A+1->c≠b->u ac c=u aM c)/\A+1<=Y) (bn n x).length ⟨0,J,J,rfl,?_,ab,J⟩ ?_
 ·rw[ez b fa,wA];rfl
 rintro _ _ bc d4 ⟨i,rfl,ai,rfl,gb4,M,iC⟩;have hT:az U h bc:=aC
 have I:=(M A J J).trans Z;have P:=(M U J J).trans ((ez U J).trans Nz);have Ny:=(M (U+1) J J).trans ((ez (U+1) J).trans E6);rw[at8];unfold ae4;refine aB ?_;refine⟨λci=>?_,λeh=>?_⟩
 ·obtain⟨⟨k,y⟩,ca⟩:=dk   J;obtain⟨hk,aR⟩:=w3 ca;obtain⟨ck,aW,aO,bC,cs,oJ,hQ,aY,a5,jY⟩:=(ar.T hT (Y:=d4) J).ld (λ_=>rfl) ca;cases aY;refine cx @a5 @jY ?_;rw[show fV (k,y)=[(k:X),(y:X)]from rfl];refine a9 @I ?_;have bN:=Tx (enc:=cG)  (λ_=>rfl) (λ_=>rfl) (h:=F (F bc d4 (.cells [.int .i64 0,.int .i64 0] false)) d4 (.cells [(k:X),(y:X)] false)) (b:=b)  (l:=cF n λk=>if ns (((bn n x).map (·.1)).take i) k=true then kd x k else 0) (y:=y) (by rw[jq];omega);rw[FT]at bN;rw[show cG y=[Value.int .i64 y]from rfl]at bN;rw[gb4,bN];refine a9 (cn (J:i<1000000000000)) ?_;refine⟨_,?_,i+1,rfl,J,rfl,?_,λc h1 al=>?_,J⟩
  ·omega
  ·rw[aoZ]
   congr 3
   apply K2;intro j bM;rw[aby (show((bn n x).map (·.1))[i]? = some k by grind)]
   by_cases e:j=k
   ·subst e;simp[kd,aR]
   grind
  grind
 ·have:i=(bn n x).length:=J
  subst this;refine a9 @P ?_;refine(Y1 ((V.T hT  J)) J).mono ?_;rintro aB0 bP fI ⟨bv,B,mE⟩;refine⟨mE,?_⟩;have g05:=(B U J).trans P;refine cx @P @g05 ?_;have pA:(bn n x).map (λp=>(p.1:Int))=gm ((bn n x).map (·.1)):=by unfold gm;rw[pW];rfl
  rw[pA]at bv;refine(LJ bm bv.rd (λj bM=>?_) ab).mono ?_
  ·obtain⟨⟨a,c⟩,dg,rfl⟩:=fL.1 bM;exact(kl.1 dg).1
  rintro hb b9 n6 ⟨bx,E,j9⟩;refine⟨j9,?_⟩;obtain⟨adf,aAc,rfl,_⟩:=id bx;have ayr:=(E A J).trans ((B A J).trans I);have E7:=(E (U+1) J).trans ((B (U+1) J).trans Ny);refine cx @ayr @E7 ?_;have qH:eU n (ns ((bn n x).map (·.1)))=eU n (ku x):=by
   unfold eU
   by_cases cX:n=0
   ·grind
   ·rw[if_neg cX,if_neg cX,DE];intro i ai;unfold ns ku;cases aR:x i with
    |none =>
     refine f9 λhm=>?_;obtain⟨⟨a,c⟩,dg,rfl⟩:=fL.1 hm;have:=(kl.1 dg).2
     grind
    |some y=>exact gz (fL.2 ⟨(i,y),kl.2 ab,rfl⟩)
  have ej:(cF n λk=>if ns (((bn n x).map (·.1)).take (bn n x).length) k=true then kd x k else 0)=cF n (kd x):=by
   apply K2;intro i ai;rw[pT ab];unfold ns kd;cases aR:x i with
   |none=>simp
   |some y =>
    rw[if_pos];exact gz (fL.2 ⟨(i,y),kl.2 ab,rfl⟩)
  rw[ej]at gb4;refine⟨⟨_,_,rfl,?_,?_⟩,?_,J⟩
  ·rw[qH]at bx ⊢;exact bx.T ab J J
  ·refine⟨some ⟨b,0,none⟩,n,by rw[jq],λ_=>⟨b,none,false,J,J,rfl,?_⟩⟩;rw[aq J,aq J,E b J,B b J];omega
  ·exact(((hT.trans B J).trans E J).set J).set J
def I0(s:ak)(G:Nat)(cs:aa X)(N:Nat)(A:Nat->aa X)(S:ad->Nat->Prop):Prop :=
 ∀(l:Nat) (I:Nat->ad->Nat->Prop) (ac:ad) (Y:Nat),(∀k h1 a6,I k h1 a6->S h1 a6)->(∀k h1 a6 al bH,I k h1 a6->az a6 h1 al->a6<=bH->I k al bH)->I 0 ac Y ->
  (∀(lY:ak) k,k<N->∀h1 a6,I k h1 a6->mg Q lY l (A k) h1 a6 (λr al bH=>r = .bool true/\I (k+1) al bH/\a6<=bH))->aD Q s G (.func (.yield l) ⟨[]⟩ ⟨[]⟩::cs) ac Y (λ_ al bH=>I N al bH)
theorem Ty{s:ak}{aj:b8}{Z:aa Nat}{a b:Code}{N:Nat}{A:Nat->aa X}{h:ad}{U:Nat}{aAQ aB1:ad->Nat->Prop}(I:Nat->ad->Nat->Prop)(it:I0 s G cs N A S)(hk:∀k g B,I k g B->S g B/\U+1<=B)(P:∀k g B E M,I k g B->(∀c,c<B->c≠U->u E c=u g c)->B<=M->I k E M)(ap:I 0 (F h U (.loop 0 none aj Z a b)) (U+1))(step:∀(s:ak) k,k<N->∀g B,I k g B->u g U=some (.loop 0 none aj Z a b)->mg Q s U (A k) g B (λr E M=>r = .bool true/\u E U=some (.loop 0 none aj Z a b)/\I (k+1) E M/\B<=M))(fin:∀g B,I N g B->aAQ g B):uB Q s (.func (.func G) ⟨[]⟩ ⟨cs⟩) h U (.loop 0 none aj Z a b) (zu U aAQ aB1):=by
 refine(it U (λk g B=>u g U=some (.loop 0 none aj Z a b)/\I k g B) _ _ (λk g B D=>(hk k g B D.2).1)
  (λk g B E M D V dr=>⟨(V U (by have:=(hk k g B D.2).2;omega)).trans D.1,P k g B E M D.2 (λc g _=>V c g) dr⟩) ⟨ab,ap⟩ λs k Vx g B D=>?_).mono ?_
 ·exact(step s k Vx g B D.2 D.1).mono λr E M ⟨aY,aJ,ce,eC⟩=>⟨aY,⟨aJ,ce⟩,eC⟩
 ·rintro _ g B ⟨bg,D⟩;exact⟨0,none,_,_,_,_,bg,J,.inl ⟨rfl,fin _ _ (P _ _ _ _ _ D ab J)⟩⟩
theorem alK{s:ak}{h:ad}{U:Nat}(eJ:L.length<=10000)(it:I0 s G cs L.length (λk=>[.agg ⟨fV (L.getD k (0,0))⟩]) S)(V:∀g A,az U h g->U<=A->S g A):
  aD Q s 495 [.slice none 0 0,.func (.func G) ⟨[]⟩ ⟨cs⟩] h U (λr ac Y=>eZ ac U Y r fV L/\az U h ac/\U<=Y):=by
 refine aoy ?_;unfold adQ;refine aB ?_;refine Ty (λk g A=>∃v,u g U=some (.cells [v] false)/\hv v=true/\dX g v fV 2 (L.take k) (U+2) A/\az U h g/\U+2<=A) it ?_ ?_ ?_ ?_ ?_
 ·rintro k g A ⟨v,_,_,_,g,al⟩;exact⟨V _ _ g J,al⟩
 ·rintro k g A al bH ⟨v,e,ej,B,hk,E⟩ dE D;exact⟨v,ab,ej,B.T ab D,aC,J⟩
 ·exact⟨_,ab,rfl,.inl ⟨rfl,rfl⟩,aC,J⟩
 ·rintro s k hk g A ⟨v,e,ej,B,P,E⟩ bg;obtain⟨p,bv⟩:=dk hk;have sh:L.getD k (0,0)=p:=ab
  rw[sh];refine alr bg ?_;unfold QF abL;generalize vA _ _ _=aj at *
  simp(disch:=omega)only[bd,show c5 (.agg ⟨fV p⟩)=[(p.1:X),(p.2:X)]from rfl,seval];refine⟨none,bg,?_⟩;refine a9 @e ?_;refine l7 (k:=2) (λ_=>rfl) (λ_=>rfl) J (B.T ab J) J p (aN _ _ _) rfl ab λdG bP Z hi=>?_;have el:u bP (U+1)=some (.loop 1 none aj [7] vw vx):=ab
  have gP:u bP U=some (.cells [v] false):=ab
  have cy:L.take (k+1)=L.take k++[p]:=by rw[gQ,bv];rfl
  rcases Z with⟨aF,rfl⟩|⟨b,I,M,rfl,a5⟩
  ·simp at aF
  ·refine a9 @gP ?_;refine⟨1,none,el,⟨_,rfl,rfl,.inr ⟨b,I,J,by rw[cy],?_⟩,aC,J⟩,J⟩
   grind
 ·rintro g A ⟨v,e,ej,B,P,E⟩;rw[ht]at B;refine a9 @e ?_;refine⟨?_,P,J⟩;rcases B with⟨rfl,rfl⟩|⟨b,I,M,rfl,a5⟩
  ·exact⟨_,_,rfl,λh=>absurd rfl h⟩
  ·exact⟨_,_,rfl,λ_=>⟨b,some 2,false,J,M,rfl,a5⟩⟩
theorem K3{q:Nat->ak}{a:Int}:∀{n:Nat},(∀i,i<n->q i=true->¬a<=(i:Int))->fW q a n = -1
 |0,_=>rfl
 |n+1,h=>by show(if fW q a n = -1 then(if q n=true/\a<=(n:Int)then(n:Int)else -1)else fW q a n) = -1;rw[if_pos (K3 ab),if_neg λg=>h n J g.1 g.2]
theorem afG{a:Int}{n:Nat}(B:m<n)(E:q m=true)(D:a<=(m:Int))(g:∀i,i<m->q i=true->¬a<=(i:Int)):fW q a n=(m:Int):=by
 have A:fW q a m = -1:=K3 g;have I:fW q a (m+1)=(m:Int):=by
  show(if fW q a m = -1 then(if q m=true/\a<=(m:Int)then(m:Int)else -1)else fW q a m)=_
  grind
 have:=SV (q:=q) (a:=a) (k:=m+1) J (n-(m+1))
 grind
def yb(n:Nat)(x:Nat->av Int)(j:Nat):Int:=match(bn n x)[j]? with
 |some p=>(p.1:Int)
 |none=>-1
theorem ao1(n:Nat)(x:Nat->av Int):fW (ku x) 0 n=yb n x 0:=by
 unfold yb;cases D:(bn n x)[0]? with
 |none =>
  refine K3 λi ai g=>?_;unfold ku at g;cases E:x i with
  |none=>grind
  |some y =>
   have:=kl.2 ⟨ai,E⟩
   grind
 |some p =>
  obtain⟨M,E⟩:=w3   D;refine afG M (by unfold ku;grind) J λi ai g=>?_;unfold ku at g;cases B:x i with
  |none=>grind
  |some y =>
   obtain⟨j,P,e⟩:=FE (kl.2 ⟨show i<n by omega,B⟩);have A:(bn n x)[j]? = some (i,y):=ab
   rcases As j with rfl|I
   ·grind
   ·have:=vO   D A I;omega
theorem asy{n:Nat}{x:Nat->av Int}(M:(bn n x)[j]? = some p):fW (ku x) ((p.1:Int)+1) n=yb n x (j+1):=by
 unfold yb;have E:∀i,i<n->ku x i=true->(p.1:Int)+1<=(i:Int)->∃m y,j<m/\(bn n x)[m]? = some (i,y):=λi ai B A=>by
  unfold ku at B;cases I:x i with
  |none=>grind
  |some y =>
   obtain⟨m,P,e⟩:=FE (kl.2 ⟨ai,I⟩);have g:(bn n x)[m]? = some (i,y):=ab
   refine⟨m,y,?_,g⟩;rcases Au m j with h|h|h
   ·have:=vO   g M h;omega
   all_goals grind
 cases D:(bn n x)[j+1]? with
 |none =>
  refine K3 λi ai B A=>?_
  grind
 |some Z =>
  obtain⟨V,aR⟩:=w3   D;have:=vO     M D J;refine afG V (by unfold ku;grind) J λi ai B A=>?_;obtain⟨m,y,P,g⟩:=E i J B A;rcases jH (j+1) m with h|h
  ·have:=vO   D g h;omega
  grind
def ays(n cj:Nat)(x:Nat->av Int)(ei cY:X)(h:ad)(U:Nat):Prop:=u h cj=some (.cells [(n:X),ei,cY] false)/\cN h U ei kq (eU n (ku x))/\eu h U cY cG 1 (cF n (kd x))
theorem ao2{s:ak}{n:Nat}{x:Nat->av Int}{ei cY:X}(bm:n<=63):
  I0 s 479 [bb cj] (bn n x).length (λk=>[.int .i64 (((bn n x).getD k (0,0)).1:Int),.int .i64 ((bn n x).getD k (0,0)).2]) (ays n cj x ei cY):=by
 intro l I ac Y ai D ap ca;refine ard ?_;unfold afa;obtain⟨b7,ar,nu⟩:=ai _ _ _ ap;obtain⟨bp,cap,rfl,aU⟩:=id ar;obtain⟨ad2,r5,rfl,qk⟩:=id nu;refine a9 @b7 ?_;refine(RO bm ar).mono ?_;rintro _ h1 a6 ⟨rfl,V,g⟩;rw[ao1];refine bq.mk (λm aE Z bH=>∃j,m=(bn n x).length-j/\j<=(bn n x).length/\aE=[.func (.yield l) ⟨[]⟩ ⟨[]⟩,bb cj,.int .i64 (yb n x j)]/\I j Z bH) (bn n x).length ⟨0,J,J,rfl,D _ _ _ _ _ ap V g⟩ ?_;rintro _ _ Z bH ⟨j,rfl,bM,rfl,mW⟩;rw[anG];unfold abi;obtain⟨g2,lP,P⟩:=ai _ _ _ mW;rcases jH j (bn n x).length with A|eh
 ·obtain⟨p,B⟩:=dk A;obtain⟨hk,aR⟩:=w3   B;have g9:yb n x j=(p.1:Int):=by unfold yb;grind
  have sh:(bn n x).getD j (0,0)=p:=ab
  have UV:(cF n (kd x))[p.1]? = some p.2:=by unfold cF;rw[sS,yH hk];unfold kd;grind
  obtain⟨b,aW,aO,bC,cs,oJ,aG,aY,n4,jY⟩:=eu.ld1  P UV;cases aY;rw[g9];rw[jq]at *
  refine hw @g2 @n4 @jY ?_;refine⟨λ_=>?_,λaU=>absurd aU J⟩;have rC:=ca s j A Z bH mW;simp only[sh]at rC;refine rC.mono ?_;rintro _ aM bR ⟨rfl,M,uP⟩;obtain⟨c3,hs3,aAd⟩:=ai _ _ _ M;refine cx @c3 (cn (J:p.1<1000000000000)) ?_;refine(RO bm hs3).mono ?_;rintro _ bc d4 ⟨rfl,gd,E⟩;exact⟨_,J,j+1,rfl,J,by rw[show((p.1+1:Nat):Int)=(p.1:Int)+1 by omega,asy B],D _ _ _ _ _ M gd E⟩
 ·have:j=(bn n x).length:=J
  subst this;have g9:yb n x (bn n x).length = -1:=by unfold yb;grind
  rw[g9];refine aB ?_;exact⟨λh=>absurd trivial h,mW⟩
theorem ao3{s:ak}{n:Nat}{v:X}{x:Nat->av Int}{h:ad}{U:Nat}(aI:s8 h U v n x)(bm:n<=63):aD Q s 391 [v] h U (λr ac Y=>lJ ac U Y r n x/\az U h ac/\U<=Y):=by
 refine ar6 ?_;have kR:=aI;obtain⟨ei,cY,rfl,ar,nu⟩:=aI;obtain⟨bp,cap,rfl,aU⟩:=id ar;obtain⟨P,g,rfl,qk⟩:=id nu;have gA:=my n x;unfold afy;refine aB ?_;refine(ao0 (kR.T aC J) bm).mono ?_;rintro _ al B ⟨rfl,A,I⟩;have b7:=(A U J).trans ((aq J).trans (aN _ _ _));have br:=(A (U+1) J).trans (aN _ _ _);refine cx @b7 @br ?_;refine aub ?_;unfold ago;refine aB ?_;have V6:=ao2 (s:=s) (cj:=B+1) (x:=x) (ei:=.slice bp (eU n (ku x)).length cap) (cY:=.slice P (cF n (kd x)).length g) bm;generalize eJ:bn n x=L at *
 refine Ty (λk D V=>∃w,u D B=some (.cells [(n:X),w] false)/\hv w=true/\dX D w fV 2 (L.take k) (B+3) V/\u D (U+1)=some (.cells [.int .i64 0,.slice none 0 0] false)/\u D (B+1)=some (.cells [(n:X),.slice bp (eU n (ku x)).length cap,.slice P (cF n (kd x)).length g] false)/\az U h D/\B+3<=V) V6 ?_ ?_ ?_ ?_ ?_
 ·rintro k D V ⟨w,e,e8,E,aJ,ce,hk,M⟩;exact⟨⟨ce,ar.T hk J,nu.T hk J⟩,J⟩
 ·rintro k D V al n2' ⟨w,e,e8,E,aJ,ce,hk,M⟩ A I;exact⟨w,ab,e8,E.T ab I,ab,ab,aC,J⟩
 ·exact⟨.slice none 0 0,ab,rfl,.inl ab,ab,ab,λc aU=>by
   repeat rw[aq J]
   rw[A c J]
   repeat rw[aq J],J⟩
 ·rintro s k hk D V ⟨w,e,e8,E,aJ,ce,hkp,M⟩ bg;obtain⟨p,bv⟩:=dk hk;have sh:L.getD k (0,0)=p:=ab
  rw[sh];refine aoA bg ?_;unfold RM adR;generalize vF _ _ _ _ _ _ _ _ _ _ _=aj at *
  refine⟨none,bg,?_⟩;refine a9 @e ?_;refine l7 (k:=2) (ao:=B+3) (λ_=>rfl) (λ_=>rfl) J (E.T ab J) J p (aN _ _ _) rfl ab λdG bP sl hi=>?_;have el:u bP (B+1+1)=some (.loop 1 none aj [13,14] vB vC):=ab
  have gP:u bP B=some (.cells [(n:X),w] false):=ab
  have g1:u bP (U+1)=some (.cells [.int .i64 0,.slice none 0 0] false):=ab
  have gO:u bP (B+1)=some (.cells [(n:X),.slice bp (eU n (ku x)).length cap,.slice P (cF n (kd x)).length g] false):=ab
  have Xm:az U h bP:=aC
  have cy:L.take (k+1)=L.take k++[p]:=by rw[gQ,bv];rfl
  rcases sl with⟨aF,rfl⟩|⟨b,Z,fa,rfl,a5⟩
  ·simp at aF
  ·refine a9 @gP ?_;refine⟨1,none,el,⟨_,rfl,rfl,.inr ⟨b,Z,J,by rw[cy],?_⟩,g1,gO,(Xm.set J).set J,J⟩,J⟩
   grind
 ·rintro D V ⟨w,e,e8,E,aJ,ce,hkp,M⟩;rw[ht]at E;obtain⟨_,_,rfl⟩:∃a c,w = .slice a L.length c:=by
   rcases E with⟨aY,rfl⟩|⟨b,_,_,rfl,_⟩
   all_goals grind
  refine cx @e @aJ ?_;refine⟨⟨_,rfl,?_⟩,aC,J⟩;rw[eJ];rcases E with⟨rfl,aY⟩|⟨b,Z,fa,aY,a5⟩
  ·exact⟨_,_,aY,λh=>absurd rfl h⟩
  ·exact⟨_,_,aY,λ_=>⟨b,some 2,false,J,fa,rfl,ab⟩⟩
theorem Lt:∀(p:aa GE) (a:Nat),a∈dY p↔∃g∈p,g.f=a:=by
 refine Dw (λa=>⟨λh=>(tT h).elim,ab⟩) λp g B a=>⟨G5 _ a,?_⟩
 rintro⟨x,A,rfl⟩;rw[wX];unfold ud
 grind
theorem auI:∀(p:aa GE),lk p->(dY p).Pairwise (·<·):=by
 refine Dw (λ_=>List.Pairwise.nil) λp g ev E=>?_;have bv:=ev (rI.1 E).1;rw[wX];unfold ud
 split
 ·omega
 ·rename_i D
  refine rI.2 ⟨bv,ab,λa V b Z=>?_⟩;rw[iR.1 Z];obtain⟨x,A,rfl⟩:=G5 p a V;have I:=AW E x A;rcases I with I|I
  ·omega
  ·exfalso;rw[abJ]at D;cases M:p.getLast? with
   |none=>grind
   |some y =>
    rw[M]at D;have P:=AW E y ab;unfold nq at P;have ca:¬y.f=g.f:=ab
    obtain⟨q,cz⟩:=JU.1 M;have B:=(rI.1 E).1;rw[cz]at B A;rcases g6.1 A with A|A
    ·have:=AW B x A;unfold nq at this;omega
    grind
theorem ad1(A:a<=b)(h:∀g∈af,¬(a<=g.f/\g.f<b)):dA af b=dA af a:=by
 unfold dA
 congr 1
 apply J3
 grind
theorem A8(A:lk af){i:Nat}(ai:(dY af)[i]? = some a)(B:(dY af)[j]? = some b)(g:i<j):a<b:=by
 have h:=auI af A;rw[yE]at h
 grind
theorem DL(g:(dY af)[m]? = some a):(hA af)[m]? = some (dA af a:Int):=by
 unfold hA
 grind
theorem RX(af:aa GE):(hA af)[(dY af).length]? = some (af.length:Int):=by
 unfold hA
 grind
theorem asz(h:∀g∈af,g.f<a):dA af a=af.length:=by unfold dA;rw[Aq.2 ab]
theorem K4(I:lk af)(E:(dY af)[m]? = some a):(hA af)[m+1]? = some (dA af (a+1):Int):=by
 have V:=(gE.1 E).1;have M:∀g∈af,a<g.f->∃j,m<j/\(dY af)[j]? = some g.f:=λg D Z=>by
  obtain⟨j,bM,e⟩:=FE ((Lt af g.f).2 ⟨g,D,rfl⟩);have A:(dY af)[j]? = some g.f:=ab
  refine⟨j,?_,A⟩;rcases Au m j with h|h|h
  ·exact h
  ·grind
  ·have:=A8 I A E h;omega
 rcases jH (m+1) (dY af).length with h|h
 ·have B:(dY af)[m+1]? = some (dY af)[m+1]:=ab
  generalize (dY af)[m+1]=b at B;have uL:=A8 I E B J;rw[DL B,ad1 (a:=a+1) J];rintro g D ⟨h1,al⟩;obtain⟨j,bM,e⟩:=M g D J;rcases jH (m+1) j with P|P
  ·have:=A8 I B e P;omega
  grind
 ·have:m+1=(dY af).length:=J
  rw[this,RX,asz]
  grind
theorem asA(A:a∈dY af):dA af a<dA af (a+1):=by
 obtain⟨g,B,rfl⟩:=G5 af a A;rw[abF];have:0<hh af (g.f+1):=by
  apply FF.2;intro e;have this:g∈(af.filter λx=>decide (x.f+1=g.f+1)):=ab
  grind
 omega
theorem awD(I:lk af):(hA af)[0]? = some 0:=by
 cases h:(dY af)[0]? with
 |some a =>
  rw[DL h,show dA af a=dA af 0 from ad1 (by omega) ?_,L7];rfl;rintro g D ⟨_,M⟩;obtain⟨j,P,e⟩:=FE ((Lt af g.f).2 ⟨g,D,rfl⟩);have A:(dY af)[j]? = some g.f:=ab
  rcases As j with rfl|E
  ·grind
  ·have:=A8 I h A E;omega
 |none =>
  have e:(dY af).length=0:=ab
  have B:=RX af;rw[e]at B;rw[B];have:af=[]:=by
   cases af with
   |nil=>rfl
   |cons x l =>
    have:=(Lt (x::l) x.f).2 ⟨x,ab,rfl⟩
    grind
  grind
theorem auJ(E:lk af){x y:Int}(B:(hA af)[m]? = some x)(A:(hA af)[m+1]? = some y):x<y:=by
 have D:=(gE.1 A).1;rw[y9]at D;have g:(dY af)[m]? = some (dY af)[m]:=ab
 generalize (dY af)[m]'J=a at g;rw[DL g]at B;rw[K4 E g]at A;cases B;cases A;have:=asA (jp g);omega
theorem awE{x:Int}(g:(hA af)[m]? = some x):0<=x/\x<=af.length:=by
 have:=jp g;rcases g6.1 this with h|h
 ·obtain⟨a,_,rfl⟩:=fL.1 h;have:=vN af a;omega
 grind
theorem eu.i{h:ad}{U:Nat}{v:X}{l:aa Int}(H:eu h U v cG 1 l):tC h U v l:=by
 obtain⟨a,cap,e,B⟩:=id H;refine⟨a,cap,e,λg=>?_⟩;obtain⟨b,o,aO,bC,cs,P,I,D,h1,al⟩:=B g;refine⟨b,o,aO,bC,cs,P,I,D,λi x aR=>?_⟩;obtain⟨ck,aW,V,M,qg,A,_,ce,Z,E⟩:=eu.ld1  H aR
 grind
theorem Pw{s:ak}{n m:Int}{h:ad}{U:Nat}:aD Q s 492 [(n:X),(m:X)] h U (fm (.bool (decide (0<=n/\n<=m))) U h):=by
 refine bS ?_;refine aB ?_;refine⟨λA=>?_,λA=>?_⟩
 ·by_cases g:m<n
  ·rw[gz g,f9 J];exact⟨rfl,rfl,rfl⟩
  ·rw[f9 g,gz J];exact⟨rfl,rfl,rfl⟩
 ·rw[f9 J];exact⟨rfl,rfl,rfl⟩
theorem Px{s:ak}{l:aa Int}{v:X}{B:Int}{h:ad}{U:Nat}(Z:eu h U v cG 1 l)(bg:l.length<1000000)(dZ:0<=B/\B<1000000000)(aG:∀(i:Nat) x,l[i]? = some x->0<=x/\x<B)(ba:∀(i:Nat) x y,l[i]? = some x->l[i+1]? = some y->x<y):
  aD Q s 493 [v,(B:X)] h U (fm (.bool true) U h):=by
 refine alz ?_;unfold abS;obtain⟨M,cap,rfl,aU⟩:=id Z;refine aB ?_;refine bq.mk (λm aE ac Y=>∃i,m=l.length-i/\i<=l.length/\aE=[.slice M l.length cap,(B:X),.bool false,.slice M l.length cap,(l.length:X),(i:X)]/\ac=h/\Y=U) l.length ⟨0,J,J,rfl,rfl,rfl⟩ ?_;rintro _ _ al bH ⟨i,rfl,ai,rfl,gG,eL⟩;rw[ajM,gG,eL];unfold YZ;refine aB ?_;refine⟨λci=>?_,λeh=>⟨rfl,rfl,rfl⟩⟩;obtain⟨x,I⟩:=dk   J;obtain⟨_,_,aY,mW⟩:=Z.i;cases aY;obtain⟨b,aW,aO,bC,cs,hQ,rfl,V,A⟩:=mW ab;have E:=A i x I;have hbx:=aG i x I;have e8:IntKind.wrap .i64 (B-1)=B-1:=by rw[po];omega
 have fin:∀a,∃bG,bG<l.length-i/\∃g,bG=l.length-g/\g<=l.length/\[Value.slice a l.length cap,Value.int .i64 B,Value.bool false,Value.slice a l.length cap,Value.int .i64 (l.length:Int),Value.int .i64 (IntKind.wrap .i64 ((i:Int)+1))]=[Value.slice a l.length cap,Value.int .i64 B,Value.bool false,Value.slice a l.length cap,Value.int .i64 (l.length:Int),Value.int .i64 (g:Int)]:=λa=>⟨_,J,i+1,rfl,J,by rw[cn J]⟩
 refine hw @V @E @e8 ?_;refine Pw.mono ?_;rintro _ _ _ ⟨rfl,rfl,rfl⟩;rw[gz (J:0<=x/\x<=B-1)];refine aB ?_;refine⟨λbv=>?_,λ_=>fin _⟩;obtain⟨k,rfl⟩:∃k,i=k+1:=⟨i-1,J⟩
 obtain⟨y,P⟩:=dk (l:=l) (i:=k) J;have D:=A k y P;have Mm:=ba k y x P I;have b0:IntKind.wrap .i64 (((k+1:Nat):Int)-1)=(k:Int):=by rw[po];omega
 rw[b0];refine cx @V @D ?_;exact⟨λh=>absurd h J,λ_=>fin _⟩
def nk(h:ad)(U:Nat)(v:X)(r c:Nat)(af:aa GE):Prop :=
 ∃v1 v2 v3 v4,v = .agg ⟨[(r:X),(c:X),v1,v2,v3,v4]⟩/\eu h U v1 cG 1 (g8 af)/\eu h U v2 cG 1 (hA af)/\i4 h 0 U v3 cG 1 (fz af)/\eu h U v4 cG 1 (gV af)
theorem nk.T{h ac:ad}{U Y:Nat}{v:X}{r c:Nat}{af:aa GE}(H:nk h U v r c af)(A:az U h ac)(g:U<=Y):nk ac Y v r c af:=by obtain⟨v1,P,B,E,e,Z,D,I,V⟩:=H;exact⟨v1,P,B,E,e,Z.T A g,D.T A g,I.T (λb _ M=>A b M) J g,V.T A g⟩
theorem oN.o{h:ad}{ao ai:Nat}{v:X}{l:aa Int}(H:oN h ao ai v l):eu h ai v cG 1 l:=by
 obtain⟨D,g,B⟩:=H;rcases g with⟨rfl,rfl,rfl⟩|⟨b,rfl,rfl,A⟩
 ·exact eu.nil
 ·exact cN.o (λ_=>rfl) ⟨_,_,rfl,λ_=>⟨b,_,_,ab,rfl,A⟩⟩
theorem oN.f{h:ad}{ao ai:Nat}{v:X}{l:aa Int}(H:oN h ao ai v l):i4 h 0 ai v cG 1 l:=by
 obtain⟨D,g,B⟩:=H;rcases g with⟨rfl,rfl,rfl⟩|⟨b,rfl,rfl,A⟩
 ·exact .inl ab
 ·exact .inr ⟨b,J,ab,rfl,A⟩
theorem zi.s{h:ad}{ao ai:Nat}{v:X}{c:Nat}(H:zi h ao ai v r c af):nk h ai v r c af:=by obtain⟨V,Z,A,D,e,P,⟨b,aO,rfl,I,g,B⟩,E,M⟩:=H;refine⟨V,_,A,D,e,P.o,cN.o (λ_=>rfl) ⟨some ⟨b,0,aO⟩,_,rfl,λ_=>⟨b,aO,false,g,rfl,?_⟩⟩,E.f,M.o⟩;rw[B,h2]
theorem ao4(h:lk af)(a:Nat):((fz af).drop (dA af a)).take (dA af (a+1)-dA af a)=(eQ af a).map λg=>(g.t:Int):=by unfold fz;rw[<-FO,<-FP,Du h]
theorem Dx{g:GE}(h:g∈eQ af a):g∈af/\g.f=a:=by
 unfold eQ at h
 grind
theorem aaa{s:ak}{c:Nat}{v:X}{h:ad}{U:Nat}(M:hJ c r af)(aI:nk h U v r c af):aD Q s 477 [v] h U (cI (.bool true) U h):=by
 refine aoQ ?_;obtain⟨v1,v2,v3,v4,rfl,h1,al,aM,bc⟩:=aI;obtain⟨ax,c1,rfl,_⟩:=id h1;obtain⟨a2,c2,rfl,_⟩:=id al;obtain⟨a3,cm,rfl⟩:=aM.form;obtain⟨aV,V,rfl,_⟩:=id bc;have ba:=M.ba;have aU:=M.aU;have bg:=M.len;have bF:∀{o},az U h (F h U o):=aC
 have dQ:(g8 af).length=(dY af).length:=G7 af;have dC:(hA af).length=(dY af).length+1:=y9 af;have j3:(fz af).length=af.length:=by unfold fz;grind
 have lG:(gV af).length=af.length:=by unfold gV;grind
 have z8:=G6 af;unfold adW;rw[dQ,dC,j3,lG];have ki:u (F h U (.cells [(r:X),(c:X),.slice ax (dY af).length c1,.slice a2 ((dY af).length+1) c2,.slice a3 af.length cm,.slice aV af.length V] false)) U=some (.cells [(r:X),(c:X),.slice ax (dY af).length c1,.slice a2 ((dY af).length+1) c2,.slice a3 af.length cm,.slice aV af.length V] false):=ab
 have Z:=h1.T (bF (o:=.cells [(r:X),(c:X),.slice ax (dY af).length c1,.slice a2 ((dY af).length+1) c2,.slice a3 af.length cm,.slice aV af.length V] false)) (Y:=U+1) J;have P:=al.T (bF (o:=.cells [(r:X),(c:X),.slice ax (dY af).length c1,.slice a2 ((dY af).length+1) c2,.slice a3 af.length cm,.slice aV af.length V] false)) (Y:=U+1) J;have zH:=aM.T (λb _ aG=>bF (o:=.cells [(r:X),(c:X),.slice ax (dY af).length c1,.slice a2 ((dY af).length+1) c2,.slice a3 af.length cm,.slice aV af.length V] false) b aG) (cB _) (da:=U+1) J;rw[dQ]at Z;rw[dC]at P;rw[j3]at zH;have CC:=bF (o:=.cells [(r:X),(c:X),.slice ax (dY af).length c1,.slice a2 ((dY af).length+1) c2,.slice a3 af.length cm,.slice aV af.length V] false);refine aB ?_;generalize F h U (.cells [(r:X),(c:X),.slice ax (dY af).length c1,.slice a2 ((dY af).length+1) c2,.slice a3 af.length cm,.slice aV af.length V] false)=H at *
 refine Pw.mono ?_;rintro _ _ _ ⟨rfl,I,E⟩;rw[I,E,gz (J:0<=(r:Int)/\(r:Int)<=4096)];refine a9 @ki ?_;refine Pw.mono ?_;rintro _ _ _ ⟨rfl,I,E⟩;rw[I,E,gz (J:0<=(c:Int)/\(c:Int)<=4096)];refine cx @ki (cn (J:(dY af).length<1000000000000)) ?_;have gN:∀x:Int,(x == x)=true:=ab
 have li:decide (65536<(af.length:Int))=false:=ab
 simp only[gN,li];refine⟨λh=>absurd h (by decide),λ_=>⟨λh=>absurd h (by decide),λ_=>?_⟩⟩;have Xn:∀(i:Nat) x,(g8 af)[i]? = some x->∃a:Nat,(dY af)[i]? = some a/\x=(a:Int):=λi x D=>by
  unfold g8 at D
  grind
 unfold C6;refine a9 @ki ?_;have h1r:=Px (s:=s) (B:=(c:Int)) (by rw[<-dQ]at Z;exact Z) J J (λi x D=>by obtain⟨a,aY,rfl⟩:=Xn i x D;obtain⟨g,a5,rfl⟩:=G5 af a ab;have:=M.rows g a5;omega) (λi x y D ca=>by obtain⟨a,aY,rfl⟩:=Xn i x D;obtain⟨b,aJ,rfl⟩:=Xn _ y ca;have:=A8 M.up aY aJ J;omega)
 rw[dQ]at h1r;refine h1r.mono ?_;rintro _ _ _ ⟨rfl,I,E⟩;rw[I,E];refine cx @ki (cn (J:af.length<1000000000000)) ?_;have h2r:=Px (s:=s) (B:=((af.length+1:Nat):Int)) (by rw[<-dC]at P;exact P) J J (λi x D=>by have:=awE D;omega) (λi x y D ca=>auJ M.up D ca)
 rw[dC]at h2r;refine h2r.mono ?_;rintro _ _ _ ⟨rfl,I,E⟩;rw[I,E];have h2i:=P;rw[<-dC]at h2i;obtain⟨_,_,aJ,V7⟩:=h2i.i;rw[dC]at aJ;cases aJ;obtain⟨bO,dI,mK,xW,zQ,fa,rfl,jy,A⟩:=V7 ab;have pR:=A 0 _ (awD M.up);rw[m9]at pR;have jT:=A _ _ (RX af);refine vR @ki @jy @pR @jT @gN ?_;unfold Gi;refine a9 @ki ?_;refine bq.mk (λm aE ac Y=>∃i,m=(dY af).length-i/\i<=(dY af).length/\aE=[bb U,.bool false,.int .i64 ((dY af).length:Int),(i:X)]/\ac=H/\Y=U+1) (dY af).length ⟨0,J,J,rfl,rfl,rfl⟩ ?_;rintro _ _ bP fI ⟨i,rfl,ai,rfl,I,E⟩;rw[aly,I,E];unfold Z5;refine aB ?_;refine⟨λci=>?_,λeh=>⟨rfl,CC,J⟩⟩;obtain⟨a,dg⟩:=dk   J;have cu:=A _ _ (DL dg);have bY:=A _ _ (K4 M.up dg);refine vR @ki @jy @cu @bY (cn (J:i<1000000000000)) ?_;rw[<-j3]at zH;obtain⟨w,e8,bN⟩:=i4.cut  (k:=1) (λ_=>rfl) J zH (i:=dA af a) (j:=dA af (a+1)) (AM af J) (by rw[j3];exact vN af _);rw[j3]at e8;rw[e8];rw[ao4 M.up]at bN;have hlr:((eQ af a).map λg=>(g.t:Int)).length<=120:=by
  rw[g5];unfold eQ
  grind
 refine aB ?_;refine(Px  bN J J (λi x D=>?_) (λi x y D ca=>?_)).mono ?_
 ·obtain⟨g,a5,rfl⟩:=fL.1 (jp D);have:=M.mF g (Dx a5).1;omega
 ·rw[sS]at D ca;obtain⟨g,aY,rfl⟩:=mw.1 D;obtain⟨cb,aJ,rfl⟩:=mw.1 ca;have bv:=RH M.up a;rw[yE]at bv
  grind
 rintro _ _ _ ⟨rfl,I,E⟩;rw[I,E];refine⟨J,?_⟩;refine aB ?_;exact⟨_,J,i+1,rfl,J,rfl⟩
theorem abY{s:ak}{c:Nat}{v:X}{h:ad}{U:Nat}(M:hJ c r af)(D:nk h U v r c af):aD Q s 448 [v] h U (cI v U h):=by
 refine bS ?_;have A:=D;obtain⟨v1,v2,v3,v4,rfl,P,V,Z,bc⟩:=D;obtain⟨ax,c1,rfl,_⟩:=id P;obtain⟨a2,c2,rfl,_⟩:=id V;obtain⟨a3,cm,rfl⟩:=Z.form;obtain⟨aV,h8,rfl,_⟩:=id bc;have bF:∀{o aW},az U h (F (F h U o) (U+1) aW):=aC
 refine aB ?_;refine(aaa M (A.T  bF J)).mono ?_;rintro _ P a6 ⟨rfl,g,B⟩;have I:=g U J;rw[aq J,aN]at I;have E:=g (U+1) J;rw[aN]at E;refine cx @I @E ?_;exact⟨rfl,aC,J⟩
theorem ayt{n:Nat}(h:n<1000000000000):bin Q .quo 3 (n:X) (.int .i64 2) = .ok (((n / 2:Nat):X)):=by rw[Dl (by decide),show((n:Int)).tdiv 2=((n / 2:Nat):Int)from rfl,show IntKind.wrap .i64 ((n / 2:Nat):Int)=((n / 2:Nat):Int) by rw[po];omega]
def plC(af:aa GE)(k:Nat)(r:Int):Prop:=(∃m:Nat,(dY af)[m]? = some k/\r=(m:Int))\/(k ∉ dY af/\r = -1)
theorem aab{s:ak}{c k:Nat}{v:X}{h:ad}{U:Nat}(M:hJ c r af)(aI:nk h U v r c af):aD Q s 449 [v,(k:X)] h U (λw ac Y=>(∃x,w = .int .i64 x/\plC af k x)/\az U h ac/\U<=Y):=by
 refine aoP ?_;obtain⟨v1,v2,v3,v4,rfl,h1,al,aM,bc⟩:=aI;obtain⟨D,A,rfl,_⟩:=id h1;obtain⟨a2,c2,rfl,_⟩:=id al;obtain⟨E,cm,rfl⟩:=aM.form;obtain⟨aV,g,rfl,_⟩:=id bc;have bg:=M.len;have z8:=G6 af;have dQ:(g8 af).length=(dY af).length:=G7 af;have bF:∀{o},az U h (F h U o):=aC
 unfold adV;have P:=h1.T (bF (o:=.cells [(r:X),(c:X),.slice D (g8 af).length A,.slice a2 (hA af).length c2,.slice E (fz af).length cm,.slice aV (gV af).length g] false)) (Y:=U+1) J;have ki:u (F h U (.cells [(r:X),(c:X),.slice D (g8 af).length A,.slice a2 (hA af).length c2,.slice E (fz af).length cm,.slice aV (gV af).length g] false)) U=some (.cells [(r:X),(c:X),.slice D (g8 af).length A,.slice a2 (hA af).length c2,.slice E (fz af).length cm,.slice aV (gV af).length g] false):=ab
 have CC:=bF (o:=.cells [(r:X),(c:X),.slice D (g8 af).length A,.slice a2 (hA af).length c2,.slice E (fz af).length cm,.slice aV (gV af).length g] false);refine aB ?_;generalize F h U (.cells [(r:X),(c:X),.slice D (g8 af).length A,.slice a2 (hA af).length c2,.slice E (fz af).length cm,.slice aV (gV af).length g] false)=H at *
 rw[dQ];refine bq.mk (λm aE ac Y=>∃ao ai:Nat,m=ai-ao/\ao<=ai/\ai<=(dY af).length/\aE=[(k:X),bb U,(ao:X),(ai:X)]/\(∀i a,(dY af)[i]? = some a->i<ao->a<k)/\(∀i a,(dY af)[i]? = some a->ai<=i->k<a)/\ac=H/\Y=U+1) (dY af).length ⟨0,(dY af).length,J,J,J,rfl,J,ab,rfl,rfl⟩ ?_;rintro _ _ bP fI ⟨ao,ai,rfl,hlh,Z,rfl,hY,dZ,gG,eL⟩;rw[alx,gG,eL];unfold Z4;refine aB ?_;refine⟨λci=>?_,λeh=>?_⟩
 ·obtain⟨x,aR⟩:=dk (l:=dY af) (i:=ao+(ai-ao) / 2) J;have hxA:(g8 af)[ao+(ai-ao) / 2]? = some (x:Int):=by unfold g8;grind
  obtain⟨_,_,aJ,V⟩:=P.i;rw[dQ]at aJ;cases aJ;obtain⟨bO,dI,mK,xW,zQ,fa,rfl,jy,B⟩:=V ab;have cu:=B _ _ hxA;have aY:IntKind.wrap .i64 ((ai:Int)-(ao:Int))=((ai-ao:Nat):Int):=by rw[po];omega
  have ce:IntKind.wrap .i64 ((ao:Int)+(((ai-ao) / 2:Nat):Int))=((ao+(ai-ao) / 2:Nat):Int):=by rw[po];omega
  simp(disch:=omega)only[bd,aY,ayt (J:ai-ao<1000000000000),ce,ki,jy,cu,seval];refine⟨λpx=>?_,λeg=>?_⟩
  ·have hxk:x=k:=ab
   subst hxk;exact⟨λ_=>⟨⟨_,rfl,.inl ⟨_,aR,rfl⟩⟩,CC,J⟩,λh=>absurd J h⟩
  ·refine⟨λbg=>?_,λbg=>?_⟩
   ·rw[cn J];refine⟨_,?_,ao+(ai-ao) / 2+1,ai,rfl,J,Z,rfl,λi a I da=>?_,dZ⟩
    ·omega
    ·rcases jH i (ao+(ai-ao) / 2)with h|h
     ·have:=A8 M.up I aR h;omega
     grind
   ·refine⟨_,?_,ao,ao+(ai-ao) / 2,rfl,J,J,rfl,hY,λi a I da=>?_⟩
    ·omega
    ·rcases jH (ao+(ai-ao) / 2) i with h|h
     ·have:=A8 M.up aR I h;omega
     grind
 ·have:ao=ai:=J
  subst this;refine⟨λh=>absurd h J,λ_=>?_⟩;refine⟨⟨_,rfl,.inr ⟨λhk=>?_,rfl⟩⟩,CC,J⟩;obtain⟨i,da,e⟩:=FE hk;have hi2:(dY af)[i]? = some k:=ab
  grind
def mH(af:aa GE)(k:Nat):aa (Nat × Int):=(eQ af k).map λg=>(g.t,g.w)
def ayu(r c:Nat)(af:aa GE)(m cj cS:Nat)(v1 v2 v3 v4:X)(h:ad)(U:Nat):Prop:=u h cj=some (.cells [(r:X),(c:X),v1,v2,v3,v4] false)/\u h cS=some (.cells [(m:X)] false)/\eu h U v2 cG 1 (hA af)/\eu h U v3 cG 1 (fz af)/\eu h U v4 cG 1 (gV af)
theorem ajQ{s:ak}{c k:Nat}{v1 v2 v3 v4:X}(M:hJ c r af)(hm:(dY af)[m]? = some k):
  I0 s 496 [bb cj,bb cS] (mH af k).length (λj=>[.agg ⟨fV ((mH af k).getD j (0,0))⟩]) (ayu r c af m cj cS v1 v2 v3 v4):=by
 intro l I ac Y ai i0 ap ca;have bg:=M.len;have z8:=G6 af;have x2:=(gE.1 hm).1;refine alA ?_;unfold abT;obtain⟨br,dK,ky,kY,sN⟩:=ai _ _ _ ap;obtain⟨a2,c2,rfl,B⟩:=ky.i;obtain⟨bO,dI,mK,xW,zQ,fa,rfl,jy,T9⟩:=B (by intro e;have:=y9 af;grind);have cu:=T9 _ _ (DL hm);have qz:m<(hA af).length:=by rw[y9];omega
 refine j6 @br @dK @jy @cu ?_;have je:(mH af k).length=dA af (k+1)-dA af k:=by unfold mH;rw[g5,GB M.up]
 have dr:=vN af (k+1);refine bq.mk (λq aE al bH=>∃j,q=(mH af k).length-j/\j<=(mH af k).length/\aE=[.func (.yield l) ⟨[]⟩ ⟨[]⟩,bb cj,bb cS,((dA af k+j:Nat):X)]/\I j al bH) (mH af k).length ⟨0,J,J,rfl,ap⟩ ?_;rintro _ _ al bH ⟨j,rfl,bM,rfl,mW⟩;obtain⟨br,dK,ky,kY,sN⟩:=ai _ _ _ mW;obtain⟨_,_,aY,B⟩:=ky.i;cases aY;obtain⟨VS,o2',aAe,aAf,aAg,aAh,aJ,Z,A⟩:=B ab;cases aJ;have bY:=A _ _ (K4 M.up hm);have aAi:m+1<(hA af).length:=by rw[y9];omega
 rw[ajN];unfold Y0;refine vR @br @dK @Z @bY (cn (J:m<1000000000000)) ?_;refine⟨λD=>?_,λeh=>?_⟩
 ·have D:j<(eQ af k).length:=by rw[GB M.up];omega
  obtain⟨g,a5⟩:=dk   D;have uV:af[dA af k+j]? = some g:=by rw[<-QC M.up D];omega
  have eH:(fz af)[dA af k+j]? = some (g.t:Int):=by unfold fz;grind
  have jF:(gV af)[dA af k+j]? = some g.w:=by unfold gV;grind
  obtain⟨a3,cm,rfl,E⟩:=kY.i;obtain⟨aV,h8,rfl,hI4⟩:=sN.i;obtain⟨d6,gL,sp3,IQ,B7,oZ,rfl,tu,V⟩:=E ab;obtain⟨fQ,kz,sp4,ro4,cs4,hb4,rfl,I1,P⟩:=hI4 ab;have z3:=V _ _ eH;have z4:=P _ _ jF;have gX:=(gE.1 eH).1;have lf:=(gE.1 jF).1;have sh:(mH af k).getD j (0,0)=(g.t,g.w):=by unfold mH;grind
  have rC:=ca true j J al bH mW;simp only[sh]at rC;refine vR @br @tu @z3 @I1 @z4 ?_;refine rC.mono ?_;rintro _ aM bR ⟨rfl,E,uP⟩;refine⟨uP,?_⟩;refine a9 (cn (J:dA af k+j<1000000000000)) ?_;exact⟨_,J,j+1,rfl,J,ab,E⟩
 ·have:j=(mH af k).length:=J
  subst this;exact mW
theorem ajR{s:ak}{c k:Nat}{v:X}{h:ad}{U:Nat}(M:hJ c r af)(aI:nk h U v r c af):aD Q s 454 [v,(k:X)] h U (λw ac Y=>eZ ac U Y w fV (mH af k)/\az U h ac/\U<=Y):=by
 refine bS ?_;have A:=aI;obtain⟨v1,v2,v3,v4,rfl,h1,al,aM,bc⟩:=aI;obtain⟨ax,c1,rfl,_⟩:=id h1;obtain⟨a2,c2,rfl,_⟩:=id al;obtain⟨a3,cm,rfl⟩:=aM.form;obtain⟨aV,V,rfl,_⟩:=id bc;have bg:=M.len;have bF:∀{o},az U h (F h U o):=aC
 refine aB ?_;refine(abY M (A.T  bF J)).mono ?_;rintro _ aY a6 ⟨rfl,B,fp⟩;have b7:=(B U J).trans (aN _ _ _);refine a9 @b7 ?_;have cD:=(bF.trans B J).set (o:=.cells [(r:X),(c:X),.slice ax (g8 af).length c1,.slice a2 (hA af).length c2,.slice a3 (fz af).length cm,.slice aV (gV af).length V] false) (cB _);refine(aab  M (A.T  cD J)).mono ?_;rintro _ aJ bH ⟨⟨x,rfl,aR⟩,D,Z⟩;have g2:=(D U J).trans (aN _ _ _);have ez:=cD.trans D J;rcases aR with⟨m,hm,rfl⟩|⟨E,rfl⟩
 ·refine a9 @g2 ?_;refine⟨λh=>absurd h J,λ_=>?_⟩;refine bS ?_;refine aB ?_;refine bS ?_;have je:(mH af k).length<=120:=by
   unfold mH eQ
   grind
  refine(alK  J (ajQ   (v1:=.slice ax (g8 af).length c1) (v2:=.slice a2 (hA af).length c2) (v3:=.slice a3 (fz af).length cm) (v4:=.slice aV (gV af).length V) M hm) λI n1' E dr=>?_).mono ?_
  ·have P:az U h I:=aC
   refine⟨(E bH J).trans ?_,(E (bH+1) J).trans ab,al.T P J,eu.T (cN.o (λ_=>rfl) aM.gI.rd) P J,bc.T P J⟩
   grind
  ·rintro w ce bR ⟨bN,ek,hr⟩;exact⟨bN.T ab J J,aC,J⟩
 ·refine aB ?_;have:mH af k=[]:=by
   cases aU:eQ af k with
   |nil=>unfold mH;grind
   |cons g l =>
    have a5:g∈eQ af k:=ab
    exact absurd ((Lt af k).2 ⟨g,(Dx a5).1,(Dx a5).2⟩) E
  rw[this];exact⟨⟨⟨none,0,rfl,λh=>absurd rfl h⟩,ez,J⟩,λh=>absurd trivial h⟩
theorem ao5{s:ak}{c:Nat}{v:X}{L:aa Nat}{h:ad}{U:Nat}(M:hJ c r af)(aI:nk h U v r c af)(bN:eu h U w cG 1 (gm L))(eJ:L.length<1000000):aD Q s 390 [v,w] h U (λaT ac Y=>(∃y,aT = .int .i64 y)/\az U h ac/\U<=Y):=by
 refine asp ?_;have A:=aI;obtain⟨v1,v2,v3,v4,rfl,h1,al,aM,bc⟩:=aI;obtain⟨ax,c1,rfl,_⟩:=id h1;obtain⟨a2,c2,rfl,_⟩:=id al;obtain⟨a3,cm,rfl⟩:=aM.form;obtain⟨aV,h8,rfl,_⟩:=id bc;obtain⟨bl,qJ,rfl,hIw⟩:=bN.i;have bg:=M.len;have z8:=G6 af;have aB2:(gm L).length=L.length:=by unfold gm;grind
 have bF:∀{o},az U h (F h U o):=aC
 unfold afC;rw[aB2];refine aB ?_;refine(abY M (A.T  bF J)).mono ?_;rintro _ aY a6 ⟨rfl,B,fp⟩;have b7:=(B U J).trans (aN _ _ _);have cD:=(bF.trans B J).set (o:=.cells [(r:X),(c:X),.slice ax (g8 af).length c1,.slice a2 (hA af).length c2,.slice a3 (fz af).length cm,.slice aV (gV af).length h8] false) (cB _);refine a9 @b7 ?_;refine bq.mk (λm aE ac Y=>∃i y,m=L.length-i/\i<=L.length/\aE=[bb U,.int .i64 y,.slice bl L.length qJ,(L.length:X),(i:X)]/\u ac U=some (.cells [(r:X),(c:X),.slice ax (g8 af).length c1,.slice a2 (hA af).length c2,.slice a3 (fz af).length cm,.slice aV (gV af).length h8] false)/\az U h ac/\U+1<=Y) L.length ⟨0,0,J,J,rfl,ab,cD,J⟩ ?_;rintro _ _ aJ bH ⟨i,y,rfl,ai,rfl,g2,V,e9⟩;rw[aoN];unfold abQ;refine aB ?_;refine⟨λci=>?_,λeh=>⟨⟨_,rfl⟩,V,J⟩⟩;obtain⟨k,hk⟩:=dk   J;have tq:(gm L)[i]? = some (k:Int):=by unfold gm;grind
 obtain⟨g3,wB,sp5,ro5,cs5,E8,rfl,uW,E⟩:=hIw ab;have Ag:=E _ _ tq;have I:=(V g3 E8).trans uW;refine hw @I @Ag @g2 ?_;refine(aab  M (A.T  V J)).mono ?_;rintro _ ce bR ⟨⟨x,rfl,aR⟩,P,hr⟩;have c3:=(P U J).trans g2;have fg:=V.trans P J;rcases aR with⟨m,hm,rfl⟩|⟨hk,rfl⟩
 ·have x2:=(gE.1 hm).1;obtain⟨_,_,CB,Z⟩:=al.i;cases CB;obtain⟨bO,dI,mK,xW,zQ,fa,rfl,jy,g⟩:=Z (by intro e;have:=y9 af;grind);have cu:=g _ _ (DL hm);have bY:=g _ _ (K4 M.up hm);have qz:m+1<(hA af).length:=by rw[y9];omega
  have D:=(fg bO fa).trans jy;refine Bc @c3 @D @cu @bY (cn (J:m<1000000000000)) (cn (J:i<1000000000000)) ?_;refine⟨λ_=>?_,λh=>absurd h J⟩;exact⟨_,J,i+1,_,rfl,J,rfl,fg,J⟩
 ·refine a9 (cn (J:i<1000000000000)) ?_;exact⟨λh=>absurd trivial h,_,J,i+1,_,rfl,J,rfl,c3,fg,J⟩
theorem alL{s:ak}{c:Nat}{v:X}{h:ad}{U:Nat}(M:hJ r c af)(D:kI h U v r c af):aD Q s 322 [v] h U (λA ac Y=>A = (af.length:X)/\az U h ac/\U<=Y):=by
 refine bS ?_;have g:=D;obtain⟨b,aO,cap,v2,v3,rfl,aG,a5,Z,V⟩:=D;obtain⟨a2,c2,rfl⟩:=Z.form;obtain⟨a3,cm,rfl⟩:=V.form;have E:∀{o},az U h (F h U o):=aC
 have I:(fz af).length=af.length:=by unfold fz;grind
 refine aB ?_;refine(GC M (g.T  E J)).mono ?_;rintro _ aY a6 ⟨rfl,P,B⟩;refine a9 @I ?_;exact aC
theorem ao6{s:ak}{c n:Nat}{v:X}{x:Nat->av Int}{h:ad}{U:Nat}(M:hJ r c af)(aI:kI h U v r c af)(bN:s8 h U w n x)(bm:n<=63):aD Q s 455 [v,w] h U (cI (.tuple ⟨[v,w]⟩) U h):=by
 refine arb ?_;have B:=aI;have E:=bN;obtain⟨b,aO,cap,v2,v3,rfl,aG,a5,qL,pO⟩:=aI;obtain⟨a2,c2,rfl⟩:=qL.form;obtain⟨a3,cm,rfl⟩:=pO.form;obtain⟨ei,cY,rfl,ar,nu⟩:=bN;obtain⟨_,_,rfl,_⟩:=id ar;obtain⟨_,_,rfl,_⟩:=id nu;have bF:∀{o aW kQ ayv},az U h (F (F (F (F h U o) (U+1) aW) (U+1+1) kQ) (U+1+1+1) ayv):=aC
 unfold ae9;refine aB ?_;refine(KB M (B.T  bF J)).mono ?_;rintro _ aY a6 ⟨rfl,g,fp⟩;have b7:=g U J;rw[aq J,aq J,aq J,aN]at b7;have V:=g (U+1) J;rw[aq J,aq J,aN]at V;have g2:=g (U+1+1) J;rw[aq J,aN]at g2;have c3:=g (U+1+1+1) J;rw[aN]at c3;have cD:=bF.trans g J;refine aB ?_;unfold Qw;refine a9 @V ?_;refine(Z9 (E.T  cD J) bm).mono ?_;rintro _ aJ bH ⟨rfl,A,e9⟩;have Z:=(A U J).trans b7;have P:=(A (U+1) J).trans V;have I:=(A (U+1+1) J).trans g2;have D:=(A (U+1+1+1) J).trans c3;refine aB ?_;unfold Qv;refine j6 @Z @P @I @D ?_;exact⟨rfl,aC,J⟩
theorem agM{r a b:Int}(g:oM r)(A:0<=a/\a<=eB)(B:0<=b/\b<=eB):0<=ka r a b/\ka r a b<=eB:=by
 unfold ka eB at *
 rcases g with rfl|rfl|rfl
 all_goals omega
def D0(h:ad)(cS eY:Nat)(a:av Int):Prop:=u h cS=some (.cells (wid (a.getD 0)) false)/\u h eY=some (.cells [.bool a.isSome] false)
theorem ajS{s:ak}{r w:Int}{a:av Int}{h:ad}{U:Nat}(ba:oM r)(E:u h cj=some (.cells [(r:X)] bC))(dg:D0 h cS eY a)(de:cj<U)(fQ:cS<U)(Oh:eY<U)(B5:cS≠eY)(aG:∀y,a=some y->0<=y/\y<=eB)(bN:0<=w/\w<=eB):
  aD Q s 497 [.agg ⟨wid w⟩,bb eY,bb cj,bb cS] h U (λaT ac Y=>D0 ac cS eY (e3 r a (some w))/\(∀c,c<U->c≠cS->c≠eY->u ac c=u h c)/\U<=Y):=by
 refine bS ?_;obtain⟨Z,B⟩:=dg;rw[show c5 (.agg ⟨wid w⟩)=[.int .i64 (w / 18446744073709551616),.int .u64 (w % 18446744073709551616)]from rfl];have A:u h cS=some (.cells [.int .i64 (a.getD 0 / 18446744073709551616),.int .u64 (a.getD 0 % 18446744073709551616)] false):=Z;have aF:∀x:Int,(Value.agg ⟨[.int .i64 (x / 18446744073709551616),.int .u64 (x % 18446744073709551616)]⟩) = .agg ⟨wid x⟩:=λ_=>rfl;cases a with
 |none =>
  have B:u h eY=some (.cells [.bool false] false):=B;refine cx @B @A ?_;refine⟨⟨?_,?_⟩,λc h1 V aM=>?_,J⟩
  ·rw[aq J,aN];rfl
  ·rw[aN];rfl
  grind
 |some y =>
  have B:u h eY=some (.cells [.bool true] false):=B;have A:u h cS=some (.cells [.int .i64 (y / 18446744073709551616),.int .u64 (y % 18446744073709551616)] false):=Z;have ca:=aG y rfl;refine hw @B @A @E ?_;rw[aF,aF];refine(Rv ba (GZ (by unfold kP eB at *;omega)) (GZ (by unfold kP eB at *;omega))).mono ?_;rintro _ V bH ⟨rfl,g,P⟩;have I:=(g eY J).trans ((aq J).trans B);have M:=(g cS J).trans ((aq J).trans A);have D:=(g U J).trans (aN _ _ _);have aY:∀x:Int,c5 (.agg ⟨wid x⟩)=[.int .i64 (x / 18446744073709551616),.int .u64 (x % 18446744073709551616)]:=λ_=>rfl;refine j6 @I @M @D @aY ?_;refine⟨⟨?_,?_⟩,λc h1 V aM=>?_,J⟩
  ·rw[aq J,aN];rfl
  ·rw[aN];rfl
  ·rw[aq J,aq J,aq J,g c J,aq J]
theorem ajT{s:ak}{a:av Int}{h:ad}{U:Nat}(B:D0 h cS eY a)(I:cS<U)(E:eY<U):aD Q s 498 [bb cS,bb eY] h U (cI (.tuple ⟨[.agg ⟨wid (a.getD 0)⟩,.bool a.isSome]⟩) U h):=by refine bS ?_;obtain⟨A,D⟩:=B;have g:u h cS=some (.cells [.int .i64 (a.getD 0 / 18446744073709551616),.int .u64 (a.getD 0 % 18446744073709551616)] false):=A;refine cx @D @g ?_;exact⟨rfl,aC,J⟩
theorem ajU{r:Int}{x:Nat->av Int}(E:oM r)(B:∀g∈af,0<=g.w/\g.w<=2147483647)(aR:∀i y,x i=some y->0<=y/\y<=eB)(y:Int)(h:fo r (af.map λg=>(x g.t).map (gw r g.w))=some y):0<=y/\y<=eB:=by
 revert y
 refine Dw (C:=λaf=>(∀g∈af,0<=g.w/\g.w<=2147483647)->∀y,fo r (af.map λg=>(x g.t).map (gw r g.w))=some y->0<=y/\y<=eB) (λ_ y h=>by cases h) (λp g I B y h=>?_) af B;rw[hN,qQ,yL,PK]at h;have I:=I ab;have P:=B g (OO _ (iR.2 rfl));cases A:x g.t with
 |none=>rw[A]at h;simp only[Option.map_none,rO]at h;grind
 |some z =>
  rw[A]at h;have M:=aR _ _ A;have Z:=Ts P M E;cases D:fo r (p.map λg=>(x g.t).map (gw r g.w))with
  |none=>rw[D]at h;cases h;omega
  |some V =>
   rw[D]at h;cases h;exact agM E ab Z
theorem asB(r:Int)(af:aa GE)(x:Nat->av Int)(i:Nat):iU r af x i=fo r ((eQ af i).map λg=>(x g.t).map (gw r g.w)):=by
 unfold iU eQ;rw[Pm]
 grind
theorem lB.i{h:ad}{U:Nat}{v:X}{l:aa Int}(H:lB h U v l):tC h U v l:=by obtain⟨A,g,B⟩:=H;exact eu.i (oN.o (ao:=0) ⟨A,g,ab⟩)
theorem asC{s:ak}{r:Int}{i:Nat}{v:X}{x:Nat->av Int}{h:ad}{U:Nat}(ba:oM r)(M:hJ R C af)(MA:C<=63)(aI:kI h U v R C af)(bu:s8 h U w C x)(ai:i<R)(bN:∀g∈af,0<=g.w/\g.w<=2147483647)(aR:∀i y,x i=some y->0<=y/\y<=eB):
  aD Q s 457 [(r:X),v,(i:X),w] h U (cI (.tuple ⟨[.agg ⟨wid ((iU r af x i).getD 0)⟩,.bool (iU r af x i).isSome]⟩) U h):=by
 refine auc ?_;obtain⟨b,aO,cap,v2,v3,rfl,aG,a5,qL,pO⟩:=aI;obtain⟨a2,c2,rfl⟩:=qL.form;obtain⟨a3,cm,rfl⟩:=pO.form;obtain⟨ei,cY,rfl,ar,nu⟩:=bu;obtain⟨eR,co,rfl,_⟩:=id ar;obtain⟨bp,hn,rfl,hId⟩:=nu.i;have dD:=M.ba;have bg:=M.len;have aAN:(fz af).length=af.length:=by unfold fz;grind
 have aBX:(gV af).length=af.length:=by unfold gV;grind
 unfold agp;have bF:∀{o aW kQ},az U h (F (F (F h U o) (U+1) aW) (U+1+1) kQ):=aC
 refine aB ?_;refine bS ?_;refine aB ?_;have ap:((qt af R)[i]? = some (dA af i:Int)):=w2 J;have h1:((qt af R)[i+1]? = some (dA af (i+1):Int)):=w2 J;simp(disch:=omega)only[bd,a5,iz ap,seval];obtain⟨H,gh⟩:∃H,H=F (F (F (F (F (F (F h U (.cells [(R:X),(C:X),.slice (some ⟨b,0,aO⟩) (R+1) cap,.slice a2 (fz af).length c2,.slice a3 (gV af).length cm] false)) (U+1) (.cells [(C:X),.slice eR (eU C (ku x)).length co,.slice bp (cF C (kd x)).length hn] false)) (U+1+1) (.cells [.int .i64 0,.int .u64 0] false)) (U+1+1+1) (.cells [(r:X)] false)) (U+1+1+1+1) (.cells [.int .i64 0,.int .u64 0] false)) (U+1+1+1+1+1) (.cells [.bool false] false)) (U+1+1+1+1+1) (.cells [.bool false] false):=⟨_,rfl⟩
 have CD:u H U=some (.cells [(R:X),(C:X),.slice (some ⟨b,0,aO⟩) (R+1) cap,.slice a2 (fz af).length c2,.slice a3 (gV af).length cm] false):=ab
 have o9:u H (U+1)=some (.cells [(C:X),.slice eR (eU C (ku x)).length co,.slice bp (cF C (kd x)).length hn] false):=ab
 have yt:u H (U+1+1)=some (.cells [.int .i64 0,.int .u64 0] false):=ab
 have aB3:u H (U+1+1+1)=some (.cells [(r:X)] false):=ab
 have aB4:D0 H (U+1+1+1+1) (U+1+1+1+1+1) none:=⟨by rw[gh,aq J,aq J,aN];rfl,ab⟩
 have vd:az U h H:=by rw[gh];exact aC
 rw[<-gh];clear gh;refine bq.mk (λm aE ac Y=>∃j,m=(eQ af i).length-j/\j<=(eQ af i).length/\aE=[(r:X),(i:X),bb U,.pointer (some ⟨U+1,0,none⟩),.pointer (some ⟨U+1+1,0,none⟩),.func (.func 497) ⟨[]⟩ ⟨[.pointer (some ⟨U+1+1+1+1+1,0,none⟩),.pointer (some ⟨U+1+1+1,0,none⟩),.pointer (some ⟨U+1+1+1+1,0,none⟩)]⟩,.func (.func 498) ⟨[]⟩ ⟨[.pointer (some ⟨U+1+1+1+1,0,none⟩),.pointer (some ⟨U+1+1+1+1+1,0,none⟩)]⟩,((dA af i+j:Nat):X)] /\
  D0 ac (U+1+1+1+1) (U+1+1+1+1+1) (fo r (((eQ af i).take j).map λg=>(x g.t).map (gw r g.w)))/\(∀c,c<U+6->c≠U+1+1+1+1->c≠U+1+1+1+1+1->u ac c=u H c)/\U+6<=Y) (eQ af i).length ⟨0,J,J,rfl,aB4,ab,J⟩ ?_
 rintro _ _ al bH ⟨j,rfl,bM,rfl,hY,D,e9⟩;have IP:=GB M.up i;have hmn:=AM af J;have hse:=vN af (i+1);have V:az U h al:=aC
 have b7:=(D U J J J).trans CD;have br:=(D (U+1) J J J).trans o9;have g2:=(D (U+1+1) J J J).trans yt;have c3:=(D (U+1+1+1) J J J).trans aB3;have n4:=(V b aG).trans a5;rw[arc];unfold adi;simp(disch:=omega)only[bd,b7,n4,iz h1,cn (J:i<1000000000000),seval];refine⟨λP=>?_,λeh=>?_⟩
 ·have P:j<(eQ af i).length:=J
  obtain⟨g,hgj⟩:=dk   P;have uV:af[dA af i+j]? = some g:=by rw[<-QC M.up P];omega
  have Z:=jp uV;have wj:=M.mF g Z;have eH:(fz af)[dA af i+j]? = some (g.t:Int):=by unfold fz;grind
  have jF:(gV af)[dA af i+j]? = some g.w:=by unfold gV;grind
  have lm:(cF C (kd x))[g.t]? = some (kd x g.t):=by
   unfold cF
   grind
  obtain⟨_,_,aJ,V7⟩:=qL.i;obtain⟨_,_,ce,Nk⟩:=pO.i;cases aJ;cases ce;obtain⟨d6,gL,sp3,IQ,B7,oZ,rfl,tu,MB⟩:=V7 ab;obtain⟨fQ,kz,sp4,ro4,cs4,hb4,rfl,I1,ayw⟩:=Nk ab;obtain⟨g3,wB,sp5,ro5,cs5,E8,rfl,uW,ayx⟩:=hId ab;have z3:=MB _ _ eH;have z4:=ayw _ _ jF;have Ag:=ayx _ _ lm;have aB5:=(gE.1 lm).1;have b6:=(V d6 oZ).trans tu;have cR:=(V fQ hb4).trans I1;have d3:=(V g3 E8).trans uW;have MU:=bN g Z;have A:fo r (((eQ af i).take (j+1)).map λg=>(x g.t).map (gw r g.w))=e3 r (fo r (((eQ af i).take j).map λg=>(x g.t).map (gw r g.w))) ((x g.t).map (gw r g.w)):=by rw[gQ,hgj];show fo r (List.map _ (_++[g]))=_;rw[hN,qQ,yL,PK]
  refine hw @b6 @z3 @br ?_;refine(LK MA wj (ar.T V  J)).mono ?_;rintro _ _ _ ⟨rfl,gG,eL⟩;rw[gG,eL];cases I:x g.t with
  |none =>
   have fj:ku x g.t=false:=by unfold ku;grind
   rw[I]at A;simp only[Option.map_none,rO]at A;rw[fj];refine a9 (cn (J:dA af i+j<1000000000000)) ?_;exact⟨_,J,j+1,rfl,J,rfl,by rw[A];exact hY,D,e9⟩
  |some y =>
   have fj:ku x g.t=true:=by unfold ku;grind
   have NA:kd x g.t=y:=by unfold kd;grind
   rw[NA]at Ag;rw[I]at A;have hyr:=aR _ _ I;rw[fj];refine Bc @b7 @br @cR @z4 @d3 @Ag ?_;refine(adl ba MU hyr).mono ?_;rintro _ aM bR ⟨rfl,B,E⟩;refine⟨E,?_⟩;have hA3:D0 aM (U+1+1+1+1) (U+1+1+1+1+1) (fo r (((eQ af i).take j).map λg=>(x g.t).map (gw r g.w))):=⟨(B _ J).trans hY.1,(B _ J).trans hY.2⟩
   refine(ajS ba ((B _ J).trans c3) hA3 J J J J (λy ca=>?_) (Ts MU hyr ba)).mono ?_
   ·exact ajU ba (λg a5=>bN g (Dx (OQ a5)).1) aR y ca
   rintro _ bc d4 ⟨hA4,gd,iC⟩;refine⟨iC,?_⟩;refine a9 (cn (J:dA af i+j<1000000000000)) ?_;refine⟨_,J,j+1,rfl,J,rfl,by rw[A];exact hA4,λc h1 al aM=>?_,J⟩;rw[gd c J al aM,B c J];grind
 ·have:j=(eQ af i).length:=J
  subst this;rw[ht,<-asB]at hY;refine(ajT hY J J).mono ?_;rintro _ aM bR ⟨rfl,B,E⟩;have Nx:=(B (U+1+1) J).trans g2;have aY:∀x:Int,c5 (.agg ⟨wid x⟩)=[.int .i64 (x / 18446744073709551616),.int .u64 (x % 18446744073709551616)]:=λ_=>rfl;refine cx @aY @Nx ?_;exact⟨rfl,(V.trans B J).set J,J⟩
theorem RY{s:ak}{k:Nat}{h:ad}{U:Nat}:aD Q s 334 [.slice none 0 0,(k:X)] h U (fm (.bool false) U h):=by refine agG ?_;unfold T5 cf c7 eX dc f3;refine abv ?_;unfold RB;refine a9 @Gt ?_;refine⟨λ_=>⟨λg=>absurd g J,λ_=>⟨rfl,rfl,rfl⟩⟩,λg=>absurd g J⟩
def ahI(n cj cS eY:Nat)(h:ad)(U:Nat):Prop:=u h cj=some (.cells [(n:X)] false)/\u h cS=some (.cells [.slice none 0 0] false)/\u h eY=some (.cells [.bool true] false)
theorem ajV{s:ak}{n:Nat}(bm:n<1000000):
  I0 s 483 [bb cj,bb cS,bb eY] n (λk=>[(k:X)]) (ahI n cj cS eY):=by
 intro l I ac Y ai i0 E ca;refine ak3 ?_;unfold abj;obtain⟨Z,P,V⟩:=ai _ _ _ E;refine a9 @Z ?_;refine bq.mk (λm aE M bH=>∃j,m=n-j/\j<=n/\aE=[.func (.yield l) ⟨[]⟩ ⟨[]⟩,bb cS,bb eY,(n:X),(j:X)]/\I j M bH) n ⟨0,J,J,rfl,E⟩ ?_;rintro _ _ M bH ⟨j,rfl,bM,rfl,B⟩;obtain⟨Z,P,V⟩:=ai _ _ _ B;rw[ajA];unfold YP;refine a9 @P ?_;refine⟨λg=>?_,λeh=>?_⟩
 ·have g:j<n:=J
  refine RY.mono ?_;rintro _ _ _ ⟨rfl,rfl,rfl⟩;simp(disch:=omega)only[bd,V,show bin Q .neq 4 (.bool false) (.bool true) = .ok (.bool true) by kernel_rfl,seval];have rC:=ca true j g _ _ B;refine rC.mono ?_;rintro _ aM bR ⟨rfl,D,A⟩;refine⟨A,?_⟩;refine a9 (cn (J:j<1000000000000)) ?_;exact⟨_,J,j+1,rfl,J,rfl,D⟩
 ·have:j=n:=J
  subst this;exact B
def eA(p:Nat × Int):aa X:=[(p.1:X),.int .i64 (p.2 / 18446744073709551616),.int .u64 (p.2 % 18446744073709551616)]
theorem ao7(p:Nat × Int):(eA p).length=3:=rfl
theorem ao8{s:ak}{r:Int}{v:X}{x:Nat->av Int}{h:ad}{U:Nat}(ba:oM r)(M:hJ R C af)(MA:C<=63)(aI:kI h U v R C af)(bu:s8 h U w C x)(bN:∀g∈af,0<=g.w/\g.w<=2147483647)(aR:∀i y,x i=some y->0<=y/\y<=eB):
  aD Q s 393 [(r:X),v,w,.slice none 0 0,.bool true] h U (λaT ac Y=>∃z,aT = .tuple ⟨[z,.int .i64 0]⟩/\eZ ac U Y z eA (bn R (iU r af x))/\az U h ac/\U<=Y):=by
 refine ar7 ?_;have kR:=aI;have VJ:=bu;have dD:=M.ba;obtain⟨b,aO,cap,v2,v3,rfl,aG,a5,qL,pO⟩:=aI;obtain⟨a2,c2,rfl⟩:=qL.form;obtain⟨a3,cm,rfl⟩:=pO.form;obtain⟨ei,cY,rfl,ar,nu⟩:=bu;obtain⟨eR,co,rfl,_⟩:=id ar;obtain⟨bp,hn,rfl,_⟩:=id nu;unfold afz;refine aB ?_;refine(ao6 M (kR.T aC J) (VJ.T aC J) MA).mono ?_;rintro _ al A ⟨rfl,I,Z⟩;have b7:=(I U J).trans ((aq J).trans ((aq J).trans (aN _ _ _)));have br:=(I (U+1) J).trans ((aq J).trans (aN _ _ _));have g2:=(I (U+1+1) J).trans (aN _ _ _);refine hw @b7 @br @g2 ?_;refine(A4 (r:=r) (by rcases ba with rfl|rfl|rfl <;> omega) (by rcases ba with rfl|rfl|rfl <;> omega)).mono ?_;rintro _ _ _ ⟨rfl,gG,eL⟩;rw[gG,eL];simp(disch:=omega)only[bd,nN,seval];refine anE ?_;unfold adh;refine aB ?_;generalize Fx:F _ _ _=iI;have gh:∀c,c<A->c≠U+1->c≠U+1+1->u iI c=u al c:=λc D aM bc=>by subst Fx;repeat rw[aq J]
 have iH:=(gh U J J J).trans b7;have c4:u iI (U+1)=some (.cells [(R:X),(C:X),.slice (some ⟨b,0,aO⟩) (R+1) cap,.slice a2 (fz af).length c2,.slice a3 (gV af).length cm] false):=by subst Fx;grind
 have eK:u iI (U+1+1)=some (.cells [(C:X),.slice eR (eU C (ku x)).length co,.slice bp (cF C (kd x)).length hn] false):=by subst Fx;grind
 have q12:u iI A=some (.cells [.slice none 0 0] false):=by subst Fx;grind
 have V8:ahI R (A+1) (A+1+1) (A+1+1+1) iI (A+1+1+1+1):=by subst Fx;refine⟨?_,?_,?_⟩ <;> grind
 have tK:az U h iI:=λc P=>by rw[gh c J J J,I c J];repeat rw[aq J]
 clear Fx gh;have V6:=ajV (s:=s) (n:=R) (cj:=A+1) (cS:=A+1+1) (eY:=A+1+1+1) J;obtain⟨L,eJ⟩:∃L:Nat->av Int,L=iU r af x:=⟨_,rfl⟩
 refine Ty (λk D a6=>∃w,u D A=some (.cells [w] false)/\hv w=true/\dX D w eA 3 (bn k L) (A+6) a6/\(∀c,c<A+5->c≠A->c≠A+4->u D c=u iI c)/\A+5<=a6/\k<=R) V6 ?_ ?_ ?_ ?_ ?_
 ·rintro k D a6 ⟨w,e,e8,dW,B,dr,hk⟩;exact⟨⟨(B _ J J J).trans V8.1,(B _ J J J).trans V8.2.1,(B _ J J J).trans V8.2.2⟩,J⟩
 ·rintro k D a6 al n2' ⟨w,e,e8,dW,B,dr,hk⟩ I Z;exact⟨w,ab,e8,dW.T ab Z,ab,J,hk⟩
 ·exact⟨.slice none 0 0,ab,rfl,.inl ⟨rfl,rfl⟩,ab,J,J⟩
 ·rintro s k hk D a6 ⟨w,e,e8,dW,B,dr,B9⟩ bg;have b7:u D U=some (.cells [(r:X)] false):=(B _ J J J).trans iH;have br:=(B (U+1) J J J).trans c4;have g2:=(B (U+1+1) J J J).trans eK;have gF:az U h D:=λc P=>(B c J J J).trans (tK c P);refine aoC bg ?_;unfold RN adS;generalize vG _ _ _ _ _ _ _ _ _ _ _ _ _ _ _ _ _ _ _ _ _ _ _ _ _=aj at *
  refine⟨none,bg,?_⟩;generalize eHH:F D (A+1+1+1+1) (.loop 1 none aj [37] sZ s0)=Ah;have V:∀c,c≠A+4->u Ah c=u D c:=λc P=>ab
  have pz:u Ah (A+1+1+1+1)=some (.loop 1 none aj [37] sZ s0):=ab
  have b7:=(V _ J).trans b7;have br:=(V _ J).trans br;have g2:=(V _ J).trans g2;have e:=(V _ J).trans e;have gF:az U h Ah:=λc P=>(V c J).trans (gF c P);refine hw @b7 @br @g2 ?_;refine(asC ba M MA (kR.T gF (Y:=a6) J) (VJ.T gF (Y:=a6) J) hk bN aR).mono ?_;rintro _ dL n7 ⟨rfl,E,tl⟩;rw[<-eJ];have gO:=(E _ J).trans e;have V4:=(E _ J).trans pz;have aY:∀x:Int,c5 (.agg ⟨wid x⟩)=[.int .i64 (x / 18446744073709551616),.int .u64 (x % 18446744073709551616)]:=λ_=>rfl;cases hLk:L k with
  |none =>
   have ai:bn (k+1) L=bn k L:=by rw[uh,hLk,hM]
   refine a9 @aY ?_;refine⟨λP=>absurd P (by simp),λ_=>⟨1,none,V4,⟨w,gO,e8,?_,λc D al aM=>?_,J,J⟩,J⟩⟩
   ·rw[ai];exact dW.T (λc D al=>by rw[aq J,aq J,aq J,E c J,V c J]) J
   ·rw[aq J,aq J,aq J,E c J,V c J];grind
  |some y =>
   have ai:bn (k+1) L=bn k L++[(k,y)]:=by rw[uh,hLk]
   have xA:=my k L;refine cx @aY @gO ?_;refine⟨λ_=>?_,λP=>absurd P (by simp)⟩;refine l7 (enc:=eA) (k:=3) (ao:=A+6) (λ_=>rfl) (λ_=>rfl) J (dW.T (da:=n7+1+1) (λc D al=>by rw[aq J,aq J,aq J,E c J,V c J]) J) J (k,y) (aN _ _ _) rfl J λdG hR V9 wu=>?_;have hl9:u hR (A+1+1+1+1)=some (.loop 1 none aj [37] sZ s0):=ab
   have jj:u hR A=some (.cells [w] false):=ab
   have aC3:∀c,c<A+5->c≠A->c≠A+4->u hR c=u iI c:=λc D al aM=>by rw[wu _ J,aq J,aq J,aq J,E c J,V c J];grind
   rcases V9 with⟨aF,rfl⟩|⟨CE,hy,fa,rfl,NB⟩
   ·simp at aF
   ·refine a9 @jj ?_;refine⟨1,none,hl9,⟨_,rfl,rfl,.inr ⟨CE,hy,J,by rw[ai],?_⟩,λc D al aM=>?_,J,J⟩,J⟩
    all_goals grind
 ·rintro D a6 ⟨w,e,e8,dW,B,dr,B9⟩;refine a9 @e ?_;refine⟨w,rfl,?_,λc P=>?_,J⟩
  ·rw[<-eJ];rcases dW with⟨aY,rfl⟩|⟨CE,hy,fa,rfl,NB⟩
   ·exact⟨_,_,by rw[aY];rfl,λh=>absurd aY h⟩
   ·exact⟨_,_,rfl,λ_=>⟨CE,some 3,false,J,fa,rfl,NB⟩⟩
  ·rw[B _ J J J];exact tK c P
theorem eu.all{aA:Type}{h:ad}{U k:Nat}{v:X}{enc:aA->aa X}{l:aa aA}(H:eu h U v enc k l)(D:∀x,(enc x).length=k)(g:l≠[]):
  ∃b o aO bC cs cap,b<U/\v = .slice (some ⟨b,o,aO⟩) l.length cap/\u h b=some (.cells cs bC)/\∀(i:Nat) x,l[i]? = some x->hF (some k) (o+i*k) cs = .ok (.agg ⟨enc x⟩)/\∀(j:Nat) y,j<k->(enc x)[j]? = some y->cs[o+i*k+j]? = some y:=by
 obtain⟨a,cap,e,E⟩:=id H;obtain⟨b,o,aO,bC,cs,aG,rfl,I,h1,M⟩:=E g;refine⟨b,o,aO,bC,cs,cap,aG,e,I,λi x B=>⟨?_,λj y bM ca=>?_⟩⟩
 ·obtain⟨ck,aW,V,P,qg,A,_,ce,Z,jY⟩:=H.ld D B
  grind
 ·have aM:=O6 D rfl M B
  grind
theorem auK{s:ak}{v:X}{h:ad}{U:Nat}(eJ:L.length<1000000)(E:eu h U v eA 3 L)(bx:∀(p:Nat × Int),p∈L->∀ac Y,az U h ac->U<=Y->aD Q s d7 (.agg ⟨eA p⟩::cs) ac Y (cI (.bool false) Y ac)):
  aD Q s 396 [v,.func (.func d7) ⟨[]⟩ ⟨cs⟩] h U (cI (.int .i64 (-1)) U h):=by refine X0 ?_;unfold Pe;obtain⟨V,cap,rfl,aU⟩:=id E;refine aB ?_;refine bq.mk (λm aE ac Y=>∃i,m=L.length-i/\i<=L.length/\aE=[.slice V L.length cap,.func (.func d7) ⟨[]⟩ ⟨cs⟩,.int .i64 0,(L.length:X),(i:X)]/\az U h ac/\U<=Y) L.length ⟨0,J,J,rfl,aC,J⟩ ?_;rintro _ _ al bH ⟨i,rfl,ai,rfl,B,g⟩;rw[XW];unfold O8;refine aB ?_;refine⟨λZ=>?_,λeh=>⟨rfl,B,g⟩⟩;obtain⟨p,P⟩:=dk   J;obtain⟨b,aW,aO,bC,qg,D,aG,M,a5,A⟩:=(E.T B g).ld (λ_=>rfl) P;cases M;refine cx @a5 @A ?_;refine(bx p ab al bH B g).mono ?_;rintro _ aM bR ⟨rfl,ek,I⟩;refine a9 (cn (J:i<1000000000000)) ?_;exact⟨_,J,i+1,rfl,J,rfl,aC,J⟩
theorem alM{s:ak}{n:Nat}{h:ad}{U:Nat}(g:u h cj=some (.cells [(n:X)] bC))(B:cj<U)(A:p.1<n):aD Q s 398 [.agg ⟨eA p⟩,bb cj] h U (cI (.bool false) U h):=by refine bS ?_;rw[show c5 (.agg ⟨eA p⟩)=[(p.1:X),.int .i64 (p.2 / 18446744073709551616),.int .u64 (p.2 % 18446744073709551616)]from rfl];refine a9 @g ?_;refine⟨λh=>absurd h J,λ_=>?_⟩;rw[gz A];exact⟨rfl,aC,J⟩
def tD(r:Int)(l:aa (Nat × Int)):aa (Nat × Int):=l.filter λp=>decide (p.2≠DX r)
theorem asD(r:Int)(n:Nat)(S:Nat->av Int):tD r (bn n S)=bn n λi=>q6 r (S i):=by
 refine St (JX _ (zg n S)) λi x=>?_;unfold tD;rw[pV,kl];unfold q6
 grind
theorem ao9{s:ak}{r:Int}{n:Nat}{v:X}{S:Nat->av Int}{h:ad}{U:Nat}(ba:oM r)(bm:n<=4096)(aI:eu h U v eA 3 (bn n S))(dW:∀i y,S i=some y->0<=y/\y<=eB):
  aD Q s 335 [(r:X),(n:X),v] h U (λaT ac Y=>∃w,aT = .tuple ⟨[w,.int .i64 0]⟩/\lJ ac U Y w n (λi=>q6 r (S i))/\az U h ac/\U<=Y):=by
 refine aq8 ?_;unfold ae6;obtain⟨bp,cap,rfl,aU⟩:=id aI;have gA:=my n S;have bF:∀{o aW},az U h (F (F h U o) (U+1) aW):=aC
 refine aB ?_;refine(A4  (by rcases ba with rfl|rfl|rfl <;> omega) (by rcases ba with rfl|rfl|rfl <;> omega)).mono ?_;rintro _ _ _ ⟨rfl,gG,eL⟩;rw[gG,eL];refine aB ?_;have CD:u (F (F h U (.cells [(n:X)] false)) (U+1) (.cells [.int .i64 0,.slice none 0 0] false)) U=some (.cells [(n:X)] false):=ab
 have o9:u (F (F h U (.cells [(n:X)] false)) (U+1) (.cells [.int .i64 0,.slice none 0 0] false)) (U+1)=some (.cells [.int .i64 0,.slice none 0 0] false):=ab
 have vd:=bF (o:=.cells [(n:X)] false) (aW:=.cells [.int .i64 0,.slice none 0 0] false);generalize F (F h U (.cells [(n:X)] false)) (U+1) (.cells [.int .i64 0,.slice none 0 0] false)=H at *
 refine⟨λh=>absurd h J,λ_=>?_⟩;rw[f9 (J:¬(4096:Int)<(n:Int))];unfold Qs;refine aB ?_;refine bS ?_;refine(auK J (aI.T vd  J) λp bv ac Y hk dr=>alM  ((hk U J).trans CD) (by omega) ?_).mono ?_
 ·exact(kl  ).1 bv |>.1
 rintro _ Z B ⟨rfl,I,e9⟩;have b7:=(I U J).trans CD;have br:=(I (U+1) J).trans o9;have hB:=vd.trans I J;refine aB ?_;unfold abf;refine aB ?_;refine⟨λh=>absurd trivial h,?_⟩;refine bq.mk (λm aE ac Y=>∃i,m=(bn n S).length-i/\i<=(bn n S).length/\aE=[(r:X),.slice bp (bn n S).length cap,bb U,.pointer (some ⟨U+1,0,none⟩),.int .i64 0,.int .i64 ((bn n S).length:Int),(i:X)]/\ac=Z/\Y=B) (bn n S).length ⟨0,J,J,rfl,rfl,rfl⟩ ?_;rintro _ _ aM bR ⟨i,rfl,ai,rfl,gG,eL⟩;rw[anB,gG,eL];unfold abd;refine aB ?_;refine⟨λci=>?_,λeh=>?_⟩
 ·obtain⟨b,o,aO,bC,cs,oJ,aG,E,a5,g⟩:=aI.all (λ_=>rfl) ab;cases E;have V:=(hB b aG).trans a5;have fin:∃bG,bG<(bn n S).length-i/\∃M,bG=(bn n S).length-M/\M<=(bn n S).length/\[Value.int .i64 r,.slice (some ⟨b,o,aO⟩) (bn n S).length cap,bb U,.pointer (some ⟨U+1,0,none⟩),.int .i64 0,.int .i64 ((bn n S).length:Int),.int .i64 (IntKind.wrap .i64 ((i:Int)+1))]=[(r:X),.slice (some ⟨b,o,aO⟩) (bn n S).length cap,bb U,.pointer (some ⟨U+1,0,none⟩),.int .i64 0,.int .i64 ((bn n S).length:Int),(M:X)]:=⟨_,J,i+1,rfl,J,by rw[cn J]⟩
  refine⟨λbv=>?_,λ_=>fin⟩;obtain⟨j,rfl⟩:∃j,i=j+1:=⟨i-1,J⟩
  obtain⟨p,xS⟩:=dk (l:=bn n S) (i:=j) J;obtain⟨q,NC⟩:=dk   J;have c1:=(g j p xS).2 0 _ J rfl;have c2:=(g (j+1) q NC).2 0 _ J rfl;rw[m9]at c1 c2;have Ie:=vO     xS NC J;have b0:IntKind.wrap .i64 (((j+1:Nat):Int)-1)=(j:Int):=by rw[po];omega
  refine j6 @b0 @V @c1 @c2 ?_;exact⟨λh=>absurd Ie h,λ_=>fin⟩
 ·obtain⟨Ah,hHH⟩:∃Ah,Ah=F (F Z B (.cells [.int .i64 0,.slice none 0 0] false)) B (.cells [(n:X),.slice none 0 0] false):=⟨_,rfl⟩
  have yt:u Ah B=some (.cells [(n:X),.slice none 0 0] false):=ab
  have kHH:az B Z Ah:=by rw[hHH];exact aC
  refine a9 @b7 ?_;rw[<-hHH];refine bq.mk (λm aE ac Y=>∃i w,m=(bn n S).length-i/\i<=(bn n S).length/\aE=[(r:X),.pointer (some ⟨U+1,0,none⟩),.int .i64 0,bb B,.slice bp (bn n S).length cap,.int .i64 ((bn n S).length:Int),(i:X)] /\
   u ac B=some (.cells [(n:X),w] false)/\dX ac w fV 2 (tD r ((bn n S).take i)) (B+1) Y/\az B Z ac/\B+1<=Y) (bn n S).length ⟨0,_,J,J,rfl,yt,.inl ⟨rfl,rfl⟩,kHH,J⟩ ?_
  rintro _ _ aM bR ⟨i,w,rfl,ai,rfl,ce,A,D,hr⟩;have l2:az U h aM:=aC
  have ya:=(D (U+1) J).trans br;rw[anC];unfold abe;refine aB ?_;refine⟨λci=>?_,λeh=>?_⟩
  ·obtain⟨p,bv⟩:=dk   J;obtain⟨Ix,hpS⟩:=w3   bv;have oT:=dW _ _ hpS;obtain⟨b,o,aO,bC,cs,oJ,aG,E,a5,g⟩:=aI.all (λ_=>rfl) ab;cases E;have V:=(l2 b aG).trans a5;have jY:=(g i p bv).1;have P:lO p.2:=GZ (by unfold kP eB at *;omega);have zw:tf p.2=true:=by unfold tf eB at *;grind
   simp(disch:=omega)only[bd,V,jY,show c5 (.agg ⟨eA p⟩)=[(p.1:X),.int .i64 (p.2 / 18446744073709551616),.int .u64 (p.2 % 18446744073709551616)]from rfl,seval];refine(YQ P).mono ?_;rintro _ bc d4 ⟨rfl,gd,iC⟩;rw[zw];refine aB ?_;refine(anI  (by rcases ba with rfl|rfl|rfl <;> simp)).mono ?_;rintro _ _ _ ⟨rfl,gG,eL⟩;rw[gG,eL];have gn4:=(gd bR J).trans (aN _ _ _);have eC:=(gd B J).trans ((aq J).trans ((aq J).trans ce));have hT:az bR aM bc:=aC
   have cy:(bn n S).take (i+1)=(bn n S).take i++[p]:=by rw[gQ,bv];rfl
   refine aB ?_;refine⟨λcX=>?_,λcX=>?_⟩
   ·have bu:tD r ((bn n S).take (i+1))=tD r ((bn n S).take i)++[p]:=by
     unfold tD
     grind
    have hdl:(tD r ((bn n S).take i)).length<=i:=hu (yF _ _) ab;obtain⟨hd,oi,rfl⟩:∃a c,w = .slice a (tD r ((bn n S).take i)).length c:=by
     rcases A with⟨E,rfl⟩|⟨b,_,_,rfl,_⟩
     all_goals grind
    refine cx @gn4 @eC ?_;refine l7  (k:=2)  (λ_=>rfl) (λ_=>rfl) J (A.T  (λc h1 Z=>by rw[aq J,hT c J]) J) J p (aN _ _ _) rfl J λdG hR V9 wu=>?_;have jj:u hR B=some (.cells [(n:X),.slice hd (tD r ((bn n S).take i)).length oi] false):=ab
    have Xm:az B Z hR:=λc aU=>by rw[wu c J,aq J,hT c J];exact D c aU
    rcases V9 with⟨aF,rfl⟩|⟨CE,hy,fa,rfl,NB⟩
    ·simp at aF
    ·refine cx @jj (cn (J:i<1000000000000)) ?_;refine⟨_,J,i+1,_,rfl,J,rfl,rfl,.inr ⟨CE,hy,J,by rw[bu],?_⟩,Xm.set (cB _),J⟩
     grind
   ·have bu:tD r ((bn n S).take (i+1))=tD r ((bn n S).take i):=by
     unfold tD
     grind
    refine a9 (cn (J:i<1000000000000)) ?_;exact⟨_,J,i+1,w,rfl,J,rfl,eC,by rw[bu];exact A.T (λc h1 Z=>hT c J) J,λc aU=>(hT c J).trans (D c aU),J⟩
  ·have:i=(bn n S).length:=J
   subst this;rw[ht,asD]at A;obtain⟨_,_,rfl⟩:∃a c,w = .slice a (bn n λi=>q6 r (S i)).length c:=by
    rcases A with⟨E,rfl⟩|⟨b,_,_,rfl,_⟩
    all_goals grind
   refine cx @ce @ya ?_;refine⟨_,rfl,⟨_,rfl,?_⟩,l2.set J,J⟩;rcases A with⟨E,aJ⟩|⟨CE,hy,fa,aJ,NB⟩
   ·rw[E]at aJ ⊢;exact⟨_,_,rfl,λh=>absurd rfl h⟩
   ·cases aJ;exact⟨_,_,rfl,λ_=>⟨CE,some 2,false,J,fa,rfl,ab⟩⟩
theorem agN:rQ Tryz.prog 415 "Len" = some (329,false):=by kernel_rfl
theorem S0:rQ Tryz.prog 415 "Less" = some (523,false):=by kernel_rfl
theorem S1:rQ Tryz.prog 415 "Swap" = some (526,false):=by kernel_rfl
theorem auL:rQ Tryz.prog 415 "Push" = some (525,true):=by kernel_rfl
theorem awF:rQ Tryz.prog 415 "Pop" = some (524,true):=by kernel_rfl
theorem ahJ:Tryz.prog.underlying 415=some (.pointer 370):=by kernel_rfl
theorem ayy:nb Tryz.prog 370=some none:=by kernel_rfl
theorem asE:AC Tryz.prog 417=true:=by kernel_rfl
section
variable {h:ad} {U cg:Nat} {v:X} {l bz:aa X}
theorem zn{m:String}{f:FuncId}(D:rQ Tryz.prog 415 m=some (f,false))(A:u h cg=some (.cells (v::bz) false)):p0 Q h U l m (.iface 415 (bb cg)) = .call f (v::l) h U:=by show Ut "invoke - method" (rQ Tryz.prog 415 m) (λg=>Er (xg Tryz.prog h 415 g.2 (bb cg)) (λy=>.call g.1 (y::l) h U))=_;rw[D];unfold xg;rw[ahJ];show Er (R.of "type" (nb Tryz.prog 370) (λB=>im B h (bb cg))) _=_;rw[ayy];show Er (im none h (bb cg)) _=_;rw[LX,A];rfl
theorem agO{m:String}{f:FuncId}(A:rQ Tryz.prog 415 m=some (f,true)):p0 Q h U l m (.iface 415 (bb cg)) = .call f ((bb cg)::l) h U:=by show Ut "invoke - method" (rQ Tryz.prog 415 m) (λg=>Er (xg Tryz.prog h 415 g.2 (bb cg)) (λy=>.call g.1 (y::l) h U))=_;rw[A];unfold xg;rw[ahJ];rfl
end
def v5(h:ad)(ao:Nat)(x:e6):Prop:=∃b o aO bC cs c a,x.v = .slice (some ⟨b,o,aO⟩) (x.n+1) c/\b<ao/\u h b=some (.cells cs bC)/\cs[o]? = some (((a:Nat):X))/\x.k=(a:Int)*1000+(x.w:Int)/\x.w<1000
theorem v5.T{h ac:ad}{ao:Nat}{x:e6}(H:v5 h ao x)(E:∀c,c<ao->u ac c=u h c):v5 ac ao x:=by obtain⟨b,o,aO,bC,cs,c,a,B,g,D,A⟩:=H;exact⟨b,o,aO,bC,cs,c,a,B,g,ab,A⟩
theorem agP{h:ad}{i:Nat}{x:e6}(A:hv x.v=true)(ai:i<W.length):jg (some (.cells (a1 hO W++cs) false)) h b (i*2) [x.v,(x.w:X)] = .ok (F h b (.cells (a1 hO (W.set i x)++cs) false)):=by
 have B:=ga  wW;have g:ec [x.v,(x.w:X)]=true:=by rw[rM,A];rfl
 have:=Qj  wW cs x W i ai;rw[LY g ab]
 grind
theorem RZ{s:ak}{h:ad}{U n:Nat}{a:av Addr}:aD Q s 329 [.slice a n cap] h U (λr ac Y=>r = (n:X)/\ac=h/\Y=U):=by refine bS ?_;simp(disch:=omega)only[bd,seval]
theorem P1{s:ak}{h:ad}{U n ao:Nat}{i k:Nat}{x:e6}(I:u h b=some (.cells (a1 hO W++cs) false))(tv:b<U)(qj:ao<=U)(bm:W.length=n)(ai:W[i]? = some x)(Z:W[k]? = some y)(aB6:v5 h ao x)(aB7:v5 h ao y):
  aD Q s 523 [.slice (some ⟨b,0,aO⟩) n cap,(i:X),(k:X)] h U (cI (.bool (decide (x.k<y.k))) U h):=by
 refine bS ?_;have Cu:=(gE.1 ai).1;have fD:=(gE.1 Z).1;rw[bm]at Cu fD;obtain⟨de,d9,I2,ro1,cs1,c1,ax,aY,dQ,V,E,c4,dh⟩:=aB6;obtain⟨bO,dI,mK,xW,zQ,c2,a2,aJ,dC,M,P,eK,db⟩:=aB7;have A:=agh (cs:=cs) ai;have g:=agh (cs:=cs) Z;rw[aY]at A;rw[aJ]at g;simp(disch:=omega)only[bd,I,A.1,A.2,g.1,g.2,V,M,E,P,seval];refine RT.mono ?_;rintro _ _ _ ⟨rfl,D,B⟩;rw[D,B];refine⟨J,?_⟩;simp(disch:=omega)only[bd,I,A.1,A.2,g.1,g.2,V,M,E,P,seval];refine RT.mono ?_;rintro _ _ _ ⟨rfl,D,B⟩;rw[D,B];refine⟨J,?_⟩;refine aB ?_;refine(DH (aN _ _ _)).mono ?_;rintro _ _ _ ⟨rfl,rfl,rfl⟩;refine⟨J,?_⟩;refine aB ?_;refine⟨?_,aC,J⟩
 congr 1
 rw[c4,eK,decide_eq_decide];unfold gb;omega
theorem P2{s:ak}{h:ad}{U n:Nat}{i k:Nat}{x:e6}(D:u h b=some (.cells (a1 hO W++cs) false))(M:W.length=n)(ai:W[i]? = some x)(g:W[k]? = some y)(A:hv x.v=true)(B:hv y.v=true):
  aD Q s 526 [.slice (some ⟨b,0,aO⟩) n cap,(i:X),(k:X)] h U (λr ac Y=>r = .tuple ⟨[]⟩/\u ac b=some (.cells (a1 hO (tx W i k x y)++cs) false)/\(∀c,c≠b->u ac c=u h c)/\Y=U):=by refine bS ?_;have E:=(gE.1 ai).1;have I:=(gE.1 g).1;simp(disch:=omega)only[bd,D,LC ai,LC g,seval];rw[agP B E,xk];rw[aN,agP A ab,xk];exact⟨aN _ _ _,ab⟩
abbrev ux(cg:Nat):X:=.iface 415 (bb cg)
def mB(h:ad)(ao:Nat)(W:aa e6):Prop:=∀x∈W,v5 h ao x
theorem mB.T{h ac:ad}{ao:Nat}{W:aa e6}(H:mB h ao W)(A:∀c,c<ao->u ac c=u h c):mB ac ao W:=λx g=>(H x g).T A
theorem mB.perm{h:ad}{ao:Nat}(H:mB h ao W)(p:dl.Perm W):mB h ao dl:=λx g=>H x ab
theorem v5.cell{h:ad}{ao:Nat}{x:e6}(H:v5 h ao x):hv x.v=true:=by obtain⟨b,o,aO,bC,cs,c,a,g,_⟩:=H;rw[g];rfl
theorem mB.at{h:ad}{ao i:Nat}{x:e6}(H:mB h ao W)(g:W[i]? = some x):v5 h ao x:=H x ab
theorem Tz{h ac:ad}{cg:Nat}{bz:aa X}(w:pn h cg b aO cap W cs bz)(B:u ac b=some (.cells (a1 hO dl++cs) false))(g:dl.length=W.length)(A:u ac cg=u h cg):pn ac cg b aO cap dl cs bz :=
 ⟨by rw[A,g];exact w.cell,B,by rw[g];exact w.len,w.Ih,w.ne⟩
theorem HE{h ac:ad}{cg U:Nat}{bz:aa X}(w:pn h cg b aO cap W cs bz)(A:az U h ac)(B:b<U)(g:cg<U):pn ac cg b aO cap W cs bz :=
 ⟨(A _ g).trans w.cell,(A _ B).trans w.ct,w.len,w.Ih,w.ne⟩
theorem awG(h:m<1000000000):IntKind.wrap .i64 ((m:Int)-1)=(m:Int)-1:=by rw[po];omega
theorem ayz(g:j<=100000):bin Q .quo 3 (.int .i64 ((j:Int)-1)) (.int .i64 2) = .ok (((eN j:Nat):X)):=by
 rw[Dl (by decide)];have:((j:Int)-1).tdiv 2=((eN j:Nat):Int):=by
  cases j with
  |zero=>rfl
  |succ j =>
   have e:((j+1:Nat):Int)-1=(j:Int):=J
   rw[e];rfl
 rw[this,show IntKind.wrap .i64 ((eN j:Nat):Int)=((eN j:Nat):Int) by rw[po];grind]
def Ca(b U:Nat)(h ac:ad)(Y:Nat):Prop:=(∀c,c<U->c≠b->u ac c=u h c)/\U<=Y
def UpJ(cg b ao:Nat)(aO:av Nat)(cap:Nat)(W:aa e6)(cs bz:aa X)(h:ad)(U:Nat)(m:Nat)(aE:aa X)(ac:ad)(Y:Nat):Prop :=
 ∃(dl:aa e6),aE=[ux cg,(m:X)]/\pn ac cg b aO cap dl cs bz/\vY dl m/\m<dl.length/\dl.Perm W/\Ca b U h ac Y
def awH(cg b:Nat)(aO:av Nat)(cap:Nat)(W:aa e6)(cs bz:aa X)(h:ad)(U:Nat):bD:=λr ac Y=>r = .tuple ⟨[]⟩/\∃dl,pn ac cg b aO cap dl cs bz/\oF dl/\dl.Perm W/\Ca b U h ac Y
theorem auM{s:ak}{h:ad}{U cg ao:Nat}{bz:aa X}(w:pn h cg b aO cap W cs bz)(Fy:vY W j)(bM:j<W.length)(bg:W.length<=100000)(ok:mB h ao W)(qj:ao<=U)(Wa:ao<=b)(r9:ao<=cg)(aG:b<U)(uU:cg<U):
  aD Q s 258 [ux cg,(j:X)] h U (awH cg b aO cap W cs bz h U):=by
 refine awb ?_;have eg:=w.ne;refine bq.mk (UpJ cg b ao aO cap W cs bz h U) j ⟨W,rfl,w,Fy,bM,CS _,ab,J⟩ ?_;rintro m _ ac Y ⟨dl,rfl,P,B,hm,I,bx,dr⟩;have g:mB ac ao dl:=(ok.T ab).perm I;rw[at7];unfold ae3;have gA:=I.length_eq;obtain⟨y,D⟩:=dk hm;obtain⟨x,E⟩:=dk (l:=dl) (i:=eN m) (by unfold eN;omega);simp(disch:=omega)only[bd,awG (J:m<1000000000),ayz (J:m<=100000),zn S0 P.cell,seval];refine⟨λap=>?_,λap=>?_⟩
 ·have M:m=0:=by
   have:((eN m:Nat):Int)=(m:Int):=ab
   unfold eN at this;omega
  exact⟨rfl,dl,P,B.done J,I,bx,dr⟩
 ·have M:0<m:=by
   rcases As m with e|e
   ·subst e;simp[eN]at ap
   omega
  refine(P1  P.ct J J rfl D E (g.at D) (g.at E)).mono ?_;rintro r h1 a6 ⟨rfl,A,fp⟩;have V:=HE P A J J;simp(disch:=omega)only[bd,zn S1 V.cell,seval];refine⟨λeh=>?_,λZ=>?_⟩
  ·refine⟨rfl,dl,V,B.done λfY qC _ uF UJ=>?_,I,λc al aM=>(A c J).trans ab,J⟩
   grind
  ·refine(P2 V.ct rfl E D (g.at E).cell (g.at D).cell).mono ?_;rintro r al _ ⟨rfl,fa,sf,rfl⟩;have r8:eN m<m:=by unfold eN;omega
   exact⟨eN m,r8,_,rfl,Tz V fa (AT _ _ _ _ _) ab,B.step M E D Z,by rw[AT];omega,(KR E D).trans I,λc aM bc=>by rw[sf c bc,A c J];grind,J⟩
def DnJ(cg b n:Nat)(aO:av Nat)(cap:Nat)(W:aa e6)(cs bz:aa X)(h:ad)(U:Nat)(m:Nat)(aE:aa X)(ac:ad)(Y:Nat):Prop :=
 ∃(dl:aa e6) (i:Nat),m=n-i/\i<=n/\aE=[ux cg,.int .i64 0,(n:X),(i:X)]/\pn ac cg b aO cap dl cs bz/\vL dl n i/\dl.Perm W/\dl[n]? = W[n]?/\Ca b U h ac Y
def agQ(cg b n:Nat)(aO:av Nat)(cap:Nat)(W:aa e6)(cs bz:aa X)(h:ad)(U:Nat):bD:=λr ac Y=>∃dl,pn ac cg b aO cap dl cs bz/\oF (dl.take n)/\dl.Perm W/\dl[n]? = W[n]?/\Ca b U h ac Y
theorem apa{s:ak}{h:ad}{U cg n ao:Nat}{bz:aa X}(w:pn h cg b aO cap W cs bz)(Cy:vL W n 0)(bm:W.length=n+1)(bg:W.length<=100000)(ok:mB h ao W)(qj:ao<=U)(Wa:ao<=b)(r9:ao<=cg)(aG:b<U)(uU:cg<U):
  aD Q s 257 [ux cg,.int .i64 0,(n:X)] h U (agQ cg b n aO cap W cs bz h U):=by
 refine aq6 ?_;have eg:=w.ne;refine bq.mk (DnJ cg b n aO cap W cs bz h U) n ⟨W,0,rfl,J,rfl,w,Cy,CS _,rfl,ab,J⟩ ?_;rintro m _ ac Y ⟨dl,i,rfl,ai,rfl,bj,P,bv,g,bx,dr⟩;have ok':mB ac ao dl:=(ok.T ab).perm bv;rw[anz];unfold abc;have gA:=bv.length_eq;obtain⟨x,aR⟩:=dk (l:=dl) (i:=i) J;have aY:(2:Int)*(i:Int)=((2*i:Nat):Int):=J
 have aJ:IntKind.wrap .i64 ((2*i:Nat):Int)=((2*i:Nat):Int):=by rw[po];omega
 refine vR @AS @aY @aJ (cn (J:2*i<1000000000000)) (cn (J:2*i+1<1000000000000)) ?_;have tail:∀(I:ad) (a6 j:Nat) (y:e6),pn I cg b aO cap dl cs bz->Ca b U h I a6->eN j=i->0<j->j<n->dl[j]? = some y->(∀(c:Nat) (z:e6),0<c->c<n->eN c=i->dl[c]? = some z->y.k<=z.k) ->
   gB Q s (p0 Q I a6 [(j:X),(i:X)] "Less" (ux cg)) λjX h21 Nh=>ag (d2 .not jX) λmR=>bJ mR (ag (bin Q .gtr 3 (aQ [ux cg,.int .i64 0,(n:X),(i:X)] 3) (aQ [ux cg,.int .i64 0,(n:X),(i:X)] 1)) λqv=>agQ cg b n aO cap W cs bz h U qv h21 Nh) (gB Q s (p0 Q h21 Nh [(i:X),(j:X)] "Swap" (ux cg)) λpF h25 n26 =>
    ∃bG,bG<n-i/\DnJ cg b n aO cap W cs bz h U bG [ux cg,.int .i64 0,(n:X),(j:X)] h25 n26):=by
  intro I a6 j y dh M UP yc hjn V Mt;have hij:i<j:=by unfold eN at UP;omega
  have fp:=M.2;have A:mB I ao dl:=(ok.T λc aU=>M.1 c J J).perm bv;rw[zn S0 dh.cell,zk];refine(P1  dh.ct J J rfl V aR (A.at V) (A.at aR)).mono ?_;rintro r Z bH ⟨rfl,dE,e9⟩;have db:=HE dh dE J J;have sf:Ca b U h Z bH:=⟨λc I Z=>(dE c J).trans (M.1 c I Z),J⟩
  simp(disch:=omega)only[bd,zn S1 db.cell,seval];refine⟨λeh=>?_,λD=>?_⟩
  ·refine⟨dl,db,P.done λc fY qC aU zF uI uF UJ=>?_,bv,g,sf⟩
   grind
  ·refine(P2 db.ct rfl aR V (A.at aR).cell (A.at V).cell).mono ?_;rintro r aM _ ⟨rfl,oZ,B,rfl⟩;refine⟨n-j,J,_,j,rfl,J,rfl,Tz db oZ (AT _ _ _ _ _) ab,P.step yc hjn UP aR V D Mt,(KR aR V).trans bv,?_,λc bc bP=>(B c bP).trans (sf.1 c bc bP),J⟩;rw[GV aR V J,if_neg J,if_neg J];omega
 have aAj:∀c,0<c->eN c=i->c=2*i+1\/c=2*i+2:=λc aU h=>(am8 aU).1 h;refine⟨λeh=>?_,λD=>?_⟩
 ·unfold KV;refine aB ?_;exact⟨dl,bj,P.done ab,bv,g,bx,dr⟩
 ·rw[f9 (J:¬((2*i+1:Nat):Int)<0)];unfold KV;refine a9 (cn (J:2*i+1<1000000000000)) ?_;obtain⟨bY,E⟩:=dk (l:=dl) (i:=2*i+1) J;refine⟨λZ=>?_,λZ=>?_⟩
  ·obtain⟨cC,Wb⟩:=dk (l:=dl) (i:=2*i+1+1) J;rw[zn S0 bj.cell,zk];refine(P1  bj.ct J J rfl Wb E (ok'.at Wb) (ok'.at E)).mono ?_;rintro r aM bR ⟨rfl,ek,hr⟩;have kj:=HE bj ek J J;have B:Ca b U h aM bR:=⟨λc I Z=>(ek c J).trans ab,J⟩
   unfold KU;rw[tc];refine⟨λbc=>tail aM bR _ cC kj B (by unfold eN;omega) J Z Wb ab,λbc=>tail aM bR _ bY kj B (by unfold eN;omega) J D E ab⟩
   all_goals grind
  ·unfold KU;rw[tc];refine⟨λbc=>absurd bc (by simp),λ_=>tail ac Y _ bY bj ⟨bx,dr⟩ (by unfold eN;omega) J D E λc z aU zF uI cX=>?_⟩
   grind
theorem alN{y:X}:K8 Tryz.prog 417 true (.iface 417 y) = .ok (.tuple ⟨[y,.bool true]⟩):=by show(bif AC Tryz.prog 417&&Nat.beq 417 417 then R.ok (pe true y true)else .no "typeAssert")=_;rw[asE];rfl
def v6(h:ad)(cg:Nat)(bz:aa X)(W:aa e6)(cV:av Nat):Prop:=(cV=none/\W=[]/\u h cg=some (.cells (.slice none 0 0::bz) false))\/∃b aO cap cs,cV=some b/\pn h cg b aO cap W cs bz
def TA(cg:Nat)(bz:aa X)(cV:av Nat)(U:Nat)(h:ad)(p:aa e6->Prop):bD:=λr ac Y=>∃dl su,v6 ac cg bz dl su/\p dl/\(su=cV\/∃ck,su=some ck/\U<=ck/\ck<Y)/\U<=Y/\∀c,c<U->c≠cg->cV≠some c->u ac c=u h c
theorem agR{h:ad}{cg:Nat}{v g:X}{bz:aa X}(A:hv g=true):jg (some (.cells (v::bz) false)) h cg 0 [g] = .ok (F h cg (.cells (g::bz) false)):=by rw[LY (by rw[rM,A];rfl) ab];rfl
theorem alO{s:ak}{h:ad}{U cg:Nat}{x:e6}{bz:aa X}(w:v6 h cg bz W cV)(aG:∀b,cV=some b->b<U)(uU:cg<U)(bg:W.length<1000)(I:hv x.v=true)(B:c5 x.v=[x.v]):
  aD Q s 525 [bb cg,.iface 417 (.agg ⟨[x.v,(x.w:X)]⟩)] h U (TA cg bz cV U h λdl=>dl=W++[x]):=by
 refine bS ?_;rw[alN];rcases w with⟨rfl,rfl,aU⟩|⟨b,aO,cap,cs,rfl,w⟩
 ·have g:u (F (F h U (.cells [.slice none 0 0,.int .i64 0] false)) U (.cells [x.v,(x.w:X)] false)) cg=some (.cells (.slice none 0 0::bz) false):=ab
  refine hw @g @I @B ?_;refine l7  (enc:=λ_=>hO x)  (ao:=U+1+1) (l:=[]) ab (λ_=>by rw[rM,I];rfl) J (.inl ab) J () (aN _ _ _) rfl J λdG bP P hi=>?_;rcases P with⟨aF,rfl⟩|⟨b,hy,fa,rfl,a5⟩
  ·simp at aF
  ·have M:u bP cg=some (.cells (.slice none 0 0::bz) false):=ab
   rw[M];show _/\_/\ag (jg (some (.cells (.slice none 0 0::bz) false)) bP cg 0 [.slice (some ⟨b,0,some 2⟩) 1 1]) _;rw[agR rfl];refine⟨J,rfl,[x],some b,.inr ⟨b,some 2,1,[],rfl,⟨ab,?_,rfl,ab,J⟩⟩,rfl,ab,J,λc h1 al _=>?_⟩
   ·rw[aq J,a5];rfl
   grind
 ·have eg:=w.ne;have tv:=aG b rfl;have g:u (F (F h U (.cells [.slice none 0 0,.int .i64 0] false)) U (.cells [x.v,(x.w:X)] false)) cg=some (.cells (.slice (some ⟨b,0,aO⟩) W.length cap::bz) false):=by rw[aq J,aq J];exact w.cell
  refine hw @g @I @B ?_;obtain⟨E,D,A,Z,ac,Y,aY,aJ,ce,eC,gP,g1,gO,sK⟩:=aqH (h:=F (F (F h U (.cells [.slice none 0 0,.int .i64 0] false)) U (.cells [x.v,(x.w:X)] false)) (U+1) (.cells [x.v,(x.w:X)] false)) (U:=U+1+1) (b:=b)        (dI:=0)  (by rw[aq J,aq J,aq J];exact w.ct) rfl w.len w.Ih J x I (aN _ _ _) rfl J;rw[aY];have V:u ac cg=some (.cells (.slice (some ⟨b,0,aO⟩) W.length cap::bz) false):=ab
  have hQ:E≠cg:=J
  show U+1+1<=Y/\_/\ag (jg (u ac cg) ac cg 0 [.slice (some ⟨E,0,D⟩) (W.length+1) A]) _;rw[V,agR rfl];refine⟨g1,rfl,_,some E,.inr ⟨E,D,A,Z,rfl,⟨?_,?_,ce,eC,hQ⟩⟩,rfl,?_,J,ab⟩
  all_goals grind
theorem apb{s:ak}{h:ad}{U cg n:Nat}{bz:aa X}(w:pn h cg b aO cap W cs bz)(aG:b<U)(uU:cg<U)(Z:W.length=n+1)(bg:W.length<100000){ao:Nat}(ok:mB h ao W):
  aD Q s 524 [bb cg] h U (λr ac Y=>∃M,pn ac cg b aO cap (W.take n) M bz/\Y=U+1/\∀c,c<U->c≠cg->u ac c=u h c):=by
 refine bS ?_;have D:=w.ne;have e:IntKind.wrap .i64 ((W.length:Int)-1)=(n:Int):=by rw[po];omega
 obtain⟨x,E⟩:=dk (l:=W) (i:=n) J;have uE:=w.len;have I:=(ok.at E).cell;have P:c5 x.v=[x.v]:=by obtain⟨_,_,_,_,_,_,_,V,_⟩:=ok.at E;rw[V];rfl
 have g:u (F (F h U (.cells [.slice none 0 0,.int .i64 0] false)) U (.cells [x.v,(x.w:X)] false)) cg=some (.cells (.slice (some ⟨b,0,aO⟩) W.length cap::bz) false):=by rw[aq J,aq J];exact w.cell
 have A:=aqI (b:=b) (aO:=aO) (n:=n) (cap:=cap) J;rw[Z]at g e;have B:=w.cell;rw[Z]at B;simp(disch:=omega)only[bd,B,e,w.ct,LC E,I,P,g,A,seval];have jF:W=W.take n++[x]:=by
  have V:W.take (n+1)=W.take n++[x]:=by rw[gQ,E];rfl
  grind
 refine⟨J,hO x++cs,⟨ab,?_,?_,w.Ih,D⟩,ab⟩
 ·rw[aq D,aq J,aq J,w.ct]
  conv=>lhs;rw[jF]
  rw[sW,kB]
 grind
theorem apc{s:ak}{h:ad}{U cg ao:Nat}{x:e6}{bz:aa X}(w:v6 h cg bz W cV)(aG:∀b,cV=some b->ao<=b/\b<U)(uU:cg<U)(r9:ao<=cg)(qj:ao<=U)(bg:W.length<1000)(gh:oF W)(ok:mB h ao (W++[x])):
  aD Q s 171 [ux cg,.iface 417 (.agg ⟨[x.v,(x.w:X)]⟩)] h U (TA cg bz cV U h λdl=>oF dl/\dl.Perm (W++[x])):=by
 refine bS ?_;have B:=ok x ab;have Z:c5 x.v=[x.v]:=by obtain⟨_,_,_,_,_,_,_,P,_⟩:=B;rw[P];rfl
 rw[agO auL,zk];refine(alO w ab uU bg B.cell Z).mono ?_;rintro r P a6 ⟨dl,su,M,rfl,aY,aJ,ce⟩;rcases M with⟨_,ap,_⟩|⟨A,Wc,g,qg,rfl,M⟩
 ·simp at ap
 have E:ao<=A/\A<a6:=ab
 rw[zn agN M.cell,zk];refine RZ.mono ?_;rintro r _ _ ⟨rfl,gG,eL⟩;rw[gG,eL];have D:(W++[x]).length=W.length+1:=by simp
 rw[D];have e:IntKind.wrap .i64 (((W.length+1:Nat):Int)-1)=(W.length:Int):=by rw[po];omega
 refine a9 @e ?_;have V:mB P ao (W++[x]):=ok.T ab;refine(auM M (vY.push  gh) J J V J E.1 r9 E.2 J).mono ?_;rintro r al bH ⟨rfl,dl,db,nv,U4,I⟩;have e9:=I.2;refine⟨dl,some A,.inr ⟨A,Wc,g,qg,rfl,db⟩,⟨nv,U4⟩,?_,J,λc P al aM=>?_⟩
 ·grind
 ·have hcb:c≠A:=ab
  exact(I.1 c J hcb).trans ab
theorem asF{s:ak}{h:ad}{U cg ao:Nat}{p:e6}{bz:aa X}(w:pn h cg b aO cap W cs bz)(aG:b<U)(Wa:ao<=b)(uU:cg<U)(r9:ao<=cg)(qj:ao<=U)(bg:W.length<1000)(gh:oF W)(ok:mB h ao W)(ic:W[0]? = some p):
  aD Q s 170 [ux cg] h U (λr ac Y=>∃qg dl,pn ac cg b aO cap dl qg bz/\oF dl/\(p::dl).Perm W/\U<=Y/\∀c,c<U->c≠b->c≠cg->u ac c=u h c):=by
 refine bS ?_;have eg:=w.ne;obtain⟨n,bm⟩:∃n,W.length=n+1:=⟨W.length-1,ab⟩
 obtain⟨q,E⟩:=dk (l:=W) (i:=n) J;have g:=w.cell;rw[zn agN g,zk];refine RZ.mono ?_;rintro r ft hp ⟨rfl,aY,aJ⟩;rw[aY,aJ];have e:IntKind.wrap .i64 ((W.length:Int)-1)=(n:Int):=by rw[po];omega
 simp(disch:=omega)only[bd,e,zn S1 g,seval];have oS:aD Q s 526 [.slice (some ⟨b,0,aO⟩) W.length cap,((0:Nat):X),(n:X)] h U _:=P2  w.ct rfl ic E (ok.at ic).cell (ok.at E).cell;refine oS.mono ?_;rintro r Z _ ⟨rfl,hy,EF,rfl⟩;have dh:=Tz w hy (AT _ _ _ _ _) ab;have I:mB Z ao (tx W 0 n p q):=(ok.T ab).perm (KR ic E);refine(apa dh (vL.pop gh bm ic E) (by rw[AT];omega) (by rw[AT];omega) I qj Wa r9 aG uU).mono ?_;rintro r V bH ⟨A,db,nv,B,uC,D⟩;have e9:=D.2;rw[agO awF,zk];have M:=B.length_eq;rw[AT]at M;have ok2:mB V ao A:=(I.T λc aU=>D.1 c J J).perm B;refine(apb (n:=n) db J J J J ok2).mono ?_;rintro r aM _ ⟨B7,kj,rfl,uJ⟩;refine⟨B7,A.take n,kj,nv,?_,J,λc Z V aM=>by rw[uJ c J aM,D.1 c Z V,EF c V]⟩
 by_cases mJ:n=0
 ·subst mJ;rw[tV];have:W=[p]:=by
   match W,bm,ic with
   | [a],_,h=>grind
  rw[this]
 have aR:A[n]? = some p:=by rw[uC,GV ic E J,if_pos rfl]
 have jF:A=A.take n++[p]:=by
  have Z:A.take (n+1)=A.take n++[p]:=by rw[gQ,aR];rfl
  grind
 have P:(p::A.take n).Perm (A.take n++[p]):=(List.perm_append_comm  (l₂:=[p])).symm;rw[<-jF]at P;exact(P.trans B).trans (KR ic E)
def mS{aA:Type}(h:ad)(U:Nat)(v:X)(enc:aA->aa X)(k:Nat)(l:aa aA):Prop :=
 ∃a c,v = .slice a l.length c/\(l≠[]->∃b o aO bC cs,b<U/\a=some ⟨b,o,aO⟩/\aO≠some 0/\l.length<=c/\u h b=some (.cells cs bC)/\o+l.length*k<=cs.length/\(cs.drop o).take (l.length*k)=a1 enc l)
section
variable {aA:Type} {h ac:ad} {U Y k:Nat} {v:X} {enc:aA->aa X} {l:aa aA}
theorem mS.o(H:mS h U v enc k l):eu h U v enc k l:=by obtain⟨a,c,e,H⟩:=H;exact⟨a,c,e,λg=>ab⟩
theorem mS.T(H:mS h U v enc k l)(B:∀c,c<U->u ac c=u h c)(g:U<=Y):mS ac Y v enc k l:=by obtain⟨a,c,e,H⟩:=H;exact⟨a,c,e,λA=>ab⟩
theorem dX.c{ao ai:Nat}(D:0<k)(g:∀x,(enc x).length=k)(H:dX h v enc k l ao ai):mS h ai v enc k l:=by
 rcases H with⟨rfl,rfl⟩|⟨b,E,B,rfl,A⟩
 ·exact⟨_,_,rfl,λh=>absurd rfl h⟩
 ·exact⟨_,_,rfl,λ_=>⟨b,0,some k,false,_,B,rfl,ab,J,A,by rw[ga g];omega,by rw[nO,pT (by rw[ga g];omega)]⟩⟩
theorem mS.tail{x:aA}(hk:∀x,(enc x).length=k)(H:mS h U v enc k (x::l)):∃w,iY k v (some (.int .i64 1)) none none = .ok w/\mS h U w enc k l:=by
 obtain⟨a,c,rfl,H⟩:=H;obtain⟨b,o,aO,bC,cs,h1,rfl,D,V,E,P,B⟩:=H (by simp);have g:(x::l).length=l.length+1:=rfl;rw[g]at V P B;show ∃w,iY k (.slice (some ⟨b,o,aO⟩) (l.length+1) c) (some (.int .i64 1)) none none = .ok w/\_;have e:iY k (.slice (some ⟨b,o,aO⟩) (l.length+1) c) (some (.int .i64 1)) none none=oD k (some ⟨b,o,aO⟩) c false c (l.length+1) 1:=rfl;rw[e];clear e;unfold oD;rw[show(Nat.ble c c&&(Nat.ble (l.length+1) c&&Nat.ble 1 (l.length+1)))=true by simp;omega];unfold vI
 by_cases e:c=1
 ·have M:l=[]:=by
   cases l with
   |nil=>rfl
   |cons y l=>grind
  subst M;subst e;unfold lp AO xL MK;cases aO with
  |none=>exact⟨.slice (GJ (some ⟨b,o,none⟩) 0 false) 0 0,by simp,_,_,rfl,λh=>absurd rfl h⟩
  |some q =>
   cases q with
   |zero=>exact absurd rfl D
   |succ q=>exact⟨.slice (some ⟨b,o,some 0⟩) 0 0,by simp,_,_,rfl,λh=>absurd rfl h⟩
 ·have A:Nat.beq c 1=false:=by
   cases A:Nat.beq c 1 with
   |true=>exact absurd (g4 A) e
   |false=>rfl
  rw[A];refine⟨_,rfl,some ⟨b,o+1*k,aO⟩,c-1,rfl,λZ=>⟨b,_,aO,bC,cs,h1,rfl,D,J,E,?_,?_⟩⟩
  ·grind
  ·rw[yN,tX]at B;have I:(cs.drop o).take (l.length*k+k)=enc x++a1 enc l:=B;have hR:((cs.drop o).drop k).take (l.length*k)=a1 enc l:=by
    have:=congrArg (λz=>z.drop k) I
    grind
   rw[tX,<-yK];omega
end
theorem alP{s:ak}{l:aa (Nat × Int)}{v:X}{h:ad}{U:Nat}(P:eu h U v eA 3 l)(bg:l.length<1000000)(eb:l.Pairwise λx y=>x.1<y.1):aD Q s 327 [v] h U (fm (.bool true) U h):=by
 refine anA ?_;unfold adg;obtain⟨bp,cap,rfl,aU⟩:=id P;refine aB ?_;refine bq.mk (λm aE ac Y=>∃i,m=l.length-i/\i<=l.length/\aE=[.slice bp l.length cap,.bool false,(l.length:X),(i:X)]/\ac=h/\Y=U) l.length ⟨0,J,J,rfl,rfl,rfl⟩ ?_;rintro _ _ al bH ⟨i,rfl,ai,rfl,gG,eL⟩;rw[ak0,gG,eL];unfold ZO;refine aB ?_;refine⟨λci=>?_,λeh=>⟨rfl,rfl,rfl⟩⟩;obtain⟨b,o,aO,bC,cs,I,aG,Z,a5,g⟩:=P.all (λ_=>rfl) ab;cases Z;have fin:∃V,V<l.length-i/\∃A,V=l.length-A/\A<=l.length/\[Value.slice (some ⟨b,o,aO⟩) l.length cap,.bool false,(l.length:X),.int .i64 (IntKind.wrap .i64 ((i:Int)+1))]=[.slice (some ⟨b,o,aO⟩) l.length cap,.bool false,(l.length:X),(A:X)]:=⟨_,J,i+1,rfl,J,by rw[cn J]⟩
 refine⟨λbv=>?_,λ_=>fin⟩;obtain⟨j,rfl⟩:∃j,i=j+1:=⟨i-1,J⟩
 obtain⟨p,D⟩:=dk (l:=l) (i:=j) J;obtain⟨q,E⟩:=dk   J;have M:=(g j p D).2 0 _ J rfl;have c2:=(g (j+1) q E).2 0 _ J rfl;rw[m9]at M c2;have B:p.1<q.1:=by
  rw[yE]at eb
  grind
 have b0:IntKind.wrap .i64 (((j+1:Nat):Int)-1)=(j:Int):=by rw[po];omega
 refine j6 @b0 @a5 @M @c2 ?_;exact⟨λh=>absurd B h,λ_=>fin⟩
def MC(v:X)(w:Nat)(l:aa (Nat × Int)):e6:=⟨v,w,(((l.getD 0 (0,0)).1:Nat):Int)*1000+(w:Int),l.length-1,l⟩
def zX(h:ad)(ao:Nat)(x:e6):Prop:=mS h ao x.v eA 3 x.l/\x.l≠[]/\x.w<1000/\x=MC x.v x.w x.l/\x.l.Pairwise λa b=>a.1<b.1
theorem zX.T{h ac:ad}{ao:Nat}{x:e6}(H:zX h ao x)(g:∀c,c<ao->u ac c=u h c):zX ac ao x:=⟨H.1.T g J,H.2⟩
theorem zX.ok{h:ad}{ao:Nat}{x:e6}(H:zX h ao x):v5 h ao x:=by
 obtain⟨M,A,I,e,_⟩:=H;obtain⟨b,o,aO,bC,cs,cap,E,P,B,g⟩:=M.o.all (λ_=>rfl) A;cases D:x.l with
 |nil=>exact absurd D A
 |cons p l =>
  have Z:=(g 0 p ab).2 0 _ J rfl;have V:x.n=l.length:=by rw[e];show x.l.length-1=_;grind
  have b0:x.k=(p.1:Int)*1000+(x.w:Int):=by rw[e];show(((x.l.getD 0 (0,0)).1:Nat):Int)*1000+(x.w:Int)=_;grind
  refine⟨b,o,aO,bC,cs,cap,p.1,?_,E,B,?_,b0,I⟩
  all_goals grind
def qe(h:ad)(ao:Nat)(W:aa e6):Prop:=∀x∈W,zX h ao x
theorem qe.ok{h:ad}{ao:Nat}{W:aa e6}(H:qe h ao W):mB h ao W:=λx g=>(H x g).ok
theorem qe.T{h ac:ad}{ao:Nat}{W:aa e6}(H:qe h ao W)(A:∀c,c<ao->u ac c=u h c):qe ac ao W:=λx g=>(H x g).T A
theorem qe.perm{h:ad}{ao:Nat}(H:qe h ao W)(p:dl.Perm W):qe h ao dl:=λx g=>H x ab
def left(W:aa e6):aa (Nat × Int):=W.flatMap (·.l)
theorem aac(h:dl.Perm W):(left dl).Perm (left W):=h.flatMap_right _
theorem apd:oF ([]:aa e6):=⟨ab⟩
def nw(h:ad)(v:X)(l:aa (Nat × Int))(aP:av Nat):Prop:=(l=[]/\v = .slice none 0 0/\aP=none)\/∃b,aP=some b/\v = .slice (some ⟨b,0,some 3⟩) l.length l.length/\u h b=some (.cells (a1 eA l) false)
theorem nw.T{h ac:ad}{v:X}{l:aa (Nat × Int)}{g:av Nat}(H:nw h v l g)(E:∀b,g=some b->u ac b=u h b):nw ac v l g:=by
 rcases H with H|⟨b,A,B,D⟩
 ·exact .inl H
 ·exact .inr ⟨b,A,B,ab⟩
theorem ad3{s:ak}{h:ad}{U cg ao w:Nat}{v:X}{l:aa (Nat × Int)}{bz:aa X}(H:v6 h cg bz W cV)(aG:∀b,cV=some b->ao<=b/\b<U)(I:cg<U)(M:ao<=cg)(B:ao<=U)(bg:W.length<1000)(gh:oF W)(eM:qe h ao W)(aI:mS h ao v eA 3 l)(bN:w<1000)(eb:l.Pairwise λa b=>a.1<b.1):
  aD Q s 328 [bb cg,v,(w:X)] h U (TA cg bz cV U h λdl=>oF dl/\(left dl).Perm (left W++l)/\dl.length<=W.length+1/\(∀ac,(∀c,c<ao->u ac c=u h c)->qe ac ao dl)):=by
 refine bS ?_;obtain⟨a,c,rfl,ND⟩:=id aI;refine aB ?_;refine⟨λwj=>?_,λdr=>?_⟩
 ·have eg:l≠[]:=ab
  have aR:zX h ao (MC (.slice a l.length c) w l):=⟨aI,eg,bN,rfl,eb⟩
  have g:qe h ao (W++[MC (.slice a l.length c) w l]):=λx P=>by
   rcases g6.1 P with A|A
   ·exact eM x A
   ·rw[iR.1 A];exact aR
  refine(apc  H aG I M B bg gh g.ok).mono ?_;rintro r A a6 ⟨dl,D,bj,⟨Z,E⟩,aY,aJ,ce⟩;refine⟨dl,D,bj,⟨Z,?_,?_,λac V=>(g.T V).perm E⟩,aY,aJ,ce⟩
  ·have:=aac E;unfold left at this ⊢;rw[JZ]at this;simpa[MC]using this
  ·rw[E.length_eq];simp
 ·have:l=[]:=by
   cases l with
   |nil=>rfl
   |cons p l=>grind
  subst this;refine⟨W,cV,H,⟨gh,by simp,J,λac V=>eM.T V⟩,ab,J,ab⟩
def HW(h:ad)(U ao cg:Nat)(r:Int)(W:aa e6)(O:aa (Nat × Int))(cV:av Nat):Prop:=∃out aP,v6 h cg [(r:X),out] W cV/\oF W/\qe h ao W/\nw h out O aP/\(∀b,cV=some b->ao<=b/\b<U)/\(∀b,aP=some b->ao<=b/\b<U/\b≠cg/\cV≠some b)
end Go.Proofs.YthlhhajnbgjfmaaGreat
