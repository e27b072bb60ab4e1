/- Parts of the proof: HwFn4: each statement bears its own conditions. -/
import Derived.Test.YthlhhajnbgjfmaaGreatRcHwFn3
namespace Go.Proofs.YthlhhajnbgjfmaaGreat
open Go Go.Ax
set_option linter.all false
set_option maxHeartbeats 1000000
set_option maxRecDepth 1000000
variable {s:al} {ag:aa GE} {c:Nat->X} {i:Nat} {aB:X} {aM R N:aR} {aC aY ah a2 bx:X} {b:Nat} {src len:Int} {v1 v2 v3 v4 cp gb:X} {cs:aa X} {P:Nat->Prop} {A B:aa Int} {t1:X} {p:aa GE} {K:bP} {cR ba kJ:X} {j:Nat} {g:GE} {bM:aa Int} {iE bN c4:X} {r a C:Nat} {a8 bQ:aw Addr} {low:Int} {jr jZ jK di:X} {ma:Int} {a3:X} {tT:Nat} {bJ:al} {b4:Nat} {mf:aw Nat} {st:Nat} {aO dE dZ fA:aw Nat} {aE bu:X} {m:Nat} {lim:Int} {o5:Nat->Prop} {dQ dB jz ly:aa Int} {gM w8 hr:Nat} {iA hC qz rs pK pL rt pM qA qB ru pI mP oT ml pN rv pO n1:X} {H:Nat} {y eB:Int} {j4 nA eo fS t3 ff t2:X} {HW bh c2 pl:Nat} {E:aR} {dK:Nat}
theorem Za{k:Int}{h:ae}{U:Nat}:aH Q s 220 [(k:X)] h U (fo (.bool (ln (k-1) 7)) U h):=by
 refine abb ?_;unfold QD;refine aF ?_;refine⟨λM=>?_,λM=>by rw[pq J];exact⟨rfl,rfl,rfl⟩⟩
 by_cases L:8<k
 ·rw[g4 L,pq J];exact⟨rfl,rfl,rfl⟩
 ·rw[hl L,k8 J];exact⟨rfl,rfl,rfl⟩
theorem abk{k:Int}{h:ae}{U:Nat}:aH Q s 292 [(k:X)] h U (fo (.bool (ln (k-1) 7)) U h):=by
 refine aue ?_;unfold ae3;refine aF ?_;refine⟨λM=>?_,λM=>by rw[pq J];exact⟨rfl,rfl,rfl⟩⟩
 by_cases L:8<k
 ·rw[g4 L,pq J];exact⟨rfl,rfl,rfl⟩
 ·rw[hl L,k8 J];exact⟨rfl,rfl,rfl⟩
theorem uu{n k:Nat}{h:ae}{U:Nat}(Z:n<=4096)(hk:0<k)(L:k<=8)(aj:i<=100000):aH Q s 126 [(n:X),(k:X),(i:X)] h U (fo (.int .i64 (c8 n k i:Int)) U h):=by
 refine at7 ?_;refine aua ?_;unfold aeZ;refine aF ?_;refine⟨λ_=>⟨λ_=>?_,λh=>absurd h J⟩,λh=>absurd h J⟩;refine Za.mono ?_;rintro _ _ _ ⟨rfl,rfl,rfl⟩;rw[k8 J];have aV:min (max (i:Int) 0) (k:Int)=((min i k:Nat):Int):=J
 have bl:min i k*n<=8*4096:=rU J Z;have M:IntKind.wrap .i64 (((min i k:Nat):Int)*(n:Int))=((min i k*n:Nat):Int):=by rw[show((min i k:Nat):Int)*(n:Int)=((min i k*n:Nat):Int) by omega];exact jE J J
 have bp:min i k*n / k<=min i k*n:=Nat.div_le_self _ _;have V:bin Q .quo 3 (((min i k*n:Nat):X)) (k:X) = .ok (.int .i64 (c8 n k i:Int)):=by rw[B9 J,show((min i k*n:Nat):Int).tdiv (k:Int)=((min i k*n / k:Nat):Int)from rfl];unfold c8;generalize min i k*n / k=q at bp ⊢;rw[jE J J]
 refine k7 @aV @zy @M @V ?_;exact⟨rfl,rfl,rfl⟩
theorem Py{c:Nat}{h:ae}{U:Nat}(Z:0<r)(M:r<=8)(V:0<c)(L:c<=8)(aj:i<r)(b1:j<c):aH Q s 202 [(r:X),(c:X),(i:X),(j:X)] h U (fo (.bool true) U h):=by refine at8 ?_;refine abk.mono ?_;rintro _ _ _ ⟨rfl,rfl,rfl⟩;rw[k8 J];refine aF ?_;refine abk.mono ?_;rintro _ _ _ ⟨rfl,rfl,rfl⟩;rw[k8 J];refine aF ?_;exact⟨λ_=>⟨λ_=>⟨λ_=>⟨ab,rfl,rfl⟩,λh=>absurd h J⟩,λh=>absurd h J⟩,λh=>absurd h J⟩
theorem BU{n k:Nat}{h:ae}{U:Nat}(V:n<=4096)(M:0<k)(L:k<=8)(aj:i<=10000):aH Q s 204 [(n:X),(k:X),(i:X)] h U (dC (.agg ⟨[.int .i64 (c8 n k i:Int),.int .i64 (c8 n k (i+1):Int)]⟩) U h):=by refine amZ ?_;unfold aa8;refine aF ?_;refine(uu V M L J).mono ?_;rintro _ _ _ ⟨rfl,rfl,rfl⟩;refine bg (cG (J:i<1000000000000)) ?_;refine(uu V M L J).mono ?_;rintro _ _ _ ⟨rfl,rfl,rfl⟩;refine aF ?_;exact⟨rfl,aK,J⟩
theorem Wr{n:Nat}{h:ae}{U:Nat}(V:a<=b)(Z:b<=n)(bH:n<=4096):aH Q s 294 [.agg ⟨[(a:X),(b:X)]⟩,(n:X)] h U (dC (.tuple ⟨[(a:X),((b-a:Nat):X)]⟩) U h):=by
 refine aj1 ?_;unfold Y6;have L:∀{o},aA U h (T h U o):=aK
 simp(disch:=omega)only[bn,show max (a:Int) 0=(a:Int) by omega,show min (b:Int) (n:Int)=(b:Int) by omega,seval];refine⟨λM=>?_,λM=>?_⟩
 ·have:b-a=0:=J
  rw[this];exact⟨rfl,L,J⟩
 ·rw[show IntKind.wrap .i64 ((b:Int)-(a:Int))=((b-a:Nat):Int) by rw[show(b:Int)-(a:Int)=((b-a:Nat):Int) by omega];exact jE J J];exact⟨rfl,L,J⟩
def kF{az:Type}(h:ae)(v:X)(enc:az->aa X)(k:Nat)(l:aa az)(P:Nat->Prop):Prop :=
 (l=[]/\v = .slice none 0 0)\/∃d,P d/\v = .slice (some ⟨d,0,some k⟩) l.length l.length/\u h d=some (.cells (bc enc l) false)
theorem kF.hU{az:Type}{h:ae}{v:X}{enc:az->aa X}{k:Nat}{l:aa az}(H:kF h v enc k l P):∃L,fQ h enc k v l L/\∀d,L=some d->P d:=by
 rcases H with⟨rfl,rfl⟩|⟨d,M,rfl,V⟩
 ·exact⟨none,.nil,λd e=>by cases e⟩
 ·exact⟨some d,.own V,λd e=>by cases e;exact M⟩
theorem kF.F{az:Type}{h ac:ae}{v:X}{enc:az->aa X}{k:Nat}{l:aa az}(H:kF h v enc k l P)(L:∀d,P d->u ac d=u h d/\o5 d):kF ac v enc k l o5:=by
 rcases H with e|⟨d,M,e,V⟩
 ·exact .inl e
 ·exact .inr ⟨d,(L d M).2,e,ab⟩
theorem kF.of{az:Type}{h:ae}{v:X}{enc:az->aa X}{k ao aj:Nat}{l:aa az}(H:d5 h v enc k l ao aj):kF h v enc k l λd=>ao<=d/\d<aj:=by
 rcases H with e|⟨d,V,L,e,M⟩
 ·exact .inl e
 ·exact .inr ⟨d,⟨V,L⟩,e,M⟩
theorem kF.at_{az:Type}{h:ae}{v:X}{enc:az->aa X}{k ao aj:Nat}{l:aa az}(H:kF h v enc k l P)(M:∀d,P d->ao<=d/\d<aj):d5 h v enc k l ao aj:=by
 rcases H with e|⟨d,V,e,L⟩
 ·exact .inl e
 ·exact .inr ⟨d,ab,ab,e,L⟩
theorem kF.form{az:Type}{h:ae}{v:X}{enc:az->aa X}{k:Nat}{l:aa az}(H:kF h v enc k l P):∃a c,v = .slice a l.length c:=by
 rcases H with⟨rfl,rfl⟩|⟨d,_,rfl,_⟩
 ·exact⟨_,_,rfl⟩
 grind
theorem JL{az:Type}{enc:az->aa X}{k:Nat}(hk:∀x,(enc x).length=k)(L:∀x,ea (enc x)=true)(Z:0<k){h:ae}{U:Nat}{v:X}{l:aa az}(H:kF h v enc k l P)(V:o5 U){dO M:Nat}(x:az)(ar:u h b4=some (.cells cs bJ))(a1:(cs.drop dO).take k=enc x)(jH:(l.length+1)*k<=1000000){K:X->ae->Nat->Prop}(ht:∀dN ac,kF ac dN enc k (l++[x]) o5->(∀c,c≠U->¬P c->u ac c=u h c)->K dN ac (U+1)):dG (dX (dT k h U v (.slice (some ⟨b4,dO,mf⟩) 1 M))) K:=by obtain⟨aU,kt,aT⟩:=H.hU;refine xD hk L Z kt x ar a1 jH λac bH bK=>ht _ _ (.inr ⟨U,V,ab,bH⟩) ab
def ayi(cp Hk a H b W:Nat)(ag:aa GE)(ao:Nat)(au:ae)(m:Nat)(aE:aa X)(ac:ae)(Y:Nat):Prop :=
 ∃(i:Nat) (o:X),m=H-i/\i<=H/\aE=[bd cp,bd Hk,(a:X),(H:X),(b:X),(W:X),o,(H:X),(i:X)]/\d5 ac o cW 3 (lE ag a i b W) ao Y/\aA ao au ac/\ao<=Y
def yC(l:aa GE)(i b W:Nat):aa GE:=(l.filter (yg b W)).map λg=>⟨i,g.t-b,g.w⟩
def RS(cp Hk a H b W i:Nat)(dp:X)(pre l:aa GE)(ao dH fT:Nat)(au b3:ae)(m:Nat)(aE:aa X)(ac:ae)(Y:Nat):Prop :=
 ∃(k:Nat) (o:X),m=l.length-k/\k<=l.length/\aE=[bd cp,bd Hk,(a:X),(H:X),(b:X),(W:X),o,(i:X),(H:X),(i:X),dp,(l.length:X),(k:X)] /\
  kF ac o cW 3 (pre++yC (l.take k) i b W) (λd=>ao<=d/\d<Y/\¬(dH<=d/\d<fT))/\(∀d,dH<=d->d<fT->u ac d=u b3 d)/\aA ao au ac/\fT<=Y
theorem ard(l:aa GE)(i b W:Nat):(yC l i b W).length<=l.length:=by unfold yC;grind
theorem Zb{l:aa GE}{k W:Nat}(h:l[k]? = some g):yC (l.take (k+1)) i b W=yC (l.take k) i b W++(if yg b W g=true then[⟨i,g.t-b,g.w⟩]else[]):=by
 unfold yC;rw[hx,h,t6,iF]
 grind
theorem are{c eg cd:Nat}{v:X}{h:ae}{U:Nat}(M:g8 r c ag)(aJ:kc h U v r c ag)(haa:a<=eg)(har:eg<=r)(ym:b<=cd)(rx:cd<=c):
  aH Q s 203 [v,.agg ⟨[(a:X),(eg:X)]⟩,.agg ⟨[(b:X),(cd:X)]⟩] h U (QG (eg-a) (cd-b) (lE ag a (eg-a) b (cd-b)) U h):=by
 refine at9 ?_;have hp:=aJ;obtain⟨fB,aO,cap,v2,v3,rfl,aT,a6,pZ,o4⟩:=id aJ;obtain⟨a2,c2,rfl⟩:=pZ.form;obtain⟨a3,ci,rfl⟩:=o4.form;have a5:=M.a5;have aZ:=M.aZ;have bb:=M.len;have bZ:∀{o aX kZ fZ},aA U h (T (T (T (T h U o) (U+1) aX) (U+1+1) kZ) (U+1+1+1) fZ):=aK
 unfold aeY;refine aF ?_;refine(Fg M (hp.F bZ J)).mono ?_;rintro _ h1 bh ⟨rfl,d9,fy⟩;have cv:=d9 U J;rw[aq J,aq J,aq J,aS]at cv;have bB:=d9 (U+1) J;rw[aq J,aq J,aS]at bB;have g2:=d9 (U+1+1) J;rw[aq J,aS]at g2;have dj:=d9 (U+1+1+1) J;rw[aS]at dj;refine cL @cv @bB ?_;refine(Wr haa har a5).mono ?_;rintro _ ar bX ⟨rfl,ei,eZ⟩;have kr:=ei U J;rw[aS]at kr;have gj:=ei (U+1+1) J;rw[aq J,g2]at gj;have mu:=ei (U+1+1+1) J;rw[aq J,dj]at mu;refine cL @kr @gj ?_;refine(Wr ym rx aZ).mono ?_;rintro _ aL bS ⟨rfl,e8,gA⟩;have aM:=(e8 U J).trans kr;have ch:=(e8 (U+1+1+1) J).trans mu;refine aF ?_;generalize fJ:eg-a=H;generalize jy:cd-b=W;have hHr:a+H<=r:=J
 have hWc:b+W<=c:=J
 have fW:∀i,i<=H->(lE ag a i b W).length<=120:=λi aj=>(JK M J hWc).len;refine bD.mk (ayi U (U+1+1+1) a H b W ag bS aL) H ⟨0,_,rfl,J,rfl,by rw[auh];exact .inl ab,aK,J⟩ ?_;rintro _ _ bm dH ⟨i,o,rfl,aj,rfl,dI,fP,ir⟩;rw[aqV];unfold aa7;have g0:=(fP U J).trans aM;have gt:=(fP (U+1+1+1) J).trans ch;have gR:aA U h bm:=aK
 refine aF ?_;refine⟨λcA=>?_,λeN=>?_⟩
 ·have dc:IntKind.wrap .i64 ((a:Int)+(i:Int))=((a+i:Nat):Int):=by rw[show(a:Int)+(i:Int)=((a+i:Nat):Int) by omega];exact jE J J
  refine cL @g0 @dc ?_;refine(arb M (hp.F gR J) J).mono ?_;rintro rw b3 fT ⟨dW,hq,oJ⟩;have Hi:=Px ag (a+i);obtain⟨k3,b0,rfl⟩:∃k3 b0,rw = .slice k3 (eM ag (a+i)).length b0:=by
   rcases dW with⟨aV,aP⟩|⟨b,_,_,e,_⟩
   all_goals grind
  have rr:kF b3 o cW 3 (lE ag a i b W) (λd=>bS<=d/\d<fT/\¬(dH<=d/\d<fT)):=(kF.of dI).F λd L=>⟨hq d L.2,L.1,J,J⟩
  refine aF ?_;refine bD.mk (RS U (U+1+1+1) a H b W i (.slice k3 (eM ag (a+i)).length b0) (lE ag a i b W) (eM ag (a+i)) bS dH fT aL b3) (eM ag (a+i)).length ⟨0,_,J,J,rfl,by rw[t8];unfold yC;rw[List.filter_nil,zd,hZ];exact rr,ab,aK,J⟩ ?_;generalize oM:eM ag (a+i)=l at *
  generalize Sm:lE ag a i b W=pre at *
  rintro _ _ cF Z ⟨k,nv,rfl,hk,rfl,wO,hr6,hM,lD⟩;rw[aqU];unfold aa6;refine aF ?_;refine⟨λDd=>?_,λayj=>?_⟩
  ·obtain⟨g,V⟩:=d1 (J:k<l.length);have u2:g.t<c:=M.l9 g (Oy (show g∈eM ag (a+i) by grind)).1;have lG:=ard (l.take k) i b W;rw[p3]at lG;have fin:∀{aX:X} {eE:ae} {n7:Nat},kF eE aX cW 3 (pre++yC (l.take (k+1)) i b W) (λd=>bS<=d/\d<n7/\¬(dH<=d/\d<fT))->(∀d,d<Z->(bS<=d->dH<=d/\d<fT)->u eE d=u cF d)->Z<=n7 ->
     ∃bC,bC<l.length-k/\RS U (U+1+1+1) a H b W i (.slice k3 l.length b0) pre l bS dH fT aL b3 bC [bd U,.pointer (some ⟨U+1+1+1,0,none⟩),(a:X),(H:X),(b:X),(W:X),aX,(i:X),(H:X),(i:X),.slice k3 l.length b0,(l.length:X),((k+1:Nat):X)] eE n7:=λ{aX eE n7} w9 bK dR =>
    ⟨l.length-(k+1),J,k+1,aX,rfl,J,rfl,w9,λd h1 ar=>ab,λd L=>by rw[bK d J (λh=>absurd h J)];exact hM d L,J⟩
   have skip:yg b W g=false->∀{eE:ae},(∀d,d<Z->u eE d=u cF d)->∃bC,bC<l.length-k/\RS U (U+1+1+1) a H b W i (.slice k3 l.length b0) pre l bS dH fT aL b3 bC [bd U,.pointer (some ⟨U+1+1+1,0,none⟩),(a:X),(H:X),(b:X),(W:X),nv,(i:X),(H:X),(i:X),.slice k3 l.length b0,(l.length:X),((k+1:Nat):X)] eE (Z+1):=λaj {eE} bK =>
    fin (by rw[Zb V,if_neg ab,hZ];exact wO.F λd L=>⟨bK d L.2.1,L.1,J,L.2.2⟩) (λd L _=>bK d L) J
   rcases dW with⟨aV,_⟩|⟨rM,ig,fw,e,hrb⟩
   ·rw[aV]at V;cases V
   cases e;have ayk:=(hr6 rM ig fw).trans hrb;simp(disch:=omega)only[bn,ayk,DE (enc:=Gh) (k:=2) (λ_=>rfl) V,Gh,seval];have gj:∀{o aX:gh} {d:Nat},d<Z->u (T (T cF Z o) Z aX) d=u cF d:=λL=>ab
   unfold Ps;refine⟨λh1=>?_,λh1=>?_⟩
   ·have db:IntKind.wrap .i64 ((g.t:Int)-(b:Int))=((g.t-b:Nat):Int):=by rw[show(g.t:Int)-(b:Int)=((g.t-b:Nat):Int) by omega];exact jE J J
    refine bg @db ?_;refine⟨λar=>?_,λar=>?_⟩
    ·refine JL  (k:=3) (o5:=λd=>bS<=d/\d<Z+1+1+1/\¬(dH<=d/\d<fT)) (λ_=>rfl) (λ_=>rfl) J (wO.F (o5:=λd=>bS<=d/\d<Z/\¬(dH<=d/\d<fT)) λd L=>⟨ab,L.1,L.2.1,L.2.2⟩) ⟨J,J,J⟩ (⟨i,g.t-b,g.w⟩:GE) (aS _ _ _) rfl ab λdN rP w9 hf8=>?_;refine bg (cG (J:k<1000000000000)) ?_;refine fin ?_ (λd aL bm=>?_) J
     ·rw[Zb V,if_pos (show yg b W g=true from g4 J),<-kv];exact w9
     grind
    ·refine bg (cG (J:k<1000000000000)) ?_;exact skip (hl J) λd L=>gj L
   ·refine bg (cG (J:k<1000000000000)) ?_;exact skip (hl J) λd L=>gj L
  ·have:k=l.length:=J
   subst this;rw[iQ]at wO;refine bg (cG (J:i<1000000000000)) ?_;refine⟨H-(i+1),J,i+1,_,rfl,J,rfl,?_,hM,J⟩;rw[aj3 M.up,Sm];unfold RR;rw[oM];exact wO.at_ λd L=>⟨L.1,L.2.1⟩
 ·have:i=H:=J
  subst this;have sy:ft bm dH o cW (lE ag a i b W):=by
   rcases dI with⟨aV,aP⟩|⟨d,h1,ar,e,a6⟩
   ·exact⟨none,0,ab,λe0=>absurd aV e0⟩
   ·exact⟨_,_,e,λ_=>⟨d,some 3,false,[],ar,rfl,ab⟩⟩
  refine(Oz sy (JK M hHr hWc)).mono ?_;rintro aAD b3 fT ⟨dW,hq,oJ⟩;obtain⟨rM,rsp,agh,ct,cB,co,de,ep,ey,rfl⟩:=dW.is.form;have gc:=(hq (U+1+1+1) J).trans gt;refine bg @gc ?_;have mW:aA U h b3:=gR.trans hq J;exact⟨dW.F (λd h1 ar=>aq J) J (cD _),mW.set J,J⟩
theorem aui{n R:Nat}{v:X}{h:ae}{U:Nat}(M:g8 n n ag)(aJ:kc h U v n n ag)(dW:0<R)(Z:R<=8)(ed:0<C)(L:C<=8)(aj:i<R)(b1:j<C):
  aH Q s 123 [v,(R:X),(C:X),(i:X),(j:X)] h U (QG (c8 n R (i+1)-c8 n R i) (c8 n C (j+1)-c8 n C j) (lE ag (c8 n R i) (c8 n R (i+1)-c8 n R i) (c8 n C j) (c8 n C (j+1)-c8 n C j)) U h):=by
 refine aws ?_;have hp:=aJ;obtain⟨fB,aO,cap,v2,v3,rfl,aT,a6,pZ,o4⟩:=id aJ;obtain⟨a2,c2,rfl⟩:=pZ.form;obtain⟨a3,ci,rfl⟩:=o4.form;have a5:=M.a5;have bZ:∀{o aX},aA U h (T (T h U o) (U+1) aX):=aK
 unfold agc;refine aF ?_;refine(IX M (hp.F bZ J)).mono ?_;rintro _ h1 bh ⟨rfl,d9,fy⟩;have cv:=d9 U J;rw[aq J,aS]at cv;have bB:=d9 (U+1) J;rw[aS]at bB;refine aF ?_;refine(Py dW Z ed L aj b1).mono ?_;rintro _ _ _ ⟨rfl,rfl,rfl⟩;refine aF ?_;unfold QB;refine bg @cv ?_;refine(BU   a5 dW Z J).mono ?_;rintro _ ar bX ⟨rfl,ei,eZ⟩;have kr:=(ei U J).trans cv;have fF:=(ei (U+1) J).trans bB;refine⟨eZ,?_⟩;refine cL @kr @cv ?_;refine(BU   a5 ed L J).mono ?_;rintro _ aL bS ⟨rfl,e8,gA⟩;have aM:=(e8 U J).trans kr;have aV:=(e8 (U+1) J).trans fF;refine⟨gA,?_⟩;have fI:aA U h aL:=aK
 refine hK @aM @kr @cv ?_;refine(are  M (hp.F fI J) (ui J) (s6 dW _) (ui J) (s6 ed _)).mono ?_;rintro aAD bm dH ⟨hRr,fP,V⟩;refine⟨V,?_⟩;obtain⟨rM,rsp,agh,ct,cB,co,de,ep,ey,rfl⟩:=hRr.is.form;have fr:=(fP (U+1) J).trans aV;refine bg @fr ?_;exact⟨hRr.F ab J J,aK,J⟩
def ayl(p r:Nat)(ag:aa GE)(ao:Nat)(au:ae)(m:Nat)(aE:aa X)(ac:ae)(Y:Nat):Prop :=
 ∃(i:Nat) (o:X),m=r-i/\i<=r/\aE=[bd p,o,(r:X),(i:X)]/\d5 ac o cW 3 (ag.take (dA ag i)) ao Y/\aA ao au ac/\ao<=Y
def aym(p r i n:Nat)(dp fB:X)(ag:aa GE)(ao:Nat)(au:ae)(m:Nat)(aE:aa X)(ac:ae)(Y:Nat):Prop :=
 ∃(k:Nat) (o:X),m=n-k/\k<=n/\aE=[bd p,o,(i:X),fB,(r:X),(i:X),dp,(n:X),(k:X)]/\d5 ac o cW 3 (ag.take (dA ag i+k)) ao Y/\aA ao au ac/\ao<=Y
def awA(ag:aa GE)(U:Nat)(h:ae):bP:=λres ac Y=>d5 ac res cW 3 ag U Y/\aA U h ac/\U<=Y
theorem VV{c:Nat}{v:X}{h:ae}{U:Nat}(M:g8 r c ag)(aJ:kc h U v r c ag):aH Q s 206 [v] h U (awA ag U h):=by
 refine aih ?_;have hp:=aJ;obtain⟨fB,Te,lW,a2,m2,c2,a3,m3,ci,rfl⟩:=aJ.form;have a5:=M.a5;have bb:=M.len;have bZ:∀{o},aA U h (T h U o):=aK
 unfold Xs;refine aF ?_;refine(Fg M (hp.F bZ J)).mono ?_;rintro _ h1 bh ⟨rfl,d9,fy⟩;have bB:=d9 U J;rw[aS]at bB;refine bg @bB ?_;refine bD.mk (ayl U r ag bh _) r ⟨0,_,J,J,rfl,by rw[Kp,t8];exact .inl ab,aA.refl _ _,J⟩ ?_;rintro _ _ aL bS ⟨i,o,rfl,aj,rfl,dI,e8,gA⟩;have dj:=e8 U J;rw[aS]at dj;have fI:aA U h aL:=aK
 rw[ahC];unfold VU;refine aF ?_;refine⟨λcA=>?_,λeN=>?_⟩
 ·have cA:i<r:=J
  refine bg @dj ?_;refine(Y8 M (hp.F fI (cD _)) J cA).mono ?_;rintro _ bm dH ⟨db,i3,rfl,UM,Bh,Z,ir⟩;obtain⟨jN,cB,rfl,_⟩:=id UM;obtain⟨hE,co,rfl,_⟩:=id Bh;have sK:=Ci (eM ag i);have vp:=FG (eM ag i);rw[sK]at UM;rw[vp]at Bh;rw[sK,vp];have Hi:=Ff M.up i;have iY:=zs ag (J:i<=i+1);have az2:=uC ag (i+1);refine aF ?_;refine bD.mk (aym U r i (eM ag i).length (.slice jN (eM ag i).length cB) (.slice hE (eM ag i).length co) ag bh (T h1 U _)) (eM ag i).length ⟨0,_,J,J,rfl,dI.F (λd ii jN=>Z d jN) ir,e8.trans Z gA,J⟩ ?_;rintro _ _ b3 fT ⟨k,o,rfl,hk,rfl,rr,V,oJ⟩;rw[ahB];unfold VT;refine aF ?_;refine⟨λDd=>?_,λayj=>?_⟩
  ·obtain⟨g,L⟩:=d1 J;obtain⟨b4,dO,mU,wG,yB,fw,rfl,jq,ayn⟩:=UM.at (JI L)
   obtain⟨dZ,fZ,kH,Hj,AV,n0,rfl,qw,ayo⟩:=Bh.at (JJ L)
   have hgf:g.f=i:=(Oy (k4 L)).2;have hg:ag[dA ag i+k]? = some g:=by rw[<-Ox M.up J];omega
   have aP:u b3 b4=some (.cells yB wG):=by rw[<-jq,V b4 J,Z b4 J,e8 b4 J]
   have ch:u b3 dZ=some (.cells AV Hj):=by rw[<-qw,V dZ J,Z dZ J,e8 dZ J]
   simp(disch:=omega)only[bn,aP,ayn k _ (JI L),ch,ayo k _ (JJ L),seval];refine l4 (enc:=cW)  (λ_=>rfl) (λ_=>rfl) J (rr.F ab J) J (⟨i,g.t,g.w⟩:GE) (aS _ _ _) rfl ab λdN cF wO hM=>?_;refine bg (cG (J:k<1000000000000)) ?_;refine⟨(eM ag i).length-(k+1),J,k+1,_,rfl,J,rfl,?_,λd bp=>?_,J⟩
   ·rw[show dA ag i+(k+1)=dA ag i+k+1 by omega,hx,hg];have qH:(⟨i,g.t,g.w⟩:GE)=g:=by rw[<-hgf]
    rw[qH]at wO;exact wO
   ·rw[hM d bp,aq J];exact V d bp
  ·have:k=(eM ag i).length:=J
   subst this;rw[Hi,show dA ag i+(dA ag (i+1)-dA ag i)=dA ag (i+1) by omega]at rr;refine bg (cG (J:i<1000000000000)) ?_;exact⟨r-(i+1),J,i+1,_,rfl,J,rfl,rr,V,oJ⟩
 ·have:i=r:=J
  subst this;rw[ae7 M,iQ]at dI;refine⟨?_,fI,J⟩;rcases dI with e|⟨b,h1,ar,aL⟩
  ·exact .inl e
  ·exact .inr ⟨b,J,ar,aL⟩
def zM(ag fj:aa GE):Prop:=fj.Perm (ag.map oF)
theorem aj4{c:Nat}(M:g8 r c ag):(ag.map oF).Pairwise λx y=>¬(x.f=y.f/\x.t=y.t):=by rw[xj];refine List.Pairwise.imp (λ{x y} h=>?_) M.up;unfold mM at h;show ¬(x.t=y.t/\x.f=y.f);omega
theorem arf{c:Nat}{L:aa GE}(M:g8 r c ag)(V:zM ag L)(ap:L.Pairwise λx y=>¬qp y x<0):g8 c r L where
 up:=by have bp:L.Pairwise λx y=>¬(x.f=y.f/\x.t=y.t):=(List.Perm.pairwise_iff J V).2 (aj4 M);refine List.Pairwise.imp₂ (λ{x y} h1 ar=>?_) ap bp;rw[JG]at h1;unfold mM at h1 ⊢;omega
 rows:=λg a6=>by obtain⟨x,Z,rfl⟩:=f0.1 (V.mem_iff.1 a6);exact M.l9 x Z
 l9:=λg a6=>by obtain⟨x,Z,rfl⟩:=f0.1 (V.mem_iff.1 a6);exact M.rows x Z
 a5:=M.aZ
 aZ:=M.a5
 len:=by rw[V.length_eq,gH];exact M.len
def qs(ag:aa GE)(i:Nat):aa GE:=(ag.take i).map oF++ag.drop i
theorem Zc:(qs ag i).length=ag.length:=by unfold qs;grind
theorem anb(h:i<=ag.length):(qs ag i)[i]? = ag[i]?:=by
 unfold qs
 grind
theorem ane(h:ag[i]? = some g):(qs ag i).set i (oF g)=qs ag (i+1):=by
 have aj:=(hY.1 h).1;have L:((ag.take i).map oF).length=i:=ab
 unfold qs;rw[Ik _ _ J,L,BK,hx,h,iF,kv]
 congr 1
 rw[Bw aj];rfl
def TuJ(cp cR ao aj:Nat)(w:X)(ag:aa GE)(au:ae)(a0:Nat)(m:Nat)(aE:aa X)(ac:ae)(Y:Nat):Prop :=
 ∃i,m=ag.length-i/\i<=ag.length/\aE=[bd cp,bd cR,w,w,(ag.length:X),(i:X)]/\d5 ac w cW 3 (qs ag i) ao aj/\aA ao au ac/\a0<=Y
theorem arh{l:aa GE}{w:X}{h:ae}{U ao aj:Nat}(dI:d5 h w cW 3 l ao aj)(fm:aj<=U)(bb:l.length<=120):
  aH Q s 297 [w,.func (.func 298) #[] #[]] h U (λ_ ac Y=>∃L,L.Perm l/\L.Pairwise (λx y=>¬qp y x<0)/\d5 ac w cW 3 L ao aj/\aA ao h ac/\U<=Y):=by
 rcases dI with⟨rfl,rfl⟩|⟨b,h1,ar,rfl,a6⟩
 ·exact amI ⟨[],BH _,List.Pairwise.nil,.inl ab,aK,J⟩
 ·refine(aqD rfl J J a6).mono ?_;rintro _ ac Y ⟨V,⟨L,Z,ap,M⟩,bK⟩;exact⟨L,Z,ap,.inr ⟨b,h1,ar,by rw[Z.length_eq],M⟩,aK,V⟩
def awB(r c:Nat)(ag:aa GE)(U:Nat)(h:ae):bP:=λv ac Y=>∃fj,zM ag fj/\g8 c r fj/\vY ac U Y v c r fj/\aA U h ac/\U<=Y
theorem anf{c:Nat}{v:X}{h:ae}{U:Nat}(M:g8 r c ag)(aJ:kc h U v r c ag):aH Q s 207 [v] h U (awB r c ag U h):=by
 refine aqX ?_;have hp:=aJ;obtain⟨fB,Te,lW,a2,m2,c2,a3,m3,ci,rfl⟩:=aJ.form;have bb:=M.len;have bZ:∀{o aX},aA U h (T (T h U o) (U+1) aX):=aK
 unfold ads;refine aF ?_;refine(Fg M (hp.F bZ J)).mono ?_;rintro _ h1 bh ⟨rfl,d9,fy⟩;have cv:=d9 U J;rw[aq J,aS]at cv;have bB:=d9 (U+1) J;rw[aS]at bB;refine bg @cv ?_;have eA:∀{o},aA U h (T h1 U o):=aK
 refine(VV M ((hp.F eA (cD _)).F (aA.refl _ _) J)).mono ?_;rintro w ar bX ⟨dI,ei,eZ⟩;have kr:=ei U J;rw[aS]at kr;have fF:=ei (U+1) J;rw[aq J,bB]at fF;obtain⟨nu,oe,rfl⟩:=(kF.of dI).form;refine aF ?_;refine bD.mk (TuJ U (U+1) bh bX (.slice nu ag.length oe) ag ar bX) ag.length ⟨0,J,J,rfl,by exact dI,aK,J⟩ ?_;rintro _ _ aL bS ⟨i,rfl,aj,rfl,hS3,V,gA⟩;rw[am0];unfold Y1;refine aF ?_;refine⟨λcA=>?_,λeN=>?_⟩
 ·obtain⟨g,a6⟩:=d1 J;have fW:(qs ag i).length=ag.length:=Zc;have Z:(qs ag i)[i]? = some g:=by rw[anb aj,a6]
  rcases hS3 with⟨e,_⟩|⟨b,ii,jN,e,oU⟩
  ·rw[e]at Z;cases Z
  ·rw[fW]at e;cases e;have bV:∀bk:ae,jY (some (.cells (bc cW (qs ag i)) false)) bk b (i*3) [(g.t:X),(g.f:X),(g.w:X)] = .ok (T bk b (.cells (bc cW ((qs ag i).set i (oF g))) false)):=λbk=>wrG (x:=oF g) J;simp(disch:=omega)only[bn,oU,DE (enc:=cW) (k:=3) (λ_=>rfl) Z,cW,bV,cG (J:i<1000000000000),seval];refine⟨ag.length-(i+1),J,i+1,rfl,J,rfl,.inr ⟨b,ii,jN,by rw[Zc],?_⟩,λd bp=>?_,J⟩
   ·rw[aS,ane a6]
   ·rw[aq J,aq J,aq J];exact V d bp
 ·have:i=ag.length:=J
  subst this;have Tf:d5 aL (.slice nu ag.length oe) cW 3 (ag.map oF) bh bX:=by
   have e:qs ag ag.length=ag.map oF:=by unfold qs;grind
   rw[<-e];exact hS3
  refine(arh Tf gA ab).mono ?_;rintro _ b3 fT ⟨L,bk,ap,rr,hq,oJ⟩;have tR:=arf M bk ap;have aM:u b3 U=some (.cells [(r:X),(c:X),.slice (some ⟨fB,0,Te⟩) (r+1) lW,.slice a2 m2 c2,.slice a3 m3 ci] false):=by rw[hq U J,V U J];omega
  have aV:=(hq (U+1) J).trans ((V (U+1) J).trans fF);refine bg @aM ?_;have sy:ft b3 fT (.slice nu ag.length oe) cW L:=by
   have rk:L.length=ag.length:=by rw[bk.length_eq,gH]
   rcases rr with⟨ii,jN⟩|⟨d,ii,jN,hE,sG⟩
   ·exact⟨nu,oe,ab,λe0=>absurd ii e0⟩
   ·rw[rk]at hE;cases hE;exact⟨_,_,by rw[rk],λ_=>⟨d,some 3,false,[],J,rfl,ab⟩⟩
  refine(Oz sy tR).mono ?_;rintro aAD cF n6 ⟨dW,hM,lD⟩;obtain⟨rM,rsp,agh,ct,cB,co,de,ep,ey,rfl⟩:=dW.is.form;have fr:=(hM (U+1) J).trans aV;refine bg @fr ?_;exact⟨L,bk,tR,dW.F ab J J,aK,J⟩
theorem ari{r:Int}{K:Nat->al}{f:Nat->aw Int}(Z:j<C)(M:K j=false):
  fi r ((List.range C).map λk=>if(if k=j then true else K k)=true then f k else none)=eY r (fi r ((List.range C).map λk=>if K k=true then f k else none)) (f j):=by
 have L:((List.range C).map λk=>if(if k=j then true else K k)=true then f k else none)=(List.range C).map λk=>eY r (if K k=true then f k else none) (if k=j then f k else none):=by
  refine o9 λk _=>?_
  by_cases e:k=j
  ·subst e;rw[if_pos rfl,if_pos rfl,if_pos rfl,M];rfl
  ·rw[if_neg e,if_neg e,qU]
 rw[L,Oa]
 congr 1
 clear L
 induction C with
 |zero=>omega
 |succ C V =>
  rw[p4,iF,E9];show eY r _ (eY r (if C=j then f C else none) none)=_;rw[qU]
  by_cases e:C=j
  ·subst e;rw[if_pos rfl,xw,ES]
   grind
  ·rw[if_neg e,qU];grind
def KO(r:Int)(ag:aa GE)(x:Nat->aw Int)(a H b W v:Nat):aw Int:=ip r (lE ag a H b W) (λk=>x (b+k)) v
theorem arj(r:Int)(ag:aa GE)(x:Nat->aw Int)(a H b W v:Nat)(L:v<H):
  KO r ag x a H b W v=fi r (ag.map λg=>if b<=g.t/\g.t<b+W then(if g.f=a+v then(x g.t).map (f3 r g.w)else none)else none):=by
 unfold KO ip lE;rw[ot,Ni];refine Jb λg _=>?_;unfold px
 grind
def zU(r:Int)(ag:aa GE)(x:Nat->aw Int)(a H C:Nat)(ao:Nat->Nat)(K:Nat->al)(v:Nat):aw Int :=
 fi r ((List.range C).map λj=>if K j=true then KO r ag x a H (ao j) (ao (j+1)-ao j) v else none)
theorem ang{r:Int}{x:Nat->aw Int}{ao:Nat->Nat}(v:Nat):zU r ag x a H C ao (λ_=>false) v=none :=
 xw λy L=>ab
theorem anh{r:Int}{x:Nat->aw Int}{ao:Nat->Nat}{K:Nat->al}(M:j<C)(L:K j=false)(v:Nat):
  zU r ag x a H C ao (λk=>if k=j then true else K k) v=eY r (zU r ag x a H C ao K v) (KO r ag x a H (ao j) (ao (j+1)-ao j) v):=ari M L
theorem aj5{r:Int}{x:Nat->aw Int}{n:Nat}{ao:Nat->Nat}{K:Nat->al}(M:∀i j,i<=j->ao i<=ao j)(L:ao 0=0)(ed:ao C=n)(ck:∀g∈ag,g.t<n)(Z:∀j,j<C->K j=true){v:Nat}(aJ:v<H):
  zU r ag x a H C ao K v=ip r ag x (a+v):=by
 have e:zU r ag x a H C ao K v=fi r ((List.range C).map λj=>fi r (ag.map λg=>if ao j<=g.t/\g.t<ao (j+1)then(if g.f=a+v then(x g.t).map (f3 r g.w)else none)else none)):=by
  unfold zU
  congr 1
  refine o9 λj V=>?_;rw[Z j (BJ.1 V),if_pos rfl,arj _ _ _ _ _ _ _ _ aJ]
  grind
 rw[e,Xf r _ (λg:GE=>g.t) ao M L];unfold ip;refine Jb λg a6=>?_
 grind
def s8(A:aa Nat)(g:GE):aa Nat:=if A.getLast? = some g.f then A else A++[g.f]
def dS(ag:aa GE):aa Nat:=ag.foldl s8 []
theorem Cj{az:Type}{C:aa az->Prop}(L:C [])(V:∀p g,C p->C (p++[g]))(p:aa az):C p:=by
 rw[<-List.reverse_reverse p]
 induction p.reverse with
 |nil=>exact L
 |cons x l M=>rw[List.reverse_cons];exact V _ _ M
theorem vL(p:aa GE)(g:GE):dS (p++[g])=s8 (dS p) g:=by unfold dS;grind
theorem Zd:∀(p:aa GE),(dS p).getLast? = p.getLast?.map GE.f:=by
 refine Cj rfl λp g L=>?_
 ·skip
  rw[vL,List.getLast?_append];unfold s8
  grind
theorem FH:∀(p:aa GE) (a:Nat),a∈dS p->∃g∈p,g.f=a:=by
 refine Cj (λa h=>by cases h) λp g L=>?_
 ·skip
  intro a h;rw[vL]at h;unfold s8 at h
  grind
theorem FI:∀(p:aa GE),(dS p).length<=p.length:=by
 refine Cj (cD _) λp g L=>?_
 ·skip
  rw[vL,jm];unfold s8
  grind
def gX(ag:aa GE):aa Int:=(dS ag).map (λa=>(dA ag a:Int))++[(ag.length:Int)]
def gC(ag:aa GE):aa Int:=(dS ag).map λa:Nat=>(a:Int)
theorem xG(ag:aa GE):(gX ag).length=(dS ag).length+1:=by unfold gX;grind
theorem FJ(ag:aa GE):(gC ag).length=(dS ag).length:=by unfold gC;grind
theorem zB(h:kK (p++[g])):∀x∈p,mM x g:=λx L=>(sS.1 h).2.2 x L g ab
theorem Ze(h:a<=g.f):dA (p++[g]) a=dA p a:=by
 unfold dA
 grind
theorem adC(h:kK (p++[g])):(dS p).map (λa=>(dA (p++[g]) a:Int))=(dS p).map λa=>(dA p a:Int):=by apply o9;intro a L;obtain⟨x,M,rfl⟩:=FH p a L;have:=zB h x M;unfold mM at this;rw[Ze J]
theorem ani(h:kK (p++[g]))(M:(dS p).getLast? = some g.f):(gX p).set (dS p).length ((p.length:Int)+1)=gX (p++[g]):=by
 have L:dS (p++[g])=dS p:=by rw[vL];unfold s8;grind
 unfold gX;rw[L,adC h,Ik _ _ ab,gH,BK,jm];simp
theorem ark(h:kK (p++[g]))(Z:(dS p).getLast?≠some g.f):(gX p++[0]).set ((dS p).length+1) ((p.length:Int)+1)=gX (p++[g]):=by
 have cY:dS (p++[g])=dS p++[g.f]:=by rw[vL];unfold s8;grind
 have M:dA (p++[g]) g.f=p.length:=by
  rw[Ze J];unfold dA;rw[y6.2];intro x L;apply g4;have cA:=zB h x L;apply vw;intro bH;rw[Zd]at Z;cases bb:p.getLast? with
  |none=>grind
  |some y =>
   rw[bb]at Z;have ce:y∈p:=ab
   have ar:=zB h y ce;unfold mM at ar;have hyf:¬y.f=g.f:=ab
   obtain⟨q,cM⟩:=Ii.1 bb;have V:=(sS.1 h).1;rw[cM]at V L;rcases hb.1 L with L|L
   ·have:=zB V x L;unfold mM at this;omega
   grind
 unfold gX;rw[cY,iF,adC h,Ik _ _ ab];rw[jm,gH,jm];simp[M]
theorem anj{h:ae}{U:Nat}:aH Q s 205 [] h U (λv ac Y=>v = .agg ⟨[.int .i64 0,.int .i64 0,.slice none 0 0,.slice (some ⟨U+1,0,none⟩) 1 1,.slice none 0 0,.slice none 0 0]⟩/\u ac (U+1)=some (.cells (f9 [0]) false)/\aA U h ac/\Y=U+1+1):=by refine aqW ?_;unfold adr;refine aF ?_;exact⟨rfl,aK⟩
structure yD (h:ae) (Z:Nat->Prop) (p:Nat) (x y:Int) (dQ dB jz ly:aa Int) (v1 v2 v3 v4:X) (dE dZ fA:aw Nat) (b4:Nat):Prop where
 g:u h p=some (.cells [(x:X),(y:X),v1,v2,v3,v4] false)
 dc:gP h c3 v1 dQ dE
 g2:u h b4=some (.cells (f9 dB) false)
 aP:∃aO,v2 = .slice (some ⟨b4,0,aO⟩) dB.length dB.length/\(aO=none\/aO=some 1)
 i3:gP h c3 v3 jz dZ
 ns:gP h c3 v4 ly fA
 jl:∀d,dE=some d->Z d
 z2:Z b4
 z3:∀d,dZ=some d->Z d
 z4:∀d,fA=some d->Z d
 d12:dE≠some b4
 d23:dZ≠some b4
 d24:fA≠some b4
 d13:∀d,dE=some d->dZ≠some d
 d14:∀d,dE=some d->fA≠some d
 d34:∀d,dZ=some d->fA≠some d
theorem fQ.two{h:ae}{l:aa Int}(M:u h b=some (.cells (f9 l) false))(L:aO=none\/aO=some 1):fQ h c3 1 (.slice (some ⟨b,0,aO⟩) l.length l.length) l (some b):=by
 rcases L with rfl|rfl
 ·refine .part M (by rw[zp];omega) ?_;rw[pb,o8 (by rw[zp];omega),iG]
 ·exact .own (by rw[iG];omega)
def ki(U aj ah t1 d:Nat):Prop:=U+3<=d/\d≠U+4/\d<aj/\¬(ah<=d/\d<t1)
theorem ank{U aj ah t1 q k:Nat}{x:Int}{h:ae}(D:yD h (ki U aj ah t1) (U+4) x y dQ dB jz ly v1 v2 v3 v4 dE dZ fA b4)(cM:u h q=some (.cells [(g.f:X),(g.t:X),(g.w:X)] false))(hq3:dZ≠some q)(hqp:q≠U+4)(hqh:q<aj)(ck:t1<=aj)(a1:U+4<aj)(bb:dQ.length<dB.length)(hl3:jz.length<=1000)(hl4:ly.length<=1000)(hk:k<=1000) (ek:∀ac dy v3' v4' b3' b4',aj<=dy->yD ac (ki U dy ah t1) (U+4) x y dQ (dB.set dQ.length ((jz.length+1:Nat):Int)) (jz++[(g.t:Int)]) (ly++[g.w]) v1 v2 v3' v4' dE b3' b4' b4->(∀d,d<aj->d≠U+4->¬ki U aj ah t1 d->u ac d=u h d) ->
   N [a2,.pointer (some ⟨U+4,0,none⟩),iA,hC,((k+1:Nat):X)] ac dy):
  Cw s N E R a2 (.pointer (some ⟨U+4,0,none⟩)) (bd q) iA hC (k:X) h aj:=by
 obtain⟨a3,ci,rfl⟩:=D.i3.form;obtain⟨aY,hF,rfl⟩:=D.ns.form;obtain⟨aB,c1,rfl⟩:=D.dc.form;obtain⟨aO,rfl,qt⟩:=D.aP;have lV:=D.g;unfold Cw;refine cL @lV @cM ?_;refine vP (D.i3.hU.F λd M=>by have:=(D.z3 d M).2.2.1;grind) (aS _ _ _) J λh1 qC Dv=>?_;have fF:∀d,d<aj->dZ≠some d->u h1 d=u h d:=ab
 have Mq:∀{b:aw Nat},(∀d,b=some d->ki U aj ah t1 d)->b≠some (U+4):=λL e=>absurd rfl (L _ e).2.1;have Tg:=(fF (U+4) a1 (Mq D.z3)).trans lV;have gq1:=(fF q hqh hq3).trans cM;refine cL @Tg @gq1 ?_;refine vP ((D.ns.hU.F  λd M=>by have L:=D.z4 d M;rw[aq (by have:=L.2.2.1;omega),aq L.2.1];exact fF d L.2.2.1 λe=>D.d34 d e M)) (aS _ _ _) J λar DK rn=>?_
 have gj:∀d,d<aj+1+1->d≠U+4->fA≠some d->u ar d=u h1 d:=ab
 have AR:u ar (U+4)=some (.cells [(x:X),(y:X),.slice aB dQ.length c1,.slice (some ⟨b4,0,aO⟩) dB.length dB.length,.slice (some ⟨aj+1,0,some 1⟩) (jz.length+1) (jz.length+1),.slice aY ly.length hF] false):=by rw[rn _ J (Mq D.z4),aq J,aS]
 have gs2:u ar b4=some (.cells (f9 dB) false):=by have L:=D.z2;rw[gj b4 (by have:=L.2.2.1;omega) L.2.1 D.d24,fF b4 L.2.2.1 D.d23];exact D.g2
 have gn2:u ar (aj+1)=some (.cells (f9 (jz++[(g.t:Int)])) false):=by rw[gj (aj+1) J J (λe=>by have:=(D.z4 _ e).2.2.1;omega)];omega
 have V:=D.z2;have sp:b4≠U+4:=V.2.1;have DD:b4<aj:=V.2.2.1;refine hK @AR @gs2 (cG (J:k<1000000000000)) ?_;refine⟨bb,ek _ _ (.slice (some ⟨aj+1,0,some 1⟩) (jz.length+1) (jz.length+1)) (.slice (some ⟨aj+1+1+1,0,some 1⟩) (ly.length+1) (ly.length+1)) (some (aj+1)) (some (aj+1+1+1)) (by omega) ?_ λd aL bm b3=>?_⟩
 ·have vq:∀d,ki U aj ah t1 d->ki U (aj+1+1+1+1) ah t1 d:=λd L=>⟨L.1,L.2.1,by have:=L.2.2.1;omega,L.2.2.2⟩
  exact{
   g:=ab
   dc:=D.dc.F λd M=>by have L:=D.jl d M;have:=L.2.2.1;have Z:d≠b4:=λe=>D.d12 ab;rw[aq Z,aq L.2.1,gj d J L.2.1 (D.d14 d M),fF d J (D.d13 d M)]
   g2:=ab
   aP:=⟨aO,ab,qt⟩
   i3:=.inr ⟨aj+1,rfl,ab,by rw[aq J,aq J,iG];omega⟩
   ns:=.inr ⟨aj+1+1+1,rfl,ab,by rw[aq J,aq J,iG];omega⟩
   jl:=λd M=>vq d (D.jl d M)
   z2:=vq _ V
   z3:=λd M=>by cases M;exact⟨J,J,J,J⟩
   z4:=λd M=>by cases M;exact⟨J,J,J,J⟩
   d12:=D.d12
   d23:=ab
   d24:=ab
   d13:=λd M e=>by cases e;have:=(D.jl _ M).2.2.1;omega
   d14:=λd M e=>by cases e;have:=(D.jl _ M).2.2.1;omega
   d34:=ab }
 ·have Z:d≠b4:=ab
  rw[aq Z,aq bm,gj d J bm (λe=>b3 (D.z4 d e)),fF d aL (λe=>b3 (D.z3 d e))]
theorem anl{U aj ah t1 q k:Nat}{x:Int}{h:ae}(D:yD h (ki U aj ah t1) (U+4) x y dQ dB jz ly v1 v2 v3 v4 dE dZ fA b4)(cM:u h q=some (.cells [(g.f:X),(g.t:X),(g.w:X)] false))(hq1:dE≠some q)(hq2:b4≠q)(hqp:q≠U+4)(hqh:q<aj)(ck:t1<=aj)(a1:U+4<aj)(oM:dQ.length<=1000)(tw:dB.length<=1001) (ek:∀ac dy v1' Z b1' Th,aj<=dy->yD ac (ki U dy ah t1) (U+4) x y (dQ++[(g.f:Int)]) (dB++[0]) jz ly v1' Z v3 v4 b1' dZ fA Th->u ac q=some (.cells [(g.f:X),(g.t:X),(g.w:X)] false)->(∀d,d<aj->d≠U+4->¬ki U aj ah t1 d->u ac d=u h d) ->
   Cw s N E R a2 (.pointer (some ⟨U+4,0,none⟩)) (bd q) iA hC (k:X) ac dy):
  zL s N E R a2 (.pointer (some ⟨U+4,0,none⟩)) (bd q) iA hC (k:X) (.bool true) h aj:=by
 obtain⟨a3,ci,rfl⟩:=D.i3.form;obtain⟨aY,hF,rfl⟩:=D.ns.form;obtain⟨aB,c1,rfl⟩:=D.dc.form;obtain⟨aO,rfl,qt⟩:=D.aP;have lV:=D.g;unfold zL;refine cL @lV @cM ?_;refine vP (D.dc.hU.F λd L=>by have:=(D.jl d L).2.2.1;grind) (aS _ _ _) J λh1 qC Dv=>?_;have fF:∀d,d<aj->dE≠some d->u h1 d=u h d:=ab
 have Mq:∀{b:aw Nat},(∀d,b=some d->ki U aj ah t1 d)->b≠some (U+4):=λM e=>absurd rfl (M _ e).2.1;have Tg:=(fF (U+4) a1 (Mq D.jl)).trans lV;have sp:b4≠U+4:=D.z2.2.1;have DD:b4<aj:=D.z2.2.2.1;refine bg @Tg ?_;have gr2:∀{o aX:gh},fQ (T (T h1 (U+4) o) (aj+1+1) aX) c3 1 (.slice (some ⟨b4,0,aO⟩) dB.length dB.length) dB (some b4):=λ{o aX}=>fQ.two (by rw[aq J,aq sp,fF b4 DD D.d12];exact D.g2) qt;refine vP gr2 (aS _ _ _) J λar DK rn=>?_;have gj:∀d,d<aj+1+1->d≠U+4->d≠b4->u ar d=u h1 d:=ab
 have AR:u ar (U+4)=some (.cells [(x:X),(y:X),.slice (some ⟨aj+1,0,some 1⟩) (dQ.length+1) (dQ.length+1),.slice (some ⟨b4,0,aO⟩) dB.length dB.length,.slice a3 jz.length ci,.slice aY ly.length hF] false):=ab
 refine bg @AR ?_;have vq:∀d,ki U aj ah t1 d->ki U (aj+1+1+1+1) ah t1 d:=λd M=>⟨M.1,M.2.1,by have:=M.2.2.1;omega,M.2.2.2⟩
 have V:∀d,ki U aj ah t1 d->dE≠some d->d≠b4->∀{o:gh},u (T ar (U+4) o) d=u h d:=λd M ng h2' {o}=>by
  have:=M.2.2.1
  grind
 refine ek _ _ (.slice (some ⟨aj+1,0,some 1⟩) (dQ.length+1) (dQ.length+1)) (.slice (some ⟨aj+1+1+1,0,some 1⟩) (dB.length+1) (dB.length+1)) (some (aj+1)) (aj+1+1+1) (by omega) ?_ ?_ λd aL bm b3=>?_
 ·exact{
   g:=ab
   dc:=.inr ⟨aj+1,rfl,ab,by rw[aq J,gj (aj+1) J J J,iG];omega⟩
   g2:=ab
   aP:=⟨some 1,ab,ab⟩
   i3:=D.i3.F λd L=>V d (D.z3 d L) (λe=>D.d13 d e L) (λe=>D.d23 ab)
   ns:=D.ns.F λd L=>V d (D.z4 d L) (λe=>D.d14 d e L) (λe=>D.d24 ab)
   jl:=λd L=>by cases L;exact⟨J,J,J,J⟩
   z2:=⟨J,J,J,J⟩
   z3:=λd L=>vq d (D.z3 d L)
   z4:=λd L=>vq d (D.z4 d L)
   d12:=ab
   d23:=λe=>by have:=(D.z3 _ e).2.2.1;omega
   d24:=λe=>by have:=(D.z4 _ e).2.2.1;omega
   d13:=λd L e=>by cases L;have:=(D.z3 _ e).2.2.1;omega
   d14:=λd L e=>by cases L;have:=(D.z4 _ e).2.2.1;omega
   d34:=D.d34 }
 ·grind
 ·rw[aq bm,gj d J bm (λe=>b3 (by rw[e];exact D.z2)),fF d aL (λe=>b3 (D.jl d e))]
def xP(h:ae)(ao aj:Nat)(v:X)(r c:Nat)(ag:aa GE):Prop :=
 ∃v1 v2 v3 v4,v = .agg ⟨[(r:X),(c:X),v1,v2,v3,v4]⟩/\nV h ao aj v1 (gC ag)/\(∃b aO,v2 = .slice (some ⟨b,0,aO⟩) (gX ag).length (gX ag).length/\ao<=b/\b<aj/\u h b=some (.cells (f9 (gX ag)) false))/\nV h ao aj v3 (fp ag)/\nV h ao aj v4 (gq ag)
def LD(U ah t1:Nat)(x y:Int)(w:X)(ag:aa GE)(au:ae)(m:Nat)(aE:aa X)(ac:ae)(aj:Nat):Prop :=
 ∃(k:Nat) (v1 v2 v3 v4:X) (dE dZ fA:aw Nat) (b4:Nat),m=ag.length-k/\k<=ag.length/\aE=[.pointer (some ⟨U+1,0,none⟩),.pointer (some ⟨U+4,0,none⟩),w,(ag.length:X),(k:X)] /\
  yD ac (ki U aj ah t1) (U+4) x y (gC (ag.take k)) (gX (ag.take k)) (fp (ag.take k)) (gq (ag.take k)) v1 v2 v3 v4 dE dZ fA b4/\(∀d,d<t1->d≠U+4->¬ki U t1 ah t1 d->u ac d=u au d)/\t1<=aj
theorem anm{x:Int}{n:Nat}(L:(gC p).length=n+1)(M:(gC p)[n]? = some x):∃a:Nat,(dS p).getLast? = some a/\x=(a:Int):=by
 unfold gC at M L
 grind
theorem auj{c:Nat}{v:X}{h:ae}{U:Nat}(M:g8 r c ag)(aJ:kc h U v r c ag):
  aH Q s 124 [v] h U (λdN ac Y=>∃L,zM ag L/\g8 c r L/\xP ac U Y dN r c L/\aA U h ac/\U<=Y):=by
 refine awt ?_;have hp:=aJ;obtain⟨fB,Te,lW,a2,m2,c2,a3,m3,ci,rfl⟩:=aJ.form;have a5:=M.a5;have aZ:=M.aZ;have bb:=M.len;unfold agd;refine aF ?_;have bZ:∀{o aX},aA U h (T (T h U o) (U+1) aX):=aK
 refine anj.mono ?_;rintro _ h1 _ ⟨rfl,gs1,d9,rfl⟩;have cv:=d9 U J;rw[aq J,aS]at cv;have bB:=d9 (U+1) J;rw[aS]at bB;have cJ:aA U h h1:=aK
 refine bg @cv ?_;have eA:∀{o aX},aA U h (T (T h1 (U+1+1+1+1) o) (U+1+1+1+1) aX):=aK
 refine(IX M ((hp.F eA (cD _)).F (aA.refl _ _) J)).mono ?_;rintro _ ar bX ⟨rfl,ei,eZ⟩;have kr:=ei U J;rw[aq J,aq J,cv]at kr;have fF:=ei (U+1) J;rw[aq J,aq J,bB]at fF;have ds:=ei (U+1+1+1) J;rw[aq J,aq J,gs1]at ds;have HH:=ei (U+1+1+1+1) J;rw[aS]at HH;have fI:aA U h ar:=aK
 refine cL @kr @HH ?_;have gR:∀{o aX},aA U h (T (T ar (U+1+1+1+1) o) (U+1+1+1+1) aX):=aK
 refine(anf M ((hp.F gR (cD _)).F (aA.refl _ _) J)).mono ?_;rintro v3 aL bS ⟨L,eF,tR,dW,e8,gA⟩;refine(VV tR dW.is).mono ?_;rintro w bm Z ⟨dI,fP,ir⟩;have KP:aA bX _ bm:=e8.trans fP gA;have aM:=KP U J;rw[aq J,aq J,kr]at aM;have aV:=KP (U+1) J;rw[aq J,aq J,fF]at aV;have es:=KP (U+1+1+1) J;rw[aq J,aq J,ds]at es;have nB:=KP (U+1+1+1+1) J;rw[aS]at nB;have mW:aA U h bm:=aK
 have Ay:=tR.len;obtain⟨nu,oe,rfl⟩:=(kF.of dI).form;refine aF ?_;have aBJ:yD bm (ki U Z bS Z) (U+4) (r:Int) (c:Int) (gC (L.take 0)) (gX (L.take 0)) (fp (L.take 0)) (gq (L.take 0)) (.slice none 0 0) (.slice (some ⟨U+1+1+1,0,none⟩) 1 1) (.slice none 0 0) (.slice none 0 0) none none none (U+1+1+1):={
  g:=nB
  dc:=.inl ⟨rfl,rfl,rfl⟩
  g2:=es
  aP:=⟨none,rfl,ab⟩
  i3:=.inl ⟨rfl,rfl,rfl⟩
  ns:=.inl ⟨rfl,rfl,rfl⟩
  jl:=λd e=>by cases e
  z2:=⟨J,J,J,J⟩
  z3:=λd e=>by cases e
  z4:=λd e=>by cases e
  d12:=ab
  d23:=ab
  d24:=ab
  d13:=ab
  d14:=λd e=>by cases e
  d34:=λd e=>by cases e }
 refine bD.mk (LD U bS Z (r:Int) (c:Int) (.slice nu L.length oe) L bm) L.length ⟨0,_,_,_,_,_,_,_,_,J,J,rfl,aBJ,λd _ _ _=>rfl,cD _⟩ ?_;rintro _ _ b3 aj ⟨k,v1,v2,v3,v4,dE,dZ,fA,b4,rfl,hk,rfl,D,tD,oJ⟩;rw[at6];unfold ado;refine aF ?_;refine⟨λcA=>?_,λeN=>?_⟩
 ·obtain⟨g,a6⟩:=d1 (J:k<L.length);rcases dI with⟨e,_⟩|⟨tW,ii,jN,e,oU⟩
  ·rw[e]at a6;cases a6
  cases e;have u2:u b3 tW=some (.cells (bc cW L) false):=(tD tW jN J (λz=>z.2.2.2 ⟨ii,jN⟩)).trans oU;obtain⟨aB,c1,rfl⟩:=D.dc.form;have lV:=D.g;have gp4:∀{o aX},u (T (T b3 aj o) aj aX) (U+4)=some (.cells [(r:X),(c:X),.slice aB (gC (L.take k)).length c1,v2,v3,v4] false):=λ{o aX}=>ab
  simp(disch:=omega)only[bn,u2,DE (enc:=cW) (k:=3) (λ_=>rfl) a6,cW,lV,seval];have tz:k<L.length:=J
  have AH:(L.take k).length=k:=ab
  have oN:L.take (k+1)=L.take k++[g]:=by rw[hx,a6];rfl
  have hup:kK (L.take k++[g]):=by rw[<-oN];exact List.Pairwise.sublist (List.take_sublist _ _) tR.up
  have Lr:=FI (L.take k);have aN:=FJ (L.take k);have aCO:=xG (L.take k);have aAE:=Ci (L.take k);have aBK:=FG (L.take k);have sK:fp (L.take k)++[(g.t:Int)]=fp (L.take (k+1)):=by rw[oN];unfold fp;grind
  have vp:gq (L.take k)++[g.w]=gq (L.take (k+1)):=by rw[oN];unfold gq;grind
  have fin:∀{cF:ae} {Hl:Nat} {dB:aa Int} {v1 v2 v3 v4:X} {dE dZ fA:aw Nat} {b4:Nat} {E R:aR},yD cF (ki U Hl bS Z) (U+4) (r:Int) (c:Int) (gC (L.take (k+1))) dB (fp (L.take k)) (gq (L.take k)) v1 v2 v3 v4 dE dZ fA b4 ->
    dB.set (gC (L.take (k+1))).length (((L.take k).length:Int)+1)=gX (L.take (k+1))->(gC (L.take (k+1))).length<dB.length->u cF aj=some (.cells [(g.f:X),(g.t:X),(g.w:X)] false)->dZ≠some aj->aj+1<=Hl->(∀d,d<Z->d≠U+4->¬ki U Z bS Z d->u cF d=u bm d) ->
    Cw s (λaE ac Y=>∃bC,bC<L.length-k/\LD U bS Z (r:Int) (c:Int) (.slice (some ⟨tW,0,some 3⟩) L.length L.length) L bm bC aE ac Y) E R (.pointer (some ⟨U+1,0,none⟩)) (.pointer (some ⟨U+4,0,none⟩)) (bd aj) (.slice (some ⟨tW,0,some 3⟩) L.length L.length) (L.length:X) (k:X) cF Hl:=by intro cF Hl dB v1 v2 v3 v4 dE dZ fA b4 E R Mr T RT Ti n0 lD wL;refine ank Mr Ti n0 J J J J RT J J J λeE hi7 v3' v4' b3' b4' uP aAF vb=>?_;rw[sK,vp,aAE,show(((L.take k).length+1:Nat):Int)=((L.take k).length:Int)+1 by omega,T]at aAF;exact⟨L.length-(k+1),J,k+1,_,_,_,_,_,_,_,_,rfl,J,rfl,aAF,λd ct cB co=>by rw[vb d J cB (λz=>co ⟨z.1,z.2.1,ct,z.2.2.2⟩)];grind,J⟩
  have D8:∀{o aX:gh},yD (T (T b3 aj o) aj aX) (ki U (aj+1) bS Z) (U+4) (r:Int) (c:Int) (gC (L.take k)) (gX (L.take k)) (fp (L.take k)) (gq (L.take k)) (.slice aB (gC (L.take k)).length c1) v2 v3 v4 dE dZ fA b4:=λ{o aX}=>by
   have hD:∀d,ki U aj bS Z d->u (T (T b3 aj o) aj aX) d=u b3 d:=λd cZ=>by have:=cZ.2.2.1;grind
   have vq:∀d,ki U aj bS Z d->ki U (aj+1) bS Z d:=λd cZ=>⟨cZ.1,cZ.2.1,by have:=cZ.2.2.1;omega,cZ.2.2.2⟩
   exact⟨ab,D.dc.F λd V=>hD d (D.jl d V),(hD b4 D.z2).trans D.g2,D.aP,D.i3.F λd V=>hD d (D.z3 d V),D.ns.F λd V=>hD d (D.z4 d V),λd V=>vq d (D.jl d V),vq b4 D.z2,λd V=>vq d (D.z3 d V),λd V=>vq d (D.z4 d V),D.d12,D.d23,D.d24,D.d13,D.d14,D.d34⟩
  have fr2:∀{o aX:gh} (d:Nat),d<Z->d≠U+4->¬ki U Z bS Z d->u (T (T b3 aj o) aj aX) d=u bm d:=λd ct cB co=>ab
  have cU:∀{b:aw Nat},(∀d,b=some d->ki U aj bS Z d)->b≠some aj:=λcZ e=>by have:=(cZ _ e).2.2.1;omega
  have fw:=D.z2.2.2.1;have new:(dS (L.take k)).getLast?≠some g.f->∀{E R:aR},zL s (λaE ac Y=>∃bC,bC<L.length-k/\LD U bS Z (r:Int) (c:Int) (.slice (some ⟨tW,0,some 3⟩) L.length L.length) L bm bC aE ac Y) E R (.pointer (some ⟨U+1,0,none⟩)) (.pointer (some ⟨U+4,0,none⟩)) (bd aj) (.slice (some ⟨tW,0,some 3⟩) L.length L.length) (L.length:X) (k:X) (.bool true)
    (T (T b3 aj (.cells [.int .i64 0,.int .i64 0,.int .i64 0] false)) aj (.cells [(g.f:X),(g.t:X),(g.w:X)] false)) (aj+1):=λe0 {E R}=>by
   have hs:dS (L.take (k+1))=dS (L.take k)++[g.f]:=by rw[oN,vL];unfold s8;grind
   have LF:gC (L.take k)++[(g.f:Int)]=gC (L.take (k+1)):=by unfold gC;grind
   refine anl D8 (aS _ _ _) (cU D.jl) J J J J J J J λcF Hl v1' v2' b1' Th lD Mr Ti wL=>?_;rw[LF]at Mr;refine fin Mr ?_ ?_ Ti (cU D.z3) J λd ct cB co=>by rw[wL d J cB (λz=>co ⟨z.1,z.2.1,ct,z.2.2.2⟩)];grind
   ·rw[FJ,hs,jm,oN];exact ark hup e0
   grind
  have same:(dS (L.take k)).getLast? = some g.f->∀{E R:aR},zL s (λaE ac Y=>∃bC,bC<L.length-k/\LD U bS Z (r:Int) (c:Int) (.slice (some ⟨tW,0,some 3⟩) L.length L.length) L bm bC aE ac Y) E R (.pointer (some ⟨U+1,0,none⟩)) (.pointer (some ⟨U+4,0,none⟩)) (bd aj) (.slice (some ⟨tW,0,some 3⟩) L.length L.length) (L.length:X) (k:X) (.bool false)
    (T (T b3 aj (.cells [.int .i64 0,.int .i64 0,.int .i64 0] false)) aj (.cells [(g.f:X),(g.t:X),(g.w:X)] false)) (aj+1):=λbE {E R}=>by
   have hs:dS (L.take (k+1))=dS (L.take k):=by rw[oN,vL];unfold s8;grind
   have LF:gC (L.take (k+1))=gC (L.take k):=by unfold gC;rw[hs]
   unfold zL;refine aF ?_;refine fin (by rw[LF];exact D8) ?_ ?_ (aS _ _ _) (cU D.z3) (cD _) fr2
   ·rw[LF,FJ,oN];exact ani hup bE
   grind
  refine⟨λau=>?_,λau=>?_⟩
  ·have au:(gC (L.take k)).length=0:=ab
   rw[aN]at au;exact new ab
  ·have au:(gC (L.take k)).length≠0:=ab
   obtain⟨n,bH⟩:∃n,(gC (L.take k)).length=n+1:=⟨(gC (L.take k)).length-1,J⟩
   obtain⟨x,a1⟩:=d1 (l:=gC (L.take k)) (i:=n) J;obtain⟨a,cY,rfl⟩:=anm bH a1;have dc:IntKind.wrap .i64 (((gC (L.take k)).length:Int)-1)=(n:Int):=by rw[bH,show(((n+1:Nat):Int))-1=(n:Int) by omega];exact jE J J
   rcases D.dc with⟨aV,_⟩|⟨fr,aV,aP,bB⟩
   ·rw[aV]at au;exact absurd rfl au
   ·cases aP;have cZ:=(D.jl fr aV).2.2.1;rw[iG]at bB;simp(disch:=omega)only[bn,dc,bB,i6 a1,seval]
    by_cases Al:a=g.f
    ·subst Al;rw[qR];exact same cY
    ·rw[show(((a:Int)) == (g.f:Int))=false from rS.2 J];exact new ab
 ·have:k=L.length:=J
  subst this;have lV:=D.g;have dt:u b3 (U+1)=u bm (U+1):=tD (U+1) J J (λz=>by have:=z.1;omega);rw[iQ]at D;obtain⟨aB,c1,rfl⟩:=D.dc.form;obtain⟨aY,hF,rfl⟩:=D.i3.form;obtain⟨bN,vo,rfl⟩:=D.ns.form;obtain⟨aO,rfl,qt⟩:=D.aP;refine hK @lV @dt @aV ?_;have aK:∀d,ki U aj bS Z d->∀{o:gh},u (T b3 (U+1) o) d=u b3 d:=λd cZ {o}=>aq (by have:=cZ.1;omega);refine⟨L,eF,tR,⟨_,_,_,_,rfl,⟨dE,D.dc.F λd V=>aK d (D.jl d V),λd V=>⟨by have:=(D.jl d V).1;omega,(D.jl d V).2.2.1⟩⟩,⟨b4,aO,rfl,by have:=D.z2.1;omega,D.z2.2.2.1,(aK b4 D.z2).trans D.g2⟩,⟨dZ,D.i3.F λd V=>aK d (D.z3 d V),λd V=>⟨by have:=(D.z3 d V).1;omega,(D.z3 d V).2.2.1⟩⟩,⟨fA,D.ns.F λd V=>aK d (D.z4 d V),λd V=>⟨by have:=(D.z4 d V).1;omega,(D.z4 d V).2.2.1⟩⟩⟩,λd V=>?_,J⟩;rw[aq J,tD d J J (λz=>by have:=z.1;omega)];exact mW d V
section
variable {I:Nat->ae->Nat->Prop} {D:ae->Nat->Prop} {q:Nat->al}
theorem abl{k h U}(L:∀k h U,q k=false->I k h U->I (k+1) h U):∀(d:Nat),(∀i,k<=i->i<k+d->q i=false)->I k h U->I (k+d) h U
 |0,_,aj=>aj
 |d+1,M,aj=>L _ _ _ ab (abl L d ab aj)
def EgJ(I:Nat->ae->Nat->Prop)(l n:Nat)(q:Nat->al)(j4:X)(m:Nat)(aE:aa X)(ac:ae)(Y:Nat):Prop :=
 ∃k:Nat,m=n-k/\k<=n/\aE=[.func (.yield l) ⟨[]⟩ ⟨[]⟩,.int .u64 (mk (n-k) (λi=>q (i+k)):Int),(k:X),j4,.int .i64 1,.int .i64 0]/\I k ac Y
def EgO(I:Nat->ae->Nat->Prop)(l n:Nat)(j4:X)(h:ae)(U:Nat)(m:Nat)(aE:aa X)(ac:ae)(Y:Nat):Prop :=
 (m=1/\aE=[.func (.yield l) ⟨[]⟩ ⟨[]⟩,j4,.int .i64 1,.int .i64 0]/\ac=h/\Y=U)\/(m=0/\aE=[.func (.yield l) ⟨[]⟩ ⟨[]⟩,j4,.int .i64 1,.int .i64 1]/\I n ac Y)
theorem arl{n l:Nat}{h:ae}{U:Nat}(bH:n<=63)(aJ:cN h U j4 jU [mk n q])(tB:u h HW=some (.cells [j4] false))(au:I 0 h U)(ap:∀k h U,q k=false->I k h U->I (k+1) h U)(ce:∀k h U,k<n->q k=true->I k h U->lN Q s l [(k:X)] h U (λr ac Y=>(r = .bool true/\I (k+1) ac Y)\/(r = .bool false/\D ac Y))):
  aH Q s 288 [.func (.yield l) ⟨[]⟩ ⟨[]⟩,bd HW] h U (λ_ ac Y=>I n ac Y\/D ac Y):=by
 refine Qy ?_;obtain⟨a,cap,rfl,aZ⟩:=id aJ;obtain⟨b,aO,bJ,aT,rfl,a6⟩:=aZ (by simp);have a6:u h b=some (.cells [.int .u64 (mk n q:Int)] bJ):=a6;unfold Kn;simp(disch:=omega)only[bn,tB,@List.length_cons Nat,@List.length_nil Nat,seval];refine bD.mk (EgO I l n (.slice (some ⟨b,0,aO⟩) 1 cap) h U) 1 (.inl ab) ?_;rintro m aE ac Y (⟨rfl,rfl,gd,ez⟩|⟨rfl,rfl,dW⟩)
 ·rw[FF,gd,ez];unfold Cg;have esh:bin Q .shl 3 (.int .i64 0) (.int .u64 6) = .ok (.int .i64 0):=rfl;refine cL @a6 @esh ?_;refine⟨?_,ab⟩;refine bD.mk (EgJ I l n q (.slice (some ⟨b,0,aO⟩) 1 cap)) n ⟨0,J,J,rfl,au⟩ ?_;rintro _ _ aL L ⟨k,rfl,hk,rfl,V⟩;rw[aa3];unfold Pq
  by_cases cZ:mk (n-k) (λi=>q (i+k))=0
  ·have aM:((mk (n-k) (λi=>q (i+k)):Nat):Int)=0:=J
   have M:I (k+(n-k)) aL L:=abl ap (n-k) (λi h1 ar=>by
    have:=Fy.1 cZ (i-k) J
    grind) V
   rw[show k+(n-k)=n by omega]at M;refine bg @aM ?_;exact⟨0,J,.inr ⟨rfl,rfl,M⟩⟩
  ·have AU:k<n:=by
    rcases jn k n with h|h
    ·exact h
    ·exact absurd (by rw[show n-k=0 by omega];rfl) cZ
   obtain⟨r,a5⟩:∃r,n-k=r+1:=⟨n-k-1,J⟩
   have aV:(((mk (n-k) (λi=>q (i+k)):Nat):Int) == 0)=false:=ab
   have Z:bin Q .and 188 (.int .u64 ((mk (n-k) (λi=>q (i+k)):Nat):Int)) (.int .u64 1) = .ok (.int .u64 (if q k then 1 else 0)):=by
    rw[show(1:Int)=((1:Nat):Int)from rfl,E7 (wq J) J,In,a5,act,iR]
    grind
   have ch:mk (n-k) (λi=>q (i+k)) / 2=mk (n-(k+1)) (λi=>q (i+(k+1))):=by
    rw[a5,acs,show n-(k+1)=r by omega]
    grind
   have e6:bin Q .shr 188 (.int .u64 ((mk (n-k) (λi=>q (i+k)):Nat):Int)) (.int .u64 1) = .ok (.int .u64 ((mk (n-(k+1)) (λi=>q (i+(k+1))):Nat):Int)):=by rw[N9,ch]
   cases cM:q k with
   |true =>
    rw[cM]at Z;refine cL @aV @Z ?_;refine(ce k aL L AU cM V).mono ?_;rintro _ bm Ls (⟨rfl,V⟩|⟨rfl,Bi⟩)
    ·refine aF ?_;unfold Cf;refine cL @e6 (cG (J:k<1000000000000)) ?_;exact⟨n-(k+1),J,k+1,rfl,J,rfl,V⟩
    ·simp(disch:=omega)only[bn,seval]
     grind
   |false =>
    rw[cM]at Z;have e2':bin Q .and 188 (.int .u64 ((mk (n-k) (λi=>q (i+k)):Nat):Int)) (.int .u64 1) = .ok (.int .u64 0):=Z;refine cL @aV @e2' ?_;unfold Cf;refine cL @e6 (cG (J:k<1000000000000)) ?_;exact⟨n-(k+1),J,k+1,rfl,J,rfl,ap k aL L cM V⟩
 ·rw[FF];unfold Cg;simp(disch:=omega)only[bn,seval]
  grind
end
def eS(n:Nat)(q:Nat->al):aa Nat:=if n=0 then[]else[mk n q]
theorem abm{l:Nat}{h:ae}{U:Nat}(M:cN h U j4 jU ([]:aa Nat))(L:u h HW=some (.cells [j4] false)):
  aH Q s 288 [.func (.yield l) ⟨[]⟩ ⟨[]⟩,bd HW] h U (λ_ ac Y=>ac=h/\Y=U):=by
 refine Qy ?_;obtain⟨a,cap,rfl,Z⟩:=id M;unfold Kn;simp(disch:=omega)only[bn,L,@List.length_nil Nat,seval];refine bD.mk (λm aE ac Y=>aE=[.func (.yield l) ⟨[]⟩ ⟨[]⟩,.slice a 0 cap,.int .i64 0,.int .i64 0]/\ac=h/\Y=U) 0 ab ?_;rintro m aE ac Y ⟨rfl,gd,V⟩;rw[FF];unfold Cg;simp(disch:=omega)only[bn,seval]
 grind
noncomputable def mZ:Code:=(uM Q 473).1
noncomputable def m5:Code:=(uM Q 473).2
def p9(iE ah cR cp t1:X):cc:=[(7,some iE),(6,some ah),(4,some cR),(3,some cp),(0,some ah),(1,some t1)]
def abn(s:al)(dZ fA f8:X)(h:ae)(U:Nat)(N R:ae->Nat->Prop):Prop:=af (iH none h dZ) λn1=>af (bin Q .geq 3 f8 n1) λpO=>br pO (af (aQ h 1 fA f8) λh12=>R h12 U) (N h U)
def Pz(s:al)(l:Nat)(iE ah cR cp t1 gb:X)(h:ae)(U:Nat)(K:bP):Prop:=∃ew,u h l=some (.loop 0 ew (p9 iE ah cR cp t1) [8] mZ m5)/\abn s cp cR gb (T h l (.loop 1 ew (p9 iE ah cR cp t1) [8] mZ m5)) U (λh n=>∃gm ew,u h l=some (.loop gm ew (p9 iE ah cR cp t1) [8] mZ m5)/\K (.bool true) (T h l (.loop 0 none (p9 iE ah cR cp t1) [8] mZ m5)) n) (λh n=>∃gm ew,u h l=some (.loop gm ew (p9 iE ah cR cp t1) [8] mZ m5)/\K (.bool false) (T h l (.loop 2 (some .ret) (p9 iE ah cR cp t1) [8] mZ m5)) n)
theorem ann{l:Nat}{h:ae}{U:Nat}:A9 Q s [] [] l [gb] (p9 iE ah cR cp t1) [8] mZ m5 h U K=Pz s l iE ah cR cp t1 gb h U K:=by kernel_rfl
theorem ano{l:Nat}{p:aw Code}{h:ae}{U:Nat}(L:u h l=some (.loop st p (p9 iE ah cR cp t1) [8] mZ m5))(w:Pz s l iE ah cR cp t1 gb h U K):lN Q s l [gb] h U K:=lN.oR lR (vi:=[]) (oa:=[]) L rfl (by kernel_rfl) (by kernel_rfl) (by rw[ann];exact w)
def adD:c5:=λs ah t1 h U K=>bI t1 h U λa b c=>bW [(ad 0)] b c λd e f=>aW s 197 [ah] e f λg i j=>tu Q s g i j (.loop 0 none (p9 g ah d a t1) [8] mZ m5) (x4 j (λk l=>af (aQ k 1 d (ad (-1))) λm=>bT m d λn=>K n m l) (λk l=>bT k d λo=>K o k l))
theorem arm:c7 473 adD:=c9 []
noncomputable def uj:Code:=(uM Q 495).1
noncomputable def uk:Code:=(uM Q 495).2
def uo(t1 cp ah:X):cc:=[(6,some t1),(4,some (.slice none 0 0)),(2,some cp),(0,some ah),(1,some t1)]
def Zf(s:al)(b4 f8:X)(h:ae)(U:Nat)(N R:ae->Nat->Prop):Prop:=af (iH none h b4) λnA=>af (iH (some 2) h f8) λUN=>d4 (fh 1 [(.int .i64 0),(.int .i64 0)] [(0,2,UN)]) h U λHk h11 n12=>dG (dX (dT 2 h11 n12 nA Hk)) λpK h14 n15=>af (aQ h14 1 b4 pK) λh16=>N h16 n15
def OA(s:al)(l:Nat)(t1 cp ah gb:X)(h:ae)(U:Nat)(K:bP):Prop:=d4 (.ok (.ptr (.cells [(.int .i64 0),(.int .i64 0)] false))) h U λcR b3 n6=>af (aQ b3 2 cR gb) λeE=>∃ew,u eE l=some (.loop 0 ew (uo t1 cp ah) [7] uj uk)/\Zf s cp cR (T eE l (.loop 1 ew (uo t1 cp ah) [7] uj uk)) n6 (λh n=>∃gm ew,u h l=some (.loop gm ew (uo t1 cp ah) [7] uj uk)/\K (.bool true) (T h l (.loop 0 none (uo t1 cp ah) [7] uj uk)) n) (λh n=>∃gm ew,u h l=some (.loop gm ew (uo t1 cp ah) [7] uj uk)/\K (.bool false) (T h l (.loop 2 (some .ret) (uo t1 cp ah) [7] uj uk)) n)
theorem aj6{l:Nat}{h:ae}{U:Nat}:A9 Q s [] [] l [gb] (uo t1 cp ah) [7] uj uk h U K=OA s l t1 cp ah gb h U K:=by kernel_rfl
theorem aj7{l:Nat}{p:aw Code}{h:ae}{U:Nat}(L:u h l=some (.loop st p (uo t1 cp ah) [7] uj uk))(w:OA s l t1 cp ah gb h U K):lN Q s l [gb] h U K:=lN.oR lR (vi:=[]) (oa:=[]) L rfl (by kernel_rfl) (by kernel_rfl) (by rw[aj6];exact w)
def abo:c5:=λs ah t1 h U K=>bI ah h U λa b c=>tu Q s t1 b c (.loop 0 none (uo t1 a ah) [7] uj uk) (x4 c (λd e=>bT d a λf=>K f d e) (λd e=>K ay d e))
theorem anp:c7 495 abo:=c9 []
noncomputable def uq:Code:=(uM Q 391).1
noncomputable def ur:Code:=(uM Q 391).2
def uv(jr jZ qz rs pK jK nA iE cR cp ah:X):cc:=[(12,some jr),(11,some jZ),(3,some qz),(10,some rs),(9,some pK),(8,some jK),(7,some nA),(6,some iE),(2,some cR),(1,some cp),(0,some ah)]
def abp(s:al)(dZ fA f8:X)(h:ae)(U:Nat)(N R:ae->Nat->Prop):Prop:=af (zQ 1 dZ) λml=>af (iH none h ml) λoT=>af (cS [(.int .i64 0),(.int .i64 0)] [(0,1,fA),(1,1,f8)]) λmP=>d4 (fh 1 [(.int .i64 0),(.int .i64 0)] [(0,2,mP)]) h U λp26 h27 n28=>dG (dX (dT 2 h27 n28 oT p26)) λx29 Tj n31=>af (zQ 1 dZ) λpM=>af (aQ Tj 1 pM x29) λh33=>N h33 n31
def PA(s:al)(l:Nat)(jr jZ qz rs pK jK nA iE cR cp ah gb eo:X)(h:ae)(U:Nat)(K:bP):Prop:=∃ew,u h l=some (.loop 0 ew (uv jr jZ qz rs pK jK nA iE cR cp ah) [13,14] uq ur)/\abp s qz gb eo (T h l (.loop 1 ew (uv jr jZ qz rs pK jK nA iE cR cp ah) [13,14] uq ur)) U (λh n=>∃gm ew,u h l=some (.loop gm ew (uv jr jZ qz rs pK jK nA iE cR cp ah) [13,14] uq ur)/\K (.bool true) (T h l (.loop 0 none (uv jr jZ qz rs pK jK nA iE cR cp ah) [13,14] uq ur)) n) (λh n=>∃gm ew,u h l=some (.loop gm ew (uv jr jZ qz rs pK jK nA iE cR cp ah) [13,14] uq ur)/\K (.bool false) (T h l (.loop 2 (some .ret) (uv jr jZ qz rs pK jK nA iE cR cp ah) [13,14] uq ur)) n)
theorem anq{l:Nat}{h:ae}{U:Nat}:A9 Q s [] [] l [gb,eo] (uv jr jZ qz rs pK jK nA iE cR cp ah) [13,14] uq ur h U K=PA s l jr jZ qz rs pK jK nA iE cR cp ah gb eo h U K:=by kernel_rfl
theorem anr{l:Nat}{p:aw Code}{h:ae}{U:Nat}(L:u h l=some (.loop st p (uv jr jZ qz rs pK jK nA iE cR cp ah) [13,14] uq ur))(w:PA s l jr jZ qz rs pK jK nA iE cR cp ah gb eo h U K):lN Q s l [gb,eo] h U K:=lN.oR lR (vi:=[]) (oa:=[]) L rfl (by kernel_rfl) (by kernel_rfl) (by rw[anq];exact w)
def adE:cP:=λs ah h U K=>bI ah h U λa b c=>bW [(ad 0),ay] b c λd e f=>aN 3 e a λg=>aW s 450 [g] e f λi j k=>af (aQ j 3 a i) λl=>bf 0 a λm=>bT l m λn=>af (cS [(ad 0),ay] [(0,1,n)]) λo=>bW [(ad 0),ay] l k λp q r=>af (aQ q 2 p o) λt=>aN 3 t a λaD=>aW s 451 [aD] t r λv w x=>tu Q s v w x (.loop 0 none (uv v aD p o n m i g d a ah) [13,14] uq ur) (x4 x (λy z=>aN 2 y p λbz=>af (aQ y 2 d bz) λbU=>aN 2 bU d λbQ=>K bQ bU z) (λy z=>aN 2 y d λa8=>K a8 y z))
theorem arn:cQ 391 adE:=cT []
noncomputable def r0:Code:=(uM Q 393).1
noncomputable def r1:Code:=(uM Q 393).2
def uw(pL fS t3 rt pM qA qB ru pI mP oT ml jr jZ pN rv jK pO n1 ff cR cp ah t1 t2:X):cc:=[(36,some pL),(35,some fS),(34,some t3),(33,some rt),(32,some pM),(12,some qA),(26,some (.bool false)),(26,some qB),(31,some qB),(30,some ru),(29,some pI),(28,some mP),(27,some oT),(22,some (.bool false)),(22,some ml),(25,some ml),(24,some jr),(23,some jZ),(21,some pN),(20,some rv),(16,some jK),(19,some jK),(18,some pO),(17,some n1),(11,some (.int .i64 0)),(10,some (.slice none 0 0)),(7,some ff),(6,some cR),(5,some cp),(0,some ah),(1,some t1),(2,some t2),(3,some t3),(4,some fS)]
def abq(s:al)(f8 HX yV b12 b13:X)(h:ae)(U:Nat)(N R:ae->Nat->Prop):Prop:=af (iH none h f8) λx37=>af (iH (some 5) h HX) λTk=>af (iH (some 3) h yV) λx39=>aH Q s 457 [x37,Tk,b13,x39] h U λx40 h41 n42=>af (cy x40 0) λx43=>af (cy x40 1) λSX=>d4 (.ok (.ptr (.cells [(.int .i64 0),(.int .u64 0)] false))) h41 n42 λp45 AS AT=>af (aQ AS 2 p45 x43) λu7=>br SX (af (iH none u7 b12) λx49=>af (iH (some 2) u7 p45) λx50=>af (cS [(.int .i64 0),(.int .i64 0),(.int .u64 0)] [(0,1,b13),(1,2,x50)]) λx51=>d4 (fh 1 [(.int .i64 0),(.int .i64 0),(.int .u64 0)] [(0,3,x51)]) u7 AT λp52 h53 n54=>dG (dX (dT 3 h53 n54 x49 p52)) λx55 h56 n57=>af (aQ h56 1 b12 x55) λh58=>N h58 n57) (N u7 AT)
def PB(s:al)(l:Nat)(pL fS t3 rt pM qA qB ru pI mP oT ml jr jZ pN rv jK pO n1 ff cR cp ah t1 t2 gb:X)(h:ae)(U:Nat)(K:bP):Prop:=∃ew,u h l=some (.loop 0 ew (uw pL fS t3 rt pM qA qB ru pI mP oT ml jr jZ pN rv jK pO n1 ff cR cp ah t1 t2) [37] r0 r1)/\abq s cp cR ff qA gb (T h l (.loop 1 ew (uw pL fS t3 rt pM qA qB ru pI mP oT ml jr jZ pN rv jK pO n1 ff cR cp ah t1 t2) [37] r0 r1)) U (λh n=>∃gm ew,u h l=some (.loop gm ew (uw pL fS t3 rt pM qA qB ru pI mP oT ml jr jZ pN rv jK pO n1 ff cR cp ah t1 t2) [37] r0 r1)/\K (.bool true) (T h l (.loop 0 none (uw pL fS t3 rt pM qA qB ru pI mP oT ml jr jZ pN rv jK pO n1 ff cR cp ah t1 t2) [37] r0 r1)) n) (λh n=>∃gm ew,u h l=some (.loop gm ew (uw pL fS t3 rt pM qA qB ru pI mP oT ml jr jZ pN rv jK pO n1 ff cR cp ah t1 t2) [37] r0 r1)/\K (.bool false) (T h l (.loop 2 (some .ret) (uw pL fS t3 rt pM qA qB ru pI mP oT ml jr jZ pN rv jK pO n1 ff cR cp ah t1 t2) [37] r0 r1)) n)
theorem ans{l:Nat}{h:ae}{U:Nat}:A9 Q s [] [] l [gb] (uw pL fS t3 rt pM qA qB ru pI mP oT ml jr jZ pN rv jK pO n1 ff cR cp ah t1 t2) [37] r0 r1 h U K=PB s l pL fS t3 rt pM qA qB ru pI mP oT ml jr jZ pN rv jK pO n1 ff cR cp ah t1 t2 gb h U K:=by kernel_rfl
theorem ant{l:Nat}{p:aw Code}{h:ae}{U:Nat}(L:u h l=some (.loop st p (uw pL fS t3 rt pM qA qB ru pI mP oT ml jr jZ pN rv jK pO n1 ff cR cp ah t1 t2) [37] r0 r1))(w:PB s l pL fS t3 rt pM qA qB ru pI mP oT ml jr jZ pN rv jK pO n1 ff cR cp ah t1 t2 gb h U K):lN Q s l [gb] h U K:=lN.oR lR (vi:=[]) (oa:=[]) L rfl (by kernel_rfl) (by kernel_rfl) (by rw[ans];exact w)
def adF:w5:=λs ah t1 t2 t3 fS h U K=>bI ah h U λa b c=>bI t1 b c λd e f=>bI t2 e f λg i j=>aN 5 i d λk=>aN 3 i g λl=>aW s 455 [k,l] i j λm n o=>af (cy m 0) λp=>af (cy m 1) λq=>af (aQ n 5 d p) λr=>af (aQ r 3 g q) λt=>bT t a λaD=>aW s 259 [aD] t o λv w x=>af (dr .not v) λy=>br y (K (.tuple ⟨[ay,(ad 8)]⟩) w x) (bf 0 g λz=>bT w z λbz=>bf 1 d λbU=>bT w bU λbQ=>bG .neq 3 bz bQ λa8=>br a8 (K (.tuple ⟨[ay,(ad 4)]⟩) w x) (bW [ay] w x λbY b7 bL=>bf 0 d λcK=>bT b7 cK λcC=>aW s 456 [cC,t3,fS] b7 bL λdn df eJ=>tu Q s dn df eJ (.loop 0 none (uw dn fS t3 cC cK bY a8 bQ bU bz z y v aD q p m l k g d a ah t1 t2) [37] r0 r1) (x4 eJ (λam an=>bT am bY λeP=>K (.tuple ⟨[eP,(ad 0)]⟩) am an) (λam an=>K (.tuple ⟨[ay,(ad 0)]⟩) am an))))
theorem aro:yS 393 adF:=AL []
def fE(q:Nat->al)(a:Int):Nat->Int
 |0=>-1
 |n+1=>if fE q a n = -1 then(if q n=true/\a<=(n:Int)then(n:Int)else -1)else fE q a n
theorem QH{q:Nat->al}{a:Int}{k:Nat}(h:fE q a k≠-1):∀d,fE q a (k+d)=fE q a k
 |0=>rfl
 |d+1=>by have:=QH h d;show(if fE q a (k+d) = -1 then _ else fE q a (k+d))=_;omega
theorem ae9{q:Nat->al}{a:Int}:∀n,-1<=fE q a n/\fE q a n<n/\(fE q a n = -1\/a<=fE q a n)
 |0=>⟨by unfold fE;omega,by unfold fE;omega,.inl rfl⟩
 |n+1=>by have:=ae9 (q:=q) (a:=a) n;unfold fE;omega
def NxL(l o6 wY:Nat)(ak:cc)(a:Int)(ao:Nat)(au h:ae)(U:Nat):Prop:=u h l=some (.loop 0 none ak [8] mZ m5)/\u h o6=some (.cells [(a:X)] false)/\u h wY=some (.cells [.int .i64 0] false)/\(∀c,c<ao->u h c=u au c)
def LG(l o6 wY:Nat)(ak:cc)(a:Int)(q:Nat->al)(ao bh:Nat)(au:ae)(k:Nat)(h:ae)(U:Nat):Prop:=fE q a k = -1/\NxL l o6 wY ak a ao au h U/\U=bh
def NxD(l wY:Nat)(ak:cc)(a:Int)(q:Nat->al)(ao bh n:Nat)(au:ae)(h:ae)(U:Nat):Prop:=u h l=some (.loop 2 (some .ret) ak [8] mZ m5)/\u h wY=some (.cells [.int .i64 (fE q a n)] false)/\(∀c,c<ao->u h c=u au c)/\U=bh
theorem ayp{l M L ao n:Nat}{a:Int}{q:Nat->al}{V:ae}(bb:l≠M/\l≠L/\M≠L/\ao<=l/\ao<=M/\ao<=L){k:Nat}{h:ae}{U:Nat}(hk:k<n)(cM:q k=true)(rJ:LG l M L (p9 iE ah (bd L) (bd M) t1) a q ao bh V k h U):
  lN Q s l [(k:X)] h U (λr ac Y=>(r = .bool true/\LG l M L (p9 iE ah (bd L) (bd M) t1) a q ao bh V (k+1) ac Y)\/(r = .bool false/\NxD l L (p9 iE ah (bd L) (bd M) t1) a q ao bh n V ac Y)):=by
 obtain⟨h1,ar,aL,bm⟩:=bb;obtain⟨ez,⟨Z,epa,epr,elo⟩,rfl⟩:=rJ;refine ano Z ?_;unfold Pz abn;refine⟨none,Z,?_⟩;generalize p9 iE ah (bd L) (bd M) t1=ak at *
 have bB:u (T h l (.loop 1 none ak [8] mZ m5)) M=some (.cells [(a:X)] false):=ab
 have g2:u (T h l (.loop 1 none ak [8] mZ m5)) L=some (.cells [.int .i64 0] false):=ab
 refine cL @bB @g2 ?_;refine⟨λa6=>⟨1,none,ab,.inr ⟨ab,?_,λc aZ=>?_,rfl⟩⟩,λa6=>⟨1,none,ab,.inl ⟨?_,⟨ab,?_,?_,ab⟩,rfl⟩⟩⟩
 ·have aV:fE q a (k+1)=(k:Int):=by
   show(if fE q a k = -1 then(if q k=true/\a<=(k:Int)then(k:Int)else -1)else fE q a k)=_
   grind
  have aP:fE q a n=fE q a (k+1):=by
   have:=QH (q:=q) (a:=a) (k:=k+1) J (n-(k+1))
   grind
  grind
 ·grind
 ·show(if fE q a k = -1 then(if q k=true/\a<=(k:Int)then(k:Int)else -1)else fE q a k)=_;omega
 all_goals grind
theorem auk{q:Nat->al}{a:Int}{k:Nat}(h:q k=false):fE q a (k+1)=fE q a k:=by
 show(if fE q a k = -1 then(if q k=true/\a<=(k:Int)then(k:Int)else -1)else fE q a k)=_
 grind
theorem PC{n:Nat}{a:Int}{q:Nat->al}{v:X}{h:ae}{U:Nat}(bH:n<=63)(aJ:cN h U v jU (eS n q)):
  aH Q s 473 [v,(a:X)] h U (λr ac Y=>r = .int .i64 (fE q a n)/\aA U h ac/\U<=Y):=by
 refine arm ?_;obtain⟨D9,cap,rfl,aZ⟩:=id aJ;unfold adD;refine aF ?_;refine Rg ?_;unfold KN;refine aF ?_;show aH Q s 288 [.func (.yield (U+1+1+1)) ⟨[]⟩ ⟨[]⟩,.pointer (some ⟨U+1+1,0,none⟩)] _ _ _;generalize Z:p9 (.func (.func 288) ⟨[]⟩ ⟨[.pointer (some ⟨U+1+1,0,none⟩)]⟩) (.slice D9 (eS n q).length cap) (.pointer (some ⟨U+1,0,none⟩)) (bd U) (a:X)=ak;generalize fJ:T (T (T (T h U (.cells [(a:X)] false)) (U+1) (.cells [.int .i64 0] false)) (U+1+1) (.cells [.slice D9 (eS n q).length cap] false)) (U+1+1+1) (.loop 0 none ak [8] mZ m5)=H;have L:cN H (U+1+1+1+1) (.slice D9 (eS n q).length cap) jU (eS n q):=aJ.F aK J;have M:u H (U+1+1)=some (.cells [.slice D9 (eS n q).length cap] false):=ab
 have aj:LG (U+1+1+1) U (U+1) ak a q U (U+1+1+1+1) h 0 H (U+1+1+1+1):=
  ⟨rfl,⟨ab,ab,ab,ab⟩,rfl⟩
 have ju:aH Q s 288 [.func (.yield (U+1+1+1)) ⟨[]⟩ ⟨[]⟩,.pointer (some ⟨U+1+1,0,none⟩)] H (U+1+1+1+1) (λ_ ac Y=>LG (U+1+1+1) U (U+1) ak a q U (U+1+1+1+1) h n ac Y\/NxD (U+1+1+1) (U+1) ak a q U (U+1+1+1+1) n h ac Y):=by
  by_cases cZ:n=0
  ·subst cZ;refine(abm  L M).mono ?_
   grind
  ·have fe:eS n q=[mk n q]:=if_neg cZ;rw[fe]at L M Z;refine arl bH L M aj (λk ac Y hk V=>?_) λk ac Y hk cM V=>by subst Z;exact ayp J hk cM V
   exact⟨by rw[auk hk];exact V.1,V.2.1,V.2.2⟩
 refine ju.mono ?_;rintro _ ac Y (⟨ez,⟨el,epa,epr,elo⟩,rfl⟩|⟨el,epr,elo,rfl⟩)
 ·refine⟨0,none,ak,[8],mZ,m5,el,J,.inl ⟨rfl,?_⟩⟩;have bB:u (T ac (U+1+1+1) (.loop 3 none ak [8] mZ m5)) (U+1)=some (.cells [.int .i64 0] false):=ab
  refine bg @bB ?_;refine⟨by rw[ez],λc aZ=>?_,J⟩
  grind
 ·refine⟨2,some .ret,ak,[8],mZ,m5,el,J,.inr ⟨rfl,?_⟩⟩;have bB:u (T ac (U+1+1+1) (.loop 3 (some .ret) ak [8] mZ m5)) (U+1)=some (.cells [.int .i64 (fE q a n)] false):=ab
  refine bg @bB ?_;refine⟨λc aZ=>?_,J⟩
  grind
def KQ(n:Nat)(q:Nat->al)(U:Nat)(h:ae):bP:=λr ac Y=>eH ac U Y r jU (eS n q)/\aA U h ac/\U<=Y
theorem se.w{n U:Nat}{q:Nat->al}{h:ae}{r:X}{ac:ae}{Y:Nat}(L:n≠0)(H:se (mk n q) U h r ac Y):KQ n q U h r ac Y:=by obtain⟨b,c,aO,rfl,h1,V,Z,bm,M⟩:=H;unfold KQ eS;rw[if_neg L];exact⟨⟨_,_,rfl,λ_=>⟨b,aO,false,h1,V,rfl,Z⟩⟩,bm,M⟩
theorem Xt{n:Nat}{h:ae}{U:Nat}(M:n<=64):aH Q s 195 [(n:X)] h U (λr ac Y=>r = .int .i64 (if n=0 then 0 else 1)/\ac=h/\Y=U):=by
 by_cases L:n=0
 ·subst L;refine aa1 ?_;unfold Qw;have e:bin Q .shr 3 (.int .i64 (IntKind.wrap .i64 (0+63))) (.int .u64 6) = .ok (.int .i64 0):=rfl;simp(disch:=omega)only[bn,↓reduceIte,Nat.reduceAdd,Nat.reduceSub,Nat.reduceMul,Nat.reduceLT,Nat.reduceLeDiff,Nat.reduceEqDiff,Int.reduceBEq,Int.reduceLT,Int.reduceNeg,show max ((0:Nat):Int) 0=0 from rfl,show min (0:Int) 4096=0 from rfl,e]
 ·rw[if_neg L];exact YZ J M
theorem abr{n:Nat}{h:ae}{U:Nat}(bH:n<=63):aH Q s 117 [(n:X)] h U (KQ n (λ_=>false) U h):=by
 by_cases L:n=0
 ·subst L;refine aeW ?_;refine(Xt J).mono ?_;rintro r Z bX ⟨rfl,V,M⟩;rw[V,M,if_pos rfl];show d4 (tf [.int .u64 0] (((0:Nat):X)) (((0:Nat):X))) h U _;refine aF ?_;exact⟨⟨_,_,rfl,λh=>absurd rfl h⟩,aK,J⟩
 ·refine(adm J J).mono ?_;intro r ac jM H;refine se.w L ?_;rw[O5];exact H
theorem J3{n:Nat}{l:aa Nat}{v:X}{h:ae}{U:Nat}(bH:n<=63)(aJ:cN h U v c3 (fX l))(V:∀x∈l,x<n)(L:l.length<1000000):aH Q s 108 [(n:X),v] h U (KQ n (mO l) U h):=by
 by_cases Z:n=0
 ·subst Z;have:l=[]:=by
   cases l with
   |nil=>rfl
   |cons x l=>exact absurd (V x ab) J
  subst this;refine af7 ?_;obtain⟨a,cap,rfl,aZ⟩:=id aJ;refine(abr J).mono ?_;rintro r ar bX ⟨a5,hk,M⟩;obtain⟨k3,b0,rfl,_⟩:=a5;refine aF ?_;refine bD.mk (λm aE ac Y=>aE=[((0:Nat):X),.slice k3 0 b0,.slice a 0 cap,.int .i64 0,.int .i64 0]/\ac=ar/\Y=bX) 0 ⟨rfl,rfl,rfl⟩ ?_;rintro _ _ ac Y ⟨rfl,aV,aP⟩;rw[aeV,aV,aP];unfold Rf;refine aF ?_;exact λ_=>⟨⟨k3,b0,rfl,λh=>absurd rfl h⟩,hk,M⟩
 ·refine(awq J J aJ V L).mono ?_;intro r ac jM H;exact se.w Z H
theorem aj8{n:Nat}{p:Nat->al}{v:X}{h:ae}{U:Nat}(h1:n<=63)(L:cN h U v jU (eS n p)):aH Q s 111 [v] h U (λr ac Y=>r = .int .i64 ((eh n p).length:Int)/\ac=h/\Y=U):=by
 by_cases M:n=0
 ·subst M;refine aaZ ?_;unfold Qu;obtain⟨a,cap,rfl,aZ⟩:=id L;simp(disch:=omega)only[bn,show(eS 0 p).length=0 from rfl,seval];refine bD.mk (λm aE ac Y=>aE=[.int .i64 0,.slice a 0 cap,.int .i64 0,.int .i64 0]/\ac=h/\Y=U) 0 ab ?_;rintro _ _ ac Y ⟨rfl,Z,V⟩;rw[Ov,Z,V];unfold Jl;refine aF ?_;exact λ_=>rfl
 ·rw[show eS n p=[mk n p]from if_neg M]at L;exact amW h1 L
theorem Xu{n:Nat}{q:Nat->al}{v:X}{h:ae}{U:Nat}(Z:n<=63)(L:cN h U v jU (eS n q)):aH Q s 437 [v,(n:X)] h U (λr ac Y=>r = .bool true/\aA U h ac/\U<=Y):=by
 refine am4 ?_;obtain⟨a,cap,rfl,aZ⟩:=id L;have V:(((eS n q).length:Nat):Int)=if n=0 then 0 else 1:=by unfold eS;grind
 have ez:fE q (n:Int) n = -1:=by have:=ae9 (q:=q) (a:=(n:Int)) n;omega
 unfold abf;refine aF ?_;refine⟨λ_=>⟨λ_=>?_,J⟩,J⟩;refine(Xt J).mono ?_;rintro r ar bX ⟨rfl,aV,M⟩;rw[aV,M,V];refine aF ?_;refine⟨λ_=>?_,aK⟩;refine(PC Z L).mono ?_;rintro r aL bS ⟨rfl,hk,dR⟩;rw[ez];refine aF ?_;exact aK
theorem aul{n:Nat}{q:Nat->al}(h:i<n):mO (eh n q) i=q i:=by
 unfold mO eh
 grind
theorem QI{n:Nat}{q:Nat->al}:eS n (mO (eh n q))=eS n q:=by unfold eS;rw[Cr λi aj=>aul  aj]
theorem kF.gr{az:Type}{h:ae}{v:X}{enc:az->aa X}{k:Nat}{l:aa az}{ao aj:Nat}(H:kF h v enc k l P)(V:∀d,P d->ao<=d/\d<aj):eH h ao aj v enc l:=by
 rcases H with⟨rfl,rfl⟩|⟨d,M,rfl,L⟩
 ·exact⟨_,_,rfl,λh=>absurd rfl h⟩
 ·exact⟨_,_,rfl,λ_=>⟨d,some k,false,ab,ab,rfl,L⟩⟩
def lF(h:ae)(ao aj:Nat)(v:X)(low ma:Int)(n:Nat)(A B:aa Int)(q:Nat->al):Prop :=
 ∃dp fB fg,v = .agg ⟨[(low:X),(ma:X),dp,fB,fg]⟩/\eH h ao aj dp c3 A/\eH h ao aj fB c3 B/\eH h ao aj fg jU (eS n q)
def cz(n:Nat)(f:Nat->Int):aa Int:=(List.range n).map f
theorem F2(n:Nat)(f:Nat->Int):cz (n+1) f=cz n f++[f n]:=by unfold cz;rw[p4,iF];rfl
theorem i7(n:Nat)(f:Nat->Int):(cz n f).length=n:=by unfold cz;grind
theorem JM(n:Nat)(q:Nat->al):fX (eh (n+1) q)=fX (eh n q)++(if q n then[(n:Int)]else[]):=by rw[Ko];unfold fX;grind
def ChS(ao:Nat)(ac:ae)(Y:Nat)(dp fB o:X)(A B L:aa Int):Prop :=
 ∃HY Ea xa:Nat->Prop,kF ac dp c3 1 A HY/\kF ac fB c3 1 B Ea/\kF ac o c3 1 L xa/\(∀d,HY d->ao<=d/\d<Y/\¬Ea d/\¬xa d)/\(∀d,Ea d->ao<=d/\d<Y/\¬xa d)/\(∀d,xa d->ao<=d/\d<Y)
def ChJ(n cR p12:Nat)(j4:X)(mv lX:Nat->Int)(q:Nat->al)(low ma:Int)(U:Nat)(au:ae)(m:Nat)(aE:aa X)(ac:ae)(Y:Nat):Prop :=
 ∃(i:Nat) (dp fB o:X),m=n-i/\i<=n/\aE=[(n:X),j4,bd cR,bd p12,o,(n:X),(i:X)] /\
  u ac p12=some (.cells [(low:X),(ma:X),dp,fB,.slice none 0 0] false)/\ChS (U+3) ac Y dp fB o (cz i mv) (cz i lX) (fX (eh i q))/\u ac (U+1)=some (.cells [.int .i64 0,.int .i64 0,.slice none 0 0,.slice none 0 0,.slice none 0 0] false)/\aA U au ac/\U+3<=Y
theorem Xv{n:Nat}{mv lX:Nat->Int}{q:Nat->al}{aB a2 a3:aw Addr}{bX bS c1 ci:Nat}{h:ae}{U:Nat}(bH:n<=63)(bK:∀(i:Nat) (ac:ae) (Y:Nat),i<n->aA U h ac->U<=Y->aH Q s dK ((i:X)::cs) ac Y (λr ar bX=>r = .tuple ⟨[.int .i64 (mv i),.int .i64 (lX i),.bool (q i)]⟩/\aA Y ac ar/\Y<=bX)):
  aH Q s 208 [.agg ⟨[(low:X),(ma:X),.slice aB bh c1,.slice a2 bX c2,.slice a3 bS ci]⟩,(n:X),.func (.func dK) ⟨[]⟩ ⟨cs⟩] h U (λr ac Y=>lF ac U Y r low ma n (cz n mv) (cz n lX) q/\aA U h ac/\U<=Y):=by
 refine ajY ?_;unfold Y2;refine aF ?_;have bZ:∀{o aX kZ fZ},aA U h (T (T (T (T h U o) (U+1) aX) (U+2) kZ) (U+2) fZ):=aK
 refine bD.mk (ChJ n (U+1) (U+2) (.func (.func dK) ⟨[]⟩ ⟨cs⟩) mv lX q low ma U h) n ⟨0,_,_,_,J,J,rfl,ab,⟨λ_=>False,λ_=>False,λ_=>False,.inl ⟨rfl,rfl⟩,.inl ⟨rfl,rfl⟩,.inl ⟨rfl,rfl⟩,ab,ab,ab⟩,ab,bZ,J⟩ ?_;rintro _ _ h1 m1 ⟨i,dp,fB,o,rfl,aj,rfl,LH,⟨HY,Ea,xa,Eb,Bj,UO,cY,aT,aZ⟩,g11,hk,dR⟩;obtain⟨bz,pT,rfl⟩:=Eb.form;obtain⟨bU,gu,rfl⟩:=Bj.form;obtain⟨eP,cX,rfl⟩:=UO.form;rw[aii];unfold Wp;refine aF ?_;refine⟨λcA=>?_,λeN=>?_⟩
 ·refine(bK i h1 m1 J hk J).mono ?_;rintro r ar V ⟨rfl,M,eZ⟩;have g2:u ar (U+2)=_:=(M (U+2) J).trans LH;have SA2:=Eb.F   λd L=>⟨M d ab,L⟩
  have SB2:=Bj.F   λd L=>⟨M d ab,L⟩
  have SC2:=UO.F   λd L=>⟨M d ab,L⟩
  refine bg @g2 ?_;refine JL (k:=1) (λ_=>rfl) (λ_=>rfl) J  (SA2.F  λd L=>⟨ab,L⟩) rfl (mv i) (aS _ _ _) rfl (by rw[i7];omega) λTl aL LI yr=>?_;obtain⟨Hm,Z,rfl⟩:=LI.form;have dj:=(show u aL (U+2)=u ar (U+2) by grind).trans g2;refine bg @dj ?_;have SB3:=SB2.F (ac:=T aL (V+2) (.cells [.int .i64 (lX i)] false))  λd L=>by exact⟨ab,L⟩
  refine⟨J,JL (k:=1) (λ_=>rfl) (λ_=>rfl) J   SB3 rfl (lX i) (aS _ _ _) rfl (by rw[i7];omega) λTm bm LJ AP=>?_⟩;obtain⟨Hn,Ho,rfl⟩:=LJ.form;have dL:=(show u bm (U+2)=u aL (U+2) by grind).trans dj;refine bg @dL ?_;refine⟨J,?_⟩;obtain⟨h8,fJ⟩:∃h8,h8=T (T bm (U+2) (.cells [(low:X),(ma:X),.slice Hm (cz i mv++[mv i]).length Z,.slice bU (cz i lX).length gu,.slice none 0 0] false)) (U+2) (.cells [(low:X),(ma:X),.slice Hm (cz i mv++[mv i]).length Z,.slice Hn (cz i lX++[lX i]).length Ho,.slice none 0 0] false):=⟨_,rfl⟩
  rw[<-fJ];have gc:u h8 (U+2)=some (.cells [(low:X),(ma:X),.slice Hm (cz i mv++[mv i]).length Z,.slice Hn (cz i lX++[lX i]).length Ho,.slice none 0 0] false):=ab
  have aP:∀d,d≠U+2->d<V->¬HY d->¬Ea d->u h8 d=u ar d:=ab
  have pU:aA U h h8:=aK
  have g51:u h8 (U+1)=some (.cells [.int .i64 0,.int .i64 0,.slice none 0 0,.slice none 0 0,.slice none 0 0] false):=by rw[aP (U+1) J J (λbk=>ab) (λbk=>ab),M _ J];omega
  have SA5:=LI.F (ac:=h8) (o5:=λd=>d=V+1) ab;have SB5:=LJ.F (ac:=h8) (o5:=λd=>d=V+3) ab;have SC5:=SC2.F (ac:=h8) (o5:=xa) λd L=>by exact⟨ab,L⟩
  have fe:IntKind.wrap .i64 ((i:Int)+1)=((i+1:Nat):Int):=cG J;refine⟨λcM=>?_,λcM=>?_⟩
  ·refine JL (k:=1) (λ_=>rfl) (λ_=>rfl) J (U:=V+5) (o5:=λd=>d=V+5) (SC5.F (ac:=T h8 (V+4) (.cells [(i:X)] false)) (o5:=xa) λd L=>⟨ab,L⟩) rfl (i:Int) (aS _ _ _) rfl (by unfold fX;rw[gH];have:=uB i q;omega) λvo' cF SC6 wL=>?_;have ik:∀d,d≠V+4->d≠V+5->¬xa d->u cF d=u h8 d:=λd h1 ar aL=>ab
   refine⟨n-(i+1),J,i+1,.slice Hm (cz i mv++[mv i]).length Z,.slice Hn (cz i lX++[lX i]).length Ho,vo',rfl,J,by rw[fe],?_,⟨λd=>d=V+1,λd=>d=V+3,λd=>d=V+5,?_,?_,?_,?_,?_,?_⟩,?_,?_,J⟩
   ·grind
   ·rw[F2];exact SA5.F λd L=>⟨ik d J J (λbk=>ab),L⟩
   ·rw[F2];exact SB5.F λd L=>⟨ik d J J (λbk=>ab),L⟩
   ·rw[JM,if_pos cM];exact SC6
   ·omega
   ·omega
   ·omega
   ·grind
   ·intro d L;rw[ik d J J (λbk=>ab)];exact pU d L
  ·refine⟨n-(i+1),J,i+1,.slice Hm (cz i mv++[mv i]).length Z,.slice Hn (cz i lX++[lX i]).length Ho,.slice eP (fX (eh i q)).length cX,rfl,J,by rw[fe],gc,⟨λd=>d=V+1,λd=>d=V+3,xa,?_,?_,?_,?_,?_,?_⟩,g51,pU,J⟩
   ·rw[F2];exact SA5
   ·rw[F2];exact SB5
   ·rw[JM,if_neg ab,hZ];exact SC5
   all_goals grind
 ·have:i=n:=J
  subst this;refine(J3 bH ((UO.gr (ao:=0) (aj:=m1) λd L=>ab).rd) (λx a1=>by unfold eh at a1;grind) (by have:=uB i q;omega)).mono ?_;rintro r ar V ⟨a5,M,eZ⟩;rw[QI]at a5;obtain⟨k3,b0,rfl,yE⟩:=id a5;have g2:=(M (U+2) J).trans LH;refine bg @g2 ?_;have dj:=(M (U+1) J).trans g11;refine bg @dj ?_;have gF:∀{o aX} d,d≠U+1->d≠U+2->u (T (T ar (U+2) o) (U+1) aX) d=u ar d:=λd h1 ar=>ab
  refine⟨⟨_,_,_,rfl,(Eb.F (o5:=HY) λd L=>⟨?_,L⟩).gr λd L=>ab,(Bj.F (o5:=Ea) λd L=>⟨?_,L⟩).gr λd L=>ab,⟨k3,b0,rfl,λe0=>?_⟩⟩,λd L=>?_,J⟩
  ·have:=cY d L;rw[gF d J J,M d J]
  ·have:=aT d L;rw[gF d J J,M d J]
  ·obtain⟨b,aO,bJ,dE,b4,dZ,fA⟩:=yE e0;exact⟨b,aO,bJ,J,b4,dZ,ab⟩
  ·rw[gF d J J,M d J];exact hk d L
def sc(k src v:Int):Int:=if k=3 then v else if k=5 then 0 else if k=4/\v=src then 1 else if v=src\/k=4 then 0 else if k=1 then -1 else 4611686018427387904
def sd(k src v:Int):al:=if k=3 then true else if k=5 then false else decide (v=src)
theorem anu{k n v:Int}{a:aw Addr}{c:Nat}{h:ae}{U:Nat}:aH Q s 210 [.agg ⟨[(k:X),(n:X),(src:X),(len:X),.slice a tT c]⟩,(v:X)] h U (dC (.tuple ⟨[.int .i64 (sc k src v),.bool (sd k src v)]⟩) U h):=by
 refine aqY ?_;have bZ:∀{o},aA U h (T h U o):=aK
 have V:∀{w o},dC w U h w (T h U o) (U+1):=⟨rfl,bZ,J⟩
 have Z:((v == src):al)=decide (v=src):=rfl;unfold adt sc sd
 by_cases L:k=3
 ·refine bg @L ?_;exact⟨rfl,bZ,J⟩
 by_cases M:k=5
 ·refine cL @L @M ?_;exact⟨rfl,bZ,J⟩
 have dj:((k == 3):al)=false:=ab
 have gc:((k == 5):al)=false:=ab
 by_cases ap:v=src <;> by_cases bm:k=4
 ·refine uG @L @M @bm @ap @Z ?_;unfold B2;refine aF ?_;simp[V]
 ·have dL:((k == 4):al)=false:=ab
  simp(disch:=omega)only[bn,L,M,bm,ap,Z,dj,dL,gc,seval];unfold B2;refine aF ?_;simp[V]
 ·refine uG @L @M @bm @ap @Z ?_;unfold B2;refine aF ?_;simp[V]
 ·have dL:((k == 4):al)=false:=ab
  simp(disch:=omega)only[bn,L,M,bm,ap,Z,dj,dL,gc,seval];unfold B2 Y3
  by_cases h1:k=1
  ·refine bg @h1 ?_;simp[V]
  ·have bB:((k == 1):al)=false:=ab
   refine hK @h1 @bB @dL ?_;simp[V]
theorem aj9{k n:Int}{a:aw Addr}{c L:Nat}{eo gY:al}{h:ae}{U:Nat}(h1:u h L=some (.cells [(k:X),(n:X),(src:X),(len:X),.slice a tT c] eo))(V:u h pl=some (.cells [(low:X)] gY))(aj:i<10000)(bb:0<=low/\low<10000):
  aH Q s 209 [(i:X),bd L,bd pl] h U (λr ac Y=>r = .tuple ⟨[.int .i64 (sc k src (low+i)),.int .i64 (-1),.bool (sd k src (low+i))]⟩/\aA U h ac/\U<=Y):=by
 refine am1 ?_;unfold aa9;have M:IntKind.wrap .i64 (low+(i:Int))=low+i:=by
  obtain⟨m,rfl⟩:∃m:Nat,low=m:=⟨low.toNat,J⟩
  exact iT (m+i) J
 refine hK @h1 @V @M ?_;refine anu.mono ?_;rintro r aL bS ⟨rfl,hk,Z⟩;refine aF ?_;exact aK
theorem lF.wid{h ac:ae}{ao aj d6 dy:Nat}{v:X}{n:Nat}{q:Nat->al}(ap:lF h ao aj v low ma n A B q)(M:∀d,ao<=d->d<aj->u ac d=u h d)(V:d6<=ao)(L:aj<=dy):lF ac d6 dy v low ma n A B q:=by obtain⟨Z,fB,fg,e,a,b,c⟩:=ap;exact⟨Z,fB,fg,e,eH.F a M V L,eH.F b M V L,eH.F c M V L⟩
theorem anv{k n:Int}{low:Nat}{v:X}{h:ae}{U:Nat}(aJ:cN h U v c3 bM)(bk:iU k n src len bM=0)(bl:m<=63)(fm:((low+m:Nat):Int)<=n)(bH:n<=4096):
  aH Q s 125 [.agg ⟨[(k:X),(n:X),(src:X),(len:X),v]⟩,(low:X),((low+m:Nat):X)] h U (λr ac Y=>lF ac U Y r low ((low+m:Nat):Int) m (cz m λi=>sc k src (low+i)) (cz m λ_=>-1) (λi=>sd k src (low+i))/\aA U h ac/\U<=Y):=by
 refine aqS ?_;obtain⟨a,cap,rfl,aZ⟩:=id aJ;have bZ:∀{o aX kZ},aA U h (T (T (T h U o) (U+1) aX) (U+2) kZ):=aK
 unfold adp;refine aF ?_;refine(IV (aJ.F bZ J)).mono ?_;rintro _ h1 bh ⟨rfl,L,fy⟩;have bB:=L (U+1) J;rw[aq J,aS]at bB;have cv:=L U J;rw[aq J,aq J,aS]at cv;have V:=L (U+2) J;rw[aS]at V;refine k7 @bk @cv @bB @V ?_;refine⟨λh=>absurd h J,λ_=>⟨λh=>absurd h J,λ_=>?_⟩⟩;rw[show decide (n<((low+m:Nat):Int))=false from hl J];unfold Fe;have fe:IntKind.wrap .i64 (((low+m:Nat):Int)-(low:Int))=(m:Int):=by rw[show((low+m:Nat):Int)-(low:Int)=(m:Int) by omega];exact iT m J
 refine k7 @cv @bB @V @fe ?_;refine(Xv (mv:=λi=>sc k src (low+i)) (lX:=λ_=>-1) (q:=λi=>sd k src (low+i)) bl λi ac Y aj M wl=>?_).mono ?_
 ·exact aj9  (gY:=false) ((M U J).trans (by rw[aq J,aq J];omega)) ((M (U+1) J).trans ab) J J
 rintro r aL bS ⟨dI,e8,gA⟩;have Z:=dI;obtain⟨dp,fB,fg,rfl,fK,ha,ge⟩:=dI;obtain⟨aB,c1,rfl,_⟩:=id fK;obtain⟨a2,c2,rfl,_⟩:=id ha;obtain⟨a3,ci,rfl,_⟩:=id ge;have dj:=e8 (U+2) J;rw[aq J,aq J,V]at dj;refine bg @dj ?_;exact⟨Z.wid ab J J,aK,J⟩
def hf(h:ae)(U:Nat)(v:X)(low ma:Int)(n:Nat)(A B:aa Int)(q:Nat->al):Prop :=
 ∃dp fB fg,v = .agg ⟨[(low:X),(ma:X),dp,fB,fg]⟩/\cN h U dp c3 A/\cN h U fB c3 B/\cN h U fg jU (eS n q)
theorem lF.rd{h:ae}{ao aj:Nat}{v:X}{low ma:Int}{n:Nat}{A B:aa Int}{q:Nat->al}(Z:lF h ao aj v low ma n A B q):hf h aj v low ma n A B q:=by obtain⟨L,V,M,e,a,b,c⟩:=Z;exact⟨L,V,M,e,a.rd,b.rd,c.rd⟩
theorem hf.F{h ac:ae}{U Y:Nat}{v:X}{low ma:Int}{n:Nat}{A B:aa Int}{q:Nat->al}(ap:hf h U v low ma n A B q)(M:aA U h ac)(L:U<=Y):hf ac Y v low ma n A B q:=by obtain⟨V,fB,Z,e,a,b,c⟩:=ap;exact⟨V,fB,Z,e,a.F M L,b.F M L,c.F M L⟩
theorem aum{k n:Int}{low:Nat}{q:Nat->al}{v:X}{h:ae}{U:Nat}(aJ:cN h U v c3 bM)(bk:iU k n src len bM=0)(bl:m<=63)(fm:((low+m:Nat):Int)<=n)(bH:n<=4096)(ap:hf h U aE low ((low+m:Nat):Int) m A B q)(hs:A.length=m)(et:B.length=m):
  aH Q s 371 [.agg ⟨[(k:X),(n:X),(src:X),(len:X),v]⟩,aE] h U (dC (.bool true) U h):=by
 refine aww ?_;obtain⟨a,cap,rfl,aZ⟩:=id aJ;obtain⟨dp,fB,fg,rfl,fK,ha,ge⟩:=ap;obtain⟨aB,c1,rfl,_⟩:=id fK;obtain⟨a2,c2,rfl,_⟩:=id ha;obtain⟨a3,ci,rfl,_⟩:=id ge;have bZ:∀{o aX},aA U h (T (T h U o) (U+1) aX):=aK
 unfold age;refine aF ?_;refine(IV (aJ.F bZ J)).mono ?_;rintro _ h1 bh ⟨rfl,L,Z⟩;have M:=L (U+1) J;rw[aS]at M;have V:=L U J;rw[aq J,aS]at V;refine hK @bk @V @M ?_;refine⟨λh=>absurd h J,λ_=>⟨λh=>absurd h J,λ_=>?_⟩⟩;rw[show decide (n<((low+m:Nat):Int))=false from hl J];unfold F1;have fe:IntKind.wrap .i64 (((low+m:Nat):Int)-(low:Int))=(m:Int):=by rw[show((low+m:Nat):Int)-(low:Int)=(m:Int) by omega];exact iT m J
 refine uG @V @M @fe @hs @et ?_;have cJ:aA U h h1:=aK
 refine⟨λ_=>⟨λ_=>?_,λh=>absurd h (by simp)⟩,λh=>absurd h (by simp)⟩;refine(Xu bl (ge.F  cJ J)).mono ?_;rintro r ar bX ⟨rfl,ei,eZ⟩;exact⟨rfl,aK,J⟩
theorem JN{k n:Int}{low:Nat}{q:Nat->al}{v:X}{h:ae}{U:Nat}(aJ:cN h U v c3 bM)(bk:iU k n src len bM=0)(bl:m<=63)(fm:((low+m:Nat):Int)<=n)(bH:n<=4096)(ap:hf h U aE low ((low+m:Nat):Int) m A B q)(hs:A.length=m)(et:B.length=m):
  aH Q s 299 [.agg ⟨[(k:X),(n:X),(src:X),(len:X),v]⟩,aE] h U (dC aE U h):=by
 refine aug ?_;obtain⟨a,cap,rfl,aZ⟩:=id aJ;have M:=ap;obtain⟨dp,fB,fg,rfl,fK,ha,ge⟩:=ap;obtain⟨aB,c1,rfl,_⟩:=id fK;obtain⟨a2,c2,rfl,_⟩:=id ha;obtain⟨a3,ci,rfl,_⟩:=id ge;have Z:∀{o aX kZ},aA U h (T (T (T h U o) (U+1) aX) (U+2) kZ):=aK
 unfold ae5;refine aF ?_;refine(aum (aJ.F Z J) bk bl fm bH (M.F Z J) hs et).mono ?_;rintro _ h1 bh ⟨rfl,L,V⟩;have bB:=L (U+1) J;rw[aq J,aS]at bB;have g2:=L (U+2) J;rw[aS]at g2;refine cL @bB @g2 ?_;exact⟨rfl,aK,J⟩
def ql(k len round:Int)(m:Nat)(A:aa Int)(q:Nat->al):Nat:=if k=4/\len<=round then 0 else if k=5 then(A.filter λa=>a == 0).length else(eh m q).length
def LvJ(dp:X)(A:aa Int)(h:ae)(U:Nat)(m:Nat)(aE:aa X)(ac:ae)(Y:Nat):Prop :=
 ∃i,m=A.length-i/\i<=A.length/\aE=[.int .i64 (((A.take i).filter λa=>a == 0).length:Int),dp,(A.length:X),(i:X)]/\ac=h/\Y=U
theorem arp{k n round:Int}{low:Nat}{q:Nat->al}{v:X}{h:ae}{U:Nat}(aJ:cN h U v c3 bM)(bk:iU k n src len bM=0)(bl:m<=63)(fm:((low+m:Nat):Int)<=n)(bH:n<=4096)(ap:hf h U aE low ((low+m:Nat):Int) m A B q)(hs:A.length=m)(et:B.length=m):
  aH Q s 212 [.agg ⟨[(k:X),(n:X),(src:X),(len:X),v]⟩,aE,(round:X)] h U (dC (.int .i64 (ql k len round m A q:Int)) U h):=by
 refine aub ?_;obtain⟨a,cap,rfl,aZ⟩:=id aJ;have nY:=ap;obtain⟨dp,fB,fg,rfl,fK,ha,ge⟩:=ap;obtain⟨aB,Z,rfl,qv⟩:=id fK;obtain⟨a2,c2,rfl,_⟩:=id ha;obtain⟨a3,ci,rfl,_⟩:=id ge;have bZ:∀{o aX},aA U h (T (T h U o) (U+1) aX):=aK
 unfold ae0;refine m8 ?_;refine(JN (aJ.F bZ J) bk bl fm bH (nY.F bZ J) hs et).mono ?_;rintro _ h1 bh ⟨rfl,L,fy⟩;have cv:=L U J;rw[aq J,aS]at cv;have bB:=L (U+1) J;rw[aS]at bB;refine te @cv @bB ?_;have V:∀{o},aA U h (T h1 (U+1) o):=aK
 have g1:∀{o},aH Q s 111 [.slice a3 (eS m q).length ci] (T h1 (U+1) o) bh (dC (.int .i64 ((eh m q).length:Int)) U h):=λ{o}=>by refine(aj8 bl (ge.F  V J)).mono ?_;rintro r ar bX ⟨rfl,rfl,rfl⟩;exact⟨rfl,V,J⟩
 unfold ql
 by_cases bm:k=4
 ·refine l5 @bm ?_;refine⟨λa5=>?_,λa5=>?_⟩
  ·rw[if_pos (J:len<=round)];exact⟨rfl,V,J⟩
  ·rw[if_neg (J:¬len<=round),if_neg (J:¬(4:Int)=5)];exact g1
 ·have dL:((k == 4):al)=false:=ab
  by_cases b3:k=5
  ·refine Q3 @bm @dL @b3 ?_;refine bD.mk (LvJ (.slice aB A.length Z) A (T h1 (U+1) (.cells [(low:X),((low+m:Nat):X),.slice aB A.length Z,.slice a2 B.length c2,.slice a3 (eS m q).length ci] false)) bh) A.length ⟨0,J,J,rfl,rfl,rfl⟩ ?_;rintro _ _ ac Y ⟨i,rfl,aj,rfl,aV,aP⟩;rw[aqZ,aV,aP];unfold aba;refine m8 ?_;refine⟨λcA=>?_,λeN=>?_⟩
   ·obtain⟨x,a1⟩:=d1 cA;obtain⟨_,b4,mf,bJ,_,fw,ch,M⟩:=fK.at a1;cases ch;rw[iG]at M;have hgx:=(V (o:=.cells [(low:X),((low+m:Nat):X),.slice (some ⟨b4,0,mf⟩) A.length Z,.slice a2 B.length c2,.slice a3 (eS m q).length ci] false) b4 fw).trans M;have es:((A.take (i+1)).filter λa=>a == 0).length=((A.take i).filter λa=>a == 0).length+(if x == 0 then 1 else 0):=by
     rw[hx,a1,t6,jm]
     grind
    have Tn:IntKind.wrap .i64 ((i:Int)+1)=((i+1:Nat):Int):=cG J;have sq:=y4 (λa=>a == (0:Int)) (A.take i);have hft:(A.take i).length=i:=ab
    have Hp:IntKind.wrap .i64 ((((A.take i).filter λa=>a == 0).length:Int)+1)=((((A.take i).filter λa=>a == 0).length+1:Nat):Int):=cG J;simp(disch:=omega)only[bn,↓reduceIte,Nat.reduceAdd,Nat.reduceSub,Nat.reduceMul,Nat.reduceLT,Nat.reduceLeDiff,Nat.reduceEqDiff,Int.reduceBEq,Int.reduceLT,Int.reduceNeg,hgx,i6 a1,Tn,Hp];refine⟨λau=>?_,λau=>?_⟩
    ·refine⟨A.length-(i+1),J,i+1,rfl,J,?_,rfl,rfl⟩;rw[es,if_pos au]
    ·refine⟨A.length-(i+1),J,i+1,rfl,J,?_,rfl,rfl⟩
     grind
   ·have:i=A.length:=J
    subst this;rw[iQ,if_neg J];exact⟨rfl,V,J⟩
  ·have gc:((k == 5):al)=false:=ab
   refine Gf @bm @dL @b3 @gc ?_;rw[if_neg (λh=>h.1)];exact g1
theorem aka{n:Nat}{h:ae}{U:Nat}(M:1<=n)(L:n<=8):aH Q s 220 [(n:X)] h U (fo (.bool true) U h):=by
 refine abb ?_;unfold QD;refine aF ?_;refine⟨λ_=>⟨?_,rfl,rfl⟩,λh=>absurd h J⟩
 grind
theorem akb{h:ae}{U:Nat}(Z:1<=C)(L:C<=8)(aj:i<8)(b1:j<C):aH Q s 311 [(C:X),(i:X),(j:X)] h U (fo (((i*C+j:Nat):X)) U h):=by
 refine am2 ?_;refine(aka Z L).mono ?_;rintro _ _ _ ⟨rfl,rfl,rfl⟩;have aT:i*C<64:=by have:i*C<=7*8:=rU J L;omega
 have V:IntKind.wrap .i64 ((i:Int)*(C:Int))=((i*C:Nat):Int):=by rw[<-Int.natCast_mul];exact iT _ J
 have M:IntKind.wrap .i64 (((i*C:Nat):Int)+(j:Int))=((i*C+j:Nat):Int):=by rw[<-vy];exact iT _ J
 refine aF ?_;unfold BT;refine cL @V @M ?_;refine⟨λh=>absurd h J,λ_=>⟨λh=>absurd h J,λ_=>⟨λh=>absurd h J,λ_=>⟨λh=>absurd h J,λ_=>?_⟩⟩⟩⟩;rw[zy,V];simp only[af,O1,M];exact⟨rfl,rfl,rfl⟩
def du(c:Nat->X):aa X:=[c 0,c 1,c 2,c 3,c 4,c 5,c 6,c 7,c 8,c 9,c 10,c 11,c 12,c 13,c 14,c 15,c 16,c 17,c 18,c 19,c 20,c 21,c 22,c 23,c 24,c 25,c 26,c 27,c 28,c 29,c 30,c 31,c 32,c 33,c 34,c 35,c 36,c 37,c 38,c 39,c 40,c 41,c 42,c 43,c 44]
def g9(c:Nat->X)(k:Nat)(v:X):Nat->X:=λn=>if n=k then v else c n
structure ev where
 kind:Int
 e9:Int
 lI:Int
 hE:Int
 round:Int
 lW:Int
 bu:aw Addr
 n6:Nat
 hG:Nat
 ba:aw Addr
 n7:Nat
 i2:Nat
 bx:aw Addr
 n8:Nat
 g3:Nat
 n:Int
 nW:al
def d8(f:ev):aa X:=[(f.kind:X),(f.e9:X),(f.lI:X),(f.hE:X),(f.round:X),(f.lW:X),.slice f.bu f.n6 f.hG,.slice f.ba f.n7 f.i2,.slice f.bx f.n8 f.g3,(f.n:X),.bool f.nW]
theorem EX{M:Nat}{h:ae}{U:Nat}(L:u h M=some (.cells (du c) bJ))(Z:1<=C)(V:C<=8)(aj:i<8)(b1:j<C)(aZ:c 8 = (C:X)):aH Q s 219 [bd M,(i:X),(j:X)] h U (fo (((i*C+j:Nat):X)) U h):=by refine am3 ?_;unfold abe;unfold du at L;refine cL @L @aZ ?_;exact akb Z V aj b1
theorem arq{nx jl z2 z3 Z V Bk rQ M UP L:X}:q5 (pk []) 0 11 [aC,aB,a2,a3,aY,bN,bu,ba,bx,c4,di] [nx,jl,z2,z3,Z,V,Bk,rQ,M,UP,L] = .ok [aC,aB,a2,a3,aY,bN,bu,ba,bx,c4,di]:=rfl
def Cx(Hq:Int)(round n:Int)(nW:al):ev:=⟨4,Hq,0,0,round,0,none,0,0,none,0,0,none,0,0,n,nW⟩
theorem ayq{x y:GE}(h:lm (ee x) (ee y)):mM x y:=by
 rcases h with h|⟨M,L⟩
 ·exact .inl (by have:(x.f:Int)<y.f:=h;omega)
 ·exact .inr ⟨by have:(x.f:Int)=y.f:=M;omega,by have:(x.t:Int)<y.t:=L;omega⟩
theorem arr{Z:aa GE}{N:Nat}(h:ky (Z.map ee) (ag.map ee))(L:∀g∈ag,hi N g)(V:N<=4096)(bb:ag.length<=120):g8 N N ag :=
 ⟨(xj.1 h.up).imp ayq,λg M=>(L g M).1,λg M=>(L g M).2.1,V,V,bb⟩
theorem aun{h:ae}{U n k:Nat}{rd:al}{l:aa X}(M:0<k)(Z:l.length=n*k)(bp:u h b=some (.cells cs rd))(L:u h b4=some (.cells l bJ))(au:0<n)(h1:n*k<1000000):
  dT k h U (.slice (some ⟨b,0,none⟩) 0 0) (.slice (some ⟨b4,0,mf⟩) n c2) = .ok (.val (.slice (some ⟨U,0,some k⟩) n n) (T h U (.cells l false)) (U+1)):=by
 have V:n<=n*k:=Bz n M;have a5:k6 h (some ⟨b4,0,mf⟩) (n.mul k) (λnew=>gT k h U (some ⟨b,0,none⟩) 0 0 n new)=gT k h U (some ⟨b,0,none⟩) 0 0 n l:=by
  rw[show n.mul k=l.length from Z.symm,s2 L J J]
  grind
 show k6 h (some ⟨b4,0,mf⟩) (n.mul k) (λnew=>gT k h U (some ⟨b,0,none⟩) 0 0 n new)=_;rw[a5];unfold gT;rw[show Nat.ble (Nat.add 0 n) 0=false by
  cases L:Nat.ble (Nat.add 0 n) 0 with
  |false=>rfl
  |true=>have:=l0 L;grind]
 rw[show(Nat.ble (Nat.mul (Nat.add 0 n) k) 1000000&&Nat.ble (Nat.add 0 n) 1000000)=true by
  simp only[eC,sW]
  grind]
 unfold q8;simp only[vD bp];rw[show na (Nat.mul 0 k) (m6 cs 0)=some [] by rw[xo,l1];rfl];show qh h U k (kz [] l) (0+n)=_;rw[ka,sU,iR];exact qY M
def yh(c:Int × Int):aa X:=[(c.1:X),(c.2:X)]
theorem anw(l:aa (Int × Int)):(bc yh l).length=l.length*2:=by
 induction l with
 |nil=>rfl
 |cons x l L=>show(yh x++bc yh l).length=_;rw[jm,L,nJ];show 2+_=_;omega
theorem ayr:mY Tryz.prog 43=true:=by kernel_rfl
theorem anx{h:ae}{U:Nat}{v:X}{l:aa (Int × Int)}(aJ:cN h U v yh l)(bb:l.length<100000):
  aH Q s 122 [v] h U (λr ac Y=>eH ac U Y r yh l/\aA U h ac/\U<=Y):=by
 refine aq5 ?_;obtain⟨a,cap,rfl,aZ⟩:=id aJ;unfold adw;simp(disch:=omega)only[bn,zr ayr,seval];refine⟨λM=>⟨?_,aK⟩,λM=>?_⟩
 ·have:l=[]:=ab
  subst this;exact⟨none,0,rfl,λh=>absurd rfl h⟩
 have L:aA U h (T h U (.cells [] false)):=aK
 rcases Ix (l=[])with e|e
 ·subst e;exact⟨⟨some ⟨U,0,none⟩,0,rfl,λh=>absurd rfl h⟩,L,J⟩
 ·obtain⟨b,aO,bJ,V,rfl,Z⟩:=aZ e;rw[aun  J (anw _) (aS _ _ _) ((L b V).trans Z) ab J];exact⟨⟨some ⟨U+1,0,some 2⟩,l.length,rfl,λ_=>⟨U+1,some 2,false,J,J,rfl,ab⟩⟩,aK,J⟩
theorem ars{x:iI}(h:he x=0):kh x.k x.n x.src x.len x.bM x.c6 x.es=0/\iU x.k x.n x.src x.len x.bM=0/\x.c6=x.n/\0<=x.n/\x.n<=4096/\1<=x.R/\x.R<=8/\1<=x.C/\x.C<=8/\x.u9<=8192:=by
 unfold he at h
 by_cases Z:qr x.k x.n x.src x.len x.bM x.c6 x.es x.lim=0
 case neg=>omega
 rw[if_neg J]at h;have M:j3 x.R 8=true:=ab
 have V:j3 x.C 8=true:=ab
 have hV:j3 x.M 64=true:=ab
 rw[M,V,hV,if_neg (by simp),if_neg (by simp),if_neg (by simp)]at h;have M:=of_decide_eq_true M;have V:=of_decide_eq_true V;have L:kh x.k x.n x.src x.len x.bM x.c6 x.es=0:=by unfold qr at Z;omega
 have bk:iU x.k x.n x.src x.len x.bM=0:=by unfold kh at L;omega
 unfold kh at L ⊢;rw[if_neg J]at L ⊢
 by_cases e:x.c6=x.n
 case neg=>omega
 rw[if_neg J]at L ⊢;have a5:=L;unfold k5 at a5;omega
def Hr(I eB k n src len:Int)(a8:aw Addr)(tT gM:Nat)(R C lim:Int)(bQ:aw Addr)(w8 hr:Nat):Nat->X
 |0=>.int .i64 I
 |1=>.int .i64 eB
 |2=>.int .i64 k
 |3=>.int .i64 n
 |4=>.int .i64 src
 |5=>.int .i64 len
 |6=>.slice a8 tT gM
 |7=>.int .i64 R
 |8=>.int .i64 C
 |9=>.int .i64 lim
 |10=>.slice bQ w8 hr
 |11=>.int .i64 0
 |12=>.int .i64 0
 |13=>.slice none 0 0
 |14=>.slice none 0 0
 |15=>.slice none 0 0
 |16=>.int .i64 0
 |17=>.int .i64 0
 |18=>.slice none 0 0
 |19=>.slice none 0 0
 |20=>.slice none 0 0
 |21=>.slice none 0 0
 |22=>.slice none 0 0
 |23=>.int .i64 1
 |24=>.map none
 |25=>.int .i64 1
 |26=>.int .i64 0
 |27=>.int .i64 0
 |28=>.int .i64 0
 |29=>.int .i64 0
 |30=>.slice none 0 0
 |31=>.slice none 0 0
 |32=>.slice none 0 0
 |33=>.int .i64 0
 |34=>.int .i64 0
 |35=>.slice none 0 0
 |36=>.slice none 0 0
 |37=>.slice none 0 0
 |38=>.bool false
 |39=>.bool false
 |40=>.slice none 0 0
 |41=>.map none
 |42=>.int .i64 0
 |43=>.map none
 |44=>.bool false
 |_=>.bool false
theorem anz{I k n R C:Int}:((q5 (pk [(7,2,Value.agg ⟨[(R:X),(C:X)]⟩),(9,1,(lim:X)),(10,1,.slice bQ w8 hr),(23,1,.int .i64 1),(25,1,.int .i64 1)]) 2 5 [(k:X),(n:X),(src:X),(len:X),.slice a8 tT gM] [(I:X),(eB:X),.int .i64 0,.int .i64 0,.int .i64 0,.int .i64 0,.slice none 0 0,.int .i64 0,.int .i64 0,.int .i64 0,.slice none 0 0,.int .i64 0,.int .i64 0,.slice none 0 0,.slice none 0 0,.slice none 0 0,.int .i64 0,.int .i64 0,.slice none 0 0,.slice none 0 0,.slice none 0 0,.slice none 0 0,.slice none 0 0,.int .i64 0,.map none,.int .i64 0,.int .i64 0,.int .i64 0,.int .i64 0,.int .i64 0,.slice none 0 0,.slice none 0 0,.slice none 0 0,.int .i64 0,.int .i64 0,.slice none 0 0,.slice none 0 0,.slice none 0 0,.bool false,.bool false,.slice none 0 0,.map none,.int .i64 0,.map none,.bool false]).bind λl=>.ok (Value.agg ⟨l⟩)) = .ok (Value.agg ⟨du (Hr I eB k n src len a8 tT gM R C lim bQ w8 hr)⟩):=rfl
theorem awC{I k n R C:Int}:dh (.agg ⟨du (Hr I eB k n src len a8 tT gM R C lim bQ w8 hr)⟩)=du (Hr I eB k n src len a8 tT gM R C lim bQ w8 hr):=rfl
theorem awD{I k n R C:Int}:ea (du (Hr I eB k n src len a8 tT gM R C lim bQ w8 hr))=true:=rfl
def nc(c:Nat->X)(k:Nat)(l:aa X):Nat->X:=λn=>if k<=n/\n<k+l.length then(l[n-k]?).getD (.bool false)else c n
theorem art{h:ae}{k:ae->Prop}:af (jY (some (.cells (du c) false)) h b 11 [kJ,v1,v2,v3,v4]) k↔ea [kJ,v1,v2,v3,v4]=true/\k (T h b (.cells (du (nc c 11 [kJ,v1,v2,v3,v4])) false)):=zH.trans ⟨λx=>⟨x.1,x.2.2⟩,λx=>⟨x.1,by show 16<=45;omega,x.2⟩⟩
theorem aru{h:ae}{L:X}{k:ae->Prop}:af (jY (some (.cells (du c) false)) h b 16 [kJ,v1,v2,v3,v4,L]) k↔ea [kJ,v1,v2,v3,v4,L]=true/\k (T h b (.cells (du (nc c 16 [kJ,v1,v2,v3,v4,L])) false)):=zH.trans ⟨λx=>⟨x.1,x.2.2⟩,λx=>⟨x.1,by show 22<=45;omega,x.2⟩⟩
theorem arv{h:ae}{k:ae->Prop}:af (jY (some (.cells (du c) false)) h b 28 [kJ,v1,v2,v3,v4]) k↔ea [kJ,v1,v2,v3,v4]=true/\k (T h b (.cells (du (nc c 28 [kJ,v1,v2,v3,v4])) false)):=zH.trans ⟨λx=>⟨x.1,x.2.2⟩,λx=>⟨x.1,by show 33<=45;omega,x.2⟩⟩
theorem arw{h:ae}{k:ae->Prop}:af (jY (some (.cells (du c) false)) h b 33 [kJ,v1,v2,v3,v4]) k↔ea [kJ,v1,v2,v3,v4]=true/\k (T h b (.cells (du (nc c 33 [kJ,v1,v2,v3,v4])) false)):=zH.trans ⟨λx=>⟨x.1,x.2.2⟩,λx=>⟨x.1,by show 38<=45;omega,x.2⟩⟩
theorem arx:h0 (some 5) 11 (du (nc c 11 [kJ,v1,v2,v3,v4])) = .ok (.agg ⟨[kJ,v1,v2,v3,v4]⟩):=rfl
theorem ary:h0 (some 5) 28 (du (nc c 28 [kJ,v1,v2,v3,v4])) = .ok (.agg ⟨[kJ,v1,v2,v3,v4]⟩):=rfl
theorem F3{c:Nat->X}:(du c).length=45:=rfl
theorem arz{v:X}:(du c).set 6 v=du (g9 c 6 v):=rfl
theorem anA{v:X}:(du c).set 24 v=du (g9 c 24 v):=rfl
theorem anB{v:X}:(du c).set 41 v=du (g9 c 41 v):=rfl
theorem anC{v:X}:(du c).set 43 v=du (g9 c 43 v):=rfl
def ej{az:Type}(h:ae)(U:Nat)(v:X)(enc:az->aa X)(k:Nat)(l:aa az):Prop :=
 ∃a cap,v = .slice a l.length cap/\(l≠[]->∃b o aO bJ cs,b<U/\a=some ⟨b,o,aO⟩/\u h b=some (.cells cs bJ)/\o+l.length*k<=cs.length/\(cs.drop o).take (l.length*k)=bc enc l)
section
variable {az:Type} {h ac:ae} {U Y k:Nat} {v:X} {enc:az->aa X} {l:aa az}
theorem ej.F(H:ej h U v enc k l)(hk:aA U h ac)(V:U<=Y):ej ac Y v enc k l:=by obtain⟨a,cap,e,H⟩:=H;refine⟨a,cap,e,λbb=>?_⟩;obtain⟨b,o,aO,bJ,cs,L,h1,M,Z⟩:=H bb;exact⟨b,o,aO,bJ,cs,J,h1,(hk b L).trans M,Z⟩
theorem cN.o(M:∀x,(enc x).length=k)(H:cN h U v enc l):ej h U v enc k l:=by
 obtain⟨a,cap,e,H⟩:=H;refine⟨a,cap,e,λL=>?_⟩;obtain⟨b,aO,bJ,V,h1,Z⟩:=H L;have:=gg M l
 grind
theorem ej.form(H:ej h U v enc k l):∃a c,v = .slice a l.length c:=by obtain⟨a,cap,e,_⟩:=H;grind
theorem ej.nil{a:aw Addr}{c:Nat}:ej h U (.slice a 0 c) enc k ([]:aa az):=⟨a,c,rfl,λh=>absurd rfl h⟩
theorem M2{o n k:Nat}{l:aa az}(V:∀x,(enc x).length=k)(bH:n=l.length*k)(M:(cs.drop o).take n=bc enc l){x:az}(L:l[i]? = some x):(cs.drop (o+i*k)).take k=enc x:=by
 have Z:=um V L;rw[<-M,Ew,xm,List.take_take]at Z
 grind
theorem ej.ld(H:ej h U v enc k l)(hk:∀x,(enc x).length=k){x:az}(L:l[i]? = some x):
  ∃b o aO bJ cs cap,b<U/\v = .slice (some ⟨b,o,aO⟩) l.length cap/\u h b=some (.cells cs bJ)/\h0 (some k) (o+i*k) cs = .ok (.agg ⟨enc x⟩):=by obtain⟨a,cap,e,H⟩:=H;obtain⟨b,o,aO,bJ,cs,M,rfl,Z,h1,V⟩:=H ab;have aj:=(hY.1 L).1;have:(i+1)*k<=l.length*k:=p2 k aj;rw[ze]at this;refine⟨b,o,aO,bJ,cs,cap,M,e,Z,?_⟩;rw[p6,if_pos J,M2 hk rfl V L]
theorem ej.ld1{enc:az->X}(H:ej h U v (λx=>[enc x]) 1 l){x:az}(V:l[i]? = some x):
  ∃b o aO bJ cs cap,b<U/\v = .slice (some ⟨b,o,aO⟩) l.length cap/\u h b=some (.cells cs bJ)/\cs[o+i]? = some (enc x):=by
 obtain⟨a,cap,e,H⟩:=H;obtain⟨b,o,aO,bJ,cs,L,rfl,Z,h1,M⟩:=H ab;refine⟨b,o,aO,bJ,cs,cap,L,e,Z,?_⟩;have aL:=M2  ab rfl M V;rw[EA]at aL;have:((cs.drop (o+i)).take 1)[0]? = some (enc x):=ab
 grind
theorem zm:∀(l m:aa az),bc enc (l++m)=bc enc l++bc enc m
 | [],m=>rfl
 |x::l,m=>by show enc x++bc enc (l++m)=(enc x++bc enc l)++bc enc m;rw[zm l m,kv]
theorem Zg(L:∀x,(enc x).length=k)(l:aa az)(i j:Nat):((bc enc l).drop (i*k)).take ((j-i)*k)=bc enc ((l.drop i).take (j-i)):=by
 have V:bc enc l=bc enc (l.take i)++bc enc (l.drop i):=by rw[<-zm,List.take_append_drop]
 have Z:bc enc (l.drop i)=bc enc ((l.drop i).take (j-i))++bc enc ((l.drop i).drop (j-i)):=by rw[<-zm,List.take_append_drop]
 by_cases aj:i<=l.length
 ·rw[V,Ie (by rw[gg L,p3];grind),MI (by rw[gg L,p3,BG aj];omega),sU]
  by_cases M:j-i<=(l.drop i).length
  ·rw[Z,If (by rw[gg L,p3,BG M];omega),o8 (by rw[gg L,p3,BG M];omega)]
  ·rw[o8 (l:=l.drop i) J,o8 (by rw[gg L];exact p2 k J)]
 ·rw[MI (J:l.length<=i),MI (by rw[gg L];exact p2 k J)];simp[bc]
theorem arA{o n cap:Nat}(cZ:aO≠some 0)(h1:i<=j)(ar:j<=n)(aL:n<=cap)(k:Nat):
  ∃Z hr,gW k (.slice (some ⟨b,o,aO⟩) n cap) (some (i:X)) (some (j:X)) none = .ok (.slice Z (j-i) hr)/\(i<j->∃L,Z=some ⟨b,o+i*k,L⟩):=by
 have e:gW k (.slice (some ⟨b,o,aO⟩) n cap) (some (i:X)) (some (j:X)) none=nN k (some ⟨b,o,aO⟩) cap false cap j i:=rfl;rw[e];unfold nN;rw[show(Nat.ble cap cap&&(Nat.ble j cap&&Nat.ble i j))=true by simp;omega];unfold uy
 by_cases e:cap=i
 ·subst e;have V:j=cap:=J
  subst V;rw[ua];unfold kO zu wv K1;cases aO with
  |none=>grind
  |some q =>
   cases q with
   |zero=>grind
   |succ q=>exact⟨_,_,by simp;exact⟨rfl,rfl⟩,λh=>absurd h J⟩
 ·have M:Nat.beq cap i=false:=by
   cases M:Nat.beq cap i with
   |true=>exact absurd (gG M) e
   |false=>rfl
  rw[M];exact⟨_,_,rfl,λ_=>⟨_,rfl⟩⟩
theorem ej.clone(H:ej h U v enc k l)(hk:∀x,(enc x).length=k)(M:0<k)(bb:l.length*k<1000000){L:aa X}{ro0:al}(V:u ac b=some (.cells L ro0))(Z:aA U h ac)(Li:U<=Y):
  (l=[]/\∃w,(w = .slice none 0 0\/∃b,w = .slice (some ⟨b,0,none⟩) 0 0)/\dT k ac Y (.slice (some ⟨b,0,none⟩) 0 0) v = .ok (.val w ac Y))\/(l≠[]/\dT k ac Y (.slice (some ⟨b,0,none⟩) 0 0) v = .ok (.val (.slice (some ⟨Y,0,some k⟩) l.length l.length) (T ac Y (.cells (bc enc l) false)) (Y+1))):=by
 obtain⟨a,cap,rfl,H⟩:=H;rcases Ix (l=[])with e|e
 ·subst e;refine .inl ⟨rfl,.slice (some ⟨b,0,none⟩) 0 0,ab,?_⟩;show k6 ac a (Nat.mul 0 k) (λnew=>gT k ac Y (some ⟨b,0,none⟩) 0 0 0 new)=_;rw[show Nat.mul 0 k=0 from l1 k];rfl
 ·right
  refine⟨e,?_⟩;obtain⟨b4,dO,aO,bJ,cs,fw,rfl,a6,h1,ar⟩:=H e;have a6:=(Z b4 fw).trans a6;have au:=Em.2 e;have hnk:l.length<=l.length*k:=Bz _ M;have a5:k6 ac (some ⟨b4,dO,aO⟩) (l.length.mul k) (λnew=>gT k ac Y (some ⟨b,0,none⟩) 0 0 l.length new)=gT k ac Y (some ⟨b,0,none⟩) 0 0 l.length (bc enc l):=by
   rw[s2 a6 ab ab]
   grind
  show k6 ac (some ⟨b4,dO,aO⟩) (l.length.mul k) (λnew=>gT k ac Y (some ⟨b,0,none⟩) 0 0 l.length new)=_;rw[a5];unfold gT;rw[show Nat.ble (Nat.add 0 l.length) 0=false by
   cases V:Nat.ble (Nat.add 0 l.length) 0 with
   |false=>rfl
   |true=>have:=l0 V;grind]
  rw[show(Nat.ble (Nat.mul (Nat.add 0 l.length) k) 1000000&&Nat.ble (Nat.add 0 l.length) 1000000)=true by
   simp only[eC,sW]
   grind]
  unfold q8;simp only[vD V];rw[show na (Nat.mul 0 k) (m6 L 0)=some [] by rw[xo,l1];rfl];show qh ac Y k (kz [] (bc enc l)) (0+l.length)=_;rw[ka,sU,iR];exact qY M
def iB{az:Type}(h:ae)(ao aj:Nat)(v:X)(enc:az->aa X)(k:Nat)(l:aa az):Prop :=
 (l=[]/\(v = .slice none 0 0\/∃b,v = .slice (some ⟨b,0,none⟩) 0 0))\/∃b,ao<=b/\b<aj/\v = .slice (some ⟨b,0,some k⟩) l.length l.length/\u h b=some (.cells (bc enc l) false)
theorem iB.form{ao aj:Nat}(H:iB h ao aj v enc k l):∃a c,v = .slice a l.length c:=by
 rcases H with⟨rfl,rfl|⟨b,rfl⟩⟩|⟨b,_,_,rfl,_⟩ <;> exact⟨_,_,rfl⟩
theorem iB.gr{ao aj:Nat}(H:iB h ao aj v enc k l):eH h ao aj v enc l:=by
 rcases H with⟨rfl,rfl|⟨b,rfl⟩⟩|⟨b,V,L,rfl,M⟩
 ·exact⟨_,_,rfl,λh=>absurd rfl h⟩
 ·exact⟨_,_,rfl,λh=>absurd rfl h⟩
 ·exact⟨_,_,rfl,λ_=>⟨b,_,false,V,L,rfl,M⟩⟩
theorem iB.F{ao aj d6 dy:Nat}(H:iB h ao aj v enc k l)(M:∀b,ao<=b->b<aj->u ac b=u h b)(V:d6<=ao)(L:aj<=dy):iB ac d6 dy v enc k l:=by
 rcases H with H|⟨b,aB,a2,a3,aY⟩
 ·exact .inl H
 ·exact .inr ⟨b,J,J,a3,ab⟩
theorem d5.f{ao aj:Nat}(H:d5 h v enc k l ao aj):iB h ao aj v enc k l:=by
 rcases H with⟨aV,Z⟩|⟨b,V,L,e,M⟩
 ·exact .inl ab
 ·exact .inr ⟨b,V,L,e,M⟩
theorem abs{P:Program}{t:TypeId}(H:ej h U v enc k l)(hk:∀x,(enc x).length=k)(M:0<k)(Z:l.length*k<1000000)(ck:mY P t=true)(L:∀r ac Y,iB ac U Y r enc k l->aA U h ac->U<=Y->K r ac Y):
  af (bin P .eql t v (.slice none 0 0)) λii=>br ii (K (.slice none 0 0) h U) (d4 (fh 0 [] []) h U λk2 aL dH=>dG (dX (dT k aL dH k2 v)) λvj cF n7=>K vj cF n7):=by
 have rK:=H;obtain⟨a,cap,rfl,jh⟩:=id H;have V:aA U h (T h U (.cells [] false)):=aK
 simp(disch:=omega)only[bn,zr ck,seval];refine⟨λau=>?_,λau=>?_⟩
 ·have:l=[]:=ab
  subst this;exact L _ _ _ (.inl ab) aK J
 rcases rK.clone hk M Z (aS h U (.cells [] false)) V (sV U)with⟨rfl,w,bV,e⟩|⟨aM,e⟩
 ·rw[e];exact L _ _ _ (.inl ab) V J
 ·rw[e];exact L _ _ _ (.inr ⟨U+1,J,J,rfl,ab⟩) aK J
end
def awE:c5:=λs ah t1 h U K=>aW s 220 [ah] h U λa b c=>af (dr .not a) λd=>br d (K (ad (-1)) b c) (cH t1 (ad 0) (K (ad (-1)) b c) (bG .mul 3 ah (ad 8) λf=>bw .geq 3 t1 f (K (ad (-1)) b c) (bG .quo 3 t1 ah λi=>K i b c)))
theorem auo:c7 131 awE:=c9 []
def awF:c5:=λs ah t1 h U K=>aW s 131 [ah,t1] h U λa b c=>cH a (ad 0) (K (ad (-1)) b c) (bG .rem 3 t1 ah λe=>K e b c)
theorem aup:c7 132 awF:=c9 []
def agR:c5:=λs ah t1 h U K=>aW s 235 [ah,t1] h U λa b c=>bG .geq 3 a (ad 0) λd=>K d b c
theorem agN:c7 141 agR:=c9 []
def anD:cP:=λs ah h U K=>bw .eql 95 ah ay (K ay h U) (d4 (fh 0 [] []) h U λb c d=>dG (dX (dT 2 c d b ah)) λe f g=>K e f g)
theorem akc:cQ 217 anD:=cT []
def anE:cP:=λs ah h U K=>bw .eql 98 ah ay (K ay h U) (d4 (fh 0 [] []) h U λb c d=>dG (dX (dT 3 c d b ah)) λe f g=>K e f g)
theorem akd:cQ 218 anE:=cT []
def M5:aa (aa Nat):=[[0,1,4,7,8]]
def Vp(s:al)(aC aB aY ba bx:X)(h:ae)(U:Nat)(N:aR)(aM:aR)(R:aR):Prop:=cH bx ba (d0 h 1 aC bx λc=>fc Q s (hJ h U [c] aB) λd e f=>br d (R [aC,aB,bx,ba,bx] e f) (cg bx λg=>N [aC,aB,aY,ba,g] e f)) (aM [aC,aB,aY,ba,bx] h U)
def VB:c5:=λs ah t1 h U K=>cV ah λa=>bD (bR Q s M5 235 0) [ah,t1,(ad 0),a,(ad 0)] h U [(0,λb c d=>K (ad (-1)) c d)] (λe f g=>K (a7 e 2) f g)
theorem agX{h:ae}{U:Nat}:bR Q s M5 235 0 [aC,aB,aY,ba,bx] h U N [(0,aM)] R=Vp s aC aB aY ba bx h U N aM R:=by kernel_rfl
theorem ag4:c7 235 VB:=c9 M5
def PD:aa (aa Nat):=[[0,3,4]]
def Zh(s:al)(aC a3 aY:X)(h:ae)(U:Nat)(N:aR)(aM:aR)(R:aR):Prop:=cV aC λa=>cH aY a (d0 h 1 aC aY λd=>af (min2 true a3 d) λe=>cg aY λf=>N [aC,e,f] h U) (aM [aC,a3,aY] h U)
def adG:cP:=λs ah h U K=>cV ah λa=>cH a (ad 1) (af (.ok (Value.iface 9 (.string ⟨#[115,108,105,99,101,115,46,77,105,110,58,32,101,109,112,116,121,32,108,105,115,116]⟩))) λc=>False) (d0 h 1 ah (ad 0) λe=>bD (bR Q s PD 244 0) [ah,e,(ad 1)] h U [(0,λf g i=>K (a7 f 1) g i)] (λ_ _ _=>False))
theorem anF{h:ae}{U:Nat}:bR Q s PD 244 0 [aC,a3,aY] h U N [(0,aM)] R=Zh s aC a3 aY h U N aM R:=by kernel_rfl
theorem arB:cQ 244 adG:=cT PD
def abt:cP:=λs ah h U K=>bI ah h U λa b c=>ax b 0 a λe=>aW s 384 [e,(ad 4096)] b c λf g i=>af (dr .not f) λj=>br j (K (.bool false) g i) (bW [(ad 0)] g i λk l m=>af (aQ l 1 k (ad (-1))) λn=>ax n 1 a λp=>af (.ok (.func (.func 386) ⟨[]⟩ ⟨[k,a]⟩)) λq=>aW s 385 [p,q] n m λr t aD=>af (dr .not r) λv=>K v t aD)
theorem anG:cQ 312 abt:=cT []
def abu:cP:=λs ah h U K=>bI ah h U λa b c=>aN 5 b a λd=>aW s 293 [d] b c λe f g=>af (x3 3 none e) λi=>cV i λj=>K j f g
theorem anH:cQ 322 abu:=cT []
def agS:c5:=λs ah t1 h U K=>aW s 395 [ah,t1] h U λa b c=>bG .geq 3 a (ad 0) λd=>K d b c
theorem agO:c7 325 agS:=c9 []
def M3:aa (aa Nat):=[[0,1,5,6]]
def Vl(s:al)(aC aB bN bu:X)(h:ae)(U:Nat)(N:aR)(aM:aR)(R:aR):Prop:=cV aC λa=>cH bu a (hv 3 h 3 aC bu λd=>bW [(ad 0),(ad 0),(.int .u64 0)] h U λe f g=>af (aQ f 3 e d) λi=>aN 3 i e λj=>fc Q s (hJ i g [j] aB) λk l m=>af (dr .not k) λn=>br n (aN 3 l e λo=>hT 3 aC bN λp=>af (aQ l 3 p o) λq=>cg bN λr=>cg bu λt=>N [aC,aB,r,t] q m) (cg bu λaD=>N [aC,aB,bN,aD] l m)) (aM [aC,aB,bN,bu] h U)
def ag5:c5:=λs ah t1 h U K=>aW s 396 [ah,t1] h U λa b c=>bw .eql 3 a (ad (-1)) (K ah b c) (cg a λe=>bD (bR Q s M3 332 0) [ah,t1,a,e] b c [(0,λf g i=>af (gW 3 (a7 f 0) (some (a7 f 2)) none none) λj=>dG (dX (pd Q .clear [98] g i [j])) λk l m=>af (gW 3 (a7 f 0) none (some (a7 f 2)) none) λn=>K n l m)] (λ_ _ _=>False))
theorem agT{h:ae}{U:Nat}:bR Q s M3 332 0 [aC,aB,bN,bu] h U N [(0,aM)] R=Vl s aC aB bN bu h U N aM R:=by kernel_rfl
theorem agY:c7 332 ag5:=c9 M3
def Xw:gf:=λs ah t1 t2 h U K=>cV ah λa=>af (gW 1 ah (some t1) (some t2) (some a)) λb=>bw .eql 3 t1 t2 (K ah h U) (cV ah λd=>af (gW 1 ah none (some t1) none) λe=>af (gW 1 ah (some t2) none none) λf=>dG (dX (dT 1 h U e f)) λg i j=>U<=j/\cV g λk=>af (gW 1 g (some k) (some d) none) λl=>dG (dX (pd Q .clear [62] i j [l])) λm n o=>K g n o)
theorem aim:gl 348 Xw:=gp []
def Zi:c5:=λs ah t1 h U K=>bw .geq 3 ah (ad 0) (bG .leq 3 ah t1 λb=>K b h U) (K (.bool false) h U)
theorem ake:c7 384 Zi:=c9 []
def agU:c5:=λs ah t1 h U K=>aW s 444 [ah,t1] h U λa b c=>bG .geq 3 a (ad 0) λd=>K d b c
theorem agP:c7 385 agU:=c9 []
def Zj:gf:=λs ah t1 t2 h U K=>bI ah h U λa b c=>ax b 0 a λe=>bT b t1 λf=>bw .leq 3 e f (ax b 0 a λj=>af (aQ b 1 t1 j) λk=>K (.bool true) k c) (ax b 0 a λm=>ax b 0 t2 λo=>bG .geq 3 m o λp=>ax b 0 a λr=>af (aQ b 1 t1 r) λt=>K p t c)
theorem akf:gl 386 Zj:=gp []
def PE:aa (aa Nat):=[[2,3,4,8,9,10]]
def Zk(s:al)(a2 a3 aY bx c4 di:X)(h:ae)(U:Nat)(N:aR)(aM:aR)(R:aR):Prop:=cH di c4 (hv 2 h 2 bx di λc=>bW [(ad 0),ay] h U λd e f=>af (aQ e 2 d c) λg=>ax g 0 aY λj=>bW [(ad 0)] g f λk l m=>af (aQ l 1 k j) λn=>aN 2 n d λo=>af (.ok (.func (.func 446) ⟨[]⟩ ⟨[k]⟩)) λp=>aW s 445 [o,p] n m λq r t=>af (aQ r 2 d q) λaD=>ax aD 0 d λw=>ax aD 0 aY λy=>bG .sub 3 (ad 4096) y λz=>j6 w z (af (cS [(ad 0),ay] []) λbU=>af (aQ aD 2 a2 bU) λbQ=>R [a2,(ad 5),aY,bx,c4,di] bQ t) (ax aD 1 aY λbY=>ax aD 1 d λbL=>dG (dX (dT 2 aD t bY bL)) λcK cC dn=>t<=dn/\bf 0 aY λdf=>bT cC df λeJ=>c0 df eJ (bf 0 d λam=>bT cC am λan=>c0 am an (lu eJ an λeP=>af (cS [(ad 0),ay] [(0,1,eP),(1,1,cK)]) λgx=>af (aQ cC 2 aY gx) λgN=>cg di λgE=>N [a2,a3,aY,bx,c4,gE] gN dn) 1 [aD]) 1 [aD])) (aM [a2,a3,aY,bx,c4,di] h U)
def adH:cP:=λs ah h U K=>bW [(ad 0),ay] h U λa b c=>bW [(ad 0),ay] b c λd e f=>cV ah λg=>bD (bR Q s PE 387 0) [a,(ad 0),d,ah,g,(ad 0)] e f [(0,λi j k=>aN 2 j (a7 i 2) λl=>af (aQ j 2 (a7 i 0) l) λm=>aN 2 m (a7 i 0) λn=>K (.tuple ⟨[n,(ad 0)]⟩) m k)] (λo p q=>aN 2 p (a7 o 0) λr=>K (.tuple ⟨[r,(a7 o 1)]⟩) p q)
theorem anI{h:ae}{U:Nat}:bR Q s PE 387 0 [a2,a3,aY,bx,c4,di] h U N [(0,aM)] R=Zk s a2 a3 aY bx c4 di h U N aM R:=by kernel_rfl
theorem arC:cQ 387 adH:=cT PE
def NT:aa (aa Nat):=[[3,8,9,10]]
def Ws(s:al)(a3 bx c4 di:X)(h:ae)(U:Nat)(N:aR)(aM:aR)(R:aR):Prop:=cH di c4 (hv 2 h 2 bx di λc=>bW [(ad 0),(ad 0)] h U λd e f=>af (aQ e 2 d c) λg=>ax g 0 d λj=>d4 (fh 1 [(ad 0)] [(0,1,j)]) g f λk l m=>dG (dX (dT 1 l m a3 k)) λn o p=>cg di λq=>N [n,bx,c4,q] o p) (aM [a3,bx,c4,di] h U)
def Zl:cP:=λs ah h U K=>bI ah h U λa b c=>aN 2 b a λd=>aW s 447 [d] b c λe f g=>af (x3 1 none e) λi=>cV i λj=>bD (bR Q s NT 389 0) [ay,i,j,(ad 0)] f g [(0,λk l m=>K (a7 k 0) l m)] (λ_ _ _=>False)
theorem ain{h:ae}{U:Nat}:bR Q s NT 389 0 [a3,bx,c4,di] h U N [(0,aM)] R=Ws s a3 bx c4 di h U N aM R:=by kernel_rfl
theorem akg:cQ 389 Zl:=cT NT
def PF:aa (aa Nat):=[[2,5,11,12,13]]
def Zm(s:al)(a2 bN en eD ho:X)(h:ae)(U:Nat)(N:aR)(aM:aR)(R:aR):Prop:=cH ho eD (d0 h 1 en ho λc=>aN 6 h a2 λd=>aW s 449 [d,c] h U λe f g=>bw .geq 3 e (ad 0) (ax f 3 a2 λk=>cg e λl=>d0 f 1 k l λn=>ax f 3 a2 λp=>d0 f 1 p e λr=>bG .sub 3 n r λt=>lu bN t λaD=>cg ho λv=>N [a2,aD,en,eD,v] f g) (cg ho λw=>N [a2,bN,en,eD,w] f g)) (aM [a2,bN,en,eD,ho] h U)
def adI:c5:=λs ah t1 h U K=>bI ah h U λa b c=>aN 6 b a λd=>aW s 448 [d] b c λe f g=>af (aQ f 6 a e) λi=>cV t1 λj=>bD (bR Q s PF 390 0) [a,(ad 0),t1,j,(ad 0)] i g [(0,λk l m=>K (a7 k 1) l m)] (λ_ _ _=>False)
theorem anJ{M V L:X}{h:ae}{U:Nat}:bR Q s PF 390 0 [a2,bN,M,V,L] h U N [(0,aM)] R=Zm s a2 bN M V L h U N aM R:=by kernel_rfl
theorem arD:c7 390 adI:=c9 PF
def M6:aa (aa Nat):=[[0,1,4,7,8]]
def Vq(s:al)(aC aB aY ba bx:X)(h:ae)(U:Nat)(N:aR)(aM:aR)(R:aR):Prop:=cH bx ba (d0 h 1 aC bx λc=>fc Q s (hJ h U [c] aB) λd e f=>br d (R [aC,aB,bx,ba,bx] e f) (cg bx λg=>N [aC,aB,aY,ba,g] e f)) (aM [aC,aB,aY,ba,bx] h U)
def VC:c5:=λs ah t1 h U K=>cV ah λa=>bD (bR Q s M6 395 0) [ah,t1,(ad 0),a,(ad 0)] h U [(0,λb c d=>K (ad (-1)) c d)] (λe f g=>K (a7 e 2) f g)
theorem agZ{h:ae}{U:Nat}:bR Q s M6 395 0 [aC,aB,aY,ba,bx] h U N [(0,aM)] R=Vq s aC aB aY ba bx h U N aM R:=by kernel_rfl
theorem ag6:c7 395 VC:=c9 M6
def M7:aa (aa Nat):=[[0,1,4,7,8]]
def M4(s:al)(aC aB aY ba bx:X)(h:ae)(U:Nat)(N:aR)(aM:aR)(R:aR):Prop:=cH bx ba (hv 3 h 3 aC bx λc=>fc Q s (hJ h U [c] aB) λd e f=>br d (R [aC,aB,bx,ba,bx] e f) (cg bx λg=>N [aC,aB,aY,ba,g] e f)) (aM [aC,aB,aY,ba,bx] h U)
def Na:c5:=λs ah t1 h U K=>cV ah λa=>bD (bR Q s M7 396 0) [ah,t1,(ad 0),a,(ad 0)] h U [(0,λb c d=>K (ad (-1)) c d)] (λe f g=>K (a7 e 2) f g)
theorem Vr{h:ae}{U:Nat}:bR Q s M7 396 0 [aC,aB,aY,ba,bx] h U N [(0,aM)] R=M4 s aC aB aY ba bx h U N aM R:=by kernel_rfl
theorem Vv:c7 396 Na:=c9 M7
def agV:c5:=λs ah t1 h U K=>aW s 396 [ah,t1] h U λa b c=>bG .geq 3 a (ad 0) λd=>K d b c
theorem agQ:c7 397 agV:=c9 []
def afa:c5:=λs ah t1 h U K=>bI ah h U λa b c=>aN 2 b a λd=>aW s 447 [d] b c λe f g=>af (aQ f 2 a e) λi=>aN 2 i a λj=>aW s 458 [j,t1] i g λk l m=>af (cy k 0) λn=>af (cy k 1) λo=>af (dr .not o) λp=>br p (K (.tuple ⟨[(ad 0),(.bool false)]⟩) l m) (ax l 1 a λr=>hT 2 r n λt=>ax l 1 t λv=>K (.tuple ⟨[v,(.bool true)]⟩) l m)
theorem auq:c7 401 afa:=c9 []
def adJ:gf:=λs ah t1 t2 h U K=>cH t2 (ad 0) (K (ad 0) h U) (bw .geq 3 t2 t1 (K (ad 0) h U) (cg t2 λc=>aW s 126 [ah,t1,c] h U λd e f=>aW s 126 [ah,t1,t2] e f λg i j=>bG .sub 3 d g λk=>K k i j))
theorem arE:gl 404 adJ:=gp []
def adK:gf:=λs ah t1 t2 h U K=>bI ah h U λa b c=>bI t1 b c λd e f=>bW [(ad 0),ay] e f λg i j=>aN 2 i a λk=>aW s 447 [k] i j λl m n=>af (aQ m 2 a l) λo=>bT o d λp=>af (min2 false p (ad 0)) λq=>af (aQ o 1 d q) λr=>bf 0 a λt=>bT r t λaD=>c0 t aD (af (min2 true t2 aD) λv=>bT r d λw=>bw .leq 3 v w (af (cS [(ad 0),ay] []) λy=>af (aQ r 2 g y) λz=>aN 2 z g λbz=>K bz z n) (aN 2 r a λbU=>bT r d λbQ=>aW s 458 [bU,bQ] r n λa8 bY b7=>af (cy a8 0) λbL=>af (cy a8 1) λcK=>aN 2 bY a λcC=>aW s 458 [cC,v] bY b7 λdn df eJ=>af (cy dn 0) λam=>af (cy dn 1) λan=>ax df 0 a λgx=>ax df 1 a λgE=>af (gW 2 gE (some bL) (some am) none) λh7=>af (cS [(ad 0),ay] [(0,1,gx),(1,1,h7)]) λiN=>bW [(ad 0),ay] df eJ λgy lS lv=>af (aQ lS 2 gy iN) λlw=>aN 2 lw gy λoi=>af (.ok (.func (.func 460) ⟨[]⟩ ⟨[d]⟩)) λoj=>aW s 445 [oi,oj] lw lv λcf rO be=>bW [(ad 0),ay] rO be λlT pW f7=>af (aQ pW 2 lT cf) λbi=>bT bi d λw6=>bG .sub 3 v w6 λo0=>bf 0 lT λlx=>af (aQ bi 1 lx o0) λjv=>aN 2 jv lT λvn=>af (aQ jv 2 g vn) λaU=>aN 2 aU g λtV=>K tV aU f7)) 1 [o]
theorem arF:gl 405 adK:=gp []
def Zn:cP:=λs ah h U K=>bw .eql 99 ah ay (K ay h U) (d4 (fh 0 [] []) h U λb c d=>dG (dX (dT 3 c d b ah)) λe f g=>K e f g)
theorem akh:cQ 406 Zn:=cT []
def M8:aa (aa Nat):=[[0,1,4,7,8]]
def Vs(s:al)(aC aB aY ba bx:X)(h:ae)(U:Nat)(N:aR)(aM:aR)(R:aR):Prop:=cH bx ba (hv 2 h 2 aC bx λc=>fc Q s (hJ h U [c] aB) λd e f=>br d (R [aC,aB,bx,ba,bx] e f) (cg bx λg=>N [aC,aB,aY,ba,g] e f)) (aM [aC,aB,aY,ba,bx] h U)
def VD:c5:=λs ah t1 h U K=>cV ah λa=>bD (bR Q s M8 444 0) [ah,t1,(ad 0),a,(ad 0)] h U [(0,λb c d=>K (ad (-1)) c d)] (λe f g=>K (a7 e 2) f g)
theorem ag0{h:ae}{U:Nat}:bR Q s M8 444 0 [aC,aB,aY,ba,bx] h U N [(0,aM)] R=Vs s aC aB aY ba bx h U N aM R:=by kernel_rfl
theorem ag7:c7 444 VD:=c9 M8
def PG:aa (aa Nat):=[[1,4,5,17,18,19]]
def Zo(s:al)(aB aY bN kE lk nj:X)(h:ae)(U:Nat)(N:aR)(aM:aR)(R:aR):Prop:=cH nj lk (hv 2 h 2 kE nj λc=>bW [(ad 0),(ad 0)] h U λd e f=>af (aQ e 2 d c) λg=>aN 2 g d λi=>fc Q true (hJ g f [i] aB) λj k l=>f<=l/\bf 1 bN λm=>bT k m λn=>c0 m n (hT 2 n nj λo=>af (aQ k 2 o j) λp=>cg nj λq=>N [aB,aY,bN,kE,lk,q] p l) 1 [g]) (aM [aB,aY,bN,kE,lk,nj] h U)
def adL:c5:=λs ah t1 h U K=>bI ah h U λa b c=>bW [(ad 0),ay] b c λd e f=>aN 2 e a λg=>aW s 447 [g] e f λi j k=>af (aQ j 2 a i) λl=>ax l 1 a λn=>b9 217 [n] l k λo p q=>bf 0 a λr=>bT p r λt=>c0 r t (af (cS [(ad 0),ay] [(0,1,t),(1,1,o)]) λaD=>bW [(ad 0),ay] p q λv w x=>af (aQ w 2 v aD) λy=>ax y 1 v λbz=>cV bz λbU=>bD (bR Q s PG 445 0) [t1,d,v,bz,bU,(ad 0)] y x [(0,λbQ a8 bY=>aN 2 a8 (a7 bQ 2) λb7=>af (aQ a8 2 (a7 bQ 1) b7) λbL=>aN 2 bL (a7 bQ 1) λcK=>K cK bL bY)] (λ_ _ _=>False)) 1 [l]
theorem anK{M L V:X}{h:ae}{U:Nat}:bR Q s PG 445 0 [aB,aY,bN,M,L,V] h U N [(0,aM)] R=Zo s aB aY bN M L V h U N aM R:=by kernel_rfl
theorem arG:c7 445 adL:=c9 PG
def abv:c5:=λs ah t1 h U K=>bI ah h U λa b c=>bW [(ad 0),(ad 0)] b c λd e f=>bT e t1 λg=>ax e 0 a λj=>lu g j λk=>ax e 1 a λm=>af (cS [(ad 0),(ad 0)] [(0,1,k),(1,1,m)]) λn=>af (aQ e 2 d n) λo=>aN 2 o d λp=>K p o f
theorem anL:c7 446 abv:=c9 []
def adM:cP:=λs ah h U K=>bI ah h U λa b c=>bW [(ad 0),ay] b c λd e f=>aN 2 e a λg=>aW s 312 [g] e f λi j k=>br i (aN 2 j a λl=>af (aQ j 2 d l) λm=>aN 2 m d λn=>K n m k) (af (cS [(ad 0),ay] []) λo=>af (aQ j 2 d o) λp=>aN 2 p d λq=>K q p k)
theorem arH:cQ 447 adM:=cT []
def adN:cP:=λs ah h U K=>bI ah h U λa b c=>bW [(ad 0),(ad 0),ay,ay,ay,ay] b c λd e f=>aN 6 e a λg=>aW s 477 [g] e f λi j k=>br i (aN 6 j a λl=>af (aQ j 6 d l) λm=>aN 6 m d λn=>K n m k) (aW s 205 [] j k λo p q=>af (aQ p 6 d o) λr=>aN 6 r d λt=>K t r q)
theorem arI:cQ 448 adN:=cT []
def OB:aa (aa Nat):=[[1,2,5,6]]
def Xx(s:al)(aB a2 bN bu:X)(h:ae)(U:Nat)(N:aR)(aM:aR)(R:aR):Prop:=cH bN bu (bG .sub 3 bu bN λb=>bG .quo 3 b (ad 2) λc=>lu bN c λd=>ax h 2 a2 λf=>d0 h 1 f d λi=>bw .eql 3 i aB (aM [aB,a2,d,bu] h U) (ax h 2 a2 λl=>d0 h 1 l d λn=>cH n aB (cg d λp=>N [aB,a2,p,bu] h U) (N [aB,a2,bN,d] h U))) (aM [aB,a2,bN,bu] h U)
def abw:c5:=λs ah t1 h U K=>bI ah h U λa b c=>ax b 2 a λe=>cV e λf=>bD (bR Q s OB 449 0) [t1,a,(ad 0),f] b c [(0,λg i j=>cH (a7 g 2) (a7 g 3) (K (a7 g 2) i j) (K (ad (-1)) i j))] (λ_ _ _=>False)
theorem aki{h:ae}{U:Nat}:bR Q s OB 449 0 [aB,a2,bN,bu] h U N [(0,aM)] R=Xx s aB a2 bN bu h U N aM R:=by kernel_rfl
theorem anM:c7 449 abw:=c9 OB
def Zp:c5:=λs ah t1 h U K=>bI ah h U λa b c=>aN 6 b a λd=>aW s 448 [d] b c λe f g=>af (aQ f 6 a e) λi=>aN 6 i a λj=>aW s 449 [j,t1] i g λk l m=>cH k (ad 0) (K ay l m) (aN 6 l a λo=>aW s 482 [o,k] l m λp q r=>aW s 481 [p] q r λt aD v=>K t aD v)
theorem akj:c7 454 Zp:=c9 []
def adO:c5:=λs ah t1 h U K=>bI ah h U λa b c=>ax b 1 a λe=>aW s 485 [e,t1,(.func (.func 486) #[] #[])] b c λf g i=>af (cy f 0) λj=>af (cy f 1) λk=>K (.tuple ⟨[j,k]⟩) g i
theorem arJ:c7 458 adO:=c9 []
def abx:c5:=λs ah t1 h U K=>bI ah h U λa b c=>bW [(ad 0),(ad 0)] b c λd e f=>ax e 0 a λi=>bT e t1 λj=>bG .sub 3 i j λk=>ax e 1 a λm=>af (cS [(ad 0),(ad 0)] [(0,1,k),(1,1,m)]) λn=>af (aQ e 2 d n) λo=>aN 2 o d λp=>K p o f
theorem anN:c7 460 abx:=c9 []
def OC:aa (aa Nat):=[[1,2,73,74]]
def Xy(s:al)(aB a2 LK vc:X)(h:ae)(U:Nat)(N:aR)(aM:aR)(R:aR):Prop:=cH vc LK (ax h 4 aB λc=>ax h 3 aB λe=>d0 h 1 e vc λg=>ax h 3 aB λj=>cg vc λk=>d0 h 1 j k λm=>af (gW 1 c (some g) (some m) none) λn=>ax h 0 aB λp=>b9 493 [n,p] h U λq r t=>af (dr .not q) λaD=>br aD (R [aB,(.bool false),LK,vc] r t) (cg vc λv=>N [aB,a2,LK,v] r t)) (aM [aB,a2,LK,vc] h U)
def EY(s:al)(K:bP)(ct y70:X)(au:ae)(a0:Nat):Prop:=br y70 (K (.bool false) au a0) (ax au 2 ct λb=>cV b λc=>bD (bR Q s OC 477 0) [ct,(.bool false),c,(ad 0)] au a0 [(0,λd e f=>K (.bool true) e f)] (λg i j=>K (a7 g 1) i j))
def BV(s:al)(K:bP)(ct co To:X)(au:ae)(a0:Nat):Prop:=br To (K (.bool false) au a0) (ax au 2 ct λb=>ax au 1 ct λd=>aW s 493 [b,d] au a0 λe f g=>af (dr .not e) λi=>br i (EY s K ct (.bool true) f g) (ax f 3 ct λk=>cg co λl=>aW s 493 [k,l] f g λm n o=>af (dr .not m) λp=>br p (EY s K ct (.bool true) n o) (ax n 3 ct λr=>d0 n 1 r (ad 0) λaD=>bw .neq 3 aD (ad 0) (EY s K ct (.bool true) n o) (ax n 3 ct λx=>ax n 2 ct λz=>cV z λbz=>d0 n 1 x bz λbQ=>bG .neq 3 bQ co λa8=>(EY s K ct a8 n o)))))
def aby:cP:=λs ah h U K=>bI ah h U λa b c=>ax b 4 a λe=>cV e λf=>ax b 0 a λi=>aW s 492 [i,(ad 4096)] b c λj k l=>af (dr .not j) λm=>br m (BV s K a f (.bool true) k l) (ax k 1 a λo=>aW s 492 [o,(ad 4096)] k l λp q r=>af (dr .not p) λt=>br t (BV s K a f (.bool true) q r) (ax q 3 a λv=>cV v λw=>ax q 2 a λy=>cV y λz=>cg z λbz=>bw .neq 3 w bz (BV s K a f (.bool true) q r) (ax q 5 a λa8=>cV a8 λbY=>bw .neq 3 bY f (BV s K a f (.bool true) q r) (bG .gtr 3 f (ad 65536) λbL=>(BV s K a f bL q r)))))
theorem akk{L M:X}{h:ae}{U:Nat}:bR Q s OC 477 0 [aB,a2,L,M] h U N [(0,aM)] R=Xy s aB a2 L M h U N aM R:=by kernel_rfl
theorem anO:cQ 477 aby:=cT OC
def aio:cP:=λs ah h U K=>aW s 495 [ay,ah] h U λa b c=>K a b c
theorem ahD:cQ 481 aio:=cT []
def abz:c5:=λs ah t1 h U K=>bI ah h U λa b c=>bI t1 b c λd e f=>af (.ok (.func (.func 496) ⟨[]⟩ ⟨[a,d]⟩)) λg=>K g e f
theorem anP:c7 482 abz:=c9 []
def MX:aa (aa Nat):=[[0,1,2,8,9,10]]
def Vj(s:al)(aC aB a2 bx c4 di:X)(h:ae)(U:Nat)(N:aR)(aM:aR)(R:aR):Prop:=cH c4 di (lu c4 di λb=>af (qe (.int .u64) b) λc=>bG .shr 238 c (.int .u64 1) λd=>af (qe (.int .i64) d) λe=>hv 2 h 2 aC e λg=>fc Q s (hJ h U [g,aB] a2) λi j k=>cH i (ad 0) (cg e λm=>N [aC,aB,a2,bx,m,di] j k) (N [aC,aB,a2,bx,c4,e] j k)) (aM [aC,aB,a2,bx,c4,di] h U)
def Vk:gf:=λs ah t1 t2 h U K=>cV ah λa=>bD (bR Q s MX 485 0) [ah,t1,t2,a,(ad 0),a] h U [(0,λb c d=>cH (a7 b 4) (a7 b 3) (hv 2 c 2 (a7 b 0) (a7 b 4) λg=>fc Q s (hJ c d [g,(a7 b 1)] (a7 b 2)) λi j k=>bG .eql 3 i (ad 0) λl=>K (.tuple ⟨[(a7 b 4),l]⟩) j k) (K (.tuple ⟨[(a7 b 4),(.bool false)]⟩) c d))] (λ_ _ _=>False)
theorem agJ{h:ae}{U:Nat}:bR Q s MX 485 0 [aC,aB,a2,bx,c4,di] h U N [(0,aM)] R=Vj s aC aB a2 bx c4 di h U N aM R:=by kernel_rfl
theorem agK:gl 485 Vk:=gp MX
def abA:c5:=λs ah t1 h U K=>bI ah h U λa b c=>ax b 0 a λe=>aW s 242 [e,t1] b c λf g i=>K f g i
theorem anQ:c7 486 abA:=c9 []
def Zq:c5:=λs ah t1 h U K=>bw .geq 3 ah (ad 0) (bG .leq 3 ah t1 λb=>K b h U) (K (.bool false) h U)
theorem akl:c7 492 Zq:=c9 []
def NU:aa (aa Nat):=[[0,1,4,7,8,9]]
def Wt(s:al)(aC aB aY ba bx c4:X)(h:ae)(U:Nat)(N:aR)(aM:aR)(R:aR):Prop:=cH c4 bx (d0 h 1 ba c4 λc=>bG .sub 3 aB (ad 1) λd=>aW s 492 [c,d] h U λe f g=>af (dr .not e) λi=>br i (R [aC,aB,(.bool false),ba,bx,c4] f g) (j6 c4 (ad 0) (bG .sub 3 c4 (ad 1) λk=>d0 f 1 aC k λm=>bw .geq 3 m c (R [aC,aB,(.bool false),ba,bx,c4] f g) (cg c4 λo=>N [aC,aB,aY,ba,bx,o] f g)) (cg c4 λp=>N [aC,aB,aY,ba,bx,p] f g))) (aM [aC,aB,aY,ba,bx,c4] h U)
def Zr:c5:=λs ah t1 h U K=>cV ah λa=>bD (bR Q s NU 493 0) [ah,t1,(.bool false),ah,a,(ad 0)] h U [(0,λb c d=>K (.bool true) c d)] (λe f g=>K (a7 e 2) f g)
theorem aip{h:ae}{U:Nat}:bR Q s NU 493 0 [aC,aB,aY,ba,bx,c4] h U N [(0,aM)] R=Wt s aC aB aY ba bx c4 h U N aM R:=by kernel_rfl
theorem akm:c7 493 Zr:=c9 NU
def NV:aa (aa Nat):=[[0,1,2,4]]
def Wu(s:al)(aC aB a2 aY:X)(h:ae)(U:Nat)(N:aR)(aM:aR)(R:aR):Prop:=ax h 3 aB λb=>bT h a2 λc=>cg c λd=>d0 h 1 b d λf=>cH aY f (ax h 4 aB λj=>d0 h 1 j aY λl=>ax h 5 aB λn=>d0 h 1 n aY λp=>af (cS [(ad 0),(ad 0)] [(0,1,l),(1,1,p)]) λq=>fc Q true (hJ h U [q] aC) λr t aD=>U<=aD/\af (dr .not r) λv=>br v (R [aC,aB,a2,aY] t aD) (cg aY λw=>N [aC,aB,a2,w] t aD)) (aM [aC,aB,a2,aY] h U)
def Zs:gf:=λs ah t1 t2 h U K=>ax h 3 t1 λb=>bT h t2 λc=>d0 h 1 b c λe=>bD (bR Q s NV 496 0) [ah,t1,t2,e] h U [(0,λf g i=>K (.tuple ⟨[]⟩) g i)] (λj k l=>K (.tuple ⟨[]⟩) k l)
theorem aiq{h:ae}{U:Nat}:bR Q s NV 496 0 [aC,aB,a2,aY] h U N [(0,aM)] R=Wu s aC aB a2 aY h U N aM R:=by kernel_rfl
theorem akn:gl 496 Zs:=gp NV
def fD(p:Nat × Int):aa X:=[(p.1:X),(p.2:X)]
def jQ(h:ae)(U:Nat)(v:X)(n:Nat)(x:Nat->aw Int):Prop:=∃gK,v = .agg ⟨[(n:X),gK]⟩/\ej h U gK fD 2 (bj n x)
def k9(h:ae)(ao aj:Nat)(v:X)(n:Nat)(x:Nat->aw Int):Prop:=∃gK,v = .agg ⟨[(n:X),gK]⟩/\eH h ao aj gK fD (bj n x)
section
variable {h ac:ae} {U Y ao aj d6 dy n:Nat} {v:X} {x:Nat->aw Int}
theorem jQ.F(H:jQ h U v n x)(V:aA U h ac)(L:U<=Y):jQ ac Y v n x:=by obtain⟨Z,e,M⟩:=H;exact⟨Z,e,M.F V L⟩
theorem k9.is(H:k9 h ao aj v n x):jQ h aj v n x:=by obtain⟨L,e,M⟩:=H;exact⟨L,e,cN.o (λ_=>rfl) M.rd⟩
theorem k9.F(H:k9 h ao aj v n x)(V:∀b,ao<=b->b<aj->u ac b=u h b)(h1:d6<=ao)(L:aj<=dy):k9 ac d6 dy v n x:=by obtain⟨M,e,Z⟩:=H;exact⟨M,e,Z.F V h1 L⟩
theorem jQ.ext{y:Nat->aw Int}(H:jQ h U v n x)(e:∀i,i<n->x i=y i):jQ h U v n y:=by obtain⟨L,M,V⟩:=H;exact⟨L,M,by rw[<-xE e];exact V⟩
theorem k9.ext{y:Nat->aw Int}(H:k9 h ao aj v n x)(e:∀i,i<n->x i=y i):k9 h ao aj v n y:=by obtain⟨L,M,V⟩:=H;exact⟨L,M,by rw[<-xE e];exact V⟩
end
theorem vS{n k:Nat}{f:Nat->aw Int}{x:Int}(h:(bj n f)[i]? = some (k,x)):k<n/\f k=some x:=jO.1 ab
theorem uD{n:Nat}{f:Nat->aw Int}{x:Int}(h:(bj n f)[i]? = some (a,x))(ac:(bj n f)[j]? = some (b,y))(L:i<j):a<b:=by
 obtain⟨V,aV⟩:=hY.1 h;obtain⟨M,Z⟩:=hY.1 ac;have:=Bx.1 (xN n f) i j V M L
 grind
theorem air{n m:Int}{h:ae}{U:Nat}:aH Q s 384 [(n:X),(m:X)] h U (fo (.bool (ln n m)) U h):=by
 refine ake ?_;unfold Zi;refine aF ?_;refine⟨λM=>?_,λM=>by rw[pq J];exact⟨rfl,rfl,rfl⟩⟩
 by_cases L:m<n
 ·rw[g4 L,pq J];exact⟨rfl,rfl,rfl⟩
 ·rw[hl L,k8 J];exact⟨rfl,rfl,rfl⟩
def XiJ(I:Nat->ae->Nat->Prop)(v qI:X)(n:Nat)(m:Nat)(aE:aa X)(ac:ae)(Y:Nat):Prop:=∃i,m=n-i/\i<=n/\aE=[v,qI,.int .i64 0,(n:X),(i:X)]/\I i ac Y
theorem aur{l:aa (Nat × Int)}{v:X}{h:ae}{U:Nat}{I:Nat->ae->Nat->Prop}(bb:l.length<1000000)(Z:I 0 h U)(aJ:∀i h U,I i h U->ej h U v fD 2 l)(bK:∀i x h U,l[i]? = some x->I i h U->aH Q s dK (.agg ⟨fD x⟩::cs) h U (λr ac Y=>r = .bool false/\I (i+1) ac Y)):
  aH Q s 385 [v,.func (.func dK) ⟨[]⟩ ⟨cs⟩] h U (λr ac Y=>r = .bool false/\I l.length ac Y):=by
 refine agP ?_;refine(ag7 (K:=λr ac Y=>r = .int .i64 (-1)/\I l.length ac Y) ?_).mono ?_
 ·obtain⟨a,cap,rfl,_⟩:=id (aJ 0 h U Z);unfold VD;refine aF ?_;refine bD.mk (XiJ I (.slice a l.length cap) (.func (.func dK) ⟨[]⟩ ⟨cs⟩) l.length) l.length ⟨0,J,J,rfl,Z⟩ ?_;rintro _ _ h1 bh ⟨i,rfl,aj,rfl,L⟩;rw[ag0];unfold Vs;refine aF ?_;refine⟨λcA=>?_,λeN=>?_⟩
  ·obtain⟨x,a1⟩:=d1   J;obtain⟨b,o,aO,bJ,sh,mC,aT,aV,a6,V⟩:=(aJ i h1 bh L).ld (λ_=>rfl) a1;cases aV;refine cL @a6 @V ?_;refine(bK i x h1 bh a1 L).mono ?_;rintro _ ar bX ⟨rfl,M⟩;refine bg (cG (J:i<1000000000000)) ?_;exact⟨l.length-(i+1),J,i+1,rfl,J,rfl,M⟩
  ·have:i=l.length:=J
   subst this;exact L
 ·rintro _ ar bX ⟨rfl,L⟩;refine aF ?_;exact⟨rfl,L⟩
theorem ais{x:Nat × Int}{last:Int}{n L:Nat}{Z:X}{h:ae}{U:Nat}(h1:last<(x.1:Int))(ar:x.1<n)(bb:u h pl=some (.cells [(last:X)] false))(aJ:u h L=some (.cells [(n:X),Z] bJ))(e0:pl≠L)(M:pl<U)(V:L<U):
  aH Q s 386 [.agg ⟨fD x⟩,bd pl,bd L] h U (λr ac Y=>r = .bool false/\u ac pl=some (.cells [(x.1:X)] false)/\(∀d,d<U->d≠pl->u ac d=u h d)/\U<=Y):=by
 refine akf ?_;unfold Zj fD;simp(disch:=omega)only[bn,bb,aJ,seval]
 grind
theorem vG{n:Nat}{v:X}{x:Nat->aw Int}{h:ae}{U:Nat}(aJ:jQ h U v n x)(bH:n<=4096):aH Q s 312 [v] h U (dC (.bool true) U h):=by
 refine anG ?_;obtain⟨gK,rfl,ap⟩:=aJ;obtain⟨a,cap,rfl,aZ⟩:=id ap;unfold abt;refine aF ?_;refine air.mono ?_;rintro _ _ _ ⟨rfl,rfl,rfl⟩;rw[k8 J];refine aF ?_;have fW:=l3 n x;refine(aur (l:=bj n x) (I:=λi ac Y=>aA U h ac/\U+2<=Y/\u ac U=some (.cells [(n:X),.slice a (bj n x).length cap] false)/\∃last:Int,u ac (U+1)=some (.cells [(last:X)] false)/\∀(j k:Nat) (y:Int),(bj n x)[j]? = some (k,y)->i<=j->last<(k:Int)) (by omega) ?_ ?_ ?_).mono ?_
 ·exact⟨aK,J,ab,-1,ab,J⟩
 ·rintro i h1 bh ⟨M,L,_⟩;exact ap.F M J
 ·rintro i ⟨k,y⟩ h1 bh a1 ⟨M,L,a6,last,V,cA⟩;refine(ais ab (vS a1).1 V a6 J J J).mono ?_;rintro _ ar bX ⟨rfl,Z,rn,eZ⟩;refine⟨rfl,aK,J,ab,k,Z,λj dm qF b1 hij=>?_⟩;have:=uD a1 b1 J;omega
 ·rintro _ ar bX ⟨rfl,M,L,_⟩;refine aF ?_;exact⟨rfl,M,J⟩
theorem Jm{n:Nat}{v:X}{x:Nat->aw Int}{h:ae}{U:Nat}(Z:jQ h U v n x)(bH:n<=4096):aH Q s 447 [v] h U (dC v U h):=by
 refine arH ?_;have L:=Z;obtain⟨gK,rfl,ap⟩:=Z;obtain⟨a,cap,rfl,aZ⟩:=id ap;unfold adM;refine aF ?_;have bZ:∀{o aX},aA U h (T (T h U o) (U+1) aX):=aK
 refine(vG (L.F bZ J) bH).mono ?_;rintro _ h1 bh ⟨rfl,hk,dR⟩;have M:=hk U J;rw[aq J,aS]at M;have V:=hk (U+1) J;rw[aS]at V;refine cL @M @V ?_;exact⟨rfl,aK,J⟩
end Go.Proofs.YthlhhajnbgjfmaaGreat
