/- Parts of the proof: HwFn4: each statement bears its own conditions. -/
import Derived.Test.YthlhhajnbgjfmaaGreatRhHwFn3
namespace Go.Proofs.YthlhhajnbgjfmaaGreat
open Go Go.Ax
set_option linter.all false
set_option maxHeartbeats 1000000
set_option maxRecDepth 1000000
variable {s:al} {ag:aa GE} {c:Nat->X} {i:Nat} {aB:X} {aE R N:aP} {aC aZ ah a2 br:X} {b:Nat} {src len:Int} {v1 v2 v3 v4 cj gs:X} {cs:aa X} {P:Nat->Prop} {A B:aa Int} {t1:X} {p:aa GE} {K:bR} {cN a6 kQ:X} {j:Nat} {g:GE} {bK:aa Int} {iI bt c7:X} {r a C:Nat} {bk bL:aw Addr} {low:Int} {jv j6 jO dk:X} {mj:Int} {a3:X} {uk:Nat} {ro:al} {bQ:Nat} {k3:aw Nat} {st:Nat} {aS cI d6 fB:aw Nat} {aF bm:X} {m:Nat} {lim:Int} {nG:Nat->Prop} {dH dl jo lb:aa Int} {gj xA gV:Nat} {jM iE qO rK pZ p0 rL p1 qP qQ rM pW p2 o3 mw oe rN p3 og:X} {H:Nat} {y eC:Int} {ka nH eE fY t3 fk t2:X} {xz a5 c2 pl:Nat} {E:aP} {er:Nat}
theorem ZZ{k:Int}{h:ae}{U:Nat}:aH Q s 220 [(k:X)] h U (fr (.bool (lv (k-1) 7)) U h):=by
 refine ab1 ?_;unfold Rw;refine aD ?_;refine⟨λM=>?_,λM=>by rw[pA J];exact⟨rfl,rfl,rfl⟩⟩
 by_cases L:8<k
 ·rw[gP L,pA J];exact⟨rfl,rfl,rfl⟩
 ·rw[hD L,li J];exact⟨rfl,rfl,rfl⟩
theorem aca{k:Int}{h:ae}{U:Nat}:aH Q s 292 [(k:X)] h U (fr (.bool (lv (k-1) 7)) U h):=by
 refine avc ?_;unfold afZ;refine aD ?_;refine⟨λM=>?_,λM=>by rw[pA J];exact⟨rfl,rfl,rfl⟩⟩
 by_cases L:8<k
 ·rw[gP L,pA J];exact⟨rfl,rfl,rfl⟩
 ·rw[hD L,li J];exact⟨rfl,rfl,rfl⟩
theorem uT{n k:Nat}{h:ae}{U:Nat}(bv:n<=4096)(hk:0<k)(L:k<=8)(aj:i<=100000):aH Q s 126 [(n:X),(k:X),(i:X)] h U (fr (.int .i64 (c8 n k i:Int)) U h):=by
 refine au5 ?_;refine au8 ?_;unfold afV;refine aD ?_;refine⟨λ_=>⟨λ_=>?_,λh=>absurd h J⟩,λh=>absurd h J⟩;refine ZZ.mono ?_;rintro _ _ _ ⟨rfl,rfl,rfl⟩;rw[li J];have Z:min (max (i:Int) 0) (k:Int)=((min i k:Nat):Int):=J
 have bp:min i k*n<=8*4096:=sb J bv;have V:IntKind.wrap .i64 (((min i k:Nat):Int)*(n:Int))=((min i k*n:Nat):Int):=by rw[show((min i k:Nat):Int)*(n:Int)=((min i k*n:Nat):Int) by omega];exact jG J J
 have bj:min i k*n / k<=min i k*n:=Nat.div_le_self _ _;have M:bin Q .quo 3 (((min i k*n:Nat):X)) (k:X) = .ok (.int .i64 (c8 n k i:Int)):=by rw[CC J,show((min i k*n:Nat):Int).tdiv (k:Int)=((min i k*n / k:Nat):Int)from rfl];unfold c8;generalize min i k*n / k=q at bj ⊢;rw[jG J J]
 refine lh @Z @z9 @V @M ?_;exact⟨rfl,rfl,rfl⟩
theorem Qr{c:Nat}{h:ae}{U:Nat}(Z:0<r)(L:r<=8)(a1:0<c)(M:c<=8)(aj:i<r)(V:j<c):aH Q s 202 [(r:X),(c:X),(i:X),(j:X)] h U (fr (.bool true) U h):=by refine au6 ?_;refine aca.mono ?_;rintro _ _ _ ⟨rfl,rfl,rfl⟩;rw[li J];refine aD ?_;refine aca.mono ?_;rintro _ _ _ ⟨rfl,rfl,rfl⟩;rw[li J];refine aD ?_;exact⟨λ_=>⟨λ_=>⟨λ_=>⟨ab,rfl,rfl⟩,λh=>absurd h J⟩,λh=>absurd h J⟩,λh=>absurd h J⟩
theorem Co{n k:Nat}{h:ae}{U:Nat}(V:n<=4096)(M:0<k)(L:k<=8)(aj:i<=10000):aH Q s 204 [(n:X),(k:X),(i:X)] h U (dJ (.agg ⟨[.int .i64 (c8 n k i:Int),.int .i64 (c8 n k (i+1):Int)]⟩) U h):=by refine anV ?_;unfold abY;refine aD ?_;refine(uT V M L J).mono ?_;rintro _ _ _ ⟨rfl,rfl,rfl⟩;refine bh (cv (J:i<1000000000000)) ?_;refine(uT V M L J).mono ?_;rintro _ _ _ ⟨rfl,rfl,rfl⟩;refine aD ?_;exact⟨rfl,aN,J⟩
theorem Xi{n:Nat}{h:ae}{U:Nat}(Z:a<=b)(V:b<=n)(bv:n<=4096):aH Q s 294 [.agg ⟨[(a:X),(b:X)]⟩,(n:X)] h U (dJ (.tuple ⟨[(a:X),((b-a:Nat):X)]⟩) U h):=by
 refine ak1 ?_;unfold ZV;have L:∀{o},aA U h (F h U o):=aN
 simp(disch:=omega)only[bl,show max (a:Int) 0=(a:Int) by omega,show min (b:Int) (n:Int)=(b:Int) by omega,seval];refine⟨λM=>?_,λM=>?_⟩
 ·have:b-a=0:=J
  rw[this];exact⟨rfl,L,J⟩
 ·rw[show IntKind.wrap .i64 ((b:Int)-(a:Int))=((b-a:Nat):Int) by rw[show(b:Int)-(a:Int)=((b-a:Nat):Int) by omega];exact jG J J];exact⟨rfl,L,J⟩
def kL{az:Type}(h:ae)(v:X)(enc:az->aa X)(k:Nat)(l:aa az)(P:Nat->Prop):Prop :=
 (l=[]/\v = .slice none 0 0)\/∃d,P d/\v = .slice (some ⟨d,0,some k⟩) l.length l.length/\u h d=some (.cells (bd enc l) false)
theorem kL.hl{az:Type}{h:ae}{v:X}{enc:az->aa X}{k:Nat}{l:aa az}(H:kL h v enc k l P):∃L,fa h enc k v l L/\∀d,L=some d->P d:=by
 rcases H with⟨rfl,rfl⟩|⟨d,V,rfl,M⟩
 ·exact⟨none,.nil,λd e=>by cases e⟩
 ·exact⟨some d,.own M,λd e=>by cases e;exact V⟩
theorem kL.T{az:Type}{h ac:ae}{v:X}{enc:az->aa X}{k:Nat}{l:aa az}(H:kL h v enc k l P)(L:∀d,P d->u ac d=u h d/\nG d):kL ac v enc k l nG:=by
 rcases H with e|⟨d,M,e,V⟩
 ·exact .inl e
 ·exact .inr ⟨d,(L d M).2,e,ab⟩
theorem kL.of{az:Type}{h:ae}{v:X}{enc:az->aa X}{k ao aj:Nat}{l:aa az}(H:d1 h v enc k l ao aj):kL h v enc k l λd=>ao<=d/\d<aj:=by
 rcases H with e|⟨d,V,M,e,L⟩
 ·exact .inl e
 ·exact .inr ⟨d,⟨V,M⟩,e,L⟩
theorem kL.at_{az:Type}{h:ae}{v:X}{enc:az->aa X}{k ao aj:Nat}{l:aa az}(H:kL h v enc k l P)(M:∀d,P d->ao<=d/\d<aj):d1 h v enc k l ao aj:=by
 rcases H with e|⟨d,V,e,L⟩
 ·exact .inl e
 ·exact .inr ⟨d,ab,ab,e,L⟩
theorem kL.form{az:Type}{h:ae}{v:X}{enc:az->aa X}{k:Nat}{l:aa az}(H:kL h v enc k l P):∃a c,v = .slice a l.length c:=by
 rcases H with⟨rfl,rfl⟩|⟨d,_,rfl,_⟩
 ·exact⟨_,_,rfl⟩
 grind
theorem Kw{az:Type}{enc:az->aa X}{k:Nat}(hk:∀x,(enc x).length=k)(L:∀x,ee (enc x)=true)(Z:0<k){h:ae}{U:Nat}{v:X}{l:aa az}(H:kL h v enc k l P)(Uc:nG U){dP M:Nat}(x:az)(ap:u h bQ=some (.cells cs ro))(aY:(cs.drop dP).take k=enc x)(V:(l.length+1)*k<=1000000){K:X->ae->Nat->Prop}(hi:∀dF ac,kL ac dF enc k (l++[x]) nG->(∀c,c≠U->¬P c->u ac c=u h c)->K dF ac (U+1)):dD (dU (dM k h U v (.slice (some ⟨bQ,dP,k3⟩) 1 M))) K:=by obtain⟨aQ,kx,aO⟩:=H.hl;refine x7 hk L Z kx x ap aY V λac bv bE=>hi _ _ (.inr ⟨U,Uc,ab,bv⟩) ab
def azz(cj H4 a H b W:Nat)(ag:aa GE)(ao:Nat)(au:ae)(m:Nat)(aF:aa X)(ac:ae)(Y:Nat):Prop :=
 ∃(i:Nat) (o:X),m=H-i/\i<=H/\aF=[bf cj,bf H4,(a:X),(H:X),(b:X),(W:X),o,(H:X),(i:X)]/\d1 ac o cX 3 (lN ag a i b W) ao Y/\aA ao au ac/\ao<=Y
def y8(l:aa GE)(i b W:Nat):aa GE:=(l.filter (yM b W)).map λg=>⟨i,g.t-b,g.w⟩
def SO(cj H4 a H b W i:Nat)(dr:X)(pre l:aa GE)(ao d4 fP:Nat)(au b3:ae)(m:Nat)(aF:aa X)(ac:ae)(Y:Nat):Prop :=
 ∃(k:Nat) (o:X),m=l.length-k/\k<=l.length/\aF=[bf cj,bf H4,(a:X),(H:X),(b:X),(W:X),o,(i:X),(H:X),(i:X),dr,(l.length:X),(k:X)] /\
  kL ac o cX 3 (pre++y8 (l.take k) i b W) (λd=>ao<=d/\d<Y/\¬(d4<=d/\d<fP))/\(∀d,d4<=d->d<fP->u ac d=u b3 d)/\aA ao au ac/\fP<=Y
theorem ar8(l:aa GE)(i b W:Nat):(y8 l i b W).length<=l.length:=by unfold y8;grind
theorem Z0{l:aa GE}{k W:Nat}(h:l[k]? = some g):y8 (l.take (k+1)) i b W=y8 (l.take k) i b W++(if yM b W g=true then[⟨i,g.t-b,g.w⟩]else[]):=by
 unfold y8;rw[ho,h,r9,iK]
 grind
theorem ar9{c eb ce:Nat}{v:X}{h:ae}{U:Nat}(M:hg r c ag)(aG:kj h U v r c ag)(haa:a<=eb)(har:eb<=r)(yS:b<=ce)(t8:ce<=c):
  aH Q s 203 [v,.agg ⟨[(a:X),(eb:X)]⟩,.agg ⟨[(b:X),(ce:X)]⟩] h U (Rz (eb-a) (ce-b) (lN ag a (eb-a) b (ce-b)) U h):=by
 refine au7 ?_;have ia:=aG;obtain⟨fC,aS,cap,v2,v3,rfl,aO,a9,qg,pf⟩:=id aG;obtain⟨a2,c2,rfl⟩:=qg.form;obtain⟨a3,b8,rfl⟩:=pf.form;have bb:=M.bb;have a1:=M.a1;have bA:=M.len;have bT:∀{o a0 k6 gh},aA U h (F (F (F (F h U o) (U+1) a0) (U+1+1) k6) (U+1+1+1) gh):=aN
 unfold afU;refine aD ?_;refine(F0 M (ia.T bT J)).mono ?_;rintro _ h1 a5 ⟨rfl,d0,f0⟩;have cJ:=d0 U J;rw[ar J,ar J,ar J,aT]at cJ;have g1:=d0 (U+1) J;rw[ar J,ar J,aT]at g1;have g2:=d0 (U+1+1) J;rw[ar J,aT]at g2;have c6:=d0 (U+1+1+1) J;rw[aT]at c6;refine cQ @cJ @g1 ?_;refine(Xi haa har bb).mono ?_;rintro _ ap bX ⟨rfl,eW,fg⟩;have k9:=eW U J;rw[aT]at k9;have fW:=eW (U+1+1) J;rw[ar J,g2]at fW;have f3:=eW (U+1+1+1) J;rw[ar J,c6]at f3;refine cQ @k9 @fW ?_;refine(Xi yS t8 a1).mono ?_;rintro _ aM bW ⟨rfl,e1,gJ⟩;have aE:=(e1 U J).trans k9;have cf:=(e1 (U+1+1+1) J).trans f3;refine aD ?_;generalize fK:eb-a=H;generalize jB:ce-b=W;have hHr:a+H<=r:=J
 have hWc:b+W<=c:=J
 have gz:∀i,i<=H->(lN ag a i b W).length<=120:=λi aj=>(Kv M J hWc).len;refine bC.mk (azz U (U+1+1+1) a H b W ag bW aM) H ⟨0,_,rfl,J,rfl,by rw[avf];exact .inl ab,aN,J⟩ ?_;rintro _ _ bc Z ⟨i,o,rfl,aj,rfl,dn,fI,hb⟩;rw[arQ];unfold abX;have g8:=(fI U J).trans aE;have g7:=(fI (U+1+1+1) J).trans cf;have gG:aA U h bc:=aN
 refine aD ?_;refine⟨λct=>?_,λeM=>?_⟩
 ·have da:IntKind.wrap .i64 ((a:Int)+(i:Int))=((a+i:Nat):Int):=by rw[show(a:Int)+(i:Int)=((a+i:Nat):Int) by omega];exact jG J J
  refine cQ @g8 @da ?_;refine(ar6 M (ia.T gG J) J).mono ?_;rintro rw b3 fP ⟨ei,gf,nl⟩;have H2:=Qq ag (a+i);obtain⟨lF,b2,rfl⟩:∃lF b2,rw = .slice lF (eL ag (a+i)).length b2:=by
   rcases ei with⟨aW,aK⟩|⟨b,_,_,e,_⟩
   all_goals grind
  have t9:kL b3 o cX 3 (lN ag a i b W) (λd=>bW<=d/\d<fP/\¬(Z<=d/\d<fP)):=(kL.of dn).T λd L=>⟨gf d L.2,L.1,J,J⟩
  refine aD ?_;refine bC.mk (SO U (U+1+1+1) a H b W i (.slice lF (eL ag (a+i)).length b2) (lN ag a i b W) (eL ag (a+i)) bW Z fP aM b3) (eL ag (a+i)).length ⟨0,_,J,J,rfl,by rw[tf];unfold y8;rw[List.filter_nil,zL,h6];exact t9,ab,aN,J⟩ ?_;generalize rB:eL ag (a+i)=l at *
  generalize Tk:lN ag a i b W=pre at *
  rintro _ _ cy n6 ⟨k,nD,rfl,hk,rfl,xd,hr6,ji,n2⟩;rw[arP];unfold abW;refine aD ?_;refine⟨λDB=>?_,λazA=>?_⟩
  ·obtain⟨g,V⟩:=dR (J:k<l.length);have vt:g.t<c:=M.mi g (Pt (show g∈eL ag (a+i) by grind)).1;have ko:=ar8 (l.take k) i b W;rw[ql]at ko;have fin:∀{a0:X} {ev:ae} {n7:Nat},kL ev a0 cX 3 (pre++y8 (l.take (k+1)) i b W) (λd=>bW<=d/\d<n7/\¬(Z<=d/\d<fP))->(∀d,d<n6->(bW<=d->Z<=d/\d<fP)->u ev d=u cy d)->n6<=n7 ->
     ∃bG,bG<l.length-k/\SO U (U+1+1+1) a H b W i (.slice lF l.length b2) pre l bW Z fP aM b3 bG [bf U,.pointer (some ⟨U+1+1+1,0,none⟩),(a:X),(H:X),(b:X),(W:X),a0,(i:X),(H:X),(i:X),.slice lF l.length b2,(l.length:X),((k+1:Nat):X)] ev n7:=λ{a0 ev n7} xB bE dO =>
    ⟨l.length-(k+1),J,k+1,a0,rfl,J,rfl,xB,λd h1 ap=>ab,λd L=>by rw[bE d J (λh=>absurd h J)];exact ji d L,J⟩
   have skip:yM b W g=false->∀{ev:ae},(∀d,d<n6->u ev d=u cy d)->∃bG,bG<l.length-k/\SO U (U+1+1+1) a H b W i (.slice lF l.length b2) pre l bW Z fP aM b3 bG [bf U,.pointer (some ⟨U+1+1+1,0,none⟩),(a:X),(H:X),(b:X),(W:X),nD,(i:X),(H:X),(i:X),.slice lF l.length b2,(l.length:X),((k+1:Nat):X)] ev (n6+1):=λaj {ev} bE =>
    fin (by rw[Z0 V,if_neg ab,h6];exact xd.T λd L=>⟨bE d L.2.1,L.1,J,L.2.2⟩) (λd L _=>bE d L) J
   rcases ei with⟨aW,_⟩|⟨ut,hR,fm,e,hrb⟩
   ·rw[aW]at V;cases V
   cases e;have azB:=(hr6 ut hR fm).trans hrb;simp(disch:=omega)only[bl,azB,D1 (enc:=G2) (k:=2) (λ_=>rfl) V,G2,seval];have fW:∀{o a0:fJ} {d:Nat},d<n6->u (F (F cy n6 o) n6 a0) d=u cy d:=λL=>ab
   unfold Ql;refine⟨λh1=>?_,λh1=>?_⟩
   ·have dc:IntKind.wrap .i64 ((g.t:Int)-(b:Int))=((g.t-b:Nat):Int):=by rw[show(g.t:Int)-(b:Int)=((g.t-b:Nat):Int) by omega];exact jG J J
    refine bh @dc ?_;refine⟨λap=>?_,λap=>?_⟩
    ·refine Kw  (k:=3) (nG:=λd=>bW<=d/\d<n6+1+1+1/\¬(Z<=d/\d<fP)) (λ_=>rfl) (λ_=>rfl) J (xd.T (nG:=λd=>bW<=d/\d<n6/\¬(Z<=d/\d<fP)) λd L=>⟨ab,L.1,L.2.1,L.2.2⟩) ⟨J,J,J⟩ (⟨i,g.t-b,g.w⟩:GE) (aT _ _ _) rfl ab λdF m8 xB hf8=>?_;refine bh (cv (J:k<1000000000000)) ?_;refine fin ?_ (λd aM bc=>?_) J
     ·rw[Z0 V,if_pos (show yM b W g=true from gP J),<-kA];exact xB
     grind
    ·refine bh (cv (J:k<1000000000000)) ?_;exact skip (hD J) λd L=>fW L
   ·refine bh (cv (J:k<1000000000000)) ?_;exact skip (hD J) λd L=>fW L
  ·have:k=l.length:=J
   subst this;rw[hC]at xd;refine bh (cv (J:i<1000000000000)) ?_;refine⟨H-(i+1),J,i+1,_,rfl,J,rfl,?_,ji,J⟩;rw[ak3 M.up,Tk];unfold SN;rw[rB];exact xd.at_ λd L=>⟨L.1,L.2.1⟩
 ·have:i=H:=J
  subst this;have sQ:fF bc Z o cX (lN ag a i b W):=by
   rcases dn with⟨aW,aK⟩|⟨d,h1,ap,e,a9⟩
   ·exact⟨none,0,ab,λeS=>absurd aW eS⟩
   ·exact⟨_,_,e,λ_=>⟨d,some 3,false,[],ap,rfl,ab⟩⟩
  refine(Pu sQ (Kv M hHr hWc)).mono ?_;rintro aB9 b3 fP ⟨ei,gf,nl⟩;obtain⟨ut,rsp,ahf,cB,cE,cg,df,d8,eh,rfl⟩:=ei.is.form;have f4:=(gf (U+1+1+1) J).trans g7;refine bh @f4 ?_;have jp:aA U h b3:=gG.trans gf J;exact⟨ei.T (λd h1 ap=>ar J) J (cD _),jp.set J,J⟩
theorem avg{n R:Nat}{v:X}{h:ae}{U:Nat}(M:hg n n ag)(aG:kj h U v n n ag)(ei:0<R)(H5:R<=8)(d5:0<C)(xe:C<=8)(aj:i<R)(bZ:j<C):
  aH Q s 123 [v,(R:X),(C:X),(i:X),(j:X)] h U (Rz (c8 n R (i+1)-c8 n R i) (c8 n C (j+1)-c8 n C j) (lN ag (c8 n R i) (c8 n R (i+1)-c8 n R i) (c8 n C j) (c8 n C (j+1)-c8 n C j)) U h):=by
 refine axI ?_;have ia:=aG;obtain⟨fC,aS,cap,v2,v3,rfl,aO,a9,qg,pf⟩:=id aG;obtain⟨a2,c2,rfl⟩:=qg.form;obtain⟨a3,b8,rfl⟩:=pf.form;have bb:=M.bb;have bT:∀{o a0},aA U h (F (F h U o) (U+1) a0):=aN
 unfold ahb;refine aD ?_;refine(JL M (ia.T bT J)).mono ?_;rintro _ h1 a5 ⟨rfl,d0,f0⟩;have V:=d0 U J;rw[ar J,aT]at V;have g1:=d0 (U+1) J;rw[aT]at g1;refine aD ?_;refine(Qr ei H5 d5 xe aj bZ).mono ?_;rintro _ _ _ ⟨rfl,rfl,rfl⟩;refine aD ?_;unfold Ru;refine bh @V ?_;refine(Co   bb ei H5 J).mono ?_;rintro _ ap bX ⟨rfl,L,fg⟩;have k9:=(L U J).trans V;have fA:=(L (U+1) J).trans g1;refine⟨fg,?_⟩;refine cQ @k9 @V ?_;refine(Co   bb d5 xe J).mono ?_;rintro _ aM bW ⟨rfl,e1,gJ⟩;have aE:=(e1 U J).trans k9;have aW:=(e1 (U+1) J).trans fA;refine⟨gJ,?_⟩;have fD:aA U h aM:=aN
 refine hx @aE @k9 @V ?_;refine(ar9  M (ia.T fD J) (uL J) (ts ei _) (uL J) (ts d5 _)).mono ?_;rintro aB9 bc d4 ⟨Z,fI,hb⟩;refine⟨hb,?_⟩;obtain⟨ut,rsp,ahf,cB,cE,cg,df,d8,eh,rfl⟩:=Z.is.form;have e8:=(fI (U+1) J).trans aW;refine bh @e8 ?_;exact⟨Z.T ab J J,aN,J⟩
def azC(p r:Nat)(ag:aa GE)(ao:Nat)(au:ae)(m:Nat)(aF:aa X)(ac:ae)(Y:Nat):Prop :=
 ∃(i:Nat) (o:X),m=r-i/\i<=r/\aF=[bf p,o,(r:X),(i:X)]/\d1 ac o cX 3 (ag.take (dC ag i)) ao Y/\aA ao au ac/\ao<=Y
def azD(p r i n:Nat)(dr fC:X)(ag:aa GE)(ao:Nat)(au:ae)(m:Nat)(aF:aa X)(ac:ae)(Y:Nat):Prop :=
 ∃(k:Nat) (o:X),m=n-k/\k<=n/\aF=[bf p,o,(i:X),fC,(r:X),(i:X),dr,(n:X),(k:X)]/\d1 ac o cX 3 (ag.take (dC ag i+k)) ao Y/\aA ao au ac/\ao<=Y
def axQ(ag:aa GE)(U:Nat)(h:ae):bR:=λres ac Y=>d1 ac res cX 3 ag U Y/\aA U h ac/\U<=Y
theorem WN{c:Nat}{v:X}{h:ae}{U:Nat}(M:hg r c ag)(aG:kj h U v r c ag):aH Q s 206 [v] h U (axQ ag U h):=by
 refine ajj ?_;have ia:=aG;obtain⟨fC,Ud,l6,a2,m2,c2,a3,m3,b8,rfl⟩:=aG.form;have bb:=M.bb;have bA:=M.len;have bT:∀{o},aA U h (F h U o):=aN
 unfold Yi;refine aD ?_;refine(F0 M (ia.T bT J)).mono ?_;rintro _ h1 a5 ⟨rfl,d0,f0⟩;have g1:=d0 U J;rw[aT]at g1;refine bh @g1 ?_;refine bC.mk (azC U r ag a5 _) r ⟨0,_,J,J,rfl,by rw[Lb,tf];exact .inl ab,aA.refl _ _,J⟩ ?_;rintro _ _ aM bW ⟨i,o,rfl,aj,rfl,dn,Z,gJ⟩;have c6:=Z U J;rw[aT]at c6;have fD:aA U h aM:=aN
 rw[aiD];unfold WM;refine aD ?_;refine⟨λct=>?_,λeM=>?_⟩
 ·have ct:i<r:=J
  refine bh @c6 ?_;refine(ZX M (ia.T fD (cD _)) J ct).mono ?_;rintro _ bc d4 ⟨dc,ja,rfl,VF,BO,fI,hb⟩;obtain⟨iQ,cE,rfl,_⟩:=id VF;obtain⟨hI,cg,rfl,_⟩:=id BO;have vR:=CJ (eL ag i);have vQ:=Gq (eL ag i);rw[vR]at VF;rw[vQ]at BO;rw[vR,vQ];have H2:=FZ M.up i;have js:=z1 ag (J:i<=i+1);have aBu:=u1 ag (i+1);refine aD ?_;refine bC.mk (azD U r i (eL ag i).length (.slice iQ (eL ag i).length cE) (.slice hI (eL ag i).length cg) ag a5 (F h1 U _)) (eL ag i).length ⟨0,_,J,J,rfl,dn.T (λd hH iQ=>fI d iQ) hb,Z.trans fI gJ,J⟩ ?_;rintro _ _ b3 fP ⟨k,o,rfl,hk,rfl,t9,V,nl⟩;rw[aiC];unfold WL;refine aD ?_;refine⟨λDB=>?_,λazA=>?_⟩
  ·obtain⟨g,L⟩:=dR J;obtain⟨bQ,dP,kb,y7,y6,fm,rfl,iq,azE⟩:=VF.at (Kt L)
   obtain⟨d6,gh,kO,H3,Bv,pX,rfl,sH,azF⟩:=BO.at (Ku L)
   have hgf:g.f=i:=(Pt (kz L)).2;have lQ:ag[dC ag i+k]? = some g:=by rw[<-Ps M.up J];omega
   have aK:u b3 bQ=some (.cells y6 y7):=by rw[<-iq,V bQ J,fI bQ J,Z bQ J]
   have cf:u b3 d6=some (.cells Bv H3):=by rw[<-sH,V d6 J,fI d6 J,Z d6 J]
   simp(disch:=omega)only[bl,aK,azE k _ (Kt L),cf,azF k _ (Ku L),seval];refine lJ (enc:=cX)  (λ_=>rfl) (λ_=>rfl) J (t9.T ab J) J (⟨i,g.t,g.w⟩:GE) (aT _ _ _) rfl ab λdF cy xd ji=>?_;refine bh (cv (J:k<1000000000000)) ?_;refine⟨(eL ag i).length-(k+1),J,k+1,_,rfl,J,rfl,?_,λd bj=>?_,J⟩
   ·rw[show dC ag i+(k+1)=dC ag i+k+1 by omega,ho,lQ];have qV:(⟨i,g.t,g.w⟩:GE)=g:=by rw[<-hgf]
    rw[qV]at xd;exact xd
   ·rw[ji d bj,ar J];exact V d bj
  ·have:k=(eL ag i).length:=J
   subst this;rw[H2,show dC ag i+(dC ag (i+1)-dC ag i)=dC ag (i+1) by omega]at t9;refine bh (cv (J:i<1000000000000)) ?_;exact⟨r-(i+1),J,i+1,_,rfl,J,rfl,t9,V,nl⟩
 ·have:i=r:=J
  subst this;rw[af3 M,hC]at dn;refine⟨?_,fD,J⟩;rcases dn with e|⟨b,h1,ap,aM⟩
  ·exact .inl e
  ·exact .inr ⟨b,J,ap,aM⟩
def Ao(ag fo:aa GE):Prop:=fo.Perm (ag.map pB)
theorem ak4{c:Nat}(M:hg r c ag):(ag.map pB).Pairwise λx y=>¬(x.f=y.f/\x.t=y.t):=by rw[tc];refine NL (λ{x y} h=>?_) M.up;unfold mV at h;show ¬(x.t=y.t/\x.f=y.f);omega
theorem asa{c:Nat}{L:aa GE}(M:hg r c ag)(V:Ao ag L)(aq:L.Pairwise λx y=>¬qD y x<0):hg c r L where
 up:=by have bj:L.Pairwise λx y=>¬(x.f=y.f/\x.t=y.t):=(List.Perm.pairwise_iff J V).2 (ak4 M);refine List.Pairwise.imp₂ (λ{x y} h1 ap=>?_) aq bj;rw[Kr]at h1;unfold mV at h1 ⊢;omega
 rows:=λg Z=>by obtain⟨x,aY,rfl⟩:=fz.1 (V.mem_iff.1 Z);exact M.mi x aY
 mi:=λg Z=>by obtain⟨x,aY,rfl⟩:=fz.1 (V.mem_iff.1 Z);exact M.rows x aY
 bb:=M.a1
 a1:=M.bb
 len:=by rw[V.length_eq,gn];exact M.len
def qF(ag:aa GE)(i:Nat):aa GE:=(ag.take i).map pB++ag.drop i
theorem Z1:(qF ag i).length=ag.length:=by unfold qF;grind
theorem an7(h:i<=ag.length):(qF ag i)[i]? = ag[i]?:=by
 unfold qF
 grind
theorem an8(h:ag[i]? = some g):(qF ag i).set i (pB g)=qF ag (i+1):=by
 have aj:=(hn.1 h).1;have L:((ag.take i).map pB).length=i:=ab
 unfold qF;rw[I8 _ _ J,L,Fc,ho,h,iK,kA]
 congr 1
 rw[B5 aj];rfl
def TuJ(cj cN ao aj:Nat)(w:X)(ag:aa GE)(au:ae)(a4:Nat)(m:Nat)(aF:aa X)(ac:ae)(Y:Nat):Prop :=
 ∃i,m=ag.length-i/\i<=ag.length/\aF=[bf cj,bf cN,w,w,(ag.length:X),(i:X)]/\d1 ac w cX 3 (qF ag i) ao aj/\aA ao au ac/\a4<=Y
theorem asb{l:aa GE}{w:X}{h:ae}{U ao aj:Nat}(dn:d1 h w cX 3 l ao aj)(eZ:aj<=U)(bA:l.length<=120):
  aH Q s 297 [w,.func (.func 298) #[] #[]] h U (λ_ ac Y=>∃L,L.Perm l/\L.Pairwise (λx y=>¬qD y x<0)/\d1 ac w cX 3 L ao aj/\aA ao h ac/\U<=Y):=by
 rcases dn with⟨rfl,rfl⟩|⟨b,h1,ap,rfl,a9⟩
 ·exact anF ⟨[],Ce _,List.Pairwise.nil,.inl ab,aN,J⟩
 ·refine(ary rfl J J a9).mono ?_;rintro _ ac Y ⟨V,⟨L,Z,aq,M⟩,bE⟩;exact⟨L,Z,aq,.inr ⟨b,h1,ap,by rw[Z.length_eq],M⟩,aN,V⟩
def axR(r c:Nat)(ag:aa GE)(U:Nat)(h:ae):bR:=λv ac Y=>∃fo,Ao ag fo/\hg c r fo/\wx ac U Y v c r fo/\aA U h ac/\U<=Y
theorem an9{c:Nat}{v:X}{h:ae}{U:Nat}(M:hg r c ag)(aG:kj h U v r c ag):aH Q s 207 [v] h U (axR r c ag U h):=by
 refine arS ?_;have ia:=aG;obtain⟨fC,Ud,l6,a2,m2,c2,a3,m3,b8,rfl⟩:=aG.form;have bA:=M.len;have bT:∀{o a0},aA U h (F (F h U o) (U+1) a0):=aN
 unfold aeo;refine aD ?_;refine(F0 M (ia.T bT J)).mono ?_;rintro _ h1 a5 ⟨rfl,d0,f0⟩;have cJ:=d0 U J;rw[ar J,aT]at cJ;have g1:=d0 (U+1) J;rw[aT]at g1;refine bh @cJ ?_;have eA:∀{o},aA U h (F h1 U o):=aN
 refine(WN M ((ia.T eA (cD _)).T (aA.refl _ _) J)).mono ?_;rintro w ap bX ⟨dn,eW,fg⟩;have k9:=eW U J;rw[aT]at k9;have fA:=eW (U+1) J;rw[ar J,g1]at fA;obtain⟨nB,ou,rfl⟩:=(kL.of dn).form;refine aD ?_;refine bC.mk (TuJ U (U+1) a5 bX (.slice nB ag.length ou) ag ap bX) ag.length ⟨0,J,J,rfl,by exact dn,aN,J⟩ ?_;rintro _ _ aM bW ⟨i,rfl,aj,rfl,hS3,V,gJ⟩;rw[anW];unfold ZQ;refine aD ?_;refine⟨λct=>?_,λeM=>?_⟩
 ·obtain⟨g,a9⟩:=dR J;have gz:(qF ag i).length=ag.length:=Z1;have L:(qF ag i)[i]? = some g:=by rw[an7 aj,a9]
  rcases hS3 with⟨e,_⟩|⟨b,hH,iQ,e,sR⟩
  ·rw[e]at L;cases L
  ·rw[gz]at e;cases e;have b0:∀bg:ae,j4 (some (.cells (bd cX (qF ag i)) false)) bg b (i*3) [(g.t:X),(g.f:X),(g.w:X)] = .ok (F bg b (.cells (bd cX ((qF ag i).set i (pB g))) false)):=λbg=>wrG (x:=pB g) J;simp(disch:=omega)only[bl,sR,D1 (enc:=cX) (k:=3) (λ_=>rfl) L,cX,b0,cv (J:i<1000000000000),seval];refine⟨ag.length-(i+1),J,i+1,rfl,J,rfl,.inr ⟨b,hH,iQ,by rw[Z1],?_⟩,λd bj=>?_,J⟩
   ·rw[aT,an8 a9]
   ·rw[ar J,ar J,ar J];exact V d bj
 ·have:i=ag.length:=J
  subst this;have Ue:d1 aM (.slice nB ag.length ou) cX 3 (ag.map pB) a5 bX:=by
   have e:qF ag ag.length=ag.map pB:=by unfold qF;grind
   rw[<-e];exact hS3
  refine(asb Ue gJ ab).mono ?_;rintro _ b3 fP ⟨Z,bg,aq,t9,gf,nl⟩;have ui:=asa M bg aq;have aE:u b3 U=some (.cells [(r:X),(c:X),.slice (some ⟨fC,0,Ud⟩) (r+1) l6,.slice a2 m2 c2,.slice a3 m3 b8] false):=by rw[gf U J,V U J];omega
  have aW:=(gf (U+1) J).trans ((V (U+1) J).trans fA);refine bh @aE ?_;have sQ:fF b3 fP (.slice nB ag.length ou) cX Z:=by
   have rE:Z.length=ag.length:=by rw[bg.length_eq,gn]
   rcases t9 with⟨hH,iQ⟩|⟨d,hH,iQ,hI,uh⟩
   ·exact⟨nB,ou,ab,λeS=>absurd hH eS⟩
   ·rw[rE]at hI;cases hI;exact⟨_,_,by rw[rE],λ_=>⟨d,some 3,false,[],J,rfl,ab⟩⟩
  refine(Pu sQ ui).mono ?_;rintro aB9 cy n6 ⟨ei,ji,n2⟩;obtain⟨ut,rsp,ahf,cB,cE,cg,df,d8,eh,rfl⟩:=ei.is.form;have e8:=(ji (U+1) J).trans aW;refine bh @e8 ?_;exact⟨Z,bg,ui,ei.T ab J J,aN,J⟩
theorem asc{r:Int}{K:Nat->al}{f:Nat->aw Int}(V:j<C)(M:K j=false):
  fl r ((List.range C).map λk=>if(if k=j then true else K k)=true then f k else none)=e0 r (fl r ((List.range C).map λk=>if K k=true then f k else none)) (f j):=by
 have L:((List.range C).map λk=>if(if k=j then true else K k)=true then f k else none)=(List.range C).map λk=>e0 r (if K k=true then f k else none) (if k=j then f k else none):=by
  refine oC λk _=>?_
  by_cases e:k=j
  ·subst e;rw[if_pos rfl,if_pos rfl,if_pos rfl,M];rfl
  ·rw[if_neg e,if_neg e,ra]
 rw[L,O8]
 congr 1
 clear L
 induction C with
 |zero=>omega
 |succ C Z =>
  rw[q6,iK,FU];show e0 r _ (e0 r (if C=j then f C else none) none)=_;rw[ra]
  by_cases e:C=j
  ·subst e;rw[if_pos rfl,wc,FB]
   grind
  ·rw[if_neg e,ra];grind
def Lz(r:Int)(ag:aa GE)(x:Nat->aw Int)(a H b W v:Nat):aw Int:=il r (lN ag a H b W) (λk=>x (b+k)) v
theorem ase(r:Int)(ag:aa GE)(x:Nat->aw Int)(a H b W v:Nat)(L:v<H):
  Lz r ag x a H b W v=fl r (ag.map λg=>if b<=g.t/\g.t<b+W then(if g.f=a+v then(x g.t).map (he r g.w)else none)else none):=by
 unfold Lz il lN;rw[pn,Oc];refine JW λg _=>?_;unfold pJ
 grind
def AB(r:Int)(ag:aa GE)(x:Nat->aw Int)(a H C:Nat)(ao:Nat->Nat)(K:Nat->al)(v:Nat):aw Int :=
 fl r ((List.range C).map λj=>if K j=true then Lz r ag x a H (ao j) (ao (j+1)-ao j) v else none)
theorem aoa{r:Int}{x:Nat->aw Int}{ao:Nat->Nat}(v:Nat):AB r ag x a H C ao (λ_=>false) v=none :=
 wc λy L=>ab
theorem aob{r:Int}{x:Nat->aw Int}{ao:Nat->Nat}{K:Nat->al}(M:j<C)(L:K j=false)(v:Nat):
  AB r ag x a H C ao (λk=>if k=j then true else K k) v=e0 r (AB r ag x a H C ao K v) (Lz r ag x a H (ao j) (ao (j+1)-ao j) v):=asc M L
theorem ak5{r:Int}{x:Nat->aw Int}{n:Nat}{ao:Nat->Nat}{K:Nat->al}(Z:∀i j,i<=j->ao i<=ao j)(L:ao 0=0)(d5:ao C=n)(ci:∀g∈ag,g.t<n)(hi:∀j,j<C->K j=true){v:Nat}(V:v<H):
  AB r ag x a H C ao K v=il r ag x (a+v):=by
 have e:AB r ag x a H C ao K v=fl r ((List.range C).map λj=>fl r (ag.map λg=>if ao j<=g.t/\g.t<ao (j+1)then(if g.f=a+v then(x g.t).map (he r g.w)else none)else none)):=by
  unfold AB
  congr 1
  refine oC λj M=>?_;rw[hi j (Fa.1 M),if_pos rfl,ase _ _ _ _ _ _ _ _ V]
  grind
 rw[e,X6 r _ (λg:GE=>g.t) ao Z L];unfold il;refine JW λg a9=>?_
 grind
def tu(A:aa Nat)(g:GE):aa Nat:=if A.getLast? = some g.f then A else A++[g.f]
def dY(ag:aa GE):aa Nat:=ag.foldl tu []
theorem CK{az:Type}{C:aa az->Prop}(L:C [])(M:∀p g,C p->C (p++[g]))(p:aa az):C p:=by
 rw[<-List.reverse_reverse p]
 induction p.reverse with
 |nil=>exact L
 |cons x l V=>rw[List.reverse_cons];exact M _ _ V
theorem wk(p:aa GE)(g:GE):dY (p++[g])=tu (dY p) g:=by unfold dY;grind
theorem Z2:∀(p:aa GE),(dY p).getLast? = p.getLast?.map GE.f:=by
 refine CK rfl λp g L=>?_
 ·skip
  rw[wk,List.getLast?_append];unfold tu
  grind
theorem Gr:∀(p:aa GE) (a:Nat),a∈dY p->∃g∈p,g.f=a:=by
 refine CK (λa h=>by cases h) λp g L=>?_
 ·skip
  intro a h;rw[wk]at h;unfold tu at h
  grind
theorem Gs:∀(p:aa GE),(dY p).length<=p.length:=by
 refine CK (cD _) λp g L=>?_
 ·skip
  rw[wk,jd];unfold tu
  grind
def g5(ag:aa GE):aa Int:=(dY ag).map (λa=>(dC ag a:Int))++[(ag.length:Int)]
def gB(ag:aa GE):aa Int:=(dY ag).map λa:Nat=>(a:Int)
theorem ya(ag:aa GE):(g5 ag).length=(dY ag).length+1:=by unfold g5;grind
theorem Gt(ag:aa GE):(gB ag).length=(dY ag).length:=by unfold gB;grind
theorem Ad(h:kR (p++[g])):∀x∈p,mV x g:=λx L=>(r7.1 h).2.2 x L g ab
theorem Z3(h:a<=g.f):dC (p++[g]) a=dC p a:=by
 unfold dC
 grind
theorem aey(h:kR (p++[g])):(dY p).map (λa=>(dC (p++[g]) a:Int))=(dY p).map λa=>(dC p a:Int):=by apply oC;intro a L;obtain⟨x,M,rfl⟩:=Gr p a L;have:=Ad h x M;unfold mV at this;rw[Z3 J]
theorem aoc(h:kR (p++[g]))(M:(dY p).getLast? = some g.f):(g5 p).set (dY p).length ((p.length:Int)+1)=g5 (p++[g]):=by
 have L:dY (p++[g])=dY p:=by rw[wk];unfold tu;grind
 unfold g5;rw[L,aey h,I8 _ _ ab,gn,Fc,jd];simp
theorem asf(h:kR (p++[g]))(Z:(dY p).getLast?≠some g.f):(g5 p++[0]).set ((dY p).length+1) ((p.length:Int)+1)=g5 (p++[g]):=by
 have cW:dY (p++[g])=dY p++[g.f]:=by rw[wk];unfold tu;grind
 have M:dC (p++[g]) g.f=p.length:=by
  rw[Z3 J];unfold dC;rw[zG.2];intro x L;apply gP;have ct:=Ad h x L;apply uz;intro bv;rw[Z2]at Z;cases V:p.getLast? with
  |none=>grind
  |some y =>
   rw[V]at Z;have cd:y∈p:=ab
   have ap:=Ad h y cd;unfold mV at ap;have hyf:¬y.f=g.f:=ab
   obtain⟨q,dt⟩:=I6.1 V;have bg:=(r7.1 h).1;rw[dt]at bg L;rcases hp.1 L with L|L
   ·have:=Ad bg x L;unfold mV at this;omega
   grind
 unfold g5;rw[cW,iK,aey h,I8 _ _ ab];rw[jd,gn,jd];simp[M]
theorem aod{h:ae}{U:Nat}:aH Q s 205 [] h U (λv ac Y=>v = .agg ⟨[.int .i64 0,.int .i64 0,.slice none 0 0,.slice (some ⟨U+1,0,none⟩) 1 1,.slice none 0 0,.slice none 0 0]⟩/\u ac (U+1)=some (.cells (gA [0]) false)/\aA U h ac/\Y=U+1+1):=by refine arR ?_;unfold aen;refine aD ?_;exact⟨rfl,aN⟩
structure y9 (h:ae) (Z:Nat->Prop) (p:Nat) (x y:Int) (dH dl jo lb:aa Int) (v1 v2 v3 v4:X) (cI d6 fB:aw Nat) (bQ:Nat):Prop where
 g:u h p=some (.cells [(x:X),(y:X),v1,v2,v3,v4] false)
 da:gY h cq v1 dH cI
 g2:u h bQ=some (.cells (gA dl) false)
 aK:∃aS,v2 = .slice (some ⟨bQ,0,aS⟩) dl.length dl.length/\(aS=none\/aS=some 1)
 ja:gY h cq v3 jo d6
 nA:gY h cq v4 lb fB
 h3:∀d,cI=some d->Z d
 z2:Z bQ
 z3:∀d,d6=some d->Z d
 z4:∀d,fB=some d->Z d
 d12:cI≠some bQ
 d23:d6≠some bQ
 d24:fB≠some bQ
 d13:∀d,cI=some d->d6≠some d
 d14:∀d,cI=some d->fB≠some d
 d34:∀d,d6=some d->fB≠some d
theorem fa.two{h:ae}{l:aa Int}(L:u h b=some (.cells (gA l) false))(M:aS=none\/aS=some 1):fa h cq 1 (.slice (some ⟨b,0,aS⟩) l.length l.length) l (some b):=by
 rcases M with rfl|rfl
 ·refine .part L (by rw[zX];omega) ?_;rw[pk,q3 (by rw[zX];omega),hM]
 ·exact .own (by rw[hM];omega)
def kn(U aj ah t1 d:Nat):Prop:=U+3<=d/\d≠U+4/\d<aj/\¬(ah<=d/\d<t1)
theorem aoe{U aj ah t1 q k:Nat}{x:Int}{h:ae}(D:y9 h (kn U aj ah t1) (U+4) x y dH dl jo lb v1 v2 v3 v4 cI d6 fB bQ)(dt:u h q=some (.cells [(g.f:X),(g.t:X),(g.w:X)] false))(hq3:d6≠some q)(hqp:q≠U+4)(hqh:q<aj)(ci:t1<=aj)(aY:U+4<aj)(bA:dH.length<dl.length)(hl3:jo.length<=1000)(hl4:lb.length<=1000)(hk:k<=1000) (d7:∀ac dm v3' v4' b3' b4',aj<=dm->y9 ac (kn U dm ah t1) (U+4) x y dH (dl.set dH.length ((jo.length+1:Nat):Int)) (jo++[(g.t:Int)]) (lb++[g.w]) v1 v2 v3' v4' cI b3' b4' bQ->(∀d,d<aj->d≠U+4->¬kn U aj ah t1 d->u ac d=u h d) ->
   N [a2,.pointer (some ⟨U+4,0,none⟩),jM,iE,((k+1:Nat):X)] ac dm):
  CY s N E R a2 (.pointer (some ⟨U+4,0,none⟩)) (bf q) jM iE (k:X) h aj:=by
 obtain⟨a3,b8,rfl⟩:=D.ja.form;obtain⟨aZ,fL,rfl⟩:=D.nA.form;obtain⟨aB,c1,rfl⟩:=D.da.form;obtain⟨aS,rfl,n5⟩:=D.aK;have l5:=D.g;unfold CY;refine cQ @l5 @dt ?_;refine rm (D.ja.hl.T λd M=>by have:=(D.z3 d M).2.2.1;grind) (aT _ _ _) J λh1 qR pR=>?_;have fA:∀d,d<aj->d6≠some d->u h1 d=u h d:=ab
 have EF:∀{b:aw Nat},(∀d,b=some d->kn U aj ah t1 d)->b≠some (U+4):=λL e=>absurd rfl (L _ e).2.1;have Uf:=(fA (U+4) aY (EF D.z3)).trans l5;have gq1:=(fA q hqh hq3).trans dt;refine cQ @Uf @gq1 ?_;refine rm ((D.nA.hl.T  λd M=>by have L:=D.z4 d M;rw[ar (by have:=L.2.2.1;omega),ar L.2.1];exact fA d L.2.2.1 λe=>D.d34 d e M)) (aT _ _ _) J λap D9 mS=>?_
 have fW:∀d,d<aj+1+1->d≠U+4->fB≠some d->u ap d=u h1 d:=ab
 have Bq:u ap (U+4)=some (.cells [(x:X),(y:X),.slice aB dH.length c1,.slice (some ⟨bQ,0,aS⟩) dl.length dl.length,.slice (some ⟨aj+1,0,some 1⟩) (jo.length+1) (jo.length+1),.slice aZ lb.length fL] false):=by rw[mS _ J (EF D.z4),ar J,aT]
 have gs2:u ap bQ=some (.cells (gA dl) false):=by have L:=D.z2;rw[fW bQ (by have:=L.2.2.1;omega) L.2.1 D.d24,fA bQ L.2.2.1 D.d23];exact D.g2
 have gn2:u ap (aj+1)=some (.cells (gA (jo++[(g.t:Int)])) false):=by rw[fW (aj+1) J J (λe=>by have:=(D.z4 _ e).2.2.1;omega)];omega
 have Z:=D.z2;have vv:bQ≠U+4:=Z.2.1;have DZ:bQ<aj:=Z.2.2.1;refine hx @Bq @gs2 (cv (J:k<1000000000000)) ?_;refine⟨bA,d7 _ _ (.slice (some ⟨aj+1,0,some 1⟩) (jo.length+1) (jo.length+1)) (.slice (some ⟨aj+1+1+1,0,some 1⟩) (lb.length+1) (lb.length+1)) (some (aj+1)) (some (aj+1+1+1)) (by omega) ?_ λd aM bc b3=>?_⟩
 ·have vS:∀d,kn U aj ah t1 d->kn U (aj+1+1+1+1) ah t1 d:=λd L=>⟨L.1,L.2.1,by have:=L.2.2.1;omega,L.2.2.2⟩
  exact{
   g:=ab
   da:=D.da.T λd M=>by have L:=D.h3 d M;have:=L.2.2.1;have V:d≠bQ:=λe=>D.d12 ab;rw[ar V,ar L.2.1,fW d J L.2.1 (D.d14 d M),fA d J (D.d13 d M)]
   g2:=ab
   aK:=⟨aS,ab,n5⟩
   ja:=.inr ⟨aj+1,rfl,ab,by rw[ar J,ar J,hM];omega⟩
   nA:=.inr ⟨aj+1+1+1,rfl,ab,by rw[ar J,ar J,hM];omega⟩
   h3:=λd M=>vS d (D.h3 d M)
   z2:=vS _ Z
   z3:=λd M=>by cases M;exact⟨J,J,J,J⟩
   z4:=λd M=>by cases M;exact⟨J,J,J,J⟩
   d12:=D.d12
   d23:=ab
   d24:=ab
   d13:=λd M e=>by cases e;have:=(D.h3 _ M).2.2.1;omega
   d14:=λd M e=>by cases e;have:=(D.h3 _ M).2.2.1;omega
   d34:=ab }
 ·have V:d≠bQ:=ab
  rw[ar V,ar bc,fW d J bc (λe=>b3 (D.z4 d e)),fA d aM (λe=>b3 (D.z3 d e))]
theorem aof{U aj ah t1 q k:Nat}{x:Int}{h:ae}(D:y9 h (kn U aj ah t1) (U+4) x y dH dl jo lb v1 v2 v3 v4 cI d6 fB bQ)(dt:u h q=some (.cells [(g.f:X),(g.t:X),(g.w:X)] false))(hq1:cI≠some q)(hq2:bQ≠q)(hqp:q≠U+4)(hqh:q<aj)(ci:t1<=aj)(aY:U+4<aj)(rB:dH.length<=1000)(tQ:dl.length<=1001) (d7:∀ac dm v1' v2' b1' Ug,aj<=dm->y9 ac (kn U dm ah t1) (U+4) x y (dH++[(g.f:Int)]) (dl++[0]) jo lb v1' v2' v3 v4 b1' d6 fB Ug->u ac q=some (.cells [(g.f:X),(g.t:X),(g.w:X)] false)->(∀d,d<aj->d≠U+4->¬kn U aj ah t1 d->u ac d=u h d) ->
   CY s N E R a2 (.pointer (some ⟨U+4,0,none⟩)) (bf q) jM iE (k:X) ac dm):
  An s N E R a2 (.pointer (some ⟨U+4,0,none⟩)) (bf q) jM iE (k:X) (.bool true) h aj:=by
 obtain⟨a3,b8,rfl⟩:=D.ja.form;obtain⟨aZ,fL,rfl⟩:=D.nA.form;obtain⟨aB,c1,rfl⟩:=D.da.form;obtain⟨aS,rfl,n5⟩:=D.aK;have l5:=D.g;unfold An;refine cQ @l5 @dt ?_;refine rm (D.da.hl.T λd L=>by have:=(D.h3 d L).2.2.1;grind) (aT _ _ _) J λh1 qR pR=>?_;have fA:∀d,d<aj->cI≠some d->u h1 d=u h d:=ab
 have EF:∀{b:aw Nat},(∀d,b=some d->kn U aj ah t1 d)->b≠some (U+4):=λM e=>absurd rfl (M _ e).2.1;have Uf:=(fA (U+4) aY (EF D.h3)).trans l5;have Z:bQ≠U+4:=D.z2.2.1;have DZ:bQ<aj:=D.z2.2.2.1;refine bh @Uf ?_;have gr2:∀{o a0:fJ},fa (F (F h1 (U+4) o) (aj+1+1) a0) cq 1 (.slice (some ⟨bQ,0,aS⟩) dl.length dl.length) dl (some bQ):=λ{o a0}=>fa.two (by rw[ar J,ar Z,fA bQ DZ D.d12];exact D.g2) n5;refine rm gr2 (aT _ _ _) J λap D9 mS=>?_;have fW:∀d,d<aj+1+1->d≠U+4->d≠bQ->u ap d=u h1 d:=ab
 have Bq:u ap (U+4)=some (.cells [(x:X),(y:X),.slice (some ⟨aj+1,0,some 1⟩) (dH.length+1) (dH.length+1),.slice (some ⟨bQ,0,aS⟩) dl.length dl.length,.slice a3 jo.length b8,.slice aZ lb.length fL] false):=ab
 refine bh @Bq ?_;have vS:∀d,kn U aj ah t1 d->kn U (aj+1+1+1+1) ah t1 d:=λd M=>⟨M.1,M.2.1,by have:=M.2.2.1;omega,M.2.2.2⟩
 have V:∀d,kn U aj ah t1 d->cI≠some d->d≠bQ->∀{o:fJ},u (F ap (U+4) o) d=u h d:=λd M y4 Me {o}=>by
  have:=M.2.2.1
  grind
 refine d7 _ _ (.slice (some ⟨aj+1,0,some 1⟩) (dH.length+1) (dH.length+1)) (.slice (some ⟨aj+1+1+1,0,some 1⟩) (dl.length+1) (dl.length+1)) (some (aj+1)) (aj+1+1+1) (by omega) ?_ ?_ λd aM bc b3=>?_
 ·exact{
   g:=ab
   da:=.inr ⟨aj+1,rfl,ab,by rw[ar J,fW (aj+1) J J J,hM];omega⟩
   g2:=ab
   aK:=⟨some 1,ab,ab⟩
   ja:=D.ja.T λd L=>V d (D.z3 d L) (λe=>D.d13 d e L) (λe=>D.d23 ab)
   nA:=D.nA.T λd L=>V d (D.z4 d L) (λe=>D.d14 d e L) (λe=>D.d24 ab)
   h3:=λd L=>by cases L;exact⟨J,J,J,J⟩
   z2:=⟨J,J,J,J⟩
   z3:=λd L=>vS d (D.z3 d L)
   z4:=λd L=>vS d (D.z4 d L)
   d12:=ab
   d23:=λe=>by have:=(D.z3 _ e).2.2.1;omega
   d24:=λe=>by have:=(D.z4 _ e).2.2.1;omega
   d13:=λd L e=>by cases L;have:=(D.z3 _ e).2.2.1;omega
   d14:=λd L e=>by cases L;have:=(D.z4 _ e).2.2.1;omega
   d34:=D.d34 }
 ·grind
 ·rw[ar bc,fW d J bc (λe=>b3 (by rw[e];exact D.z2)),fA d aM (λe=>b3 (D.h3 d e))]
def yk(h:ae)(ao aj:Nat)(v:X)(r c:Nat)(ag:aa GE):Prop :=
 ∃v1 v2 v3 v4,v = .agg ⟨[(r:X),(c:X),v1,v2,v3,v4]⟩/\n3 h ao aj v1 (gB ag)/\(∃b aS,v2 = .slice (some ⟨b,0,aS⟩) (g5 ag).length (g5 ag).length/\ao<=b/\b<aj/\u h b=some (.cells (gA (g5 ag)) false))/\n3 h ao aj v3 (fs ag)/\n3 h ao aj v4 (gr ag)
def Mw(U ah t1:Nat)(x y:Int)(w:X)(ag:aa GE)(au:ae)(m:Nat)(aF:aa X)(ac:ae)(aj:Nat):Prop :=
 ∃(k:Nat) (v1 v2 v3 v4:X) (cI d6 fB:aw Nat) (bQ:Nat),m=ag.length-k/\k<=ag.length/\aF=[.pointer (some ⟨U+1,0,none⟩),.pointer (some ⟨U+4,0,none⟩),w,(ag.length:X),(k:X)] /\
  y9 ac (kn U aj ah t1) (U+4) x y (gB (ag.take k)) (g5 (ag.take k)) (fs (ag.take k)) (gr (ag.take k)) v1 v2 v3 v4 cI d6 fB bQ/\(∀d,d<t1->d≠U+4->¬kn U t1 ah t1 d->u ac d=u au d)/\t1<=aj
theorem aog{x:Int}{n:Nat}(M:(gB p).length=n+1)(L:(gB p)[n]? = some x):∃a:Nat,(dY p).getLast? = some a/\x=(a:Int):=by
 unfold gB at L M
 grind
theorem avh{c:Nat}{v:X}{h:ae}{U:Nat}(M:hg r c ag)(aG:kj h U v r c ag):
  aH Q s 124 [v] h U (λdF ac Y=>∃L,Ao ag L/\hg c r L/\yk ac U Y dF r c L/\aA U h ac/\U<=Y):=by
 refine axJ ?_;have ia:=aG;obtain⟨fC,Ud,l6,a2,m2,c2,a3,m3,b8,rfl⟩:=aG.form;have bb:=M.bb;have a1:=M.a1;have bA:=M.len;unfold ahc;refine aD ?_;have bT:∀{o a0},aA U h (F (F h U o) (U+1) a0):=aN
 refine aod.mono ?_;rintro _ h1 _ ⟨rfl,gs1,d0,rfl⟩;have cJ:=d0 U J;rw[ar J,aT]at cJ;have g1:=d0 (U+1) J;rw[aT]at g1;have cP:aA U h h1:=aN
 refine bh @cJ ?_;have eA:∀{o a0},aA U h (F (F h1 (U+1+1+1+1) o) (U+1+1+1+1) a0):=aN
 refine(JL M ((ia.T eA (cD _)).T (aA.refl _ _) J)).mono ?_;rintro _ ap bX ⟨rfl,eW,fg⟩;have k9:=eW U J;rw[ar J,ar J,cJ]at k9;have fA:=eW (U+1) J;rw[ar J,ar J,g1]at fA;have dw:=eW (U+1+1+1) J;rw[ar J,ar J,gs1]at dw;have IC:=eW (U+1+1+1+1) J;rw[aT]at IC;have fD:aA U h ap:=aN
 refine cQ @k9 @IC ?_;have gG:∀{o a0},aA U h (F (F ap (U+1+1+1+1) o) (U+1+1+1+1) a0):=aN
 refine(an9 M ((ia.T gG (cD _)).T (aA.refl _ _) J)).mono ?_;rintro v3 aM bW ⟨L,e9,ui,ei,e1,gJ⟩;refine(WN ui ei.is).mono ?_;rintro w bc Z ⟨dn,fI,hb⟩;have LA:aA bX _ bc:=e1.trans fI gJ;have aE:=LA U J;rw[ar J,ar J,k9]at aE;have aW:=LA (U+1) J;rw[ar J,ar J,fA]at aW;have es:=LA (U+1+1+1) J;rw[ar J,ar J,dw]at es;have nI:=LA (U+1+1+1+1) J;rw[aT]at nI;have jp:aA U h bc:=aN
 have A8:=ui.len;obtain⟨nB,ou,rfl⟩:=(kL.of dn).form;refine aD ?_;have aDj:y9 bc (kn U Z bW Z) (U+4) (r:Int) (c:Int) (gB (L.take 0)) (g5 (L.take 0)) (fs (L.take 0)) (gr (L.take 0)) (.slice none 0 0) (.slice (some ⟨U+1+1+1,0,none⟩) 1 1) (.slice none 0 0) (.slice none 0 0) none none none (U+1+1+1):={
  g:=nI
  da:=.inl ⟨rfl,rfl,rfl⟩
  g2:=es
  aK:=⟨none,rfl,ab⟩
  ja:=.inl ⟨rfl,rfl,rfl⟩
  nA:=.inl ⟨rfl,rfl,rfl⟩
  h3:=λd e=>by cases e
  z2:=⟨J,J,J,J⟩
  z3:=λd e=>by cases e
  z4:=λd e=>by cases e
  d12:=ab
  d23:=ab
  d24:=ab
  d13:=ab
  d14:=λd e=>by cases e
  d34:=λd e=>by cases e }
 refine bC.mk (Mw U bW Z (r:Int) (c:Int) (.slice nB L.length ou) L bc) L.length ⟨0,_,_,_,_,_,_,_,_,J,J,rfl,aDj,λd _ _ _=>rfl,cD _⟩ ?_;rintro _ _ b3 aj ⟨k,v1,v2,v3,v4,cI,d6,fB,bQ,rfl,hk,rfl,D,t4,nl⟩;rw[au4];unfold aek;refine aD ?_;refine⟨λct=>?_,λeM=>?_⟩
 ·obtain⟨g,a9⟩:=dR (J:k<L.length);rcases dn with⟨e,_⟩|⟨ur,hH,iQ,e,sR⟩
  ·rw[e]at a9;cases a9
  cases e;have vt:u b3 ur=some (.cells (bd cX L) false):=(t4 ur iQ J (λz=>z.2.2.2 ⟨hH,iQ⟩)).trans sR;obtain⟨aB,c1,rfl⟩:=D.da.form;have l5:=D.g;have gp4:∀{o a0},u (F (F b3 aj o) aj a0) (U+4)=some (.cells [(r:X),(c:X),.slice aB (gB (L.take k)).length c1,v2,v3,v4] false):=λ{o a0}=>ab
  simp(disch:=omega)only[bl,vt,D1 (enc:=cX) (k:=3) (λ_=>rfl) a9,cX,l5,seval];have tV:k<L.length:=J
  have y5:(L.take k).length=k:=ab
  have mp:L.take (k+1)=L.take k++[g]:=by rw[ho,a9];rfl
  have hup:kR (L.take k++[g]):=by rw[<-mp];exact List.Pairwise.sublist (List.take_sublist _ _) ui.up
  have Mj:=Gs (L.take k);have aR:=Gt (L.take k);have aEq:=ya (L.take k);have aCa:=CJ (L.take k);have aDk:=Gq (L.take k);have vR:fs (L.take k)++[(g.t:Int)]=fs (L.take (k+1)):=by rw[mp];unfold fs;grind
  have vQ:gr (L.take k)++[g.w]=gr (L.take (k+1)):=by rw[mp];unfold gr;grind
  have fin:∀{cy:ae} {H6:Nat} {dl:aa Int} {v1 v2 v3 v4:X} {cI d6 fB:aw Nat} {bQ:Nat} {E R:aP},y9 cy (kn U H6 bW Z) (U+4) (r:Int) (c:Int) (gB (L.take (k+1))) dl (fs (L.take k)) (gr (L.take k)) v1 v2 v3 v4 cI d6 fB bQ ->
    dl.set (gB (L.take (k+1))).length (((L.take k).length:Int)+1)=g5 (L.take (k+1))->(gB (L.take (k+1))).length<dl.length->u cy aj=some (.cells [(g.f:X),(g.t:X),(g.w:X)] false)->d6≠some aj->aj+1<=H6->(∀d,d<Z->d≠U+4->¬kn U Z bW Z d->u cy d=u bc d) ->
    CY s (λaF ac Y=>∃bG,bG<L.length-k/\Mw U bW Z (r:Int) (c:Int) (.slice (some ⟨ur,0,some 3⟩) L.length L.length) L bc bG aF ac Y) E R (.pointer (some ⟨U+1,0,none⟩)) (.pointer (some ⟨U+4,0,none⟩)) (bf aj) (.slice (some ⟨ur,0,some 3⟩) L.length L.length) (L.length:X) (k:X) cy H6:=by intro cy H6 dl v1 v2 v3 v4 cI d6 fB bQ E R Nh F SP Uh pX n2 qN;refine aoe Nh Uh pX J J J J SP J J J λev hi7 v3' v4' b3' b4' tI aCb vB=>?_;rw[vR,vQ,aCa,show(((L.take k).length+1:Nat):Int)=((L.take k).length:Int)+1 by omega,F]at aCb;exact⟨L.length-(k+1),J,k+1,_,_,_,_,_,_,_,_,rfl,J,rfl,aCb,λd cB cE cg=>by rw[vB d J cE (λz=>cg ⟨z.1,z.2.1,cB,z.2.2.2⟩)];grind,J⟩
  have EG:∀{o a0:fJ},y9 (F (F b3 aj o) aj a0) (kn U (aj+1) bW Z) (U+4) (r:Int) (c:Int) (gB (L.take k)) (g5 (L.take k)) (fs (L.take k)) (gr (L.take k)) (.slice aB (gB (L.take k)).length c1) v2 v3 v4 cI d6 fB bQ:=λ{o a0}=>by
   have hj:∀d,kn U aj bW Z d->u (F (F b3 aj o) aj a0) d=u b3 d:=λd cL=>by have:=cL.2.2.1;grind
   have vS:∀d,kn U aj bW Z d->kn U (aj+1) bW Z d:=λd cL=>⟨cL.1,cL.2.1,by have:=cL.2.2.1;omega,cL.2.2.2⟩
   exact⟨ab,D.da.T λd V=>hj d (D.h3 d V),(hj bQ D.z2).trans D.g2,D.aK,D.ja.T λd V=>hj d (D.z3 d V),D.nA.T λd V=>hj d (D.z4 d V),λd V=>vS d (D.h3 d V),vS bQ D.z2,λd V=>vS d (D.z3 d V),λd V=>vS d (D.z4 d V),D.d12,D.d23,D.d24,D.d13,D.d14,D.d34⟩
  have fr2:∀{o a0:fJ} (d:Nat),d<Z->d≠U+4->¬kn U Z bW Z d->u (F (F b3 aj o) aj a0) d=u bc d:=λd cB cE cg=>ab
  have cY:∀{b:aw Nat},(∀d,b=some d->kn U aj bW Z d)->b≠some aj:=λcL e=>by have:=(cL _ e).2.2.1;omega
  have fm:=D.z2.2.2.1;have new:(dY (L.take k)).getLast?≠some g.f->∀{E R:aP},An s (λaF ac Y=>∃bG,bG<L.length-k/\Mw U bW Z (r:Int) (c:Int) (.slice (some ⟨ur,0,some 3⟩) L.length L.length) L bc bG aF ac Y) E R (.pointer (some ⟨U+1,0,none⟩)) (.pointer (some ⟨U+4,0,none⟩)) (bf aj) (.slice (some ⟨ur,0,some 3⟩) L.length L.length) (L.length:X) (k:X) (.bool true)
    (F (F b3 aj (.cells [.int .i64 0,.int .i64 0,.int .i64 0] false)) aj (.cells [(g.f:X),(g.t:X),(g.w:X)] false)) (aj+1):=λeS {E R}=>by
   have g6:dY (L.take (k+1))=dY (L.take k)++[g.f]:=by rw[mp,wk];unfold tu;grind
   have Mx:gB (L.take k)++[(g.f:Int)]=gB (L.take (k+1)):=by unfold gB;grind
   refine aof EG (aT _ _ _) (cY D.h3) J J J J J J J λcy H6 v1' v2' b1' Ug n2 Nh Uh qN=>?_;rw[Mx]at Nh;refine fin Nh ?_ ?_ Uh (cY D.z3) J λd cB cE cg=>by rw[qN d J cE (λz=>cg ⟨z.1,z.2.1,cB,z.2.2.2⟩)];grind
   ·rw[Gt,g6,jd,mp];exact asf hup eS
   grind
  have same:(dY (L.take k)).getLast? = some g.f->∀{E R:aP},An s (λaF ac Y=>∃bG,bG<L.length-k/\Mw U bW Z (r:Int) (c:Int) (.slice (some ⟨ur,0,some 3⟩) L.length L.length) L bc bG aF ac Y) E R (.pointer (some ⟨U+1,0,none⟩)) (.pointer (some ⟨U+4,0,none⟩)) (bf aj) (.slice (some ⟨ur,0,some 3⟩) L.length L.length) (L.length:X) (k:X) (.bool false)
    (F (F b3 aj (.cells [.int .i64 0,.int .i64 0,.int .i64 0] false)) aj (.cells [(g.f:X),(g.t:X),(g.w:X)] false)) (aj+1):=λbP {E R}=>by
   have g6:dY (L.take (k+1))=dY (L.take k):=by rw[mp,wk];unfold tu;grind
   have Mx:gB (L.take (k+1))=gB (L.take k):=by unfold gB;rw[g6]
   unfold An;refine aD ?_;refine fin (by rw[Mx];exact EG) ?_ ?_ (aT _ _ _) (cY D.z3) (cD _) fr2
   ·rw[Mx,Gt,mp];exact aoc hup bP
   grind
  refine⟨λau=>?_,λau=>?_⟩
  ·have au:(gB (L.take k)).length=0:=ab
   rw[aR]at au;exact new ab
  ·have au:(gB (L.take k)).length≠0:=ab
   obtain⟨n,bv⟩:∃n,(gB (L.take k)).length=n+1:=⟨(gB (L.take k)).length-1,J⟩
   obtain⟨x,aY⟩:=dR (l:=gB (L.take k)) (i:=n) J;obtain⟨a,cW,rfl⟩:=aog bv aY;have da:IntKind.wrap .i64 (((gB (L.take k)).length:Int)-1)=(n:Int):=by rw[bv,show(((n+1:Nat):Int))-1=(n:Int) by omega];exact jG J J
   rcases D.da with⟨aW,_⟩|⟨e8,aW,aK,g1⟩
   ·rw[aW]at au;exact absurd rfl au
   ·cases aK;have cL:=(D.h3 e8 aW).2.2.1;rw[hM]at g1;simp(disch:=omega)only[bl,da,g1,hN aY,seval]
    by_cases wZ:a=g.f
    ·subst wZ;rw[q5];exact same cW
    ·rw[show(((a:Int)) == (g.f:Int))=false from r8.2 J];exact new ab
 ·have:k=L.length:=J
  subst this;have l5:=D.g;have de:u b3 (U+1)=u bc (U+1):=t4 (U+1) J J (λz=>by have:=z.1;omega);rw[hC]at D;obtain⟨aB,c1,rfl⟩:=D.da.form;obtain⟨aZ,fL,rfl⟩:=D.ja.form;obtain⟨bt,ul,rfl⟩:=D.nA.form;obtain⟨aS,rfl,n5⟩:=D.aK;refine hx @l5 @de @aW ?_;have aN:∀d,kn U aj bW Z d->∀{o:fJ},u (F b3 (U+1) o) d=u b3 d:=λd cL {o}=>ar (by have:=cL.1;omega);refine⟨L,e9,ui,⟨_,_,_,_,rfl,⟨cI,D.da.T λd V=>aN d (D.h3 d V),λd V=>⟨by have:=(D.h3 d V).1;omega,(D.h3 d V).2.2.1⟩⟩,⟨bQ,aS,rfl,by have:=D.z2.1;omega,D.z2.2.2.1,(aN bQ D.z2).trans D.g2⟩,⟨d6,D.ja.T λd V=>aN d (D.z3 d V),λd V=>⟨by have:=(D.z3 d V).1;omega,(D.z3 d V).2.2.1⟩⟩,⟨fB,D.nA.T λd V=>aN d (D.z4 d V),λd V=>⟨by have:=(D.z4 d V).1;omega,(D.z4 d V).2.2.1⟩⟩⟩,λd V=>?_,J⟩;rw[ar J,t4 d J J (λz=>by have:=z.1;omega)];exact jp d V
section
variable {I:Nat->ae->Nat->Prop} {D:ae->Nat->Prop} {q:Nat->al}
theorem acb{k h U}(L:∀k h U,q k=false->I k h U->I (k+1) h U):∀(d:Nat),(∀i,k<=i->i<k+d->q i=false)->I k h U->I (k+d) h U
 |0,_,aj=>aj
 |d+1,M,aj=>L _ _ _ ab (acb L d ab aj)
def EgJ(I:Nat->ae->Nat->Prop)(l n:Nat)(q:Nat->al)(ka:X)(m:Nat)(aF:aa X)(ac:ae)(Y:Nat):Prop :=
 ∃k:Nat,m=n-k/\k<=n/\aF=[.func (.yield l) ⟨[]⟩ ⟨[]⟩,.int .u64 (mk (n-k) (λi=>q (i+k)):Int),(k:X),ka,.int .i64 1,.int .i64 0]/\I k ac Y
def EgO(I:Nat->ae->Nat->Prop)(l n:Nat)(ka:X)(h:ae)(U:Nat)(m:Nat)(aF:aa X)(ac:ae)(Y:Nat):Prop :=
 (m=1/\aF=[.func (.yield l) ⟨[]⟩ ⟨[]⟩,ka,.int .i64 1,.int .i64 0]/\ac=h/\Y=U)\/(m=0/\aF=[.func (.yield l) ⟨[]⟩ ⟨[]⟩,ka,.int .i64 1,.int .i64 1]/\I n ac Y)
theorem ash{n l:Nat}{h:ae}{U:Nat}(bv:n<=63)(aG:cr h U ka j0 [mk n q])(sE:u h xz=some (.cells [ka] false))(au:I 0 h U)(aq:∀k h U,q k=false->I k h U->I (k+1) h U)(cd:∀k h U,k<n->q k=true->I k h U->lW Q s l [(k:X)] h U (λr ac Y=>(r = .bool true/\I (k+1) ac Y)\/(r = .bool false/\D ac Y))):
  aH Q s 288 [.func (.yield l) ⟨[]⟩ ⟨[]⟩,bf xz] h U (λ_ ac Y=>I n ac Y\/D ac Y):=by
 refine Rr ?_;obtain⟨a,cap,rfl,a1⟩:=id aG;obtain⟨b,aS,ro,aO,rfl,a9⟩:=a1 (by simp);have a9:u h b=some (.cells [.int .u64 (mk n q:Int)] ro):=a9;unfold K9;simp(disch:=omega)only[bl,sE,@List.length_cons Nat,@List.length_nil Nat,seval];refine bC.mk (EgO I l n (.slice (some ⟨b,0,aS⟩) 1 cap) h U) 1 (.inl ab) ?_;rintro m aF ac Y (⟨rfl,rfl,gi,eN⟩|⟨rfl,rfl,ei⟩)
 ·rw[Gp,gi,eN];unfold CH;have esh:bin Q .shl 3 (.int .i64 0) (.int .u64 6) = .ok (.int .i64 0):=rfl;refine cQ @a9 @esh ?_;refine⟨?_,ab⟩;refine bC.mk (EgJ I l n q (.slice (some ⟨b,0,aS⟩) 1 cap)) n ⟨0,J,J,rfl,au⟩ ?_;rintro _ _ aM L ⟨k,rfl,hk,rfl,V⟩;rw[abT];unfold Qj
  by_cases cL:mk (n-k) (λi=>q (i+k))=0
  ·have aE:((mk (n-k) (λi=>q (i+k)):Nat):Int)=0:=J
   have M:I (k+(n-k)) aM L:=acb aq (n-k) (λi h1 ap=>by
    have:=Gh.1 cL (i-k) J
    grind) V
   rw[show k+(n-k)=n by omega]at M;refine bh @aE ?_;exact⟨0,J,.inr ⟨rfl,rfl,M⟩⟩
  ·have Bu:k<n:=by
    rcases h8 k n with h|h
    ·exact h
    ·exact absurd (by rw[show n-k=0 by omega];rfl) cL
   obtain⟨r,bb⟩:∃r,n-k=r+1:=⟨n-k-1,J⟩
   have aW:(((mk (n-k) (λi=>q (i+k)):Nat):Int) == 0)=false:=ab
   have aK:bin Q .and 188 (.int .u64 ((mk (n-k) (λi=>q (i+k)):Nat):Int)) (.int .u64 1) = .ok (.int .u64 (if q k then 1 else 0)):=by
    rw[show(1:Int)=((1:Nat):Int)from rfl,FR (wU J) J,Jc,bb,adp,iV]
    grind
   have cf:mk (n-k) (λi=>q (i+k)) / 2=mk (n-(k+1)) (λi=>q (i+(k+1))):=by
    rw[bb,ado,show n-(k+1)=r by omega]
    grind
   have dT:bin Q .shr 188 (.int .u64 ((mk (n-k) (λi=>q (i+k)):Nat):Int)) (.int .u64 1) = .ok (.int .u64 ((mk (n-(k+1)) (λi=>q (i+(k+1))):Nat):Int)):=by rw[O7,cf]
   cases Z:q k with
   |true =>
    rw[Z]at aK;refine cQ @aW @aK ?_;refine(cd k aM L Bu Z V).mono ?_;rintro _ bc D4 (⟨rfl,V⟩|⟨rfl,BP⟩)
    ·refine aD ?_;unfold CG;refine cQ @dT (cv (J:k<1000000000000)) ?_;exact⟨n-(k+1),J,k+1,rfl,J,rfl,V⟩
    ·simp(disch:=omega)only[bl,seval]
     grind
   |false =>
    rw[Z]at aK;have T6:bin Q .and 188 (.int .u64 ((mk (n-k) (λi=>q (i+k)):Nat):Int)) (.int .u64 1) = .ok (.int .u64 0):=aK;refine cQ @aW @T6 ?_;unfold CG;refine cQ @dT (cv (J:k<1000000000000)) ?_;exact⟨n-(k+1),J,k+1,rfl,J,rfl,aq k aM L Z V⟩
 ·rw[Gp];unfold CH;simp(disch:=omega)only[bl,seval]
  grind
end
def eT(n:Nat)(q:Nat->al):aa Nat:=if n=0 then[]else[mk n q]
theorem acd{l:Nat}{h:ae}{U:Nat}(M:cr h U ka j0 ([]:aa Nat))(L:u h xz=some (.cells [ka] false)):
  aH Q s 288 [.func (.yield l) ⟨[]⟩ ⟨[]⟩,bf xz] h U (λ_ ac Y=>ac=h/\Y=U):=by
 refine Rr ?_;obtain⟨a,cap,rfl,a1⟩:=id M;unfold K9;simp(disch:=omega)only[bl,L,@List.length_nil Nat,seval];refine bC.mk (λm aF ac Y=>aF=[.func (.yield l) ⟨[]⟩ ⟨[]⟩,.slice a 0 cap,.int .i64 0,.int .i64 0]/\ac=h/\Y=U) 0 ab ?_;rintro m aF ac Y ⟨rfl,V,Z⟩;rw[Gp];unfold CH;simp(disch:=omega)only[bl,seval]
 grind
noncomputable def na:Code:=(vc Q 473).1
noncomputable def nb:Code:=(vc Q 473).2
def qo(iI ah cN cj t1:X):cc:=[(7,some iI),(6,some ah),(4,some cN),(3,some cj),(0,some ah),(1,some t1)]
def ace(s:al)(d6 fB gb:X)(h:ae)(U:Nat)(N R:ae->Nat->Prop):Prop:=af (iM none h d6) λog=>af (bin Q .geq 3 gb og) λp3=>bu p3 (af (aU h 1 fB gb) λh12=>R h12 U) (N h U)
def Qs(s:al)(l:Nat)(iI ah cN cj t1 gs:X)(h:ae)(U:Nat)(K:bR):Prop:=∃eu,u h l=some (.loop 0 eu (qo iI ah cN cj t1) [8] na nb)/\ace s cj cN gs (F h l (.loop 1 eu (qo iI ah cN cj t1) [8] na nb)) U (λh n=>∃gp eu,u h l=some (.loop gp eu (qo iI ah cN cj t1) [8] na nb)/\K (.bool true) (F h l (.loop 0 none (qo iI ah cN cj t1) [8] na nb)) n) (λh n=>∃gp eu,u h l=some (.loop gp eu (qo iI ah cN cj t1) [8] na nb)/\K (.bool false) (F h l (.loop 2 (some .ret) (qo iI ah cN cj t1) [8] na nb)) n)
theorem aoh{l:Nat}{h:ae}{U:Nat}:BI Q s [] [] l [gs] (qo iI ah cN cj t1) [8] na nb h U K=Qs s l iI ah cN cj t1 gs h U K:=by kernel_rfl
theorem aoi{l:Nat}{p:aw Code}{h:ae}{U:Nat}(L:u h l=some (.loop st p (qo iI ah cN cj t1) [8] na nb))(w:Qs s l iI ah cN cj t1 gs h U K):lW Q s l [gs] h U K:=lW.o0 l1 (vI:=[]) (om:=[]) L rfl (by kernel_rfl) (by kernel_rfl) (by rw[aoh];exact w)
def aez:c0:=λs ah t1 h U K=>bI t1 h U λa b c=>b1 [(ad 0)] b c λd e f=>aX s 197 [ah] e f λg i j=>tO Q s g i j (.loop 0 none (qo g ah d a t1) [8] na nb) (yA j (λk l=>af (aU k 1 d (ad (-1))) λm=>bS m d λn=>K n m l) (λk l=>bS k d λo=>K o k l))
theorem asi:c4 473 aez:=c5 []
noncomputable def uM:Code:=(vc Q 495).1
noncomputable def uN:Code:=(vc Q 495).2
def uP(t1 cj ah:X):cc:=[(6,some t1),(4,some (.slice none 0 0)),(2,some cj),(0,some ah),(1,some t1)]
def Z4(s:al)(bQ gb:X)(h:ae)(U:Nat)(N R:ae->Nat->Prop):Prop:=af (iM none h bQ) λnH=>af (iM (some 2) h gb) λVG=>dS (eV 1 [(.int .i64 0),(.int .i64 0)] [(0,2,VG)]) h U λH4 h11 n12=>dD (dU (dM 2 h11 n12 nH H4)) λpZ h14 n15=>af (aU h14 1 bQ pZ) λh16=>N h16 n15
def Pv(s:al)(l:Nat)(t1 cj ah gs:X)(h:ae)(U:Nat)(K:bR):Prop:=dS (.ok (.ptr (.cells [(.int .i64 0),(.int .i64 0)] false))) h U λcN b3 n6=>af (aU b3 2 cN gs) λev=>∃eu,u ev l=some (.loop 0 eu (uP t1 cj ah) [7] uM uN)/\Z4 s cj cN (F ev l (.loop 1 eu (uP t1 cj ah) [7] uM uN)) n6 (λh n=>∃gp eu,u h l=some (.loop gp eu (uP t1 cj ah) [7] uM uN)/\K (.bool true) (F h l (.loop 0 none (uP t1 cj ah) [7] uM uN)) n) (λh n=>∃gp eu,u h l=some (.loop gp eu (uP t1 cj ah) [7] uM uN)/\K (.bool false) (F h l (.loop 2 (some .ret) (uP t1 cj ah) [7] uM uN)) n)
theorem ak6{l:Nat}{h:ae}{U:Nat}:BI Q s [] [] l [gs] (uP t1 cj ah) [7] uM uN h U K=Pv s l t1 cj ah gs h U K:=by kernel_rfl
theorem ak7{l:Nat}{p:aw Code}{h:ae}{U:Nat}(L:u h l=some (.loop st p (uP t1 cj ah) [7] uM uN))(w:Pv s l t1 cj ah gs h U K):lW Q s l [gs] h U K:=lW.o0 l1 (vI:=[]) (om:=[]) L rfl (by kernel_rfl) (by kernel_rfl) (by rw[ak6];exact w)
def acf:c0:=λs ah t1 h U K=>bI ah h U λa b c=>tO Q s t1 b c (.loop 0 none (uP t1 a ah) [7] uM uN) (yA c (λd e=>bS d a λf=>K f d e) (λd e=>K ay d e))
theorem aoj:c4 495 acf:=c5 []
noncomputable def uQ:Code:=(vc Q 391).1
noncomputable def uR:Code:=(vc Q 391).2
def uU(jv j6 qO rK pZ jO nH iI cN cj ah:X):cc:=[(12,some jv),(11,some j6),(3,some qO),(10,some rK),(9,some pZ),(8,some jO),(7,some nH),(6,some iI),(2,some cN),(1,some cj),(0,some ah)]
def acg(s:al)(d6 fB gb:X)(h:ae)(U:Nat)(N R:ae->Nat->Prop):Prop:=af (Av 1 d6) λmw=>af (iM none h mw) λo3=>af (cU [(.int .i64 0),(.int .i64 0)] [(0,1,fB),(1,1,gb)]) λp2=>dS (eV 1 [(.int .i64 0),(.int .i64 0)] [(0,2,p2)]) h U λp26 h27 n28=>dD (dU (dM 2 h27 n28 o3 p26)) λx29 Ui n31=>af (Av 1 d6) λp1=>af (aU Ui 1 p1 x29) λh33=>N h33 n31
def Qt(s:al)(l:Nat)(jv j6 qO rK pZ jO nH iI cN cj ah gs eE:X)(h:ae)(U:Nat)(K:bR):Prop:=∃eu,u h l=some (.loop 0 eu (uU jv j6 qO rK pZ jO nH iI cN cj ah) [13,14] uQ uR)/\acg s qO gs eE (F h l (.loop 1 eu (uU jv j6 qO rK pZ jO nH iI cN cj ah) [13,14] uQ uR)) U (λh n=>∃gp eu,u h l=some (.loop gp eu (uU jv j6 qO rK pZ jO nH iI cN cj ah) [13,14] uQ uR)/\K (.bool true) (F h l (.loop 0 none (uU jv j6 qO rK pZ jO nH iI cN cj ah) [13,14] uQ uR)) n) (λh n=>∃gp eu,u h l=some (.loop gp eu (uU jv j6 qO rK pZ jO nH iI cN cj ah) [13,14] uQ uR)/\K (.bool false) (F h l (.loop 2 (some .ret) (uU jv j6 qO rK pZ jO nH iI cN cj ah) [13,14] uQ uR)) n)
theorem aok{l:Nat}{h:ae}{U:Nat}:BI Q s [] [] l [gs,eE] (uU jv j6 qO rK pZ jO nH iI cN cj ah) [13,14] uQ uR h U K=Qt s l jv j6 qO rK pZ jO nH iI cN cj ah gs eE h U K:=by kernel_rfl
theorem aol{l:Nat}{p:aw Code}{h:ae}{U:Nat}(L:u h l=some (.loop st p (uU jv j6 qO rK pZ jO nH iI cN cj ah) [13,14] uQ uR))(w:Qt s l jv j6 qO rK pZ jO nH iI cN cj ah gs eE h U K):lW Q s l [gs,eE] h U K:=lW.o0 l1 (vI:=[]) (om:=[]) L rfl (by kernel_rfl) (by kernel_rfl) (by rw[aok];exact w)
def aeA:cS:=λs ah h U K=>bI ah h U λa b c=>b1 [(ad 0),ay] b c λd e f=>aR 3 e a λg=>aX s 450 [g] e f λi j k=>af (aU j 3 a i) λl=>bo 0 a λm=>bS l m λn=>af (cU [(ad 0),ay] [(0,1,n)]) λo=>b1 [(ad 0),ay] l k λp q r=>af (aU q 2 p o) λt=>aR 3 t a λaI=>aX s 451 [aI] t r λv w x=>tO Q s v w x (.loop 0 none (uU v aI p o n m i g d a ah) [13,14] uQ uR) (yA x (λy z=>aR 2 y p λbD=>af (aU y 2 d bD) λbU=>aR 2 bU d λbL=>K bL bU z) (λy z=>aR 2 y d λbk=>K bk y z))
theorem asj:cT 391 aeA:=cV []
noncomputable def sh:Code:=(vc Q 393).1
noncomputable def si:Code:=(vc Q 393).2
def uV(p0 fY t3 rL p1 qP qQ rM pW p2 o3 mw jv j6 oe rN jO p3 og fk cN cj ah t1 t2:X):cc:=[(36,some p0),(35,some fY),(34,some t3),(33,some rL),(32,some p1),(12,some qP),(26,some (.bool false)),(26,some qQ),(31,some qQ),(30,some rM),(29,some pW),(28,some p2),(27,some o3),(22,some (.bool false)),(22,some mw),(25,some mw),(24,some jv),(23,some j6),(21,some oe),(20,some rN),(16,some jO),(19,some jO),(18,some p3),(17,some og),(11,some (.int .i64 0)),(10,some (.slice none 0 0)),(7,some fk),(6,some cN),(5,some cj),(0,some ah),(1,some t1),(2,some t2),(3,some t3),(4,some fY)]
def ach(s:al)(gb zu zv b12 b13:X)(h:ae)(U:Nat)(N R:ae->Nat->Prop):Prop:=af (iM none h gb) λx37=>af (iM (some 5) h zu) λUj=>af (iM (some 3) h zv) λx39=>aH Q s 457 [x37,Uj,b13,x39] h U λx40 h41 n42=>af (cp x40 0) λx43=>af (cp x40 1) λTS=>dS (.ok (.ptr (.cells [(.int .i64 0),(.int .u64 0)] false))) h41 n42 λp45 Bs Bt=>af (aU Bs 2 p45 x43) λvy=>bu TS (af (iM none vy b12) λx49=>af (iM (some 2) vy p45) λx50=>af (cU [(.int .i64 0),(.int .i64 0),(.int .u64 0)] [(0,1,b13),(1,2,x50)]) λx51=>dS (eV 1 [(.int .i64 0),(.int .i64 0),(.int .u64 0)] [(0,3,x51)]) vy Bt λp52 h53 n54=>dD (dU (dM 3 h53 n54 x49 p52)) λx55 h56 n57=>af (aU h56 1 b12 x55) λh58=>N h58 n57) (N vy Bt)
def Qu(s:al)(l:Nat)(p0 fY t3 rL p1 qP qQ rM pW p2 o3 mw jv j6 oe rN jO p3 og fk cN cj ah t1 t2 gs:X)(h:ae)(U:Nat)(K:bR):Prop:=∃eu,u h l=some (.loop 0 eu (uV p0 fY t3 rL p1 qP qQ rM pW p2 o3 mw jv j6 oe rN jO p3 og fk cN cj ah t1 t2) [37] sh si)/\ach s cj cN fk qP gs (F h l (.loop 1 eu (uV p0 fY t3 rL p1 qP qQ rM pW p2 o3 mw jv j6 oe rN jO p3 og fk cN cj ah t1 t2) [37] sh si)) U (λh n=>∃gp eu,u h l=some (.loop gp eu (uV p0 fY t3 rL p1 qP qQ rM pW p2 o3 mw jv j6 oe rN jO p3 og fk cN cj ah t1 t2) [37] sh si)/\K (.bool true) (F h l (.loop 0 none (uV p0 fY t3 rL p1 qP qQ rM pW p2 o3 mw jv j6 oe rN jO p3 og fk cN cj ah t1 t2) [37] sh si)) n) (λh n=>∃gp eu,u h l=some (.loop gp eu (uV p0 fY t3 rL p1 qP qQ rM pW p2 o3 mw jv j6 oe rN jO p3 og fk cN cj ah t1 t2) [37] sh si)/\K (.bool false) (F h l (.loop 2 (some .ret) (uV p0 fY t3 rL p1 qP qQ rM pW p2 o3 mw jv j6 oe rN jO p3 og fk cN cj ah t1 t2) [37] sh si)) n)
theorem aom{l:Nat}{h:ae}{U:Nat}:BI Q s [] [] l [gs] (uV p0 fY t3 rL p1 qP qQ rM pW p2 o3 mw jv j6 oe rN jO p3 og fk cN cj ah t1 t2) [37] sh si h U K=Qu s l p0 fY t3 rL p1 qP qQ rM pW p2 o3 mw jv j6 oe rN jO p3 og fk cN cj ah t1 t2 gs h U K:=by kernel_rfl
theorem aon{l:Nat}{p:aw Code}{h:ae}{U:Nat}(L:u h l=some (.loop st p (uV p0 fY t3 rL p1 qP qQ rM pW p2 o3 mw jv j6 oe rN jO p3 og fk cN cj ah t1 t2) [37] sh si))(w:Qu s l p0 fY t3 rL p1 qP qQ rM pW p2 o3 mw jv j6 oe rN jO p3 og fk cN cj ah t1 t2 gs h U K):lW Q s l [gs] h U K:=lW.o0 l1 (vI:=[]) (om:=[]) L rfl (by kernel_rfl) (by kernel_rfl) (by rw[aom];exact w)
def aeB:xv:=λs ah t1 t2 t3 fY h U K=>bI ah h U λa b c=>bI t1 b c λd e f=>bI t2 e f λg i j=>aR 5 i d λk=>aR 3 i g λl=>aX s 455 [k,l] i j λm n o=>af (cp m 0) λp=>af (cp m 1) λq=>af (aU n 5 d p) λr=>af (aU r 3 g q) λt=>bS t a λaI=>aX s 259 [aI] t o λv w x=>af (dv .not v) λy=>bu y (K (.tuple ⟨[ay,(ad 8)]⟩) w x) (bo 0 g λz=>bS w z λbD=>bo 1 d λbU=>bS w bU λbL=>bH .neq 3 bD bL λbk=>bu bk (K (.tuple ⟨[ay,(ad 4)]⟩) w x) (b1 [ay] w x λbV ca bO=>bo 0 d λcM=>bS ca cM λcG=>aX s 456 [cG,t3,fY] ca bO λds dh ey=>tO Q s ds dh ey (.loop 0 none (uV ds fY t3 cG cM bV bk bL bU bD z y v aI q p m l k g d a ah t1 t2) [37] sh si) (yA ey (λam an=>bS am bV λez=>K (.tuple ⟨[ez,(ad 0)]⟩) am an) (λam an=>K (.tuple ⟨[ay,(ad 0)]⟩) am an))))
theorem asl:zr 393 aeB:=Bm []
def fH(q:Nat->al)(a:Int):Nat->Int
 |0=>-1
 |n+1=>if fH q a n = -1 then(if q n=true/\a<=(n:Int)then(n:Int)else -1)else fH q a n
theorem RA{q:Nat->al}{a:Int}{k:Nat}(h:fH q a k≠-1):∀d,fH q a (k+d)=fH q a k
 |0=>rfl
 |d+1=>by have:=RA h d;show(if fH q a (k+d) = -1 then _ else fH q a (k+d))=_;omega
theorem af5{q:Nat->al}{a:Int}:∀n,-1<=fH q a n/\fH q a n<n/\(fH q a n = -1\/a<=fH q a n)
 |0=>⟨by unfold fH;omega,by unfold fH;omega,.inl rfl⟩
 |n+1=>by have:=af5 (q:=q) (a:=a) n;unfold fH;omega
def NxL(l pg xo:Nat)(ak:cc)(a:Int)(ao:Nat)(au h:ae)(U:Nat):Prop:=u h l=some (.loop 0 none ak [8] na nb)/\u h pg=some (.cells [(a:X)] false)/\u h xo=some (.cells [.int .i64 0] false)/\(∀c,c<ao->u h c=u au c)
def My(l pg xo:Nat)(ak:cc)(a:Int)(q:Nat->al)(ao a5:Nat)(au:ae)(k:Nat)(h:ae)(U:Nat):Prop:=fH q a k = -1/\NxL l pg xo ak a ao au h U/\U=a5
def NxD(l xo:Nat)(ak:cc)(a:Int)(q:Nat->al)(ao a5 n:Nat)(au:ae)(h:ae)(U:Nat):Prop:=u h l=some (.loop 2 (some .ret) ak [8] na nb)/\u h xo=some (.cells [.int .i64 (fH q a n)] false)/\(∀c,c<ao->u h c=u au c)/\U=a5
theorem azG{l M L ao n:Nat}{a:Int}{q:Nat->al}{V:ae}(bA:l≠M/\l≠L/\M≠L/\ao<=l/\ao<=M/\ao<=L){k:Nat}{h:ae}{U:Nat}(hk:k<n)(dt:q k=true)(p9:My l M L (qo iI ah (bf L) (bf M) t1) a q ao a5 V k h U):
  lW Q s l [(k:X)] h U (λr ac Y=>(r = .bool true/\My l M L (qo iI ah (bf L) (bf M) t1) a q ao a5 V (k+1) ac Y)\/(r = .bool false/\NxD l L (qo iI ah (bf L) (bf M) t1) a q ao a5 n V ac Y)):=by
 obtain⟨h1,ap,aM,bc⟩:=bA;obtain⟨eN,⟨Z,epa,epr,elo⟩,rfl⟩:=p9;refine aoi Z ?_;unfold Qs ace;refine⟨none,Z,?_⟩;generalize qo iI ah (bf L) (bf M) t1=ak at *
 have g1:u (F h l (.loop 1 none ak [8] na nb)) M=some (.cells [(a:X)] false):=ab
 have g2:u (F h l (.loop 1 none ak [8] na nb)) L=some (.cells [.int .i64 0] false):=ab
 refine cQ @g1 @g2 ?_;refine⟨λa9=>⟨1,none,ab,.inr ⟨ab,?_,λc a1=>?_,rfl⟩⟩,λa9=>⟨1,none,ab,.inl ⟨?_,⟨ab,?_,?_,ab⟩,rfl⟩⟩⟩
 ·have aW:fH q a (k+1)=(k:Int):=by
   show(if fH q a k = -1 then(if q k=true/\a<=(k:Int)then(k:Int)else -1)else fH q a k)=_
   grind
  have aK:fH q a n=fH q a (k+1):=by
   have:=RA (q:=q) (a:=a) (k:=k+1) J (n-(k+1))
   grind
  grind
 ·grind
 ·show(if fH q a k = -1 then(if q k=true/\a<=(k:Int)then(k:Int)else -1)else fH q a k)=_;omega
 all_goals grind
theorem avi{q:Nat->al}{a:Int}{k:Nat}(h:q k=false):fH q a (k+1)=fH q a k:=by
 show(if fH q a k = -1 then(if q k=true/\a<=(k:Int)then(k:Int)else -1)else fH q a k)=_
 grind
theorem Qv{n:Nat}{a:Int}{q:Nat->al}{v:X}{h:ae}{U:Nat}(bv:n<=63)(aG:cr h U v j0 (eT n q)):
  aH Q s 473 [v,(a:X)] h U (λr ac Y=>r = .int .i64 (fH q a n)/\aA U h ac/\U<=Y):=by
 refine asi ?_;obtain⟨EH,cap,rfl,a1⟩:=id aG;unfold aez;refine aD ?_;refine Sa ?_;unfold each;refine aD ?_;show aH Q s 288 [.func (.yield (U+1+1+1)) ⟨[]⟩ ⟨[]⟩,.pointer (some ⟨U+1+1,0,none⟩)] _ _ _;generalize Z:qo (.func (.func 288) ⟨[]⟩ ⟨[.pointer (some ⟨U+1+1,0,none⟩)]⟩) (.slice EH (eT n q).length cap) (.pointer (some ⟨U+1,0,none⟩)) (bf U) (a:X)=ak;generalize fK:F (F (F (F h U (.cells [(a:X)] false)) (U+1) (.cells [.int .i64 0] false)) (U+1+1) (.cells [.slice EH (eT n q).length cap] false)) (U+1+1+1) (.loop 0 none ak [8] na nb)=H;have L:cr H (U+1+1+1+1) (.slice EH (eT n q).length cap) j0 (eT n q):=aG.T aN J;have M:u H (U+1+1)=some (.cells [.slice EH (eT n q).length cap] false):=ab
 have aj:My (U+1+1+1) U (U+1) ak a q U (U+1+1+1+1) h 0 H (U+1+1+1+1):=
  ⟨rfl,⟨ab,ab,ab,ab⟩,rfl⟩
 have kw:aH Q s 288 [.func (.yield (U+1+1+1)) ⟨[]⟩ ⟨[]⟩,.pointer (some ⟨U+1+1,0,none⟩)] H (U+1+1+1+1) (λ_ ac Y=>My (U+1+1+1) U (U+1) ak a q U (U+1+1+1+1) h n ac Y\/NxD (U+1+1+1) (U+1) ak a q U (U+1+1+1+1) n h ac Y):=by
  by_cases cL:n=0
  ·subst cL;refine(acd  L M).mono ?_
   grind
  ·have fb:eT n q=[mk n q]:=if_neg cL;rw[fb]at L M Z;refine ash bv L M aj (λk ac Y hk V=>?_) λk ac Y hk dt V=>by subst Z;exact azG J hk dt V
   exact⟨by rw[avi hk];exact V.1,V.2.1,V.2.2⟩
 refine kw.mono ?_;rintro _ ac Y (⟨eN,⟨xC,epa,epr,elo⟩,rfl⟩|⟨xC,epr,elo,rfl⟩)
 ·refine⟨0,none,ak,[8],na,nb,xC,J,.inl ⟨rfl,?_⟩⟩;have g1:u (F ac (U+1+1+1) (.loop 3 none ak [8] na nb)) (U+1)=some (.cells [.int .i64 0] false):=ab
  refine bh @g1 ?_;refine⟨by rw[eN],λc a1=>?_,J⟩
  grind
 ·refine⟨2,some .ret,ak,[8],na,nb,xC,J,.inr ⟨rfl,?_⟩⟩;have g1:u (F ac (U+1+1+1) (.loop 3 (some .ret) ak [8] na nb)) (U+1)=some (.cells [.int .i64 (fH q a n)] false):=ab
  refine bh @g1 ?_;refine⟨λc a1=>?_,J⟩
  grind
def LB(n:Nat)(q:Nat->al)(U:Nat)(h:ae):bR:=λr ac Y=>eG ac U Y r j0 (eT n q)/\aA U h ac/\U<=Y
theorem sz.w{n U:Nat}{q:Nat->al}{h:ae}{r:X}{ac:ae}{Y:Nat}(L:n≠0)(H:sz (mk n q) U h r ac Y):LB n q U h r ac Y:=by obtain⟨b,c,aS,rfl,h1,V,aM,Z,M⟩:=H;unfold LB eT;rw[if_neg L];exact⟨⟨_,_,rfl,λ_=>⟨b,aS,false,h1,V,rfl,aM⟩⟩,Z,M⟩
theorem Yj{n:Nat}{h:ae}{U:Nat}(M:n<=64):aH Q s 195 [(n:X)] h U (λr ac Y=>r = .int .i64 (if n=0 then 0 else 1)/\ac=h/\Y=U):=by
 by_cases L:n=0
 ·subst L;refine abR ?_;unfold Rp;have e:bin Q .shr 3 (.int .i64 (IntKind.wrap .i64 (0+63))) (.int .u64 6) = .ok (.int .i64 0):=rfl;simp(disch:=omega)only[bl,↓reduceIte,Nat.reduceAdd,Nat.reduceSub,Nat.reduceMul,Nat.reduceLT,Nat.reduceLeDiff,Nat.reduceEqDiff,Int.reduceBEq,Int.reduceLT,Int.reduceNeg,show max ((0:Nat):Int) 0=0 from rfl,show min (0:Int) 4096=0 from rfl,e]
 ·rw[if_neg L];exact ZO J M
theorem aci{n:Nat}{h:ae}{U:Nat}(bv:n<=63):aH Q s 117 [(n:X)] h U (LB n (λ_=>false) U h):=by
 by_cases L:n=0
 ·subst L;refine afS ?_;refine(Yj J).mono ?_;rintro r ap Z ⟨rfl,V,M⟩;rw[V,M,if_pos rfl];show dS (sr [.int .u64 0] (((0:Nat):X)) (((0:Nat):X))) h U _;refine aD ?_;exact⟨⟨_,_,rfl,λh=>absurd rfl h⟩,aN,J⟩
 ·refine(aei J J).mono ?_;intro r ac jR H;refine sz.w L ?_;rw[PY];exact H
theorem KO{n:Nat}{l:aa Nat}{v:X}{h:ae}{U:Nat}(bv:n<=63)(aG:cr h U v cq (f1 l))(Z:∀x∈l,x<n)(L:l.length<1000000):aH Q s 108 [(n:X),v] h U (LB n (mX l) U h):=by
 by_cases V:n=0
 ·subst V;have:l=[]:=by
   cases l with
   |nil=>rfl
   |cons x l=>exact absurd (Z x ab) J
  subst this;refine ag6 ?_;obtain⟨a,cap,rfl,a1⟩:=id aG;refine(aci J).mono ?_;rintro r ap bX ⟨bb,hk,M⟩;obtain⟨lF,b2,rfl,_⟩:=bb;refine aD ?_;refine bC.mk (λm aF ac Y=>aF=[((0:Nat):X),.slice lF 0 b2,.slice a 0 cap,.int .i64 0,.int .i64 0]/\ac=ap/\Y=bX) 0 ⟨rfl,rfl,rfl⟩ ?_;rintro _ _ ac Y ⟨rfl,aW,aK⟩;rw[afQ,aW,aK];unfold R9;refine aD ?_;exact λ_=>⟨⟨lF,b2,rfl,λh=>absurd rfl h⟩,hk,M⟩
 ·refine(axG J J aG Z L).mono ?_;intro r ac jR H;exact sz.w V H
theorem ak8{n:Nat}{p:Nat->al}{v:X}{h:ae}{U:Nat}(h1:n<=63)(L:cr h U v j0 (eT n p)):aH Q s 111 [v] h U (λr ac Y=>r = .int .i64 ((ek n p).length:Int)/\ac=h/\Y=U):=by
 by_cases M:n=0
 ·subst M;refine abP ?_;unfold Rn;obtain⟨a,cap,rfl,a1⟩:=id L;simp(disch:=omega)only[bl,show(eT 0 p).length=0 from rfl,seval];refine bC.mk (λm aF ac Y=>aF=[.int .i64 0,.slice a 0 cap,.int .i64 0,.int .i64 0]/\ac=h/\Y=U) 0 ab ?_;rintro _ _ ac Y ⟨rfl,Z,V⟩;rw[Pq,Z,V];unfold J6;refine aD ?_;exact λ_=>rfl
 ·rw[show eT n p=[mk n p]from if_neg M]at L;exact anS h1 L
theorem Yk{n:Nat}{q:Nat->al}{v:X}{h:ae}{U:Nat}(bv:n<=63)(L:cr h U v j0 (eT n q)):aH Q s 437 [v,(n:X)] h U (λr ac Y=>r = .bool true/\aA U h ac/\U<=Y):=by
 refine an0 ?_;obtain⟨a,cap,rfl,a1⟩:=id L;have fb:(((eT n q).length:Nat):Int)=if n=0 then 0 else 1:=by unfold eT;grind
 have eN:fH q (n:Int) n = -1:=by have:=af5 (q:=q) (a:=(n:Int)) n;omega
 unfold ab5;refine aD ?_;refine⟨λ_=>⟨λ_=>?_,J⟩,J⟩;refine(Yj J).mono ?_;rintro r ap bX ⟨rfl,V,M⟩;rw[V,M,fb];refine aD ?_;refine⟨λ_=>?_,aN⟩;refine(Qv bv L).mono ?_;rintro r aM bW ⟨rfl,hk,Z⟩;rw[eN];refine aD ?_;exact aN
theorem avj{n:Nat}{q:Nat->al}(h:i<n):mX (ek n q) i=q i:=by
 unfold mX ek
 grind
theorem RB{n:Nat}{q:Nat->al}:eT n (mX (ek n q))=eT n q:=by unfold eT;rw[CT λi aj=>avj  aj]
theorem kL.fj{az:Type}{h:ae}{v:X}{enc:az->aa X}{k:Nat}{l:aa az}{ao aj:Nat}(H:kL h v enc k l P)(M:∀d,P d->ao<=d/\d<aj):eG h ao aj v enc l:=by
 rcases H with⟨rfl,rfl⟩|⟨d,V,rfl,L⟩
 ·exact⟨_,_,rfl,λh=>absurd rfl h⟩
 ·exact⟨_,_,rfl,λ_=>⟨d,some k,false,ab,ab,rfl,L⟩⟩
def lO(h:ae)(ao aj:Nat)(v:X)(low mj:Int)(n:Nat)(A B:aa Int)(q:Nat->al):Prop :=
 ∃dr fC ft,v = .agg ⟨[(low:X),(mj:X),dr,fC,ft]⟩/\eG h ao aj dr cq A/\eG h ao aj fC cq B/\eG h ao aj ft j0 (eT n q)
def cn(n:Nat)(f:Nat->Int):aa Int:=(List.range n).map f
theorem GM(n:Nat)(f:Nat->Int):cn (n+1) f=cn n f++[f n]:=by unfold cn;rw[q6,iK];rfl
theorem iW(n:Nat)(f:Nat->Int):(cn n f).length=n:=by unfold cn;grind
theorem Kx(n:Nat)(q:Nat->al):f1 (ek (n+1) q)=f1 (ek n q)++(if q n then[(n:Int)]else[]):=by rw[La];unfold f1;grind
def ChS(ao:Nat)(ac:ae)(Y:Nat)(dr fC o:X)(A B L:aa Int):Prop :=
 ∃IP EI xD:Nat->Prop,kL ac dr cq 1 A IP/\kL ac fC cq 1 B EI/\kL ac o cq 1 L xD/\(∀d,IP d->ao<=d/\d<Y/\¬EI d/\¬xD d)/\(∀d,EI d->ao<=d/\d<Y/\¬xD d)/\(∀d,xD d->ao<=d/\d<Y)
def ChJ(n cN p12:Nat)(ka:X)(mE l7:Nat->Int)(q:Nat->al)(low mj:Int)(U:Nat)(au:ae)(m:Nat)(aF:aa X)(ac:ae)(Y:Nat):Prop :=
 ∃(i:Nat) (dr fC o:X),m=n-i/\i<=n/\aF=[(n:X),ka,bf cN,bf p12,o,(n:X),(i:X)] /\
  u ac p12=some (.cells [(low:X),(mj:X),dr,fC,.slice none 0 0] false)/\ChS (U+3) ac Y dr fC o (cn i mE) (cn i l7) (f1 (ek i q))/\u ac (U+1)=some (.cells [.int .i64 0,.int .i64 0,.slice none 0 0,.slice none 0 0,.slice none 0 0] false)/\aA U au ac/\U+3<=Y
theorem Yl{n:Nat}{mE l7:Nat->Int}{q:Nat->al}{aB a2 a3:aw Addr}{bX bW c1 b8:Nat}{h:ae}{U:Nat}(bv:n<=63)(bE:∀(i:Nat) (ac:ae) (Y:Nat),i<n->aA U h ac->U<=Y->aH Q s er ((i:X)::cs) ac Y (λr ap bX=>r = .tuple ⟨[.int .i64 (mE i),.int .i64 (l7 i),.bool (q i)]⟩/\aA Y ac ap/\Y<=bX)):
  aH Q s 208 [.agg ⟨[(low:X),(mj:X),.slice aB a5 c1,.slice a2 bX c2,.slice a3 bW b8]⟩,(n:X),.func (.func er) ⟨[]⟩ ⟨cs⟩] h U (λr ac Y=>lO ac U Y r low mj n (cn n mE) (cn n l7) q/\aA U h ac/\U<=Y):=by
 refine akY ?_;unfold ZR;refine aD ?_;have bT:∀{o a0 k6 gh},aA U h (F (F (F (F h U o) (U+1) a0) (U+2) k6) (U+2) gh):=aN
 refine bC.mk (ChJ n (U+1) (U+2) (.func (.func er) ⟨[]⟩ ⟨cs⟩) mE l7 q low mj U h) n ⟨0,_,_,_,J,J,rfl,ab,⟨λ_=>False,λ_=>False,λ_=>False,.inl ⟨rfl,rfl⟩,.inl ⟨rfl,rfl⟩,.inl ⟨rfl,rfl⟩,ab,ab,ab⟩,ab,bT,J⟩ ?_;rintro _ _ h1 m1 ⟨i,dr,fC,o,rfl,aj,rfl,Mz,⟨IP,EI,xD,EJ,BQ,VH,cW,aO,a1⟩,g11,hk,dO⟩;obtain⟨bD,qb,rfl⟩:=EJ.form;obtain⟨bU,gt,rfl⟩:=BQ.form;obtain⟨ez,c3,rfl⟩:=VH.form;rw[ajk];unfold Xg;refine aD ?_;refine⟨λct=>?_,λeM=>?_⟩
 ·refine(bE i h1 m1 J hk J).mono ?_;rintro r ap V ⟨rfl,M,fg⟩;have g2:u ap (U+2)=_:=(M (U+2) J).trans Mz;have SA2:=EJ.T   λd L=>⟨M d ab,L⟩
  have SB2:=BQ.T   λd L=>⟨M d ab,L⟩
  have SC2:=VH.T   λd L=>⟨M d ab,L⟩
  refine bh @g2 ?_;refine Kw (k:=1) (λ_=>rfl) (λ_=>rfl) J  (SA2.T  λd L=>⟨ab,L⟩) rfl (mE i) (aT _ _ _) rfl (by rw[iW];omega) λUk aM MA pS=>?_;obtain⟨H7,Z,rfl⟩:=MA.form;have c6:=(show u aM (U+2)=u ap (U+2) by grind).trans g2;refine bh @c6 ?_;have SB3:=SB2.T (ac:=F aM (V+2) (.cells [.int .i64 (l7 i)] false))  λd L=>by exact⟨ab,L⟩
  refine⟨J,Kw (k:=1) (λ_=>rfl) (λ_=>rfl) J   SB3 rfl (l7 i) (aT _ _ _) rfl (by rw[iW];omega) λUl bc MB sO=>?_⟩;obtain⟨H8,H9,rfl⟩:=MB.form;have ed:=(show u bc (U+2)=u aM (U+2) by grind).trans c6;refine bh @ed ?_;refine⟨J,?_⟩;obtain⟨ii,fK⟩:∃ii,ii=F (F bc (U+2) (.cells [(low:X),(mj:X),.slice H7 (cn i mE++[mE i]).length Z,.slice bU (cn i l7).length gt,.slice none 0 0] false)) (U+2) (.cells [(low:X),(mj:X),.slice H7 (cn i mE++[mE i]).length Z,.slice H8 (cn i l7++[l7 i]).length H9,.slice none 0 0] false):=⟨_,rfl⟩
  rw[<-fK];have f4:u ii (U+2)=some (.cells [(low:X),(mj:X),.slice H7 (cn i mE++[mE i]).length Z,.slice H8 (cn i l7++[l7 i]).length H9,.slice none 0 0] false):=ab
  have aK:∀d,d≠U+2->d<V->¬IP d->¬EI d->u ii d=u ap d:=ab
  have r2:aA U h ii:=aN
  have g51:u ii (U+1)=some (.cells [.int .i64 0,.int .i64 0,.slice none 0 0,.slice none 0 0,.slice none 0 0] false):=by rw[aK (U+1) J J (λbg=>ab) (λbg=>ab),M _ J];omega
  have SA5:=MA.T (ac:=ii) (nG:=λd=>d=V+1) ab;have SB5:=MB.T (ac:=ii) (nG:=λd=>d=V+3) ab;have SC5:=SC2.T (ac:=ii) (nG:=xD) λd L=>by exact⟨ab,L⟩
  have fb:IntKind.wrap .i64 ((i:Int)+1)=((i+1:Nat):Int):=cv J;refine⟨λdt=>?_,λdt=>?_⟩
  ·refine Kw (k:=1) (λ_=>rfl) (λ_=>rfl) J (U:=V+5) (nG:=λd=>d=V+5) (SC5.T (ac:=F ii (V+4) (.cells [(i:X)] false)) (nG:=xD) λd L=>⟨ab,L⟩) rfl (i:Int) (aT _ _ _) rfl (by unfold f1;rw[gn];have:=u0 i q;omega) λvo' cy SC6 qN=>?_;have h2:∀d,d≠V+4->d≠V+5->¬xD d->u cy d=u ii d:=λd h1 ap aM=>ab
   refine⟨n-(i+1),J,i+1,.slice H7 (cn i mE++[mE i]).length Z,.slice H8 (cn i l7++[l7 i]).length H9,vo',rfl,J,by rw[fb],?_,⟨λd=>d=V+1,λd=>d=V+3,λd=>d=V+5,?_,?_,?_,?_,?_,?_⟩,?_,?_,J⟩
   ·grind
   ·rw[GM];exact SA5.T λd L=>⟨h2 d J J (λbg=>ab),L⟩
   ·rw[GM];exact SB5.T λd L=>⟨h2 d J J (λbg=>ab),L⟩
   ·rw[Kx,if_pos dt];exact SC6
   ·omega
   ·omega
   ·omega
   ·grind
   ·intro d L;rw[h2 d J J (λbg=>ab)];exact r2 d L
  ·refine⟨n-(i+1),J,i+1,.slice H7 (cn i mE++[mE i]).length Z,.slice H8 (cn i l7++[l7 i]).length H9,.slice ez (f1 (ek i q)).length c3,rfl,J,by rw[fb],f4,⟨λd=>d=V+1,λd=>d=V+3,xD,?_,?_,?_,?_,?_,?_⟩,g51,r2,J⟩
   ·rw[GM];exact SA5
   ·rw[GM];exact SB5
   ·rw[Kx,if_neg ab,h6];exact SC5
   all_goals grind
 ·have:i=n:=J
  subst this;refine(KO bv ((VH.fj (ao:=0) (aj:=m1) λd L=>ab).rd) (λx aY=>by unfold ek at aY;grind) (by have:=u0 i q;omega)).mono ?_;rintro r ap V ⟨bb,M,fg⟩;rw[RB]at bb;obtain⟨lF,b2,rfl,rO⟩:=id bb;have g2:=(M (U+2) J).trans Mz;refine bh @g2 ?_;have c6:=(M (U+1) J).trans g11;refine bh @c6 ?_;have gy:∀{o a0} d,d≠U+1->d≠U+2->u (F (F ap (U+2) o) (U+1) a0) d=u ap d:=λd h1 ap=>ab
  refine⟨⟨_,_,_,rfl,(EJ.T (nG:=IP) λd L=>⟨?_,L⟩).fj λd L=>ab,(BQ.T (nG:=EI) λd L=>⟨?_,L⟩).fj λd L=>ab,⟨lF,b2,rfl,λeS=>?_⟩⟩,λd L=>?_,J⟩
  ·have:=cW d L;rw[gy d J J,M d J]
  ·have:=aO d L;rw[gy d J J,M d J]
  ·obtain⟨b,aS,ro,cI,bQ,d6,fB⟩:=rO eS;exact⟨b,aS,ro,J,bQ,d6,ab⟩
  ·rw[gy d J J,M d J];exact hk d L
def sw(k src v:Int):Int:=if k=3 then v else if k=5 then 0 else if k=4/\v=src then 1 else if v=src\/k=4 then 0 else if k=1 then -1 else 4611686018427387904
def rz(k src v:Int):al:=if k=3 then true else if k=5 then false else decide (v=src)
theorem aoo{k n v:Int}{a:aw Addr}{c:Nat}{h:ae}{U:Nat}:aH Q s 210 [.agg ⟨[(k:X),(n:X),(src:X),(len:X),.slice a uk c]⟩,(v:X)] h U (dJ (.tuple ⟨[.int .i64 (sw k src v),.bool (rz k src v)]⟩) U h):=by
 refine arT ?_;have bT:∀{o},aA U h (F h U o):=aN
 have V:∀{w o},dJ w U h w (F h U o) (U+1):=⟨rfl,bT,J⟩
 have aO:((v == src):al)=decide (v=src):=rfl;unfold aep sw rz
 by_cases L:k=3
 ·refine bh @L ?_;exact⟨rfl,bT,J⟩
 by_cases M:k=5
 ·refine cQ @L @M ?_;exact⟨rfl,bT,J⟩
 have c6:((k == 3):al)=false:=ab
 have f4:((k == 5):al)=false:=ab
 by_cases aq:v=src <;> by_cases bc:k=4
 ·refine u5 @L @M @bc @aq @aO ?_;unfold Cv;refine aD ?_;simp[V]
 ·have Z:((k == 4):al)=false:=ab
  simp(disch:=omega)only[bl,L,M,bc,aq,aO,c6,Z,f4,seval];unfold Cv;refine aD ?_;simp[V]
 ·refine u5 @L @M @bc @aq @aO ?_;unfold Cv;refine aD ?_;simp[V]
 ·have Z:((k == 4):al)=false:=ab
  simp(disch:=omega)only[bl,L,M,bc,aq,aO,c6,Z,f4,seval];unfold Cv ZS
  by_cases h1:k=1
  ·refine bh @h1 ?_;simp[V]
  ·have g1:((k == 1):al)=false:=ab
   refine hx @h1 @g1 @Z ?_;simp[V]
theorem ak9{k n:Int}{a:aw Addr}{c L:Nat}{eE hS:al}{h:ae}{U:Nat}(h1:u h L=some (.cells [(k:X),(n:X),(src:X),(len:X),.slice a uk c] eE))(M:u h pl=some (.cells [(low:X)] hS))(aj:i<10000)(bA:0<=low/\low<10000):
  aH Q s 209 [(i:X),bf L,bf pl] h U (λr ac Y=>r = .tuple ⟨[.int .i64 (sw k src (low+i)),.int .i64 (-1),.bool (rz k src (low+i))]⟩/\aA U h ac/\U<=Y):=by
 refine anX ?_;unfold abZ;have Z:IntKind.wrap .i64 (low+(i:Int))=low+i:=by
  obtain⟨m,rfl⟩:∃m:Nat,low=m:=⟨low.toNat,J⟩
  exact iY (m+i) J
 refine hx @h1 @M @Z ?_;refine aoo.mono ?_;rintro r aM bW ⟨rfl,hk,V⟩;refine aD ?_;exact aN
theorem lO.wid{h ac:ae}{ao aj d2 dm:Nat}{v:X}{n:Nat}{q:Nat->al}(aq:lO h ao aj v low mj n A B q)(L:∀d,ao<=d->d<aj->u ac d=u h d)(V:d2<=ao)(M:aj<=dm):lO ac d2 dm v low mj n A B q:=by obtain⟨dr,fC,Z,e,a,b,c⟩:=aq;exact⟨dr,fC,Z,e,eG.T a L V M,eG.T b L V M,eG.T c L V M⟩
theorem aop{k n:Int}{low:Nat}{v:X}{h:ae}{U:Nat}(aG:cr h U v cq bK)(bg:iL k n src len bK=0)(bp:m<=63)(eZ:((low+m:Nat):Int)<=n)(bv:n<=4096):
  aH Q s 125 [.agg ⟨[(k:X),(n:X),(src:X),(len:X),v]⟩,(low:X),((low+m:Nat):X)] h U (λr ac Y=>lO ac U Y r low ((low+m:Nat):Int) m (cn m λi=>sw k src (low+i)) (cn m λ_=>-1) (λi=>rz k src (low+i))/\aA U h ac/\U<=Y):=by
 refine arN ?_;obtain⟨a,cap,rfl,a1⟩:=id aG;have bT:∀{o a0 k6},aA U h (F (F (F h U o) (U+1) a0) (U+2) k6):=aN
 unfold ael;refine aD ?_;refine(JJ (aG.T bT J)).mono ?_;rintro _ h1 a5 ⟨rfl,L,f0⟩;have g1:=L (U+1) J;rw[ar J,aT]at g1;have cJ:=L U J;rw[ar J,ar J,aT]at cJ;have V:=L (U+2) J;rw[aT]at V;refine lh @bg @cJ @g1 @V ?_;refine⟨λh=>absurd h J,λ_=>⟨λh=>absurd h J,λ_=>?_⟩⟩;rw[show decide (n<((low+m:Nat):Int))=false from hD J];unfold FY;have fb:IntKind.wrap .i64 (((low+m:Nat):Int)-(low:Int))=(m:Int):=by rw[show((low+m:Nat):Int)-(low:Int)=(m:Int) by omega];exact iY m J
 refine lh @cJ @g1 @V @fb ?_;refine(Yl (mE:=λi=>sw k src (low+i)) (l7:=λ_=>-1) (q:=λi=>rz k src (low+i)) bp λi ac Y aj M wP=>?_).mono ?_
 ·exact ak9  (hS:=false) ((M U J).trans (by rw[ar J,ar J];omega)) ((M (U+1) J).trans ab) J J
 rintro r aM bW ⟨dn,e1,gJ⟩;have Z:=dn;obtain⟨dr,fC,ft,rfl,fx,gD,gg⟩:=dn;obtain⟨aB,c1,rfl,_⟩:=id fx;obtain⟨a2,c2,rfl,_⟩:=id gD;obtain⟨a3,b8,rfl,_⟩:=id gg;have c6:=e1 (U+2) J;rw[ar J,ar J,V]at c6;refine bh @c6 ?_;exact⟨Z.wid ab J J,aN,J⟩
def hs(h:ae)(U:Nat)(v:X)(low mj:Int)(n:Nat)(A B:aa Int)(q:Nat->al):Prop :=
 ∃dr fC ft,v = .agg ⟨[(low:X),(mj:X),dr,fC,ft]⟩/\cr h U dr cq A/\cr h U fC cq B/\cr h U ft j0 (eT n q)
theorem lO.rd{h:ae}{ao aj:Nat}{v:X}{low mj:Int}{n:Nat}{A B:aa Int}{q:Nat->al}(V:lO h ao aj v low mj n A B q):hs h aj v low mj n A B q:=by obtain⟨L,Z,M,e,a,b,c⟩:=V;exact⟨L,Z,M,e,a.rd,b.rd,c.rd⟩
theorem hs.T{h ac:ae}{U Y:Nat}{v:X}{low mj:Int}{n:Nat}{A B:aa Int}{q:Nat->al}(aq:hs h U v low mj n A B q)(M:aA U h ac)(L:U<=Y):hs ac Y v low mj n A B q:=by obtain⟨Z,fC,V,e,a,b,c⟩:=aq;exact⟨Z,fC,V,e,a.T M L,b.T M L,c.T M L⟩
theorem avk{k n:Int}{low:Nat}{q:Nat->al}{v:X}{h:ae}{U:Nat}(aG:cr h U v cq bK)(bg:iL k n src len bK=0)(bp:m<=63)(eZ:((low+m:Nat):Int)<=n)(bv:n<=4096)(aq:hs h U aF low ((low+m:Nat):Int) m A B q)(g6:A.length=m)(en:B.length=m):
  aH Q s 371 [.agg ⟨[(k:X),(n:X),(src:X),(len:X),v]⟩,aF] h U (dJ (.bool true) U h):=by
 refine axM ?_;obtain⟨a,cap,rfl,a1⟩:=id aG;obtain⟨dr,fC,ft,rfl,fx,gD,gg⟩:=aq;obtain⟨aB,c1,rfl,_⟩:=id fx;obtain⟨a2,c2,rfl,_⟩:=id gD;obtain⟨a3,b8,rfl,_⟩:=id gg;have bT:∀{o a0},aA U h (F (F h U o) (U+1) a0):=aN
 unfold ahd;refine aD ?_;refine(JJ (aG.T bT J)).mono ?_;rintro _ h1 a5 ⟨rfl,L,Z⟩;have V:=L (U+1) J;rw[aT]at V;have M:=L U J;rw[ar J,aT]at M;refine hx @bg @M @V ?_;refine⟨λh=>absurd h J,λ_=>⟨λh=>absurd h J,λ_=>?_⟩⟩;rw[show decide (n<((low+m:Nat):Int))=false from hD J];unfold GL;have fb:IntKind.wrap .i64 (((low+m:Nat):Int)-(low:Int))=(m:Int):=by rw[show((low+m:Nat):Int)-(low:Int)=(m:Int) by omega];exact iY m J
 refine u5 @M @V @fb @g6 @en ?_;have cP:aA U h h1:=aN
 refine⟨λ_=>⟨λ_=>?_,λh=>absurd h (by simp)⟩,λh=>absurd h (by simp)⟩;refine(Yk bp (gg.T  cP J)).mono ?_;rintro r ap bX ⟨rfl,eW,fg⟩;exact⟨rfl,aN,J⟩
theorem Ky{k n:Int}{low:Nat}{q:Nat->al}{v:X}{h:ae}{U:Nat}(aG:cr h U v cq bK)(bg:iL k n src len bK=0)(bp:m<=63)(eZ:((low+m:Nat):Int)<=n)(bv:n<=4096)(aq:hs h U aF low ((low+m:Nat):Int) m A B q)(g6:A.length=m)(en:B.length=m):
  aH Q s 299 [.agg ⟨[(k:X),(n:X),(src:X),(len:X),v]⟩,aF] h U (dJ aF U h):=by
 refine ave ?_;obtain⟨a,cap,rfl,a1⟩:=id aG;have M:=aq;obtain⟨dr,fC,ft,rfl,fx,gD,gg⟩:=aq;obtain⟨aB,c1,rfl,_⟩:=id fx;obtain⟨a2,c2,rfl,_⟩:=id gD;obtain⟨a3,b8,rfl,_⟩:=id gg;have bT:∀{o a0 k6},aA U h (F (F (F h U o) (U+1) a0) (U+2) k6):=aN
 unfold af1;refine aD ?_;refine(avk (aG.T bT J) bg bp eZ bv (M.T bT J) g6 en).mono ?_;rintro _ h1 a5 ⟨rfl,L,V⟩;have Z:=L (U+1) J;rw[ar J,aT]at Z;have g2:=L (U+2) J;rw[aT]at g2;refine cQ @Z @g2 ?_;exact⟨rfl,aN,J⟩
def qz(k len round:Int)(m:Nat)(A:aa Int)(q:Nat->al):Nat:=if k=4/\len<=round then 0 else if k=5 then(A.filter λa=>a == 0).length else(ek m q).length
def LvJ(dr:X)(A:aa Int)(h:ae)(U:Nat)(m:Nat)(aF:aa X)(ac:ae)(Y:Nat):Prop :=
 ∃i,m=A.length-i/\i<=A.length/\aF=[.int .i64 (((A.take i).filter λa=>a == 0).length:Int),dr,(A.length:X),(i:X)]/\ac=h/\Y=U
theorem asm{k n round:Int}{low:Nat}{q:Nat->al}{v:X}{h:ae}{U:Nat}(aG:cr h U v cq bK)(bg:iL k n src len bK=0)(bp:m<=63)(eZ:((low+m:Nat):Int)<=n)(bv:n<=4096)(aq:hs h U aF low ((low+m:Nat):Int) m A B q)(g6:A.length=m)(en:B.length=m):
  aH Q s 212 [.agg ⟨[(k:X),(n:X),(src:X),(len:X),v]⟩,aF,(round:X)] h U (dJ (.int .i64 (qz k len round m A q:Int)) U h):=by
 refine au9 ?_;obtain⟨a,cap,rfl,a1⟩:=id aG;have Z:=aq;obtain⟨dr,fC,ft,rfl,fx,gD,gg⟩:=aq;obtain⟨aB,c1,rfl,qI⟩:=id fx;obtain⟨a2,c2,rfl,_⟩:=id gD;obtain⟨a3,b8,rfl,_⟩:=id gg;have bT:∀{o a0},aA U h (F (F h U o) (U+1) a0):=aN
 unfold afW;refine ng ?_;refine(Ky (aG.T bT J) bg bp eZ bv (Z.T bT J) g6 en).mono ?_;rintro _ h1 a5 ⟨rfl,M,f0⟩;have cJ:=M U J;rw[ar J,aT]at cJ;have g1:=M (U+1) J;rw[aT]at g1;refine tA @cJ @g1 ?_;have L:∀{o},aA U h (F h1 (U+1) o):=aN
 have hK:∀{o},aH Q s 111 [.slice a3 (eT m q).length b8] (F h1 (U+1) o) a5 (dJ (.int .i64 ((ek m q).length:Int)) U h):=λ{o}=>by refine(ak8 bp (gg.T  L J)).mono ?_;rintro r ap bX ⟨rfl,rfl,rfl⟩;exact⟨rfl,L,J⟩
 unfold qz
 by_cases bc:k=4
 ·refine mf @bc ?_;refine⟨λbb=>?_,λbb=>?_⟩
  ·rw[if_pos (J:len<=round)];exact⟨rfl,L,J⟩
  ·rw[if_neg (J:¬len<=round),if_neg (J:¬(4:Int)=5)];exact hK
 ·have ed:((k == 4):al)=false:=ab
  by_cases b3:k=5
  ·refine RX @bc @ed @b3 ?_;refine bC.mk (LvJ (.slice aB A.length c1) A (F h1 (U+1) (.cells [(low:X),((low+m:Nat):X),.slice aB A.length c1,.slice a2 B.length c2,.slice a3 (eT m q).length b8] false)) a5) A.length ⟨0,J,J,rfl,rfl,rfl⟩ ?_;rintro _ _ ac Y ⟨i,rfl,aj,rfl,aW,aK⟩;rw[arU,aW,aK];unfold ab0;refine ng ?_;refine⟨λct=>?_,λeM=>?_⟩
   ·obtain⟨x,aY⟩:=dR ct;obtain⟨_,bQ,k3,ro,_,fm,cf,V⟩:=fx.at aY;cases cf;rw[hM]at V;have hgx:=(L (o:=.cells [(low:X),((low+m:Nat):X),.slice (some ⟨bQ,0,k3⟩) A.length c1,.slice a2 B.length c2,.slice a3 (eT m q).length b8] false) bQ fm).trans V;have es:((A.take (i+1)).filter λa=>a == 0).length=((A.take i).filter λa=>a == 0).length+(if x == 0 then 1 else 0):=by
     rw[ho,aY,r9,jd]
     grind
    have Um:IntKind.wrap .i64 ((i:Int)+1)=((i+1:Nat):Int):=cv J;have tZ:=vX (λa=>a == (0:Int)) (A.take i);have hft:(A.take i).length=i:=ab
    have Ia:IntKind.wrap .i64 ((((A.take i).filter λa=>a == 0).length:Int)+1)=((((A.take i).filter λa=>a == 0).length+1:Nat):Int):=cv J;simp(disch:=omega)only[bl,↓reduceIte,Nat.reduceAdd,Nat.reduceSub,Nat.reduceMul,Nat.reduceLT,Nat.reduceLeDiff,Nat.reduceEqDiff,Int.reduceBEq,Int.reduceLT,Int.reduceNeg,hgx,hN aY,Um,Ia];refine⟨λau=>?_,λau=>?_⟩
    ·refine⟨A.length-(i+1),J,i+1,rfl,J,?_,rfl,rfl⟩;rw[es,if_pos au]
    ·refine⟨A.length-(i+1),J,i+1,rfl,J,?_,rfl,rfl⟩
     grind
   ·have:i=A.length:=J
    subst this;rw[hC,if_neg J];exact⟨rfl,L,J⟩
  ·have f4:((k == 5):al)=false:=ab
   refine G0 @bc @ed @b3 @f4 ?_;rw[if_neg (λh=>h.1)];exact hK
theorem ala{n:Nat}{h:ae}{U:Nat}(M:1<=n)(L:n<=8):aH Q s 220 [(n:X)] h U (fr (.bool true) U h):=by
 refine ab1 ?_;unfold Rw;refine aD ?_;refine⟨λ_=>⟨?_,rfl,rfl⟩,λh=>absurd h J⟩
 grind
theorem alb{h:ae}{U:Nat}(Z:1<=C)(M:C<=8)(aj:i<8)(bZ:j<C):aH Q s 311 [(C:X),(i:X),(j:X)] h U (fr (((i*C+j:Nat):X)) U h):=by
 refine anY ?_;refine(ala Z M).mono ?_;rintro _ _ _ ⟨rfl,rfl,rfl⟩;have aO:i*C<64:=by have:i*C<=7*8:=sb J M;omega
 have L:IntKind.wrap .i64 ((i:Int)*(C:Int))=((i*C:Nat):Int):=by rw[<-Int.natCast_mul];exact iY _ J
 have V:IntKind.wrap .i64 (((i*C:Nat):Int)+(j:Int))=((i*C+j:Nat):Int):=by rw[<-vZ];exact iY _ J
 refine aD ?_;unfold Cn;refine cQ @L @V ?_;refine⟨λh=>absurd h J,λ_=>⟨λh=>absurd h J,λ_=>⟨λh=>absurd h J,λ_=>⟨λh=>absurd h J,λ_=>?_⟩⟩⟩⟩;rw[z9,L];simp only[af,PV,V];exact⟨rfl,rfl,rfl⟩
def dx(c:Nat->X):aa X:=[c 0,c 1,c 2,c 3,c 4,c 5,c 6,c 7,c 8,c 9,c 10,c 11,c 12,c 13,c 14,c 15,c 16,c 17,c 18,c 19,c 20,c 21,c 22,c 23,c 24,c 25,c 26,c 27,c 28,c 29,c 30,c 31,c 32,c 33,c 34,c 35,c 36,c 37,c 38,c 39,c 40,c 41,c 42,c 43,c 44]
def hh(c:Nat->X)(k:Nat)(v:X):Nat->X:=λn=>if n=k then v else c n
structure et where
 kind:Int
 fi:Int
 lS:Int
 hI:Int
 round:Int
 l6:Int
 bm:aw Addr
 n6:Nat
 hv:Nat
 a6:aw Addr
 n7:Nat
 i7:Nat
 br:aw Addr
 n8:Nat
 g9:Nat
 n:Int
 n4:al
def ec(f:et):aa X:=[(f.kind:X),(f.fi:X),(f.lS:X),(f.hI:X),(f.round:X),(f.l6:X),.slice f.bm f.n6 f.hv,.slice f.a6 f.n7 f.i7,.slice f.br f.n8 f.g9,(f.n:X),.bool f.n4]
theorem FG{M:Nat}{h:ae}{U:Nat}(L:u h M=some (.cells (dx c) ro))(h1:1<=C)(V:C<=8)(aj:i<8)(Z:j<C)(a1:c 8 = (C:X)):aH Q s 219 [bf M,(i:X),(j:X)] h U (fr (((i*C+j:Nat):X)) U h):=by refine anZ ?_;unfold ab4;unfold dx at L;refine cQ @L @a1 ?_;exact alb h1 V aj Z
theorem asn{Z h3 z2 z3 M r4 s6 ph V VI L:X}:rn (py []) 0 11 [aC,aB,a2,a3,aZ,bt,bm,a6,br,c7,dk] [Z,h3,z2,z3,M,r4,s6,ph,V,VI,L] = .ok [aC,aB,a2,a3,aZ,bt,bm,a6,br,c7,dk]:=rfl
def CZ(Ib:Int)(round n:Int)(n4:al):et:=⟨4,Ib,0,0,round,0,none,0,0,none,0,0,none,0,0,n,n4⟩
theorem azH{x y:GE}(h:jN (dE x) (dE y)):mV x y:=by
 rcases h with h|⟨M,L⟩
 ·exact .inl (by have:(x.f:Int)<y.f:=h;omega)
 ·exact .inr ⟨by have:(x.f:Int)=y.f:=M;omega,by have:(x.t:Int)<y.t:=L;omega⟩
theorem aso{aV:aa GE}{N:Nat}(h:jq (aV.map dE) (ag.map dE))(L:∀g∈ag,gT N g)(V:N<=4096)(Z:ag.length<=120):hg N N ag :=
 ⟨(tc.1 h.up).imp azH,λg M=>(L g M).1,λg M=>(L g M).2.1,V,V,Z⟩
theorem avl{h:ae}{U n k:Nat}{rd:al}{l:aa X}(M:0<k)(bv:l.length=n*k)(bj:u h b=some (.cells cs rd))(L:u h bQ=some (.cells l ro))(au:0<n)(h1:n*k<1000000):
  dM k h U (.slice (some ⟨b,0,none⟩) 0 0) (.slice (some ⟨bQ,0,k3⟩) n c2) = .ok (.val (.slice (some ⟨U,0,some k⟩) n n) (F h U (.cells l false)) (U+1)):=by
 have V:n<=n*k:=B6 n M;have Z:lg h (some ⟨bQ,0,k3⟩) (n.mul k) (λnew=>g0 k h U (some ⟨b,0,none⟩) 0 0 n new)=g0 k h U (some ⟨b,0,none⟩) 0 0 n l:=by
  rw[show n.mul k=l.length from bv.symm,tn L J J]
  grind
 show lg h (some ⟨bQ,0,k3⟩) (n.mul k) (λnew=>g0 k h U (some ⟨b,0,none⟩) 0 0 n new)=_;rw[Z];unfold g0;rw[show Nat.ble (Nat.add 0 n) 0=false by
  cases L:Nat.ble (Nat.add 0 n) 0 with
  |false=>rfl
  |true=>have:=ma L;grind]
 rw[show(Nat.ble (Nat.mul (Nat.add 0 n) k) 1000000&&Nat.ble (Nat.add 0 n) 1000000)=true by
  simp only[eB,tg]
  grind]
 unfold rq;simp only[v8 bj];rw[show ni (Nat.mul 0 k) (nc cs 0)=some [] by rw[xT,mc];rfl];show qw h U k (kD [] l) (0+n)=_;rw[kh,te,iV];exact rf M
def yN(c:Int × Int):aa X:=[(c.1:X),(c.2:X)]
theorem aoq(l:aa (Int × Int)):(bd yN l).length=l.length*2:=by
 induction l with
 |nil=>rfl
 |cons x l L=>show(yN x++bd yN l).length=_;rw[jd,L,mb];show 2+_=_;omega
theorem azI:m9 Tryz.prog 43=true:=by kernel_rfl
theorem aor{h:ae}{U:Nat}{v:X}{l:aa (Int × Int)}(aG:cr h U v yN l)(bA:l.length<100000):
  aH Q s 122 [v] h U (λr ac Y=>eG ac U Y r yN l/\aA U h ac/\U<=Y):=by
 refine ar0 ?_;obtain⟨a,cap,rfl,Z⟩:=id aG;unfold aes;simp(disch:=omega)only[bl,z0 azI,seval];refine⟨λV=>⟨?_,aN⟩,λV=>?_⟩
 ·have:l=[]:=ab
  subst this;exact⟨none,0,rfl,λh=>absurd rfl h⟩
 have L:aA U h (F h U (.cells [] false)):=aN
 rcases Jl (l=[])with e|e
 ·subst e;exact⟨⟨some ⟨U,0,none⟩,0,rfl,λh=>absurd rfl h⟩,L,J⟩
 ·obtain⟨b,aS,ro,aO,rfl,M⟩:=Z e;rw[avl  J (aoq _) (aT _ _ _) ((L b aO).trans M) ab J];exact⟨⟨some ⟨U+1,0,some 2⟩,l.length,rfl,λ_=>⟨U+1,some 2,false,J,J,rfl,ab⟩⟩,aN,J⟩
theorem asp{x:i2}(h:hc x=0):jZ x.k x.n x.src x.len x.bK x.dd x.es=0/\iL x.k x.n x.src x.len x.bK=0/\x.dd=x.n/\0<=x.n/\x.n<=4096/\1<=x.R/\x.R<=8/\1<=x.C/\x.C<=8/\x.vz<=8192:=by
 unfold hc at h
 by_cases Z:pI x.k x.n x.src x.len x.bK x.dd x.es x.lim=0
 case neg=>omega
 rw[if_neg J]at h;have M:j9 x.R 8=true:=ab
 have V:j9 x.C 8=true:=ab
 have iv:j9 x.M 64=true:=ab
 rw[M,V,iv,if_neg (by simp),if_neg (by simp),if_neg (by simp)]at h;have M:=of_decide_eq_true M;have V:=of_decide_eq_true V;have L:jZ x.k x.n x.src x.len x.bK x.dd x.es=0:=by unfold pI at Z;omega
 have bg:iL x.k x.n x.src x.len x.bK=0:=by unfold jZ at L;omega
 unfold jZ at L ⊢;rw[if_neg J]at L ⊢
 by_cases e:x.dd=x.n
 case neg=>omega
 rw[if_neg J]at L ⊢;have bb:=L;unfold lf at bb;omega
def Ic(I eC k n src len:Int)(bk:aw Addr)(uk gj:Nat)(R C lim:Int)(bL:aw Addr)(xA gV:Nat):Nat->X
 |0=>.int .i64 I
 |1=>.int .i64 eC
 |2=>.int .i64 k
 |3=>.int .i64 n
 |4=>.int .i64 src
 |5=>.int .i64 len
 |6=>.slice bk uk gj
 |7=>.int .i64 R
 |8=>.int .i64 C
 |9=>.int .i64 lim
 |10=>.slice bL xA gV
 |11=>.int .i64 0
 |12=>.int .i64 0
 |13=>.slice none 0 0
 |14=>.slice none 0 0
 |15=>.slice none 0 0
 |16=>.int .i64 0
 |17=>.int .i64 0
 |18=>.slice none 0 0
 |19=>.slice none 0 0
 |20=>.slice none 0 0
 |21=>.slice none 0 0
 |22=>.slice none 0 0
 |23=>.int .i64 1
 |24=>.map none
 |25=>.int .i64 1
 |26=>.int .i64 0
 |27=>.int .i64 0
 |28=>.int .i64 0
 |29=>.int .i64 0
 |30=>.slice none 0 0
 |31=>.slice none 0 0
 |32=>.slice none 0 0
 |33=>.int .i64 0
 |34=>.int .i64 0
 |35=>.slice none 0 0
 |36=>.slice none 0 0
 |37=>.slice none 0 0
 |38=>.bool false
 |39=>.bool false
 |40=>.slice none 0 0
 |41=>.map none
 |42=>.int .i64 0
 |43=>.map none
 |44=>.bool false
 |_=>.bool false
theorem aos{I k n R C:Int}:((rn (py [(7,2,Value.agg ⟨[(R:X),(C:X)]⟩),(9,1,(lim:X)),(10,1,.slice bL xA gV),(23,1,.int .i64 1),(25,1,.int .i64 1)]) 2 5 [(k:X),(n:X),(src:X),(len:X),.slice bk uk gj] [(I:X),(eC:X),.int .i64 0,.int .i64 0,.int .i64 0,.int .i64 0,.slice none 0 0,.int .i64 0,.int .i64 0,.int .i64 0,.slice none 0 0,.int .i64 0,.int .i64 0,.slice none 0 0,.slice none 0 0,.slice none 0 0,.int .i64 0,.int .i64 0,.slice none 0 0,.slice none 0 0,.slice none 0 0,.slice none 0 0,.slice none 0 0,.int .i64 0,.map none,.int .i64 0,.int .i64 0,.int .i64 0,.int .i64 0,.int .i64 0,.slice none 0 0,.slice none 0 0,.slice none 0 0,.int .i64 0,.int .i64 0,.slice none 0 0,.slice none 0 0,.slice none 0 0,.bool false,.bool false,.slice none 0 0,.map none,.int .i64 0,.map none,.bool false]).bind λl=>.ok (Value.agg ⟨l⟩)) = .ok (Value.agg ⟨dx (Ic I eC k n src len bk uk gj R C lim bL xA gV)⟩):=rfl
theorem axS{I k n R C:Int}:dj (.agg ⟨dx (Ic I eC k n src len bk uk gj R C lim bL xA gV)⟩)=dx (Ic I eC k n src len bk uk gj R C lim bL xA gV):=rfl
theorem axT{I k n R C:Int}:ee (dx (Ic I eC k n src len bk uk gj R C lim bL xA gV))=true:=rfl
def nm(c:Nat->X)(k:Nat)(l:aa X):Nat->X:=λn=>if k<=n/\n<k+l.length then(l[n-k]?).getD (.bool false)else c n
theorem asq{h:ae}{k:ae->Prop}:af (j4 (some (.cells (dx c) false)) h b 11 [kQ,v1,v2,v3,v4]) k↔ee [kQ,v1,v2,v3,v4]=true/\k (F h b (.cells (dx (nm c 11 [kQ,v1,v2,v3,v4])) false)):=Aj.trans ⟨λx=>⟨x.1,x.2.2⟩,λx=>⟨x.1,by show 16<=45;omega,x.2⟩⟩
theorem ass{h:ae}{L:X}{k:ae->Prop}:af (j4 (some (.cells (dx c) false)) h b 16 [kQ,v1,v2,v3,v4,L]) k↔ee [kQ,v1,v2,v3,v4,L]=true/\k (F h b (.cells (dx (nm c 16 [kQ,v1,v2,v3,v4,L])) false)):=Aj.trans ⟨λx=>⟨x.1,x.2.2⟩,λx=>⟨x.1,by show 22<=45;omega,x.2⟩⟩
theorem ast{h:ae}{k:ae->Prop}:af (j4 (some (.cells (dx c) false)) h b 28 [kQ,v1,v2,v3,v4]) k↔ee [kQ,v1,v2,v3,v4]=true/\k (F h b (.cells (dx (nm c 28 [kQ,v1,v2,v3,v4])) false)):=Aj.trans ⟨λx=>⟨x.1,x.2.2⟩,λx=>⟨x.1,by show 33<=45;omega,x.2⟩⟩
theorem asu{h:ae}{k:ae->Prop}:af (j4 (some (.cells (dx c) false)) h b 33 [kQ,v1,v2,v3,v4]) k↔ee [kQ,v1,v2,v3,v4]=true/\k (F h b (.cells (dx (nm c 33 [kQ,v1,v2,v3,v4])) false)):=Aj.trans ⟨λx=>⟨x.1,x.2.2⟩,λx=>⟨x.1,by show 38<=45;omega,x.2⟩⟩
theorem asv:hV (some 5) 11 (dx (nm c 11 [kQ,v1,v2,v3,v4])) = .ok (.agg ⟨[kQ,v1,v2,v3,v4]⟩):=rfl
theorem asw:hV (some 5) 28 (dx (nm c 28 [kQ,v1,v2,v3,v4])) = .ok (.agg ⟨[kQ,v1,v2,v3,v4]⟩):=rfl
theorem GN{c:Nat->X}:(dx c).length=45:=rfl
theorem asx{v:X}:(dx c).set 6 v=dx (hh c 6 v):=rfl
theorem aot{v:X}:(dx c).set 24 v=dx (hh c 24 v):=rfl
theorem aou{v:X}:(dx c).set 41 v=dx (hh c 41 v):=rfl
theorem aov{v:X}:(dx c).set 43 v=dx (hh c 43 v):=rfl
def el{az:Type}(h:ae)(U:Nat)(v:X)(enc:az->aa X)(k:Nat)(l:aa az):Prop :=
 ∃a cap,v = .slice a l.length cap/\(l≠[]->∃b o aS ro cs,b<U/\a=some ⟨b,o,aS⟩/\u h b=some (.cells cs ro)/\o+l.length*k<=cs.length/\(cs.drop o).take (l.length*k)=bd enc l)
section
variable {az:Type} {h ac:ae} {U Y k:Nat} {v:X} {enc:az->aa X} {l:aa az}
theorem el.T(H:el h U v enc k l)(L:aA U h ac)(Z:U<=Y):el ac Y v enc k l:=by obtain⟨a,cap,e,H⟩:=H;refine⟨a,cap,e,λM=>?_⟩;obtain⟨b,o,aS,ro,cs,aO,h1,V,aM⟩:=H M;exact⟨b,o,aS,ro,cs,J,h1,(L b aO).trans V,aM⟩
theorem cr.o(L:∀x,(enc x).length=k)(H:cr h U v enc l):el h U v enc k l:=by
 obtain⟨a,cap,e,H⟩:=H;refine⟨a,cap,e,λM=>?_⟩;obtain⟨b,aS,ro,Z,h1,V⟩:=H M;have:=gc L l
 grind
theorem el.form(H:el h U v enc k l):∃a c,v = .slice a l.length c:=by obtain⟨a,cap,e,_⟩:=H;grind
theorem el.nil{a:aw Addr}{c:Nat}:el h U (.slice a 0 c) enc k ([]:aa az):=⟨a,c,rfl,λh=>absurd rfl h⟩
theorem NX{o n k:Nat}{l:aa az}(L:∀x,(enc x).length=k)(bv:n=l.length*k)(V:(cs.drop o).take n=bd enc l){x:az}(M:l[i]? = some x):(cs.drop (o+i*k)).take k=enc x:=by
 have Z:=tm L M;rw[<-V,E9,xR,List.take_take]at Z
 grind
theorem el.ld(H:el h U v enc k l)(V:∀x,(enc x).length=k){x:az}(L:l[i]? = some x):
  ∃b o aS ro cs cap,b<U/\v = .slice (some ⟨b,o,aS⟩) l.length cap/\u h b=some (.cells cs ro)/\hV (some k) (o+i*k) cs = .ok (.agg ⟨enc x⟩):=by obtain⟨a,cap,e,H⟩:=H;obtain⟨b,o,aS,ro,cs,aO,rfl,M,h1,Z⟩:=H ab;have aj:=(hn.1 L).1;have:(i+1)*k<=l.length*k:=qk k aj;rw[zM]at this;refine⟨b,o,aS,ro,cs,cap,aO,e,M,?_⟩;rw[pq,if_pos J,NX V rfl Z L]
theorem el.ld1{enc:az->X}(H:el h U v (λx=>[enc x]) 1 l){x:az}(V:l[i]? = some x):
  ∃b o aS ro cs cap,b<U/\v = .slice (some ⟨b,o,aS⟩) l.length cap/\u h b=some (.cells cs ro)/\cs[o+i]? = some (enc x):=by
 obtain⟨a,cap,e,H⟩:=H;obtain⟨b,o,aS,ro,cs,Z,rfl,L,h1,M⟩:=H ab;refine⟨b,o,aS,ro,cs,cap,Z,e,L,?_⟩;have aM:=NX  ab rfl M V;rw[Fg]at aM;have:((cs.drop (o+i)).take 1)[0]? = some (enc x):=ab
 grind
theorem zU:∀(l m:aa az),bd enc (l++m)=bd enc l++bd enc m
 | [],m=>rfl
 |x::l,m=>by show enc x++bd enc (l++m)=(enc x++bd enc l)++bd enc m;rw[zU l m,kA]
theorem Z5(L:∀x,(enc x).length=k)(l:aa az)(i j:Nat):((bd enc l).drop (i*k)).take ((j-i)*k)=bd enc ((l.drop i).take (j-i)):=by
 have Z:bd enc l=bd enc (l.take i)++bd enc (l.drop i):=by rw[<-zU,List.take_append_drop]
 have V:bd enc (l.drop i)=bd enc ((l.drop i).take (j-i))++bd enc ((l.drop i).drop (j-i)):=by rw[<-zU,List.take_append_drop]
 by_cases aj:i<=l.length
 ·rw[Z,I2 (by rw[gc L,ql];grind),NB (by rw[gc L,ql,E7 aj];omega),te]
  by_cases M:j-i<=(l.drop i).length
  ·rw[V,I3 (by rw[gc L,ql,E7 M];omega),q3 (by rw[gc L,ql,E7 M];omega)]
  ·rw[q3 (l:=l.drop i) J,q3 (by rw[gc L];exact qk k J)]
 ·rw[NB (J:l.length<=i),NB (by rw[gc L];exact qk k J)];simp[bd]
theorem asy{o n cap:Nat}(cL:aS≠some 0)(h1:i<=j)(ap:j<=n)(aM:n<=cap)(k:Nat):
  ∃Z gV,gS k (.slice (some ⟨b,o,aS⟩) n cap) (some (i:X)) (some (j:X)) none = .ok (.slice Z (j-i) gV)/\(i<j->∃L,Z=some ⟨b,o+i*k,L⟩):=by
 have e:gS k (.slice (some ⟨b,o,aS⟩) n cap) (some (i:X)) (some (j:X)) none=nV k (some ⟨b,o,aS⟩) cap false cap j i:=rfl;rw[e];unfold nV;rw[show(Nat.ble cap cap&&(Nat.ble j cap&&Nat.ble i j))=true by simp;omega];unfold uX
 by_cases e:cap=i
 ·subst e;have V:j=cap:=J
  subst V;rw[uC];unfold kU z6 wX LP;cases aS with
  |none=>grind
  |some q =>
   cases q with
   |zero=>grind
   |succ q=>exact⟨_,_,by simp;exact⟨rfl,rfl⟩,λh=>absurd h J⟩
 ·have M:Nat.beq cap i=false:=by
   cases M:Nat.beq cap i with
   |true=>exact absurd (gm M) e
   |false=>rfl
  rw[M];exact⟨_,_,rfl,λ_=>⟨_,rfl⟩⟩
theorem el.clone(H:el h U v enc k l)(hk:∀x,(enc x).length=k)(M:0<k)(bA:l.length*k<1000000){L:aa X}{ro0:al}(aO:u ac b=some (.cells L ro0))(Z:aA U h ac)(HK:U<=Y):
  (l=[]/\∃w,(w = .slice none 0 0\/∃b,w = .slice (some ⟨b,0,none⟩) 0 0)/\dM k ac Y (.slice (some ⟨b,0,none⟩) 0 0) v = .ok (.val w ac Y))\/(l≠[]/\dM k ac Y (.slice (some ⟨b,0,none⟩) 0 0) v = .ok (.val (.slice (some ⟨Y,0,some k⟩) l.length l.length) (F ac Y (.cells (bd enc l) false)) (Y+1))):=by
 obtain⟨a,cap,rfl,H⟩:=H;rcases Jl (l=[])with e|e
 ·subst e;refine .inl ⟨rfl,.slice (some ⟨b,0,none⟩) 0 0,ab,?_⟩;show lg ac a (Nat.mul 0 k) (λnew=>g0 k ac Y (some ⟨b,0,none⟩) 0 0 0 new)=_;rw[show Nat.mul 0 k=0 from mc k];rfl
 ·right
  refine⟨e,?_⟩;obtain⟨bQ,dP,aS,ro,cs,fm,rfl,V,h1,ap⟩:=H e;have V:=(Z bQ fm).trans V;have au:=EY.2 e;have hnk:l.length<=l.length*k:=B6 _ M;have bb:lg ac (some ⟨bQ,dP,aS⟩) (l.length.mul k) (λnew=>g0 k ac Y (some ⟨b,0,none⟩) 0 0 l.length new)=g0 k ac Y (some ⟨b,0,none⟩) 0 0 l.length (bd enc l):=by
   rw[tn V ab ab]
   grind
  show lg ac (some ⟨bQ,dP,aS⟩) (l.length.mul k) (λnew=>g0 k ac Y (some ⟨b,0,none⟩) 0 0 l.length new)=_;rw[bb];unfold g0;rw[show Nat.ble (Nat.add 0 l.length) 0=false by
   cases aO:Nat.ble (Nat.add 0 l.length) 0 with
   |false=>rfl
   |true=>have:=ma aO;grind]
  rw[show(Nat.ble (Nat.mul (Nat.add 0 l.length) k) 1000000&&Nat.ble (Nat.add 0 l.length) 1000000)=true by
   simp only[eB,tg]
   grind]
  unfold rq;simp only[v8 aO];rw[show ni (Nat.mul 0 k) (nc L 0)=some [] by rw[xT,mc];rfl];show qw ac Y k (kD [] (bd enc l)) (0+l.length)=_;rw[kh,te,iV];exact rf M
def iF{az:Type}(h:ae)(ao aj:Nat)(v:X)(enc:az->aa X)(k:Nat)(l:aa az):Prop :=
 (l=[]/\(v = .slice none 0 0\/∃b,v = .slice (some ⟨b,0,none⟩) 0 0))\/∃b,ao<=b/\b<aj/\v = .slice (some ⟨b,0,some k⟩) l.length l.length/\u h b=some (.cells (bd enc l) false)
theorem iF.form{ao aj:Nat}(H:iF h ao aj v enc k l):∃a c,v = .slice a l.length c:=by
 rcases H with⟨rfl,rfl|⟨b,rfl⟩⟩|⟨b,_,_,rfl,_⟩ <;> exact⟨_,_,rfl⟩
theorem iF.fj{ao aj:Nat}(H:iF h ao aj v enc k l):eG h ao aj v enc l:=by
 rcases H with⟨rfl,rfl|⟨b,rfl⟩⟩|⟨b,V,L,rfl,M⟩
 ·exact⟨_,_,rfl,λh=>absurd rfl h⟩
 ·exact⟨_,_,rfl,λh=>absurd rfl h⟩
 ·exact⟨_,_,rfl,λ_=>⟨b,_,false,V,L,rfl,M⟩⟩
theorem iF.T{ao aj d2 dm:Nat}(H:iF h ao aj v enc k l)(L:∀b,ao<=b->b<aj->u ac b=u h b)(V:d2<=ao)(M:aj<=dm):iF ac d2 dm v enc k l:=by
 rcases H with H|⟨b,aB,a2,a3,aZ⟩
 ·exact .inl H
 ·exact .inr ⟨b,J,J,a3,ab⟩
theorem d1.f{ao aj:Nat}(H:d1 h v enc k l ao aj):iF h ao aj v enc k l:=by
 rcases H with⟨aW,Z⟩|⟨b,V,M,e,L⟩
 ·exact .inl ab
 ·exact .inr ⟨b,V,M,e,L⟩
theorem acj{P:Program}{t:TypeId}(H:el h U v enc k l)(Z:∀x,(enc x).length=k)(L:0<k)(bA:l.length*k<1000000)(ci:m9 P t=true)(M:∀r ac Y,iF ac U Y r enc k l->aA U h ac->U<=Y->K r ac Y):
  af (bin P .eql t v (.slice none 0 0)) λhH=>bu hH (K (.slice none 0 0) h U) (dS (eV 0 [] []) h U λiH aM d4=>dD (dU (dM k aM d4 iH v)) λNi cy n7=>K Ni cy n7):=by
 have r0:=H;obtain⟨a,cap,rfl,iJ⟩:=id H;have V:aA U h (F h U (.cells [] false)):=aN
 simp(disch:=omega)only[bl,z0 ci,seval];refine⟨λau=>?_,λau=>?_⟩
 ·have:l=[]:=ab
  subst this;exact M _ _ _ (.inl ab) aN J
 rcases r0.clone Z L bA (aT h U (.cells [] false)) V (q7 U)with⟨rfl,w,b0,e⟩|⟨aE,e⟩
 ·rw[e];exact M _ _ _ (.inl ab) V J
 ·rw[e];exact M _ _ _ (.inr ⟨U+1,J,J,rfl,ab⟩) aN J
end
def axU:c0:=λs ah t1 h U K=>aX s 220 [ah] h U λa b c=>af (dv .not a) λd=>bu d (K (ad (-1)) b c) (cF t1 (ad 0) (K (ad (-1)) b c) (bH .mul 3 ah (ad 8) λf=>bw .geq 3 t1 f (K (ad (-1)) b c) (bH .quo 3 t1 ah λi=>K i b c)))
theorem avm:c4 131 axU:=c5 []
def axV:c0:=λs ah t1 h U K=>aX s 131 [ah,t1] h U λa b c=>cF a (ad 0) (K (ad (-1)) b c) (bH .rem 3 t1 ah λe=>K e b c)
theorem avn:c4 132 axV:=c5 []
def ahS:c0:=λs ah t1 h U K=>aX s 235 [ah,t1] h U λa b c=>bH .geq 3 a (ad 0) λd=>K d b c
theorem ahO:c4 141 ahS:=c5 []
def aow:cS:=λs ah h U K=>bw .eql 95 ah ay (K ay h U) (dS (eV 0 [] []) h U λb c d=>dD (dU (dM 2 c d b ah)) λe f g=>K e f g)
theorem ald:cT 217 aow:=cV []
def aox:cS:=λs ah h U K=>bw .eql 98 ah ay (K ay h U) (dS (eV 0 [] []) h U λb c d=>dD (dU (dM 3 c d b ah)) λe f g=>K e f g)
theorem ale:cT 218 aox:=cV []
def N0:aa (aa Nat):=[[0,1,4,7,8]]
def Wi(s:al)(aC aB aZ a6 br:X)(h:ae)(U:Nat)(N:aP)(aE:aP)(R:aP):Prop:=cF br a6 (dL h 1 aC br λc=>fh Q s (hP h U [c] aB) λd e f=>bu d (R [aC,aB,br,a6,br] e f) (b9 br λg=>N [aC,aB,aZ,a6,g] e f)) (aE [aC,aB,aZ,a6,br] h U)
def Wu:c0:=λs ah t1 h U K=>cO ah λa=>bC (bN Q s N0 235 0) [ah,t1,(ad 0),a,(ad 0)] h U [(0,λb c d=>K (ad (-1)) c d)] (λe f g=>K (a8 e 2) f g)
theorem ahY{h:ae}{U:Nat}:bN Q s N0 235 0 [aC,aB,aZ,a6,br] h U N [(0,aE)] R=Wi s aC aB aZ a6 br h U N aE R:=by kernel_rfl
theorem ah4:c4 235 Wu:=c5 N0
def Qw:aa (aa Nat):=[[0,3,4]]
def Z6(s:al)(aC a3 aZ:X)(h:ae)(U:Nat)(N:aP)(aE:aP)(R:aP):Prop:=cO aC λa=>cF aZ a (dL h 1 aC aZ λd=>af (min2 true a3 d) λe=>b9 aZ λf=>N [aC,e,f] h U) (aE [aC,a3,aZ] h U)
def aeC:cS:=λs ah h U K=>cO ah λa=>cF a (ad 1) (af (.ok (Value.iface 9 (.string ⟨#[115,108,105,99,101,115,46,77,105,110,58,32,101,109,112,116,121,32,108,105,115,116]⟩))) λc=>False) (dL h 1 ah (ad 0) λe=>bC (bN Q s Qw 244 0) [ah,e,(ad 1)] h U [(0,λf g i=>K (a8 f 1) g i)] (λ_ _ _=>False))
theorem aoy{h:ae}{U:Nat}:bN Q s Qw 244 0 [aC,a3,aZ] h U N [(0,aE)] R=Z6 s aC a3 aZ h U N aE R:=by kernel_rfl
theorem asz:cT 244 aeC:=cV Qw
def ack:cS:=λs ah h U K=>bI ah h U λa b c=>ax b 0 a λe=>aX s 384 [e,(ad 4096)] b c λf g i=>af (dv .not f) λj=>bu j (K (.bool false) g i) (b1 [(ad 0)] g i λk l m=>af (aU l 1 k (ad (-1))) λn=>ax n 1 a λp=>af (.ok (.func (.func 386) ⟨[]⟩ ⟨[k,a]⟩)) λq=>aX s 385 [p,q] n m λr t aI=>af (dv .not r) λv=>K v t aI)
theorem aoz:cT 312 ack:=cV []
def acl:cS:=λs ah h U K=>bI ah h U λa b c=>aR 5 b a λd=>aX s 293 [d] b c λe f g=>af (va 3 none e) λi=>cO i λj=>K j f g
theorem aoA:cT 322 acl:=cV []
def ahT:c0:=λs ah t1 h U K=>aX s 395 [ah,t1] h U λa b c=>bH .geq 3 a (ad 0) λd=>K d b c
theorem ahP:c4 325 ahT:=c5 []
def NY:aa (aa Nat):=[[0,1,5,6]]
def We(s:al)(aC aB bt bm:X)(h:ae)(U:Nat)(N:aP)(aE:aP)(R:aP):Prop:=cO aC λa=>cF bm a (hw 3 h 3 aC bm λd=>b1 [(ad 0),(ad 0),(.int .u64 0)] h U λe f g=>af (aU f 3 e d) λi=>aR 3 i e λj=>fh Q s (hP i g [j] aB) λk l m=>af (dv .not k) λn=>bu n (aR 3 l e λo=>hJ 3 aC bt λp=>af (aU l 3 p o) λq=>b9 bt λr=>b9 bm λt=>N [aC,aB,r,t] q m) (b9 bm λaI=>N [aC,aB,bt,aI] l m)) (aE [aC,aB,bt,bm] h U)
def ah5:c0:=λs ah t1 h U K=>aX s 396 [ah,t1] h U λa b c=>bw .eql 3 a (ad (-1)) (K ah b c) (b9 a λe=>bC (bN Q s NY 332 0) [ah,t1,a,e] b c [(0,λf g i=>af (gS 3 (a8 f 0) (some (a8 f 2)) none none) λj=>dD (dU (pr Q .clear [98] g i [j])) λk l m=>af (gS 3 (a8 f 0) none (some (a8 f 2)) none) λn=>K n l m)] (λ_ _ _=>False))
theorem ahU{h:ae}{U:Nat}:bN Q s NY 332 0 [aC,aB,bt,bm] h U N [(0,aE)] R=We s aC aB bt bm h U N aE R:=by kernel_rfl
theorem ahZ:c4 332 ah5:=c5 NY
def Ym:gv:=λs ah t1 t2 h U K=>cO ah λa=>af (gS 1 ah (some t1) (some t2) (some a)) λb=>bw .eql 3 t1 t2 (K ah h U) (cO ah λd=>af (gS 1 ah none (some t1) none) λe=>af (gS 1 ah (some t2) none none) λf=>dD (dU (dM 1 h U e f)) λg i j=>U<=j/\cO g λk=>af (gS 1 g (some k) (some d) none) λl=>dD (dU (pr Q .clear [62] i j [l])) λm n o=>K g n o)
theorem ajo:gF 348 Ym:=gL []
def Z7:c0:=λs ah t1 h U K=>bw .geq 3 ah (ad 0) (bH .leq 3 ah t1 λb=>K b h U) (K (.bool false) h U)
theorem alf:c4 384 Z7:=c5 []
def ahV:c0:=λs ah t1 h U K=>aX s 444 [ah,t1] h U λa b c=>bH .geq 3 a (ad 0) λd=>K d b c
theorem ahQ:c4 385 ahV:=c5 []
def Z8:gv:=λs ah t1 t2 h U K=>bI ah h U λa b c=>ax b 0 a λe=>bS b t1 λf=>bw .leq 3 e f (ax b 0 a λj=>af (aU b 1 t1 j) λk=>K (.bool true) k c) (ax b 0 a λm=>ax b 0 t2 λo=>bH .geq 3 m o λp=>ax b 0 a λr=>af (aU b 1 t1 r) λt=>K p t c)
theorem alg:gF 386 Z8:=gL []
def Qx:aa (aa Nat):=[[2,3,4,8,9,10]]
def Z9(s:al)(a2 a3 aZ br c7 dk:X)(h:ae)(U:Nat)(N:aP)(aE:aP)(R:aP):Prop:=cF dk c7 (hw 2 h 2 br dk λc=>b1 [(ad 0),ay] h U λd e f=>af (aU e 2 d c) λg=>ax g 0 aZ λj=>b1 [(ad 0)] g f λk l m=>af (aU l 1 k j) λn=>aR 2 n d λo=>af (.ok (.func (.func 446) ⟨[]⟩ ⟨[k]⟩)) λp=>aX s 445 [o,p] n m λq r t=>af (aU r 2 d q) λaI=>ax aI 0 d λw=>ax aI 0 aZ λy=>bH .sub 3 (ad 4096) y λz=>kd w z (af (cU [(ad 0),ay] []) λbU=>af (aU aI 2 a2 bU) λbL=>R [a2,(ad 5),aZ,br,c7,dk] bL t) (ax aI 1 aZ λbV=>ax aI 1 d λbO=>dD (dU (dM 2 aI t bV bO)) λcM cG ds=>t<=ds/\bo 0 aZ λdh=>bS cG dh λey=>cZ dh ey (bo 0 d λam=>bS cG am λan=>cZ am an (lB ey an λez=>af (cU [(ad 0),ay] [(0,1,ez),(1,1,cM)]) λf9=>af (aU cG 2 aZ f9) λgw=>b9 dk λgl=>N [a2,a3,aZ,br,c7,gl] gw ds) 1 [aI]) 1 [aI])) (aE [a2,a3,aZ,br,c7,dk] h U)
def aeD:cS:=λs ah h U K=>b1 [(ad 0),ay] h U λa b c=>b1 [(ad 0),ay] b c λd e f=>cO ah λg=>bC (bN Q s Qx 387 0) [a,(ad 0),d,ah,g,(ad 0)] e f [(0,λi j k=>aR 2 j (a8 i 2) λl=>af (aU j 2 (a8 i 0) l) λm=>aR 2 m (a8 i 0) λn=>K (.tuple ⟨[n,(ad 0)]⟩) m k)] (λo p q=>aR 2 p (a8 o 0) λr=>K (.tuple ⟨[r,(a8 o 1)]⟩) p q)
theorem aoB{h:ae}{U:Nat}:bN Q s Qx 387 0 [a2,a3,aZ,br,c7,dk] h U N [(0,aE)] R=Z9 s a2 a3 aZ br c7 dk h U N aE R:=by kernel_rfl
theorem asA:cT 387 aeD:=cV Qx
def OR:aa (aa Nat):=[[3,8,9,10]]
def Xj(s:al)(a3 br c7 dk:X)(h:ae)(U:Nat)(N:aP)(aE:aP)(R:aP):Prop:=cF dk c7 (hw 2 h 2 br dk λc=>b1 [(ad 0),(ad 0)] h U λd e f=>af (aU e 2 d c) λg=>ax g 0 d λj=>dS (eV 1 [(ad 0)] [(0,1,j)]) g f λk l m=>dD (dU (dM 1 l m a3 k)) λn o p=>b9 dk λq=>N [n,br,c7,q] o p) (aE [a3,br,c7,dk] h U)
def aaa:cS:=λs ah h U K=>bI ah h U λa b c=>aR 2 b a λd=>aX s 447 [d] b c λe f g=>af (va 1 none e) λi=>cO i λj=>bC (bN Q s OR 389 0) [ay,i,j,(ad 0)] f g [(0,λk l m=>K (a8 k 0) l m)] (λ_ _ _=>False)
theorem ajp{h:ae}{U:Nat}:bN Q s OR 389 0 [a3,br,c7,dk] h U N [(0,aE)] R=Xj s a3 br c7 dk h U N aE R:=by kernel_rfl
theorem alh:cT 389 aaa:=cV OR
def Qy:aa (aa Nat):=[[2,5,11,12,13]]
def aab(s:al)(a2 bt d3 dI e5:X)(h:ae)(U:Nat)(N:aP)(aE:aP)(R:aP):Prop:=cF e5 dI (dL h 1 d3 e5 λc=>aR 6 h a2 λd=>aX s 449 [d,c] h U λe f g=>bw .geq 3 e (ad 0) (ax f 3 a2 λk=>b9 e λl=>dL f 1 k l λn=>ax f 3 a2 λp=>dL f 1 p e λr=>bH .sub 3 n r λt=>lB bt t λaI=>b9 e5 λv=>N [a2,aI,d3,dI,v] f g) (b9 e5 λw=>N [a2,bt,d3,dI,w] f g)) (aE [a2,bt,d3,dI,e5] h U)
def aeE:c0:=λs ah t1 h U K=>bI ah h U λa b c=>aR 6 b a λd=>aX s 448 [d] b c λe f g=>af (aU f 6 a e) λi=>cO t1 λj=>bC (bN Q s Qy 390 0) [a,(ad 0),t1,j,(ad 0)] i g [(0,λk l m=>K (a8 k 1) l m)] (λ_ _ _=>False)
theorem aoC{V L M:X}{h:ae}{U:Nat}:bN Q s Qy 390 0 [a2,bt,V,L,M] h U N [(0,aE)] R=aab s a2 bt V L M h U N aE R:=by kernel_rfl
theorem asB:c4 390 aeE:=c5 Qy
def N1:aa (aa Nat):=[[0,1,4,7,8]]
def Wj(s:al)(aC aB aZ a6 br:X)(h:ae)(U:Nat)(N:aP)(aE:aP)(R:aP):Prop:=cF br a6 (dL h 1 aC br λc=>fh Q s (hP h U [c] aB) λd e f=>bu d (R [aC,aB,br,a6,br] e f) (b9 br λg=>N [aC,aB,aZ,a6,g] e f)) (aE [aC,aB,aZ,a6,br] h U)
def Wv:c0:=λs ah t1 h U K=>cO ah λa=>bC (bN Q s N1 395 0) [ah,t1,(ad 0),a,(ad 0)] h U [(0,λb c d=>K (ad (-1)) c d)] (λe f g=>K (a8 e 2) f g)
theorem ah0{h:ae}{U:Nat}:bN Q s N1 395 0 [aC,aB,aZ,a6,br] h U N [(0,aE)] R=Wj s aC aB aZ a6 br h U N aE R:=by kernel_rfl
theorem ah6:c4 395 Wv:=c5 N1
def N2:aa (aa Nat):=[[0,1,4,7,8]]
def NZ(s:al)(aC aB aZ a6 br:X)(h:ae)(U:Nat)(N:aP)(aE:aP)(R:aP):Prop:=cF br a6 (hw 3 h 3 aC br λc=>fh Q s (hP h U [c] aB) λd e f=>bu d (R [aC,aB,br,a6,br] e f) (b9 br λg=>N [aC,aB,aZ,a6,g] e f)) (aE [aC,aB,aZ,a6,br] h U)
def N5:c0:=λs ah t1 h U K=>cO ah λa=>bC (bN Q s N2 396 0) [ah,t1,(ad 0),a,(ad 0)] h U [(0,λb c d=>K (ad (-1)) c d)] (λe f g=>K (a8 e 2) f g)
theorem Wk{h:ae}{U:Nat}:bN Q s N2 396 0 [aC,aB,aZ,a6,br] h U N [(0,aE)] R=NZ s aC aB aZ a6 br h U N aE R:=by kernel_rfl
theorem Wo:c4 396 N5:=c5 N2
def ahW:c0:=λs ah t1 h U K=>aX s 396 [ah,t1] h U λa b c=>bH .geq 3 a (ad 0) λd=>K d b c
theorem ahR:c4 397 ahW:=c5 []
def af6:c0:=λs ah t1 h U K=>bI ah h U λa b c=>aR 2 b a λd=>aX s 447 [d] b c λe f g=>af (aU f 2 a e) λi=>aR 2 i a λj=>aX s 458 [j,t1] i g λk l m=>af (cp k 0) λn=>af (cp k 1) λo=>af (dv .not o) λp=>bu p (K (.tuple ⟨[(ad 0),(.bool false)]⟩) l m) (ax l 1 a λr=>hJ 2 r n λt=>ax l 1 t λv=>K (.tuple ⟨[v,(.bool true)]⟩) l m)
theorem avo:c4 401 af6:=c5 []
def aeF:gv:=λs ah t1 t2 h U K=>cF t2 (ad 0) (K (ad 0) h U) (bw .geq 3 t2 t1 (K (ad 0) h U) (b9 t2 λc=>aX s 126 [ah,t1,c] h U λd e f=>aX s 126 [ah,t1,t2] e f λg i j=>bH .sub 3 d g λk=>K k i j))
theorem asC:gF 404 aeF:=gL []
def aeG:gv:=λs ah t1 t2 h U K=>bI ah h U λa b c=>bI t1 b c λd e f=>b1 [(ad 0),ay] e f λg i j=>aR 2 i a λk=>aX s 447 [k] i j λl m n=>af (aU m 2 a l) λo=>bS o d λp=>af (min2 false p (ad 0)) λq=>af (aU o 1 d q) λr=>bo 0 a λt=>bS r t λaI=>cZ t aI (af (min2 true t2 aI) λv=>bS r d λw=>bw .leq 3 v w (af (cU [(ad 0),ay] []) λy=>af (aU r 2 g y) λz=>aR 2 z g λbD=>K bD z n) (aR 2 r a λbU=>bS r d λbL=>aX s 458 [bU,bL] r n λbk bV ca=>af (cp bk 0) λbO=>af (cp bk 1) λcM=>aR 2 bV a λcG=>aX s 458 [cG,v] bV ca λds dh ey=>af (cp ds 0) λam=>af (cp ds 1) λan=>ax dh 0 a λf9=>ax dh 1 a λgl=>af (gS 2 gl (some bO) (some am) none) λhT=>af (cU [(ad 0),ay] [(0,1,f9),(1,1,hT)]) λiu=>b1 [(ad 0),ay] dh ey λgx l2 lC=>af (aU l2 2 gx iu) λlD=>aR 2 lD gx λox=>af (.ok (.func (.func 460) ⟨[]⟩ ⟨[d]⟩)) λqd=>aX s 445 [ox,qd] lD lC λch r3 be=>b1 [(ad 0),ay] r3 be λl3 pc ga=>af (aU pc 2 l3 ch) λbi=>bS bi d λxw=>bH .sub 3 v xw λpa=>bo 0 l3 λlE=>af (aU bi 1 lE pa) λjz=>aR 2 jz l3 λvO=>af (aU jz 2 g vO) λaQ=>aR 2 aQ g λuq=>K uq aQ ga)) 1 [o]
theorem asD:gF 405 aeG:=gL []
def aac:cS:=λs ah h U K=>bw .eql 99 ah ay (K ay h U) (dS (eV 0 [] []) h U λb c d=>dD (dU (dM 3 c d b ah)) λe f g=>K e f g)
theorem ali:cT 406 aac:=cV []
def N3:aa (aa Nat):=[[0,1,4,7,8]]
def Wl(s:al)(aC aB aZ a6 br:X)(h:ae)(U:Nat)(N:aP)(aE:aP)(R:aP):Prop:=cF br a6 (hw 2 h 2 aC br λc=>fh Q s (hP h U [c] aB) λd e f=>bu d (R [aC,aB,br,a6,br] e f) (b9 br λg=>N [aC,aB,aZ,a6,g] e f)) (aE [aC,aB,aZ,a6,br] h U)
def Ww:c0:=λs ah t1 h U K=>cO ah λa=>bC (bN Q s N3 444 0) [ah,t1,(ad 0),a,(ad 0)] h U [(0,λb c d=>K (ad (-1)) c d)] (λe f g=>K (a8 e 2) f g)
theorem ah1{h:ae}{U:Nat}:bN Q s N3 444 0 [aC,aB,aZ,a6,br] h U N [(0,aE)] R=Wl s aC aB aZ a6 br h U N aE R:=by kernel_rfl
theorem ah7:c4 444 Ww:=c5 N3
def Qz:aa (aa Nat):=[[1,4,5,17,18,19]]
def aad(s:al)(aB aZ bt kK ls nt:X)(h:ae)(U:Nat)(N:aP)(aE:aP)(R:aP):Prop:=cF nt ls (hw 2 h 2 kK nt λc=>b1 [(ad 0),(ad 0)] h U λd e f=>af (aU e 2 d c) λg=>aR 2 g d λi=>fh Q true (hP g f [i] aB) λj k l=>f<=l/\bo 1 bt λm=>bS k m λn=>cZ m n (hJ 2 n nt λo=>af (aU k 2 o j) λp=>b9 nt λq=>N [aB,aZ,bt,kK,ls,q] p l) 1 [g]) (aE [aB,aZ,bt,kK,ls,nt] h U)
def aeH:c0:=λs ah t1 h U K=>bI ah h U λa b c=>b1 [(ad 0),ay] b c λd e f=>aR 2 e a λg=>aX s 447 [g] e f λi j k=>af (aU j 2 a i) λl=>ax l 1 a λn=>b6 217 [n] l k λo p q=>bo 0 a λr=>bS p r λt=>cZ r t (af (cU [(ad 0),ay] [(0,1,t),(1,1,o)]) λaI=>b1 [(ad 0),ay] p q λv w x=>af (aU w 2 v aI) λy=>ax y 1 v λbD=>cO bD λbU=>bC (bN Q s Qz 445 0) [t1,d,v,bD,bU,(ad 0)] y x [(0,λbL bk bV=>aR 2 bk (a8 bL 2) λca=>af (aU bk 2 (a8 bL 1) ca) λbO=>aR 2 bO (a8 bL 1) λcM=>K cM bO bV)] (λ_ _ _=>False)) 1 [l]
theorem aoD{M L V:X}{h:ae}{U:Nat}:bN Q s Qz 445 0 [aB,aZ,bt,M,L,V] h U N [(0,aE)] R=aad s aB aZ bt M L V h U N aE R:=by kernel_rfl
theorem asE:c4 445 aeH:=c5 Qz
def acm:c0:=λs ah t1 h U K=>bI ah h U λa b c=>b1 [(ad 0),(ad 0)] b c λd e f=>bS e t1 λg=>ax e 0 a λj=>lB g j λk=>ax e 1 a λm=>af (cU [(ad 0),(ad 0)] [(0,1,k),(1,1,m)]) λn=>af (aU e 2 d n) λo=>aR 2 o d λp=>K p o f
theorem aoE:c4 446 acm:=c5 []
def aeI:cS:=λs ah h U K=>bI ah h U λa b c=>b1 [(ad 0),ay] b c λd e f=>aR 2 e a λg=>aX s 312 [g] e f λi j k=>bu i (aR 2 j a λl=>af (aU j 2 d l) λm=>aR 2 m d λn=>K n m k) (af (cU [(ad 0),ay] []) λo=>af (aU j 2 d o) λp=>aR 2 p d λq=>K q p k)
theorem asF:cT 447 aeI:=cV []
def aeJ:cS:=λs ah h U K=>bI ah h U λa b c=>b1 [(ad 0),(ad 0),ay,ay,ay,ay] b c λd e f=>aR 6 e a λg=>aX s 477 [g] e f λi j k=>bu i (aR 6 j a λl=>af (aU j 6 d l) λm=>aR 6 m d λn=>K n m k) (aX s 205 [] j k λo p q=>af (aU p 6 d o) λr=>aR 6 r d λt=>K t r q)
theorem asG:cT 448 aeJ:=cV []
def Pw:aa (aa Nat):=[[1,2,5,6]]
def Yn(s:al)(aB a2 bt bm:X)(h:ae)(U:Nat)(N:aP)(aE:aP)(R:aP):Prop:=cF bt bm (bH .sub 3 bm bt λb=>bH .quo 3 b (ad 2) λc=>lB bt c λd=>ax h 2 a2 λf=>dL h 1 f d λi=>bw .eql 3 i aB (aE [aB,a2,d,bm] h U) (ax h 2 a2 λl=>dL h 1 l d λn=>cF n aB (b9 d λp=>N [aB,a2,p,bm] h U) (N [aB,a2,bt,d] h U))) (aE [aB,a2,bt,bm] h U)
def acn:c0:=λs ah t1 h U K=>bI ah h U λa b c=>ax b 2 a λe=>cO e λf=>bC (bN Q s Pw 449 0) [t1,a,(ad 0),f] b c [(0,λg i j=>cF (a8 g 2) (a8 g 3) (K (a8 g 2) i j) (K (ad (-1)) i j))] (λ_ _ _=>False)
theorem alj{h:ae}{U:Nat}:bN Q s Pw 449 0 [aB,a2,bt,bm] h U N [(0,aE)] R=Yn s aB a2 bt bm h U N aE R:=by kernel_rfl
theorem aoF:c4 449 acn:=c5 Pw
def aae:c0:=λs ah t1 h U K=>bI ah h U λa b c=>aR 6 b a λd=>aX s 448 [d] b c λe f g=>af (aU f 6 a e) λi=>aR 6 i a λj=>aX s 449 [j,t1] i g λk l m=>cF k (ad 0) (K ay l m) (aR 6 l a λo=>aX s 482 [o,k] l m λp q r=>aX s 481 [p] q r λt aI v=>K t aI v)
theorem alk:c4 454 aae:=c5 []
def aeK:c0:=λs ah t1 h U K=>bI ah h U λa b c=>ax b 1 a λe=>aX s 485 [e,t1,(.func (.func 486) #[] #[])] b c λf g i=>af (cp f 0) λj=>af (cp f 1) λk=>K (.tuple ⟨[j,k]⟩) g i
theorem asH:c4 458 aeK:=c5 []
def aco:c0:=λs ah t1 h U K=>bI ah h U λa b c=>b1 [(ad 0),(ad 0)] b c λd e f=>ax e 0 a λi=>bS e t1 λj=>bH .sub 3 i j λk=>ax e 1 a λm=>af (cU [(ad 0),(ad 0)] [(0,1,k),(1,1,m)]) λn=>af (aU e 2 d n) λo=>aR 2 o d λp=>K p o f
theorem aoG:c4 460 aco:=c5 []
def Px:aa (aa Nat):=[[1,2,73,74]]
def Yo(s:al)(aB a2 MC vC:X)(h:ae)(U:Nat)(N:aP)(aE:aP)(R:aP):Prop:=cF vC MC (ax h 4 aB λc=>ax h 3 aB λe=>dL h 1 e vC λg=>ax h 3 aB λj=>b9 vC λk=>dL h 1 j k λm=>af (gS 1 c (some g) (some m) none) λn=>ax h 0 aB λp=>b6 493 [n,p] h U λq r t=>af (dv .not q) λaI=>bu aI (R [aB,(.bool false),MC,vC] r t) (b9 vC λv=>N [aB,a2,MC,v] r t)) (aE [aB,a2,MC,vC] h U)
def FH(s:al)(K:bR)(cB y70:X)(au:ae)(a4:Nat):Prop:=bu y70 (K (.bool false) au a4) (ax au 2 cB λb=>cO b λc=>bC (bN Q s Px 477 0) [cB,(.bool false),c,(ad 0)] au a4 [(0,λd e f=>K (.bool true) e f)] (λg i j=>K (a8 g 1) i j))
def Cp(s:al)(K:bR)(cB cg Un:X)(au:ae)(a4:Nat):Prop:=bu Un (K (.bool false) au a4) (ax au 2 cB λb=>ax au 1 cB λd=>aX s 493 [b,d] au a4 λe f g=>af (dv .not e) λi=>bu i (FH s K cB (.bool true) f g) (ax f 3 cB λk=>b9 cg λl=>aX s 493 [k,l] f g λm n o=>af (dv .not m) λp=>bu p (FH s K cB (.bool true) n o) (ax n 3 cB λr=>dL n 1 r (ad 0) λaI=>bw .neq 3 aI (ad 0) (FH s K cB (.bool true) n o) (ax n 3 cB λx=>ax n 2 cB λz=>cO z λbD=>dL n 1 x bD λbL=>bH .neq 3 bL cg λbk=>(FH s K cB bk n o)))))
def acp:cS:=λs ah h U K=>bI ah h U λa b c=>ax b 4 a λe=>cO e λf=>ax b 0 a λi=>aX s 492 [i,(ad 4096)] b c λj k l=>af (dv .not j) λm=>bu m (Cp s K a f (.bool true) k l) (ax k 1 a λo=>aX s 492 [o,(ad 4096)] k l λp q r=>af (dv .not p) λt=>bu t (Cp s K a f (.bool true) q r) (ax q 3 a λv=>cO v λw=>ax q 2 a λy=>cO y λz=>b9 z λbD=>bw .neq 3 w bD (Cp s K a f (.bool true) q r) (ax q 5 a λbk=>cO bk λbV=>bw .neq 3 bV f (Cp s K a f (.bool true) q r) (bH .gtr 3 f (ad 65536) λbO=>(Cp s K a f bO q r)))))
theorem alm{L M:X}{h:ae}{U:Nat}:bN Q s Px 477 0 [aB,a2,L,M] h U N [(0,aE)] R=Yo s aB a2 L M h U N aE R:=by kernel_rfl
theorem aoH:cT 477 acp:=cV Px
def ajq:cS:=λs ah h U K=>aX s 495 [ay,ah] h U λa b c=>K a b c
theorem aiE:cT 481 ajq:=cV []
def acq:c0:=λs ah t1 h U K=>bI ah h U λa b c=>bI t1 b c λd e f=>af (.ok (.func (.func 496) ⟨[]⟩ ⟨[a,d]⟩)) λg=>K g e f
theorem aoI:c4 482 acq:=c5 []
def NS:aa (aa Nat):=[[0,1,2,8,9,10]]
def Wc(s:al)(aC aB a2 br c7 dk:X)(h:ae)(U:Nat)(N:aP)(aE:aP)(R:aP):Prop:=cF c7 dk (lB c7 dk λb=>af (qt (.int .u64) b) λc=>bH .shr 238 c (.int .u64 1) λd=>af (qt (.int .i64) d) λe=>hw 2 h 2 aC e λg=>fh Q s (hP h U [g,aB] a2) λi j k=>cF i (ad 0) (b9 e λm=>N [aC,aB,a2,br,m,dk] j k) (N [aC,aB,a2,br,c7,e] j k)) (aE [aC,aB,a2,br,c7,dk] h U)
def Wd:gv:=λs ah t1 t2 h U K=>cO ah λa=>bC (bN Q s NS 485 0) [ah,t1,t2,a,(ad 0),a] h U [(0,λb c d=>cF (a8 b 4) (a8 b 3) (hw 2 c 2 (a8 b 0) (a8 b 4) λg=>fh Q s (hP c d [g,(a8 b 1)] (a8 b 2)) λi j k=>bH .eql 3 i (ad 0) λl=>K (.tuple ⟨[(a8 b 4),l]⟩) j k) (K (.tuple ⟨[(a8 b 4),(.bool false)]⟩) c d))] (λ_ _ _=>False)
theorem ahK{h:ae}{U:Nat}:bN Q s NS 485 0 [aC,aB,a2,br,c7,dk] h U N [(0,aE)] R=Wc s aC aB a2 br c7 dk h U N aE R:=by kernel_rfl
theorem ahL:gF 485 Wd:=gL NS
def acr:c0:=λs ah t1 h U K=>bI ah h U λa b c=>ax b 0 a λe=>aX s 242 [e,t1] b c λf g i=>K f g i
theorem aoJ:c4 486 acr:=c5 []
def aaf:c0:=λs ah t1 h U K=>bw .geq 3 ah (ad 0) (bH .leq 3 ah t1 λb=>K b h U) (K (.bool false) h U)
theorem aln:c4 492 aaf:=c5 []
def OS:aa (aa Nat):=[[0,1,4,7,8,9]]
def Xk(s:al)(aC aB aZ a6 br c7:X)(h:ae)(U:Nat)(N:aP)(aE:aP)(R:aP):Prop:=cF c7 br (dL h 1 a6 c7 λc=>bH .sub 3 aB (ad 1) λd=>aX s 492 [c,d] h U λe f g=>af (dv .not e) λi=>bu i (R [aC,aB,(.bool false),a6,br,c7] f g) (kd c7 (ad 0) (bH .sub 3 c7 (ad 1) λk=>dL f 1 aC k λm=>bw .geq 3 m c (R [aC,aB,(.bool false),a6,br,c7] f g) (b9 c7 λo=>N [aC,aB,aZ,a6,br,o] f g)) (b9 c7 λp=>N [aC,aB,aZ,a6,br,p] f g))) (aE [aC,aB,aZ,a6,br,c7] h U)
def aag:c0:=λs ah t1 h U K=>cO ah λa=>bC (bN Q s OS 493 0) [ah,t1,(.bool false),ah,a,(ad 0)] h U [(0,λb c d=>K (.bool true) c d)] (λe f g=>K (a8 e 2) f g)
theorem ajr{h:ae}{U:Nat}:bN Q s OS 493 0 [aC,aB,aZ,a6,br,c7] h U N [(0,aE)] R=Xk s aC aB aZ a6 br c7 h U N aE R:=by kernel_rfl
theorem alo:c4 493 aag:=c5 OS
def OT:aa (aa Nat):=[[0,1,2,4]]
def Xl(s:al)(aC aB a2 aZ:X)(h:ae)(U:Nat)(N:aP)(aE:aP)(R:aP):Prop:=ax h 3 aB λb=>bS h a2 λc=>b9 c λd=>dL h 1 b d λf=>cF aZ f (ax h 4 aB λj=>dL h 1 j aZ λl=>ax h 5 aB λn=>dL h 1 n aZ λp=>af (cU [(ad 0),(ad 0)] [(0,1,l),(1,1,p)]) λq=>fh Q true (hP h U [q] aC) λr t aI=>U<=aI/\af (dv .not r) λv=>bu v (R [aC,aB,a2,aZ] t aI) (b9 aZ λw=>N [aC,aB,a2,w] t aI)) (aE [aC,aB,a2,aZ] h U)
def aah:gv:=λs ah t1 t2 h U K=>ax h 3 t1 λb=>bS h t2 λc=>dL h 1 b c λe=>bC (bN Q s OT 496 0) [ah,t1,t2,e] h U [(0,λf g i=>K (.tuple ⟨[]⟩) g i)] (λj k l=>K (.tuple ⟨[]⟩) k l)
theorem ajs{h:ae}{U:Nat}:bN Q s OT 496 0 [aC,aB,a2,aZ] h U N [(0,aE)] R=Xl s aC aB a2 aZ h U N aE R:=by kernel_rfl
theorem alp:gF 496 aah:=gL OT
def fG(p:Nat × Int):aa X:=[(p.1:X),(p.2:X)]
def jU(h:ae)(U:Nat)(v:X)(n:Nat)(x:Nat->aw Int):Prop:=∃gN,v = .agg ⟨[(n:X),gN]⟩/\el h U gN fG 2 (bq n x)
def lj(h:ae)(ao aj:Nat)(v:X)(n:Nat)(x:Nat->aw Int):Prop:=∃gN,v = .agg ⟨[(n:X),gN]⟩/\eG h ao aj gN fG (bq n x)
section
variable {h ac:ae} {U Y ao aj d2 dm n:Nat} {v:X} {x:Nat->aw Int}
theorem jU.T(H:jU h U v n x)(M:aA U h ac)(L:U<=Y):jU ac Y v n x:=by obtain⟨Z,e,V⟩:=H;exact⟨Z,e,V.T M L⟩
theorem lj.is(H:lj h ao aj v n x):jU h aj v n x:=by obtain⟨M,e,L⟩:=H;exact⟨M,e,cr.o (λ_=>rfl) L.rd⟩
theorem lj.T(H:lj h ao aj v n x)(L:∀b,ao<=b->b<aj->u ac b=u h b)(Z:d2<=ao)(M:aj<=dm):lj ac d2 dm v n x:=by obtain⟨V,e,aq⟩:=H;exact⟨V,e,aq.T L Z M⟩
theorem jU.ext{y:Nat->aw Int}(H:jU h U v n x)(e:∀i,i<n->x i=y i):jU h U v n y:=by obtain⟨V,L,M⟩:=H;exact⟨V,L,by rw[<-x8 e];exact M⟩
theorem lj.ext{y:Nat->aw Int}(H:lj h ao aj v n x)(e:∀i,i<n->x i=y i):lj h ao aj v n y:=by obtain⟨V,L,M⟩:=H;exact⟨V,L,by rw[<-x8 e];exact M⟩
end
theorem wq{n k:Nat}{f:Nat->aw Int}{x:Int}(h:(bq n f)[i]? = some (k,x)):k<n/\f k=some x:=jS.1 ab
theorem u2{n:Nat}{f:Nat->aw Int}{x:Int}(h:(bq n f)[i]? = some (a,x))(ac:(bq n f)[j]? = some (b,y))(L:i<j):a<b:=by
 obtain⟨V,aW⟩:=hn.1 h;obtain⟨M,Z⟩:=hn.1 ac;have:=xK.1 (yh n f) i j V M L
 grind
theorem ajt{n m:Int}{h:ae}{U:Nat}:aH Q s 384 [(n:X),(m:X)] h U (fr (.bool (lv n m)) U h):=by
 refine alf ?_;unfold Z7;refine aD ?_;refine⟨λM=>?_,λM=>by rw[pA J];exact⟨rfl,rfl,rfl⟩⟩
 by_cases L:m<n
 ·rw[gP L,pA J];exact⟨rfl,rfl,rfl⟩
 ·rw[hD L,li J];exact⟨rfl,rfl,rfl⟩
def XiJ(I:Nat->ae->Nat->Prop)(v qW:X)(n:Nat)(m:Nat)(aF:aa X)(ac:ae)(Y:Nat):Prop:=∃i,m=n-i/\i<=n/\aF=[v,qW,.int .i64 0,(n:X),(i:X)]/\I i ac Y
theorem avp{l:aa (Nat × Int)}{v:X}{h:ae}{U:Nat}{I:Nat->ae->Nat->Prop}(bA:l.length<1000000)(Z:I 0 h U)(aG:∀i h U,I i h U->el h U v fG 2 l)(bE:∀i x h U,l[i]? = some x->I i h U->aH Q s er (.agg ⟨fG x⟩::cs) h U (λr ac Y=>r = .bool false/\I (i+1) ac Y)):
  aH Q s 385 [v,.func (.func er) ⟨[]⟩ ⟨cs⟩] h U (λr ac Y=>r = .bool false/\I l.length ac Y):=by
 refine ahQ ?_;refine(ah7 (K:=λr ac Y=>r = .int .i64 (-1)/\I l.length ac Y) ?_).mono ?_
 ·obtain⟨a,cap,rfl,_⟩:=id (aG 0 h U Z);unfold Ww;refine aD ?_;refine bC.mk (XiJ I (.slice a l.length cap) (.func (.func er) ⟨[]⟩ ⟨cs⟩) l.length) l.length ⟨0,J,J,rfl,Z⟩ ?_;rintro _ _ h1 a5 ⟨i,rfl,aj,rfl,L⟩;rw[ah1];unfold Wl;refine aD ?_;refine⟨λct=>?_,λeM=>?_⟩
  ·obtain⟨x,aY⟩:=dR   J;obtain⟨b,o,aS,ro,tP,kZ,aO,aW,a9,M⟩:=(aG i h1 a5 L).ld (λ_=>rfl) aY;cases aW;refine cQ @a9 @M ?_;refine(bE i x h1 a5 aY L).mono ?_;rintro _ ap bX ⟨rfl,V⟩;refine bh (cv (J:i<1000000000000)) ?_;exact⟨l.length-(i+1),J,i+1,rfl,J,rfl,V⟩
  ·have:i=l.length:=J
   subst this;exact L
 ·rintro _ ap bX ⟨rfl,L⟩;refine aD ?_;exact⟨rfl,L⟩
theorem aju{x:Nat × Int}{last:Int}{n L:Nat}{Z:X}{h:ae}{U:Nat}(h1:last<(x.1:Int))(ap:x.1<n)(M:u h pl=some (.cells [(last:X)] false))(aG:u h L=some (.cells [(n:X),Z] ro))(eS:pl≠L)(mn:pl<U)(V:L<U):
  aH Q s 386 [.agg ⟨fG x⟩,bf pl,bf L] h U (λr ac Y=>r = .bool false/\u ac pl=some (.cells [(x.1:X)] false)/\(∀d,d<U->d≠pl->u ac d=u h d)/\U<=Y):=by
 refine alg ?_;unfold Z8 fG;simp(disch:=omega)only[bl,M,aG,seval]
 grind
theorem wd{n:Nat}{v:X}{x:Nat->aw Int}{h:ae}{U:Nat}(aG:jU h U v n x)(bv:n<=4096):aH Q s 312 [v] h U (dJ (.bool true) U h):=by
 refine aoz ?_;obtain⟨gN,rfl,aq⟩:=aG;obtain⟨a,cap,rfl,a1⟩:=id aq;unfold ack;refine aD ?_;refine ajt.mono ?_;rintro _ _ _ ⟨rfl,rfl,rfl⟩;rw[li J];refine aD ?_;have gz:=me n x;refine(avp (l:=bq n x) (I:=λi ac Y=>aA U h ac/\U+2<=Y/\u ac U=some (.cells [(n:X),.slice a (bq n x).length cap] false)/\∃last:Int,u ac (U+1)=some (.cells [(last:X)] false)/\∀(j k:Nat) (y:Int),(bq n x)[j]? = some (k,y)->i<=j->last<(k:Int)) (by omega) ?_ ?_ ?_).mono ?_
 ·exact⟨aN,J,ab,-1,ab,J⟩
 ·rintro i h1 a5 ⟨M,L,_⟩;exact aq.T M J
 ·rintro i ⟨k,y⟩ h1 a5 aY ⟨M,L,a9,last,V,ct⟩;refine(aju ab (wq aY).1 V a9 J J J).mono ?_;rintro _ ap bX ⟨rfl,Z,mS,fg⟩;refine⟨rfl,aN,J,ab,k,Z,λj di qU bZ Mb=>?_⟩;have:=u2 aY bZ J;omega
 ·rintro _ ap bX ⟨rfl,M,L,_⟩;refine aD ?_;exact⟨rfl,M,J⟩
theorem J7{n:Nat}{v:X}{x:Nat->aw Int}{h:ae}{U:Nat}(aG:jU h U v n x)(bv:n<=4096):aH Q s 447 [v] h U (dJ v U h):=by
 refine asF ?_;have L:=aG;obtain⟨gN,rfl,aq⟩:=aG;obtain⟨a,cap,rfl,a1⟩:=id aq;unfold aeI;refine aD ?_;have bT:∀{o a0},aA U h (F (F h U o) (U+1) a0):=aN
 refine(wd (L.T bT J) bv).mono ?_;rintro _ h1 a5 ⟨rfl,M,dO⟩;have V:=M U J;rw[ar J,aT]at V;have Z:=M (U+1) J;rw[aT]at Z;refine cQ @V @Z ?_;exact⟨rfl,aN,J⟩
end Go.Proofs.YthlhhajnbgjfmaaGreat
