/- Parts of the proof: HwFn4: each statement bears its own conditions. -/
import Derived.Test.YthlhhajnbgjfmaaGreatRpHwFn3
namespace Go.Proofs.YthlhhajnbgjfmaaGreat
open Go Go.Ax
set_option linter.all false
set_option maxHeartbeats 1000000
set_option maxRecDepth 1000000
variable {s:al} {ai:aa GE} {c:Nat->X} {i:Nat} {aD:X} {aL R N:aP} {aC aZ ah a2 bv:X} {b:Nat} {src len:Int} {v1 v2 v3 v4 cr fX:X} {cs:aa X} {P:Nat->Prop} {A B:aa Int} {t1:X} {p:aa GE} {K:bN} {cQ ba k1:X} {j:Nat} {g:GE} {bR:aa Int} {iT bA cF:X} {r a C:Nat} {bg bM:aw Addr} {low:Int} {jf kd jV dd:X} {mA:Int} {a3:X} {uz:Nat} {bG:al} {b3:Nat} {li:aw Nat} {st:Nat} {aB dL d8 fM:aw Nat} {aF bp:X} {m:Nat} {lim:Int} {pF:Nat->Prop} {dK dr jF lU:aa Int} {gw xQ hj:Nat} {jU iO re r6 qj oK r7 qk rf rh r8 qh ql oL lG qm r9 qn oM:X} {H:Nat} {y eF:Int} {ki n3 eH f1 t3 fl t2:X} {I3 a5 c2 pl:Nat} {E:aP} {eA:Nat}
theorem aae{k:Int}{h:ae}{U:Nat}:aE Q s 220 [(k:X)] h U (fs (.bool (lF (k-1) 7)) U h):=by
 refine acj ?_;unfold RH;refine aG ?_;refine⟨λM=>?_,λM=>by rw[pW J];exact⟨rfl,rfl,rfl⟩⟩
 by_cases L:8<k
 ·rw[gY L,pW J];exact⟨rfl,rfl,rfl⟩
 ·rw[hA L,lu J];exact⟨rfl,rfl,rfl⟩
theorem acs{k:Int}{h:ae}{U:Nat}:aE Q s 292 [(k:X)] h U (fs (.bool (lF (k-1) 7)) U h):=by
 refine av2 ?_;unfold agl;refine aG ?_;refine⟨λM=>?_,λM=>by rw[pW J];exact⟨rfl,rfl,rfl⟩⟩
 by_cases L:8<k
 ·rw[gY L,pW J];exact⟨rfl,rfl,rfl⟩
 ·rw[hA L,lu J];exact⟨rfl,rfl,rfl⟩
theorem u9{n k:Nat}{h:ae}{U:Nat}(Z:n<=4096)(hk:0<k)(V:k<=8)(ag:i<=100000):aE Q s 126 [(n:X),(k:X),(i:X)] h U (fs (.int .i64 (da n k i:Int)) U h):=by
 refine avV ?_;refine avY ?_;unfold agh;refine aG ?_;refine⟨λ_=>⟨λ_=>?_,λh=>absurd h J⟩,λh=>absurd h J⟩;refine aae.mono ?_;rintro _ _ _ ⟨rfl,rfl,rfl⟩;rw[lu J];have M:min (max (i:Int) 0) (k:Int)=((min i k:Nat):Int):=J
 have hm:min i k*n<=8*4096:=sA J Z;have aK:IntKind.wrap .i64 (((min i k:Nat):Int)*(n:Int))=((min i k*n:Nat):Int):=by rw[show((min i k:Nat):Int)*(n:Int)=((min i k*n:Nat):Int) by omega];exact jM J J
 have bh:min i k*n / k<=min i k*n:=Nat.div_le_self _ _;have L:bin Q .quo 3 (((min i k*n:Nat):X)) (k:X) = .ok (.int .i64 (da n k i:Int)):=by rw[Ar J,show((min i k*n:Nat):Int).tdiv (k:Int)=((min i k*n / k:Nat):Int)from rfl];unfold da;generalize min i k*n / k=q at bh ⊢;rw[jM J J]
 refine ls @M @yk @aK @L ?_;exact⟨rfl,rfl,rfl⟩
theorem Qz{c:Nat}{h:ae}{U:Nat}(bc:0<r)(M:r<=8)(V:0<c)(L:c<=8)(ag:i<r)(Z:j<c):aE Q s 202 [(r:X),(c:X),(i:X),(j:X)] h U (fs (.bool true) U h):=by refine avW ?_;refine acs.mono ?_;rintro _ _ _ ⟨rfl,rfl,rfl⟩;rw[lu J];refine aG ?_;refine acs.mono ?_;rintro _ _ _ ⟨rfl,rfl,rfl⟩;rw[lu J];refine aG ?_;exact⟨λ_=>⟨λ_=>⟨λ_=>⟨ab,rfl,rfl⟩,λh=>absurd h J⟩,λh=>absurd h J⟩,λh=>absurd h J⟩
theorem CR{n k:Nat}{h:ae}{U:Nat}(M:n<=4096)(V:0<k)(L:k<=8)(ag:i<=10000):aE Q s 204 [(n:X),(k:X),(i:X)] h U (dI (.agg ⟨[.int .i64 (da n k i:Int),.int .i64 (da n k (i+1):Int)]⟩) U h):=by refine aoA ?_;unfold acg;refine aG ?_;refine(u9 M V L J).mono ?_;rintro _ _ _ ⟨rfl,rfl,rfl⟩;refine bl (cD (J:i<1000000000000)) ?_;refine(u9 M V L J).mono ?_;rintro _ _ _ ⟨rfl,rfl,rfl⟩;refine aG ?_;exact⟨rfl,aM,J⟩
theorem Xy{n:Nat}{h:ae}{U:Nat}(Z:a<=b)(V:b<=n)(bw:n<=4096):aE Q s 294 [.agg ⟨[(a:X),(b:X)]⟩,(n:X)] h U (dI (.tuple ⟨[(a:X),((b-a:Nat):X)]⟩) U h):=by
 refine alB ?_;unfold aaa;have L:∀{o},aA U h (T h U o):=aM
 simp(disch:=omega)only[bk,show max (a:Int) 0=(a:Int) by omega,show min (b:Int) (n:Int)=(b:Int) by omega,seval];refine⟨λM=>?_,λM=>?_⟩
 ·have:b-a=0:=J
  rw[this];exact⟨rfl,L,J⟩
 ·rw[show IntKind.wrap .i64 ((b:Int)-(a:Int))=((b-a:Nat):Int) by rw[show(b:Int)-(a:Int)=((b-a:Nat):Int) by omega];exact jM J J];exact⟨rfl,L,J⟩
def kU{az:Type}(h:ae)(v:X)(enc:az->aa X)(k:Nat)(l:aa az)(P:Nat->Prop):Prop :=
 (l=[]/\v = .slice none 0 0)\/∃d,P d/\v = .slice (some ⟨d,0,some k⟩) l.length l.length/\u h d=some (.cells (a7 enc l) false)
theorem kU.hE{az:Type}{h:ae}{v:X}{enc:az->aa X}{k:Nat}{l:aa az}(H:kU h v enc k l P):∃L,fA h enc k v l L/\∀d,L=some d->P d:=by
 rcases H with⟨rfl,rfl⟩|⟨d,M,rfl,V⟩
 ·exact⟨none,.nil,λd e=>by cases e⟩
 ·exact⟨some d,.own V,λd e=>by cases e;exact M⟩
theorem kU.F{az:Type}{h ac:ae}{v:X}{enc:az->aa X}{k:Nat}{l:aa az}(H:kU h v enc k l P)(M:∀d,P d->u ac d=u h d/\pF d):kU ac v enc k l pF:=by
 rcases H with e|⟨d,L,e,V⟩
 ·exact .inl e
 ·exact .inr ⟨d,(M d L).2,e,ab⟩
theorem kU.of{az:Type}{h:ae}{v:X}{enc:az->aa X}{k ap ag:Nat}{l:aa az}(H:eb h v enc k l ap ag):kU h v enc k l λd=>ap<=d/\d<ag:=by
 rcases H with e|⟨d,L,M,e,V⟩
 ·exact .inl e
 ·exact .inr ⟨d,⟨L,M⟩,e,V⟩
theorem kU.at_{az:Type}{h:ae}{v:X}{enc:az->aa X}{k ap ag:Nat}{l:aa az}(H:kU h v enc k l P)(M:∀d,P d->ap<=d/\d<ag):eb h v enc k l ap ag:=by
 rcases H with e|⟨d,V,e,L⟩
 ·exact .inl e
 ·exact .inr ⟨d,ab,ab,e,L⟩
theorem kU.form{az:Type}{h:ae}{v:X}{enc:az->aa X}{k:Nat}{l:aa az}(H:kU h v enc k l P):∃a c,v = .slice a l.length c:=by
 rcases H with⟨rfl,rfl⟩|⟨d,_,rfl,_⟩
 ·exact⟨_,_,rfl⟩
 grind
theorem KN{az:Type}{enc:az->aa X}{k:Nat}(hk:∀x,(enc x).length=k)(L:∀x,d4 (enc x)=true)(xo:0<k){h:ae}{U:Nat}{v:X}{l:aa az}(H:kU h v enc k l P)(V:pF U){db M:Nat}(x:az)(ao:u h b3=some (.cells cs bG))(bd:(cs.drop db).take k=enc x)(Z:(l.length+1)*k<=1000000){K:X->ae->Nat->Prop}(h8:∀dX ac,kU ac dX enc k (l++[x]) pF->(∀c,c≠U->¬P c->u ac c=u h c)->K dX ac (U+1)):dG (dO (dM k h U v (.slice (some ⟨b3,db,li⟩) 1 M))) K:=by obtain⟨aQ,gS,aW⟩:=H.hE;refine yl hk L xo gS x ao bd Z λac bw bK=>h8 _ _ (.inr ⟨U,V,ab,bw⟩) ab
def aAn(cr Il a H b W:Nat)(ai:aa GE)(ap:Nat)(au:ae)(m:Nat)(aF:aa X)(ac:ae)(Y:Nat):Prop :=
 ∃(i:Nat) (o:X),m=H-i/\i<=H/\aF=[bf cr,bf Il,(a:X),(H:X),(b:X),(W:X),o,(H:X),(i:X)]/\eb ac o cR 3 (l1 ai a i b W) ap Y/\aA ap au ac/\ap<=Y
def zm(l:aa GE)(i b W:Nat):aa GE:=(l.filter (yY b W)).map λg=>⟨i,g.t-b,g.w⟩
def S4(cr Il a H b W i:Nat)(dq:X)(y7 l:aa GE)(ap dP f2:Nat)(au bY:ae)(m:Nat)(aF:aa X)(ac:ae)(Y:Nat):Prop :=
 ∃(k:Nat) (o:X),m=l.length-k/\k<=l.length/\aF=[bf cr,bf Il,(a:X),(H:X),(b:X),(W:X),o,(i:X),(H:X),(i:X),dq,(l.length:X),(k:X)] /\
  kU ac o cR 3 (y7++zm (l.take k) i b W) (λd=>ap<=d/\d<Y/\¬(dP<=d/\d<f2))/\(∀d,dP<=d->d<f2->u ac d=u bY d)/\aA ap au ac/\f2<=Y
theorem asX(l:aa GE)(i b W:Nat):(zm l i b W).length<=l.length:=by unfold zm;grind
theorem aaf{l:aa GE}{k W:Nat}(h:l[k]? = some g):zm (l.take (k+1)) i b W=zm (l.take k) i b W++(if yY b W g=true then[⟨i,g.t-b,g.w⟩]else[]):=by
 unfold zm;rw[gW,h,sv,iU]
 grind
theorem asY{c ea b6:Nat}{v:X}{h:ae}{U:Nat}(M:hh r c ai)(aI:kq h U v r c ai)(haa:a<=ea)(har:ea<=r)(y3:b<=b6)(oN:b6<=c):
  aE Q s 203 [v,.agg ⟨[(a:X),(ea:X)]⟩,.agg ⟨[(b:X),(b6:X)]⟩] h U (RK (ea-a) (b6-b) (l1 ai a (ea-a) b (b6-b)) U h):=by
 refine avX ?_;have ih:=aI;obtain⟨fw,aB,cap,v2,v3,rfl,aW,aY,qA,pE⟩:=id aI;obtain⟨a2,c2,rfl⟩:=qA.form;obtain⟨a3,ci,rfl⟩:=pE.form;have bc:=M.bc;have a1:=M.a1;have bo:=M.len;have b4:∀{o aX ll gn},aA U h (T (T (T (T h U o) (U+1) aX) (U+1+1) ll) (U+1+1+1) gn):=aM
 unfold agf;refine aG ?_;refine(Gd M (ih.F b4 J)).mono ?_;rintro _ h1 a5 ⟨rfl,e5,fi⟩;have cH:=e5 U J;rw[aq J,aq J,aq J,aR]at cH;have bP:=e5 (U+1) J;rw[aq J,aq J,aR]at bP;have g2:=e5 (U+1+1) J;rw[aq J,aR]at g2;have dp:=e5 (U+1+1+1) J;rw[aR]at dp;refine cN @cH @bP ?_;refine(Xy haa har bc).mono ?_;rintro _ ao bQ ⟨rfl,dD,f5⟩;have kE:=dD U J;rw[aR]at kE;have fY:=dD (U+1+1) J;rw[aq J,g2]at fY;have lP:=dD (U+1+1+1) J;rw[aq J,dp]at lP;refine cN @kE @fY ?_;refine(Xy y3 oN a1).mono ?_;rintro _ aT bT ⟨rfl,eY,ga⟩;have aL:=(eY U J).trans kE;have cc:=(eY (U+1+1+1) J).trans lP;refine aG ?_;generalize fu:ea-a=H;generalize ip:b6-b=W;have hHr:a+H<=r:=J
 have hWc:b+W<=c:=J
 have fO:∀i,i<=H->(l1 ai a i b W).length<=120:=λi ag=>(KM M J hWc).len;refine bE.mk (aAn U (U+1+1+1) a H b W ai bT aT) H ⟨0,_,rfl,J,rfl,by rw[av5];exact .inl ab,aM,J⟩ ?_;rintro _ _ a9 dP ⟨i,o,rfl,ag,rfl,dV,g8,g5⟩;rw[asF];unfold acf;have hR:=(g8 U J).trans aL;have hb:=(g8 (U+1+1+1) J).trans cc;have g1:aA U h a9:=aM
 refine aG ?_;refine⟨λcb=>?_,λeG=>?_⟩
 ·have cT:IntKind.wrap .i64 ((a:Int)+(i:Int))=((a+i:Nat):Int):=by rw[show(a:Int)+(i:Int)=((a+i:Nat):Int) by omega];exact jM J J
  refine cN @hR @cT ?_;refine(asV M (ih.F g1 J) J).mono ?_;rintro rw bY f2 ⟨ef,Z,oB⟩;have Ij:=Qy ai (a+i);obtain⟨lT,bZ,rfl⟩:∃lT bZ,rw = .slice lT (eP ai (a+i)).length bZ:=by
   rcases ef with⟨aU,aK⟩|⟨b,_,_,e,_⟩
   all_goals grind
  have r5:kU bY o cR 3 (l1 ai a i b W) (λd=>bT<=d/\d<f2/\¬(dP<=d/\d<f2)):=(kU.of dV).F λd L=>⟨Z d L.2,L.1,J,J⟩
  refine aG ?_;refine bE.mk (S4 U (U+1+1+1) a H b W i (.slice lT (eP ai (a+i)).length bZ) (l1 ai a i b W) (eP ai (a+i)) bT dP f2 aT bY) (eP ai (a+i)).length ⟨0,_,J,J,rfl,by rw[sz];unfold zm;rw[List.filter_nil,z7,hz];exact r5,ab,aM,J⟩ ?_;generalize rS:eP ai (a+i)=l at *
  generalize TA:l1 ai a i b W=y7 at *
  rintro _ _ cy n6 ⟨k,nY,rfl,hk,rfl,xz,hr6,hX,kN⟩;rw[asE];unfold ace;refine aG ?_;refine⟨λvt=>?_,λS5=>?_⟩
  ·obtain⟨g,V⟩:=dH (J:k<l.length);have vG:g.t<c:=M.mz g (Px (show g∈eP ai (a+i) by grind)).1;have lh:=asX (l.take k) i b W;rw[oc]at lh;have fin:∀{aX:X} {eD:ae} {n7:Nat},kU eD aX cR 3 (y7++zm (l.take (k+1)) i b W) (λd=>bT<=d/\d<n7/\¬(dP<=d/\d<f2))->(∀d,d<n6->(bT<=d->dP<=d/\d<f2)->u eD d=u cy d)->n6<=n7 ->
     ∃bD,bD<l.length-k/\S4 U (U+1+1+1) a H b W i (.slice lT l.length bZ) y7 l bT dP f2 aT bY bD [bf U,.pointer (some ⟨U+1+1+1,0,none⟩),(a:X),(H:X),(b:X),(W:X),aX,(i:X),(H:X),(i:X),.slice lT l.length bZ,(l.length:X),((k+1:Nat):X)] eD n7:=λ{aX eD n7} tl bK dv =>
    ⟨l.length-(k+1),J,k+1,aX,rfl,J,rfl,tl,λd h1 ao=>ab,λd L=>by rw[bK d J (λh=>absurd h J)];exact hX d L,J⟩
   have skip:yY b W g=false->∀{eD:ae},(∀d,d<n6->u eD d=u cy d)->∃bD,bD<l.length-k/\S4 U (U+1+1+1) a H b W i (.slice lT l.length bZ) y7 l bT dP f2 aT bY bD [bf U,.pointer (some ⟨U+1+1+1,0,none⟩),(a:X),(H:X),(b:X),(W:X),nY,(i:X),(H:X),(i:X),.slice lT l.length bZ,(l.length:X),((k+1:Nat):X)] eD (n6+1):=λag {eD} bK =>
    fin (by rw[aaf V,if_neg ab,hz];exact xz.F λd L=>⟨bK d L.2.1,L.1,J,L.2.2⟩) (λd L _=>bK d L) J
   rcases ef with⟨aU,_⟩|⟨tn,g6,eR,e,hrb⟩
   ·rw[aU]at V;cases V
   cases e;have aAo:=(hr6 tn g6 eR).trans hrb;simp(disch:=omega)only[bk,aAo,Ew (enc:=Hh) (k:=2) (λ_=>rfl) V,Hh,seval];have fY:∀{o aX:fU} {d:Nat},d<n6->u (T (T cy n6 o) n6 aX) d=u cy d:=λL=>ab
   unfold Qt;refine⟨λh1=>?_,λh1=>?_⟩
   ·have c8:IntKind.wrap .i64 ((g.t:Int)-(b:Int))=((g.t-b:Nat):Int):=by rw[show(g.t:Int)-(b:Int)=((g.t-b:Nat):Int) by omega];exact jM J J
    refine bl @c8 ?_;refine⟨λao=>?_,λao=>?_⟩
    ·refine KN  (k:=3) (pF:=λd=>bT<=d/\d<n6+1+1+1/\¬(dP<=d/\d<f2)) (λ_=>rfl) (λ_=>rfl) J (xz.F (pF:=λd=>bT<=d/\d<n6/\¬(dP<=d/\d<f2)) λd L=>⟨ab,L.1,L.2.1,L.2.2⟩) ⟨J,J,J⟩ (⟨i,g.t-b,g.w⟩:GE) (aR _ _ _) rfl ab λdX mc tl hf8=>?_;refine bl (cD (J:k<1000000000000)) ?_;refine fin ?_ (λd aT a9=>?_) J
     ·rw[aaf V,if_pos (show yY b W g=true from gY J),<-kl];exact tl
     grind
    ·refine bl (cD (J:k<1000000000000)) ?_;exact skip (hA J) λd L=>fY L
   ·refine bl (cD (J:k<1000000000000)) ?_;exact skip (hA J) λd L=>fY L
  ·have:k=l.length:=J
   subst this;rw[ic]at xz;refine bl (cD (J:i<1000000000000)) ?_;refine⟨H-(i+1),J,i+1,_,rfl,J,rfl,?_,hX,J⟩;rw[alD M.up,TA];unfold S3;rw[rS];exact xz.at_ λd L=>⟨L.1,L.2.1⟩
 ·have:i=H:=J
  subst this;have pu:fj a9 dP o cR (l1 ai a i b W):=by
   rcases dV with⟨aU,aK⟩|⟨d,h1,ao,e,aY⟩
   ·exact⟨none,0,ab,λeh=>absurd aU eh⟩
   ·exact⟨_,_,e,λ_=>⟨d,some 3,false,[],ao,rfl,ab⟩⟩
  refine(Py pu (KM M hHr hWc)).mono ?_;rintro aC3 bY f2 ⟨ef,Z,oB⟩;obtain⟨tn,rsp,ahK,cz,cE,cm,di,ee,ev,rfl⟩:=ef.is.form;have hw:=(Z (U+1+1+1) J).trans hb;refine bl @hw ?_;have nz:aA U h bY:=g1.trans Z J;exact⟨ef.F (λd h1 ao=>aq J) J (cC _),nz.set J,J⟩
theorem av6{n R:Nat}{v:X}{h:ae}{U:Nat}(M:hh n n ai)(aI:kq h U v n n ai)(ef:0<R)(Im:R<=8)(d0:0<C)(L:C<=8)(ag:i<R)(b5:j<C):
  aE Q s 123 [v,(R:X),(C:X),(i:X),(j:X)] h U (RK (da n R (i+1)-da n R i) (da n C (j+1)-da n C j) (l1 ai (da n R i) (da n R (i+1)-da n R i) (da n C j) (da n C (j+1)-da n C j)) U h):=by
 refine ayz ?_;have ih:=aI;obtain⟨fw,aB,cap,v2,v3,rfl,aW,aY,qA,pE⟩:=id aI;obtain⟨a2,c2,rfl⟩:=qA.form;obtain⟨a3,ci,rfl⟩:=pE.form;have bc:=M.bc;have b4:∀{o aX},aA U h (T (T h U o) (U+1) aX):=aM
 unfold ahG;refine aG ?_;refine(J2 M (ih.F b4 J)).mono ?_;rintro _ h1 a5 ⟨rfl,Z,fi⟩;have cH:=Z U J;rw[aq J,aR]at cH;have bP:=Z (U+1) J;rw[aR]at bP;refine aG ?_;refine(Qz ef Im d0 L ag b5).mono ?_;rintro _ _ _ ⟨rfl,rfl,rfl⟩;refine aG ?_;unfold RF;refine bl @cH ?_;refine(CR   bc ef Im J).mono ?_;rintro _ ao bQ ⟨rfl,dD,V⟩;have kE:=(dD U J).trans cH;have fL:=(dD (U+1) J).trans bP;refine⟨V,?_⟩;refine cN @kE @cH ?_;refine(CR   bc d0 L J).mono ?_;rintro _ aT bT ⟨rfl,eY,ga⟩;have aL:=(eY U J).trans kE;have aU:=(eY (U+1) J).trans fL;refine⟨ga,?_⟩;have fC:aA U h aT:=aM
 refine hV @aL @kE @cH ?_;refine(asY  M (ih.F fC J) (uY J) (tE ef _) (uY J) (tE d0 _)).mono ?_;rintro aC3 a9 dP ⟨hRr,g8,g5⟩;refine⟨g5,?_⟩;obtain⟨tn,rsp,ahK,cz,cE,cm,di,ee,ev,rfl⟩:=hRr.is.form;have eE:=(g8 (U+1) J).trans aU;refine bl @eE ?_;exact⟨hRr.F ab J J,aM,J⟩
def aAp(p r:Nat)(ai:aa GE)(ap:Nat)(au:ae)(m:Nat)(aF:aa X)(ac:ae)(Y:Nat):Prop :=
 ∃(i:Nat) (o:X),m=r-i/\i<=r/\aF=[bf p,o,(r:X),(i:X)]/\eb ac o cR 3 (ai.take (dF ai i)) ap Y/\aA ap au ac/\ap<=Y
def aAq(p r i n:Nat)(dq fw:X)(ai:aa GE)(ap:Nat)(au:ae)(m:Nat)(aF:aa X)(ac:ae)(Y:Nat):Prop :=
 ∃(k:Nat) (o:X),m=n-k/\k<=n/\aF=[bf p,o,(i:X),fw,(r:X),(i:X),dq,(n:X),(k:X)]/\eb ac o cR 3 (ai.take (dF ai i+k)) ap Y/\aA ap au ac/\ap<=Y
def ayH(ai:aa GE)(U:Nat)(h:ae):bN:=λres ac Y=>eb ac res cR 3 ai U Y/\aA U h ac/\U<=Y
theorem W3{c:Nat}{v:X}{h:ae}{U:Nat}(M:hh r c ai)(aI:kq h U v r c ai):aE Q s 206 [v] h U (ayH ai U h):=by
 refine ajQ ?_;have ih:=aI;obtain⟨fw,Ul,mm,a2,m2,c2,a3,m3,ci,rfl⟩:=aI.form;have bc:=M.bc;have bo:=M.len;have b4:∀{o},aA U h (T h U o):=aM
 unfold Yy;refine aG ?_;refine(Gd M (ih.F b4 J)).mono ?_;rintro _ h1 a5 ⟨rfl,e5,fi⟩;have bP:=e5 U J;rw[aR]at bP;refine bl @bP ?_;refine bE.mk (aAp U r ai a5 _) r ⟨0,_,J,J,rfl,by rw[Lt,sz];exact .inl ab,aA.refl _ _,J⟩ ?_;rintro _ _ aT bT ⟨i,o,rfl,ag,rfl,dV,eY,ga⟩;have dp:=eY U J;rw[aR]at dp;have fC:aA U h aT:=aM
 rw[ajb];unfold W2;refine aG ?_;refine⟨λcb=>?_,λeG=>?_⟩
 ·have cb:i<r:=J
  refine bl @dp ?_;refine(aac M (ih.F fC (cC _)) J cb).mono ?_;rintro _ a9 dP ⟨c8,iS,rfl,Ce,Cf,Z,g5⟩;obtain⟨h7,cE,rfl,_⟩:=id Ce;obtain⟨hM,cm,rfl,_⟩:=id Cf;have tk:=Dd (eP ai i);have v9:=GC (eP ai i);rw[tk]at Ce;rw[v9]at Cf;rw[tk,v9];have Ij:=Gc M.up i;have jc:=Am ai (J:i<=i+1);have aCq:=vg ai (i+1);refine aG ?_;refine bE.mk (aAq U r i (eP ai i).length (.slice h7 (eP ai i).length cE) (.slice hM (eP ai i).length cm) ai a5 (T h1 U _)) (eP ai i).length ⟨0,_,J,J,rfl,dV.F (λd iD h7=>Z d h7) g5,eY.trans Z ga,J⟩ ?_;rintro _ _ bY f2 ⟨k,o,rfl,hk,rfl,r5,V,oB⟩;rw[aja];unfold W1;refine aG ?_;refine⟨λvt=>?_,λS5=>?_⟩
  ·obtain⟨g,L⟩:=dH J;obtain⟨b3,db,kX,xt,zk,eR,rfl,jy,aAr⟩:=Ce.at (KK L)
   obtain⟨d8,gn,kZ,Ik,xx,mK,rfl,s2,aAs⟩:=Cf.at (KL L)
   have hgf:g.f=i:=(Px (kk L)).2;have l5:ai[dF ai i+k]? = some g:=by rw[<-Pw M.up J];omega
   have aK:u bY b3=some (.cells zk xt):=by rw[<-jy,V b3 J,Z b3 J,eY b3 J]
   have cc:u bY d8=some (.cells xx Ik):=by rw[<-s2,V d8 J,Z d8 J,eY d8 J]
   simp(disch:=omega)only[bk,aK,aAr k _ (KK L),cc,aAs k _ (KL L),seval];refine mu (enc:=cR)  (λ_=>rfl) (λ_=>rfl) J (r5.F ab J) J (⟨i,g.t,g.w⟩:GE) (aR _ _ _) rfl ab λdX cy xz hX=>?_;refine bl (cD (J:k<1000000000000)) ?_;refine⟨(eP ai i).length-(k+1),J,k+1,_,rfl,J,rfl,?_,λd bh=>?_,J⟩
   ·rw[show dF ai i+(k+1)=dF ai i+k+1 by omega,gW,l5];have rk:(⟨i,g.t,g.w⟩:GE)=g:=by rw[<-hgf]
    rw[rk]at xz;exact xz
   ·rw[hX d bh,aq J];exact V d bh
  ·have:k=(eP ai i).length:=J
   subst this;rw[Ij,show dF ai i+(dF ai (i+1)-dF ai i)=dF ai (i+1) by omega]at r5;refine bl (cD (J:i<1000000000000)) ?_;exact⟨r-(i+1),J,i+1,_,rfl,J,rfl,r5,V,oB⟩
 ·have:i=r:=J
  subst this;rw[agp M,ic]at dV;refine⟨?_,fC,J⟩;rcases dV with e|⟨b,h1,ao,aT⟩
  ·exact .inl e
  ·exact .inr ⟨b,J,ao,aT⟩
def AI(ai fp:aa GE):Prop:=fp.Perm (ai.map pX)
theorem alE{c:Nat}(M:hh r c ai):(ai.map pX).Pairwise λx y=>¬(x.f=y.f/\x.t=y.t):=by rw[wl];refine List.Pairwise.imp (λ{x y} h=>?_) M.up;unfold nn at h;show ¬(x.t=y.t/\x.f=y.f);omega
theorem asZ{c:Nat}{L:aa GE}(M:hh r c ai)(V:AI ai L)(ar:L.Pairwise λx y=>¬qY y x<0):hh c r L where
 up:=by have bh:L.Pairwise λx y=>¬(x.f=y.f/\x.t=y.t):=(List.Perm.pairwise_iff J V).2 (alE M);refine List.Pairwise.imp₂ (λ{x y} h1 ao=>?_) ar bh;rw[KI]at h1;unfold nn at h1 ⊢;omega
 rows:=λg aY=>by obtain⟨x,Z,rfl⟩:=f3.1 (V.mem_iff.1 aY);exact M.mz x Z
 mz:=λg aY=>by obtain⟨x,Z,rfl⟩:=f3.1 (V.mem_iff.1 aY);exact M.rows x Z
 bc:=M.a1
 a1:=M.bc
 len:=by rw[V.length_eq,gX];exact M.len
def q1(ai:aa GE)(i:Nat):aa GE:=(ai.take i).map pX++ai.drop i
theorem aag:(q1 ai i).length=ai.length:=by unfold q1;grind
theorem aoM(h:i<=ai.length):(q1 ai i)[i]? = ai[i]?:=by
 unfold q1
 grind
theorem aoN(h:ai[i]? = some g):(q1 ai i).set i (pX g)=q1 ai (i+1):=by
 have ag:=(fb.1 h).1;have L:((ai.take i).map pX).length=i:=ab
 unfold q1;rw[Jo _ _ J,L,CG,gW,h,iU,kl]
 congr 1
 rw[zT ag];rfl
def TuJ(cr cQ ap ag:Nat)(w:X)(ai:aa GE)(au:ae)(a0:Nat)(m:Nat)(aF:aa X)(ac:ae)(Y:Nat):Prop :=
 ∃i,m=ai.length-i/\i<=ai.length/\aF=[bf cr,bf cQ,w,w,(ai.length:X),(i:X)]/\eb ac w cR 3 (q1 ai i) ap ag/\aA ap au ac/\a0<=Y
theorem as0{l:aa GE}{w:X}{h:ae}{U ap ag:Nat}(dV:eb h w cR 3 l ap ag)(eT:ag<=U)(bo:l.length<=120):
  aE Q s 297 [w,.func (.func 298) #[] #[]] h U (λ_ ac Y=>∃L,L.Perm l/\L.Pairwise (λx y=>¬qY y x<0)/\eb ac w cR 3 L ap ag/\aA ap h ac/\U<=Y):=by
 rcases dV with⟨rfl,rfl⟩|⟨b,h1,ao,rfl,aY⟩
 ·exact aok ⟨[],x2 _,List.Pairwise.nil,.inl ab,aM,J⟩
 ·refine(asl rfl J J aY).mono ?_;rintro _ ac Y ⟨M,⟨L,Z,ar,V⟩,bK⟩;exact⟨L,Z,ar,.inr ⟨b,h1,ao,by rw[Z.length_eq],V⟩,aM,M⟩
def ayI(r c:Nat)(ai:aa GE)(U:Nat)(h:ae):bN:=λv ac Y=>∃fp,AI ai fp/\hh c r fp/\wO ac U Y v c r fp/\aA U h ac/\U<=Y
theorem aoO{c:Nat}{v:X}{h:ae}{U:Nat}(M:hh r c ai)(aI:kq h U v r c ai):aE Q s 207 [v] h U (ayI r c ai U h):=by
 refine asH ?_;have ih:=aI;obtain⟨fw,Ul,mm,a2,m2,c2,a3,m3,ci,rfl⟩:=aI.form;have bo:=M.len;have b4:∀{o aX},aA U h (T (T h U o) (U+1) aX):=aM
 unfold aeA;refine aG ?_;refine(Gd M (ih.F b4 J)).mono ?_;rintro _ h1 a5 ⟨rfl,e5,fi⟩;have cH:=e5 U J;rw[aq J,aR]at cH;have bP:=e5 (U+1) J;rw[aR]at bP;refine bl @cH ?_;have er:∀{o},aA U h (T h1 U o):=aM
 refine(W3 M ((ih.F er (cC _)).F (aA.refl _ _) J)).mono ?_;rintro w ao bQ ⟨dV,dD,f5⟩;have kE:=dD U J;rw[aR]at kE;have fL:=dD (U+1) J;rw[aq J,bP]at fL;obtain⟨ny,oW,rfl⟩:=(kU.of dV).form;refine aG ?_;refine bE.mk (TuJ U (U+1) a5 bQ (.slice ny ai.length oW) ai ao bQ) ai.length ⟨0,J,J,rfl,by exact dV,aM,J⟩ ?_;rintro _ _ aT bT ⟨i,rfl,ag,rfl,hS3,eY,ga⟩;rw[aoB];unfold Z5;refine aG ?_;refine⟨λcb=>?_,λeG=>?_⟩
 ·obtain⟨g,aY⟩:=dH J;have fO:(q1 ai i).length=ai.length:=aag;have V:(q1 ai i)[i]? = some g:=by rw[aoM ag,aY]
  rcases hS3 with⟨e,_⟩|⟨b,iD,h7,e,ta⟩
  ·rw[e]at V;cases V
  ·rw[fO]at e;cases e;have bO:∀Z:ae,jQ (some (.cells (a7 cR (q1 ai i)) false)) Z b (i*3) [(g.t:X),(g.f:X),(g.w:X)] = .ok (T Z b (.cells (a7 cR ((q1 ai i).set i (pX g))) false)):=λZ=>wrG (x:=pX g) J;simp(disch:=omega)only[bk,ta,Ew (enc:=cR) (k:=3) (λ_=>rfl) V,cR,bO,cD (J:i<1000000000000),seval];refine⟨ai.length-(i+1),J,i+1,rfl,J,rfl,.inr ⟨b,iD,h7,by rw[aag],?_⟩,λd bh=>?_,J⟩
   ·rw[aR,aoN aY]
   ·rw[aq J,aq J,aq J];exact eY d bh
 ·have:i=ai.length:=J
  subst this;have Um:eb aT (.slice ny ai.length oW) cR 3 (ai.map pX) a5 bQ:=by
   have e:q1 ai ai.length=ai.map pX:=by unfold q1;grind
   rw[<-e];exact hS3
  refine(as0 Um ga ab).mono ?_;rintro _ bY f2 ⟨L,Z,ar,r5,h3,oB⟩;have uy:=asZ M Z ar;have aL:u bY U=some (.cells [(r:X),(c:X),.slice (some ⟨fw,0,Ul⟩) (r+1) mm,.slice a2 m2 c2,.slice a3 m3 ci] false):=by rw[h3 U J,eY U J];omega
  have aU:=(h3 (U+1) J).trans ((eY (U+1) J).trans fL);refine bl @aL ?_;have pu:fj bY f2 (.slice ny ai.length oW) cR L:=by
   have rX:L.length=ai.length:=by rw[Z.length_eq,gX]
   rcases r5 with⟨iD,h7⟩|⟨d,iD,h7,hM,ux⟩
   ·exact⟨ny,oW,ab,λeh=>absurd iD eh⟩
   ·rw[rX]at hM;cases hM;exact⟨_,_,by rw[rX],λ_=>⟨d,some 3,false,[],J,rfl,ab⟩⟩
  refine(Py pu uy).mono ?_;rintro aC3 cy n6 ⟨ef,hX,kN⟩;obtain⟨tn,rsp,ahK,cz,cE,cm,di,ee,ev,rfl⟩:=ef.is.form;have eE:=(hX (U+1) J).trans aU;refine bl @eE ?_;exact⟨L,Z,uy,ef.F ab J J,aM,J⟩
theorem as1{r:Int}{K:Nat->al}{f:Nat->aw Int}(V:j<C)(M:K j=false):
  fo r ((List.range C).map λk=>if(if k=j then true else K k)=true then f k else none)=e4 r (fo r ((List.range C).map λk=>if K k=true then f k else none)) (f j):=by
 have L:((List.range C).map λk=>if(if k=j then true else K k)=true then f k else none)=(List.range C).map λk=>e4 r (if K k=true then f k else none) (if k=j then f k else none):=by
  refine qE λk _=>?_
  by_cases e:k=j
  ·subst e;rw[if_pos rfl,if_pos rfl,if_pos rfl,M];rfl
  ·rw[if_neg e,if_neg e,rz]
 rw[L,Pc]
 congr 1
 clear L
 induction C with
 |zero=>omega
 |succ C Z =>
  rw[rv,iU,F7];show e4 r _ (e4 r (if C=j then f C else none) none)=_;rw[rz]
  by_cases e:C=j
  ·subst e;rw[if_pos rfl,yc,FP]
   grind
  ·rw[if_neg e,rz];grind
def LQ(r:Int)(ai:aa GE)(x:Nat->aw Int)(a H b W v:Nat):aw Int:=iJ r (l1 ai a H b W) (λk=>x (b+k)) v
theorem as2(r:Int)(ai:aa GE)(x:Nat->aw Int)(a H b W v:Nat)(L:v<H):
  LQ r ai x a H b W v=fo r (ai.map λg=>if b<=g.t/\g.t<b+W then(if g.f=a+v then(x g.t).map (fH r g.w)else none)else none):=by
 unfold LQ iJ l1;rw[pJ,Oh];refine Ke λg _=>?_;unfold p5
 grind
def AQ(r:Int)(ai:aa GE)(x:Nat->aw Int)(a H C:Nat)(ap:Nat->Nat)(K:Nat->al)(v:Nat):aw Int :=
 fo r ((List.range C).map λj=>if K j=true then LQ r ai x a H (ap j) (ap (j+1)-ap j) v else none)
theorem aoP{r:Int}{x:Nat->aw Int}{ap:Nat->Nat}(v:Nat):AQ r ai x a H C ap (λ_=>false) v=none :=
 yc λy L=>ab
theorem aoQ{r:Int}{x:Nat->aw Int}{ap:Nat->Nat}{K:Nat->al}(L:j<C)(M:K j=false)(v:Nat):
  AQ r ai x a H C ap (λk=>if k=j then true else K k) v=e4 r (AQ r ai x a H C ap K v) (LQ r ai x a H (ap j) (ap (j+1)-ap j) v):=as1 L M
theorem alF{r:Int}{x:Nat->aw Int}{n:Nat}{ap:Nat->Nat}{K:Nat->al}(Z:∀i j,i<=j->ap i<=ap j)(L:ap 0=0)(d0:ap C=n)(cq:∀g∈ai,g.t<n)(V:∀j,j<C->K j=true){v:Nat}(aI:v<H):
  AQ r ai x a H C ap K v=iJ r ai x (a+v):=by
 have e:AQ r ai x a H C ap K v=fo r ((List.range C).map λj=>fo r (ai.map λg=>if ap j<=g.t/\g.t<ap (j+1)then(if g.f=a+v then(x g.t).map (fH r g.w)else none)else none)):=by
  unfold AQ
  congr 1
  refine qE λj M=>?_;rw[V j (CF.1 M),if_pos rfl,as2 _ _ _ _ _ _ _ _ aI]
  grind
 rw[e,Yl r _ (λg:GE=>g.t) ap Z L];unfold iJ;refine Ke λg aY=>?_
 grind
def tG(A:aa Nat)(g:GE):aa Nat:=if A.getLast? = some g.f then A else A++[g.f]
def dW(ai:aa GE):aa Nat:=ai.foldl tG []
theorem De{az:Type}{C:aa az->Prop}(M:C [])(L:∀p g,C p->C (p++[g]))(p:aa az):C p:=by
 rw[<-List.reverse_reverse p]
 induction p.reverse with
 |nil=>exact M
 |cons x l V=>rw[List.reverse_cons];exact L _ _ V
theorem wC(p:aa GE)(g:GE):dW (p++[g])=tG (dW p) g:=by unfold dW;grind
theorem aah:∀(p:aa GE),(dW p).getLast? = p.getLast?.map GE.f:=by
 refine De rfl λp g L=>?_
 ·skip
  rw[wC,List.getLast?_append];unfold tG
  grind
theorem GD:∀(p:aa GE) (a:Nat),a∈dW p->∃g∈p,g.f=a:=by
 refine De (λa h=>by cases h) λp g L=>?_
 ·skip
  intro a h;rw[wC]at h;unfold tG at h
  grind
theorem GF:∀(p:aa GE),(dW p).length<=p.length:=by
 refine De (cC _) λp g L=>?_
 ·skip
  rw[wC,ib];unfold tG
  grind
def g9(ai:aa GE):aa Int:=(dW ai).map (λa=>(dF ai a:Int))++[(ai.length:Int)]
def gK(ai:aa GE):aa Int:=(dW ai).map λa:Nat=>(a:Int)
theorem yo(ai:aa GE):(g9 ai).length=(dW ai).length+1:=by unfold g9;grind
theorem GG(ai:aa GE):(gK ai).length=(dW ai).length:=by unfold gK;grind
theorem Av(h:k2 (p++[g])):∀x∈p,nn x g:=λx L=>(tv.1 h).2.2 x L g ab
theorem aai(h:a<=g.f):dF (p++[g]) a=dF p a:=by
 unfold dF
 grind
theorem aeK(h:k2 (p++[g])):(dW p).map (λa=>(dF (p++[g]) a:Int))=(dW p).map λa=>(dF p a:Int):=by apply qE;intro a L;obtain⟨x,M,rfl⟩:=GD p a L;have:=Av h x M;unfold nn at this;rw[aai J]
theorem aoR(h:k2 (p++[g]))(M:(dW p).getLast? = some g.f):(g9 p).set (dW p).length ((p.length:Int)+1)=g9 (p++[g]):=by
 have L:dW (p++[g])=dW p:=by rw[wC];unfold tG;grind
 unfold g9;rw[L,aeK h,Jo _ _ ab,gX,CG,ib];simp
theorem as3(h:k2 (p++[g]))(V:(dW p).getLast?≠some g.f):(g9 p++[0]).set ((dW p).length+1) ((p.length:Int)+1)=g9 (p++[g]):=by
 have dR:dW (p++[g])=dW p++[g.f]:=by rw[wC];unfold tG;grind
 have M:dF (p++[g]) g.f=p.length:=by
  rw[aai J];unfold dF;rw[zX.2];intro x L;apply gY;have cb:=Av h x L;apply wj;intro bw;rw[aah]at V;cases Z:p.getLast? with
  |none=>grind
  |some y =>
   rw[Z]at V;have ck:y∈p:=ab
   have ao:=Av h y ck;unfold nn at ao;have hyf:¬y.f=g.f:=ab
   obtain⟨q,c3⟩:=Ji.1 Z;have a6:=(tv.1 h).1;rw[c3]at a6 L;rcases he.1 L with L|L
   ·have:=Av a6 x L;unfold nn at this;omega
   grind
 unfold g9;rw[dR,iU,aeK h,Jo _ _ ab];rw[ib,gX,ib];simp[M]
theorem aoS{h:ae}{U:Nat}:aE Q s 205 [] h U (λv ac Y=>v = .agg ⟨[.int .i64 0,.int .i64 0,.slice none 0 0,.slice (some ⟨U+1,0,none⟩) 1 1,.slice none 0 0,.slice none 0 0]⟩/\u ac (U+1)=some (.cells (fd [0]) false)/\aA U h ac/\Y=U+1+1):=by refine asG ?_;unfold aez;refine aG ?_;exact⟨rfl,aM⟩
structure zn (h:ae) (Z:Nat->Prop) (p:Nat) (x y:Int) (dK dr jF lU:aa Int) (v1 v2 v3 v4:X) (dL d8 fM:aw Nat) (b3:Nat):Prop where
 g:u h p=some (.cells [(x:X),(y:X),v1,v2,v3,v4] false)
 cT:g0 h c4 v1 dK dL
 g2:u h b3=some (.cells (fd dr) false)
 aK:∃aB,v2 = .slice (some ⟨b3,0,aB⟩) dr.length dr.length/\(aB=none\/aB=some 1)
 iS:g0 h c4 v3 jF d8
 nX:g0 h c4 v4 lU fM
 jx:∀d,dL=some d->Z d
 z2:Z b3
 z3:∀d,d8=some d->Z d
 z4:∀d,fM=some d->Z d
 d12:dL≠some b3
 d23:d8≠some b3
 d24:fM≠some b3
 d13:∀d,dL=some d->d8≠some d
 d14:∀d,dL=some d->fM≠some d
 d34:∀d,d8=some d->fM≠some d
theorem fA.two{h:ae}{l:aa Int}(M:u h b=some (.cells (fd l) false))(L:aB=none\/aB=some 1):fA h c4 1 (.slice (some ⟨b,0,aB⟩) l.length l.length) l (some b):=by
 rcases L with rfl|rfl
 ·refine .part M (by rw[u2];omega) ?_;rw[oe,o2 (by rw[u2];omega),iF]
 ·exact .own (by rw[iF];omega)
def kw(U ag ah t1 d:Nat):Prop:=U+3<=d/\d≠U+4/\d<ag/\¬(ah<=d/\d<t1)
theorem aoT{U ag ah t1 q k:Nat}{x:Int}{h:ae}(D:zn h (kw U ag ah t1) (U+4) x y dK dr jF lU v1 v2 v3 v4 dL d8 fM b3)(c3:u h q=some (.cells [(g.f:X),(g.t:X),(g.w:X)] false))(hq3:d8≠some q)(hqp:q≠U+4)(hqh:q<ag)(cq:t1<=ag)(bd:U+4<ag)(bo:dK.length<dr.length)(hl3:jF.length<=1000)(hl4:lU.length<=1000)(hk:k<=1000) (d7:∀ac dk v3' v4' b3' b4',ag<=dk->zn ac (kw U dk ah t1) (U+4) x y dK (dr.set dK.length ((jF.length+1:Nat):Int)) (jF++[(g.t:Int)]) (lU++[g.w]) v1 v2 v3' v4' dL b3' b4' b3->(∀d,d<ag->d≠U+4->¬kw U ag ah t1 d->u ac d=u h d) ->
   N [a2,.pointer (some ⟨U+4,0,none⟩),jU,iO,((k+1:Nat):X)] ac dk):
  Dq s N E R a2 (.pointer (some ⟨U+4,0,none⟩)) (bf q) jU iO (k:X) h ag:=by
 obtain⟨a3,ci,rfl⟩:=D.iS.form;obtain⟨aZ,hP,rfl⟩:=D.nX.form;obtain⟨aD,c1,rfl⟩:=D.cT.form;obtain⟨aB,rfl,mD⟩:=D.aK;have i2:=D.g;unfold Dq;refine cN @i2 @c3 ?_;refine wG (D.iS.hE.F λd M=>by have:=(D.z3 d M).2.2.1;grind) (aR _ _ _) J λh1 qo rZ=>?_;have fL:∀d,d<ag->d8≠some d->u h1 d=u h d:=ab
 have Nt:∀{b:aw Nat},(∀d,b=some d->kw U ag ah t1 d)->b≠some (U+4):=λL e=>absurd rfl (L _ e).2.1;have Un:=(fL (U+4) bd (Nt D.z3)).trans i2;have gq1:=(fL q hqh hq3).trans c3;refine cN @Un @gq1 ?_;refine wG ((D.nX.hE.F  λd M=>by have L:=D.z4 d M;rw[aq (by have:=L.2.2.1;omega),aq L.2.1];exact fL d L.2.2.1 λe=>D.d34 d e M)) (aR _ _ _) J λao In nL=>?_
 have fY:∀d,d<ag+1+1->d≠U+4->fM≠some d->u ao d=u h1 d:=ab
 have BL:u ao (U+4)=some (.cells [(x:X),(y:X),.slice aD dK.length c1,.slice (some ⟨b3,0,aB⟩) dr.length dr.length,.slice (some ⟨ag+1,0,some 1⟩) (jF.length+1) (jF.length+1),.slice aZ lU.length hP] false):=by rw[nL _ J (Nt D.z4),aq J,aR]
 have gs2:u ao b3=some (.cells (fd dr) false):=by have L:=D.z2;rw[fY b3 (by have:=L.2.2.1;omega) L.2.1 D.d24,fL b3 L.2.2.1 D.d23];exact D.g2
 have gn2:u ao (ag+1)=some (.cells (fd (jF++[(g.t:Int)])) false):=by rw[fY (ag+1) J J (λe=>by have:=(D.z4 _ e).2.2.1;omega)];omega
 have V:=D.z2;have q8:b3≠U+4:=V.2.1;have zj:b3<ag:=V.2.2.1;refine hV @BL @gs2 (cD (J:k<1000000000000)) ?_;refine⟨bo,d7 _ _ (.slice (some ⟨ag+1,0,some 1⟩) (jF.length+1) (jF.length+1)) (.slice (some ⟨ag+1+1+1,0,some 1⟩) (lU.length+1) (lU.length+1)) (some (ag+1)) (some (ag+1+1+1)) (by omega) ?_ λd aT a9 bY=>?_⟩
 ·have wa:∀d,kw U ag ah t1 d->kw U (ag+1+1+1+1) ah t1 d:=λd L=>⟨L.1,L.2.1,by have:=L.2.2.1;omega,L.2.2.2⟩
  exact{
   g:=ab
   cT:=D.cT.F λd M=>by have L:=D.jx d M;have:=L.2.2.1;have Z:d≠b3:=λe=>D.d12 ab;rw[aq Z,aq L.2.1,fY d J L.2.1 (D.d14 d M),fL d J (D.d13 d M)]
   g2:=ab
   aK:=⟨aB,ab,mD⟩
   iS:=.inr ⟨ag+1,rfl,ab,by rw[aq J,aq J,iF];omega⟩
   nX:=.inr ⟨ag+1+1+1,rfl,ab,by rw[aq J,aq J,iF];omega⟩
   jx:=λd M=>wa d (D.jx d M)
   z2:=wa _ V
   z3:=λd M=>by cases M;exact⟨J,J,J,J⟩
   z4:=λd M=>by cases M;exact⟨J,J,J,J⟩
   d12:=D.d12
   d23:=ab
   d24:=ab
   d13:=λd M e=>by cases e;have:=(D.jx _ M).2.2.1;omega
   d14:=λd M e=>by cases e;have:=(D.jx _ M).2.2.1;omega
   d34:=ab }
 ·have Z:d≠b3:=ab
  rw[aq Z,aq a9,fY d J a9 (λe=>bY (D.z4 d e)),fL d aT (λe=>bY (D.z3 d e))]
theorem aoU{U ag ah t1 q k:Nat}{x:Int}{h:ae}(D:zn h (kw U ag ah t1) (U+4) x y dK dr jF lU v1 v2 v3 v4 dL d8 fM b3)(c3:u h q=some (.cells [(g.f:X),(g.t:X),(g.w:X)] false))(hq1:dL≠some q)(hq2:b3≠q)(hqp:q≠U+4)(hqh:q<ag)(cq:t1<=ag)(bd:U+4<ag)(rS:dK.length<=1000)(rT:dr.length<=1001) (d7:∀ac dk v1' v2' b1' Uo,ag<=dk->zn ac (kw U dk ah t1) (U+4) x y (dK++[(g.f:Int)]) (dr++[0]) jF lU v1' v2' v3 v4 b1' d8 fM Uo->u ac q=some (.cells [(g.f:X),(g.t:X),(g.w:X)] false)->(∀d,d<ag->d≠U+4->¬kw U ag ah t1 d->u ac d=u h d) ->
   Dq s N E R a2 (.pointer (some ⟨U+4,0,none⟩)) (bf q) jU iO (k:X) ac dk):
  AH s N E R a2 (.pointer (some ⟨U+4,0,none⟩)) (bf q) jU iO (k:X) (.bool true) h ag:=by
 obtain⟨a3,ci,rfl⟩:=D.iS.form;obtain⟨aZ,hP,rfl⟩:=D.nX.form;obtain⟨aD,c1,rfl⟩:=D.cT.form;obtain⟨aB,rfl,mD⟩:=D.aK;have i2:=D.g;unfold AH;refine cN @i2 @c3 ?_;refine wG (D.cT.hE.F λd L=>by have:=(D.jx d L).2.2.1;grind) (aR _ _ _) J λZ qo rZ=>?_;have fL:∀d,d<ag->dL≠some d->u Z d=u h d:=ab
 have Nt:∀{b:aw Nat},(∀d,b=some d->kw U ag ah t1 d)->b≠some (U+4):=λM e=>absurd rfl (M _ e).2.1;have Un:=(fL (U+4) bd (Nt D.jx)).trans i2;have q8:b3≠U+4:=D.z2.2.1;have zj:b3<ag:=D.z2.2.2.1;refine bl @Un ?_;have gr2:∀{o aX:fU},fA (T (T Z (U+4) o) (ag+1+1) aX) c4 1 (.slice (some ⟨b3,0,aB⟩) dr.length dr.length) dr (some b3):=λ{o aX}=>fA.two (by rw[aq J,aq q8,fL b3 zj D.d12];exact D.g2) mD;refine wG gr2 (aR _ _ _) J λao In nL=>?_;have fY:∀d,d<ag+1+1->d≠U+4->d≠b3->u ao d=u Z d:=ab
 have BL:u ao (U+4)=some (.cells [(x:X),(y:X),.slice (some ⟨ag+1,0,some 1⟩) (dK.length+1) (dK.length+1),.slice (some ⟨b3,0,aB⟩) dr.length dr.length,.slice a3 jF.length ci,.slice aZ lU.length hP] false):=ab
 refine bl @BL ?_;have wa:∀d,kw U ag ah t1 d->kw U (ag+1+1+1+1) ah t1 d:=λd M=>⟨M.1,M.2.1,by have:=M.2.2.1;omega,M.2.2.2⟩
 have V:∀d,kw U ag ah t1 d->dL≠some d->d≠b3->∀{o:fU},u (T ao (U+4) o) d=u h d:=λd M rb y9 {o}=>by
  have:=M.2.2.1
  grind
 refine d7 _ _ (.slice (some ⟨ag+1,0,some 1⟩) (dK.length+1) (dK.length+1)) (.slice (some ⟨ag+1+1+1,0,some 1⟩) (dr.length+1) (dr.length+1)) (some (ag+1)) (ag+1+1+1) (by omega) ?_ ?_ λd aT a9 bY=>?_
 ·exact{
   g:=ab
   cT:=.inr ⟨ag+1,rfl,ab,by rw[aq J,fY (ag+1) J J J,iF];omega⟩
   g2:=ab
   aK:=⟨some 1,ab,ab⟩
   iS:=D.iS.F λd L=>V d (D.z3 d L) (λe=>D.d13 d e L) (λe=>D.d23 ab)
   nX:=D.nX.F λd L=>V d (D.z4 d L) (λe=>D.d14 d e L) (λe=>D.d24 ab)
   jx:=λd L=>by cases L;exact⟨J,J,J,J⟩
   z2:=⟨J,J,J,J⟩
   z3:=λd L=>wa d (D.z3 d L)
   z4:=λd L=>wa d (D.z4 d L)
   d12:=ab
   d23:=λe=>by have:=(D.z3 _ e).2.2.1;omega
   d24:=λe=>by have:=(D.z4 _ e).2.2.1;omega
   d13:=λd L e=>by cases L;have:=(D.z3 _ e).2.2.1;omega
   d14:=λd L e=>by cases L;have:=(D.z4 _ e).2.2.1;omega
   d34:=D.d34 }
 ·grind
 ·rw[aq a9,fY d J a9 (λe=>bY (by rw[e];exact D.z2)),fL d aT (λe=>bY (D.jx d e))]
def yy(h:ae)(ap ag:Nat)(v:X)(r c:Nat)(ai:aa GE):Prop :=
 ∃v1 v2 v3 v4,v = .agg ⟨[(r:X),(c:X),v1,v2,v3,v4]⟩/\oA h ap ag v1 (gK ai)/\(∃b aB,v2 = .slice (some ⟨b,0,aB⟩) (g9 ai).length (g9 ai).length/\ap<=b/\b<ag/\u h b=some (.cells (fd (g9 ai)) false))/\oA h ap ag v3 (ft ai)/\oA h ap ag v4 (gA ai)
def ME(U ah t1:Nat)(x y:Int)(w:X)(ai:aa GE)(au:ae)(m:Nat)(aF:aa X)(ac:ae)(ag:Nat):Prop :=
 ∃(k:Nat) (v1 v2 v3 v4:X) (dL d8 fM:aw Nat) (b3:Nat),m=ai.length-k/\k<=ai.length/\aF=[.pointer (some ⟨U+1,0,none⟩),.pointer (some ⟨U+4,0,none⟩),w,(ai.length:X),(k:X)] /\
  zn ac (kw U ag ah t1) (U+4) x y (gK (ai.take k)) (g9 (ai.take k)) (ft (ai.take k)) (gA (ai.take k)) v1 v2 v3 v4 dL d8 fM b3/\(∀d,d<t1->d≠U+4->¬kw U t1 ah t1 d->u ac d=u au d)/\t1<=ag
theorem aoV{x:Int}{n:Nat}(L:(gK p).length=n+1)(M:(gK p)[n]? = some x):∃a:Nat,(dW p).getLast? = some a/\x=(a:Int):=by
 unfold gK at M L
 grind
theorem av7{c:Nat}{v:X}{h:ae}{U:Nat}(M:hh r c ai)(aI:kq h U v r c ai):
  aE Q s 124 [v] h U (λdX ac Y=>∃L,AI ai L/\hh c r L/\yy ac U Y dX r c L/\aA U h ac/\U<=Y):=by
 refine ayA ?_;have ih:=aI;obtain⟨fw,Ul,mm,a2,m2,c2,a3,m3,ci,rfl⟩:=aI.form;have bc:=M.bc;have a1:=M.a1;have bo:=M.len;unfold ahH;refine aG ?_;have b4:∀{o aX},aA U h (T (T h U o) (U+1) aX):=aM
 refine aoS.mono ?_;rintro _ h1 _ ⟨rfl,gs1,e5,rfl⟩;have cH:=e5 U J;rw[aq J,aR]at cH;have bP:=e5 (U+1) J;rw[aR]at bP;have cM:aA U h h1:=aM
 refine bl @cH ?_;have er:∀{o aX},aA U h (T (T h1 (U+1+1+1+1) o) (U+1+1+1+1) aX):=aM
 refine(J2 M ((ih.F er (cC _)).F (aA.refl _ _) J)).mono ?_;rintro _ ao bQ ⟨rfl,dD,f5⟩;have kE:=dD U J;rw[aq J,aq J,cH]at kE;have fL:=dD (U+1) J;rw[aq J,aq J,bP]at fL;have dx:=dD (U+1+1+1) J;rw[aq J,aq J,gs1]at dx;have IP:=dD (U+1+1+1+1) J;rw[aR]at IP;have fC:aA U h ao:=aM
 refine cN @kE @IP ?_;have g1:∀{o aX},aA U h (T (T ao (U+1+1+1+1) o) (U+1+1+1+1) aX):=aM
 refine(aoO M ((ih.F g1 (cC _)).F (aA.refl _ _) J)).mono ?_;rintro v3 aT bT ⟨L,eI,uy,ef,eY,ga⟩;refine(W3 uy ef.is).mono ?_;rintro w a9 Z ⟨dV,g8,g5⟩;have LR:aA bQ _ a9:=eY.trans g8 ga;have aL:=LR U J;rw[aq J,aq J,kE]at aL;have aU:=LR (U+1) J;rw[aq J,aq J,fL]at aU;have es:=LR (U+1+1+1) J;rw[aq J,aq J,dx]at es;have n4:=LR (U+1+1+1+1) J;rw[aR]at n4;have nz:aA U h a9:=aM
 have Bt:=uy.len;obtain⟨ny,oW,rfl⟩:=(kU.of dV).form;refine aG ?_;have aD7:zn a9 (kw U Z bT Z) (U+4) (r:Int) (c:Int) (gK (L.take 0)) (g9 (L.take 0)) (ft (L.take 0)) (gA (L.take 0)) (.slice none 0 0) (.slice (some ⟨U+1+1+1,0,none⟩) 1 1) (.slice none 0 0) (.slice none 0 0) none none none (U+1+1+1):={
  g:=n4
  cT:=.inl ⟨rfl,rfl,rfl⟩
  g2:=es
  aK:=⟨none,rfl,ab⟩
  iS:=.inl ⟨rfl,rfl,rfl⟩
  nX:=.inl ⟨rfl,rfl,rfl⟩
  jx:=λd e=>by cases e
  z2:=⟨J,J,J,J⟩
  z3:=λd e=>by cases e
  z4:=λd e=>by cases e
  d12:=ab
  d23:=ab
  d24:=ab
  d13:=ab
  d14:=λd e=>by cases e
  d34:=λd e=>by cases e }
 refine bE.mk (ME U bT Z (r:Int) (c:Int) (.slice ny L.length oW) L a9) L.length ⟨0,_,_,_,_,_,_,_,_,J,J,rfl,aD7,λd _ _ _=>rfl,cC _⟩ ?_;rintro _ _ bY ag ⟨k,v1,v2,v3,v4,dL,d8,fM,b3,rfl,hk,rfl,D,mH,oB⟩;rw[avU];unfold aew;refine aG ?_;refine⟨λcb=>?_,λeG=>?_⟩
 ·obtain⟨g,aY⟩:=dH (J:k<L.length);rcases dV with⟨e,_⟩|⟨uE,iD,h7,e,ta⟩
  ·rw[e]at aY;cases aY
  cases e;have vG:u bY uE=some (.cells (a7 cR L) false):=(mH uE h7 J (λz=>z.2.2.2 ⟨iD,h7⟩)).trans ta;obtain⟨aD,c1,rfl⟩:=D.cT.form;have i2:=D.g;have gp4:∀{o aX},u (T (T bY ag o) ag aX) (U+4)=some (.cells [(r:X),(c:X),.slice aD (gK (L.take k)).length c1,v2,v3,v4] false):=λ{o aX}=>ab
  simp(disch:=omega)only[bk,vG,Ew (enc:=cR) (k:=3) (λ_=>rfl) aY,cR,i2,seval];have uc:k<L.length:=J
  have ug:(L.take k).length=k:=ab
  have pk:L.take (k+1)=L.take k++[g]:=by rw[gW,aY];rfl
  have Es:k2 (L.take k++[g]):=by rw[<-pk];exact List.Pairwise.sublist (List.take_sublist _ _) uy.up
  have Mu:=GF (L.take k);have aN:=GG (L.take k);have aE9:=yo (L.take k);have aC4:=Dd (L.take k);have aD8:=GC (L.take k);have tk:ft (L.take k)++[(g.t:Int)]=ft (L.take (k+1)):=by rw[pk];unfold ft;grind
  have v9:gA (L.take k)++[g.w]=gA (L.take (k+1)):=by rw[pk];unfold gA;grind
  have fin:∀{cy:ae} {Io:Nat} {dr:aa Int} {v1 v2 v3 v4:X} {dL d8 fM:aw Nat} {b3:Nat} {E R:aP},zn cy (kw U Io bT Z) (U+4) (r:Int) (c:Int) (gK (L.take (k+1))) dr (ft (L.take k)) (gA (L.take k)) v1 v2 v3 v4 dL d8 fM b3 ->
    dr.set (gK (L.take (k+1))).length (((L.take k).length:Int)+1)=g9 (L.take (k+1))->(gK (L.take (k+1))).length<dr.length->u cy ag=some (.cells [(g.f:X),(g.t:X),(g.w:X)] false)->d8≠some ag->ag+1<=Io->(∀d,d<Z->d≠U+4->¬kw U Z bT Z d->u cy d=u a9 d) ->
    Dq s (λaF ac Y=>∃bD,bD<L.length-k/\ME U bT Z (r:Int) (c:Int) (.slice (some ⟨uE,0,some 3⟩) L.length L.length) L a9 bD aF ac Y) E R (.pointer (some ⟨U+1,0,none⟩)) (.pointer (some ⟨U+4,0,none⟩)) (bf ag) (.slice (some ⟨uE,0,some 3⟩) L.length L.length) (L.length:X) (k:X) cy Io:=by intro cy Io dr v1 v2 v3 v4 dL d8 fM b3 E R Nu T S6 Up mK kN xv;refine aoT Nu Up mK J J J J S6 J J J λeD hi7 v3' v4' b3' b4' tY E1 sa=>?_;rw[tk,v9,aC4,show(((L.take k).length+1:Nat):Int)=((L.take k).length:Int)+1 by omega,T]at E1;exact⟨L.length-(k+1),J,k+1,_,_,_,_,_,_,_,_,rfl,J,rfl,E1,λd cz cE cm=>by rw[sa d J cE (λz=>cm ⟨z.1,z.2.1,cz,z.2.2.2⟩)];grind,J⟩
  have E2:∀{o aX:fU},zn (T (T bY ag o) ag aX) (kw U (ag+1) bT Z) (U+4) (r:Int) (c:Int) (gK (L.take k)) (g9 (L.take k)) (ft (L.take k)) (gA (L.take k)) (.slice aD (gK (L.take k)).length c1) v2 v3 v4 dL d8 fM b3:=λ{o aX}=>by
   have hL:∀d,kw U ag bT Z d->u (T (T bY ag o) ag aX) d=u bY d:=λd c0=>by have:=c0.2.2.1;grind
   have wa:∀d,kw U ag bT Z d->kw U (ag+1) bT Z d:=λd c0=>⟨c0.1,c0.2.1,by have:=c0.2.2.1;omega,c0.2.2.2⟩
   exact⟨ab,D.cT.F λd V=>hL d (D.jx d V),(hL b3 D.z2).trans D.g2,D.aK,D.iS.F λd V=>hL d (D.z3 d V),D.nX.F λd V=>hL d (D.z4 d V),λd V=>wa d (D.jx d V),wa b3 D.z2,λd V=>wa d (D.z3 d V),λd V=>wa d (D.z4 d V),D.d12,D.d23,D.d24,D.d13,D.d14,D.d34⟩
  have fr2:∀{o aX:fU} (d:Nat),d<Z->d≠U+4->¬kw U Z bT Z d->u (T (T bY ag o) ag aX) d=u a9 d:=λd cz cE cm=>ab
  have c5:∀{b:aw Nat},(∀d,b=some d->kw U ag bT Z d)->b≠some ag:=λc0 e=>by have:=(c0 _ e).2.2.1;omega
  have eR:=D.z2.2.2.1;have new:(dW (L.take k)).getLast?≠some g.f->∀{E R:aP},AH s (λaF ac Y=>∃bD,bD<L.length-k/\ME U bT Z (r:Int) (c:Int) (.slice (some ⟨uE,0,some 3⟩) L.length L.length) L a9 bD aF ac Y) E R (.pointer (some ⟨U+1,0,none⟩)) (.pointer (some ⟨U+4,0,none⟩)) (bf ag) (.slice (some ⟨uE,0,some 3⟩) L.length L.length) (L.length:X) (k:X) (.bool true)
    (T (T bY ag (.cells [.int .i64 0,.int .i64 0,.int .i64 0] false)) ag (.cells [(g.f:X),(g.t:X),(g.w:X)] false)) (ag+1):=λeh {E R}=>by
   have ik:dW (L.take (k+1))=dW (L.take k)++[g.f]:=by rw[pk,wC];unfold tG;grind
   have MF:gK (L.take k)++[(g.f:Int)]=gK (L.take (k+1)):=by unfold gK;grind
   refine aoU E2 (aR _ _ _) (c5 D.jx) J J J J J J J λcy Io v1' v2' b1' Uo kN Nu Up xv=>?_;rw[MF]at Nu;refine fin Nu ?_ ?_ Up (c5 D.z3) J λd cz cE cm=>by rw[xv d J cE (λz=>cm ⟨z.1,z.2.1,cz,z.2.2.2⟩)];grind
   ·rw[GG,ik,ib,pk];exact as3 Es eh
   grind
  have same:(dW (L.take k)).getLast? = some g.f->∀{E R:aP},AH s (λaF ac Y=>∃bD,bD<L.length-k/\ME U bT Z (r:Int) (c:Int) (.slice (some ⟨uE,0,some 3⟩) L.length L.length) L a9 bD aF ac Y) E R (.pointer (some ⟨U+1,0,none⟩)) (.pointer (some ⟨U+4,0,none⟩)) (bf ag) (.slice (some ⟨uE,0,some 3⟩) L.length L.length) (L.length:X) (k:X) (.bool false)
    (T (T bY ag (.cells [.int .i64 0,.int .i64 0,.int .i64 0] false)) ag (.cells [(g.f:X),(g.t:X),(g.w:X)] false)) (ag+1):=λb0 {E R}=>by
   have ik:dW (L.take (k+1))=dW (L.take k):=by rw[pk,wC];unfold tG;grind
   have MF:gK (L.take (k+1))=gK (L.take k):=by unfold gK;rw[ik]
   unfold AH;refine aG ?_;refine fin (by rw[MF];exact E2) ?_ ?_ (aR _ _ _) (c5 D.z3) (cC _) fr2
   ·rw[MF,GG,pk];exact aoR Es b0
   grind
  refine⟨λau=>?_,λau=>?_⟩
  ·have au:(gK (L.take k)).length=0:=ab
   rw[aN]at au;exact new ab
  ·have au:(gK (L.take k)).length≠0:=ab
   obtain⟨n,bw⟩:∃n,(gK (L.take k)).length=n+1:=⟨(gK (L.take k)).length-1,J⟩
   obtain⟨x,bd⟩:=dH (l:=gK (L.take k)) (i:=n) J;obtain⟨a,dR,rfl⟩:=aoV bw bd;have cT:IntKind.wrap .i64 (((gK (L.take k)).length:Int)-1)=(n:Int):=by rw[bw,show(((n+1:Nat):Int))-1=(n:Int) by omega];exact jM J J
   rcases D.cT with⟨aU,_⟩|⟨eE,aU,aK,bP⟩
   ·rw[aU]at au;exact absurd rfl au
   ·cases aK;have c0:=(D.jx eE aU).2.2.1;rw[iF]at bP;simp(disch:=omega)only[bk,cT,bP,ix bd,seval]
    by_cases xh:a=g.f
    ·subst xh;rw[ru];exact same dR
    ·rw[show(((a:Int)) == (g.f:Int))=false from rt.2 J];exact new ab
 ·have:k=L.length:=J
  subst this;have i2:=D.g;have dl:u bY (U+1)=u a9 (U+1):=mH (U+1) J J (λz=>by have:=z.1;omega);rw[ic]at D;obtain⟨aD,c1,rfl⟩:=D.cT.form;obtain⟨aZ,hP,rfl⟩:=D.iS.form;obtain⟨bA,v8,rfl⟩:=D.nX.form;obtain⟨aB,rfl,mD⟩:=D.aK;refine hV @i2 @dl @aU ?_;have aM:∀d,kw U ag bT Z d->∀{o:fU},u (T bY (U+1) o) d=u bY d:=λd c0 {o}=>aq (by have:=c0.1;omega);refine⟨L,eI,uy,⟨_,_,_,_,rfl,⟨dL,D.cT.F λd V=>aM d (D.jx d V),λd V=>⟨by have:=(D.jx d V).1;omega,(D.jx d V).2.2.1⟩⟩,⟨b3,aB,rfl,by have:=D.z2.1;omega,D.z2.2.2.1,(aM b3 D.z2).trans D.g2⟩,⟨d8,D.iS.F λd V=>aM d (D.z3 d V),λd V=>⟨by have:=(D.z3 d V).1;omega,(D.z3 d V).2.2.1⟩⟩,⟨fM,D.nX.F λd V=>aM d (D.z4 d V),λd V=>⟨by have:=(D.z4 d V).1;omega,(D.z4 d V).2.2.1⟩⟩⟩,λd V=>?_,J⟩;rw[aq J,mH d J J (λz=>by have:=z.1;omega)];exact nz d V
section
variable {I:Nat->ae->Nat->Prop} {D:ae->Nat->Prop} {q:Nat->al}
theorem act{k h U}(L:∀k h U,q k=false->I k h U->I (k+1) h U):∀(d:Nat),(∀i,k<=i->i<k+d->q i=false)->I k h U->I (k+d) h U
 |0,_,ag=>ag
 |d+1,M,ag=>L _ _ _ ab (act L d ab ag)
def EgJ(I:Nat->ae->Nat->Prop)(l n:Nat)(q:Nat->al)(ki:X)(m:Nat)(aF:aa X)(ac:ae)(Y:Nat):Prop :=
 ∃k:Nat,m=n-k/\k<=n/\aF=[.func (.yield l) ⟨[]⟩ ⟨[]⟩,.int .u64 (mk (n-k) (λi=>q (i+k)):Int),(k:X),ki,.int .i64 1,.int .i64 0]/\I k ac Y
def EgO(I:Nat->ae->Nat->Prop)(l n:Nat)(ki:X)(h:ae)(U:Nat)(m:Nat)(aF:aa X)(ac:ae)(Y:Nat):Prop :=
 (m=1/\aF=[.func (.yield l) ⟨[]⟩ ⟨[]⟩,ki,.int .i64 1,.int .i64 0]/\ac=h/\Y=U)\/(m=0/\aF=[.func (.yield l) ⟨[]⟩ ⟨[]⟩,ki,.int .i64 1,.int .i64 1]/\I n ac Y)
theorem as4{n l:Nat}{h:ae}{U:Nat}(bw:n<=63)(aI:cL h U ki j8 [mk n q])(q6:u h I3=some (.cells [ki] false))(au:I 0 h U)(ar:∀k h U,q k=false->I k h U->I (k+1) h U)(ck:∀k h U,k<n->q k=true->I k h U->mb Q s l [(k:X)] h U (λr ac Y=>(r = .bool true/\I (k+1) ac Y)\/(r = .bool false/\D ac Y))):
  aE Q s 288 [.func (.yield l) ⟨[]⟩ ⟨[]⟩,bf I3] h U (λ_ ac Y=>I n ac Y\/D ac Y):=by
 refine RC ?_;obtain⟨a,cap,rfl,a1⟩:=id aI;obtain⟨b,aB,bG,aW,rfl,aY⟩:=a1 (by simp);have aY:u h b=some (.cells [.int .u64 (mk n q:Int)] bG):=aY;unfold Lr;simp(disch:=omega)only[bk,q6,@List.length_cons Nat,@List.length_nil Nat,seval];refine bE.mk (EgO I l n (.slice (some ⟨b,0,aB⟩) 1 cap) h U) 1 (.inl ab) ?_;rintro m aF ac Y (⟨rfl,rfl,gl,eM⟩|⟨rfl,rfl,ef⟩)
 ·rw[GB,gl,eM];unfold Db;have esh:bin Q .shl 3 (.int .i64 0) (.int .u64 6) = .ok (.int .i64 0):=rfl;refine cN @aY @esh ?_;refine⟨?_,ab⟩;refine bE.mk (EgJ I l n q (.slice (some ⟨b,0,aB⟩) 1 cap)) n ⟨0,J,J,rfl,au⟩ ?_;rintro _ _ aT L ⟨k,rfl,hk,rfl,M⟩;rw[aca];unfold Qr
  by_cases c0:mk (n-k) (λi=>q (i+k))=0
  ·have aL:((mk (n-k) (λi=>q (i+k)):Nat):Int)=0:=J
   have V:I (k+(n-k)) aT L:=act ar (n-k) (λi h1 ao=>by
    have:=Gu.1 c0 (i-k) J
    grind) M
   rw[show k+(n-k)=n by omega]at V;refine bl @aL ?_;exact⟨0,J,.inr ⟨rfl,rfl,V⟩⟩
  ·have BP:k<n:=by
    rcases jJ k n with h|h
    ·exact h
    ·exact absurd (by rw[show n-k=0 by omega];rfl) c0
   obtain⟨r,bc⟩:∃r,n-k=r+1:=⟨n-k-1,J⟩
   have aU:(((mk (n-k) (λi=>q (i+k)):Nat):Int) == 0)=false:=ab
   have aK:bin Q .and 188 (.int .u64 ((mk (n-k) (λi=>q (i+k)):Nat):Int)) (.int .u64 1) = .ok (.int .u64 (if q k then 1 else 0)):=by
    rw[show(1:Int)=((1:Nat):Int)from rfl,F5 (xb J) J,Js,bc,adC,iE]
    grind
   have cc:mk (n-k) (λi=>q (i+k)) / 2=mk (n-(k+1)) (λi=>q (i+(k+1))):=by
    rw[bc,adB,show n-(k+1)=r by omega]
    grind
   have d6:bin Q .shr 188 (.int .u64 ((mk (n-k) (λi=>q (i+k)):Nat):Int)) (.int .u64 1) = .ok (.int .u64 ((mk (n-(k+1)) (λi=>q (i+(k+1))):Nat):Int)):=by rw[Pb,cc]
   cases Z:q k with
   |true =>
    rw[Z]at aK;refine cN @aU @aK ?_;refine(ck k aT L BP Z M).mono ?_;rintro _ a9 vM (⟨rfl,M⟩|⟨rfl,rn⟩)
    ·refine aG ?_;unfold Da;refine cN @d6 (cD (J:k<1000000000000)) ?_;exact⟨n-(k+1),J,k+1,rfl,J,rfl,M⟩
    ·simp(disch:=omega)only[bk,seval]
     grind
   |false =>
    rw[Z]at aK;have Uh:bin Q .and 188 (.int .u64 ((mk (n-k) (λi=>q (i+k)):Nat):Int)) (.int .u64 1) = .ok (.int .u64 0):=aK;refine cN @aU @Uh ?_;unfold Da;refine cN @d6 (cD (J:k<1000000000000)) ?_;exact⟨n-(k+1),J,k+1,rfl,J,rfl,ar k aT L Z M⟩
 ·rw[GB];unfold Db;simp(disch:=omega)only[bk,seval]
  grind
end
def eZ(n:Nat)(q:Nat->al):aa Nat:=if n=0 then[]else[mk n q]
theorem acu{l:Nat}{h:ae}{U:Nat}(M:cL h U ki j8 ([]:aa Nat))(L:u h I3=some (.cells [ki] false)):
  aE Q s 288 [.func (.yield l) ⟨[]⟩ ⟨[]⟩,bf I3] h U (λ_ ac Y=>ac=h/\Y=U):=by
 refine RC ?_;obtain⟨a,cap,rfl,V⟩:=id M;unfold Lr;simp(disch:=omega)only[bk,L,@List.length_nil Nat,seval];refine bE.mk (λm aF ac Y=>aF=[.func (.yield l) ⟨[]⟩ ⟨[]⟩,.slice a 0 cap,.int .i64 0,.int .i64 0]/\ac=h/\Y=U) 0 ab ?_;rintro m aF ac Y ⟨rfl,gl,Z⟩;rw[GB];unfold Db;simp(disch:=omega)only[bk,seval]
 grind
noncomputable def nF:Code:=(vp Q 473).1
noncomputable def nG:Code:=(vp Q 473).2
def qI(iT ah cQ cr t1:X):ch:=[(7,some iT),(6,some ah),(4,some cQ),(3,some cr),(0,some ah),(1,some t1)]
def acv(s:al)(d8 fM gg:X)(h:ae)(U:Nat)(N R:ae->Nat->Prop):Prop:=af (iz none h d8) λoM=>af (bin Q .geq 3 gg oM) λqn=>br qn (af (aS h 1 fM gg) λh12=>R h12 U) (N h U)
def QA(s:al)(l:Nat)(iT ah cQ cr t1 fX:X)(h:ae)(U:Nat)(K:bN):Prop:=∃eC,u h l=some (.loop 0 eC (qI iT ah cQ cr t1) [8] nF nG)/\acv s cr cQ fX (T h l (.loop 1 eC (qI iT ah cQ cr t1) [8] nF nG)) U (λh n=>∃gy eC,u h l=some (.loop gy eC (qI iT ah cQ cr t1) [8] nF nG)/\K (.bool true) (T h l (.loop 0 none (qI iT ah cQ cr t1) [8] nF nG)) n) (λh n=>∃gy eC,u h l=some (.loop gy eC (qI iT ah cQ cr t1) [8] nF nG)/\K (.bool false) (T h l (.loop 2 (some .ret) (qI iT ah cQ cr t1) [8] nF nG)) n)
theorem aoW{l:Nat}{h:ae}{U:Nat}:B5 Q s [] [] l [fX] (qI iT ah cQ cr t1) [8] nF nG h U K=QA s l iT ah cQ cr t1 fX h U K:=by kernel_rfl
theorem aoX{l:Nat}{p:aw Code}{h:ae}{U:Nat}(L:u h l=some (.loop st p (qI iT ah cQ cr t1) [8] nF nG))(w:QA s l iT ah cQ cr t1 fX h U K):mb Q s l [fX] h U K:=mb.pr mh (vW:=[]) (oS:=[]) L rfl (by kernel_rfl) (by kernel_rfl) (by rw[aoW];exact w)
def aeL:cO:=λs ah t1 h U K=>bH t1 h U λa b c=>bX [(ad 0)] b c λd e f=>aV s 197 [ah] e f λg i j=>t8 Q s g i j (.loop 0 none (qI g ah d a t1) [8] nF nG) (yL j (λk l=>af (aS k 1 d (ad (-1))) λm=>bS m d λn=>K n m l) (λk l=>bS k d λo=>K o k l))
theorem as5:cX 473 aeL:=cZ []
noncomputable def uZ:Code:=(vp Q 495).1
noncomputable def u0:Code:=(vp Q 495).2
def u4(t1 cr ah:X):ch:=[(6,some t1),(4,some (.slice none 0 0)),(2,some cr),(0,some ah),(1,some t1)]
def aaj(s:al)(b3 gg:X)(h:ae)(U:Nat)(N R:ae->Nat->Prop):Prop:=af (iz none h b3) λn3=>af (iz (some 2) h gg) λVS=>dY (fc 1 [(.int .i64 0),(.int .i64 0)] [(0,2,VS)]) h U λIl h11 n12=>dG (dO (dM 2 h11 n12 n3 Il)) λqj h14 n15=>af (aS h14 1 b3 qj) λh16=>N h16 n15
def Pz(s:al)(l:Nat)(t1 cr ah fX:X)(h:ae)(U:Nat)(K:bN):Prop:=dY (.ok (.ptr (.cells [(.int .i64 0),(.int .i64 0)] false))) h U λcQ bY n6=>af (aS bY 2 cQ fX) λeD=>∃eC,u eD l=some (.loop 0 eC (u4 t1 cr ah) [7] uZ u0)/\aaj s cr cQ (T eD l (.loop 1 eC (u4 t1 cr ah) [7] uZ u0)) n6 (λh n=>∃gy eC,u h l=some (.loop gy eC (u4 t1 cr ah) [7] uZ u0)/\K (.bool true) (T h l (.loop 0 none (u4 t1 cr ah) [7] uZ u0)) n) (λh n=>∃gy eC,u h l=some (.loop gy eC (u4 t1 cr ah) [7] uZ u0)/\K (.bool false) (T h l (.loop 2 (some .ret) (u4 t1 cr ah) [7] uZ u0)) n)
theorem alG{l:Nat}{h:ae}{U:Nat}:B5 Q s [] [] l [fX] (u4 t1 cr ah) [7] uZ u0 h U K=Pz s l t1 cr ah fX h U K:=by kernel_rfl
theorem alH{l:Nat}{p:aw Code}{h:ae}{U:Nat}(L:u h l=some (.loop st p (u4 t1 cr ah) [7] uZ u0))(w:Pz s l t1 cr ah fX h U K):mb Q s l [fX] h U K:=mb.pr mh (vW:=[]) (oS:=[]) L rfl (by kernel_rfl) (by kernel_rfl) (by rw[alG];exact w)
def acw:cO:=λs ah t1 h U K=>bH ah h U λa b c=>t8 Q s t1 b c (.loop 0 none (u4 t1 a ah) [7] uZ u0) (yL c (λd e=>bS d a λf=>K f d e) (λd e=>K ay d e))
theorem aoY:cX 495 acw:=cZ []
noncomputable def u5:Code:=(vp Q 391).1
noncomputable def u6:Code:=(vp Q 391).2
def va(jf kd re r6 qj jV n3 iT cQ cr ah:X):ch:=[(12,some jf),(11,some kd),(3,some re),(10,some r6),(9,some qj),(8,some jV),(7,some n3),(6,some iT),(2,some cQ),(1,some cr),(0,some ah)]
def acx(s:al)(d8 fM gg:X)(h:ae)(U:Nat)(N R:ae->Nat->Prop):Prop:=af (AM 1 d8) λlG=>af (iz none h lG) λoL=>af (cV [(.int .i64 0),(.int .i64 0)] [(0,1,fM),(1,1,gg)]) λql=>dY (fc 1 [(.int .i64 0),(.int .i64 0)] [(0,2,ql)]) h U λp26 h27 n28=>dG (dO (dM 2 h27 n28 oL p26)) λx29 Uq n31=>af (AM 1 d8) λqk=>af (aS Uq 1 qk x29) λh33=>N h33 n31
def QB(s:al)(l:Nat)(jf kd re r6 qj jV n3 iT cQ cr ah fX eH:X)(h:ae)(U:Nat)(K:bN):Prop:=∃eC,u h l=some (.loop 0 eC (va jf kd re r6 qj jV n3 iT cQ cr ah) [13,14] u5 u6)/\acx s re fX eH (T h l (.loop 1 eC (va jf kd re r6 qj jV n3 iT cQ cr ah) [13,14] u5 u6)) U (λh n=>∃gy eC,u h l=some (.loop gy eC (va jf kd re r6 qj jV n3 iT cQ cr ah) [13,14] u5 u6)/\K (.bool true) (T h l (.loop 0 none (va jf kd re r6 qj jV n3 iT cQ cr ah) [13,14] u5 u6)) n) (λh n=>∃gy eC,u h l=some (.loop gy eC (va jf kd re r6 qj jV n3 iT cQ cr ah) [13,14] u5 u6)/\K (.bool false) (T h l (.loop 2 (some .ret) (va jf kd re r6 qj jV n3 iT cQ cr ah) [13,14] u5 u6)) n)
theorem aoZ{l:Nat}{h:ae}{U:Nat}:B5 Q s [] [] l [fX,eH] (va jf kd re r6 qj jV n3 iT cQ cr ah) [13,14] u5 u6 h U K=QB s l jf kd re r6 qj jV n3 iT cQ cr ah fX eH h U K:=by kernel_rfl
theorem ao0{l:Nat}{p:aw Code}{h:ae}{U:Nat}(L:u h l=some (.loop st p (va jf kd re r6 qj jV n3 iT cQ cr ah) [13,14] u5 u6))(w:QB s l jf kd re r6 qj jV n3 iT cQ cr ah fX eH h U K):mb Q s l [fX,eH] h U K:=mb.pr mh (vW:=[]) (oS:=[]) L rfl (by kernel_rfl) (by kernel_rfl) (by rw[aoZ];exact w)
def aeM:cU:=λs ah h U K=>bH ah h U λa b c=>bX [(ad 0),ay] b c λd e f=>aN 3 e a λg=>aV s 450 [g] e f λi j k=>af (aS j 3 a i) λl=>bn 0 a λm=>bS l m λn=>af (cV [(ad 0),ay] [(0,1,n)]) λo=>bX [(ad 0),ay] l k λp q r=>af (aS q 2 p o) λt=>aN 3 t a λaO=>aV s 451 [aO] t r λv w x=>t8 Q s v w x (.loop 0 none (va v aO p o n m i g d a ah) [13,14] u5 u6) (yL x (λy z=>aN 2 y p λbC=>af (aS y 2 d bC) λbV=>aN 2 bV d λbM=>K bM bV z) (λy z=>aN 2 y d λbg=>K bg y z))
theorem as6:cW 391 aeM:=cY []
noncomputable def sG:Code:=(vp Q 393).1
noncomputable def sH:Code:=(vp Q 393).2
def vb(oK f1 t3 r7 qk rf rh r8 qh ql oL lG jf kd qm r9 jV qn oM fl cQ cr ah t1 t2:X):ch:=[(36,some oK),(35,some f1),(34,some t3),(33,some r7),(32,some qk),(12,some rf),(26,some (.bool false)),(26,some rh),(31,some rh),(30,some r8),(29,some qh),(28,some ql),(27,some oL),(22,some (.bool false)),(22,some lG),(25,some lG),(24,some jf),(23,some kd),(21,some qm),(20,some r9),(16,some jV),(19,some jV),(18,some qn),(17,some oM),(11,some (.int .i64 0)),(10,some (.slice none 0 0)),(7,some fl),(6,some cQ),(5,some cr),(0,some ah),(1,some t1),(2,some t2),(3,some t3),(4,some f1)]
def acy(s:al)(gg zJ Cg b12 b13:X)(h:ae)(U:Nat)(N R:ae->Nat->Prop):Prop:=af (iz none h gg) λx37=>af (iz (some 5) h zJ) λUr=>af (iz (some 3) h Cg) λx39=>aE Q s 457 [x37,Ur,b13,x39] h U λx40 h41 n42=>af (cp x40 0) λx43=>af (cp x40 1) λT7=>dY (.ok (.ptr (.cells [(.int .i64 0),(.int .u64 0)] false))) h41 n42 λp45 BM BN=>af (aS BM 2 p45 x43) λvO=>br T7 (af (iz none vO b12) λx49=>af (iz (some 2) vO p45) λx50=>af (cV [(.int .i64 0),(.int .i64 0),(.int .u64 0)] [(0,1,b13),(1,2,x50)]) λx51=>dY (fc 1 [(.int .i64 0),(.int .i64 0),(.int .u64 0)] [(0,3,x51)]) vO BN λp52 h53 n54=>dG (dO (dM 3 h53 n54 x49 p52)) λx55 h56 n57=>af (aS h56 1 b12 x55) λh58=>N h58 n57) (N vO BN)
def QC(s:al)(l:Nat)(oK f1 t3 r7 qk rf rh r8 qh ql oL lG jf kd qm r9 jV qn oM fl cQ cr ah t1 t2 fX:X)(h:ae)(U:Nat)(K:bN):Prop:=∃eC,u h l=some (.loop 0 eC (vb oK f1 t3 r7 qk rf rh r8 qh ql oL lG jf kd qm r9 jV qn oM fl cQ cr ah t1 t2) [37] sG sH)/\acy s cr cQ fl rf fX (T h l (.loop 1 eC (vb oK f1 t3 r7 qk rf rh r8 qh ql oL lG jf kd qm r9 jV qn oM fl cQ cr ah t1 t2) [37] sG sH)) U (λh n=>∃gy eC,u h l=some (.loop gy eC (vb oK f1 t3 r7 qk rf rh r8 qh ql oL lG jf kd qm r9 jV qn oM fl cQ cr ah t1 t2) [37] sG sH)/\K (.bool true) (T h l (.loop 0 none (vb oK f1 t3 r7 qk rf rh r8 qh ql oL lG jf kd qm r9 jV qn oM fl cQ cr ah t1 t2) [37] sG sH)) n) (λh n=>∃gy eC,u h l=some (.loop gy eC (vb oK f1 t3 r7 qk rf rh r8 qh ql oL lG jf kd qm r9 jV qn oM fl cQ cr ah t1 t2) [37] sG sH)/\K (.bool false) (T h l (.loop 2 (some .ret) (vb oK f1 t3 r7 qk rf rh r8 qh ql oL lG jf kd qm r9 jV qn oM fl cQ cr ah t1 t2) [37] sG sH)) n)
theorem ao1{l:Nat}{h:ae}{U:Nat}:B5 Q s [] [] l [fX] (vb oK f1 t3 r7 qk rf rh r8 qh ql oL lG jf kd qm r9 jV qn oM fl cQ cr ah t1 t2) [37] sG sH h U K=QC s l oK f1 t3 r7 qk rf rh r8 qh ql oL lG jf kd qm r9 jV qn oM fl cQ cr ah t1 t2 fX h U K:=by kernel_rfl
theorem ao2{l:Nat}{p:aw Code}{h:ae}{U:Nat}(L:u h l=some (.loop st p (vb oK f1 t3 r7 qk rf rh r8 qh ql oL lG jf kd qm r9 jV qn oM fl cQ cr ah t1 t2) [37] sG sH))(w:QC s l oK f1 t3 r7 qk rf rh r8 qh ql oL lG jf kd qm r9 jV qn oM fl cQ cr ah t1 t2 fX h U K):mb Q s l [fX] h U K:=mb.pr mh (vW:=[]) (oS:=[]) L rfl (by kernel_rfl) (by kernel_rfl) (by rw[ao1];exact w)
def aeN:xO:=λs ah t1 t2 t3 f1 h U K=>bH ah h U λa b c=>bH t1 b c λd e f=>bH t2 e f λg i j=>aN 5 i d λk=>aN 3 i g λl=>aV s 455 [k,l] i j λm n o=>af (cp m 0) λp=>af (cp m 1) λq=>af (aS n 5 d p) λr=>af (aS r 3 g q) λt=>bS t a λaO=>aV s 259 [aO] t o λv w x=>af (du .not v) λy=>br y (K (.tuple ⟨[ay,(ad 8)]⟩) w x) (bn 0 g λz=>bS w z λbC=>bn 1 d λbV=>bS w bV λbM=>bt .neq 3 bC bM λbg=>br bg (K (.tuple ⟨[ay,(ad 4)]⟩) w x) (bX [ay] w x λbW b7 bI=>bn 0 d λcJ=>bS b7 cJ λcB=>aV s 456 [cB,t3,f1] b7 bI λds de eN=>t8 Q s ds de eN (.loop 0 none (vb ds f1 t3 cB cJ bW bg bM bV bC z y v aO q p m l k g d a ah t1 t2) [37] sG sH) (yL eN (λam an=>bS am bW λeU=>K (.tuple ⟨[eU,(ad 0)]⟩) am an) (λam an=>K (.tuple ⟨[ay,(ad 0)]⟩) am an))))
theorem as7:zG 393 aeN:=BH []
def fG(q:Nat->al)(a:Int):Nat->Int
 |0=>-1
 |n+1=>if fG q a n = -1 then(if q n=true/\a<=(n:Int)then(n:Int)else -1)else fG q a n
theorem RL{q:Nat->al}{a:Int}{k:Nat}(h:fG q a k≠-1):∀d,fG q a (k+d)=fG q a k
 |0=>rfl
 |d+1=>by have:=RL h d;show(if fG q a (k+d) = -1 then _ else fG q a (k+d))=_;omega
theorem agr{q:Nat->al}{a:Int}:∀n,-1<=fG q a n/\fG q a n<n/\(fG q a n = -1\/a<=fG q a n)
 |0=>⟨by unfold fG;omega,by unfold fG;omega,.inl rfl⟩
 |n+1=>by have:=agr (q:=q) (a:=a) n;unfold fG;omega
def NxL(l mn xK:Nat)(ak:ch)(a:Int)(ap:Nat)(au h:ae)(U:Nat):Prop:=u h l=some (.loop 0 none ak [8] nF nG)/\u h mn=some (.cells [(a:X)] false)/\u h xK=some (.cells [.int .i64 0] false)/\(∀c,c<ap->u h c=u au c)
def MG(l mn xK:Nat)(ak:ch)(a:Int)(q:Nat->al)(ap a5:Nat)(au:ae)(k:Nat)(h:ae)(U:Nat):Prop:=fG q a k = -1/\NxL l mn xK ak a ap au h U/\U=a5
def NxD(l xK:Nat)(ak:ch)(a:Int)(q:Nat->al)(ap a5 n:Nat)(au:ae)(h:ae)(U:Nat):Prop:=u h l=some (.loop 2 (some .ret) ak [8] nF nG)/\u h xK=some (.cells [.int .i64 (fG q a n)] false)/\(∀c,c<ap->u h c=u au c)/\U=a5
theorem aAt{l M L ap n:Nat}{a:Int}{q:Nat->al}{V:ae}(bo:l≠M/\l≠L/\M≠L/\ap<=l/\ap<=M/\ap<=L){k:Nat}{h:ae}{U:Nat}(hk:k<n)(c3:q k=true)(sn:MG l M L (qI iT ah (bf L) (bf M) t1) a q ap a5 V k h U):
  mb Q s l [(k:X)] h U (λr ac Y=>(r = .bool true/\MG l M L (qI iT ah (bf L) (bf M) t1) a q ap a5 V (k+1) ac Y)\/(r = .bool false/\NxD l L (qI iT ah (bf L) (bf M) t1) a q ap a5 n V ac Y)):=by
 obtain⟨h1,ao,aT,a9⟩:=bo;obtain⟨eM,⟨Z,epa,epr,elo⟩,rfl⟩:=sn;refine aoX Z ?_;unfold QA acv;refine⟨none,Z,?_⟩;generalize qI iT ah (bf L) (bf M) t1=ak at *
 have bP:u (T h l (.loop 1 none ak [8] nF nG)) M=some (.cells [(a:X)] false):=ab
 have g2:u (T h l (.loop 1 none ak [8] nF nG)) L=some (.cells [.int .i64 0] false):=ab
 refine cN @bP @g2 ?_;refine⟨λaY=>⟨1,none,ab,.inr ⟨ab,?_,λc a1=>?_,rfl⟩⟩,λaY=>⟨1,none,ab,.inl ⟨?_,⟨ab,?_,?_,ab⟩,rfl⟩⟩⟩
 ·have aU:fG q a (k+1)=(k:Int):=by
   show(if fG q a k = -1 then(if q k=true/\a<=(k:Int)then(k:Int)else -1)else fG q a k)=_
   grind
  have aK:fG q a n=fG q a (k+1):=by
   have:=RL (q:=q) (a:=a) (k:=k+1) J (n-(k+1))
   grind
  grind
 ·grind
 ·show(if fG q a k = -1 then(if q k=true/\a<=(k:Int)then(k:Int)else -1)else fG q a k)=_;omega
 all_goals grind
theorem av8{q:Nat->al}{a:Int}{k:Nat}(h:q k=false):fG q a (k+1)=fG q a k:=by
 show(if fG q a k = -1 then(if q k=true/\a<=(k:Int)then(k:Int)else -1)else fG q a k)=_
 grind
theorem QD{n:Nat}{a:Int}{q:Nat->al}{v:X}{h:ae}{U:Nat}(bw:n<=63)(aI:cL h U v j8 (eZ n q)):
  aE Q s 473 [v,(a:X)] h U (λr ac Y=>r = .int .i64 (fG q a n)/\aA U h ac/\U<=Y):=by
 refine as5 ?_;obtain⟨E3,cap,rfl,a1⟩:=id aI;unfold aeL;refine aG ?_;refine Sm ?_;unfold each;refine aG ?_;show aE Q s 288 [.func (.yield (U+1+1+1)) ⟨[]⟩ ⟨[]⟩,.pointer (some ⟨U+1+1,0,none⟩)] _ _ _;generalize Z:qI (.func (.func 288) ⟨[]⟩ ⟨[.pointer (some ⟨U+1+1,0,none⟩)]⟩) (.slice E3 (eZ n q).length cap) (.pointer (some ⟨U+1,0,none⟩)) (bf U) (a:X)=ak;generalize fu:T (T (T (T h U (.cells [(a:X)] false)) (U+1) (.cells [.int .i64 0] false)) (U+1+1) (.cells [.slice E3 (eZ n q).length cap] false)) (U+1+1+1) (.loop 0 none ak [8] nF nG)=H;have L:cL H (U+1+1+1+1) (.slice E3 (eZ n q).length cap) j8 (eZ n q):=aI.F aM J;have M:u H (U+1+1)=some (.cells [.slice E3 (eZ n q).length cap] false):=ab
 have ag:MG (U+1+1+1) U (U+1) ak a q U (U+1+1+1+1) h 0 H (U+1+1+1+1):=
  ⟨rfl,⟨ab,ab,ab,ab⟩,rfl⟩
 have kF:aE Q s 288 [.func (.yield (U+1+1+1)) ⟨[]⟩ ⟨[]⟩,.pointer (some ⟨U+1+1,0,none⟩)] H (U+1+1+1+1) (λ_ ac Y=>MG (U+1+1+1) U (U+1) ak a q U (U+1+1+1+1) h n ac Y\/NxD (U+1+1+1) (U+1) ak a q U (U+1+1+1+1) n h ac Y):=by
  by_cases c0:n=0
  ·subst c0;refine(acu  L M).mono ?_
   grind
  ·have fa:eZ n q=[mk n q]:=if_neg c0;rw[fa]at L M Z;refine as4 bw L M ag (λk ac Y hk V=>?_) λk ac Y hk c3 V=>by subst Z;exact aAt J hk c3 V
   exact⟨by rw[av8 hk];exact V.1,V.2.1,V.2.2⟩
 refine kF.mono ?_;rintro _ ac Y (⟨eM,⟨el,epa,epr,elo⟩,rfl⟩|⟨el,epr,elo,rfl⟩)
 ·refine⟨0,none,ak,[8],nF,nG,el,J,.inl ⟨rfl,?_⟩⟩;have bP:u (T ac (U+1+1+1) (.loop 3 none ak [8] nF nG)) (U+1)=some (.cells [.int .i64 0] false):=ab
  refine bl @bP ?_;refine⟨by rw[eM],λc a1=>?_,J⟩
  grind
 ·refine⟨2,some .ret,ak,[8],nF,nG,el,J,.inr ⟨rfl,?_⟩⟩;have bP:u (T ac (U+1+1+1) (.loop 3 (some .ret) ak [8] nF nG)) (U+1)=some (.cells [.int .i64 (fG q a n)] false):=ab
  refine bl @bP ?_;refine⟨λc a1=>?_,J⟩
  grind
def LS(n:Nat)(q:Nat->al)(U:Nat)(h:ae):bN:=λr ac Y=>eJ ac U Y r j8 (eZ n q)/\aA U h ac/\U<=Y
theorem sV.w{n U:Nat}{q:Nat->al}{h:ae}{r:X}{ac:ae}{Y:Nat}(V:n≠0)(H:sV (mk n q) U h r ac Y):LS n q U h r ac Y:=by obtain⟨b,c,aB,rfl,M,ao,L,a9,Z⟩:=H;unfold LS eZ;rw[if_neg V];exact⟨⟨_,_,rfl,λ_=>⟨b,aB,false,M,ao,rfl,L⟩⟩,a9,Z⟩
theorem Yz{n:Nat}{h:ae}{U:Nat}(M:n<=64):aE Q s 195 [(n:X)] h U (λr ac Y=>r = .int .i64 (if n=0 then 0 else 1)/\ac=h/\Y=U):=by
 by_cases L:n=0
 ·subst L;refine ab8 ?_;unfold RA;have e:bin Q .shr 3 (.int .i64 (IntKind.wrap .i64 (0+63))) (.int .u64 6) = .ok (.int .i64 0):=rfl;simp(disch:=omega)only[bk,↓reduceIte,Nat.reduceAdd,Nat.reduceSub,Nat.reduceMul,Nat.reduceLT,Nat.reduceLeDiff,Nat.reduceEqDiff,Int.reduceBEq,Int.reduceLT,Int.reduceNeg,show max ((0:Nat):Int) 0=0 from rfl,show min (0:Int) 4096=0 from rfl,e]
 ·rw[if_neg L];exact Z3 J M
theorem acz{n:Nat}{h:ae}{U:Nat}(Z:n<=63):aE Q s 117 [(n:X)] h U (LS n (λ_=>false) U h):=by
 by_cases L:n=0
 ·subst L;refine agd ?_;refine(Yz J).mono ?_;rintro r ao bQ ⟨rfl,M,V⟩;rw[M,V,if_pos rfl];show dY (sP [.int .u64 0] (((0:Nat):X)) (((0:Nat):X))) h U _;refine aG ?_;exact⟨⟨_,_,rfl,λh=>absurd rfl h⟩,aM,J⟩
 ·refine(aeu J J).mono ?_;intro r ac jB H;refine sV.w L ?_;rw[P5];exact H
theorem K6{n:Nat}{l:aa Nat}{v:X}{h:ae}{U:Nat}(bw:n<=63)(aI:cL h U v c4 (f6 l))(Z:∀x∈l,x<n)(L:l.length<1000000):aE Q s 108 [(n:X),v] h U (LS n (nr l) U h):=by
 by_cases V:n=0
 ·subst V;have:l=[]:=by
   cases l with
   |nil=>rfl
   |cons x l=>exact absurd (Z x ab) J
  subst this;refine ahB ?_;obtain⟨a,cap,rfl,a1⟩:=id aI;refine(acz J).mono ?_;rintro r ao bQ ⟨bc,hk,M⟩;obtain⟨lT,bZ,rfl,_⟩:=bc;refine aG ?_;refine bE.mk (λm aF ac Y=>aF=[((0:Nat):X),.slice lT 0 bZ,.slice a 0 cap,.int .i64 0,.int .i64 0]/\ac=ao/\Y=bQ) 0 ⟨rfl,rfl,rfl⟩ ?_;rintro _ _ ac Y ⟨rfl,aU,aK⟩;rw[agc,aU,aK];unfold Sl;refine aG ?_;exact λ_=>⟨⟨lT,bZ,rfl,λh=>absurd rfl h⟩,hk,M⟩
 ·refine(ayx J J aI Z L).mono ?_;intro r ac jB H;exact sV.w V H
theorem alI{n:Nat}{p:Nat->al}{v:X}{h:ae}{U:Nat}(V:n<=63)(L:cL h U v j8 (eZ n p)):aE Q s 111 [v] h U (λr ac Y=>r = .int .i64 ((en n p).length:Int)/\ac=h/\Y=U):=by
 by_cases M:n=0
 ·subst M;refine ab6 ?_;unfold Ry;obtain⟨a,cap,rfl,a1⟩:=id L;simp(disch:=omega)only[bk,show(eZ 0 p).length=0 from rfl,seval];refine bE.mk (λm aF ac Y=>aF=[.int .i64 0,.slice a 0 cap,.int .i64 0,.int .i64 0]/\ac=h/\Y=U) 0 ab ?_;rintro _ _ ac Y ⟨rfl,Z,aK⟩;rw[Pu,Z,aK];unfold Ko;refine aG ?_;exact λ_=>rfl
 ·rw[show eZ n p=[mk n p]from if_neg M]at L;exact aox V L
theorem YA{n:Nat}{q:Nat->al}{v:X}{h:ae}{U:Nat}(V:n<=63)(L:cL h U v j8 (eZ n q)):aE Q s 437 [v,(n:X)] h U (λr ac Y=>r = .bool true/\aA U h ac/\U<=Y):=by
 refine aoF ?_;obtain⟨a,cap,rfl,a1⟩:=id L;have fa:(((eZ n q).length:Nat):Int)=if n=0 then 0 else 1:=by unfold eZ;grind
 have Z:fG q (n:Int) n = -1:=by have:=agr (q:=q) (a:=(n:Int)) n;omega
 unfold acn;refine aG ?_;refine⟨λ_=>⟨λ_=>?_,J⟩,J⟩;refine(Yz J).mono ?_;rintro r ao bQ ⟨rfl,M,aK⟩;rw[M,aK,fa];refine aG ?_;refine⟨λ_=>?_,aM⟩;refine(QD V L).mono ?_;rintro r aT bT ⟨rfl,hk,dv⟩;rw[Z];refine aG ?_;exact aM
theorem av9{n:Nat}{q:Nat->al}(h:i<n):nr (en n q) i=q i:=by
 unfold nr en
 grind
theorem RM{n:Nat}{q:Nat->al}:eZ n (nr (en n q))=eZ n q:=by unfold eZ;rw[Dl λi ag=>av9  ag]
theorem kU.gv{az:Type}{h:ae}{v:X}{enc:az->aa X}{k:Nat}{l:aa az}{ap ag:Nat}(H:kU h v enc k l P)(M:∀d,P d->ap<=d/\d<ag):eJ h ap ag v enc l:=by
 rcases H with⟨rfl,rfl⟩|⟨d,V,rfl,L⟩
 ·exact⟨_,_,rfl,λh=>absurd rfl h⟩
 ·exact⟨_,_,rfl,λ_=>⟨d,some k,false,ab,ab,rfl,L⟩⟩
def l2(h:ae)(ap ag:Nat)(v:X)(low mA:Int)(n:Nat)(A B:aa Int)(q:Nat->al):Prop :=
 ∃dq fw fD,v = .agg ⟨[(low:X),(mA:X),dq,fw,fD]⟩/\eJ h ap ag dq c4 A/\eJ h ap ag fw c4 B/\eJ h ap ag fD j8 (eZ n q)
def cA(n:Nat)(f:Nat->Int):aa Int:=(List.range n).map f
theorem G2(n:Nat)(f:Nat->Int):cA (n+1) f=cA n f++[f n]:=by unfold cA;rw[rv,iU];rfl
theorem jl(n:Nat)(f:Nat->Int):(cA n f).length=n:=by unfold cA;grind
theorem KO(n:Nat)(q:Nat->al):f6 (en (n+1) q)=f6 (en n q)++(if q n then[(n:Int)]else[]):=by rw[Ls];unfold f6;grind
def ChS(ap:Nat)(ac:ae)(Y:Nat)(dq fw o:X)(A B L:aa Int):Prop :=
 ∃I4 E4 xR:Nat->Prop,kU ac dq c4 1 A I4/\kU ac fw c4 1 B E4/\kU ac o c4 1 L xR/\(∀d,I4 d->ap<=d/\d<Y/\¬E4 d/\¬xR d)/\(∀d,E4 d->ap<=d/\d<Y/\¬xR d)/\(∀d,xR d->ap<=d/\d<Y)
def ChJ(n cQ p12:Nat)(ki:X)(mT mo:Nat->Int)(q:Nat->al)(low mA:Int)(U:Nat)(au:ae)(m:Nat)(aF:aa X)(ac:ae)(Y:Nat):Prop :=
 ∃(i:Nat) (dq fw o:X),m=n-i/\i<=n/\aF=[(n:X),ki,bf cQ,bf p12,o,(n:X),(i:X)] /\
  u ac p12=some (.cells [(low:X),(mA:X),dq,fw,.slice none 0 0] false)/\ChS (U+3) ac Y dq fw o (cA i mT) (cA i mo) (f6 (en i q))/\u ac (U+1)=some (.cells [.int .i64 0,.int .i64 0,.slice none 0 0,.slice none 0 0,.slice none 0 0] false)/\aA U au ac/\U+3<=Y
theorem YB{n:Nat}{mT mo:Nat->Int}{q:Nat->al}{aD a2 a3:aw Addr}{bQ bT c1 ci:Nat}{h:ae}{U:Nat}(bw:n<=63)(bK:∀(i:Nat) (ac:ae) (Y:Nat),i<n->aA U h ac->U<=Y->aE Q s eA ((i:X)::cs) ac Y (λr ao bQ=>r = .tuple ⟨[.int .i64 (mT i),.int .i64 (mo i),.bool (q i)]⟩/\aA Y ac ao/\Y<=bQ)):
  aE Q s 208 [.agg ⟨[(low:X),(mA:X),.slice aD a5 c1,.slice a2 bQ c2,.slice a3 bT ci]⟩,(n:X),.func (.func eA) ⟨[]⟩ ⟨cs⟩] h U (λr ac Y=>l2 ac U Y r low mA n (cA n mT) (cA n mo) q/\aA U h ac/\U<=Y):=by
 refine aly ?_;unfold Z6;refine aG ?_;have b4:∀{o aX ll gn},aA U h (T (T (T (T h U o) (U+1) aX) (U+2) ll) (U+2) gn):=aM
 refine bE.mk (ChJ n (U+1) (U+2) (.func (.func eA) ⟨[]⟩ ⟨cs⟩) mT mo q low mA U h) n ⟨0,_,_,_,J,J,rfl,ab,⟨λ_=>False,λ_=>False,λ_=>False,.inl ⟨rfl,rfl⟩,.inl ⟨rfl,rfl⟩,.inl ⟨rfl,rfl⟩,ab,ab,ab⟩,ab,b4,J⟩ ?_;rintro _ _ h1 m1 ⟨i,dq,fw,o,rfl,ag,rfl,um,⟨I4,E4,xR,E5,Ch,VT,dR,aW,a1⟩,g11,hk,dv⟩;obtain⟨bC,qu,rfl⟩:=E5.form;obtain⟨bV,gC,rfl⟩:=Ch.form;obtain⟨eU,c6,rfl⟩:=VT.form;rw[ajR];unfold Xw;refine aG ?_;refine⟨λcb=>?_,λeG=>?_⟩
 ·refine(bK i h1 m1 J hk J).mono ?_;rintro r ao V ⟨rfl,M,f5⟩;have g2:u ao (U+2)=_:=(M (U+2) J).trans um;have SA2:=E5.F   λd L=>⟨M d ab,L⟩
  have SB2:=Ch.F   λd L=>⟨M d ab,L⟩
  have SC2:=VT.F   λd L=>⟨M d ab,L⟩
  refine bl @g2 ?_;refine KN (k:=1) (λ_=>rfl) (λ_=>rfl) J  (SA2.F  λd L=>⟨ab,L⟩) rfl (mT i) (aR _ _ _) rfl (by rw[jl];omega) λUs aT MH vH=>?_;obtain⟨Z,Ip,rfl⟩:=MH.form;have dp:=(show u aT (U+2)=u ao (U+2) by grind).trans g2;refine bl @dp ?_;have SB3:=SB2.F (ac:=T aT (V+2) (.cells [.int .i64 (mo i)] false))  λd L=>by exact⟨ab,L⟩
  refine⟨J,KN (k:=1) (λ_=>rfl) (λ_=>rfl) J   SB3 rfl (mo i) (aR _ _ _) rfl (by rw[jl];omega) λUt a9 MI ul=>?_⟩;obtain⟨Iq,Ir,rfl⟩:=MI.form;have dZ:=(show u a9 (U+2)=u aT (U+2) by grind).trans dp;refine bl @dZ ?_;refine⟨J,?_⟩;obtain⟨iq,fu⟩:∃iq,iq=T (T a9 (U+2) (.cells [(low:X),(mA:X),.slice Z (cA i mT++[mT i]).length Ip,.slice bV (cA i mo).length gC,.slice none 0 0] false)) (U+2) (.cells [(low:X),(mA:X),.slice Z (cA i mT++[mT i]).length Ip,.slice Iq (cA i mo++[mo i]).length Ir,.slice none 0 0] false):=⟨_,rfl⟩
  rw[<-fu];have hw:u iq (U+2)=some (.cells [(low:X),(mA:X),.slice Z (cA i mT++[mT i]).length Ip,.slice Iq (cA i mo++[mo i]).length Ir,.slice none 0 0] false):=ab
  have aK:∀d,d≠U+2->d<V->¬I4 d->¬E4 d->u iq d=u ao d:=ab
  have nw:aA U h iq:=aM
  have g51:u iq (U+1)=some (.cells [.int .i64 0,.int .i64 0,.slice none 0 0,.slice none 0 0,.slice none 0 0] false):=by rw[aK (U+1) J J (λa6=>ab) (λa6=>ab),M _ J];omega
  have SA5:=MH.F (ac:=iq) (pF:=λd=>d=V+1) ab;have SB5:=MI.F (ac:=iq) (pF:=λd=>d=V+3) ab;have SC5:=SC2.F (ac:=iq) (pF:=xR) λd L=>by exact⟨ab,L⟩
  have fa:IntKind.wrap .i64 ((i:Int)+1)=((i+1:Nat):Int):=cD J;refine⟨λc3=>?_,λc3=>?_⟩
  ·refine KN (k:=1) (λ_=>rfl) (λ_=>rfl) J (U:=V+5) (pF:=λd=>d=V+5) (SC5.F (ac:=T iq (V+4) (.cells [(i:X)] false)) (pF:=xR) λd L=>⟨ab,L⟩) rfl (i:Int) (aR _ _ _) rfl (by unfold f6;rw[gX];have:=vf i q;omega) λvo' cy SC6 xv=>?_;have hy:∀d,d≠V+4->d≠V+5->¬xR d->u cy d=u iq d:=λd h1 ao aT=>ab
   refine⟨n-(i+1),J,i+1,.slice Z (cA i mT++[mT i]).length Ip,.slice Iq (cA i mo++[mo i]).length Ir,vo',rfl,J,by rw[fa],?_,⟨λd=>d=V+1,λd=>d=V+3,λd=>d=V+5,?_,?_,?_,?_,?_,?_⟩,?_,?_,J⟩
   ·grind
   ·rw[G2];exact SA5.F λd L=>⟨hy d J J (λa6=>ab),L⟩
   ·rw[G2];exact SB5.F λd L=>⟨hy d J J (λa6=>ab),L⟩
   ·rw[KO,if_pos c3];exact SC6
   ·omega
   ·omega
   ·omega
   ·grind
   ·intro d L;rw[hy d J J (λa6=>ab)];exact nw d L
  ·refine⟨n-(i+1),J,i+1,.slice Z (cA i mT++[mT i]).length Ip,.slice Iq (cA i mo++[mo i]).length Ir,.slice eU (f6 (en i q)).length c6,rfl,J,by rw[fa],hw,⟨λd=>d=V+1,λd=>d=V+3,xR,?_,?_,?_,?_,?_,?_⟩,g51,nw,J⟩
   ·rw[G2];exact SA5
   ·rw[G2];exact SB5
   ·rw[KO,if_neg ab,hz];exact SC5
   all_goals grind
 ·have:i=n:=J
  subst this;refine(K6 bw ((VT.gv (ap:=0) (ag:=m1) λd L=>ab).rd) (λx bd=>by unfold en at bd;grind) (by have:=vf i q;omega)).mono ?_;rintro r ao V ⟨bc,M,f5⟩;rw[RM]at bc;obtain⟨lT,bZ,rfl,zo⟩:=id bc;have g2:=(M (U+2) J).trans um;refine bl @g2 ?_;have dp:=(M (U+1) J).trans g11;refine bl @dp ?_;have gI:∀{o aX} d,d≠U+1->d≠U+2->u (T (T ao (U+2) o) (U+1) aX) d=u ao d:=λd h1 ao=>ab
  refine⟨⟨_,_,_,rfl,(E5.F (pF:=I4) λd L=>⟨?_,L⟩).gv λd L=>ab,(Ch.F (pF:=E4) λd L=>⟨?_,L⟩).gv λd L=>ab,⟨lT,bZ,rfl,λeh=>?_⟩⟩,λd L=>?_,J⟩
  ·have:=dR d L;rw[gI d J J,M d J]
  ·have:=aW d L;rw[gI d J J,M d J]
  ·obtain⟨b,aB,bG,dL,b3,d8,fM⟩:=zo eh;exact⟨b,aB,bG,J,b3,d8,ab⟩
  ·rw[gI d J J,M d J];exact hk d L
def sT(k src v:Int):Int:=if k=3 then v else if k=5 then 0 else if k=4/\v=src then 1 else if v=src\/k=4 then 0 else if k=1 then -1 else 4611686018427387904
def sU(k src v:Int):al:=if k=3 then true else if k=5 then false else decide (v=src)
theorem ao3{k n v:Int}{a:aw Addr}{c:Nat}{h:ae}{U:Nat}:aE Q s 210 [.agg ⟨[(k:X),(n:X),(src:X),(len:X),.slice a uz c]⟩,(v:X)] h U (dI (.tuple ⟨[.int .i64 (sT k src v),.bool (sU k src v)]⟩) U h):=by
 refine asI ?_;have b4:∀{o},aA U h (T h U o):=aM
 have M:∀{w o},dI w U h w (T h U o) (U+1):=⟨rfl,b4,J⟩
 have Z:((v == src):al)=decide (v=src):=rfl;unfold aeB sT sU
 by_cases L:k=3
 ·refine bl @L ?_;exact⟨rfl,b4,J⟩
 by_cases V:k=5
 ·refine cN @L @V ?_;exact⟨rfl,b4,J⟩
 have dp:((k == 3):al)=false:=ab
 have hw:((k == 5):al)=false:=ab
 by_cases ar:v=src <;> by_cases a9:k=4
 ·refine tO @L @V @a9 @ar @Z ?_;unfold C0;refine aG ?_;simp[M]
 ·have dZ:((k == 4):al)=false:=ab
  simp(disch:=omega)only[bk,L,V,a9,ar,Z,dp,dZ,hw,seval];unfold C0;refine aG ?_;simp[M]
 ·refine tO @L @V @a9 @ar @Z ?_;unfold C0;refine aG ?_;simp[M]
 ·have dZ:((k == 4):al)=false:=ab
  simp(disch:=omega)only[bk,L,V,a9,ar,Z,dp,dZ,hw,seval];unfold C0 Z7
  by_cases h1:k=1
  ·refine bl @h1 ?_;simp[M]
  ·have bP:((k == 1):al)=false:=ab
   refine hV @h1 @bP @dZ ?_;simp[M]
theorem alJ{k n:Int}{a:aw Addr}{c L:Nat}{eH hu:al}{h:ae}{U:Nat}(M:u h L=some (.cells [(k:X),(n:X),(src:X),(len:X),.slice a uz c] eH))(ao:u h pl=some (.cells [(low:X)] hu))(ag:i<10000)(bo:0<=low/\low<10000):
  aE Q s 209 [(i:X),bf L,bf pl] h U (λr ac Y=>r = .tuple ⟨[.int .i64 (sT k src (low+i)),.int .i64 (-1),.bool (sU k src (low+i))]⟩/\aA U h ac/\U<=Y):=by
 refine aoC ?_;unfold ach;have V:IntKind.wrap .i64 (low+(i:Int))=low+i:=by
  obtain⟨m,rfl⟩:∃m:Nat,low=m:=⟨low.toNat,J⟩
  exact ie (m+i) J
 refine hV @M @ao @V ?_;refine ao3.mono ?_;rintro r aT bT ⟨rfl,hk,Z⟩;refine aG ?_;exact aM
theorem l2.wid{h ac:ae}{ap ag ec dk:Nat}{v:X}{n:Nat}{q:Nat->al}(ar:l2 h ap ag v low mA n A B q)(M:∀d,ap<=d->d<ag->u ac d=u h d)(L:ec<=ap)(V:ag<=dk):l2 ac ec dk v low mA n A B q:=by obtain⟨dq,fw,Z,e,a,b,c⟩:=ar;exact⟨dq,fw,Z,e,eJ.F a M L V,eJ.F b M L V,eJ.F c M L V⟩
theorem ao4{k n:Int}{low:Nat}{v:X}{h:ae}{U:Nat}(aI:cL h U v c4 bR)(a6:i5 k n src len bR=0)(hm:m<=63)(eT:((low+m:Nat):Int)<=n)(bw:n<=4096):
  aE Q s 125 [.agg ⟨[(k:X),(n:X),(src:X),(len:X),v]⟩,(low:X),((low+m:Nat):X)] h U (λr ac Y=>l2 ac U Y r low ((low+m:Nat):Int) m (cA m λi=>sT k src (low+i)) (cA m λ_=>-1) (λi=>sU k src (low+i))/\aA U h ac/\U<=Y):=by
 refine asC ?_;obtain⟨a,cap,rfl,a1⟩:=id aI;have b4:∀{o aX ll},aA U h (T (T (T h U o) (U+1) aX) (U+2) ll):=aM
 unfold aex;refine aG ?_;refine(J0 (aI.F b4 J)).mono ?_;rintro _ h1 a5 ⟨rfl,L,fi⟩;have Z:=L (U+1) J;rw[aq J,aR]at Z;have cH:=L U J;rw[aq J,aq J,aR]at cH;have V:=L (U+2) J;rw[aR]at V;refine ls @a6 @cH @Z @V ?_;refine⟨λh=>absurd h J,λ_=>⟨λh=>absurd h J,λ_=>?_⟩⟩;rw[show decide (n<((low+m:Nat):Int))=false from hA J];unfold Gb;have fa:IntKind.wrap .i64 (((low+m:Nat):Int)-(low:Int))=(m:Int):=by rw[show((low+m:Nat):Int)-(low:Int)=(m:Int) by omega];exact ie m J
 refine ls @cH @Z @V @fa ?_;refine(YB (mT:=λi=>sT k src (low+i)) (mo:=λ_=>-1) (q:=λi=>sU k src (low+i)) hm λi ac Y ag M w6=>?_).mono ?_
 ·exact alJ  (hu:=false) ((M U J).trans (by rw[aq J,aq J];omega)) ((M (U+1) J).trans ab) J J
 rintro r aT bT ⟨dV,eY,ga⟩;have ED:=dV;obtain⟨dq,fw,fD,rfl,fP,hl,gm⟩:=dV;obtain⟨aD,c1,rfl,_⟩:=id fP;obtain⟨a2,c2,rfl,_⟩:=id hl;obtain⟨a3,ci,rfl,_⟩:=id gm;have dp:=eY (U+2) J;rw[aq J,aq J,V]at dp;refine bl @dp ?_;exact⟨ED.wid ab J J,aM,J⟩
def hr(h:ae)(U:Nat)(v:X)(low mA:Int)(n:Nat)(A B:aa Int)(q:Nat->al):Prop :=
 ∃dq fw fD,v = .agg ⟨[(low:X),(mA:X),dq,fw,fD]⟩/\cL h U dq c4 A/\cL h U fw c4 B/\cL h U fD j8 (eZ n q)
theorem l2.rd{h:ae}{ap ag:Nat}{v:X}{low mA:Int}{n:Nat}{A B:aa Int}{q:Nat->al}(V:l2 h ap ag v low mA n A B q):hr h ag v low mA n A B q:=by obtain⟨L,Z,M,e,a,b,c⟩:=V;exact⟨L,Z,M,e,a.rd,b.rd,c.rd⟩
theorem hr.F{h ac:ae}{U Y:Nat}{v:X}{low mA:Int}{n:Nat}{A B:aa Int}{q:Nat->al}(Z:hr h U v low mA n A B q)(M:aA U h ac)(L:U<=Y):hr ac Y v low mA n A B q:=by obtain⟨dq,fw,V,e,a,b,c⟩:=Z;exact⟨dq,fw,V,e,a.F M L,b.F M L,c.F M L⟩
theorem awa{k n:Int}{low:Nat}{q:Nat->al}{v:X}{h:ae}{U:Nat}(aI:cL h U v c4 bR)(a6:i5 k n src len bR=0)(hm:m<=63)(eT:((low+m:Nat):Int)<=n)(bw:n<=4096)(ar:hr h U aF low ((low+m:Nat):Int) m A B q)(ik:A.length=m)(ey:B.length=m):
  aE Q s 371 [.agg ⟨[(k:X),(n:X),(src:X),(len:X),v]⟩,aF] h U (dI (.bool true) U h):=by
 refine ayD ?_;obtain⟨a,cap,rfl,a1⟩:=id aI;obtain⟨dq,fw,fD,rfl,fP,hl,gm⟩:=ar;obtain⟨aD,c1,rfl,_⟩:=id fP;obtain⟨a2,c2,rfl,_⟩:=id hl;obtain⟨a3,ci,rfl,_⟩:=id gm;have b4:∀{o aX},aA U h (T (T h U o) (U+1) aX):=aM
 unfold ahI;refine aG ?_;refine(J0 (aI.F b4 J)).mono ?_;rintro _ h1 a5 ⟨rfl,L,fi⟩;have M:=L (U+1) J;rw[aR]at M;have V:=L U J;rw[aq J,aR]at V;refine hV @a6 @V @M ?_;refine⟨λh=>absurd h J,λ_=>⟨λh=>absurd h J,λ_=>?_⟩⟩;rw[show decide (n<((low+m:Nat):Int))=false from hA J];unfold G1;have fa:IntKind.wrap .i64 (((low+m:Nat):Int)-(low:Int))=(m:Int):=by rw[show((low+m:Nat):Int)-(low:Int)=(m:Int) by omega];exact ie m J
 refine tO @V @M @fa @ik @ey ?_;have cM:aA U h h1:=aM
 refine⟨λ_=>⟨λ_=>?_,λh=>absurd h (by simp)⟩,λh=>absurd h (by simp)⟩;refine(YA hm (gm.F  cM J)).mono ?_;rintro r ao bQ ⟨rfl,dD,Z⟩;exact⟨rfl,aM,J⟩
theorem KP{k n:Int}{low:Nat}{q:Nat->al}{v:X}{h:ae}{U:Nat}(aI:cL h U v c4 bR)(a6:i5 k n src len bR=0)(hm:m<=63)(eT:((low+m:Nat):Int)<=n)(bw:n<=4096)(ar:hr h U aF low ((low+m:Nat):Int) m A B q)(ik:A.length=m)(ey:B.length=m):
  aE Q s 299 [.agg ⟨[(k:X),(n:X),(src:X),(len:X),v]⟩,aF] h U (dI aF U h):=by
 refine av4 ?_;obtain⟨a,cap,rfl,a1⟩:=id aI;have M:=ar;obtain⟨dq,fw,fD,rfl,fP,hl,gm⟩:=ar;obtain⟨aD,c1,rfl,_⟩:=id fP;obtain⟨a2,c2,rfl,_⟩:=id hl;obtain⟨a3,ci,rfl,_⟩:=id gm;have V:∀{o aX ll},aA U h (T (T (T h U o) (U+1) aX) (U+2) ll):=aM
 unfold agn;refine aG ?_;refine(awa (aI.F V J) a6 hm eT bw (M.F V J) ik ey).mono ?_;rintro _ h1 a5 ⟨rfl,L,fi⟩;have Z:=L (U+1) J;rw[aq J,aR]at Z;have g2:=L (U+2) J;rw[aR]at g2;refine cN @Z @g2 ?_;exact⟨rfl,aM,J⟩
def qT(k len round:Int)(m:Nat)(A:aa Int)(q:Nat->al):Nat:=if k=4/\len<=round then 0 else if k=5 then(A.filter λa=>a == 0).length else(en m q).length
def LvJ(dq:X)(A:aa Int)(h:ae)(U:Nat)(m:Nat)(aF:aa X)(ac:ae)(Y:Nat):Prop :=
 ∃i,m=A.length-i/\i<=A.length/\aF=[.int .i64 (((A.take i).filter λa=>a == 0).length:Int),dq,(A.length:X),(i:X)]/\ac=h/\Y=U
theorem as8{k n round:Int}{low:Nat}{q:Nat->al}{v:X}{h:ae}{U:Nat}(aI:cL h U v c4 bR)(a6:i5 k n src len bR=0)(hm:m<=63)(eT:((low+m:Nat):Int)<=n)(bw:n<=4096)(ar:hr h U aF low ((low+m:Nat):Int) m A B q)(ik:A.length=m)(ey:B.length=m):
  aE Q s 212 [.agg ⟨[(k:X),(n:X),(src:X),(len:X),v]⟩,aF,(round:X)] h U (dI (.int .i64 (qT k len round m A q:Int)) U h):=by
 refine avZ ?_;obtain⟨a,cap,rfl,a1⟩:=id aI;have qc:=ar;obtain⟨dq,fw,fD,rfl,fP,hl,gm⟩:=ar;obtain⟨aD,c1,rfl,q5⟩:=id fP;obtain⟨a2,c2,rfl,_⟩:=id hl;obtain⟨a3,ci,rfl,_⟩:=id gm;have b4:∀{o aX},aA U h (T (T h U o) (U+1) aX):=aM
 unfold agi;refine m6 ?_;refine(KP (aI.F b4 J) a6 hm eT bw (qc.F b4 J) ik ey).mono ?_;rintro _ h1 a5 ⟨rfl,L,fi⟩;have cH:=L U J;rw[aq J,aR]at cH;have bP:=L (U+1) J;rw[aR]at bP;refine tN @cH @bP ?_;have M:∀{o},aA U h (T h1 (U+1) o):=aM
 have hn:∀{o},aE Q s 111 [.slice a3 (eZ m q).length ci] (T h1 (U+1) o) a5 (dI (.int .i64 ((en m q).length:Int)) U h):=λ{o}=>by refine(alI hm (gm.F  M J)).mono ?_;rintro r ao bQ ⟨rfl,rfl,rfl⟩;exact⟨rfl,M,J⟩
 unfold qT
 by_cases a9:k=4
 ·refine mv @a9 ?_;refine⟨λbc=>?_,λbc=>?_⟩
  ·rw[if_pos (J:len<=round)];exact⟨rfl,M,J⟩
  ·rw[if_neg (J:¬len<=round),if_neg (J:¬(4:Int)=5)];exact hn
 ·have dZ:((k == 4):al)=false:=ab
  by_cases bY:k=5
  ·refine R9 @a9 @dZ @bY ?_;refine bE.mk (LvJ (.slice aD A.length c1) A (T h1 (U+1) (.cells [(low:X),((low+m:Nat):X),.slice aD A.length c1,.slice a2 B.length c2,.slice a3 (eZ m q).length ci] false)) a5) A.length ⟨0,J,J,rfl,rfl,rfl⟩ ?_;rintro _ _ ac Y ⟨i,rfl,ag,rfl,aU,aK⟩;rw[asJ,aU,aK];unfold aci;refine m6 ?_;refine⟨λcb=>?_,λeG=>?_⟩
   ·obtain⟨x,Z⟩:=dH cb;obtain⟨_,b3,li,bG,_,eR,cc,V⟩:=fP.at Z;cases cc;rw[iF]at V;have hgx:=(M (o:=.cells [(low:X),((low+m:Nat):X),.slice (some ⟨b3,0,li⟩) A.length c1,.slice a2 B.length c2,.slice a3 (eZ m q).length ci] false) b3 eR).trans V;have es:((A.take (i+1)).filter λa=>a == 0).length=((A.take i).filter λa=>a == 0).length+(if x == 0 then 1 else 0):=by
     rw[gW,Z,sv,ib]
     grind
    have Uu:IntKind.wrap .i64 ((i:Int)+1)=((i+1:Nat):Int):=cD J;have oJ:=uL (λa=>a == (0:Int)) (A.take i);have hft:(A.take i).length=i:=ab
    have Is:IntKind.wrap .i64 ((((A.take i).filter λa=>a == 0).length:Int)+1)=((((A.take i).filter λa=>a == 0).length+1:Nat):Int):=cD J;simp(disch:=omega)only[bk,↓reduceIte,Nat.reduceAdd,Nat.reduceSub,Nat.reduceMul,Nat.reduceLT,Nat.reduceLeDiff,Nat.reduceEqDiff,Int.reduceBEq,Int.reduceLT,Int.reduceNeg,hgx,ix Z,Uu,Is];refine⟨λau=>?_,λau=>?_⟩
    ·refine⟨A.length-(i+1),J,i+1,rfl,J,?_,rfl,rfl⟩;rw[es,if_pos au]
    ·refine⟨A.length-(i+1),J,i+1,rfl,J,?_,rfl,rfl⟩
     grind
   ·have:i=A.length:=J
    subst this;rw[ic,if_neg J];exact⟨rfl,M,J⟩
  ·have hw:((k == 5):al)=false:=ab
   refine Hf @a9 @dZ @bY @hw ?_;rw[if_neg (λh=>h.1)];exact hn
theorem alK{n:Nat}{h:ae}{U:Nat}(M:1<=n)(L:n<=8):aE Q s 220 [(n:X)] h U (fs (.bool true) U h):=by
 refine acj ?_;unfold RH;refine aG ?_;refine⟨λ_=>⟨?_,rfl,rfl⟩,λh=>absurd h J⟩
 grind
theorem alL{h:ae}{U:Nat}(Z:1<=C)(V:C<=8)(ag:i<8)(b5:j<C):aE Q s 311 [(C:X),(i:X),(j:X)] h U (fs (((i*C+j:Nat):X)) U h):=by
 refine aoD ?_;refine(alK Z V).mono ?_;rintro _ _ _ ⟨rfl,rfl,rfl⟩;have aW:i*C<64:=by have:i*C<=7*8:=sA J V;omega
 have M:IntKind.wrap .i64 ((i:Int)*(C:Int))=((i*C:Nat):Int):=by rw[<-Int.natCast_mul];exact ie _ J
 have L:IntKind.wrap .i64 (((i*C:Nat):Int)+(j:Int))=((i*C+j:Nat):Int):=by rw[<-wm];exact ie _ J
 refine aG ?_;unfold CQ;refine cN @M @L ?_;refine⟨λh=>absurd h J,λ_=>⟨λh=>absurd h J,λ_=>⟨λh=>absurd h J,λ_=>⟨λh=>absurd h J,λ_=>?_⟩⟩⟩⟩;rw[yk,M];simp only[af,P2,L];exact⟨rfl,rfl,rfl⟩
def dy(c:Nat->X):aa X:=[c 0,c 1,c 2,c 3,c 4,c 5,c 6,c 7,c 8,c 9,c 10,c 11,c 12,c 13,c 14,c 15,c 16,c 17,c 18,c 19,c 20,c 21,c 22,c 23,c 24,c 25,c 26,c 27,c 28,c 29,c 30,c 31,c 32,c 33,c 34,c 35,c 36,c 37,c 38,c 39,c 40,c 41,c 42,c 43,c 44]
def hi(c:Nat->X)(k:Nat)(v:X):Nat->X:=λn=>if n=k then v else c n
structure eB where
 kind:Int
 eu:Int
 l6:Int
 hM:Int
 round:Int
 mm:Int
 bp:aw Addr
 n6:Nat
 hQ:Nat
 ba:aw Addr
 n7:Nat
 jh:Nat
 bv:aw Addr
 n8:Nat
 hc:Nat
 n:Int
 oC:al
def eg(f:eB):aa X:=[(f.kind:X),(f.eu:X),(f.l6:X),(f.hM:X),(f.round:X),(f.mm:X),.slice f.bp f.n6 f.hQ,.slice f.ba f.n7 f.jh,.slice f.bv f.n8 f.hc,(f.n:X),.bool f.oC]
theorem FV{L:Nat}{h:ae}{U:Nat}(M:u h L=some (.cells (dy c) bG))(V:1<=C)(mc:C<=8)(ag:i<8)(b5:j<C)(Z:c 8 = (C:X)):aE Q s 219 [bf L,(i:X),(j:X)] h U (fs (((i*C+j:Nat):X)) U h):=by refine aoE ?_;unfold acm;unfold dy at M;refine cN @M @Z ?_;exact alL V mc ag b5
theorem as9{n0 jx z2 z3 z4 V M ss Z VU L:X}:rI (pS []) 0 11 [aC,aD,a2,a3,aZ,bA,bp,ba,bv,cF,dd] [n0,jx,z2,z3,z4,V,M,ss,Z,VU,L] = .ok [aC,aD,a2,a3,aZ,bA,bp,ba,bv,cF,dd]:=rfl
def Dr(It:Int)(round n:Int)(oC:al):eB:=⟨4,It,0,0,round,0,none,0,0,none,0,0,none,0,0,n,oC⟩
theorem aAu{x y:GE}(h:kT (dJ x) (dJ y)):nn x y:=by
 rcases h with h|⟨L,M⟩
 ·exact .inl (by have:(x.f:Int)<y.f:=h;omega)
 ·exact .inr ⟨by have:(x.f:Int)=y.f:=L;omega,by have:(x.t:Int)<y.t:=M;omega⟩
theorem ata{Z:aa GE}{N:Nat}(h:kL (Z.map dJ) (ai.map dJ))(L:∀g∈ai,g7 N g)(V:N<=4096)(bo:ai.length<=120):hh N N ai :=
 ⟨(wl.1 h.up).imp aAu,λg M=>(L g M).1,λg M=>(L g M).2.1,V,V,bo⟩
theorem awb{h:ae}{U n k:Nat}{rd:al}{l:aa X}(M:0<k)(V:l.length=n*k)(bh:u h b=some (.cells cs rd))(L:u h b3=some (.cells l bG))(au:0<n)(h1:n*k<1000000):
  dM k h U (.slice (some ⟨b,0,none⟩) 0 0) (.slice (some ⟨b3,0,li⟩) n c2) = .ok (.val (.slice (some ⟨U,0,some k⟩) n n) (T h U (.cells l false)) (U+1)):=by
 have hnk:n<=n*k:=Cx n M;have Z:lr h (some ⟨b3,0,li⟩) (n.mul k) (λnew=>gZ k h U (some ⟨b,0,none⟩) 0 0 n new)=gZ k h U (some ⟨b,0,none⟩) 0 0 n l:=by
  rw[show n.mul k=l.length from V.symm,rD L J J]
  grind
 show lr h (some ⟨b3,0,li⟩) (n.mul k) (λnew=>gZ k h U (some ⟨b,0,none⟩) 0 0 n new)=_;rw[Z];unfold gZ;rw[show Nat.ble (Nat.add 0 n) 0=false by
  cases L:Nat.ble (Nat.add 0 n) 0 with
  |false=>rfl
  |true=>have:=lX L;grind]
 rw[show(Nat.ble (Nat.mul (Nat.add 0 n) k) 1000000&&Nat.ble (Nat.add 0 n) 1000000)=true by
  simp only[eo,pK]
  grind]
 unfold pU;simp only[uT bh];rw[show m8 (Nat.mul 0 k) (mY cs 0)=some [] by rw[x5,lY];rfl];show pT h U k (ks [] l) (0+n)=_;rw[jK,sy,iE];exact pN M
def yZ(c:Int × Int):aa X:=[(c.1:X),(c.2:X)]
theorem ao5(l:aa (Int × Int)):(a7 yZ l).length=l.length*2:=by
 induction l with
 |nil=>rfl
 |cons x l L=>show(yZ x++a7 yZ l).length=_;rw[ib,L,nC];show 2+_=_;omega
theorem aAv:nD Tryz.prog 43=true:=by kernel_rfl
theorem ao6{h:ae}{U:Nat}{v:X}{l:aa (Int × Int)}(aI:cL h U v yZ l)(bo:l.length<100000):
  aE Q s 122 [v] h U (λr ac Y=>eJ ac U Y r yZ l/\aA U h ac/\U<=Y):=by
 refine asP ?_;obtain⟨a,cap,rfl,Z⟩:=id aI;unfold aeE;simp(disch:=omega)only[bk,Al aAv,seval];refine⟨λV=>⟨?_,aM⟩,λV=>?_⟩
 ·have:l=[]:=ab
  subst this;exact⟨none,0,rfl,λh=>absurd rfl h⟩
 have L:aA U h (T h U (.cells [] false)):=aM
 rcases JF (l=[])with e|e
 ·subst e;exact⟨⟨some ⟨U,0,none⟩,0,rfl,λh=>absurd rfl h⟩,L,J⟩
 ·obtain⟨b,aB,bG,M,rfl,aY⟩:=Z e;rw[awb  J (ao5 _) (aR _ _ _) ((L b M).trans aY) ab J];exact⟨⟨some ⟨U+1,0,some 2⟩,l.length,rfl,λ_=>⟨U+1,some 2,false,J,J,rfl,ab⟩⟩,aM,J⟩
theorem atb{x:iV}(h:hq x=0):kv x.k x.n x.src x.len x.bR x.c9 x.es=0/\i5 x.k x.n x.src x.len x.bR=0/\x.c9=x.n/\0<=x.n/\x.n<=4096/\1<=x.R/\x.R<=8/\1<=x.C/\x.C<=8/\x.vP<=8192:=by
 unfold hq at h
 by_cases Z:q0 x.k x.n x.src x.len x.bR x.c9 x.es x.lim=0
 case neg=>omega
 rw[if_neg J]at h;have V:kh x.R 8=true:=ab
 have M:kh x.C 8=true:=ab
 have h9:kh x.M 64=true:=ab
 rw[V,M,h9,if_neg (by simp),if_neg (by simp),if_neg (by simp)]at h;have V:=of_decide_eq_true V;have M:=of_decide_eq_true M;have L:kv x.k x.n x.src x.len x.bR x.c9 x.es=0:=by unfold q0 at Z;omega
 have a6:i5 x.k x.n x.src x.len x.bR=0:=by unfold kv at L;omega
 unfold kv at L ⊢;rw[if_neg J]at L ⊢
 by_cases e:x.c9=x.n
 case neg=>omega
 rw[if_neg J]at L ⊢;have bc:=L;unfold lq at bc;omega
def Iu(I eF k n src len:Int)(bg:aw Addr)(uz gw:Nat)(R C lim:Int)(bM:aw Addr)(xQ hj:Nat):Nat->X
 |0=>.int .i64 I
 |1=>.int .i64 eF
 |2=>.int .i64 k
 |3=>.int .i64 n
 |4=>.int .i64 src
 |5=>.int .i64 len
 |6=>.slice bg uz gw
 |7=>.int .i64 R
 |8=>.int .i64 C
 |9=>.int .i64 lim
 |10=>.slice bM xQ hj
 |11=>.int .i64 0
 |12=>.int .i64 0
 |13=>.slice none 0 0
 |14=>.slice none 0 0
 |15=>.slice none 0 0
 |16=>.int .i64 0
 |17=>.int .i64 0
 |18=>.slice none 0 0
 |19=>.slice none 0 0
 |20=>.slice none 0 0
 |21=>.slice none 0 0
 |22=>.slice none 0 0
 |23=>.int .i64 1
 |24=>.map none
 |25=>.int .i64 1
 |26=>.int .i64 0
 |27=>.int .i64 0
 |28=>.int .i64 0
 |29=>.int .i64 0
 |30=>.slice none 0 0
 |31=>.slice none 0 0
 |32=>.slice none 0 0
 |33=>.int .i64 0
 |34=>.int .i64 0
 |35=>.slice none 0 0
 |36=>.slice none 0 0
 |37=>.slice none 0 0
 |38=>.bool false
 |39=>.bool false
 |40=>.slice none 0 0
 |41=>.map none
 |42=>.int .i64 0
 |43=>.map none
 |44=>.bool false
 |_=>.bool false
theorem ao7{I k n R C:Int}:((rI (pS [(7,2,Value.agg ⟨[(R:X),(C:X)]⟩),(9,1,(lim:X)),(10,1,.slice bM xQ hj),(23,1,.int .i64 1),(25,1,.int .i64 1)]) 2 5 [(k:X),(n:X),(src:X),(len:X),.slice bg uz gw] [(I:X),(eF:X),.int .i64 0,.int .i64 0,.int .i64 0,.int .i64 0,.slice none 0 0,.int .i64 0,.int .i64 0,.int .i64 0,.slice none 0 0,.int .i64 0,.int .i64 0,.slice none 0 0,.slice none 0 0,.slice none 0 0,.int .i64 0,.int .i64 0,.slice none 0 0,.slice none 0 0,.slice none 0 0,.slice none 0 0,.slice none 0 0,.int .i64 0,.map none,.int .i64 0,.int .i64 0,.int .i64 0,.int .i64 0,.int .i64 0,.slice none 0 0,.slice none 0 0,.slice none 0 0,.int .i64 0,.int .i64 0,.slice none 0 0,.slice none 0 0,.slice none 0 0,.bool false,.bool false,.slice none 0 0,.map none,.int .i64 0,.map none,.bool false]).bind λl=>.ok (Value.agg ⟨l⟩)) = .ok (Value.agg ⟨dy (Iu I eF k n src len bg uz gw R C lim bM xQ hj)⟩):=rfl
theorem ayJ{I k n R C:Int}:dn (.agg ⟨dy (Iu I eF k n src len bg uz gw R C lim bM xQ hj)⟩)=dy (Iu I eF k n src len bg uz gw R C lim bM xQ hj):=rfl
theorem ayK{I k n R C:Int}:d4 (dy (Iu I eF k n src len bg uz gw R C lim bM xQ hj))=true:=rfl
def nJ(c:Nat->X)(k:Nat)(l:aa X):Nat->X:=λn=>if k<=n/\n<k+l.length then(l[n-k]?).getD (.bool false)else c n
theorem atc{h:ae}{k:ae->Prop}:af (jQ (some (.cells (dy c) false)) h b 11 [k1,v1,v2,v3,v4]) k↔d4 [k1,v1,v2,v3,v4]=true/\k (T h b (.cells (dy (nJ c 11 [k1,v1,v2,v3,v4])) false)):=AD.trans ⟨λx=>⟨x.1,x.2.2⟩,λx=>⟨x.1,by show 16<=45;omega,x.2⟩⟩
theorem atd{h:ae}{L:X}{k:ae->Prop}:af (jQ (some (.cells (dy c) false)) h b 16 [k1,v1,v2,v3,v4,L]) k↔d4 [k1,v1,v2,v3,v4,L]=true/\k (T h b (.cells (dy (nJ c 16 [k1,v1,v2,v3,v4,L])) false)):=AD.trans ⟨λx=>⟨x.1,x.2.2⟩,λx=>⟨x.1,by show 22<=45;omega,x.2⟩⟩
theorem ate{h:ae}{k:ae->Prop}:af (jQ (some (.cells (dy c) false)) h b 28 [k1,v1,v2,v3,v4]) k↔d4 [k1,v1,v2,v3,v4]=true/\k (T h b (.cells (dy (nJ c 28 [k1,v1,v2,v3,v4])) false)):=AD.trans ⟨λx=>⟨x.1,x.2.2⟩,λx=>⟨x.1,by show 33<=45;omega,x.2⟩⟩
theorem atf{h:ae}{k:ae->Prop}:af (jQ (some (.cells (dy c) false)) h b 33 [k1,v1,v2,v3,v4]) k↔d4 [k1,v1,v2,v3,v4]=true/\k (T h b (.cells (dy (nJ c 33 [k1,v1,v2,v3,v4])) false)):=AD.trans ⟨λx=>⟨x.1,x.2.2⟩,λx=>⟨x.1,by show 38<=45;omega,x.2⟩⟩
theorem atg:hB (some 5) 11 (dy (nJ c 11 [k1,v1,v2,v3,v4])) = .ok (.agg ⟨[k1,v1,v2,v3,v4]⟩):=rfl
theorem ath:hB (some 5) 28 (dy (nJ c 28 [k1,v1,v2,v3,v4])) = .ok (.agg ⟨[k1,v1,v2,v3,v4]⟩):=rfl
theorem G3{c:Nat->X}:(dy c).length=45:=rfl
theorem ati{v:X}:(dy c).set 6 v=dy (hi c 6 v):=rfl
theorem ao8{v:X}:(dy c).set 24 v=dy (hi c 24 v):=rfl
theorem ao9{v:X}:(dy c).set 41 v=dy (hi c 41 v):=rfl
theorem apa{v:X}:(dy c).set 43 v=dy (hi c 43 v):=rfl
def ep{az:Type}(h:ae)(U:Nat)(v:X)(enc:az->aa X)(k:Nat)(l:aa az):Prop :=
 ∃a cap,v = .slice a l.length cap/\(l≠[]->∃b o aB bG cs,b<U/\a=some ⟨b,o,aB⟩/\u h b=some (.cells cs bG)/\o+l.length*k<=cs.length/\(cs.drop o).take (l.length*k)=a7 enc l)
section
variable {az:Type} {h ac:ae} {U Y k:Nat} {v:X} {enc:az->aa X} {l:aa az}
theorem ep.F(H:ep h U v enc k l)(hk:aA U h ac)(Z:U<=Y):ep ac Y v enc k l:=by obtain⟨a,cap,e,H⟩:=H;refine⟨a,cap,e,λbo=>?_⟩;obtain⟨b,o,aB,bG,cs,V,M,ao,L⟩:=H bo;exact⟨b,o,aB,bG,cs,J,M,(hk b V).trans ao,L⟩
theorem cL.o(M:∀x,(enc x).length=k)(H:cL h U v enc l):ep h U v enc k l:=by
 obtain⟨a,cap,e,H⟩:=H;refine⟨a,cap,e,λL=>?_⟩;obtain⟨b,aB,bG,Z,V,ao⟩:=H L;have:=fN M l
 grind
theorem ep.form(H:ep h U v enc k l):∃a c,v = .slice a l.length c:=by obtain⟨a,cap,e,_⟩:=H;grind
theorem ep.nil{a:aw Addr}{c:Nat}:ep h U (.slice a 0 c) enc k ([]:aa az):=⟨a,c,rfl,λh=>absurd rfl h⟩
theorem N2{o n k:Nat}{l:aa az}(Z:∀x,(enc x).length=k)(bw:n=l.length*k)(V:(cs.drop o).take n=a7 enc l){x:az}(L:l[i]? = some x):(cs.drop (o+i*k)).take k=enc x:=by
 have M:=sD Z L;rw[<-V,Ft,x3,List.take_take]at M
 grind
theorem ep.ld(H:ep h U v enc k l)(Z:∀x,(enc x).length=k){x:az}(L:l[i]? = some x):
  ∃b o aB bG cs cap,b<U/\v = .slice (some ⟨b,o,aB⟩) l.length cap/\u h b=some (.cells cs bG)/\hB (some k) (o+i*k) cs = .ok (.agg ⟨enc x⟩):=by obtain⟨a,cap,e,H⟩:=H;obtain⟨b,o,aB,bG,cs,M,rfl,V,h1,ao⟩:=H ab;have ag:=(fb.1 L).1;have:(i+1)*k<=l.length*k:=qD k ag;rw[z8]at this;refine⟨b,o,aB,bG,cs,cap,M,e,V,?_⟩;rw[o3,if_pos J,N2 Z rfl ao L]
theorem ep.ld1{enc:az->X}(H:ep h U v (λx=>[enc x]) 1 l){x:az}(M:l[i]? = some x):
  ∃b o aB bG cs cap,b<U/\v = .slice (some ⟨b,o,aB⟩) l.length cap/\u h b=some (.cells cs bG)/\cs[o+i]? = some (enc x):=by
 obtain⟨a,cap,e,H⟩:=H;obtain⟨b,o,aB,bG,cs,V,rfl,Z,h1,ao⟩:=H ab;refine⟨b,o,aB,bG,cs,cap,V,e,Z,?_⟩;have L:=N2  ab rfl ao M;rw[z9]at L;have:((cs.drop (o+i)).take 1)[0]? = some (enc x):=ab
 grind
theorem Ag:∀(l m:aa az),a7 enc (l++m)=a7 enc l++a7 enc m
 | [],m=>rfl
 |x::l,m=>by show enc x++a7 enc (l++m)=(enc x++a7 enc l)++a7 enc m;rw[Ag l m,kl]
theorem aak(L:∀x,(enc x).length=k)(l:aa az)(i j:Nat):((a7 enc l).drop (i*k)).take ((j-i)*k)=a7 enc ((l.drop i).take (j-i)):=by
 have Z:a7 enc l=a7 enc (l.take i)++a7 enc (l.drop i):=by rw[<-Ag,List.take_append_drop]
 have V:a7 enc (l.drop i)=a7 enc ((l.drop i).take (j-i))++a7 enc ((l.drop i).drop (j-i)):=by rw[<-Ag,List.take_append_drop]
 by_cases ag:i<=l.length
 ·rw[Z,Fa (by rw[fN L,oc];grind),Jk (by rw[fN L,oc,z6 ag];omega),sy]
  by_cases M:j-i<=(l.drop i).length
  ·rw[V,zR (by rw[fN L,oc,z6 M];omega),o2 (by rw[fN L,oc,z6 M];omega)]
  ·rw[o2 (l:=l.drop i) J,o2 (by rw[fN L];exact qD k J)]
 ·rw[Jk (J:l.length<=i),Jk (by rw[fN L];exact qD k J)];simp[a7]
theorem atj{o n cap:Nat}(c0:aB≠some 0)(h1:i<=j)(ao:j<=n)(aT:n<=cap)(k:Nat):
  ∃Z hj,gi k (.slice (some ⟨b,o,aB⟩) n cap) (some (i:X)) (some (j:X)) none = .ok (.slice Z (j-i) hj)/\(i<j->∃V,Z=some ⟨b,o+i*k,V⟩):=by
 have e:gi k (.slice (some ⟨b,o,aB⟩) n cap) (some (i:X)) (some (j:X)) none=k6 k (some ⟨b,o,aB⟩) cap false cap j i:=rfl;rw[e];unfold k6;rw[show(Nat.ble cap cap&&(Nat.ble j cap&&Nat.ble i j))=true by simp;omega];unfold o6
 by_cases e:cap=i
 ·subst e;have M:j=cap:=J
  subst M;rw[uP];unfold k5 An xf L7;cases aB with
  |none=>grind
  |some q =>
   cases q with
   |zero=>grind
   |succ q=>exact⟨_,_,by simp;exact⟨rfl,rfl⟩,λh=>absurd h J⟩
 ·have L:Nat.beq cap i=false:=by
   cases L:Nat.beq cap i with
   |true=>exact absurd (gr L) e
   |false=>rfl
  rw[L];exact⟨_,_,rfl,λ_=>⟨_,rfl⟩⟩
theorem ep.clone(H:ep h U v enc k l)(hk:∀x,(enc x).length=k)(M:0<k)(bo:l.length*k<1000000){L:aa X}{ro0:al}(V:u ac b=some (.cells L ro0))(MJ:aA U h ac)(HU:U<=Y):
  (l=[]/\∃w,(w = .slice none 0 0\/∃b,w = .slice (some ⟨b,0,none⟩) 0 0)/\dM k ac Y (.slice (some ⟨b,0,none⟩) 0 0) v = .ok (.val w ac Y))\/(l≠[]/\dM k ac Y (.slice (some ⟨b,0,none⟩) 0 0) v = .ok (.val (.slice (some ⟨Y,0,some k⟩) l.length l.length) (T ac Y (.cells (a7 enc l) false)) (Y+1))):=by
 obtain⟨a,cap,rfl,H⟩:=H;rcases JF (l=[])with e|e
 ·subst e;refine .inl ⟨rfl,.slice (some ⟨b,0,none⟩) 0 0,ab,?_⟩;show lr ac a (Nat.mul 0 k) (λnew=>gZ k ac Y (some ⟨b,0,none⟩) 0 0 0 new)=_;rw[show Nat.mul 0 k=0 from lY k];rfl
 ·right
  refine⟨e,?_⟩;obtain⟨b3,db,aB,bG,cs,Z,rfl,aY,h1,ao⟩:=H e;have aY:=(MJ b3 Z).trans aY;have au:=zY.2 e;have hnk:l.length<=l.length*k:=Cx _ M;have bc:lr ac (some ⟨b3,db,aB⟩) (l.length.mul k) (λnew=>gZ k ac Y (some ⟨b,0,none⟩) 0 0 l.length new)=gZ k ac Y (some ⟨b,0,none⟩) 0 0 l.length (a7 enc l):=by
   rw[rD aY ab ab]
   grind
  show lr ac (some ⟨b3,db,aB⟩) (l.length.mul k) (λnew=>gZ k ac Y (some ⟨b,0,none⟩) 0 0 l.length new)=_;rw[bc];unfold gZ;rw[show Nat.ble (Nat.add 0 l.length) 0=false by
   cases V:Nat.ble (Nat.add 0 l.length) 0 with
   |false=>rfl
   |true=>have:=lX V;grind]
  rw[show(Nat.ble (Nat.mul (Nat.add 0 l.length) k) 1000000&&Nat.ble (Nat.add 0 l.length) 1000000)=true by
   simp only[eo,pK]
   grind]
  unfold pU;simp only[uT V];rw[show m8 (Nat.mul 0 k) (mY L 0)=some [] by rw[x5,lY];rfl];show pT ac Y k (ks [] (a7 enc l)) (0+l.length)=_;rw[jK,sy,iE];exact pN M
def iP{az:Type}(h:ae)(ap ag:Nat)(v:X)(enc:az->aa X)(k:Nat)(l:aa az):Prop :=
 (l=[]/\(v = .slice none 0 0\/∃b,v = .slice (some ⟨b,0,none⟩) 0 0))\/∃b,ap<=b/\b<ag/\v = .slice (some ⟨b,0,some k⟩) l.length l.length/\u h b=some (.cells (a7 enc l) false)
theorem iP.form{ap ag:Nat}(H:iP h ap ag v enc k l):∃a c,v = .slice a l.length c:=by
 rcases H with⟨rfl,rfl|⟨b,rfl⟩⟩|⟨b,_,_,rfl,_⟩ <;> exact⟨_,_,rfl⟩
theorem iP.gv{ap ag:Nat}(H:iP h ap ag v enc k l):eJ h ap ag v enc l:=by
 rcases H with⟨rfl,rfl|⟨b,rfl⟩⟩|⟨b,M,V,rfl,L⟩
 ·exact⟨_,_,rfl,λh=>absurd rfl h⟩
 ·exact⟨_,_,rfl,λh=>absurd rfl h⟩
 ·exact⟨_,_,rfl,λ_=>⟨b,_,false,M,V,rfl,L⟩⟩
theorem iP.F{ap ag ec dk:Nat}(H:iP h ap ag v enc k l)(L:∀b,ap<=b->b<ag->u ac b=u h b)(M:ec<=ap)(V:ag<=dk):iP ac ec dk v enc k l:=by
 rcases H with H|⟨b,aD,a2,a3,aZ⟩
 ·exact .inl H
 ·exact .inr ⟨b,J,J,a3,ab⟩
theorem eb.f{ap ag:Nat}(H:eb h v enc k l ap ag):iP h ap ag v enc k l:=by
 rcases H with⟨Z,aK⟩|⟨b,L,V,e,M⟩
 ·exact .inl ab
 ·exact .inr ⟨b,L,V,e,M⟩
theorem acA{P:Program}{t:TypeId}(H:ep h U v enc k l)(hk:∀x,(enc x).length=k)(M:0<k)(bo:l.length*k<1000000)(cq:nD P t=true)(L:∀r ac Y,iP ac U Y r enc k l->aA U h ac->U<=Y->K r ac Y):
  af (bin P .eql t v (.slice none 0 0)) λiD=>br iD (K (.slice none 0 0) h U) (dY (fc 0 [] []) h U λkY Z dP=>dG (dO (dM k Z dP kY v)) λB3 cy n7=>K B3 cy n7):=by
 have sp:=H;obtain⟨a,cap,rfl,ji⟩:=id H;have V:aA U h (T h U (.cells [] false)):=aM
 simp(disch:=omega)only[bk,Al cq,seval];refine⟨λau=>?_,λau=>?_⟩
 ·have:l=[]:=ab
  subst this;exact L _ _ _ (.inl ab) aM J
 rcases sp.clone hk M bo (aR h U (.cells [] false)) V (uQ U)with⟨rfl,w,bO,e⟩|⟨aL,e⟩
 ·rw[e];exact L _ _ _ (.inl ab) V J
 ·rw[e];exact L _ _ _ (.inr ⟨U+1,J,J,rfl,ab⟩) aM J
end
def ayL:cO:=λs ah t1 h U K=>aV s 220 [ah] h U λa b c=>af (du .not a) λd=>br d (K (ad (-1)) b c) (cG t1 (ad 0) (K (ad (-1)) b c) (bt .mul 3 ah (ad 8) λf=>bz .geq 3 t1 f (K (ad (-1)) b c) (bt .quo 3 t1 ah λi=>K i b c)))
theorem awc:cX 131 ayL:=cZ []
def ayM:cO:=λs ah t1 h U K=>aV s 131 [ah,t1] h U λa b c=>cG a (ad 0) (K (ad (-1)) b c) (bt .rem 3 t1 ah λe=>K e b c)
theorem awd:cX 132 ayM:=cZ []
def air:cO:=λs ah t1 h U K=>aV s 235 [ah,t1] h U λa b c=>bt .geq 3 a (ad 0) λd=>K d b c
theorem ain:cX 141 air:=cZ []
def apb:cU:=λs ah h U K=>bz .eql 95 ah ay (K ay h U) (dY (fc 0 [] []) h U λb c d=>dG (dO (dM 2 c d b ah)) λe f g=>K e f g)
theorem alM:cW 217 apb:=cY []
def apc:cU:=λs ah h U K=>bz .eql 98 ah ay (K ay h U) (dY (fc 0 [] []) h U λb c d=>dG (dO (dM 3 c d b ah)) λe f g=>K e f g)
theorem alN:cW 218 apc:=cY []
def N5:aa (aa Nat):=[[0,1,4,7,8]]
def Wx(s:al)(aC aD aZ ba bv:X)(h:ae)(U:Nat)(N:aP)(aL:aP)(R:aP):Prop:=cG bv ba (d2 h 1 aC bv λc=>eQ Q s (hU h U [c] aD) λd e f=>br d (R [aC,aD,bv,ba,bv] e f) (cj bv λg=>N [aC,aD,aZ,ba,g] e f)) (aL [aC,aD,aZ,ba,bv] h U)
def WJ:cO:=λs ah t1 h U K=>cP ah λa=>bE (bU Q s N5 235 0) [ah,t1,(ad 0),a,(ad 0)] h U [(0,λb c d=>K (ad (-1)) c d)] (λe f g=>K (bb e 2) f g)
theorem aix{h:ae}{U:Nat}:bU Q s N5 235 0 [aC,aD,aZ,ba,bv] h U N [(0,aL)] R=Wx s aC aD aZ ba bv h U N aL R:=by kernel_rfl
theorem aiD:cX 235 WJ:=cZ N5
def QE:aa (aa Nat):=[[0,3,4]]
def aal(s:al)(aC a3 aZ:X)(h:ae)(U:Nat)(N:aP)(aL:aP)(R:aP):Prop:=cP aC λa=>cG aZ a (d2 h 1 aC aZ λd=>af (min2 true a3 d) λe=>cj aZ λf=>N [aC,e,f] h U) (aL [aC,a3,aZ] h U)
def aeO:cU:=λs ah h U K=>cP ah λa=>cG a (ad 1) (af (.ok (Value.iface 9 (.string ⟨#[115,108,105,99,101,115,46,77,105,110,58,32,101,109,112,116,121,32,108,105,115,116]⟩))) λc=>False) (d2 h 1 ah (ad 0) λe=>bE (bU Q s QE 244 0) [ah,e,(ad 1)] h U [(0,λf g i=>K (bb f 1) g i)] (λ_ _ _=>False))
theorem apd{h:ae}{U:Nat}:bU Q s QE 244 0 [aC,a3,aZ] h U N [(0,aL)] R=aal s aC a3 aZ h U N aL R:=by kernel_rfl
theorem atk:cW 244 aeO:=cY QE
def acB:cU:=λs ah h U K=>bH ah h U λa b c=>ax b 0 a λe=>aV s 384 [e,(ad 4096)] b c λf g i=>af (du .not f) λj=>br j (K (.bool false) g i) (bX [(ad 0)] g i λk l m=>af (aS l 1 k (ad (-1))) λn=>ax n 1 a λp=>af (.ok (.func (.func 386) ⟨[]⟩ ⟨[k,a]⟩)) λq=>aV s 385 [p,q] n m λr t aO=>af (du .not r) λv=>K v t aO)
theorem ape:cW 312 acB:=cY []
def acC:cU:=λs ah h U K=>bH ah h U λa b c=>aN 5 b a λd=>aV s 293 [d] b c λe f g=>af (w1 3 none e) λi=>cP i λj=>K j f g
theorem apf:cW 322 acC:=cY []
def ais:cO:=λs ah t1 h U K=>aV s 395 [ah,t1] h U λa b c=>bt .geq 3 a (ad 0) λd=>K d b c
theorem aio:cX 325 ais:=cZ []
def N3:aa (aa Nat):=[[0,1,5,6]]
def Wt(s:al)(aC aD bA bp:X)(h:ae)(U:Nat)(N:aP)(aL:aP)(R:aP):Prop:=cP aC λa=>cG bp a (gT 3 h 3 aC bp λd=>bX [(ad 0),(ad 0),(.int .u64 0)] h U λe f g=>af (aS f 3 e d) λi=>aN 3 i e λj=>eQ Q s (hU i g [j] aD) λk l m=>af (du .not k) λn=>br n (aN 3 l e λo=>hx 3 aC bA λp=>af (aS l 3 p o) λq=>cj bA λr=>cj bp λt=>N [aC,aD,r,t] q m) (cj bp λaO=>N [aC,aD,bA,aO] l m)) (aL [aC,aD,bA,bp] h U)
def aiE:cO:=λs ah t1 h U K=>aV s 396 [ah,t1] h U λa b c=>bz .eql 3 a (ad (-1)) (K ah b c) (cj a λe=>bE (bU Q s N3 332 0) [ah,t1,a,e] b c [(0,λf g i=>af (gi 3 (bb f 0) (some (bb f 2)) none none) λj=>dG (dO (nE Q .clear [98] g i [j])) λk l m=>af (gi 3 (bb f 0) none (some (bb f 2)) none) λn=>K n l m)] (λ_ _ _=>False))
theorem ait{h:ae}{U:Nat}:bU Q s N3 332 0 [aC,aD,bA,bp] h U N [(0,aL)] R=Wt s aC aD bA bp h U N aL R:=by kernel_rfl
theorem aiy:cX 332 aiE:=cZ N3
def YC:ge:=λs ah t1 t2 h U K=>cP ah λa=>af (gi 1 ah (some t1) (some t2) (some a)) λb=>bz .eql 3 t1 t2 (K ah h U) (cP ah λd=>af (gi 1 ah none (some t1) none) λe=>af (gi 1 ah (some t2) none none) λf=>dG (dO (dM 1 h U e f)) λg i j=>U<=j/\cP g λk=>af (gi 1 g (some k) (some d) none) λl=>dG (dO (nE Q .clear [62] i j [l])) λm n o=>K g n o)
theorem ajV:gp 348 YC:=gu []
def aam:cO:=λs ah t1 h U K=>bz .geq 3 ah (ad 0) (bt .leq 3 ah t1 λb=>K b h U) (K (.bool false) h U)
theorem alO:cX 384 aam:=cZ []
def aiu:cO:=λs ah t1 h U K=>aV s 444 [ah,t1] h U λa b c=>bt .geq 3 a (ad 0) λd=>K d b c
theorem aip:cX 385 aiu:=cZ []
def aan:ge:=λs ah t1 t2 h U K=>bH ah h U λa b c=>ax b 0 a λe=>bS b t1 λf=>bz .leq 3 e f (ax b 0 a λj=>af (aS b 1 t1 j) λk=>K (.bool true) k c) (ax b 0 a λm=>ax b 0 t2 λo=>bt .geq 3 m o λp=>ax b 0 a λr=>af (aS b 1 t1 r) λt=>K p t c)
theorem alP:gp 386 aan:=gu []
def QF:aa (aa Nat):=[[2,3,4,8,9,10]]
def aao(s:al)(a2 a3 aZ bv cF dd:X)(h:ae)(U:Nat)(N:aP)(aL:aP)(R:aP):Prop:=cG dd cF (gT 2 h 2 bv dd λc=>bX [(ad 0),ay] h U λd e f=>af (aS e 2 d c) λg=>ax g 0 aZ λj=>bX [(ad 0)] g f λk l m=>af (aS l 1 k j) λn=>aN 2 n d λo=>af (.ok (.func (.func 446) ⟨[]⟩ ⟨[k]⟩)) λp=>aV s 445 [o,p] n m λq r t=>af (aS r 2 d q) λaO=>ax aO 0 d λw=>ax aO 0 aZ λy=>bt .sub 3 (ad 4096) y λz=>jY w z (af (cV [(ad 0),ay] []) λbV=>af (aS aO 2 a2 bV) λbM=>R [a2,(ad 5),aZ,bv,cF,dd] bM t) (ax aO 1 aZ λbW=>ax aO 1 d λbI=>dG (dO (dM 2 aO t bW bI)) λcJ cB ds=>t<=ds/\bn 0 aZ λde=>bS cB de λeN=>c7 de eN (bn 0 d λam=>bS cB am λan=>c7 am an (ln eN an λeU=>af (cV [(ad 0),ay] [(0,1,eU),(1,1,cJ)]) λgG=>af (aS cB 2 aZ gG) λgU=>cj dd λgL=>N [a2,a3,aZ,bv,cF,gL] gU ds) 1 [aO]) 1 [aO])) (aL [a2,a3,aZ,bv,cF,dd] h U)
def aeP:cU:=λs ah h U K=>bX [(ad 0),ay] h U λa b c=>bX [(ad 0),ay] b c λd e f=>cP ah λg=>bE (bU Q s QF 387 0) [a,(ad 0),d,ah,g,(ad 0)] e f [(0,λi j k=>aN 2 j (bb i 2) λl=>af (aS j 2 (bb i 0) l) λm=>aN 2 m (bb i 0) λn=>K (.tuple ⟨[n,(ad 0)]⟩) m k)] (λo p q=>aN 2 p (bb o 0) λr=>K (.tuple ⟨[r,(bb o 1)]⟩) p q)
theorem apg{h:ae}{U:Nat}:bU Q s QF 387 0 [a2,a3,aZ,bv,cF,dd] h U N [(0,aL)] R=aao s a2 a3 aZ bv cF dd h U N aL R:=by kernel_rfl
theorem atl:cW 387 aeP:=cY QF
def OW:aa (aa Nat):=[[3,8,9,10]]
def Xz(s:al)(a3 bv cF dd:X)(h:ae)(U:Nat)(N:aP)(aL:aP)(R:aP):Prop:=cG dd cF (gT 2 h 2 bv dd λc=>bX [(ad 0),(ad 0)] h U λd e f=>af (aS e 2 d c) λg=>ax g 0 d λj=>dY (fc 1 [(ad 0)] [(0,1,j)]) g f λk l m=>dG (dO (dM 1 l m a3 k)) λn o p=>cj dd λq=>N [n,bv,cF,q] o p) (aL [a3,bv,cF,dd] h U)
def aap:cU:=λs ah h U K=>bH ah h U λa b c=>aN 2 b a λd=>aV s 447 [d] b c λe f g=>af (w1 1 none e) λi=>cP i λj=>bE (bU Q s OW 389 0) [ay,i,j,(ad 0)] f g [(0,λk l m=>K (bb k 0) l m)] (λ_ _ _=>False)
theorem ajW{h:ae}{U:Nat}:bU Q s OW 389 0 [a3,bv,cF,dd] h U N [(0,aL)] R=Xz s a3 bv cF dd h U N aL R:=by kernel_rfl
theorem alQ:cW 389 aap:=cY OW
def QG:aa (aa Nat):=[[2,5,11,12,13]]
def aaq(s:al)(a2 bA et ej gt:X)(h:ae)(U:Nat)(N:aP)(aL:aP)(R:aP):Prop:=cG gt ej (d2 h 1 et gt λc=>aN 6 h a2 λd=>aV s 449 [d,c] h U λe f g=>bz .geq 3 e (ad 0) (ax f 3 a2 λk=>cj e λl=>d2 f 1 k l λn=>ax f 3 a2 λp=>d2 f 1 p e λr=>bt .sub 3 n r λt=>ln bA t λaO=>cj gt λv=>N [a2,aO,et,ej,v] f g) (cj gt λw=>N [a2,bA,et,ej,w] f g)) (aL [a2,bA,et,ej,gt] h U)
def aeQ:cO:=λs ah t1 h U K=>bH ah h U λa b c=>aN 6 b a λd=>aV s 448 [d] b c λe f g=>af (aS f 6 a e) λi=>cP t1 λj=>bE (bU Q s QG 390 0) [a,(ad 0),t1,j,(ad 0)] i g [(0,λk l m=>K (bb k 1) l m)] (λ_ _ _=>False)
theorem aph{M V L:X}{h:ae}{U:Nat}:bU Q s QG 390 0 [a2,bA,M,V,L] h U N [(0,aL)] R=aaq s a2 bA M V L h U N aL R:=by kernel_rfl
theorem atm:cX 390 aeQ:=cZ QG
def N6:aa (aa Nat):=[[0,1,4,7,8]]
def Wy(s:al)(aC aD aZ ba bv:X)(h:ae)(U:Nat)(N:aP)(aL:aP)(R:aP):Prop:=cG bv ba (d2 h 1 aC bv λc=>eQ Q s (hU h U [c] aD) λd e f=>br d (R [aC,aD,bv,ba,bv] e f) (cj bv λg=>N [aC,aD,aZ,ba,g] e f)) (aL [aC,aD,aZ,ba,bv] h U)
def WK:cO:=λs ah t1 h U K=>cP ah λa=>bE (bU Q s N6 395 0) [ah,t1,(ad 0),a,(ad 0)] h U [(0,λb c d=>K (ad (-1)) c d)] (λe f g=>K (bb e 2) f g)
theorem aiz{h:ae}{U:Nat}:bU Q s N6 395 0 [aC,aD,aZ,ba,bv] h U N [(0,aL)] R=Wy s aC aD aZ ba bv h U N aL R:=by kernel_rfl
theorem aiF:cX 395 WK:=cZ N6
def N7:aa (aa Nat):=[[0,1,4,7,8]]
def N4(s:al)(aC aD aZ ba bv:X)(h:ae)(U:Nat)(N:aP)(aL:aP)(R:aP):Prop:=cG bv ba (gT 3 h 3 aC bv λc=>eQ Q s (hU h U [c] aD) λd e f=>br d (R [aC,aD,bv,ba,bv] e f) (cj bv λg=>N [aC,aD,aZ,ba,g] e f)) (aL [aC,aD,aZ,ba,bv] h U)
def Oa:cO:=λs ah t1 h U K=>cP ah λa=>bE (bU Q s N7 396 0) [ah,t1,(ad 0),a,(ad 0)] h U [(0,λb c d=>K (ad (-1)) c d)] (λe f g=>K (bb e 2) f g)
theorem Wz{h:ae}{U:Nat}:bU Q s N7 396 0 [aC,aD,aZ,ba,bv] h U N [(0,aL)] R=N4 s aC aD aZ ba bv h U N aL R:=by kernel_rfl
theorem WD:cX 396 Oa:=cZ N7
def aiv:cO:=λs ah t1 h U K=>aV s 396 [ah,t1] h U λa b c=>bt .geq 3 a (ad 0) λd=>K d b c
theorem aiq:cX 397 aiv:=cZ []
def ags:cO:=λs ah t1 h U K=>bH ah h U λa b c=>aN 2 b a λd=>aV s 447 [d] b c λe f g=>af (aS f 2 a e) λi=>aN 2 i a λj=>aV s 458 [j,t1] i g λk l m=>af (cp k 0) λn=>af (cp k 1) λo=>af (du .not o) λp=>br p (K (.tuple ⟨[(ad 0),(.bool false)]⟩) l m) (ax l 1 a λr=>hx 2 r n λt=>ax l 1 t λv=>K (.tuple ⟨[v,(.bool true)]⟩) l m)
theorem awe:cX 401 ags:=cZ []
def aeR:ge:=λs ah t1 t2 h U K=>cG t2 (ad 0) (K (ad 0) h U) (bz .geq 3 t2 t1 (K (ad 0) h U) (cj t2 λc=>aV s 126 [ah,t1,c] h U λd e f=>aV s 126 [ah,t1,t2] e f λg i j=>bt .sub 3 d g λk=>K k i j))
theorem atn:gp 404 aeR:=gu []
def aeS:ge:=λs ah t1 t2 h U K=>bH ah h U λa b c=>bH t1 b c λd e f=>bX [(ad 0),ay] e f λg i j=>aN 2 i a λk=>aV s 447 [k] i j λl m n=>af (aS m 2 a l) λo=>bS o d λp=>af (min2 false p (ad 0)) λq=>af (aS o 1 d q) λr=>bn 0 a λt=>bS r t λaO=>c7 t aO (af (min2 true t2 aO) λv=>bS r d λw=>bz .leq 3 v w (af (cV [(ad 0),ay] []) λy=>af (aS r 2 g y) λz=>aN 2 z g λbC=>K bC z n) (aN 2 r a λbV=>bS r d λbM=>aV s 458 [bV,bM] r n λbg bW b7=>af (cp bg 0) λbI=>af (cp bg 1) λcJ=>aN 2 bW a λcB=>aV s 458 [cB,v] bW b7 λds de eN=>af (cp ds 0) λam=>af (cp ds 1) λan=>ax de 0 a λgG=>ax de 1 a λgL=>af (gi 2 gL (some bI) (some am) none) λio=>af (cV [(ad 0),ay] [(0,1,gG),(1,1,io)]) λi0=>bX [(ad 0),ay] de eN λgH mj lQ=>af (aS mj 2 gH i0) λlR=>aN 2 lR gH λoX=>af (.ok (.func (.func 460) ⟨[]⟩ ⟨[d]⟩)) λqw=>aV s 445 [oX,qw] lR lQ λbm qz be=>bX [(ad 0),ay] qz be λi1 pC gf=>af (aS pC 2 i1 bm) λbi=>bS bi d λxP=>bt .sub 3 v xP λpB=>bn 0 i1 λlS=>af (aS bi 1 lS pB) λjC=>aN 2 jC i1 λv7=>af (aS jC 2 g v7) λaQ=>aN 2 aQ g λuD=>K uD aQ gf)) 1 [o]
theorem ato:gp 405 aeS:=gu []
def aar:cU:=λs ah h U K=>bz .eql 99 ah ay (K ay h U) (dY (fc 0 [] []) h U λb c d=>dG (dO (dM 3 c d b ah)) λe f g=>K e f g)
theorem alR:cW 406 aar:=cY []
def N8:aa (aa Nat):=[[0,1,4,7,8]]
def WA(s:al)(aC aD aZ ba bv:X)(h:ae)(U:Nat)(N:aP)(aL:aP)(R:aP):Prop:=cG bv ba (gT 2 h 2 aC bv λc=>eQ Q s (hU h U [c] aD) λd e f=>br d (R [aC,aD,bv,ba,bv] e f) (cj bv λg=>N [aC,aD,aZ,ba,g] e f)) (aL [aC,aD,aZ,ba,bv] h U)
def WL:cO:=λs ah t1 h U K=>cP ah λa=>bE (bU Q s N8 444 0) [ah,t1,(ad 0),a,(ad 0)] h U [(0,λb c d=>K (ad (-1)) c d)] (λe f g=>K (bb e 2) f g)
theorem aiA{h:ae}{U:Nat}:bU Q s N8 444 0 [aC,aD,aZ,ba,bv] h U N [(0,aL)] R=WA s aC aD aZ ba bv h U N aL R:=by kernel_rfl
theorem aiG:cX 444 WL:=cZ N8
def QH:aa (aa Nat):=[[1,4,5,17,18,19]]
def aas(s:al)(aD aZ bA kR lD nO:X)(h:ae)(U:Nat)(N:aP)(aL:aP)(R:aP):Prop:=cG nO lD (gT 2 h 2 kR nO λc=>bX [(ad 0),(ad 0)] h U λd e f=>af (aS e 2 d c) λg=>aN 2 g d λi=>eQ Q true (hU g f [i] aD) λj k l=>f<=l/\bn 1 bA λm=>bS k m λn=>c7 m n (hx 2 n nO λo=>af (aS k 2 o j) λp=>cj nO λq=>N [aD,aZ,bA,kR,lD,q] p l) 1 [g]) (aL [aD,aZ,bA,kR,lD,nO] h U)
def aeT:cO:=λs ah t1 h U K=>bH ah h U λa b c=>bX [(ad 0),ay] b c λd e f=>aN 2 e a λg=>aV s 447 [g] e f λi j k=>af (aS j 2 a i) λl=>ax l 1 a λn=>cg 217 [n] l k λo p q=>bn 0 a λr=>bS p r λt=>c7 r t (af (cV [(ad 0),ay] [(0,1,t),(1,1,o)]) λaO=>bX [(ad 0),ay] p q λv w x=>af (aS w 2 v aO) λy=>ax y 1 v λbC=>cP bC λbV=>bE (bU Q s QH 445 0) [t1,d,v,bC,bV,(ad 0)] y x [(0,λbM bg bW=>aN 2 bg (bb bM 2) λb7=>af (aS bg 2 (bb bM 1) b7) λbI=>aN 2 bI (bb bM 1) λcJ=>K cJ bI bW)] (λ_ _ _=>False)) 1 [l]
theorem api{V L M:X}{h:ae}{U:Nat}:bU Q s QH 445 0 [aD,aZ,bA,V,L,M] h U N [(0,aL)] R=aas s aD aZ bA V L M h U N aL R:=by kernel_rfl
theorem atp:cX 445 aeT:=cZ QH
def acD:cO:=λs ah t1 h U K=>bH ah h U λa b c=>bX [(ad 0),(ad 0)] b c λd e f=>bS e t1 λg=>ax e 0 a λj=>ln g j λk=>ax e 1 a λm=>af (cV [(ad 0),(ad 0)] [(0,1,k),(1,1,m)]) λn=>af (aS e 2 d n) λo=>aN 2 o d λp=>K p o f
theorem apj:cX 446 acD:=cZ []
def aeU:cU:=λs ah h U K=>bH ah h U λa b c=>bX [(ad 0),ay] b c λd e f=>aN 2 e a λg=>aV s 312 [g] e f λi j k=>br i (aN 2 j a λl=>af (aS j 2 d l) λm=>aN 2 m d λn=>K n m k) (af (cV [(ad 0),ay] []) λo=>af (aS j 2 d o) λp=>aN 2 p d λq=>K q p k)
theorem atq:cW 447 aeU:=cY []
def aeV:cU:=λs ah h U K=>bH ah h U λa b c=>bX [(ad 0),(ad 0),ay,ay,ay,ay] b c λd e f=>aN 6 e a λg=>aV s 477 [g] e f λi j k=>br i (aN 6 j a λl=>af (aS j 6 d l) λm=>aN 6 m d λn=>K n m k) (aV s 205 [] j k λo p q=>af (aS p 6 d o) λr=>aN 6 r d λt=>K t r q)
theorem atr:cW 448 aeV:=cY []
def PA:aa (aa Nat):=[[1,2,5,6]]
def YD(s:al)(aD a2 bA bp:X)(h:ae)(U:Nat)(N:aP)(aL:aP)(R:aP):Prop:=cG bA bp (bt .sub 3 bp bA λb=>bt .quo 3 b (ad 2) λc=>ln bA c λd=>ax h 2 a2 λf=>d2 h 1 f d λi=>bz .eql 3 i aD (aL [aD,a2,d,bp] h U) (ax h 2 a2 λl=>d2 h 1 l d λn=>cG n aD (cj d λp=>N [aD,a2,p,bp] h U) (N [aD,a2,bA,d] h U))) (aL [aD,a2,bA,bp] h U)
def acE:cO:=λs ah t1 h U K=>bH ah h U λa b c=>ax b 2 a λe=>cP e λf=>bE (bU Q s PA 449 0) [t1,a,(ad 0),f] b c [(0,λg i j=>cG (bb g 2) (bb g 3) (K (bb g 2) i j) (K (ad (-1)) i j))] (λ_ _ _=>False)
theorem alS{h:ae}{U:Nat}:bU Q s PA 449 0 [aD,a2,bA,bp] h U N [(0,aL)] R=YD s aD a2 bA bp h U N aL R:=by kernel_rfl
theorem apk:cX 449 acE:=cZ PA
def aat:cO:=λs ah t1 h U K=>bH ah h U λa b c=>aN 6 b a λd=>aV s 448 [d] b c λe f g=>af (aS f 6 a e) λi=>aN 6 i a λj=>aV s 449 [j,t1] i g λk l m=>cG k (ad 0) (K ay l m) (aN 6 l a λo=>aV s 482 [o,k] l m λp q r=>aV s 481 [p] q r λt aO v=>K t aO v)
theorem alT:cX 454 aat:=cZ []
def aeW:cO:=λs ah t1 h U K=>bH ah h U λa b c=>ax b 1 a λe=>aV s 485 [e,t1,(.func (.func 486) #[] #[])] b c λf g i=>af (cp f 0) λj=>af (cp f 1) λk=>K (.tuple ⟨[j,k]⟩) g i
theorem att:cX 458 aeW:=cZ []
def acF:cO:=λs ah t1 h U K=>bH ah h U λa b c=>bX [(ad 0),(ad 0)] b c λd e f=>ax e 0 a λi=>bS e t1 λj=>bt .sub 3 i j λk=>ax e 1 a λm=>af (cV [(ad 0),(ad 0)] [(0,1,k),(1,1,m)]) λn=>af (aS e 2 d n) λo=>aN 2 o d λp=>K p o f
theorem apl:cX 460 acF:=cZ []
def PB:aa (aa Nat):=[[1,2,73,74]]
def YE(s:al)(aD a2 MK qp:X)(h:ae)(U:Nat)(N:aP)(aL:aP)(R:aP):Prop:=cG qp MK (ax h 4 aD λc=>ax h 3 aD λe=>d2 h 1 e qp λg=>ax h 3 aD λj=>cj qp λk=>d2 h 1 j k λm=>af (gi 1 c (some g) (some m) none) λn=>ax h 0 aD λp=>cg 493 [n,p] h U λq r t=>af (du .not q) λaO=>br aO (R [aD,(.bool false),MK,qp] r t) (cj qp λv=>N [aD,a2,MK,v] r t)) (aL [aD,a2,MK,qp] h U)
def FW(s:al)(K:bN)(cz y70:X)(au:ae)(a0:Nat):Prop:=br y70 (K (.bool false) au a0) (ax au 2 cz λb=>cP b λc=>bE (bU Q s PB 477 0) [cz,(.bool false),c,(ad 0)] au a0 [(0,λd e f=>K (.bool true) e f)] (λg i j=>K (bb g 1) i j))
def CS(s:al)(K:bN)(cz cm Uv:X)(au:ae)(a0:Nat):Prop:=br Uv (K (.bool false) au a0) (ax au 2 cz λb=>ax au 1 cz λd=>aV s 493 [b,d] au a0 λe f g=>af (du .not e) λi=>br i (FW s K cz (.bool true) f g) (ax f 3 cz λk=>cj cm λl=>aV s 493 [k,l] f g λm n o=>af (du .not m) λp=>br p (FW s K cz (.bool true) n o) (ax n 3 cz λr=>d2 n 1 r (ad 0) λaO=>bz .neq 3 aO (ad 0) (FW s K cz (.bool true) n o) (ax n 3 cz λx=>ax n 2 cz λz=>cP z λbC=>d2 n 1 x bC λbM=>bt .neq 3 bM cm λbg=>(FW s K cz bg n o)))))
def acG:cU:=λs ah h U K=>bH ah h U λa b c=>ax b 4 a λe=>cP e λf=>ax b 0 a λi=>aV s 492 [i,(ad 4096)] b c λj k l=>af (du .not j) λm=>br m (CS s K a f (.bool true) k l) (ax k 1 a λo=>aV s 492 [o,(ad 4096)] k l λp q r=>af (du .not p) λt=>br t (CS s K a f (.bool true) q r) (ax q 3 a λv=>cP v λw=>ax q 2 a λy=>cP y λz=>cj z λbC=>bz .neq 3 w bC (CS s K a f (.bool true) q r) (ax q 5 a λbg=>cP bg λbW=>bz .neq 3 bW f (CS s K a f (.bool true) q r) (bt .gtr 3 f (ad 65536) λbI=>(CS s K a f bI q r)))))
theorem alU{L M:X}{h:ae}{U:Nat}:bU Q s PB 477 0 [aD,a2,L,M] h U N [(0,aL)] R=YE s aD a2 L M h U N aL R:=by kernel_rfl
theorem apm:cW 477 acG:=cY PB
def ajX:cU:=λs ah h U K=>aV s 495 [ay,ah] h U λa b c=>K a b c
theorem ajc:cW 481 ajX:=cY []
def acH:cO:=λs ah t1 h U K=>bH ah h U λa b c=>bH t1 b c λd e f=>af (.ok (.func (.func 496) ⟨[]⟩ ⟨[a,d]⟩)) λg=>K g e f
theorem apn:cX 482 acH:=cZ []
def NX:aa (aa Nat):=[[0,1,2,8,9,10]]
def Wr(s:al)(aC aD a2 bv cF dd:X)(h:ae)(U:Nat)(N:aP)(aL:aP)(R:aP):Prop:=cG cF dd (ln cF dd λb=>af (ou (.int .u64) b) λc=>bt .shr 238 c (.int .u64 1) λd=>af (ou (.int .i64) d) λe=>gT 2 h 2 aC e λg=>eQ Q s (hU h U [g,aD] a2) λi j k=>cG i (ad 0) (cj e λm=>N [aC,aD,a2,bv,m,dd] j k) (N [aC,aD,a2,bv,cF,e] j k)) (aL [aC,aD,a2,bv,cF,dd] h U)
def Ws:ge:=λs ah t1 t2 h U K=>cP ah λa=>bE (bU Q s NX 485 0) [ah,t1,t2,a,(ad 0),a] h U [(0,λb c d=>cG (bb b 4) (bb b 3) (gT 2 c 2 (bb b 0) (bb b 4) λg=>eQ Q s (hU c d [g,(bb b 1)] (bb b 2)) λi j k=>bt .eql 3 i (ad 0) λl=>K (.tuple ⟨[(bb b 4),l]⟩) j k) (K (.tuple ⟨[(bb b 4),(.bool false)]⟩) c d))] (λ_ _ _=>False)
theorem aij{h:ae}{U:Nat}:bU Q s NX 485 0 [aC,aD,a2,bv,cF,dd] h U N [(0,aL)] R=Wr s aC aD a2 bv cF dd h U N aL R:=by kernel_rfl
theorem aik:gp 485 Ws:=gu NX
def acI:cO:=λs ah t1 h U K=>bH ah h U λa b c=>ax b 0 a λe=>aV s 242 [e,t1] b c λf g i=>K f g i
theorem apo:cX 486 acI:=cZ []
def aau:cO:=λs ah t1 h U K=>bz .geq 3 ah (ad 0) (bt .leq 3 ah t1 λb=>K b h U) (K (.bool false) h U)
theorem alV:cX 492 aau:=cZ []
def OX:aa (aa Nat):=[[0,1,4,7,8,9]]
def XA(s:al)(aC aD aZ ba bv cF:X)(h:ae)(U:Nat)(N:aP)(aL:aP)(R:aP):Prop:=cG cF bv (d2 h 1 ba cF λc=>bt .sub 3 aD (ad 1) λd=>aV s 492 [c,d] h U λe f g=>af (du .not e) λi=>br i (R [aC,aD,(.bool false),ba,bv,cF] f g) (jY cF (ad 0) (bt .sub 3 cF (ad 1) λk=>d2 f 1 aC k λm=>bz .geq 3 m c (R [aC,aD,(.bool false),ba,bv,cF] f g) (cj cF λo=>N [aC,aD,aZ,ba,bv,o] f g)) (cj cF λp=>N [aC,aD,aZ,ba,bv,p] f g))) (aL [aC,aD,aZ,ba,bv,cF] h U)
def aav:cO:=λs ah t1 h U K=>cP ah λa=>bE (bU Q s OX 493 0) [ah,t1,(.bool false),ah,a,(ad 0)] h U [(0,λb c d=>K (.bool true) c d)] (λe f g=>K (bb e 2) f g)
theorem ajY{h:ae}{U:Nat}:bU Q s OX 493 0 [aC,aD,aZ,ba,bv,cF] h U N [(0,aL)] R=XA s aC aD aZ ba bv cF h U N aL R:=by kernel_rfl
theorem alW:cX 493 aav:=cZ OX
def OY:aa (aa Nat):=[[0,1,2,4]]
def XB(s:al)(aC aD a2 aZ:X)(h:ae)(U:Nat)(N:aP)(aL:aP)(R:aP):Prop:=ax h 3 aD λb=>bS h a2 λc=>cj c λd=>d2 h 1 b d λf=>cG aZ f (ax h 4 aD λj=>d2 h 1 j aZ λl=>ax h 5 aD λn=>d2 h 1 n aZ λp=>af (cV [(ad 0),(ad 0)] [(0,1,l),(1,1,p)]) λq=>eQ Q true (hU h U [q] aC) λr t aO=>U<=aO/\af (du .not r) λv=>br v (R [aC,aD,a2,aZ] t aO) (cj aZ λw=>N [aC,aD,a2,w] t aO)) (aL [aC,aD,a2,aZ] h U)
def aaw:ge:=λs ah t1 t2 h U K=>ax h 3 t1 λb=>bS h t2 λc=>d2 h 1 b c λe=>bE (bU Q s OY 496 0) [ah,t1,t2,e] h U [(0,λf g i=>K (.tuple ⟨[]⟩) g i)] (λj k l=>K (.tuple ⟨[]⟩) k l)
theorem ajZ{h:ae}{U:Nat}:bU Q s OY 496 0 [aC,aD,a2,aZ] h U N [(0,aL)] R=XB s aC aD a2 aZ h U N aL R:=by kernel_rfl
theorem alX:gp 496 aaw:=gu OY
def fF(p:Nat × Int):aa X:=[(p.1:X),(p.2:X)]
def j2(h:ae)(U:Nat)(v:X)(n:Nat)(x:Nat->aw Int):Prop:=∃gB,v = .agg ⟨[(n:X),gB]⟩/\ep h U gB fF 2 (bj n x)
def lv(h:ae)(ap ag:Nat)(v:X)(n:Nat)(x:Nat->aw Int):Prop:=∃gB,v = .agg ⟨[(n:X),gB]⟩/\eJ h ap ag gB fF (bj n x)
section
variable {h ac:ae} {U Y ap ag ec dk n:Nat} {v:X} {x:Nat->aw Int}
theorem j2.F(H:j2 h U v n x)(M:aA U h ac)(L:U<=Y):j2 ac Y v n x:=by obtain⟨V,e,Z⟩:=H;exact⟨V,e,Z.F M L⟩
theorem lv.is(H:lv h ap ag v n x):j2 h ag v n x:=by obtain⟨L,e,M⟩:=H;exact⟨L,e,cL.o (λ_=>rfl) M.rd⟩
theorem lv.F(H:lv h ap ag v n x)(Z:∀b,ap<=b->b<ag->u ac b=u h b)(L:ec<=ap)(ao:ag<=dk):lv ac ec dk v n x:=by obtain⟨V,e,M⟩:=H;exact⟨V,e,M.F Z L ao⟩
theorem j2.ext{y:Nat->aw Int}(H:j2 h U v n x)(e:∀i,i<n->x i=y i):j2 h U v n y:=by obtain⟨L,M,V⟩:=H;exact⟨L,M,by rw[<-ym e];exact V⟩
theorem lv.ext{y:Nat->aw Int}(H:lv h ap ag v n x)(e:∀i,i<n->x i=y i):lv h ap ag v n y:=by obtain⟨L,M,V⟩:=H;exact⟨L,M,by rw[<-ym e];exact V⟩
end
theorem wJ{n k:Nat}{f:Nat->aw Int}{x:Int}(h:(bj n f)[i]? = some (k,x)):k<n/\f k=some x:=j0.1 ab
theorem vh{n:Nat}{f:Nat->aw Int}{x:Int}(h:(bj n f)[i]? = some (a,x))(ac:(bj n f)[j]? = some (b,y))(L:i<j):a<b:=by
 obtain⟨M,Z⟩:=fb.1 h;obtain⟨V,aK⟩:=fb.1 ac;have:=Cw.1 (yw n f) i j M V L
 grind
theorem aj0{n m:Int}{h:ae}{U:Nat}:aE Q s 384 [(n:X),(m:X)] h U (fs (.bool (lF n m)) U h):=by
 refine alO ?_;unfold aam;refine aG ?_;refine⟨λM=>?_,λM=>by rw[pW J];exact⟨rfl,rfl,rfl⟩⟩
 by_cases L:m<n
 ·rw[gY L,pW J];exact⟨rfl,rfl,rfl⟩
 ·rw[hA L,lu J];exact⟨rfl,rfl,rfl⟩
def XiJ(I:Nat->ae->Nat->Prop)(v rl:X)(n:Nat)(m:Nat)(aF:aa X)(ac:ae)(Y:Nat):Prop:=∃i,m=n-i/\i<=n/\aF=[v,rl,.int .i64 0,(n:X),(i:X)]/\I i ac Y
theorem awf{l:aa (Nat × Int)}{v:X}{h:ae}{U:Nat}{I:Nat->ae->Nat->Prop}(bo:l.length<1000000)(au:I 0 h U)(aI:∀i h U,I i h U->ep h U v fF 2 l)(bK:∀i x h U,l[i]? = some x->I i h U->aE Q s eA (.agg ⟨fF x⟩::cs) h U (λr ac Y=>r = .bool false/\I (i+1) ac Y)):
  aE Q s 385 [v,.func (.func eA) ⟨[]⟩ ⟨cs⟩] h U (λr ac Y=>r = .bool false/\I l.length ac Y):=by
 refine aip ?_;refine(aiG (K:=λr ac Y=>r = .int .i64 (-1)/\I l.length ac Y) ?_).mono ?_
 ·obtain⟨a,cap,rfl,_⟩:=id (aI 0 h U au);unfold WL;refine aG ?_;refine bE.mk (XiJ I (.slice a l.length cap) (.func (.func eA) ⟨[]⟩ ⟨cs⟩) l.length) l.length ⟨0,J,J,rfl,au⟩ ?_;rintro _ _ h1 a5 ⟨i,rfl,ag,rfl,L⟩;rw[aiA];unfold WA;refine aG ?_;refine⟨λcb=>?_,λeG=>?_⟩
  ·obtain⟨x,Z⟩:=dH   J;obtain⟨b,o,aB,bG,l3,j4,aW,aU,aY,V⟩:=(aI i h1 a5 L).ld (λ_=>rfl) Z;cases aU;refine cN @aY @V ?_;refine(bK i x h1 a5 Z L).mono ?_;rintro _ ao bQ ⟨rfl,M⟩;refine bl (cD (J:i<1000000000000)) ?_;exact⟨l.length-(i+1),J,i+1,rfl,J,rfl,M⟩
  ·have:i=l.length:=J
   subst this;exact L
 ·rintro _ ao bQ ⟨rfl,L⟩;refine aG ?_;exact⟨rfl,L⟩
theorem aj1{x:Nat × Int}{last:Int}{n L:Nat}{gB:X}{h:ae}{U:Nat}(h1:last<(x.1:Int))(ao:x.1<n)(bo:u h pl=some (.cells [(last:X)] false))(aI:u h L=some (.cells [(n:X),gB] bG))(M:pl≠L)(Z:pl<U)(V:L<U):
  aE Q s 386 [.agg ⟨fF x⟩,bf pl,bf L] h U (λr ac Y=>r = .bool false/\u ac pl=some (.cells [(x.1:X)] false)/\(∀d,d<U->d≠pl->u ac d=u h d)/\U<=Y):=by
 refine alP ?_;unfold aan fF;simp(disch:=omega)only[bk,bo,aI,seval]
 grind
theorem wx{n:Nat}{v:X}{x:Nat->aw Int}{h:ae}{U:Nat}(aI:j2 h U v n x)(bw:n<=4096):aE Q s 312 [v] h U (dI (.bool true) U h):=by
 refine ape ?_;obtain⟨gB,rfl,ar⟩:=aI;obtain⟨a,cap,rfl,a1⟩:=id ar;unfold acB;refine aG ?_;refine aj0.mono ?_;rintro _ _ _ ⟨rfl,rfl,rfl⟩;rw[lu J];refine aG ?_;have fO:=ms n x;refine(awf (l:=bj n x) (I:=λi ac Y=>aA U h ac/\U+2<=Y/\u ac U=some (.cells [(n:X),.slice a (bj n x).length cap] false)/\∃last:Int,u ac (U+1)=some (.cells [(last:X)] false)/\∀(j k:Nat) (y:Int),(bj n x)[j]? = some (k,y)->i<=j->last<(k:Int)) (by omega) ?_ ?_ ?_).mono ?_
 ·exact⟨aM,J,ab,-1,ab,J⟩
 ·rintro i h1 a5 ⟨M,L,_⟩;exact ar.F M J
 ·rintro i ⟨k,y⟩ h1 a5 bd ⟨M,L,aY,last,Z,cb⟩;refine(aj1 ab (wJ bd).1 Z aY J J J).mono ?_;rintro _ ao bQ ⟨rfl,V,nL,f5⟩;refine⟨rfl,aM,J,ab,k,V,λj dm nV b5 Mr=>?_⟩;have:=vh bd b5 J;omega
 ·rintro _ ao bQ ⟨rfl,M,L,_⟩;refine aG ?_;exact⟨rfl,M,J⟩
theorem Kp{n:Nat}{v:X}{x:Nat->aw Int}{h:ae}{U:Nat}(aI:j2 h U v n x)(bw:n<=4096):aE Q s 447 [v] h U (dI v U h):=by
 refine atq ?_;have L:=aI;obtain⟨gB,rfl,ar⟩:=aI;obtain⟨a,cap,rfl,a1⟩:=id ar;unfold aeU;refine aG ?_;have b4:∀{o aX},aA U h (T (T h U o) (U+1) aX):=aM
 refine(wx (L.F b4 J) bw).mono ?_;rintro _ h1 a5 ⟨rfl,Z,dv⟩;have M:=Z U J;rw[aq J,aR]at M;have V:=Z (U+1) J;rw[aR]at V;refine cN @M @V ?_;exact⟨rfl,aM,J⟩
end Go.Proofs.YthlhhajnbgjfmaaGreat
