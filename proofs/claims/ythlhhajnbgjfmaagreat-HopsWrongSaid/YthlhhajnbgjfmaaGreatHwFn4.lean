/- Parts of the proof: HwFn4: each statement bears its own conditions. -/
import Derived.Test.YthlhhajnbgjfmaaGreatHwFn3
namespace Go.Proofs.YthlhhajnbgjfmaaGreat
open Go Go.Ax
set_option linter.all false
set_option maxHeartbeats 1000000
set_option maxRecDepth 1000000
variable {s:ao} {ag:ac GE} {c:Nat->X} {i:Nat} {az:X} {aM R N:aQ} {aC aZ ah a2 bq:X} {b:Nat} {src len:Int} {v1 v2 v3 v4 cf fC:X} {cs:ac X} {P:Nat->Prop} {A B:ac Int} {t1:X} {p:ac GE} {K:bZ} {cW a6 l5:X} {j:Nat} {g:GE} {bu:ac Int} {iT bI cH:X} {r a C:Nat} {a9 bA:ay Addr} {low:Int} {jF kj jW dd:X} {ml:Int} {a3:X} {uh:Nat} {bL:ao} {b2:Nat} {mr:ay Nat} {st:Nat} {aO dA d2 fJ:ay Nat} {aJ bj:X} {m:Nat} {lim:Int} {pd:Nat->Prop} {dU dL jC kL:ac Int} {gs xD gq:Nat} {jV iQ qN rL pV pW rM pX qO qP rN pQ pY o2 mw ot rO pZ ou:X} {H:Nat} {y eG:Int} {km nM d6 f6 t3 eX t2:X} {Ih bg c2 pl:Nat} {E:aQ} {eL:Nat}
theorem ZG{k:Int}{h:ae}{U:Nat}:aD Q s 220 [(k:X)] h U (fs (.bool (ly (k-1) 7)) U h):=by
 refine abV ?_;unfold Q4;refine aE ?_;refine⟨λM=>?_,λM=>by rw[py J];exact⟨rfl,rfl,rfl⟩⟩
 by_cases L:8<k
 ·rw[hf L,py J];exact⟨rfl,rfl,rfl⟩
 ·rw[ht L,lm J];exact⟨rfl,rfl,rfl⟩
theorem ab4{k:Int}{h:ae}{U:Nat}:aD Q s 292 [(k:X)] h U (fs (.bool (ly (k-1) 7)) U h):=by
 refine avm ?_;unfold afP;refine aE ?_;refine⟨λM=>?_,λM=>by rw[py J];exact⟨rfl,rfl,rfl⟩⟩
 by_cases L:8<k
 ·rw[hf L,py J];exact⟨rfl,rfl,rfl⟩
 ·rw[ht L,lm J];exact⟨rfl,rfl,rfl⟩
theorem uS{n k:Nat}{h:ae}{U:Nat}(bw:n<=4096)(hk:0<k)(yZ:k<=8)(aj:i<=100000):aD Q s 126 [(n:X),(k:X),(i:X)] h U (fs (.int .i64 (c8 n k i:Int)) U h):=by
 refine avf ?_;refine avi ?_;unfold afL;refine aE ?_;refine⟨λ_=>⟨λ_=>?_,λh=>absurd h J⟩,λh=>absurd h J⟩;refine ZG.mono ?_;rintro _ _ _ ⟨rfl,rfl,rfl⟩;rw[lm J];have V:min (max (i:Int) 0) (k:Int)=((min i k:Nat):Int):=J
 have bx:min i k*n<=8*4096:=sc J bw;have M:IntKind.wrap .i64 (((min i k:Nat):Int)*(n:Int))=((min i k*n:Nat):Int):=by rw[show((min i k:Nat):Int)*(n:Int)=((min i k*n:Nat):Int) by omega];exact jo J J
 have Z:min i k*n / k<=min i k*n:=Nat.div_le_self _ _;have L:bin Q .quo 3 (((min i k*n:Nat):X)) (k:X) = .ok (.int .i64 (c8 n k i:Int)):=by rw[Ck J,show((min i k*n:Nat):Int).tdiv (k:Int)=((min i k*n / k:Nat):Int)from rfl];unfold c8;generalize min i k*n / k=q at Z ⊢;rw[jo J J]
 refine ll @V @zT @M @L ?_;exact⟨rfl,rfl,rfl⟩
theorem P2{c:Nat}{h:ae}{U:Nat}(V:0<r)(M:r<=8)(a5:0<c)(L:c<=8)(aj:i<r)(Z:j<c):aD Q s 202 [(r:X),(c:X),(i:X),(j:X)] h U (fs (.bool true) U h):=by refine avg ?_;refine ab4.mono ?_;rintro _ _ _ ⟨rfl,rfl,rfl⟩;rw[lm J];refine aE ?_;refine ab4.mono ?_;rintro _ _ _ ⟨rfl,rfl,rfl⟩;rw[lm J];refine aE ?_;exact⟨λ_=>⟨λ_=>⟨λ_=>⟨aa,rfl,rfl⟩,λh=>absurd h J⟩,λh=>absurd h J⟩,λh=>absurd h J⟩
theorem B5{n k:Nat}{h:ae}{U:Nat}(M:n<=4096)(V:0<k)(L:k<=8)(aj:i<=10000):aD Q s 204 [(n:X),(k:X),(i:X)] h U (c9 (.agg ⟨[.int .i64 (c8 n k i:Int),.int .i64 (c8 n k (i+1):Int)]⟩) U h):=by refine an6 ?_;unfold abS;refine aE ?_;refine(uS M V L J).mono ?_;rintro _ _ _ ⟨rfl,rfl,rfl⟩;refine bf (cF (J:i<1000000000000)) ?_;refine(uS M V L J).mono ?_;rintro _ _ _ ⟨rfl,rfl,rfl⟩;refine aE ?_;exact⟨rfl,aF,J⟩
theorem WR{n:Nat}{h:ae}{U:Nat}(M:a<=b)(Z:b<=n)(bw:n<=4096):aD Q s 294 [.agg ⟨[(a:X),(b:X)]⟩,(n:X)] h U (c9 (.tuple ⟨[(a:X),((b-a:Nat):X)]⟩) U h):=by
 refine akY ?_;unfold ZC;have L:∀{o},aA U h (T h U o):=aF
 simp(disch:=omega)only[bk,show max (a:Int) 0=(a:Int) by omega,show min (b:Int) (n:Int)=(b:Int) by omega,seval];refine⟨λV=>?_,λV=>?_⟩
 ·have:b-a=0:=J
  rw[this];exact⟨rfl,L,J⟩
 ·rw[show IntKind.wrap .i64 ((b:Int)-(a:Int))=((b-a:Nat):Int) by rw[show(b:Int)-(a:Int)=((b-a:Nat):Int) by omega];exact jo J J];exact⟨rfl,L,J⟩
def kW{aB:Type}(h:ae)(v:X)(enc:aB->ac X)(k:Nat)(l:ac aB)(P:Nat->Prop):Prop :=
 (l=[]/\v = .slice none 0 0)\/∃d,P d/\v = .slice (some ⟨d,0,some k⟩) l.length l.length/\u h d=some (.cells (a7 enc l) false)
theorem kW.hH{aB:Type}{h:ae}{v:X}{enc:aB->ac X}{k:Nat}{l:ac aB}(H:kW h v enc k l P):∃L,fu h enc k v l L/\∀d,L=some d->P d:=by
 rcases H with⟨rfl,rfl⟩|⟨d,M,rfl,V⟩
 ·exact⟨none,.nil,λd e=>by cases e⟩
 ·exact⟨some d,.own V,λd e=>by cases e;exact M⟩
theorem kW.F{aB:Type}{h ab:ae}{v:X}{enc:aB->ac X}{k:Nat}{l:ac aB}(H:kW h v enc k l P)(M:∀d,P d->u ab d=u h d/\pd d):kW ab v enc k l pd:=by
 rcases H with e|⟨d,L,e,V⟩
 ·exact .inl e
 ·exact .inr ⟨d,(M d L).2,e,aa⟩
theorem kW.of{aB:Type}{h:ae}{v:X}{enc:aB->ac X}{k al aj:Nat}{l:ac aB}(H:dX h v enc k l al aj):kW h v enc k l λd=>al<=d/\d<aj:=by
 rcases H with e|⟨d,M,V,e,L⟩
 ·exact .inl e
 ·exact .inr ⟨d,⟨M,V⟩,e,L⟩
theorem kW.at_{aB:Type}{h:ae}{v:X}{enc:aB->ac X}{k al aj:Nat}{l:ac aB}(H:kW h v enc k l P)(M:∀d,P d->al<=d/\d<aj):dX h v enc k l al aj:=by
 rcases H with e|⟨d,V,e,L⟩
 ·exact .inl e
 ·exact .inr ⟨d,aa,aa,e,L⟩
theorem kW.form{aB:Type}{h:ae}{v:X}{enc:aB->ac X}{k:Nat}{l:ac aB}(H:kW h v enc k l P):∃a c,v = .slice a l.length c:=by
 rcases H with⟨rfl,rfl⟩|⟨d,_,rfl,_⟩
 ·exact⟨_,_,rfl⟩
 grind
theorem JY{aB:Type}{enc:aB->ac X}{k:Nat}(hk:∀x,(enc x).length=k)(L:∀x,ef (enc x)=true)(Z:0<k){h:ae}{U:Nat}{v:X}{l:ac aB}(H:kW h v enc k l P)(V:pd U){dQ M:Nat}(x:aB)(ap:u h b2=some (.cells cs bL))(aX:(cs.drop dQ).take k=enc x)(jE:(l.length+1)*k<=1000000){K:X->ae->Nat->Prop}(hm:∀d7 ab,kW ab d7 enc k (l++[x]) pd->(∀c,c≠U->¬P c->u ab c=u h c)->K d7 ab (U+1)):dm (dI (dn k h U v (.slice (some ⟨b2,dQ,mr⟩) 1 M))) K:=by obtain⟨aY,iH,a1⟩:=H.hH;refine x9 hk L Z iH x ap aX jE λab bw bD=>hm _ _ (.inr ⟨U,V,aa,bw⟩) aa
def azv(cf HF a H b W:Nat)(ag:ac GE)(al:Nat)(aq:ae)(m:Nat)(aJ:ac X)(ab:ae)(Y:Nat):Prop :=
 ∃(i:Nat) (o:X),m=H-i/\i<=H/\aJ=[bb cf,bb HF,(a:X),(H:X),(b:X),(W:X),o,(H:X),(i:X)]/\dX ab o b3 3 (lN ag a i b W) al Y/\aA al aq ab/\al<=Y
def y0(l:ac GE)(i b W:Nat):ac GE:=(l.filter (yI b W)).map λg=>⟨i,g.t-b,g.w⟩
def Sm(cf HF a H b W i:Nat)(dp:X)(yP l:ac GE)(al d9 eN:Nat)(aq b0:ae)(m:Nat)(aJ:ac X)(ab:ae)(Y:Nat):Prop :=
 ∃(k:Nat) (o:X),m=l.length-k/\k<=l.length/\aJ=[bb cf,bb HF,(a:X),(H:X),(b:X),(W:X),o,(i:X),(H:X),(i:X),dp,(l.length:X),(k:X)] /\
  kW ab o b3 3 (yP++y0 (l.take k) i b W) (λd=>al<=d/\d<Y/\¬(d9<=d/\d<eN))/\(∀d,d9<=d->d<eN->u ab d=u b0 d)/\aA al aq ab/\eN<=Y
theorem asu(l:ac GE)(i b W:Nat):(y0 l i b W).length<=l.length:=by unfold y0;grind
theorem ZH{l:ac GE}{k W:Nat}(h:l[k]? = some g):y0 (l.take (k+1)) i b W=y0 (l.take k) i b W++(if yI b W g=true then[⟨i,g.t-b,g.w⟩]else[]):=by
 unfold y0;rw[hq,h,s4,hr]
 grind
theorem asv{c ev cr:Nat}{v:X}{h:ae}{U:Nat}(M:hj r c ag)(aI:kw h U v r c ag)(haa:a<=ev)(har:ev<=r)(Ds:b<=cr)(t7:cr<=c):
  aD Q s 203 [v,.agg ⟨[(a:X),(ev:X)]⟩,.agg ⟨[(b:X),(cr:X)]⟩] h U (Q7 (ev-a) (cr-b) (lN ag a (ev-a) b (cr-b)) U h):=by
 refine avh ?_;have hZ:=aI;obtain⟨fW,aO,cap,v2,v3,rfl,a1,bd,qb,pc⟩:=id aI;obtain⟨a2,c2,rfl⟩:=qb.form;obtain⟨a3,cm,rfl⟩:=pc.form;have ba:=M.ba;have a5:=M.a5;have br:=M.len;have bH:∀{o aU kD gu},aA U h (T (T (T (T h U o) (U+1) aU) (U+1+1) kD) (U+1+1+1) gu):=aF
 unfold afK;refine aE ?_;refine(Fy M (hZ.F bH J)).mono ?_;rintro _ h1 bg ⟨rfl,dv,fa⟩;have ch:=dv U J;rw[ar J,ar J,ar J,aR]at ch;have bP:=dv (U+1) J;rw[ar J,ar J,aR]at bP;have g2:=dv (U+1+1) J;rw[ar J,aR]at g2;have dz:=dv (U+1+1+1) J;rw[aR]at dz;refine cM @ch @bP ?_;refine(WR haa har ba).mono ?_;rintro _ ap bU ⟨rfl,dM,fx⟩;have kI:=dM U J;rw[aR]at kI;have gr:=dM (U+1+1) J;rw[ar J,g2]at gr;have mH:=dM (U+1+1+1) J;rw[ar J,dz]at mH;refine cM @kI @gr ?_;refine(WR Ds t7 a5).mono ?_;rintro _ aH b1 ⟨rfl,f1,gg⟩;have aM:=(f1 U J).trans kI;have cy:=(f1 (U+1+1+1) J).trans mH;refine aE ?_;generalize fp:ev-a=H;generalize jM:cr-b=W;have hHr:a+H<=r:=J
 have hWc:b+W<=c:=J
 have gT:∀i,i<=H->(lN ag a i b W).length<=120:=λi aj=>(JX M J hWc).len;refine bF.mk (azv U (U+1+1+1) a H b W ag b1 aH) H ⟨0,_,rfl,J,rfl,by rw[avr];exact .inl aa,aF,J⟩ ?_;rintro _ _ bh Z ⟨i,o,rfl,aj,rfl,dV,g6,hX⟩;rw[ar8];unfold abR;have hd:=(g6 U J).trans aM;have hb:=(g6 (U+1+1+1) J).trans cy;have hR:aA U h bh:=aF
 refine aE ?_;refine⟨λcS=>?_,λeZ=>?_⟩
 ·have de:IntKind.wrap .i64 ((a:Int)+(i:Int))=((a+i:Nat):Int):=by rw[show(a:Int)+(i:Int)=((a+i:Nat):Int) by omega];exact jo J J
  refine cM @hd @de ?_;refine(ass M (hZ.F hR J) J).mono ?_;rintro rw b0 eN ⟨ei,e7,ny⟩;have HD:=P1 ag (a+i);obtain⟨um,b4,rfl⟩:∃um b4,rw = .slice um (eQ ag (a+i)).length b4:=by
   rcases ei with⟨aW,aP⟩|⟨b,_,_,e,_⟩
   all_goals grind
  have pU:kW b0 o b3 3 (lN ag a i b W) (λd=>b1<=d/\d<eN/\¬(Z<=d/\d<eN)):=(kW.of dV).F λd L=>⟨e7 d L.2,L.1,J,J⟩
  refine aE ?_;refine bF.mk (Sm U (U+1+1+1) a H b W i (.slice um (eQ ag (a+i)).length b4) (lN ag a i b W) (eQ ag (a+i)) b1 Z eN aH b0) (eQ ag (a+i)).length ⟨0,_,J,J,rfl,by rw[s8];unfold y0;rw[List.filter_nil,xP,hC];exact pU,aa,aF,J⟩ ?_;generalize rA:eQ ag (a+i)=l at *
  generalize SR:lN ag a i b W=yP at *
  rintro _ _ cj n6 ⟨k,nJ,rfl,hk,rfl,xm,hr6,h5,mi⟩;rw[ar7];unfold abQ;refine aE ?_;refine⟨λDk=>?_,λazw=>?_⟩
  ·obtain⟨g,V⟩:=dW (J:k<l.length);have vp:g.t<c:=M.mj g (O0 (show g∈eQ ag (a+i) by grind)).1;have lf:=asu (l.take k) i b W;rw[nU]at lf;have fin:∀{aU:X} {d8:ae} {n7:Nat},kW d8 aU b3 3 (yP++y0 (l.take (k+1)) i b W) (λd=>b1<=d/\d<n7/\¬(Z<=d/\d<eN))->(∀d,d<n6->(b1<=d->Z<=d/\d<eN)->u d8 d=u cj d)->n6<=n7 ->
     ∃bR,bR<l.length-k/\Sm U (U+1+1+1) a H b W i (.slice um l.length b4) yP l b1 Z eN aH b0 bR [bb U,.pointer (some ⟨U+1+1+1,0,none⟩),(a:X),(H:X),(b:X),(W:X),aU,(i:X),(H:X),(i:X),.slice um l.length b4,(l.length:X),((k+1:Nat):X)] d8 n7:=λ{aU d8 n7} r6 bD dx =>
    ⟨l.length-(k+1),J,k+1,aU,rfl,J,rfl,r6,λd h1 ap=>aa,λd L=>by rw[bD d J (λh=>absurd h J)];exact h5 d L,J⟩
   have skip:yI b W g=false->∀{d8:ae},(∀d,d<n6->u d8 d=u cj d)->∃bR,bR<l.length-k/\Sm U (U+1+1+1) a H b W i (.slice um l.length b4) yP l b1 Z eN aH b0 bR [bb U,.pointer (some ⟨U+1+1+1,0,none⟩),(a:X),(H:X),(b:X),(W:X),nJ,(i:X),(H:X),(i:X),.slice um l.length b4,(l.length:X),((k+1:Nat):X)] d8 (n6+1):=λaj {d8} bD =>
    fin (by rw[ZH V,if_neg aa,hC];exact xm.F λd L=>⟨bD d L.2.1,L.1,J,L.2.2⟩) (λd L _=>bD d L) J
   rcases ei with⟨aW,_⟩|⟨MM,iB,fH,e,hrb⟩
   ·rw[aW]at V;cases V
   cases e;have azx:=(hr6 MM iB fH).trans hrb;simp(disch:=omega)only[bk,azx,xa (enc:=Gy) (k:=2) (λ_=>rfl) V,Gy,seval];have gr:∀{o aU:gm} {d:Nat},d<n6->u (T (T cj n6 o) n6 aU) d=u cj d:=λL=>aa
   unfold PW;refine⟨λh1=>?_,λh1=>?_⟩
   ·have dj:IntKind.wrap .i64 ((g.t:Int)-(b:Int))=((g.t-b:Nat):Int):=by rw[show(g.t:Int)-(b:Int)=((g.t-b:Nat):Int) by omega];exact jo J J
    refine bf @dj ?_;refine⟨λap=>?_,λap=>?_⟩
    ·refine JY  (k:=3) (pd:=λd=>b1<=d/\d<n6+1+1+1/\¬(Z<=d/\d<eN)) (λ_=>rfl) (λ_=>rfl) J (xm.F (pd:=λd=>b1<=d/\d<n6/\¬(Z<=d/\d<eN)) λd L=>⟨aa,L.1,L.2.1,L.2.2⟩) ⟨J,J,J⟩ (⟨i,g.t-b,g.w⟩:GE) (aR _ _ _) rfl aa λd7 h8 r6 hf8=>?_;refine bf (cF (J:k<1000000000000)) ?_;refine fin ?_ (λd aH bh=>?_) J
     ·rw[ZH V,if_pos (show yI b W g=true from hf J),<-kq];exact r6
     grind
    ·refine bf (cF (J:k<1000000000000)) ?_;exact skip (ht J) λd L=>gr L
   ·refine bf (cF (J:k<1000000000000)) ?_;exact skip (ht J) λd L=>gr L
  ·have:k=l.length:=J
   subst this;rw[hB]at xm;refine bf (cF (J:i<1000000000000)) ?_;refine⟨H-(i+1),J,i+1,_,rfl,J,rfl,?_,h5,J⟩;rw[ak0 M.up,SR];unfold Sl;rw[rA];exact xm.at_ λd L=>⟨L.1,L.2.1⟩
 ·have:i=H:=J
  subst this;have oq:el bh Z o b3 (lN ag a i b W):=by
   rcases dV with⟨aW,aP⟩|⟨d,h1,ap,e,bd⟩
   ·exact⟨none,0,aa,λfk=>absurd aW fk⟩
   ·exact⟨_,_,e,λ_=>⟨d,some 3,false,[],ap,rfl,aa⟩⟩
  refine(O1 oq (JX M hHr hWc)).mono ?_;rintro aBN b0 eN ⟨ei,e7,ny⟩;obtain⟨MM,rsp,ag8,b8,cN,ca,c6,eb,dY,rfl⟩:=ei.is.form;have ho:=(e7 (U+1+1+1) J).trans hb;refine bf @ho ?_;have lk:aA U h b0:=hR.trans e7 J;exact⟨ei.F (λd h1 ap=>ar J) J (cR _),lk.set J,J⟩
theorem avs{n R:Nat}{v:X}{h:ae}{U:Nat}(M:hj n n ag)(aI:kw h U v n n ag)(ei:0<R)(L:R<=8)(ee:0<C)(y1:C<=8)(aj:i<R)(cb:j<C):
  aD Q s 123 [v,(R:X),(C:X),(i:X),(j:X)] h U (Q7 (c8 n R (i+1)-c8 n R i) (c8 n C (j+1)-c8 n C j) (lN ag (c8 n R i) (c8 n R (i+1)-c8 n R i) (c8 n C j) (c8 n C (j+1)-c8 n C j)) U h):=by
 refine axF ?_;have hZ:=aI;obtain⟨fW,aO,cap,v2,v3,rfl,a1,bd,qb,pc⟩:=id aI;obtain⟨a2,c2,rfl⟩:=qb.form;obtain⟨a3,cm,rfl⟩:=pc.form;have ba:=M.ba;have bH:∀{o aU},aA U h (T (T h U o) (U+1) aU):=aF
 unfold ag4;refine aE ?_;refine(Ji M (hZ.F bH J)).mono ?_;rintro _ h1 bg ⟨rfl,dv,fa⟩;have ch:=dv U J;rw[ar J,aR]at ch;have bP:=dv (U+1) J;rw[aR]at bP;refine aE ?_;refine(P2 ei L ee y1 aj cb).mono ?_;rintro _ _ _ ⟨rfl,rfl,rfl⟩;refine aE ?_;unfold Q2;refine bf @ch ?_;refine(B5   ba ei L J).mono ?_;rintro _ ap bU ⟨rfl,dM,V⟩;have kI:=(dM U J).trans ch;have fI:=(dM (U+1) J).trans bP;refine⟨V,?_⟩;refine cM @kI @ch ?_;refine(B5   ba ee y1 J).mono ?_;rintro _ aH b1 ⟨rfl,Z,gg⟩;have aM:=(Z U J).trans kI;have aW:=(Z (U+1) J).trans fI;refine⟨gg,?_⟩;have fr:aA U h aH:=aF
 refine gX @aM @kI @ch ?_;refine(asv  M (hZ.F fr J) (uJ J) (tk ei _) (uJ J) (tk ee _)).mono ?_;rintro aBN bh d9 ⟨hRr,g6,hX⟩;refine⟨hX,?_⟩;obtain⟨MM,rsp,ag8,b8,cN,ca,c6,eb,dY,rfl⟩:=hRr.is.form;have en:=(g6 (U+1) J).trans aW;refine bf @en ?_;exact⟨hRr.F aa J J,aF,J⟩
def azy(p r:Nat)(ag:ac GE)(al:Nat)(aq:ae)(m:Nat)(aJ:ac X)(ab:ae)(Y:Nat):Prop :=
 ∃(i:Nat) (o:X),m=r-i/\i<=r/\aJ=[bb p,o,(r:X),(i:X)]/\dX ab o b3 3 (ag.take (dK ag i)) al Y/\aA al aq ab/\al<=Y
def azz(p r i n:Nat)(dp fW:X)(ag:ac GE)(al:Nat)(aq:ae)(m:Nat)(aJ:ac X)(ab:ae)(Y:Nat):Prop :=
 ∃(k:Nat) (o:X),m=n-k/\k<=n/\aJ=[bb p,o,(i:X),fW,(r:X),(i:X),dp,(n:X),(k:X)]/\dX ab o b3 3 (ag.take (dK ag i+k)) al Y/\aA al aq ab/\al<=Y
def axN(ag:ac GE)(U:Nat)(h:ae):bZ:=λres ab Y=>dX ab res b3 3 ag U Y/\aA U h ab/\U<=Y
theorem Wl{c:Nat}{v:X}{h:ae}{U:Nat}(M:hj r c ag)(aI:kw h U v r c ag):aD Q s 206 [v] h U (axN ag U h):=by
 refine ai8 ?_;have hZ:=aI;obtain⟨fW,TS,l7,a2,m2,c2,a3,m3,cm,rfl⟩:=aI.form;have ba:=M.ba;have br:=M.len;have bH:∀{o},aA U h (T h U o):=aF
 unfold XS;refine aE ?_;refine(Fy M (hZ.F bH J)).mono ?_;rintro _ h1 bg ⟨rfl,dv,fa⟩;have bP:=dv U J;rw[aR]at bP;refine bf @bP ?_;refine bF.mk (azy U r ag bg _) r ⟨0,_,J,J,rfl,by rw[KF,s8];exact .inl aa,aA.refl _ _,J⟩ ?_;rintro _ _ aH b1 ⟨i,o,rfl,aj,rfl,dV,V,gg⟩;have dz:=V U J;rw[aR]at dz;have fr:aA U h aH:=aF
 rw[ais];unfold Wk;refine aE ?_;refine⟨λcS=>?_,λeZ=>?_⟩
 ·have cS:i<r:=J
  refine bf @dz ?_;refine(ZE M (hZ.F fr (cR _)) J cS).mono ?_;rintro _ bh d9 ⟨dj,j2,rfl,Vj,BD,Z,hX⟩;obtain⟨iZ,cN,rfl,_⟩:=id Vj;obtain⟨hO,ca,rfl,_⟩:=id BD;have vI:=Cr (eQ ag i);have vH:=FZ (eQ ag i);rw[vI]at Vj;rw[vH]at BD;rw[vI,vH];have HD:=Fx M.up i;have ij:=zP ag (J:i<=i+1);have aBd:=u0 ag (i+1);refine aE ?_;refine bF.mk (azz U r i (eQ ag i).length (.slice iZ (eQ ag i).length cN) (.slice hO (eQ ag i).length ca) ag bg (T h1 U _)) (eQ ag i).length ⟨0,_,J,J,rfl,dV.F (λd g8 iZ=>Z d iZ) hX,V.trans Z gg,J⟩ ?_;rintro _ _ b0 eN ⟨k,o,rfl,hk,rfl,pU,e7,ny⟩;rw[air];unfold Wj;refine aE ?_;refine⟨λDk=>?_,λazw=>?_⟩
  ·obtain⟨g,L⟩:=dW J;obtain⟨b2,dQ,nk,w6,xd,fH,rfl,kh,azA⟩:=Vj.at (JV L)
   obtain⟨d2,gu,kZ,HE,Bb,pR,rfl,sG,azB⟩:=BD.at (JW L)
   have hgf:g.f=i:=(O0 (k1 L)).2;have iz:ag[dK ag i+k]? = some g:=by rw[<-OZ M.up J];omega
   have aP:u b0 b2=some (.cells xd w6):=by rw[<-kh,e7 b2 J,Z b2 J,V b2 J]
   have cy:u b0 d2=some (.cells Bb HE):=by rw[<-sG,e7 d2 J,Z d2 J,V d2 J]
   simp(disch:=omega)only[bk,aP,azA k _ (JV L),cy,azB k _ (JW L),seval];refine me (enc:=b3)  (λ_=>rfl) (λ_=>rfl) J (pU.F aa J) J (⟨i,g.t,g.w⟩:GE) (aR _ _ _) rfl aa λd7 cj xm h5=>?_;refine bf (cF (J:k<1000000000000)) ?_;refine⟨(eQ ag i).length-(k+1),J,k+1,_,rfl,J,rfl,?_,λd bs=>?_,J⟩
   ·rw[show dK ag i+(k+1)=dK ag i+k+1 by omega,hq,iz];have qU:(⟨i,g.t,g.w⟩:GE)=g:=by rw[<-hgf]
    rw[qU]at xm;exact xm
   ·rw[h5 d bs,ar J];exact e7 d bs
  ·have:k=(eQ ag i).length:=J
   subst this;rw[HD,show dK ag i+(dK ag (i+1)-dK ag i)=dK ag (i+1) by omega]at pU;refine bf (cF (J:i<1000000000000)) ?_;exact⟨r-(i+1),J,i+1,_,rfl,J,rfl,pU,e7,ny⟩
 ·have:i=r:=J
  subst this;rw[afT M,hB]at dV;refine⟨?_,fr,J⟩;rcases dV with e|⟨b,h1,ap,aH⟩
  ·exact .inl e
  ·exact .inr ⟨b,J,ap,aH⟩
def Ab(ag fl:ac GE):Prop:=fl.Perm (ag.map rn)
theorem ak1{c:Nat}(M:hj r c ag):(ag.map rn).Pairwise λx y=>¬(x.f=y.f/\x.t=y.t):=by rw[xM];refine List.Pairwise.imp (λ{x y} h=>?_) M.up;unfold m8 at h;show ¬(x.t=y.t/\x.f=y.f);omega
theorem asw{c:Nat}{L:ac GE}(M:hj r c ag)(V:Ab ag L)(au:L.Pairwise λx y=>¬qA y x<0):hj c r L where
 up:=by have bs:L.Pairwise λx y=>¬(x.f=y.f/\x.t=y.t):=(List.Perm.pairwise_iff J V).2 (ak1 M);refine List.Pairwise.imp₂ (λ{x y} h1 ap=>?_) au bs;rw[JU]at h1;unfold m8 at h1 ⊢;omega
 rows:=λg Z=>by obtain⟨x,aX,rfl⟩:=gO.1 (V.mem_iff.1 Z);exact M.mj x aX
 mj:=λg Z=>by obtain⟨x,aX,rfl⟩:=gO.1 (V.mem_iff.1 Z);exact M.rows x aX
 ba:=M.a5
 a5:=M.ba
 len:=by rw[V.length_eq,gW];exact M.len
def qE(ag:ac GE)(i:Nat):ac GE:=(ag.take i).map rn++ag.drop i
theorem ZI:(qE ag i).length=ag.length:=by unfold qE;grind
theorem aoi(h:i<=ag.length):(qE ag i)[i]? = ag[i]?:=by
 unfold qE
 grind
theorem aoj(h:ag[i]? = some g):(qE ag i).set i (rn g)=qE ag (i+1):=by
 have aj:=(g0.1 h).1;have L:((ag.take i).map rn).length=i:=aa
 unfold qE;rw[ID _ _ J,L,EM,hq,h,hr,kq]
 congr 1
 rw[zs aj];rfl
def TuJ(cf cW al aj:Nat)(w:X)(ag:ac GE)(aq:ae)(a0:Nat)(m:Nat)(aJ:ac X)(ab:ae)(Y:Nat):Prop :=
 ∃i,m=ag.length-i/\i<=ag.length/\aJ=[bb cf,bb cW,w,w,(ag.length:X),(i:X)]/\dX ab w b3 3 (qE ag i) al aj/\aA al aq ab/\a0<=Y
theorem asx{l:ac GE}{w:X}{h:ae}{U al aj:Nat}(dV:dX h w b3 3 l al aj)(fo:aj<=U)(br:l.length<=120):
  aD Q s 297 [w,.func (.func 298) #[] #[]] h U (λ_ ab Y=>∃L,L.Perm l/\L.Pairwise (λx y=>¬qA y x<0)/\dX ab w b3 3 L al aj/\aA al h ab/\U<=Y):=by
 rcases dV with⟨rfl,rfl⟩|⟨b,h1,ap,rfl,bd⟩
 ·exact anD ⟨[],BV _,List.Pairwise.nil,.inl aa,aF,J⟩
 ·refine(arG rfl J J bd).mono ?_;rintro _ ab Y ⟨V,⟨L,Z,au,M⟩,bD⟩;exact⟨L,Z,au,.inr ⟨b,h1,ap,by rw[Z.length_eq],M⟩,aF,V⟩
def axO(r c:Nat)(ag:ac GE)(U:Nat)(h:ae):bZ:=λv ab Y=>∃fl,Ab ag fl/\hj c r fl/\wm ab U Y v c r fl/\aA U h ab/\U<=Y
theorem aok{c:Nat}{v:X}{h:ae}{U:Nat}(M:hj r c ag)(aI:kw h U v r c ag):aD Q s 207 [v] h U (axO r c ag U h):=by
 refine asa ?_;have hZ:=aI;obtain⟨fW,TS,l7,a2,m2,c2,a3,m3,cm,rfl⟩:=aI.form;have br:=M.len;have bH:∀{o aU},aA U h (T (T h U o) (U+1) aU):=aF
 unfold aeg;refine aE ?_;refine(Fy M (hZ.F bH J)).mono ?_;rintro _ h1 bg ⟨rfl,dv,fa⟩;have ch:=dv U J;rw[ar J,aR]at ch;have bP:=dv (U+1) J;rw[aR]at bP;refine bf @ch ?_;have ey:∀{o},aA U h (T h1 U o):=aF
 refine(Wl M ((hZ.F ey (cR _)).F (aA.refl _ _) J)).mono ?_;rintro w ap bU ⟨dV,dM,fx⟩;have kI:=dM U J;rw[aR]at kI;have fI:=dM (U+1) J;rw[ar J,bP]at fI;obtain⟨nI,qc,rfl⟩:=(kW.of dV).form;refine aE ?_;refine bF.mk (TuJ U (U+1) bg bU (.slice nI ag.length qc) ag ap bU) ag.length ⟨0,J,J,rfl,by exact dV,aF,J⟩ ?_;rintro _ _ aH b1 ⟨i,rfl,aj,rfl,hS3,Z,gg⟩;rw[an7];unfold Zx;refine aE ?_;refine⟨λcS=>?_,λeZ=>?_⟩
 ·obtain⟨g,bd⟩:=dW J;have gT:(qE ag i).length=ag.length:=ZI;have V:(qE ag i)[i]? = some g:=by rw[aoi aj,bd]
  rcases hS3 with⟨e,_⟩|⟨b,g8,iZ,e,qM⟩
  ·rw[e]at V;cases V
  ·rw[gT]at e;cases e;have bV:∀bn:ae,iW (some (.cells (a7 b3 (qE ag i)) false)) bn b (i*3) [(g.t:X),(g.f:X),(g.w:X)] = .ok (T bn b (.cells (a7 b3 ((qE ag i).set i (rn g))) false)):=λbn=>Tr (x:=rn g) J;simp(disch:=omega)only[bk,qM,xa (enc:=b3) (k:=3) (λ_=>rfl) V,b3,bV,cF (J:i<1000000000000),seval];refine⟨ag.length-(i+1),J,i+1,rfl,J,rfl,.inr ⟨b,g8,iZ,by rw[ZI],?_⟩,λd bs=>?_,J⟩
   ·rw[aR,aoj bd]
   ·rw[ar J,ar J,ar J];exact Z d bs
 ·have:i=ag.length:=J
  subst this;have TT:dX aH (.slice nI ag.length qc) b3 3 (ag.map rn) bg bU:=by
   have e:qE ag ag.length=ag.map rn:=by unfold qE;grind
   rw[<-e];exact hS3
  refine(asx TT gg aa).mono ?_;rintro _ b0 eN ⟨L,bn,au,pU,e7,ny⟩;have ug:=asw M bn au;have aM:u b0 U=some (.cells [(r:X),(c:X),.slice (some ⟨fW,0,TS⟩) (r+1) l7,.slice a2 m2 c2,.slice a3 m3 cm] false):=by rw[e7 U J,Z U J];omega
  have aW:=(e7 (U+1) J).trans ((Z (U+1) J).trans fI);refine bf @aM ?_;have oq:el b0 eN (.slice nI ag.length qc) b3 L:=by
   have rF:L.length=ag.length:=by rw[bn.length_eq,gW]
   rcases pU with⟨g8,iZ⟩|⟨d,g8,iZ,hO,Bp⟩
   ·exact⟨nI,qc,aa,λfk=>absurd g8 fk⟩
   ·rw[rF]at hO;cases hO;exact⟨_,_,by rw[rF],λ_=>⟨d,some 3,false,[],J,rfl,aa⟩⟩
  refine(O1 oq ug).mono ?_;rintro aBN cj n6 ⟨ei,h5,mi⟩;obtain⟨MM,rsp,ag8,b8,cN,ca,c6,eb,dY,rfl⟩:=ei.is.form;have en:=(h5 (U+1) J).trans aW;refine bf @en ?_;exact⟨L,bn,ug,ei.F aa J J,aF,J⟩
theorem asy{r:Int}{K:Nat->ao}{f:Nat->ay Int}(Z:j<C)(M:K j=false):
  fZ r ((List.range C).map λk=>if(if k=j then true else K k)=true then f k else none)=e6 r (fZ r ((List.range C).map λk=>if K k=true then f k else none)) (f j):=by
 have L:((List.range C).map λk=>if(if k=j then true else K k)=true then f k else none)=(List.range C).map λk=>e6 r (if K k=true then f k else none) (if k=j then f k else none):=by
  refine q5 λk _=>?_
  by_cases e:k=j
  ·subst e;rw[if_pos rfl,if_pos rfl,if_pos rfl,M];rfl
  ·rw[if_neg e,if_neg e,rb]
 rw[L,OE]
 congr 1
 clear L
 induction C with
 |zero=>omega
 |succ C V =>
  rw[q8,hr,Fr];show e6 r _ (e6 r (if C=j then f C else none) none)=_;rw[rb]
  by_cases e:C=j
  ·subst e;rw[if_pos rfl,vZ,E8]
   grind
  ·rw[if_neg e,rb];grind
def K5(r:Int)(ag:ac GE)(x:Nat->ay Int)(a H b W v:Nat):ay Int:=iK r (lN ag a H b W) (λk=>x (b+k)) v
theorem asz(r:Int)(ag:ac GE)(x:Nat->ay Int)(a H b W v:Nat)(L:v<H):
  K5 r ag x a H b W v=fZ r (ag.map λg=>if b<=g.t/\g.t<b+W then(if g.f=a+v then(x g.t).map (hM r g.w)else none)else none):=by
 unfold K5 iK lN;rw[qk,NG];refine OF λg _=>?_;unfold pF
 grind
def Ak(r:Int)(ag:ac GE)(x:Nat->ay Int)(a H C:Nat)(al:Nat->Nat)(K:Nat->ao)(v:Nat):ay Int :=
 fZ r ((List.range C).map λj=>if K j=true then K5 r ag x a H (al j) (al (j+1)-al j) v else none)
theorem aol{r:Int}{x:Nat->ay Int}{al:Nat->Nat}(v:Nat):Ak r ag x a H C al (λ_=>false) v=none :=
 vZ λy L=>aa
theorem aom{r:Int}{x:Nat->ay Int}{al:Nat->Nat}{K:Nat->ao}(M:j<C)(L:K j=false)(v:Nat):
  Ak r ag x a H C al (λk=>if k=j then true else K k) v=e6 r (Ak r ag x a H C al K v) (K5 r ag x a H (al j) (al (j+1)-al j) v):=asy M L
theorem ak2{r:Int}{x:Nat->ay Int}{n:Nat}{al:Nat->Nat}{K:Nat->ao}(L:∀i j,i<=j->al i<=al j)(Z:al 0=0)(ee:al C=n)(cK:∀g∈ag,g.t<n)(M:∀j,j<C->K j=true){v:Nat}(aI:v<H):
  Ak r ag x a H C al K v=iK r ag x (a+v):=by
 have e:Ak r ag x a H C al K v=fZ r ((List.range C).map λj=>fZ r (ag.map λg=>if al j<=g.t/\g.t<al (j+1)then(if g.f=a+v then(x g.t).map (hM r g.w)else none)else none)):=by
  unfold Ak
  congr 1
  refine q5 λj V=>?_;rw[M j (IS.1 V),if_pos rfl,asz _ _ _ _ _ _ _ _ aI]
  grind
 rw[e,XD r _ (λg:GE=>g.t) al L Z];unfold iK;refine OF λg bd=>?_
 grind
def tn(A:ac Nat)(g:GE):ac Nat:=if A.getLast? = some g.f then A else A++[g.f]
def d3(ag:ac GE):ac Nat:=ag.foldl tn []
theorem Cs{aB:Type}{C:ac aB->Prop}(L:C [])(V:∀p g,C p->C (p++[g]))(p:ac aB):C p:=by
 rw[<-List.reverse_reverse p]
 induction p.reverse with
 |nil=>exact L
 |cons x l M=>rw[List.reverse_cons];exact V _ _ M
theorem v9(p:ac GE)(g:GE):d3 (p++[g])=tn (d3 p) g:=by unfold d3;grind
theorem ZJ:∀(p:ac GE),(d3 p).getLast? = p.getLast?.map GE.f:=by
 refine Cs rfl λp g L=>?_
 ·skip
  rw[v9,List.getLast?_append];unfold tn
  grind
theorem F0:∀(p:ac GE) (a:Nat),a∈d3 p->∃g∈p,g.f=a:=by
 refine Cs (λa h=>by cases h) λp g L=>?_
 ·skip
  intro a h;rw[v9]at h;unfold tn at h
  grind
theorem F1:∀(p:ac GE),(d3 p).length<=p.length:=by
 refine Cs (cR _) λp g L=>?_
 ·skip
  rw[v9,jk];unfold tn
  grind
def g7(ag:ac GE):ac Int:=(d3 ag).map (λa=>(dK ag a:Int))++[(ag.length:Int)]
def gR(ag:ac GE):ac Int:=(d3 ag).map λa:Nat=>(a:Int)
theorem yc(ag:ac GE):(g7 ag).length=(d3 ag).length+1:=by unfold g7;grind
theorem F2(ag:ac GE):(gR ag).length=(d3 ag).length:=by unfold gR;grind
theorem zX(h:k0 (p++[g])):∀x∈p,m8 x g:=λx L=>(q4.1 h).2.2 x L g aa
theorem ZK(h:a<=g.f):dK (p++[g]) a=dK p a:=by
 unfold dK
 grind
theorem aeo(h:k0 (p++[g])):(d3 p).map (λa=>(dK (p++[g]) a:Int))=(d3 p).map λa=>(dK p a:Int):=by apply q5;intro a L;obtain⟨x,M,rfl⟩:=F0 p a L;have:=zX h x M;unfold m8 at this;rw[ZK J]
theorem aon(h:k0 (p++[g]))(M:(d3 p).getLast? = some g.f):(g7 p).set (d3 p).length ((p.length:Int)+1)=g7 (p++[g]):=by
 have L:d3 (p++[g])=d3 p:=by rw[v9];unfold tn;grind
 unfold g7;rw[L,aeo h,ID _ _ aa,gW,EM,jk];simp
theorem asA(h:k0 (p++[g]))(bK:(d3 p).getLast?≠some g.f):(g7 p++[0]).set ((d3 p).length+1) ((p.length:Int)+1)=g7 (p++[g]):=by
 have dy:d3 (p++[g])=d3 p++[g.f]:=by rw[v9];unfold tn;grind
 have M:dK (p++[g]) g.f=p.length:=by
  rw[ZK J];unfold dK;rw[zx.2];intro x L;apply hf;have cS:=zX h x L;apply xK;intro bw;rw[ZJ]at bK;cases Z:p.getLast? with
  |none=>grind
  |some y =>
   rw[Z]at bK;have cd:y∈p:=aa
   have ap:=zX h y cd;unfold m8 at ap;have hyf:¬y.f=g.f:=aa
   obtain⟨q,di⟩:=IA.1 Z;have V:=(q4.1 h).1;rw[di]at V L;rcases hs.1 L with L|L
   ·have:=zX V x L;unfold m8 at this;omega
   grind
 unfold g7;rw[dy,hr,aeo h,ID _ _ aa];rw[jk,gW,jk];simp[M]
theorem aoo{h:ae}{U:Nat}:aD Q s 205 [] h U (λv ab Y=>v = .agg ⟨[.int .i64 0,.int .i64 0,.slice none 0 0,.slice (some ⟨U+1,0,none⟩) 1 1,.slice none 0 0,.slice none 0 0]⟩/\u ab (U+1)=some (.cells (hw [0]) false)/\aA U h ab/\Y=U+1+1):=by refine ar9 ?_;unfold aef;refine aE ?_;exact⟨rfl,aF⟩
structure y2 (h:ae) (Z:Nat->Prop) (p:Nat) (x y:Int) (dU dL jC kL:ac Int) (v1 v2 v3 v4:X) (dA d2 fJ:ay Nat) (b2:Nat):Prop where
 g:u h p=some (.cells [(x:X),(y:X),v1,v2,v3,v4] false)
 de:gZ h cY v1 dU dA
 g2:u h b2=some (.cells (hw dL) false)
 aP:∃aO,v2 = .slice (some ⟨b2,0,aO⟩) dL.length dL.length/\(aO=none\/aO=some 1)
 j2:gZ h cY v3 jC d2
 lY:gZ h cY v4 kL fJ
 i5:∀d,dA=some d->Z d
 z2:Z b2
 z3:∀d,d2=some d->Z d
 z4:∀d,fJ=some d->Z d
 d12:dA≠some b2
 d23:d2≠some b2
 d24:fJ≠some b2
 d13:∀d,dA=some d->d2≠some d
 d14:∀d,dA=some d->fJ≠some d
 d34:∀d,d2=some d->fJ≠some d
theorem fu.two{h:ae}{l:ac Int}(M:u h b=some (.cells (hw l) false))(L:aO=none\/aO=some 1):fu h cY 1 (.slice (some ⟨b,0,aO⟩) l.length l.length) l (some b):=by
 rcases L with rfl|rfl
 ·refine .part M (by rw[zN];omega) ?_;rw[nr,q3 (by rw[zN];omega),jm]
 ·exact .own (by rw[jm];omega)
def kz(U aj ah t1 d:Nat):Prop:=U+3<=d/\d≠U+4/\d<aj/\¬(ah<=d/\d<t1)
theorem aop{U aj ah t1 q k:Nat}{x:Int}{h:ae}(D:y2 h (kz U aj ah t1) (U+4) x y dU dL jC kL v1 v2 v3 v4 dA d2 fJ b2)(di:u h q=some (.cells [(g.f:X),(g.t:X),(g.w:X)] false))(hq3:d2≠some q)(hqp:q≠U+4)(hqh:q<aj)(cK:t1<=aj)(aX:U+4<aj)(br:dU.length<dL.length)(hl3:jC.length<=1000)(hl4:kL.length<=1000)(hk:k<=1000) (dT:∀ab dB v3' v4' b3' b4',aj<=dB->y2 ab (kz U dB ah t1) (U+4) x y dU (dL.set dU.length ((jC.length+1:Nat):Int)) (jC++[(g.t:Int)]) (kL++[g.w]) v1 v2 v3' v4' dA b3' b4' b2->(∀d,d<aj->d≠U+4->¬kz U aj ah t1 d->u ab d=u h d) ->
   N [a2,.pointer (some ⟨U+4,0,none⟩),jV,iQ,((k+1:Nat):X)] ab dB):
  CE s N E R a2 (.pointer (some ⟨U+4,0,none⟩)) (bb q) jV iQ (k:X) h aj:=by
 obtain⟨a3,cm,rfl⟩:=D.j2.form;obtain⟨aZ,gd,rfl⟩:=D.lY.form;obtain⟨az,c1,rfl⟩:=D.de.form;obtain⟨aO,rfl,oe⟩:=D.aP;have j1:=D.g;unfold CE;refine cM @j1 @di ?_;refine ti (D.j2.hH.F λd L=>by have:=(D.z3 d L).2.2.1;grind) (aR _ _ _) J λh1 qQ w3=>?_;have fI:∀d,d<aj->d2≠some d->u h1 d=u h d:=aa
 have MN:∀{b:ay Nat},(∀d,b=some d->kz U aj ah t1 d)->b≠some (U+4):=λM e=>absurd rfl (M _ e).2.1;have TU:=(fI (U+4) aX (MN D.z3)).trans j1;have gq1:=(fI q hqh hq3).trans di;refine cM @TU @gq1 ?_;refine ti ((D.lY.hH.F  λd L=>by have M:=D.z4 d L;rw[ar (by have:=M.2.2.1;omega),ar M.2.1];exact fI d M.2.2.1 λe=>D.d34 d e L)) (aR _ _ _) J λap L0 pM=>?_
 have gr:∀d,d<aj+1+1->d≠U+4->fJ≠some d->u ap d=u h1 d:=aa
 have xi:u ap (U+4)=some (.cells [(x:X),(y:X),.slice az dU.length c1,.slice (some ⟨b2,0,aO⟩) dL.length dL.length,.slice (some ⟨aj+1,0,some 1⟩) (jC.length+1) (jC.length+1),.slice aZ kL.length gd] false):=by rw[pM _ J (MN D.z4),ar J,aR]
 have gs2:u ap b2=some (.cells (hw dL) false):=by have M:=D.z2;rw[gr b2 (by have:=M.2.2.1;omega) M.2.1 D.d24,fI b2 M.2.2.1 D.d23];exact D.g2
 have gn2:u ap (aj+1)=some (.cells (hw (jC++[(g.t:Int)])) false):=by rw[gr (aj+1) J J (λe=>by have:=(D.z4 _ e).2.2.1;omega)];omega
 have Z:=D.z2;have sJ:b2≠U+4:=Z.2.1;have LL:b2<aj:=Z.2.2.1;refine gX @xi @gs2 (cF (J:k<1000000000000)) ?_;refine⟨br,dT _ _ (.slice (some ⟨aj+1,0,some 1⟩) (jC.length+1) (jC.length+1)) (.slice (some ⟨aj+1+1+1,0,some 1⟩) (kL.length+1) (kL.length+1)) (some (aj+1)) (some (aj+1+1+1)) (by omega) ?_ λd aH bh b0=>?_⟩
 ·have vJ:∀d,kz U aj ah t1 d->kz U (aj+1+1+1+1) ah t1 d:=λd M=>⟨M.1,M.2.1,by have:=M.2.2.1;omega,M.2.2.2⟩
  exact{
   g:=aa
   de:=D.de.F λd L=>by have M:=D.i5 d L;have:=M.2.2.1;have V:d≠b2:=λe=>D.d12 aa;rw[ar V,ar M.2.1,gr d J M.2.1 (D.d14 d L),fI d J (D.d13 d L)]
   g2:=aa
   aP:=⟨aO,aa,oe⟩
   j2:=.inr ⟨aj+1,rfl,aa,by rw[ar J,ar J,jm];omega⟩
   lY:=.inr ⟨aj+1+1+1,rfl,aa,by rw[ar J,ar J,jm];omega⟩
   i5:=λd L=>vJ d (D.i5 d L)
   z2:=vJ _ Z
   z3:=λd L=>by cases L;exact⟨J,J,J,J⟩
   z4:=λd L=>by cases L;exact⟨J,J,J,J⟩
   d12:=D.d12
   d23:=aa
   d24:=aa
   d13:=λd L e=>by cases e;have:=(D.i5 _ L).2.2.1;omega
   d14:=λd L e=>by cases e;have:=(D.i5 _ L).2.2.1;omega
   d34:=aa }
 ·have V:d≠b2:=aa
  rw[ar V,ar bh,gr d J bh (λe=>b0 (D.z4 d e)),fI d aH (λe=>b0 (D.z3 d e))]
theorem aoq{U aj ah t1 q k:Nat}{x:Int}{h:ae}(D:y2 h (kz U aj ah t1) (U+4) x y dU dL jC kL v1 v2 v3 v4 dA d2 fJ b2)(di:u h q=some (.cells [(g.f:X),(g.t:X),(g.w:X)] false))(hq1:dA≠some q)(hq2:b2≠q)(hqp:q≠U+4)(hqh:q<aj)(cK:t1<=aj)(aX:U+4<aj)(rA:dU.length<=1000)(tN:dL.length<=1001) (dT:∀ab dB Z v2' b1' TV,aj<=dB->y2 ab (kz U dB ah t1) (U+4) x y (dU++[(g.f:Int)]) (dL++[0]) jC kL Z v2' v3 v4 b1' d2 fJ TV->u ab q=some (.cells [(g.f:X),(g.t:X),(g.w:X)] false)->(∀d,d<aj->d≠U+4->¬kz U aj ah t1 d->u ab d=u h d) ->
   CE s N E R a2 (.pointer (some ⟨U+4,0,none⟩)) (bb q) jV iQ (k:X) ab dB):
  Aa s N E R a2 (.pointer (some ⟨U+4,0,none⟩)) (bb q) jV iQ (k:X) (.bool true) h aj:=by
 obtain⟨a3,cm,rfl⟩:=D.j2.form;obtain⟨aZ,gd,rfl⟩:=D.lY.form;obtain⟨az,c1,rfl⟩:=D.de.form;obtain⟨aO,rfl,oe⟩:=D.aP;have j1:=D.g;unfold Aa;refine cM @j1 @di ?_;refine ti (D.de.hH.F λd L=>by have:=(D.i5 d L).2.2.1;grind) (aR _ _ _) J λh1 qQ w3=>?_;have fI:∀d,d<aj->dA≠some d->u h1 d=u h d:=aa
 have MN:∀{b:ay Nat},(∀d,b=some d->kz U aj ah t1 d)->b≠some (U+4):=λM e=>absurd rfl (M _ e).2.1;have TU:=(fI (U+4) aX (MN D.i5)).trans j1;have sJ:b2≠U+4:=D.z2.2.1;have LL:b2<aj:=D.z2.2.2.1;refine bf @TU ?_;have gr2:∀{o aU:gm},fu (T (T h1 (U+4) o) (aj+1+1) aU) cY 1 (.slice (some ⟨b2,0,aO⟩) dL.length dL.length) dL (some b2):=λ{o aU}=>fu.two (by rw[ar J,ar sJ,fI b2 LL D.d12];exact D.g2) oe;refine ti gr2 (aR _ _ _) J λap L0 pM=>?_;have gr:∀d,d<aj+1+1->d≠U+4->d≠b2->u ap d=u h1 d:=aa
 have xi:u ap (U+4)=some (.cells [(x:X),(y:X),.slice (some ⟨aj+1,0,some 1⟩) (dU.length+1) (dU.length+1),.slice (some ⟨b2,0,aO⟩) dL.length dL.length,.slice a3 jC.length cm,.slice aZ kL.length gd] false):=aa
 refine bf @xi ?_;have vJ:∀d,kz U aj ah t1 d->kz U (aj+1+1+1+1) ah t1 d:=λd M=>⟨M.1,M.2.1,by have:=M.2.2.1;omega,M.2.2.2⟩
 have V:∀d,kz U aj ah t1 d->dA≠some d->d≠b2->∀{o:gm},u (T ap (U+4) o) d=u h d:=λd M oZ Dz {o}=>by
  have:=M.2.2.1
  grind
 refine dT _ _ (.slice (some ⟨aj+1,0,some 1⟩) (dU.length+1) (dU.length+1)) (.slice (some ⟨aj+1+1+1,0,some 1⟩) (dL.length+1) (dL.length+1)) (some (aj+1)) (aj+1+1+1) (by omega) ?_ ?_ λd aH bh b0=>?_
 ·exact{
   g:=aa
   de:=.inr ⟨aj+1,rfl,aa,by rw[ar J,gr (aj+1) J J J,jm];omega⟩
   g2:=aa
   aP:=⟨some 1,aa,aa⟩
   j2:=D.j2.F λd L=>V d (D.z3 d L) (λe=>D.d13 d e L) (λe=>D.d23 aa)
   lY:=D.lY.F λd L=>V d (D.z4 d L) (λe=>D.d14 d e L) (λe=>D.d24 aa)
   i5:=λd L=>by cases L;exact⟨J,J,J,J⟩
   z2:=⟨J,J,J,J⟩
   z3:=λd L=>vJ d (D.z3 d L)
   z4:=λd L=>vJ d (D.z4 d L)
   d12:=aa
   d23:=λe=>by have:=(D.z3 _ e).2.2.1;omega
   d24:=λe=>by have:=(D.z4 _ e).2.2.1;omega
   d13:=λd L e=>by cases L;have:=(D.z3 _ e).2.2.1;omega
   d14:=λd L e=>by cases L;have:=(D.z4 _ e).2.2.1;omega
   d34:=D.d34 }
 ·grind
 ·rw[ar bh,gr d J bh (λe=>b0 (by rw[e];exact D.z2)),fI d aH (λe=>b0 (D.i5 d e))]
def ym(h:ae)(al aj:Nat)(v:X)(r c:Nat)(ag:ac GE):Prop :=
 ∃v1 v2 v3 v4,v = .agg ⟨[(r:X),(c:X),v1,v2,v3,v4]⟩/\oc h al aj v1 (gR ag)/\(∃b aO,v2 = .slice (some ⟨b,0,aO⟩) (g7 ag).length (g7 ag).length/\al<=b/\b<aj/\u h b=some (.cells (hw (g7 ag)) false))/\oc h al aj v3 (ft ag)/\oc h al aj v4 (gI ag)
def L1(U ah t1:Nat)(x y:Int)(w:X)(ag:ac GE)(aq:ae)(m:Nat)(aJ:ac X)(ab:ae)(aj:Nat):Prop :=
 ∃(k:Nat) (v1 v2 v3 v4:X) (dA d2 fJ:ay Nat) (b2:Nat),m=ag.length-k/\k<=ag.length/\aJ=[.pointer (some ⟨U+1,0,none⟩),.pointer (some ⟨U+4,0,none⟩),w,(ag.length:X),(k:X)] /\
  y2 ab (kz U aj ah t1) (U+4) x y (gR (ag.take k)) (g7 (ag.take k)) (ft (ag.take k)) (gI (ag.take k)) v1 v2 v3 v4 dA d2 fJ b2/\(∀d,d<t1->d≠U+4->¬kz U t1 ah t1 d->u ab d=u aq d)/\t1<=aj
theorem aor{x:Int}{n:Nat}(L:(gR p).length=n+1)(M:(gR p)[n]? = some x):∃a:Nat,(d3 p).getLast? = some a/\x=(a:Int):=by
 unfold gR at M L
 grind
theorem avt{c:Nat}{v:X}{h:ae}{U:Nat}(M:hj r c ag)(aI:kw h U v r c ag):
  aD Q s 124 [v] h U (λd7 ab Y=>∃L,Ab ag L/\hj c r L/\ym ab U Y d7 r c L/\aA U h ab/\U<=Y):=by
 refine axG ?_;have hZ:=aI;obtain⟨fW,TS,l7,a2,m2,c2,a3,m3,cm,rfl⟩:=aI.form;have ba:=M.ba;have a5:=M.a5;have br:=M.len;unfold ag5;refine aE ?_;have bH:∀{o aU},aA U h (T (T h U o) (U+1) aU):=aF
 refine aoo.mono ?_;rintro _ h1 _ ⟨rfl,gs1,dv,rfl⟩;have ch:=dv U J;rw[ar J,aR]at ch;have bP:=dv (U+1) J;rw[aR]at bP;have cI:aA U h h1:=aF
 refine bf @ch ?_;have ey:∀{o aU},aA U h (T (T h1 (U+1+1+1+1) o) (U+1+1+1+1) aU):=aF
 refine(Ji M ((hZ.F ey (cR _)).F (aA.refl _ _) J)).mono ?_;rintro _ ap bU ⟨rfl,dM,fx⟩;have kI:=dM U J;rw[ar J,ar J,ch]at kI;have fI:=dM (U+1) J;rw[ar J,ar J,bP]at fI;have dD:=dM (U+1+1+1) J;rw[ar J,ar J,gs1]at dD;have H1:=dM (U+1+1+1+1) J;rw[aR]at H1;have fr:aA U h ap:=aF
 refine cM @kI @H1 ?_;have hR:∀{o aU},aA U h (T (T ap (U+1+1+1+1) o) (U+1+1+1+1) aU):=aF
 refine(aok M ((hZ.F hR (cR _)).F (aA.refl _ _) J)).mono ?_;rintro v3 aH b1 ⟨L,fe,ug,ei,f1,gg⟩;refine(Wl ug ei.is).mono ?_;rintro w bh Z ⟨dV,g6,hX⟩;have K6:aA bU _ bh:=f1.trans g6 gg;have aM:=K6 U J;rw[ar J,ar J,kI]at aM;have aW:=K6 (U+1) J;rw[ar J,ar J,fI]at aW;have es:=K6 (U+1+1+1) J;rw[ar J,ar J,dD]at es;have nN:=K6 (U+1+1+1+1) J;rw[aR]at nN;have lk:aA U h bh:=aF
 have AT:=ug.len;obtain⟨nI,qc,rfl⟩:=(kW.of dV).form;refine aE ?_;have aCX:y2 bh (kz U Z b1 Z) (U+4) (r:Int) (c:Int) (gR (L.take 0)) (g7 (L.take 0)) (ft (L.take 0)) (gI (L.take 0)) (.slice none 0 0) (.slice (some ⟨U+1+1+1,0,none⟩) 1 1) (.slice none 0 0) (.slice none 0 0) none none none (U+1+1+1):={
  g:=nN
  de:=.inl ⟨rfl,rfl,rfl⟩
  g2:=es
  aP:=⟨none,rfl,aa⟩
  j2:=.inl ⟨rfl,rfl,rfl⟩
  lY:=.inl ⟨rfl,rfl,rfl⟩
  i5:=λd e=>by cases e
  z2:=⟨J,J,J,J⟩
  z3:=λd e=>by cases e
  z4:=λd e=>by cases e
  d12:=aa
  d23:=aa
  d24:=aa
  d13:=aa
  d14:=λd e=>by cases e
  d34:=λd e=>by cases e }
 refine bF.mk (L1 U b1 Z (r:Int) (c:Int) (.slice nI L.length qc) L bh) L.length ⟨0,_,_,_,_,_,_,_,_,J,J,rfl,aCX,λd _ _ _=>rfl,cR _⟩ ?_;rintro _ _ b0 aj ⟨k,v1,v2,v3,v4,dA,d2,fJ,b2,rfl,hk,rfl,D,tW,ny⟩;rw[ave];unfold aec;refine aE ?_;refine⟨λcS=>?_,λeZ=>?_⟩
 ·obtain⟨g,bd⟩:=dW (J:k<L.length);rcases dV with⟨e,_⟩|⟨uo,g8,iZ,e,qM⟩
  ·rw[e]at bd;cases bd
  cases e;have vp:u b0 uo=some (.cells (a7 b3 L) false):=(tW uo iZ J (λz=>z.2.2.2 ⟨g8,iZ⟩)).trans qM;obtain⟨az,c1,rfl⟩:=D.de.form;have j1:=D.g;have gp4:∀{o aU},u (T (T b0 aj o) aj aU) (U+4)=some (.cells [(r:X),(c:X),.slice az (gR (L.take k)).length c1,v2,v3,v4] false):=λ{o aU}=>aa
  simp(disch:=omega)only[bk,vp,xa (enc:=b3) (k:=3) (λ_=>rfl) bd,b3,j1,seval];have sD:k<L.length:=J
  have sP:(L.take k).length=k:=aa
  have mq:L.take (k+1)=L.take k++[g]:=by rw[hq,bd];rfl
  have hup:k0 (L.take k++[g]):=by rw[<-mq];exact List.Pairwise.sublist (List.take_sublist _ _) ug.up
  have LM:=F1 (L.take k);have aG:=F2 (L.take k);have aD0:=yc (L.take k);have aBO:=Cr (L.take k);have aCY:=FZ (L.take k);have vI:ft (L.take k)++[(g.t:Int)]=ft (L.take (k+1)):=by rw[mq];unfold ft;grind
  have vH:gI (L.take k)++[g.w]=gI (L.take (k+1)):=by rw[mq];unfold gI;grind
  have fin:∀{cj:ae} {HG:Nat} {dL:ac Int} {v1 v2 v3 v4:X} {dA d2 fJ:ay Nat} {b2:Nat} {E R:aQ},y2 cj (kz U HG b1 Z) (U+4) (r:Int) (c:Int) (gR (L.take (k+1))) dL (ft (L.take k)) (gI (L.take k)) v1 v2 v3 v4 dA d2 fJ b2 ->
    dL.set (gR (L.take (k+1))).length (((L.take k).length:Int)+1)=g7 (L.take (k+1))->(gR (L.take (k+1))).length<dL.length->u cj aj=some (.cells [(g.f:X),(g.t:X),(g.w:X)] false)->d2≠some aj->aj+1<=HG->(∀d,d<Z->d≠U+4->¬kz U Z b1 Z d->u cj d=u bh d) ->
    CE s (λaJ ab Y=>∃bR,bR<L.length-k/\L1 U b1 Z (r:Int) (c:Int) (.slice (some ⟨uo,0,some 3⟩) L.length L.length) L bh bR aJ ab Y) E R (.pointer (some ⟨U+1,0,none⟩)) (.pointer (some ⟨U+4,0,none⟩)) (bb aj) (.slice (some ⟨uo,0,some 3⟩) L.length L.length) (L.length:X) (k:X) cj HG:=by intro cj HG dL v1 v2 v3 v4 dA d2 fJ b2 E R MO T Sn TW pR mi xf;refine aop MO TW pR J J J J Sn J J J λd8 hi7 v3' v4' b3' b4' qD aBP vw=>?_;rw[vI,vH,aBO,show(((L.take k).length+1:Nat):Int)=((L.take k).length:Int)+1 by omega,T]at aBP;exact⟨L.length-(k+1),J,k+1,_,_,_,_,_,_,_,_,rfl,J,rfl,aBP,λd b8 cN ca=>by rw[vw d J cN (λz=>ca ⟨z.1,z.2.1,b8,z.2.2.2⟩)];grind,J⟩
  have Eh:∀{o aU:gm},y2 (T (T b0 aj o) aj aU) (kz U (aj+1) b1 Z) (U+4) (r:Int) (c:Int) (gR (L.take k)) (g7 (L.take k)) (ft (L.take k)) (gI (L.take k)) (.slice az (gR (L.take k)).length c1) v2 v3 v4 dA d2 fJ b2:=λ{o aU}=>by
   have hn:∀d,kz U aj b1 Z d->u (T (T b0 aj o) aj aU) d=u b0 d:=λd dc=>by have:=dc.2.2.1;grind
   have vJ:∀d,kz U aj b1 Z d->kz U (aj+1) b1 Z d:=λd dc=>⟨dc.1,dc.2.1,by have:=dc.2.2.1;omega,dc.2.2.2⟩
   exact⟨aa,D.de.F λd V=>hn d (D.i5 d V),(hn b2 D.z2).trans D.g2,D.aP,D.j2.F λd V=>hn d (D.z3 d V),D.lY.F λd V=>hn d (D.z4 d V),λd V=>vJ d (D.i5 d V),vJ b2 D.z2,λd V=>vJ d (D.z3 d V),λd V=>vJ d (D.z4 d V),D.d12,D.d23,D.d24,D.d13,D.d14,D.d34⟩
  have fr2:∀{o aU:gm} (d:Nat),d<Z->d≠U+4->¬kz U Z b1 Z d->u (T (T b0 aj o) aj aU) d=u bh d:=λd b8 cN ca=>aa
  have cZ:∀{b:ay Nat},(∀d,b=some d->kz U aj b1 Z d)->b≠some aj:=λdc e=>by have:=(dc _ e).2.2.1;omega
  have fH:=D.z2.2.2.1;have new:(d3 (L.take k)).getLast?≠some g.f->∀{E R:aQ},Aa s (λaJ ab Y=>∃bR,bR<L.length-k/\L1 U b1 Z (r:Int) (c:Int) (.slice (some ⟨uo,0,some 3⟩) L.length L.length) L bh bR aJ ab Y) E R (.pointer (some ⟨U+1,0,none⟩)) (.pointer (some ⟨U+4,0,none⟩)) (bb aj) (.slice (some ⟨uo,0,some 3⟩) L.length L.length) (L.length:X) (k:X) (.bool true)
    (T (T b0 aj (.cells [.int .i64 0,.int .i64 0,.int .i64 0] false)) aj (.cells [(g.f:X),(g.t:X),(g.w:X)] false)) (aj+1):=λfk {E R}=>by
   have h0:d3 (L.take (k+1))=d3 (L.take k)++[g.f]:=by rw[mq,v9];unfold tn;grind
   have L2:gR (L.take k)++[(g.f:Int)]=gR (L.take (k+1)):=by unfold gR;grind
   refine aoq Eh (aR _ _ _) (cZ D.i5) J J J J J J J λcj HG v1' v2' b1' TV mi MO TW xf=>?_;rw[L2]at MO;refine fin MO ?_ ?_ TW (cZ D.z3) J λd b8 cN ca=>by rw[xf d J cN (λz=>ca ⟨z.1,z.2.1,b8,z.2.2.2⟩)];grind
   ·rw[F2,h0,jk,mq];exact asA hup fk
   grind
  have same:(d3 (L.take k)).getLast? = some g.f->∀{E R:aQ},Aa s (λaJ ab Y=>∃bR,bR<L.length-k/\L1 U b1 Z (r:Int) (c:Int) (.slice (some ⟨uo,0,some 3⟩) L.length L.length) L bh bR aJ ab Y) E R (.pointer (some ⟨U+1,0,none⟩)) (.pointer (some ⟨U+4,0,none⟩)) (bb aj) (.slice (some ⟨uo,0,some 3⟩) L.length L.length) (L.length:X) (k:X) (.bool false)
    (T (T b0 aj (.cells [.int .i64 0,.int .i64 0,.int .i64 0] false)) aj (.cells [(g.f:X),(g.t:X),(g.w:X)] false)) (aj+1):=λbK {E R}=>by
   have h0:d3 (L.take (k+1))=d3 (L.take k):=by rw[mq,v9];unfold tn;grind
   have L2:gR (L.take (k+1))=gR (L.take k):=by unfold gR;rw[h0]
   unfold Aa;refine aE ?_;refine fin (by rw[L2];exact Eh) ?_ ?_ (aR _ _ _) (cZ D.z3) (cR _) fr2
   ·rw[L2,F2,mq];exact aon hup bK
   grind
  refine⟨λaq=>?_,λaq=>?_⟩
  ·have aq:(gR (L.take k)).length=0:=aa
   rw[aG]at aq;exact new aa
  ·have aq:(gR (L.take k)).length≠0:=aa
   obtain⟨n,bw⟩:∃n,(gR (L.take k)).length=n+1:=⟨(gR (L.take k)).length-1,J⟩
   obtain⟨x,aX⟩:=dW (l:=gR (L.take k)) (i:=n) J;obtain⟨a,dy,rfl⟩:=aor bw aX;have de:IntKind.wrap .i64 (((gR (L.take k)).length:Int)-1)=(n:Int):=by rw[bw,show(((n+1:Nat):Int))-1=(n:Int) by omega];exact jo J J
   rcases D.de with⟨aW,_⟩|⟨en,aW,aP,bP⟩
   ·rw[aW]at aq;exact absurd rfl aq
   ·cases aP;have dc:=(D.i5 en aW).2.2.1;rw[jm]at bP;simp(disch:=omega)only[bk,de,bP,j4 aX,seval]
    by_cases AK:a=g.f
    ·subst AK;rw[oH];exact same dy
    ·rw[show(((a:Int)) == (g.f:Int))=false from sa.2 J];exact new aa
 ·have:k=L.length:=J
  subst this;have j1:=D.g;have dq:u b0 (U+1)=u bh (U+1):=tW (U+1) J J (λz=>by have:=z.1;omega);rw[hB]at D;obtain⟨az,c1,rfl⟩:=D.de.form;obtain⟨aZ,gd,rfl⟩:=D.j2.form;obtain⟨bI,p9,rfl⟩:=D.lY.form;obtain⟨aO,rfl,oe⟩:=D.aP;refine gX @j1 @dq @aW ?_;have aF:∀d,kz U aj b1 Z d->∀{o:gm},u (T b0 (U+1) o) d=u b0 d:=λd dc {o}=>ar (by have:=dc.1;omega);refine⟨L,fe,ug,⟨_,_,_,_,rfl,⟨dA,D.de.F λd V=>aF d (D.i5 d V),λd V=>⟨by have:=(D.i5 d V).1;omega,(D.i5 d V).2.2.1⟩⟩,⟨b2,aO,rfl,by have:=D.z2.1;omega,D.z2.2.2.1,(aF b2 D.z2).trans D.g2⟩,⟨d2,D.j2.F λd V=>aF d (D.z3 d V),λd V=>⟨by have:=(D.z3 d V).1;omega,(D.z3 d V).2.2.1⟩⟩,⟨fJ,D.lY.F λd V=>aF d (D.z4 d V),λd V=>⟨by have:=(D.z4 d V).1;omega,(D.z4 d V).2.2.1⟩⟩⟩,λd V=>?_,J⟩;rw[ar J,tW d J J (λz=>by have:=z.1;omega)];exact lk d V
section
variable {I:Nat->ae->Nat->Prop} {D:ae->Nat->Prop} {q:Nat->ao}
theorem ab5{k h U}(L:∀k h U,q k=false->I k h U->I (k+1) h U):∀(d:Nat),(∀i,k<=i->i<k+d->q i=false)->I k h U->I (k+d) h U
 |0,_,aj=>aj
 |d+1,M,aj=>L _ _ _ aa (ab5 L d aa aj)
def EgJ(I:Nat->ae->Nat->Prop)(l n:Nat)(q:Nat->ao)(km:X)(m:Nat)(aJ:ac X)(ab:ae)(Y:Nat):Prop :=
 ∃k:Nat,m=n-k/\k<=n/\aJ=[.func (.yield l) ⟨[]⟩ ⟨[]⟩,.int .u64 (mk (n-k) (λi=>q (i+k)):Int),(k:X),km,.int .i64 1,.int .i64 0]/\I k ab Y
def EgO(I:Nat->ae->Nat->Prop)(l n:Nat)(km:X)(h:ae)(U:Nat)(m:Nat)(aJ:ac X)(ab:ae)(Y:Nat):Prop :=
 (m=1/\aJ=[.func (.yield l) ⟨[]⟩ ⟨[]⟩,km,.int .i64 1,.int .i64 0]/\ab=h/\Y=U)\/(m=0/\aJ=[.func (.yield l) ⟨[]⟩ ⟨[]⟩,km,.int .i64 1,.int .i64 1]/\I n ab Y)
theorem asB{n l:Nat}{h:ae}{U:Nat}(bw:n<=63)(aI:dg h U km kd [mk n q])(w0:u h Ih=some (.cells [km] false))(aq:I 0 h U)(au:∀k h U,q k=false->I k h U->I (k+1) h U)(cd:∀k h U,k<n->q k=true->I k h U->lW Q s l [(k:X)] h U (λr ab Y=>(r = .bool true/\I (k+1) ab Y)\/(r = .bool false/\D ab Y))):
  aD Q s 288 [.func (.yield l) ⟨[]⟩ ⟨[]⟩,bb Ih] h U (λ_ ab Y=>I n ab Y\/D ab Y):=by
 refine QZ ?_;obtain⟨a,cap,rfl,a5⟩:=id aI;obtain⟨b,aO,bL,a1,rfl,bd⟩:=a5 (by simp);have bd:u h b=some (.cells [.int .u64 (mk n q:Int)] bL):=bd;unfold KD;simp(disch:=omega)only[bk,w0,@List.length_cons Nat,@List.length_nil Nat,seval];refine bF.mk (EgO I l n (.slice (some ⟨b,0,aO⟩) 1 cap) h U) 1 (.inl aa) ?_;rintro m aJ ab Y (⟨rfl,rfl,gB,e1⟩|⟨rfl,rfl,ei⟩)
 ·rw[FY,gB,e1];unfold Cp;have TN:bin Q .shl 3 (.int .i64 0) (.int .u64 6) = .ok (.int .i64 0):=rfl;refine cM @bd @TN ?_;refine⟨?_,aa⟩;refine bF.mk (EgJ I l n q (.slice (some ⟨b,0,aO⟩) 1 cap)) n ⟨0,J,J,rfl,aq⟩ ?_;rintro _ _ aH L ⟨k,rfl,hk,rfl,V⟩;rw[abN];unfold PU
  by_cases dc:mk (n-k) (λi=>q (i+k))=0
  ·have aM:((mk (n-k) (λi=>q (i+k)):Nat):Int)=0:=J
   have M:I (k+(n-k)) aH L:=ab5 au (n-k) (λi h1 ap=>by
    have:=FO.1 dc (i-k) J
    grind) V
   rw[show k+(n-k)=n by omega]at M;refine bf @aM ?_;exact⟨0,J,.inr ⟨rfl,rfl,M⟩⟩
  ·have Ba:k<n:=by
    rcases iI k n with h|h
    ·exact h
    ·exact absurd (by rw[show n-k=0 by omega];rfl) dc
   obtain⟨r,ba⟩:∃r,n-k=r+1:=⟨n-k-1,J⟩
   have aW:(((mk (n-k) (λi=>q (i+k)):Nat):Int) == 0)=false:=aa
   have Z:bin Q .and 188 (.int .u64 ((mk (n-k) (λi=>q (i+k)):Nat):Int)) (.int .u64 1) = .ok (.int .u64 (if q k then 1 else 0)):=by
    rw[show(1:Int)=((1:Nat):Int)from rfl,Fp (wO J) J,IJ,ba,ada,iU]
    grind
   have cy:mk (n-k) (λi=>q (i+k)) / 2=mk (n-(k+1)) (λi=>q (i+(k+1))):=by
    rw[ba,ac9,show n-(k+1)=r by omega]
    grind
   have eE:bin Q .shr 188 (.int .u64 ((mk (n-k) (λi=>q (i+k)):Nat):Int)) (.int .u64 1) = .ok (.int .u64 ((mk (n-(k+1)) (λi=>q (i+(k+1))):Nat):Int)):=by rw[OD,cy]
   cases di:q k with
   |true =>
    rw[di]at Z;refine cM @aW @Z ?_;refine(cd k aH L Ba di V).mono ?_;rintro _ bh LN (⟨rfl,V⟩|⟨rfl,BE⟩)
    ·refine aE ?_;unfold Co;refine cM @eE (cF (J:k<1000000000000)) ?_;exact⟨n-(k+1),J,k+1,rfl,J,rfl,V⟩
    ·simp(disch:=omega)only[bk,seval]
     grind
   |false =>
    rw[di]at Z;have LR:bin Q .and 188 (.int .u64 ((mk (n-k) (λi=>q (i+k)):Nat):Int)) (.int .u64 1) = .ok (.int .u64 0):=Z;refine cM @aW @LR ?_;unfold Co;refine cM @eE (cF (J:k<1000000000000)) ?_;exact⟨n-(k+1),J,k+1,rfl,J,rfl,au k aH L di V⟩
 ·rw[FY];unfold Cp;simp(disch:=omega)only[bk,seval]
  grind
end
def eT(n:Nat)(q:Nat->ao):ac Nat:=if n=0 then[]else[mk n q]
theorem ab6{l:Nat}{h:ae}{U:Nat}(M:dg h U km kd ([]:ac Nat))(L:u h Ih=some (.cells [km] false)):
  aD Q s 288 [.func (.yield l) ⟨[]⟩ ⟨[]⟩,bb Ih] h U (λ_ ab Y=>ab=h/\Y=U):=by
 refine QZ ?_;obtain⟨a,cap,rfl,a5⟩:=id M;unfold KD;simp(disch:=omega)only[bk,L,@List.length_nil Nat,seval];refine bF.mk (λm aJ ab Y=>aJ=[.func (.yield l) ⟨[]⟩ ⟨[]⟩,.slice a 0 cap,.int .i64 0,.int .i64 0]/\ab=h/\Y=U) 0 aa ?_;rintro m aJ ab Y ⟨rfl,Z,V⟩;rw[FY];unfold Cp;simp(disch:=omega)only[bk,seval]
 grind
noncomputable def nt:Code:=(u9 Q 473).1
noncomputable def nu:Code:=(u9 Q 473).2
def qp(iT ah cW cf t1:X):ck:=[(7,some iT),(6,some ah),(4,some cW),(3,some cf),(0,some ah),(1,some t1)]
def ab7(s:ao)(d2 fJ gl:X)(h:ae)(U:Nat)(N R:ae->Nat->Prop):Prop:=af (iO none h d2) λou=>af (bin Q .geq 3 gl ou) λpZ=>bt pZ (af (aN h 1 fJ gl) λh12=>R h12 U) (N h U)
def P3(s:ao)(l:Nat)(iT ah cW cf t1 fC:X)(h:ae)(U:Nat)(K:bZ):Prop:=∃eH,u h l=some (.loop 0 eH (qp iT ah cW cf t1) [8] nt nu)/\ab7 s cf cW fC (T h l (.loop 1 eH (qp iT ah cW cf t1) [8] nt nu)) U (λh n=>∃gG eH,u h l=some (.loop gG eH (qp iT ah cW cf t1) [8] nt nu)/\K (.bool true) (T h l (.loop 0 none (qp iT ah cW cf t1) [8] nt nu)) n) (λh n=>∃gG eH,u h l=some (.loop gG eH (qp iT ah cW cf t1) [8] nt nu)/\K (.bool false) (T h l (.loop 2 (some .ret) (qp iT ah cW cf t1) [8] nt nu)) n)
theorem aos{l:Nat}{h:ae}{U:Nat}:Br Q s [] [] l [fC] (qp iT ah cW cf t1) [8] nt nu h U K=P3 s l iT ah cW cf t1 fC h U K:=by kernel_rfl
theorem aot{l:Nat}{p:ay Code}{h:ae}{U:Nat}(L:u h l=some (.loop st p (qp iT ah cW cf t1) [8] nt nu))(w:P3 s l iT ah cW cf t1 fC h U K):lW Q s l [fC] h U K:=lW.o1 l3 (vC:=[]) (oy:=[]) L rfl (by kernel_rfl) (by kernel_rfl) (by rw[aos];exact w)
def aep:c0:=λs ah t1 h U K=>bG t1 h U λa b c=>bX [(ad 0)] b c λd e f=>aV s 197 [ah] e f λg i j=>tL Q s g i j (.loop 0 none (qp g ah d a t1) [8] nt nu) (yB j (λk l=>af (aN k 1 d (ad (-1))) λm=>bY m d λn=>K n m l) (λk l=>bY k d λo=>K o k l))
theorem asC:c4 473 aep:=c5 []
noncomputable def uK:Code:=(u9 Q 495).1
noncomputable def uL:Code:=(u9 Q 495).2
def uO(t1 cf ah:X):ck:=[(6,some t1),(4,some (.slice none 0 0)),(2,some cf),(0,some ah),(1,some t1)]
def ZL(s:ao)(b2 gl:X)(h:ae)(U:Nat)(N R:ae->Nat->Prop):Prop:=af (iO none h b2) λnM=>af (iO (some 2) h gl) λVk=>dS (eO 1 [(.int .i64 0),(.int .i64 0)] [(0,2,Vk)]) h U λHF h11 n12=>dm (dI (dn 2 h11 n12 nM HF)) λpV h14 n15=>af (aN h14 1 b2 pV) λh16=>N h16 n15
def O2(s:ao)(l:Nat)(t1 cf ah fC:X)(h:ae)(U:Nat)(K:bZ):Prop:=dS (.ok (.ptr (.cells [(.int .i64 0),(.int .i64 0)] false))) h U λcW b0 n6=>af (aN b0 2 cW fC) λd8=>∃eH,u d8 l=some (.loop 0 eH (uO t1 cf ah) [7] uK uL)/\ZL s cf cW (T d8 l (.loop 1 eH (uO t1 cf ah) [7] uK uL)) n6 (λh n=>∃gG eH,u h l=some (.loop gG eH (uO t1 cf ah) [7] uK uL)/\K (.bool true) (T h l (.loop 0 none (uO t1 cf ah) [7] uK uL)) n) (λh n=>∃gG eH,u h l=some (.loop gG eH (uO t1 cf ah) [7] uK uL)/\K (.bool false) (T h l (.loop 2 (some .ret) (uO t1 cf ah) [7] uK uL)) n)
theorem ak3{l:Nat}{h:ae}{U:Nat}:Br Q s [] [] l [fC] (uO t1 cf ah) [7] uK uL h U K=O2 s l t1 cf ah fC h U K:=by kernel_rfl
theorem ak4{l:Nat}{p:ay Code}{h:ae}{U:Nat}(L:u h l=some (.loop st p (uO t1 cf ah) [7] uK uL))(w:O2 s l t1 cf ah fC h U K):lW Q s l [fC] h U K:=lW.o1 l3 (vC:=[]) (oy:=[]) L rfl (by kernel_rfl) (by kernel_rfl) (by rw[ak3];exact w)
def ab8:c0:=λs ah t1 h U K=>bG ah h U λa b c=>tL Q s t1 b c (.loop 0 none (uO t1 a ah) [7] uK uL) (yB c (λd e=>bY d a λf=>K f d e) (λd e=>K aw d e))
theorem aou:c4 495 ab8:=c5 []
noncomputable def uP:Code:=(u9 Q 391).1
noncomputable def uQ:Code:=(u9 Q 391).2
def uT(jF kj qN rL pV jW nM iT cW cf ah:X):ck:=[(12,some jF),(11,some kj),(3,some qN),(10,some rL),(9,some pV),(8,some jW),(7,some nM),(6,some iT),(2,some cW),(1,some cf),(0,some ah)]
def ab9(s:ao)(d2 fJ gl:X)(h:ae)(U:Nat)(N R:ae->Nat->Prop):Prop:=af (wq 1 d2) λmw=>af (iO none h mw) λo2=>af (cw [(.int .i64 0),(.int .i64 0)] [(0,1,fJ),(1,1,gl)]) λpY=>dS (eO 1 [(.int .i64 0),(.int .i64 0)] [(0,2,pY)]) h U λp26 h27 n28=>dm (dI (dn 2 h27 n28 o2 p26)) λx29 TX n31=>af (wq 1 d2) λpX=>af (aN TX 1 pX x29) λh33=>N h33 n31
def P4(s:ao)(l:Nat)(jF kj qN rL pV jW nM iT cW cf ah fC d6:X)(h:ae)(U:Nat)(K:bZ):Prop:=∃eH,u h l=some (.loop 0 eH (uT jF kj qN rL pV jW nM iT cW cf ah) [13,14] uP uQ)/\ab9 s qN fC d6 (T h l (.loop 1 eH (uT jF kj qN rL pV jW nM iT cW cf ah) [13,14] uP uQ)) U (λh n=>∃gG eH,u h l=some (.loop gG eH (uT jF kj qN rL pV jW nM iT cW cf ah) [13,14] uP uQ)/\K (.bool true) (T h l (.loop 0 none (uT jF kj qN rL pV jW nM iT cW cf ah) [13,14] uP uQ)) n) (λh n=>∃gG eH,u h l=some (.loop gG eH (uT jF kj qN rL pV jW nM iT cW cf ah) [13,14] uP uQ)/\K (.bool false) (T h l (.loop 2 (some .ret) (uT jF kj qN rL pV jW nM iT cW cf ah) [13,14] uP uQ)) n)
theorem aov{l:Nat}{h:ae}{U:Nat}:Br Q s [] [] l [fC,d6] (uT jF kj qN rL pV jW nM iT cW cf ah) [13,14] uP uQ h U K=P4 s l jF kj qN rL pV jW nM iT cW cf ah fC d6 h U K:=by kernel_rfl
theorem aow{l:Nat}{p:ay Code}{h:ae}{U:Nat}(L:u h l=some (.loop st p (uT jF kj qN rL pV jW nM iT cW cf ah) [13,14] uP uQ))(w:P4 s l jF kj qN rL pV jW nM iT cW cf ah fC d6 h U K):lW Q s l [fC,d6] h U K:=lW.o1 l3 (vC:=[]) (oy:=[]) L rfl (by kernel_rfl) (by kernel_rfl) (by rw[aov];exact w)
def aeq:cO:=λs ah h U K=>bG ah h U λa b c=>bX [(ad 0),aw] b c λd e f=>aG 3 e a λg=>aV s 450 [g] e f λi j k=>af (aN j 3 a i) λl=>bl 0 a λm=>bY l m λn=>af (cw [(ad 0),aw] [(0,1,n)]) λo=>bX [(ad 0),aw] l k λp q r=>af (aN q 2 p o) λt=>aG 3 t a λaS=>aV s 451 [aS] t r λv w x=>tL Q s v w x (.loop 0 none (uT v aS p o n m i g d a ah) [13,14] uP uQ) (yB x (λy z=>aG 2 y p λbz=>af (aN y 2 d bz) λbS=>aG 2 bS d λbA=>K bA bS z) (λy z=>aG 2 y d λa9=>K a9 y z))
theorem asD:cQ 391 aeq:=cT []
noncomputable def sk:Code:=(u9 Q 393).1
noncomputable def sl:Code:=(u9 Q 393).2
def uU(pW f6 t3 rM pX qO qP rN pQ pY o2 mw jF kj ot rO jW pZ ou eX cW cf ah t1 t2:X):ck:=[(36,some pW),(35,some f6),(34,some t3),(33,some rM),(32,some pX),(12,some qO),(26,some (.bool false)),(26,some qP),(31,some qP),(30,some rN),(29,some pQ),(28,some pY),(27,some o2),(22,some (.bool false)),(22,some mw),(25,some mw),(24,some jF),(23,some kj),(21,some ot),(20,some rO),(16,some jW),(19,some jW),(18,some pZ),(17,some ou),(11,some (.int .i64 0)),(10,some (.slice none 0 0)),(7,some eX),(6,some cW),(5,some cf),(0,some ah),(1,some t1),(2,some t2),(3,some t3),(4,some f6)]
def aca(s:ao)(gl Ii zk b12 b13:X)(h:ae)(U:Nat)(N R:ae->Nat->Prop):Prop:=af (iO none h gl) λx37=>af (iO (some 5) h Ii) λTY=>af (iO (some 3) h zk) λx39=>aD Q s 457 [x37,TY,b13,x39] h U λx40 h41 n42=>af (cu x40 0) λx43=>af (cu x40 1) λHo=>dS (.ok (.ptr (.cells [(.int .i64 0),(.int .u64 0)] false))) h41 n42 λp45 A7 A8=>af (aN A7 2 p45 x43) λrK=>bt Ho (af (iO none rK b12) λx49=>af (iO (some 2) rK p45) λx50=>af (cw [(.int .i64 0),(.int .i64 0),(.int .u64 0)] [(0,1,b13),(1,2,x50)]) λx51=>dS (eO 1 [(.int .i64 0),(.int .i64 0),(.int .u64 0)] [(0,3,x51)]) rK A8 λp52 h53 n54=>dm (dI (dn 3 h53 n54 x49 p52)) λx55 h56 n57=>af (aN h56 1 b12 x55) λh58=>N h58 n57) (N rK A8)
def P5(s:ao)(l:Nat)(pW f6 t3 rM pX qO qP rN pQ pY o2 mw jF kj ot rO jW pZ ou eX cW cf ah t1 t2 fC:X)(h:ae)(U:Nat)(K:bZ):Prop:=∃eH,u h l=some (.loop 0 eH (uU pW f6 t3 rM pX qO qP rN pQ pY o2 mw jF kj ot rO jW pZ ou eX cW cf ah t1 t2) [37] sk sl)/\aca s cf cW eX qO fC (T h l (.loop 1 eH (uU pW f6 t3 rM pX qO qP rN pQ pY o2 mw jF kj ot rO jW pZ ou eX cW cf ah t1 t2) [37] sk sl)) U (λh n=>∃gG eH,u h l=some (.loop gG eH (uU pW f6 t3 rM pX qO qP rN pQ pY o2 mw jF kj ot rO jW pZ ou eX cW cf ah t1 t2) [37] sk sl)/\K (.bool true) (T h l (.loop 0 none (uU pW f6 t3 rM pX qO qP rN pQ pY o2 mw jF kj ot rO jW pZ ou eX cW cf ah t1 t2) [37] sk sl)) n) (λh n=>∃gG eH,u h l=some (.loop gG eH (uU pW f6 t3 rM pX qO qP rN pQ pY o2 mw jF kj ot rO jW pZ ou eX cW cf ah t1 t2) [37] sk sl)/\K (.bool false) (T h l (.loop 2 (some .ret) (uU pW f6 t3 rM pX qO qP rN pQ pY o2 mw jF kj ot rO jW pZ ou eX cW cf ah t1 t2) [37] sk sl)) n)
theorem aox{l:Nat}{h:ae}{U:Nat}:Br Q s [] [] l [fC] (uU pW f6 t3 rM pX qO qP rN pQ pY o2 mw jF kj ot rO jW pZ ou eX cW cf ah t1 t2) [37] sk sl h U K=P5 s l pW f6 t3 rM pX qO qP rN pQ pY o2 mw jF kj ot rO jW pZ ou eX cW cf ah t1 t2 fC h U K:=by kernel_rfl
theorem aoy{l:Nat}{p:ay Code}{h:ae}{U:Nat}(L:u h l=some (.loop st p (uU pW f6 t3 rM pX qO qP rN pQ pY o2 mw jF kj ot rO jW pZ ou eX cW cf ah t1 t2) [37] sk sl))(w:P5 s l pW f6 t3 rM pX qO qP rN pQ pY o2 mw jF kj ot rO jW pZ ou eX cW cf ah t1 t2 fC h U K):lW Q s l [fC] h U K:=lW.o1 l3 (vC:=[]) (oy:=[]) L rfl (by kernel_rfl) (by kernel_rfl) (by rw[aox];exact w)
def aer:xz:=λs ah t1 t2 t3 f6 h U K=>bG ah h U λa b c=>bG t1 b c λd e f=>bG t2 e f λg i j=>aG 5 i d λk=>aG 3 i g λl=>aV s 455 [k,l] i j λm n o=>af (cu m 0) λp=>af (cu m 1) λq=>af (aN n 5 d p) λr=>af (aN r 3 g q) λt=>bY t a λaS=>aV s 259 [aS] t o λv w x=>af (ds .not v) λy=>bt y (K (.tuple ⟨[aw,(ad 8)]⟩) w x) (bl 0 g λz=>bY w z λbz=>bl 1 d λbS=>bY w bS λbA=>bE .neq 3 bz bA λa9=>bt a9 (K (.tuple ⟨[aw,(ad 4)]⟩) w x) (bX [aw] w x λbM b5 bO=>bl 0 d λcJ=>bY b5 cJ λcp=>aV s 456 [cp,t3,f6] b5 bO λdk c3 eo=>tL Q s dk c3 eo (.loop 0 none (uU dk f6 t3 cp cJ bM a9 bA bS bz z y v aS q p m l k g d a ah t1 t2) [37] sk sl) (yB eo (λam an=>bY am bM λek=>K (.tuple ⟨[ek,(ad 0)]⟩) am an) (λam an=>K (.tuple ⟨[aw,(ad 0)]⟩) am an))))
theorem asE:zi 393 aer:=A3 []
def fO(q:Nat->ao)(a:Int):Nat->Int
 |0=>-1
 |n+1=>if fO q a n = -1 then(if q n=true/\a<=(n:Int)then(n:Int)else -1)else fO q a n
theorem Q8{q:Nat->ao}{a:Int}{k:Nat}(h:fO q a k≠-1):∀d,fO q a (k+d)=fO q a k
 |0=>rfl
 |d+1=>by have:=Q8 h d;show(if fO q a (k+d) = -1 then _ else fO q a (k+d))=_;omega
theorem afV{q:Nat->ao}{a:Int}:∀n,-1<=fO q a n/\fO q a n<n/\(fO q a n = -1\/a<=fO q a n)
 |0=>⟨by unfold fO;omega,by unfold fO;omega,.inl rfl⟩
 |n+1=>by have:=afV (q:=q) (a:=a) n;unfold fO;omega
def NxL(l pe xv:Nat)(ak:ck)(a:Int)(al:Nat)(aq h:ae)(U:Nat):Prop:=u h l=some (.loop 0 none ak [8] nt nu)/\u h pe=some (.cells [(a:X)] false)/\u h xv=some (.cells [.int .i64 0] false)/\(∀c,c<al->u h c=u aq c)
def L3(l pe xv:Nat)(ak:ck)(a:Int)(q:Nat->ao)(al bg:Nat)(aq:ae)(k:Nat)(h:ae)(U:Nat):Prop:=fO q a k = -1/\NxL l pe xv ak a al aq h U/\U=bg
def NxD(l xv:Nat)(ak:ck)(a:Int)(q:Nat->ao)(al bg n:Nat)(aq:ae)(h:ae)(U:Nat):Prop:=u h l=some (.loop 2 (some .ret) ak [8] nt nu)/\u h xv=some (.cells [.int .i64 (fO q a n)] false)/\(∀c,c<al->u h c=u aq c)/\U=bg
theorem azC{l M L al n:Nat}{a:Int}{q:Nat->ao}{V:ae}(br:l≠M/\l≠L/\M≠L/\al<=l/\al<=M/\al<=L){k:Nat}{h:ae}{U:Nat}(hk:k<n)(di:q k=true)(mD:L3 l M L (qp iT ah (bb L) (bb M) t1) a q al bg V k h U):
  lW Q s l [(k:X)] h U (λr ab Y=>(r = .bool true/\L3 l M L (qp iT ah (bb L) (bb M) t1) a q al bg V (k+1) ab Y)\/(r = .bool false/\NxD l L (qp iT ah (bb L) (bb M) t1) a q al bg n V ab Y)):=by
 obtain⟨h1,ap,aH,bh⟩:=br;obtain⟨e1,⟨Z,epa,epr,elo⟩,rfl⟩:=mD;refine aot Z ?_;unfold P3 ab7;refine⟨none,Z,?_⟩;generalize qp iT ah (bb L) (bb M) t1=ak at *
 have bP:u (T h l (.loop 1 none ak [8] nt nu)) M=some (.cells [(a:X)] false):=aa
 have g2:u (T h l (.loop 1 none ak [8] nt nu)) L=some (.cells [.int .i64 0] false):=aa
 refine cM @bP @g2 ?_;refine⟨λbd=>⟨1,none,aa,.inr ⟨aa,?_,λc a5=>?_,rfl⟩⟩,λbd=>⟨1,none,aa,.inl ⟨?_,⟨aa,?_,?_,aa⟩,rfl⟩⟩⟩
 ·have aW:fO q a (k+1)=(k:Int):=by
   show(if fO q a k = -1 then(if q k=true/\a<=(k:Int)then(k:Int)else -1)else fO q a k)=_
   grind
  have aP:fO q a n=fO q a (k+1):=by
   have:=Q8 (q:=q) (a:=a) (k:=k+1) J (n-(k+1))
   grind
  grind
 ·grind
 ·show(if fO q a k = -1 then(if q k=true/\a<=(k:Int)then(k:Int)else -1)else fO q a k)=_;omega
 all_goals grind
theorem avu{q:Nat->ao}{a:Int}{k:Nat}(h:q k=false):fO q a (k+1)=fO q a k:=by
 show(if fO q a k = -1 then(if q k=true/\a<=(k:Int)then(k:Int)else -1)else fO q a k)=_
 grind
theorem P6{n:Nat}{a:Int}{q:Nat->ao}{v:X}{h:ae}{U:Nat}(bw:n<=63)(aI:dg h U v kd (eT n q)):
  aD Q s 473 [v,(a:X)] h U (λr ab Y=>r = .int .i64 (fO q a n)/\aA U h ab/\U<=Y):=by
 refine asC ?_;obtain⟨Ei,cap,rfl,a5⟩:=id aI;unfold aep;refine aE ?_;refine RH ?_;unfold K4;refine aE ?_;show aD Q s 288 [.func (.yield (U+1+1+1)) ⟨[]⟩ ⟨[]⟩,.pointer (some ⟨U+1+1,0,none⟩)] _ _ _;generalize Z:qp (.func (.func 288) ⟨[]⟩ ⟨[.pointer (some ⟨U+1+1,0,none⟩)]⟩) (.slice Ei (eT n q).length cap) (.pointer (some ⟨U+1,0,none⟩)) (bb U) (a:X)=ak;generalize fp:T (T (T (T h U (.cells [(a:X)] false)) (U+1) (.cells [.int .i64 0] false)) (U+1+1) (.cells [.slice Ei (eT n q).length cap] false)) (U+1+1+1) (.loop 0 none ak [8] nt nu)=H;have L:dg H (U+1+1+1+1) (.slice Ei (eT n q).length cap) kd (eT n q):=aI.F aF J;have M:u H (U+1+1)=some (.cells [.slice Ei (eT n q).length cap] false):=aa
 have aj:L3 (U+1+1+1) U (U+1) ak a q U (U+1+1+1+1) h 0 H (U+1+1+1+1):=
  ⟨rfl,⟨aa,aa,aa,aa⟩,rfl⟩
 have nn:aD Q s 288 [.func (.yield (U+1+1+1)) ⟨[]⟩ ⟨[]⟩,.pointer (some ⟨U+1+1,0,none⟩)] H (U+1+1+1+1) (λ_ ab Y=>L3 (U+1+1+1) U (U+1) ak a q U (U+1+1+1+1) h n ab Y\/NxD (U+1+1+1) (U+1) ak a q U (U+1+1+1+1) n h ab Y):=by
  by_cases dc:n=0
  ·subst dc;refine(ab6  L M).mono ?_
   grind
  ·have fh:eT n q=[mk n q]:=if_neg dc;rw[fh]at L M Z;refine asB bw L M aj (λk ab Y hk V=>?_) λk ab Y hk di V=>by subst Z;exact azC J hk di V
   exact⟨by rw[avu hk];exact V.1,V.2.1,V.2.2⟩
 refine nn.mono ?_;rintro _ ab Y (⟨e1,⟨xE,epa,epr,elo⟩,rfl⟩|⟨xE,epr,elo,rfl⟩)
 ·refine⟨0,none,ak,[8],nt,nu,xE,J,.inl ⟨rfl,?_⟩⟩;have bP:u (T ab (U+1+1+1) (.loop 3 none ak [8] nt nu)) (U+1)=some (.cells [.int .i64 0] false):=aa
  refine bf @bP ?_;refine⟨by rw[e1],λc a5=>?_,J⟩
  grind
 ·refine⟨2,some .ret,ak,[8],nt,nu,xE,J,.inr ⟨rfl,?_⟩⟩;have bP:u (T ab (U+1+1+1) (.loop 3 (some .ret) ak [8] nt nu)) (U+1)=some (.cells [.int .i64 (fO q a n)] false):=aa
  refine bf @bP ?_;refine⟨λc a5=>?_,J⟩
  grind
def K7(n:Nat)(q:Nat->ao)(U:Nat)(h:ae):bZ:=λr ab Y=>eY ab U Y r kd (eT n q)/\aA U h ab/\U<=Y
theorem sB.w{n U:Nat}{q:Nat->ao}{h:ae}{r:X}{ab:ae}{Y:Nat}(Z:n≠0)(H:sB (mk n q) U h r ab Y):K7 n q U h r ab Y:=by obtain⟨b,c,aO,rfl,h1,L,aH,M,V⟩:=H;unfold K7 eT;rw[if_neg Z];exact⟨⟨_,_,rfl,λ_=>⟨b,aO,false,h1,L,rfl,aH⟩⟩,M,V⟩
theorem XT{n:Nat}{h:ae}{U:Nat}(M:n<=64):aD Q s 195 [(n:X)] h U (λr ab Y=>r = .int .i64 (if n=0 then 0 else 1)/\ab=h/\Y=U):=by
 by_cases L:n=0
 ·subst L;refine abL ?_;unfold QX;have e:bin Q .shr 3 (.int .i64 (IntKind.wrap .i64 (0+63))) (.int .u64 6) = .ok (.int .i64 0):=rfl;simp(disch:=omega)only[bk,↓reduceIte,Nat.reduceAdd,Nat.reduceSub,Nat.reduceMul,Nat.reduceLT,Nat.reduceLeDiff,Nat.reduceEqDiff,Int.reduceBEq,Int.reduceLT,Int.reduceNeg,show max ((0:Nat):Int) 0=0 from rfl,show min (0:Int) 4096=0 from rfl,e]
 ·rw[if_neg L];exact Zv J M
theorem acb{n:Nat}{h:ae}{U:Nat}(bw:n<=63):aD Q s 117 [(n:X)] h U (K7 n (λ_=>false) U h):=by
 by_cases L:n=0
 ·subst L;refine afI ?_;refine(XT J).mono ?_;rintro r ap Z ⟨rfl,V,M⟩;rw[V,M,if_pos rfl];show dS (tx [.int .u64 0] (((0:Nat):X)) (((0:Nat):X))) h U _;refine aE ?_;exact⟨⟨_,_,rfl,λh=>absurd rfl h⟩,aF,J⟩
 ·refine(aea J J).mono ?_;intro r ab jZ H;refine sB.w L ?_;rw[Px];exact H
theorem Ki{n:Nat}{l:ac Nat}{v:X}{h:ae}{U:Nat}(bw:n<=63)(aI:dg h U v cY (f9 l))(br:∀x∈l,x<n)(L:l.length<1000000):aD Q s 108 [(n:X),v] h U (K7 n (na l) U h):=by
 by_cases aq:n=0
 ·subst aq;have:l=[]:=by
   cases l with
   |nil=>rfl
   |cons x l=>exact absurd (br x aa) J
  subst this;refine agZ ?_;obtain⟨a,cap,rfl,a5⟩:=id aI;refine(acb J).mono ?_;rintro r ap bU ⟨ba,hk,M⟩;obtain⟨V,Z,rfl,_⟩:=ba;refine aE ?_;refine bF.mk (λm aJ ab Y=>aJ=[((0:Nat):X),.slice V 0 Z,.slice a 0 cap,.int .i64 0,.int .i64 0]/\ab=ap/\Y=bU) 0 ⟨rfl,rfl,rfl⟩ ?_;rintro _ _ ab Y ⟨rfl,aW,aP⟩;rw[afH,aW,aP];unfold RG;refine aE ?_;exact λ_=>⟨⟨V,Z,rfl,λh=>absurd rfl h⟩,hk,M⟩
 ·refine(axD J J aI br L).mono ?_;intro r ab jZ H;exact sB.w aq H
theorem ak5{n:Nat}{p:Nat->ao}{v:X}{h:ae}{U:Nat}(h1:n<=63)(L:dg h U v kd (eT n p)):aD Q s 111 [v] h U (λr ab Y=>r = .int .i64 ((ez n p).length:Int)/\ab=h/\Y=U):=by
 by_cases M:n=0
 ·subst M;refine abJ ?_;unfold QV;obtain⟨a,cap,rfl,a5⟩:=id L;simp(disch:=omega)only[bk,show(eT 0 p).length=0 from rfl,seval];refine bF.mk (λm aJ ab Y=>aJ=[.int .i64 0,.slice a 0 cap,.int .i64 0,.int .i64 0]/\ab=h/\Y=U) 0 aa ?_;rintro _ _ ab Y ⟨rfl,Z,V⟩;rw[OX,Z,V];unfold JC;refine aE ?_;exact λ_=>rfl
 ·rw[show eT n p=[mk n p]from if_neg M]at L;exact an3 h1 L
theorem XU{n:Nat}{q:Nat->ao}{v:X}{h:ae}{U:Nat}(bw:n<=63)(L:dg h U v kd (eT n q)):aD Q s 437 [v,(n:X)] h U (λr ab Y=>r = .bool true/\aA U h ab/\U<=Y):=by
 refine aob ?_;obtain⟨a,cap,rfl,a5⟩:=id L;have M:(((eT n q).length:Nat):Int)=if n=0 then 0 else 1:=by unfold eT;grind
 have Z:fO q (n:Int) n = -1:=by have:=afV (q:=q) (a:=(n:Int)) n;omega
 unfold abZ;refine aE ?_;refine⟨λ_=>⟨λ_=>?_,J⟩,J⟩;refine(XT J).mono ?_;rintro r ap bU ⟨rfl,aW,V⟩;rw[aW,V,M];refine aE ?_;refine⟨λ_=>?_,aF⟩;refine(P6 bw L).mono ?_;rintro r aH b1 ⟨rfl,hk,dx⟩;rw[Z];refine aE ?_;exact aF
theorem avv{n:Nat}{q:Nat->ao}(h:i<n):na (ez n q) i=q i:=by
 unfold na ez
 grind
theorem Q9{n:Nat}{q:Nat->ao}:eT n (na (ez n q))=eT n q:=by unfold eT;rw[Cz λi aj=>avv  aj]
theorem kW.gC{aB:Type}{h:ae}{v:X}{enc:aB->ac X}{k:Nat}{l:ac aB}{al aj:Nat}(H:kW h v enc k l P)(M:∀d,P d->al<=d/\d<aj):eY h al aj v enc l:=by
 rcases H with⟨rfl,rfl⟩|⟨d,V,rfl,L⟩
 ·exact⟨_,_,rfl,λh=>absurd rfl h⟩
 ·exact⟨_,_,rfl,λ_=>⟨d,some k,false,aa,aa,rfl,L⟩⟩
def lO(h:ae)(al aj:Nat)(v:X)(low ml:Int)(n:Nat)(A B:ac Int)(q:Nat->ao):Prop :=
 ∃dp fW fw,v = .agg ⟨[(low:X),(ml:X),dp,fW,fw]⟩/\eY h al aj dp cY A/\eY h al aj fW cY B/\eY h al aj fw kd (eT n q)
def cx(n:Nat)(f:Nat->Int):ac Int:=(List.range n).map f
theorem Gk(n:Nat)(f:Nat->Int):cx (n+1) f=cx n f++[f n]:=by unfold cx;rw[q8,hr];rfl
theorem i9(n:Nat)(f:Nat->Int):(cx n f).length=n:=by unfold cx;grind
theorem JZ(n:Nat)(q:Nat->ao):f9 (ez (n+1) q)=f9 (ez n q)++(if q n then[(n:Int)]else[]):=by rw[KE];unfold f9;grind
def ChS(al:Nat)(ab:ae)(Y:Nat)(dp fW o:X)(A B L:ac Int):Prop :=
 ∃Ij Ej xF:Nat->Prop,kW ab dp cY 1 A Ij/\kW ab fW cY 1 B Ej/\kW ab o cY 1 L xF/\(∀d,Ij d->al<=d/\d<Y/\¬Ej d/\¬xF d)/\(∀d,Ej d->al<=d/\d<Y/\¬xF d)/\(∀d,xF d->al<=d/\d<Y)
def ChJ(n cW p12:Nat)(km:X)(mK l8:Nat->Int)(q:Nat->ao)(low ml:Int)(U:Nat)(aq:ae)(m:Nat)(aJ:ac X)(ab:ae)(Y:Nat):Prop :=
 ∃(i:Nat) (dp fW o:X),m=n-i/\i<=n/\aJ=[(n:X),km,bb cW,bb p12,o,(n:X),(i:X)] /\
  u ab p12=some (.cells [(low:X),(ml:X),dp,fW,.slice none 0 0] false)/\ChS (U+3) ab Y dp fW o (cx i mK) (cx i l8) (f9 (ez i q))/\u ab (U+1)=some (.cells [.int .i64 0,.int .i64 0,.slice none 0 0,.slice none 0 0,.slice none 0 0] false)/\aA U aq ab/\U+3<=Y
theorem XV{n:Nat}{mK l8:Nat->Int}{q:Nat->ao}{az a2 a3:ay Addr}{bU b1 c1 cm:Nat}{h:ae}{U:Nat}(bw:n<=63)(bD:∀(i:Nat) (ab:ae) (Y:Nat),i<n->aA U h ab->U<=Y->aD Q s eL ((i:X)::cs) ab Y (λr ap bU=>r = .tuple ⟨[.int .i64 (mK i),.int .i64 (l8 i),.bool (q i)]⟩/\aA Y ab ap/\Y<=bU)):
  aD Q s 208 [.agg ⟨[(low:X),(ml:X),.slice az bg c1,.slice a2 bU c2,.slice a3 b1 cm]⟩,(n:X),.func (.func eL) ⟨[]⟩ ⟨cs⟩] h U (λr ab Y=>lO ab U Y r low ml n (cx n mK) (cx n l8) q/\aA U h ab/\U<=Y):=by
 refine akV ?_;unfold Zy;refine aE ?_;have bH:∀{o aU kD gu},aA U h (T (T (T (T h U o) (U+1) aU) (U+2) kD) (U+2) gu):=aF
 refine bF.mk (ChJ n (U+1) (U+2) (.func (.func eL) ⟨[]⟩ ⟨cs⟩) mK l8 q low ml U h) n ⟨0,_,_,_,J,J,rfl,aa,⟨λ_=>False,λ_=>False,λ_=>False,.inl ⟨rfl,rfl⟩,.inl ⟨rfl,rfl⟩,.inl ⟨rfl,rfl⟩,aa,aa,aa⟩,aa,bH,J⟩ ?_;rintro _ _ h1 m1 ⟨i,dp,fW,o,rfl,aj,rfl,DW,⟨Ij,Ej,xF,Ek,BF,Vl,dy,a1,a5⟩,g11,hk,dx⟩;obtain⟨bz,oB,rfl⟩:=Ek.form;obtain⟨bS,gc,rfl⟩:=BF.form;obtain⟨ek,co,rfl⟩:=Vl.form;rw[ai9];unfold WP;refine aE ?_;refine⟨λcS=>?_,λeZ=>?_⟩
 ·refine(bD i h1 m1 J hk J).mono ?_;rintro r ap V ⟨rfl,M,fx⟩;have g2:u ap (U+2)=_:=(M (U+2) J).trans DW;have SA2:=Ek.F   λd L=>⟨M d aa,L⟩
  have SB2:=BF.F   λd L=>⟨M d aa,L⟩
  have SC2:=Vl.F   λd L=>⟨M d aa,L⟩
  refine bf @g2 ?_;refine JY (k:=1) (λ_=>rfl) (λ_=>rfl) J  (SA2.F  λd L=>⟨aa,L⟩) rfl (mK i) (aR _ _ _) rfl (by rw[i9];omega) λTZ aH L4 w4=>?_;obtain⟨Z,HH,rfl⟩:=L4.form;have dz:=(show u aH (U+2)=u ap (U+2) by grind).trans g2;refine bf @dz ?_;have SB3:=SB2.F (ab:=T aH (V+2) (.cells [.int .i64 (l8 i)] false))  λd L=>by exact⟨aa,L⟩
  refine⟨J,JY (k:=1) (λ_=>rfl) (λ_=>rfl) J   SB3 rfl (l8 i) (aR _ _ _) rfl (by rw[i9];omega) λT0 bh L5 xg=>?_⟩;obtain⟨HI,HJ,rfl⟩:=L5.form;have dO:=(show u bh (U+2)=u aH (U+2) by grind).trans dz;refine bf @dO ?_;refine⟨J,?_⟩;obtain⟨iq,fp⟩:∃iq,iq=T (T bh (U+2) (.cells [(low:X),(ml:X),.slice Z (cx i mK++[mK i]).length HH,.slice bS (cx i l8).length gc,.slice none 0 0] false)) (U+2) (.cells [(low:X),(ml:X),.slice Z (cx i mK++[mK i]).length HH,.slice HI (cx i l8++[l8 i]).length HJ,.slice none 0 0] false):=⟨_,rfl⟩
  rw[<-fp];have ho:u iq (U+2)=some (.cells [(low:X),(ml:X),.slice Z (cx i mK++[mK i]).length HH,.slice HI (cx i l8++[l8 i]).length HJ,.slice none 0 0] false):=aa
  have aP:∀d,d≠U+2->d<V->¬Ij d->¬Ej d->u iq d=u ap d:=aa
  have r4:aA U h iq:=aF
  have g51:u iq (U+1)=some (.cells [.int .i64 0,.int .i64 0,.slice none 0 0,.slice none 0 0,.slice none 0 0] false):=by rw[aP (U+1) J J (λbn=>aa) (λbn=>aa),M _ J];omega
  have SA5:=L4.F (ab:=iq) (pd:=λd=>d=V+1) aa;have SB5:=L5.F (ab:=iq) (pd:=λd=>d=V+3) aa;have SC5:=SC2.F (ab:=iq) (pd:=xF) λd L=>by exact⟨aa,L⟩
  have fh:IntKind.wrap .i64 ((i:Int)+1)=((i+1:Nat):Int):=cF J;refine⟨λdi=>?_,λdi=>?_⟩
  ·refine JY (k:=1) (λ_=>rfl) (λ_=>rfl) J (U:=V+5) (pd:=λd=>d=V+5) (SC5.F (ab:=T iq (V+4) (.cells [(i:X)] false)) (pd:=xF) λd L=>⟨aa,L⟩) rfl (i:Int) (aR _ _ _) rfl (by unfold f9;rw[gW];have:=uZ i q;omega) λvo' cj SC6 xf=>?_;have hA:∀d,d≠V+4->d≠V+5->¬xF d->u cj d=u iq d:=λd h1 ap aH=>aa
   refine⟨n-(i+1),J,i+1,.slice Z (cx i mK++[mK i]).length HH,.slice HI (cx i l8++[l8 i]).length HJ,vo',rfl,J,by rw[fh],?_,⟨λd=>d=V+1,λd=>d=V+3,λd=>d=V+5,?_,?_,?_,?_,?_,?_⟩,?_,?_,J⟩
   ·grind
   ·rw[Gk];exact SA5.F λd L=>⟨hA d J J (λbn=>aa),L⟩
   ·rw[Gk];exact SB5.F λd L=>⟨hA d J J (λbn=>aa),L⟩
   ·rw[JZ,if_pos di];exact SC6
   ·omega
   ·omega
   ·omega
   ·grind
   ·intro d L;rw[hA d J J (λbn=>aa)];exact r4 d L
  ·refine⟨n-(i+1),J,i+1,.slice Z (cx i mK++[mK i]).length HH,.slice HI (cx i l8++[l8 i]).length HJ,.slice ek (f9 (ez i q)).length co,rfl,J,by rw[fh],ho,⟨λd=>d=V+1,λd=>d=V+3,xF,?_,?_,?_,?_,?_,?_⟩,g51,r4,J⟩
   ·rw[Gk];exact SA5
   ·rw[Gk];exact SB5
   ·rw[JZ,if_neg aa,hC];exact SC5
   all_goals grind
 ·have:i=n:=J
  subst this;refine(Ki bw ((Vl.gC (al:=0) (aj:=m1) λd L=>aa).rd) (λx aX=>by unfold ez at aX;grind) (by have:=uZ i q;omega)).mono ?_;rintro r ap V ⟨ba,M,fx⟩;rw[Q9]at ba;obtain⟨um,b4,rfl,rP⟩:=id ba;have g2:=(M (U+2) J).trans DW;refine bf @g2 ?_;have dz:=(M (U+1) J).trans g11;refine bf @dz ?_;have gN:∀{o aU} d,d≠U+1->d≠U+2->u (T (T ap (U+2) o) (U+1) aU) d=u ap d:=λd h1 ap=>aa
  refine⟨⟨_,_,_,rfl,(Ek.F (pd:=Ij) λd L=>⟨?_,L⟩).gC λd L=>aa,(BF.F (pd:=Ej) λd L=>⟨?_,L⟩).gC λd L=>aa,⟨um,b4,rfl,λfk=>?_⟩⟩,λd L=>?_,J⟩
  ·have:=dy d L;rw[gN d J J,M d J]
  ·have:=a1 d L;rw[gN d J J,M d J]
  ·obtain⟨b,aO,bL,dA,b2,d2,fJ⟩:=rP fk;exact⟨b,aO,bL,J,b2,d2,aa⟩
  ·rw[gN d J J,M d J];exact hk d L
def va(k src v:Int):Int:=if k=3 then v else if k=5 then 0 else if k=4/\v=src then 1 else if v=src\/k=4 then 0 else if k=1 then -1 else 4611686018427387904
def tF(k src v:Int):ao:=if k=3 then true else if k=5 then false else decide (v=src)
theorem aoz{k n v:Int}{a:ay Addr}{c:Nat}{h:ae}{U:Nat}:aD Q s 210 [.agg ⟨[(k:X),(n:X),(src:X),(len:X),.slice a uh c]⟩,(v:X)] h U (c9 (.tuple ⟨[.int .i64 (va k src v),.bool (tF k src v)]⟩) U h):=by
 refine asb ?_;have bH:∀{o},aA U h (T h U o):=aF
 have V:∀{w o},c9 w U h w (T h U o) (U+1):=⟨rfl,bH,J⟩
 have Z:((v == src):ao)=decide (v=src):=rfl;unfold aeh va tF
 by_cases L:k=3
 ·refine bf @L ?_;exact⟨rfl,bH,J⟩
 by_cases M:k=5
 ·refine cM @L @M ?_;exact⟨rfl,bH,J⟩
 have dz:((k == 3):ao)=false:=aa
 have ho:((k == 5):ao)=false:=aa
 by_cases au:v=src <;> by_cases bh:k=4
 ·refine u4 @L @M @bh @au @Z ?_;unfold Cc;refine aE ?_;simp[V]
 ·have dO:((k == 4):ao)=false:=aa
  simp(disch:=omega)only[bk,L,M,bh,au,Z,dz,dO,ho,seval];unfold Cc;refine aE ?_;simp[V]
 ·refine u4 @L @M @bh @au @Z ?_;unfold Cc;refine aE ?_;simp[V]
 ·have dO:((k == 4):ao)=false:=aa
  simp(disch:=omega)only[bk,L,M,bh,au,Z,dz,dO,ho,seval];unfold Cc Zz
  by_cases h1:k=1
  ·refine bf @h1 ?_;simp[V]
  ·have bP:((k == 1):ao)=false:=aa
   refine gX @h1 @bP @dO ?_;simp[V]
theorem ak6{k n:Int}{a:ay Addr}{c L:Nat}{d6 gV:ao}{h:ae}{U:Nat}(h1:u h L=some (.cells [(k:X),(n:X),(src:X),(len:X),.slice a uh c] d6))(V:u h pl=some (.cells [(low:X)] gV))(aj:i<10000)(br:0<=low/\low<10000):
  aD Q s 209 [(i:X),bb L,bb pl] h U (λr ab Y=>r = .tuple ⟨[.int .i64 (va k src (low+i)),.int .i64 (-1),.bool (tF k src (low+i))]⟩/\aA U h ab/\U<=Y):=by
 refine an8 ?_;unfold abT;have M:IntKind.wrap .i64 (low+(i:Int))=low+i:=by
  obtain⟨m,rfl⟩:∃m:Nat,low=m:=⟨low.toNat,J⟩
  exact jb (m+i) J
 refine gX @h1 @V @M ?_;refine aoz.mono ?_;rintro r aH b1 ⟨rfl,hk,Z⟩;refine aE ?_;exact aF
theorem lO.wid{h ab:ae}{al aj ea dB:Nat}{v:X}{n:Nat}{q:Nat->ao}(au:lO h al aj v low ml n A B q)(L:∀d,al<=d->d<aj->u ab d=u h d)(V:ea<=al)(M:aj<=dB):lO ab ea dB v low ml n A B q:=by obtain⟨dp,fW,Z,e,a,b,c⟩:=au;exact⟨dp,fW,Z,e,eY.F a L V M,eY.F b L V M,eY.F c L V M⟩
theorem aoA{k n:Int}{low:Nat}{v:X}{h:ae}{U:Nat}(aI:dg h U v cY bu)(bn:gF k n src len bu=0)(bx:m<=63)(fo:((low+m:Nat):Int)<=n)(bw:n<=4096):
  aD Q s 125 [.agg ⟨[(k:X),(n:X),(src:X),(len:X),v]⟩,(low:X),((low+m:Nat):X)] h U (λr ab Y=>lO ab U Y r low ((low+m:Nat):Int) m (cx m λi=>va k src (low+i)) (cx m λ_=>-1) (λi=>tF k src (low+i))/\aA U h ab/\U<=Y):=by
 refine ar5 ?_;obtain⟨a,cap,rfl,a5⟩:=id aI;have bH:∀{o aU kD},aA U h (T (T (T h U o) (U+1) aU) (U+2) kD):=aF
 unfold aed;refine aE ?_;refine(Jg (aI.F bH J)).mono ?_;rintro _ h1 bg ⟨rfl,L,fa⟩;have Z:=L (U+1) J;rw[ar J,aR]at Z;have ch:=L U J;rw[ar J,ar J,aR]at ch;have V:=L (U+2) J;rw[aR]at V;refine ll @bn @ch @Z @V ?_;refine⟨λh=>absurd h J,λ_=>⟨λh=>absurd h J,λ_=>?_⟩⟩;rw[show decide (n<((low+m:Nat):Int))=false from ht J];unfold Fw;have fh:IntKind.wrap .i64 (((low+m:Nat):Int)-(low:Int))=(m:Int):=by rw[show((low+m:Nat):Int)-(low:Int)=(m:Int) by omega];exact jb m J
 refine ll @ch @Z @V @fh ?_;refine(XV (mK:=λi=>va k src (low+i)) (l8:=λ_=>-1) (q:=λi=>tF k src (low+i)) bx λi ab Y aj M wH=>?_).mono ?_
 ·exact ak6  (gV:=false) ((M U J).trans (by rw[ar J,ar J];omega)) ((M (U+1) J).trans aa) J J
 rintro r aH b1 ⟨dV,f1,gg⟩;have L6:=dV;obtain⟨dp,fW,fw,rfl,fE,gh,gt⟩:=dV;obtain⟨az,c1,rfl,_⟩:=id fE;obtain⟨a2,c2,rfl,_⟩:=id gh;obtain⟨a3,cm,rfl,_⟩:=id gt;have dz:=f1 (U+2) J;rw[ar J,ar J,V]at dz;refine bf @dz ?_;exact⟨L6.wid aa J J,aF,J⟩
def hy(h:ae)(U:Nat)(v:X)(low ml:Int)(n:Nat)(A B:ac Int)(q:Nat->ao):Prop :=
 ∃dp fW fw,v = .agg ⟨[(low:X),(ml:X),dp,fW,fw]⟩/\dg h U dp cY A/\dg h U fW cY B/\dg h U fw kd (eT n q)
theorem lO.rd{h:ae}{al aj:Nat}{v:X}{low ml:Int}{n:Nat}{A B:ac Int}{q:Nat->ao}(M:lO h al aj v low ml n A B q):hy h aj v low ml n A B q:=by obtain⟨Z,V,L,e,a,b,c⟩:=M;exact⟨Z,V,L,e,a.rd,b.rd,c.rd⟩
theorem hy.F{h ab:ae}{U Y:Nat}{v:X}{low ml:Int}{n:Nat}{A B:ac Int}{q:Nat->ao}(au:hy h U v low ml n A B q)(M:aA U h ab)(L:U<=Y):hy ab Y v low ml n A B q:=by obtain⟨dp,Z,V,e,a,b,c⟩:=au;exact⟨dp,Z,V,e,a.F M L,b.F M L,c.F M L⟩
theorem avw{k n:Int}{low:Nat}{q:Nat->ao}{v:X}{h:ae}{U:Nat}(aI:dg h U v cY bu)(bn:gF k n src len bu=0)(bx:m<=63)(fo:((low+m:Nat):Int)<=n)(bw:n<=4096)(au:hy h U aJ low ((low+m:Nat):Int) m A B q)(h0:A.length=m)(er:B.length=m):
  aD Q s 371 [.agg ⟨[(k:X),(n:X),(src:X),(len:X),v]⟩,aJ] h U (c9 (.bool true) U h):=by
 refine axJ ?_;obtain⟨a,cap,rfl,a5⟩:=id aI;obtain⟨dp,fW,fw,rfl,fE,gh,gt⟩:=au;obtain⟨az,c1,rfl,_⟩:=id fE;obtain⟨a2,c2,rfl,_⟩:=id gh;obtain⟨a3,cm,rfl,_⟩:=id gt;have bH:∀{o aU},aA U h (T (T h U o) (U+1) aU):=aF
 unfold ag6;refine aE ?_;refine(Jg (aI.F bH J)).mono ?_;rintro _ h1 bg ⟨rfl,L,Z⟩;have M:=L (U+1) J;rw[aR]at M;have V:=L U J;rw[ar J,aR]at V;refine gX @bn @V @M ?_;refine⟨λh=>absurd h J,λ_=>⟨λh=>absurd h J,λ_=>?_⟩⟩;rw[show decide (n<((low+m:Nat):Int))=false from ht J];unfold Gj;have fh:IntKind.wrap .i64 (((low+m:Nat):Int)-(low:Int))=(m:Int):=by rw[show((low+m:Nat):Int)-(low:Int)=(m:Int) by omega];exact jb m J
 refine u4 @V @M @fh @h0 @er ?_;have cI:aA U h h1:=aF
 refine⟨λ_=>⟨λ_=>?_,λh=>absurd h (by simp)⟩,λh=>absurd h (by simp)⟩;refine(XU bx (gt.F  cI J)).mono ?_;rintro r ap bU ⟨rfl,dM,fx⟩;exact⟨rfl,aF,J⟩
theorem J0{k n:Int}{low:Nat}{q:Nat->ao}{v:X}{h:ae}{U:Nat}(aI:dg h U v cY bu)(bn:gF k n src len bu=0)(bx:m<=63)(fo:((low+m:Nat):Int)<=n)(bw:n<=4096)(au:hy h U aJ low ((low+m:Nat):Int) m A B q)(h0:A.length=m)(er:B.length=m):
  aD Q s 299 [.agg ⟨[(k:X),(n:X),(src:X),(len:X),v]⟩,aJ] h U (c9 aJ U h):=by
 refine avo ?_;obtain⟨a,cap,rfl,a5⟩:=id aI;have M:=au;obtain⟨dp,fW,fw,rfl,fE,gh,gt⟩:=au;obtain⟨az,c1,rfl,_⟩:=id fE;obtain⟨a2,c2,rfl,_⟩:=id gh;obtain⟨a3,cm,rfl,_⟩:=id gt;have bH:∀{o aU kD},aA U h (T (T (T h U o) (U+1) aU) (U+2) kD):=aF
 unfold afR;refine aE ?_;refine(avw (aI.F bH J) bn bx fo bw (M.F bH J) h0 er).mono ?_;rintro _ h1 bg ⟨rfl,L,V⟩;have bP:=L (U+1) J;rw[ar J,aR]at bP;have Z:=L (U+2) J;rw[aR]at Z;refine cM @bP @Z ?_;exact⟨rfl,aF,J⟩
def ro(k len round:Int)(m:Nat)(A:ac Int)(q:Nat->ao):Nat:=if k=4/\len<=round then 0 else if k=5 then(A.filter λa=>a == 0).length else(ez m q).length
def LvJ(dp:X)(A:ac Int)(h:ae)(U:Nat)(m:Nat)(aJ:ac X)(ab:ae)(Y:Nat):Prop :=
 ∃i,m=A.length-i/\i<=A.length/\aJ=[.int .i64 (((A.take i).filter λa=>a == 0).length:Int),dp,(A.length:X),(i:X)]/\ab=h/\Y=U
theorem asF{k n round:Int}{low:Nat}{q:Nat->ao}{v:X}{h:ae}{U:Nat}(aI:dg h U v cY bu)(bn:gF k n src len bu=0)(bx:m<=63)(fo:((low+m:Nat):Int)<=n)(bw:n<=4096)(au:hy h U aJ low ((low+m:Nat):Int) m A B q)(h0:A.length=m)(er:B.length=m):
  aD Q s 212 [.agg ⟨[(k:X),(n:X),(src:X),(len:X),v]⟩,aJ,(round:X)] h U (c9 (.int .i64 (ro k len round m A q:Int)) U h):=by
 refine avj ?_;obtain⟨a,cap,rfl,a5⟩:=id aI;have qJ:=au;obtain⟨dp,fW,fw,rfl,fE,gh,gt⟩:=au;obtain⟨az,c1,rfl,qI⟩:=id fE;obtain⟨a2,c2,rfl,_⟩:=id gh;obtain⟨a3,cm,rfl,_⟩:=id gt;have bH:∀{o aU},aA U h (T (T h U o) (U+1) aU):=aF
 unfold afM;refine nw ?_;refine(J0 (aI.F bH J) bn bx fo bw (qJ.F bH J) h0 er).mono ?_;rintro _ h1 bg ⟨rfl,V,fa⟩;have ch:=V U J;rw[ar J,aR]at ch;have bP:=V (U+1) J;rw[aR]at bP;refine tv @ch @bP ?_;have L:∀{o},aA U h (T h1 (U+1) o):=aF
 have hS:∀{o},aD Q s 111 [.slice a3 (eT m q).length cm] (T h1 (U+1) o) bg (c9 (.int .i64 ((ez m q).length:Int)) U h):=λ{o}=>by refine(ak5 bx (gt.F  L J)).mono ?_;rintro r ap bU ⟨rfl,rfl,rfl⟩;exact⟨rfl,L,J⟩
 unfold ro
 by_cases bh:k=4
 ·refine mf @bh ?_;refine⟨λba=>?_,λba=>?_⟩
  ·rw[if_pos (J:len<=round)];exact⟨rfl,L,J⟩
  ·rw[if_neg (J:¬len<=round),if_neg (J:¬(4:Int)=5)];exact hS
 ·have dO:((k == 4):ao)=false:=aa
  by_cases b0:k=5
  ·refine Ru @bh @dO @b0 ?_;refine bF.mk (LvJ (.slice az A.length c1) A (T h1 (U+1) (.cells [(low:X),((low+m:Nat):X),.slice az A.length c1,.slice a2 B.length c2,.slice a3 (eT m q).length cm] false)) bg) A.length ⟨0,J,J,rfl,rfl,rfl⟩ ?_;rintro _ _ ab Y ⟨i,rfl,aj,rfl,aW,aP⟩;rw[asc,aW,aP];unfold abU;refine nw ?_;refine⟨λZ=>?_,λeZ=>?_⟩
   ·obtain⟨x,aX⟩:=dW Z;obtain⟨_,b2,mr,bL,_,fH,cy,M⟩:=fE.at aX;cases cy;rw[jm]at M;have hgx:=(L (o:=.cells [(low:X),((low+m:Nat):X),.slice (some ⟨b2,0,mr⟩) A.length c1,.slice a2 B.length c2,.slice a3 (eT m q).length cm] false) b2 fH).trans M;have es:((A.take (i+1)).filter λa=>a == 0).length=((A.take i).filter λa=>a == 0).length+(if x == 0 then 1 else 0):=by
     rw[hq,aX,s4,jk]
     grind
    have T1:IntKind.wrap .i64 ((i:Int)+1)=((i+1:Nat):Int):=cF J;have sK:=zu (λa=>a == (0:Int)) (A.take i);have hft:(A.take i).length=i:=aa
    have HK:IntKind.wrap .i64 ((((A.take i).filter λa=>a == 0).length:Int)+1)=((((A.take i).filter λa=>a == 0).length+1:Nat):Int):=cF J;simp(disch:=omega)only[bk,↓reduceIte,Nat.reduceAdd,Nat.reduceSub,Nat.reduceMul,Nat.reduceLT,Nat.reduceLeDiff,Nat.reduceEqDiff,Int.reduceBEq,Int.reduceLT,Int.reduceNeg,hgx,j4 aX,T1,HK];refine⟨λaq=>?_,λaq=>?_⟩
    ·refine⟨A.length-(i+1),J,i+1,rfl,J,?_,rfl,rfl⟩;rw[es,if_pos aq]
    ·refine⟨A.length-(i+1),J,i+1,rfl,J,?_,rfl,rfl⟩
     grind
   ·have:i=A.length:=J
    subst this;rw[hB,if_neg J];exact⟨rfl,L,J⟩
  ·have ho:((k == 5):ao)=false:=aa
   refine Kz @bh @dO @b0 @ho ?_;rw[if_neg (λh=>h.1)];exact hS
theorem ak7{n:Nat}{h:ae}{U:Nat}(M:1<=n)(L:n<=8):aD Q s 220 [(n:X)] h U (fs (.bool true) U h):=by
 refine abV ?_;unfold Q4;refine aE ?_;refine⟨λ_=>⟨?_,rfl,rfl⟩,λh=>absurd h J⟩
 grind
theorem ak8{h:ae}{U:Nat}(Z:1<=C)(V:C<=8)(aj:i<8)(cb:j<C):aD Q s 311 [(C:X),(i:X),(j:X)] h U (fs (((i*C+j:Nat):X)) U h):=by
 refine an9 ?_;refine(ak7 Z V).mono ?_;rintro _ _ _ ⟨rfl,rfl,rfl⟩;have a1:i*C<64:=by have:i*C<=7*8:=sc J V;omega
 have L:IntKind.wrap .i64 ((i:Int)*(C:Int))=((i*C:Nat):Int):=by rw[<-Int.natCast_mul];exact jb _ J
 have M:IntKind.wrap .i64 (((i*C:Nat):Int)+(j:Int))=((i*C+j:Nat):Int):=by rw[<-vQ];exact jb _ J
 refine aE ?_;unfold B4;refine cM @L @M ?_;refine⟨λh=>absurd h J,λ_=>⟨λh=>absurd h J,λ_=>⟨λh=>absurd h J,λ_=>⟨λh=>absurd h J,λ_=>?_⟩⟩⟩⟩;rw[zT,L];simp only[af,Pu,M];exact⟨rfl,rfl,rfl⟩
def dE(c:Nat->X):ac X:=[c 0,c 1,c 2,c 3,c 4,c 5,c 6,c 7,c 8,c 9,c 10,c 11,c 12,c 13,c 14,c 15,c 16,c 17,c 18,c 19,c 20,c 21,c 22,c 23,c 24,c 25,c 26,c 27,c 28,c 29,c 30,c 31,c 32,c 33,c 34,c 35,c 36,c 37,c 38,c 39,c 40,c 41,c 42,c 43,c 44]
def hl(c:Nat->X)(k:Nat)(v:X):Nat->X:=λn=>if n=k then v else c n
structure eC where
 kind:Int
 fB:Int
 lR:Int
 hO:Int
 round:Int
 l7:Int
 bj:ay Addr
 n6:Nat
 hc:Nat
 a6:ay Addr
 n7:Nat
 i3:Nat
 bq:ay Addr
 n8:Nat
 he:Nat
 n:Int
 od:ao
def eh(f:eC):ac X:=[(f.kind:X),(f.fB:X),(f.lR:X),(f.hO:X),(f.round:X),(f.l7:X),.slice f.bj f.n6 f.hc,.slice f.a6 f.n7 f.i3,.slice f.bq f.n8 f.he,(f.n:X),.bool f.od]
theorem Fe{M:Nat}{h:ae}{U:Nat}(L:u h M=some (.cells (dE c) bL))(h1:1<=C)(Z:C<=8)(aj:i<8)(V:j<C)(a5:c 8 = (C:X)):aD Q s 219 [bb M,(i:X),(j:X)] h U (fs (((i*C+j:Nat):X)) U h):=by refine aoa ?_;unfold abY;unfold dE at L;refine cM @L @a5 ?_;exact ak8 h1 Z aj V
theorem asG{V i5 z2 z3 z4 s1 xG qd Z M L:X}:qs (oO []) 0 11 [aC,az,a2,a3,aZ,bI,bj,a6,bq,cH,dd] [V,i5,z2,z3,z4,s1,xG,qd,Z,M,L] = .ok [aC,az,a2,a3,aZ,bI,bj,a6,bq,cH,dd]:=rfl
def CF(HL:Int)(round n:Int)(od:ao):eC:=⟨4,HL,0,0,round,0,none,0,0,none,0,0,none,0,0,n,od⟩
theorem azD{x y:GE}(h:hN (df x) (df y)):m8 x y:=by
 rcases h with h|⟨L,M⟩
 ·exact .inl (by have:(x.f:Int)<y.f:=h;omega)
 ·exact .inr ⟨by have:(x.f:Int)=y.f:=L;omega,by have:(x.t:Int)<y.t:=M;omega⟩
theorem asH{a4:ac GE}{N:Nat}(h:jp (a4.map df) (ag.map df))(L:∀g∈ag,gQ N g)(V:N<=4096)(Z:ag.length<=120):hj N N ag :=
 ⟨(xM.1 h.up).imp azD,λg M=>(L g M).1,λg M=>(L g M).2.1,V,V,Z⟩
theorem avx{h:ae}{U n k:Nat}{rd:ao}{l:ac X}(M:0<k)(bw:l.length=n*k)(bs:u h b=some (.cells cs rd))(L:u h b2=some (.cells l bL))(aq:0<n)(h1:n*k<1000000):
  dn k h U (.slice (some ⟨b,0,none⟩) 0 0) (.slice (some ⟨b2,0,mr⟩) n c2) = .ok (.val (.slice (some ⟨U,0,some k⟩) n n) (T h U (.cells l false)) (U+1)):=by
 have Z:n<=n*k:=BP n M;have V:jD h (some ⟨b2,0,mr⟩) (n.mul k) (λnew=>ge k h U (some ⟨b,0,none⟩) 0 0 n new)=ge k h U (some ⟨b,0,none⟩) 0 0 n l:=by
  rw[show n.mul k=l.length from bw.symm,sh L J J]
  grind
 show jD h (some ⟨b2,0,mr⟩) (n.mul k) (λnew=>ge k h U (some ⟨b,0,none⟩) 0 0 n new)=_;rw[V];unfold ge;rw[show Nat.ble (Nat.add 0 n) 0=false by
  cases L:Nat.ble (Nat.add 0 n) 0 with
  |false=>rfl
  |true=>have:=lJ L;grind]
 rw[show(Nat.ble (Nat.mul (Nat.add 0 n) k) 1000000&&Nat.ble (Nat.add 0 n) 1000000)=true by
  simp only[eA,sd]
  grind]
 unfold pw;simp only[uE bs];rw[show mT (Nat.mul 0 k) (mO cs 0)=some [] by rw[xS,mb];rfl];show pv h U k (kP [] l) (0+n)=_;rw[j5,s7,iU];exact po M
def yJ(c:Int × Int):ac X:=[(c.1:X),(c.2:X)]
theorem aoB(l:ac (Int × Int)):(a7 yJ l).length=l.length*2:=by
 induction l with
 |nil=>rfl
 |cons x l L=>show(yJ x++a7 yJ l).length=_;rw[jk,L,nq];show 2+_=_;omega
theorem azE:ns Tryz.prog 43=true:=by kernel_rfl
theorem aoC{h:ae}{U:Nat}{v:X}{l:ac (Int × Int)}(aI:dg h U v yJ l)(br:l.length<100000):
  aD Q s 122 [v] h U (λr ab Y=>eY ab U Y r yJ l/\aA U h ab/\U<=Y):=by
 refine asl ?_;obtain⟨a,cap,rfl,Z⟩:=id aI;unfold aek;simp(disch:=omega)only[bk,zO azE,seval];refine⟨λaq=>⟨?_,aF⟩,λaq=>?_⟩
 ·have:l=[]:=aa
  subst this;exact⟨none,0,rfl,λh=>absurd rfl h⟩
 have L:aA U h (T h U (.cells [] false)):=aF
 rcases IV (l=[])with e|e
 ·subst e;exact⟨⟨some ⟨U,0,none⟩,0,rfl,λh=>absurd rfl h⟩,L,J⟩
 ·obtain⟨b,aO,bL,M,rfl,V⟩:=Z e;rw[avx  J (aoB _) (aR _ _ _) ((L b M).trans V) aa J];exact⟨⟨some ⟨U+1,0,some 2⟩,l.length,rfl,λ_=>⟨U+1,some 2,false,J,J,rfl,aa⟩⟩,aF,J⟩
theorem asI{x:iV}(h:gP x=0):iw x.k x.n x.src x.len x.bu x.ci x.es=0/\gF x.k x.n x.src x.len x.bu=0/\x.ci=x.n/\0<=x.n/\x.n<=4096/\1<=x.R/\x.R<=8/\1<=x.C/\x.C<=8/\x.t0<=8192:=by
 unfold gP at h
 by_cases aq:nx x.k x.n x.src x.len x.bu x.ci x.es x.lim=0
 case neg=>omega
 rw[if_neg J]at h;have M:jv x.R 8=true:=aa
 have V:jv x.C 8=true:=aa
 have i4:jv x.M 64=true:=aa
 rw[M,V,i4,if_neg (by simp),if_neg (by simp),if_neg (by simp)]at h;have M:=of_decide_eq_true M;have V:=of_decide_eq_true V;have L:iw x.k x.n x.src x.len x.bu x.ci x.es=0:=by unfold nx at aq;omega
 have bn:gF x.k x.n x.src x.len x.bu=0:=by unfold iw at L;omega
 unfold iw at L ⊢;rw[if_neg J]at L ⊢
 by_cases e:x.ci=x.n
 case neg=>omega
 rw[if_neg J]at L ⊢;have Z:=L;unfold ih at Z;omega
def HM(I eG k n src len:Int)(a9:ay Addr)(uh gs:Nat)(R C lim:Int)(bA:ay Addr)(xD gq:Nat):Nat->X
 |0=>.int .i64 I
 |1=>.int .i64 eG
 |2=>.int .i64 k
 |3=>.int .i64 n
 |4=>.int .i64 src
 |5=>.int .i64 len
 |6=>.slice a9 uh gs
 |7=>.int .i64 R
 |8=>.int .i64 C
 |9=>.int .i64 lim
 |10=>.slice bA xD gq
 |11=>.int .i64 0
 |12=>.int .i64 0
 |13=>.slice none 0 0
 |14=>.slice none 0 0
 |15=>.slice none 0 0
 |16=>.int .i64 0
 |17=>.int .i64 0
 |18=>.slice none 0 0
 |19=>.slice none 0 0
 |20=>.slice none 0 0
 |21=>.slice none 0 0
 |22=>.slice none 0 0
 |23=>.int .i64 1
 |24=>.map none
 |25=>.int .i64 1
 |26=>.int .i64 0
 |27=>.int .i64 0
 |28=>.int .i64 0
 |29=>.int .i64 0
 |30=>.slice none 0 0
 |31=>.slice none 0 0
 |32=>.slice none 0 0
 |33=>.int .i64 0
 |34=>.int .i64 0
 |35=>.slice none 0 0
 |36=>.slice none 0 0
 |37=>.slice none 0 0
 |38=>.bool false
 |39=>.bool false
 |40=>.slice none 0 0
 |41=>.map none
 |42=>.int .i64 0
 |43=>.map none
 |44=>.bool false
 |_=>.bool false
theorem aoD{I k n R C:Int}:((qs (oO [(7,2,Value.agg ⟨[(R:X),(C:X)]⟩),(9,1,(lim:X)),(10,1,.slice bA xD gq),(23,1,.int .i64 1),(25,1,.int .i64 1)]) 2 5 [(k:X),(n:X),(src:X),(len:X),.slice a9 uh gs] [(I:X),(eG:X),.int .i64 0,.int .i64 0,.int .i64 0,.int .i64 0,.slice none 0 0,.int .i64 0,.int .i64 0,.int .i64 0,.slice none 0 0,.int .i64 0,.int .i64 0,.slice none 0 0,.slice none 0 0,.slice none 0 0,.int .i64 0,.int .i64 0,.slice none 0 0,.slice none 0 0,.slice none 0 0,.slice none 0 0,.slice none 0 0,.int .i64 0,.map none,.int .i64 0,.int .i64 0,.int .i64 0,.int .i64 0,.int .i64 0,.slice none 0 0,.slice none 0 0,.slice none 0 0,.int .i64 0,.int .i64 0,.slice none 0 0,.slice none 0 0,.slice none 0 0,.bool false,.bool false,.slice none 0 0,.map none,.int .i64 0,.map none,.bool false]).bind λl=>.ok (Value.agg ⟨l⟩)) = .ok (Value.agg ⟨dE (HM I eG k n src len a9 uh gs R C lim bA xD gq)⟩):=rfl
theorem axP{I k n R C:Int}:c7 (.agg ⟨dE (HM I eG k n src len a9 uh gs R C lim bA xD gq)⟩)=dE (HM I eG k n src len a9 uh gs R C lim bA xD gq):=rfl
theorem axQ{I k n R C:Int}:ef (dE (HM I eG k n src len a9 uh gs R C lim bA xD gq))=true:=rfl
def nz(c:Nat->X)(k:Nat)(l:ac X):Nat->X:=λn=>if k<=n/\n<k+l.length then(l[n-k]?).getD (.bool false)else c n
theorem asJ{h:ae}{k:ae->Prop}:af (iW (some (.cells (dE c) false)) h b 11 [l5,v1,v2,v3,v4]) k↔ef [l5,v1,v2,v3,v4]=true/\k (T h b (.cells (dE (nz c 11 [l5,v1,v2,v3,v4])) false)):=z6.trans ⟨λx=>⟨x.1,x.2.2⟩,λx=>⟨x.1,by show 16<=45;omega,x.2⟩⟩
theorem asK{h:ae}{L:X}{k:ae->Prop}:af (iW (some (.cells (dE c) false)) h b 16 [l5,v1,v2,v3,v4,L]) k↔ef [l5,v1,v2,v3,v4,L]=true/\k (T h b (.cells (dE (nz c 16 [l5,v1,v2,v3,v4,L])) false)):=z6.trans ⟨λx=>⟨x.1,x.2.2⟩,λx=>⟨x.1,by show 22<=45;omega,x.2⟩⟩
theorem asL{h:ae}{k:ae->Prop}:af (iW (some (.cells (dE c) false)) h b 28 [l5,v1,v2,v3,v4]) k↔ef [l5,v1,v2,v3,v4]=true/\k (T h b (.cells (dE (nz c 28 [l5,v1,v2,v3,v4])) false)):=z6.trans ⟨λx=>⟨x.1,x.2.2⟩,λx=>⟨x.1,by show 33<=45;omega,x.2⟩⟩
theorem asM{h:ae}{k:ae->Prop}:af (iW (some (.cells (dE c) false)) h b 33 [l5,v1,v2,v3,v4]) k↔ef [l5,v1,v2,v3,v4]=true/\k (T h b (.cells (dE (nz c 33 [l5,v1,v2,v3,v4])) false)):=z6.trans ⟨λx=>⟨x.1,x.2.2⟩,λx=>⟨x.1,by show 38<=45;omega,x.2⟩⟩
theorem asN:hg (some 5) 11 (dE (nz c 11 [l5,v1,v2,v3,v4])) = .ok (.agg ⟨[l5,v1,v2,v3,v4]⟩):=rfl
theorem asO:hg (some 5) 28 (dE (nz c 28 [l5,v1,v2,v3,v4])) = .ok (.agg ⟨[l5,v1,v2,v3,v4]⟩):=rfl
theorem Gl{c:Nat->X}:(dE c).length=45:=rfl
theorem asP{v:X}:(dE c).set 6 v=dE (hl c 6 v):=rfl
theorem aoE{v:X}:(dE c).set 24 v=dE (hl c 24 v):=rfl
theorem aoF{v:X}:(dE c).set 41 v=dE (hl c 41 v):=rfl
theorem aoG{v:X}:(dE c).set 43 v=dE (hl c 43 v):=rfl
def ep{aB:Type}(h:ae)(U:Nat)(v:X)(enc:aB->ac X)(k:Nat)(l:ac aB):Prop :=
 ∃a cap,v = .slice a l.length cap/\(l≠[]->∃b o aO bL cs,b<U/\a=some ⟨b,o,aO⟩/\u h b=some (.cells cs bL)/\o+l.length*k<=cs.length/\(cs.drop o).take (l.length*k)=a7 enc l)
section
variable {aB:Type} {h ab:ae} {U Y k:Nat} {v:X} {enc:aB->ac X} {l:ac aB}
theorem ep.F(H:ep h U v enc k l)(L:aA U h ab)(dx:U<=Y):ep ab Y v enc k l:=by obtain⟨a,cap,e,H⟩:=H;refine⟨a,cap,e,λV=>?_⟩;obtain⟨b,o,aO,bL,cs,M,h1,Z,aH⟩:=H V;exact⟨b,o,aO,bL,cs,J,h1,(L b M).trans Z,aH⟩
theorem dg.o(L:∀x,(enc x).length=k)(H:dg h U v enc l):ep h U v enc k l:=by
 obtain⟨a,cap,e,H⟩:=H;refine⟨a,cap,e,λM=>?_⟩;obtain⟨b,aO,bL,V,h1,Z⟩:=H M;have:=fX L l
 grind
theorem ep.form(H:ep h U v enc k l):∃a c,v = .slice a l.length c:=by obtain⟨a,cap,e,_⟩:=H;grind
theorem ep.nil{a:ay Addr}{c:Nat}:ep h U (.slice a 0 c) enc k ([]:ac aB):=⟨a,c,rfl,λh=>absurd rfl h⟩
theorem Nr{o n k:Nat}{l:ac aB}(L:∀x,(enc x).length=k)(bw:n=l.length*k)(V:(cs.drop o).take n=a7 enc l){x:aB}(M:l[i]? = some x):(cs.drop (o+i*k)).take k=enc x:=by
 have Z:=uN L M;rw[<-V,EI,xO,List.take_take]at Z
 grind
theorem ep.ld(H:ep h U v enc k l)(M:∀x,(enc x).length=k){x:aB}(L:l[i]? = some x):
  ∃b o aO bL cs cap,b<U/\v = .slice (some ⟨b,o,aO⟩) l.length cap/\u h b=some (.cells cs bL)/\hg (some k) (o+i*k) cs = .ok (.agg ⟨enc x⟩):=by obtain⟨a,cap,e,H⟩:=H;obtain⟨b,o,aO,bL,cs,V,rfl,bd,h1,Z⟩:=H aa;have aj:=(g0.1 L).1;have:(i+1)*k<=l.length*k:=ph k aj;rw[xR]at this;refine⟨b,o,aO,bL,cs,cap,V,e,bd,?_⟩;rw[qm,if_pos J,Nr M rfl Z L]
theorem ep.ld1{enc:aB->X}(H:ep h U v (λx=>[enc x]) 1 l){x:aB}(Z:l[i]? = some x):
  ∃b o aO bL cs cap,b<U/\v = .slice (some ⟨b,o,aO⟩) l.length cap/\u h b=some (.cells cs bL)/\cs[o+i]? = some (enc x):=by
 obtain⟨a,cap,e,H⟩:=H;obtain⟨b,o,aO,bL,cs,L,rfl,V,h1,M⟩:=H aa;refine⟨b,o,aO,bL,cs,cap,L,e,V,?_⟩;have aH:=Nr  aa rfl M Z;rw[EO]at aH;have:((cs.drop (o+i)).take 1)[0]? = some (enc x):=aa
 grind
theorem zK:∀(l m:ac aB),a7 enc (l++m)=a7 enc l++a7 enc m
 | [],m=>rfl
 |x::l,m=>by show enc x++a7 enc (l++m)=(enc x++a7 enc l)++a7 enc m;rw[zK l m,kq]
theorem ZM(L:∀x,(enc x).length=k)(l:ac aB)(i j:Nat):((a7 enc l).drop (i*k)).take ((j-i)*k)=a7 enc ((l.drop i).take (j-i)):=by
 have Z:a7 enc l=a7 enc (l.take i)++a7 enc (l.drop i):=by rw[<-zK,Eu]
 have V:a7 enc (l.drop i)=a7 enc ((l.drop i).take (j-i))++a7 enc ((l.drop i).drop (j-i)):=by rw[<-zK,Eu]
 by_cases aj:i<=l.length
 ·rw[Z,Ix (by rw[fX L,nU];grind),M7 (by rw[fX L,nU,EG aj];omega),s7]
  by_cases M:j-i<=(l.drop i).length
  ·rw[V,Iy (by rw[fX L,nU,EG M];omega),q3 (by rw[fX L,nU,EG M];omega)]
  ·rw[q3 (l:=l.drop i) J,q3 (by rw[fX L];exact ph k J)]
 ·rw[M7 (J:l.length<=i),M7 (by rw[fX L];exact ph k J)];simp[a7]
theorem asQ{o n cap:Nat}(dc:aO≠some 0)(h1:i<=j)(ap:j<=n)(aH:n<=cap)(k:Nat):
  ∃Z gq,g5 k (.slice (some ⟨b,o,aO⟩) n cap) (some (i:X)) (some (j:X)) none = .ok (.slice Z (j-i) gq)/\(i<j->∃M,Z=some ⟨b,o+i*k,M⟩):=by
 have e:g5 k (.slice (some ⟨b,o,aO⟩) n cap) (some (i:X)) (some (j:X)) none=nZ k (some ⟨b,o,aO⟩) cap false cap j i:=rfl;rw[e];unfold nZ;rw[show(Nat.ble cap cap&&(Nat.ble j cap&&Nat.ble i j))=true by simp;omega];unfold uW
 by_cases e:cap=i
 ·subst e;have V:j=cap:=J
  subst V;rw[uB];unfold k4 zQ wS Li;cases aO with
  |none=>grind
  |some q =>
   cases q with
   |zero=>grind
   |succ q=>exact⟨_,_,by simp;exact⟨rfl,rfl⟩,λh=>absurd h J⟩
 ·have L:Nat.beq cap i=false:=by
   cases L:Nat.beq cap i with
   |true=>exact absurd (gE L) e
   |false=>rfl
  rw[L];exact⟨_,_,rfl,λ_=>⟨_,rfl⟩⟩
theorem ep.clone(H:ep h U v enc k l)(hk:∀x,(enc x).length=k)(M:0<k)(br:l.length*k<1000000){L:ac X}{ro0:ao}(Z:u ab b=some (.cells L ro0))(V:aA U h ab)(S9:U<=Y):
  (l=[]/\∃w,(w = .slice none 0 0\/∃b,w = .slice (some ⟨b,0,none⟩) 0 0)/\dn k ab Y (.slice (some ⟨b,0,none⟩) 0 0) v = .ok (.val w ab Y))\/(l≠[]/\dn k ab Y (.slice (some ⟨b,0,none⟩) 0 0) v = .ok (.val (.slice (some ⟨Y,0,some k⟩) l.length l.length) (T ab Y (.cells (a7 enc l) false)) (Y+1))):=by
 obtain⟨a,cap,rfl,H⟩:=H;rcases IV (l=[])with e|e
 ·subst e;refine .inl ⟨rfl,.slice (some ⟨b,0,none⟩) 0 0,aa,?_⟩;show jD ab a (Nat.mul 0 k) (λnew=>ge k ab Y (some ⟨b,0,none⟩) 0 0 0 new)=_;rw[show Nat.mul 0 k=0 from mb k];rfl
 ·right
  refine⟨e,?_⟩;obtain⟨b2,dQ,aO,bL,cs,fH,rfl,bd,h1,ap⟩:=H e;have bd:=(V b2 fH).trans bd;have aq:=Ez.2 e;have TH:l.length<=l.length*k:=BP _ M;have ba:jD ab (some ⟨b2,dQ,aO⟩) (l.length.mul k) (λnew=>ge k ab Y (some ⟨b,0,none⟩) 0 0 l.length new)=ge k ab Y (some ⟨b,0,none⟩) 0 0 l.length (a7 enc l):=by
   rw[sh bd aa aa]
   grind
  show jD ab (some ⟨b2,dQ,aO⟩) (l.length.mul k) (λnew=>ge k ab Y (some ⟨b,0,none⟩) 0 0 l.length new)=_;rw[ba];unfold ge;rw[show Nat.ble (Nat.add 0 l.length) 0=false by
   cases Z:Nat.ble (Nat.add 0 l.length) 0 with
   |false=>rfl
   |true=>have:=lJ Z;grind]
  rw[show(Nat.ble (Nat.mul (Nat.add 0 l.length) k) 1000000&&Nat.ble (Nat.add 0 l.length) 1000000)=true by
   simp only[eA,sd]
   grind]
  unfold pw;simp only[uE Z];rw[show mT (Nat.mul 0 k) (mO L 0)=some [] by rw[xS,mb];rfl];show pv ab Y k (kP [] (a7 enc l)) (0+l.length)=_;rw[j5,s7,iU];exact po M
def iR{aB:Type}(h:ae)(al aj:Nat)(v:X)(enc:aB->ac X)(k:Nat)(l:ac aB):Prop :=
 (l=[]/\(v = .slice none 0 0\/∃b,v = .slice (some ⟨b,0,none⟩) 0 0))\/∃b,al<=b/\b<aj/\v = .slice (some ⟨b,0,some k⟩) l.length l.length/\u h b=some (.cells (a7 enc l) false)
theorem iR.form{al aj:Nat}(H:iR h al aj v enc k l):∃a c,v = .slice a l.length c:=by
 rcases H with⟨rfl,rfl|⟨b,rfl⟩⟩|⟨b,_,_,rfl,_⟩ <;> exact⟨_,_,rfl⟩
theorem iR.gC{al aj:Nat}(H:iR h al aj v enc k l):eY h al aj v enc l:=by
 rcases H with⟨rfl,rfl|⟨b,rfl⟩⟩|⟨b,L,V,rfl,M⟩
 ·exact⟨_,_,rfl,λh=>absurd rfl h⟩
 ·exact⟨_,_,rfl,λh=>absurd rfl h⟩
 ·exact⟨_,_,rfl,λ_=>⟨b,_,false,L,V,rfl,M⟩⟩
theorem iR.F{al aj ea dB:Nat}(H:iR h al aj v enc k l)(L:∀b,al<=b->b<aj->u ab b=u h b)(M:ea<=al)(V:aj<=dB):iR ab ea dB v enc k l:=by
 rcases H with H|⟨b,az,a2,a3,aZ⟩
 ·exact .inl H
 ·exact .inr ⟨b,J,J,a3,aa⟩
theorem dX.f{al aj:Nat}(H:dX h v enc k l al aj):iR h al aj v enc k l:=by
 rcases H with⟨aW,Z⟩|⟨b,V,M,e,L⟩
 ·exact .inl aa
 ·exact .inr ⟨b,V,M,e,L⟩
theorem acd{P:Program}{t:TypeId}(H:ep h U v enc k l)(hk:∀x,(enc x).length=k)(M:0<k)(br:l.length*k<1000000)(cK:ns P t=true)(L:∀r ab Y,iR ab U Y r enc k l->aA U h ab->U<=Y->K r ab Y):
  af (bin P .eql t v (.slice none 0 0)) λg8=>bt g8 (K (.slice none 0 0) h U) (dS (eO 0 [] []) h U λZ aH d9=>dm (dI (dn k aH d9 Z v)) λMP cj n7=>K MP cj n7):=by
 have r1:=H;obtain⟨a,cap,rfl,kp⟩:=id H;have V:aA U h (T h U (.cells [] false)):=aF
 simp(disch:=omega)only[bk,zO cK,seval];refine⟨λaq=>?_,λaq=>?_⟩
 ·have:l=[]:=aa
  subst this;exact L _ _ _ (.inl aa) aF J
 rcases r1.clone hk M br (aR h U (.cells [] false)) V (vT U)with⟨rfl,w,bV,e⟩|⟨aM,e⟩
 ·rw[e];exact L _ _ _ (.inl aa) V J
 ·rw[e];exact L _ _ _ (.inr ⟨U+1,J,J,rfl,aa⟩) aF J
end
def axR:c0:=λs ah t1 h U K=>aV s 220 [ah] h U λa b c=>af (ds .not a) λd=>bt d (K (ad (-1)) b c) (cv t1 (ad 0) (K (ad (-1)) b c) (bE .mul 3 ah (ad 8) λf=>bm .geq 3 t1 f (K (ad (-1)) b c) (bE .quo 3 t1 ah λi=>K i b c)))
theorem avy:c4 131 axR:=c5 []
def axS:c0:=λs ah t1 h U K=>aV s 131 [ah,t1] h U λa b c=>cv a (ad 0) (K (ad (-1)) b c) (bE .rem 3 t1 ah λe=>K e b c)
theorem avz:c4 132 axS:=c5 []
def ahG:c0:=λs ah t1 h U K=>aV s 235 [ah,t1] h U λa b c=>bE .geq 3 a (ad 0) λd=>K d b c
theorem ahC:c4 141 ahG:=c5 []
def aoH:cO:=λs ah h U K=>bm .eql 95 ah aw (K aw h U) (dS (eO 0 [] []) h U λb c d=>dm (dI (dn 2 c d b ah)) λe f g=>K e f g)
theorem ak9:cQ 217 aoH:=cT []
def aoI:cO:=λs ah h U K=>bm .eql 98 ah aw (K aw h U) (dS (eO 0 [] []) h U λb c d=>dm (dI (dn 3 c d b ah)) λe f g=>K e f g)
theorem ala:cQ 218 aoI:=cT []
def Nu:ac (ac Nat):=[[0,1,4,7,8]]
def VP(s:ao)(aC az aZ a6 bq:X)(h:ae)(U:Nat)(N:aQ)(aM:aQ)(R:aQ):Prop:=cv bq a6 (et h 1 aC bq λc=>fg Q s (hV h U [c] az) λd e f=>bt d (R [aC,az,bq,a6,bq] e f) (b9 bq λg=>N [aC,az,aZ,a6,g] e f)) (aM [aC,az,aZ,a6,bq] h U)
def V1:c0:=λs ah t1 h U K=>cP ah λa=>bF (bW Q s Nu 235 0) [ah,t1,(ad 0),a,(ad 0)] h U [(0,λb c d=>K (ad (-1)) c d)] (λe f g=>K (aT e 2) f g)
theorem ahM{h:ae}{U:Nat}:bW Q s Nu 235 0 [aC,az,aZ,a6,bq] h U N [(0,aM)] R=VP s aC az aZ a6 bq h U N aM R:=by kernel_rfl
theorem ahS:c4 235 V1:=c5 Nu
def P7:ac (ac Nat):=[[0,3,4]]
def ZN(s:ao)(aC a3 aZ:X)(h:ae)(U:Nat)(N:aQ)(aM:aQ)(R:aQ):Prop:=cP aC λa=>cv aZ a (et h 1 aC aZ λd=>af (min2 true a3 d) λe=>b9 aZ λf=>N [aC,e,f] h U) (aM [aC,a3,aZ] h U)
def aes:cO:=λs ah h U K=>cP ah λa=>cv a (ad 1) (af (.ok (Value.iface 9 (.string ⟨#[115,108,105,99,101,115,46,77,105,110,58,32,101,109,112,116,121,32,108,105,115,116]⟩))) λc=>False) (et h 1 ah (ad 0) λe=>bF (bW Q s P7 244 0) [ah,e,(ad 1)] h U [(0,λf g i=>K (aT f 1) g i)] (λ_ _ _=>False))
theorem aoJ{h:ae}{U:Nat}:bW Q s P7 244 0 [aC,a3,aZ] h U N [(0,aM)] R=ZN s aC a3 aZ h U N aM R:=by kernel_rfl
theorem asR:cQ 244 aes:=cT P7
def ace:cO:=λs ah h U K=>bG ah h U λa b c=>av b 0 a λe=>aV s 384 [e,(ad 4096)] b c λf g i=>af (ds .not f) λj=>bt j (K (.bool false) g i) (bX [(ad 0)] g i λk l m=>af (aN l 1 k (ad (-1))) λn=>av n 1 a λp=>af (.ok (.func (.func 386) ⟨[]⟩ ⟨[k,a]⟩)) λq=>aV s 385 [p,q] n m λr t aS=>af (ds .not r) λv=>K v t aS)
theorem aoK:cQ 312 ace:=cT []
def acf:cO:=λs ah h U K=>bG ah h U λa b c=>aG 5 b a λd=>aV s 293 [d] b c λe f g=>af (yz 3 none e) λi=>cP i λj=>K j f g
theorem aoL:cQ 322 acf:=cT []
def ahH:c0:=λs ah t1 h U K=>aV s 395 [ah,t1] h U λa b c=>bE .geq 3 a (ad 0) λd=>K d b c
theorem ahD:c4 325 ahH:=c5 []
def Ns:ac (ac Nat):=[[0,1,5,6]]
def VL(s:ao)(aC az bI bj:X)(h:ae)(U:Nat)(N:aQ)(aM:aQ)(R:aQ):Prop:=cP aC λa=>cv bj a (gD 3 h 3 aC bj λd=>bX [(ad 0),(ad 0),(.int .u64 0)] h U λe f g=>af (aN f 3 e d) λi=>aG 3 i e λj=>fg Q s (hV i g [j] az) λk l m=>af (ds .not k) λn=>bt n (aG 3 l e λo=>fq 3 aC bI λp=>af (aN l 3 p o) λq=>b9 bI λr=>b9 bj λt=>N [aC,az,r,t] q m) (b9 bj λaS=>N [aC,az,bI,aS] l m)) (aM [aC,az,bI,bj] h U)
def ahT:c0:=λs ah t1 h U K=>aV s 396 [ah,t1] h U λa b c=>bm .eql 3 a (ad (-1)) (K ah b c) (b9 a λe=>bF (bW Q s Ns 332 0) [ah,t1,a,e] b c [(0,λf g i=>af (g5 3 (aT f 0) (some (aT f 2)) none none) λj=>dm (dI (pk Q .clear [98] g i [j])) λk l m=>af (g5 3 (aT f 0) none (some (aT f 2)) none) λn=>K n l m)] (λ_ _ _=>False))
theorem ahI{h:ae}{U:Nat}:bW Q s Ns 332 0 [aC,az,bI,bj] h U N [(0,aM)] R=VL s aC az bI bj h U N aM R:=by kernel_rfl
theorem ahN:c4 332 ahT:=c5 Ns
def XW:gj:=λs ah t1 t2 h U K=>cP ah λa=>af (g5 1 ah (some t1) (some t2) (some a)) λb=>bm .eql 3 t1 t2 (K ah h U) (cP ah λd=>af (g5 1 ah none (some t1) none) λe=>af (g5 1 ah (some t2) none none) λf=>dm (dI (dn 1 h U e f)) λg i j=>U<=j/\cP g λk=>af (g5 1 g (some k) (some d) none) λl=>dm (dI (pk Q .clear [62] i j [l])) λm n o=>K g n o)
theorem ajd:gw 348 XW:=gz []
def ZO:c0:=λs ah t1 h U K=>bm .geq 3 ah (ad 0) (bE .leq 3 ah t1 λb=>K b h U) (K (.bool false) h U)
theorem alb:c4 384 ZO:=c5 []
def ahJ:c0:=λs ah t1 h U K=>aV s 444 [ah,t1] h U λa b c=>bE .geq 3 a (ad 0) λd=>K d b c
theorem ahE:c4 385 ahJ:=c5 []
def ZP:gj:=λs ah t1 t2 h U K=>bG ah h U λa b c=>av b 0 a λe=>bY b t1 λf=>bm .leq 3 e f (av b 0 a λj=>af (aN b 1 t1 j) λk=>K (.bool true) k c) (av b 0 a λm=>av b 0 t2 λo=>bE .geq 3 m o λp=>av b 0 a λr=>af (aN b 1 t1 r) λt=>K p t c)
theorem ald:gw 386 ZP:=gz []
def P8:ac (ac Nat):=[[2,3,4,8,9,10]]
def ZQ(s:ao)(a2 a3 aZ bq cH dd:X)(h:ae)(U:Nat)(N:aQ)(aM:aQ)(R:aQ):Prop:=cv dd cH (gD 2 h 2 bq dd λc=>bX [(ad 0),aw] h U λd e f=>af (aN e 2 d c) λg=>av g 0 aZ λj=>bX [(ad 0)] g f λk l m=>af (aN l 1 k j) λn=>aG 2 n d λo=>af (.ok (.func (.func 446) ⟨[]⟩ ⟨[k]⟩)) λp=>aV s 445 [o,p] n m λq r t=>af (aN r 2 d q) λaS=>av aS 0 d λw=>av aS 0 aZ λy=>bE .sub 3 (ad 4096) y λz=>hP w z (af (cw [(ad 0),aw] []) λbS=>af (aN aS 2 a2 bS) λbA=>R [a2,(ad 5),aZ,bq,cH,dd] bA t) (av aS 1 aZ λbM=>av aS 1 d λbO=>dm (dI (dn 2 aS t bM bO)) λcJ cp dk=>t<=dk/\bl 0 aZ λc3=>bY cp c3 λeo=>da c3 eo (bl 0 d λam=>bY cp am λan=>da am an (lD eo an λek=>af (cw [(ad 0),aw] [(0,1,ek),(1,1,cJ)]) λfK=>af (aN cp 2 aZ fK) λfU=>b9 dd λgk=>N [a2,a3,aZ,bq,cH,gk] fU dk) 1 [aS]) 1 [aS])) (aM [a2,a3,aZ,bq,cH,dd] h U)
def aet:cO:=λs ah h U K=>bX [(ad 0),aw] h U λa b c=>bX [(ad 0),aw] b c λd e f=>cP ah λg=>bF (bW Q s P8 387 0) [a,(ad 0),d,ah,g,(ad 0)] e f [(0,λi j k=>aG 2 j (aT i 2) λl=>af (aN j 2 (aT i 0) l) λm=>aG 2 m (aT i 0) λn=>K (.tuple ⟨[n,(ad 0)]⟩) m k)] (λo p q=>aG 2 p (aT o 0) λr=>K (.tuple ⟨[r,(aT o 1)]⟩) p q)
theorem aoM{h:ae}{U:Nat}:bW Q s P8 387 0 [a2,a3,aZ,bq,cH,dd] h U N [(0,aM)] R=ZQ s a2 a3 aZ bq cH dd h U N aM R:=by kernel_rfl
theorem asS:cQ 387 aet:=cT P8
def Oj:ac (ac Nat):=[[3,8,9,10]]
def WS(s:ao)(a3 bq cH dd:X)(h:ae)(U:Nat)(N:aQ)(aM:aQ)(R:aQ):Prop:=cv dd cH (gD 2 h 2 bq dd λc=>bX [(ad 0),(ad 0)] h U λd e f=>af (aN e 2 d c) λg=>av g 0 d λj=>dS (eO 1 [(ad 0)] [(0,1,j)]) g f λk l m=>dm (dI (dn 1 l m a3 k)) λn o p=>b9 dd λq=>N [n,bq,cH,q] o p) (aM [a3,bq,cH,dd] h U)
def ZR:cO:=λs ah h U K=>bG ah h U λa b c=>aG 2 b a λd=>aV s 447 [d] b c λe f g=>af (yz 1 none e) λi=>cP i λj=>bF (bW Q s Oj 389 0) [aw,i,j,(ad 0)] f g [(0,λk l m=>K (aT k 0) l m)] (λ_ _ _=>False)
theorem aje{h:ae}{U:Nat}:bW Q s Oj 389 0 [a3,bq,cH,dd] h U N [(0,aM)] R=WS s a3 bq cH dd h U N aM R:=by kernel_rfl
theorem ale:cQ 389 ZR:=cT Oj
def P9:ac (ac Nat):=[[2,5,11,12,13]]
def ZS(s:ao)(a2 bI d5 eg ik:X)(h:ae)(U:Nat)(N:aQ)(aM:aQ)(R:aQ):Prop:=cv ik eg (et h 1 d5 ik λc=>aG 6 h a2 λd=>aV s 449 [d,c] h U λe f g=>bm .geq 3 e (ad 0) (av f 3 a2 λk=>b9 e λl=>et f 1 k l λn=>av f 3 a2 λp=>et f 1 p e λr=>bE .sub 3 n r λt=>lD bI t λaS=>b9 ik λv=>N [a2,aS,d5,eg,v] f g) (b9 ik λw=>N [a2,bI,d5,eg,w] f g)) (aM [a2,bI,d5,eg,ik] h U)
def aeu:c0:=λs ah t1 h U K=>bG ah h U λa b c=>aG 6 b a λd=>aV s 448 [d] b c λe f g=>af (aN f 6 a e) λi=>cP t1 λj=>bF (bW Q s P9 390 0) [a,(ad 0),t1,j,(ad 0)] i g [(0,λk l m=>K (aT k 1) l m)] (λ_ _ _=>False)
theorem aoN{L V M:X}{h:ae}{U:Nat}:bW Q s P9 390 0 [a2,bI,L,V,M] h U N [(0,aM)] R=ZS s a2 bI L V M h U N aM R:=by kernel_rfl
theorem asT:c4 390 aeu:=c5 P9
def Nv:ac (ac Nat):=[[0,1,4,7,8]]
def VQ(s:ao)(aC az aZ a6 bq:X)(h:ae)(U:Nat)(N:aQ)(aM:aQ)(R:aQ):Prop:=cv bq a6 (et h 1 aC bq λc=>fg Q s (hV h U [c] az) λd e f=>bt d (R [aC,az,bq,a6,bq] e f) (b9 bq λg=>N [aC,az,aZ,a6,g] e f)) (aM [aC,az,aZ,a6,bq] h U)
def V2:c0:=λs ah t1 h U K=>cP ah λa=>bF (bW Q s Nv 395 0) [ah,t1,(ad 0),a,(ad 0)] h U [(0,λb c d=>K (ad (-1)) c d)] (λe f g=>K (aT e 2) f g)
theorem ahO{h:ae}{U:Nat}:bW Q s Nv 395 0 [aC,az,aZ,a6,bq] h U N [(0,aM)] R=VQ s aC az aZ a6 bq h U N aM R:=by kernel_rfl
theorem ahU:c4 395 V2:=c5 Nv
def Nw:ac (ac Nat):=[[0,1,4,7,8]]
def Nt(s:ao)(aC az aZ a6 bq:X)(h:ae)(U:Nat)(N:aQ)(aM:aQ)(R:aQ):Prop:=cv bq a6 (gD 3 h 3 aC bq λc=>fg Q s (hV h U [c] az) λd e f=>bt d (R [aC,az,bq,a6,bq] e f) (b9 bq λg=>N [aC,az,aZ,a6,g] e f)) (aM [aC,az,aZ,a6,bq] h U)
def Nz:c0:=λs ah t1 h U K=>cP ah λa=>bF (bW Q s Nw 396 0) [ah,t1,(ad 0),a,(ad 0)] h U [(0,λb c d=>K (ad (-1)) c d)] (λe f g=>K (aT e 2) f g)
theorem VR{h:ae}{U:Nat}:bW Q s Nw 396 0 [aC,az,aZ,a6,bq] h U N [(0,aM)] R=Nt s aC az aZ a6 bq h U N aM R:=by kernel_rfl
theorem VV:c4 396 Nz:=c5 Nw
def ahK:c0:=λs ah t1 h U K=>aV s 396 [ah,t1] h U λa b c=>bE .geq 3 a (ad 0) λd=>K d b c
theorem ahF:c4 397 ahK:=c5 []
def afW:c0:=λs ah t1 h U K=>bG ah h U λa b c=>aG 2 b a λd=>aV s 447 [d] b c λe f g=>af (aN f 2 a e) λi=>aG 2 i a λj=>aV s 458 [j,t1] i g λk l m=>af (cu k 0) λn=>af (cu k 1) λo=>af (ds .not o) λp=>bt p (K (.tuple ⟨[(ad 0),(.bool false)]⟩) l m) (av l 1 a λr=>fq 2 r n λt=>av l 1 t λv=>K (.tuple ⟨[v,(.bool true)]⟩) l m)
theorem avA:c4 401 afW:=c5 []
def aev:gj:=λs ah t1 t2 h U K=>cv t2 (ad 0) (K (ad 0) h U) (bm .geq 3 t2 t1 (K (ad 0) h U) (b9 t2 λc=>aV s 126 [ah,t1,c] h U λd e f=>aV s 126 [ah,t1,t2] e f λg i j=>bE .sub 3 d g λk=>K k i j))
theorem asU:gw 404 aev:=gz []
def aew:gj:=λs ah t1 t2 h U K=>bG ah h U λa b c=>bG t1 b c λd e f=>bX [(ad 0),aw] e f λg i j=>aG 2 i a λk=>aV s 447 [k] i j λl m n=>af (aN m 2 a l) λo=>bY o d λp=>af (min2 false p (ad 0)) λq=>af (aN o 1 d q) λr=>bl 0 a λt=>bY r t λaS=>da t aS (af (min2 true t2 aS) λv=>bY r d λw=>bm .leq 3 v w (af (cw [(ad 0),aw] []) λy=>af (aN r 2 g y) λz=>aG 2 z g λbz=>K bz z n) (aG 2 r a λbS=>bY r d λbA=>aV s 458 [bS,bA] r n λa9 bM b5=>af (cu a9 0) λbO=>af (cu a9 1) λcJ=>aG 2 bM a λcp=>aV s 458 [cp,v] bM b5 λdk c3 eo=>af (cu dk 0) λam=>af (cu dk 1) λan=>av c3 0 a λfK=>av c3 1 a λgk=>af (g5 2 gk (some bO) (some am) none) λhp=>af (cw [(ad 0),aw] [(0,1,fK),(1,1,hp)]) λhQ=>bX [(ad 0),aw] c3 eo λfV jA jB=>af (aN jA 2 fV hQ) λjJ=>aG 2 jJ fV λlj=>af (.ok (.func (.func 460) ⟨[]⟩ ⟨[d]⟩)) λfj=>aV s 445 [lj,fj] jJ jB λb7 oD be=>bX [(ad 0),aw] oD be λkK ic fF=>af (aN ic 2 kK b7) λbi=>bY bi d λp6=>bE .sub 3 v p6 λmC=>bl 0 kK λjK=>af (aN bi 1 jK mC) λiF=>aG 2 iF kK λpa=>af (aN iF 2 g pa) λaY=>aG 2 aY g λp7=>K p7 aY fF)) 1 [o]
theorem asV:gw 405 aew:=gz []
def ZT:cO:=λs ah h U K=>bm .eql 99 ah aw (K aw h U) (dS (eO 0 [] []) h U λb c d=>dm (dI (dn 3 c d b ah)) λe f g=>K e f g)
theorem alf:cQ 406 ZT:=cT []
def Nx:ac (ac Nat):=[[0,1,4,7,8]]
def VS(s:ao)(aC az aZ a6 bq:X)(h:ae)(U:Nat)(N:aQ)(aM:aQ)(R:aQ):Prop:=cv bq a6 (gD 2 h 2 aC bq λc=>fg Q s (hV h U [c] az) λd e f=>bt d (R [aC,az,bq,a6,bq] e f) (b9 bq λg=>N [aC,az,aZ,a6,g] e f)) (aM [aC,az,aZ,a6,bq] h U)
def V3:c0:=λs ah t1 h U K=>cP ah λa=>bF (bW Q s Nx 444 0) [ah,t1,(ad 0),a,(ad 0)] h U [(0,λb c d=>K (ad (-1)) c d)] (λe f g=>K (aT e 2) f g)
theorem ahP{h:ae}{U:Nat}:bW Q s Nx 444 0 [aC,az,aZ,a6,bq] h U N [(0,aM)] R=VS s aC az aZ a6 bq h U N aM R:=by kernel_rfl
theorem ahV:c4 444 V3:=c5 Nx
def Qa:ac (ac Nat):=[[1,4,5,17,18,19]]
def ZU(s:ao)(az aZ bI kV lw nD:X)(h:ae)(U:Nat)(N:aQ)(aM:aQ)(R:aQ):Prop:=cv nD lw (gD 2 h 2 kV nD λc=>bX [(ad 0),(ad 0)] h U λd e f=>af (aN e 2 d c) λg=>aG 2 g d λi=>fg Q true (hV g f [i] az) λj k l=>f<=l/\bl 1 bI λm=>bY k m λn=>da m n (fq 2 n nD λo=>af (aN k 2 o j) λp=>b9 nD λq=>N [az,aZ,bI,kV,lw,q] p l) 1 [g]) (aM [az,aZ,bI,kV,lw,nD] h U)
def aex:c0:=λs ah t1 h U K=>bG ah h U λa b c=>bX [(ad 0),aw] b c λd e f=>aG 2 e a λg=>aV s 447 [g] e f λi j k=>af (aN j 2 a i) λl=>av l 1 a λn=>cg 217 [n] l k λo p q=>bl 0 a λr=>bY p r λt=>da r t (af (cw [(ad 0),aw] [(0,1,t),(1,1,o)]) λaS=>bX [(ad 0),aw] p q λv w x=>af (aN w 2 v aS) λy=>av y 1 v λbz=>cP bz λbS=>bF (bW Q s Qa 445 0) [t1,d,v,bz,bS,(ad 0)] y x [(0,λbA a9 bM=>aG 2 a9 (aT bA 2) λb5=>af (aN a9 2 (aT bA 1) b5) λbO=>aG 2 bO (aT bA 1) λcJ=>K cJ bO bM)] (λ_ _ _=>False)) 1 [l]
theorem aoO{L V M:X}{h:ae}{U:Nat}:bW Q s Qa 445 0 [az,aZ,bI,L,V,M] h U N [(0,aM)] R=ZU s az aZ bI L V M h U N aM R:=by kernel_rfl
theorem asW:c4 445 aex:=c5 Qa
def acg:c0:=λs ah t1 h U K=>bG ah h U λa b c=>bX [(ad 0),(ad 0)] b c λd e f=>bY e t1 λg=>av e 0 a λj=>lD g j λk=>av e 1 a λm=>af (cw [(ad 0),(ad 0)] [(0,1,k),(1,1,m)]) λn=>af (aN e 2 d n) λo=>aG 2 o d λp=>K p o f
theorem aoP:c4 446 acg:=c5 []
def aey:cO:=λs ah h U K=>bG ah h U λa b c=>bX [(ad 0),aw] b c λd e f=>aG 2 e a λg=>aV s 312 [g] e f λi j k=>bt i (aG 2 j a λl=>af (aN j 2 d l) λm=>aG 2 m d λn=>K n m k) (af (cw [(ad 0),aw] []) λo=>af (aN j 2 d o) λp=>aG 2 p d λq=>K q p k)
theorem asX:cQ 447 aey:=cT []
def aez:cO:=λs ah h U K=>bG ah h U λa b c=>bX [(ad 0),(ad 0),aw,aw,aw,aw] b c λd e f=>aG 6 e a λg=>aV s 477 [g] e f λi j k=>bt i (aG 6 j a λl=>af (aN j 6 d l) λm=>aG 6 m d λn=>K n m k) (aV s 205 [] j k λo p q=>af (aN p 6 d o) λr=>aG 6 r d λt=>K t r q)
theorem asY:cQ 448 aez:=cT []
def O3:ac (ac Nat):=[[1,2,5,6]]
def XX(s:ao)(az a2 bI bj:X)(h:ae)(U:Nat)(N:aQ)(aM:aQ)(R:aQ):Prop:=cv bI bj (bE .sub 3 bj bI λb=>bE .quo 3 b (ad 2) λc=>lD bI c λd=>av h 2 a2 λf=>et h 1 f d λi=>bm .eql 3 i az (aM [az,a2,d,bj] h U) (av h 2 a2 λl=>et h 1 l d λn=>cv n az (b9 d λp=>N [az,a2,p,bj] h U) (N [az,a2,bI,d] h U))) (aM [az,a2,bI,bj] h U)
def ach:c0:=λs ah t1 h U K=>bG ah h U λa b c=>av b 2 a λe=>cP e λf=>bF (bW Q s O3 449 0) [t1,a,(ad 0),f] b c [(0,λg i j=>cv (aT g 2) (aT g 3) (K (aT g 2) i j) (K (ad (-1)) i j))] (λ_ _ _=>False)
theorem alg{h:ae}{U:Nat}:bW Q s O3 449 0 [az,a2,bI,bj] h U N [(0,aM)] R=XX s az a2 bI bj h U N aM R:=by kernel_rfl
theorem aoQ:c4 449 ach:=c5 O3
def ZV:c0:=λs ah t1 h U K=>bG ah h U λa b c=>aG 6 b a λd=>aV s 448 [d] b c λe f g=>af (aN f 6 a e) λi=>aG 6 i a λj=>aV s 449 [j,t1] i g λk l m=>cv k (ad 0) (K aw l m) (aG 6 l a λo=>aV s 482 [o,k] l m λp q r=>aV s 481 [p] q r λt aS v=>K t aS v)
theorem alh:c4 454 ZV:=c5 []
def aeA:c0:=λs ah t1 h U K=>bG ah h U λa b c=>av b 1 a λe=>aV s 485 [e,t1,(.func (.func 486) #[] #[])] b c λf g i=>af (cu f 0) λj=>af (cu f 1) λk=>K (.tuple ⟨[j,k]⟩) g i
theorem asZ:c4 458 aeA:=c5 []
def aci:c0:=λs ah t1 h U K=>bG ah h U λa b c=>bX [(ad 0),(ad 0)] b c λd e f=>av e 0 a λi=>bY e t1 λj=>bE .sub 3 i j λk=>av e 1 a λm=>af (cw [(ad 0),(ad 0)] [(0,1,k),(1,1,m)]) λn=>af (aN e 2 d n) λo=>aG 2 o d λp=>K p o f
theorem aoR:c4 460 aci:=c5 []
def O4:ac (ac Nat):=[[1,2,73,74]]
def XY(s:ao)(az a2 L7 vx:X)(h:ae)(U:Nat)(N:aQ)(aM:aQ)(R:aQ):Prop:=cv vx L7 (av h 4 az λc=>av h 3 az λe=>et h 1 e vx λg=>av h 3 az λj=>b9 vx λk=>et h 1 j k λm=>af (g5 1 c (some g) (some m) none) λn=>av h 0 az λp=>cg 493 [n,p] h U λq r t=>af (ds .not q) λaS=>bt aS (R [az,(.bool false),L7,vx] r t) (b9 vx λv=>N [az,a2,L7,v] r t)) (aM [az,a2,L7,vx] h U)
def Ff(s:ao)(K:bZ)(b8 y70:X)(aq:ae)(a0:Nat):Prop:=bt y70 (K (.bool false) aq a0) (av aq 2 b8 λb=>cP b λc=>bF (bW Q s O4 477 0) [b8,(.bool false),c,(ad 0)] aq a0 [(0,λd e f=>K (.bool true) e f)] (λg i j=>K (aT g 1) i j))
def B6(s:ao)(K:bZ)(b8 ca T2:X)(aq:ae)(a0:Nat):Prop:=bt T2 (K (.bool false) aq a0) (av aq 2 b8 λb=>av aq 1 b8 λd=>aV s 493 [b,d] aq a0 λe f g=>af (ds .not e) λi=>bt i (Ff s K b8 (.bool true) f g) (av f 3 b8 λk=>b9 ca λl=>aV s 493 [k,l] f g λm n o=>af (ds .not m) λp=>bt p (Ff s K b8 (.bool true) n o) (av n 3 b8 λr=>et n 1 r (ad 0) λaS=>bm .neq 3 aS (ad 0) (Ff s K b8 (.bool true) n o) (av n 3 b8 λx=>av n 2 b8 λz=>cP z λbz=>et n 1 x bz λbA=>bE .neq 3 bA ca λa9=>(Ff s K b8 a9 n o)))))
def acj:cO:=λs ah h U K=>bG ah h U λa b c=>av b 4 a λe=>cP e λf=>av b 0 a λi=>aV s 492 [i,(ad 4096)] b c λj k l=>af (ds .not j) λm=>bt m (B6 s K a f (.bool true) k l) (av k 1 a λo=>aV s 492 [o,(ad 4096)] k l λp q r=>af (ds .not p) λt=>bt t (B6 s K a f (.bool true) q r) (av q 3 a λv=>cP v λw=>av q 2 a λy=>cP y λz=>b9 z λbz=>bm .neq 3 w bz (B6 s K a f (.bool true) q r) (av q 5 a λa9=>cP a9 λbM=>bm .neq 3 bM f (B6 s K a f (.bool true) q r) (bE .gtr 3 f (ad 65536) λbO=>(B6 s K a f bO q r)))))
theorem ali{L M:X}{h:ae}{U:Nat}:bW Q s O4 477 0 [az,a2,L,M] h U N [(0,aM)] R=XY s az a2 L M h U N aM R:=by kernel_rfl
theorem aoS:cQ 477 acj:=cT O4
def ajf:cO:=λs ah h U K=>aV s 495 [aw,ah] h U λa b c=>K a b c
theorem ait:cQ 481 ajf:=cT []
def ack:c0:=λs ah t1 h U K=>bG ah h U λa b c=>bG t1 b c λd e f=>af (.ok (.func (.func 496) ⟨[]⟩ ⟨[a,d]⟩)) λg=>K g e f
theorem aoT:c4 482 ack:=c5 []
def Nl:ac (ac Nat):=[[0,1,2,8,9,10]]
def VJ(s:ao)(aC az a2 bq cH dd:X)(h:ae)(U:Nat)(N:aQ)(aM:aQ)(R:aQ):Prop:=cv cH dd (lD cH dd λb=>af (n1 (.int .u64) b) λc=>bE .shr 238 c (.int .u64 1) λd=>af (n1 (.int .i64) d) λe=>gD 2 h 2 aC e λg=>fg Q s (hV h U [g,az] a2) λi j k=>cv i (ad 0) (b9 e λm=>N [aC,az,a2,bq,m,dd] j k) (N [aC,az,a2,bq,cH,e] j k)) (aM [aC,az,a2,bq,cH,dd] h U)
def VK:gj:=λs ah t1 t2 h U K=>cP ah λa=>bF (bW Q s Nl 485 0) [ah,t1,t2,a,(ad 0),a] h U [(0,λb c d=>cv (aT b 4) (aT b 3) (gD 2 c 2 (aT b 0) (aT b 4) λg=>fg Q s (hV c d [g,(aT b 1)] (aT b 2)) λi j k=>bE .eql 3 i (ad 0) λl=>K (.tuple ⟨[(aT b 4),l]⟩) j k) (K (.tuple ⟨[(aT b 4),(.bool false)]⟩) c d))] (λ_ _ _=>False)
theorem ahy{h:ae}{U:Nat}:bW Q s Nl 485 0 [aC,az,a2,bq,cH,dd] h U N [(0,aM)] R=VJ s aC az a2 bq cH dd h U N aM R:=by kernel_rfl
theorem ahz:gw 485 VK:=gz Nl
def acl:c0:=λs ah t1 h U K=>bG ah h U λa b c=>av b 0 a λe=>aV s 242 [e,t1] b c λf g i=>K f g i
theorem aoU:c4 486 acl:=c5 []
def ZW:c0:=λs ah t1 h U K=>bm .geq 3 ah (ad 0) (bE .leq 3 ah t1 λb=>K b h U) (K (.bool false) h U)
theorem alj:c4 492 ZW:=c5 []
def Ol:ac (ac Nat):=[[0,1,4,7,8,9]]
def WT(s:ao)(aC az aZ a6 bq cH:X)(h:ae)(U:Nat)(N:aQ)(aM:aQ)(R:aQ):Prop:=cv cH bq (et h 1 a6 cH λc=>bE .sub 3 az (ad 1) λd=>aV s 492 [c,d] h U λe f g=>af (ds .not e) λi=>bt i (R [aC,az,(.bool false),a6,bq,cH] f g) (hP cH (ad 0) (bE .sub 3 cH (ad 1) λk=>et f 1 aC k λm=>bm .geq 3 m c (R [aC,az,(.bool false),a6,bq,cH] f g) (b9 cH λo=>N [aC,az,aZ,a6,bq,o] f g)) (b9 cH λp=>N [aC,az,aZ,a6,bq,p] f g))) (aM [aC,az,aZ,a6,bq,cH] h U)
def ZX:c0:=λs ah t1 h U K=>cP ah λa=>bF (bW Q s Ol 493 0) [ah,t1,(.bool false),ah,a,(ad 0)] h U [(0,λb c d=>K (.bool true) c d)] (λe f g=>K (aT e 2) f g)
theorem ajg{h:ae}{U:Nat}:bW Q s Ol 493 0 [aC,az,aZ,a6,bq,cH] h U N [(0,aM)] R=WT s aC az aZ a6 bq cH h U N aM R:=by kernel_rfl
theorem alk:c4 493 ZX:=c5 Ol
def Om:ac (ac Nat):=[[0,1,2,4]]
def WU(s:ao)(aC az a2 aZ:X)(h:ae)(U:Nat)(N:aQ)(aM:aQ)(R:aQ):Prop:=av h 3 az λb=>bY h a2 λc=>b9 c λd=>et h 1 b d λf=>cv aZ f (av h 4 az λj=>et h 1 j aZ λl=>av h 5 az λn=>et h 1 n aZ λp=>af (cw [(ad 0),(ad 0)] [(0,1,l),(1,1,p)]) λq=>fg Q true (hV h U [q] aC) λr t aS=>U<=aS/\af (ds .not r) λv=>bt v (R [aC,az,a2,aZ] t aS) (b9 aZ λw=>N [aC,az,a2,w] t aS)) (aM [aC,az,a2,aZ] h U)
def ZY:gj:=λs ah t1 t2 h U K=>av h 3 t1 λb=>bY h t2 λc=>et h 1 b c λe=>bF (bW Q s Om 496 0) [ah,t1,t2,e] h U [(0,λf g i=>K (.tuple ⟨[]⟩) g i)] (λj k l=>K (.tuple ⟨[]⟩) k l)
theorem ajh{h:ae}{U:Nat}:bW Q s Om 496 0 [aC,az,a2,aZ] h U N [(0,aM)] R=WU s aC az a2 aZ h U N aM R:=by kernel_rfl
theorem alm:gw 496 ZY:=gz Om
def fN(p:Nat × Int):ac X:=[(p.1:X),(p.2:X)]
def j8(h:ae)(U:Nat)(v:X)(n:Nat)(x:Nat->ay Int):Prop:=∃gK,v = .agg ⟨[(n:X),gK]⟩/\ep h U gK fN 2 (bp n x)
def ln(h:ae)(al aj:Nat)(v:X)(n:Nat)(x:Nat->ay Int):Prop:=∃gK,v = .agg ⟨[(n:X),gK]⟩/\eY h al aj gK fN (bp n x)
section
variable {h ab:ae} {U Y al aj ea dB n:Nat} {v:X} {x:Nat->ay Int}
theorem j8.F(H:j8 h U v n x)(V:aA U h ab)(L:U<=Y):j8 ab Y v n x:=by obtain⟨Z,e,M⟩:=H;exact⟨Z,e,M.F V L⟩
theorem ln.is(H:ln h al aj v n x):j8 h aj v n x:=by obtain⟨M,e,L⟩:=H;exact⟨M,e,dg.o (λ_=>rfl) L.rd⟩
theorem ln.F(H:ln h al aj v n x)(L:∀b,al<=b->b<aj->u ab b=u h b)(h1:ea<=al)(V:aj<=dB):ln ab ea dB v n x:=by obtain⟨M,e,Z⟩:=H;exact⟨M,e,Z.F L h1 V⟩
theorem j8.ext{y:Nat->ay Int}(H:j8 h U v n x)(e:∀i,i<n->x i=y i):j8 h U v n y:=by obtain⟨M,V,L⟩:=H;exact⟨M,V,by rw[<-ya e];exact L⟩
theorem ln.ext{y:Nat->ay Int}(H:ln h al aj v n x)(e:∀i,i<n->x i=y i):ln h al aj v n y:=by obtain⟨M,V,L⟩:=H;exact⟨M,V,by rw[<-ya e];exact L⟩
end
theorem wh{n k:Nat}{f:Nat->ay Int}{x:Int}(h:(bp n f)[i]? = some (k,x)):k<n/\f k=some x:=j6.1 aa
theorem u1{n:Nat}{f:Nat->ay Int}{x:Int}(h:(bp n f)[i]? = some (a,x))(ab:(bp n f)[j]? = some (b,y))(L:i<j):a<b:=by
 obtain⟨V,aW⟩:=g0.1 h;obtain⟨M,Z⟩:=g0.1 ab;have:=xL.1 (yk n f) i j V M L
 grind
theorem aji{n m:Int}{h:ae}{U:Nat}:aD Q s 384 [(n:X),(m:X)] h U (fs (.bool (ly n m)) U h):=by
 refine alb ?_;unfold ZO;refine aE ?_;refine⟨λM=>?_,λM=>by rw[py J];exact⟨rfl,rfl,rfl⟩⟩
 by_cases L:m<n
 ·rw[hf L,py J];exact⟨rfl,rfl,rfl⟩
 ·rw[ht L,lm J];exact⟨rfl,rfl,rfl⟩
def XiJ(I:Nat->ae->Nat->Prop)(v qV:X)(n:Nat)(m:Nat)(aJ:ac X)(ab:ae)(Y:Nat):Prop:=∃i,m=n-i/\i<=n/\aJ=[v,qV,.int .i64 0,(n:X),(i:X)]/\I i ab Y
theorem avB{l:ac (Nat × Int)}{v:X}{h:ae}{U:Nat}{I:Nat->ae->Nat->Prop}(br:l.length<1000000)(aq:I 0 h U)(Z:∀i h U,I i h U->ep h U v fN 2 l)(bD:∀i x h U,l[i]? = some x->I i h U->aD Q s eL (.agg ⟨fN x⟩::cs) h U (λr ab Y=>r = .bool false/\I (i+1) ab Y)):
  aD Q s 385 [v,.func (.func eL) ⟨[]⟩ ⟨cs⟩] h U (λr ab Y=>r = .bool false/\I l.length ab Y):=by
 refine ahE ?_;refine(ahV (K:=λr ab Y=>r = .int .i64 (-1)/\I l.length ab Y) ?_).mono ?_
 ·obtain⟨a,cap,rfl,_⟩:=id (Z 0 h U aq);unfold V3;refine aE ?_;refine bF.mk (XiJ I (.slice a l.length cap) (.func (.func eL) ⟨[]⟩ ⟨cs⟩) l.length) l.length ⟨0,J,J,rfl,aq⟩ ?_;rintro _ _ h1 bg ⟨i,rfl,aj,rfl,L⟩;rw[ahP];unfold VS;refine aE ?_;refine⟨λcS=>?_,λeZ=>?_⟩
  ·obtain⟨x,aX⟩:=dW   J;obtain⟨b,o,aO,bL,rz,mV,a1,aW,bd,V⟩:=(Z i h1 bg L).ld (λ_=>rfl) aX;cases aW;refine cM @bd @V ?_;refine(bD i x h1 bg aX L).mono ?_;rintro _ ap bU ⟨rfl,M⟩;refine bf (cF (J:i<1000000000000)) ?_;exact⟨l.length-(i+1),J,i+1,rfl,J,rfl,M⟩
  ·have:i=l.length:=J
   subst this;exact L
 ·rintro _ ap bU ⟨rfl,L⟩;refine aE ?_;exact⟨rfl,L⟩
theorem ajj{x:Nat × Int}{last:Int}{n L:Nat}{gK:X}{h:ae}{U:Nat}(h1:last<(x.1:Int))(ap:x.1<n)(Z:u h pl=some (.cells [(last:X)] false))(aI:u h L=some (.cells [(n:X),gK] bL))(V:pl≠L)(M:pl<U)(Tb:L<U):
  aD Q s 386 [.agg ⟨fN x⟩,bb pl,bb L] h U (λr ab Y=>r = .bool false/\u ab pl=some (.cells [(x.1:X)] false)/\(∀d,d<U->d≠pl->u ab d=u h d)/\U<=Y):=by
 refine ald ?_;unfold ZP fN;simp(disch:=omega)only[bk,Z,aI,seval]
 grind
theorem v5{n:Nat}{v:X}{x:Nat->ay Int}{h:ae}{U:Nat}(aI:j8 h U v n x)(bw:n<=4096):aD Q s 312 [v] h U (c9 (.bool true) U h):=by
 refine aoK ?_;obtain⟨gK,rfl,au⟩:=aI;obtain⟨a,cap,rfl,a5⟩:=id au;unfold ace;refine aE ?_;refine aji.mono ?_;rintro _ _ _ ⟨rfl,rfl,rfl⟩;rw[lm J];refine aE ?_;have gT:=md n x;refine(avB (l:=bp n x) (I:=λi ab Y=>aA U h ab/\U+2<=Y/\u ab U=some (.cells [(n:X),.slice a (bp n x).length cap] false)/\∃last:Int,u ab (U+1)=some (.cells [(last:X)] false)/\∀(j k:Nat) (y:Int),(bp n x)[j]? = some (k,y)->i<=j->last<(k:Int)) (by omega) ?_ ?_ ?_).mono ?_
 ·exact⟨aF,J,aa,-1,aa,J⟩
 ·rintro i h1 bg ⟨M,L,_⟩;exact au.F M J
 ·rintro i ⟨k,y⟩ h1 bg aX ⟨M,L,bd,last,V,cS⟩;refine(ajj aa (wh aX).1 V bd J J J).mono ?_;rintro _ ap bU ⟨rfl,Z,pM,fx⟩;refine⟨rfl,aF,J,aa,k,Z,λj dw p4 cb hij=>?_⟩;have:=u1 aX cb J;omega
 ·rintro _ ap bU ⟨rfl,M,L,_⟩;refine aE ?_;exact⟨rfl,M,J⟩
theorem JD{n:Nat}{v:X}{x:Nat->ay Int}{h:ae}{U:Nat}(V:j8 h U v n x)(bw:n<=4096):aD Q s 447 [v] h U (c9 v U h):=by
 refine asX ?_;have L:=V;obtain⟨gK,rfl,au⟩:=V;obtain⟨a,cap,rfl,a5⟩:=id au;unfold aey;refine aE ?_;have bH:∀{o aU},aA U h (T (T h U o) (U+1) aU):=aF
 refine(v5 (L.F bH J) bw).mono ?_;rintro _ h1 bg ⟨rfl,M,dx⟩;have ch:=M U J;rw[ar J,aR]at ch;have Z:=M (U+1) J;rw[aR]at Z;refine cM @ch @Z ?_;exact⟨rfl,aF,J⟩
end Go.Proofs.YthlhhajnbgjfmaaGreat
