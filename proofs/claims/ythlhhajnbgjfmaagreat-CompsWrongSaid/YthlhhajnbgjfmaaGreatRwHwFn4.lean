/- Parts of the proof: HwFn4: each statement bears its own conditions. -/
import Derived.Test.YthlhhajnbgjfmaaGreatRwHwFn3
namespace Go.Proofs.YthlhhajnbgjfmaaGreat
open Go Go.Ax
set_option linter.all false
set_option maxHeartbeats 1000000
set_option maxRecDepth 1000000
variable {s:ak} {af:aa GE} {c:Nat->X} {i:Nat} {ax:X} {aF R N:aH} {a0 aV au a2 bo:X} {b:Nat} {src len:Int} {v1 v2 v3 v4 cj fu:X} {cs:aa X} {P:Nat->Prop} {A B:aa Int} {t1:X} {p:aa GE} {K:bD} {cS aZ lj:X} {j:Nat} {g:GE} {bt:aa Int} {ja bl cH:X} {r a C:Nat} {bp bV:av Addr} {low:Int} {jX kt kc cZ:X} {mG:Int} {a3:X} {u6:Nat} {bC:ak} {bO:Nat} {mK:av Nat} {st:Nat} {aO de d6 fQ:av Nat} {aE bf:X} {m:Nat} {lim:Int} {pP:Nat->Prop} {dQ dC j3 lG:aa Int} {hn yy ge:Nat} {i2 h5 rr sm qu qv sn qw rs rt sp qr nt pF mR qx sq qy o0:X} {H:Nat} {y eI:Int} {hb ol dJ g0 t3 eY t2:X} {yx a6 c2 pl:Nat} {E:aH} {d7:Nat}
theorem abG{k:Int}{h:ad}{U:Nat}:aD Q s 220 [(k:X)] h U (fm (.bool (lV (k-1) 7)) U h):=by
 refine bS ?_;refine aB ?_;refine⟨λM=>?_,λM=>by rw[p7 J];exact⟨rfl,rfl,rfl⟩⟩
 by_cases L:8<k
 ·rw[gz L,p7 J];exact⟨rfl,rfl,rfl⟩
 ·rw[f9 L,lI J];exact⟨rfl,rfl,rfl⟩
theorem adM{k:Int}{h:ad}{U:Nat}:aD Q s 292 [(k:X)] h U (fm (.bool (lV (k-1) 7)) U h):=by
 refine bS ?_;refine aB ?_;refine⟨λM=>?_,λM=>by rw[p7 J];exact⟨rfl,rfl,rfl⟩⟩
 by_cases L:8<k
 ·rw[gz L,p7 J];exact⟨rfl,rfl,rfl⟩
 ·rw[f9 L,lI J];exact⟨rfl,rfl,rfl⟩
theorem vE{n k:Nat}{h:ad}{U:Nat}(bm:n<=4096)(hk:0<k)(zR:k<=8)(ai:i<=100000):aD Q s 126 [(n:X),(k:X),(i:X)] h U (fm (.int .i64 (c6 n k i:Int)) U h):=by
 refine bS ?_;refine bS ?_;refine aB ?_;refine⟨λ_=>⟨λ_=>?_,λh=>absurd h J⟩,λh=>absurd h J⟩;refine abG.mono ?_;rintro _ _ _ ⟨rfl,rfl,rfl⟩;rw[lI J];have M:min (max (i:Int) 0) (k:Int)=((min i k:Nat):Int):=J
 have hm:min i k*n<=8*4096:=sT J bm;have V:IntKind.wrap .i64 (((min i k:Nat):Int)*(n:Int))=((min i k*n:Nat):Int):=by rw[show((min i k:Nat):Int)*(n:Int)=((min i k*n:Nat):Int) by omega];exact jI J J
 have Z:min i k*n / k<=min i k*n:=Nat.div_le_self _ _;have L:bin Q .quo 3 (((min i k*n:Nat):X)) (k:X) = .ok (.int .i64 (c6 n k i:Int)):=by rw[Dl J,show((min i k*n:Nat):Int).tdiv (k:Int)=((min i k*n / k:Nat):Int)from rfl];unfold c6;generalize min i k*n / k=q at Z ⊢;rw[jI J J]
 refine j6 @M @AS @V @L ?_;exact⟨rfl,rfl,rfl⟩
theorem RK{c:Nat}{h:ad}{U:Nat}(V:0<r)(M:r<=8)(aU:0<c)(L:c<=8)(ai:i<r)(Z:j<c):aD Q s 202 [(r:X),(c:X),(i:X),(j:X)] h U (fm (.bool true) U h):=by refine aut ?_;refine adM.mono ?_;rintro _ _ _ ⟨rfl,rfl,rfl⟩;rw[lI J];refine aB ?_;refine adM.mono ?_;rintro _ _ _ ⟨rfl,rfl,rfl⟩;rw[lI J];refine aB ?_;exact⟨λ_=>⟨λ_=>⟨λ_=>⟨ab,rfl,rfl⟩,λh=>absurd h J⟩,λh=>absurd h J⟩,λh=>absurd h J⟩
theorem C5{n k:Nat}{h:ad}{U:Nat}(M:n<=4096)(V:0<k)(L:k<=8)(ai:i<=10000):aD Q s 204 [(n:X),(k:X),(i:X)] h U (cI (.agg ⟨[.int .i64 (c6 n k i:Int),.int .i64 (c6 n k (i+1):Int)]⟩) U h):=by refine bS ?_;refine aB ?_;refine(vE M V L J).mono ?_;rintro _ _ _ ⟨rfl,rfl,rfl⟩;refine a9 (cn (J:i<1000000000000)) ?_;refine(vE M V L J).mono ?_;rintro _ _ _ ⟨rfl,rfl,rfl⟩;refine aB ?_;exact⟨rfl,aC,J⟩
theorem YX{n:Nat}{h:ad}{U:Nat}(Z:a<=b)(V:b<=n)(bm:n<=4096):aD Q s 294 [.agg ⟨[(a:X),(b:X)]⟩,(n:X)] h U (cI (.tuple ⟨[(a:X),((b-a:Nat):X)]⟩) U h):=by
 refine bS ?_;have L:∀{o},az U h (F h U o):=aC
 simp(disch:=omega)only[bd,show max (a:Int) 0=(a:Int) by omega,show min (b:Int) (n:Int)=(b:Int) by omega,seval];refine⟨λM=>?_,λM=>?_⟩
 ·have:b-a=0:=J
  rw[this];exact⟨rfl,L,J⟩
 ·rw[show IntKind.wrap .i64 ((b:Int)-(a:Int))=((b-a:Nat):Int) by rw[show(b:Int)-(a:Int)=((b-a:Nat):Int) by omega];exact jI J J];exact⟨rfl,L,J⟩
def k9{aA:Type}(h:ad)(v:X)(enc:aA->aa X)(k:Nat)(l:aa aA)(P:Nat->Prop):Prop :=
 (l=[]/\v = .slice none 0 0)\/∃d,P d/\v = .slice (some ⟨d,0,some k⟩) l.length l.length/\u h d=some (.cells (a1 enc l) false)
theorem k9.ho{aA:Type}{h:ad}{v:X}{enc:aA->aa X}{k:Nat}{l:aa aA}(H:k9 h v enc k l P):∃L,fb h enc k v l L/\∀d,L=some d->P d:=by
 rcases H with⟨rfl,rfl⟩|⟨d,M,rfl,V⟩
 ·exact⟨none,.nil,λd e=>by cases e⟩
 ·exact⟨some d,.own V,λd e=>by cases e;exact M⟩
theorem k9.T{aA:Type}{h ac:ad}{v:X}{enc:aA->aa X}{k:Nat}{l:aa aA}(H:k9 h v enc k l P)(M:∀d,P d->u ac d=u h d/\pP d):k9 ac v enc k l pP:=by
 rcases H with e|⟨d,L,e,V⟩
 ·exact .inl e
 ·exact .inr ⟨d,(M d L).2,e,ab⟩
theorem k9.of{aA:Type}{h:ad}{v:X}{enc:aA->aa X}{k ao ai:Nat}{l:aa aA}(H:dX h v enc k l ao ai):k9 h v enc k l λd=>ao<=d/\d<ai:=by
 rcases H with e|⟨d,L,V,e,M⟩
 ·exact .inl e
 ·exact .inr ⟨d,⟨L,V⟩,e,M⟩
theorem k9.at_{aA:Type}{h:ad}{v:X}{enc:aA->aa X}{k ao ai:Nat}{l:aa aA}(H:k9 h v enc k l P)(M:∀d,P d->ao<=d/\d<ai):dX h v enc k l ao ai:=by
 rcases H with e|⟨d,V,e,L⟩
 ·exact .inl e
 ·exact .inr ⟨d,ab,ab,e,L⟩
theorem k9.form{aA:Type}{h:ad}{v:X}{enc:aA->aa X}{k:Nat}{l:aa aA}(H:k9 h v enc k l P):∃a c,v = .slice a l.length c:=by
 rcases H with⟨rfl,rfl⟩|⟨d,_,rfl,_⟩
 ·exact⟨_,_,rfl⟩
 grind
theorem Lp{aA:Type}{enc:aA->aa X}{k:Nat}(hk:∀x,(enc x).length=k)(L:∀x,ec (enc x)=true)(EE:0<k){h:ad}{U:Nat}{v:X}{l:aa aA}(H:k9 h v enc k l P)(Z:pP U){dI M:Nat}(x:aA)(al:u h bO=some (.cells cs bC))(aR:(cs.drop dI).take k=enc x)(V:(l.length+1)*k<=1000000){K:X->ad->Nat->Prop}(ha:∀dG ac,k9 ac dG enc k (l++[x]) pP->(∀c,c≠U->¬P c->u ac c=u h c)->K dG ac (U+1)):dB (dS (dv k h U v (.slice (some ⟨bO,dI,mK⟩) 1 M))) K:=by obtain⟨aP,iw,aG⟩:=H.ho;refine y6 hk L EE iw x al aR V λac bm bx=>ha _ _ (.inr ⟨U,Z,ab,bm⟩) ab
def aye(cj IR a H b W:Nat)(af:aa GE)(ao:Nat)(ap:ad)(m:Nat)(aE:aa X)(ac:ad)(Y:Nat):Prop :=
 ∃(i:Nat) (o:X),m=H-i/\i<=H/\aE=[bb cj,bb IR,(a:X),(H:X),(b:X),(W:X),o,(H:X),(i:X)]/\dX ac o bQ 3 (ma af a i b W) ao Y/\az ao ap ac/\ao<=Y
def zS(l:aa GE)(i b W:Nat):aa GE:=(l.filter (zz b W)).map λg=>⟨i,g.t-b,g.w⟩
def T7(cj IR a H b W i:Nat)(cY:X)(pre l:aa GE)(ao d4 fI:Nat)(ap bP:ad)(m:Nat)(aE:aa X)(ac:ad)(Y:Nat):Prop :=
 ∃(k:Nat) (o:X),m=l.length-k/\k<=l.length/\aE=[bb cj,bb IR,(a:X),(H:X),(b:X),(W:X),o,(i:X),(H:X),(i:X),cY,(l.length:X),(k:X)] /\
  k9 ac o bQ 3 (pre++zS (l.take k) i b W) (λd=>ao<=d/\d<Y/\¬(d4<=d/\d<fI))/\(∀d,d4<=d->d<fI->u ac d=u bP d)/\az ao ap ac/\fI<=Y
theorem arX(l:aa GE)(i b W:Nat):(zS l i b W).length<=l.length:=by unfold zS;grind
theorem abH{l:aa GE}{k W:Nat}(h:l[k]? = some g):zS (l.take (k+1)) i b W=zS (l.take k) i b W++(if zz b W g=true then[⟨i,g.t-b,g.w⟩]else[]):=by
 unfold zS;rw[gQ,h,rJ,hN]
 grind
theorem arY{c eo ck:Nat}{v:X}{h:ad}{U:Nat}(M:hJ r c af)(aI:kI h U v r c af)(haa:a<=eo)(har:eo<=r)(wg:b<=ck)(uU:ck<=c):
  aD Q s 203 [v,.agg ⟨[(a:X),(eo:X)]⟩,.agg ⟨[(b:X),(ck:X)]⟩] h U (SU (eo-a) (ck-b) (ma af a (eo-a) b (ck-b)) U h):=by
 refine auu ?_;have kR:=aI;obtain⟨fJ,aO,cap,v2,v3,rfl,aG,a5,qL,pO⟩:=id aI;obtain⟨a2,c2,rfl⟩:=qL.form;obtain⟨a3,cm,rfl⟩:=pO.form;have ba:=M.ba;have aU:=M.aU;have bg:=M.len;have bF:∀{o aW kQ gL},az U h (F (F (F (F h U o) (U+1) aW) (U+1+1) kQ) (U+1+1+1) gL):=aC
 unfold agC;refine aB ?_;refine(GC M (kR.T bF J)).mono ?_;rintro _ h1 a6 ⟨rfl,eT,fp⟩;have b7:=eT U J;rw[aq J,aq J,aq J,aN]at b7;have br:=eT (U+1) J;rw[aq J,aq J,aN]at br;have g2:=eT (U+1+1) J;rw[aq J,aN]at g2;have c3:=eT (U+1+1+1) J;rw[aN]at c3;refine cx @b7 @br ?_;refine(YX haa har ba).mono ?_;rintro _ al bH ⟨rfl,dE,e9⟩;have kX:=dE U J;rw[aN]at kX;have gH:=dE (U+1+1) J;rw[aq J,g2]at gH;have lg:=dE (U+1+1+1) J;rw[aq J,c3]at lg;refine cx @kX @gH ?_;refine(YX wg uU aU).mono ?_;rintro _ aM bR ⟨rfl,ek,hr⟩;have aF:=(ek U J).trans kX;have ce:=(ek (U+1+1+1) J).trans lg;refine aB ?_;generalize gh:eo-a=H;generalize jF:ck-b=W;have hHr:a+H<=r:=J
 have hWc:b+W<=c:=J
 have gA:∀i,i<=H->(ma af a i b W).length<=120:=λi ai=>(Lo M J hWc).len;refine bq.mk (aye U (U+1+1+1) a H b W af bR aM) H ⟨0,_,rfl,J,rfl,by rw[auy];exact .inl ab,aC,J⟩ ?_;rintro _ _ bc d4 ⟨i,o,rfl,ai,rfl,dW,gd,iC⟩;rw[arK];unfold adD;have iH:=(gd U J).trans aF;have gX:=(gd (U+1+1+1) J).trans ce;have hT:az U h bc:=aC
 refine aB ?_;refine⟨λci=>?_,λeh=>?_⟩
 ·have dh:IntKind.wrap .i64 ((a:Int)+(i:Int))=((a+i:Nat):Int):=by rw[show(a:Int)+(i:Int)=((a+i:Nat):Int) by omega];exact jI J J
  refine cx @iH @dh ?_;refine(arV M (kR.T hT J) J).mono ?_;rintro rw bP fI ⟨dD,hi,mE⟩;have IP:=RJ af (a+i);obtain⟨qG,bZ,rfl⟩:∃qG bZ,rw = .slice qG (eQ af (a+i)).length bZ:=by
   rcases dD with⟨aY,aJ⟩|⟨b,_,_,e,_⟩
   all_goals grind
  have sl:k9 bP o bQ 3 (ma af a i b W) (λd=>bR<=d/\d<fI/\¬(d4<=d/\d<fI)):=(k9.of dW).T λd L=>⟨hi d L.2,L.1,J,J⟩
  refine aB ?_;refine bq.mk (T7 U (U+1+1+1) a H b W i (.slice qG (eQ af (a+i)).length bZ) (ma af a i b W) (eQ af (a+i)) bR d4 fI aM bP) (eQ af (a+i)).length ⟨0,_,J,J,rfl,by rw[tV];unfold zS;rw[List.filter_nil,yL,hM];exact sl,ab,aC,J⟩ ?_;generalize pz:eQ af (a+i)=l at *
  generalize UC:ma af a i b W=pre at *
  rintro _ _ b9 Z ⟨k,oe,rfl,hk,rfl,x9,hr6,hz,j9⟩;rw[arJ];unfold adC;refine aB ?_;refine⟨λEj=>?_,λayf=>?_⟩
  ·obtain⟨g,V⟩:=dk (J:k<l.length);have wj:g.t<c:=M.mF g (QD (show g∈eQ af (a+i) by grind)).1;have je:=arX (l.take k) i b W;rw[ox]at je;have fin:∀{aW:X} {dL:ad} {n7:Nat},k9 dL aW bQ 3 (pre++zS (l.take (k+1)) i b W) (λd=>bR<=d/\d<n7/\¬(d4<=d/\d<fI))->(∀d,d<Z->(bR<=d->d4<=d/\d<fI)->u dL d=u b9 d)->Z<=n7 ->
     ∃bG,bG<l.length-k/\T7 U (U+1+1+1) a H b W i (.slice qG l.length bZ) pre l bR d4 fI aM bP bG [bb U,.pointer (some ⟨U+1+1+1,0,none⟩),(a:X),(H:X),(b:X),(W:X),aW,(i:X),(H:X),(i:X),.slice qG l.length bZ,(l.length:X),((k+1:Nat):X)] dL n7:=λ{aW dL n7} sJ bx dr =>
    ⟨l.length-(k+1),J,k+1,aW,rfl,J,rfl,sJ,λd h1 al=>ab,λd L=>by rw[bx d J (λh=>absurd h J)];exact hz d L,J⟩
   have skip:zz b W g=false->∀{dL:ad},(∀d,d<Z->u dL d=u b9 d)->∃bG,bG<l.length-k/\T7 U (U+1+1+1) a H b W i (.slice qG l.length bZ) pre l bR d4 fI aM bP bG [bb U,.pointer (some ⟨U+1+1+1,0,none⟩),(a:X),(H:X),(b:X),(W:X),oe,(i:X),(H:X),(i:X),.slice qG l.length bZ,(l.length:X),((k+1:Nat):X)] dL (Z+1):=λai {dL} bx =>
    fin (by rw[abH V,if_neg ab,hM];exact x9.T λd L=>⟨bx d L.2.1,L.1,J,L.2.2⟩) (λd L _=>bx d L) J
   rcases dD with⟨aY,_⟩|⟨Jq,hy,fa,e,hrb⟩
   ·rw[aY]at V;cases V
   cases e;have ayg:=(hr6 Jq hy fa).trans hrb;simp(disch:=omega)only[bd,ayg,x1 (enc:=HD) (k:=2) (λ_=>rfl) V,HD,seval];have gH:∀{o aW:fM} {d:Nat},d<Z->u (F (F b9 Z o) Z aW) d=u b9 d:=λL=>ab
   unfold RE;refine⟨λh1=>?_,λh1=>?_⟩
   ·have db:IntKind.wrap .i64 ((g.t:Int)-(b:Int))=((g.t-b:Nat):Int):=by rw[show(g.t:Int)-(b:Int)=((g.t-b:Nat):Int) by omega];exact jI J J
    refine a9 @db ?_;refine⟨λal=>?_,λal=>?_⟩
    ·refine Lp  (k:=3) (pP:=λd=>bR<=d/\d<Z+1+1+1/\¬(d4<=d/\d<fI)) (λ_=>rfl) (λ_=>rfl) J (x9.T (pP:=λd=>bR<=d/\d<Z/\¬(d4<=d/\d<fI)) λd L=>⟨ab,L.1,L.2.1,L.2.2⟩) ⟨J,J,J⟩ (⟨i,g.t-b,g.w⟩:GE) (aN _ _ _) rfl ab λdG h7 sJ hf8=>?_;refine a9 (cn (J:k<1000000000000)) ?_;refine fin ?_ (λd aM bc=>?_) J
     ·rw[abH V,if_pos (show zz b W g=true from gz J),<-kB];exact sJ
     grind
    ·refine a9 (cn (J:k<1000000000000)) ?_;exact skip (f9 J) λd L=>gH L
   ·refine a9 (cn (J:k<1000000000000)) ?_;exact skip (f9 J) λd L=>gH L
  ·have:k=l.length:=J
   subst this;rw[ht]at x9;refine a9 (cn (J:i<1000000000000)) ?_;refine⟨H-(i+1),J,i+1,_,rfl,J,rfl,?_,hz,J⟩;rw[aln M.up,UC];unfold T6;rw[pz];exact x9.at_ λd L=>⟨L.1,L.2.1⟩
 ·have:i=H:=J
  subst this;have oY:dq bc d4 o bQ (ma af a i b W):=by
   rcases dW with⟨aY,aJ⟩|⟨d,h1,al,e,a5⟩
   ·exact⟨none,0,ab,λeg=>absurd aY eg⟩
   ·exact⟨_,_,e,λ_=>⟨d,some 3,false,[],al,rfl,ab⟩⟩
  refine(QE oY (Lo M hHr hWc)).mono ?_;rintro aAM bP fI ⟨dD,hi,mE⟩;obtain⟨Jq,rsp,ahH,bY,cC,b6,cR,d3,dM,rfl⟩:=dD.is.form;have gx:=(hi (U+1+1+1) J).trans gX;refine a9 @gx ?_;have ll:az U h bP:=hT.trans hi J;exact⟨dD.T (λd h1 al=>aq J) J (cB _),ll.set J,J⟩
theorem auz{n R:Nat}{v:X}{h:ad}{U:Nat}(M:hJ n n af)(aI:kI h U v n n af)(dD:0<R)(IS:R<=8)(d5:0<C)(Z:C<=8)(ai:i<R)(bM:j<C):
  aD Q s 123 [v,(R:X),(C:X),(i:X),(j:X)] h U (SU (c6 n R (i+1)-c6 n R i) (c6 n C (j+1)-c6 n C j) (ma af (c6 n R i) (c6 n R (i+1)-c6 n R i) (c6 n C j) (c6 n C (j+1)-c6 n C j)) U h):=by
 refine awr ?_;have L:=aI;obtain⟨fJ,aO,cap,v2,v3,rfl,aG,a5,qL,pO⟩:=id aI;obtain⟨a2,c2,rfl⟩:=qL.form;obtain⟨a3,cm,rfl⟩:=pO.form;have ba:=M.ba;have bF:∀{o aW},az U h (F (F h U o) (U+1) aW):=aC
 unfold ahD;refine aB ?_;refine(KB M (L.T bF J)).mono ?_;rintro _ h1 a6 ⟨rfl,V,fp⟩;have b7:=V U J;rw[aq J,aN]at b7;have br:=V (U+1) J;rw[aN]at br;refine aB ?_;refine(RK dD IS d5 Z ai bM).mono ?_;rintro _ _ _ ⟨rfl,rfl,rfl⟩;refine aB ?_;unfold SP;refine a9 @b7 ?_;refine(C5   ba dD IS J).mono ?_;rintro _ al bH ⟨rfl,dE,e9⟩;have kX:=(dE U J).trans b7;have fk:=(dE (U+1) J).trans br;refine⟨e9,?_⟩;refine cx @kX @b7 ?_;refine(C5   ba d5 Z J).mono ?_;rintro _ aM bR ⟨rfl,ek,hr⟩;have aF:=(ek U J).trans kX;have aY:=(ek (U+1) J).trans fk;refine⟨hr,?_⟩;have fg:az U h aM:=aC
 refine hw @aF @kX @b7 ?_;refine(arY  M (L.T fg J) (vv J) (ua dD _) (vv J) (ua d5 _)).mono ?_;rintro aAM bc d4 ⟨hRr,gd,iC⟩;refine⟨iC,?_⟩;obtain⟨Jq,rsp,ahH,bY,cC,b6,cR,d3,dM,rfl⟩:=hRr.is.form;have fv:=(gd (U+1) J).trans aY;refine a9 @fv ?_;exact⟨hRr.T ab J J,aC,J⟩
def ayh(p r:Nat)(af:aa GE)(ao:Nat)(ap:ad)(m:Nat)(aE:aa X)(ac:ad)(Y:Nat):Prop :=
 ∃(i:Nat) (o:X),m=r-i/\i<=r/\aE=[bb p,o,(r:X),(i:X)]/\dX ac o bQ 3 (af.take (dA af i)) ao Y/\az ao ap ac/\ao<=Y
def ayi(p r i n:Nat)(cY fJ:X)(af:aa GE)(ao:Nat)(ap:ad)(m:Nat)(aE:aa X)(ac:ad)(Y:Nat):Prop :=
 ∃(k:Nat) (o:X),m=n-k/\k<=n/\aE=[bb p,o,(i:X),fJ,(r:X),(i:X),cY,(n:X),(k:X)]/\dX ac o bQ 3 (af.take (dA af i+k)) ao Y/\az ao ap ac/\ao<=Y
def awy(af:aa GE)(U:Nat)(h:ad):bD:=λres ac Y=>dX ac res bQ 3 af U Y/\az U h ac/\U<=Y
theorem Yp{c:Nat}{v:X}{h:ad}{U:Nat}(M:hJ r c af)(aI:kI h U v r c af):aD Q s 206 [v] h U (awy af U h):=by
 refine ajG ?_;have kR:=aI;obtain⟨fJ,VP,mr,a2,m2,c2,a3,m3,cm,rfl⟩:=aI.form;have ba:=M.ba;have bg:=M.len;have bF:∀{o},az U h (F h U o):=aC
 unfold Z0;refine aB ?_;refine(GC M (kR.T bF J)).mono ?_;rintro _ h1 a6 ⟨rfl,eT,fp⟩;have br:=eT U J;rw[aN]at br;refine a9 @br ?_;refine bq.mk (ayh U r af a6 _) r ⟨0,_,J,J,rfl,by rw[L7,tV];exact .inl ab,az.refl _ _,J⟩ ?_;rintro _ _ aM bR ⟨i,o,rfl,ai,rfl,dW,ek,hr⟩;have c3:=ek U J;rw[aN]at c3;have fg:az U h aM:=aC
 rw[ai1];unfold Yo;refine aB ?_;refine⟨λci=>?_,λeh=>?_⟩
 ·have ci:i<r:=J
  refine a9 @c3 ?_;refine(abE M (kR.T fg (cB _)) J ci).mono ?_;rintro _ bc d4 ⟨db,kj,rfl,Cw,Cx,Z,iC⟩;obtain⟨jC,cC,rfl,_⟩:=id Cw;obtain⟨hZ,b6,rfl,_⟩:=id Cx;have tM:=Dv (eQ af i);have tP:=G4 (eQ af i);rw[tM]at Cw;rw[tP]at Cx;rw[tM,tP];have IP:=GB M.up i;have i0:=AM af (J:i<=i+1);have aAa:=vN af (i+1);refine aB ?_;refine bq.mk (ayi U r i (eQ af i).length (.slice jC (eQ af i).length cC) (.slice hZ (eQ af i).length b6) af a6 (F h1 U _)) (eQ af i).length ⟨0,_,J,J,rfl,dW.T (λd ih jC=>Z d jC) iC,ek.trans Z hr,J⟩ ?_;rintro _ _ bP fI ⟨k,o,rfl,hk,rfl,sl,V,mE⟩;rw[ai0];unfold Yn;refine aB ?_;refine⟨λEj=>?_,λayf=>?_⟩
  ·obtain⟨g,L⟩:=dk J;obtain⟨bO,dI,ky,xW,zQ,fa,rfl,jy,ayj⟩:=Cw.at (Lm L)
   obtain⟨d6,gL,kY,IQ,B7,oZ,rfl,tu,ayk⟩:=Cx.at (Ln L)
   have hgf:g.f=i:=(QD (jp L)).2;have lW:af[dA af i+k]? = some g:=by rw[<-QC M.up J];omega
   have aJ:u bP bO=some (.cells zQ xW):=by rw[<-jy,V bO J,Z bO J,ek bO J]
   have ce:u bP d6=some (.cells B7 IQ):=by rw[<-tu,V d6 J,Z d6 J,ek d6 J]
   simp(disch:=omega)only[bd,aJ,ayj k _ (Lm L),ce,ayk k _ (Ln L),seval];refine l7 (enc:=bQ)  (λ_=>rfl) (λ_=>rfl) J (sl.T ab J) J (⟨i,g.t,g.w⟩:GE) (aN _ _ _) rfl ab λdG b9 x9 hz=>?_;refine a9 (cn (J:k<1000000000000)) ?_;refine⟨(eQ af i).length-(k+1),J,k+1,_,rfl,J,rfl,?_,λd bu=>?_,J⟩
   ·rw[show dA af i+(k+1)=dA af i+k+1 by omega,gQ,lW];have rA:(⟨i,g.t,g.w⟩:GE)=g:=by rw[<-hgf]
    rw[rA]at x9;exact x9
   ·rw[hz d bu,aq J];exact V d bu
  ·have:k=(eQ af i).length:=J
   subst this;rw[IP,show dA af i+(dA af (i+1)-dA af i)=dA af (i+1) by omega]at sl;refine a9 (cn (J:i<1000000000000)) ?_;exact⟨r-(i+1),J,i+1,_,rfl,J,rfl,sl,V,mE⟩
 ·have:i=r:=J
  subst this;rw[agH M,ht]at dW;refine⟨?_,fg,J⟩;rcases dW with e|⟨b,h1,al,aM⟩
  ·exact .inl e
  ·exact .inr ⟨b,J,al,aM⟩
def A6(af fr:aa GE):Prop:=fr.Perm (af.map oG)
theorem alo{c:Nat}(M:hJ r c af):(af.map oG).Pairwise λx y=>¬(x.f=y.f/\x.t=y.t):=by rw[yJ];refine List.Pairwise.imp (λ{x y} h=>?_) M.up;unfold nq at h;show ¬(x.t=y.t/\x.f=y.f);omega
theorem arZ{c:Nat}{L:aa GE}(M:hJ r c af)(V:A6 af L)(ar:L.Pairwise λx y=>¬re y x<0):hJ c r L where
 up:=by have bu:L.Pairwise λx y=>¬(x.f=y.f/\x.t=y.t):=(List.Perm.pairwise_iff J V).2 (alo M);refine List.Pairwise.imp₂ (λ{x y} h1 al=>?_) ar bu;rw[Ll]at h1;unfold nq at h1 ⊢;omega
 rows:=λg Z=>by obtain⟨x,aR,rfl⟩:=fL.1 (V.mem_iff.1 Z);exact M.mF x aR
 mF:=λg Z=>by obtain⟨x,aR,rfl⟩:=fL.1 (V.mem_iff.1 Z);exact M.rows x aR
 ba:=M.aU
 aU:=M.ba
 len:=by rw[V.length_eq,g5];exact M.len
def ri(af:aa GE)(i:Nat):aa GE:=(af.take i).map oG++af.drop i
theorem abI:(ri af i).length=af.length:=by unfold ri;grind
theorem aom(h:i<=af.length):(ri af i)[i]? = af[i]?:=by
 unfold ri
 grind
theorem aon(h:af[i]? = some g):(ri af i).set i (oG g)=ri af (i+1):=by
 have ai:=(gE.1 h).1;have L:((af.take i).map oG).length=i:=ab
 unfold ri;rw[JW _ _ J,L,wL,gQ,h,hN,kB]
 congr 1
 rw[Am ai];rfl
def TuJ(cj cS ao ai:Nat)(w:X)(af:aa GE)(ap:ad)(aX:Nat)(m:Nat)(aE:aa X)(ac:ad)(Y:Nat):Prop :=
 ∃i,m=af.length-i/\i<=af.length/\aE=[bb cj,bb cS,w,w,(af.length:X),(i:X)]/\dX ac w bQ 3 (ri af i) ao ai/\az ao ap ac/\aX<=Y
theorem ar0{l:aa GE}{w:X}{h:ad}{U ao ai:Nat}(dW:dX h w bQ 3 l ao ai)(ft:ai<=U)(bg:l.length<=120):
  aD Q s 297 [w,.func (.func 298) #[] #[]] h U (λ_ ac Y=>∃L,L.Perm l/\L.Pairwise (λx y=>¬re y x<0)/\dX ac w bQ 3 L ao ai/\az ao h ac/\U<=Y):=by
 rcases dW with⟨rfl,rfl⟩|⟨b,h1,al,rfl,a5⟩
 ·exact anM ⟨[],CS _,List.Pairwise.nil,.inl ab,aC,J⟩
 ·refine(arl rfl J J a5).mono ?_;rintro _ ac Y ⟨V,⟨L,Z,ar,M⟩,bx⟩;exact⟨L,Z,ar,.inr ⟨b,h1,al,by rw[Z.length_eq],M⟩,aC,V⟩
def awz(r c:Nat)(af:aa GE)(U:Nat)(h:ad):bD:=λv ac Y=>∃fr,A6 af fr/\hJ c r fr/\xa ac U Y v c r fr/\az U h ac/\U<=Y
theorem aoo{c:Nat}{v:X}{h:ad}{U:Nat}(M:hJ r c af)(aI:kI h U v r c af):aD Q s 207 [v] h U (awz r c af U h):=by
 refine arL ?_;have kR:=aI;obtain⟨fJ,VP,mr,a2,m2,c2,a3,m3,cm,rfl⟩:=aI.form;have bg:=M.len;have bF:∀{o aW},az U h (F (F h U o) (U+1) aW):=aC
 unfold afq;refine aB ?_;refine(GC M (kR.T bF J)).mono ?_;rintro _ h1 a6 ⟨rfl,eT,fp⟩;have b7:=eT U J;rw[aq J,aN]at b7;have br:=eT (U+1) J;rw[aN]at br;refine a9 @b7 ?_;have ez:∀{o},az U h (F h1 U o):=aC
 refine(Yp M ((kR.T ez (cB _)).T (az.refl _ _) J)).mono ?_;rintro w al bH ⟨dW,dE,e9⟩;have kX:=dE U J;rw[aN]at kX;have fk:=dE (U+1) J;rw[aq J,br]at fk;obtain⟨od,o3,rfl⟩:=(k9.of dW).form;refine aB ?_;refine bq.mk (TuJ U (U+1) a6 bH (.slice od af.length o3) af al bH) af.length ⟨0,J,J,rfl,by exact dW,aC,J⟩ ?_;rintro _ _ aM bR ⟨i,rfl,ai,rfl,hS3,ek,hr⟩;rw[aoe];unfold abz;refine aB ?_;refine⟨λci=>?_,λeh=>?_⟩
 ·obtain⟨g,a5⟩:=dk J;have gA:(ri af i).length=af.length:=abI;have L:(ri af i)[i]? = some g:=by rw[aom ai,a5]
  rcases hS3 with⟨e,_⟩|⟨b,ih,jC,e,n4⟩
  ·rw[e]at L;cases L
  ·rw[gA]at e;cases e;have bN:∀V:ad,jg (some (.cells (a1 bQ (ri af i)) false)) V b (i*3) [(g.t:X),(g.f:X),(g.w:X)] = .ok (F V b (.cells (a1 bQ ((ri af i).set i (oG g))) false)):=λV=>Vq (x:=oG g) J;simp(disch:=omega)only[bd,n4,x1 (enc:=bQ) (k:=3) (λ_=>rfl) L,bQ,bN,cn (J:i<1000000000000),seval];refine⟨af.length-(i+1),J,i+1,rfl,J,rfl,.inr ⟨b,ih,jC,by rw[abI],?_⟩,λd bu=>?_,J⟩
   ·rw[aN,aon a5]
   ·rw[aq J,aq J,aq J];exact ek d bu
 ·have:i=af.length:=J
  subst this;have VQ:dX aM (.slice od af.length o3) bQ 3 (af.map oG) a6 bH:=by
   have e:ri af af.length=af.map oG:=by unfold ri;grind
   rw[<-e];exact hS3
  refine(ar0 VQ hr ab).mono ?_;rintro _ bP fI ⟨Z,V,ar,sl,hi,mE⟩;have u4:=arZ M V ar;have aF:u bP U=some (.cells [(r:X),(c:X),.slice (some ⟨fJ,0,VP⟩) (r+1) mr,.slice a2 m2 c2,.slice a3 m3 cm] false):=by rw[hi U J,ek U J];omega
  have aY:=(hi (U+1) J).trans ((ek (U+1) J).trans fk);refine a9 @aF ?_;have oY:dq bP fI (.slice od af.length o3) bQ Z:=by
   have sb:Z.length=af.length:=by rw[V.length_eq,g5]
   rcases sl with⟨ih,jC⟩|⟨d,ih,jC,hZ,u3⟩
   ·exact⟨od,o3,ab,λeg=>absurd ih eg⟩
   ·rw[sb]at hZ;cases hZ;exact⟨_,_,by rw[sb],λ_=>⟨d,some 3,false,[],J,rfl,ab⟩⟩
  refine(QE oY u4).mono ?_;rintro aAM b9 n6 ⟨dD,hz,j9⟩;obtain⟨Jq,rsp,ahH,bY,cC,b6,cR,d3,dM,rfl⟩:=dD.is.form;have fv:=(hz (U+1) J).trans aY;refine a9 @fv ?_;exact⟨Z,V,u4,dD.T ab J J,aC,J⟩
theorem ar1{r:Int}{K:Nat->ak}{f:Nat->av Int}(V:j<C)(M:K j=false):
  fo r ((List.range C).map λk=>if(if k=j then true else K k)=true then f k else none)=e3 r (fo r ((List.range C).map λk=>if K k=true then f k else none)) (f j):=by
 have L:((List.range C).map λk=>if(if k=j then true else K k)=true then f k else none)=(List.range C).map λk=>e3 r (if K k=true then f k else none) (if k=j then f k else none):=by
  refine qO λk _=>?_
  by_cases e:k=j
  ·subst e;rw[if_pos rfl,if_pos rfl,if_pos rfl,M];rfl
  ·rw[if_neg e,if_neg e,rO]
 rw[L,Qh]
 congr 1
 clear L
 induction C with
 |zero=>omega
 |succ C Z =>
  rw[pb,hN,Gu];show e3 r _ (e3 r (if C=j then f C else none) none)=_;rw[rO]
  by_cases e:C=j
  ·subst e;rw[if_pos rfl,yW,Gc]
   grind
  ·rw[if_neg e,rO];grind
def Mx(r:Int)(af:aa GE)(x:Nat->av Int)(a H b W v:Nat):av Int:=iU r (ma af a H b W) (λk=>x (b+k)) v
theorem ar2(r:Int)(af:aa GE)(x:Nat->av Int)(a H b W v:Nat)(L:v<H):
  Mx r af x a H b W v=fo r (af.map λg=>if b<=g.t/\g.t<b+W then(if g.f=a+v then(x g.t).map (gw r g.w)else none)else none):=by
 unfold Mx iU ma;rw[pW,Pm];refine KQ λg _=>?_;unfold qc
 grind
def Be(r:Int)(af:aa GE)(x:Nat->av Int)(a H C:Nat)(ao:Nat->Nat)(K:Nat->ak)(v:Nat):av Int :=
 fo r ((List.range C).map λj=>if K j=true then Mx r af x a H (ao j) (ao (j+1)-ao j) v else none)
theorem aop{r:Int}{x:Nat->av Int}{ao:Nat->Nat}(v:Nat):Be r af x a H C ao (λ_=>false) v=none :=
 yW λy L=>ab
theorem aoq{r:Int}{x:Nat->av Int}{ao:Nat->Nat}{K:Nat->ak}(L:j<C)(M:K j=false)(v:Nat):
  Be r af x a H C ao (λk=>if k=j then true else K k) v=e3 r (Be r af x a H C ao K v) (Mx r af x a H (ao j) (ao (j+1)-ao j) v):=ar1 L M
theorem alp{r:Int}{x:Nat->av Int}{n:Nat}{ao:Nat->Nat}{K:Nat->ak}(M:∀i j,i<=j->ao i<=ao j)(L:ao 0=0)(d5:ao C=n)(cy:∀g∈af,g.t<n)(Z:∀j,j<C->K j=true){v:Nat}(V:v<H):
  Be r af x a H C ao K v=iU r af x (a+v):=by
 have e:Be r af x a H C ao K v=fo r ((List.range C).map λj=>fo r (af.map λg=>if ao j<=g.t/\g.t<ao (j+1)then(if g.f=a+v then(x g.t).map (gw r g.w)else none)else none)):=by
  unfold Be
  congr 1
  refine qO λj bM=>?_;rw[Z j (CT.1 bM),if_pos rfl,ar2 _ _ _ _ _ _ _ _ V]
  grind
 rw[e,ZK r _ (λg:GE=>g.t) ao M L];unfold iU;refine KQ λg a5=>?_
 grind
def ud(A:aa Nat)(g:GE):aa Nat:=if A.getLast? = some g.f then A else A++[g.f]
def dY(af:aa GE):aa Nat:=af.foldl ud []
theorem Dw{aA:Type}{C:aa aA->Prop}(M:C [])(L:∀p g,C p->C (p++[g]))(p:aa aA):C p:=by
 rw[<-List.reverse_reverse p]
 induction p.reverse with
 |nil=>exact M
 |cons x l V=>rw[List.reverse_cons];exact L _ _ V
theorem wX(p:aa GE)(g:GE):dY (p++[g])=ud (dY p) g:=by unfold dY;grind
theorem abJ:∀(p:aa GE),(dY p).getLast? = p.getLast?.map GE.f:=by
 refine Dw rfl λp g L=>?_
 ·skip
  rw[wX,List.getLast?_append];unfold ud
  grind
theorem G5:∀(p:aa GE) (a:Nat),a∈dY p->∃g∈p,g.f=a:=by
 refine Dw (λa h=>by cases h) λp g L=>?_
 ·skip
  intro a h;rw[wX]at h;unfold ud at h
  grind
theorem G6:∀(p:aa GE),(dY p).length<=p.length:=by
 refine Dw (cB _) λp g L=>?_
 ·skip
  rw[wX,jb];unfold ud
  grind
def hA(af:aa GE):aa Int:=(dY af).map (λa=>(dA af a:Int))++[(af.length:Int)]
def g8(af:aa GE):aa Int:=(dY af).map λa:Nat=>(a:Int)
theorem y9(af:aa GE):(hA af).length=(dY af).length+1:=by unfold hA;grind
theorem G7(af:aa GE):(g8 af).length=(dY af).length:=by unfold g8;grind
theorem AW(h:lk (p++[g])):∀x∈p,nq x g:=λx L=>(rI.1 h).2.2 x L g ab
theorem abK(h:a<=g.f):dA (p++[g]) a=dA p a:=by
 unfold dA
 grind
theorem afw(h:lk (p++[g])):(dY p).map (λa=>(dA (p++[g]) a:Int))=(dY p).map λa=>(dA p a:Int):=by apply qO;intro a L;obtain⟨x,M,rfl⟩:=G5 p a L;have:=AW h x M;unfold nq at this;rw[abK J]
theorem aor(h:lk (p++[g]))(M:(dY p).getLast? = some g.f):(hA p).set (dY p).length ((p.length:Int)+1)=hA (p++[g]):=by
 have L:dY (p++[g])=dY p:=by rw[wX];unfold ud;grind
 unfold hA;rw[L,afw h,JW _ _ ab,g5,wL,jb];simp
theorem ar3(h:lk (p++[g]))(bk:(dY p).getLast?≠some g.f):(hA p++[0]).set ((dY p).length+1) ((p.length:Int)+1)=hA (p++[g]):=by
 have dg:dY (p++[g])=dY p++[g.f]:=by rw[wX];unfold ud;grind
 have M:dA (p++[g]) g.f=p.length:=by
  rw[abK J];unfold dA;rw[Aq.2];intro x L;apply gz;have ci:=AW h x L;apply vg;intro bm;rw[abJ]at bk;cases V:p.getLast? with
  |none=>grind
  |some y =>
   rw[V]at bk;have ca:y∈p:=ab
   have al:=AW h y ca;unfold nq at al;have hyf:¬y.f=g.f:=ab
   obtain⟨q,cz⟩:=JU.1 V;have Z:=(rI.1 h).1;rw[cz]at Z L;rcases g6.1 L with L|L
   ·have:=AW Z x L;unfold nq at this;omega
   grind
 unfold hA;rw[dg,hN,afw h,JW _ _ ab];rw[jb,g5,jb];simp[M]
theorem aos{h:ad}{U:Nat}:aD Q s 205 [] h U (λv ac Y=>v = .agg ⟨[.int .i64 0,.int .i64 0,.slice none 0 0,.slice (some ⟨U+1,0,none⟩) 1 1,.slice none 0 0,.slice none 0 0]⟩/\u ac (U+1)=some (.cells (fx [0]) false)/\az U h ac/\Y=U+1+1):=by refine bS ?_;refine aB ?_;exact⟨rfl,aC⟩
structure zT (h:ad) (Z:Nat->Prop) (p:Nat) (x y:Int) (dQ dC j3 lG:aa Int) (v1 v2 v3 v4:X) (de d6 fQ:av Nat) (bO:Nat):Prop where
 g:u h p=some (.cells [(x:X),(y:X),v1,v2,v3,v4] false)
 dh:hs h cG v1 dQ de
 g2:u h bO=some (.cells (fx dC) false)
 aJ:∃aO,v2 = .slice (some ⟨bO,0,aO⟩) dC.length dC.length/\(aO=none\/aO=some 1)
 kj:hs h cG v3 j3 d6
 mj:hs h cG v4 lG fQ
 jT:∀d,de=some d->Z d
 z2:Z bO
 z3:∀d,d6=some d->Z d
 z4:∀d,fQ=some d->Z d
 d12:de≠some bO
 d23:d6≠some bO
 d24:fQ≠some bO
 d13:∀d,de=some d->d6≠some d
 d14:∀d,de=some d->fQ≠some d
 d34:∀d,d6=some d->fQ≠some d
theorem fb.two{h:ad}{l:aa Int}(M:u h b=some (.cells (fx l) false))(L:aO=none\/aO=some 1):fb h cG 1 (.slice (some ⟨b,0,aO⟩) l.length l.length) l (some b):=by
 rcases L with rfl|rfl
 ·refine .part M (by rw[AK];omega) ?_;rw[nO,pT (by rw[AK];omega),h2]
 ·exact .own (by rw[h2];omega)
def kM(U ai au t1 d:Nat):Prop:=U+3<=d/\d≠U+4/\d<ai/\¬(au<=d/\d<t1)
theorem aot{U ai au t1 q k:Nat}{x:Int}{h:ad}(D:zT h (kM U ai au t1) (U+4) x y dQ dC j3 lG v1 v2 v3 v4 de d6 fQ bO)(cz:u h q=some (.cells [(g.f:X),(g.t:X),(g.w:X)] false))(hq3:d6≠some q)(hqp:q≠U+4)(hqh:q<ai)(cy:t1<=ai)(aR:U+4<ai)(bg:dQ.length<dC.length)(hl3:j3.length<=1000)(hl4:lG.length<=1000)(hk:k<=1000) (cU:∀ac da v3' v4' b3' b4',ai<=da->zT ac (kM U da au t1) (U+4) x y dQ (dC.set dQ.length ((j3.length+1:Nat):Int)) (j3++[(g.t:Int)]) (lG++[g.w]) v1 v2 v3' v4' de b3' b4' bO->(∀d,d<ai->d≠U+4->¬kM U ai au t1 d->u ac d=u h d) ->
   N [a2,.pointer (some ⟨U+4,0,none⟩),i2,h5,((k+1:Nat):X)] ac da):
  DJ s N E R a2 (.pointer (some ⟨U+4,0,none⟩)) (bb q) i2 h5 (k:X) h ai:=by
 obtain⟨a3,cm,rfl⟩:=D.kj.form;obtain⟨aV,h8,rfl⟩:=D.mj.form;obtain⟨ax,c1,rfl⟩:=D.dh.form;obtain⟨aO,rfl,rl⟩:=D.aJ;have kh:=D.g;unfold DJ;refine cx @kh @cz ?_;refine rX (D.kj.ho.T λd M=>by have:=(D.z3 d M).2.2.1;grind) (aN _ _ _) J λh1 ru EF=>?_;have fk:∀d,d<ai->d6≠some d->u h1 d=u h d:=ab
 have Of:∀{b:av Nat},(∀d,b=some d->kM U ai au t1 d)->b≠some (U+4):=λL e=>absurd rfl (L _ e).2.1;have VR:=(fk (U+4) aR (Of D.z3)).trans kh;have gq1:=(fk q hqh hq3).trans cz;refine cx @VR @gq1 ?_;refine rX ((D.mj.ho.T  λd M=>by have L:=D.z4 d M;rw[aq (by have:=L.2.2.1;omega),aq L.2.1];exact fk d L.2.2.1 λe=>D.d34 d e M)) (aN _ _ _) J λal E5 sf=>?_
 have gH:∀d,d<ai+1+1->d≠U+4->fQ≠some d->u al d=u h1 d:=ab
 have x4:u al (U+4)=some (.cells [(x:X),(y:X),.slice ax dQ.length c1,.slice (some ⟨bO,0,aO⟩) dC.length dC.length,.slice (some ⟨ai+1,0,some 1⟩) (j3.length+1) (j3.length+1),.slice aV lG.length h8] false):=by rw[sf _ J (Of D.z4),aq J,aN]
 have gs2:u al bO=some (.cells (fx dC) false):=by have L:=D.z2;rw[gH bO (by have:=L.2.2.1;omega) L.2.1 D.d24,fk bO L.2.2.1 D.d23];exact D.g2
 have gn2:u al (ai+1)=some (.cells (fx (j3++[(g.t:Int)])) false):=by rw[gH (ai+1) J J (λe=>by have:=(D.z4 _ e).2.2.1;omega)];omega
 have V:=D.z2;have tv:bO≠U+4:=V.2.1;have Nd:bO<ai:=V.2.2.1;refine hw @x4 @gs2 (cn (J:k<1000000000000)) ?_;refine⟨bg,cU _ _ (.slice (some ⟨ai+1,0,some 1⟩) (j3.length+1) (j3.length+1)) (.slice (some ⟨ai+1+1+1,0,some 1⟩) (lG.length+1) (lG.length+1)) (some (ai+1)) (some (ai+1+1+1)) (by omega) ?_ λd aM bc bP=>?_⟩
 ·have wC:∀d,kM U ai au t1 d->kM U (ai+1+1+1+1) au t1 d:=λd L=>⟨L.1,L.2.1,by have:=L.2.2.1;omega,L.2.2.2⟩
  exact{
   g:=ab
   dh:=D.dh.T λd M=>by have L:=D.jT d M;have:=L.2.2.1;have Z:d≠bO:=λe=>D.d12 ab;rw[aq Z,aq L.2.1,gH d J L.2.1 (D.d14 d M),fk d J (D.d13 d M)]
   g2:=ab
   aJ:=⟨aO,ab,rl⟩
   kj:=.inr ⟨ai+1,rfl,ab,by rw[aq J,aq J,h2];omega⟩
   mj:=.inr ⟨ai+1+1+1,rfl,ab,by rw[aq J,aq J,h2];omega⟩
   jT:=λd M=>wC d (D.jT d M)
   z2:=wC _ V
   z3:=λd M=>by cases M;exact⟨J,J,J,J⟩
   z4:=λd M=>by cases M;exact⟨J,J,J,J⟩
   d12:=D.d12
   d23:=ab
   d24:=ab
   d13:=λd M e=>by cases e;have:=(D.jT _ M).2.2.1;omega
   d14:=λd M e=>by cases e;have:=(D.jT _ M).2.2.1;omega
   d34:=ab }
 ·have Z:d≠bO:=ab
  rw[aq Z,aq bc,gH d J bc (λe=>bP (D.z4 d e)),fk d aM (λe=>bP (D.z3 d e))]
theorem aou{U ai au t1 q k:Nat}{x:Int}{h:ad}(D:zT h (kM U ai au t1) (U+4) x y dQ dC j3 lG v1 v2 v3 v4 de d6 fQ bO)(cz:u h q=some (.cells [(g.f:X),(g.t:X),(g.w:X)] false))(hq1:de≠some q)(hq2:bO≠q)(hqp:q≠U+4)(hqh:q<ai)(cy:t1<=ai)(aR:U+4<ai)(pz:dQ.length<=1000)(uC:dC.length<=1001) (cU:∀ac da Z v2' b1' VS,ai<=da->zT ac (kM U da au t1) (U+4) x y (dQ++[(g.f:Int)]) (dC++[0]) j3 lG Z v2' v3 v4 b1' d6 fQ VS->u ac q=some (.cells [(g.f:X),(g.t:X),(g.w:X)] false)->(∀d,d<ai->d≠U+4->¬kM U ai au t1 d->u ac d=u h d) ->
   DJ s N E R a2 (.pointer (some ⟨U+4,0,none⟩)) (bb q) i2 h5 (k:X) ac da):
  A5 s N E R a2 (.pointer (some ⟨U+4,0,none⟩)) (bb q) i2 h5 (k:X) (.bool true) h ai:=by
 obtain⟨a3,cm,rfl⟩:=D.kj.form;obtain⟨aV,h8,rfl⟩:=D.mj.form;obtain⟨ax,c1,rfl⟩:=D.dh.form;obtain⟨aO,rfl,rl⟩:=D.aJ;have kh:=D.g;unfold A5;refine cx @kh @cz ?_;refine rX (D.dh.ho.T λd L=>by have:=(D.jT d L).2.2.1;grind) (aN _ _ _) J λh1 ru EF=>?_;have fk:∀d,d<ai->de≠some d->u h1 d=u h d:=ab
 have Of:∀{b:av Nat},(∀d,b=some d->kM U ai au t1 d)->b≠some (U+4):=λM e=>absurd rfl (M _ e).2.1;have VR:=(fk (U+4) aR (Of D.jT)).trans kh;have tv:bO≠U+4:=D.z2.2.1;have Nd:bO<ai:=D.z2.2.2.1;refine a9 @VR ?_;have gr2:∀{o aW:fM},fb (F (F h1 (U+4) o) (ai+1+1) aW) cG 1 (.slice (some ⟨bO,0,aO⟩) dC.length dC.length) dC (some bO):=λ{o aW}=>fb.two (by rw[aq J,aq tv,fk bO Nd D.d12];exact D.g2) rl;refine rX gr2 (aN _ _ _) J λal E5 sf=>?_;have gH:∀d,d<ai+1+1->d≠U+4->d≠bO->u al d=u h1 d:=ab
 have x4:u al (U+4)=some (.cells [(x:X),(y:X),.slice (some ⟨ai+1,0,some 1⟩) (dQ.length+1) (dQ.length+1),.slice (some ⟨bO,0,aO⟩) dC.length dC.length,.slice a3 j3.length cm,.slice aV lG.length h8] false):=ab
 refine a9 @x4 ?_;have wC:∀d,kM U ai au t1 d->kM U (ai+1+1+1+1) au t1 d:=λd M=>⟨M.1,M.2.1,by have:=M.2.2.1;omega,M.2.2.2⟩
 have V:∀d,kM U ai au t1 d->de≠some d->d≠bO->∀{o:fM},u (F al (U+4) o) d=u h d:=λd M zO EB {o}=>by
  have:=M.2.2.1
  grind
 refine cU _ _ (.slice (some ⟨ai+1,0,some 1⟩) (dQ.length+1) (dQ.length+1)) (.slice (some ⟨ai+1+1+1,0,some 1⟩) (dC.length+1) (dC.length+1)) (some (ai+1)) (ai+1+1+1) (by omega) ?_ ?_ λd aM bc bP=>?_
 ·exact{
   g:=ab
   dh:=.inr ⟨ai+1,rfl,ab,by rw[aq J,gH (ai+1) J J J,h2];omega⟩
   g2:=ab
   aJ:=⟨some 1,ab,ab⟩
   kj:=D.kj.T λd L=>V d (D.z3 d L) (λe=>D.d13 d e L) (λe=>D.d23 ab)
   mj:=D.mj.T λd L=>V d (D.z4 d L) (λe=>D.d14 d e L) (λe=>D.d24 ab)
   jT:=λd L=>by cases L;exact⟨J,J,J,J⟩
   z2:=⟨J,J,J,J⟩
   z3:=λd L=>wC d (D.z3 d L)
   z4:=λd L=>wC d (D.z4 d L)
   d12:=ab
   d23:=λe=>by have:=(D.z3 _ e).2.2.1;omega
   d24:=λe=>by have:=(D.z4 _ e).2.2.1;omega
   d13:=λd L e=>by cases L;have:=(D.z3 _ e).2.2.1;omega
   d14:=λd L e=>by cases L;have:=(D.z4 _ e).2.2.1;omega
   d34:=D.d34 }
 ·grind
 ·rw[aq bc,gH d J bc (λe=>bP (by rw[e];exact D.z2)),fk d aM (λe=>bP (D.jT d e))]
def zi(h:ad)(ao ai:Nat)(v:X)(r c:Nat)(af:aa GE):Prop :=
 ∃v1 v2 v3 v4,v = .agg ⟨[(r:X),(c:X),v1,v2,v3,v4]⟩/\oN h ao ai v1 (g8 af)/\(∃b aO,v2 = .slice (some ⟨b,0,aO⟩) (hA af).length (hA af).length/\ao<=b/\b<ai/\u h b=some (.cells (fx (hA af)) false))/\oN h ao ai v3 (fz af)/\oN h ao ai v4 (gV af)
def Nr(U au t1:Nat)(x y:Int)(w:X)(af:aa GE)(ap:ad)(m:Nat)(aE:aa X)(ac:ad)(ai:Nat):Prop :=
 ∃(k:Nat) (v1 v2 v3 v4:X) (de d6 fQ:av Nat) (bO:Nat),m=af.length-k/\k<=af.length/\aE=[.pointer (some ⟨U+1,0,none⟩),.pointer (some ⟨U+4,0,none⟩),w,(af.length:X),(k:X)] /\
  zT ac (kM U ai au t1) (U+4) x y (g8 (af.take k)) (hA (af.take k)) (fz (af.take k)) (gV (af.take k)) v1 v2 v3 v4 de d6 fQ bO/\(∀d,d<t1->d≠U+4->¬kM U t1 au t1 d->u ac d=u ap d)/\t1<=ai
theorem aov{x:Int}{n:Nat}(M:(g8 p).length=n+1)(L:(g8 p)[n]? = some x):∃a:Nat,(dY p).getLast? = some a/\x=(a:Int):=by
 unfold g8 at L M
 grind
theorem auA{c:Nat}{v:X}{h:ad}{U:Nat}(M:hJ r c af)(aI:kI h U v r c af):
  aD Q s 124 [v] h U (λdG ac Y=>∃L,A6 af L/\hJ c r L/\zi ac U Y dG r c L/\az U h ac/\U<=Y):=by
 refine aws ?_;have kR:=aI;obtain⟨fJ,VP,mr,a2,m2,c2,a3,m3,cm,rfl⟩:=aI.form;have ba:=M.ba;have aU:=M.aU;have bg:=M.len;unfold ahE;refine aB ?_;have bF:∀{o aW},az U h (F (F h U o) (U+1) aW):=aC
 refine aos.mono ?_;rintro _ h1 _ ⟨rfl,gs1,eT,rfl⟩;have b7:=eT U J;rw[aq J,aN]at b7;have br:=eT (U+1) J;rw[aN]at br;have cD:az U h h1:=aC
 refine a9 @b7 ?_;have ez:∀{o aW},az U h (F (F h1 (U+1+1+1+1) o) (U+1+1+1+1) aW):=aC
 refine(KB M ((kR.T ez (cB _)).T (az.refl _ _) J)).mono ?_;rintro _ al bH ⟨rfl,dE,e9⟩;have kX:=dE U J;rw[aq J,aq J,b7]at kX;have fk:=dE (U+1) J;rw[aq J,aq J,br]at fk;have ds:=dE (U+1+1+1) J;rw[aq J,aq J,gs1]at ds;have Jh:=dE (U+1+1+1+1) J;rw[aN]at Jh;have fg:az U h al:=aC
 refine cx @kX @Jh ?_;have hT:∀{o aW},az U h (F (F al (U+1+1+1+1) o) (U+1+1+1+1) aW):=aC
 refine(aoo M ((kR.T hT (cB _)).T (az.refl _ _) J)).mono ?_;rintro v3 aM bR ⟨L,eH,u4,dD,ek,hr⟩;refine(Yp u4 dD.is).mono ?_;rintro w bc Z ⟨dW,gd,iC⟩;have My:az bH _ bc:=ek.trans gd hr;have aF:=My U J;rw[aq J,aq J,kX]at aF;have aY:=My (U+1) J;rw[aq J,aq J,fk]at aY;have es:=My (U+1+1+1) J;rw[aq J,aq J,ds]at es;have om:=My (U+1+1+1+1) J;rw[aN]at om;have ll:az U h bc:=aC
 have BN:=u4.len;obtain⟨od,o3,rfl⟩:=(k9.of dW).form;refine aB ?_;have aBW:zT bc (kM U Z bR Z) (U+4) (r:Int) (c:Int) (g8 (L.take 0)) (hA (L.take 0)) (fz (L.take 0)) (gV (L.take 0)) (.slice none 0 0) (.slice (some ⟨U+1+1+1,0,none⟩) 1 1) (.slice none 0 0) (.slice none 0 0) none none none (U+1+1+1):={
  g:=om
  dh:=.inl ⟨rfl,rfl,rfl⟩
  g2:=es
  aJ:=⟨none,rfl,ab⟩
  kj:=.inl ⟨rfl,rfl,rfl⟩
  mj:=.inl ⟨rfl,rfl,rfl⟩
  jT:=λd e=>by cases e
  z2:=⟨J,J,J,J⟩
  z3:=λd e=>by cases e
  z4:=λd e=>by cases e
  d12:=ab
  d23:=ab
  d24:=ab
  d13:=ab
  d14:=λd e=>by cases e
  d34:=λd e=>by cases e }
 refine bq.mk (Nr U bR Z (r:Int) (c:Int) (.slice od L.length o3) L bc) L.length ⟨0,_,_,_,_,_,_,_,_,J,J,rfl,aBW,λd _ _ _=>rfl,cB _⟩ ?_;rintro _ _ bP ai ⟨k,v1,v2,v3,v4,de,d6,fQ,bO,rfl,hk,rfl,D,uM,mE⟩;rw[aus];unfold afo;refine aB ?_;refine⟨λci=>?_,λeh=>?_⟩
 ·obtain⟨g,a5⟩:=dk (J:k<L.length);rcases dW with⟨e,_⟩|⟨u9,ih,jC,e,n4⟩
  ·rw[e]at a5;cases a5
  cases e;have wj:u bP u9=some (.cells (a1 bQ L) false):=(uM u9 jC J (λz=>z.2.2.2 ⟨ih,jC⟩)).trans n4;obtain⟨ax,c1,rfl⟩:=D.dh.form;have kh:=D.g;have gp4:∀{o aW},u (F (F bP ai o) ai aW) (U+4)=some (.cells [(r:X),(c:X),.slice ax (g8 (L.take k)).length c1,v2,v3,v4] false):=λ{o aW}=>ab
  simp(disch:=omega)only[bd,wj,x1 (enc:=bQ) (k:=3) (λ_=>rfl) a5,bQ,kh,seval];have tr:k<L.length:=J
  have qo:(L.take k).length=k:=ab
  have pB:L.take (k+1)=L.take k++[g]:=by rw[gQ,a5];rfl
  have hup:lk (L.take k++[g]):=by rw[<-pB];exact List.Pairwise.sublist (List.take_sublist _ _) u4.up
  have Nf:=G6 (L.take k);have a4:=G7 (L.take k);have aC2:=y9 (L.take k);have aAN:=Dv (L.take k);have aBX:=G4 (L.take k);have tM:fz (L.take k)++[(g.t:Int)]=fz (L.take (k+1)):=by rw[pB];unfold fz;grind
  have tP:gV (L.take k)++[g.w]=gV (L.take (k+1)):=by rw[pB];unfold gV;grind
  have fin:∀{b9:ad} {IT:Nat} {dC:aa Int} {v1 v2 v3 v4:X} {de d6 fQ:av Nat} {bO:Nat} {E R:aH},zT b9 (kM U IT bR Z) (U+4) (r:Int) (c:Int) (g8 (L.take (k+1))) dC (fz (L.take k)) (gV (L.take k)) v1 v2 v3 v4 de d6 fQ bO ->
    dC.set (g8 (L.take (k+1))).length (((L.take k).length:Int)+1)=hA (L.take (k+1))->(g8 (L.take (k+1))).length<dC.length->u b9 ai=some (.cells [(g.f:X),(g.t:X),(g.w:X)] false)->d6≠some ai->ai+1<=IT->(∀d,d<Z->d≠U+4->¬kM U Z bR Z d->u b9 d=u bc d) ->
    DJ s (λaE ac Y=>∃bG,bG<L.length-k/\Nr U bR Z (r:Int) (c:Int) (.slice (some ⟨u9,0,some 3⟩) L.length L.length) L bc bG aE ac Y) E R (.pointer (some ⟨U+1,0,none⟩)) (.pointer (some ⟨U+4,0,none⟩)) (bb ai) (.slice (some ⟨u9,0,some 3⟩) L.length L.length) (L.length:X) (k:X) b9 IT:=by intro b9 IT dC v1 v2 v3 v4 de d6 fQ bO E R Og F T8 VT oZ j9 x3;refine aot Og VT oZ J J J J T8 J J J λdL hi7 v3' v4' b3' b4' tl aAO wq=>?_;rw[tM,tP,aAN,show(((L.take k).length+1:Nat):Int)=((L.take k).length:Int)+1 by omega,F]at aAO;exact⟨L.length-(k+1),J,k+1,_,_,_,_,_,_,_,_,rfl,J,rfl,aAO,λd bY cC b6=>by rw[wq d J cC (λz=>b6 ⟨z.1,z.2.1,bY,z.2.2.2⟩)];grind,J⟩
  have Ft:∀{o aW:fM},zT (F (F bP ai o) ai aW) (kM U (ai+1) bR Z) (U+4) (r:Int) (c:Int) (g8 (L.take k)) (hA (L.take k)) (fz (L.take k)) (gV (L.take k)) (.slice ax (g8 (L.take k)).length c1) v2 v3 v4 de d6 fQ bO:=λ{o aW}=>by
   have gF:∀d,kM U ai bR Z d->u (F (F bP ai o) ai aW) d=u bP d:=λd cX=>by have:=cX.2.2.1;grind
   have wC:∀d,kM U ai bR Z d->kM U (ai+1) bR Z d:=λd cX=>⟨cX.1,cX.2.1,by have:=cX.2.2.1;omega,cX.2.2.2⟩
   exact⟨ab,D.dh.T λd V=>gF d (D.jT d V),(gF bO D.z2).trans D.g2,D.aJ,D.kj.T λd V=>gF d (D.z3 d V),D.mj.T λd V=>gF d (D.z4 d V),λd V=>wC d (D.jT d V),wC bO D.z2,λd V=>wC d (D.z3 d V),λd V=>wC d (D.z4 d V),D.d12,D.d23,D.d24,D.d13,D.d14,D.d34⟩
  have fr2:∀{o aW:fM} (d:Nat),d<Z->d≠U+4->¬kM U Z bR Z d->u (F (F bP ai o) ai aW) d=u bc d:=λd bY cC b6=>ab
  have cW:∀{b:av Nat},(∀d,b=some d->kM U ai bR Z d)->b≠some ai:=λcX e=>by have:=(cX _ e).2.2.1;omega
  have fa:=D.z2.2.2.1;have new:(dY (L.take k)).getLast?≠some g.f->∀{E R:aH},A5 s (λaE ac Y=>∃bG,bG<L.length-k/\Nr U bR Z (r:Int) (c:Int) (.slice (some ⟨u9,0,some 3⟩) L.length L.length) L bc bG aE ac Y) E R (.pointer (some ⟨U+1,0,none⟩)) (.pointer (some ⟨U+4,0,none⟩)) (bb ai) (.slice (some ⟨u9,0,some 3⟩) L.length L.length) (L.length:X) (k:X) (.bool true)
    (F (F bP ai (.cells [.int .i64 0,.int .i64 0,.int .i64 0] false)) ai (.cells [(g.f:X),(g.t:X),(g.w:X)] false)) (ai+1):=λeg {E R}=>by
   have hY:dY (L.take (k+1))=dY (L.take k)++[g.f]:=by rw[pB,wX];unfold ud;grind
   have Ns:g8 (L.take k)++[(g.f:Int)]=g8 (L.take (k+1)):=by unfold g8;grind
   refine aou Ft (aN _ _ _) (cW D.jT) J J J J J J J λb9 IT v1' v2' b1' VS j9 Og VT x3=>?_;rw[Ns]at Og;refine fin Og ?_ ?_ VT (cW D.z3) J λd bY cC b6=>by rw[x3 d J cC (λz=>b6 ⟨z.1,z.2.1,bY,z.2.2.2⟩)];grind
   ·rw[G7,hY,jb,pB];exact ar3 hup eg
   grind
  have same:(dY (L.take k)).getLast? = some g.f->∀{E R:aH},A5 s (λaE ac Y=>∃bG,bG<L.length-k/\Nr U bR Z (r:Int) (c:Int) (.slice (some ⟨u9,0,some 3⟩) L.length L.length) L bc bG aE ac Y) E R (.pointer (some ⟨U+1,0,none⟩)) (.pointer (some ⟨U+4,0,none⟩)) (bb ai) (.slice (some ⟨u9,0,some 3⟩) L.length L.length) (L.length:X) (k:X) (.bool false)
    (F (F bP ai (.cells [.int .i64 0,.int .i64 0,.int .i64 0] false)) ai (.cells [(g.f:X),(g.t:X),(g.w:X)] false)) (ai+1):=λbk {E R}=>by
   have hY:dY (L.take (k+1))=dY (L.take k):=by rw[pB,wX];unfold ud;grind
   have Ns:g8 (L.take (k+1))=g8 (L.take k):=by unfold g8;rw[hY]
   unfold A5;refine aB ?_;refine fin (by rw[Ns];exact Ft) ?_ ?_ (aN _ _ _) (cW D.z3) (cB _) fr2
   ·rw[Ns,G7,pB];exact aor hup bk
   grind
  refine⟨λap=>?_,λap=>?_⟩
  ·have ap:(g8 (L.take k)).length=0:=ab
   rw[a4]at ap;exact new ab
  ·have ap:(g8 (L.take k)).length≠0:=ab
   obtain⟨n,bm⟩:∃n,(g8 (L.take k)).length=n+1:=⟨(g8 (L.take k)).length-1,J⟩
   obtain⟨x,aR⟩:=dk (l:=g8 (L.take k)) (i:=n) J;obtain⟨a,dg,rfl⟩:=aov bm aR;have dh:IntKind.wrap .i64 (((g8 (L.take k)).length:Int)-1)=(n:Int):=by rw[bm,show(((n+1:Nat):Int))-1=(n:Int) by omega];exact jI J J
   rcases D.dh with⟨aY,_⟩|⟨fv,aY,aJ,br⟩
   ·rw[aY]at ap;exact absurd rfl ap
   ·cases aJ;have cX:=(D.jT fv aY).2.2.1;rw[h2]at br;simp(disch:=omega)only[bd,dh,br,iz aR,seval]
    by_cases xO:a=g.f
    ·subst xO;rw[nN];exact same dg
    ·rw[show(((a:Int)) == (g.f:Int))=false from sR.2 J];exact new ab
 ·have:k=L.length:=J
  subst this;have kh:=D.g;have c4:u bP (U+1)=u bc (U+1):=uM (U+1) J J (λz=>by have:=z.1;omega);rw[ht]at D;obtain⟨ax,c1,rfl⟩:=D.dh.form;obtain⟨aV,h8,rfl⟩:=D.kj.form;obtain⟨bl,qJ,rfl⟩:=D.mj.form;obtain⟨aO,rfl,rl⟩:=D.aJ;refine hw @kh @c4 @aY ?_;have aC:∀d,kM U ai bR Z d->∀{o:fM},u (F bP (U+1) o) d=u bP d:=λd cX {o}=>aq (by have:=cX.1;omega);refine⟨L,eH,u4,⟨_,_,_,_,rfl,⟨de,D.dh.T λd V=>aC d (D.jT d V),λd V=>⟨by have:=(D.jT d V).1;omega,(D.jT d V).2.2.1⟩⟩,⟨bO,aO,rfl,by have:=D.z2.1;omega,D.z2.2.2.1,(aC bO D.z2).trans D.g2⟩,⟨d6,D.kj.T λd V=>aC d (D.z3 d V),λd V=>⟨by have:=(D.z3 d V).1;omega,(D.z3 d V).2.2.1⟩⟩,⟨fQ,D.mj.T λd V=>aC d (D.z4 d V),λd V=>⟨by have:=(D.z4 d V).1;omega,(D.z4 d V).2.2.1⟩⟩⟩,λd V=>?_,J⟩;rw[aq J,uM d J J (λz=>by have:=z.1;omega)];exact ll d V
section
variable {I:Nat->ad->Nat->Prop} {D:ad->Nat->Prop} {q:Nat->ak}
theorem adN{k h U}(L:∀k h U,q k=false->I k h U->I (k+1) h U):∀(d:Nat),(∀i,k<=i->i<k+d->q i=false)->I k h U->I (k+d) h U
 |0,_,ai=>ai
 |d+1,M,ai=>L _ _ _ ab (adN L d ab ai)
def EgJ(I:Nat->ad->Nat->Prop)(l n:Nat)(q:Nat->ak)(hb:X)(m:Nat)(aE:aa X)(ac:ad)(Y:Nat):Prop :=
 ∃k:Nat,m=n-k/\k<=n/\aE=[.func (.yield l) ⟨[]⟩ ⟨[]⟩,.int .u64 (mk (n-k) (λi=>q (i+k)):Int),(k:X),hb,.int .i64 1,.int .i64 0]/\I k ac Y
def EgO(I:Nat->ad->Nat->Prop)(l n:Nat)(hb:X)(h:ad)(U:Nat)(m:Nat)(aE:aa X)(ac:ad)(Y:Nat):Prop :=
 (m=1/\aE=[.func (.yield l) ⟨[]⟩ ⟨[]⟩,hb,.int .i64 1,.int .i64 0]/\ac=h/\Y=U)\/(m=0/\aE=[.func (.yield l) ⟨[]⟩ ⟨[]⟩,hb,.int .i64 1,.int .i64 1]/\I n ac Y)
theorem ar4{n l:Nat}{h:ad}{U:Nat}(bm:n<=63)(aI:cN h U hb kq [mk n q])(uI:u h yx=some (.cells [hb] false))(ap:I 0 h U)(ar:∀k h U,q k=false->I k h U->I (k+1) h U)(ca:∀k h U,k<n->q k=true->I k h U->mg Q s l [(k:X)] h U (λr ac Y=>(r = .bool true/\I (k+1) ac Y)\/(r = .bool false/\D ac Y))):
  aD Q s 288 [.func (.yield l) ⟨[]⟩ ⟨[]⟩,bb yx] h U (λ_ ac Y=>I n ac Y\/D ac Y):=by
 refine SM ?_;obtain⟨a,cap,rfl,aU⟩:=id aI;obtain⟨b,aO,bC,aG,rfl,a5⟩:=aU (by simp);have a5:u h b=some (.cells [.int .u64 (mk n q:Int)] bC):=a5;unfold L5;simp(disch:=omega)only[bd,uI,@List.length_cons Nat,@List.length_nil Nat,seval];refine bq.mk (EgO I l n (.slice (some ⟨b,0,aO⟩) 1 cap) h U) 1 (.inl ab) ?_;rintro m aE ac Y (⟨rfl,rfl,gG,eL⟩|⟨rfl,rfl,dD⟩)
 ·rw[G3,gG,eL];unfold Dt;have VK:bin Q .shl 3 (.int .i64 0) (.int .u64 6) = .ok (.int .i64 0):=rfl;refine cx @a5 @VK ?_;refine⟨?_,ab⟩;refine bq.mk (EgJ I l n q (.slice (some ⟨b,0,aO⟩) 1 cap)) n ⟨0,J,J,rfl,ap⟩ ?_;rintro _ _ aM L ⟨k,rfl,hk,rfl,M⟩;rw[adz];unfold RC
  by_cases cX:mk (n-k) (λi=>q (i+k))=0
  ·have aF:((mk (n-k) (λi=>q (i+k)):Nat):Int)=0:=J
   have V:I (k+(n-k)) aM L:=adN ar (n-k) (λi h1 al=>by
    have:=GU.1 cX (i-k) J
    grind) M
   rw[show k+(n-k)=n by omega]at V;refine a9 @aF ?_;exact⟨0,J,.inr ⟨rfl,rfl,V⟩⟩
  ·have B6:k<n:=by
    rcases jH k n with h|h
    ·exact h
    ·exact absurd (by rw[show n-k=0 by omega];rfl) cX
   obtain⟨r,ba⟩:∃r,n-k=r+1:=⟨n-k-1,J⟩
   have aY:(((mk (n-k) (λi=>q (i+k)):Nat):Int) == 0)=false:=ab
   have Z:bin Q .and 188 (.int .u64 ((mk (n-k) (λi=>q (i+k)):Nat):Int)) (.int .u64 1) = .ok (.int .u64 (if q k then 1 else 0)):=by
    rw[show(1:Int)=((1:Nat):Int)from rfl,Gs (xI J) J,J1,ba,aeK,ix]
    grind
   have ce:mk (n-k) (λi=>q (i+k)) / 2=mk (n-(k+1)) (λi=>q (i+(k+1))):=by
    rw[ba,aeJ,show n-(k+1)=r by omega]
    grind
   have eC:bin Q .shr 188 (.int .u64 ((mk (n-k) (λi=>q (i+k)):Nat):Int)) (.int .u64 1) = .ok (.int .u64 ((mk (n-(k+1)) (λi=>q (i+(k+1))):Nat):Int)):=by rw[Qg,ce]
   cases cz:q k with
   |true =>
    rw[cz]at Z;refine cx @aY @Z ?_;refine(ca k aM L B6 cz M).mono ?_;rintro _ bc Iw (⟨rfl,M⟩|⟨rfl,Cy⟩)
    ·refine aB ?_;unfold Ds;refine cx @eC (cn (J:k<1000000000000)) ?_;exact⟨n-(k+1),J,k+1,rfl,J,rfl,M⟩
    ·simp(disch:=omega)only[bd,seval]
     grind
   |false =>
    rw[cz]at Z;have e2':bin Q .and 188 (.int .u64 ((mk (n-k) (λi=>q (i+k)):Nat):Int)) (.int .u64 1) = .ok (.int .u64 0):=Z;refine cx @aY @e2' ?_;unfold Ds;refine cx @eC (cn (J:k<1000000000000)) ?_;exact⟨n-(k+1),J,k+1,rfl,J,rfl,ar k aM L cz M⟩
 ·rw[G3];unfold Dt;simp(disch:=omega)only[bd,seval]
  grind
end
def eU(n:Nat)(q:Nat->ak):aa Nat:=if n=0 then[]else[mk n q]
theorem adO{l:Nat}{h:ad}{U:Nat}(M:cN h U hb kq ([]:aa Nat))(L:u h yx=some (.cells [hb] false)):
  aD Q s 288 [.func (.yield l) ⟨[]⟩ ⟨[]⟩,bb yx] h U (λ_ ac Y=>ac=h/\Y=U):=by
 refine SM ?_;obtain⟨a,cap,rfl,aU⟩:=id M;unfold L5;simp(disch:=omega)only[bd,L,@List.length_nil Nat,seval];refine bq.mk (λm aE ac Y=>aE=[.func (.yield l) ⟨[]⟩ ⟨[]⟩,.slice a 0 cap,.int .i64 0,.int .i64 0]/\ac=h/\Y=U) 0 ab ?_;rintro m aE ac Y ⟨rfl,Z,V⟩;rw[G3];unfold Dt;simp(disch:=omega)only[bd,seval]
 grind
noncomputable def nR:Code:=(vW Q 473).1
noncomputable def nS:Code:=(vW Q 473).2
def qV(ja au cS cj t1:X):b8:=[(7,some ja),(6,some au),(4,some cS),(3,some cj),(0,some au),(1,some t1)]
def adP(s:ak)(d6 fQ g3:X)(h:ad)(U:Nat)(N R:ad->Nat->Prop):Prop:=ag (im none h d6) λo0=>ag (bin Q .geq 3 g3 o0) λqy=>bJ qy (ag (a7 h 1 fQ g3) λh12=>R h12 U) (N h U)
def RL(s:ak)(l:Nat)(ja au cS cj t1 fu:X)(h:ad)(U:Nat)(K:bD):Prop:=∃eF,u h l=some (.loop 0 eF (qV ja au cS cj t1) [8] nR nS)/\adP s cj cS fu (F h l (.loop 1 eF (qV ja au cS cj t1) [8] nR nS)) U (λh n=>∃gT eF,u h l=some (.loop gT eF (qV ja au cS cj t1) [8] nR nS)/\K (.bool true) (F h l (.loop 0 none (qV ja au cS cj t1) [8] nR nS)) n) (λh n=>∃gT eF,u h l=some (.loop gT eF (qV ja au cS cj t1) [8] nR nS)/\K (.bool false) (F h l (.loop 2 (some .ret) (qV ja au cS cj t1) [8] nR nS)) n)
theorem aow{l:Nat}{h:ad}{U:Nat}:Cl Q s [] [] l [fu] (qV ja au cS cj t1) [8] nR nS h U K=RL s l ja au cS cj t1 fu h U K:=by kernel_rfl
theorem aox{l:Nat}{p:av Code}{h:ad}{U:Nat}(L:u h l=some (.loop st p (qV ja au cS cj t1) [8] nR nS))(w:RL s l ja au cS cj t1 fu h U K):mg Q s l [fu] h U K:=mg.oU l3 (wy:=[]) (ob:=[]) L rfl (by kernel_rfl) (by kernel_rfl) (by rw[aow];exact w)
def afx:fH:=λs au t1 h U K=>cK t1 h U λa b c=>cJ [(ae 0)] b c λd e f=>bh s 197 [au] e f λg i j=>uB Q s g i j (.loop 0 none (qV g au d a t1) [8] nR nS) (zu j (λk l=>ag (a7 k 1 d (ae (-1))) λm=>dc m d λn=>K n m l) (λk l=>dc k d λo=>K o k l))
theorem ar5:fR 473 afx:=fX []
noncomputable def vw:Code:=(vW Q 495).1
noncomputable def vx:Code:=(vW Q 495).2
def vA(t1 cj au:X):b8:=[(6,some t1),(4,some (.slice none 0 0)),(2,some cj),(0,some au),(1,some t1)]
def abL(s:ak)(bO g3:X)(h:ad)(U:Nat)(N R:ad->Nat->Prop):Prop:=ag (im none h bO) λol=>ag (im (some 2) h g3) λXj=>ey (fU 1 [(.int .i64 0),(.int .i64 0)] [(0,2,Xj)]) h U λIR h11 n12=>dB (dS (dv 2 h11 n12 ol IR)) λqu h14 n15=>ag (a7 h14 1 bO qu) λh16=>N h16 n15
def QF(s:ak)(l:Nat)(t1 cj au fu:X)(h:ad)(U:Nat)(K:bD):Prop:=ey (.ok (.ptr (.cells [(.int .i64 0),(.int .i64 0)] false))) h U λcS bP n6=>ag (a7 bP 2 cS fu) λdL=>∃eF,u dL l=some (.loop 0 eF (vA t1 cj au) [7] vw vx)/\abL s cj cS (F dL l (.loop 1 eF (vA t1 cj au) [7] vw vx)) n6 (λh n=>∃gT eF,u h l=some (.loop gT eF (vA t1 cj au) [7] vw vx)/\K (.bool true) (F h l (.loop 0 none (vA t1 cj au) [7] vw vx)) n) (λh n=>∃gT eF,u h l=some (.loop gT eF (vA t1 cj au) [7] vw vx)/\K (.bool false) (F h l (.loop 2 (some .ret) (vA t1 cj au) [7] vw vx)) n)
theorem alq{l:Nat}{h:ad}{U:Nat}:Cl Q s [] [] l [fu] (vA t1 cj au) [7] vw vx h U K=QF s l t1 cj au fu h U K:=by kernel_rfl
theorem alr{l:Nat}{p:av Code}{h:ad}{U:Nat}(L:u h l=some (.loop st p (vA t1 cj au) [7] vw vx))(w:QF s l t1 cj au fu h U K):mg Q s l [fu] h U K:=mg.oU l3 (wy:=[]) (ob:=[]) L rfl (by kernel_rfl) (by kernel_rfl) (by rw[alq];exact w)
def adQ:fH:=λs au t1 h U K=>cK au h U λa b c=>uB Q s t1 b c (.loop 0 none (vA t1 a au) [7] vw vx) (zu c (λd e=>dc d a λf=>K f d e) (λd e=>K aS d e))
theorem aoy:fR 495 adQ:=fX []
noncomputable def vB:Code:=(vW Q 391).1
noncomputable def vC:Code:=(vW Q 391).2
def vF(jX kt rr sm qu kc ol ja cS cj au:X):b8:=[(12,some jX),(11,some kt),(3,some rr),(10,some sm),(9,some qu),(8,some kc),(7,some ol),(6,some ja),(2,some cS),(1,some cj),(0,some au)]
def adR(s:ak)(d6 fQ g3:X)(h:ad)(U:Nat)(N R:ad->Nat->Prop):Prop:=ag (xf 1 d6) λmR=>ag (im none h mR) λpF=>ag (c8 [(.int .i64 0),(.int .i64 0)] [(0,1,fQ),(1,1,g3)]) λnt=>ey (fU 1 [(.int .i64 0),(.int .i64 0)] [(0,2,nt)]) h U λp26 h27 n28=>dB (dS (dv 2 h27 n28 pF p26)) λx29 VU n31=>ag (xf 1 d6) λqw=>ag (a7 VU 1 qw x29) λh33=>N h33 n31
def RM(s:ak)(l:Nat)(jX kt rr sm qu kc ol ja cS cj au fu dJ:X)(h:ad)(U:Nat)(K:bD):Prop:=∃eF,u h l=some (.loop 0 eF (vF jX kt rr sm qu kc ol ja cS cj au) [13,14] vB vC)/\adR s rr fu dJ (F h l (.loop 1 eF (vF jX kt rr sm qu kc ol ja cS cj au) [13,14] vB vC)) U (λh n=>∃gT eF,u h l=some (.loop gT eF (vF jX kt rr sm qu kc ol ja cS cj au) [13,14] vB vC)/\K (.bool true) (F h l (.loop 0 none (vF jX kt rr sm qu kc ol ja cS cj au) [13,14] vB vC)) n) (λh n=>∃gT eF,u h l=some (.loop gT eF (vF jX kt rr sm qu kc ol ja cS cj au) [13,14] vB vC)/\K (.bool false) (F h l (.loop 2 (some .ret) (vF jX kt rr sm qu kc ol ja cS cj au) [13,14] vB vC)) n)
theorem aoz{l:Nat}{h:ad}{U:Nat}:Cl Q s [] [] l [fu,dJ] (vF jX kt rr sm qu kc ol ja cS cj au) [13,14] vB vC h U K=RM s l jX kt rr sm qu kc ol ja cS cj au fu dJ h U K:=by kernel_rfl
theorem aoA{l:Nat}{p:av Code}{h:ad}{U:Nat}(L:u h l=some (.loop st p (vF jX kt rr sm qu kc ol ja cS cj au) [13,14] vB vC))(w:RM s l jX kt rr sm qu kc ol ja cS cj au fu dJ h U K):mg Q s l [fu,dJ] h U K:=mg.oU l3 (wy:=[]) (ob:=[]) L rfl (by kernel_rfl) (by kernel_rfl) (by rw[aoz];exact w)
def afy:fw:=λs au h U K=>cK au h U λa b c=>cJ [(ae 0),aS] b c λd e f=>a4 3 e a λg=>bh s 450 [g] e f λi j k=>ag (a7 j 3 a i) λl=>b4 0 a λm=>dc l m λn=>ag (c8 [(ae 0),aS] [(0,1,n)]) λo=>cJ [(ae 0),aS] l k λp q r=>ag (a7 q 2 p o) λt=>a4 3 t a λaT=>bh s 451 [aT] t r λv w x=>uB Q s v w x (.loop 0 none (vF v aT p o n m i g d a au) [13,14] vB vC) (zu x (λy z=>a4 2 y p λbX=>ag (a7 y 2 d bX) λch=>a4 2 ch d λbV=>K bV ch z) (λy z=>a4 2 y d λbp=>K bp y z))
theorem ar6:fG 391 afy:=fO []
noncomputable def sZ:Code:=(vW Q 393).1
noncomputable def s0:Code:=(vW Q 393).2
def vG(qv g0 t3 sn qw rs rt sp qr nt pF mR jX kt qx sq kc qy o0 eY cS cj au t1 t2:X):b8:=[(36,some qv),(35,some g0),(34,some t3),(33,some sn),(32,some qw),(12,some rs),(26,some (.bool false)),(26,some rt),(31,some rt),(30,some sp),(29,some qr),(28,some nt),(27,some pF),(22,some (.bool false)),(22,some mR),(25,some mR),(24,some jX),(23,some kt),(21,some qx),(20,some sq),(16,some kc),(19,some kc),(18,some qy),(17,some o0),(11,some (.int .i64 0)),(10,some (.slice none 0 0)),(7,some eY),(6,some cS),(5,some cj),(0,some au),(1,some t1),(2,some t2),(3,some t3),(4,some g0)]
def adS(s:ak)(g3 Af Oh b12 b13:X)(h:ad)(U:Nat)(N R:ad->Nat->Prop):Prop:=ag (im none h g3) λx37=>ag (im (some 5) h Af) λVV=>ag (im (some 3) h Oh) λx39=>aD Q s 457 [x37,VV,b13,x39] h U λx40 h41 n42=>ag (dz x40 0) λx43=>ag (dz x40 1) λVI=>ey (.ok (.ptr (.cells [(.int .i64 0),(.int .u64 0)] false))) h41 n42 λp45 B4 B5=>ag (a7 B4 2 p45 x43) λsk=>bJ VI (ag (im none sk b12) λx49=>ag (im (some 2) sk p45) λx50=>ag (c8 [(.int .i64 0),(.int .i64 0),(.int .u64 0)] [(0,1,b13),(1,2,x50)]) λx51=>ey (fU 1 [(.int .i64 0),(.int .i64 0),(.int .u64 0)] [(0,3,x51)]) sk B5 λp52 h53 n54=>dB (dS (dv 3 h53 n54 x49 p52)) λx55 h56 n57=>ag (a7 h56 1 b12 x55) λh58=>N h58 n57) (N sk B5)
def RN(s:ak)(l:Nat)(qv g0 t3 sn qw rs rt sp qr nt pF mR jX kt qx sq kc qy o0 eY cS cj au t1 t2 fu:X)(h:ad)(U:Nat)(K:bD):Prop:=∃eF,u h l=some (.loop 0 eF (vG qv g0 t3 sn qw rs rt sp qr nt pF mR jX kt qx sq kc qy o0 eY cS cj au t1 t2) [37] sZ s0)/\adS s cj cS eY rs fu (F h l (.loop 1 eF (vG qv g0 t3 sn qw rs rt sp qr nt pF mR jX kt qx sq kc qy o0 eY cS cj au t1 t2) [37] sZ s0)) U (λh n=>∃gT eF,u h l=some (.loop gT eF (vG qv g0 t3 sn qw rs rt sp qr nt pF mR jX kt qx sq kc qy o0 eY cS cj au t1 t2) [37] sZ s0)/\K (.bool true) (F h l (.loop 0 none (vG qv g0 t3 sn qw rs rt sp qr nt pF mR jX kt qx sq kc qy o0 eY cS cj au t1 t2) [37] sZ s0)) n) (λh n=>∃gT eF,u h l=some (.loop gT eF (vG qv g0 t3 sn qw rs rt sp qr nt pF mR jX kt qx sq kc qy o0 eY cS cj au t1 t2) [37] sZ s0)/\K (.bool false) (F h l (.loop 2 (some .ret) (vG qv g0 t3 sn qw rs rt sp qr nt pF mR jX kt qx sq kc qy o0 eY cS cj au t1 t2) [37] sZ s0)) n)
theorem aoB{l:Nat}{h:ad}{U:Nat}:Cl Q s [] [] l [fu] (vG qv g0 t3 sn qw rs rt sp qr nt pF mR jX kt qx sq kc qy o0 eY cS cj au t1 t2) [37] sZ s0 h U K=RN s l qv g0 t3 sn qw rs rt sp qr nt pF mR jX kt qx sq kc qy o0 eY cS cj au t1 t2 fu h U K:=by kernel_rfl
theorem aoC{l:Nat}{p:av Code}{h:ad}{U:Nat}(L:u h l=some (.loop st p (vG qv g0 t3 sn qw rs rt sp qr nt pF mR jX kt qx sq kc qy o0 eY cS cj au t1 t2) [37] sZ s0))(w:RN s l qv g0 t3 sn qw rs rt sp qr nt pF mR jX kt qx sq kc qy o0 eY cS cj au t1 t2 fu h U K):mg Q s l [fu] h U K:=mg.oU l3 (wy:=[]) (ob:=[]) L rfl (by kernel_rfl) (by kernel_rfl) (by rw[aoB];exact w)
def afz:Co:=λs au t1 t2 t3 g0 h U K=>cK au h U λa b c=>cK t1 b c λd e f=>cK t2 e f λg i j=>a4 5 i d λk=>a4 3 i g λl=>bh s 455 [k,l] i j λm n o=>ag (dz m 0) λp=>ag (dz m 1) λq=>ag (a7 n 5 d p) λr=>ag (a7 r 3 g q) λt=>dc t a λaT=>bh s 259 [aT] t o λv w x=>ag (d2 .not v) λy=>bJ y (K (.tuple ⟨[aS,(ae 8)]⟩) w x) (b4 0 g λz=>dc w z λbX=>b4 1 d λch=>dc w ch λbV=>cf .neq 3 bX bV λbp=>bJ bp (K (.tuple ⟨[aS,(ae 4)]⟩) w x) (cJ [aS] w x λb2 cM bU=>b4 0 d λdj=>dc cM dj λcP=>bh s 456 [cP,t3,g0] cM bU λd0 dH eM=>uB Q s d0 dH eM (.loop 0 none (vG d0 g0 t3 cP dj b2 bp bV ch bX z y v aT q p m l k g d a au t1 t2) [37] sZ s0) (zu eM (λam an=>dc am b2 λeR=>K (.tuple ⟨[eR,(ae 0)]⟩) am an) (λam an=>K (.tuple ⟨[aS,(ae 0)]⟩) am an))))
theorem ar7:Fr 393 afz:=In []
def fW(q:Nat->ak)(a:Int):Nat->Int
 |0=>-1
 |n+1=>if fW q a n = -1 then(if q n=true/\a<=(n:Int)then(n:Int)else -1)else fW q a n
theorem SV{q:Nat->ak}{a:Int}{k:Nat}(h:fW q a k≠-1):∀d,fW q a (k+d)=fW q a k
 |0=>rfl
 |d+1=>by have:=SV h d;show(if fW q a (k+d) = -1 then _ else fW q a (k+d))=_;omega
theorem agJ{q:Nat->ak}{a:Int}:∀n,-1<=fW q a n/\fW q a n<n/\(fW q a n = -1\/a<=fW q a n)
 |0=>⟨by unfold fW;omega,by unfold fW;omega,.inl rfl⟩
 |n+1=>by have:=agJ (q:=q) (a:=a) n;unfold fW;omega
def NxL(l pQ yk:Nat)(aj:b8)(a:Int)(ao:Nat)(ap h:ad)(U:Nat):Prop:=u h l=some (.loop 0 none aj [8] nR nS)/\u h pQ=some (.cells [(a:X)] false)/\u h yk=some (.cells [.int .i64 0] false)/\(∀c,c<ao->u h c=u ap c)
def Nt(l pQ yk:Nat)(aj:b8)(a:Int)(q:Nat->ak)(ao a6:Nat)(ap:ad)(k:Nat)(h:ad)(U:Nat):Prop:=fW q a k = -1/\NxL l pQ yk aj a ao ap h U/\U=a6
def NxD(l yk:Nat)(aj:b8)(a:Int)(q:Nat->ak)(ao a6 n:Nat)(ap:ad)(h:ad)(U:Nat):Prop:=u h l=some (.loop 2 (some .ret) aj [8] nR nS)/\u h yk=some (.cells [.int .i64 (fW q a n)] false)/\(∀c,c<ao->u h c=u ap c)/\U=a6
theorem ayl{l M L ao n:Nat}{a:Int}{q:Nat->ak}{V:ad}(bg:l≠M/\l≠L/\M≠L/\ao<=l/\ao<=M/\ao<=L){k:Nat}{h:ad}{U:Nat}(hk:k<n)(cz:q k=true)(mW:Nt l M L (qV ja au (bb L) (bb M) t1) a q ao a6 V k h U):
  mg Q s l [(k:X)] h U (λr ac Y=>(r = .bool true/\Nt l M L (qV ja au (bb L) (bb M) t1) a q ao a6 V (k+1) ac Y)\/(r = .bool false/\NxD l L (qV ja au (bb L) (bb M) t1) a q ao a6 n V ac Y)):=by
 obtain⟨h1,al,aM,bc⟩:=bg;obtain⟨eL,⟨Z,epa,epr,elo⟩,rfl⟩:=mW;refine aox Z ?_;unfold RL adP;refine⟨none,Z,?_⟩;generalize qV ja au (bb L) (bb M) t1=aj at *
 have br:u (F h l (.loop 1 none aj [8] nR nS)) M=some (.cells [(a:X)] false):=ab
 have g2:u (F h l (.loop 1 none aj [8] nR nS)) L=some (.cells [.int .i64 0] false):=ab
 refine cx @br @g2 ?_;refine⟨λa5=>⟨1,none,ab,.inr ⟨ab,?_,λc aU=>?_,rfl⟩⟩,λa5=>⟨1,none,ab,.inl ⟨?_,⟨ab,?_,?_,ab⟩,rfl⟩⟩⟩
 ·have aY:fW q a (k+1)=(k:Int):=by
   show(if fW q a k = -1 then(if q k=true/\a<=(k:Int)then(k:Int)else -1)else fW q a k)=_
   grind
  have aJ:fW q a n=fW q a (k+1):=by
   have:=SV (q:=q) (a:=a) (k:=k+1) J (n-(k+1))
   grind
  grind
 ·grind
 ·show(if fW q a k = -1 then(if q k=true/\a<=(k:Int)then(k:Int)else -1)else fW q a k)=_;omega
 all_goals grind
theorem auB{q:Nat->ak}{a:Int}{k:Nat}(h:q k=false):fW q a (k+1)=fW q a k:=by
 show(if fW q a k = -1 then(if q k=true/\a<=(k:Int)then(k:Int)else -1)else fW q a k)=_
 grind
theorem RO{n:Nat}{a:Int}{q:Nat->ak}{v:X}{h:ad}{U:Nat}(bm:n<=63)(aI:cN h U v kq (eU n q)):
  aD Q s 473 [v,(a:X)] h U (λr ac Y=>r = .int .i64 (fW q a n)/\az U h ac/\U<=Y):=by
 refine ar5 ?_;obtain⟨Fu,cap,rfl,aU⟩:=id aI;unfold afx;refine aB ?_;refine Tv ?_;unfold each;refine aB ?_;show aD Q s 288 [.func (.yield (U+1+1+1)) ⟨[]⟩ ⟨[]⟩,.pointer (some ⟨U+1+1,0,none⟩)] _ _ _;generalize V:qV (.func (.func 288) ⟨[]⟩ ⟨[.pointer (some ⟨U+1+1,0,none⟩)]⟩) (.slice Fu (eU n q).length cap) (.pointer (some ⟨U+1,0,none⟩)) (bb U) (a:X)=aj;generalize gh:F (F (F (F h U (.cells [(a:X)] false)) (U+1) (.cells [.int .i64 0] false)) (U+1+1) (.cells [.slice Fu (eU n q).length cap] false)) (U+1+1+1) (.loop 0 none aj [8] nR nS)=H;have M:cN H (U+1+1+1+1) (.slice Fu (eU n q).length cap) kq (eU n q):=aI.T aC J;have L:u H (U+1+1)=some (.cells [.slice Fu (eU n q).length cap] false):=ab
 have ai:Nt (U+1+1+1) U (U+1) aj a q U (U+1+1+1+1) h 0 H (U+1+1+1+1):=
  ⟨rfl,⟨ab,ab,ab,ab⟩,rfl⟩
 have kg:aD Q s 288 [.func (.yield (U+1+1+1)) ⟨[]⟩ ⟨[]⟩,.pointer (some ⟨U+1+1,0,none⟩)] H (U+1+1+1+1) (λ_ ac Y=>Nt (U+1+1+1) U (U+1) aj a q U (U+1+1+1+1) h n ac Y\/NxD (U+1+1+1) (U+1) aj a q U (U+1+1+1+1) n h ac Y):=by
  by_cases cX:n=0
  ·subst cX;refine(adO  M L).mono ?_
   grind
  ·have e8:eU n q=[mk n q]:=if_neg cX;rw[e8]at M L V;refine ar4 bm M L ai (λk ac Y hk Z=>?_) λk ac Y hk cz Z=>by subst V;exact ayl J hk cz Z
   exact⟨by rw[auB hk];exact Z.1,Z.2.1,Z.2.2⟩
 refine kg.mono ?_;rintro _ ac Y (⟨eL,⟨el,epa,epr,elo⟩,rfl⟩|⟨el,epr,elo,rfl⟩)
 ·refine⟨0,none,aj,[8],nR,nS,el,J,.inl ⟨rfl,?_⟩⟩;have br:u (F ac (U+1+1+1) (.loop 3 none aj [8] nR nS)) (U+1)=some (.cells [.int .i64 0] false):=ab
  refine a9 @br ?_;refine⟨by rw[eL],λc aU=>?_,J⟩
  grind
 ·refine⟨2,some .ret,aj,[8],nR,nS,el,J,.inr ⟨rfl,?_⟩⟩;have br:u (F ac (U+1+1+1) (.loop 3 (some .ret) aj [8] nR nS)) (U+1)=some (.cells [.int .i64 (fW q a n)] false):=ab
  refine a9 @br ?_;refine⟨λc aU=>?_,J⟩
  grind
def Mz(n:Nat)(q:Nat->ak)(U:Nat)(h:ad):bD:=λr ac Y=>eZ ac U Y r kq (eU n q)/\az U h ac/\U<=Y
theorem tm.w{n U:Nat}{q:Nat->ak}{h:ad}{r:X}{ac:ad}{Y:Nat}(M:n≠0)(H:tm (mk n q) U h r ac Y):Mz n q U h r ac Y:=by obtain⟨b,c,aO,rfl,h1,V,Z,bc,L⟩:=H;unfold Mz eU;rw[if_neg M];exact⟨⟨_,_,rfl,λ_=>⟨b,aO,false,h1,V,rfl,Z⟩⟩,bc,L⟩
theorem Z1{n:Nat}{h:ad}{U:Nat}(M:n<=64):aD Q s 195 [(n:X)] h U (λr ac Y=>r = .int .i64 (if n=0 then 0 else 1)/\ac=h/\Y=U):=by
 by_cases L:n=0
 ·subst L;refine bS ?_;have e:bin Q .shr 3 (.int .i64 (IntKind.wrap .i64 (0+63))) (.int .u64 6) = .ok (.int .i64 0):=rfl;simp(disch:=omega)only[bd,↓reduceIte,Nat.reduceAdd,Nat.reduceSub,Nat.reduceMul,Nat.reduceLT,Nat.reduceLeDiff,Nat.reduceEqDiff,Int.reduceBEq,Int.reduceLT,Int.reduceNeg,show max ((0:Nat):Int) 0=0 from rfl,show min (0:Int) 4096=0 from rfl,e]
 ·rw[if_neg L];exact abx J M
theorem adT{n:Nat}{h:ad}{U:Nat}(bm:n<=63):aD Q s 117 [(n:X)] h U (Mz n (λ_=>false) U h):=by
 by_cases L:n=0
 ·subst L;refine bS ?_;refine(Z1 J).mono ?_;rintro r al bH ⟨rfl,M,V⟩;rw[M,V,if_pos rfl];show ey (xt [.int .u64 0] (((0:Nat):X)) (((0:Nat):X))) h U _;refine aB ?_;exact⟨⟨_,_,rfl,λh=>absurd rfl h⟩,aC,J⟩
 ·refine(afm J J).mono ?_;intro r ac Z H;refine tm.w L ?_;rw[Rb];exact H
theorem LJ{n:Nat}{l:aa Nat}{v:X}{h:ad}{U:Nat}(bm:n<=63)(aI:cN h U v cG (gm l))(Z:∀x∈l,x<n)(L:l.length<1000000):aD Q s 108 [(n:X),v] h U (Mz n (ns l) U h):=by
 by_cases V:n=0
 ·subst V;have:l=[]:=by
   cases l with
   |nil=>rfl
   |cons x l=>exact absurd (Z x ab) J
  subst this;refine ahA ?_;obtain⟨a,cap,rfl,aU⟩:=id aI;refine(adT J).mono ?_;rintro r al bH ⟨ba,hk,M⟩;obtain⟨qG,bZ,rfl,_⟩:=ba;refine aB ?_;refine bq.mk (λm aE ac Y=>aE=[((0:Nat):X),.slice qG 0 bZ,.slice a 0 cap,.int .i64 0,.int .i64 0]/\ac=al/\Y=bH) 0 ⟨rfl,rfl,rfl⟩ ?_;rintro _ _ ac Y ⟨rfl,aY,aJ⟩;rw[agA,aY,aJ];unfold Tu;refine aB ?_;exact λ_=>⟨⟨qG,bZ,rfl,λh=>absurd rfl h⟩,hk,M⟩
 ·refine(awp J J aI Z L).mono ?_;intro r ac kx H;exact tm.w V H
theorem als{n:Nat}{p:Nat->ak}{v:X}{h:ad}{U:Nat}(h1:n<=63)(L:cN h U v kq (eU n p)):aD Q s 111 [v] h U (λr ac Y=>r = .int .i64 ((er n p).length:Int)/\ac=h/\Y=U):=by
 by_cases M:n=0
 ·subst M;refine adx ?_;unfold SK;obtain⟨a,cap,rfl,aU⟩:=id L;simp(disch:=omega)only[bd,show(eU 0 p).length=0 from rfl,seval];refine bq.mk (λm aE ac Y=>aE=[.int .i64 0,.slice a 0 cap,.int .i64 0,.int .i64 0]/\ac=h/\Y=U) 0 ab ?_;rintro _ _ ac Y ⟨rfl,V,Z⟩;rw[QA,V,Z];unfold K0;refine aB ?_;exact λ_=>rfl
 ·rw[show eU n p=[mk n p]from if_neg M]at L;exact aob h1 L
theorem Z2{n:Nat}{q:Nat->ak}{v:X}{h:ad}{U:Nat}(bm:n<=63)(L:cN h U v kq (eU n q)):aD Q s 437 [v,(n:X)] h U (λr ac Y=>r = .bool true/\az U h ac/\U<=Y):=by
 refine aog ?_;obtain⟨a,cap,rfl,aU⟩:=id L;have e8:(((eU n q).length:Nat):Int)=if n=0 then 0 else 1:=by unfold eU;grind
 have Z:fW q (n:Int) n = -1:=by have:=agJ (q:=q) (a:=(n:Int)) n;omega
 unfold adH;refine aB ?_;refine⟨λ_=>⟨λ_=>?_,J⟩,J⟩;refine(Z1 J).mono ?_;rintro r al bH ⟨rfl,M,V⟩;rw[M,V,e8];refine aB ?_;refine⟨λ_=>?_,aC⟩;refine(RO bm L).mono ?_;rintro r aM bR ⟨rfl,hk,dr⟩;rw[Z];refine aB ?_;exact aC
theorem auC{n:Nat}{q:Nat->ak}(h:i<n):ns (er n q) i=q i:=by
 unfold ns er
 grind
theorem SX{n:Nat}{q:Nat->ak}:eU n (ns (er n q))=eU n q:=by unfold eU;rw[DE λi ai=>auC  ai]
theorem k9.gI{aA:Type}{h:ad}{v:X}{enc:aA->aa X}{k:Nat}{l:aa aA}{ao ai:Nat}(H:k9 h v enc k l P)(M:∀d,P d->ao<=d/\d<ai):eZ h ao ai v enc l:=by
 rcases H with⟨rfl,rfl⟩|⟨d,V,rfl,L⟩
 ·exact⟨_,_,rfl,λh=>absurd rfl h⟩
 ·exact⟨_,_,rfl,λ_=>⟨d,some k,false,ab,ab,rfl,L⟩⟩
def mb(h:ad)(ao ai:Nat)(v:X)(low mG:Int)(n:Nat)(A B:aa Int)(q:Nat->ak):Prop :=
 ∃cY fJ ei,v = .agg ⟨[(low:X),(mG:X),cY,fJ,ei]⟩/\eZ h ao ai cY cG A/\eZ h ao ai fJ cG B/\eZ h ao ai ei kq (eU n q)
def cF(n:Nat)(f:Nat->Int):aa Int:=(List.range n).map f
theorem Ho(n:Nat)(f:Nat->Int):cF (n+1) f=cF n f++[f n]:=by unfold cF;rw[pb,hN];rfl
theorem jq(n:Nat)(f:Nat->Int):(cF n f).length=n:=by unfold cF;grind
theorem Lq(n:Nat)(q:Nat->ak):gm (er (n+1) q)=gm (er n q)++(if q n then[(n:Int)]else[]):=by rw[L6];unfold gm;grind
def ChS(ao:Nat)(ac:ad)(Y:Nat)(cY fJ o:X)(A B L:aa Int):Prop :=
 ∃Jz Fv yz:Nat->Prop,k9 ac cY cG 1 A Jz/\k9 ac fJ cG 1 B Fv/\k9 ac o cG 1 L yz/\(∀d,Jz d->ao<=d/\d<Y/\¬Fv d/\¬yz d)/\(∀d,Fv d->ao<=d/\d<Y/\¬yz d)/\(∀d,yz d->ao<=d/\d<Y)
def ChJ(n cS p12:Nat)(hb:X)(m6 ms:Nat->Int)(q:Nat->ak)(low mG:Int)(U:Nat)(ap:ad)(m:Nat)(aE:aa X)(ac:ad)(Y:Nat):Prop :=
 ∃(i:Nat) (cY fJ o:X),m=n-i/\i<=n/\aE=[(n:X),hb,bb cS,bb p12,o,(n:X),(i:X)] /\
  u ac p12=some (.cells [(low:X),(mG:X),cY,fJ,.slice none 0 0] false)/\ChS (U+3) ac Y cY fJ o (cF i m6) (cF i ms) (gm (er i q))/\u ac (U+1)=some (.cells [.int .i64 0,.int .i64 0,.slice none 0 0,.slice none 0 0,.slice none 0 0] false)/\az U ap ac/\U+3<=Y
theorem Z3{n:Nat}{m6 ms:Nat->Int}{q:Nat->ak}{ax a2 a3:av Addr}{bH bR c1 cm:Nat}{h:ad}{U:Nat}(bm:n<=63)(bx:∀(i:Nat) (ac:ad) (Y:Nat),i<n->az U h ac->U<=Y->aD Q s d7 ((i:X)::cs) ac Y (λr al bH=>r = .tuple ⟨[.int .i64 (m6 i),.int .i64 (ms i),.bool (q i)]⟩/\az Y ac al/\Y<=bH)):
  aD Q s 208 [.agg ⟨[(low:X),(mG:X),.slice ax a6 c1,.slice a2 bH c2,.slice a3 bR cm]⟩,(n:X),.func (.func d7) ⟨[]⟩ ⟨cs⟩] h U (λr ac Y=>mb ac U Y r low mG n (cF n m6) (cF n ms) q/\az U h ac/\U<=Y):=by
 refine alj ?_;unfold abA;refine aB ?_;have bF:∀{o aW kQ gL},az U h (F (F (F (F h U o) (U+1) aW) (U+2) kQ) (U+2) gL):=aC
 refine bq.mk (ChJ n (U+1) (U+2) (.func (.func d7) ⟨[]⟩ ⟨cs⟩) m6 ms q low mG U h) n ⟨0,_,_,_,J,J,rfl,ab,⟨λ_=>False,λ_=>False,λ_=>False,.inl ⟨rfl,rfl⟩,.inl ⟨rfl,rfl⟩,.inl ⟨rfl,rfl⟩,ab,ab,ab⟩,ab,bF,J⟩ ?_;rintro _ _ h1 m1 ⟨i,cY,fJ,o,rfl,ai,rfl,E6,⟨Jz,Fv,yz,Fw,Cz,Xk,dg,aG,aU⟩,g11,hk,dr⟩;obtain⟨bX,qE,rfl⟩:=Fw.form;obtain⟨ch,gK,rfl⟩:=Cz.form;obtain⟨eR,co,rfl⟩:=Xk.form;rw[ajH];unfold YV;refine aB ?_;refine⟨λci=>?_,λeh=>?_⟩
 ·refine(bx i h1 m1 J hk J).mono ?_;rintro r al V ⟨rfl,M,e9⟩;have g2:u al (U+2)=_:=(M (U+2) J).trans E6;have SA2:=Fw.T   λd L=>⟨M d ab,L⟩
  have SB2:=Cz.T   λd L=>⟨M d ab,L⟩
  have SC2:=Xk.T   λd L=>⟨M d ab,L⟩
  refine a9 @g2 ?_;refine Lp (k:=1) (λ_=>rfl) (λ_=>rfl) J  (SA2.T  λd L=>⟨ab,L⟩) rfl (m6 i) (aN _ _ _) rfl (by rw[jq];omega) λVW aM Nu uJ=>?_;obtain⟨Z,IU,rfl⟩:=Nu.form;have c3:=(show u aM (U+2)=u al (U+2) by grind).trans g2;refine a9 @c3 ?_;have SB3:=SB2.T (ac:=F aM (V+2) (.cells [.int .i64 (ms i)] false))  λd L=>by exact⟨ab,L⟩
  refine⟨J,Lp (k:=1) (λ_=>rfl) (λ_=>rfl) J   SB3 rfl (ms i) (aN _ _ _) rfl (by rw[jq];omega) λVX bc Nv tB=>?_⟩;obtain⟨IV,IW,rfl⟩:=Nv.form;have dK:=(show u bc (U+2)=u aM (U+2) by grind).trans c3;refine a9 @dK ?_;refine⟨J,?_⟩;obtain⟨iI,gh⟩:∃iI,iI=F (F bc (U+2) (.cells [(low:X),(mG:X),.slice Z (cF i m6++[m6 i]).length IU,.slice ch (cF i ms).length gK,.slice none 0 0] false)) (U+2) (.cells [(low:X),(mG:X),.slice Z (cF i m6++[m6 i]).length IU,.slice IV (cF i ms++[ms i]).length IW,.slice none 0 0] false):=⟨_,rfl⟩
  rw[<-gh];have gx:u iI (U+2)=some (.cells [(low:X),(mG:X),.slice Z (cF i m6++[m6 i]).length IU,.slice IV (cF i ms++[ms i]).length IW,.slice none 0 0] false):=ab
  have aJ:∀d,d≠U+2->d<V->¬Jz d->¬Fv d->u iI d=u al d:=ab
  have qF:az U h iI:=aC
  have g51:u iI (U+1)=some (.cells [.int .i64 0,.int .i64 0,.slice none 0 0,.slice none 0 0,.slice none 0 0] false):=by rw[aJ (U+1) J J (λbv=>ab) (λbv=>ab),M _ J];omega
  have SA5:=Nu.T (ac:=iI) (pP:=λd=>d=V+1) ab;have SB5:=Nv.T (ac:=iI) (pP:=λd=>d=V+3) ab;have SC5:=SC2.T (ac:=iI) (pP:=yz) λd L=>by exact⟨ab,L⟩
  have e8:IntKind.wrap .i64 ((i:Int)+1)=((i+1:Nat):Int):=cn J;refine⟨λcz=>?_,λcz=>?_⟩
  ·refine Lp (k:=1) (λ_=>rfl) (λ_=>rfl) J (U:=V+5) (pP:=λd=>d=V+5) (SC5.T (ac:=F iI (V+4) (.cells [(i:X)] false)) (pP:=yz) λd L=>⟨ab,L⟩) rfl (i:Int) (aN _ _ _) rfl (by unfold gm;rw[g5];have:=vM i q;omega) λvo' b9 SC6 x3=>?_;have g1:∀d,d≠V+4->d≠V+5->¬yz d->u b9 d=u iI d:=λd h1 al aM=>ab
   refine⟨n-(i+1),J,i+1,.slice Z (cF i m6++[m6 i]).length IU,.slice IV (cF i ms++[ms i]).length IW,vo',rfl,J,by rw[e8],?_,⟨λd=>d=V+1,λd=>d=V+3,λd=>d=V+5,?_,?_,?_,?_,?_,?_⟩,?_,?_,J⟩
   ·grind
   ·rw[Ho];exact SA5.T λd L=>⟨g1 d J J (λbv=>ab),L⟩
   ·rw[Ho];exact SB5.T λd L=>⟨g1 d J J (λbv=>ab),L⟩
   ·rw[Lq,if_pos cz];exact SC6
   ·omega
   ·omega
   ·omega
   ·grind
   ·intro d L;rw[g1 d J J (λbv=>ab)];exact qF d L
  ·refine⟨n-(i+1),J,i+1,.slice Z (cF i m6++[m6 i]).length IU,.slice IV (cF i ms++[ms i]).length IW,.slice eR (gm (er i q)).length co,rfl,J,by rw[e8],gx,⟨λd=>d=V+1,λd=>d=V+3,yz,?_,?_,?_,?_,?_,?_⟩,g51,qF,J⟩
   ·rw[Ho];exact SA5
   ·rw[Ho];exact SB5
   ·rw[Lq,if_neg ab,hM];exact SC5
   all_goals grind
 ·have:i=n:=J
  subst this;refine(LJ bm ((Xk.gI (ao:=0) (ai:=m1) λd L=>ab).rd) (λx aR=>by unfold er at aR;grind) (by have:=vM i q;omega)).mono ?_;rintro r al V ⟨ba,M,e9⟩;rw[SX]at ba;obtain⟨qG,bZ,rfl,zU⟩:=id ba;have g2:=(M (U+2) J).trans E6;refine a9 @g2 ?_;have c3:=(M (U+1) J).trans g11;refine a9 @c3 ?_;have gO:∀{o aW} d,d≠U+1->d≠U+2->u (F (F al (U+2) o) (U+1) aW) d=u al d:=λd h1 al=>ab
  refine⟨⟨_,_,_,rfl,(Fw.T (pP:=Jz) λd L=>⟨?_,L⟩).gI λd L=>ab,(Cz.T (pP:=Fv) λd L=>⟨?_,L⟩).gI λd L=>ab,⟨qG,bZ,rfl,λeg=>?_⟩⟩,λd L=>?_,J⟩
  ·have:=dg d L;rw[gO d J J,M d J]
  ·have:=aG d L;rw[gO d J J,M d J]
  ·obtain⟨b,aO,bC,de,bO,d6,fQ⟩:=zU eg;exact⟨b,aO,bC,J,bO,d6,ab⟩
  ·rw[gO d J J,M d J];exact hk d L
def tg(k src v:Int):Int:=if k=3 then v else if k=5 then 0 else if k=4/\v=src then 1 else if v=src\/k=4 then 0 else if k=1 then -1 else 4611686018427387904
def th(k src v:Int):ak:=if k=3 then true else if k=5 then false else decide (v=src)
theorem aoD{k n v:Int}{a:av Addr}{c:Nat}{h:ad}{U:Nat}:aD Q s 210 [.agg ⟨[(k:X),(n:X),(src:X),(len:X),.slice a u6 c]⟩,(v:X)] h U (cI (.tuple ⟨[.int .i64 (tg k src v),.bool (th k src v)]⟩) U h):=by
 refine arM ?_;have bF:∀{o},az U h (F h U o):=aC
 have V:∀{w o},cI w U h w (F h U o) (U+1):=⟨rfl,bF,J⟩
 have aG:((v == src):ak)=decide (v=src):=rfl;unfold afr tg th
 by_cases L:k=3
 ·refine a9 @L ?_;exact⟨rfl,bF,J⟩
 by_cases M:k=5
 ·refine cx @L @M ?_;exact⟨rfl,bF,J⟩
 have c3:((k == 3):ak)=false:=ab
 have gx:((k == 5):ak)=false:=ab
 by_cases ar:v=src <;> by_cases bc:k=4
 ·refine vR @L @M @bc @ar @aG ?_;unfold Dd;refine aB ?_;simp[V]
 ·have Z:((k == 4):ak)=false:=ab
  simp(disch:=omega)only[bd,L,M,bc,ar,aG,c3,Z,gx,seval];unfold Dd;refine aB ?_;simp[V]
 ·refine vR @L @M @bc @ar @aG ?_;unfold Dd;refine aB ?_;simp[V]
 ·have Z:((k == 4):ak)=false:=ab
  simp(disch:=omega)only[bd,L,M,bc,ar,aG,c3,Z,gx,seval];unfold Dd abB
  by_cases h1:k=1
  ·refine a9 @h1 ?_;simp[V]
  ·have br:((k == 1):ak)=false:=ab
   refine hw @h1 @br @Z ?_;simp[V]
theorem alt{k n:Int}{a:av Addr}{c L:Nat}{dJ gg:ak}{h:ad}{U:Nat}(h1:u h L=some (.cells [(k:X),(n:X),(src:X),(len:X),.slice a u6 c] dJ))(M:u h pl=some (.cells [(low:X)] gg))(ai:i<10000)(bg:0<=low/\low<10000):
  aD Q s 209 [(i:X),bb L,bb pl] h U (λr ac Y=>r = .tuple ⟨[.int .i64 (tg k src (low+i)),.int .i64 (-1),.bool (th k src (low+i))]⟩/\az U h ac/\U<=Y):=by
 refine bS ?_;have Z:IntKind.wrap .i64 (low+(i:Int))=low+i:=by
  obtain⟨m,rfl⟩:∃m:Nat,low=m:=⟨low.toNat,J⟩
  exact js (m+i) J
 refine hw @h1 @M @Z ?_;refine aoD.mono ?_;rintro r aM bR ⟨rfl,hk,V⟩;refine aB ?_;exact aC
theorem mb.wid{h ac:ad}{ao ai ed da:Nat}{v:X}{n:Nat}{q:Nat->ak}(ar:mb h ao ai v low mG n A B q)(M:∀d,ao<=d->d<ai->u ac d=u h d)(V:ed<=ao)(L:ai<=da):mb ac ed da v low mG n A B q:=by obtain⟨cY,fJ,Z,e,a,b,c⟩:=ar;exact⟨cY,fJ,Z,e,eZ.T a M V L,eZ.T b M V L,eZ.T c M V L⟩
theorem aoE{k n:Int}{low:Nat}{v:X}{h:ad}{U:Nat}(aI:cN h U v cG bt)(bv:gR k n src len bt=0)(hm:m<=63)(ft:((low+m:Nat):Int)<=n)(bm:n<=4096):
  aD Q s 125 [.agg ⟨[(k:X),(n:X),(src:X),(len:X),v]⟩,(low:X),((low+m:Nat):X)] h U (λr ac Y=>mb ac U Y r low ((low+m:Nat):Int) m (cF m λi=>tg k src (low+i)) (cF m λ_=>-1) (λi=>th k src (low+i))/\az U h ac/\U<=Y):=by
 refine arI ?_;obtain⟨a,cap,rfl,aU⟩:=id aI;have bF:∀{o aW kQ},az U h (F (F (F h U o) (U+1) aW) (U+2) kQ):=aC
 unfold afp;refine aB ?_;refine(Ky (aI.T bF J)).mono ?_;rintro _ h1 a6 ⟨rfl,L,fp⟩;have br:=L (U+1) J;rw[aq J,aN]at br;have b7:=L U J;rw[aq J,aq J,aN]at b7;have V:=L (U+2) J;rw[aN]at V;refine j6 @bv @b7 @br @V ?_;refine⟨λh=>absurd h J,λ_=>⟨λh=>absurd h J,λ_=>?_⟩⟩;rw[show decide (n<((low+m:Nat):Int))=false from f9 J];unfold GA;have e8:IntKind.wrap .i64 (((low+m:Nat):Int)-(low:Int))=(m:Int):=by rw[show((low+m:Nat):Int)-(low:Int)=(m:Int) by omega];exact js m J
 refine j6 @b7 @br @V @e8 ?_;refine(Z3 (m6:=λi=>tg k src (low+i)) (ms:=λ_=>-1) (q:=λi=>th k src (low+i)) hm λi ac Y ai M xA=>?_).mono ?_
 ·exact alt  (gg:=false) ((M U J).trans (by rw[aq J,aq J];omega)) ((M (U+1) J).trans ab) J J
 rintro r aM bR ⟨dW,ek,hr⟩;have Z:=dW;obtain⟨cY,fJ,ei,rfl,fE,gJ,gq⟩:=dW;obtain⟨ax,c1,rfl,_⟩:=id fE;obtain⟨a2,c2,rfl,_⟩:=id gJ;obtain⟨a3,cm,rfl,_⟩:=id gq;have c3:=ek (U+2) J;rw[aq J,aq J,V]at c3;refine a9 @c3 ?_;exact⟨Z.wid ab J J,aC,J⟩
def hP(h:ad)(U:Nat)(v:X)(low mG:Int)(n:Nat)(A B:aa Int)(q:Nat->ak):Prop :=
 ∃cY fJ ei,v = .agg ⟨[(low:X),(mG:X),cY,fJ,ei]⟩/\cN h U cY cG A/\cN h U fJ cG B/\cN h U ei kq (eU n q)
theorem mb.rd{h:ad}{ao ai:Nat}{v:X}{low mG:Int}{n:Nat}{A B:aa Int}{q:Nat->ak}(L:mb h ao ai v low mG n A B q):hP h ai v low mG n A B q:=by obtain⟨Z,V,M,e,a,b,c⟩:=L;exact⟨Z,V,M,e,a.rd,b.rd,c.rd⟩
theorem hP.T{h ac:ad}{U Y:Nat}{v:X}{low mG:Int}{n:Nat}{A B:aa Int}{q:Nat->ak}(Z:hP h U v low mG n A B q)(M:az U h ac)(L:U<=Y):hP ac Y v low mG n A B q:=by obtain⟨cY,fJ,V,e,a,b,c⟩:=Z;exact⟨cY,fJ,V,e,a.T M L,b.T M L,c.T M L⟩
theorem auD{k n:Int}{low:Nat}{q:Nat->ak}{v:X}{h:ad}{U:Nat}(aI:cN h U v cG bt)(bv:gR k n src len bt=0)(hm:m<=63)(ft:((low+m:Nat):Int)<=n)(bm:n<=4096)(ar:hP h U aE low ((low+m:Nat):Int) m A B q)(hY:A.length=m)(dZ:B.length=m):
  aD Q s 371 [.agg ⟨[(k:X),(n:X),(src:X),(len:X),v]⟩,aE] h U (cI (.bool true) U h):=by
 refine awu ?_;obtain⟨a,cap,rfl,aU⟩:=id aI;obtain⟨cY,fJ,ei,rfl,fE,gJ,gq⟩:=ar;obtain⟨ax,c1,rfl,_⟩:=id fE;obtain⟨a2,c2,rfl,_⟩:=id gJ;obtain⟨a3,cm,rfl,_⟩:=id gq;have bF:∀{o aW},az U h (F (F h U o) (U+1) aW):=aC
 unfold ahF;refine aB ?_;refine(Ky (aI.T bF J)).mono ?_;rintro _ h1 a6 ⟨rfl,L,fp⟩;have M:=L (U+1) J;rw[aN]at M;have V:=L U J;rw[aq J,aN]at V;refine hw @bv @V @M ?_;refine⟨λh=>absurd h J,λ_=>⟨λh=>absurd h J,λ_=>?_⟩⟩;rw[show decide (n<((low+m:Nat):Int))=false from f9 J];unfold Hn;have e8:IntKind.wrap .i64 (((low+m:Nat):Int)-(low:Int))=(m:Int):=by rw[show((low+m:Nat):Int)-(low:Int)=(m:Int) by omega];exact js m J
 refine vR @V @M @e8 @hY @dZ ?_;have cD:az U h h1:=aC
 refine⟨λ_=>⟨λ_=>?_,λh=>absurd h (by simp)⟩,λh=>absurd h (by simp)⟩;refine(Z2 hm (gq.T  cD J)).mono ?_;rintro r al bH ⟨rfl,dE,Z⟩;exact⟨rfl,aC,J⟩
theorem Lr{k n:Int}{low:Nat}{q:Nat->ak}{v:X}{h:ad}{U:Nat}(Z:cN h U v cG bt)(bv:gR k n src len bt=0)(hm:m<=63)(ft:((low+m:Nat):Int)<=n)(bm:n<=4096)(ar:hP h U aE low ((low+m:Nat):Int) m A B q)(hY:A.length=m)(dZ:B.length=m):
  aD Q s 299 [.agg ⟨[(k:X),(n:X),(src:X),(len:X),v]⟩,aE] h U (cI aE U h):=by
 refine bS ?_;obtain⟨a,cap,rfl,aU⟩:=id Z;have M:=ar;obtain⟨cY,fJ,ei,rfl,fE,gJ,gq⟩:=ar;obtain⟨ax,c1,rfl,_⟩:=id fE;obtain⟨a2,c2,rfl,_⟩:=id gJ;obtain⟨a3,cm,rfl,_⟩:=id gq;have bF:∀{o aW kQ},az U h (F (F (F h U o) (U+1) aW) (U+2) kQ):=aC
 refine aB ?_;refine(auD (Z.T bF J) bv hm ft bm (M.T bF J) hY dZ).mono ?_;rintro _ h1 a6 ⟨rfl,L,V⟩;have br:=L (U+1) J;rw[aq J,aN]at br;have g2:=L (U+2) J;rw[aN]at g2;refine cx @br @g2 ?_;exact⟨rfl,aC,J⟩
def q9(k len round:Int)(m:Nat)(A:aa Int)(q:Nat->ak):Nat:=if k=4/\len<=round then 0 else if k=5 then(A.filter λa=>a == 0).length else(er m q).length
def LvJ(cY:X)(A:aa Int)(h:ad)(U:Nat)(m:Nat)(aE:aa X)(ac:ad)(Y:Nat):Prop :=
 ∃i,m=A.length-i/\i<=A.length/\aE=[.int .i64 (((A.take i).filter λa=>a == 0).length:Int),cY,(A.length:X),(i:X)]/\ac=h/\Y=U
theorem ar8{k n round:Int}{low:Nat}{q:Nat->ak}{v:X}{h:ad}{U:Nat}(aI:cN h U v cG bt)(bv:gR k n src len bt=0)(hm:m<=63)(ft:((low+m:Nat):Int)<=n)(bm:n<=4096)(ar:hP h U aE low ((low+m:Nat):Int) m A B q)(hY:A.length=m)(dZ:B.length=m):
  aD Q s 212 [.agg ⟨[(k:X),(n:X),(src:X),(len:X),v]⟩,aE,(round:X)] h U (cI (.int .i64 (q9 k len round m A q:Int)) U h):=by
 refine auv ?_;obtain⟨a,cap,rfl,aU⟩:=id aI;have oS:=ar;obtain⟨cY,fJ,ei,rfl,fE,gJ,gq⟩:=ar;obtain⟨ax,c1,rfl,rm⟩:=id fE;obtain⟨a2,c2,rfl,_⟩:=id gJ;obtain⟨a3,cm,rfl,_⟩:=id gq;have bF:∀{o aW},az U h (F (F h U o) (U+1) aW):=aC
 unfold agD;refine nU ?_;refine(Lr (aI.T bF J) bv hm ft bm (oS.T bF J) hY dZ).mono ?_;rintro _ h1 a6 ⟨rfl,L,fp⟩;have b7:=L U J;rw[aq J,aN]at b7;have br:=L (U+1) J;rw[aN]at br;refine uj @b7 @br ?_;have V:∀{o},az U h (F h1 (U+1) o):=aC
 have he:∀{o},aD Q s 111 [.slice a3 (eU m q).length cm] (F h1 (U+1) o) a6 (cI (.int .i64 ((er m q).length:Int)) U h):=λ{o}=>by refine(als hm (gq.T  V J)).mono ?_;rintro r al bH ⟨rfl,rfl,rfl⟩;exact⟨rfl,V,J⟩
 unfold q9
 by_cases bc:k=4
 ·refine mA @bc ?_;refine⟨λba=>?_,λba=>?_⟩
  ·rw[if_pos (J:len<=round)];exact⟨rfl,V,J⟩
  ·rw[if_neg (J:¬len<=round),if_neg (J:¬(4:Int)=5)];exact he
 ·have dK:((k == 4):ak)=false:=ab
  by_cases bP:k=5
  ·refine Tk @bc @dK @bP ?_;refine bq.mk (LvJ (.slice ax A.length c1) A (F h1 (U+1) (.cells [(low:X),((low+m:Nat):X),.slice ax A.length c1,.slice a2 B.length c2,.slice a3 (eU m q).length cm] false)) a6) A.length ⟨0,J,J,rfl,rfl,rfl⟩ ?_;rintro _ _ ac Y ⟨i,rfl,ai,rfl,aY,aJ⟩;rw[arN,aY,aJ];unfold adE;refine nU ?_;refine⟨λci=>?_,λeh=>?_⟩
   ·obtain⟨x,aR⟩:=dk ci;obtain⟨_,bO,mK,bC,_,fa,ce,M⟩:=fE.at aR;cases ce;rw[h2]at M;have hgx:=(V (o:=.cells [(low:X),((low+m:Nat):X),.slice (some ⟨bO,0,mK⟩) A.length c1,.slice a2 B.length c2,.slice a3 (eU m q).length cm] false) bO fa).trans M;have es:((A.take (i+1)).filter λa=>a == 0).length=((A.take i).filter λa=>a == 0).length+(if x == 0 then 1 else 0):=by
     rw[gQ,aR,rJ,jb]
     grind
    have VY:IntKind.wrap .i64 ((i:Int)+1)=((i+1:Nat):Int):=cn J;have oW:=yF (λa=>a == (0:Int)) (A.take i);have hft:(A.take i).length=i:=ab
    have Z:IntKind.wrap .i64 ((((A.take i).filter λa=>a == 0).length:Int)+1)=((((A.take i).filter λa=>a == 0).length+1:Nat):Int):=cn J;simp(disch:=omega)only[bd,↓reduceIte,Nat.reduceAdd,Nat.reduceSub,Nat.reduceMul,Nat.reduceLT,Nat.reduceLeDiff,Nat.reduceEqDiff,Int.reduceBEq,Int.reduceLT,Int.reduceNeg,hgx,iz aR,VY,Z];refine⟨λap=>?_,λap=>?_⟩
    ·refine⟨A.length-(i+1),J,i+1,rfl,J,?_,rfl,rfl⟩;rw[es,if_pos ap]
    ·refine⟨A.length-(i+1),J,i+1,rfl,J,?_,rfl,rfl⟩
     grind
   ·have:i=A.length:=J
    subst this;rw[ht,if_neg J];exact⟨rfl,V,J⟩
  ·have gx:((k == 5):ak)=false:=ab
   refine L0 @bc @dK @bP @gx ?_;rw[if_neg (λh=>h.1)];exact he
theorem alu{n:Nat}{h:ad}{U:Nat}(M:1<=n)(L:n<=8):aD Q s 220 [(n:X)] h U (fm (.bool true) U h):=by
 refine bS ?_;refine aB ?_;refine⟨λ_=>⟨?_,rfl,rfl⟩,λh=>absurd h J⟩
 grind
theorem alv{h:ad}{U:Nat}(Z:1<=C)(L:C<=8)(ai:i<8)(bM:j<C):aD Q s 311 [(C:X),(i:X),(j:X)] h U (fm (((i*C+j:Nat):X)) U h):=by
 refine aof ?_;refine(alu Z L).mono ?_;rintro _ _ _ ⟨rfl,rfl,rfl⟩;have aG:i*C<64:=by have:i*C<=7*8:=sT J L;omega
 have V:IntKind.wrap .i64 ((i:Int)*(C:Int))=((i*C:Nat):Int):=by rw[<-Int.natCast_mul];exact js _ J
 have M:IntKind.wrap .i64 (((i*C:Nat):Int)+(j:Int))=((i*C+j:Nat):Int):=by rw[<-wH];exact js _ J
 refine aB ?_;unfold C4;refine cx @V @M ?_;refine⟨λh=>absurd h J,λ_=>⟨λh=>absurd h J,λ_=>⟨λh=>absurd h J,λ_=>⟨λh=>absurd h J,λ_=>?_⟩⟩⟩⟩;rw[AS,V];simp only[ag,Q7,M];exact⟨rfl,rfl,rfl⟩
def dt(c:Nat->X):aa X:=[c 0,c 1,c 2,c 3,c 4,c 5,c 6,c 7,c 8,c 9,c 10,c 11,c 12,c 13,c 14,c 15,c 16,c 17,c 18,c 19,c 20,c 21,c 22,c 23,c 24,c 25,c 26,c 27,c 28,c 29,c 30,c 31,c 32,c 33,c 34,c 35,c 36,c 37,c 38,c 39,c 40,c 41,c 42,c 43,c 44]
def hK(c:Nat->X)(k:Nat)(v:X):Nat->X:=λn=>if n=k then v else c n
structure eE where
 kind:Int
 e5:Int
 md:Int
 hZ:Int
 round:Int
 mr:Int
 bf:av Addr
 n6:Nat
 hD:Nat
 aZ:av Addr
 n7:Nat
 jm:Nat
 bo:av Addr
 n8:Nat
 hE:Nat
 n:Int
 oO:ak
def ef(f:eE):aa X:=[(f.kind:X),(f.e5:X),(f.md:X),(f.hZ:X),(f.round:X),(f.mr:X),.slice f.bf f.n6 f.hD,.slice f.aZ f.n7 f.jm,.slice f.bo f.n8 f.hE,(f.n:X),.bool f.oO]
theorem Gh{L:Nat}{h:ad}{U:Nat}(M:u h L=some (.cells (dt c) bC))(V:1<=C)(Z:C<=8)(ai:i<8)(bM:j<C)(aU:c 8 = (C:X)):aD Q s 219 [bb L,(i:X),(j:X)] h U (fm (((i*C+j:Nat):X)) U h):=by refine bS ?_;unfold dt at M;refine cx @M @aU ?_;exact alv V Z ai bM
theorem ar9{V jT z2 z3 z4 M CA sM JA Z L:X}:qY (pk []) 0 11 [a0,ax,a2,a3,aV,bl,bf,aZ,bo,cH,cZ] [V,jT,z2,z3,z4,M,CA,sM,JA,Z,L] = .ok [a0,ax,a2,a3,aV,bl,bf,aZ,bo,cH,cZ]:=rfl
def DK(IX:Int)(round n:Int)(oO:ak):eE:=⟨4,IX,0,0,round,0,none,0,0,none,0,0,none,0,0,n,oO⟩
theorem aym{x y:GE}(h:i3 (di x) (di y)):nq x y:=by
 rcases h with h|⟨L,M⟩
 ·exact .inl (by have:(x.f:Int)<y.f:=h;omega)
 ·exact .inr ⟨by have:(x.f:Int)=y.f:=L;omega,by have:(x.t:Int)<y.t:=M;omega⟩
theorem asa{gs:aa GE}{N:Nat}(h:jd (gs.map di) (af.map di))(L:∀g∈af,fy N g)(V:N<=4096)(Z:af.length<=120):hJ N N af :=
 ⟨(yJ.1 h.up).imp aym,λg M=>(L g M).1,λg M=>(L g M).2.1,V,V,Z⟩
theorem auE{h:ad}{U n k:Nat}{rd:ak}{l:aa X}(M:0<k)(bm:l.length=n*k)(bu:u h b=some (.cells cs rd))(L:u h bO=some (.cells l bC))(ap:0<n)(h1:n*k<1000000):
  dv k h U (.slice (some ⟨b,0,none⟩) 0 0) (.slice (some ⟨bO,0,mK⟩) n c2) = .ok (.val (.slice (some ⟨U,0,some k⟩) n n) (F h U (.cells l false)) (U+1)):=by
 have Z:n<=n*k:=CL n M;have V:jV h (some ⟨bO,0,mK⟩) (n.mul k) (λnew=>gt k h U (some ⟨b,0,none⟩) 0 0 n new)=gt k h U (some ⟨b,0,none⟩) 0 0 n l:=by
  rw[show n.mul k=l.length from bm.symm,sX L J J]
  grind
 show jV h (some ⟨bO,0,mK⟩) (n.mul k) (λnew=>gt k h U (some ⟨b,0,none⟩) 0 0 n new)=_;rw[V];unfold gt;rw[show Nat.ble (Nat.add 0 n) 0=false by
  cases L:Nat.ble (Nat.add 0 n) 0 with
  |false=>rfl
  |true=>have:=l6 L;grind]
 rw[show(Nat.ble (Nat.mul (Nat.add 0 n) k) 1000000&&Nat.ble (Nat.add 0 n) 1000000)=true by
  simp only[eD,sU]
  grind]
 unfold p5;simp only[vp bu];rw[show nh (Nat.mul 0 k) (na cs 0)=some [] by rw[yO,mx];rfl];show p4 h U k (k3 [] l) (0+n)=_;rw[kk,tU,ix];exact pZ M
def zA(c:Int × Int):aa X:=[(c.1:X),(c.2:X)]
theorem aoF(l:aa (Int × Int)):(a1 zA l).length=l.length*2:=by
 induction l with
 |nil=>rfl
 |cons x l L=>show(zA x++a1 zA l).length=_;rw[jb,L,nM];show 2+_=_;omega
theorem ayn:nQ Tryz.prog 43=true:=by kernel_rfl
theorem aoG{h:ad}{U:Nat}{v:X}{l:aa (Int × Int)}(Z:cN h U v zA l)(bg:l.length<100000):
  aD Q s 122 [v] h U (λr ac Y=>eZ ac U Y r zA l/\az U h ac/\U<=Y):=by
 refine bS ?_;obtain⟨a,cap,rfl,aU⟩:=id Z;simp(disch:=omega)only[bd,y3 ayn,seval];refine⟨λM=>⟨?_,aC⟩,λM=>?_⟩
 ·have:l=[]:=ab
  subst this;exact⟨none,0,rfl,λh=>absurd rfl h⟩
 have L:az U h (F h U (.cells [] false)):=aC
 rcases Kc (l=[])with e|e
 ·subst e;exact⟨⟨some ⟨U,0,none⟩,0,rfl,λh=>absurd rfl h⟩,L,J⟩
 ·obtain⟨b,aO,bC,aG,rfl,V⟩:=aU e;rw[auE  J (aoF _) (aN _ _ _) ((L b aG).trans V) ab J];exact⟨⟨some ⟨U+1,0,some 2⟩,l.length,rfl,λ_=>⟨U+1,some 2,false,J,J,rfl,ab⟩⟩,aC,J⟩
theorem asb{x:iZ}(h:gl x=0):iB x.k x.n x.src x.len x.bt x.bI x.es=0/\gR x.k x.n x.src x.len x.bt=0/\x.bI=x.n/\0<=x.n/\x.n<=4096/\1<=x.R/\x.R<=8/\1<=x.C/\x.C<=8/\x.uR<=8192:=by
 unfold gl at h
 by_cases Z:nj x.k x.n x.src x.len x.bt x.bI x.es x.lim=0
 case neg=>omega
 rw[if_neg J]at h;have M:jQ x.R 8=true:=ab
 have V:jQ x.C 8=true:=ab
 have jn:jQ x.M 64=true:=ab
 rw[M,V,jn,if_neg (by simp),if_neg (by simp),if_neg (by simp)]at h;have M:=of_decide_eq_true M;have V:=of_decide_eq_true V;have L:iB x.k x.n x.src x.len x.bt x.bI x.es=0:=by unfold nj at Z;omega
 have bv:gR x.k x.n x.src x.len x.bt=0:=by unfold iB at L;omega
 unfold iB at L ⊢;rw[if_neg J]at L ⊢
 by_cases e:x.bI=x.n
 case neg=>omega
 rw[if_neg J]at L ⊢;have ba:=L;unfold gr at ba;omega
def IY(I eI k n src len:Int)(bp:av Addr)(u6 hn:Nat)(R C lim:Int)(bV:av Addr)(yy ge:Nat):Nat->X
 |0=>.int .i64 I
 |1=>.int .i64 eI
 |2=>.int .i64 k
 |3=>.int .i64 n
 |4=>.int .i64 src
 |5=>.int .i64 len
 |6=>.slice bp u6 hn
 |7=>.int .i64 R
 |8=>.int .i64 C
 |9=>.int .i64 lim
 |10=>.slice bV yy ge
 |11=>.int .i64 0
 |12=>.int .i64 0
 |13=>.slice none 0 0
 |14=>.slice none 0 0
 |15=>.slice none 0 0
 |16=>.int .i64 0
 |17=>.int .i64 0
 |18=>.slice none 0 0
 |19=>.slice none 0 0
 |20=>.slice none 0 0
 |21=>.slice none 0 0
 |22=>.slice none 0 0
 |23=>.int .i64 1
 |24=>.map none
 |25=>.int .i64 1
 |26=>.int .i64 0
 |27=>.int .i64 0
 |28=>.int .i64 0
 |29=>.int .i64 0
 |30=>.slice none 0 0
 |31=>.slice none 0 0
 |32=>.slice none 0 0
 |33=>.int .i64 0
 |34=>.int .i64 0
 |35=>.slice none 0 0
 |36=>.slice none 0 0
 |37=>.slice none 0 0
 |38=>.bool false
 |39=>.bool false
 |40=>.slice none 0 0
 |41=>.map none
 |42=>.int .i64 0
 |43=>.map none
 |44=>.bool false
 |_=>.bool false
theorem aoH{I k n R C:Int}:((qY (pk [(7,2,Value.agg ⟨[(R:X),(C:X)]⟩),(9,1,(lim:X)),(10,1,.slice bV yy ge),(23,1,.int .i64 1),(25,1,.int .i64 1)]) 2 5 [(k:X),(n:X),(src:X),(len:X),.slice bp u6 hn] [(I:X),(eI:X),.int .i64 0,.int .i64 0,.int .i64 0,.int .i64 0,.slice none 0 0,.int .i64 0,.int .i64 0,.int .i64 0,.slice none 0 0,.int .i64 0,.int .i64 0,.slice none 0 0,.slice none 0 0,.slice none 0 0,.int .i64 0,.int .i64 0,.slice none 0 0,.slice none 0 0,.slice none 0 0,.slice none 0 0,.slice none 0 0,.int .i64 0,.map none,.int .i64 0,.int .i64 0,.int .i64 0,.int .i64 0,.int .i64 0,.slice none 0 0,.slice none 0 0,.slice none 0 0,.int .i64 0,.int .i64 0,.slice none 0 0,.slice none 0 0,.slice none 0 0,.bool false,.bool false,.slice none 0 0,.map none,.int .i64 0,.map none,.bool false]).bind λl=>.ok (Value.agg ⟨l⟩)) = .ok (Value.agg ⟨dt (IY I eI k n src len bp u6 hn R C lim bV yy ge)⟩):=rfl
theorem awA{I k n R C:Int}:c5 (.agg ⟨dt (IY I eI k n src len bp u6 hn R C lim bV yy ge)⟩)=dt (IY I eI k n src len bp u6 hn R C lim bV yy ge):=rfl
theorem awB{I k n R C:Int}:ec (dt (IY I eI k n src len bp u6 hn R C lim bV yy ge))=true:=rfl
def nZ(c:Nat->X)(k:Nat)(l:aa X):Nat->X:=λn=>if k<=n/\n<k+l.length then(l[n-k]?).getD (.bool false)else c n
theorem asc{h:ad}{k:ad->Prop}:ag (jg (some (.cells (dt c) false)) h b 11 [lj,v1,v2,v3,v4]) k↔ec [lj,v1,v2,v3,v4]=true/\k (F h b (.cells (dt (nZ c 11 [lj,v1,v2,v3,v4])) false)):=A2.trans ⟨λx=>⟨x.1,x.2.2⟩,λx=>⟨x.1,by show 16<=45;omega,x.2⟩⟩
theorem ase{h:ad}{L:X}{k:ad->Prop}:ag (jg (some (.cells (dt c) false)) h b 16 [lj,v1,v2,v3,v4,L]) k↔ec [lj,v1,v2,v3,v4,L]=true/\k (F h b (.cells (dt (nZ c 16 [lj,v1,v2,v3,v4,L])) false)):=A2.trans ⟨λx=>⟨x.1,x.2.2⟩,λx=>⟨x.1,by show 22<=45;omega,x.2⟩⟩
theorem asf{h:ad}{k:ad->Prop}:ag (jg (some (.cells (dt c) false)) h b 28 [lj,v1,v2,v3,v4]) k↔ec [lj,v1,v2,v3,v4]=true/\k (F h b (.cells (dt (nZ c 28 [lj,v1,v2,v3,v4])) false)):=A2.trans ⟨λx=>⟨x.1,x.2.2⟩,λx=>⟨x.1,by show 33<=45;omega,x.2⟩⟩
theorem ash{h:ad}{k:ad->Prop}:ag (jg (some (.cells (dt c) false)) h b 33 [lj,v1,v2,v3,v4]) k↔ec [lj,v1,v2,v3,v4]=true/\k (F h b (.cells (dt (nZ c 33 [lj,v1,v2,v3,v4])) false)):=A2.trans ⟨λx=>⟨x.1,x.2.2⟩,λx=>⟨x.1,by show 38<=45;omega,x.2⟩⟩
theorem asi:hF (some 5) 11 (dt (nZ c 11 [lj,v1,v2,v3,v4])) = .ok (.agg ⟨[lj,v1,v2,v3,v4]⟩):=rfl
theorem asj:hF (some 5) 28 (dt (nZ c 28 [lj,v1,v2,v3,v4])) = .ok (.agg ⟨[lj,v1,v2,v3,v4]⟩):=rfl
theorem Hp{c:Nat->X}:(dt c).length=45:=rfl
theorem asl{v:X}:(dt c).set 6 v=dt (hK c 6 v):=rfl
theorem aoI{v:X}:(dt c).set 24 v=dt (hK c 24 v):=rfl
theorem aoJ{v:X}:(dt c).set 41 v=dt (hK c 41 v):=rfl
theorem aoK{v:X}:(dt c).set 43 v=dt (hK c 43 v):=rfl
def eu{aA:Type}(h:ad)(U:Nat)(v:X)(enc:aA->aa X)(k:Nat)(l:aa aA):Prop :=
 ∃a cap,v = .slice a l.length cap/\(l≠[]->∃b o aO bC cs,b<U/\a=some ⟨b,o,aO⟩/\u h b=some (.cells cs bC)/\o+l.length*k<=cs.length/\(cs.drop o).take (l.length*k)=a1 enc l)
section
variable {aA:Type} {h ac:ad} {U Y k:Nat} {v:X} {enc:aA->aa X} {l:aa aA}
theorem eu.T(H:eu h U v enc k l)(hk:az U h ac)(dr:U<=Y):eu ac Y v enc k l:=by obtain⟨a,cap,e,H⟩:=H;refine⟨a,cap,e,λV=>?_⟩;obtain⟨b,o,aO,bC,cs,Z,h1,L,M⟩:=H V;exact⟨b,o,aO,bC,cs,J,h1,(hk b Z).trans L,M⟩
theorem cN.o(M:∀x,(enc x).length=k)(H:cN h U v enc l):eu h U v enc k l:=by
 obtain⟨a,cap,e,H⟩:=H;refine⟨a,cap,e,λL=>?_⟩;obtain⟨b,aO,bC,Z,h1,V⟩:=H L;have:=ga M l
 grind
theorem eu.form(H:eu h U v enc k l):∃a c,v = .slice a l.length c:=by obtain⟨a,cap,e,_⟩:=H;grind
theorem eu.nil{a:av Addr}{c:Nat}:eu h U (.slice a 0 c) enc k ([]:aa aA):=⟨a,c,rfl,λh=>absurd rfl h⟩
theorem O6{o n k:Nat}{l:aa aA}(L:∀x,(enc x).length=k)(bm:n=l.length*k)(M:(cs.drop o).take n=a1 enc l){x:aA}(V:l[i]? = some x):(cs.drop (o+i*k)).take k=enc x:=by
 have Z:=vz L V;rw[<-M,FM,yK,List.take_take]at Z
 grind
theorem eu.ld(H:eu h U v enc k l)(hk:∀x,(enc x).length=k){x:aA}(L:l[i]? = some x):
  ∃b o aO bC cs cap,b<U/\v = .slice (some ⟨b,o,aO⟩) l.length cap/\u h b=some (.cells cs bC)/\hF (some k) (o+i*k) cs = .ok (.agg ⟨enc x⟩):=by obtain⟨a,cap,e,H⟩:=H;obtain⟨b,o,aO,bC,cs,Z,rfl,M,h1,V⟩:=H ab;have ai:=(gE.1 L).1;have:(i+1)*k<=l.length*k:=pU k ai;rw[yN]at this;refine⟨b,o,aO,bC,cs,cap,Z,e,M,?_⟩;rw[qR,if_pos J,O6 hk rfl V L]
theorem eu.ld1{enc:aA->X}(H:eu h U v (λx=>[enc x]) 1 l){x:aA}(aR:l[i]? = some x):
  ∃b o aO bC cs cap,b<U/\v = .slice (some ⟨b,o,aO⟩) l.length cap/\u h b=some (.cells cs bC)/\cs[o+i]? = some (enc x):=by
 obtain⟨a,cap,e,H⟩:=H;obtain⟨b,o,aO,bC,cs,Z,rfl,L,h1,M⟩:=H ab;refine⟨b,o,aO,bC,cs,cap,Z,e,L,?_⟩;have V:=O6  ab rfl M aR;rw[FT]at V;have:((cs.drop (o+i)).take 1)[0]? = some (enc x):=ab
 grind
theorem AG:∀(l m:aa aA),a1 enc (l++m)=a1 enc l++a1 enc m
 | [],m=>rfl
 |x::l,m=>by show enc x++a1 enc (l++m)=(enc x++a1 enc l)++a1 enc m;rw[AG l m,kB]
theorem abM(L:∀x,(enc x).length=k)(l:aa aA)(i j:Nat):((a1 enc l).drop (i*k)).take ((j-i)*k)=a1 enc ((l.drop i).take (j-i)):=by
 have Z:a1 enc l=a1 enc (l.take i)++a1 enc (l.drop i):=by rw[<-AG,FC]
 have V:a1 enc (l.drop i)=a1 enc ((l.drop i).take (j-i))++a1 enc ((l.drop i).drop (j-i)):=by rw[<-AG,FC]
 by_cases ai:i<=l.length
 ·rw[Z,JR (by rw[ga L,ox];grind),OK (by rw[ga L,ox,CR ai];omega),tU]
  by_cases M:j-i<=(l.drop i).length
  ·rw[V,JS (by rw[ga L,ox,CR M];omega),pT (by rw[ga L,ox,CR M];omega)]
  ·rw[pT (l:=l.drop i) J,pT (by rw[ga L];exact pU k J)]
 ·rw[OK (J:l.length<=i),OK (by rw[ga L];exact pU k J)];simp[a1]
theorem asm{o n cap:Nat}(cX:aO≠some 0)(h1:i<=j)(al:j<=n)(aM:n<=cap)(k:Nat):
  ∃Z ge,iY k (.slice (some ⟨b,o,aO⟩) n cap) (some (i:X)) (some (j:X)) none = .ok (.slice Z (j-i) ge)/\(i<j->∃M,Z=some ⟨b,o+i*k,M⟩):=by
 have e:iY k (.slice (some ⟨b,o,aO⟩) n cap) (some (i:X)) (some (j:X)) none=oD k (some ⟨b,o,aO⟩) cap false cap j i:=rfl;rw[e];unfold oD;rw[show(Nat.ble cap cap&&(Nat.ble j cap&&Nat.ble i j))=true by simp;omega];unfold vI
 by_cases e:cap=i
 ·subst e;have V:j=cap:=J
  subst V;rw[tW];unfold lp AO xL MK;cases aO with
  |none=>grind
  |some q =>
   cases q with
   |zero=>grind
   |succ q=>exact⟨_,_,by simp;exact⟨rfl,rfl⟩,λh=>absurd h J⟩
 ·have L:Nat.beq cap i=false:=by
   cases L:Nat.beq cap i with
   |true=>exact absurd (g4 L) e
   |false=>rfl
  rw[L];exact⟨_,_,rfl,λ_=>⟨_,rfl⟩⟩
theorem eu.clone(H:eu h U v enc k l)(hk:∀x,(enc x).length=k)(M:0<k)(bg:l.length*k<1000000){L:aa X}{ro0:ak}(aG:u ac b=some (.cells L ro0))(V:az U h ac)(M1:U<=Y):
  (l=[]/\∃w,(w = .slice none 0 0\/∃b,w = .slice (some ⟨b,0,none⟩) 0 0)/\dv k ac Y (.slice (some ⟨b,0,none⟩) 0 0) v = .ok (.val w ac Y))\/(l≠[]/\dv k ac Y (.slice (some ⟨b,0,none⟩) 0 0) v = .ok (.val (.slice (some ⟨Y,0,some k⟩) l.length l.length) (F ac Y (.cells (a1 enc l) false)) (Y+1))):=by
 obtain⟨a,cap,rfl,H⟩:=H;rcases Kc (l=[])with e|e
 ·subst e;refine .inl ⟨rfl,.slice (some ⟨b,0,none⟩) 0 0,ab,?_⟩;show jV ac a (Nat.mul 0 k) (λnew=>gt k ac Y (some ⟨b,0,none⟩) 0 0 0 new)=_;rw[show Nat.mul 0 k=0 from mx k];rfl
 ·right
  refine⟨e,?_⟩;obtain⟨bO,dI,aO,bC,cs,fa,rfl,Z,h1,al⟩:=H e;have Z:=(V bO fa).trans Z;have ap:=FF.2 e;have VE:l.length<=l.length*k:=CL _ M;have ba:jV ac (some ⟨bO,dI,aO⟩) (l.length.mul k) (λnew=>gt k ac Y (some ⟨b,0,none⟩) 0 0 l.length new)=gt k ac Y (some ⟨b,0,none⟩) 0 0 l.length (a1 enc l):=by
   rw[sX Z ab ab]
   grind
  show jV ac (some ⟨bO,dI,aO⟩) (l.length.mul k) (λnew=>gt k ac Y (some ⟨b,0,none⟩) 0 0 l.length new)=_;rw[ba];unfold gt;rw[show Nat.ble (Nat.add 0 l.length) 0=false by
   cases aG:Nat.ble (Nat.add 0 l.length) 0 with
   |false=>rfl
   |true=>have:=l6 aG;grind]
  rw[show(Nat.ble (Nat.mul (Nat.add 0 l.length) k) 1000000&&Nat.ble (Nat.add 0 l.length) 1000000)=true by
   simp only[eD,sU]
   grind]
  unfold p5;simp only[vp aG];rw[show nh (Nat.mul 0 k) (na L 0)=some [] by rw[yO,mx];rfl];show p4 ac Y k (k3 [] (a1 enc l)) (0+l.length)=_;rw[kk,tU,ix];exact pZ M
def i4{aA:Type}(h:ad)(ao ai:Nat)(v:X)(enc:aA->aa X)(k:Nat)(l:aa aA):Prop :=
 (l=[]/\(v = .slice none 0 0\/∃b,v = .slice (some ⟨b,0,none⟩) 0 0))\/∃b,ao<=b/\b<ai/\v = .slice (some ⟨b,0,some k⟩) l.length l.length/\u h b=some (.cells (a1 enc l) false)
theorem i4.form{ao ai:Nat}(H:i4 h ao ai v enc k l):∃a c,v = .slice a l.length c:=by
 rcases H with⟨rfl,rfl|⟨b,rfl⟩⟩|⟨b,_,_,rfl,_⟩ <;> exact⟨_,_,rfl⟩
theorem i4.gI{ao ai:Nat}(H:i4 h ao ai v enc k l):eZ h ao ai v enc l:=by
 rcases H with⟨rfl,rfl|⟨b,rfl⟩⟩|⟨b,L,V,rfl,M⟩
 ·exact⟨_,_,rfl,λh=>absurd rfl h⟩
 ·exact⟨_,_,rfl,λh=>absurd rfl h⟩
 ·exact⟨_,_,rfl,λ_=>⟨b,_,false,L,V,rfl,M⟩⟩
theorem i4.T{ao ai ed da:Nat}(H:i4 h ao ai v enc k l)(M:∀b,ao<=b->b<ai->u ac b=u h b)(L:ed<=ao)(V:ai<=da):i4 ac ed da v enc k l:=by
 rcases H with H|⟨b,ax,a2,a3,aV⟩
 ·exact .inl H
 ·exact .inr ⟨b,J,J,a3,ab⟩
theorem dX.f{ao ai:Nat}(H:dX h v enc k l ao ai):i4 h ao ai v enc k l:=by
 rcases H with⟨Z,aJ⟩|⟨b,V,M,e,L⟩
 ·exact .inl ab
 ·exact .inr ⟨b,V,M,e,L⟩
theorem adU{P:Program}{t:TypeId}(H:eu h U v enc k l)(hk:∀x,(enc x).length=k)(M:0<k)(bg:l.length*k<1000000)(Z:nQ P t=true)(L:∀r ac Y,i4 ac U Y r enc k l->az U h ac->U<=Y->K r ac Y):
  ag (bin P .eql t v (.slice none 0 0)) λih=>bJ ih (K (.slice none 0 0) h U) (ey (fU 0 [] []) h U λml aM d4=>dB (dS (dv k aM d4 ml v)) λyn b9 n7=>K yn b9 n7):=by
 have sD:=H;obtain⟨a,cap,rfl,iq⟩:=id H;have V:az U h (F h U (.cells [] false)):=aC
 simp(disch:=omega)only[bd,y3 Z,seval];refine⟨λap=>?_,λap=>?_⟩
 ·have:l=[]:=ab
  subst this;exact L _ _ _ (.inl ab) aC J
 rcases sD.clone hk M bg (aN h U (.cells [] false)) V (nP U)with⟨rfl,w,bN,e⟩|⟨aF,e⟩
 ·rw[e];exact L _ _ _ (.inl ab) V J
 ·rw[e];exact L _ _ _ (.inr ⟨U+1,J,J,rfl,ab⟩) aC J
end
def aii:fH:=λs au t1 h U K=>bh s 235 [au,t1] h U λa b c=>cf .geq 3 a (ae 0) λd=>K d b c
theorem aif:fR 141 aii:=fX []
def O9:aa (aa Nat):=[[0,1,4,7,8]]
def XU(s:ak)(a0 ax aV aZ bo:X)(h:ad)(U:Nat)(N:aH)(aF:aH)(R:aH):Prop:=cq bo aZ (ea h 1 a0 bo λc=>gB Q s (jc h U [c] ax) λd e f=>bJ d (R [a0,ax,bo,aZ,bo] e f) (b3 bo λg=>N [a0,ax,aV,aZ,g] e f)) (aF [a0,ax,aV,aZ,bo] h U)
def X6:fH:=λs au t1 h U K=>cQ au λa=>bq (bA Q s O9 235 0) [au,t1,(ae 0),a,(ae 0)] h U [(0,λb c d=>K (ae (-1)) c d)] (λe f g=>K (aQ e 2) f g)
theorem ain{h:ad}{U:Nat}:bA Q s O9 235 0 [a0,ax,aV,aZ,bo] h U N [(0,aF)] R=XU s a0 ax aV aZ bo h U N aF R:=by kernel_rfl
theorem aiu:fR 235 X6:=fX O9
def RP:aa (aa Nat):=[[0,3,4]]
def abN(s:ak)(a0 a3 aV:X)(h:ad)(U:Nat)(N:aH)(aF:aH)(R:aH):Prop:=cQ a0 λa=>cq aV a (ea h 1 a0 aV λd=>ag (min2 true a3 d) λe=>b3 aV λf=>N [a0,e,f] h U) (aF [a0,a3,aV] h U)
def afA:fw:=λs au h U K=>cQ au λa=>cq a (ae 1) (ag (.ok (Value.iface 9 (.string ⟨#[115,108,105,99,101,115,46,77,105,110,58,32,101,109,112,116,121,32,108,105,115,116]⟩))) λc=>False) (ea h 1 au (ae 0) λe=>bq (bA Q s RP 244 0) [au,e,(ae 1)] h U [(0,λf g i=>K (aQ f 1) g i)] (λ_ _ _=>False))
theorem aoL{h:ad}{U:Nat}:bA Q s RP 244 0 [a0,a3,aV] h U N [(0,aF)] R=abN s a0 a3 aV h U N aF R:=by kernel_rfl
theorem asn:fG 244 afA:=fO RP
def aij:fH:=λs au t1 h U K=>bh s 395 [au,t1] h U λa b c=>cf .geq 3 a (ae 0) λd=>K d b c
theorem aig:fR 325 aij:=fX []
def O7:aa (aa Nat):=[[0,1,5,6]]
def XQ(s:ak)(a0 ax bl bf:X)(h:ad)(U:Nat)(N:aH)(aF:aH)(R:aH):Prop:=cQ a0 λa=>cq bf a (hq 3 h 3 a0 bf λd=>cJ [(ae 0),(ae 0),(.int .u64 0)] h U λe f g=>ag (a7 f 3 e d) λi=>a4 3 i e λj=>gB Q s (jc i g [j] ax) λk l m=>ag (d2 .not k) λn=>bJ n (a4 3 l e λo=>f3 3 a0 bl λp=>ag (a7 l 3 p o) λq=>b3 bl λr=>b3 bf λt=>N [a0,ax,r,t] q m) (b3 bf λaT=>N [a0,ax,bl,aT] l m)) (aF [a0,ax,bl,bf] h U)
def aiv:fH:=λs au t1 h U K=>bh s 396 [au,t1] h U λa b c=>bT .eql 3 a (ae (-1)) (K au b c) (b3 a λe=>bq (bA Q s O7 332 0) [au,t1,a,e] b c [(0,λf g i=>ag (iY 3 (aQ f 0) (some (aQ f 2)) none none) λj=>dB (dS (sV Q .clear [98] g i [j])) λk l m=>ag (iY 3 (aQ f 0) none (some (aQ f 2)) none) λn=>K n l m)] (λ_ _ _=>False))
theorem aik{h:ad}{U:Nat}:bA Q s O7 332 0 [a0,ax,bl,bf] h U N [(0,aF)] R=XQ s a0 ax bl bf h U N aF R:=by kernel_rfl
theorem aio:fR 332 aiv:=fX O7
def ail:fH:=λs au t1 h U K=>bh s 444 [au,t1] h U λa b c=>cf .geq 3 a (ae 0) λd=>K d b c
theorem aih:fR 385 ail:=fX []
def RQ:aa (aa Nat):=[[2,3,4,8,9,10]]
def abO(s:ak)(a2 a3 aV bo cH cZ:X)(h:ad)(U:Nat)(N:aH)(aF:aH)(R:aH):Prop:=cq cZ cH (hq 2 h 2 bo cZ λc=>cJ [(ae 0),aS] h U λd e f=>ag (a7 e 2 d c) λg=>ay g 0 aV λj=>cJ [(ae 0)] g f λk l m=>ag (a7 l 1 k j) λn=>a4 2 n d λo=>ag (.ok (.func (.func 446) ⟨[]⟩ ⟨[k]⟩)) λp=>bh s 445 [o,p] n m λq r t=>ag (a7 r 2 d q) λaT=>ay aT 0 d λw=>ay aT 0 aV λy=>cf .sub 3 (ae 4096) y λz=>kA w z (ag (c8 [(ae 0),aS] []) λch=>ag (a7 aT 2 a2 ch) λbV=>R [a2,(ae 5),aV,bo,cH,cZ] bV t) (ay aT 1 aV λb2=>ay aT 1 d λbU=>dB (dS (dv 2 aT t b2 bU)) λdj cP d0=>t<=d0/\b4 0 aV λdH=>dc cP dH λeM=>eX dH eM (b4 0 d λam=>dc cP am λan=>eX am an (o6 eM an λeR=>ag (c8 [(ae 0),aS] [(0,1,eR),(1,1,dj)]) λgM=>ag (a7 cP 2 aV gM) λhC=>b3 cZ λhL=>N [a2,a3,aV,bo,cH,hL] hC d0) 1 [aT]) 1 [aT])) (aF [a2,a3,aV,bo,cH,cZ] h U)
def afB:fw:=λs au h U K=>cJ [(ae 0),aS] h U λa b c=>cJ [(ae 0),aS] b c λd e f=>cQ au λg=>bq (bA Q s RQ 387 0) [a,(ae 0),d,au,g,(ae 0)] e f [(0,λi j k=>a4 2 j (aQ i 2) λl=>ag (a7 j 2 (aQ i 0) l) λm=>a4 2 m (aQ i 0) λn=>K (.tuple ⟨[n,(ae 0)]⟩) m k)] (λo p q=>a4 2 p (aQ o 0) λr=>K (.tuple ⟨[r,(aQ o 1)]⟩) p q)
theorem aoM{h:ad}{U:Nat}:bA Q s RQ 387 0 [a2,a3,aV,bo,cH,cZ] h U N [(0,aF)] R=abO s a2 a3 aV bo cH cZ h U N aF R:=by kernel_rfl
theorem aso:fG 387 afB:=fO RQ
def PY:aa (aa Nat):=[[3,8,9,10]]
def YY(s:ak)(a3 bo cH cZ:X)(h:ad)(U:Nat)(N:aH)(aF:aH)(R:aH):Prop:=cq cZ cH (hq 2 h 2 bo cZ λc=>cJ [(ae 0),(ae 0)] h U λd e f=>ag (a7 e 2 d c) λg=>ay g 0 d λj=>ey (fU 1 [(ae 0)] [(0,1,j)]) g f λk l m=>dB (dS (dv 1 l m a3 k)) λn o p=>b3 cZ λq=>N [n,bo,cH,q] o p) (aF [a3,bo,cH,cZ] h U)
def abP:fw:=λs au h U K=>cK au h U λa b c=>a4 2 b a λd=>bh s 447 [d] b c λe f g=>ag (Bk 1 none e) λi=>cQ i λj=>bq (bA Q s PY 389 0) [aS,i,j,(ae 0)] f g [(0,λk l m=>K (aQ k 0) l m)] (λ_ _ _=>False)
theorem ajL{h:ad}{U:Nat}:bA Q s PY 389 0 [a3,bo,cH,cZ] h U N [(0,aF)] R=YY s a3 bo cH cZ h U N aF R:=by kernel_rfl
theorem alw:fG 389 abP:=fO PY
def RR:aa (aa Nat):=[[2,5,11,12,13]]
def abQ(s:ak)(a2 bl dO dT hW:X)(h:ad)(U:Nat)(N:aH)(aF:aH)(R:aH):Prop:=cq hW dT (ea h 1 dO hW λc=>a4 6 h a2 λd=>bh s 449 [d,c] h U λe f g=>bT .geq 3 e (ae 0) (ay f 3 a2 λk=>b3 e λl=>ea f 1 k l λn=>ay f 3 a2 λp=>ea f 1 p e λr=>cf .sub 3 n r λt=>o6 bl t λaT=>b3 hW λv=>N [a2,aT,dO,dT,v] f g) (b3 hW λw=>N [a2,bl,dO,dT,w] f g)) (aF [a2,bl,dO,dT,hW] h U)
def afC:fH:=λs au t1 h U K=>cK au h U λa b c=>a4 6 b a λd=>bh s 448 [d] b c λe f g=>ag (a7 f 6 a e) λi=>cQ t1 λj=>bq (bA Q s RR 390 0) [a,(ae 0),t1,j,(ae 0)] i g [(0,λk l m=>K (aQ k 1) l m)] (λ_ _ _=>False)
theorem aoN{L V M:X}{h:ad}{U:Nat}:bA Q s RR 390 0 [a2,bl,L,V,M] h U N [(0,aF)] R=abQ s a2 bl L V M h U N aF R:=by kernel_rfl
theorem asp:fR 390 afC:=fX RR
def Pa:aa (aa Nat):=[[0,1,4,7,8]]
def XV(s:ak)(a0 ax aV aZ bo:X)(h:ad)(U:Nat)(N:aH)(aF:aH)(R:aH):Prop:=cq bo aZ (ea h 1 a0 bo λc=>gB Q s (jc h U [c] ax) λd e f=>bJ d (R [a0,ax,bo,aZ,bo] e f) (b3 bo λg=>N [a0,ax,aV,aZ,g] e f)) (aF [a0,ax,aV,aZ,bo] h U)
def X7:fH:=λs au t1 h U K=>cQ au λa=>bq (bA Q s Pa 395 0) [au,t1,(ae 0),a,(ae 0)] h U [(0,λb c d=>K (ae (-1)) c d)] (λe f g=>K (aQ e 2) f g)
theorem aip{h:ad}{U:Nat}:bA Q s Pa 395 0 [a0,ax,aV,aZ,bo] h U N [(0,aF)] R=XV s a0 ax aV aZ bo h U N aF R:=by kernel_rfl
theorem aiw:fR 395 X7:=fX Pa
def Pb:aa (aa Nat):=[[0,1,4,7,8]]
def O8(s:ak)(a0 ax aV aZ bo:X)(h:ad)(U:Nat)(N:aH)(aF:aH)(R:aH):Prop:=cq bo aZ (hq 3 h 3 a0 bo λc=>gB Q s (jc h U [c] ax) λd e f=>bJ d (R [a0,ax,bo,aZ,bo] e f) (b3 bo λg=>N [a0,ax,aV,aZ,g] e f)) (aF [a0,ax,aV,aZ,bo] h U)
def Pe:fH:=λs au t1 h U K=>cQ au λa=>bq (bA Q s Pb 396 0) [au,t1,(ae 0),a,(ae 0)] h U [(0,λb c d=>K (ae (-1)) c d)] (λe f g=>K (aQ e 2) f g)
theorem XW{h:ad}{U:Nat}:bA Q s Pb 396 0 [a0,ax,aV,aZ,bo] h U N [(0,aF)] R=O8 s a0 ax aV aZ bo h U N aF R:=by kernel_rfl
theorem X0:fR 396 Pe:=fX Pb
def Pc:aa (aa Nat):=[[0,1,4,7,8]]
def XX(s:ak)(a0 ax aV aZ bo:X)(h:ad)(U:Nat)(N:aH)(aF:aH)(R:aH):Prop:=cq bo aZ (hq 2 h 2 a0 bo λc=>gB Q s (jc h U [c] ax) λd e f=>bJ d (R [a0,ax,bo,aZ,bo] e f) (b3 bo λg=>N [a0,ax,aV,aZ,g] e f)) (aF [a0,ax,aV,aZ,bo] h U)
def X8:fH:=λs au t1 h U K=>cQ au λa=>bq (bA Q s Pc 444 0) [au,t1,(ae 0),a,(ae 0)] h U [(0,λb c d=>K (ae (-1)) c d)] (λe f g=>K (aQ e 2) f g)
theorem aiq{h:ad}{U:Nat}:bA Q s Pc 444 0 [a0,ax,aV,aZ,bo] h U N [(0,aF)] R=XX s a0 ax aV aZ bo h U N aF R:=by kernel_rfl
theorem aix:fR 444 X8:=fX Pc
def RS:aa (aa Nat):=[[1,4,5,17,18,19]]
def abR(s:ak)(ax aV bl k8 lT n2:X)(h:ad)(U:Nat)(N:aH)(aF:aH)(R:aH):Prop:=cq n2 lT (hq 2 h 2 k8 n2 λc=>cJ [(ae 0),(ae 0)] h U λd e f=>ag (a7 e 2 d c) λg=>a4 2 g d λi=>gB Q true (jc g f [i] ax) λj k l=>f<=l/\b4 1 bl λm=>dc k m λn=>eX m n (f3 2 n n2 λo=>ag (a7 k 2 o j) λp=>b3 n2 λq=>N [ax,aV,bl,k8,lT,q] p l) 1 [g]) (aF [ax,aV,bl,k8,lT,n2] h U)
def afD:fH:=λs au t1 h U K=>cK au h U λa b c=>cJ [(ae 0),aS] b c λd e f=>a4 2 e a λg=>bh s 447 [g] e f λi j k=>ag (a7 j 2 a i) λl=>ay l 1 a λn=>c7 217 [n] l k λo p q=>b4 0 a λr=>dc p r λt=>eX r t (ag (c8 [(ae 0),aS] [(0,1,t),(1,1,o)]) λaT=>cJ [(ae 0),aS] p q λv w x=>ag (a7 w 2 v aT) λy=>ay y 1 v λbX=>cQ bX λch=>bq (bA Q s RS 445 0) [t1,d,v,bX,ch,(ae 0)] y x [(0,λbV bp b2=>a4 2 bp (aQ bV 2) λcM=>ag (a7 bp 2 (aQ bV 1) cM) λbU=>a4 2 bU (aQ bV 1) λdj=>K dj bU b2)] (λ_ _ _=>False)) 1 [l]
theorem aoO{L M V:X}{h:ad}{U:Nat}:bA Q s RS 445 0 [ax,aV,bl,L,M,V] h U N [(0,aF)] R=abR s ax aV bl L M V h U N aF R:=by kernel_rfl
theorem asq:fR 445 afD:=fX RS
def QG:aa (aa Nat):=[[1,2,5,6]]
def Z4(s:ak)(ax a2 bl bf:X)(h:ad)(U:Nat)(N:aH)(aF:aH)(R:aH):Prop:=cq bl bf (cf .sub 3 bf bl λb=>cf .quo 3 b (ae 2) λc=>o6 bl c λd=>ay h 2 a2 λf=>ea h 1 f d λi=>bT .eql 3 i ax (aF [ax,a2,d,bf] h U) (ay h 2 a2 λl=>ea h 1 l d λn=>cq n ax (b3 d λp=>N [ax,a2,p,bf] h U) (N [ax,a2,bl,d] h U))) (aF [ax,a2,bl,bf] h U)
def adV:fH:=λs au t1 h U K=>cK au h U λa b c=>ay b 2 a λe=>cQ e λf=>bq (bA Q s QG 449 0) [t1,a,(ae 0),f] b c [(0,λg i j=>cq (aQ g 2) (aQ g 3) (K (aQ g 2) i j) (K (ae (-1)) i j))] (λ_ _ _=>False)
theorem alx{h:ad}{U:Nat}:bA Q s QG 449 0 [ax,a2,bl,bf] h U N [(0,aF)] R=Z4 s ax a2 bl bf h U N aF R:=by kernel_rfl
theorem aoP:fR 449 adV:=fX QG
def afE:fH:=λs au t1 h U K=>cK au h U λa b c=>ay b 1 a λe=>bh s 485 [e,t1,(.func (.func 486) #[] #[])] b c λf g i=>ag (dz f 0) λj=>ag (dz f 1) λk=>K (.tuple ⟨[j,k]⟩) g i
theorem ass:fR 458 afE:=fX []
def QH:aa (aa Nat):=[[1,2,73,74]]
def Z5(s:ak)(ax a2 Nw wt:X)(h:ad)(U:Nat)(N:aH)(aF:aH)(R:aH):Prop:=cq wt Nw (ay h 4 ax λc=>ay h 3 ax λe=>ea h 1 e wt λg=>ay h 3 ax λj=>b3 wt λk=>ea h 1 j k λm=>ag (iY 1 c (some g) (some m) none) λn=>ay h 0 ax λp=>c7 493 [n,p] h U λq r t=>ag (d2 .not q) λaT=>bJ aT (R [ax,(.bool false),Nw,wt] r t) (b3 wt λv=>N [ax,a2,Nw,v] r t)) (aF [ax,a2,Nw,wt] h U)
def Gi(s:ak)(K:bD)(bY y70:X)(ap:ad)(aX:Nat):Prop:=bJ y70 (K (.bool false) ap aX) (ay ap 2 bY λb=>cQ b λc=>bq (bA Q s QH 477 0) [bY,(.bool false),c,(ae 0)] ap aX [(0,λd e f=>K (.bool true) e f)] (λg i j=>K (aQ g 1) i j))
def C6(s:ak)(K:bD)(bY b6 VZ:X)(ap:ad)(aX:Nat):Prop:=bJ VZ (K (.bool false) ap aX) (ay ap 2 bY λb=>ay ap 1 bY λd=>bh s 493 [b,d] ap aX λe f g=>ag (d2 .not e) λi=>bJ i (Gi s K bY (.bool true) f g) (ay f 3 bY λk=>b3 b6 λl=>bh s 493 [k,l] f g λm n o=>ag (d2 .not m) λp=>bJ p (Gi s K bY (.bool true) n o) (ay n 3 bY λr=>ea n 1 r (ae 0) λaT=>bT .neq 3 aT (ae 0) (Gi s K bY (.bool true) n o) (ay n 3 bY λx=>ay n 2 bY λz=>cQ z λbX=>ea n 1 x bX λbV=>cf .neq 3 bV b6 λbp=>(Gi s K bY bp n o)))))
def adW:fw:=λs au h U K=>cK au h U λa b c=>ay b 4 a λe=>cQ e λf=>ay b 0 a λi=>bh s 492 [i,(ae 4096)] b c λj k l=>ag (d2 .not j) λm=>bJ m (C6 s K a f (.bool true) k l) (ay k 1 a λo=>bh s 492 [o,(ae 4096)] k l λp q r=>ag (d2 .not p) λt=>bJ t (C6 s K a f (.bool true) q r) (ay q 3 a λv=>cQ v λw=>ay q 2 a λy=>cQ y λz=>b3 z λbX=>bT .neq 3 w bX (C6 s K a f (.bool true) q r) (ay q 5 a λbp=>cQ bp λb2=>bT .neq 3 b2 f (C6 s K a f (.bool true) q r) (cf .gtr 3 f (ae 65536) λbU=>(C6 s K a f bU q r)))))
theorem aly{L M:X}{h:ad}{U:Nat}:bA Q s QH 477 0 [ax,a2,L,M] h U N [(0,aF)] R=Z5 s ax a2 L M h U N aF R:=by kernel_rfl
theorem aoQ:fG 477 adW:=fO QH
def O1:aa (aa Nat):=[[0,1,2,8,9,10]]
def XO(s:ak)(a0 ax a2 bo cH cZ:X)(h:ad)(U:Nat)(N:aH)(aF:aH)(R:aH):Prop:=cq cH cZ (o6 cH cZ λb=>ag (xe (.int .u64) b) λc=>cf .shr 238 c (.int .u64 1) λd=>ag (xe (.int .i64) d) λe=>hq 2 h 2 a0 e λg=>gB Q s (jc h U [g,ax] a2) λi j k=>cq i (ae 0) (b3 e λm=>N [a0,ax,a2,bo,m,cZ] j k) (N [a0,ax,a2,bo,cH,e] j k)) (aF [a0,ax,a2,bo,cH,cZ] h U)
def XP:i6:=λs au t1 t2 h U K=>cQ au λa=>bq (bA Q s O1 485 0) [au,t1,t2,a,(ae 0),a] h U [(0,λb c d=>cq (aQ b 4) (aQ b 3) (hq 2 c 2 (aQ b 0) (aQ b 4) λg=>gB Q s (jc c d [g,(aQ b 1)] (aQ b 2)) λi j k=>cf .eql 3 i (ae 0) λl=>K (.tuple ⟨[(aQ b 4),l]⟩) j k) (K (.tuple ⟨[(aQ b 4),(.bool false)]⟩) c d))] (λ_ _ _=>False)
theorem aib{h:ad}{U:Nat}:bA Q s O1 485 0 [a0,ax,a2,bo,cH,cZ] h U N [(0,aF)] R=XO s a0 ax a2 bo cH cZ h U N aF R:=by kernel_rfl
theorem aic:jl 485 XP:=jA O1
def PZ:aa (aa Nat):=[[0,1,4,7,8,9]]
def YZ(s:ak)(a0 ax aV aZ bo cH:X)(h:ad)(U:Nat)(N:aH)(aF:aH)(R:aH):Prop:=cq cH bo (ea h 1 aZ cH λc=>cf .sub 3 ax (ae 1) λd=>bh s 492 [c,d] h U λe f g=>ag (d2 .not e) λi=>bJ i (R [a0,ax,(.bool false),aZ,bo,cH] f g) (kA cH (ae 0) (cf .sub 3 cH (ae 1) λk=>ea f 1 a0 k λm=>bT .geq 3 m c (R [a0,ax,(.bool false),aZ,bo,cH] f g) (b3 cH λo=>N [a0,ax,aV,aZ,bo,o] f g)) (b3 cH λp=>N [a0,ax,aV,aZ,bo,p] f g))) (aF [a0,ax,aV,aZ,bo,cH] h U)
def abS:fH:=λs au t1 h U K=>cQ au λa=>bq (bA Q s PZ 493 0) [au,t1,(.bool false),au,a,(ae 0)] h U [(0,λb c d=>K (.bool true) c d)] (λe f g=>K (aQ e 2) f g)
theorem ajM{h:ad}{U:Nat}:bA Q s PZ 493 0 [a0,ax,aV,aZ,bo,cH] h U N [(0,aF)] R=YZ s a0 ax aV aZ bo cH h U N aF R:=by kernel_rfl
theorem alz:fR 493 abS:=fX PZ
def P0:aa (aa Nat):=[[0,1,2,4]]
def Y0(s:ak)(a0 ax a2 aV:X)(h:ad)(U:Nat)(N:aH)(aF:aH)(R:aH):Prop:=ay h 3 ax λb=>dc h a2 λc=>b3 c λd=>ea h 1 b d λf=>cq aV f (ay h 4 ax λj=>ea h 1 j aV λl=>ay h 5 ax λn=>ea h 1 n aV λp=>ag (c8 [(ae 0),(ae 0)] [(0,1,l),(1,1,p)]) λq=>gB Q true (jc h U [q] a0) λr t aT=>U<=aT/\ag (d2 .not r) λv=>bJ v (R [a0,ax,a2,aV] t aT) (b3 aV λw=>N [a0,ax,a2,w] t aT)) (aF [a0,ax,a2,aV] h U)
def abT:i6:=λs au t1 t2 h U K=>ay h 3 t1 λb=>dc h t2 λc=>ea h 1 b c λe=>bq (bA Q s P0 496 0) [au,t1,t2,e] h U [(0,λf g i=>K (.tuple ⟨[]⟩) g i)] (λj k l=>K (.tuple ⟨[]⟩) k l)
theorem ajN{h:ad}{U:Nat}:bA Q s P0 496 0 [a0,ax,a2,aV] h U N [(0,aF)] R=Y0 s a0 ax a2 aV h U N aF R:=by kernel_rfl
theorem alA:jl 496 abT:=jA P0
def fV(p:Nat × Int):aa X:=[(p.1:X),(p.2:X)]
def kn(h:ad)(U:Nat)(v:X)(n:Nat)(x:Nat->av Int):Prop:=∃gW,v = .agg ⟨[(n:X),gW]⟩/\eu h U gW fV 2 (bn n x)
def lJ(h:ad)(ao ai:Nat)(v:X)(n:Nat)(x:Nat->av Int):Prop:=∃gW,v = .agg ⟨[(n:X),gW]⟩/\eZ h ao ai gW fV (bn n x)
section
variable {h ac:ad} {U Y ao ai ed da n:Nat} {v:X} {x:Nat->av Int}
theorem kn.T(H:kn h U v n x)(Z:az U h ac)(L:U<=Y):kn ac Y v n x:=by obtain⟨M,e,V⟩:=H;exact⟨M,e,V.T Z L⟩
theorem lJ.is(H:lJ h ao ai v n x):kn h ai v n x:=by obtain⟨L,e,M⟩:=H;exact⟨L,e,cN.o (λ_=>rfl) M.rd⟩
theorem lJ.T(H:lJ h ao ai v n x)(Z:∀b,ao<=b->b<ai->u ac b=u h b)(h1:ed<=ao)(L:ai<=da):lJ ac ed da v n x:=by obtain⟨M,e,V⟩:=H;exact⟨M,e,V.T Z h1 L⟩
theorem kn.ext{y:Nat->av Int}(H:kn h U v n x)(e:∀i,i<n->x i=y i):kn h U v n y:=by obtain⟨L,V,M⟩:=H;exact⟨L,V,by rw[<-y7 e];exact M⟩
theorem lJ.ext{y:Nat->av Int}(H:lJ h ao ai v n x)(e:∀i,i<n->x i=y i):lJ h ao ai v n y:=by obtain⟨L,V,M⟩:=H;exact⟨L,V,by rw[<-y7 e];exact M⟩
end
theorem w3{n k:Nat}{f:Nat->av Int}{x:Int}(h:(bn n f)[i]? = some (k,x)):k<n/\f k=some x:=kl.1 ab
theorem vO{n:Nat}{f:Nat->av Int}{x:Int}(h:(bn n f)[i]? = some (a,x))(ac:(bn n f)[j]? = some (b,y))(L:i<j):a<b:=by
 obtain⟨V,Z⟩:=gE.1 h;obtain⟨M,aJ⟩:=gE.1 ac;have:=yE.1 (zg n f) i j V M L
 grind
theorem ajO{n m:Int}{h:ad}{U:Nat}:aD Q s 384 [(n:X),(m:X)] h U (fm (.bool (lV n m)) U h):=by
 refine bS ?_;refine aB ?_;refine⟨λM=>?_,λM=>by rw[p7 J];exact⟨rfl,rfl,rfl⟩⟩
 by_cases L:m<n
 ·rw[gz L,p7 J];exact⟨rfl,rfl,rfl⟩
 ·rw[f9 L,lI J];exact⟨rfl,rfl,rfl⟩
def XiJ(I:Nat->ad->Nat->Prop)(v rB:X)(n:Nat)(m:Nat)(aE:aa X)(ac:ad)(Y:Nat):Prop:=∃i,m=n-i/\i<=n/\aE=[v,rB,.int .i64 0,(n:X),(i:X)]/\I i ac Y
theorem auF{l:aa (Nat × Int)}{v:X}{h:ad}{U:Nat}{I:Nat->ad->Nat->Prop}(bg:l.length<1000000)(Z:I 0 h U)(aI:∀i h U,I i h U->eu h U v fV 2 l)(bx:∀i x h U,l[i]? = some x->I i h U->aD Q s d7 (.agg ⟨fV x⟩::cs) h U (λr ac Y=>r = .bool false/\I (i+1) ac Y)):
  aD Q s 385 [v,.func (.func d7) ⟨[]⟩ ⟨cs⟩] h U (λr ac Y=>r = .bool false/\I l.length ac Y):=by
 refine aih ?_;refine(aix (K:=λr ac Y=>r = .int .i64 (-1)/\I l.length ac Y) ?_).mono ?_
 ·obtain⟨a,cap,rfl,_⟩:=id (aI 0 h U Z);unfold X8;refine aB ?_;refine bq.mk (XiJ I (.slice a l.length cap) (.func (.func d7) ⟨[]⟩ ⟨cs⟩) l.length) l.length ⟨0,J,J,rfl,Z⟩ ?_;rintro _ _ h1 a6 ⟨i,rfl,ai,rfl,L⟩;rw[aiq];unfold XX;refine aB ?_;refine⟨λci=>?_,λeh=>?_⟩
  ·obtain⟨x,aR⟩:=dk   J;obtain⟨b,o,aO,bC,qg,oJ,aG,aY,a5,M⟩:=(aI i h1 a6 L).ld (λ_=>rfl) aR;cases aY;refine cx @a5 @M ?_;refine(bx i x h1 a6 aR L).mono ?_;rintro _ al bH ⟨rfl,V⟩;refine a9 (cn (J:i<1000000000000)) ?_;exact⟨l.length-(i+1),J,i+1,rfl,J,rfl,V⟩
  ·have:i=l.length:=J
   subst this;exact L
 ·rintro _ al bH ⟨rfl,L⟩;refine aB ?_;exact⟨rfl,L⟩
theorem ajP{x:Nat × Int}{last:Int}{n L:Nat}{gW:X}{h:ad}{U:Nat}(h1:last<(x.1:Int))(al:x.1<n)(V:u h pl=some (.cells [(last:X)] false))(Z:u h L=some (.cells [(n:X),gW] bC))(eg:pl≠L)(pA:pl<U)(M:L<U):
  aD Q s 386 [.agg ⟨fV x⟩,bb pl,bb L] h U (λr ac Y=>r = .bool false/\u ac pl=some (.cells [(x.1:X)] false)/\(∀d,d<U->d≠pl->u ac d=u h d)/\U<=Y):=by
 refine bS ?_;unfold fV;simp(disch:=omega)only[bd,V,Z,seval]
 grind
theorem wS{n:Nat}{v:X}{x:Nat->av Int}{h:ad}{U:Nat}(aI:kn h U v n x)(bm:n<=4096):aD Q s 312 [v] h U (cI (.bool true) U h):=by
 refine bS ?_;obtain⟨gW,rfl,ar⟩:=aI;obtain⟨a,cap,rfl,aU⟩:=id ar;refine aB ?_;refine ajO.mono ?_;rintro _ _ _ ⟨rfl,rfl,rfl⟩;rw[lI J];refine aB ?_;have gA:=my n x;refine(auF (l:=bn n x) (I:=λi ac Y=>az U h ac/\U+2<=Y/\u ac U=some (.cells [(n:X),.slice a (bn n x).length cap] false)/\∃last:Int,u ac (U+1)=some (.cells [(last:X)] false)/\∀(j k:Nat) (y:Int),(bn n x)[j]? = some (k,y)->i<=j->last<(k:Int)) (by omega) ?_ ?_ ?_).mono ?_
 ·exact⟨aC,J,ab,-1,ab,J⟩
 ·rintro i h1 a6 ⟨M,L,_⟩;exact ar.T M J
 ·rintro i ⟨k,y⟩ h1 a6 aR ⟨M,L,a5,last,Z,ci⟩;refine(ajP ab (w3 aR).1 Z a5 J J J).mono ?_;rintro _ al bH ⟨rfl,V,sf,e9⟩;refine⟨rfl,aC,J,ab,k,V,λj dp qC bM hij=>?_⟩;have:=vO aR bM J;omega
 ·rintro _ al bH ⟨rfl,M,L,_⟩;refine aB ?_;exact⟨rfl,M,J⟩
theorem K1{n:Nat}{v:X}{x:Nat->av Int}{h:ad}{U:Nat}(M:kn h U v n x)(bm:n<=4096):aD Q s 447 [v] h U (cI v U h):=by
 refine bS ?_;have L:=M;obtain⟨gW,rfl,ar⟩:=M;obtain⟨a,cap,rfl,aU⟩:=id ar;refine aB ?_;have bF:∀{o aW},az U h (F (F h U o) (U+1) aW):=aC
 refine(wS (L.T bF J) bm).mono ?_;rintro _ h1 a6 ⟨rfl,Z,dr⟩;have b7:=Z U J;rw[aq J,aN]at b7;have V:=Z (U+1) J;rw[aN]at V;refine cx @b7 @V ?_;exact⟨rfl,aC,J⟩
end Go.Proofs.YthlhhajnbgjfmaaGreat
