/- Parts of the proof: HwFn6: each statement bears its own conditions. -/
import Derived.Test.YthlhhajnbgjfmaaGreatRcHwFn5
namespace Go.Proofs.YthlhhajnbgjfmaaGreat
open Go Go.Ax Go.Ax.HdH
set_option linter.all false
set_option maxHeartbeats 1000000
set_option maxRecDepth 1000000
variable {ag:aa GE} {n:Nat} {L:aa (Nat × Int)} {fj:aa GE} {r:Int} {aC:X} {dq so:aw Nat} {fx:aa (Nat × Int)} {R:Nat} {q:Nat × Int->al} {es:aa MapEntry} {y:Int} {aM:aR} {bt cs:aa X} {a:Nat} {w:X} {b6:aa ev} {cf:Nat} {c4:X} {cE z dK:Nat}
theorem uR.aAI{h ac:ae}{A:aa X}{W:aa e2}{I:X}(H:uR h cf bt W dq)(E:u h cf=some (.cells (I::bt) false))(B:u ac cf=some (.cells (I::A) false))(M:∀b,dq=some b->u ac b=u h b):uR ac cf A W dq:=by
 rcases H with⟨aV,V,D⟩|⟨b,K,cap,cs,e,w⟩
 ·rw[E]at D;cases D;exact .inl ab
 ·have:=w.cell;rw[E]at this;cases this;exact .inr ⟨b,K,cap,cs,e,⟨B,(M b e).trans w.cm,w.len,w.G0,w.ne⟩⟩
theorem mQ.hU{h:ae}{v:X}{l:aa (Nat × Int)}{aU:aw Nat}(H:mQ h v l aU):fQ h eL 3 v l aU:=by
 rcases H with⟨rfl,rfl,rfl⟩|⟨b,rfl,rfl,A⟩
 ·exact .nil
 ·exact .own A
theorem aoi{s:al}{h:ae}{U ao:Nat}{W:aa e2}(a5:nU r)(H:GC h U ao cf r W fx dq)(rx:cf<U)(ri:ao<=cf)(wz:ao<=U)(bb:W.length<900)(j5:fx.length<100000)(jy:W≠[])(pE:(∀p∈fx,0<=p.2/\p.2<=er)/\∀p∈left W,0<=p.2/\p.2<=er):
  aH Q s 330 [bd cf] h U (λ_ ac Y=>∃p M dk rB,(p::M).Perm (left W)/\(∀q∈left W,p.1<=q.1)/\GC ac Y ao cf r dk (qy r fx p) rB/\(left dk).Perm M/\dk.length<=W.length/\U<=Y/\(∀c,c<ao->u ac c=u h c)):=by
 refine aql ?_;unfold acZ;obtain⟨out,aU,DO,afj,RV,hOw,rj,ni⟩:=H;rcases DO with⟨_,au,_⟩|⟨b,aO,cap,cs,rfl,w⟩
 ·exact absurd au jy
 obtain⟨p,bk⟩:=d1 (l:=W) (i:=0) ab;have fW:=(hY.1 bk).1;have E:=RV p ab;have ym:=rj b rfl;have e0:=w.ne;have Dt:=E.ok.cell;have tB:dh p.v=[p.v]:=by obtain⟨_,_,_,_,_,_,_,h1,_⟩:=E.ok;rw[h1];rfl
 have rm:=JZ (cs:=cs) bk;rw[l1]at rm;refine Q4 w.cell w.cm @rm @Dt @tB ?_;have bZ:aA U h (T (T h U (.cells [.slice none 0 0,.int .i64 0] false)) U (.cells [p.v,(p.w:X)] false)):=aK
 have aAJ:u (T (T h U (.cells [.slice none 0 0,.int .i64 0] false)) U (.cells [p.v,(p.w:X)] false)) U=some (.cells [p.v,(p.w:X)] false):=ab
 generalize T (T h U (.cells [.slice none 0 0,.int .i64 0] false)) U (.cells [p.v,(p.w:X)] false)=au at bZ aAJ ⊢;have gD:=Gi w bZ ym.2 rx;have al0:pz au ao W:=RV.F λc V=>bZ c J;refine(ar0  gD J ym.1 J ri J J afj al0.ok bk).mono ?_;rintro _ h1 bh ⟨cs1,nD,dc,LQ,TB,fy,d9⟩;have TC:=(d9 U J J J).trans aAJ;have agk:yH h1 ao p:=E.F λc V=>(d9 c J J J).trans (bZ c J);have al1:pz h1 ao nD:=λx a1=>(al0 x (TB.mem_iff.1 (mx _ a1))).F λc V=>d9 c J J J;obtain⟨q,b6,TD⟩:∃q b6,p.l=q::b6:=by
  cases fm:p.l with
  |nil=>exact absurd fm E.2.1
  |cons q b6=>grind
 obtain⟨dZ,fZ,sp3,Hj,AV,aAc,n0,ch,qw,awM⟩:=agk.1.o.all (λ_=>rfl) E.2.1;have KS:=(awM 0 q ab).1;rw[l1,nK]at KS;have awN:p.l.length=b6.length+1:=ab
 have afk:=agk.1;rw[TD]at afk;obtain⟨aCQ,etw,htw⟩:=mm.tail  (k:=3) (λ_=>rfl) afk;rw[awN]at ch;rw[ch]at TC etw;simp(disch:=omega)only[bn,↓reduceIte,Nat.reduceAdd,Nat.reduceSub,Nat.reduceMul,Nat.reduceLT,Nat.reduceLeDiff,Nat.reduceEqDiff,Int.reduceBEq,Int.reduceLT,Int.reduceNeg,TC,qw,KS,show dh (.agg ⟨eL q⟩)=[(q.1:X),.int .i64 (q.2 / 18446744073709551616),.int .u64 (q.2 % 18446744073709551616)]from rfl];rw[etw];refine l5 @TC ?_;obtain⟨ar,TE⟩:∃ar,ar=T (T h1 bh (.cells [.int .i64 0,.int .i64 0,.int .u64 0] false)) bh (.cells [(q.1:X),.int .i64 (q.2 / 18446744073709551616),.int .u64 (q.2 % 18446744073709551616)] false):=⟨_,rfl⟩
 have eA:aA bh h1 ar:=by rw[TE];exact((aA.refl _ _).set (cD _)).set (cD _)
 have G20:u ar bh=some (.cells [(q.1:X),.int .i64 (q.2 / 18446744073709551616),.int .u64 (q.2 % 18446744073709551616)] false):=ab
 rw[<-TE];clear TE;have agl:=E.2.2.2.2;rw[TD]at agl;have me:=t7.1 agl;have oM:nD.length+1=W.length:=by rw[<-TB.length_eq];rfl
 refine(abK    (.inr ⟨b,aO,cap,cs1,rfl,Gi dc eA J J⟩) (λD e=>ab) J ri J J LQ (al1.F λc V=>eA c J) (htw.F (λc V=>eA c J) (cD _)) E.2.2.1 me.2).mono ?_;rintro _ aL bS ⟨p0,K,db,⟨n2,TF,ys,TG⟩,ayB,eZ,ei⟩;refine⟨eZ,?_⟩;have aBW:∀c,c<U->c≠b->c≠cf->u aL c=u h c:=λc c1 c2 ci=>by rw[ei c J ci (λe=>ab),eA c J,d9 c J c2 ci,bZ c c1]
 have TH:u aL bh=some (.cells [(q.1:X),.int .i64 (q.2 / 18446744073709551616),.int .u64 (q.2 % 18446744073709551616)] false):=(ei bh J J (λe=>ab)).trans G20;have agm:mQ aL out fx aU:=hOw.F λD e=>ab
 have agn:pz aL ao p0:=TG aL λc V=>ei c J J (λe=>ab);have ve:(q::(b6++left nD)).Perm (left W):=by
  have:=XG TB;unfold left at this ⊢
  grind
 have ago:∀k0∈left W,q.1<=k0.1:=λk0 LP=>by
  obtain⟨x,a1,hqx⟩:=List.mem_flatMap.1 LP;have AD:=RV x a1;have hpk:p.k<=x.k:=nR.min afj bk x a1;obtain⟨g0,Mk,hlx⟩:∃g0 Mk,x.l=g0::Mk:=by
   cases fm:x.l with
   |nil=>grind
   |cons q b6=>grind
  have aV:p.k=(q.1:Int)*1000+(p.w:Int):=by rw[E.2.2.2.1];show(((p.l.getD 0 (0,0)).1:Nat):Int)*1000+(p.w:Int)=_;rw[TD];rfl
  have aP:x.k=(g0.1:Int)*1000+(x.w:Int):=by rw[AD.2.2.2.1];show(((x.l.getD 0 (0,0)).1:Nat):Int)*1000+(x.w:Int)=_;rw[hlx];rfl
  have hxw:=AD.2.2.1;have hsx:=AD.2.2.2.2;rw[hlx]at hsx hqx;have dR:g0.1<=k0.1:=by
   rcases g5.1 hqx with rfl|h
   ·omega
   ·exact Nat.le_of_lt ((t7.1 hsx).1 k0 h)
  omega
 obtain⟨hp,A⟩:∃hp,u aL cf=some (.cells [hp,(r:X),out] false):=by
  rcases db with⟨_,_,V⟩|⟨_,_,_,_,_,aBX⟩
  ·grind
  ·exact⟨_,aBX.cell⟩
 have ayC:∀D,K=some D->ao<=D/\D<bS:=λD e=>ab
 have hkl:∀c,c<ao->u aL c=u h c:=λc V=>aBW c J J J;have Hv:(left p0).Perm (b6++left nD):=TF.trans List.perm_append_comm;have hLW:p0.length<=W.length:=J
 have aAd:∀D,aU=some D->K≠some D:=λD e aP=>ab
 have ayD:∀D,aU=some D->ao<=D/\D<bS/\D≠cf/\K≠some D:=λD e=>ab
 have app:qy r fx q=fx++[q]->Fc s (λ_ ac Y=>∃p M dk rB,(p::M).Perm (left W)/\(∀q∈left W,p.1<=q.1)/\GC ac Y ao cf r dk (qy r fx p) rB/\(left dk).Perm M/\dk.length<=W.length/\U<=Y/\(∀c,c<ao->u ac c=u h c)) (bd cf) (bd bh) (fx.length:X) (.bool false) aL bS:=λbl=>by
  unfold Fc;refine te @A @TH ?_;refine xD  (k:=3) (λ_=>rfl) (λ_=>rfl) J ((agm.F λD e=>ab).hU) q (aS _ _ _) rfl J λb3 Dz tD=>?_;have Dn:u b3 cf=some (.cells [hp,(r:X),out] false):=ab
  refine l5 @Dn ?_;refine⟨J,q,_,p0,K,ve,ago,⟨.slice (some ⟨bS+1,0,some 3⟩) (fx.length+1) (fx.length+1),some (bS+1),db.aAI A (aS _ _ _) (λD e=>?_),n2,agn.F (λc V=>?_),?_,λD e=>ab,λD e=>?_⟩,Hv,hLW,J,λc V=>?_⟩
  ·grind
  ·grind
  ·rw[bl];exact .inr ⟨bS+1,rfl,ab,ab⟩
  ·grind
  grind
 rcases agm with⟨aV,aP,ch⟩|⟨f8,aV,aP,tJ⟩
 ·subst aV aP;refine l5 @A ?_;exact⟨λh=>absurd h J,λ_=>app rfl⟩
 ·have DN:=ayD f8 aV;subst aP;cases u5:fx.getLast? with
  |none =>
   have wm:fx=[]:=List.getLast?_eq_none_iff.1 u5;subst wm;refine l5 @A ?_;exact⟨λh=>absurd h (by simp),λ_=>app rfl⟩
  |some z =>
   obtain⟨B,ayE⟩:=Ii.1 u5;have fW:fx.length=B.length+1:=ab
   have cZ:fx[B.length]? = some z:=ab
   have sq:=gg (enc:=eL) (k:=3) (λ_=>rfl) fx;have SJ:ej aL bS (.slice (some ⟨f8,0,some 3⟩) fx.length fx.length) eL 3 fx:=cN.o (λ_=>rfl) ⟨_,_,rfl,λ_=>⟨f8,_,_,DN.2.1,rfl,tJ⟩⟩;obtain⟨HX,nv,sp6,ro6,cs6,aAe,DG,ik,hg6,I⟩:=SJ.all (λ_=>rfl) ab;cases ik;rw[tJ]at hg6;cases hg6;have o2:=(I _ z cZ).2 0 _ J rfl;have c1:=(I _ z cZ).2 1 _ J rfl;have c2:=(I _ z cZ).2 2 _ J rfl;rw[nK,iR]at o2;rw[iR]at c1 c2;have fe:IntKind.wrap .i64 ((fx.length:Int)-1)=(B.length:Int):=by rw[oE];omega
   have yw:B.length<fx.length:=J
   refine Q4 @A @fe @tJ @o2 @TH ?_;refine⟨λ_=>?_,λh=>absurd h J⟩;have ayF:h0 (some 2) (B.length*3+1) (bc eL fx) = .ok (.agg ⟨wid z.2⟩):=by
    rw[p6,if_pos J];have:((bc eL fx).drop (B.length*3+1)).take 2=wid z.2:=by
     have dQ:=(hY.1 c1)
     have dB:=(hY.1 c2)
     obtain⟨m1,aV⟩:=dQ;obtain⟨m2,aP⟩:=dB;rw[Bw m1,aV,Eo,Bw J,Eo,t8];rw[show(bc eL fx)[B.length*3+1+1]=(bc eL fx)[B.length*3+2]from rfl,aP];rfl
    grind
   by_cases AQ:z.1=q.1
   ·have bl:qy r fx q=B++[(z.1,jI r z.2 q.2)]:=by
     unfold qy;rw[u5]
     grind
    rw[show((z.1:Int) == (q.1:Int))=true from uc.2 J];unfold Fc;refine Q4 @A @fe @tJ @ayF @TH ?_;have hzr:=pE.1 z (k4 cZ);have hqr:=pE.2 q (ve.mem_iff.1 (nI ..));refine(Pm a5 (a:=z.2) (b:=q.2) (FC (by unfold kk er at *;omega)) (FC (by unfold kk er at *;omega))).mono ?_;rintro _ bm dH ⟨rfl,fP,ir⟩;refine⟨ir,?_⟩;have DP:=(fP cf J).trans A;have Hu:=(fP f8 J).trans tJ;have wB:jY (some (.cells (bc eL fx) false)) bm f8 (B.length*3+1) (wid (jI r z.2 q.2)) = .ok (T bm f8 (.cells (bc eL (B++[(z.1,jI r z.2 q.2)])) false)):=by
     have aAf:=gg (enc:=eL) (k:=3) (λ_=>rfl) B;have KE:bc eL fx=bc eL B++eL z:=by rw[ayE,rX]
     rw[Kh rfl (by rw[sq];show B.length*3+1+2<=_;omega)]
     congr 4
     rw[KE,rX,show(wid (jI r z.2 q.2)).length=2 from rfl];rw[show B.length*3+1=(bc eL B).length+1 by omega,List.take_length_add_append,vA,Ig,kv,kv];rfl
    refine Gf @DP @Hu @rY @sX ?_;rw[wB];refine⟨rfl,q,_,p0,K,ve,ago,⟨.slice (some ⟨f8,0,some 3⟩) fx.length fx.length,some f8,db.aAI A ?_ (λD e=>?_),n2,agn.F (λc V=>?_),?_,λD e=>ab,λD e=>?_⟩,Hv,hLW,J,λc V=>?_⟩
    ·grind
    ·have cF:=ayC D e;have:D≠f8:=λaP=>DN.2.2.2 ab;rw[aq this,fP D J]
    ·rw[aq J,fP c J]
    ·rw[bl];exact .inr ⟨f8,rfl,by rw[fW,jm];rfl,aS _ _ _⟩
    ·grind
    ·rw[aq J,fP c J];grind
   ·have bl:qy r fx q=fx++[q]:=by
     unfold qy
     grind
    rw[show((z.1:Int) == (q.1:Int))=false from rS.2 J];exact app bl
def pP:X->X
 | .slice a n c=>.slice a n c
 |_=>.slice none 0 0
theorem mm.pP{az:Type}{h:ae}{U k:Nat}{v:X}{enc:az->aa X}{l:aa az}(H:mm h U v enc k l):pP v=v:=by obtain⟨a,c,rfl,_⟩:=H;rfl
def Ag(h:ae)(U:Nat)(v:X)(fC:aa (X × aa (Nat × Int))):Prop:=ej h U v (λp=>[pP p.1]) 1 fC/\∀p∈fC,mm h U p.1 eL 3 p.2/\(p.2.Pairwise λa b=>a.1<b.1)/\p.2.length<100000/\∀q∈p.2,0<=q.2/\q.2<=er
theorem Ag.F{h ac:ae}{U Y:Nat}{v:X}{fC:aa (X × aa (Nat × Int))}(H:Ag h U v fC)(D:aA U h ac)(A:U<=Y):Ag ac Y v fC :=
 ⟨H.1.F D A,λp B=>⟨(H.2 p B).1.F D A,(H.2 p B).2⟩⟩
theorem auz{s:al}{fC:aa (X × aa (Nat × Int))}{v:X}{h:ae}{U:Nat}(fq:fC.length<1000000)(E:Ag h U v fC):
  aH Q s 395 [v,.func (.func 326) ⟨[]⟩ ⟨[]⟩] h U (fo (.int .i64 (-1)) U h):=by refine ag6 ?_;unfold VC;obtain⟨a8,cap,rfl,aZ⟩:=id E.1;refine aF ?_;refine bD.mk (λm aE ac Y=>∃i,m=fC.length-i/\i<=fC.length/\aE=[.slice a8 fC.length cap,.func (.func 326) ⟨[]⟩ ⟨[]⟩,.int .i64 0,(fC.length:X),(i:X)]/\ac=h/\Y=U) fC.length ⟨0,J,J,rfl,rfl,rfl⟩ ?_;rintro _ _ ar bX ⟨i,rfl,aj,rfl,D,I⟩;rw[agZ,D,I];unfold Vq;refine aF ?_;refine⟨λcA=>?_,λeN=>⟨rfl,rfl,rfl⟩⟩;obtain⟨p,bk⟩:=d1   J;obtain⟨b,aX,aO,bJ,V,K,aT,aV,M,B⟩:=ej.ld1  E.1 bk;cases aV;have A:=E.2 p ab;rw[A.1.pP]at B;refine cL @M @B ?_;refine ajE ?_;refine(akE A.1.o J A.2.1).mono ?_;rintro _ _ _ ⟨rfl,D,I⟩;rw[D,I];refine bg (cG (J:i<1000000000000)) ?_;exact⟨_,J,i+1,rfl,J,rfl⟩
def q9(fC:aa (X × aa (Nat × Int))):aa (Nat × Int):=fC.flatMap (·.2)
theorem ar1{p:Nat × Int}(D:nU r)(I:∀q∈fx,0<=q.2/\q.2<=er)(B:0<=p.2/\p.2<=er):∀q∈qy r fx p,0<=q.2/\q.2<=er:=λq A=>by
 unfold qy at A;cases E:fx.getLast? with
 |none=>grind
 |some z =>
  rw[E]at A;simp only at A
  split at A
  ·rcases hb.1 A with h|h
   ·exact I q ((List.dropLast_sublist fx).subset h)
   ·rw[iP.1 h];exact afd D ab B
  grind
theorem ar2(r:Int)(fx:aa (Nat × Int))(p:Nat × Int):(qy r fx p).length<=fx.length+1:=by
 unfold qy
 grind
theorem uR.form{h:ae}{W:aa e2}(H:uR h cf bt W dq):∃a c,u h cf=some (.cells (.slice a W.length c::bt) false):=by
 rcases H with⟨_,rfl,A⟩|⟨_,_,_,_,_,w⟩
 ·grind
 ·exact⟨_,_,w.cell⟩
theorem XH{s:al}{fC:aa (X × aa (Nat × Int))}{v:X}{h:ae}{U:Nat}(a5:nU r)(fq:fC.length<800)(aJ:Ag h U v fC)(g1:(q9 fC).length<50000):
  aH Q s 229 [(r:X),v] h U (λaD ac Y=>∃w fx,aD = .tuple ⟨[w,.int .i64 0]⟩/\d5 ac w eL 3 fx U Y/\yx r fx [] (λi=>jJ r (q9 fC) i)/\aA U h ac/\U<=Y):=by
 refine aml ?_;obtain⟨a8,cap,rfl,aZ⟩:=id aJ.1;refine(zJ  (by rcases a5 with rfl|rfl|rfl <;> omega) (by rcases a5 with rfl|rfl|rfl <;> omega)).mono ?_;rintro _ _ _ ⟨rfl,gd,ez⟩;rw[gd,ez];refine aF ?_;refine agO ?_;refine(auz J aJ).mono ?_;rintro _ _ _ ⟨rfl,gd,ez⟩;rw[gd,ez];refine aF ?_;refine⟨λh=>absurd trivial h,?_⟩;obtain⟨H,fJ⟩:∃H,H=T h U (.cells [.slice none 0 0,(r:X),.slice none 0 0] false):=⟨_,rfl⟩
 have t0:aA U h H:=by rw[fJ];exact aK
 rw[<-fJ];refine bD.mk (λm aE ac Y=>∃i W dq,m=fC.length-i/\i<=fC.length/\aE=[bd U,.slice a8 fC.length cap,(fC.length:X),(i:X)]/\GC ac Y U U r W [] dq/\(left W).Perm (q9 (fC.take i))/\W.length<=i/\aA U h ac/\U+1<=Y) fC.length ⟨0,[],none,J,J,rfl,⟨.slice none 0 0,none,.inl ab,aoh,λx a1=>(sT a1).elim,.inl ab,ab,ab⟩,BH _,by simp,t0,J⟩ ?_;rintro _ _ ar bX ⟨i,W,dq,rfl,aj,rfl,hV,gL,hWl,ei,eZ⟩;rw[ajC];unfold Xh;refine aF ?_;refine⟨λcA=>?_,λeN=>?_⟩
 ·obtain⟨p,bk⟩:=d1   J;obtain⟨b,aX,aO,bJ,sh,mC,aT,aV,a6,kl⟩:=ej.ld1  aJ.1 bk;cases aV;have jq:=(ei b aT).trans a6;have mJ:=aJ.2 p ab;rw[mJ.1.pP]at kl;obtain⟨V,aU,DO,B,D,K,rj,ni⟩:=hV;refine cL @jq @kl ?_;refine(abK   DO rj J J J J B D (mJ.1.F (λc aZ=>ei c aZ) J) J mJ.2.1).mono ?_;rintro _ aL bS ⟨p0,E,db,⟨n2,TF,ys,TG⟩,ayB,gA,e8⟩;refine bg (cG (J:i<1000000000000)) ?_;have tz:∀c,c<U->u aL c=u ar c:=ab
  refine⟨_,J,i+1,p0,E,rfl,J,rfl,⟨V,aU,db,n2,TG aL tz,K.F λcd e=>?_,λcd e=>?_,λcd e=>?_⟩,?_,J,aK,J⟩
  ·grind
  ·grind
  ·grind
  ·unfold q9;rw[hx,bk];rw[Im];have:=TF.trans (gL.append_right p.2);simpa[q9]using this
 ·have Hw:i=fC.length:=J
  subst Hw;rw[iQ]at gL;have ayG:∀p∈left W,0<=p.2/\p.2<=er:=λp bk=>by obtain⟨x,a1,sy⟩:=List.mem_flatMap.1 (gL.mem_iff.1 bk);exact(aJ.2 x a1).2.2.2 p sy
  refine bD.mk (λm aE ac Y=>∃W fx dq,m=(left W).length/\aE=[bd U]/\GC ac Y U U r W fx dq/\yx r fx (left W) (λi=>jJ r (q9 fC) i)/\W.length<900/\fx.length+(left W).length<=50000/\(∀p∈fx,0<=p.2/\p.2<=er)/\(∀p∈left W,0<=p.2/\p.2<=er)/\aA U h ac/\U+1<=Y) (left W).length ⟨W,[],dq,rfl,rfl,hV,⟨List.Pairwise.nil,ab,λv=>by rw[Od gL];rfl⟩,J,by have:=gL.length_eq;grind,ab,ayG,ei,eZ⟩ ?_;rintro _ _ aL bS ⟨W,fx,dq,rfl,rfl,hV,yI,hWl,jH,hi1,hi2,e8,gA⟩;rw[ajD];unfold Xi;have G7:=hV;obtain⟨V,aU,DO,B,D,K,rj,ni⟩:=hV;obtain⟨gy,ny,A⟩:=DO.form;refine bg @A ?_;refine PN.mono ?_;rintro _ _ _ ⟨rfl,gd,ez⟩;rw[gd,ez];refine bg @A ?_;refine⟨λu2=>?_,λdR=>?_⟩
  ·have e0:W≠[]:=ab
   refine(aoi a5 G7 J J J hWl J e0 ab).mono ?_;rintro _ bm dH ⟨p,M,p0,E,hpM,KM,hM2,Hv,LR,ir,fP⟩;have oM:=hpM.length_eq;have tw:=Hv.length_eq;rw[nJ]at oM;have AM:=ar2 r fx p;have I:=yI.step hpM KM;refine⟨(left p0).length,J,p0,qy r fx p,E,rfl,hM2,⟨I.up,λo eU q cM=>I.le o eU q ab,λv=>?_⟩,J,J,ar1 a5 hi1 ab,ab,aK,J⟩;rw[Od Hv];exact I.HP v
  ·have hW0:W=[]:=ab
   subst hW0;refine⟨V,fx,rfl,?_,yI,e8,J⟩;rcases K with⟨rfl,rfl,_⟩|⟨f8,aV,rfl,tJ⟩
   ·exact .inl ab
   ·have:=ni f8 aV;exact .inr ⟨f8,J,J,rfl,tJ⟩
theorem aiA{s:al}{v:X}{h:ae}{U:Nat}(a5:nU r)(fq:L.length<100000)(aJ:ej h U v fD 2 L)(ce:0<=y/\y<=er)(bV:∀p∈L,0<=p.2/\p.2<=2147483647):
  aH Q s 453 [(r:X),v,(y:X),.slice none 0 0,.bool true] h U (λM ac Y=>d5 ac M eL 3 (L.map λp=>(p.1,f3 r p.2 y)) U Y/\aA U h ac/\U<=Y):=by
 refine ajG ?_;unfold YH;obtain⟨a8,cap,rfl,aZ⟩:=id aJ;refine aF ?_;refine bD.mk (λm aE ac Y=>∃i w,m=L.length-i/\i<=L.length/\aE=[(r:X),(y:X),.slice none 0 0,.bool true,w,.slice a8 L.length cap,(L.length:X),(i:X)]/\d5 ac w eL 3 ((L.take i).map λp=>(p.1,f3 r p.2 y)) U Y/\aA U h ac/\U<=Y) L.length ⟨0,.slice none 0 0,J,J,rfl,.inl ab,aK,J⟩ ?_;rintro _ _ ar bX ⟨i,w,rfl,aj,rfl,I,B,A⟩;rw[aia];unfold Wj;refine aF ?_;refine⟨λcA=>?_,λeN=>?_⟩
 ·obtain⟨p,bk⟩:=d1   J;obtain⟨b,aX,aO,bJ,sh,mC,aT,aV,a6,V⟩:=(aJ.F B A).ld (λ_=>rfl) bk;cases aV;refine cL @a6 @V ?_;rw[show fD p=[(p.1:X),(p.2:X)]from rfl];refine aF ?_;refine PM.mono ?_;rintro _ _ _ ⟨rfl,gd,ez⟩;rw[gd,ez];simp(disch:=omega)only[bn,show bin Q .neq 4 (.bool false) (.bool true) = .ok (.bool true) by kernel_rfl,seval];refine(aaV a5 ab ce).mono ?_;rintro _ aL bS ⟨rfl,D,E⟩;have c6:=(D bX J).trans (aS _ _ _);refine⟨E,?_⟩;have aV:∀x:Int,dh (.agg ⟨wid x⟩)=[.int .i64 (x / 18446744073709551616),.int .u64 (x % 18446744073709551616)]:=λ_=>rfl;refine k7 @c6 @aV @rY @rV ?_;have fI:∀c,c<bX->u aL c=u ar c:=λc aZ=>by rw[D c J,aq J,aq J]
  refine l4  (k:=3)  (λ_=>rfl) (λ_=>rfl) J (I.F  ab J) J (p.1,f3 r p.2 y) (aS _ _ _) rfl ab λdN kI K vd=>?_;refine⟨J,_,J,i+1,dN,rfl,J,by rw[cG J],?_,aK,J⟩;rw[hx,bk];rw[iF];exact K
 ·have:i=L.length:=J
  subst this;rw[iQ]at I;exact⟨I,B,A⟩
theorem aoj{s:al}{r c:Nat}{v:X}{x:Nat->aw Int}{h:ae}{U:Nat}(M:g8 c r ag)(aJ:mE h U v r c ag)(bV:jQ h U w n x)(bH:n<=4096):aH Q s 452 [v,w] h U (dC (.tuple ⟨[v,w]⟩) U h):=by
 refine aqr ?_;have hp:=aJ;have E:=bV;obtain⟨v1,v2,v3,v4,rfl,h1,ar,aL,bm⟩:=aJ;obtain⟨aB,c1,rfl,_⟩:=id h1;obtain⟨a2,c2,rfl,_⟩:=id ar;obtain⟨a3,ci,rfl⟩:=aL.form;obtain⟨aY,hF,rfl,_⟩:=id bm;obtain⟨gK,rfl,ap⟩:=bV;obtain⟨_,_,rfl,_⟩:=id ap;have bZ:∀{o eX dO fZ},aA U h (T (T (T (T h U o) (U+1) eX) (U+1+1) dO) (U+1+1+1) fZ):=aK
 unfold ac6;refine aF ?_;refine(XE M (hp.F  bZ J)).mono ?_;rintro _ aV bh ⟨rfl,A,fy⟩;have cv:=A U J;rw[aq J,aq J,aq J,aS]at cv;have V:=A (U+1) J;rw[aq J,aq J,aS]at V;have g2:=A (U+1+1) J;rw[aq J,aS]at g2;have dj:=A (U+1+1+1) J;rw[aS]at dj;have cJ:=bZ.trans A J;refine aF ?_;unfold On;refine bg @V ?_;refine(vG (E.F  cJ J) bH).mono ?_;rintro _ aP bX ⟨rfl,B,eZ⟩;have K:=(B U J).trans cv;have D:=(B (U+1) J).trans V;have Tv:=(B (U+1+1) J).trans g2;have I:=(B (U+1+1+1) J).trans dj;refine aF ?_;unfold Om;refine k7 @K @D @Tv @I ?_;exact⟨rfl,aK,J⟩
def tr(r:Int)(ag:aa GE)(p:Nat × Int):aa (Nat × Int):=(eM ag p.1).map λg=>(g.t,f3 r g.w p.2)
theorem ar3(r:Int)(ag:aa GE)(k v:Nat)(y:Int):jJ r (tr r ag (k,y)) v=fi r (ag.map λg=>if g.f=k then(if g.t=v then some (f3 r g.w y)else none)else none):=by
 unfold jJ tr eM;rw[ot,Ni]
 grind
theorem ZA{r:Int}{ag:aa GE}{x:Nat->aw Int}{v:Nat}:∀n,jJ r ((bj n x).flatMap (tr r ag)) v=fi r ((List.range n).map λk=>fi r (ag.map λg=>if g.f=k then(if g.t=v then(x g.f).map (f3 r g.w)else none)else none))
 |0=>rfl
 |n+1=>by
  rw[tc,Im,xF,ZA n,p4,iF,t9,zd,NG]
  congr 1
  cases A:x n with
  |none =>
   symm
   refine xw λz B=>?_
   grind
  |some y =>
   show jJ r (tr r ag (n,y)++[]) v=_;rw[hZ,ar3]
   grind
theorem aok{C:Nat}{x:Nat->aw Int}{v:Nat}(A:zM ag fj)(M:g8 C R fj):jJ r ((bj C x).flatMap (tr r fj)) v=ip r ag x v:=by rw[ZA,<-ah6 r (λg:GE=>if g.t=v then(x g.f).map (f3 r g.w)else none) (λg=>g.f) fj C M.rows];rw[Xe (List.Perm.map _ A),ot];rfl
def tK{az:Type}(h:ae)(v:X)(enc:az->aa X)(k:Nat)(l:aa az)(P:Nat->Prop):Prop :=
 ∃a c,v = .slice a l.length c/\(l≠[]->∃b o aO bJ cs,P b/\a=some ⟨b,o,aO⟩/\aO≠some 0/\l.length<=c/\u h b=some (.cells cs bJ)/\o+l.length*k<=cs.length/\(cs.drop o).take (l.length*k)=bc enc l)
section
variable {az:Type} {h ac:ae} {U k:Nat} {v:X} {enc:az->aa X} {l:aa az} {P o5:Nat->Prop}
theorem tK.c(H:tK h v enc k l P)(B:∀b,P b->b<U):mm h U v enc k l:=by obtain⟨a,c,e,H⟩:=H;exact⟨a,c,e,λA=>ab⟩
theorem tK.F(H:tK h v enc k l P)(hk:∀b,P b->u ac b=u h b)(V:∀b,P b->o5 b):tK ac v enc k l o5:=by obtain⟨a,c,e,H⟩:=H;exact⟨a,c,e,λA=>by obtain⟨b,o,B,D,cs,h1,I,K,M,b3,E⟩:=H A;exact⟨b,o,B,D,cs,V b h1,I,K,M,ab,E⟩⟩
theorem d5.b{ao aj:Nat}(E:0<k)(A:∀x,(enc x).length=k)(H:d5 h v enc k l ao aj):tK h v enc k l (λb=>ao<=b/\b<aj):=by
 rcases H with⟨rfl,rfl⟩|⟨b,I,B,rfl,D⟩
 ·exact⟨_,_,rfl,λh=>absurd rfl h⟩
 ·exact⟨_,_,rfl,λ_=>⟨b,0,some k,false,_,⟨I,B⟩,rfl,ab,J,D,by rw[gg A];omega,by rw[pb,o8 (by rw[gg A];omega)]⟩⟩
theorem tK.pP(H:tK h v enc k l P):pP v=v:=by obtain⟨a,c,rfl,_⟩:=H;rfl
end
def lb(p:X × aa (Nat × Int)):aa X:=[pP p.1]
def TI(h:ae)(v:X)(fC:aa (X × aa (Nat × Int)))(aU:aw Nat):Prop:=(fC=[]/\v = .slice none 0 0/\aU=none)\/∃b,aU=some b/\v = .slice (some ⟨b,0,some 1⟩) fC.length fC.length/\u h b=some (.cells (bc lb fC) false)
theorem TI.hU{h:ae}{v:X}{fC:aa (X × aa (Nat × Int))}{aU:aw Nat}(H:TI h v fC aU):fQ h lb 1 v fC aU:=by
 rcases H with⟨rfl,rfl,rfl⟩|⟨b,rfl,rfl,A⟩
 ·exact .nil
 ·exact .own A
theorem akF(p:X × aa (Nat × Int)):ea (lb p)=true:=by
 unfold lb pP;cases p.1 <;> rfl
theorem aol{s:al}{C:Nat}{v:X}{x:Nat->aw Int}{h:ae}{U:Nat}(a5:nU r)(av:zM ag fj)(M:g8 C R fj)(ed:C<=63)(aJ:mE h U v R C fj)(bV:jQ h U w C x)(hwt:∀g∈fj,0<=g.w/\g.w<=2147483647)(a1:∀i y,x i=some y->0<=y/\y<=er):
  aH Q s 392 [(r:X),v,w,.slice none 0 0,.bool true] h U (λaD ac Y=>∃z,aD = .tuple ⟨[z,.int .i64 0]⟩/\eH ac U Y z eL (bj R (ip r ag x))/\aA U h ac/\U<=Y):=by
 refine aqn ?_;have hp:=aJ;have oS:=bV;obtain⟨v1,v2,v3,v4,rfl,h1,ar,aL,bm⟩:=aJ;obtain⟨aB,c1,rfl,_⟩:=id h1;obtain⟨a2,c2,rfl,_⟩:=id ar;obtain⟨a3,ci,rfl⟩:=aL.form;obtain⟨aY,hF,rfl,_⟩:=id bm;obtain⟨gK,rfl,ap⟩:=bV;obtain⟨cC,k1,rfl,_⟩:=id ap;have bZ:∀{o eX},aA U h (T (T h U o) (U+1) eX):=aK
 unfold ac1;refine aF ?_;refine(aoj M (hp.F  bZ J) (oS.F  bZ J) J).mono ?_;rintro _ aV bh ⟨rfl,d9,fy⟩;have cv:=d9 U J;rw[aq J,aS]at cv;have bB:=d9 (U+1) J;rw[aS]at bB;have cJ:=bZ.trans d9 J;refine cL @cv @bB ?_;obtain⟨H,fJ⟩:∃H,H=T (T aV U (.cells [(R:X),(C:X),.slice aB (gC fj).length c1,.slice a2 (gX fj).length c2,.slice a3 (fp fj).length ci,.slice aY (gq fj).length hF] false)) (U+1) (.cells [(C:X),.slice cC (bj C x).length k1] false):=⟨_,rfl⟩
 have t0:aA U h H:=by rw[fJ];exact aK
 have Bo:u H U=some (.cells [(R:X),(C:X),.slice aB (gC fj).length c1,.slice a2 (gX fj).length c2,.slice a3 (fp fj).length ci,.slice aY (gq fj).length hF] false):=ab
 have pY:u H (U+1)=some (.cells [(C:X),.slice cC (bj C x).length k1] false):=ab
 rw[<-fJ];clear fJ;refine(zJ  (by rcases a5 with rfl|rfl|rfl <;> omega) (by rcases a5 with rfl|rfl|rfl <;> omega)).mono ?_;rintro _ _ _ ⟨rfl,gd,ez⟩;rw[gd,ez];have fW:=l3 C x;simp(disch:=omega)only[bn,Bo,pY,qR,seval];refine bD.mk (λm aE ac Y=>∃i w fC aU,m=(bj C x).length-i/\i<=(bj C x).length/\aE=[(r:X),.slice none 0 0,.bool true,bd U,w,.slice cC (bj C x).length k1,.int .i64 ((bj C x).length:Int),(i:X)]/\TI ac w fC aU/\(∀b,aU=some b->bh<=b/\b<Y)/\(∀p∈fC,tK ac p.1 eL 3 p.2 (λb=>bh<=b/\b<Y/\aU≠some b)/\(p.2.Pairwise λa b=>a.1<b.1)/\p.2.length<=120/\∀q∈p.2,0<=q.2/\q.2<=er)/\q9 fC=((bj C x).take i).flatMap (tr r fj)/\fC.length=i/\(∀c,c<bh->u ac c=u H c)/\bh<=Y) (bj C x).length ⟨0,.slice none 0 0,[],none,J,J,rfl,.inl ab,ab,λp E=>(sT E).elim,rfl,rfl,ab,J⟩ ?_;rintro _ _ ar bX ⟨i,w,fC,aU,rfl,aj,rfl,dI,ni,A,g1,hLl,ei,eZ⟩;have eA:aA U h ar:=aK
 have DM:=(ei U J).trans Bo;rw[amt];unfold YG;refine aF ?_;refine⟨λcA=>?_,λeN=>?_⟩
 ·obtain⟨p,E⟩:=d1   J;obtain⟨hpC,sy⟩:=vS   E;obtain⟨b,aX,aO,bJ,sh,mC,aT,aV,a6,kl⟩:=(ap.F eA (Y:=bX) J).ld (λ_=>rfl) E;cases aV;refine cL @a6 @kl ?_;rw[show fD p=[(p.1:X),(p.2:X)]from rfl];refine bg @DM ?_;have fI:aA U h (T (T ar bX (.cells [.int .i64 0,.int .i64 0] false)) bX (.cells [(p.1:X),(p.2:X)] false)):=aK
  refine(aiv  M (hp.F  fI J)).mono ?_;rintro oe aL bS ⟨ayH,B,I⟩;have c6:=(B bX J).trans (aS _ _ _);refine⟨I,?_⟩;refine hK @c6 @rY @rV ?_;have lG:(mb fj p.1).length<=120:=by unfold mb eM;rw[gH];exact hy (y4 _ _) M.len
  refine(aiA  a5 J (cN.o (λ_=>rfl) ayH.rd) (a1 _ _ sy) (λq cM=>?_)).mono ?_
  ·obtain⟨g,a6,rfl⟩:=f0.1 cM;exact hwt g (Ck a6).1
  rintro UT bm dH ⟨Tf,fP,ir⟩;refine⟨ir,?_⟩;have V:=d5.b J an8 Tf;have hwd:=V.pP;obtain⟨a8,gM,ewd,_⟩:=id V;rw[ewd];refine aF ?_;have hD:∀c,c<bX->u bm c=u ar c:=λc aZ=>by rw[fP c J,B c J,aq J,aq J]
  have Sv:fQ (T bm dH (.cells [.slice a8 ((mb fj p.1).map λq=>(q.1,f3 r q.2 p.2)).length gM] false)) lb 1 w fC aU:=dI.hU.F λcd e=>ab
  have Tt:((mb fj p.1).map λq=>(q.1,f3 r q.2 p.2))=tr r fj p:=by unfold mb tr;rw[ot];rfl
  refine xD  (k:=1) (λ_=>rfl) akF J Sv (UT,tr r fj p) (aS _ _ _) (by show[_]=[pP UT];grind) J λb3 Dz tD=>?_;refine⟨J,_,J,i+1,.slice (some ⟨dH+1,0,some 1⟩) (fC.length+1) (fC.length+1),fC++[(UT,tr r fj p)],some (dH+1),rfl,J,by rw[cG (J:i<1000000000000)],.inr ⟨dH+1,rfl,ab,Dz⟩,(λcd e=>ab),?_,?_,ab,λc aZ=>?_,J⟩
  ·intro ew wC;rcases hb.1 wC with cF|cF
   ·refine⟨(A ew cF).1.F (λcd D=>?_) (λcd D=>⟨D.1,J,λe=>ab⟩),(A ew cF).2⟩
    grind
   ·rw[iP.1 cF];refine⟨?_,?_,?_,λq cM=>?_⟩
    ·rw[<-Tt];refine V.F (λcd D=>?_) (λcd D=>⟨J,J,λe=>ab⟩);rw[tD cd J (λe=>ab),aq J]
    ·unfold tr;rw[xj];exact Pv M.up p.1
    ·grind
    ·obtain⟨g,K,rfl⟩:=f0.1 cM;exact Rc (hwt g (Ck K).1) (a1 _ _ sy) a5
  ·unfold q9 at g1 ⊢;rw[Im,g1,hx,E]
   grind
  grind
 ·have Hw:i=(bj C x).length:=J
  subst Hw;rw[iQ]at g1;have SH:Ag ar bX w fC:=by
   refine⟨?_,λp E=>⟨(A p E).1.c (λb aT=>aT.2.1),(A p E).2.1,ab,(A p E).2.2.2⟩⟩;rcases dI with⟨rfl,rfl,rfl⟩|⟨b,e,rfl,a6⟩
   ·exact ej.nil
   ·exact cN.o (λ_=>rfl) ⟨some ⟨b,0,some 1⟩,_,rfl,λ_=>⟨b,some 1,false,(ni b e).2,rfl,a6⟩⟩
  have hFl:(q9 fC).length<50000:=by
   have:∀(L:aa (X × aa (Nat × Int))),(∀p∈L,p.2.length<=120)->(q9 L).length<=L.length*120:=λL=>by
    induction L with
    |nil=>intro _;exact cD _
    |cons p L eO =>
     intro fm;have:=eO λq cM=>fm q (mx _ cM);unfold q9 at this ⊢
     grind
   grind
  refine(XH a5 J SH hFl).mono ?_;rintro _ aL bS ⟨z,fx,rfl,hzA,yI,B,I⟩;have cZ:=(d5.f hzA).gr;have hOL:fx=bj R (ip r ag x):=by
   have e:(λi=>jJ r (q9 fC) i)=ip r ag x:=by
    funext v
    rw[g1];exact aok av M
   rw[e]at yI;refine yI.done λv aJ=>?_;refine xw λy ce=>?_;obtain⟨g,a6,rfl⟩:=f0.1 ce;have K:oF g∈fj:=av.mem_iff.2 (f0.2 ⟨g,a6,rfl⟩);have:=M.l9 _ K;have:g.f<R:=this
   grind
  subst hOL;refine aF ?_;exact⟨z,rfl,cZ.F (λ_ _ _=>rfl) J (cD _),eA.trans B J,J⟩
theorem aom{s:al}{r c:Nat}{v:X}{x:Nat->aw Int}{h:ae}{U:Nat}(M:g8 c r ag)(aJ:mE h U v r c ag)(bV:jQ h U w n x)(bH:n<=4096):aH Q s 320 [v,w] h U (λE ac Y=>(∃y,E = .int .i64 y)/\aA U h ac/\U<=Y):=by
 refine aqi ?_;have V:=aJ;have I:=bV;obtain⟨v1,v2,v3,v4,rfl,h1,ar,aL,bm⟩:=aJ;obtain⟨aB,c1,rfl,_⟩:=id h1;obtain⟨a2,c2,rfl,_⟩:=id ar;obtain⟨a3,ci,rfl⟩:=aL.form;obtain⟨aY,hF,rfl,_⟩:=id bm;obtain⟨gK,rfl,ap⟩:=bV;obtain⟨cC,k1,rfl,_⟩:=id ap;have fW:=l3 n x;have bZ:∀{o eX},aA U h (T (T h U o) (U+1) eX):=aK
 unfold acW;refine aF ?_;refine(Wv (I.F  bZ J) bH).mono ?_;rintro aBN aV bh ⟨bk,D,A⟩;refine⟨A,?_⟩;have cv:=D U J;rw[aq J,aS]at cv;have cJ:=bZ.trans D J;have K:(bj n x).map (λp=>(p.1:Int))=fX ((bj n x).map (·.1)):=by unfold fX;rw[ot];rfl
 rw[K]at bk;refine bg @cv ?_;refine(an6 M (V.F  cJ J) (cN.o (λ_=>rfl) bk.rd) ab).mono ?_;rintro _ aP bX ⟨⟨y,rfl⟩,ei,B⟩;exact⟨B,⟨y,rfl⟩,aK,J⟩
theorem akG{s:al}{f a n:Int}{h:ae}{U:Nat}(I:0<=n/\n<1000000):aH Q s 317 [(f:X),(a:X),(n:X)] h U (λr ac Y=>(r = .int .i64 1\/r = .int .i64 2)/\ac=h/\Y=U):=by
 refine amn ?_;unfold aaJ
 by_cases E:f=1
 ·subst E;simp(disch:=omega)only[bn,seval]
  grind
 ·by_cases B:f=2
  ·subst B;simp(disch:=omega)only[bn,seval]
   grind
  ·have D:(f == 1)=false:=ab
   have A:(f == 2)=false:=ab
   simp(disch:=omega)only[bn,D,A,B9 (show(8:Int)≠0 by decide),seval]
   grind
theorem ag8{s:al}{f a n:Int}{h:ae}{U:Nat}:aH Q s 319 [(f:X),(a:X),(n:X)] h U (λr ac Y=>(r = .int .i64 1\/r = .int .i64 2)/\ac=h/\Y=U):=by
 refine ahg ?_;unfold VR
 by_cases E:f=1
 ·subst E;simp(disch:=omega)only[bn,seval]
  grind
 ·by_cases A:f=2
  ·subst A;simp(disch:=omega)only[bn,seval]
   grind
  ·have B:(f == 1)=false:=ab
   have D:(f == 2)=false:=ab
   simp(disch:=omega)only[bn,B,D,B9 (show(4:Int)≠0 by decide),seval]
   grind
def vZ(h:ae)(U:Nat)(v:X)(n:Nat)(x:Nat->aw Int):Prop :=
 (∃gK,v = .agg ⟨[.int .i64 1,(n:X),gK,.int .i64 0,.slice none 0 0,.slice none 0 0]⟩/\ej h U gK fD 2 (bj n x)) \/
 (∃fg dp,v = .agg ⟨[.int .i64 2,.int .i64 0,.slice none 0 0,(n:X),fg,dp]⟩/\cN h U fg jU (eS n (j0 x))/\ej h U dp c3 1 (cz n (jL x)))
theorem vZ.F{h ac:ae}{U Y n:Nat}{v:X}{x:Nat->aw Int}(H:vZ h U v n x)(B:aA U h ac)(A:U<=Y):vZ ac Y v n x:=by
 rcases H with⟨M,e,D⟩|⟨K,E,e,D,I⟩
 ·exact .inl ⟨M,e,D.F B A⟩
 ·exact .inr ⟨K,E,e,D.F B A,I.F B A⟩
theorem PO{s:al}{v:X}{x:Nat->aw Int}{h:ae}{U:Nat}(aJ:vZ h U v n x)(bH:n<=63):aH Q s 321 [v] h U (λr ac Y=>jQ ac Y r n x/\aA U h ac/\U<=Y):=by
 refine atF ?_;have fW:=l3 n x;have V:∀{o eX},aA U h (T (T h U o) (U+1) eX):=aK
 unfold aeD;rcases aJ with⟨gK,rfl,B⟩|⟨fg,dp,rfl,B,ar⟩
 ·obtain⟨cC,k1,rfl,_⟩:=id B;refine aF ?_;refine(vG  (jQ.F    ⟨_,rfl,B⟩ V J) J).mono ?_;rintro _ aV bh ⟨rfl,A,D⟩;have cv:=A U J;rw[aq J,aS]at cv;have K:=A (U+1) J;rw[aS]at K;have cJ:=V.trans A J;unfold Pf;refine bg @cv ?_;refine(BN (B.F cJ  J) J).mono ?_;rintro e1 aP bX ⟨dI,E,I⟩;refine⟨I,?_⟩;obtain⟨bQ,hr,rfl⟩:=dI.form;have DM:=(E U J).trans cv;have M:=(E (U+1) J).trans K;refine k7 @DM @M @rY @rV ?_;refine⟨⟨_,rfl,?_⟩,aK,J⟩;exact cN.o (λ_=>rfl) (eH.rd (dI.gr.F  ab J J))
 ·obtain⟨eP,cX,rfl,_⟩:=id B;obtain⟨bz,pT,rfl,_⟩:=id ar;refine aF ?_;refine(an4  (r7.F    ⟨_,_,rfl,B,ar⟩ V J) bH).mono ?_;rintro fB aV bh ⟨et,A,D⟩;have K:=A (U+1) J;rw[aS]at K;obtain⟨gK,rfl,aj⟩:=et;obtain⟨cC,k1,rfl,_⟩:=id aj;refine bg @K ?_;refine⟨⟨_,rfl,?_⟩,aK,J⟩;exact cN.o (λ_=>rfl) (eH.rd (aj.F (d6:=U+2) ab J J))
theorem vZ.form{h:ae}{U:Nat}{v:X}{x:Nat->aw Int}(H:vZ h U v n x):∃I V aB D B K a2 E c2 M bS ci,v = .agg ⟨[.int .i64 I,.int .i64 V,.slice aB D B,.int .i64 K,.slice a2 E c2,.slice M bS ci]⟩:=by
 rcases H with⟨gK,rfl,A⟩|⟨fg,dp,rfl,A,ar⟩
 ·obtain⟨cC,k1,rfl,_⟩:=id A
  grind
 ·obtain⟨eP,cX,rfl,_⟩:=id A;obtain⟨bz,pT,rfl,_⟩:=id ar
  grind
theorem akH{s:al}{v:X}{x:Nat->aw Int}{h:ae}{U:Nat}(V:vZ h U v n x)(E:n<=63):aH Q s 394 [v] h U (λr ac Y=>r7 ac Y r n x/\aA U h ac/\U<=Y):=by
 refine amu ?_;have D:=V;obtain⟨ct,cB,aB,m1,c1,co,a2,m2,c2,a3,m3,ci,rfl⟩:=V.form;have bZ:∀{o eX},aA U h (T (T h U o) (U+1) eX):=aK
 unfold aaM;refine aF ?_;refine(PO (D.F  bZ J) E).mono ?_;rintro nr aV bh ⟨lz,B,M⟩;refine(adS lz E).mono ?_;rintro eR aP bX ⟨Bi,A,eZ⟩;have bB:=(A (U+1) J).trans (B (U+1) J);rw[aS]at bB;obtain⟨fg,dp,rfl,I,K⟩:=Bi;obtain⟨eP,cX,rfl,_⟩:=id I;obtain⟨bz,pT,rfl,_⟩:=id K;refine bg @bB ?_;exact⟨⟨_,_,rfl,(I.F  ab J J).rd,cN.o (λ_=>rfl) (K.F  ab J J).rd⟩,aK,J⟩
structure Cz (h:ae) (U:Nat) (t:X) (r:Int) (R C:Nat) (ag fj:aa GE) (x:Nat->aw Int):Prop where
 rg:nU r
 m:g8 R C ag
 bC:g8 C R fj
 aAK:zM ag fj
 ed:C<=63
 w:∀g∈ag,0<=g.w/\g.w<=2147483647
 aAL:∀i y,x i=some y->0<=y/\y<=er
 v:∃cw n5 aJ LS,t = .agg ⟨(r:X)::(dh cw++(dh n5++(dh aJ++[.slice none 0 0,.bool true,.int .i64 LS])))⟩/\kc h U cw R C ag/\mE h U n5 R C fj/\vZ h U aJ C x
theorem Cz.F{h ac:ae}{U Y:Nat}{t:X}{r:Int}{R C:Nat}{ag fj:aa GE}{x:Nat->aw Int}(H:Cz h U t r R C ag fj x)(D:aA U h ac)(A:U<=Y):Cz ac Y t r R C ag fj x :=
 { H with v:=by obtain⟨E,K,V,B,e,h1,I,M⟩:=H.v;exact⟨E,K,V,B,e,h1.F D A,I.F D A,M.F D A⟩ }
theorem mE.form{h:ae}{U:Nat}{v:X}{r c:Nat}{ag:aa GE}(H:mE h U v r c ag):∃A V B I bX c2 D bS ci K dH E,v = .agg ⟨[(r:X),(c:X),.slice A V B,.slice I bX c2,.slice D bS ci,.slice K dH E]⟩:=by
 obtain⟨v1,v2,v3,v4,rfl,h1,ar,aL,M⟩:=H;obtain⟨A,B,rfl,_⟩:=id h1;obtain⟨I,c2,rfl,_⟩:=id ar;obtain⟨D,ci,rfl⟩:=aL.form;obtain⟨K,E,rfl,_⟩:=id M
 grind
def agp(R:Nat)(r:Int)(ag:aa GE)(x:Nat->aw Int)(U:Nat)(h:ae):bP:=λaD ac Y=>∃z,aD = .tuple ⟨[z,.int .i64 0]⟩/\eH ac U Y z eL (bj R (ip r ag x))/\aA U h ac/\U<=Y
theorem aon{s:al}{t:X}{C:Nat}{x:Nat->aw Int}{h:ae}{U:Nat}(H:Cz h U t r R C ag fj x):aH Q s 323 [t] h U (agp R r ag x U h):=by
 refine aqj ?_;obtain⟨cw,n5,aJ,LS,rfl,h1,V,aL⟩:=H.v;have E:=V;have I:=aL;obtain⟨b,aO,n,a2,bX,c2,a3,bS,ci,rfl⟩:=h1.form;obtain⟨dE,m1,fr,b4,m2,fG,dZ,m3,hW,fA,m4,nE,rfl⟩:=V.form;obtain⟨ct,cB,aV,gk,fF,co,aP,hu,gj,ch,o1,mu,rfl⟩:=aL.form;have M:∀{o},aA U h (T h U o):=aK
 unfold acX;simp(disch:=omega)only[bn,MT,sU,seval];refine(PO (I.F  M J) H.ed).mono ?_;rintro nr bB cp ⟨lz,B,A⟩;refine⟨A,?_⟩;have cv:=(B U J).trans (aS _ _ _);have cJ:=M.trans B J;refine zT @cv @rY @rV @sX @xu @BQ ?_;have D:∀g∈fj,0<=g.w/\g.w<=2147483647:=λg a6=>by obtain⟨b8,K,rfl⟩:=f0.1 (H.aAK.mem_iff.1 a6);exact H.w b8 K
 refine(aol H.rg H.aAK H.bC H.ed (E.F cJ J) lz D H.aAL).mono ?_;rintro _ g2 k2 ⟨z,rfl,dI,ei,eZ⟩;refine aF ?_;refine⟨J,z,rfl,dI.F ab J J,aK,J⟩
theorem aoo{s:al}{t:X}{C:Nat}{x:Nat->aw Int}{h:ae}{U:Nat}(H:Cz h U t r R C ag fj x):aH Q s 324 [t] h U (agp R r ag x U h):=by
 refine aqk ?_;obtain⟨cw,n5,aJ,LS,rfl,V,ar,M⟩:=H.v;have D:=V;have E:=M;obtain⟨b,aO,n,a2,bX,c2,a3,bS,ci,rfl⟩:=V.form;obtain⟨dE,m1,fr,b4,m2,fG,dZ,m3,hW,fA,m4,nE,rfl⟩:=ar.form;obtain⟨ct,cB,aV,gk,fF,co,aP,hu,gj,ch,o1,mu,rfl⟩:=M.form;have I:∀{o},aA U h (T h U o):=aK
 unfold acY;simp(disch:=omega)only[bn,MT,sU,seval];refine(akH (E.F  I J) H.ed).mono ?_;rintro nr bB cp ⟨lz,B,A⟩;refine⟨A,?_⟩;have cv:=(B U J).trans (aS _ _ _);have cJ:=I.trans B J;refine zT @cv @rY @rV @sX @xu @BQ ?_;refine(an9 H.rg H.m H.ed (D.F cJ J) lz H.w H.aAL).mono ?_;rintro _ g2 k2 ⟨z,rfl,dI,ei,K⟩;refine aF ?_;refine⟨J,z,rfl,dI.F ab J J,aK,J⟩
theorem aop{s:al}{t:X}{C:Nat}{x:Nat->aw Int}{h:ae}{U:Nat}(H:Cz h U t r R C ag fj x):aH Q s 227 [t] h U (λaD ac Y=>∃z y,aD = .tuple ⟨[z,.int .i64 y,.int .i64 0]⟩/\eH ac U Y z eL (bj R (ip r ag x))/\aA U h ac/\U<=Y):=by
 refine aqf ?_;have rK:=H;obtain⟨cw,n5,aJ,LS,rfl,h1,ar,aL⟩:=H.v;have Sp:=h1;have h20:=ar;have Tj:=aL;obtain⟨b,aO,n,a2,bX,c2,a3,bS,ci,rfl⟩:=h1.form;obtain⟨dE,m1,fr,b4,m2,fG,dZ,m3,hW,fA,m4,nE,rfl⟩:=ar.form;obtain⟨ct,cB,aV,gk,fF,co,aP,hu,gj,ch,o1,mu,rfl⟩:=aL.form;have bZ:∀{o},aA U h (T h U o):=aK
 unfold acT;simp(disch:=omega)only[bn,MT,sU,seval];refine(PO (Tj.F  bZ J) H.ed).mono ?_;rintro nr bB cp ⟨lz,M,D⟩;refine⟨D,?_⟩;have cv:=(M U J).trans (aS _ _ _);have cJ:=bZ.trans M J;refine zT @cv @rY @rV @sX @xu @BQ ?_;refine(aom H.bC (h20.F cJ J) lz (by have:=H.ed;omega)).mono ?_;rintro _ g2 k2 ⟨⟨y,rfl⟩,I,V⟩;refine⟨V,?_⟩;have A:=(I U J).trans cv;have eA:=cJ.trans I J;simp(disch:=omega)only[bn,cv,A,rY,rV,sX,xu,BQ,seval];refine(akA H.m (Sp.F eA J)).mono ?_;rintro _ dj nt ⟨rfl,K,gA⟩;refine⟨gA,?_⟩;have B:=(K U J).trans A;have fI:=eA.trans K J;simp(disch:=omega)only[bn,cv,A,B,rY,rV,sX,xu,BQ,seval];refine ag8.mono ?_;rintro w _ _ ⟨bV,gd,ez⟩;rw[gd,ez];refine⟨J,?_⟩;rcases bV with rfl|rfl
 ·refine bg @B ?_;unfold Je;refine aF ?_;refine(aon (rK.F fI J)).mono ?_;rintro _ dL cR ⟨z,rfl,dI,fP,E⟩;refine aF ?_;exact⟨z,_,rfl,dI.F ab J J,aK,J⟩
 ·refine bg @B ?_;unfold Je;refine aF ?_;refine(aoo (rK.F fI J)).mono ?_;rintro _ dL cR ⟨z,rfl,dI,fP,E⟩;refine aF ?_;exact⟨z,_,rfl,dI.F ab J J,aK,J⟩
def hasB(gs:aa GE)(a b:Nat):al:=gs.any λe=>decide (e.f=a/\e.t=b)
def cU(gs:aa GE)(a b:Nat):al:=decide (a≠b)&&(hasB gs a b||hasB gs b a)
theorem se.up{w U A:Nat}{h B:ae}{r:X}{ac:ae}{Y:Nat}(H:se w A B r ac Y)(hk:aA U h B)(K:U<=A):se w U h r ac Y:=by obtain⟨b,c,D,rfl,V,I,E,M,gz⟩:=H;exact⟨b,c,D,rfl,J,I,E,aK,J⟩
structure fC (N:Nat) (h:ae) (ao aj:Nat) (os:aa X) (aBY:Nat->aa Nat) (pX:Nat->aw Nat):Prop where
 len:os.length=N
 s:∀i,i<N->∃o,os[i]? = some o/\gP h c3 o (fX (aBY i)) (pX i)
 b:∀i c,pX i=some c->ao<=c/\c<aj
 d:∀i j c,pX i=some c->pX j=some c->i=j
theorem fC.F{N:Nat}{h ac:ae}{ao aj dy:Nat}{A:aa X}{D:Nat->aa Nat}{B:Nat->aw Nat}(L:fC N h ao aj A D B)(I:∀c,ao<=c->c<aj->u ac c=u h c)(E:aj<=dy):fC N ac ao dy A D B :=
 ⟨L.len,λi aj=>by obtain⟨o,e,g⟩:=L.s i aj;exact⟨o,e,g.F λc e=>I c (L.b i c e).1 (L.b i c e).2⟩,λi c e=>⟨(L.b i c e).1,by have:=(L.b i c e).2;omega⟩,L.d⟩
def iu(bM:aa Int)(N d v:Nat):Int:=(if bM.length=0 then 0 else(bM[(d*N+v) % bM.length]?).getD 0)*4096+v
section
variable (gs:aa GE) (Hq:Nat->Nat->Int) (N:Nat)
def As(d:Nat)(q:Nat->al)(v:Nat):al:=(eh N (λaD=>cU gs v aD&&q aD)).all λaD=>!decide (Hq d aD<=Hq d v)
end
section
variable {gs:aa GE} {Hq:Nat->Nat->Int} {N:Nat}
end
theorem Kq(h:n<9223372036854775808):IntKind.wrap .i64 (n:Int)=(n:Int):=jE J J
theorem abL{t:TypeId}{b:Nat}(A:a<9223372036854775808)(B:b<9223372036854775808):bin Q .or t (a:X) (b:X) = .ok (((a ||| b:Nat):X)):=by show R.ok (Value.int .i64 (IntKind.wrap .i64 ((BitVec.ofInt 64 (a:Int) ||| BitVec.ofInt 64 (b:Int)).toNat:Int)))=_;rw[BitVec.toNat_or,AI  J,AI  J,Kq (Nat.or_lt_two_pow (n:=63) A B)]
theorem akI{t:TypeId}(A:a<2147483648):bin Q .shl t (a:X) (.int .u64 12) = .ok (((a*4096:Nat):X)):=by show R.ok (Value.int .i64 (ta .i64 ((a:Int)*2 ^ (min (12:Int).toNat 64))))=_;rw[nL,show((a:Int)*2 ^ (min (12:Int).toNat 64))=((a*4096:Nat):Int)from ab,Kq J]
theorem auA{b:Nat}(A:b<4096):a*4096 ||| b=a*4096+b:=by rw[xn];exact(Nat.two_pow_add_eq_or_of_lt (i:=12) A a).symm
def RW(bM:aa Int):Prop:=bM.length<=1000/\∀x∈bM,0<=x/\x<=2147483647
theorem XI{s:al}{k src len:Int}{N d v:Nat}{bM:aa Int}{eR:X}{h:ae}{U:Nat}(bp:cN h U eR c3 bM)(I:RW bM)(ek:N<=4096)(aJ:v<N)(hd2:d<=1000):
  aH Q s 368 [.agg ⟨[(k:X),(N:X),(src:X),(len:X),eR]⟩,(d:X),(v:X)] h U (dC (.int .i64 (iu bM N d v)) U h):=by
 refine amV ?_;obtain⟨a,cap,rfl,aZ⟩:=id bp;unfold aa4;have E:∀{o},aA U h (T h U o):=aK
 refine aF ?_;refine EV.mono ?_;rintro r h1 bh ⟨rfl,aV,V⟩;rw[aV,V,k8 J];have dc:IntKind.wrap .i64 ((N:Int)-1)=(N:Int)-1:=jE J J;refine bg @dc ?_;refine EV.mono ?_;rintro r h1 bh ⟨rfl,aV,V⟩;rw[aV,V,k8 J];unfold NQ;obtain⟨bb,aT⟩:=I
 by_cases au:bM.length=0
 ·have aM:((bM.length:Nat):Int)=0:=J
  have es:bin Q .shl 2 (.int .i64 0) (.int .u64 12) = .ok (.int .i64 0):=rfl;have B:bin Q .or 2 (.int .i64 0) (v:X) = .ok (v:X):=by rw[show(0:Int)=((0:Nat):Int)from rfl,abL J J,Nat.zero_or]
  refine hK @aM @es @B ?_;refine λ_=>⟨?_,E,J⟩
  unfold iu
  grind
 ·have A:0<bM.length:=J
  have D:(d*N+v) % bM.length<bM.length:=zf _ A;obtain⟨x,a1⟩:=d1  D;obtain⟨sr,hx1⟩:=aT x ab;obtain⟨y,rfl⟩:∃y:Nat,x=(y:Int):=⟨x.toNat,J⟩
  obtain⟨b,aO,bJ,M,rfl,a6⟩:=aZ ab;rw[iG]at a6;have K:=(E (o:=.cells [(k:X),(N:X),(src:X),(len:X),.slice (some ⟨b,0,aO⟩) bM.length cap] false) b M).trans a6;have hdn:d*N<=4096000:=rU  (n₂:=1000)  (m₂:=4096) J J;have m1:IntKind.wrap .i64 ((d:Int)*(N:Int))=((d*N:Nat):Int):=by rw[show((d:Int)*(N:Int))=((d*N:Nat):Int) by omega];exact Kq J
  have m2:IntKind.wrap .i64 (((d*N:Nat):Int)+(v:Int))=((d*N+v:Nat):Int):=by rw[show(((d*N:Nat):Int)+(v:Int))=((d*N+v:Nat):Int) by omega];exact Kq J
  have m3:bin Q .rem 3 (((d*N+v:Nat):X)) (bM.length:X) = .ok ((((d*N+v) % bM.length:Nat):X)):=by rw[JD J];rfl
  have B:bin Q .or 2 (((y*4096:Nat):X)) (v:X) = .ok (((y*4096+v:Nat):X)):=by rw[abL J J,auA J]
  simp(disch:=omega)only[bn,show(0:Int)<(bM.length:Int) by omega,zy,m1,m2,m3,K,i6 a1,akI (J:y<2147483648),B,seval];refine⟨⟨?_,E,J⟩,λh=>absurd trivial h⟩;unfold iu
  grind
def iD:=And.intro @rY @BQ
theorem OG(h:n<4000000000):bin Q .and 3 (n:X) (.int .i64 1) = .ok (((n % 2:Nat):X)):=by rw[aam,BitVec.toNat_and,AI  J,show(BitVec.ofInt 64 1).toNat=1 from rfl,In,iT _ J]
theorem adV(n:Nat):((((n % 2:Nat):Int) == 0):al)=decide (n % 2=0):=ab
theorem OH{s:al}{k:Int}{t:Nat}{h:ae}{U:Nat}(B:k=1\/k=2\/k=3\/k=5)(D:t<100000):aH Q s 225 [(k:X),(t:X)] h U (fo (.int .i64 (fb k t)) U h):=by
 refine arM ?_;unfold adP fb;rcases B with rfl|rfl|rfl|rfl
 ·refine aF ?_;exact⟨rfl,rfl,rfl⟩
 ·refine aF ?_;exact⟨rfl,rfl,rfl⟩
 ·refine aF ?_;exact⟨rfl,rfl,rfl⟩
 ·simp(disch:=omega)only[bn,↓reduceIte,Nat.reduceAdd,Nat.reduceSub,Nat.reduceMul,Nat.reduceLT,Nat.reduceLeDiff,Nat.reduceEqDiff,Int.reduceBEq,Int.reduceLT,Int.reduceNeg,OG (J:t<4000000000),adV]
  by_cases A:t % 2=0
  ·simp[A,fo]
  ·simp[A,fo]
theorem PP{k:Int}{t:Nat}(A:k=1\/k=2\/k=3\/k=5):nU (fb k t):=by unfold fb nU;omega
theorem ZB{s:al}{t:Nat}{h:ae}{U:Nat}(D:1<=t)(B:t<100000):aH Q s 459 [(t:X)] h U (fo ((((t-1) / 2:Nat):X)) U h):=by
 refine arP ?_;unfold adR;have A:IntKind.wrap .i64 ((t:Int)-1)=((t-1:Nat):Int):=by rw[show(t:Int)-1=((t-1:Nat):Int) by omega];exact iT _ J
 have es:bin Q .shr 3 (((t-1:Nat):X)) (.int .u64 1) = .ok ((((t-1) / 2:Nat):X)):=by
  show R.ok (Value.int .i64 (((t-1:Nat):Int).fdiv 2))=_
  grind
 refine cL @A @es ?_;exact⟨rfl,rfl,rfl⟩
def ja(h:ae)(U:Nat)(v:X)(low m:Nat)(S:jb):Prop:=hf h U v (low:Int) ((low+m:Nat):Int) m (cz m λi=>S.A (low+i)) (cz m λi=>S.B (low+i)) (λi=>S.q (low+i))
theorem ja.F{h ac:ae}{U Y low m:Nat}{v:X}{S:jb}(D:ja h U v low m S)(B:aA U h ac)(A:U<=Y):ja ac Y v low m S:=hf.F D B A
theorem ZC{i:Nat}{f:Nat->Int}(h:i<n):(cz n f)[i]? = some (f i):=by unfold cz;grind
theorem LU{h:ae}{U i:Nat}{v:X}{f:Nat->Int}(H:cN h U v c3 (cz n f))(aj:i<n):∃b A B cap,b<U/\v = .slice (some ⟨b,0,A⟩) n cap/\u h b=some (.cells (f9 (cz n f)) B)/\(f9 (cz n f))[i]? = some (.int .i64 (f i)):=by
 obtain⟨_,b,A,B,cap,E,e,D⟩:=H.at (ZC aj)
 rw[i7]at e;rw[iG]at D;exact⟨b,A,B,cap,E,e,D,i6 (ZC aj)⟩
structure pi (h:ae) (U:Nat) (eR:X) (k src len:Int) (N:Nat) (bM:aa Int):Prop where
 d:cN h U eR c3 bM
 ok:RW bM
 n60:N<=60
 pl:iU k N src len bM=0
 hD:k=1\/k=2\/k=3\/k=5
theorem pi.F{h ac:ae}{U Y:Nat}{eR:X}{k src len:Int}{N:Nat}{bM:aa Int}(H:pi h U eR k src len N bM)(B:aA U h ac)(A:U<=Y):pi ac Y eR k src len N bM:={ H with d:=H.d.F B A }
section
variable {s:al} {k src len:Int} {N low m t i:Nat} {bM:aa Int} {eR aE:X} {S:jb} {h:ae} {U:Nat}
theorem akJ(P:pi h U eR k src len N bM)(ap:ja h U aE low m S)(tI:low+m<=N)(aj:i<m)(h1:1<=t)(ck:t<1000):
  aH Q s 403 [.agg ⟨[(k:X),(N:X),(src:X),(len:X),eR]⟩,aE,(t:X),(i:X)] h U (λr ac Y=>(∃y b,r = .tuple ⟨[.int .i64 y,.bool b]⟩/\qo k (iu bM N ((t-1) / 2)) t S (low+i)=if b=true then some y else none)/\aA U h ac/\U<=Y):=by
 refine anX ?_;obtain⟨bp,K,ek,bk,hk⟩:=P;obtain⟨dp,fB,fg,rfl,fK,ha,ge⟩:=ap;obtain⟨a8,gM,rfl,_⟩:=id bp;obtain⟨a2,c2,rfl,_⟩:=id ha;obtain⟨a3,ci,rfl,_⟩:=id ge;obtain⟨b,aO,bJ,cap,aT,rfl,a6,V⟩:=LU fK aj;have B:∀{o aX},aA U h (T (T h U o) (U+1) aX):=aK
 have A:∀{o aX},u (T (T h U o) (U+1) aX) b=_:=λ{o aX}=>(B b aT).trans a6;unfold abF;refine aF ?_;refine(J4 J aj (ge.F  B J)).mono ?_;rintro _ _ _ ⟨rfl,I,M⟩;rw[I,M];have yQ:IntKind.wrap .i64 ((low:Int)+(i:Int))=((low+i:Nat):Int):=by rw[<-vy];exact iT _ J
 unfold qo;rcases hk with rfl|rfl|rfl|rfl
 ·refine bg @yQ ?_;exact⟨⟨_,_,rfl,by simp⟩,B,J⟩
 ·refine cL @A @V ?_;exact⟨⟨_,_,rfl,by simp⟩,B,J⟩
 ·refine cL @A @V ?_;exact⟨⟨_,_,rfl,by simp⟩,B,J⟩
 ·simp(disch:=omega)only[bn,↓reduceIte,Nat.reduceAdd,Nat.reduceSub,Nat.reduceMul,Nat.reduceLT,Nat.reduceLeDiff,Nat.reduceEqDiff,Int.reduceBEq,Int.reduceLT,Int.reduceNeg,OG (J:t<4000000000),adV];refine⟨λar=>⟨⟨_,_,rfl,ab⟩,B,J⟩,λar=>?_⟩;refine(ZB h1 J).mono ?_;rintro _ _ _ ⟨rfl,I,M⟩;rw[I,M];refine⟨J,?_⟩;simp(disch:=omega)only[bn,yQ,iD,seval];refine(XI (bp.F  B J) K   J  J J).mono ?_;rintro _ bB cp ⟨rfl,E,D⟩;refine⟨D,?_⟩;have cv:=E (U+1) J;rw[aS]at cv;have qG:=(E b J).trans A;simp(disch:=omega)only[bn,cv,qG,A,V,iD,seval];refine⟨⟨_,_,rfl,?_⟩,aK,J⟩
  grind
theorem abM{f:Nat->aw Int}{b:al}(h:f n=if b=true then some y else none):bj (n+1) f=bj n f++if b=true then[(n,y)]else[]:=by
 rw[tc,h]
 grind
def OuJ(U bh t m:Nat)(pl mR:aa X)(f:Nat->aw Int)(h:ae)(Ee:Nat)(aE:aa X)(ac:ae)(Y:Nat):Prop :=
 ∃i dp,Ee=m-i/\i<=m/\aE=[(t:X),bd U,.pointer (some ⟨U+1,0,none⟩),.pointer (some ⟨U+2,0,none⟩),bd bh,(m:X),(i:X)] /\
  u ac U=some (.cells pl false)/\u ac (U+1)=some (.cells mR false)/\u ac (U+2)=some (.cells [.int .i64 0,.slice none 0 0] false)/\u ac bh=some (.cells [(m:X),dp] false)/\d5 ac dp fD 2 (bj i f) (bh+1) Y/\aA U h ac/\bh+1<=Y
theorem ar4(P:pi h U eR k src len N bM)(ap:ja h U aE low m S)(tI:low+m<=N)(h1:1<=t)(ck:t<1000):
  aH Q s 337 [.agg ⟨[(k:X),(N:X),(src:X),(len:X),eR]⟩,aE,(t:X)] h U (λr ac Y=>py ac U Y r m (λi=>qo k (iu bM N ((t-1) / 2)) t S (low+i))/\aA U h ac/\U<=Y):=by
 refine aut ?_;obtain⟨V,iw,ek,bk,hk⟩:=id P;have M:=ap;obtain⟨dp,fB,fg,rfl,fK,ha,ge⟩:=ap;obtain⟨a8,gM,rfl,_⟩:=id V;obtain⟨aB,c1,rfl,_⟩:=id fK;obtain⟨a2,c2,rfl,_⟩:=id ha;obtain⟨a3,ci,rfl,_⟩:=id ge;have bZ:∀{o aX kZ},aA U h (T (T (T h U o) (U+1) aX) (U+2) kZ):=aK
 unfold afc;refine aF ?_;refine(JN (V.F  bZ J) bk J J J (M.F  bZ J) (i7 _ _) (i7 _ _)).mono ?_;rintro _ bB B ⟨rfl,D,fy⟩;have g0:=D U J;rw[aq J,aq J,aS]at g0;have dt:=D (U+1) J;rw[aq J,aS]at dt;have eG:=D (U+2) J;rw[aS]at eG;have fe:IntKind.wrap .i64 (((low+m:Nat):Int)-(low:Int))=(m:Int):=by rw[show((low+m:Nat):Int)-(low:Int)=(m:Int) by omega];exact iT m J
 refine hK @g0 @dt @fe ?_;generalize fJ:T (T (T bB (U+1) _) B _) B _=H;have aM:∀d,d≠U+1->d≠B->u H d=u bB d:=ab
 have aV:u H B=some (.cells [(m:X),.slice none 0 0] false):=ab
 have aP:u H (U+1)=some (.cells [(low:X),((low+m:Nat):X),.slice aB (cz m λi=>S.A (low+i)).length c1,.slice a2 (cz m λi=>S.B (low+i)).length c2,.slice a3 (eS m λi=>S.q (low+i)).length ci] false):=ab
 refine bD.mk (OuJ U B t m _ _ (λi=>qo k (iu bM N ((t-1) / 2)) t S (low+i)) h) m ⟨0,_,J,J,rfl,(aM U J J).trans g0,aP,ab,aV,.inl ⟨rfl,rfl⟩,aK,J⟩ ?_;rintro _ _ ar bX ⟨i,dp,rfl,aj,rfl,kr,fF,gj,mu,dI,hk,dR⟩;rw[arO];unfold abD;obtain⟨iN,nv',n5,rfl⟩:=dI.form;refine hK @kr @fF @mu ?_;refine⟨λcA=>?_,λeN=>?_⟩
 ·refine(akJ (P.F hk J) (M.F hk J) tI J h1 ck).mono ?_;rintro _ aL bS ⟨⟨y,b,rfl,ce⟩,A,I⟩;have gb:=(A U J).trans kr;have eo:=(A (U+1) J).trans fF;have gY:=(A (U+2) J).trans gj;have i1:=(A B J).trans mu;have E:=dI.F   (λd h1 ar=>A d J) I;refine cL @i1 (cG (J:i<1000000000000)) ?_;refine⟨λaT=>?_,λaT=>?_⟩
  ·refine l4  (k:=2)  (λ_=>rfl) (λ_=>rfl) J (E.F  ab J) J (i,y) (aS _ _ _) rfl (by have:=l3 i λi=>qo k (iu bM N ((t-1) / 2)) t S (low+i);omega) λdN b3 K hq=>?_;obtain⟨bN,fT,vo,rfl⟩:=K.form;have kH:=(hq B J).trans ((aq J).trans i1);refine bg @kH ?_;refine⟨_,?_,i+1,_,rfl,J,rfl,?_,?_,?_,aS _ _ _,?_,?_,J⟩
   ·omega
   ·grind
   ·grind
   ·grind
   ·rw[abM  (f:=λi=>qo k (iu bM N ((t-1) / 2)) t S (low+i)) ce,aT,if_pos rfl];exact K.F ab J
   ·exact aK
  ·refine⟨_,?_,i+1,_,rfl,J,rfl,gb,eo,gY,i1,?_,aK,J⟩
   ·omega
   ·rw[abM  (f:=λi=>qo k (iu bM N ((t-1) / 2)) t S (low+i)) ce,aT,if_neg (by simp),hZ];exact E
 ·have:i=m:=J
  subst this;refine cL @gj @mu ?_;refine⟨⟨_,rfl,?_⟩,λd V=>by rw[aq J];exact hk d V,J⟩;exact(d5.f dI).F (λd h1 ar=>aq J) J (cD _)
end
section
variable {s:al} {k src len:Int} {N low m t i:Nat} {bM:aa Int} {eR aE:X} {S:jb} {h:ae} {U:Nat}
def zV(h:ae)(ao U:Nat)(w:X)(o:al)(m:Nat)(q:Nat->al):Prop:=(o=true/\w = .slice none 0 0/\∀i,i<m->q i=true)\/(o=false/\eH h ao U w jU (eS m q))
def AkJ(p:Nat)(want:Int)(dp:X)(m bh:Nat)(q:Nat->al)(h1:ae)(Ee:Nat)(aE:aa X)(ac:ae)(Y:Nat):Prop :=
 ∃i acc,Ee=m-i/\i<=m/\aE=[bd p,(want:X),acc,dp,(m:X),(i:X)]/\d5 ac acc c3 1 (fX (eh i q)) bh Y/\aA bh h1 ac/\bh<=Y
theorem akK(P:pi h U eR k src len N bM)(ap:ja h U aE low m S)(tI:low+m<=N):
  aH Q s 331 [.agg ⟨[(k:X),(N:X),(src:X),(len:X),eR]⟩,aE,(t:X)] h U (λr ac Y=>∃w o,r = .tuple ⟨[w,.bool o]⟩/\zV ac U Y w o m (λi=>sa k S (low+i))/\aA U h ac/\U<=Y):=by
 refine anV ?_;obtain⟨bp,iw,ek,bk,D⟩:=id P;have nY:=ap;obtain⟨dp,fB,fg,rfl,fK,ha,ge⟩:=ap;obtain⟨a8,gM,rfl,_⟩:=id bp;obtain⟨aB,c1,rfl,_⟩:=id fK;obtain⟨a2,c2,rfl,_⟩:=id ha;obtain⟨a3,ci,rfl,_⟩:=id ge;have bZ:∀{o aX},aA U h (T (T h U o) (U+1) aX):=aK
 unfold abC;refine aF ?_;refine(JN (bp.F  bZ J) bk J J J (hf.F nY  bZ J) (i7 _ _) (i7 _ _)).mono ?_;rintro _ bB bh ⟨rfl,E,fy⟩;have g0:=E U J;rw[aq J,aS]at g0;have dt:=E (U+1) J;rw[aS]at dt;rw[i7,i7]at *
 refine cL @g0 @dt ?_;have fe:IntKind.wrap .i64 (((low+m:Nat):Int)-(low:Int))=(m:Int):=by rw[show((low+m:Nat):Int)-(low:Int)=(m:Int) by omega];exact iT m J
 have B:∀(A:Int) (q:Nat->al),(∀i,i<m->q i=decide (S.A (low+i)=A))->∀H,u H (U+1)=some (.cells [(low:X),((low+m:Nat):X),.slice aB m c1,.slice a2 m c2,.slice a3 (eS m λi=>S.q (low+i)).length ci] false)->aA U h H->IY s (λr ac Y=>∃w o,r = .tuple ⟨[w,.bool o]⟩/\zV ac U Y w o m q/\aA U h ac/\U<=Y) (.pointer (some ⟨U+1,0,none⟩)) (.int .i64 A) H bh:=λA q cM H fJ t0=>by
  unfold IY;refine bg @fJ ?_;refine bD.mk (AkJ (U+1) A (.slice aB m c1) m bh q H) m ⟨0,_,J,J,rfl,.inl ⟨rfl,rfl⟩,aK,J⟩ ?_;rintro _ _ ar bX ⟨i,acc,rfl,aj,rfl,K,D,M⟩;rw[akt];unfold XB;obtain⟨bz,UU,pT,rfl⟩:=K.form;have fF:=(D (U+1) J).trans fJ;refine aF ?_;refine⟨λcA=>?_,λeN=>?_⟩
  ·obtain⟨b,aO,bJ,cap,aT,e,a6,aZ⟩:=LU fK J;cases e;have I:=(D b J).trans ((t0 b aT).trans a6)
   by_cases e:S.A (low+i)=A
   ·simp(disch:=omega)only[bn,I,aZ,show(S.A (low+i) == A)=true from uc.2 e,cG (J:i<1000000000000),seval];refine l4  (k:=1)  (λ_=>rfl) (λ_=>rfl) J (K.F  ab J) J (i:Int) (aS _ _ _) rfl (by unfold fX;rw[gH];have:=uB i q;omega) λdN b3 V hq=>?_;refine⟨_,J,i+1,_,rfl,J,rfl,?_,aK,J⟩;rw[JM,cM i J,g4 e,if_pos rfl];exact V
   ·simp(disch:=omega)only[bn,I,aZ,show(S.A (low+i) == A)=false from rS.2 e,cG (J:i<1000000000000),seval];refine⟨_,J,i+1,_,rfl,J,rfl,?_,D,M⟩;rw[JM,cM i J,hl e,if_neg (by simp),hZ];exact K
  ·have:i=m:=J
   subst this;refine cL @fF @fe ?_;refine(J3   J K.rd (λx a1=>by unfold eh at a1;grind) (by have:=uB i q;omega)).mono ?_;rintro w bm dH ⟨jy,fP,ir⟩;rw[QI]at jy;exact⟨_,_,rfl,.inr ⟨rfl,eH.F jy ab J J⟩,aK,J⟩
 unfold sa;rcases D with rfl|rfl|rfl|rfl
 ·refine aF ?_;exact B (-1) _ ab _ ab aK
 ·refine aF ?_;exact⟨_,_,rfl,.inl ab,aK,J⟩
 ·refine aF ?_;exact⟨_,_,rfl,.inl ab,aK,J⟩
 ·refine aF ?_;exact B 0 _ ab _ ab aK
def n3(z:Int × Int × al):X:=.tuple ⟨[(z.1:X),(z.2.1:X),.bool z.2.2]⟩
theorem aiB{b:al}(P:pi h U eR k src len N bM)(ap:ja h U aE low m S)(tI:low+m<=N)(aj:i<m)(h1:1<=t)(ck:t<1000):
  aH Q s 402 [.agg ⟨[(k:X),(N:X),(src:X),(len:X),eR]⟩,aE,(t:X),(i:X),(y:X),.bool b] h U
   (dC (n3 (kg k (iu bM N ((t-1) / 2)) t S (low+i) (if b=true then some y else none))) U h):=by
 refine akv ?_;obtain⟨bp,iw,ek,bk,hk⟩:=id P;obtain⟨dp,fB,fg,rfl,fK,ha,ge⟩:=ap;obtain⟨a8,gM,rfl,_⟩:=id bp;obtain⟨a3,ci,rfl,_⟩:=id ge;obtain⟨dE,sp1,eo,aAg,ig,rfl,qv,Dr⟩:=LU fK aj;obtain⟨b4,mf,gY,tm,fw,rfl,jq,qu⟩:=LU ha aj;have M:∀{o aX},aA U h (T (T h U o) (U+1) aX):=aK
 have V:∀{o aX},u (T (T h U o) (U+1) aX) dE=_:=λ{o aX}=>(M dE ig).trans qv;have K:∀{o aX},u (T (T h U o) (U+1) aX) b4=_:=λ{o aX}=>(M b4 fw).trans jq;generalize A:kg k (iu bM N ((t-1) / 2)) t S (low+i) (if b=true then some y else none)=Z;have B:∀{w o aX},w=n3 Z->dC (n3 Z) U h w (T (T h U o) (U+1) aX) (U+2):=λe=>⟨e,M,J⟩
 unfold Zy;refine k7 @V @Dr @K @qu ?_;unfold kg at A;rcases hk with rfl|rfl|rfl|rfl
 ·cases b
  ·refine aF ?_;exact B (by rw[<-A];rfl)
  ·by_cases e:S.A (low+i) = -1
   ·refine bg @e ?_;exact B (by rw[<-A];simp[n3,e])
   ·simp(disch:=omega)only[bn,show(S.A (low+i) == -1)=false from rS.2 e,seval];exact B (by rw[<-A];simp[n3,e])
 ·unfold EQ sZ;cases b
  ·refine aF ?_;exact B (by rw[<-A];rfl)
  ·refine aF ?_;exact⟨λe=>B (by rw[<-A];simp[n3,e]),λe=>B (by rw[<-A];simp[n3,e])⟩
 ·unfold EQ sZ;cases b
  ·refine aF ?_;exact B (by rw[<-A];rfl)
  ·refine aF ?_;exact⟨λe=>B (by rw[<-A];simp[n3,e]),λe=>B (by rw[<-A];simp[n3,e])⟩
 ·unfold EQ Nr sZ
  by_cases aM:S.A (low+i)=0
  case neg =>
   simp(disch:=omega)only[bn,show(S.A (low+i) == 0)=false from rS.2 aM,seval];exact B (by rw[<-A];simp[n3,aM])
  have D:=OG (J:t<4000000000)
  by_cases E:t % 2=0
  ·rw[E]at D
   replace D:bin Q .and 3 (t:X) (.int .i64 1) = .ok (.int .i64 0):=D
   cases b
   ·refine cL @aM @D ?_;exact B (by rw[<-A];simp[n3,aM,E])
   ·refine cL @aM @D ?_;exact B (by rw[<-A];simp[n3,aM,E])
  ·rw[show t % 2=1 by omega]at D
   replace D:bin Q .and 3 (t:X) (.int .i64 1) = .ok (.int .i64 1):=D
   cases b
   ·refine cL @aM @D ?_;exact B (by rw[<-A];simp[n3,aM,E])
   ·refine cL @aM @D ?_;refine(ZB h1 J).fR ⟨J,?_⟩;simp(disch:=omega)only[bn,iD,seval];have yQ:IntKind.wrap .i64 ((low:Int)+(i:Int))=((low+i:Nat):Int):=by rw[<-vy];exact iT _ J
    refine bg @yQ ?_;refine(XI   (bp.F  M J) iw J  J J).cn λbB cp d9 I=>⟨I,?_⟩
    have cJ:=M.trans d9 J;refine aF ?_;exact⟨λe=>⟨by rw[<-A];simp[n3,aM,E,e],cJ,J⟩,λe=>⟨by rw[<-A];simp[n3,aM,E,e],cJ,J⟩⟩
end
section
variable {s:al} {k src len:Int} {N low m t i:Nat} {bM:aa Int} {eR aE rI:X} {S:jb} {xb:Nat->aw Int} {h:ae} {U:Nat}
theorem jA(o:aw Int):(if o.isSome=true then some (o.getD 0)else none)=o:=by cases o <;> rfl
theorem ahE{aAM D I E:Nat}{bu:aw Addr}{n6 hG:Nat}{eo gY i1 nC:al}{a8:aw Addr}{gM:Nat}(P:pi h U (.slice a8 bM.length gM) k src len N bM)(ap:ja h U aE low m S)(ce:jQ h U (.agg ⟨[(m:X),.slice bu n6 hG]⟩) m xb)(M:low+m<=N)(aj:i<m)(h1:1<=t)(ck:t<1000)
  (bB:u h aAM=some (.cells [(m:X),.slice bu n6 hG] eo)) (g2:u h D=some (.cells [(k:X),(N:X),(src:X),(len:X),.slice a8 bM.length gM] gY)) (dj:u h I=some (.cells (dh aE) i1)) (dL:u h E=some (.cells [(t:X)] nC)) (V:D<U) (Am:I<U) (K:E<U):
  aH Q s 400 [(i:X),bd aAM,bd D,bd I,bd E] h U
   (dC (n3 (kg k (iu bM N ((t-1) / 2)) t S (low+i) (xb i))) U h):=by
 refine ait ?_;have nY:=ap;obtain⟨dp,fB,fg,rfl,fK,ha,ge⟩:=ap;obtain⟨aB,c1,rfl,_⟩:=id fK;obtain⟨a2,c2,rfl,_⟩:=id ha;obtain⟨a3,ci,rfl,_⟩:=id ge;have bl:m<=63:=by have:=P.n60;omega
 unfold XC;refine bg @bB ?_;refine(arK ce J aj).mono ?_;rintro _ ar bX ⟨rfl,A,B⟩;simp(disch:=omega)only[bn,(A D V).trans g2,(A I Am).trans dj,(A E K).trans dL,seval];refine(aiB   (P.F A B) (nY.F A B) M aj h1 ck).mono ?_;rintro _ aL bS ⟨rfl,e8,gA⟩;rw[jA];unfold n3;refine aF ?_;exact⟨rfl,aK,J⟩
theorem aiC(P:pi h U eR k src len N bM)(ap:ja h U aE low m S)(ce:jQ h U rI m xb)(V:low+m<=N)(h1:1<=t)(ck:t<1000):
  aH Q s 336 [.agg ⟨[(k:X),(N:X),(src:X),(len:X),eR]⟩,aE,(t:X),rI] h U (λr ac Y=>lF ac U Y r (low:Int) ((low+m:Nat):Int) m (cz m λi=>(kg k (iu bM N ((t-1) / 2)) t S (low+i) (xb i)).1) (cz m λi=>(kg k (iu bM N ((t-1) / 2)) t S (low+i) (xb i)).2.1) (λi=>(kg k (iu bM N ((t-1) / 2)) t S (low+i) (xb i)).2.2)/\aA U h ac/\U<=Y):=by
 refine aku ?_;obtain⟨bp,iw,ek,bk,hk⟩:=id P;have I:=ap;obtain⟨dp,fB,fg,rfl,fK,ha,ge⟩:=ap;obtain⟨a8,gM,rfl,_⟩:=id bp;obtain⟨aB,c1,rfl,_⟩:=id fK;obtain⟨a2,c2,rfl,_⟩:=id ha;obtain⟨a3,ci,rfl,_⟩:=id ge;have E:=ce;obtain⟨gK,rfl,hyi⟩:=ce;obtain⟨cC,k1,rfl,_⟩:=id hyi;have bZ:∀{o eX dO fZ lr},aA U h (T (T (T (T (T h U o) (U+1) eX) (U+2) dO) (U+3) fZ) (U+4) lr):=aK
 unfold Zx;refine aF ?_;refine(JN (bp.F  bZ J) bk J J J (hf.F I  bZ J) (i7 _ _) (i7 _ _)).mono ?_;rintro _ bB bh ⟨rfl,D,fy⟩;have g0:=D U J;rw[aq J,aq J,aq J,aq J,aS]at g0;have dt:=D (U+1) J;rw[aq J,aq J,aq J,aS]at dt;have eG:=D (U+2) J;rw[aq J,aq J,aS]at eG;have gt:=D (U+3) J;rw[aq J,aS]at gt;have mr:=D (U+4) J;rw[aS]at mr;have fe:IntKind.wrap .i64 (((low+m:Nat):Int)-(low:Int))=(m:Int):=by rw[show((low+m:Nat):Int)-(low:Int)=(m:Int) by omega];exact iT m J
 refine k7 @g0 @dt @gt @fe ?_;have eA:∀{o},aA U h (T bB (U+1) o):=aK
 refine(vG (E.F  eA J) J).cn λg2 bX A eZ=>?_;have gb:=(A U J).trans ((aq J).trans g0);have eo:=(A (U+1) J).trans (aS _ _ _);have gY:=(A (U+2) J).trans ((aq J).trans eG);have i1:=(A (U+3) J).trans ((aq J).trans gt);have nC:=(A (U+4) J).trans ((aq J).trans mr);have fI:=eA.trans A J;have Ee:((m:Int) == (m:Int))=true:=ab
 refine cL @i1 @Ee ?_;unfold Nq;refine bg @eo ?_;refine(Xv (mv:=λi=>(kg k (iu bM N ((t-1) / 2)) t S (low+i) (xb i)).1) (lX:=λi=>(kg k (iu bM N ((t-1) / 2)) t S (low+i) (xb i)).2.1) (q:=λi=>(kg k (iu bM N ((t-1) / 2)) t S (low+i) (xb i)).2.2) J λi ac Y aj B wl=>?_).mono ?_
 ·have gR:=fI.trans B J;exact ahE (P.F gR J) (ja.F I gR J) (E.F gR J) V aj h1 ck ((B _ J).trans i1) ((B _ J).trans gb) ((B _ J).trans eo) ((B _ J).trans gY) J J J
 rintro w gc fT ⟨dI,M,oJ⟩;have K:=dI;obtain⟨nu,lP,aCR,rfl,nD,p0,qK⟩:=dI;obtain⟨dE,fr,rfl,_⟩:=id nD;obtain⟨b4,fG,rfl,_⟩:=id p0;obtain⟨dZ,hW,rfl,_⟩:=id qK;have sO:=(M (U+4) J).trans nC;refine bg @sO ?_;exact⟨K.wid ab J J,aK,J⟩
end
theorem ar5{i b w:Nat}(aj:i<n):gW z (.slice (some ⟨b,0,some (w+1)⟩) n n) (some (i:X)) none none = .ok (.slice (some ⟨b,i*z,some (w+1)⟩) (n-i) (n-i)):=by
 show nN z (some ⟨b,0,some (w+1)⟩) n false n n i=_;unfold nN;rw[show(Nat.ble n n&&(Nat.ble n n&&Nat.ble i n))=true by simp;omega];unfold uy;rw[show Nat.beq n i=false by
  cases A:Nat.beq n i with
  |true=>exact absurd (gG A) J
  |false=>rfl]
 show R.ok (Value.slice (some ⟨b,Nat.add 0 (Nat.mul i z),some (w+1)⟩) (Nat.sub n i) (Nat.sub n i))=_;simp
theorem ar6{i b w:Nat}(aj:i<n):gW z (.slice (some ⟨b,0,some (w+1)⟩) n n) none (some (i:X)) none = .ok (.slice (some ⟨b,0,some (w+1)⟩) i n):=by
 show nN z (some ⟨b,0,some (w+1)⟩) n false n i 0=_;unfold nN;rw[show(Nat.ble n n&&(Nat.ble i n&&Nat.ble 0 i))=true by simp;omega];unfold uy;rw[show Nat.beq n 0=false by
  cases A:Nat.beq n 0 with
  |true=>have:=gG A;omega
  |false=>rfl]
 show R.ok (Value.slice (some ⟨b,Nat.add 0 (Nat.mul 0 z),some (w+1)⟩) (Nat.sub i 0) (Nat.sub n 0))=_;simp
theorem abN{az:Type}{enc:az->aa X}{k t e b i c U:Nat}{aO:aw Nat}{l:aa az}{h:ae}(z:az)(D:∀x,(enc x).length=k)(aZ:∀x,ea (enc x)=true)(qE:mY Q t=true)(el:q2 Q t=some e)(aBZ:nM Q e=some (enc z))(V:l.length=n)(aj:i<n)(K:u h b=some (.cells (bc enc l) false)):
  pd Q .clear [t] h U [.slice (some ⟨b,i*k,aO⟩) (n-i) c] = .ok (.val jP (T h b (.cells (bc enc (l.take i++List.replicate (n-i) z)) false)) U):=by
 have a5:gI (n-i) (enc z)=bc enc (List.replicate (n-i) z):=by
  rw[apA];generalize n-i=q
  induction q with
  |zero=>rfl
  |succ q A=>rw[En,En,List.flatten_cons,A];rfl
 have B:∀q,ea (bc enc (List.replicate q z))=true:=by
  intro q
  induction q with
  |zero=>rfl
  |succ q A =>
   rw[En];show ea (enc z++bc enc _)=true;have app:∀a b:aa X,ea a=true->ea b=true->ea (a++b)=true:=by
    intro a b I K
    induction a with
    |nil=>grind
    |cons x a A =>
     rw[qT,eC]at I;show ea (x::(a++b))=true;rw[qT,I.1,A I.2];rfl
   grind
 have sq:(bc enc l).length=n*k:=by rw[gg D,V]
 have E:(bc enc (List.replicate (n-i) z)).length=(n-i)*k:=by rw[gg D,List.length_replicate]
 have bl:i*k+(n-i)*k=n*k:=by rw[<-ze];grind
 show(bif q3 Q t||mY Q t then FM Q t h U (.slice (some ⟨b,i*k,aO⟩) (n-i) c)else .no "clear")=_;rw[qE,Bool.or_true];obtain⟨m,M⟩:∃m,n-i=m+1:=⟨n-i-1,J⟩
 rw[M];show JV Q t h U ⟨b,i*k,aO⟩ (m+1)=_;rw[<-M];unfold JV;rw[el,Fv,aBZ,Fv];simp only[];rw[a5,ID K ab J,E];show R.ok _=_;rw[MJ J,hZ,zm];have:=Zg D l 0 i
 grind
theorem agq:mY Q 98=true:=by kernel_rfl
theorem ayI:q2 Q 98=some 274:=by kernel_rfl
theorem ayJ:nM Q 274=some (eL (0,0)):=by kernel_rfl
def DlJ(b:Nat)(L:aa (Nat × Int))(q:Nat × Int->al)(qI:X)(h:ae)(U:Nat)(t:Nat)(aE:aa X)(ac:ae)(Y:Nat):Prop :=
 ∃(i j:Nat) (m:aa (Nat × Int)),t=L.length-j/\j<=L.length/\i<j/\aE=[.slice (some ⟨b,0,some 3⟩) L.length L.length,qI,(i:X),(j:X)]/\m.length=L.length/\u ac b=some (.cells (bc eL m) false) /\
  m.take i=(L.take j).filter (λp=>!q p)/\m.drop j=L.drop j/\(∀d,d<U->d≠b->u ac d=u h d)/\U<=Y
theorem auB{s:al}{v:X}{h:ae}{U:Nat}(fq:L.length<1000000)(I:ej h U v eL 3 L)(bK:∀(p:Nat × Int),p∈L->∀ac Y,aA U h ac->U<=Y->aH Q s dK (.agg ⟨eL p⟩::cs) ac Y (dC (.bool (q p)) Y ac)):
  aH Q s 396 [v,.func (.func dK) ⟨[]⟩ ⟨cs⟩] h U (λr ac Y=>(∃x:Int,r = (x:X)/\((x = -1/\∀p∈L,q p=false)\/∃n y,x=(n:Nat)/\L[n]? = some y/\q y=true/\∀p∈L.take n,q p=false))/\aA U h ac/\U<=Y):=by
 refine Vv ?_;unfold Na;obtain⟨a8,cap,rfl,aZ⟩:=id I;refine aF ?_;refine bD.mk (λm aE ac Y=>∃i,m=L.length-i/\i<=L.length/\aE=[.slice a8 L.length cap,.func (.func dK) ⟨[]⟩ ⟨cs⟩,.int .i64 0,(L.length:X),(i:X)]/\(∀p∈L.take i,q p=false)/\aA U h ac/\U<=Y) L.length ⟨0,J,J,rfl,ab,aK,J⟩ ?_;rintro _ _ ar bX ⟨i,rfl,aj,rfl,u0,D,A⟩;rw[Vr];unfold M4;refine aF ?_;refine⟨λcA=>?_,λeN=>⟨⟨-1,rfl,ab⟩,D,A⟩⟩;obtain⟨p,M⟩:=d1   J;obtain⟨b,aX,aO,bJ,sh,E,aT,aV,V,B⟩:=(I.F D A).ld (λ_=>rfl) M;cases aV;refine cL @V @B ?_;refine(bK p ab ar bX D A).mono ?_;rintro _ aL bS ⟨rfl,e8,K⟩;refine bg (cG (J:i<1000000000000)) ?_;refine⟨λcM=>⟨⟨_,rfl,ab⟩,aK,J⟩,λcM=>⟨_,J,i+1,rfl,J,rfl,λy ce=>?_,aK,J⟩⟩;rw[hx,M]at ce
 grind
theorem wrS{h:ae}{b i:Nat}{m:aa (Nat × Int)}{x:Nat × Int}(aj:i<m.length):jY (some (.cells (bc eL m) false)) h b (i*3) [(x.1:X),.int .i64 (x.2 / 18446744073709551616),.int .u64 (x.2 % 18446744073709551616)] = .ok (T h b (.cells (bc eL (m.set i x)) false)):=Rj  (k:=3) (λ_=>rfl) (λ_=>rfl) aj
theorem mQ.o{h:ae}{U:Nat}{v:X}{L:aa (Nat × Int)}{so:aw Nat}(H:mQ h v L so)(A:∀b,so=some b->b<U):ej h U v eL 3 L:=by
 rcases H with⟨rfl,rfl,_⟩|⟨b,e,rfl,B⟩
 ·exact ej.nil
 ·exact cN.o   (λ_=>rfl) ⟨_,_,rfl,λ_=>⟨b,_,false,A b e,rfl,B⟩⟩
theorem mQ.b{h:ae}{v:X}{L:aa (Nat × Int)}{so:aw Nat}(H:mQ h v L so):tK h v eL 3 L (λb=>so=some b):=by
 rcases H with⟨rfl,rfl,_⟩|⟨b,e,rfl,A⟩
 ·exact⟨_,_,rfl,λh=>absurd rfl h⟩
 ·exact⟨_,_,rfl,λ_=>⟨b,0,some 3,false,_,e,rfl,(by simp),J,A,by rw[gg (k:=3) (λ_=>rfl)];omega,by rw[pb,o8 (by rw[gg (k:=3) (λ_=>rfl)];omega)]⟩⟩
theorem aoq{s:al}{v:X}{h:ae}{U:Nat}(fq:L.length<100000)(aJ:mQ h v L so)(me:∀b,so=some b->b<U)(bK:∀(p:Nat × Int),p∈L->∀ac Y,(∀d,d<U->so≠some d->u ac d=u h d)->U<=Y->aH Q s dK (.agg ⟨eL p⟩::cs) ac Y (dC (.bool (q p)) Y ac)):
  aH Q s 332 [v,.func (.func dK) ⟨[]⟩ ⟨cs⟩] h U (λr ac Y=>tK ac r eL 3 (L.filter λp=>!q p) (λb=>so=some b)/\(∀d,d<U->so≠some d->u ac d=u h d)/\U<=Y):=by
 refine agY ?_;refine(auB  J (aJ.o me) λp bk ac Y hk dR=>bK p bk ac Y (λd I _=>hk d I) dR).mono ?_;rintro _ h1 bh ⟨⟨x,rfl,⟨rfl,u0⟩|⟨i,y,rfl,ce,cM,u0⟩⟩,D,K⟩
 ·obtain⟨a,c,rfl,_⟩:=id (aJ.o me);refine aF ?_;refine⟨?_,λd I _=>D d I,K⟩;rw[y6.2 ab];exact(aJ.b).F (λb e=>D b ab) ab
 ·have B:=(hY.1 ce).1;rcases aJ with⟨rfl,rfl,_⟩|⟨b,rfl,rfl,a6⟩
  ·cases ce
  have fw:=me b rfl;have hf0:(L.take (i+1)).filter (λp=>!q p)=L.take i:=by
   rw[hx,ce,t6,y6.2 ab]
   grind
  refine bg (cG (J:i<1000000000000)) ?_;refine⟨λau=>absurd au (by simp),λ_=>?_⟩;refine bD.mk (DlJ b L q _ h U) (L.length-(i+1)) ⟨i,i+1,L,rfl,B,J,rfl,rfl,(D b fw).trans a6,hf0.symm,rfl,λd I _=>D d I,K⟩ ?_;rintro _ _ ac jM ⟨i,k,m,rfl,hk,hik,rfl,bl,M,A,LV,tz,dR⟩;rw[agT];unfold Vl;have cn:IntKind.wrap .i64 ((k:Int)+1)=((k+1:Nat):Int):=cG J;have HZ:IntKind.wrap .i64 ((i:Int)+1)=((i+1:Nat):Int):=cG J;refine aF ?_;refine⟨λcA=>?_,λeN=>?_⟩
  ·obtain⟨y,ce⟩:=d1 (l:=m) (i:=k) J;have hly:L[k]? = some y:=by
    have:=congrArg (·[0]?) LV
    grind
   have kl:h0 (some 3) (k*3) (bc eL m) = .ok (.agg ⟨eL y⟩):=by rw[p6,gg (k:=3) (λ_=>rfl),if_pos J,um (k:=3) (λ_=>rfl) ce]
   refine cL @M @kl ?_;rw[show eL y=[(y.1:X),.int .i64 (y.2 / 18446744073709551616),.int .u64 (y.2 % 18446744073709551616)]from rfl];refine aF ?_;refine(bK y ab _ (jM+1) (λd I bH=>by rw[aq J,aq J];grind) J).mono ?_;rintro _ ar bX ⟨rfl,V,eZ⟩;have bB:=V jM J;rw[aS]at bB;have g2:=V b J;rw[aq J,aq J,M]at g2;have lh:∀d,d<U->d≠b->u ar d=u h d:=λd I bH=>by rw[V d J,aq J,aq J];grind
   have E:∀(bC:aa (Nat × Int)),(∀q,k<q->bC[q]? = m[q]?)->bC.drop (k+1)=L.drop (k+1):=λbC Dw=>by apply oq;intro q;rw[xh,Dw _ J,<-xh,<-xm,LV,xm]
   simp(disch:=omega)only[bn,bB,g2,HZ,cn,wrS (m:=m)  (i:=i) J,seval];refine⟨λcM=>?_,λcM=>?_⟩
   ·refine⟨L.length-(k+1),J,i+1,k+1,m.set i y,rfl,J,J,rfl,ab,ab,?_,E _ (λq cM=>by rw[y9,if_neg J]),ab,J⟩;rw[hx,List.take_set_of_le J,A,hx,hly,t6,y9,if_pos rfl,if_pos J]
    grind
   ·refine⟨L.length-(k+1),J,i,k+1,m,rfl,J,J,rfl,bl,g2,?_,E _ (λ_ _=>rfl),lh,J⟩;rw[A,hx,hly,t6]
    grind
  ·have AU:k=L.length:=J
   subst AU;rw[iQ]at A;simp(disch:=omega)only[bn,ar5    (J:i<L.length),abN    (0,0)  (k:=3) (λ_=>rfl) (λ_=>rfl) agq ayI ayJ bl (J:i<L.length) M,dX,ar6    (J:i<L.length),seval];refine⟨?_,λd I bH=>ab,J⟩;have B:i=(L.filter λp=>!q p).length:=ab
   refine⟨some ⟨b,0,some 3⟩,L.length,ab,λ_=>⟨b,0,some 3,false,_,rfl,rfl,(by simp),y4 ..,aS _ _ _,?_,?_⟩⟩
   ·rw[gg (k:=3) (λ_=>rfl),jm,<-B,A,<-B];omega
   ·rw[zm,A,pb,<-gg (k:=3) (enc:=eL) (λ_=>rfl),List.take_left]
section
variable {c:Nat->X} {h ac:ae} {U Y k j b:Nat} {v:X}
theorem abO{az:Type}(f:Nat->az){m:Nat}(A:k+m<=n):(((List.range n).map f).drop k).take m=(List.range m).map λi=>f (k+i):=by
 refine oq λi=>?_
 grind
theorem Ah:du c=(List.range 45).map c:=rfl
theorem wkg(A:k<45):(du c)[k]? = some (c k):=by rw[Ah,rT,xg A];rfl
theorem wks(A:k<45):(du c).set k v=du (g9 c k v):=by
 rw[Ah,Ah];refine oq λi=>?_;rw[y9,gH,vx]
 by_cases aj:i<45
 ·rw[rT,rT,xg aj]
  by_cases e:k=i
  ·subst e;rw[if_pos rfl,if_pos A];unfold g9;grind
  ·rw[if_neg e];unfold g9;grind
 grind
theorem wk5(A:k+5<=45):h0 (some 5) k (du c) = .ok (.agg ⟨[c k,c (k+1),c (k+2),c (k+3),c (k+4)]⟩):=by rw[p6,F3,if_pos J,Ah,abO c A];rfl
theorem wk6(A:k+6<=45):h0 (some 6) k (du c) = .ok (.agg ⟨[c k,c (k+1),c (k+2),c (k+3),c (k+4),c (k+5)]⟩):=by rw[p6,F3,if_pos J,Ah,abO c A];rfl
theorem s9{l:aa X}(A:j<k\/k+l.length<=j):nc c k l j=c j:=by unfold nc;grind
theorem wkL{l:aa X}(D:k+l.length<=45):(du c).take k++l++(du c).drop (k+l.length)=du (nc c k l):=by
 rw[Ah,Ah];refine oq λi=>?_
 by_cases A:i<k
 ·rw[kv,xf ab,xi,if_pos A,rT,rT,xg J];show some (c i)=some (nc c k l i);rw[s9 J]
 ·by_cases B:i<k+l.length
  ·rw[kv,Ei ab,xf ab,rT,xg J];unfold nc
   grind
  ·rw[Ei ab,xh,jm,p3,gH,vx,show k+l.length+(i-(min k 45+l.length))=i by omega,rT,rT];cases E:(List.range 45)[i]? with
   |none=>rfl
   |some x =>
    have:x=i:=ab
    subst this;show some (c x)=some (nc c k l x);rw[s9 J]
theorem wkw{I E D A B:X}{K:ae->Prop}(M:k+5<=45):af (jY (some (.cells (du c) false)) h b k [I,E,D,A,B]) K↔ea [I,E,D,A,B]=true/\K (T h b (.cells (du (nc c k [I,E,D,A,B])) false)):=
 zH.trans ⟨λx=>⟨x.1,by rw[<-wkL J];exact x.2.2⟩,λx=>⟨x.1,by rw[F3];omega,by rw[wkL J];exact x.2⟩⟩
theorem xW:g9 c k v k=v:=if_pos rfl
theorem dF(h:j≠k):g9 c k v j=c j:=if_neg h
def hH:=And.intro @wkg (And.intro @wks (And.intro @wk5 (And.intro @wk6 (And.intro @wkw (And.intro @F3 (And.intro @xW @dF))))))
theorem awO{p q D B:Prop}(aC:D)(A:B)(h:q)(e:D->B->q->p:=by intro aC A h;simp(config:={maxSteps:=1000000})(disch:=omega)only[bn,hH,↓reduceIte,Nat.reduceAdd,Nat.reduceSub,Nat.reduceMul,Nat.reduceLT,Nat.reduceLeDiff,Nat.reduceEqDiff,Int.reduceBEq,Int.reduceLT,Int.reduceNeg,aC,A];exact h):p:=e aC A h
theorem Gj{p q A:Prop}(aC:A)(h:q)(e:A->q->p:=by intro aC h;simp(config:={maxSteps:=1000000})(disch:=omega)only[bn,hH,aC,seval];exact h):p:=e aC h
theorem uI{p q D B:Prop}(aC:D)(A:B)(h:q)(e:D->B->q->p:=by intro aC A h;simp(config:={maxSteps:=1000000})(disch:=omega)only[bn,hH,aC,A,seval];exact h):p:=e aC A h
theorem xX{p q I E D:Prop}(aC:I)(B:E)(A:D)(h:q)(e:I->E->D->q->p:=by intro aC B A h;simp(config:={maxSteps:=1000000})(disch:=omega)only[bn,hH,aC,B,A,seval];exact h):p:=e aC B A h
theorem zW{p q M K E I:Prop}(aC:M)(D:K)(B:E)(A:I)(h:q)(e:M->K->E->I->q->p:=by intro aC D B A h;simp(config:={maxSteps:=1000000})(disch:=omega)only[bn,hH,aC,D,B,A,seval];exact h):p:=e aC D B A h
theorem Kr{p q aAN V I K M:Prop}(aC:aAN)(D:V)(B:I)(A:K)(E:M)(h:q)(e:aAN->V->I->K->M->q->p:=by intro aC D B A E h;simp(config:={maxSteps:=1000000})(disch:=omega)only[bn,hH,aC,D,B,A,E,seval];exact h):p:=e aC D B A E h
end
section
variable {own da:Nat->Nat} {h ac g b8:ae} {U Y ao aj k eb:Nat} {v:X}
def je(own:Nat->Nat)(h:ae)(U:Nat)(g:ae):Prop:=∀d,u g d=if d<U/\own d=0 then u h d else none
theorem CA(own:Nat->Nat)(h:ae):∀U,∃g,je own h U g
 |0=>⟨ix,λd=>by rw[if_neg J];exact I5 d⟩
 |U+1=>by
  obtain⟨g,A⟩:=CA own h U
  by_cases e:own U=0/\u h U≠none
  ·obtain⟨o,D⟩:=MF.1 e.2;refine⟨T g U o,λd=>?_⟩
   by_cases B:d=U
   ·grind
   ·rw[aq B,A d]
    grind
  ·refine⟨g,λd=>?_⟩;rw[A d]
   grind
structure DQ (eb:Nat) (own da:Nat->Nat) (h ac:ae) (U Y:Nat):Prop where
 le:U<=Y
 same:∀d,d<U->own d≠eb->u ac d=u h d
 dV:∀d,d<U->da d=own d
 new:∀d,U<=d->da d=0\/da d=eb
def kU(g h:ae):Prop:=∀d o,u g d=some o->u h d=some o
theorem je.sub(dK:je own h U g):kU g h:=λd o A=>by
 rw[dK d]at A
 grind
theorem je.F(dK:je own h U g)(B:je da ac Y b8)(D:DQ eb own da h ac U Y)(E:eb≠0):aA U g b8:=λd A=>by
 rw[dK d,B d,D.dV d A]
 by_cases e:own d=0
 ·rw[if_pos ⟨by have:=D.le;omega,e⟩,if_pos ⟨A,e⟩,D.same d A J]
 grind
theorem je.new(B:je da ac Y b8)(I:aj<=Y)(A:∀d,ao<=d->d<aj->da d=0):∀d,ao<=d->d<aj->u b8 d=u ac d:=λd E D=>by rw[B d,if_pos ⟨J,A d E D⟩]
variable {az:Type} {enc:az->aa X} {l:aa az}
theorem ej.sub(H:ej g U v enc k l)(S:kU g h):ej h U v enc k l:=by obtain⟨a,cap,e,H⟩:=H;refine⟨a,cap,e,λK=>?_⟩;obtain⟨b,o,B,D,cs,A,M,E,I⟩:=H K;exact⟨b,o,B,D,cs,A,M,S _ _ E,I⟩
theorem uJ(H:cN g U v enc l)(S:kU g h):cN h U v enc l:=by obtain⟨a,cap,e,H⟩:=H;refine⟨a,cap,e,λI=>?_⟩;obtain⟨b,B,D,A,K,E⟩:=H I;exact⟨b,B,D,A,K,S _ _ E⟩
theorem hf.sub{low D:Int}{A B:aa Int}{q:Nat->al}(H:hf g U v low D n A B q)(S:kU g h):hf h U v low D n A B q:=by obtain⟨E,I,K,e,a,b,c⟩:=H;exact⟨E,I,K,e,uJ a S,uJ b S,uJ c S⟩
theorem kX.sub{l:aa Int}(H:kX g U v l)(S:kU g h):kX h U v l:=by
 obtain⟨aU,B,A⟩:=H;refine⟨aU,?_,A⟩;rcases B with w|⟨b,e,E,D⟩
 ·exact .inl w
 ·exact .inr ⟨b,e,E,S _ _ D⟩
theorem kc.sub{r c:Nat}{ag:aa GE}(H:kc g U v r c ag)(S:kU g h):kc h U v r c ag:=by obtain⟨b,D,cap,K,B,e,A,I,E,M⟩:=H;exact⟨b,D,cap,K,B,e,A,S _ _ I,E.sub S,M.sub S⟩
theorem iB.sub{ao aj:Nat}(H:iB g ao aj v enc k l)(S:kU g h):iB h ao aj v enc k l:=by
 rcases H with H|⟨b,D,A,e,B⟩
 ·exact .inl H
 ·exact .inr ⟨b,D,A,e,S _ _ B⟩
theorem mE.sub{r c:Nat}{ag:aa GE}(H:mE g U v r c ag)(S:kU g h):mE h U v r c ag:=by obtain⟨K,E,A,D,e,V,B,I,M⟩:=H;exact⟨K,E,A,D,e,V.sub S,B.sub S,(iB.sub I S),M.sub S⟩
end
def QN:cP:=λs ah h U K=>bW [(ad 0),(ad 0),(ad 0),(ad 0),(ad 0),(ad 0),ay,ay,ay,(ad 0),(.bool false)] h U λa b c=>aW s 65 [ah] b c λd e f=>bw .eql 3 d (ad 0) (af (cS [(ad 0),(ad 0),(ad 0),(ad 0),(ad 0),(ad 0),ay,ay,ay,(ad 0),(.bool false)] []) λi=>af (aQ e 11 a i) λj=>aN 11 j a λk=>K (.tuple ⟨[k,(.bool false)]⟩) j f) (af (bs ah) λl=>ax e 22 l λn=>hv 11 e 11 n (ad 0) λp=>aW s 129 [p] e f λq r t=>af (aQ r 11 a q) λaD=>aN 11 aD a λv=>K (.tuple ⟨[v,(.bool true)]⟩) aD t)
theorem abP:cQ 61 QN:=cT []
def auC:cP:=λs ah h U K=>aW s 65 [ah] h U λa b c=>j6 a (ad 0) (af (bs ah) λe=>ax b 22 e λg=>af (gW 11 g (some (ad 1)) (some a) (some a)) λi=>af (bs ah) λj=>bf 22 j λk=>af (aQ b 1 k i) λl=>K (.tuple ⟨[]⟩) l c) (K (.tuple ⟨[]⟩) b c)
theorem ar7:cQ 62 auC:=cT []
def Fh(s:al)(K:bP)(cu co Ta:X)(au:ae)(a0:Nat):Prop:=br Ta (K (.bool false) au a0) (af (bs cu) λa=>bf 7 a λb=>ax au 1 b λd=>ax au 1 co λf=>b9 131 [d,f] au a0 λg i j=>af (bs cu) λk=>bf 7 k λl=>bf 1 l λm=>bT i m λn=>c0 m n (bf 1 co λo=>bT i o λp=>c0 o p (b9 132 [n,p] i j λq r t=>af (cS [(ad 0),(ad 0)] [(0,1,g),(1,1,q)]) λaD=>bW [(ad 0),(ad 0)] r t λv w x=>af (aQ w 2 v aD) λy=>ax y 0 co λbz=>bw .eql 94 bz (ad 1) (aN 11 y co λbQ=>aN 2 y v λa8=>aW s 133 [cu,bQ,a8] y x λbY b7 bL=>K bY b7 bL) (bw .eql 94 bz (ad 2) (aN 11 y co λcC=>aN 2 y v λdn=>aW s 134 [cu,cC,dn] y x λdf eJ am=>K df eJ am) (bw .eql 94 bz (ad 3) (aN 11 y co λeP=>aN 2 y v λgx=>aW s 135 [cu,eP,gx] y x λgN gE h7=>K gN gE h7) (bw .eql 94 bz (ad 4) (aN 11 y co λgy=>aN 2 y v λlS=>aW s 136 [cu,gy,lS] y x λlv lw oi=>K lv lw oi) (bw .eql 94 bz (ad 5) (aN 11 y co λcf=>aN 2 y v λrO=>aW s 137 [cu,cf,rO] y x λbe lT pW=>K be lT pW) (K (.bool false) y x)))))) 1 [au]) 1 [au])
def adW:c5:=λs ah t1 h U K=>bI t1 h U λa b c=>bw .eql 83 ah (.pointer none) (Fh s K ah a (.bool true) b c) (b9 130 [ah] b c λe f g=>bf 2 a λi=>bT f i λj=>c0 i j (bw .neq 3 j e (Fh s K ah a (.bool true) f g) (ax f 1 a λm=>cH m (ad 0) (Fh s K ah a (.bool true) f g) (ax f 1 a λp=>af (bs ah) λq=>bf 7 q λr=>ax f 0 r λaD=>af (bs ah) λv=>bf 7 v λw=>ax f 1 w λy=>bG .mul 3 aD y λz=>bG .geq 3 p z λbz=>(Fh s K ah a bz f g)))) 1 [b])
theorem ar8:c7 63 adW:=c9 []
def adX:cP:=λs ah h U K=>bw .eql 83 ah (.pointer none) (K (ad 0) h U) (af (bs ah) λb=>ax h 22 b λd=>cV d λe=>K e h U)
theorem ar9:cQ 65 adX:=cT []
def ZD:cP:=λs ah h U K=>bw .eql 83 ah (.pointer none) (K (ad 0) h U) (af (bs ah) λb=>ax h 27 b λd=>K d h U)
theorem akL:cQ 67 ZD:=cT []
def abQ:cP:=λs ah h U K=>bw .eql 83 ah (.pointer none) (K (ad 0) h U) (af (bs ah) λb=>ax h 26 b λd=>K d h U)
theorem aor:cQ 68 abQ:=cT []
def abR:cP:=λs ah h U K=>bW [(ad 0),(ad 0),ay,ay,ay] h U λa b c=>bw .eql 83 ah (.pointer none) (af (cS [(ad 0),(ad 0),ay,ay,ay] []) λe=>af (aQ b 5 a e) λf=>aN 5 f a λg=>K g f c) (af (bs ah) λi=>jk 5 b 28 i λk=>bW [(ad 0),(ad 0),ay,ay,ay] b c λl m n=>af (aQ m 5 l k) λo=>ax o 2 l λq=>b9 88 [q] o n λr t aD=>bf 3 l λv=>bT t v λw=>c0 v w (b9 88 [w] t aD λx y z=>bf 4 l λbz=>bT y bz λbU=>c0 bz bU (b9 139 [bU] y z λbQ a8 bY=>bf 0 l λb7=>bT a8 b7 λbL=>c0 b7 bL (bf 1 l λcK=>bT a8 cK λcC=>c0 cK cC (af (cS [(ad 0),(ad 0),ay,ay,ay] [(0,1,bL),(1,1,cC),(2,1,r),(3,1,x),(4,1,bQ)]) λdn=>af (aQ a8 5 a dn) λdf=>aN 5 df a λeJ=>K eJ df bY) 3 [y,t,o]) 3 [y,t,o]) 2 [t,o]) 1 [o])
theorem aos:cQ 69 abR:=cT []
def afl:cP:=λs ah h U K=>bI ah h U λa b c=>bW [(ad 0),(ad 0),(ad 0),(ad 0),(ad 0),(ad 0),ay,ay,ay,(ad 0),(.bool false)] b c λd e f=>bf 5 a λg=>ax e 1 g λj=>b9 217 [j] e f λk l m=>bf 7 a λn=>bT l n λo=>c0 n o (b9 218 [o] l m λp q r=>bf 5 a λt=>bf 1 t λaD=>af (aQ q 1 aD k) λv=>bf 7 a λw=>af (aQ v 1 w p) λx=>aN 11 x a λy=>af (aQ x 11 d y) λz=>aN 11 z d λbz=>K bz z r) 1 [e]
theorem auD:cQ 129 afl:=cT []
def ZE:cP:=λs ah h U K=>bw .eql 83 ah (.pointer none) (K (ad (-1)) h U) (af (bs ah) λb=>bf 0 b λc=>ax h 0 c λe=>af (bs ah) λf=>bf 0 f λg=>ax h 1 g λj=>b9 219 [ah,e,j] h U λk l m=>K k l m)
theorem akM:cQ 130 ZE:=cT []
def E0:aa (aa Nat):=[[0,11,84,85],[0,13,127,128]]
def Wy(s:al)(aC en TJ LW:X)(h:ae)(U:Nat)(N:aR)(aM:aR)(R:aR):Prop:=cH LW TJ (af (bs aC) λb=>ax h 24 b λd=>af (jR Q h 3 (.agg #[(ad 0),ay]) false d LW) λe=>d4 (fh 1 [(ad 0),ay] [(0,2,e)]) h U λf g i=>dG (dX (dT 2 g i en f)) λj k l=>cg LW λm=>N [aC,j,TJ,m] k l) (aM [aC,en,TJ,LW] h U)
def Wz(s:al)(aC ho RX KU:X)(h:ae)(U:Nat)(N:aR)(aP:aR)(R:aR):Prop:=cH KU RX (af (bs aC) λb=>bf 0 b λc=>ax h 1 c λe=>b9 219 [aC,KU,e] h U λf g i=>af (bs aC) λj=>bf 23 j λk=>bT g k λl=>c0 k l (aN 2 g ho λm=>jg 2 ho m (af (cS [(ad 0),(ad 0),(ad 0),(ad 0),(ad 0),(ad 0),ay,ay,ay,(ad 0),(.bool false)] [(0,1,(ad 2)),(2,1,f),(4,1,l),(5,2,m)]) λn=>b9 213 [aC,n] g i λo p q=>cg KU λr=>N [aC,ho,RX,r] p q) 1 [h]) 1 [h]) (aP [aC,ho,RX,KU] h U)
def BO(s:al)(K:bP)(cu ep fH TK:X)(au:ae)(a0:Nat):Prop:=br TK (K (.bool false) au a0) (af (bs cu) λa=>ax au 24 a λc=>ax au 0 ep λe=>aN 2 au fH λf=>af (mB Q 3 au c e f) λg=>af (bs cu) λi=>ax g 24 i λk=>af (wg g k) λl=>af (bs cu) λm=>bf 7 m λn=>ax g 0 n λp=>cH l p (K (.bool true) g a0) (af (bs cu) λr=>bf 7 r λt=>ax g 0 t λv=>bD (bR Q s E0 133 0) [cu,ay,v,(ad 0)] g a0 [(0,λw x y=>af (bs (a7 w 0)) λz=>bf 2 z λbz=>ax x 1 bz λbQ=>af (bs (a7 w 0)) λa8=>bf 7 a8 λbY=>ax x 0 bY λbL=>af (bs (a7 w 0)) λcK=>bf 7 cK λcC=>ax x 1 cC λdf=>af (bs (a7 w 0)) λeJ=>bf 0 eJ λam=>ax x 1 am λeP=>b9 223 [bQ,bL,df,eP,(a7 w 1)] x y λgx gN gE=>af (cy gx 0) λh7=>bW [(ad 0),ay] gN gE λiN gy lS=>af (aQ gy 2 iN h7) λlv=>af (cy gx 1) λlw=>af (bs (a7 w 0)) λoi=>bf 7 oi λoj=>ax lv 0 oj λrO=>bD (bR Q s E0 133 1) [(a7 w 0),iN,rO,(ad 0)] lv lS [(2,λbe lT pW=>af (bs (a7 be 0)) λf7=>ax lT 24 f7 λw6=>dG (dX (pd Q .clear [171] lT pW [w6])) λo0 lx jv=>af (bs (a7 be 0)) λvn=>ax lx 23 vn λtV=>cg tV λeQ=>af (bs (a7 be 0)) λBc=>bf 23 Bc λpX=>af (aQ lx 1 pX eQ) λkG=>K (.bool true) kG jv)] (λ_ _ _=>False))] (λ_ _ _=>False)))
def ZF:gf:=λs ah t1 t2 h U K=>bI t1 h U λa b c=>bI t2 b c λd e f=>ax e 0 d λi=>b9 222 [ah,i] e f λj k l=>aN 11 k a λm=>jg 11 a m (b9 221 [m,j] k l λn o p=>af (cy n 0) λq=>bW [(ad 0),ay] o p λr t aD=>af (aQ t 2 r q) λv=>af (cy n 1) λw=>af (bs ah) λx=>ax v 24 x λz=>ax v 0 d λbU=>af (jR Q v 3 (.agg #[(ad 0),ay]) true z bU) λbQ=>af (cy bQ 0) λa8=>bW [(ad 0),ay] v aD λbY b7 bL=>af (aQ b7 2 bY a8) λcK=>af (cy bQ 1) λcC=>br cC (BO s K ah d r (.bool true) cK bL) (af (dr .not w) λdn=>br dn (BO s K ah d r (.bool true) cK bL) (af (bs ah) λdf=>bf 0 df λeJ=>ax cK 0 eJ λan=>bw .neq 3 an (ad 0) (BO s K ah d r (.bool true) cK bL) (ax cK 1 d λgN=>bw .neq 3 gN (ad 0) (BO s K ah d r (.bool true) cK bL) (ax cK 4 a λiN=>af (bs ah) λgy=>ax cK 23 gy λlv=>bG .neq 3 iN lv λlw=>(BO s K ah d r lw cK bL)))))) 1 [e]
theorem aiD{s:al}{A B D:X}{h:ae}{U:Nat}{N R:aR}:bR Q s E0 133 0 [aC,A,B,D] h U N [(0,aM)] R=Wy s aC A B D h U N aM R:=by kernel_rfl
theorem aiE{s:al}{D A B:X}{h:ae}{U:Nat}{N E R:aR}:bR Q s E0 133 1 [aC,D,A,B] h U N [(2,E)] R=Wz s aC D A B h U N E R:=by kernel_rfl
theorem akN:gl 133 ZF:=gp E0
def EJ(s:al)(K:bP)(cu de fH TL:X)(au:ae)(a0:Nat):Prop:=br TL (K (.bool false) au a0) (ax au 4 de λb=>aW s 224 [cu,b] au a0 λc d e=>bW [(ad 0),(ad 0)] d e λf g i=>af (aQ g 2 f c) λj=>af (bs cu) λk=>bf 2 k λl=>ax j 0 l λn=>ax j 4 de λp=>b9 225 [n,p] j i λq r t=>bf 1 f λaD=>bT r aD λv=>c0 aD v (aN 2 r fH λw=>jg 2 fH w (b9 226 [v,w] r t λx y z=>af (bs cu) λbz=>bf 11 bz λbU=>aN 5 y bU λbQ=>jg 5 bU bQ (af (bs cu) λa8=>bf 16 a8 λbY=>aN 6 y bY λb7=>jg 6 bY b7 (bf 0 f λbL=>bT y bL λcK=>c0 bL cK (af (cS [(ad 0),(ad 0),(ad 0),ay,ay,ay,(ad 0),(ad 0),ay,ay,ay,ay,(ad 0),(ad 0),ay,(ad 0),ay,ay,ay,(.bool false),(ad 0)] [(0,1,q),(1,5,bQ),(6,6,b7),(12,6,x),(19,1,(.bool true)),(20,1,cK)]) λcC=>bW [(ad 0),(ad 0),(ad 0),ay,ay,ay,(ad 0),(ad 0),ay,ay,ay,ay,(ad 0),(ad 0),ay,(ad 0),ay,ay,ay,(.bool false),(ad 0)] y z λdn df eJ=>af (aQ df 21 dn cC) λam=>aN 21 am dn λan=>aW s 227 [an] am eJ λeP gx gN=>af (cy eP 0) λgE=>af (cy eP 1) λh7=>af (cy eP 2) λiN=>af (bs cu) λgy=>ax gx 25 gy λlv=>cg lv λlw=>af (bs cu) λoi=>bf 25 oi λoj=>af (aQ gx 1 oj lw) λcf=>af (bs cu) λrO=>bf 0 rO λbe=>ax cf 0 be λpW=>b9 219 [cu,pW,(ad 0)] cf gN λf7 bi w6=>bf 4 de λo0=>bT bi o0 λlx=>c0 o0 lx (af (cS [(ad 0),(ad 0),(ad 0),(ad 0),(ad 0),(ad 0),ay,ay,ay,(ad 0),(.bool false)] [(0,1,(ad 3)),(2,1,f7),(4,1,lx),(7,1,gE)]) λjv=>b9 213 [cu,jv] bi w6 λvn aU tV=>K (.bool true) aU tV) 1 [cf]) 2 [r,j]) 2 [r,j]) 2 [r,j]) 1 [j]) 1 [j])
def XJ:gf:=λs ah t1 t2 h U K=>bI t1 h U λa b c=>bI t2 b c λd e f=>aN 11 e a λg=>af (bs ah) λi=>bf 11 i λj=>ax e 1 j λl=>b9 221 [g,l] e f λm n o=>af (cy m 0) λp=>bW [(ad 0),ay] n o λq r t=>af (aQ r 2 q p) λaD=>af (cy m 1) λv=>af (dr .not v) λw=>br w (EJ s K ah a q (.bool true) aD t) (ax aD 0 d λy=>bw .neq 3 y (ad 0) (EJ s K ah a q (.bool true) aD t) (ax aD 1 d λbU=>af (bs ah) λbQ=>bf 0 bQ λa8=>ax aD 1 a8 λb7=>bw .neq 3 bU b7 (EJ s K ah a q (.bool true) aD t) (ax aD 4 a λcC=>af (bs ah) λdn=>ax aD 25 dn λeJ=>bG .neq 3 cC eJ λam=>(EJ s K ah a q am aD t))))
theorem aiF:gl 134 XJ:=gp []
def xr(s:al)(K:bP)(cu de ep TK:X)(au:ae)(a0:Nat):Prop:=br TK (K (.bool false) au a0) (af (bs cu) λa=>bf 2 a λb=>ax au 0 b λd=>ax au 4 de λf=>b9 225 [d,f] au a0 λg i j=>af (bs cu) λk=>bf 40 k λl=>bT i l λm=>c0 l m (bf 7 de λn=>bT i n λo=>c0 n o (d4 (fh 2 [ay,ay] [(0,1,m),(1,1,o)]) i j λp q r=>b9 229 [g,p] q r λt aD v=>af (cy t 0) λw=>af (bs cu) λx=>bf 40 x λy=>af (aQ aD 1 y w) λz=>af (cy t 1) λbz=>af (bs cu) λbU=>ax z 41 bU λa8=>ax z 1 ep λb7=>af (mB Q 3 z a8 b7 (.bool true)) λbL=>af (bs cu) λcK=>ax bL 41 cK λdn=>af (wg bL dn) λdf=>af (bs cu) λeJ=>bf 7 eJ λam=>ax bL 1 am λeP=>bw .eql 3 df eP (ax bL 4 de λgE=>aW s 230 [cu,gE] bL v λh7 iN gy=>K (.bool true) iN gy) (K (.bool true) bL v)) 1 [au]) 1 [au])
def XK:gf:=λs ah t1 t2 h U K=>bI t1 h U λa b c=>bI t2 b c λd e f=>af (bs ah) λg=>bf 0 g λi=>ax e 1 i λk=>bw .neq 3 k (ad 0) (xr s K ah a d (.bool true) e f) (ax e 0 d λn=>af (bs ah) λo=>bf 0 o λp=>ax e 0 p λr=>bw .neq 3 n r (xr s K ah a d (.bool true) e f) (af (bs ah) λaD=>ax e 27 aD λw=>bw .neq 86 w (ad 0) (xr s K ah a d (.bool true) e f) (af (bs ah) λy=>ax e 38 y λbz=>br bz (xr s K ah a d (.bool true) e f) (ax e 4 a λbQ=>af (bs ah) λa8=>ax e 26 a8 λb7=>cg b7 λbL=>bw .neq 3 bQ bL (xr s K ah a d (.bool true) e f) (af (bs ah) λcC=>ax e 41 cC λdf=>ax e 1 d λam=>af (jR Q e 3 (.bool false) false df am) λan=>br an (xr s K ah a d (.bool true) e f) (ax e 7 a λgx=>b9 228 [ah,gx] e f λgN gE h7=>af (dr .not gN) λiN=>(xr s K ah a d iN gE h7)))))))
theorem aiG:gl 135 XK:=gp []
def OI:aa (aa Nat):=[[0,9,74,75]]
def XL(s:al)(aC c4 vc LX:X)(h:ae)(U:Nat)(N:aR)(aM:aR)(R:aR):Prop:=cH LX vc (b9 219 [aC,LX,(ad 0)] h U λb c d=>af (bs aC) λe=>bf 42 e λf=>bT c f λg=>c0 f g (af (cS [(ad 0),(ad 0),(ad 0),(ad 0),(ad 0),(ad 0),ay,ay,ay,(ad 0),(.bool false)] [(0,1,(ad 5)),(2,1,b),(4,1,g),(9,1,c4)]) λi=>b9 213 [aC,i] c d λj k l=>cg LX λm=>N [aC,c4,vc,m] k l) 1 [h]) (aM [aC,c4,vc,LX] h U)
def BW(s:al)(K:bP)(cu de ep TL:X)(au:ae)(a0:Nat):Prop:=br TL (K (.bool false) au a0) (af (bs cu) λa=>ax au 43 a λc=>ax au 0 ep λe=>aN 11 au de λf=>af (mB Q 3 au c e f) λg=>af (bs cu) λi=>ax g 43 i λk=>af (wg g k) λl=>af (bs cu) λm=>bf 7 m λn=>ax g 0 n λp=>cH l p (K (.bool true) g a0) (aW s 231 [cu] g a0 λr t aD=>af (bs cu) λv=>bf 7 v λw=>ax t 0 w λy=>bD (bR Q s OI 136 0) [cu,r,y,(ad 0)] t aD [(0,λz bz bU=>af (bs (a7 z 0)) λbQ=>ax bz 43 bQ λbY=>dG (dX (pd Q .clear [173] bz bU [bY])) λb7 bL cK=>af (bs (a7 z 0)) λcC=>ax bL 42 cC λdf=>cg df λeJ=>af (bs (a7 z 0)) λam=>bf 42 am λan=>af (aQ bL 1 an eJ) λeP=>bG .neq 86 (a7 z 1) (ad 0) λgx=>af (bs (a7 z 0)) λgN=>bf 44 gN λgE=>af (aQ eP 1 gE gx) λh7=>K (.bool true) h7 cK)] (λ_ _ _=>False)))
def abS:gf:=λs ah t1 t2 h U K=>bI t1 h U λa b c=>bI t2 b c λd e f=>af (bs ah) λg=>ax e 43 g λj=>ax e 0 d λl=>af (jR Q e 3 (.agg #[(ad 0),(ad 0),(ad 0),(ad 0),(ad 0),(ad 0),ay,ay,ay,(ad 0),(.bool false)]) true j l) λm=>af (cy m 0) λn=>bW [(ad 0),(ad 0),(ad 0),(ad 0),(ad 0),(ad 0),ay,ay,ay,(ad 0),(.bool false)] e f λo p q=>af (aQ p 11 o n) λr=>af (cy m 1) λt=>br t (BW s K ah a d (.bool true) r q) (af (bs ah) λaD=>jk 2 r 0 aD λw=>af (cS [(ad 0),(ad 0)] []) λx=>bw .neq 162 w x (BW s K ah a d (.bool true) r q) (af (bs ah) λz=>ax r 44 z λbU=>br bU (BW s K ah a d (.bool true) r q) (ax r 1 d λa8=>bw .neq 3 a8 (ad 0) (BW s K ah a d (.bool true) r q) (ax r 4 a λbL=>af (bs ah) λcK=>ax r 42 cK λdn=>bG .neq 3 bL dn λdf=>(BW s K ah a d df r q)))))
theorem akO{s:al}{A B:X}{h:ae}{U:Nat}{N R:aR}:bR Q s OI 136 0 [aC,c4,A,B] h U N [(0,aM)] R=XL s aC c4 A B h U N aM R:=by kernel_rfl
theorem aot:gl 136 abS:=gp OI
def II(s:al)(K:bP)(cu fH ij y74:X)(au:ae)(a0:Nat):Prop:=br y74 (af (bs cu) λa=>jk 5 au 33 a λc=>af (bs cu) λd=>bf 28 d λe=>af (aQ au 5 e c) λf=>af (bs cu) λg=>bf 26 g λi=>af (aQ f 1 i fH) λj=>bw .eql 86 ij (ad 0) (aW s 232 [cu] j a0 λl m n=>K (.bool true) m n) (K (.bool true) j a0)) (bw .eql 86 ij (ad 0) (aW s 232 [cu] au a0 λp q r=>K (.bool true) q r) (K (.bool true) au a0))
def vE(s:al)(K:bP)(cu fH ij Tb:X)(au:ae)(a0:Nat):Prop:=br Tb (K (.bool false) au a0) (af (bs cu) λa=>bf 38 a λb=>af (aQ au 1 b (.bool false)) λc=>af (bs cu) λd=>bf 39 d λe=>af (aQ c 1 e (.bool true)) λf=>af (bs cu) λg=>bf 27 g λi=>af (aQ f 1 i ij) λj=>j6 fH (ad 0) (bG .neq 86 ij (ad 3) λl=>(II s K cu fH ij l j a0)) (II s K cu fH ij (.bool false) j a0))
def IJ(s:al)(K:bP)(cu de ep fH:X)(au:ae)(a0:Nat):Prop:=ax au 9 de λb=>af (bs cu) λc=>bf 0 c λd=>ax au 1 d λf=>bw .neq 3 f (ad 0) (vE s K cu fH b (.bool true) au a0) (aN 2 au ep λi=>af (cS [(ad 0),(ad 0)] []) λj=>bw .neq 162 i j (vE s K cu fH b (.bool true) au a0) (af (bs cu) λl=>ax au 38 l λn=>af (dr .not n) λo=>br o (vE s K cu fH b (.bool true) au a0) (af (bs cu) λp=>ax au 27 p λr=>bw .neq 86 r (ad 0) (vE s K cu fH b (.bool true) au a0) (ax au 4 de λv=>bw .neq 3 v fH (vE s K cu fH b (.bool true) au a0) (bw .lss 86 b (ad 0) (vE s K cu fH b (.bool true) au a0) (bG .gtr 86 b (ad 3) λy=>(vE s K cu fH b y au a0)))))))
def XM:gf:=λs ah t1 t2 h U K=>bI t1 h U λa b c=>bI t2 b c λd e f=>af (bs ah) λg=>ax e 39 g λj=>br j (af (bs ah) λk=>ax e 26 k λm=>cg m λn=>(IJ s K ah a d n e f)) (IJ s K ah a d (ad 0) e f)
theorem aiH:gl 137 XM:=gp []
def ZG:c5:=λs ah t1 h U K=>bI ah h U λa b c=>bW [(ad 0),ay] b c λd e f=>bf 5 a λg=>ax e 1 g λj=>b9 217 [j] e f λk l m=>bf 5 a λn=>bf 0 n λo=>bT l o λp=>c0 o p (af (cS [(ad 0),ay] [(0,1,p),(1,1,k)]) λq=>bW [(ad 0),ay] l m λr t aD=>af (aQ t 2 r q) λv=>aN 2 v r λw=>b9 312 [w] v aD λx y z=>aN 2 y r λbz=>jg 2 r bz (af (aQ y 2 d bz) λbU=>br x (bf 0 r λbQ=>bT bU bQ λa8=>c0 bQ a8 (bG .eql 3 a8 t1 λbY=>aN 2 bU d λb7=>K (.tuple ⟨[b7,bY]⟩) bU z) 1 [y,v]) (aN 2 bU d λbL=>K (.tuple ⟨[bL,(.bool false)]⟩) bU z)) 1 [v]) 1 [e]
theorem akP:c7 221 ZG:=c9 []
def abT:c5:=λs ah t1 h U K=>af (bs ah) λa=>bf 2 a λb=>ax h 1 b λd=>af (bs ah) λe=>bf 7 e λf=>ax h 0 f λi=>b9 126 [d,i,t1] h U λj k l=>af (bs ah) λm=>bf 7 m λn=>bf 1 n λo=>bT k o λp=>c0 o p (af (bs ah) λq=>bf 0 q λr=>bf 1 r λt=>bT k t λaD=>c0 t aD (b9 126 [d,p,aD] k l λv w x=>af (min2 false j v) λy=>af (bs ah) λz=>bf 7 z λbz=>ax w 0 bz λbQ=>cg t1 λa8=>b9 126 [d,bQ,a8] w x λbY b7 bL=>af (bs ah) λcK=>bf 7 cK λcC=>bf 1 cC λdn=>bT b7 dn λdf=>c0 dn df (af (bs ah) λeJ=>bf 0 eJ λam=>bf 1 am λan=>bT b7 an λeP=>c0 an eP (cg eP λgx=>b9 126 [d,df,gx] b7 bL λgN gE h7=>af (min2 true bY gN) λiN=>bG .sub 3 iN y λgy=>af (min2 false (ad 0) gy) λlS=>K lS gE h7) 1 [w]) 1 [w]) 1 [h]) 1 [h]
theorem aou:c7 222 abT:=c9 []
def ZH:c5:=λs ah t1 h U K=>bW [(ad 0),(ad 0)] h U λa b c=>af (bs ah) λd=>ax b 10 d λf=>cV f λg=>bw .eql 3 g (ad 0) (af (cS [(ad 0),(ad 0)] []) λj=>af (aQ b 2 a j) λk=>aN 2 k a λl=>K l k c) (af (bs ah) λm=>ax b 10 m λo=>bG .sub 3 t1 (ad 1) λp=>af (bs ah) λq=>ax b 10 q λt=>cV t λaD=>bG .rem 3 p aD λv=>hv 2 b 2 o v λx=>af (aQ b 2 a x) λy=>aN 2 y a λz=>K z y c)
theorem akQ:c7 224 ZH:=c9 []
def NY:aa (aa Nat):=[[0,4,5,8,9,10]]
def WA(s:al)(aC aY bN bx c4 di:X)(h:ae)(U:Nat)(N:aR)(aM:aR)(R:aR):Prop:=cH di c4 (hv 3 h 3 bx di λc=>bW [(ad 0),(ad 0),(.int .u64 0)] h U λd e f=>af (aQ e 3 d c) λg=>ax g 0 d λj=>bw .leq 3 j bN (R [aC,(.bool false),bN,bx,c4,di] g f) (ax g 0 d λm=>af (bs aC) λn=>bf 11 n λo=>ax g 0 o λq=>bw .geq 3 m q (R [aC,(.bool false),bN,bx,c4,di] g f) (ax g 0 d λaD=>cg di λv=>N [aC,aY,aD,bx,c4,v] g f))) (aM [aC,aY,bN,bx,c4,di] h U)
def ZI:c5:=λs ah t1 h U K=>cV t1 λa=>bD (bR Q s NY 228 0) [ah,(.bool false),(ad (-1)),t1,a,(ad 0)] h U [(0,λb c d=>K (.bool true) c d)] (λe f g=>K (a7 e 1) f g)
theorem aiI{s:al}{E D B A:X}{h:ae}{U:Nat}{N R:aR}:bR Q s NY 228 0 [aC,E,D,B,c4,A] h U N [(0,aM)] R=WA s aC E D B c4 A h U N aM R:=by kernel_rfl
theorem akR:c7 228 ZI:=c9 NY
def XN:c5:=λs ah t1 h U K=>af (bs ah) λa=>jk 5 h 2 a λc=>af (bs ah) λd=>jk 5 h 28 d λf=>b9 331 [c,f,t1] h U λg i j=>af (cy g 0) λk=>bW [ay] i j λl m n=>bW [(.bool false)] m n λo p q=>af (aQ p 1 l k) λr=>af (cy g 1) λt=>af (aQ r 1 o t) λaD=>af (bs ah) λv=>ax aD 40 v λx=>af (.ok (.func (.func 333) ⟨[]⟩ ⟨[l,o]⟩)) λy=>aW s 332 [x,y] aD q λz bz bU=>af (bs ah) λbQ=>bf 40 bQ λa8=>af (aQ bz 1 a8 ay) λbY=>af (bs ah) λb7=>jk 5 bY 28 b7 λcK=>af (bs ah) λcC=>bf 33 cC λdn=>af (aQ bY 5 dn cK) λdf=>af (bs ah) λeJ=>bf 2 eJ λam=>ax df 0 am λeP=>b9 225 [eP,t1] df bU λgx gN gE=>af (bs ah) λh7=>bf 11 h7 λiN=>bf 0 iN λgy=>bT gN gy λlS=>c0 gy lS (b9 335 [gx,lS,z] gN gE λlv lw oi=>af (cy lv 0) λoj=>bW [(ad 0),ay] lw oi λcf rO be=>af (aQ rO 2 cf oj) λlT=>af (cy lv 1) λpW=>bw .eql 30 pW (ad 0) (af (bs ah) λbi=>jk 5 lT 2 bi λo0=>af (bs ah) λlx=>jk 5 lT 28 lx λvn=>aN 2 lT cf λaU=>b9 336 [o0,vn,t1,aU] lT be λtV eQ Bc=>af (bs ah) λpX=>bf 33 pX λkG=>af (aQ eQ 5 kG tV) λUF=>bG .neq 30 pW (ad 0) λUG=>aW s 127 [ah,t1,UG] UF Bc λfN pS UH=>K (.tuple ⟨[]⟩) pS UH) (bG .neq 30 pW (ad 0) λpT=>aW s 127 [ah,t1,pT] lT be λgu hr gM=>K (.tuple ⟨[]⟩) hr gM)) 1 [df]
theorem aiJ:c7 230 XN:=c9 []
def WB:gf:=λs ah t1 t2 h U K=>bI ah h U λa b c=>bT b t1 λd=>ax b 0 a λf=>b9 334 [d,f] b c λg i j=>bT i t2 λk=>c0 t2 k (bG .eql 4 g k λl=>K l i j) 1 [b]
theorem ahF:gl 333 WB:=gp []
def NZ:aa (aa Nat):=[[0,2,23,24]]
def WC(s:al)(aC a2 i0 fd:X)(h:ae)(U:Nat)(N:aR)(aM:aR)(R:aR):Prop:=cH fd i0 (aN 2 h a2 λb=>af (bs aC) λc=>bf 2 c λd=>ax h 1 d λf=>af (bs aC) λg=>bf 7 g λi=>ax h 0 i λk=>af (bs aC) λl=>bf 7 l λm=>ax h 1 m λo=>af (bs aC) λp=>bf 0 p λq=>ax h 0 q λt=>b9 338 [b,f,k,o,t,fd] h U λaD v w=>bW [(ad 0),ay] v w λx y z=>af (aQ y 2 x aD) λbz=>af (bs aC) λbU=>ax bz 26 bU λa8=>cg a8 λbY=>aN 2 bz x λb7=>af (cS [(ad 0),(ad 0),(ad 0),(ad 0),(ad 0),(ad 0),ay,ay,ay,(ad 0),(.bool false)] [(0,1,(ad 1)),(2,1,fd),(4,1,bY),(5,2,b7)]) λbL=>b9 213 [aC,bL] bz z λcK cC dn=>cg fd λdf=>N [aC,a2,i0,df] cC dn) (aM [aC,a2,i0,fd] h U)
def ZJ:cP:=λs ah h U K=>af (bs ah) λa=>jk 5 h 2 a λc=>af (bs ah) λd=>jk 5 h 28 d λf=>af (bs ah) λg=>ax h 26 g λj=>cg j λk=>b9 337 [c,f,k] h U λl m n=>bW [(ad 0),ay] m n λo p q=>af (aQ p 2 o l) λr=>af (bs ah) λt=>bf 7 t λaD=>ax r 1 aD λw=>bD (bR Q s NZ 232 0) [ah,o,w,(ad 0)] r q [(0,λx y z=>af (bs (a7 x 0)) λbz=>ax y 41 bz λbQ=>dG (dX (pd Q .clear [172] y z [bQ])) λa8 bY b7=>af (bs (a7 x 0)) λbL=>bf 40 bL λcK=>af (aQ bY 1 cK ay) λcC=>K (.tuple ⟨[]⟩) cC b7)] (λ_ _ _=>False)
theorem aiK{s:al}{B A fd:X}{h:ae}{U:Nat}{N R:aR}:bR Q s NZ 232 0 [aC,B,A,fd] h U N [(0,aM)] R=WC s aC B A fd h U N aM R:=by kernel_rfl
theorem akS:cQ 232 ZJ:=cT NZ
section
variable {az:Type} {h:ae} {enc:az->aa X} {k:Nat} {v:X} {x:az} {l:aa az} {o:aw Nat}
theorem fQ.tail(hk:∀x,(enc x).length=k)(Lh:0<k)(g:fQ h enc k v (x::l) o):∃b A E cs I B,v = .slice (some ⟨b,A,E⟩) (l.length+1) (l.length+1)/\o=some b/\u h b=some (.cells cs I)/\(cs.drop A).take k=enc x/\A+k<=cs.length /\
  gW k v (some (.int .i64 1)) (some (((l.length+1:Nat):X))) (some (((l.length+1:Nat):X))) = .ok B/\fQ h enc k B l (some b):=by
 have M:∀(b A:Nat) (E:aw Nat) (cs:aa X) (I:al),wv (some ⟨b,A,E⟩)=false->u h b=some (.cells cs I)->A+(l.length+1)*k<=cs.length->(cs.drop A).take ((l.length+1)*k)=bc enc (x::l) ->
   (cs.drop A).take k=enc x/\A+k<=cs.length/\∃B,gW k (.slice (some ⟨b,A,E⟩) (l.length+1) (l.length+1)) (some (.int .i64 1)) (some (((l.length+1:Nat):X))) (some (((l.length+1:Nat):X))) = .ok B/\fQ h enc k B l (some b):=λb A E cs I cZ D V K=>by
  have aV:(l.length+1)*k=l.length*k+k:=ab
  rw[aV]at V K;refine⟨?_,J,_,aet J J cZ,?_⟩
  ·have:=congrArg (List.take k) K;rw[List.take_take,BG J]at this;rw[this];show(enc x++bc enc l).take k=_
   grind
  ·show fQ h enc k (.slice (some ⟨b,if l.length+1=1 then A else A+k,none⟩) (l.length+1-1) (l.length+1-1)) l (some b);rw[show l.length+1-1=l.length by omega]
   by_cases au:l.length+1=1
   ·rw[if_pos au];have:l=[]:=ab
    subst this;exact fQ.part D J (by simp[bc])
   ·rw[if_neg au];refine fQ.part D (by omega) ?_;rw[<-xm];have:=congrArg (List.drop k) K;rw[Ew,show l.length*k+k-k=l.length*k by omega]at this;rw[this];show(enc x++bc enc l).drop k=_
    grind
 cases g with
 | @own b _ D =>
  have cZ:wv (some ⟨b,0,some k⟩)=false:=by
   cases k with
   |zero=>omega
   |succ k=>rfl
  have V:=gg hk (x::l);obtain⟨h1,ar,B,aL,bm⟩:=M b 0 (some k) _ _ cZ D ab ab;exact⟨b,0,some k,_,_,B,rfl,rfl,D,h1,ar,aL,bm⟩
 | @part b o _ cs I D V K =>
  obtain⟨h1,ar,B,aL,bm⟩:=M b o none _ _ rfl D V K;exact⟨b,o,none,_,_,B,rfl,rfl,D,h1,ar,aL,bm⟩
end
structure ku where
 kind:Int
 e9:Int
 lI:Int
 round:Int
 lW:Int
 lU:aa (Nat × Int)
 nw:aa (Nat × Int)
 n:Int
 nW:al
structure mF (h:ae) (U:Nat) (f:ev) (p:ku):Prop where
 kind:f.kind=p.kind
 e9:f.e9=p.e9
 lI:f.lI=p.lI
 round:f.round=p.round
 lW:f.lW=p.lW
 sP:ej h U (.slice f.bu f.n6 f.hG) fD 2 p.lU
 t4:ej h U (.slice f.ba f.n7 f.i2) eL 3 p.nw
 n8:f.n8=0
 n:f.n=p.n
 nW:f.nW=p.nW
section
variable {h ac:ae} {U Y ao aj:Nat} {f:ev} {p:ku}
theorem mF.F(H:mF h U f p)(B:aA U h ac)(A:U<=Y):mF ac Y f p:={ H with sP:=H.sP.F B A,t4:=H.t4.F B A }
theorem mF.sub(H:mF h U f p)(S:kU h ac):mF ac U f p:={ H with sP:=H.sP.sub S,t4:=H.t4.sub S }
structure lo (h:ae) (ao aj:Nat) (f:ev) (p:ku):Prop where
 is:mF h aj f p
 hG:iB h ao aj (.slice f.bu f.n6 f.hG) fD 2 p.lU
 i2:iB h ao aj (.slice f.ba f.n7 f.i2) eL 3 p.nw
theorem lo.F{d6 dy:Nat}(H:lo h ao aj f p)(B:∀b,ao<=b->b<aj->u ac b=u h b)(D:d6<=ao)(A:aj<=dy):lo ac d6 dy f p where
 is:={ H.is with sP:=cN.o   (λ_=>rfl) (H.hG.F B D A).gr.rd,t4:=cN.o   (λ_=>rfl) (H.i2.F B D A).gr.rd }
 hG:=H.hG.F B D A
 i2:=H.i2.F B D A
def qm(h:ae)(U:Nat):aa ev->aa ku->Prop
 | [],[]=>True
 |f::ds,p::cb=>mF h U f p/\qm h U ds cb
 |_,_=>False
theorem qm.F(B:aA U h ac)(A:U<=Y):∀{ds cb},qm h U ds cb->qm ac Y ds cb
 | [],[],_=>trivial
 |_::_,_::_,H=>⟨H.1.F B A,qm.F B A H.2⟩
 | [],_::_,H=>H.elim
 |_::_,[],H=>H.elim
theorem qm.app:∀{ds cb gs H0},qm h U ds cb->qm h U gs H0->qm h U (ds++gs) (cb++H0)
 | [],[],_,_,_,G=>G
 |_::_,_::_,_,_,H,G=>⟨H.1,qm.app H.2 G⟩
 | [],_::_,_,_,H,_=>H.elim
 |_::_,[],_,_,H,_=>H.elim
theorem qm.len:∀{ds cb},qm h U ds cb->ds.length=cb.length
 | [],[],_=>rfl
 |_::_,_::_,H=>by rw[nJ,nJ,qm.len H.2]
 | [],_::_,H=>H.elim
 |_::_,[],H=>H.elim
end
theorem WD{s:al}{h:ae}{U:Nat}{v:X}{l:aa (Nat × Int)}(D:ej h U v eL 3 l)(I:l.length<10000):
  aH Q s 218 [v] h U (λr ac Y=>iB ac U Y r eL 3 l/\aA U h ac/\U<=Y):=by refine akd ?_;exact abs (K:=λr ac Y=>iB ac U Y r eL 3 l/\aA U h ac/\U<=Y) D (λ_=>rfl) J J agq λr ac Y E A B=>⟨E,A,B⟩
theorem asa{s:al}{h:ae}{U:Nat}{f:ev}{p:ku}(A:mF h U f p)(cF:p.lU.length<10000)(eE:p.nw.length<10000):
  aH Q s 129 [.agg ⟨d8 f⟩] h U (λr ac Y=>∃ks,r = .agg ⟨d8 ks⟩/\lo ac U Y ks p/\aA U h ac/\U<=Y):=by
 refine auD ?_;have bZ:∀{o aX},aA U h (T (T h U o) (U+1) aX):=aK
 unfold afl d8;refine aF ?_;refine(BN (A.sP.F  bZ J) cF).mono ?_;rintro HS bB bh ⟨K,E,I⟩;refine⟨I,?_⟩;have g0:=(E U J).trans ((aq J).trans (aS _ _ _));have dt:=(E (U+1) J).trans (aS _ _ _);have cJ:=bZ.trans E J;simp(disch:=omega)only[bn,g0,iD,seval];refine(WD (A.t4.F  cJ J) eE).mono ?_;rintro UV g2 V ⟨M,D,B⟩;refine⟨B,?_⟩;have gb:=(D U J).trans g0;have eo:=(D (U+1) J).trans dt;obtain⟨bu,hG,rfl⟩:=K.form;obtain⟨ba,i2,rfl⟩:=M.form;refine cL @gb @eo ?_;have H1:=K.F  (d6:=U+2)  (λb h1 ar=>D b ar) J B;have H2:=M.F (ac:=g2)  (dy:=V) ab J J;have e:lo g2 (U+2) V { f with bu:=bu,n6:=p.lU.length,hG:=hG,ba:=ba,n7:=p.nw.length,i2:=i2 } p :=
  ⟨⟨A.kind,A.e9,A.lI,A.round,A.lW,cN.o   (λ_=>rfl) H1.gr.rd,cN.o   (λ_=>rfl) H2.gr.rd,A.n8,A.n,A.nW⟩,H1,H2⟩
 exact⟨_,rfl,e.F ab J J,aK,J⟩
structure eW (h:ae) (U aI:Nat) (c:Nat->X) (i j C:Nat) (l:aa ev) (aU:aw Nat):Prop where
 at_:u h aI=some (.cells (du c) false)
 lt:aI<U
 hw:1<=C
 mw:C<=8
 i8:i<8
 vs:j<C
 o2:c 0 = (i:X)
 c1:c 1 = (j:X)
 g3:c 8 = (C:X)
 out:fQ h d8 11 (c 22) l aU
 aU:∀b,aU=some b->b≠aI/\b<U
section
variable {s:al} {h ac:ae} {U Y aI i j C:Nat} {c bO:Nat->X} {l:aa ev} {aU:aw Nat}
theorem eW.set(W:eW h U aI c i j C l aU)(M:u ac aI=some (.cells (du bO) false))(D:bO 0=c 0)(E:bO 1=c 1)(B:bO 8=c 8)(A:bO 22=c 22)(K:∀b,aU=some b->u ac b=u h b)(I:U<=Y):eW ac Y aI bO i j C l aU where
 at_:=M
 lt:=by have:=W.lt;omega
 hw:=W.hw
 mw:=W.mw
 i8:=W.i8
 vs:=W.vs
 o2:=D.trans W.o2
 c1:=E.trans W.c1
 g3:=B.trans W.g3
 out:=by rw[A];exact W.out.F K
 aU:=λb e=>by have:=W.aU b e;omega
theorem eW.F(W:eW h U aI c i j C l aU)(B:∀b,b=aI\/aU=some b->u ac b=u h b)(A:U<=Y):eW ac Y aI c i j C l aU :=
 W.set ((B aI (.inl rfl)).trans W.at_) rfl rfl rfl rfl ab A
theorem Fi(W:eW h U aI c i j C l aU)(bb:l.length<900)(f:ev):
  aH Q s 213 [bd aI,.agg ⟨d8 f⟩] h U (λr ac Y=>r = .tuple ⟨[]⟩/\∃M E,eW ac Y aI (g9 c 22 M) i j C (l++[{ f with e9:=((i*C+j:Nat):Int) }]) (some E)/\U<=E/\(∀d,d<U->d≠aI->aU≠some d->u ac d=u h d)/\U<=Y):=by
 refine auc ?_;have K:=W.lt;have A:∀{o},u (T h U o) aI=some (.cells (du c) false):=λ{o}=>by rw[aq J];exact W.at_
 obtain⟨eP,no,cX,gv⟩:∃a n bO,c 22 = .slice a n bO:=by
  have:=W.out;generalize c 22=v at this;cases this <;> grind
 unfold ae1 d8;refine xX @A W.o2 W.c1 ?_;refine(EX A W.hw W.mw W.i8 W.vs W.g3).fR ?_;refine xX @A W.at_ @arq ?_;refine xD  (k:=11) (λ_=>rfl) (λ_=>rfl) J (W.out.F λb e=>?_) ({ f with e9:=((i*C+j:Nat):Int) }) (aS _ _ _) rfl J λV D B=>?_
 ·have:=W.aU b e
  grind
 have I:u V aI=some (.cells (du c) false):=(B aI J (λe=>(W.aU aI e).1 rfl)).trans ab;refine Gj @I ?_;refine⟨J,_,U+2,⟨aS _ _ _,J,W.hw,W.mw,W.i8,W.vs,W.o2,W.c1,W.g3,?_,λb e=>?_⟩,J,ab,J⟩
 ·have:=fQ.own  (k:=11) D;rw[jm]at this;rw[xW];exact this.F ab
 grind
end
section
variable {s:al} {h ac:ae} {U Y aI i j C low m N:Nat} {c bO:Nat->X} {l:aa ev} {aU:aw Nat} {k src len round:Int} {bM:aa Int} {S:jb}
theorem WE(W:eW h U aI c i j C l aU)(bb:l.length<900)(P:pi h U (c 6) k src len N bM)(aP:c 2 = (k:X))(ch:c 3 = (N:X))(e6:c 4 = (src:X))(gz:c 5 = (len:X))
  (ap:ja h U (.agg ⟨[c 33,c 34,c 35,c 36,c 37]⟩) low m S) (tI:low+m<=N):
  aH Q s 127 [bd aI,(round:X),.bool false] h U (λr ac Y=>r = .tuple ⟨[]⟩/\∃dN cd,eW ac Y aI (g9 (g9 c 38 (.bool true)) 22 dN) i j C (l++[Cx ((i*C+j:Nat):Int) round (ql k len round m (cz m λi=>S.A (low+i)) (λi=>S.q (low+i)):Int) false]) (some cd)/\U<=cd/\(∀d,d<U->d≠aI->aU≠some d->u ac d=u h d)/\U<=Y):=by
 refine aqT ?_;obtain⟨bu,hG,mV,_⟩:=id P.d;have V:=ap;obtain⟨dp,fB,fg,gZ,fK,ha,ge⟩:=ap;obtain⟨fF,fr,rfl,_⟩:=id fK;obtain⟨gj,fG,rfl,_⟩:=id ha;obtain⟨mu,hW,rfl,_⟩:=id ge;simp only[Value.agg.injEq,xl,vz,ia]at gZ;obtain⟨I,E,LY,M,B⟩:=gZ;have bZ:∀{o aX},aA U h (T (T h U o) U aX):=aK
 have cA:=W.lt;have K:∀{o aX},u (T (T h U o) U aX) aI=some (.cells (du c) false):=λ{o aX}=>(bZ aI cA).trans W.at_;unfold adq;simp(disch:=omega)only[bn,hH,K,aP,ch,e6,gz,mV,I,E,LY,M,B,seval];rw[I,E,LY,M,B]at V;have bp:=P.d;rw[mV]at bp;refine(arp (bp.F  bZ J) P.pl (by have:=P.n60;omega) J (by have:=P.n60;omega) (hf.F V  bZ J) (i7 _ _) (i7 _ _)).cn λh1 bh A D=>?_;have cv:=(A U J).trans (aS _ _ _);have yY:=(A aI J).trans K;refine uI @cv @yY ?_;have ex:∀{o aX} d,d<U->d≠aI->u (T (T h1 U o) aI aX) d=u h d:=λd bp ar=>by rw[aq ar,aq J,A d J];grind
 refine⟨D,(Fi (W.set (bO:=g9 c 38 (.bool true))  ab rfl rfl rfl rfl (λb e=>by have:=W.aU b e;grind) J) bb (Cx 0 round (ql k len round m (cz m λi=>S.A (low+i)) (λi=>S.q (low+i)):Int) false)).mono ?_⟩;rintro _ aL bS ⟨rfl,dN,cd,qK,aT,yr,gA⟩;exact⟨dN,cd,qK,J,ab,J⟩
theorem De:vO Q 83=true:=by kernel_rfl
theorem OJ(W:eW h U aI c i j C l aU):aH Q s 65 [bd aI] h U (fo (l.length:X) U h):=by refine ar9 ?_;unfold adX;have:=W.out.lens;simp(disch:=omega)only[bn,hH,pc De,W.at_,this,seval];exact⟨rfl,rfl,rfl⟩
theorem WF(W:eW h U aI c i j C l aU)(e:c 27 = (y:X)):aH Q s 67 [bd aI] h U (fo (y:X) U h):=by refine akL ?_;unfold ZD;simp(disch:=omega)only[bn,hH,pc De,W.at_,e,seval];exact⟨rfl,rfl,rfl⟩
theorem akT(W:eW h U aI c i j C l aU)(e:c 26 = (y:X)):aH Q s 68 [bd aI] h U (fo (y:X) U h):=by refine aor ?_;unfold abQ;simp(disch:=omega)only[bn,hH,pc De,W.at_,e,seval];exact⟨rfl,rfl,rfl⟩
theorem aiL(W:eW h U aI c i j C l aU):aH Q s 130 [bd aI] h U (fo (((i*C+j:Nat):X)) U h):=by refine akM ?_;unfold ZE;simp(disch:=omega)only[bn,hH,pc De,W.at_,W.o2,W.c1,seval];exact(EX W.at_ W.hw W.mw W.i8 W.vs W.g3).fR ⟨J,rfl,rfl,rfl⟩
theorem aov{f:ev}{p:ku}(W:eW h U aI c i j C l aU)(e:l=f::b6)(bK:mF h U f p)(V:p.lU.length<10000)(eE:p.nw.length<10000):
  aH Q s 61 [bd aI] h U (λr ac Y=>∃A,r = .tuple ⟨[.agg ⟨d8 A⟩,.bool true]⟩/\lo ac U Y A p/\aA U h ac/\U<=Y):=by
 subst e;refine abP ?_;have M:∀{o},aA U h (T h U o):=aK
 obtain⟨b,B,aO,cs,bJ,dN,ec,gv,a6,aZ,lG,_,_⟩:=fQ.tail (k:=11) (λ_=>rfl) J W.out;have aT:=W.aU b gv;have cA:=W.lt;have I:∀{o},eW (T h U o) (U+1) aI c i j C (f::b6) aU:=λ{o}=>W.F ab J;unfold QN;refine aF ?_;refine(OJ I).fR ?_;have D:h0 (some 11) B cs = .ok (.agg ⟨d8 f⟩):=by rw[p6,if_pos J,aZ]
 have au:((((f::b6).length:Nat):Int) == 0)=false:=ab
 simp(disch:=omega)only[bn,hH,au,λo=>(I ).at_,ec,M b aT.2,a6,D,seval];refine(asa (bK.F M J) V eE).mono ?_;rintro _ bB bh ⟨A,rfl,ed,E,K⟩;have q:=(E U J).trans (aS _ _ _);unfold d8;refine bg @q ?_;exact⟨A,rfl,ed.F ab J J,aK,J⟩
theorem aow{f:ev}(W:eW h U aI c i j C l aU)(e:l=f::b6):
  aH Q s 62 [bd aI] h U (λr ac Y=>r = .tuple ⟨[]⟩/\∃A,eW ac Y aI (g9 c 22 A) i j C b6 aU/\(∀d,d≠aI->u ac d=u h d)/\Y=U):=by
 subst e;refine ar7 ?_;obtain⟨b,I,aO,cs,bJ,A,ec,rfl,a6,aZ,K,E,D⟩:=fQ.tail (k:=11) (λ_=>rfl) J W.out;have V:=W.aU b rfl;refine(OJ W).fR ?_;rw[nJ];rw[ec]at E;have M:(0:Int)<((b6.length+1:Nat):Int):=J
 refine zW @M W.at_ @ec @E ?_;have B:dh A=[A]/\gS A=true:=D.cell;refine Gj @B ?_;exact⟨⟨A,⟨ab,W.lt,W.hw,W.mw,W.i8,W.vs,W.o2,W.c1,W.g3,D.F ab,ab⟩,ab⟩,λh=>absurd trivial h⟩
end
structure b5 where
 k:Int
 src:Int
 len:Int
 N:Nat
 R:Nat
 C:Nat
 lim:Nat
 bM:aa Int
 ag:aa GE
structure fV (Z:b5):Prop where
 hD:Z.k=1\/Z.k=2\/Z.k=3\/Z.k=5
 n60:Z.N<=60
 lA:1<=Z.R
 nF:Z.R<=8
 hw:1<=Z.C
 mw:Z.C<=8
 lim:Z.lim<900
 dok:RW Z.bM
 pl:iU Z.k Z.N Z.src Z.len Z.bM=0
 M:g8 Z.N Z.N Z.ag
 w:∀g∈Z.ag,0<=g.w/\g.w<=2147483647
def b5.bv(Z:b5)(i:Nat):Nat:=c8 Z.N Z.R i
def b5.lc(Z:b5)(j:Nat):Nat:=c8 Z.N Z.C j
def b5.H(Z:b5)(i:Nat):Nat:=Z.bv (i+1)-Z.bv i
def b5.W(Z:b5)(j:Nat):Nat:=Z.lc (j+1)-Z.lc j
def b5.cut(Z:b5)(i j:Nat):aa GE:=lE Z.ag (Z.bv i) (Z.H i) (Z.lc j) (Z.W j)
structure j1 (g:ae) (U:Nat) (c:Nat->X) (Z:b5) (i j:Nat):Prop where
 aP:c 2 = (Z.k:X)
 ch:c 3 = (Z.N:X)
 e6:c 4 = (Z.src:X)
 gz:c 5 = (Z.len:X)
 d:cN g U (c 6) c3 Z.bM
 gF:c 7 = (Z.R:X)
 jw:c 9 = (Z.lim:X)
 LZ:∃a cap,c 10 = .slice a 0 cap
 rows:kc g U (.agg ⟨[c 11,c 12,c 13,c 14,c 15]⟩) (Z.H i) (Z.W j) (Z.cut i j)
 l9:∃fj,zM (Z.cut i j) fj/\g8 (Z.W j) (Z.H i) fj/\mE g U (.agg ⟨[c 16,c 17,c 18,c 19,c 20,c 21]⟩) (Z.H i) (Z.W j) fj
section
variable {s:al} {g b8 h ac:ae} {U Y aI i j:Nat} {c bO:Nat->X} {l:aa ev} {aU:aw Nat} {Z:b5}
theorem j1.set(H:j1 g U c Z i j)(A:∀n,2<=n->n<22->bO n=c n):j1 g U bO Z i j:=by
 refine⟨?_,?_,?_,?_,?_,?_,?_,?_,?_,?_⟩
 ·rw[A 2 J J];exact H.aP
 ·rw[A 3 J J];exact H.ch
 ·rw[A 4 J J];exact H.e6
 ·rw[A 5 J J];exact H.gz
 ·rw[A 6 J J];exact H.d
 ·rw[A 7 J J];exact H.gF
 ·rw[A 9 J J];exact H.jw
 ·rw[A 10 J J];exact H.LZ
 ·rw[A 11 J J,A 12 J J,A 13 J J,A 14 J J,A 15 J J];exact H.rows
 ·rw[A 16 J J,A 17 J J,A 18 J J,A 19 J J,A 20 J J,A 21 J J];exact H.l9
theorem j1.F(H:j1 g U c Z i j)(B:aA U g b8)(A:U<=Y):j1 b8 Y c Z i j :=
 { H with d:=H.d.F B A,rows:=H.rows.F B A,l9:=by obtain⟨fj,a,b,d⟩:=H.l9;exact⟨fj,a,b,d.F B A⟩ }
theorem j1.sub(H:j1 g U c Z i j)(S:kU g h):j1 h U c Z i j :=
 { H with d:=uJ H.d S,rows:=H.rows.sub S,l9:=by obtain⟨fj,a,b,d⟩:=H.l9;exact⟨fj,a,b,d.sub S⟩ }
theorem j1.kS(H:j1 g U c Z i j)(K:fV Z):pi g U (c 6) Z.k Z.src Z.len Z.N Z.bM:=⟨H.d,K.dok,K.n60,K.pl,K.hD⟩
theorem xY(K:fV Z)(i:Nat):Z.bv i<=Z.bv (i+1)/\Z.bv (i+1)<=Z.N:=⟨ui J,s6 K.lA _⟩
theorem CP(K:fV Z)(j:Nat):Z.lc j<=Z.lc (j+1)/\Z.lc (j+1)<=Z.N:=⟨ui J,s6 K.hw _⟩
def b5.cl(Z:b5)(i j:Nat):Nat:=js (Z.bv i) (Z.lc j) (Z.lc (j+1))
theorem akU(W:eW h U aI c i j Z.C l aU)(H:j1 h U c Z i j)(K:fV Z)(cY:a<Z.R):
  aH Q s 222 [bd aI,(a:X)] h U (fo (((Z.cl (a+1) j-Z.cl a j:Nat):X)) U h):=by
 refine aou ?_;unfold abT;have M:=K.n60;have B:=K.nF;have A:=K.mw;have V:=W.vs;have D:IntKind.wrap .i64 ((a:Int)+1)=((a+1:Nat):Int):=cG J;have E:IntKind.wrap .i64 ((j:Int)+1)=((j+1:Nat):Int):=cG J;refine xX W.at_ H.ch H.gF ?_;refine(uu J J B J).fR ⟨J,?_⟩;refine xX W.at_ W.g3 W.c1 ?_;refine(uu J J A J).fR ⟨J,?_⟩;refine xX W.at_ H.gF @D ?_;refine(uu J J B J).fR ⟨J,?_⟩;refine zW W.at_ W.g3 W.c1 @E ?_;refine(uu J J A J).fR ⟨J,?_⟩;have h1:=xY K a;have I:=CP K j;unfold b5.cl js b5.bv b5.lc at *
 generalize c8 Z.N Z.R a=yZ at *
 generalize c8 Z.N Z.R (a+1)=aCS at *
 generalize c8 Z.N Z.C j=yU at *
 generalize c8 Z.N Z.C (j+1)=Mn at *
 refine aF ?_;rw[jE J J];exact⟨ab,rfl,rfl⟩
theorem aiM{t:Int}(W:eW h U aI c i j Z.C l aU)(A:∃a cap,c 10 = .slice a 0 cap):aH Q s 224 [bd aI,(t:X)] h U (dC (.agg ⟨[.int .i64 0,.int .i64 0]⟩) U h):=by
 refine akQ ?_;have B:∀{o},aA U h (T h U o):=aK
 have D:∀{o},u (T h U o) aI=some (.cells (du c) false):=λ{o}=>(B aI W.lt).trans W.at_;obtain⟨a,cap,e⟩:=A;unfold ZH;refine awO @D @e ?_;exact⟨λ_=>⟨rfl,aK,J⟩,λh=>absurd h (by decide)⟩
theorem WG{f:ev}{p:ku}{x:Nat->aw Int}(M:mF h U f p)(bb:p.lU=bj n x)(aJ:p.lW=(n:Int))(bH:n<=60):
  aH Q s 221 [.agg ⟨d8 f⟩,(n:X)] h U (λr ac Y=>∃v,r = .tuple ⟨[v,.bool true]⟩/\py ac U Y v n x/\aA U h ac/\U<=Y):=by
 refine akP ?_;have V:∀{o aX},aA U h (T (T h U o) (U+1) aX):=aK
 unfold ZG d8;refine aF ?_;have K:=M.sP;rw[bb]at K;have fW:=l3 n x;refine(BN (K.F  V J) J).mono ?_;rintro HS bB bh ⟨B,D,E⟩;refine⟨E,?_⟩;have g0:=(D U J).trans ((aq J).trans (aS _ _ _));have dt:=(D (U+1) J).trans (aS _ _ _);have cJ:=V.trans D J;obtain⟨bu,hG,rfl⟩:=B.form;simp(disch:=omega)only[bn,g0,iD,M.lW,aJ,seval];refine(vG   ⟨_,rfl,cN.o   (λ_=>rfl) (B.F (d6:=0)  ab J J).gr.rd⟩ J).cn λg2 bX A I=>⟨I,?_⟩
 have gb:=(A bh J).trans (aS _ _ _);have eo:=(A (U+1) J).trans ((aq J).trans ((aq J).trans dt));have gQ:((n:Int) == (n:Int))=true:=ab
 simp(disch:=omega)only[bn,gb,eo,iD,gQ,seval];refine⟨_,rfl,⟨_,rfl,B.F (λb h1 ar=>?_) J J⟩,λb aT=>?_,J⟩
 ·rw[aq J,A b J,aq J,aq J]
 ·rw[aq J,A b J,aq J,aq J];exact cJ b aT
end
section
variable {s:al} {g b8 h ac:ae} {U Y aI i j:Nat} {c bO:Nat->X} {l:aa ev} {aU:aw Nat} {Z:b5}
theorem j1.c11(H:j1 h U c Z i j):c 11 = .int .i64 (Z.H i:Int):=by
 obtain⟨b,D,cap,A,B,e,_⟩:=H.rows
 grind
theorem aiN{v:X}(bV:u h aI=some (.cells (du c) false))(cA:aI<U)(e:c 11 = (n:X))(aJ:ej h U v eL 3 L)(fq:L.length<100000)(dY:L.Pairwise λa b=>a.1<b.1)(bH:∀p∈L,p.1<n):
  aH Q s 228 [bd aI,v] h U (dC (.bool true) U h):=by
 refine akR ?_;unfold ZI;obtain⟨a8,cap,rfl,_⟩:=id aJ;refine aF ?_;refine bD.mk (λm aE ac Y=>∃k last,m=L.length-k/\k<=L.length/\aE=[bd aI,.bool false,.int .i64 last,.slice a8 L.length cap,(L.length:X),(k:X)]/\(∀p∈L.drop k,last<(p.1:Int))/\aA U h ac/\U<=Y) L.length ⟨0,-1,J,J,rfl,J,aK,J⟩ ?_;rintro _ _ ar bX ⟨k,last,rfl,hk,rfl,V,A,D⟩;rw[aiI];unfold WA;refine aF ?_;refine⟨λDd=>?_,λeN=>⟨rfl,A,D⟩⟩;obtain⟨p,bk⟩:=d1   J;obtain⟨b,I,aO,bJ,sh,mC,aT,aV,a6,E⟩:=(aJ.F A D).ld (λ_=>rfl) bk;cases aV;have bp:L.drop k=p::L.drop (k+1):=by
  have B:k<L.length:=J
  rw[Bw B]
  grind
 have h1:=V p ab;have K:=bH p (k4 bk);have M:∀{o I},u (T (T ar bX o) bX I) aI=some (.cells (du c) false):=λ{o I}=>by rw[aq J,aq J];exact(A aI cA).trans bV
 rw[show eL p=[(p.1:X),.int .i64 (p.2 / 18446744073709551616),.int .u64 (p.2 % 18446744073709551616)]from rfl]at E;refine Kr @a6 @E @M @e (cG (J:k<1000000000000)) ?_;refine⟨λh=>absurd h1 J,λ_=>⟨λh=>absurd K J,λ_=>⟨_,J,k+1,(p.1:Int),rfl,J,rfl,λq cM=>?_,aK,J⟩⟩⟩;have uZ:(L.drop k).Pairwise λa b=>a.1<b.1:=ab
 rw[bp,t7]at uZ
 grind
end
theorem aox{s:al}{f:Int}{v:X}{x:Nat->aw Int}{h:ae}{U:Nat}(aJ:jQ h U v n x)(bH:n<=63):aH Q s 226 [(f:X),v] h U (λr ac Y=>vZ ac Y r n x/\aA U h ac/\U<=Y):=by
 refine aqe ?_;have E:=aJ;have fW:=l3 n x;obtain⟨gK,rfl,ap⟩:=aJ;obtain⟨cC,k1,rfl,_⟩:=id ap;have bZ:∀{o eX},aA U h (T (T h U o) (U+1) eX):=aK
 unfold acS;refine aF ?_;refine(vG (E.F  bZ J) J).cn λbB bh D fy=>?_;have I:=(D U J).trans ((aq J).trans (aS _ _ _));have M:=(D (U+1) J).trans (aS _ _ _);have cJ:=bZ.trans D J;unfold Oi;refine bg @I ?_;refine(akG  J).mono ?_;rintro w _ _ ⟨bV,gd,ez⟩;rw[gd,ez];rcases bV with rfl|rfl
 ·refine bg @I ?_;refine(BN (ap.F  cJ J) J).mono ?_;rintro e1 g2 bX ⟨dI,A,B⟩;refine⟨B,?_⟩;have gb:=(A U J).trans I;have K:=(A (U+1) J).trans M;obtain⟨bQ,hr,rfl⟩:=dI.form;simp(disch:=omega)only[bn,gb,K,I,iD,seval];exact⟨.inl ⟨_,rfl,cN.o   (λ_=>rfl) (dI.F  ab J J).gr.rd⟩,aK,J⟩
 ·refine bg @I ?_;refine(adS (E.F  cJ J) bH).mono ?_;rintro eR g2 bX ⟨Bi,A,B⟩;have K:=(A (U+1) J).trans M;obtain⟨fg,dp,rfl,V,fG⟩:=Bi;obtain⟨eP,cX,rfl,_⟩:=id V;obtain⟨bz,pT,rfl,_⟩:=id fG;refine bg @K ?_;exact⟨.inr ⟨_,_,rfl,(V.F  ab J J).rd,cN.o (λ_=>rfl) (fG.F  ab J J).rd⟩,aK,J⟩
structure sB (h:ae) (ao aj:Nat) (f:ev) (p:ku):Prop where
 kind:f.kind=p.kind
 e9:f.e9=p.e9
 lI:f.lI=p.lI
 round:f.round=p.round
 lW:f.lW=p.lW
 sP:eH h ao aj (.slice f.bu f.n6 f.hG) fD p.lU
 t4:eH h ao aj (.slice f.ba f.n7 f.i2) eL p.nw
 n8:f.n8=0
 n:f.n=p.n
 nW:f.nW=p.nW
section
variable {h ac:ae} {ao aj d6 dy:Nat} {f:ev} {p:ku}
theorem sB.is(H:sB h ao aj f p):mF h aj f p:=⟨H.kind,H.e9,H.lI,H.round,H.lW,cN.o   (λ_=>rfl) H.sP.rd,cN.o   (λ_=>rfl) H.t4.rd,H.n8,H.n,H.nW⟩
theorem sB.F(H:sB h ao aj f p)(B:∀b,ao<=b->b<aj->u ac b=u h b)(D:d6<=ao)(A:aj<=dy):sB ac d6 dy f p:={ H with sP:=eH.F H.sP B D A,t4:=eH.F H.t4 B D A }
theorem wc{az:Type}{enc:az->aa X}:eH h ao aj (.slice none 0 0) enc ([]:aa az):=⟨_,_,rfl,λh=>absurd rfl h⟩
end
section
variable {s:al} {g b8 h ac:ae} {U Y aI i j:Nat} {c bO:Nat->X} {l:aa ev} {aU:aw Nat} {Z:b5}
theorem j1.awP(H:j1 h U c Z i j):(∃I K gk B E M A D V,c 11 = .int .i64 (Z.H i:Int)/\c 12 = .int .i64 (Z.W j:Int)/\c 13 = .slice I K gk/\c 14 = .slice B E M/\c 15 = .slice A D V) /\
  ∃I K gk B E M A D V aY dH sH,c 16 = .int .i64 (Z.H i:Int)/\c 17 = .int .i64 (Z.W j:Int)/\c 18 = .slice I K gk/\c 19 = .slice B E M/\c 20 = .slice A D V/\c 21 = .slice aY dH sH:=by
 constructor
 ·obtain⟨b,aO,n,B,E,c2,A,D,ci,e⟩:=H.rows.form
  grind
 ·obtain⟨fj,_,_,aZ⟩:=H.l9;obtain⟨I,K,c1,B,E,c2,A,D,ci,aY,dH,hF,e⟩:=aZ.form
  grind
theorem awQ(K:fV Z):∀g∈Z.cut i j,0<=g.w/\g.w<=2147483647:=λg B=>by obtain⟨b8,A,rfl⟩:=f0.1 B;exact K.w b8 ab
theorem adY(K:fV Z):g8 (Z.H i) (Z.W j) (Z.cut i j):=by have B:=xY K i;have A:=CP K j;exact JK K.M (by unfold b5.H;omega) (by unfold b5.W;omega)
theorem RY(K:fV Z)(j:Nat):Z.W j<=60:=by have:=CP K j;have:=K.n60;unfold b5.W;omega
theorem agr(K:fV Z)(i:Nat):Z.H i<=60:=by have:=xY K i;have:=K.n60;unfold b5.H;omega
theorem akV{r I K db i3 E V B M hE sG vj D ct cB A de ep:X}:((q5 (pk [(6,6,.agg ⟨[V,B,M,hE,sG,vj]⟩),(12,6,.agg ⟨[D,ct,cB,A,de,ep]⟩),(19,1,.bool true),(20,1,.int .i64 0)]) 1 5 [I,K,db,i3,E]
  [r,.int .i64 0,.int .i64 0,.slice none 0 0,.slice none 0 0,.slice none 0 0,.int .i64 0,.int .i64 0,.slice none 0 0,.slice none 0 0,.slice none 0 0,.slice none 0 0,.int .i64 0,.int .i64 0,.slice none 0 0,.int .i64 0,.slice none 0 0,.slice none 0 0,.slice none 0 0,.bool false,.int .i64 0]).bind λl=>.ok (Value.agg ⟨l⟩)) =
  .ok (.agg ⟨[r,I,K,db,i3,E,V,B,M,hE,sG,vj,D,ct,cB,A,de,ep,.slice none 0 0,.bool true,.int .i64 0]⟩):=rfl
theorem ahG{f:ev}{p:ku}{t:Nat}{x:Nat->aw Int}(K:fV Z)(W:eW h U aI c i j Z.C l aU)(H:j1 h U c Z i j)(bb:l.length<900)(bK:mF h U f p)(ck:t<900)(ik:p.lU=bj (Z.W j) x)(ec:p.lW=(Z.W j:Int))(ms:p.round=(t:Int))(rC:c 25 = (t:X))(aj:i<Z.R)(a1:∀i y,x i=some y->0<=y/\y<=er):
  aH Q s 134 [bd aI,.agg ⟨d8 f⟩,.agg ⟨[.int .i64 0,(j:X)]⟩] h U (λr ac Y=>r = .bool true/\∃dN cd ks,eW ac Y aI (g9 (g9 c 25 (((t+1:Nat):X))) 22 dN) i j Z.C (l++[ks]) (some cd) /\
   sB ac U cd ks ⟨3,((i*Z.C+j:Nat):Int),((i*Z.C+0:Nat):Int),t,0,[],bj (Z.H i) (ip (fb Z.k t) (Z.cut i j) x),0,false⟩/\U<=cd/\(∀d,d<U->d≠aI->aU≠some d->u ac d=u h d)/\U<=Y):=by
 refine aiF ?_;have cA:=W.lt;have bZ:∀{o aX},aA U h (T (T h U o) (U+1) aX):=aK
 have oS:∀{o aX},u (T (T h U o) (U+1) aX) aI=some (.cells (du c) false):=λ{o aX}=>(bZ aI cA).trans W.at_;obtain⟨⟨aB,bh,gk,a2,E,hu,a3,bS,o1,f11,TM,f13,f14,f15⟩,dE,m1,dQ,b4,m2,dB,dZ,m3,jz,fA,m4,ly,f16,f17,f18,f19,f20,f21⟩:=H.awP;unfold XJ d8;refine uI @oS @TM ?_;refine(WG   (bK.F  bZ J) ik ec (RY K j)).mono ?_;rintro _ bB cp ⟨v,rfl,lz,B,fy⟩;refine⟨fy,?_⟩;have cJ:=bZ.trans B J;have g0:=(B U J).trans ((aq J).trans (aS _ _ _));have dt:=(B (U+1) J).trans (aS _ _ _);have Ms:=(B aI J).trans oS;obtain⟨gK,rfl,wR⟩:=lz;obtain⟨cC,k1,rfl⟩:=wR.form;have gQ:∀{y:Int},((y == y):al)=true:=ab
 have D:f.round=(t:Int):=bK.round.trans ms;simp(disch:=omega)only[bn,hH,g0,dt,Ms,W.c1,rC,D,gQ,seval];unfold EJ;have p0:∀{o},eW (T (T bB cp o) cp (.cells [.int .i64 (Z.W j:Int),.slice cC (bj (Z.W j) x).length k1] false)) (cp+1) aI c i j Z.C l aU:=λ{o}=>W.F (λd bp=>by have SB:d<U:=bp.elim J λe=>(W.aU d e).2;rw[aq J,aq J];exact cJ d SB) J
 refine uI @g0 @D ?_;refine(aiM p0 H.LZ).cn λg2 E A eZ=>?_;have aAO:u g2 cp=_:=(A cp J).trans (aS _ _ _);have I:u g2 aI=some (.cells (du c) false):=(A aI J).trans p0.at_;have M:u g2 U=_:=(A U J).trans ((aq J).trans ((aq J).trans g0));refine Kr @aAO @I @M H.aP @D ?_;refine(OH K.hD J).fR ⟨J,?_⟩;simp(disch:=omega)only[bn,hH,aAO,I,M,iD,seval];have eA:∀{o aX},aA U h (T (T g2 E o) E aX):=aK
 have hVo:∀{o aX},jQ (T (T g2 E o) E aX) (E+1) (.agg ⟨[.int .i64 (Z.W j:Int),.slice cC (bj (Z.W j) x).length k1]⟩) (Z.W j) x:=λ{o aX}=>⟨_,rfl,cN.o   (λ_=>rfl) (wR.F (d6:=0)  (λb h1 ar=>by rw[aq J,aq J,A b J,aq J,aq J]) J J).gr.rd⟩
 refine(aox hVo (by have:=RY K j;omega)).mono ?_;rintro aJ dL dH ⟨fJ,V,ir⟩;refine⟨ir,?_⟩;have gR:aA U h dL:=eA.trans V J;have hH0:=fJ;obtain⟨ct,cB,aV,jl,eX,co,aP,z2,dO,ch,z3,fZ,rfl⟩:=fJ.form;have ss:u dL aI=some (.cells (du c) false):=(gR aI cA).trans W.at_;have UW:u dL E=some (.cells [.int .i64 0,.int .i64 0] false):=(V E J).trans (aS _ _ _);have lp:u dL U=_:=(V U J).trans ((aq J).trans ((aq J).trans M));simp(disch:=omega)only[bn,hH,ss,UW,I,f11,TM,f13,f14,f15,f16,f17,f18,f19,f20,f21,iD,seval];rw[akV];refine aF ?_;have dW:=H.rows;obtain⟨fj,eF,TN,hCo⟩:=H.l9;rw[f11,TM,f13,f14,f15]at dW;rw[f16,f17,f18,f19,f20,f21]at hCo;have TO:∀{o aX},aA U h (T (T dL dH o) dH aX):=(gR.set J).set J;refine(aop     ⟨PP K.hD,adY K,TN,eF,by have:=RY K j;omega,awQ K,a1,_,_,_,_,rfl,dW.F  TO J,hCo.F  TO J,hH0.F (((aA.refl _ _).set (cD _)).set (cD _)) J⟩).mono ?_;rintro _ gc fT ⟨z,y,rfl,dI,hq,oJ⟩;have mW:aA U h gc:=TO.trans hq J;have aB0:u gc aI=some (.cells (du c) false):=(mW aI cA).trans W.at_;have kJ:u gc U=_:=(hq U J).trans ((aq J).trans ((aq J).trans lp));have D3:IntKind.wrap .i64 ((t:Int)+1)=((t+1:Nat):Int):=cG J;obtain⟨lw,UK,rfl,_⟩:=id dI;refine zW @aB0 @rC @D3 W.o2 ?_;have nG:eW (T gc aI (.cells (du (g9 c 25 (((t+1:Nat):X)))) false)) fT aI (g9 c 25 (((t+1:Nat):X))) i j Z.C l aU:=W.set (aS _ _ _) rfl rfl rfl rfl (λb e=>by have:=W.aU b e;rw[aq this.1];exact mW b this.2) J
 refine(EX  (j:=0) nG.at_ W.hw W.mw W.i8 (by have:=K.hw;omega) nG.g3).fR ⟨cD _,?_⟩;simp(disch:=omega)only[bn,kJ,D,iD,seval];refine(Fi nG bb ⟨3,0,((i*Z.C+0:Nat):Int),0,(t:Int),0,none,0,0,lw,(bj (Z.H i) (ip (fb Z.k t) (Z.cut i j) x)).length,UK,none,0,0,0,false⟩).mono ?_;rintro _ qJ n7 ⟨rfl,dN,cd,H3,hh,vb,uP⟩;have cU:∀d,U<=d->aU≠some d:=λd bp e=>by have:=W.aU d e;omega
 refine⟨uP,dN,cd,_,H3,⟨rfl,rfl,rfl,rfl,rfl,wc,eH.F dI (λd h1 ar=>?_) J J,rfl,rfl,rfl⟩,J,λd h1 ar aL=>?_,J⟩
 ·grind
 ·rw[vb d J ar aL,aq ar];exact mW d h1
end
def kB(h:ae)(ao aj:Nat):aa ev->aa ku->Prop
 | [],[]=>True
 |f::ds,p::cb=>sB h ao aj f p/\kB h ao aj ds cb
 |_,_=>False
section
variable {h ac:ae} {ao aj d6 dy:Nat}
theorem kB.F(B:∀b,ao<=b->b<aj->u ac b=u h b)(D:d6<=ao)(A:aj<=dy):∀{ds cb},kB h ao aj ds cb->kB ac d6 dy ds cb
 | [],[],_=>trivial
 |_::_,_::_,H=>⟨H.1.F B D A,kB.F B D A H.2⟩
 | [],_::_,H=>H.elim
 |_::_,[],H=>H.elim
theorem kB.app:∀{ds cb gs H0},kB h ao aj ds cb->kB h ao aj gs H0->kB h ao aj (ds++gs) (cb++H0)
 | [],[],_,_,_,G=>G
 |_::_,_::_,_,_,H,G=>⟨H.1,kB.app H.2 G⟩
 | [],_::_,_,_,H,_=>H.elim
 |_::_,[],_,_,H,_=>H.elim
theorem kB.len:∀{ds cb},kB h ao aj ds cb->ds.length=cb.length
 | [],[],_=>rfl
 |_::_,_::_,H=>by rw[nJ,nJ,kB.len H.2]
 | [],_::_,H=>H.elim
 |_::_,[],H=>H.elim
theorem kB.is:∀{ds cb},kB h ao aj ds cb->qm h aj ds cb
 | [],[],_=>trivial
 |_::_,_::_,H=>⟨H.1.is,kB.is H.2⟩
 | [],_::_,H=>H.elim
 |_::_,[],H=>H.elim
end
def J5(Z:b5)(i t:Nat)(x:Nat->aw Int)(j:Nat):ku:=⟨1,((i*Z.C+0:Nat):Int),(j:Int),(t:Int),((Z.cl (i+1) j-Z.cl i j:Nat):Int),bj (Z.cl (i+1) j-Z.cl i j) (λk=>x (Z.cl i j+k)),[],0,false⟩
theorem RZ{A:Nat}(D:q3 Q A=true){h:ae}{U r:Nat}(B:u h r=some (.map es cE)):pd Q .clear [A] h U [.map (some r)] = .ok (.val jP (T h r (.map [] cE)) U):=by show(bif q3 Q A||mY Q A then FM Q A h U (.map (some r))else .no "clear")=_;rw[D];show kQ h r _=_;unfold kQ;rw[B]
theorem awR:q3 Q 172=true:=by kernel_rfl
def BeJ(aI i C bh U t:Nat)(Z:b5)(x:Nat->aw Int)(c:Nat->X)(l:aa ev)(aU:aw Nat)(h jh:ae)(m:Nat)(aE:aa X)(ac:ae)(Y:Nat):Prop :=
 ∃H4 bO gJ ds B,m=C-H4/\H4<=C/\aE=[bd aI,bd bh,(C:X),(H4:X)]/\(∀n,n≠22->bO n=c n)/\eW ac Y aI bO i 0 C (l++ds) gJ /\
  kB ac U B ds ((List.range H4).map (J5 Z i t x))/\bh+1<=B/\B<=Y/\(∀b,gJ=some b->aU=some b\/B<=b)/\(0<H4->∃b,gJ=some b/\B<=b)/\(∀d,U<=d->d<=bh->u ac d=u jh d)/\(∀d,d<U->d≠aI->aU≠some d->u ac d=u h d)
section
variable {s:al} {g b8 h ac:ae} {U Y aI i j:Nat} {c bO:Nat->X} {l:aa ev} {aU:aw Nat} {Z:b5}
theorem aiO{r M:Nat}{S:jb}(K:fV Z)(W:eW h U aI c i 0 Z.C l aU)(H:j1 h U c Z i 0)(bb:l.length+Z.C<900)(aj:i<Z.R)(ap:ja h U (.agg ⟨[c 28,c 29,c 30,c 31,c 32]⟩) (Z.bv i) (Z.H i) S)(DR:c 26 = (r:X))(a5:r<900)(mn:c 41 = .map (some M))(bl:u h M=some (.map es cE))(V:M<U/\M≠aI/\aU≠some M):
  aH Q s 232 [bd aI] h U (λnz ac Y=>nz = .tuple ⟨[]⟩/\∃bO cd ds,(∀n,n≠22->n≠40->bO n=c n)/\bO 40 = .slice none 0 0/\eW ac Y aI bO i 0 Z.C (l++ds) (some cd) /\
   kB ac U cd ds ((List.range Z.C).map (J5 Z i (r+1) (qo Z.k (iu Z.bM Z.N (r / 2)) (r+1) S)))/\U<=cd/\u ac M=some (.map [] cE)/\(∀d,d<U->d≠aI->d≠M->aU≠some d->u ac d=u h d)/\U<=Y):=by
 refine akS ?_;have cA:=W.lt;have nY:=ap;obtain⟨dp,fB,fg,gZ,fK,ha,ge⟩:=ap;obtain⟨fF,fr,rfl,_⟩:=id fK;obtain⟨gj,fG,rfl,_⟩:=id ha;obtain⟨mu,hW,rfl,_⟩:=id ge;simp only[Value.agg.injEq,xl,vz,ia]at gZ;obtain⟨wS,vf,tL,iz,ga⟩:=gZ;rw[wS,vf,tL,iz,ga]at nY;obtain⟨a8,gM,mV,_⟩:=id H.d;have ms:IntKind.wrap .i64 ((r:Int)+1)=((r+1:Nat):Int):=cG J;have gL:=H.kS K;rw[mV]at gL;have yw:=xY K i;unfold ZJ;simp(disch:=omega)only[bn,hH,W.at_,H.aP,H.ch,H.e6,H.gz,mV,wS,vf,tL,iz,ga,DR,ms,seval];refine(ar4  gL nY (by unfold b5.H;omega) J J).mono ?_;rintro A7 D bh ⟨lz,d9,fy⟩;refine⟨fy,?_⟩;rw[show(r+1-1) / 2=r / 2 from rfl]at lz;obtain⟨gK,rfl,wR⟩:=lz;obtain⟨cC,k1,rfl⟩:=wR.form;have dc:u D aI=some (.cells (du c) false):=(d9 aI cA).trans W.at_;refine uI @dc W.g3 ?_;generalize w9:qo Z.k (iu Z.bM Z.N (r / 2)) (r+1) S=eb at wR ⊢;generalize LQ:T (T D bh _) bh _=jh;have UX:u jh bh=some (.cells [.int .i64 (Z.H i:Int),.slice cC (bj (Z.H i) λk=>eb (Z.bv i+k)).length k1] false):=ab
 have cU:∀d,U<=d->aU≠some d:=λd bp e=>by have:=W.aU d e;omega
 have t0:aA U h jh:=aK
 refine bD.mk (BeJ aI i Z.C bh U (r+1) Z eb c l aU h jh) Z.C ⟨0,c,aU,[],bh+1,J,J,rfl,ab,by rw[hZ];exact W.F (λd bp=>t0 d ab) J,trivial,J,J,ab,λh=>absurd h J,ab,λd bp _ _=>t0 d bp⟩ ?_;rintro _ _ A bX ⟨I,c2,L0,ds,B,rfl,b1,rfl,qu,E,g1,u6,rD,ni,ayK,ei,rn⟩;rw[aiK];unfold WC;have UY:=(ei bh J J).trans UX;have ez:(ds.length:Nat)=I:=by rw[g1.len,gH,vx]
 have hX:c2 2=c 2/\c2 3=c 3/\c2 7=c 7/\c2 26=c 26/\c2 41=c 41:=ab
 obtain⟨aCT,aB1,aB2,j26,j41⟩:=hX;refine aF ?_;refine⟨λDd=>?_,λeN=>?_⟩
 ·simp(disch:=omega)only[bn,hH,UY,E.at_,aB1,H.ch,aB2,H.gF,E.g3,E.o2,seval];have hVF:py A U bX (.agg ⟨[.int .i64 (Z.H i:Int),.slice cC (bj (Z.H i) λk=>eb (Z.bv i+k)).length k1]⟩) (Z.H i) (λk=>eb (Z.bv i+k)):=⟨_,rfl,wR.F ab J J⟩
  have bH:=K.n60;refine(akw  J K.lA K.nF K.hw K.mw aj J hVF).mono ?_;rintro aE aL bS ⟨dI,e8,gA⟩;refine⟨gA,?_⟩;have AB:=(e8 aI E.lt).trans E.at_;obtain⟨vsi,rfl,hSi⟩:=dI;obtain⟨aB3,aB4,rfl,_⟩:=id hSi;refine zW @AB @j26 @DR @ms ?_;have qK:∀{o aX},eW (T (T aL bS o) bS aX) (bS+1) aI c2 i 0 Z.C (l++ds) L0:=λ{o aX}=>E.F (λd bp=>by have:d<bX:=bp.elim J λe=>(E.aU d e).2;rw[aq J,aq J];exact e8 d this) J
  refine(Fi qK ab ⟨1,0,(I:Int),0,((r+1:Nat):Int),((Z.cl (i+1) I-Z.cl i I:Nat):Int),aB3,(bj (Z.cl (i+1) I-Z.cl i I) λk=>eb (Z.cl i I+k)).length,aB4,none,0,0,none,0,0,0,false⟩).mono ?_;rintro _ bm dH ⟨rfl,dN,cd,Mt,hh,AP,ir⟩;refine⟨ir,?_⟩;refine bg (cG (J:I<1000000000000)) ?_;have u3:∀d,U<=d->d<B->L0≠some d:=ab
  have nb3:∀d,bX<=d->L0≠some d:=λd D e=>by have:=E.aU d e;omega
  have e6:∀d,d<bX->d≠aI->L0≠some d->u bm d=u A d:=λd D A aL=>by rw[AP d J A aL,aq J,aq J];exact e8 d D
  refine⟨_,J,I+1,_,some cd,ds++[_],bS+1,rfl,J,rfl,λn bH=>?_,by rw[<-kv];exact Mt,?_,J,J,λb e=>.inr ab,λ_=>⟨cd,rfl,J⟩,λd D A=>?_,λd D A aL=>?_⟩
  ·rw[dF bH];grind
  ·rw[p4,iF];refine(g1.F (λb D A=>e6 b J J (u3 b D A)) (cD _) J).app ⟨⟨rfl,rfl,rfl,rfl,rfl,?_,wc,rfl,rfl,rfl⟩,trivial⟩;exact eH.F hSi (λb D A=>by rw[AP b J J (nb3 b J),aq J,aq J]) J J
  all_goals grind
 ·have:I=Z.C:=J
  subst this;obtain⟨cd,rfl,hh⟩:=ayK (by have:=K.hw;omega);have nZ:u A M=some (.map es cE):=(rn M V.1 V.2.1 V.2.2).trans bl;have hw5:∀{o},u (T A M o) aI=some (.cells (du c2) false):=λ{o}=>by rw[aq (kw V.2.1)];exact E.at_
  simp(disch:=omega)only[bn,hH,E.at_,j41,mn,RZ awR nZ,dX,hw5,seval];refine⟨_,cd,ds,λn D A=>by rw[dF A];grind,xW,E.set (aS _ _ _) rfl rfl rfl rfl (λb e=>ab) (cD _),(g1.F (λb D A=>ab) (cD _) hh),J,λd D A aL bm=>ab,J⟩
end
end Go.Proofs.YthlhhajnbgjfmaaGreat
