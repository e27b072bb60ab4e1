/- Parts of the proof: HwFn6: each statement bears its own conditions. -/
import Derived.Test.YthlhhajnbgjfmaaGreatHwFn5
namespace Go.Proofs.YthlhhajnbgjfmaaGreat
open Go Go.Ax Go.Ax.HdH
set_option linter.all false
set_option maxHeartbeats 1000000
set_option maxRecDepth 1000000
variable {ag:ac GE} {n:Nat} {L:ac (Nat × Int)} {fl:ac GE} {r:Int} {aC:X} {dC so:ay Nat} {fG:ac (Nat × Int)} {R:Nat} {q:Nat × Int->ao} {es:ac MapEntry} {y:Int} {aM:aQ} {bC cs:ac X} {a:Nat} {w:X} {cV:ac eC} {b7:Nat} {cH:X} {cL z eL:Nat}
theorem vf.aBS{h ab:ae}{A:ac X}{W:ac eW}{I:X}(H:vf h b7 bC W dC)(E:u h b7=some (.cells (I::bC) false))(B:u ab b7=some (.cells (I::A) false))(K:∀b,dC=some b->u ab b=u h b):vf ab b7 A W dC:=by
 rcases H with⟨aW,V,D⟩|⟨b,M,cap,cs,e,w⟩
 ·rw[E]at D;cases D;exact .inl aa
 ·have:=w.cell;rw[E]at this;cases this;exact .inr ⟨b,M,cap,cs,e,⟨B,(K b e).trans w.ct,w.len,w.Hg,w.ne⟩⟩
theorem nc.hH{h:ae}{v:X}{l:ac (Nat × Int)}{aY:ay Nat}(H:nc h v l aY):fu h eP 3 v l aY:=by
 rcases H with⟨rfl,rfl,rfl⟩|⟨b,rfl,rfl,A⟩
 ·exact .nil
 ·exact .own A
theorem apm{s:ao}{h:ae}{U al:Nat}{W:ac eW}(ba:ob r)(H:GP h U al b7 r W fG dC)(t7:b7<U)(rC:al<=b7)(vq:al<=U)(br:W.length<900)(kn:fG.length<100000)(jM:W≠[])(tS:(∀p∈fG,0<=p.2/\p.2<=eS)/\∀p∈left W,0<=p.2/\p.2<=eS):
  aD Q s 330 [bb b7] h U (λ_ ab Y=>∃p M dr rS,(p::M).Perm (left W)/\(∀q∈left W,p.1<=q.1)/\GP ab Y al b7 r dr (qK r fG p) rS/\(left dr).Perm M/\dr.length<=W.length/\U<=Y/\(∀c,c<al->u ab c=u h c)):=by
 refine aro ?_;unfold adK;obtain⟨out,aY,hHp,af5,Sq,hOw,rD,nB⟩:=H;rcases hHp with⟨_,aq,_⟩|⟨b,aO,cap,cs,rfl,w⟩
 ·exact absurd aq jM
 obtain⟨p,bn⟩:=dW (l:=W) (i:=0) aa;have gT:=(g0.1 bn).1;have E:=Sq p aa;have Ds:=rD b rfl;have fk:=w.ne;have Dx:=E.ok.cell;have w0:c7 p.v=[p.v]:=by obtain⟨_,_,_,_,_,_,_,h1,_⟩:=E.ok;rw[h1];rfl
 have rH:=Kc (cs:=cs) bn;rw[mb]at rH;refine Rv w.cell w.ct @rH @Dx @w0 ?_;have bH:aA U h (T (T h U (.cells [.slice none 0 0,.int .i64 0] false)) U (.cells [p.v,(p.w:X)] false)):=aF
 have aBT:u (T (T h U (.cells [.slice none 0 0,.int .i64 0] false)) U (.cells [p.v,(p.w:X)] false)) U=some (.cells [p.v,(p.w:X)] false):=aa
 generalize T (T h U (.cells [.slice none 0 0,.int .i64 0] false)) U (.cells [p.v,(p.w:X)] false)=aq at bH aBT ⊢;have gb:=Gz w bH Ds.2 t7;have al0:pH aq al W:=Sq.F λc a5=>bH c J;refine(atg  gb J Ds.1 J rC J J af5 al0.ok bn).mono ?_;rintro _ h1 bg ⟨cs1,nO,de,Md,Ud,fa,dv⟩;have Ue:=(dv U J J J).trans aBT;have ahb:y6 h1 al p:=E.F λc a5=>(dv c J J J).trans (bH c J);have al1:pH h1 al nO:=λx aX=>(al0 x (Ud.mem_iff.1 (nT _ aX))).F λc a5=>dv c J J J;obtain⟨q,cV,Uf⟩:∃q cV,p.l=q::cV:=by
  cases fo:p.l with
  |nil=>exact absurd fo E.2.1
  |cons q cV=>grind
 obtain⟨d2,gu,sp3,HE,Bb,aBn,pR,cy,sG,axZ⟩:=ahb.1.o.all (λ_=>rfl) E.2.1;have K9:=(axZ 0 q aa).1;rw[mb,mM]at K9;have ax0:p.l.length=cV.length+1:=aa
 have K:=ahb.1;rw[Uf]at K;obtain⟨aD2,etw,htw⟩:=mx.tail  (k:=3) (λ_=>rfl) K;rw[ax0]at cy;rw[cy]at Ue etw;simp(disch:=omega)only[bk,↓reduceIte,Nat.reduceAdd,Nat.reduceSub,Nat.reduceMul,Nat.reduceLT,Nat.reduceLeDiff,Nat.reduceEqDiff,Int.reduceBEq,Int.reduceLT,Int.reduceNeg,Ue,sG,K9,show c7 (.agg ⟨eP q⟩)=[(q.1:X),.int .i64 (q.2 / 18446744073709551616),.int .u64 (q.2 % 18446744073709551616)]from rfl];rw[etw];refine mf @Ue ?_;obtain⟨ap,Ug⟩:∃ap,ap=T (T h1 bg (.cells [.int .i64 0,.int .i64 0,.int .u64 0] false)) bg (.cells [(q.1:X),.int .i64 (q.2 / 18446744073709551616),.int .u64 (q.2 % 18446744073709551616)] false):=⟨_,rfl⟩
 have ey:aA bg h1 ap:=by rw[Ug];exact((aA.refl _ _).set (cR _)).set (cR _)
 have G20:u ap bg=some (.cells [(q.1:X),.int .i64 (q.2 / 18446744073709551616),.int .u64 (q.2 % 18446744073709551616)] false):=aa
 rw[<-Ug];clear Ug;have ahc:=E.2.2.2.2;rw[Uf]at ahc;have o0:=uz.1 ahc;have rA:nO.length+1=W.length:=by rw[<-Ud.length_eq];rfl
 refine(acv    (.inr ⟨b,aO,cap,cs1,rfl,Gz de ey J J⟩) (λD e=>aa) J rC J J Md (al1.F λc a5=>ey c J) (htw.F (λc a5=>ey c J) (cR _)) E.2.2.1 o0.2).mono ?_;rintro _ aH b1 ⟨qe,xo,dj,⟨nb,Uh,yR,Ui⟩,azR,fx,dM⟩;refine⟨fx,?_⟩;have aC8:∀c,c<U->c≠b->c≠b7->u aH c=u h c:=λc c1 c2 cm=>by rw[dM c J cm (λe=>aa),ey c J,dv c J c2 cm,bH c c1]
 have Uj:u aH bg=some (.cells [(q.1:X),.int .i64 (q.2 / 18446744073709551616),.int .u64 (q.2 % 18446744073709551616)] false):=(dM bg J J (λe=>aa)).trans G20;have ahd:nc aH out fG aY:=hOw.F λD e=>aa
 have ahe:pH aH al qe:=Ui aH λc a5=>dM c J J (λe=>aa);have vz:(q::(cV++left nO)).Perm (left W):=by
  have:=X6 Ud;unfold left at this ⊢
  grind
 have ahf:∀kG∈left W,q.1<=kG.1:=λkG Mb=>by
  obtain⟨x,aX,hqx⟩:=List.mem_flatMap.1 Mb;have LC:=Sq x aX;have hpk:p.k<=x.k:=n2.min af5 bn x aX;obtain⟨hd,MG,hlx⟩:∃hd MG,x.l=hd::MG:=by
   cases fo:x.l with
   |nil=>grind
   |cons q cV=>grind
  have aW:p.k=(q.1:Int)*1000+(p.w:Int):=by rw[E.2.2.2.1];show(((p.l.getD 0 (0,0)).1:Nat):Int)*1000+(p.w:Int)=_;rw[Uf];rfl
  have aP:x.k=(hd.1:Int)*1000+(x.w:Int):=by rw[LC.2.2.2.1];show(((x.l.getD 0 (0,0)).1:Nat):Int)*1000+(x.w:Int)=_;rw[hlx];rfl
  have hxw:=LC.2.2.1;have hsx:=LC.2.2.2.2;rw[hlx]at hsx hqx;have dx:hd.1<=kG.1:=by
   rcases hD.1 hqx with rfl|h
   ·omega
   ·exact Nat.le_of_lt ((uz.1 hsx).1 kG h)
  omega
 obtain⟨hZ,A⟩:∃hZ,u aH b7=some (.cells [hZ,(r:X),out] false):=by
  rcases dj with⟨_,_,a5⟩|⟨_,_,_,_,_,aC9⟩
  ·grind
  ·exact⟨_,aC9.cell⟩
 have azS:∀D,xo=some D->al<=D/\D<b1:=λD e=>aa
 have hkl:∀c,c<al->u aH c=u h c:=λc a5=>aC8 c J J J;have HP:(left qe).Perm (cV++left nO):=Uh.trans List.perm_append_comm;have hLW:qe.length<=W.length:=J
 have aBo:∀D,aY=some D->xo≠some D:=λD e aP=>aa
 have azT:∀D,aY=some D->al<=D/\D<b1/\D≠b7/\xo≠some D:=λD e=>aa
 have app:qK r fG q=fG++[q]->Fu s (λ_ ab Y=>∃p M dr rS,(p::M).Perm (left W)/\(∀q∈left W,p.1<=q.1)/\GP ab Y al b7 r dr (qK r fG p) rS/\(left dr).Perm M/\dr.length<=W.length/\U<=Y/\(∀c,c<al->u ab c=u h c)) (bb b7) (bb bg) (fG.length:X) (.bool false) aH b1:=λbx=>by
  unfold Fu;refine tv @A @Uj ?_;refine x9  (k:=3) (λ_=>rfl) (λ_=>rfl) J ((ahd.F λD e=>aa).hH) q (aR _ _ _) rfl J λb0 DE tW=>?_;have Lm:u b0 b7=some (.cells [hZ,(r:X),out] false):=aa
  refine mf @Lm ?_;refine⟨J,q,_,qe,xo,vz,ahf,⟨.slice (some ⟨b1+1,0,some 3⟩) (fG.length+1) (fG.length+1),some (b1+1),dj.aBS A (aR _ _ _) (λD e=>?_),nb,ahe.F (λc a5=>?_),?_,λD e=>aa,λD e=>?_⟩,HP,hLW,J,λc a5=>?_⟩
  ·grind
  ·grind
  ·rw[bx];exact .inr ⟨b1+1,rfl,aa,aa⟩
  ·grind
  grind
 rcases ahd with⟨aW,aP,cy⟩|⟨gl,aW,aP,t9⟩
 ·subst aW aP;refine mf @A ?_;exact⟨λh=>absurd h J,λ_=>app rfl⟩
 ·have DZ:=azT gl aW;subst aP;cases w5:fG.getLast? with
  |none =>
   have wI:fG=[]:=List.getLast?_eq_none_iff.1 w5;subst wI;refine mf @A ?_;exact⟨λh=>absurd h (by simp),λ_=>app rfl⟩
  |some z =>
   obtain⟨B,azU⟩:=IA.1 w5;have gT:fG.length=B.length+1:=aa
   have dc:fG[B.length]? = some z:=aa
   have sK:=fX (enc:=eP) (k:=3) (λ_=>rfl) fG;have Tf:ep aH b1 (.slice (some ⟨gl,0,some 3⟩) fG.length fG.length) eP 3 fG:=dg.o (λ_=>rfl) ⟨_,_,rfl,λ_=>⟨gl,_,_,DZ.2.1,rfl,t9⟩⟩;obtain⟨Ii,nJ,sp6,ro6,cs6,aBp,DL,hA,hg6,I⟩:=Tf.all (λ_=>rfl) aa;cases hA;rw[t9]at hg6;cases hg6;have lZ:=(I _ z dc).2 0 _ J rfl;have c1:=(I _ z dc).2 1 _ J rfl;have c2:=(I _ z dc).2 2 _ J rfl;rw[mM,iU]at lZ;rw[iU]at c1 c2;have fh:IntKind.wrap .i64 ((fG.length:Int)-1)=(B.length:Int):=by rw[oS];omega
   have A0:B.length<fG.length:=J
   refine Rv @A @fh @t9 @lZ @Uj ?_;refine⟨λ_=>?_,λh=>absurd h J⟩;have azV:hg (some 2) (B.length*3+1) (a7 eP fG) = .ok (.agg ⟨wid z.2⟩):=by
    rw[qm,if_pos J];have:((a7 eP fG).drop (B.length*3+1)).take 2=wid z.2:=by
     have dU:=(g0.1 c1)
     have dL:=(g0.1 c2)
     obtain⟨m1,aW⟩:=dU;obtain⟨m2,aP⟩:=dL;rw[zs m1,aW,BQ,zs J,BQ,s8];rw[show(a7 eP fG)[B.length*3+1+1]=(a7 eP fG)[B.length*3+2]from rfl,aP];rfl
    grind
   by_cases yX:z.1=q.1
   ·have bx:qK r fG q=B++[(z.1,kB r z.2 q.2)]:=by
     unfold qK;rw[w5]
     grind
    rw[show((z.1:Int) == (q.1:Int))=true from uC.2 J];unfold Fu;refine Rv @A @fh @t9 @azV @Uj ?_;have hzr:=tS.1 z (k1 dc);have hqr:=tS.2 q (vz.mem_iff.1 (pi ..));refine(PN ba (a:=z.2) (b:=q.2) (FU (by unfold kC eS at *;omega)) (FU (by unfold kC eS at *;omega))).mono ?_;rintro _ bh d9 ⟨rfl,V,hX⟩;refine⟨hX,?_⟩;have hc4:=(V b7 J).trans A;have HO:=(V gl J).trans t9;have wY:iW (some (.cells (a7 eP fG) false)) bh gl (B.length*3+1) (wid (kB r z.2 q.2)) = .ok (T bh gl (.cells (a7 eP (B++[(z.1,kB r z.2 q.2)])) false)):=by
     have aBq:=fX (enc:=eP) (k:=3) (λ_=>rfl) B;have Da:a7 eP fG=a7 eP B++eP z:=by rw[azU,sg]
     rw[Kw rfl (by rw[sK];show B.length*3+1+2<=_;omega)]
     congr 4
     rw[Da,sg,show(wid (kB r z.2 q.2)).length=2 from rfl];rw[show B.length*3+1=(a7 eP B).length+1 by omega,List.take_length_add_append,vS,Iz,kq,kq];rfl
    refine Kz @hc4 @HO @si @ta ?_;rw[wY];refine⟨rfl,q,_,qe,xo,vz,ahf,⟨.slice (some ⟨gl,0,some 3⟩) fG.length fG.length,some gl,dj.aBS A ?_ (λD e=>?_),nb,ahe.F (λc a5=>?_),?_,λD e=>aa,λD e=>?_⟩,HP,hLW,J,λc a5=>?_⟩
    ·grind
    ·have cj:=azS D e;have:D≠gl:=λaP=>DZ.2.2.2 aa;rw[ar this,V D J]
    ·rw[ar J,V c J]
    ·rw[bx];exact .inr ⟨gl,rfl,by rw[gT,jk];rfl,aR _ _ _⟩
    ·grind
    ·rw[ar J,V c J];grind
   ·have bx:qK r fG q=fG++[q]:=by
     unfold qK
     grind
    rw[show((z.1:Int) == (q.1:Int))=false from sa.2 J];exact app bx
def p0:X->X
 | .slice a n c=>.slice a n c
 |_=>.slice none 0 0
theorem mx.p0{aB:Type}{h:ae}{U k:Nat}{v:X}{enc:aB->ac X}{l:ac aB}(H:mx h U v enc k l):p0 v=v:=by obtain⟨a,c,rfl,_⟩:=H;rfl
def AG(h:ae)(U:Nat)(v:X)(fL:ac (X × ac (Nat × Int))):Prop:=ep h U v (λp=>[p0 p.1]) 1 fL/\∀p∈fL,mx h U p.1 eP 3 p.2/\(p.2.Pairwise λa b=>a.1<b.1)/\p.2.length<100000/\∀q∈p.2,0<=q.2/\q.2<=eS
theorem AG.F{h ab:ae}{U Y:Nat}{v:X}{fL:ac (X × ac (Nat × Int))}(H:AG h U v fL)(D:aA U h ab)(A:U<=Y):AG ab Y v fL :=
 ⟨H.1.F D A,λp B=>⟨(H.2 p B).1.F D A,(H.2 p B).2⟩⟩
theorem avJ{s:ao}{fL:ac (X × ac (Nat × Int))}{v:X}{h:ae}{U:Nat}(f3:fL.length<1000000)(I:AG h U v fL):
  aD Q s 395 [v,.func (.func 326) ⟨[]⟩ ⟨[]⟩] h U (fs (.int .i64 (-1)) U h):=by refine ahU ?_;unfold V2;obtain⟨a9,cap,rfl,a5⟩:=id I.1;refine aE ?_;refine bF.mk (λm aJ ab Y=>∃i,m=fL.length-i/\i<=fL.length/\aJ=[.slice a9 fL.length cap,.func (.func 326) ⟨[]⟩ ⟨[]⟩,.int .i64 0,(fL.length:X),(i:X)]/\ab=h/\Y=U) fL.length ⟨0,J,J,rfl,rfl,rfl⟩ ?_;rintro _ _ ap bU ⟨i,rfl,aj,rfl,D,E⟩;rw[ahO,D,E];unfold VQ;refine aE ?_;refine⟨λM=>?_,λV=>⟨rfl,rfl,rfl⟩⟩;obtain⟨p,bn⟩:=dW   J;obtain⟨b,aU,aO,bL,rz,K,a1,aW,bd,B⟩:=ep.ld1  I.1 bn;cases aW;have A:=I.2 p aa;rw[A.1.p0]at B;refine cM @bd @B ?_;refine akv ?_;refine(alD A.1.o J A.2.1).mono ?_;rintro _ _ _ ⟨rfl,D,E⟩;rw[D,E];refine bf (cF (J:i<1000000000000)) ?_;exact⟨_,J,i+1,rfl,J,rfl⟩
def rp(fL:ac (X × ac (Nat × Int))):ac (Nat × Int):=fL.flatMap (·.2)
theorem ath{p:Nat × Int}(D:ob r)(I:∀q∈fG,0<=q.2/\q.2<=eS)(E:0<=p.2/\p.2<=eS):∀q∈qK r fG p,0<=q.2/\q.2<=eS:=λq A=>by
 unfold qK at A;cases B:fG.getLast? with
 |none=>grind
 |some z =>
  rw[B]at A;simp only at A
  split at A
  ·rcases hs.1 A with h|h
   ·exact I q ((List.dropLast_sublist fG).subset h)
   ·rw[jl.1 h];exact afZ D aa E
  grind
theorem ati(r:Int)(fG:ac (Nat × Int))(p:Nat × Int):(qK r fG p).length<=fG.length+1:=by
 unfold qK
 grind
theorem vf.form{h:ae}{W:ac eW}(H:vf h b7 bC W dC):∃a c,u h b7=some (.cells (.slice a W.length c::bC) false):=by
 rcases H with⟨_,rfl,A⟩|⟨_,_,_,_,_,w⟩
 ·grind
 ·exact⟨_,_,w.cell⟩
theorem X7{s:ao}{fL:ac (X × ac (Nat × Int))}{v:X}{h:ae}{U:Nat}(ba:ob r)(f3:fL.length<800)(aI:AG h U v fL)(hS:(rp fL).length<50000):
  aD Q s 229 [(r:X),v] h U (λaS ab Y=>∃w fG,aS = .tuple ⟨[w,.int .i64 0]⟩/\dX ab w eP 3 fG U Y/\yT r fG [] (λi=>jT r (rp fL) i)/\aA U h ab/\U<=Y):=by
 refine anf ?_;obtain⟨a9,cap,rfl,a5⟩:=id aI.1;refine(z8  (by rcases ba with rfl|rfl|rfl <;> omega) (by rcases ba with rfl|rfl|rfl <;> omega)).mono ?_;rintro _ _ _ ⟨rfl,gB,e1⟩;rw[gB,e1];refine aE ?_;refine ahD ?_;refine(avJ J aI).mono ?_;rintro _ _ _ ⟨rfl,gB,e1⟩;rw[gB,e1];refine aE ?_;refine⟨λh=>absurd trivial h,?_⟩;obtain⟨H,fp⟩:∃H,H=T h U (.cells [.slice none 0 0,(r:X),.slice none 0 0] false):=⟨_,rfl⟩
 have uu:aA U h H:=by rw[fp];exact aF
 rw[<-fp];refine bF.mk (λm aJ ab Y=>∃i W dC,m=fL.length-i/\i<=fL.length/\aJ=[bb U,.slice a9 fL.length cap,(fL.length:X),(i:X)]/\GP ab Y U U r W [] dC/\(left W).Perm (rp (fL.take i))/\W.length<=i/\aA U h ab/\U+1<=Y) fL.length ⟨0,[],none,J,J,rfl,⟨.slice none 0 0,none,.inl aa,apl,λx aX=>(s6 aX).elim,.inl aa,aa,aa⟩,BV _,by simp,uu,J⟩ ?_;rintro _ _ ap bU ⟨i,W,dC,rfl,aj,rfl,i4,g9,hWl,dM,fx⟩;rw[akt];unfold XE;refine aE ?_;refine⟨λcS=>?_,λeZ=>?_⟩
 ·obtain⟨p,bn⟩:=dW   J;obtain⟨b,aU,aO,bL,rz,mV,a1,aW,bd,lS⟩:=ep.ld1  aI.1 bn;cases aW;have kh:=(dM b a1).trans bd;have E:=aI.2 p aa;rw[E.1.p0]at lS;obtain⟨I,aY,K,A,D,V,rD,nB⟩:=i4;refine cM @kh @lS ?_;refine(acv   K rD J J J J A D (E.1.F (λc a5=>dM c a5) J) J E.2.1).mono ?_;rintro _ aH b1 ⟨qe,xo,dj,⟨nb,Uh,yR,Ui⟩,azR,gg,f1⟩;refine bf (cF (J:i<1000000000000)) ?_;have sD:∀c,c<U->u aH c=u ap c:=aa
  refine⟨_,J,i+1,qe,xo,rfl,J,rfl,⟨I,aY,dj,nb,Ui aH sD,V.F λcr e=>?_,λcr e=>?_,λcr e=>?_⟩,?_,J,aF,J⟩
  ·grind
  ·grind
  ·grind
  ·unfold rp;rw[hq,bn];rw[IH];have:=Uh.trans (g9.append_right p.2);simpa[rp]using this
 ·have HQ:i=fL.length:=J
  subst HQ;rw[hB]at g9;have azW:∀p∈left W,0<=p.2/\p.2<=eS:=λp bn=>by obtain⟨x,aX,oq⟩:=List.mem_flatMap.1 (g9.mem_iff.1 bn);exact(aI.2 x aX).2.2.2 p oq
  refine bF.mk (λm aJ ab Y=>∃W fG dC,m=(left W).length/\aJ=[bb U]/\GP ab Y U U r W fG dC/\yT r fG (left W) (λi=>jT r (rp fL) i)/\W.length<900/\fG.length+(left W).length<=50000/\(∀p∈fG,0<=p.2/\p.2<=eS)/\(∀p∈left W,0<=p.2/\p.2<=eS)/\aA U h ab/\U+1<=Y) (left W).length ⟨W,[],dC,rfl,rfl,i4,⟨List.Pairwise.nil,aa,λv=>by rw[OH g9];rfl⟩,J,by have:=g9.length_eq;grind,aa,azW,dM,fx⟩ ?_;rintro _ _ aH b1 ⟨W,fG,dC,rfl,rfl,i4,y7,hWl,jE,Tk,hi2,f1,gg⟩;rw[aku];unfold XF;have Uk:=i4;obtain⟨I,aY,K,A,D,V,rD,nB⟩:=i4;obtain⟨fV,nL,B⟩:=K.form;refine bf @B ?_;refine Qh.mono ?_;rintro _ _ _ ⟨rfl,gB,e1⟩;rw[gB,e1];refine bf @B ?_;refine⟨λvp=>?_,λdx=>?_⟩
  ·have fk:W≠[]:=aa
   refine(apm ba Uk J J J hWl J fk aa).mono ?_;rintro _ bh d9 ⟨p,M,qe,xo,hpM,Sp,hM2,HP,D0,hX,g6⟩;have rA:=hpM.length_eq;have tN:=HP.length_eq;rw[nq]at rA;have xb:=ati r fG p;have ij:=y7.step hpM Sp;refine⟨(left qe).length,J,qe,qK r fG p,xo,rfl,hM2,⟨ij.up,λo fd q di=>ij.le o fd q aa,λv=>?_⟩,J,J,ath ba Tk aa,aa,aF,J⟩;rw[OH HP];exact ij.H9 v
  ·have hW0:W=[]:=aa
   subst hW0;refine⟨I,fG,rfl,?_,y7,f1,J⟩;rcases V with⟨rfl,rfl,_⟩|⟨gl,aW,rfl,t9⟩
   ·exact .inl aa
   ·have:=nB gl aW;exact .inr ⟨gl,J,J,rfl,t9⟩
theorem ajr{s:ao}{v:X}{h:ae}{U:Nat}(ba:ob r)(f3:L.length<100000)(aI:ep h U v fN 2 L)(cd:0<=y/\y<=eS)(bV:∀p∈L,0<=p.2/\p.2<=2147483647):
  aD Q s 453 [(r:X),v,(y:X),.slice none 0 0,.bool true] h U (λM ab Y=>dX ab M eP 3 (L.map λp=>(p.1,hM r p.2 y)) U Y/\aA U h ab/\U<=Y):=by
 refine akx ?_;unfold Y6;obtain⟨a9,cap,rfl,a5⟩:=id aI;refine aE ?_;refine bF.mk (λm aJ ab Y=>∃i w,m=L.length-i/\i<=L.length/\aJ=[(r:X),(y:X),.slice none 0 0,.bool true,w,.slice a9 L.length cap,(L.length:X),(i:X)]/\dX ab w eP 3 ((L.take i).map λp=>(p.1,hM r p.2 y)) U Y/\aA U h ab/\U<=Y) L.length ⟨0,.slice none 0 0,J,J,rfl,.inl aa,aF,J⟩ ?_;rintro _ _ ap bU ⟨i,w,rfl,aj,rfl,K,D,A⟩;rw[ai0];unfold WI;refine aE ?_;refine⟨λcS=>?_,λeZ=>?_⟩
 ·obtain⟨p,bn⟩:=dW   J;obtain⟨b,aU,aO,bL,rz,mV,a1,aW,bd,I⟩:=(aI.F D A).ld (λ_=>rfl) bn;cases aW;refine cM @bd @I ?_;rw[show fN p=[(p.1:X),(p.2:X)]from rfl];refine aE ?_;refine Qg.mono ?_;rintro _ _ _ ⟨rfl,gB,e1⟩;rw[gB,e1];simp(disch:=omega)only[bk,show bin Q .neq 4 (.bool false) (.bool true) = .ok (.bool true) by kernel_rfl,seval];refine(abu ba aa cd).mono ?_;rintro _ aH b1 ⟨rfl,B,E⟩;have ci:=(B bU J).trans (aR _ _ _);refine⟨E,?_⟩;have aW:∀x:Int,c7 (.agg ⟨wid x⟩)=[.int .i64 (x / 18446744073709551616),.int .u64 (x % 18446744073709551616)]:=λ_=>rfl;refine ll @ci @aW @si @sf ?_;have fr:∀c,c<bU->u aH c=u ap c:=λc a5=>by rw[B c J,ar J,ar J]
  refine me  (k:=3)  (λ_=>rfl) (λ_=>rfl) J (K.F  aa J) J (p.1,hM r p.2 y) (aR _ _ _) rfl aa λd7 iG V vy=>?_;refine⟨J,_,J,i+1,d7,rfl,J,by rw[cF J],?_,aF,J⟩;rw[hq,bn];rw[hr];exact V
 ·have:i=L.length:=J
  subst this;rw[hB]at K;exact⟨K,D,A⟩
theorem apn{s:ao}{r c:Nat}{v:X}{x:Nat->ay Int}{h:ae}{U:Nat}(M:hj c r ag)(aI:mX h U v r c ag)(bV:j8 h U w n x)(bw:n<=4096):aD Q s 452 [v,w] h U (c9 (.tuple ⟨[v,w]⟩) U h):=by
 refine aru ?_;have hZ:=aI;have V:=bV;obtain⟨v1,v2,v3,v4,rfl,h1,ap,aH,bh⟩:=aI;obtain⟨az,c1,rfl,_⟩:=id h1;obtain⟨a2,c2,rfl,_⟩:=id ap;obtain⟨a3,cm,rfl⟩:=aH.form;obtain⟨aZ,gd,rfl,_⟩:=id bh;obtain⟨gK,rfl,au⟩:=bV;obtain⟨_,_,rfl,_⟩:=id au;have bH:∀{o eV dQ gu},aA U h (T (T (T (T h U o) (U+1) eV) (U+1+1) dQ) (U+1+1+1) gu):=aF
 unfold adP;refine aE ?_;refine(X4 M (hZ.F  bH J)).mono ?_;rintro _ aW bg ⟨rfl,A,fa⟩;have ch:=A U J;rw[ar J,ar J,ar J,aR]at ch;have E:=A (U+1) J;rw[ar J,ar J,aR]at E;have g2:=A (U+1+1) J;rw[ar J,aR]at g2;have dz:=A (U+1+1+1) J;rw[aR]at dz;have cI:=bH.trans A J;refine aE ?_;unfold OR;refine bf @E ?_;refine(v5 (V.F  cI J) bw).mono ?_;rintro _ aP bU ⟨rfl,B,fx⟩;have yW:=(B U J).trans ch;have K:=(B (U+1) J).trans E;have I:=(B (U+1+1) J).trans g2;have D:=(B (U+1+1+1) J).trans dz;refine aE ?_;unfold OQ;refine ll @yW @K @I @D ?_;exact⟨rfl,aF,J⟩
def tI(r:Int)(ag:ac GE)(p:Nat × Int):ac (Nat × Int):=(eQ ag p.1).map λg=>(g.t,hM r g.w p.2)
theorem atj(r:Int)(ag:ac GE)(k v:Nat)(y:Int):jT r (tI r ag (k,y)) v=fZ r (ag.map λg=>if g.f=k then(if g.t=v then some (hM r g.w y)else none)else none):=by
 unfold jT tI eQ;rw[qk,NG]
 grind
theorem Z6{r:Int}{ag:ac GE}{x:Nat->ay Int}{v:Nat}:∀n,jT r ((bp n x).flatMap (tI r ag)) v=fZ r ((List.range n).map λk=>fZ r (ag.map λg=>if g.f=k then(if g.t=v then(x g.f).map (hM r g.w)else none)else none))
 |0=>rfl
 |n+1=>by
  rw[ts,IH,yb,Z6 n,q8,hr,qj,xP,N5]
  congr 1
  cases A:x n with
  |none =>
   symm
   refine vZ λz B=>?_
   grind
  |some y =>
   show jT r (tI r ag (n,y)++[]) v=_;rw[hC,atj]
   grind
theorem apo{C:Nat}{x:Nat->ay Int}{v:Nat}(A:Ab ag fl)(M:hj C R fl):jT r ((bp C x).flatMap (tI r fl)) v=iK r ag x v:=by rw[Z6,<-aiW r (λg:GE=>if g.t=v then(x g.f).map (hM r g.w)else none) (λg=>g.f) fl C M.rows];rw[XC (List.Perm.map _ A),qk];rfl
def ua{aB:Type}(h:ae)(v:X)(enc:aB->ac X)(k:Nat)(l:ac aB)(P:Nat->Prop):Prop :=
 ∃a c,v = .slice a l.length c/\(l≠[]->∃b o aO bL cs,P b/\a=some ⟨b,o,aO⟩/\aO≠some 0/\l.length<=c/\u h b=some (.cells cs bL)/\o+l.length*k<=cs.length/\(cs.drop o).take (l.length*k)=a7 enc l)
section
variable {aB:Type} {h ab:ae} {U k:Nat} {v:X} {enc:aB->ac X} {l:ac aB} {P pd:Nat->Prop}
theorem ua.c(H:ua h v enc k l P)(B:∀b,P b->b<U):mx h U v enc k l:=by obtain⟨a,c,e,H⟩:=H;exact⟨a,c,e,λA=>aa⟩
theorem ua.F(H:ua h v enc k l P)(hk:∀b,P b->u ab b=u h b)(M:∀b,P b->pd b):ua ab v enc k l pd:=by obtain⟨a,c,e,H⟩:=H;exact⟨a,c,e,λA=>by obtain⟨b,o,K,B,cs,V,D,aH,I,b0,E⟩:=H A;exact⟨b,o,K,B,cs,M b V,D,aH,I,aa,E⟩⟩
theorem dX.b{al aj:Nat}(E:0<k)(A:∀x,(enc x).length=k)(H:dX h v enc k l al aj):ua h v enc k l (λb=>al<=b/\b<aj):=by
 rcases H with⟨rfl,rfl⟩|⟨b,I,D,rfl,B⟩
 ·exact⟨_,_,rfl,λh=>absurd rfl h⟩
 ·exact⟨_,_,rfl,λ_=>⟨b,0,some k,false,_,⟨I,D⟩,rfl,aa,J,B,by rw[fX A];omega,by rw[nr,q3 (by rw[fX A];omega)]⟩⟩
theorem ua.p0(H:ua h v enc k l P):p0 v=v:=by obtain⟨a,c,rfl,_⟩:=H;rfl
end
def lp(p:X × ac (Nat × Int)):ac X:=[p0 p.1]
def Ul(h:ae)(v:X)(fL:ac (X × ac (Nat × Int)))(aY:ay Nat):Prop:=(fL=[]/\v = .slice none 0 0/\aY=none)\/∃b,aY=some b/\v = .slice (some ⟨b,0,some 1⟩) fL.length fL.length/\u h b=some (.cells (a7 lp fL) false)
theorem Ul.hH{h:ae}{v:X}{fL:ac (X × ac (Nat × Int))}{aY:ay Nat}(H:Ul h v fL aY):fu h lp 1 v fL aY:=by
 rcases H with⟨rfl,rfl,rfl⟩|⟨b,rfl,rfl,A⟩
 ·exact .nil
 ·exact .own A
theorem alE(p:X × ac (Nat × Int)):ef (lp p)=true:=by
 unfold lp p0;cases p.1 <;> rfl
theorem apq{s:ao}{C:Nat}{v:X}{x:Nat->ay Int}{h:ae}{U:Nat}(ba:ob r)(ax:Ab ag fl)(M:hj C R fl)(ee:C<=63)(aI:mX h U v R C fl)(bV:j8 h U w C x)(hwt:∀g∈fl,0<=g.w/\g.w<=2147483647)(aX:∀i y,x i=some y->0<=y/\y<=eS):
  aD Q s 392 [(r:X),v,w,.slice none 0 0,.bool true] h U (λaS ab Y=>∃z,aS = .tuple ⟨[z,.int .i64 0]⟩/\eY ab U Y z eP (bp R (iK r ag x))/\aA U h ab/\U<=Y):=by
 refine arq ?_;have hZ:=aI;have qR:=bV;obtain⟨v1,v2,v3,v4,rfl,h1,ap,aH,bh⟩:=aI;obtain⟨az,c1,rfl,_⟩:=id h1;obtain⟨a2,c2,rfl,_⟩:=id ap;obtain⟨a3,cm,rfl⟩:=aH.form;obtain⟨aZ,gd,rfl,_⟩:=id bh;obtain⟨gK,rfl,au⟩:=bV;obtain⟨cp,jw,rfl,_⟩:=id au;have bH:∀{o eV},aA U h (T (T h U o) (U+1) eV):=aF
 unfold adM;refine aE ?_;refine(apn M (hZ.F  bH J) (qR.F  bH J) J).mono ?_;rintro _ aW bg ⟨rfl,dv,fa⟩;have ch:=dv U J;rw[ar J,aR]at ch;have bP:=dv (U+1) J;rw[aR]at bP;have cI:=bH.trans dv J;refine cM @ch @bP ?_;obtain⟨H,fp⟩:∃H,H=T (T aW U (.cells [(R:X),(C:X),.slice az (gR fl).length c1,.slice a2 (g7 fl).length c2,.slice a3 (ft fl).length cm,.slice aZ (gI fl).length gd] false)) (U+1) (.cells [(C:X),.slice cp (bp C x).length jw] false):=⟨_,rfl⟩
 have uu:aA U h H:=by rw[fp];exact aF
 have BI:u H U=some (.cells [(R:X),(C:X),.slice az (gR fl).length c1,.slice a2 (g7 fl).length c2,.slice a3 (ft fl).length cm,.slice aZ (gI fl).length gd] false):=aa
 have oE:u H (U+1)=some (.cells [(C:X),.slice cp (bp C x).length jw] false):=aa
 rw[<-fp];clear fp;refine(z8  (by rcases ba with rfl|rfl|rfl <;> omega) (by rcases ba with rfl|rfl|rfl <;> omega)).mono ?_;rintro _ _ _ ⟨rfl,gB,e1⟩;rw[gB,e1];have gT:=md C x;simp(disch:=omega)only[bk,BI,oE,oH,seval];refine bF.mk (λm aJ ab Y=>∃i w fL aY,m=(bp C x).length-i/\i<=(bp C x).length/\aJ=[(r:X),.slice none 0 0,.bool true,bb U,w,.slice cp (bp C x).length jw,.int .i64 ((bp C x).length:Int),(i:X)]/\Ul ab w fL aY/\(∀b,aY=some b->bg<=b/\b<Y)/\(∀p∈fL,ua ab p.1 eP 3 p.2 (λb=>bg<=b/\b<Y/\aY≠some b)/\(p.2.Pairwise λa b=>a.1<b.1)/\p.2.length<=120/\∀q∈p.2,0<=q.2/\q.2<=eS)/\rp fL=((bp C x).take i).flatMap (tI r fl)/\fL.length=i/\(∀c,c<bg->u ab c=u H c)/\bg<=Y) (bp C x).length ⟨0,.slice none 0 0,[],none,J,J,rfl,.inl aa,aa,λp E=>(s6 E).elim,rfl,rfl,aa,J⟩ ?_;rintro _ _ ap bU ⟨i,w,fL,aY,rfl,aj,rfl,dV,nB,A,hS,hLl,dM,fx⟩;have ey:aA U h ap:=aF
 have g02:=(dM U J).trans BI;rw[ann];unfold Y5;refine aE ?_;refine⟨λcS=>?_,λeZ=>?_⟩
 ·obtain⟨p,E⟩:=dW   J;obtain⟨hpC,oq⟩:=wh   E;obtain⟨b,aU,aO,bL,rz,mV,a1,aW,bd,lS⟩:=(au.F ey (Y:=bU) J).ld (λ_=>rfl) E;cases aW;refine cM @bd @lS ?_;rw[show fN p=[(p.1:X),(p.2:X)]from rfl];refine bf @g02 ?_;have fr:aA U h (T (T ap bU (.cells [.int .i64 0,.int .i64 0] false)) bU (.cells [(p.1:X),(p.2:X)] false)):=aF
  refine(ajm  M (hZ.F  fr J)).mono ?_;rintro qc aH b1 ⟨azX,B,I⟩;have ci:=(B bU J).trans (aR _ _ _);refine⟨I,?_⟩;refine gX @ci @si @sf ?_;have lf:(mm fl p.1).length<=120:=by unfold mm eQ;rw[gW];exact hJ (zu _ _) M.len
  refine(ajr  ba J (dg.o (λ_=>rfl) azX.rd) (aX _ _ oq) (λq di=>?_)).mono ?_
  ·obtain⟨g,bd,rfl⟩:=gO.1 di;exact hwt g (Ct bd).1
  rintro Vp bh d9 ⟨TT,g6,hX⟩;refine⟨hX,?_⟩;have V:=dX.b J apc TT;have hwd:=V.p0;obtain⟨a9,gs,ewd,_⟩:=id V;rw[ewd];refine aE ?_;have hn:∀c,c<bU->u bh c=u ap c:=λc a5=>by rw[g6 c J,B c J,ar J,ar J]
  have S2:fu (T bh d9 (.cells [.slice a9 ((mm fl p.1).map λq=>(q.1,hM r q.2 p.2)).length gs] false)) lp 1 w fL aY:=dV.hH.F λcr e=>aa
  have T7:((mm fl p.1).map λq=>(q.1,hM r q.2 p.2))=tI r fl p:=by unfold mm tI;rw[qk];rfl
  refine x9  (k:=1) (λ_=>rfl) alE J S2 (Vp,tI r fl p) (aR _ _ _) (by show[_]=[p0 Vp];grind) J λb0 DE tW=>?_;refine⟨J,_,J,i+1,.slice (some ⟨d9+1,0,some 1⟩) (fL.length+1) (fL.length+1),fL++[(Vp,tI r fl p)],some (d9+1),rfl,J,by rw[cF (J:i<1000000000000)],.inr ⟨d9+1,rfl,aa,DE⟩,(λcr e=>aa),?_,?_,aa,λc a5=>?_,J⟩
  ·intro eH wZ;rcases hs.1 wZ with cj|cj
   ·refine⟨(A eH cj).1.F (λcr D=>?_) (λcr D=>⟨D.1,J,λe=>aa⟩),(A eH cj).2⟩
    grind
   ·rw[jl.1 cj];refine⟨?_,?_,?_,λq di=>?_⟩
    ·rw[<-T7];refine V.F (λcr D=>?_) (λcr D=>⟨J,J,λe=>aa⟩);rw[tW cr J (λe=>aa),ar J]
    ·unfold tI;rw[xM];exact PZ M.up p.1
    ·grind
    ·obtain⟨g,K,rfl⟩:=gO.1 di;exact RD (hwt g (Ct K).1) (aX _ _ oq) ba
  ·unfold rp at hS ⊢;rw[IH,hS,hq,E]
   grind
  grind
 ·have HQ:i=(bp C x).length:=J
  subst HQ;rw[hB]at hS;have Te:AG ap bU w fL:=by
   refine⟨?_,λp E=>⟨(A p E).1.c (λb a1=>a1.2.1),(A p E).2.1,aa,(A p E).2.2.2⟩⟩;rcases dV with⟨rfl,rfl,rfl⟩|⟨b,e,rfl,bd⟩
   ·exact ep.nil
   ·exact dg.o (λ_=>rfl) ⟨some ⟨b,0,some 1⟩,_,rfl,λ_=>⟨b,some 1,false,(nB b e).2,rfl,bd⟩⟩
  have hFl:(rp fL).length<50000:=by
   have:∀(L:ac (X × ac (Nat × Int))),(∀p∈L,p.2.length<=120)->(rp L).length<=L.length*120:=λL=>by
    induction L with
    |nil=>intro _;exact cR _
    |cons p L fb =>
     intro fo;have:=fb λq di=>fo q (nT _ di);unfold rp at this ⊢
     grind
   grind
  refine(X7 ba J Te hFl).mono ?_;rintro _ aH b1 ⟨z,fG,rfl,hzA,y7,B,I⟩;have dc:=(dX.f hzA).gC;have hOL:fG=bp R (iK r ag x):=by
   have e:(λi=>jT r (rp fL) i)=iK r ag x:=by
    funext v
    rw[hS];exact apo ax M
   rw[e]at y7;refine y7.done λv aI=>?_;refine vZ λy cd=>?_;obtain⟨g,bd,rfl⟩:=gO.1 cd;have K:rn g∈fl:=ax.mem_iff.2 (gO.2 ⟨g,bd,rfl⟩);have:=M.mj _ K;have:g.f<R:=this
   grind
  subst hOL;refine aE ?_;exact⟨z,rfl,dc.F (λ_ _ _=>rfl) J (cR _),ey.trans B J,J⟩
theorem apr{s:ao}{r c:Nat}{v:X}{x:Nat->ay Int}{h:ae}{U:Nat}(M:hj c r ag)(aI:mX h U v r c ag)(bV:j8 h U w n x)(bw:n<=4096):aD Q s 320 [v,w] h U (λK ab Y=>(∃y,K = .int .i64 y)/\aA U h ab/\U<=Y):=by
 refine arl ?_;have V:=aI;have I:=bV;obtain⟨v1,v2,v3,v4,rfl,h1,ap,aH,bh⟩:=aI;obtain⟨az,c1,rfl,_⟩:=id h1;obtain⟨a2,c2,rfl,_⟩:=id ap;obtain⟨a3,cm,rfl⟩:=aH.form;obtain⟨aZ,gd,rfl,_⟩:=id bh;obtain⟨gK,rfl,au⟩:=bV;obtain⟨cp,jw,rfl,_⟩:=id au;have gT:=md n x;have bH:∀{o eV},aA U h (T (T h U o) (U+1) eV):=aF
 unfold adH;refine aE ?_;refine(WV (I.F  bH J) bw).mono ?_;rintro aC1 aW bg ⟨bn,D,A⟩;refine⟨A,?_⟩;have ch:=D U J;rw[ar J,aR]at ch;have cI:=bH.trans D J;have E:(bp n x).map (λp=>(p.1:Int))=f9 ((bp n x).map (·.1)):=by unfold f9;rw[qk];rfl
 rw[E]at bn;refine bf @ch ?_;refine(apa M (V.F  cI J) (dg.o (λ_=>rfl) bn.rd) aa).mono ?_;rintro _ aP bU ⟨⟨y,rfl⟩,dM,B⟩;exact⟨B,⟨y,rfl⟩,aF,J⟩
theorem alF{s:ao}{f a n:Int}{h:ae}{U:Nat}(I:0<=n/\n<1000000):aD Q s 317 [(f:X),(a:X),(n:X)] h U (λr ab Y=>(r = .int .i64 1\/r = .int .i64 2)/\ab=h/\Y=U):=by
 refine anh ?_;unfold abi
 by_cases E:f=1
 ·subst E;simp(disch:=omega)only[bk,seval]
  grind
 ·by_cases B:f=2
  ·subst B;simp(disch:=omega)only[bk,seval]
   grind
  ·have D:(f == 1)=false:=aa
   have A:(f == 2)=false:=aa
   simp(disch:=omega)only[bk,D,A,Ck (show(8:Int)≠0 by decide),seval]
   grind
theorem ahW{s:ao}{f a n:Int}{h:ae}{U:Nat}:aD Q s 319 [(f:X),(a:X),(n:X)] h U (λr ab Y=>(r = .int .i64 1\/r = .int .i64 2)/\ab=h/\Y=U):=by
 refine ah5 ?_;unfold Wh
 by_cases D:f=1
 ·subst D;simp(disch:=omega)only[bk,seval]
  grind
 ·by_cases E:f=2
  ·subst E;simp(disch:=omega)only[bk,seval]
   grind
  ·have A:(f == 1)=false:=aa
   have B:(f == 2)=false:=aa
   simp(disch:=omega)only[bk,A,B,Ck (show(4:Int)≠0 by decide),seval]
   grind
def wn(h:ae)(U:Nat)(v:X)(n:Nat)(x:Nat->ay Int):Prop :=
 (∃gK,v = .agg ⟨[.int .i64 1,(n:X),gK,.int .i64 0,.slice none 0 0,.slice none 0 0]⟩/\ep h U gK fN 2 (bp n x)) \/
 (∃fw dp,v = .agg ⟨[.int .i64 2,.int .i64 0,.slice none 0 0,(n:X),fw,dp]⟩/\dg h U fw kd (eT n (kk x))/\ep h U dp cY 1 (cx n (jX x)))
theorem wn.F{h ab:ae}{U Y n:Nat}{v:X}{x:Nat->ay Int}(H:wn h U v n x)(B:aA U h ab)(A:U<=Y):wn ab Y v n x:=by
 rcases H with⟨I,e,D⟩|⟨E,M,e,D,K⟩
 ·exact .inl ⟨I,e,D.F B A⟩
 ·exact .inr ⟨E,M,e,D.F B A,K.F B A⟩
theorem Qi{s:ao}{v:X}{x:Nat->ay Int}{h:ae}{U:Nat}(aI:wn h U v n x)(bw:n<=63):aD Q s 321 [v] h U (λr ab Y=>j8 ab Y r n x/\aA U h ab/\U<=Y):=by
 refine auO ?_;have gT:=md n x;have bH:∀{o eV},aA U h (T (T h U o) (U+1) eV):=aF
 unfold afl;rcases aI with⟨gK,rfl,B⟩|⟨fw,dp,rfl,B,ap⟩
 ·obtain⟨cp,jw,rfl,_⟩:=id B;refine aE ?_;refine(v5  (j8.F    ⟨_,rfl,B⟩ bH J) J).mono ?_;rintro _ aW bg ⟨rfl,A,D⟩;have ch:=A U J;rw[ar J,aR]at ch;have I:=A (U+1) J;rw[aR]at I;have cI:=bH.trans A J;unfold PH;refine bf @ch ?_;refine(BY (B.F cI  J) J).mono ?_;rintro eD aP bU ⟨dV,K,E⟩;refine⟨E,?_⟩;obtain⟨bA,gq,rfl⟩:=dV.form;have M:=(K U J).trans ch;have V:=(K (U+1) J).trans I;refine ll @M @V @si @sf ?_;refine⟨⟨_,rfl,?_⟩,aF,J⟩;exact dg.o (λ_=>rfl) (eY.rd (dV.gC.F  aa J J))
 ·obtain⟨ek,co,rfl,_⟩:=id B;obtain⟨bz,oB,rfl,_⟩:=id ap;refine aE ?_;refine(ao8  (su.F    ⟨_,_,rfl,B,ap⟩ bH J) bw).mono ?_;rintro fW aW bg ⟨er,A,D⟩;have I:=A (U+1) J;rw[aR]at I;obtain⟨gK,rfl,aj⟩:=er;obtain⟨cp,jw,rfl,_⟩:=id aj;refine bf @I ?_;refine⟨⟨_,rfl,?_⟩,aF,J⟩;exact dg.o (λ_=>rfl) (eY.rd (aj.F (ea:=U+2) aa J J))
theorem wn.form{h:ae}{U:Nat}{v:X}{x:Nat->ay Int}(H:wn h U v n x):∃D I az K E ca a2 bU c2 B V cm,v = .agg ⟨[.int .i64 D,.int .i64 I,.slice az K E,.int .i64 ca,.slice a2 bU c2,.slice B V cm]⟩:=by
 rcases H with⟨gK,rfl,A⟩|⟨fw,dp,rfl,A,M⟩
 ·obtain⟨cp,jw,rfl,_⟩:=id A
  grind
 ·obtain⟨ek,co,rfl,_⟩:=id A;obtain⟨bz,oB,rfl,_⟩:=id M
  grind
theorem alG{s:ao}{v:X}{x:Nat->ay Int}{h:ae}{U:Nat}(aI:wn h U v n x)(bw:n<=63):aD Q s 394 [v] h U (λr ab Y=>su ab Y r n x/\aA U h ab/\U<=Y):=by
 refine ano ?_;have A:=aI;obtain⟨b8,cN,az,m1,c1,ca,a2,m2,c2,a3,m3,cm,rfl⟩:=aI.form;have bH:∀{o eV},aA U h (T (T h U o) (U+1) eV):=aF
 unfold abl;refine aE ?_;refine(Qi (A.F  bH J) bw).mono ?_;rintro lB aW bg ⟨lG,D,E⟩;refine(aeE lG bw).mono ?_;rintro eu aP bU ⟨BE,B,K⟩;have M:=(B (U+1) J).trans (D (U+1) J);rw[aR]at M;obtain⟨fw,dp,rfl,V,I⟩:=BE;obtain⟨ek,co,rfl,_⟩:=id V;obtain⟨bz,oB,rfl,_⟩:=id I;refine bf @M ?_;exact⟨⟨_,_,rfl,(V.F  aa J J).rd,dg.o (λ_=>rfl) (I.F  aa J J).rd⟩,aF,J⟩
structure CH (h:ae) (U:Nat) (t:X) (r:Int) (R C:Nat) (ag fl:ac GE) (x:Nat->ay Int):Prop where
 rg:ob r
 m:hj R C ag
 bR:hj C R fl
 aBU:Ab ag fl
 ee:C<=63
 w:∀g∈ag,0<=g.w/\g.w<=2147483647
 aBV:∀i y,x i=some y->0<=y/\y<=eS
 v:∃cE ow aI Me,t = .agg ⟨(r:X)::(c7 cE++(c7 ow++(c7 aI++[.slice none 0 0,.bool true,.int .i64 Me])))⟩/\kw h U cE R C ag/\mX h U ow R C fl/\wn h U aI C x
theorem CH.F{h ab:ae}{U Y:Nat}{t:X}{r:Int}{R C:Nat}{ag fl:ac GE}{x:Nat->ay Int}(H:CH h U t r R C ag fl x)(B:aA U h ab)(A:U<=Y):CH ab Y t r R C ag fl x :=
 { H with v:=by obtain⟨K,M,I,D,e,V,E,aH⟩:=H.v;exact⟨K,M,I,D,e,V.F B A,E.F B A,aH.F B A⟩ }
theorem mX.form{h:ae}{U:Nat}{v:X}{r c:Nat}{ag:ac GE}(H:mX h U v r c ag):∃I bg D K M c2 A b1 cm B d9 E,v = .agg ⟨[(r:X),(c:X),.slice I bg D,.slice K M c2,.slice A b1 cm,.slice B d9 E]⟩:=by
 obtain⟨v1,v2,v3,v4,rfl,h1,V,aH,bh⟩:=H;obtain⟨I,D,rfl,_⟩:=id h1;obtain⟨K,c2,rfl,_⟩:=id V;obtain⟨A,cm,rfl⟩:=aH.form;obtain⟨B,E,rfl,_⟩:=id bh
 grind
def ahg(R:Nat)(r:Int)(ag:ac GE)(x:Nat->ay Int)(U:Nat)(h:ae):bZ:=λaS ab Y=>∃z,aS = .tuple ⟨[z,.int .i64 0]⟩/\eY ab U Y z eP (bp R (iK r ag x))/\aA U h ab/\U<=Y
theorem aps{s:ao}{t:X}{C:Nat}{x:Nat->ay Int}{h:ae}{U:Nat}(H:CH h U t r R C ag fl x):aD Q s 323 [t] h U (ahg R r ag x U h):=by
 refine arm ?_;obtain⟨cE,ow,aI,Me,rfl,h1,V,aH⟩:=H.v;have K:=V;have D:=aH;obtain⟨b,aO,n,a2,bU,c2,a3,b1,cm,rfl⟩:=h1.form;obtain⟨dA,m1,en,b2,m2,fT,d2,m3,ia,fJ,m4,nP,rfl⟩:=V.form;obtain⟨b8,cN,aW,gv,fI,ca,aP,ha,gr,cy,nm,mH,rfl⟩:=aH.form;have bH:∀{o},aA U h (T h U o):=aF
 unfold adI;simp(disch:=omega)only[bk,Nh,s7,seval];refine(Qi (D.F  bH J) H.ee).mono ?_;rintro lB bP cf ⟨lG,B,A⟩;refine⟨A,?_⟩;have ch:=(B U J).trans (aR _ _ _);have cI:=bH.trans B J;refine Ah @ch @si @sf @ta @xY @B0 ?_;have E:∀g∈fl,0<=g.w/\g.w<=2147483647:=λg bd=>by obtain⟨cG,I,rfl⟩:=gO.1 (H.aBU.mem_iff.1 bd);exact H.w cG I
 refine(apq H.rg H.aBU H.bR H.ee (K.F cI J) lG E H.aBV).mono ?_;rintro _ g2 kY ⟨z,rfl,dV,dM,M⟩;refine aE ?_;refine⟨J,z,rfl,dV.F aa J J,aF,J⟩
theorem apt{s:ao}{t:X}{C:Nat}{x:Nat->ay Int}{h:ae}{U:Nat}(H:CH h U t r R C ag fl x):aD Q s 324 [t] h U (ahg R r ag x U h):=by
 refine arn ?_;obtain⟨cE,ow,aI,Me,rfl,K,ap,M⟩:=H.v;have E:=K;have D:=M;obtain⟨b,aO,n,a2,bU,c2,a3,b1,cm,rfl⟩:=K.form;obtain⟨dA,m1,en,b2,m2,fT,d2,m3,ia,fJ,m4,nP,rfl⟩:=ap.form;obtain⟨b8,cN,aW,gv,fI,ca,aP,ha,gr,cy,nm,mH,rfl⟩:=M.form;have V:∀{o},aA U h (T h U o):=aF
 unfold adJ;simp(disch:=omega)only[bk,Nh,s7,seval];refine(alG (D.F  V J) H.ee).mono ?_;rintro lB bP cf ⟨lG,B,A⟩;refine⟨A,?_⟩;have ch:=(B U J).trans (aR _ _ _);have cI:=V.trans B J;refine Ah @ch @si @sf @ta @xY @B0 ?_;refine(apd H.rg H.m H.ee (E.F cI J) lG H.w H.aBV).mono ?_;rintro _ g2 kY ⟨z,rfl,dV,dM,I⟩;refine aE ?_;refine⟨J,z,rfl,dV.F aa J J,aF,J⟩
theorem apu{s:ao}{t:X}{C:Nat}{x:Nat->ay Int}{h:ae}{U:Nat}(H:CH h U t r R C ag fl x):aD Q s 227 [t] h U (λaS ab Y=>∃z y,aS = .tuple ⟨[z,.int .i64 y,.int .i64 0]⟩/\eY ab U Y z eP (bp R (iK r ag x))/\aA U h ab/\U<=Y):=by
 refine ari ?_;have r1:=H;obtain⟨cE,ow,aI,Me,rfl,h1,ap,aH⟩:=H.v;have SU:=h1;have h20:=ap;have TX:=aH;obtain⟨b,aO,n,a2,bU,c2,a3,b1,cm,rfl⟩:=h1.form;obtain⟨dA,m1,en,b2,m2,fT,d2,m3,ia,fJ,m4,nP,rfl⟩:=ap.form;obtain⟨b8,cN,aW,gv,fI,ca,aP,ha,gr,cy,nm,mH,rfl⟩:=aH.form;have bH:∀{o},aA U h (T h U o):=aF
 unfold adE;simp(disch:=omega)only[bk,Nh,s7,seval];refine(Qi (TX.F  bH J) H.ee).mono ?_;rintro lB bP cf ⟨lG,dv,D⟩;refine⟨D,?_⟩;have ch:=(dv U J).trans (aR _ _ _);have cI:=bH.trans dv J;refine Ah @ch @si @sf @ta @xY @B0 ?_;refine(apr H.bR (h20.F cI J) lG (by have:=H.ee;omega)).mono ?_;rintro _ g2 kY ⟨⟨y,rfl⟩,M,E⟩;refine⟨E,?_⟩;have A:=(M U J).trans ch;have ey:=cI.trans M J;simp(disch:=omega)only[bk,ch,A,si,sf,ta,xY,B0,seval];refine(alz H.m (SU.F ey J)).mono ?_;rintro _ dz nl ⟨rfl,I,V⟩;refine⟨V,?_⟩;have B:=(I U J).trans A;have fr:=ey.trans I J;simp(disch:=omega)only[bk,ch,A,B,si,sf,ta,xY,B0,seval];refine ahW.mono ?_;rintro w _ _ ⟨bV,gB,e1⟩;rw[gB,e1];refine⟨J,?_⟩;rcases bV with rfl|rfl
 ·refine bf @B ?_;unfold Jv;refine aE ?_;refine(aps (r1.F fr J)).mono ?_;rintro _ dO cW ⟨z,rfl,dV,g6,K⟩;refine aE ?_;exact⟨z,_,rfl,dV.F aa J J,aF,J⟩
 ·refine bf @B ?_;unfold Jv;refine aE ?_;refine(apt (r1.F fr J)).mono ?_;rintro _ dO cW ⟨z,rfl,dV,g6,K⟩;refine aE ?_;exact⟨z,_,rfl,dV.F aa J J,aF,J⟩
def hasB(a4:ac GE)(a b:Nat):ao:=a4.any λe=>decide (e.f=a/\e.t=b)
def cZ(a4:ac GE)(a b:Nat):ao:=decide (a≠b)&&(hasB a4 a b||hasB a4 b a)
theorem sB.up{w U A:Nat}{h B:ae}{r:X}{ab:ae}{Y:Nat}(H:sB w A B r ab Y)(M:aA U h B)(K:U<=A):sB w U h r ab Y:=by obtain⟨b,c,I,rfl,aW,E,D,eE,V⟩:=H;exact⟨b,c,I,rfl,J,E,D,aF,J⟩
structure fL (N:Nat) (h:ae) (al aj:Nat) (os:ac X) (aDa:Nat->ac Nat) (gx:Nat->ay Nat):Prop where
 len:os.length=N
 s:∀i,i<N->∃o,os[i]? = some o/\gZ h cY o (f9 (aDa i)) (gx i)
 b:∀i c,gx i=some c->al<=c/\c<aj
 d:∀i j c,gx i=some c->gx j=some c->i=j
theorem fL.F{N:Nat}{h ab:ae}{al aj dB:Nat}{D:ac X}{B:Nat->ac Nat}{A:Nat->ay Nat}(L:fL N h al aj D B A)(E:∀c,al<=c->c<aj->u ab c=u h c)(I:aj<=dB):fL N ab al dB D B A :=
 ⟨L.len,λi aj=>by obtain⟨o,e,g⟩:=L.s i aj;exact⟨o,e,g.F λc e=>E c (L.b i c e).1 (L.b i c e).2⟩,λi c e=>⟨(L.b i c e).1,by have:=(L.b i c e).2;omega⟩,L.d⟩
def iM(bu:ac Int)(N d v:Nat):Int:=(if bu.length=0 then 0 else(bu[(d*N+v) % bu.length]?).getD 0)*4096+v
section
variable (a4:ac GE) (HL:Nat->Nat->Int) (N:Nat)
def AQ(d:Nat)(q:Nat->ao)(v:Nat):ao:=(ez N (λaS=>cZ a4 v aS&&q aS)).all λaS=>!decide (HL d aS<=HL d v)
end
section
variable {a4:ac GE} {HL:Nat->Nat->Int} {N:Nat}
end
theorem KG(h:n<9223372036854775808):IntKind.wrap .i64 (n:Int)=(n:Int):=jo J J
theorem acw{t:TypeId}{b:Nat}(A:a<9223372036854775808)(B:b<9223372036854775808):bin Q .or t (a:X) (b:X) = .ok (((a ||| b:Nat):X)):=by show R.ok (Value.int .i64 (IntKind.wrap .i64 ((BitVec.ofInt 64 (a:Int) ||| BitVec.ofInt 64 (b:Int)).toNat:Int)))=_;rw[BitVec.toNat_or,AZ  J,AZ  J,KG (Nat.or_lt_two_pow (n:=63) A B)]
theorem alH{t:TypeId}(A:a<2147483648):bin Q .shl t (a:X) (.int .u64 12) = .ok (((a*4096:Nat):X)):=by show R.ok (Value.int .i64 (tq .i64 ((a:Int)*2 ^ (min (12:Int).toNat 64))))=_;rw[nW,show((a:Int)*2 ^ (min (12:Int).toNat 64))=((a*4096:Nat):Int)from aa,KG J]
theorem avK{b:Nat}(A:b<4096):a*4096 ||| b=a*4096+b:=by rw[xQ];exact(Nat.two_pow_add_eq_or_of_lt (i:=12) A a).symm
def Sr(bu:ac Int):Prop:=bu.length<=1000/\∀x∈bu,0<=x/\x<=2147483647
theorem X8{s:ao}{k src len:Int}{N d v:Nat}{bu:ac Int}{eu:X}{h:ae}{U:Nat}(bs:dg h U eu cY bu)(B:Sr bu)(dT:N<=4096)(aI:v<N)(hd2:d<=1000):
  aD Q s 368 [.agg ⟨[(k:X),(N:X),(src:X),(len:X),eu]⟩,(d:X),(v:X)] h U (c9 (.int .i64 (iM bu N d v)) U h):=by
 refine an2 ?_;obtain⟨a,cap,rfl,a5⟩:=id bs;unfold abO;have bH:∀{o},aA U h (T h U o):=aF
 refine aE ?_;refine Fb.mono ?_;rintro r h1 bg ⟨rfl,V,E⟩;rw[V,E,lm J];have de:IntKind.wrap .i64 ((N:Int)-1)=(N:Int)-1:=jo J J;refine bf @de ?_;refine Fb.mono ?_;rintro r h1 bg ⟨rfl,V,E⟩;rw[V,E,lm J];unfold Og;obtain⟨br,a1⟩:=B
 by_cases aq:bu.length=0
 ·have aM:((bu.length:Nat):Int)=0:=J
  have es:bin Q .shl 2 (.int .i64 0) (.int .u64 12) = .ok (.int .i64 0):=rfl;have I:bin Q .or 2 (.int .i64 0) (v:X) = .ok (v:X):=by rw[show(0:Int)=((0:Nat):Int)from rfl,acw J J,Nat.zero_or]
  refine gX @aM @es @I ?_;refine λ_=>⟨?_,bH,J⟩
  unfold iM
  grind
 ·have A:0<bu.length:=J
  have D:(d*N+v) % bu.length<bu.length:=zD _ A;obtain⟨x,aX⟩:=dW  D;obtain⟨t6,hx1⟩:=a1 x aa;obtain⟨y,rfl⟩:∃y:Nat,x=(y:Int):=⟨x.toNat,J⟩
  obtain⟨b,aO,bL,M,rfl,bd⟩:=a5 aa;rw[jm]at bd;have K:=(bH (o:=.cells [(k:X),(N:X),(src:X),(len:X),.slice (some ⟨b,0,aO⟩) bu.length cap] false) b M).trans bd;have hdn:d*N<=4096000:=sc  (n₂:=1000)  (m₂:=4096) J J;have m1:IntKind.wrap .i64 ((d:Int)*(N:Int))=((d*N:Nat):Int):=by rw[show((d:Int)*(N:Int))=((d*N:Nat):Int) by omega];exact KG J
  have m2:IntKind.wrap .i64 (((d*N:Nat):Int)+(v:Int))=((d*N+v:Nat):Int):=by rw[show(((d*N:Nat):Int)+(v:Int))=((d*N+v:Nat):Int) by omega];exact KG J
  have m3:bin Q .rem 3 (((d*N+v:Nat):X)) (bu.length:X) = .ok ((((d*N+v) % bu.length:Nat):X)):=by rw[aaR J];rfl
  have I:bin Q .or 2 (((y*4096:Nat):X)) (v:X) = .ok (((y*4096+v:Nat):X)):=by rw[acw J J,avK J]
  simp(disch:=omega)only[bk,show(0:Int)<(bu.length:Int) by omega,zT,m1,m2,m3,K,j4 aX,alH (J:y<2147483648),I,seval];refine⟨⟨?_,bH,J⟩,λh=>absurd trivial h⟩;unfold iM
  grind
def iE:=And.intro @si @B0
theorem O8(h:n<4000000000):bin Q .and 3 (n:X) (.int .i64 1) = .ok (((n % 2:Nat):X)):=by rw[aqt,BitVec.toNat_and,AZ  J,show(BitVec.ofInt 64 1).toNat=1 from rfl,IJ,jb _ J]
theorem aeH(n:Nat):((((n % 2:Nat):Int) == 0):ao)=decide (n % 2=0):=aa
theorem O9{s:ao}{k:Int}{t:Nat}{h:ae}{U:Nat}(B:k=1\/k=2\/k=3\/k=5)(D:t<100000):aD Q s 225 [(k:X),(t:X)] h U (fs (.int .i64 (hu k t)) U h):=by
 refine as2 ?_;unfold aeB hu;rcases B with rfl|rfl|rfl|rfl
 ·refine aE ?_;exact⟨rfl,rfl,rfl⟩
 ·refine aE ?_;exact⟨rfl,rfl,rfl⟩
 ·refine aE ?_;exact⟨rfl,rfl,rfl⟩
 ·simp(disch:=omega)only[bk,↓reduceIte,Nat.reduceAdd,Nat.reduceSub,Nat.reduceMul,Nat.reduceLT,Nat.reduceLeDiff,Nat.reduceEqDiff,Int.reduceBEq,Int.reduceLT,Int.reduceNeg,O8 (J:t<4000000000),aeH]
  by_cases A:t % 2=0
  ·simp[A,fs]
  ·simp[A,fs]
theorem Qj{k:Int}{t:Nat}(A:k=1\/k=2\/k=3\/k=5):ob (hu k t):=by unfold hu ob;omega
theorem Z7{s:ao}{t:Nat}{h:ae}{U:Nat}(D:1<=t)(B:t<100000):aD Q s 459 [(t:X)] h U (fs ((((t-1) / 2:Nat):X)) U h):=by
 refine as5 ?_;unfold aeD;have A:IntKind.wrap .i64 ((t:Int)-1)=((t-1:Nat):Int):=by rw[show(t:Int)-1=((t-1:Nat):Int) by omega];exact jb _ J
 have es:bin Q .shr 3 (((t-1:Nat):X)) (.int .u64 1) = .ok ((((t-1) / 2:Nat):X)):=by
  show R.ok (Value.int .i64 (((t-1:Nat):Int).fdiv 2))=_
  grind
 refine cM @A @es ?_;exact⟨rfl,rfl,rfl⟩
def jr(h:ae)(U:Nat)(v:X)(low m:Nat)(S:jS):Prop:=hy h U v (low:Int) ((low+m:Nat):Int) m (cx m λi=>S.A (low+i)) (cx m λi=>S.B (low+i)) (λi=>S.q (low+i))
theorem jr.F{h ab:ae}{U Y low m:Nat}{v:X}{S:jS}(B:jr h U v low m S)(D:aA U h ab)(A:U<=Y):jr ab Y v low m S:=hy.F B D A
theorem Z8{i:Nat}{f:Nat->Int}(h:i<n):(cx n f)[i]? = some (f i):=by unfold cx;grind
theorem Mf{h:ae}{U i:Nat}{v:X}{f:Nat->Int}(H:dg h U v cY (cx n f))(aj:i<n):∃b A B cap,b<U/\v = .slice (some ⟨b,0,A⟩) n cap/\u h b=some (.cells (hw (cx n f)) B)/\(hw (cx n f))[i]? = some (.int .i64 (f i)):=by
 obtain⟨_,b,A,B,cap,E,e,D⟩:=H.at (Z8 aj)
 rw[i9]at e;rw[jm]at D;exact⟨b,A,B,cap,E,e,D,j4 (Z8 aj)⟩
structure pt (h:ae) (U:Nat) (eu:X) (k src len:Int) (N:Nat) (bu:ac Int):Prop where
 d:dg h U eu cY bu
 ok:Sr bu
 n60:N<=60
 pl:gF k N src len bu=0
 hn:k=1\/k=2\/k=3\/k=5
theorem pt.F{h ab:ae}{U Y:Nat}{eu:X}{k src len:Int}{N:Nat}{bu:ac Int}(H:pt h U eu k src len N bu)(B:aA U h ab)(A:U<=Y):pt ab Y eu k src len N bu:={ H with d:=H.d.F B A }
section
variable {s:ao} {k src len:Int} {N low m t i:Nat} {bu:ac Int} {eu aJ:X} {S:jS} {h:ae} {U:Nat}
theorem alI(P:pt h U eu k src len N bu)(au:jr h U aJ low m S)(t8:low+m<=N)(aj:i<m)(h1:1<=t)(cK:t<1000):
  aD Q s 403 [.agg ⟨[(k:X),(N:X),(src:X),(len:X),eu]⟩,aJ,(t:X),(i:X)] h U (λr ab Y=>(∃y b,r = .tuple ⟨[.int .i64 y,.bool b]⟩/\rx k (iM bu N ((t-1) / 2)) t S (low+i)=if b=true then some y else none)/\aA U h ab/\U<=Y):=by
 refine ao1 ?_;obtain⟨bs,I,dT,bn,hk⟩:=P;obtain⟨dp,fW,fw,rfl,fE,gh,gt⟩:=au;obtain⟨a9,gs,rfl,_⟩:=id bs;obtain⟨a2,c2,rfl,_⟩:=id gh;obtain⟨a3,cm,rfl,_⟩:=id gt;obtain⟨b,aO,bL,cap,a1,rfl,bd,M⟩:=Mf fE aj;have B:∀{o aU},aA U h (T (T h U o) (U+1) aU):=aF
 have A:∀{o aU},u (T (T h U o) (U+1) aU) b=_:=λ{o aU}=>(B b a1).trans bd;unfold acq;refine aE ?_;refine(Kj J aj (gt.F  B J)).mono ?_;rintro _ _ _ ⟨rfl,K,V⟩;rw[K,V];have zg:IntKind.wrap .i64 ((low:Int)+(i:Int))=((low+i:Nat):Int):=by rw[<-vQ];exact jb _ J
 unfold rx;rcases hk with rfl|rfl|rfl|rfl
 ·refine bf @zg ?_;exact⟨⟨_,_,rfl,by simp⟩,B,J⟩
 ·refine cM @A @M ?_;exact⟨⟨_,_,rfl,by simp⟩,B,J⟩
 ·refine cM @A @M ?_;exact⟨⟨_,_,rfl,by simp⟩,B,J⟩
 ·simp(disch:=omega)only[bk,↓reduceIte,Nat.reduceAdd,Nat.reduceSub,Nat.reduceMul,Nat.reduceLT,Nat.reduceLeDiff,Nat.reduceEqDiff,Int.reduceBEq,Int.reduceLT,Int.reduceNeg,O8 (J:t<4000000000),aeH];refine⟨λap=>⟨⟨_,_,rfl,aa⟩,B,J⟩,λap=>?_⟩;refine(Z7 h1 J).mono ?_;rintro _ _ _ ⟨rfl,K,V⟩;rw[K,V];refine⟨J,?_⟩;simp(disch:=omega)only[bk,zg,iE,seval];refine(X8 (bs.F  B J) I   J  J J).mono ?_;rintro _ bP cf ⟨rfl,E,D⟩;refine⟨D,?_⟩;have ch:=E (U+1) J;rw[aR]at ch;have qT:=(E b J).trans A;simp(disch:=omega)only[bk,ch,qT,A,M,iE,seval];refine⟨⟨_,_,rfl,?_⟩,aF,J⟩
  grind
theorem acx{f:Nat->ay Int}{b:ao}(h:f n=if b=true then some y else none):bp (n+1) f=bp n f++if b=true then[(n,y)]else[]:=by
 rw[ts,h]
 grind
def OuJ(U bg t m:Nat)(pl nf:ac X)(f:Nat->ay Int)(h:ae)(En:Nat)(aJ:ac X)(ab:ae)(Y:Nat):Prop :=
 ∃i dp,En=m-i/\i<=m/\aJ=[(t:X),bb U,.pointer (some ⟨U+1,0,none⟩),.pointer (some ⟨U+2,0,none⟩),bb bg,(m:X),(i:X)] /\
  u ab U=some (.cells pl false)/\u ab (U+1)=some (.cells nf false)/\u ab (U+2)=some (.cells [.int .i64 0,.slice none 0 0] false)/\u ab bg=some (.cells [(m:X),dp] false)/\dX ab dp fN 2 (bp i f) (bg+1) Y/\aA U h ab/\bg+1<=Y
theorem atk(P:pt h U eu k src len N bu)(au:jr h U aJ low m S)(t8:low+m<=N)(h1:1<=t)(cK:t<1000):
  aD Q s 337 [.agg ⟨[(k:X),(N:X),(src:X),(len:X),eu]⟩,aJ,(t:X)] h U (λr ab Y=>pG ab U Y r m (λi=>rx k (iM bu N ((t-1) / 2)) t S (low+i))/\aA U h ab/\U<=Y):=by
 refine avD ?_;obtain⟨V,js,dT,bn,hk⟩:=id P;have E:=au;obtain⟨dp,fW,fw,rfl,fE,gh,gt⟩:=au;obtain⟨a9,gs,rfl,_⟩:=id V;obtain⟨az,c1,rfl,_⟩:=id fE;obtain⟨a2,c2,rfl,_⟩:=id gh;obtain⟨a3,cm,rfl,_⟩:=id gt;have bH:∀{o aU kD},aA U h (T (T (T h U o) (U+1) aU) (U+2) kD):=aF
 unfold afY;refine aE ?_;refine(J0 (V.F  bH J) bn J J J (E.F  bH J) (i9 _ _) (i9 _ _)).mono ?_;rintro _ bP B ⟨rfl,D,fa⟩;have hd:=D U J;rw[ar J,ar J,aR]at hd;have dq:=D (U+1) J;rw[ar J,aR]at dq;have eF:=D (U+2) J;rw[aR]at eF;have fh:IntKind.wrap .i64 (((low+m:Nat):Int)-(low:Int))=(m:Int):=by rw[show((low+m:Nat):Int)-(low:Int)=(m:Int) by omega];exact jb m J
 refine gX @hd @dq @fh ?_;generalize fp:T (T (T bP (U+1) _) B _) B _=H;have aM:∀d,d≠U+1->d≠B->u H d=u bP d:=aa
 have aW:u H B=some (.cells [(m:X),.slice none 0 0] false):=aa
 have aP:u H (U+1)=some (.cells [(low:X),((low+m:Nat):X),.slice az (cx m λi=>S.A (low+i)).length c1,.slice a2 (cx m λi=>S.B (low+i)).length c2,.slice a3 (eT m λi=>S.q (low+i)).length cm] false):=aa
 refine bF.mk (OuJ U B t m _ _ (λi=>rx k (iM bu N ((t-1) / 2)) t S (low+i)) h) m ⟨0,_,J,J,rfl,(aM U J J).trans hd,aP,aa,aW,.inl ⟨rfl,rfl⟩,aF,J⟩ ?_;rintro _ _ ap bU ⟨i,dp,rfl,aj,rfl,kI,fI,gr,mH,dV,hk,dx⟩;rw[as4];unfold aco;obtain⟨hQ,nv',ow,rfl⟩:=dV.form;refine gX @kI @fI @mH ?_;refine⟨λcS=>?_,λeZ=>?_⟩
 ·refine(alI (P.F hk J) (E.F hk J) t8 J h1 cK).mono ?_;rintro _ aH b1 ⟨⟨y,b,rfl,cd⟩,A,I⟩;have fC:=(A U J).trans kI;have d6:=(A (U+1) J).trans fI;have gV:=(A (U+2) J).trans gr;have ji:=(A B J).trans mH;have K:=dV.F   (λd h1 ap=>A d J) I;refine cM @ji (cF (J:i<1000000000000)) ?_;refine⟨λa1=>?_,λa1=>?_⟩
  ·refine me  (k:=2)  (λ_=>rfl) (λ_=>rfl) J (K.F  aa J) J (i,y) (aR _ _ _) rfl (by have:=md i λi=>rx k (iM bu N ((t-1) / 2)) t S (low+i);omega) λd7 b0 M e7=>?_;obtain⟨bI,eN,p9,rfl⟩:=M.form;have kZ:=(e7 B J).trans ((ar J).trans ji);refine bf @kZ ?_;refine⟨_,?_,i+1,_,rfl,J,rfl,?_,?_,?_,aR _ _ _,?_,?_,J⟩
   ·omega
   ·grind
   ·grind
   ·grind
   ·rw[acx  (f:=λi=>rx k (iM bu N ((t-1) / 2)) t S (low+i)) cd,a1,if_pos rfl];exact M.F aa J
   ·exact aF
  ·refine⟨_,?_,i+1,_,rfl,J,rfl,fC,d6,gV,ji,?_,aF,J⟩
   ·omega
   ·rw[acx  (f:=λi=>rx k (iM bu N ((t-1) / 2)) t S (low+i)) cd,a1,if_neg (by simp),hC];exact K
 ·have:i=m:=J
  subst this;refine cM @gr @mH ?_;refine⟨⟨_,rfl,?_⟩,λd V=>by rw[ar J];exact hk d V,J⟩;exact(dX.f dV).F (λd h1 ap=>ar J) J (cR _)
end
section
variable {s:ao} {k src len:Int} {N low m t i:Nat} {bu:ac Int} {eu aJ:X} {S:jS} {h:ae} {U:Nat}
def Al(h:ae)(al U:Nat)(w:X)(o:ao)(m:Nat)(q:Nat->ao):Prop:=(o=true/\w = .slice none 0 0/\∀i,i<m->q i=true)\/(o=false/\eY h al U w kd (eT m q))
def AkJ(p:Nat)(want:Int)(dp:X)(m bg:Nat)(q:Nat->ao)(h1:ae)(En:Nat)(aJ:ac X)(ab:ae)(Y:Nat):Prop :=
 ∃i acc,En=m-i/\i<=m/\aJ=[bb p,(want:X),acc,dp,(m:X),(i:X)]/\dX ab acc cY 1 (f9 (ez i q)) bg Y/\aA bg h1 ab/\bg<=Y
theorem alJ(P:pt h U eu k src len N bu)(au:jr h U aJ low m S)(t8:low+m<=N):
  aD Q s 331 [.agg ⟨[(k:X),(N:X),(src:X),(len:X),eu]⟩,aJ,(t:X)] h U (λr ab Y=>∃w o,r = .tuple ⟨[w,.bool o]⟩/\Al ab U Y w o m (λi=>tE k S (low+i))/\aA U h ab/\U<=Y):=by
 refine aoZ ?_;obtain⟨bs,js,dT,bn,D⟩:=id P;have M:=au;obtain⟨dp,fW,fw,rfl,fE,gh,gt⟩:=au;obtain⟨a9,gs,rfl,_⟩:=id bs;obtain⟨az,c1,rfl,_⟩:=id fE;obtain⟨a2,c2,rfl,_⟩:=id gh;obtain⟨a3,cm,rfl,_⟩:=id gt;have bH:∀{o aU},aA U h (T (T h U o) (U+1) aU):=aF
 unfold acn;refine aE ?_;refine(J0 (bs.F  bH J) bn J J J (hy.F M  bH J) (i9 _ _) (i9 _ _)).mono ?_;rintro _ bP bg ⟨rfl,I,fa⟩;have hd:=I U J;rw[ar J,aR]at hd;have dq:=I (U+1) J;rw[aR]at dq;rw[i9,i9]at *
 refine cM @hd @dq ?_;have fh:IntKind.wrap .i64 (((low+m:Nat):Int)-(low:Int))=(m:Int):=by rw[show((low+m:Nat):Int)-(low:Int)=(m:Int) by omega];exact jb m J
 have B:∀(A:Int) (q:Nat->ao),(∀i,i<m->q i=decide (S.A (low+i)=A))->∀H,u H (U+1)=some (.cells [(low:X),((low+m:Nat):X),.slice az m c1,.slice a2 m c2,.slice a3 (eT m λi=>S.q (low+i)).length cm] false)->aA U h H->Jj s (λr ab Y=>∃w o,r = .tuple ⟨[w,.bool o]⟩/\Al ab U Y w o m q/\aA U h ab/\U<=Y) (.pointer (some ⟨U+1,0,none⟩)) (.int .i64 A) H bg:=λA q di H fp uu=>by
  unfold Jj;refine bf @fp ?_;refine bF.mk (AkJ (U+1) A (.slice az m c1) m bg q H) m ⟨0,_,J,J,rfl,.inl ⟨rfl,rfl⟩,aF,J⟩ ?_;rintro _ _ ap bU ⟨i,acc,rfl,aj,rfl,K,D,dx⟩;rw[als];unfold X1;obtain⟨bz,Vq,oB,rfl⟩:=K.form;have fI:=(D (U+1) J).trans fp;refine aE ?_;refine⟨λcS=>?_,λeZ=>?_⟩
  ·obtain⟨b,aO,bL,cap,a1,e,bd,a5⟩:=Mf fE J;cases e;have E:=(D b J).trans ((uu b a1).trans bd)
   by_cases e:S.A (low+i)=A
   ·simp(disch:=omega)only[bk,E,a5,show(S.A (low+i) == A)=true from uC.2 e,cF (J:i<1000000000000),seval];refine me  (k:=1)  (λ_=>rfl) (λ_=>rfl) J (K.F  aa J) J (i:Int) (aR _ _ _) rfl (by unfold f9;rw[gW];have:=uZ i q;omega) λd7 b0 V e7=>?_;refine⟨_,J,i+1,_,rfl,J,rfl,?_,aF,J⟩;rw[JZ,di i J,hf e,if_pos rfl];exact V
   ·simp(disch:=omega)only[bk,E,a5,show(S.A (low+i) == A)=false from sa.2 e,cF (J:i<1000000000000),seval];refine⟨_,J,i+1,_,rfl,J,rfl,?_,D,dx⟩;rw[JZ,di i J,ht e,if_neg (by simp),hC];exact K
  ·have:i=m:=J
   subst this;refine cM @fI @fh ?_;refine(Ki   J K.rd (λx aX=>by unfold ez at aX;grind) (by have:=uZ i q;omega)).mono ?_;rintro w bh d9 ⟨jM,g6,hX⟩;rw[Q9]at jM;exact⟨_,_,rfl,.inr ⟨rfl,eY.F jM aa J J⟩,aF,J⟩
 unfold tE;rcases D with rfl|rfl|rfl|rfl
 ·refine aE ?_;exact B (-1) _ aa _ aa aF
 ·refine aE ?_;exact⟨_,_,rfl,.inl aa,aF,J⟩
 ·refine aE ?_;exact⟨_,_,rfl,.inl aa,aF,J⟩
 ·refine aE ?_;exact B 0 _ aa _ aa aF
def ov(z:Int × Int × ao):X:=.tuple ⟨[(z.1:X),(z.2.1:X),.bool z.2.2]⟩
theorem ajs{b:ao}(P:pt h U eu k src len N bu)(au:jr h U aJ low m S)(t8:low+m<=N)(aj:i<m)(h1:1<=t)(cK:t<1000):
  aD Q s 402 [.agg ⟨[(k:X),(N:X),(src:X),(len:X),eu]⟩,aJ,(t:X),(i:X),(y:X),.bool b] h U
   (c9 (ov (oa k (iM bu N ((t-1) / 2)) t S (low+i) (if b=true then some y else none))) U h):=by
 refine alu ?_;obtain⟨bs,js,dT,bn,hk⟩:=id P;obtain⟨dp,fW,fw,rfl,fE,gh,gt⟩:=au;obtain⟨a9,gs,rfl,_⟩:=id bs;obtain⟨a3,cm,rfl,_⟩:=id gt;obtain⟨dA,sp1,d6,aBr,iB,rfl,qI,yO⟩:=Mf fE aj;obtain⟨b2,mr,gV,rv,fH,rfl,kh,og⟩:=Mf gh aj;have V:∀{o aU},aA U h (T (T h U o) (U+1) aU):=aF
 have K:∀{o aU},u (T (T h U o) (U+1) aU) dA=_:=λ{o aU}=>(V dA iB).trans qI;have M:∀{o aU},u (T (T h U o) (U+1) aU) b2=_:=λ{o aU}=>(V b2 fH).trans kh;generalize A:oa k (iM bu N ((t-1) / 2)) t S (low+i) (if b=true then some y else none)=Z;have B:∀{w o aU},w=ov Z->c9 (ov Z) U h w (T (T h U o) (U+1) aU) (U+2):=λe=>⟨e,V,J⟩
 unfold Z4;refine ll @K @yO @M @og ?_;unfold oa at A;rcases hk with rfl|rfl|rfl|rfl
 ·cases b
  ·refine aE ?_;exact B (by rw[<-A];rfl)
  ·by_cases e:S.A (low+i) = -1
   ·refine bf @e ?_;exact B (by rw[<-A];simp[ov,e])
   ·simp(disch:=omega)only[bk,show(S.A (low+i) == -1)=false from sa.2 e,seval];exact B (by rw[<-A];simp[ov,e])
 ·unfold E5 tc;cases b
  ·refine aE ?_;exact B (by rw[<-A];rfl)
  ·refine aE ?_;exact⟨λe=>B (by rw[<-A];simp[ov,e]),λe=>B (by rw[<-A];simp[ov,e])⟩
 ·unfold E5 tc;cases b
  ·refine aE ?_;exact B (by rw[<-A];rfl)
  ·refine aE ?_;exact⟨λe=>B (by rw[<-A];simp[ov,e]),λe=>B (by rw[<-A];simp[ov,e])⟩
 ·unfold E5 NP tc
  by_cases aM:S.A (low+i)=0
  case neg =>
   simp(disch:=omega)only[bk,show(S.A (low+i) == 0)=false from sa.2 aM,seval];exact B (by rw[<-A];simp[ov,aM])
  have D:=O8 (J:t<4000000000)
  by_cases E:t % 2=0
  ·rw[E]at D
   replace D:bin Q .and 3 (t:X) (.int .i64 1) = .ok (.int .i64 0):=D
   cases b
   ·refine cM @aM @D ?_;exact B (by rw[<-A];simp[ov,aM,E])
   ·refine cM @aM @D ?_;exact B (by rw[<-A];simp[ov,aM,E])
  ·rw[show t % 2=1 by omega]at D
   replace D:bin Q .and 3 (t:X) (.int .i64 1) = .ok (.int .i64 1):=D
   cases b
   ·refine cM @aM @D ?_;exact B (by rw[<-A];simp[ov,aM,E])
   ·refine cM @aM @D ?_;refine(Z7 h1 J).f5 ⟨J,?_⟩;simp(disch:=omega)only[bk,iE,seval];have zg:IntKind.wrap .i64 ((low:Int)+(i:Int))=((low+i:Nat):Int):=by rw[<-vQ];exact jb _ J
    refine bf @zg ?_;refine(X8   (bs.F  V J) js J  J J).cz λbP cf dv I=>⟨I,?_⟩
    have cI:=V.trans dv J;refine aE ?_;exact⟨λe=>⟨by rw[<-A];simp[ov,aM,E,e],cI,J⟩,λe=>⟨by rw[<-A];simp[ov,aM,E,e],cI,J⟩⟩
end
section
variable {s:ao} {k src len:Int} {N low m t i:Nat} {bu:ac Int} {eu aJ r0:X} {S:jS} {xI:Nat->ay Int} {h:ae} {U:Nat}
theorem jN(o:ay Int):(if o.isSome=true then some (o.getD 0)else none)=o:=by cases o <;> rfl
theorem aiu{aBW I D E:Nat}{bj:ay Addr}{n6 hc:Nat}{d6 gV ji oF:ao}{a9:ay Addr}{gs:Nat}(P:pt h U (.slice a9 bu.length gs) k src len N bu)(au:jr h U aJ low m S)(cd:j8 h U (.agg ⟨[(m:X),.slice bj n6 hc]⟩) m xI)(M:low+m<=N)(aj:i<m)(h1:1<=t)(cK:t<1000)
  (bP:u h aBW=some (.cells [(m:X),.slice bj n6 hc] d6)) (g2:u h I=some (.cells [(k:X),(N:X),(src:X),(len:X),.slice a9 bu.length gs] gV)) (dz:u h D=some (.cells (c7 aJ) ji)) (dO:u h E=some (.cells [(t:X)] oF)) (DF:I<U) (V:D<U) (hpt:E<U):
  aD Q s 400 [(i:X),bb aBW,bb I,bb D,bb E] h U
   (c9 (ov (oa k (iM bu N ((t-1) / 2)) t S (low+i) (xI i))) U h):=by
 refine ajk ?_;have K:=au;obtain⟨dp,fW,fw,rfl,fE,gh,gt⟩:=au;obtain⟨az,c1,rfl,_⟩:=id fE;obtain⟨a2,c2,rfl,_⟩:=id gh;obtain⟨a3,cm,rfl,_⟩:=id gt;have bx:m<=63:=by have:=P.n60;omega
 unfold X2;refine bf @bP ?_;refine(as0 cd J aj).mono ?_;rintro _ ap bU ⟨rfl,A,B⟩;simp(disch:=omega)only[bk,(A I DF).trans g2,(A D V).trans dz,(A E hpt).trans dO,seval];refine(ajs   (P.F A B) (K.F A B) M aj h1 cK).mono ?_;rintro _ aH b1 ⟨rfl,f1,gg⟩;rw[jN];unfold ov;refine aE ?_;exact⟨rfl,aF,J⟩
theorem ajt(P:pt h U eu k src len N bu)(au:jr h U aJ low m S)(cd:j8 h U r0 m xI)(M:low+m<=N)(h1:1<=t)(cK:t<1000):
  aD Q s 336 [.agg ⟨[(k:X),(N:X),(src:X),(len:X),eu]⟩,aJ,(t:X),r0] h U (λr ab Y=>lO ab U Y r (low:Int) ((low+m:Nat):Int) m (cx m λi=>(oa k (iM bu N ((t-1) / 2)) t S (low+i) (xI i)).1) (cx m λi=>(oa k (iM bu N ((t-1) / 2)) t S (low+i) (xI i)).2.1) (λi=>(oa k (iM bu N ((t-1) / 2)) t S (low+i) (xI i)).2.2)/\aA U h ab/\U<=Y):=by
 refine alt ?_;obtain⟨bs,js,dT,bn,hk⟩:=id P;have I:=au;obtain⟨dp,fW,fw,rfl,fE,gh,gt⟩:=au;obtain⟨a9,gs,rfl,_⟩:=id bs;obtain⟨az,c1,rfl,_⟩:=id fE;obtain⟨a2,c2,rfl,_⟩:=id gh;obtain⟨a3,cm,rfl,_⟩:=id gt;have E:=cd;obtain⟨gK,rfl,hyi⟩:=cd;obtain⟨cp,jw,rfl,_⟩:=id hyi;have bH:∀{o eV dQ gu l2},aA U h (T (T (T (T (T h U o) (U+1) eV) (U+2) dQ) (U+3) gu) (U+4) l2):=aF
 unfold Z3;refine aE ?_;refine(J0 (bs.F  bH J) bn J J J (hy.F I  bH J) (i9 _ _) (i9 _ _)).mono ?_;rintro _ bP bg ⟨rfl,D,fa⟩;have hd:=D U J;rw[ar J,ar J,ar J,ar J,aR]at hd;have dq:=D (U+1) J;rw[ar J,ar J,ar J,aR]at dq;have eF:=D (U+2) J;rw[ar J,ar J,aR]at eF;have K:=D (U+3) J;rw[ar J,aR]at K;have mF:=D (U+4) J;rw[aR]at mF;have fh:IntKind.wrap .i64 (((low+m:Nat):Int)-(low:Int))=(m:Int):=by rw[show((low+m:Nat):Int)-(low:Int)=(m:Int) by omega];exact jb m J
 refine ll @hd @dq @K @fh ?_;have ey:∀{o},aA U h (T bP (U+1) o):=aF
 refine(v5 (E.F  ey J) J).cz λg2 bU A fx=>?_;have fC:=(A U J).trans ((ar J).trans hd);have d6:=(A (U+1) J).trans (aR _ _ _);have gV:=(A (U+2) J).trans ((ar J).trans eF);have ji:=(A (U+3) J).trans ((ar J).trans K);have oF:=(A (U+4) J).trans ((ar J).trans mF);have fr:=ey.trans A J;have En:((m:Int) == (m:Int))=true:=aa
 refine cM @ji @En ?_;unfold NO;refine bf @d6 ?_;refine(XV (mK:=λi=>(oa k (iM bu N ((t-1) / 2)) t S (low+i) (xI i)).1) (l8:=λi=>(oa k (iM bu N ((t-1) / 2)) t S (low+i) (xI i)).2.1) (q:=λi=>(oa k (iM bu N ((t-1) / 2)) t S (low+i) (xI i)).2.2) J λi ab Y aj B wH=>?_).mono ?_
 ·have hR:=fr.trans B J;exact aiu (P.F hR J) (jr.F I hR J) (E.F hR J) M aj h1 cK ((B _ J).trans ji) ((B _ J).trans fC) ((B _ J).trans d6) ((B _ J).trans gV) J J J
 rintro w ho eN ⟨dV,e7,ny⟩;have V:=dV;obtain⟨nI,l0,aD3,rfl,nO,qe,qY⟩:=dV;obtain⟨dA,en,rfl,_⟩:=id nO;obtain⟨b2,fT,rfl,_⟩:=id qe;obtain⟨d2,ia,rfl,_⟩:=id qY;have xH:=(e7 (U+4) J).trans oF;refine bf @xH ?_;exact⟨V.wid aa J J,aF,J⟩
end
theorem atl{i b w:Nat}(aj:i<n):g5 z (.slice (some ⟨b,0,some (w+1)⟩) n n) (some (i:X)) none none = .ok (.slice (some ⟨b,i*z,some (w+1)⟩) (n-i) (n-i)):=by
 show nZ z (some ⟨b,0,some (w+1)⟩) n false n n i=_;unfold nZ;rw[show(Nat.ble n n&&(Nat.ble n n&&Nat.ble i n))=true by simp;omega];unfold uW;rw[show Nat.beq n i=false by
  cases A:Nat.beq n i with
  |true=>exact absurd (gE A) J
  |false=>rfl]
 show R.ok (Value.slice (some ⟨b,Nat.add 0 (Nat.mul i z),some (w+1)⟩) (Nat.sub n i) (Nat.sub n i))=_;simp
theorem atm{i b w:Nat}(aj:i<n):g5 z (.slice (some ⟨b,0,some (w+1)⟩) n n) none (some (i:X)) none = .ok (.slice (some ⟨b,0,some (w+1)⟩) i n):=by
 show nZ z (some ⟨b,0,some (w+1)⟩) n false n i 0=_;unfold nZ;rw[show(Nat.ble n n&&(Nat.ble i n&&Nat.ble 0 i))=true by simp;omega];unfold uW;rw[show Nat.beq n 0=false by
  cases A:Nat.beq n 0 with
  |true=>have:=gE A;omega
  |false=>rfl]
 show R.ok (Value.slice (some ⟨b,Nat.add 0 (Nat.mul 0 z),some (w+1)⟩) (Nat.sub i 0) (Nat.sub n 0))=_;simp
theorem acy{aB:Type}{enc:aB->ac X}{k t e b i c U:Nat}{aO:ay Nat}{l:ac aB}{h:ae}(z:aB)(D:∀x,(enc x).length=k)(a5:∀x,ef (enc x)=true)(o8:ns Q t=true)(xE:rj Q t=some e)(aDb:nY Q e=some (enc z))(br:l.length=n)(aj:i<n)(M:u h b=some (.cells (a7 enc l) false)):
  pk Q .clear [t] h U [.slice (some ⟨b,i*k,aO⟩) (n-i) c] = .ok (.val j7 (T h b (.cells (a7 enc (l.take i++List.replicate (n-i) z)) false)) U):=by
 have ba:gS (n-i) (enc z)=a7 enc (List.replicate (n-i) z):=by
  rw[aqy];generalize n-i=q
  induction q with
  |zero=>rfl
  |succ q A=>rw[EA,EA,List.flatten_cons,A];rfl
 have B:∀q,ef (a7 enc (List.replicate q z))=true:=by
  intro q
  induction q with
  |zero=>rfl
  |succ q A =>
   rw[EA];show ef (enc z++a7 enc _)=true;have app:∀a b:ac X,ef a=true->ef b=true->ef (a++b)=true:=by
    intro a b E M
    induction a with
    |nil=>grind
    |cons x a A =>
     rw[ra,eA]at E;show ef (x::(a++b))=true;rw[ra,E.1,A E.2];rfl
   grind
 have V:(a7 enc l).length=n*k:=by rw[fX D,br]
 have I:(a7 enc (List.replicate (n-i) z)).length=(n-i)*k:=by rw[fX D,List.length_replicate]
 have bx:i*k+(n-i)*k=n*k:=by rw[<-xR];grind
 show(bif rk Q t||ns Q t then F5 Q t h U (.slice (some ⟨b,i*k,aO⟩) (n-i) c)else .no "clear")=_;rw[o8,Bool.or_true];obtain⟨m,K⟩:∃m,n-i=m+1:=⟨n-i-1,J⟩
 rw[K];show J8 Q t h U ⟨b,i*k,aO⟩ (m+1)=_;rw[<-K];unfold J8;rw[xE,FL,aDb,FL];simp only[];rw[ba,I0 M aa J,I];show R.ok _=_;rw[M8 J,hC,zK];have:=ZM D l 0 i
 grind
theorem ahh:ns Q 98=true:=by kernel_rfl
theorem azY:rj Q 98=some 274:=by kernel_rfl
theorem azZ:nY Q 274=some (eP (0,0)):=by kernel_rfl
def DlJ(b:Nat)(L:ac (Nat × Int))(q:Nat × Int->ao)(qV:X)(h:ae)(U:Nat)(t:Nat)(aJ:ac X)(ab:ae)(Y:Nat):Prop :=
 ∃(i j:Nat) (m:ac (Nat × Int)),t=L.length-j/\j<=L.length/\i<j/\aJ=[.slice (some ⟨b,0,some 3⟩) L.length L.length,qV,(i:X),(j:X)]/\m.length=L.length/\u ab b=some (.cells (a7 eP m) false) /\
  m.take i=(L.take j).filter (λp=>!q p)/\m.drop j=L.drop j/\(∀d,d<U->d≠b->u ab d=u h d)/\U<=Y
theorem avL{s:ao}{v:X}{h:ae}{U:Nat}(f3:L.length<1000000)(M:ep h U v eP 3 L)(bD:∀(p:Nat × Int),p∈L->∀ab Y,aA U h ab->U<=Y->aD Q s eL (.agg ⟨eP p⟩::cs) ab Y (c9 (.bool (q p)) Y ab)):
  aD Q s 396 [v,.func (.func eL) ⟨[]⟩ ⟨cs⟩] h U (λr ab Y=>(∃x:Int,r = (x:X)/\((x = -1/\∀p∈L,q p=false)\/∃n y,x=(n:Nat)/\L[n]? = some y/\q y=true/\∀p∈L.take n,q p=false))/\aA U h ab/\U<=Y):=by
 refine VV ?_;unfold Nz;obtain⟨a9,cap,rfl,a5⟩:=id M;refine aE ?_;refine bF.mk (λm aJ ab Y=>∃i,m=L.length-i/\i<=L.length/\aJ=[.slice a9 L.length cap,.func (.func eL) ⟨[]⟩ ⟨cs⟩,.int .i64 0,(L.length:X),(i:X)]/\(∀p∈L.take i,q p=false)/\aA U h ab/\U<=Y) L.length ⟨0,J,J,rfl,aa,aF,J⟩ ?_;rintro _ _ ap bU ⟨i,rfl,aj,rfl,qH,D,A⟩;rw[VR];unfold Nt;refine aE ?_;refine⟨λV=>?_,λeZ=>⟨⟨-1,rfl,aa⟩,D,A⟩⟩;obtain⟨p,K⟩:=dW   J;obtain⟨b,aU,aO,bL,rz,E,a1,aW,bd,B⟩:=(M.F D A).ld (λ_=>rfl) K;cases aW;refine cM @bd @B ?_;refine(bD p aa ap bU D A).mono ?_;rintro _ aH b1 ⟨rfl,f1,I⟩;refine bf (cF (J:i<1000000000000)) ?_;refine⟨λdi=>⟨⟨_,rfl,aa⟩,aF,J⟩,λdi=>⟨_,J,i+1,rfl,J,rfl,λy cd=>?_,aF,J⟩⟩;rw[hq,K]at cd
 grind
theorem wrS{h:ae}{b i:Nat}{m:ac (Nat × Int)}{x:Nat × Int}(aj:i<m.length):iW (some (.cells (a7 eP m) false)) h b (i*3) [(x.1:X),.int .i64 (x.2 / 18446744073709551616),.int .u64 (x.2 % 18446744073709551616)] = .ok (T h b (.cells (a7 eP (m.set i x)) false)):=RK  (k:=3) (λ_=>rfl) (λ_=>rfl) aj
theorem nc.o{h:ae}{U:Nat}{v:X}{L:ac (Nat × Int)}{so:ay Nat}(H:nc h v L so)(A:∀b,so=some b->b<U):ep h U v eP 3 L:=by
 rcases H with⟨rfl,rfl,_⟩|⟨b,e,rfl,B⟩
 ·exact ep.nil
 ·exact dg.o   (λ_=>rfl) ⟨_,_,rfl,λ_=>⟨b,_,false,A b e,rfl,B⟩⟩
theorem nc.b{h:ae}{v:X}{L:ac (Nat × Int)}{so:ay Nat}(H:nc h v L so):ua h v eP 3 L (λb=>so=some b):=by
 rcases H with⟨rfl,rfl,_⟩|⟨b,e,rfl,A⟩
 ·exact⟨_,_,rfl,λh=>absurd rfl h⟩
 ·exact⟨_,_,rfl,λ_=>⟨b,0,some 3,false,_,e,rfl,(by simp),J,A,by rw[fX (k:=3) (λ_=>rfl)];omega,by rw[nr,q3 (by rw[fX (k:=3) (λ_=>rfl)];omega)]⟩⟩
theorem apv{s:ao}{v:X}{h:ae}{U:Nat}(f3:L.length<100000)(aI:nc h v L so)(M:∀b,so=some b->b<U)(bD:∀(p:Nat × Int),p∈L->∀ab Y,(∀d,d<U->so≠some d->u ab d=u h d)->U<=Y->aD Q s eL (.agg ⟨eP p⟩::cs) ab Y (c9 (.bool (q p)) Y ab)):
  aD Q s 332 [v,.func (.func eL) ⟨[]⟩ ⟨cs⟩] h U (λr ab Y=>ua ab r eP 3 (L.filter λp=>!q p) (λb=>so=some b)/\(∀d,d<U->so≠some d->u ab d=u h d)/\U<=Y):=by
 refine ahN ?_;refine(avL  J (aI.o M) λp bn ab Y hk dx=>bD p bn ab Y (λd I _=>hk d I) dx).mono ?_;rintro _ h1 bg ⟨⟨x,rfl,⟨rfl,qH⟩|⟨i,y,rfl,cd,di,qH⟩⟩,D,E⟩
 ·obtain⟨a,c,rfl,_⟩:=id (aI.o M);refine aE ?_;refine⟨?_,λd I _=>D d I,E⟩;rw[zx.2 aa];exact(aI.b).F (λb e=>D b aa) aa
 ·have B:=(g0.1 cd).1;rcases aI with⟨rfl,rfl,_⟩|⟨b,rfl,rfl,bd⟩
  ·cases cd
  have fH:=M b rfl;have hf0:(L.take (i+1)).filter (λp=>!q p)=L.take i:=by
   rw[hq,cd,s4,zx.2 aa]
   grind
  refine bf (cF (J:i<1000000000000)) ?_;refine⟨λaq=>absurd aq (by simp),λ_=>?_⟩;refine bF.mk (DlJ b L q _ h U) (L.length-(i+1)) ⟨i,i+1,L,rfl,B,J,rfl,rfl,(D b fH).trans bd,hf0.symm,rfl,λd I _=>D d I,E⟩ ?_;rintro _ _ ab jZ ⟨i,k,m,rfl,hk,hik,rfl,bx,Mg,A,Mh,sD,dx⟩;rw[ahI];unfold VL;have cz:IntKind.wrap .i64 ((k:Int)+1)=((k+1:Nat):Int):=cF J;have Ig:IntKind.wrap .i64 ((i:Int)+1)=((i+1:Nat):Int):=cF J;refine aE ?_;refine⟨λcS=>?_,λeZ=>?_⟩
  ·obtain⟨y,cd⟩:=dW (l:=m) (i:=k) J;have hly:L[k]? = some y:=by
    have:=congrArg (·[0]?) Mh
    grind
   have lS:hg (some 3) (k*3) (a7 eP m) = .ok (.agg ⟨eP y⟩):=by rw[qm,fX (k:=3) (λ_=>rfl),if_pos J,uN (k:=3) (λ_=>rfl) cd]
   refine cM @Mg @lS ?_;rw[show eP y=[(y.1:X),.int .i64 (y.2 / 18446744073709551616),.int .u64 (y.2 % 18446744073709551616)]from rfl];refine aE ?_;refine(bD y aa _ (jZ+1) (λd I bw=>by rw[ar J,ar J];grind) J).mono ?_;rintro _ ap bU ⟨rfl,V,fx⟩;have bP:=V jZ J;rw[aR]at bP;have g2:=V b J;rw[ar J,ar J,Mg]at g2;have lP:∀d,d<U->d≠b->u ap d=u h d:=λd I bw=>by rw[V d J,ar J,ar J];grind
   have K:∀(bR:ac (Nat × Int)),(∀q,k<q->bR[q]? = m[q]?)->bR.drop (k+1)=L.drop (k+1):=λbR DB=>by apply q6;intro q;rw[ux,DB _ J,<-ux,<-xO,Mh,xO]
   simp(disch:=omega)only[bk,bP,g2,Ig,cz,wrS (m:=m)  (i:=i) J,seval];refine⟨λdi=>?_,λdi=>?_⟩
   ·refine⟨L.length-(k+1),J,i+1,k+1,m.set i y,rfl,J,J,rfl,aa,aa,?_,K _ (λq di=>by rw[vP,if_neg J]),aa,J⟩;rw[hq,List.take_set_of_le J,A,hq,hly,s4,vP,if_pos rfl,if_pos J]
    grind
   ·refine⟨L.length-(k+1),J,i,k+1,m,rfl,J,J,rfl,bx,g2,?_,K _ (λ_ _=>rfl),lP,J⟩;rw[A,hq,hly,s4]
    grind
  ·have Ba:k=L.length:=J
   subst Ba;rw[hB]at A;simp(disch:=omega)only[bk,atl    (J:i<L.length),acy    (0,0)  (k:=3) (λ_=>rfl) (λ_=>rfl) ahh azY azZ bx (J:i<L.length) Mg,dI,atm    (J:i<L.length),seval];refine⟨?_,λd I bw=>aa,J⟩;have B:i=(L.filter λp=>!q p).length:=aa
   refine⟨some ⟨b,0,some 3⟩,L.length,aa,λ_=>⟨b,0,some 3,false,_,rfl,rfl,(by simp),zu ..,aR _ _ _,?_,?_⟩⟩
   ·rw[fX (k:=3) (λ_=>rfl),jk,<-B,A,<-B];omega
   ·rw[zK,A,nr,<-fX (k:=3) (enc:=eP) (λ_=>rfl),IT]
section
variable {c:Nat->X} {h ab:ae} {U Y k j b:Nat} {v:X}
theorem acz{aB:Type}(f:Nat->aB){m:Nat}(A:k+m<=n):(((List.range n).map f).drop k).take m=(List.range m).map λi=>f (k+i):=by
 refine q6 λi=>?_
 grind
theorem AH:dE c=(List.range 45).map c:=rfl
theorem wkg(A:k<45):(dE c)[k]? = some (c k):=by rw[AH,s5,Ex A];rfl
theorem wks(A:k<45):(dE c).set k v=dE (hl c k v):=by
 rw[AH,AH];refine q6 λi=>?_;rw[vP,gW,EB]
 by_cases aj:i<45
 ·rw[s5,s5,Ex aj]
  by_cases e:k=i
  ·subst e;rw[if_pos rfl,if_pos A];unfold hl;grind
  ·rw[if_neg e];unfold hl;grind
 grind
theorem wk5(A:k+5<=45):hg (some 5) k (dE c) = .ok (.agg ⟨[c k,c (k+1),c (k+2),c (k+3),c (k+4)]⟩):=by rw[qm,Gl,if_pos J,AH,acz c A];rfl
theorem wk6(A:k+6<=45):hg (some 6) k (dE c) = .ok (.agg ⟨[c k,c (k+1),c (k+2),c (k+3),c (k+4),c (k+5)]⟩):=by rw[qm,Gl,if_pos J,AH,acz c A];rfl
theorem tp{l:ac X}(A:j<k\/k+l.length<=j):nz c k l j=c j:=by unfold nz;grind
theorem wkL{l:ac X}(B:k+l.length<=45):(dE c).take k++l++(dE c).drop (k+l.length)=dE (nz c k l):=by
 rw[AH,AH];refine q6 λi=>?_
 by_cases A:i<k
 ·rw[kq,uw aa,uy,if_pos A,s5,s5,Ex J];show some (c i)=some (nz c k l i);rw[tp J]
 ·by_cases E:i<k+l.length
  ·rw[kq,zr aa,uw aa,s5,Ex J];unfold nz
   grind
  ·rw[zr aa,ux,jk,nU,gW,EB,show k+l.length+(i-(min k 45+l.length))=i by omega,s5,s5];cases D:(List.range 45)[i]? with
   |none=>rfl
   |some x =>
    have:x=i:=aa
    subst this;show some (c x)=some (nz c k l x);rw[tp J]
theorem wkw{A D B I E:X}{K:ae->Prop}(M:k+5<=45):af (iW (some (.cells (dE c) false)) h b k [A,D,B,I,E]) K↔ef [A,D,B,I,E]=true/\K (T h b (.cells (dE (nz c k [A,D,B,I,E])) false)):=
 z6.trans ⟨λx=>⟨x.1,by rw[<-wkL J];exact x.2.2⟩,λx=>⟨x.1,by rw[Gl];omega,by rw[wkL J];exact x.2⟩⟩
theorem yt:hl c k v k=v:=if_pos rfl
theorem dP(h:j≠k):hl c k v j=c j:=if_neg h
def hT:=And.intro @wkg (And.intro @wks (And.intro @wk5 (And.intro @wk6 (And.intro @wkw (And.intro @Gl (And.intro @yt @dP))))))
theorem ax1{p q B D:Prop}(aC:B)(A:D)(h:q)(e:B->D->q->p:=by intro aC A h;simp(config:={maxSteps:=1000000})(disch:=omega)only[bk,hT,↓reduceIte,Nat.reduceAdd,Nat.reduceSub,Nat.reduceMul,Nat.reduceLT,Nat.reduceLeDiff,Nat.reduceEqDiff,Int.reduceBEq,Int.reduceLT,Int.reduceNeg,aC,A];exact h):p:=e aC A h
theorem GA{p q A:Prop}(aC:A)(h:q)(e:A->q->p:=by intro aC h;simp(config:={maxSteps:=1000000})(disch:=omega)only[bk,hT,aC,seval];exact h):p:=e aC h
theorem u5{p q B D:Prop}(aC:B)(A:D)(h:q)(e:B->D->q->p:=by intro aC A h;simp(config:={maxSteps:=1000000})(disch:=omega)only[bk,hT,aC,A,seval];exact h):p:=e aC A h
theorem yu{p q E D I:Prop}(aC:E)(A:D)(B:I)(h:q)(e:E->D->I->q->p:=by intro aC A B h;simp(config:={maxSteps:=1000000})(disch:=omega)only[bk,hT,aC,A,B,seval];exact h):p:=e aC A B h
theorem Am{p q K I M E:Prop}(aC:K)(B:I)(D:M)(A:E)(h:q)(e:K->I->M->E->q->p:=by intro aC B D A h;simp(config:={maxSteps:=1000000})(disch:=omega)only[bk,hT,aC,B,D,A,seval];exact h):p:=e aC B D A h
theorem KH{p q M K zm I V:Prop}(aC:M)(D:K)(E:zm)(A:I)(B:V)(h:q)(e:M->K->zm->I->V->q->p:=by intro aC D E A B h;simp(config:={maxSteps:=1000000})(disch:=omega)only[bk,hT,aC,D,E,A,B,seval];exact h):p:=e aC D E A B h
end
section
variable {own db:Nat->Nat} {h ab g cG:ae} {U Y al aj k dJ:Nat} {v:X}
def jt(own:Nat->Nat)(h:ae)(U:Nat)(g:ae):Prop:=∀d,u g d=if d<U/\own d=0 then u h d else none
theorem CI(own:Nat->Nat)(h:ae):∀U,∃g,jt own h U g
 |0=>⟨iy,λd=>by rw[if_neg J];exact Jq d⟩
 |U+1=>by
  obtain⟨g,A⟩:=CI own h U
  by_cases e:own U=0/\u h U≠none
  ·obtain⟨o,D⟩:=M4.1 e.2;refine⟨T g U o,λd=>?_⟩
   by_cases B:d=U
   ·grind
   ·rw[ar B,A d]
    grind
  ·refine⟨g,λd=>?_⟩;rw[A d]
   grind
structure D1 (dJ:Nat) (own db:Nat->Nat) (h ab:ae) (U Y:Nat):Prop where
 le:U<=Y
 same:∀d,d<U->own d≠dJ->u ab d=u h d
 dZ:∀d,d<U->db d=own d
 new:∀d,U<=d->db d=0\/db d=dJ
def lb(g h:ae):Prop:=∀d o,u g d=some o->u h d=some o
theorem jt.sub(eL:jt own h U g):lb g h:=λd o A=>by
 rw[eL d]at A
 grind
theorem jt.F(eL:jt own h U g)(B:jt db ab Y cG)(D:D1 dJ own db h ab U Y)(E:dJ≠0):aA U g cG:=λd A=>by
 rw[eL d,B d,D.dZ d A]
 by_cases e:own d=0
 ·rw[if_pos ⟨by have:=D.le;omega,e⟩,if_pos ⟨A,e⟩,D.same d A J]
 grind
theorem jt.new(B:jt db ab Y cG)(I:aj<=Y)(D:∀d,al<=d->d<aj->db d=0):∀d,al<=d->d<aj->u cG d=u ab d:=λd E A=>by rw[B d,if_pos ⟨J,D d E A⟩]
variable {aB:Type} {enc:aB->ac X} {l:ac aB}
theorem ep.sub(H:ep g U v enc k l)(S:lb g h):ep h U v enc k l:=by obtain⟨a,cap,e,H⟩:=H;refine⟨a,cap,e,λB=>?_⟩;obtain⟨b,o,I,D,cs,A,K,E,M⟩:=H B;exact⟨b,o,I,D,cs,A,K,S _ _ E,M⟩
theorem u6(H:dg g U v enc l)(S:lb g h):dg h U v enc l:=by obtain⟨a,cap,e,H⟩:=H;refine⟨a,cap,e,λB=>?_⟩;obtain⟨b,I,D,A,K,E⟩:=H B;exact⟨b,I,D,A,K,S _ _ E⟩
theorem hy.sub{low D:Int}{A B:ac Int}{q:Nat->ao}(H:hy g U v low D n A B q)(S:lb g h):hy h U v low D n A B q:=by obtain⟨K,I,E,e,a,b,c⟩:=H;exact⟨K,I,E,e,u6 a S,u6 b S,u6 c S⟩
theorem lh.sub{l:ac Int}(H:lh g U v l)(S:lb g h):lh h U v l:=by
 obtain⟨aY,A,B⟩:=H;refine⟨aY,?_,B⟩;rcases A with w|⟨b,e,D,E⟩
 ·exact .inl w
 ·exact .inr ⟨b,e,D,S _ _ E⟩
theorem kw.sub{r c:Nat}{ag:ac GE}(H:kw g U v r c ag)(S:lb g h):kw h U v r c ag:=by obtain⟨b,I,cap,E,K,e,A,D,B,M⟩:=H;exact⟨b,I,cap,E,K,e,A,S _ _ D,B.sub S,M.sub S⟩
theorem iR.sub{al aj:Nat}(H:iR g al aj v enc k l)(S:lb g h):iR h al aj v enc k l:=by
 rcases H with H|⟨b,B,D,e,A⟩
 ·exact .inl H
 ·exact .inr ⟨b,B,D,e,S _ _ A⟩
theorem mX.sub{r c:Nat}{ag:ac GE}(H:mX g U v r c ag)(S:lb g h):mX h U v r c ag:=by obtain⟨E,B,K,I,e,M,A,V,D⟩:=H;exact⟨E,B,K,I,e,M.sub S,A.sub S,(iR.sub V S),D.sub S⟩
end
def Rf:cO:=λs ah h U K=>bX [(ad 0),(ad 0),(ad 0),(ad 0),(ad 0),(ad 0),aw,aw,aw,(ad 0),(.bool false)] h U λa b c=>aV s 65 [ah] b c λd e f=>bm .eql 3 d (ad 0) (af (cw [(ad 0),(ad 0),(ad 0),(ad 0),(ad 0),(ad 0),aw,aw,aw,(ad 0),(.bool false)] []) λi=>af (aN e 11 a i) λj=>aG 11 j a λk=>K (.tuple ⟨[k,(.bool false)]⟩) j f) (af (bB ah) λl=>av e 22 l λn=>gD 11 e 11 n (ad 0) λp=>aV s 129 [p] e f λq r t=>af (aN r 11 a q) λaS=>aG 11 aS a λv=>K (.tuple ⟨[v,(.bool true)]⟩) aS t)
theorem acA:cQ 61 Rf:=cT []
def avM:cO:=λs ah h U K=>aV s 65 [ah] h U λa b c=>hP a (ad 0) (af (bB ah) λe=>av b 22 e λg=>af (g5 11 g (some (ad 1)) (some a) (some a)) λi=>af (bB ah) λj=>bl 22 j λk=>af (aN b 1 k i) λl=>K (.tuple ⟨[]⟩) l c) (K (.tuple ⟨[]⟩) b c)
theorem atn:cQ 62 avM:=cT []
def Fz(s:ao)(K:bZ)(cA ca TO:X)(aq:ae)(a0:Nat):Prop:=bt TO (K (.bool false) aq a0) (af (bB cA) λa=>bl 7 a λb=>av aq 1 b λd=>av aq 1 ca λf=>cg 131 [d,f] aq a0 λg i j=>af (bB cA) λk=>bl 7 k λl=>bl 1 l λm=>bY i m λn=>da m n (bl 1 ca λo=>bY i o λp=>da o p (cg 132 [n,p] i j λq r t=>af (cw [(ad 0),(ad 0)] [(0,1,g),(1,1,q)]) λaS=>bX [(ad 0),(ad 0)] r t λv w x=>af (aN w 2 v aS) λy=>av y 0 ca λbz=>bm .eql 94 bz (ad 1) (aG 11 y ca λbA=>aG 2 y v λa9=>aV s 133 [cA,bA,a9] y x λbM b5 bO=>K bM b5 bO) (bm .eql 94 bz (ad 2) (aG 11 y ca λcp=>aG 2 y v λdk=>aV s 134 [cA,cp,dk] y x λc3 eo am=>K c3 eo am) (bm .eql 94 bz (ad 3) (aG 11 y ca λek=>aG 2 y v λfK=>aV s 135 [cA,ek,fK] y x λfU gk hp=>K fU gk hp) (bm .eql 94 bz (ad 4) (aG 11 y ca λfV=>aG 2 y v λjA=>aV s 136 [cA,fV,jA] y x λjB jJ lj=>K jB jJ lj) (bm .eql 94 bz (ad 5) (aG 11 y ca λb7=>aG 2 y v λoD=>aV s 137 [cA,b7,oD] y x λbe kK ic=>K be kK ic) (K (.bool false) y x)))))) 1 [aq]) 1 [aq])
def aeI:c0:=λs ah t1 h U K=>bG t1 h U λa b c=>bm .eql 83 ah (.pointer none) (Fz s K ah a (.bool true) b c) (cg 130 [ah] b c λe f g=>bl 2 a λi=>bY f i λj=>da i j (bm .neq 3 j e (Fz s K ah a (.bool true) f g) (av f 1 a λm=>cv m (ad 0) (Fz s K ah a (.bool true) f g) (av f 1 a λp=>af (bB ah) λq=>bl 7 q λr=>av f 0 r λaS=>af (bB ah) λv=>bl 7 v λw=>av f 1 w λy=>bE .mul 3 aS y λz=>bE .geq 3 p z λbz=>(Fz s K ah a bz f g)))) 1 [b])
theorem ato:c4 63 aeI:=c5 []
def aeJ:cO:=λs ah h U K=>bm .eql 83 ah (.pointer none) (K (ad 0) h U) (af (bB ah) λb=>av h 22 b λd=>cP d λe=>K e h U)
theorem atp:cQ 65 aeJ:=cT []
def Z9:cO:=λs ah h U K=>bm .eql 83 ah (.pointer none) (K (ad 0) h U) (af (bB ah) λb=>av h 27 b λd=>K d h U)
theorem alK:cQ 67 Z9:=cT []
def acB:cO:=λs ah h U K=>bm .eql 83 ah (.pointer none) (K (ad 0) h U) (af (bB ah) λb=>av h 26 b λd=>K d h U)
theorem apw:cQ 68 acB:=cT []
def acC:cO:=λs ah h U K=>bX [(ad 0),(ad 0),aw,aw,aw] h U λa b c=>bm .eql 83 ah (.pointer none) (af (cw [(ad 0),(ad 0),aw,aw,aw] []) λe=>af (aN b 5 a e) λf=>aG 5 f a λg=>K g f c) (af (bB ah) λi=>iS 5 b 28 i λk=>bX [(ad 0),(ad 0),aw,aw,aw] b c λl m n=>af (aN m 5 l k) λo=>av o 2 l λq=>cg 88 [q] o n λr t aS=>bl 3 l λv=>bY t v λw=>da v w (cg 88 [w] t aS λx y z=>bl 4 l λbz=>bY y bz λbS=>da bz bS (cg 139 [bS] y z λbA a9 bM=>bl 0 l λb5=>bY a9 b5 λbO=>da b5 bO (bl 1 l λcJ=>bY a9 cJ λcp=>da cJ cp (af (cw [(ad 0),(ad 0),aw,aw,aw] [(0,1,bO),(1,1,cp),(2,1,r),(3,1,x),(4,1,bA)]) λdk=>af (aN a9 5 a dk) λc3=>aG 5 c3 a λeo=>K eo c3 bM) 3 [y,t,o]) 3 [y,t,o]) 2 [t,o]) 1 [o])
theorem apx:cQ 69 acC:=cT []
def af6:cO:=λs ah h U K=>bG ah h U λa b c=>bX [(ad 0),(ad 0),(ad 0),(ad 0),(ad 0),(ad 0),aw,aw,aw,(ad 0),(.bool false)] b c λd e f=>bl 5 a λg=>av e 1 g λj=>cg 217 [j] e f λk l m=>bl 7 a λn=>bY l n λo=>da n o (cg 218 [o] l m λp q r=>bl 5 a λt=>bl 1 t λaS=>af (aN q 1 aS k) λv=>bl 7 a λw=>af (aN v 1 w p) λx=>aG 11 x a λy=>af (aN x 11 d y) λz=>aG 11 z d λbz=>K bz z r) 1 [e]
theorem avN:cQ 129 af6:=cT []
def aaa:cO:=λs ah h U K=>bm .eql 83 ah (.pointer none) (K (ad (-1)) h U) (af (bB ah) λb=>bl 0 b λc=>av h 0 c λe=>af (bB ah) λf=>bl 0 f λg=>av h 1 g λj=>cg 219 [ah,e,j] h U λk l m=>K k l m)
theorem alL:cQ 130 aaa:=cT []
def Fh:ac (ac Nat):=[[0,11,84,85],[0,13,127,128]]
def WY(s:ao)(aC d5 Um Mi:X)(h:ae)(U:Nat)(N:aQ)(aM:aQ)(R:aQ):Prop:=cv Mi Um (af (bB aC) λb=>av h 24 b λd=>af (j9 Q h 3 (.agg #[(ad 0),aw]) false d Mi) λe=>dS (eO 1 [(ad 0),aw] [(0,2,e)]) h U λf g i=>dm (dI (dn 2 g i d5 f)) λj k l=>b9 Mi λm=>N [aC,j,Um,m] k l) (aM [aC,d5,Um,Mi] h U)
def WZ(s:ao)(aC ik Ss Lb:X)(h:ae)(U:Nat)(N:aQ)(aP:aQ)(R:aQ):Prop:=cv Lb Ss (af (bB aC) λb=>bl 0 b λc=>av h 1 c λe=>cg 219 [aC,Lb,e] h U λf g i=>af (bB aC) λj=>bl 23 j λk=>bY g k λl=>da k l (aG 2 g ik λm=>jx 2 ik m (af (cw [(ad 0),(ad 0),(ad 0),(ad 0),(ad 0),(ad 0),aw,aw,aw,(ad 0),(.bool false)] [(0,1,(ad 2)),(2,1,f),(4,1,l),(5,2,m)]) λn=>cg 213 [aC,n] g i λo p q=>b9 Lb λr=>N [aC,ik,Ss,r] p q) 1 [h]) 1 [h]) (aP [aC,ik,Ss,Lb] h U)
def BZ(s:ao)(K:bZ)(cA eb fi Un:X)(aq:ae)(a0:Nat):Prop:=bt Un (K (.bool false) aq a0) (af (bB cA) λa=>av aq 24 a λc=>av aq 0 eb λe=>aG 2 aq fi λf=>af (mU Q 3 aq c e f) λg=>af (bB cA) λi=>av g 24 i λk=>af (wD g k) λl=>af (bB cA) λm=>bl 7 m λn=>av g 0 n λp=>cv l p (K (.bool true) g a0) (af (bB cA) λr=>bl 7 r λt=>av g 0 t λv=>bF (bW Q s Fh 133 0) [cA,aw,v,(ad 0)] g a0 [(0,λw x y=>af (bB (aT w 0)) λz=>bl 2 z λbz=>av x 1 bz λbA=>af (bB (aT w 0)) λa9=>bl 7 a9 λbM=>av x 0 bM λbO=>af (bB (aT w 0)) λcJ=>bl 7 cJ λcp=>av x 1 cp λc3=>af (bB (aT w 0)) λeo=>bl 0 eo λam=>av x 1 am λek=>cg 223 [bA,bO,c3,ek,(aT w 1)] x y λfK fU gk=>af (cu fK 0) λhp=>bX [(ad 0),aw] fU gk λhQ fV jA=>af (aN fV 2 hQ hp) λjB=>af (cu fK 1) λjJ=>af (bB (aT w 0)) λlj=>bl 7 lj λfj=>av jB 0 fj λoD=>bF (bW Q s Fh 133 1) [(aT w 0),hQ,oD,(ad 0)] jB jA [(2,λbe kK ic=>af (bB (aT be 0)) λfF=>av kK 24 fF λp6=>dm (dI (pk Q .clear [171] kK ic [p6])) λmC jK iF=>af (bB (aT be 0)) λpa=>av jK 23 pa λp7=>b9 p7 λeJ=>af (bB (aT be 0)) λuk=>bl 23 uk λgx=>af (aN jK 1 gx eJ) λjI=>K (.bool true) jI iF)] (λ_ _ _=>False))] (λ_ _ _=>False)))
def aab:gj:=λs ah t1 t2 h U K=>bG t1 h U λa b c=>bG t2 b c λd e f=>av e 0 d λi=>cg 222 [ah,i] e f λj k l=>aG 11 k a λm=>jx 11 a m (cg 221 [m,j] k l λn o p=>af (cu n 0) λq=>bX [(ad 0),aw] o p λr t aS=>af (aN t 2 r q) λv=>af (cu n 1) λw=>af (bB ah) λx=>av v 24 x λz=>av v 0 d λbS=>af (j9 Q v 3 (.agg #[(ad 0),aw]) true z bS) λbA=>af (cu bA 0) λa9=>bX [(ad 0),aw] v aS λbM b5 bO=>af (aN b5 2 bM a9) λcJ=>af (cu bA 1) λcp=>bt cp (BZ s K ah d r (.bool true) cJ bO) (af (ds .not w) λdk=>bt dk (BZ s K ah d r (.bool true) cJ bO) (af (bB ah) λc3=>bl 0 c3 λeo=>av cJ 0 eo λan=>bm .neq 3 an (ad 0) (BZ s K ah d r (.bool true) cJ bO) (av cJ 1 d λfU=>bm .neq 3 fU (ad 0) (BZ s K ah d r (.bool true) cJ bO) (av cJ 4 a λhQ=>af (bB ah) λfV=>av cJ 23 fV λjB=>bE .neq 3 hQ jB λjJ=>(BZ s K ah d r jJ cJ bO)))))) 1 [e]
theorem aju{s:ao}{B D A:X}{h:ae}{U:Nat}{N R:aQ}:bW Q s Fh 133 0 [aC,B,D,A] h U N [(0,aM)] R=WY s aC B D A h U N aM R:=by kernel_rfl
theorem ajv{s:ao}{D B A:X}{h:ae}{U:Nat}{N E R:aQ}:bW Q s Fh 133 1 [aC,D,B,A] h U N [(2,E)] R=WZ s aC D B A h U N E R:=by kernel_rfl
theorem alM:gw 133 aab:=gz Fh
def EW(s:ao)(K:bZ)(cA c6 fi Uo:X)(aq:ae)(a0:Nat):Prop:=bt Uo (K (.bool false) aq a0) (av aq 4 c6 λb=>aV s 224 [cA,b] aq a0 λc d e=>bX [(ad 0),(ad 0)] d e λf g i=>af (aN g 2 f c) λj=>af (bB cA) λk=>bl 2 k λl=>av j 0 l λn=>av j 4 c6 λp=>cg 225 [n,p] j i λq r t=>bl 1 f λaS=>bY r aS λv=>da aS v (aG 2 r fi λw=>jx 2 fi w (cg 226 [v,w] r t λx y z=>af (bB cA) λbz=>bl 11 bz λbS=>aG 5 y bS λbA=>jx 5 bS bA (af (bB cA) λa9=>bl 16 a9 λbM=>aG 6 y bM λb5=>jx 6 bM b5 (bl 0 f λbO=>bY y bO λcJ=>da bO cJ (af (cw [(ad 0),(ad 0),(ad 0),aw,aw,aw,(ad 0),(ad 0),aw,aw,aw,aw,(ad 0),(ad 0),aw,(ad 0),aw,aw,aw,(.bool false),(ad 0)] [(0,1,q),(1,5,bA),(6,6,b5),(12,6,x),(19,1,(.bool true)),(20,1,cJ)]) λcp=>bX [(ad 0),(ad 0),(ad 0),aw,aw,aw,(ad 0),(ad 0),aw,aw,aw,aw,(ad 0),(ad 0),aw,(ad 0),aw,aw,aw,(.bool false),(ad 0)] y z λdk c3 eo=>af (aN c3 21 dk cp) λam=>aG 21 am dk λan=>aV s 227 [an] am eo λek fK fU=>af (cu ek 0) λgk=>af (cu ek 1) λhp=>af (cu ek 2) λhQ=>af (bB cA) λfV=>av fK 25 fV λjB=>b9 jB λjJ=>af (bB cA) λlj=>bl 25 lj λfj=>af (aN fK 1 fj jJ) λb7=>af (bB cA) λoD=>bl 0 oD λbe=>av b7 0 be λic=>cg 219 [cA,ic,(ad 0)] b7 fU λfF bi p6=>bl 4 c6 λmC=>bY bi mC λjK=>da mC jK (af (cw [(ad 0),(ad 0),(ad 0),(ad 0),(ad 0),(ad 0),aw,aw,aw,(ad 0),(.bool false)] [(0,1,(ad 3)),(2,1,fF),(4,1,jK),(7,1,gk)]) λiF=>cg 213 [cA,iF] bi p6 λpa aY p7=>K (.bool true) aY p7) 1 [b7]) 2 [r,j]) 2 [r,j]) 2 [r,j]) 1 [j]) 1 [j])
def X9:gj:=λs ah t1 t2 h U K=>bG t1 h U λa b c=>bG t2 b c λd e f=>aG 11 e a λg=>af (bB ah) λi=>bl 11 i λj=>av e 1 j λl=>cg 221 [g,l] e f λm n o=>af (cu m 0) λp=>bX [(ad 0),aw] n o λq r t=>af (aN r 2 q p) λaS=>af (cu m 1) λv=>af (ds .not v) λw=>bt w (EW s K ah a q (.bool true) aS t) (av aS 0 d λy=>bm .neq 3 y (ad 0) (EW s K ah a q (.bool true) aS t) (av aS 1 d λbS=>af (bB ah) λbA=>bl 0 bA λa9=>av aS 1 a9 λb5=>bm .neq 3 bS b5 (EW s K ah a q (.bool true) aS t) (av aS 4 a λcp=>af (bB ah) λdk=>av aS 25 dk λeo=>bE .neq 3 cp eo λam=>(EW s K ah a q am aS t))))
theorem ajw:gw 134 X9:=gz []
def xW(s:ao)(K:bZ)(cA c6 eb Un:X)(aq:ae)(a0:Nat):Prop:=bt Un (K (.bool false) aq a0) (af (bB cA) λa=>bl 2 a λb=>av aq 0 b λd=>av aq 4 c6 λf=>cg 225 [d,f] aq a0 λg i j=>af (bB cA) λk=>bl 40 k λl=>bY i l λm=>da l m (bl 7 c6 λn=>bY i n λo=>da n o (dS (eO 2 [aw,aw] [(0,1,m),(1,1,o)]) i j λp q r=>cg 229 [g,p] q r λt aS v=>af (cu t 0) λw=>af (bB cA) λx=>bl 40 x λy=>af (aN aS 1 y w) λz=>af (cu t 1) λbz=>af (bB cA) λbS=>av z 41 bS λa9=>av z 1 eb λb5=>af (mU Q 3 z a9 b5 (.bool true)) λbO=>af (bB cA) λcJ=>av bO 41 cJ λdk=>af (wD bO dk) λc3=>af (bB cA) λeo=>bl 7 eo λam=>av bO 1 am λek=>bm .eql 3 c3 ek (av bO 4 c6 λgk=>aV s 230 [cA,gk] bO v λhp hQ fV=>K (.bool true) hQ fV) (K (.bool true) bO v)) 1 [aq]) 1 [aq])
def Ya:gj:=λs ah t1 t2 h U K=>bG t1 h U λa b c=>bG t2 b c λd e f=>af (bB ah) λg=>bl 0 g λi=>av e 1 i λk=>bm .neq 3 k (ad 0) (xW s K ah a d (.bool true) e f) (av e 0 d λn=>af (bB ah) λo=>bl 0 o λp=>av e 0 p λr=>bm .neq 3 n r (xW s K ah a d (.bool true) e f) (af (bB ah) λaS=>av e 27 aS λw=>bm .neq 86 w (ad 0) (xW s K ah a d (.bool true) e f) (af (bB ah) λy=>av e 38 y λbz=>bt bz (xW s K ah a d (.bool true) e f) (av e 4 a λbA=>af (bB ah) λa9=>av e 26 a9 λb5=>b9 b5 λbO=>bm .neq 3 bA bO (xW s K ah a d (.bool true) e f) (af (bB ah) λcp=>av e 41 cp λc3=>av e 1 d λam=>af (j9 Q e 3 (.bool false) false c3 am) λan=>bt an (xW s K ah a d (.bool true) e f) (av e 7 a λfK=>cg 228 [ah,fK] e f λfU gk hp=>af (ds .not fU) λhQ=>(xW s K ah a d hQ gk hp)))))))
theorem ajx:gw 135 Ya:=gz []
def Pa:ac (ac Nat):=[[0,9,74,75]]
def Yb(s:ao)(aC cH vx Mj:X)(h:ae)(U:Nat)(N:aQ)(aM:aQ)(R:aQ):Prop:=cv Mj vx (cg 219 [aC,Mj,(ad 0)] h U λb c d=>af (bB aC) λe=>bl 42 e λf=>bY c f λg=>da f g (af (cw [(ad 0),(ad 0),(ad 0),(ad 0),(ad 0),(ad 0),aw,aw,aw,(ad 0),(.bool false)] [(0,1,(ad 5)),(2,1,b),(4,1,g),(9,1,cH)]) λi=>cg 213 [aC,i] c d λj k l=>b9 Mj λm=>N [aC,cH,vx,m] k l) 1 [h]) (aM [aC,cH,vx,Mj] h U)
def B7(s:ao)(K:bZ)(cA c6 eb Uo:X)(aq:ae)(a0:Nat):Prop:=bt Uo (K (.bool false) aq a0) (af (bB cA) λa=>av aq 43 a λc=>av aq 0 eb λe=>aG 11 aq c6 λf=>af (mU Q 3 aq c e f) λg=>af (bB cA) λi=>av g 43 i λk=>af (wD g k) λl=>af (bB cA) λm=>bl 7 m λn=>av g 0 n λp=>cv l p (K (.bool true) g a0) (aV s 231 [cA] g a0 λr t aS=>af (bB cA) λv=>bl 7 v λw=>av t 0 w λy=>bF (bW Q s Pa 136 0) [cA,r,y,(ad 0)] t aS [(0,λz bz bS=>af (bB (aT z 0)) λbA=>av bz 43 bA λbM=>dm (dI (pk Q .clear [173] bz bS [bM])) λb5 bO cJ=>af (bB (aT z 0)) λcp=>av bO 42 cp λc3=>b9 c3 λeo=>af (bB (aT z 0)) λam=>bl 42 am λan=>af (aN bO 1 an eo) λek=>bE .neq 86 (aT z 1) (ad 0) λfK=>af (bB (aT z 0)) λfU=>bl 44 fU λgk=>af (aN ek 1 gk fK) λhp=>K (.bool true) hp cJ)] (λ_ _ _=>False)))
def acD:gj:=λs ah t1 t2 h U K=>bG t1 h U λa b c=>bG t2 b c λd e f=>af (bB ah) λg=>av e 43 g λj=>av e 0 d λl=>af (j9 Q e 3 (.agg #[(ad 0),(ad 0),(ad 0),(ad 0),(ad 0),(ad 0),aw,aw,aw,(ad 0),(.bool false)]) true j l) λm=>af (cu m 0) λn=>bX [(ad 0),(ad 0),(ad 0),(ad 0),(ad 0),(ad 0),aw,aw,aw,(ad 0),(.bool false)] e f λo p q=>af (aN p 11 o n) λr=>af (cu m 1) λt=>bt t (B7 s K ah a d (.bool true) r q) (af (bB ah) λaS=>iS 2 r 0 aS λw=>af (cw [(ad 0),(ad 0)] []) λx=>bm .neq 162 w x (B7 s K ah a d (.bool true) r q) (af (bB ah) λz=>av r 44 z λbS=>bt bS (B7 s K ah a d (.bool true) r q) (av r 1 d λa9=>bm .neq 3 a9 (ad 0) (B7 s K ah a d (.bool true) r q) (av r 4 a λbO=>af (bB ah) λcJ=>av r 42 cJ λdk=>bE .neq 3 bO dk λc3=>(B7 s K ah a d c3 r q)))))
theorem alN{s:ao}{B A:X}{h:ae}{U:Nat}{N R:aQ}:bW Q s Pa 136 0 [aC,cH,B,A] h U N [(0,aM)] R=Yb s aC cH B A h U N aM R:=by kernel_rfl
theorem apy:gw 136 acD:=gz Pa
def I5(s:ao)(K:bZ)(cA fi ib y74:X)(aq:ae)(a0:Nat):Prop:=bt y74 (af (bB cA) λa=>iS 5 aq 33 a λc=>af (bB cA) λd=>bl 28 d λe=>af (aN aq 5 e c) λf=>af (bB cA) λg=>bl 26 g λi=>af (aN f 1 i fi) λj=>bm .eql 86 ib (ad 0) (aV s 232 [cA] j a0 λl m n=>K (.bool true) m n) (K (.bool true) j a0)) (bm .eql 86 ib (ad 0) (aV s 232 [cA] aq a0 λp q r=>K (.bool true) q r) (K (.bool true) aq a0))
def vW(s:ao)(K:bZ)(cA fi ib TP:X)(aq:ae)(a0:Nat):Prop:=bt TP (K (.bool false) aq a0) (af (bB cA) λa=>bl 38 a λb=>af (aN aq 1 b (.bool false)) λc=>af (bB cA) λd=>bl 39 d λe=>af (aN c 1 e (.bool true)) λf=>af (bB cA) λg=>bl 27 g λi=>af (aN f 1 i ib) λj=>hP fi (ad 0) (bE .neq 86 ib (ad 3) λl=>(I5 s K cA fi ib l j a0)) (I5 s K cA fi ib (.bool false) j a0))
def I6(s:ao)(K:bZ)(cA c6 eb fi:X)(aq:ae)(a0:Nat):Prop:=av aq 9 c6 λb=>af (bB cA) λc=>bl 0 c λd=>av aq 1 d λf=>bm .neq 3 f (ad 0) (vW s K cA fi b (.bool true) aq a0) (aG 2 aq eb λi=>af (cw [(ad 0),(ad 0)] []) λj=>bm .neq 162 i j (vW s K cA fi b (.bool true) aq a0) (af (bB cA) λl=>av aq 38 l λn=>af (ds .not n) λo=>bt o (vW s K cA fi b (.bool true) aq a0) (af (bB cA) λp=>av aq 27 p λr=>bm .neq 86 r (ad 0) (vW s K cA fi b (.bool true) aq a0) (av aq 4 c6 λv=>bm .neq 3 v fi (vW s K cA fi b (.bool true) aq a0) (bm .lss 86 b (ad 0) (vW s K cA fi b (.bool true) aq a0) (bE .gtr 86 b (ad 3) λy=>(vW s K cA fi b y aq a0)))))))
def Yc:gj:=λs ah t1 t2 h U K=>bG t1 h U λa b c=>bG t2 b c λd e f=>af (bB ah) λg=>av e 39 g λj=>bt j (af (bB ah) λk=>av e 26 k λm=>b9 m λn=>(I6 s K ah a d n e f)) (I6 s K ah a d (ad 0) e f)
theorem ajy:gw 137 Yc:=gz []
def aac:c0:=λs ah t1 h U K=>bG ah h U λa b c=>bX [(ad 0),aw] b c λd e f=>bl 5 a λg=>av e 1 g λj=>cg 217 [j] e f λk l m=>bl 5 a λn=>bl 0 n λo=>bY l o λp=>da o p (af (cw [(ad 0),aw] [(0,1,p),(1,1,k)]) λq=>bX [(ad 0),aw] l m λr t aS=>af (aN t 2 r q) λv=>aG 2 v r λw=>cg 312 [w] v aS λx y z=>aG 2 y r λbz=>jx 2 r bz (af (aN y 2 d bz) λbS=>bt x (bl 0 r λbA=>bY bS bA λa9=>da bA a9 (bE .eql 3 a9 t1 λbM=>aG 2 bS d λb5=>K (.tuple ⟨[b5,bM]⟩) bS z) 1 [y,v]) (aG 2 bS d λbO=>K (.tuple ⟨[bO,(.bool false)]⟩) bS z)) 1 [v]) 1 [e]
theorem alO:c4 221 aac:=c5 []
def acE:c0:=λs ah t1 h U K=>af (bB ah) λa=>bl 2 a λb=>av h 1 b λd=>af (bB ah) λe=>bl 7 e λf=>av h 0 f λi=>cg 126 [d,i,t1] h U λj k l=>af (bB ah) λm=>bl 7 m λn=>bl 1 n λo=>bY k o λp=>da o p (af (bB ah) λq=>bl 0 q λr=>bl 1 r λt=>bY k t λaS=>da t aS (cg 126 [d,p,aS] k l λv w x=>af (min2 false j v) λy=>af (bB ah) λz=>bl 7 z λbz=>av w 0 bz λbA=>b9 t1 λa9=>cg 126 [d,bA,a9] w x λbM b5 bO=>af (bB ah) λcJ=>bl 7 cJ λcp=>bl 1 cp λdk=>bY b5 dk λc3=>da dk c3 (af (bB ah) λeo=>bl 0 eo λam=>bl 1 am λan=>bY b5 an λek=>da an ek (b9 ek λfK=>cg 126 [d,c3,fK] b5 bO λfU gk hp=>af (min2 true bM fU) λhQ=>bE .sub 3 hQ y λfV=>af (min2 false (ad 0) fV) λjA=>K jA gk hp) 1 [w]) 1 [w]) 1 [h]) 1 [h]
theorem apA:c4 222 acE:=c5 []
def aad:c0:=λs ah t1 h U K=>bX [(ad 0),(ad 0)] h U λa b c=>af (bB ah) λd=>av b 10 d λf=>cP f λg=>bm .eql 3 g (ad 0) (af (cw [(ad 0),(ad 0)] []) λj=>af (aN b 2 a j) λk=>aG 2 k a λl=>K l k c) (af (bB ah) λm=>av b 10 m λo=>bE .sub 3 t1 (ad 1) λp=>af (bB ah) λq=>av b 10 q λt=>cP t λaS=>bE .rem 3 p aS λv=>gD 2 b 2 o v λx=>af (aN b 2 a x) λy=>aG 2 y a λz=>K z y c)
theorem alP:c4 224 aad:=c5 []
def Oq:ac (ac Nat):=[[0,4,5,8,9,10]]
def W0(s:ao)(aC aZ bI bq cH dd:X)(h:ae)(U:Nat)(N:aQ)(aM:aQ)(R:aQ):Prop:=cv dd cH (gD 3 h 3 bq dd λc=>bX [(ad 0),(ad 0),(.int .u64 0)] h U λd e f=>af (aN e 3 d c) λg=>av g 0 d λj=>bm .leq 3 j bI (R [aC,(.bool false),bI,bq,cH,dd] g f) (av g 0 d λm=>af (bB aC) λn=>bl 11 n λo=>av g 0 o λq=>bm .geq 3 m q (R [aC,(.bool false),bI,bq,cH,dd] g f) (av g 0 d λaS=>b9 dd λv=>N [aC,aZ,aS,bq,cH,v] g f))) (aM [aC,aZ,bI,bq,cH,dd] h U)
def aae:c0:=λs ah t1 h U K=>cP t1 λa=>bF (bW Q s Oq 228 0) [ah,(.bool false),(ad (-1)),t1,a,(ad 0)] h U [(0,λb c d=>K (.bool true) c d)] (λe f g=>K (aT e 1) f g)
theorem ajz{s:ao}{E D B A:X}{h:ae}{U:Nat}{N R:aQ}:bW Q s Oq 228 0 [aC,E,D,B,cH,A] h U N [(0,aM)] R=W0 s aC E D B cH A h U N aM R:=by kernel_rfl
theorem alQ:c4 228 aae:=c5 Oq
def Yd:c0:=λs ah t1 h U K=>af (bB ah) λa=>iS 5 h 2 a λc=>af (bB ah) λd=>iS 5 h 28 d λf=>cg 331 [c,f,t1] h U λg i j=>af (cu g 0) λk=>bX [aw] i j λl m n=>bX [(.bool false)] m n λo p q=>af (aN p 1 l k) λr=>af (cu g 1) λt=>af (aN r 1 o t) λaS=>af (bB ah) λv=>av aS 40 v λx=>af (.ok (.func (.func 333) ⟨[]⟩ ⟨[l,o]⟩)) λy=>aV s 332 [x,y] aS q λz bz bS=>af (bB ah) λbA=>bl 40 bA λa9=>af (aN bz 1 a9 aw) λbM=>af (bB ah) λb5=>iS 5 bM 28 b5 λcJ=>af (bB ah) λcp=>bl 33 cp λdk=>af (aN bM 5 dk cJ) λc3=>af (bB ah) λeo=>bl 2 eo λam=>av c3 0 am λek=>cg 225 [ek,t1] c3 bS λfK fU gk=>af (bB ah) λhp=>bl 11 hp λhQ=>bl 0 hQ λfV=>bY fU fV λjA=>da fV jA (cg 335 [fK,jA,z] fU gk λjB jJ lj=>af (cu jB 0) λfj=>bX [(ad 0),aw] jJ lj λb7 oD be=>af (aN oD 2 b7 fj) λkK=>af (cu jB 1) λic=>bm .eql 30 ic (ad 0) (af (bB ah) λbi=>iS 5 kK 2 bi λmC=>af (bB ah) λjK=>iS 5 kK 28 jK λpa=>aG 2 kK b7 λaY=>cg 336 [mC,pa,t1,aY] kK be λp7 eJ uk=>af (bB ah) λgx=>bl 33 gx λjI=>af (aN eJ 5 jI p7) λEf=>bE .neq 30 ic (ad 0) λBw=>aV s 127 [ah,t1,Bw] Ef uk λfv nj Ia=>K (.tuple ⟨[]⟩) nj Ia) (bE .neq 30 ic (ad 0) λoB=>aV s 127 [ah,t1,oB] kK be λgc gq gs=>K (.tuple ⟨[]⟩) gq gs)) 1 [c3]
theorem ajA:c4 230 Yd:=c5 []
def W1:gj:=λs ah t1 t2 h U K=>bG ah h U λa b c=>bY b t1 λd=>av b 0 a λf=>cg 334 [d,f] b c λg i j=>bY i t2 λk=>da t2 k (bE .eql 4 g k λl=>K l i j) 1 [b]
theorem aiv:gw 333 W1:=gz []
def Ot:ac (ac Nat):=[[0,2,23,24]]
def W2(s:ao)(aC a2 ki f2:X)(h:ae)(U:Nat)(N:aQ)(aM:aQ)(R:aQ):Prop:=cv f2 ki (aG 2 h a2 λb=>af (bB aC) λc=>bl 2 c λd=>av h 1 d λf=>af (bB aC) λg=>bl 7 g λi=>av h 0 i λk=>af (bB aC) λl=>bl 7 l λm=>av h 1 m λo=>af (bB aC) λp=>bl 0 p λq=>av h 0 q λt=>cg 338 [b,f,k,o,t,f2] h U λaS v w=>bX [(ad 0),aw] v w λx y z=>af (aN y 2 x aS) λbz=>af (bB aC) λbS=>av bz 26 bS λa9=>b9 a9 λbM=>aG 2 bz x λb5=>af (cw [(ad 0),(ad 0),(ad 0),(ad 0),(ad 0),(ad 0),aw,aw,aw,(ad 0),(.bool false)] [(0,1,(ad 1)),(2,1,f2),(4,1,bM),(5,2,b5)]) λbO=>cg 213 [aC,bO] bz z λcJ cp dk=>b9 f2 λc3=>N [aC,a2,ki,c3] cp dk) (aM [aC,a2,ki,f2] h U)
def aaf:cO:=λs ah h U K=>af (bB ah) λa=>iS 5 h 2 a λc=>af (bB ah) λd=>iS 5 h 28 d λf=>af (bB ah) λg=>av h 26 g λj=>b9 j λk=>cg 337 [c,f,k] h U λl m n=>bX [(ad 0),aw] m n λo p q=>af (aN p 2 o l) λr=>af (bB ah) λt=>bl 7 t λaS=>av r 1 aS λw=>bF (bW Q s Ot 232 0) [ah,o,w,(ad 0)] r q [(0,λx y z=>af (bB (aT x 0)) λbz=>av y 41 bz λbA=>dm (dI (pk Q .clear [172] y z [bA])) λa9 bM b5=>af (bB (aT x 0)) λbO=>bl 40 bO λcJ=>af (aN bM 1 cJ aw) λcp=>K (.tuple ⟨[]⟩) cp b5)] (λ_ _ _=>False)
theorem ajB{s:ao}{B A f2:X}{h:ae}{U:Nat}{N R:aQ}:bW Q s Ot 232 0 [aC,B,A,f2] h U N [(0,aM)] R=W2 s aC B A f2 h U N aM R:=by kernel_rfl
theorem alR:cQ 232 aaf:=cT Ot
section
variable {aB:Type} {h:ae} {enc:aB->ac X} {k:Nat} {v:X} {x:aB} {l:ac aB} {o:ay Nat}
theorem fu.tail(hk:∀x,(enc x).length=k)(Ly:0<k)(g:fu h enc k v (x::l) o):∃b A I cs E B,v = .slice (some ⟨b,A,I⟩) (l.length+1) (l.length+1)/\o=some b/\u h b=some (.cells cs E)/\(cs.drop A).take k=enc x/\A+k<=cs.length /\
  g5 k v (some (.int .i64 1)) (some (((l.length+1:Nat):X))) (some (((l.length+1:Nat):X))) = .ok B/\fu h enc k B l (some b):=by
 have M:∀(b A:Nat) (I:ay Nat) (cs:ac X) (E:ao),wS (some ⟨b,A,I⟩)=false->u h b=some (.cells cs E)->A+(l.length+1)*k<=cs.length->(cs.drop A).take ((l.length+1)*k)=a7 enc (x::l) ->
   (cs.drop A).take k=enc x/\A+k<=cs.length/\∃B,g5 k (.slice (some ⟨b,A,I⟩) (l.length+1) (l.length+1)) (some (.int .i64 1)) (some (((l.length+1:Nat):X))) (some (((l.length+1:Nat):X))) = .ok B/\fu h enc k B l (some b):=λb A I cs E dc D V K=>by
  have aW:(l.length+1)*k=l.length*k+k:=aa
  rw[aW]at V K;refine⟨?_,J,_,afc J J dc,?_⟩
  ·have:=congrArg (List.take k) K;rw[List.take_take,EG J]at this;rw[this];show(enc x++a7 enc l).take k=_
   grind
  ·show fu h enc k (.slice (some ⟨b,if l.length+1=1 then A else A+k,none⟩) (l.length+1-1) (l.length+1-1)) l (some b);rw[show l.length+1-1=l.length by omega]
   by_cases aq:l.length+1=1
   ·rw[if_pos aq];have:l=[]:=aa
    subst this;exact fu.part D J (by simp[a7])
   ·rw[if_neg aq];refine fu.part D (by omega) ?_;rw[<-xO];have:=congrArg (List.drop k) K;rw[EI,show l.length*k+k-k=l.length*k by omega]at this;rw[this];show(enc x++a7 enc l).drop k=_
    grind
 cases g with
 | @own b _ D =>
  have dc:wS (some ⟨b,0,some k⟩)=false:=by
   cases k with
   |zero=>omega
   |succ k=>rfl
  have V:=fX hk (x::l);obtain⟨h1,ap,B,aH,bh⟩:=M b 0 (some k) _ _ dc D aa aa;exact⟨b,0,some k,_,_,B,rfl,rfl,D,h1,ap,aH,bh⟩
 | @part b o _ cs E D V K =>
  obtain⟨h1,ap,B,aH,bh⟩:=M b o none _ _ rfl D V K;exact⟨b,o,none,_,_,B,rfl,rfl,D,h1,ap,aH,bh⟩
end
structure kM where
 kind:Int
 fB:Int
 lR:Int
 round:Int
 l7:Int
 l4:ac (Nat × Int)
 nK:ac (Nat × Int)
 n:Int
 od:ao
structure mY (h:ae) (U:Nat) (f:eC) (p:kM):Prop where
 kind:f.kind=p.kind
 fB:f.fB=p.fB
 lR:f.lR=p.lR
 round:f.round=p.round
 l7:f.l7=p.l7
 qa:ep h U (.slice f.bj f.n6 f.hc) fN 2 p.l4
 r7:ep h U (.slice f.a6 f.n7 f.i3) eP 3 p.nK
 n8:f.n8=0
 n:f.n=p.n
 od:f.od=p.od
section
variable {h ab:ae} {U Y al aj:Nat} {f:eC} {p:kM}
theorem mY.F(H:mY h U f p)(B:aA U h ab)(A:U<=Y):mY ab Y f p:={ H with qa:=H.qa.F B A,r7:=H.r7.F B A }
theorem mY.sub(H:mY h U f p)(S:lb h ab):mY ab U f p:={ H with qa:=H.qa.sub S,r7:=H.r7.sub S }
structure lz (h:ae) (al aj:Nat) (f:eC) (p:kM):Prop where
 is:mY h aj f p
 hc:iR h al aj (.slice f.bj f.n6 f.hc) fN 2 p.l4
 i3:iR h al aj (.slice f.a6 f.n7 f.i3) eP 3 p.nK
theorem lz.F{ea dB:Nat}(H:lz h al aj f p)(A:∀b,al<=b->b<aj->u ab b=u h b)(B:ea<=al)(D:aj<=dB):lz ab ea dB f p where
 is:={ H.is with qa:=dg.o   (λ_=>rfl) (H.hc.F A B D).gC.rd,r7:=dg.o   (λ_=>rfl) (H.i3.F A B D).gC.rd }
 hc:=H.hc.F A B D
 i3:=H.i3.F A B D
def qz(h:ae)(U:Nat):ac eC->ac kM->Prop
 | [],[]=>True
 |f::dD,p::ce=>mY h U f p/\qz h U dD ce
 |_,_=>False
theorem qz.F(B:aA U h ab)(A:U<=Y):∀{dD ce},qz h U dD ce->qz ab Y dD ce
 | [],[],_=>trivial
 |_::_,_::_,H=>⟨H.1.F B A,qz.F B A H.2⟩
 | [],_::_,H=>H.elim
 |_::_,[],H=>H.elim
theorem qz.app:∀{dD ce a4 Ik},qz h U dD ce->qz h U a4 Ik->qz h U (dD++a4) (ce++Ik)
 | [],[],_,_,_,G=>G
 |_::_,_::_,_,_,H,G=>⟨H.1,qz.app H.2 G⟩
 | [],_::_,_,_,H,_=>H.elim
 |_::_,[],_,_,H,_=>H.elim
theorem qz.len:∀{dD ce},qz h U dD ce->dD.length=ce.length
 | [],[],_=>rfl
 |_::_,_::_,H=>by rw[nq,nq,qz.len H.2]
 | [],_::_,H=>H.elim
 |_::_,[],H=>H.elim
end
theorem W3{s:ao}{h:ae}{U:Nat}{v:X}{l:ac (Nat × Int)}(B:ep h U v eP 3 l)(I:l.length<10000):
  aD Q s 218 [v] h U (λr ab Y=>iR ab U Y r eP 3 l/\aA U h ab/\U<=Y):=by refine ala ?_;exact acd (K:=λr ab Y=>iR ab U Y r eP 3 l/\aA U h ab/\U<=Y) B (λ_=>rfl) J J ahh λr ab Y D A E=>⟨D,A,E⟩
theorem atq{s:ao}{h:ae}{U:Nat}{f:eC}{p:kM}(A:mY h U f p)(cj:p.l4.length<10000)(d8:p.nK.length<10000):
  aD Q s 129 [.agg ⟨eh f⟩] h U (λr ab Y=>∃kJ,r = .agg ⟨eh kJ⟩/\lz ab U Y kJ p/\aA U h ab/\U<=Y):=by
 refine avN ?_;have bH:∀{o aU},aA U h (T (T h U o) (U+1) aU):=aF
 unfold af6 eh;refine aE ?_;refine(BY (A.qa.F  bH J) cj).mono ?_;rintro zj bP bg ⟨I,E,K⟩;refine⟨K,?_⟩;have hd:=(E U J).trans ((ar J).trans (aR _ _ _));have dq:=(E (U+1) J).trans (aR _ _ _);have cI:=bH.trans E J;simp(disch:=omega)only[bk,hd,iE,seval];refine(W3 (A.r7.F  cI J) d8).mono ?_;rintro Vr g2 bU ⟨M,D,B⟩;refine⟨B,?_⟩;have fC:=(D U J).trans hd;have d6:=(D (U+1) J).trans dq;obtain⟨V,hc,rfl⟩:=I.form;obtain⟨a6,i3,rfl⟩:=M.form;refine cM @fC @d6 ?_;have Il:=I.F  (ea:=U+2)  (λb h1 ap=>D b ap) J B;have Im:=M.F (ab:=g2)  (dB:=bU) aa J J;have e:lz g2 (U+2) bU { f with bj:=V,n6:=p.l4.length,hc:=hc,a6:=a6,n7:=p.nK.length,i3:=i3 } p :=
  ⟨⟨A.kind,A.fB,A.lR,A.round,A.l7,dg.o   (λ_=>rfl) Il.gC.rd,dg.o   (λ_=>rfl) Im.gC.rd,A.n8,A.n,A.od⟩,Il,Im⟩
 exact⟨_,rfl,e.F aa J J,aF,J⟩
structure e0 (h:ae) (U aL:Nat) (c:Nat->X) (i j C:Nat) (l:ac eC) (aY:ay Nat):Prop where
 at_:u h aL=some (.cells (dE c) false)
 lt:aL<U
 hI:1<=C
 mL:C<=8
 i8:i<8
 vK:j<C
 lZ:c 0 = (i:X)
 c1:c 1 = (j:X)
 he:c 8 = (C:X)
 out:fu h eh 11 (c 22) l aY
 aY:∀b,aY=some b->b≠aL/\b<U
section
variable {s:ao} {h ab:ae} {U Y aL i j C:Nat} {c bT:Nat->X} {l:ac eC} {aY:ay Nat}
theorem e0.set(W:e0 h U aL c i j C l aY)(D:u ab aL=some (.cells (dE bT) false))(K:bT 0=c 0)(M:bT 1=c 1)(E:bT 8=c 8)(A:bT 22=c 22)(B:∀b,aY=some b->u ab b=u h b)(I:U<=Y):e0 ab Y aL bT i j C l aY where
 at_:=D
 lt:=by have:=W.lt;omega
 hI:=W.hI
 mL:=W.mL
 i8:=W.i8
 vK:=W.vK
 lZ:=K.trans W.lZ
 c1:=M.trans W.c1
 he:=E.trans W.he
 out:=by rw[A];exact W.out.F B
 aY:=λb e=>by have:=W.aY b e;omega
theorem e0.F(W:e0 h U aL c i j C l aY)(B:∀b,b=aL\/aY=some b->u ab b=u h b)(A:U<=Y):e0 ab Y aL c i j C l aY :=
 W.set ((B aL (.inl rfl)).trans W.at_) rfl rfl rfl rfl aa A
theorem FA(W:e0 h U aL c i j C l aY)(br:l.length<900)(f:eC):
  aD Q s 213 [bb aL,.agg ⟨eh f⟩] h U (λr ab Y=>r = .tuple ⟨[]⟩/\∃K E,e0 ab Y aL (hl c 22 K) i j C (l++[{ f with fB:=((i*C+j:Nat):Int) }]) (some E)/\U<=E/\(∀d,d<U->d≠aL->aY≠some d->u ab d=u h d)/\U<=Y):=by
 refine avk ?_;have M:=W.lt;have A:∀{o},u (T h U o) aL=some (.cells (dE c) false):=λ{o}=>by rw[ar J];exact W.at_
 obtain⟨ek,no,co,gL⟩:∃a n bT,c 22 = .slice a n bT:=by
  have:=W.out;generalize c 22=v at this;cases this <;> grind
 unfold afN eh;refine yu @A W.lZ W.c1 ?_;refine(Fe A W.hI W.mL W.i8 W.vK W.he).f5 ?_;refine yu @A W.at_ @asG ?_;refine x9  (k:=11) (λ_=>rfl) (λ_=>rfl) J (W.out.F λb e=>?_) ({ f with fB:=((i*C+j:Nat):Int) }) (aR _ _ _) rfl J λV D B=>?_
 ·have:=W.aY b e
  grind
 have I:u V aL=some (.cells (dE c) false):=(B aL J (λe=>(W.aY aL e).1 rfl)).trans aa;refine GA @I ?_;refine⟨J,_,U+2,⟨aR _ _ _,J,W.hI,W.mL,W.i8,W.vK,W.lZ,W.c1,W.he,?_,λb e=>?_⟩,J,aa,J⟩
 ·have:=fu.own  (k:=11) D;rw[jk]at this;rw[yt];exact this.F aa
 grind
end
section
variable {s:ao} {h ab:ae} {U Y aL i j C low m N:Nat} {c bT:Nat->X} {l:ac eC} {aY:ay Nat} {k src len round:Int} {bu:ac Int} {S:jS}
theorem W4(W:e0 h U aL c i j C l aY)(br:l.length<900)(P:pt h U (c 6) k src len N bu)(aP:c 2 = (k:X))(cy:c 3 = (N:X))(eE:c 4 = (src:X))(ir:c 5 = (len:X))
  (au:jr h U (.agg ⟨[c 33,c 34,c 35,c 36,c 37]⟩) low m S) (t8:low+m<=N):
  aD Q s 127 [bb aL,(round:X),.bool false] h U (λr ab Y=>r = .tuple ⟨[]⟩/\∃d7 cr,e0 ab Y aL (hl (hl c 38 (.bool true)) 22 d7) i j C (l++[CF ((i*C+j:Nat):Int) round (ro k len round m (cx m λi=>S.A (low+i)) (λi=>S.q (low+i)):Int) false]) (some cr)/\U<=cr/\(∀d,d<U->d≠aL->aY≠some d->u ab d=u h d)/\U<=Y):=by
 refine ar6 ?_;obtain⟨bj,hc,qZ,_⟩:=id P.d;have E:=au;obtain⟨dp,fW,fw,hz,fE,gh,gt⟩:=au;obtain⟨fI,en,rfl,_⟩:=id fE;obtain⟨gr,fT,rfl,_⟩:=id gh;obtain⟨mH,ia,rfl,_⟩:=id gt;simp only[Value.agg.injEq,xN,vR,iv]at hz;obtain⟨I,B,M,V,Mk⟩:=hz;have bH:∀{o aU},aA U h (T (T h U o) U aU):=aF
 have cS:=W.lt;have K:∀{o aU},u (T (T h U o) U aU) aL=some (.cells (dE c) false):=λ{o aU}=>(bH aL cS).trans W.at_;unfold aee;simp(disch:=omega)only[bk,hT,K,aP,cy,eE,ir,qZ,I,B,M,V,Mk,seval];rw[I,B,M,V,Mk]at E;have bs:=P.d;rw[qZ]at bs;refine(asF (bs.F  bH J) P.pl (by have:=P.n60;omega) J (by have:=P.n60;omega) (hy.F E  bH J) (i9 _ _) (i9 _ _)).cz λh1 bg A D=>?_;have ch:=(A U J).trans (aR _ _ _);have zn:=(A aL J).trans K;refine u5 @ch @zn ?_;have ex:∀{o aU} d,d<U->d≠aL->u (T (T h1 U o) aL aU) d=u h d:=λd bs ap=>by rw[ar ap,ar J,A d J];grind
 refine⟨D,(FA (W.set (bT:=hl c 38 (.bool true))  aa rfl rfl rfl rfl (λb e=>by have:=W.aY b e;grind) J) br (CF 0 round (ro k len round m (cx m λi=>S.A (low+i)) (λi=>S.q (low+i)):Int) false)).mono ?_⟩;rintro _ aH b1 ⟨rfl,d7,cr,qY,a1,w4,gg⟩;exact⟨d7,cr,qY,J,aa,J⟩
theorem Dl:wc Q 83=true:=by kernel_rfl
theorem Pb(W:e0 h U aL c i j C l aY):aD Q s 65 [bb aL] h U (fs (l.length:X) U h):=by refine atp ?_;unfold aeJ;have:=W.out.lens;simp(disch:=omega)only[bk,hT,pj Dl,W.at_,this,seval];exact⟨rfl,rfl,rfl⟩
theorem W5(W:e0 h U aL c i j C l aY)(e:c 27 = (y:X)):aD Q s 67 [bb aL] h U (fs (y:X) U h):=by refine alK ?_;unfold Z9;simp(disch:=omega)only[bk,hT,pj Dl,W.at_,e,seval];exact⟨rfl,rfl,rfl⟩
theorem alS(W:e0 h U aL c i j C l aY)(e:c 26 = (y:X)):aD Q s 68 [bb aL] h U (fs (y:X) U h):=by refine apw ?_;unfold acB;simp(disch:=omega)only[bk,hT,pj Dl,W.at_,e,seval];exact⟨rfl,rfl,rfl⟩
theorem ajC(W:e0 h U aL c i j C l aY):aD Q s 130 [bb aL] h U (fs (((i*C+j:Nat):X)) U h):=by refine alL ?_;unfold aaa;simp(disch:=omega)only[bk,hT,pj Dl,W.at_,W.lZ,W.c1,seval];exact(Fe W.at_ W.hI W.mL W.i8 W.vK W.he).f5 ⟨J,rfl,rfl,rfl⟩
theorem apB{f:eC}{p:kM}(W:e0 h U aL c i j C l aY)(e:l=f::cV)(bD:mY h U f p)(cj:p.l4.length<10000)(d8:p.nK.length<10000):
  aD Q s 61 [bb aL] h U (λr ab Y=>∃A,r = .tuple ⟨[.agg ⟨eh A⟩,.bool true]⟩/\lz ab U Y A p/\aA U h ab/\U<=Y):=by
 subst e;refine acA ?_;have M:∀{o},aA U h (T h U o):=aF
 obtain⟨b,D,aO,cs,bL,d7,ej,gL,bd,a5,lf,_,_⟩:=fu.tail (k:=11) (λ_=>rfl) J W.out;have a1:=W.aY b gL;have V:=W.lt;have K:∀{o},e0 (T h U o) (U+1) aL c i j C (f::cV) aY:=λ{o}=>W.F aa J;unfold Rf;refine aE ?_;refine(Pb K).f5 ?_;have B:hg (some 11) D cs = .ok (.agg ⟨eh f⟩):=by rw[qm,if_pos J,a5]
 have aq:((((f::cV).length:Nat):Int) == 0)=false:=aa
 simp(disch:=omega)only[bk,hT,aq,λo=>(K ).at_,ej,M b a1.2,bd,B,seval];refine(atq (bD.F M J) cj d8).mono ?_;rintro _ bP bg ⟨A,rfl,ee,E,I⟩;have q:=(E U J).trans (aR _ _ _);unfold eh;refine bf @q ?_;exact⟨A,rfl,ee.F aa J J,aF,J⟩
theorem apC{f:eC}(W:e0 h U aL c i j C l aY)(e:l=f::cV):
  aD Q s 62 [bb aL] h U (λr ab Y=>r = .tuple ⟨[]⟩/\∃A,e0 ab Y aL (hl c 22 A) i j C cV aY/\(∀d,d≠aL->u ab d=u h d)/\Y=U):=by
 subst e;refine atn ?_;obtain⟨b,M,aO,cs,bL,A,ej,rfl,bd,a5,K,E,D⟩:=fu.tail (k:=11) (λ_=>rfl) J W.out;have V:=W.aY b rfl;refine(Pb W).f5 ?_;rw[nq];rw[ej]at E;have I:(0:Int)<((cV.length+1:Nat):Int):=J
 refine Am @I W.at_ @ej @E ?_;have B:c7 A=[A]/\g1 A=true:=D.cell;refine GA @B ?_;exact⟨⟨A,⟨aa,W.lt,W.hI,W.mL,W.i8,W.vK,W.lZ,W.c1,W.he,D.F aa,aa⟩,aa⟩,λh=>absurd trivial h⟩
end
structure cn where
 k:Int
 src:Int
 len:Int
 N:Nat
 R:Nat
 C:Nat
 lim:Nat
 bu:ac Int
 ag:ac GE
structure f8 (Z:cn):Prop where
 hn:Z.k=1\/Z.k=2\/Z.k=3\/Z.k=5
 n60:Z.N<=60
 lH:1<=Z.R
 nQ:Z.R<=8
 hI:1<=Z.C
 mL:Z.C<=8
 lim:Z.lim<900
 dok:Sr Z.bu
 pl:gF Z.k Z.N Z.src Z.len Z.bu=0
 M:hj Z.N Z.N Z.ag
 w:∀g∈Z.ag,0<=g.w/\g.w<=2147483647
def cn.bN(Z:cn)(i:Nat):Nat:=c8 Z.N Z.R i
def cn.lc(Z:cn)(j:Nat):Nat:=c8 Z.N Z.C j
def cn.H(Z:cn)(i:Nat):Nat:=Z.bN (i+1)-Z.bN i
def cn.W(Z:cn)(j:Nat):Nat:=Z.lc (j+1)-Z.lc j
def cn.cut(Z:cn)(i j:Nat):ac GE:=lN Z.ag (Z.bN i) (Z.H i) (Z.lc j) (Z.W j)
structure kl (g:ae) (U:Nat) (c:Nat->X) (Z:cn) (i j:Nat):Prop where
 aP:c 2 = (Z.k:X)
 cy:c 3 = (Z.N:X)
 eE:c 4 = (Z.src:X)
 ir:c 5 = (Z.len:X)
 d:dg g U (c 6) cY Z.bu
 gN:c 7 = (Z.R:X)
 i1:c 9 = (Z.lim:X)
 Ml:∃a cap,c 10 = .slice a 0 cap
 rows:kw g U (.agg ⟨[c 11,c 12,c 13,c 14,c 15]⟩) (Z.H i) (Z.W j) (Z.cut i j)
 mj:∃fl,Ab (Z.cut i j) fl/\hj (Z.W j) (Z.H i) fl/\mX g U (.agg ⟨[c 16,c 17,c 18,c 19,c 20,c 21]⟩) (Z.H i) (Z.W j) fl
section
variable {s:ao} {g cG h ab:ae} {U Y aL i j:Nat} {c bT:Nat->X} {l:ac eC} {aY:ay Nat} {Z:cn}
theorem kl.set(H:kl g U c Z i j)(A:∀n,2<=n->n<22->bT n=c n):kl g U bT Z i j:=by
 refine⟨?_,?_,?_,?_,?_,?_,?_,?_,?_,?_⟩
 ·rw[A 2 J J];exact H.aP
 ·rw[A 3 J J];exact H.cy
 ·rw[A 4 J J];exact H.eE
 ·rw[A 5 J J];exact H.ir
 ·rw[A 6 J J];exact H.d
 ·rw[A 7 J J];exact H.gN
 ·rw[A 9 J J];exact H.i1
 ·rw[A 10 J J];exact H.Ml
 ·rw[A 11 J J,A 12 J J,A 13 J J,A 14 J J,A 15 J J];exact H.rows
 ·rw[A 16 J J,A 17 J J,A 18 J J,A 19 J J,A 20 J J,A 21 J J];exact H.mj
theorem kl.F(H:kl g U c Z i j)(B:aA U g cG)(A:U<=Y):kl cG Y c Z i j :=
 { H with d:=H.d.F B A,rows:=H.rows.F B A,mj:=by obtain⟨fl,a,b,d⟩:=H.mj;exact⟨fl,a,b,d.F B A⟩ }
theorem kl.sub(H:kl g U c Z i j)(S:lb g h):kl h U c Z i j :=
 { H with d:=u6 H.d S,rows:=H.rows.sub S,mj:=by obtain⟨fl,a,b,d⟩:=H.mj;exact⟨fl,a,b,d.sub S⟩ }
theorem kl.k9(H:kl g U c Z i j)(K:f8 Z):pt g U (c 6) Z.k Z.src Z.len Z.N Z.bu:=⟨H.d,K.dok,K.n60,K.pl,K.hn⟩
theorem yv(K:f8 Z)(i:Nat):Z.bN i<=Z.bN (i+1)/\Z.bN (i+1)<=Z.N:=⟨uJ J,tk K.lH _⟩
theorem CV(K:f8 Z)(j:Nat):Z.lc j<=Z.lc (j+1)/\Z.lc (j+1)<=Z.N:=⟨uJ J,tk K.hI _⟩
def cn.cl(Z:cn)(i j:Nat):Nat:=jG (Z.bN i) (Z.lc j) (Z.lc (j+1))
theorem alT(W:e0 h U aL c i j Z.C l aY)(H:kl h U c Z i j)(K:f8 Z)(I:a<Z.R):
  aD Q s 222 [bb aL,(a:X)] h U (fs (((Z.cl (a+1) j-Z.cl a j:Nat):X)) U h):=by
 refine apA ?_;unfold acE;have bw:=K.n60;have B:=K.nQ;have A:=K.mL;have V:=W.vK;have E:IntKind.wrap .i64 ((a:Int)+1)=((a+1:Nat):Int):=cF J;have D:IntKind.wrap .i64 ((j:Int)+1)=((j+1:Nat):Int):=cF J;refine yu W.at_ H.cy H.gN ?_;refine(uS J J B J).f5 ⟨J,?_⟩;refine yu W.at_ W.he W.c1 ?_;refine(uS J J A J).f5 ⟨J,?_⟩;refine yu W.at_ H.gN @E ?_;refine(uS J J B J).f5 ⟨J,?_⟩;refine Am W.at_ W.he W.c1 @D ?_;refine(uS J J A J).f5 ⟨J,?_⟩;have h1:=yv K a;have M:=CV K j;unfold cn.cl jG cn.bN cn.lc at *
 generalize c8 Z.N Z.R a=Eo at *
 generalize c8 Z.N Z.R (a+1)=zm at *
 generalize c8 Z.N Z.C j=xB at *
 generalize c8 Z.N Z.C (j+1)=Ic at *
 refine aE ?_;rw[jo J J];exact⟨aa,rfl,rfl⟩
theorem ajD{t:Int}(W:e0 h U aL c i j Z.C l aY)(A:∃a cap,c 10 = .slice a 0 cap):aD Q s 224 [bb aL,(t:X)] h U (c9 (.agg ⟨[.int .i64 0,.int .i64 0]⟩) U h):=by
 refine alP ?_;have B:∀{o},aA U h (T h U o):=aF
 have D:∀{o},u (T h U o) aL=some (.cells (dE c) false):=λ{o}=>(B aL W.lt).trans W.at_;obtain⟨a,cap,e⟩:=A;unfold aad;refine ax1 @D @e ?_;exact⟨λ_=>⟨rfl,aF,J⟩,λh=>absurd h (by decide)⟩
theorem W6{f:eC}{p:kM}{x:Nat->ay Int}(M:mY h U f p)(br:p.l4=bp n x)(aI:p.l7=(n:Int))(bw:n<=60):
  aD Q s 221 [.agg ⟨eh f⟩,(n:X)] h U (λr ab Y=>∃v,r = .tuple ⟨[v,.bool true]⟩/\pG ab U Y v n x/\aA U h ab/\U<=Y):=by
 refine alO ?_;have bH:∀{o aU},aA U h (T (T h U o) (U+1) aU):=aF
 unfold aac eh;refine aE ?_;have K:=M.qa;rw[br]at K;have V:=md n x;refine(BY (K.F  bH J) J).mono ?_;rintro zj bP bg ⟨B,D,E⟩;refine⟨E,?_⟩;have hd:=(D U J).trans ((ar J).trans (aR _ _ _));have dq:=(D (U+1) J).trans (aR _ _ _);have cI:=bH.trans D J;obtain⟨bj,hc,rfl⟩:=B.form;simp(disch:=omega)only[bk,hd,iE,M.l7,aI,seval];refine(v5   ⟨_,rfl,dg.o   (λ_=>rfl) (B.F (ea:=0)  aa J J).gC.rd⟩ J).cz λg2 bU A I=>⟨I,?_⟩
 have fC:=(A bg J).trans (aR _ _ _);have d6:=(A (U+1) J).trans ((ar J).trans ((ar J).trans dq));have i6:((n:Int) == (n:Int))=true:=aa
 simp(disch:=omega)only[bk,fC,d6,iE,i6,seval];refine⟨_,rfl,⟨_,rfl,B.F (λb h1 ap=>?_) J J⟩,λb a1=>?_,J⟩
 ·rw[ar J,A b J,ar J,ar J]
 ·rw[ar J,A b J,ar J,ar J];exact cI b a1
end
section
variable {s:ao} {g cG h ab:ae} {U Y aL i j:Nat} {c bT:Nat->X} {l:ac eC} {aY:ay Nat} {Z:cn}
theorem kl.c11(H:kl h U c Z i j):c 11 = .int .i64 (Z.H i:Int):=by
 obtain⟨b,A,cap,B,D,e,_⟩:=H.rows
 grind
theorem ajE{v:X}(bV:u h aL=some (.cells (dE c) false))(K:aL<U)(e:c 11 = (n:X))(aI:ep h U v eP 3 L)(f3:L.length<100000)(eI:L.Pairwise λa b=>a.1<b.1)(bw:∀p∈L,p.1<n):
  aD Q s 228 [bb aL,v] h U (c9 (.bool true) U h):=by
 refine alQ ?_;unfold aae;obtain⟨a9,cap,rfl,_⟩:=id aI;refine aE ?_;refine bF.mk (λm aJ ab Y=>∃k last,m=L.length-k/\k<=L.length/\aJ=[bb aL,.bool false,.int .i64 last,.slice a9 L.length cap,(L.length:X),(k:X)]/\(∀p∈L.drop k,last<(p.1:Int))/\aA U h ab/\U<=Y) L.length ⟨0,-1,J,J,rfl,J,aF,J⟩ ?_;rintro _ _ ap bU ⟨k,last,rfl,hk,rfl,I,A,E⟩;rw[ajz];unfold W0;refine aE ?_;refine⟨λDk=>?_,λeZ=>⟨rfl,A,E⟩⟩;obtain⟨p,bn⟩:=dW   J;obtain⟨b,M,aO,bL,rz,mV,a1,aW,bd,B⟩:=(aI.F A E).ld (λ_=>rfl) bn;cases aW;have bs:L.drop k=p::L.drop (k+1):=by
  have D:k<L.length:=J
  rw[zs D]
  grind
 have h1:=I p aa;have V:=bw p (k1 bn);have Up:∀{o M},u (T (T ap bU o) bU M) aL=some (.cells (dE c) false):=λ{o M}=>by rw[ar J,ar J];exact(A aL K).trans bV
 rw[show eP p=[(p.1:X),.int .i64 (p.2 / 18446744073709551616),.int .u64 (p.2 % 18446744073709551616)]from rfl]at B;refine KH @bd @B @Up @e (cF (J:k<1000000000000)) ?_;refine⟨λh=>absurd h1 J,λ_=>⟨λh=>absurd V J,λ_=>⟨_,J,k+1,(p.1:Int),rfl,J,rfl,λq di=>?_,aF,J⟩⟩⟩;have vn:(L.drop k).Pairwise λa b=>a.1<b.1:=aa
 rw[bs,uz]at vn
 grind
end
theorem apD{s:ao}{f:Int}{v:X}{x:Nat->ay Int}{h:ae}{U:Nat}(aI:j8 h U v n x)(bw:n<=63):aD Q s 226 [(f:X),v] h U (λr ab Y=>wn ab Y r n x/\aA U h ab/\U<=Y):=by
 refine arh ?_;have E:=aI;have gT:=md n x;obtain⟨gK,rfl,au⟩:=aI;obtain⟨cp,jw,rfl,_⟩:=id au;have bH:∀{o eV},aA U h (T (T h U o) (U+1) eV):=aF
 unfold adD;refine aE ?_;refine(v5 (E.F  bH J) J).cz λbP bg D V=>?_;have I:=(D U J).trans ((ar J).trans (aR _ _ _));have dq:=(D (U+1) J).trans (aR _ _ _);have M:=bH.trans D J;unfold ON;refine bf @I ?_;refine(alF  J).mono ?_;rintro w _ _ ⟨bV,gB,e1⟩;rw[gB,e1];rcases bV with rfl|rfl
 ·refine bf @I ?_;refine(BY (au.F  M J) J).mono ?_;rintro eD g2 bU ⟨dV,A,B⟩;refine⟨B,?_⟩;have fC:=(A U J).trans I;have K:=(A (U+1) J).trans dq;obtain⟨bA,gq,rfl⟩:=dV.form;simp(disch:=omega)only[bk,fC,K,I,iE,seval];exact⟨.inl ⟨_,rfl,dg.o   (λ_=>rfl) (dV.F  aa J J).gC.rd⟩,aF,J⟩
 ·refine bf @I ?_;refine(aeE (E.F  M J) bw).mono ?_;rintro eu g2 bU ⟨BE,A,B⟩;have K:=(A (U+1) J).trans dq;obtain⟨fw,dp,rfl,en,fT⟩:=BE;obtain⟨ek,co,rfl,_⟩:=id en;obtain⟨bz,oB,rfl,_⟩:=id fT;refine bf @K ?_;exact⟨.inr ⟨_,_,rfl,(en.F  aa J J).rd,dg.o (λ_=>rfl) (fT.F  aa J J).rd⟩,aF,J⟩
structure sS (h:ae) (al aj:Nat) (f:eC) (p:kM):Prop where
 kind:f.kind=p.kind
 fB:f.fB=p.fB
 lR:f.lR=p.lR
 round:f.round=p.round
 l7:f.l7=p.l7
 qa:eY h al aj (.slice f.bj f.n6 f.hc) fN p.l4
 r7:eY h al aj (.slice f.a6 f.n7 f.i3) eP p.nK
 n8:f.n8=0
 n:f.n=p.n
 od:f.od=p.od
section
variable {h ab:ae} {al aj ea dB:Nat} {f:eC} {p:kM}
theorem sS.is(H:sS h al aj f p):mY h aj f p:=⟨H.kind,H.fB,H.lR,H.round,H.l7,dg.o   (λ_=>rfl) H.qa.rd,dg.o   (λ_=>rfl) H.r7.rd,H.n8,H.n,H.od⟩
theorem sS.F(H:sS h al aj f p)(A:∀b,al<=b->b<aj->u ab b=u h b)(B:ea<=al)(D:aj<=dB):sS ab ea dB f p:={ H with qa:=eY.F H.qa A B D,r7:=eY.F H.r7 A B D }
theorem wA{aB:Type}{enc:aB->ac X}:eY h al aj (.slice none 0 0) enc ([]:ac aB):=⟨_,_,rfl,λh=>absurd rfl h⟩
end
section
variable {s:ao} {g cG h ab:ae} {U Y aL i j:Nat} {c bT:Nat->X} {l:ac eC} {aY:ay Nat} {Z:cn}
theorem kl.ax2(H:kl h U c Z i j):(∃K I gv E B M A D V,c 11 = .int .i64 (Z.H i:Int)/\c 12 = .int .i64 (Z.W j:Int)/\c 13 = .slice K I gv/\c 14 = .slice E B M/\c 15 = .slice A D V) /\
  ∃K I gv E B M A D V aZ d9 zh,c 16 = .int .i64 (Z.H i:Int)/\c 17 = .int .i64 (Z.W j:Int)/\c 18 = .slice K I gv/\c 19 = .slice E B M/\c 20 = .slice A D V/\c 21 = .slice aZ d9 zh:=by
 constructor
 ·obtain⟨b,aO,n,E,B,c2,A,D,cm,e⟩:=H.rows.form
  grind
 ·obtain⟨fl,_,_,a5⟩:=H.mj;obtain⟨K,I,c1,E,B,c2,A,D,cm,aZ,d9,gd,e⟩:=a5.form
  grind
theorem ax3(K:f8 Z):∀g∈Z.cut i j,0<=g.w/\g.w<=2147483647:=λg B=>by obtain⟨cG,A,rfl⟩:=gO.1 B;exact K.w cG aa
theorem aeK(K:f8 Z):hj (Z.H i) (Z.W j) (Z.cut i j):=by have A:=yv K i;have B:=CV K j;exact JX K.M (by unfold cn.H;omega) (by unfold cn.W;omega)
theorem St(K:f8 Z)(j:Nat):Z.W j<=60:=by have:=CV K j;have:=K.n60;unfold cn.W;omega
theorem ahi(K:f8 Z)(i:Nat):Z.H i<=60:=by have:=yv K i;have:=K.n60;unfold cn.H;omega
theorem alU{r gb de M I lY zo g8 iZ hO V B K D E ca A eb:X}:((qs (oO [(6,6,.agg ⟨[zo,g8,iZ,hO,V,B]⟩),(12,6,.agg ⟨[K,D,E,ca,A,eb]⟩),(19,1,.bool true),(20,1,.int .i64 0)]) 1 5 [gb,de,M,I,lY]
  [r,.int .i64 0,.int .i64 0,.slice none 0 0,.slice none 0 0,.slice none 0 0,.int .i64 0,.int .i64 0,.slice none 0 0,.slice none 0 0,.slice none 0 0,.slice none 0 0,.int .i64 0,.int .i64 0,.slice none 0 0,.int .i64 0,.slice none 0 0,.slice none 0 0,.slice none 0 0,.bool false,.int .i64 0]).bind λl=>.ok (Value.agg ⟨l⟩)) =
  .ok (.agg ⟨[r,gb,de,M,I,lY,zo,g8,iZ,hO,V,B,K,D,E,ca,A,eb,.slice none 0 0,.bool true,.int .i64 0]⟩):=rfl
theorem aiw{f:eC}{p:kM}{t:Nat}{x:Nat->ay Int}(K:f8 Z)(W:e0 h U aL c i j Z.C l aY)(H:kl h U c Z i j)(br:l.length<900)(bD:mY h U f p)(cK:t<900)(hA:p.l4=bp (Z.W j) x)(ej:p.l7=(Z.W j:Int))(pg:p.round=(t:Int))(rT:c 25 = (t:X))(aj:i<Z.R)(aX:∀i y,x i=some y->0<=y/\y<=eS):
  aD Q s 134 [bb aL,.agg ⟨eh f⟩,.agg ⟨[.int .i64 0,(j:X)]⟩] h U (λr ab Y=>r = .bool true/\∃d7 cr kJ,e0 ab Y aL (hl (hl c 25 (((t+1:Nat):X))) 22 d7) i j Z.C (l++[kJ]) (some cr) /\
   sS ab U cr kJ ⟨3,((i*Z.C+j:Nat):Int),((i*Z.C+0:Nat):Int),t,0,[],bp (Z.H i) (iK (hu Z.k t) (Z.cut i j) x),0,false⟩/\U<=cr/\(∀d,d<U->d≠aL->aY≠some d->u ab d=u h d)/\U<=Y):=by
 refine ajw ?_;have V:=W.lt;have bH:∀{o aU},aA U h (T (T h U o) (U+1) aU):=aF
 have qR:∀{o aU},u (T (T h U o) (U+1) aU) aL=some (.cells (dE c) false):=λ{o aU}=>(bH aL V).trans W.at_;obtain⟨⟨az,bg,gv,a2,E,ha,a3,b1,nm,f11,Uq,f13,f14,f15⟩,dA,m1,dU,b2,m2,dL,d2,m3,jC,fJ,m4,kL,f16,f17,f18,f19,f20,f21⟩:=H.ax2;unfold X9 eh;refine u5 @qR @Uq ?_;refine(W6   (bD.F  bH J) hA ej (St K j)).mono ?_;rintro _ bP cf ⟨v,rfl,lG,B,fa⟩;refine⟨fa,?_⟩;have cI:=bH.trans B J;have hd:=(B U J).trans ((ar J).trans (aR _ _ _));have dq:=(B (U+1) J).trans (aR _ _ _);have MR:=(B aL J).trans qR;obtain⟨gK,rfl,xp⟩:=lG;obtain⟨cp,jw,rfl⟩:=xp.form;have i6:∀{y:Int},((y == y):ao)=true:=aa
 have A:f.round=(t:Int):=bD.round.trans pg;simp(disch:=omega)only[bk,hT,hd,dq,MR,W.c1,rT,A,i6,seval];unfold EW;have qe:∀{o},e0 (T (T bP cf o) cf (.cells [.int .i64 (Z.W j:Int),.slice cp (bp (Z.W j) x).length jw] false)) (cf+1) aL c i j Z.C l aY:=λ{o}=>W.F (λd bs=>by have S6:d<U:=bs.elim J λe=>(W.aY d e).2;rw[ar J,ar J];exact cI d S6) J
 refine u5 @hd @A ?_;refine(ajD qe H.Ml).cz λg2 E D fx=>?_;have aBX:u g2 cf=_:=(D cf J).trans (aR _ _ _);have I:u g2 aL=some (.cells (dE c) false):=(D aL J).trans qe.at_;have Ur:u g2 U=_:=(D U J).trans ((ar J).trans ((ar J).trans hd));refine KH @aBX @I @Ur H.aP @A ?_;refine(O9 K.hn J).f5 ⟨J,?_⟩;simp(disch:=omega)only[bk,hT,aBX,I,Ur,iE,seval];have ey:∀{o aU},aA U h (T (T g2 E o) E aU):=aF
 have hVo:∀{o aU},j8 (T (T g2 E o) E aU) (E+1) (.agg ⟨[.int .i64 (Z.W j:Int),.slice cp (bp (Z.W j) x).length jw]⟩) (Z.W j) x:=λ{o aU}=>⟨_,rfl,dg.o   (λ_=>rfl) (xp.F (ea:=0)  (λb h1 ap=>by rw[ar J,ar J,D b J,ar J,ar J]) J J).gC.rd⟩
 refine(apD hVo (by have:=St K j;omega)).mono ?_;rintro aI dO d9 ⟨fp,M,hX⟩;refine⟨hX,?_⟩;have hR:aA U h dO:=ey.trans M J;have hH0:=fp;obtain⟨b8,cN,aW,i5,eV,ca,aP,z2,dQ,cy,z3,gu,rfl⟩:=fp.form;have sL:u dO aL=some (.cells (dE c) false):=(hR aL V).trans W.at_;have Vs:u dO E=some (.cells [.int .i64 0,.int .i64 0] false):=(M E J).trans (aR _ _ _);have lA:u dO U=_:=(M U J).trans ((ar J).trans ((ar J).trans Ur));simp(disch:=omega)only[bk,hT,sL,Vs,I,f11,Uq,f13,f14,f15,f16,f17,f18,f19,f20,f21,iE,seval];rw[alU];refine aE ?_;have ei:=H.rows;obtain⟨fl,fe,Us,hCo⟩:=H.mj;rw[f11,Uq,f13,f14,f15]at ei;rw[f16,f17,f18,f19,f20,f21]at hCo;have Ut:∀{o aU},aA U h (T (T dO d9 o) d9 aU):=(hR.set J).set J;refine(apu     ⟨Qj K.hn,aeK K,Us,fe,by have:=St K j;omega,ax3 K,aX,_,_,_,_,rfl,ei.F  Ut J,hCo.F  Ut J,hH0.F (((aA.refl _ _).set (cR _)).set (cR _)) J⟩).mono ?_;rintro _ ho eN ⟨z,y,rfl,dV,e7,ny⟩;have lk:aA U h ho:=Ut.trans e7 J;have aDc:u ho aL=some (.cells (dE c) false):=(lk aL V).trans W.at_;have l5:u ho U=_:=(e7 U J).trans ((ar J).trans ((ar J).trans lA));have zf:IntKind.wrap .i64 ((t:Int)+1)=((t+1:Nat):Int):=cF J;obtain⟨jJ,Vg,rfl,_⟩:=id dV;refine Am @aDc @rT @zf W.lZ ?_;have nR:e0 (T ho aL (.cells (dE (hl c 25 (((t+1:Nat):X)))) false)) eN aL (hl c 25 (((t+1:Nat):X))) i j Z.C l aY:=W.set (aR _ _ _) rfl rfl rfl rfl (λb e=>by have:=W.aY b e;rw[ar this.1];exact lk b this.2) J
 refine(Fe  (j:=0) nR.at_ W.hI W.mL W.i8 (by have:=K.hI;omega) nR.he).f5 ⟨cR _,?_⟩;simp(disch:=omega)only[bk,l5,A,iE,seval];refine(FA nR br ⟨3,0,((i*Z.C+0:Nat):Int),0,(t:Int),0,none,0,0,jJ,(bp (Z.H i) (iK (hu Z.k t) (Z.cut i j) x)).length,Vg,none,0,0,0,false⟩).mono ?_;rintro _ mI n7 ⟨rfl,d7,cr,In,h4,vw,qD⟩;have cZ:∀d,U<=d->aY≠some d:=λd bs e=>by have:=W.aY d e;omega
 refine⟨qD,d7,cr,_,In,⟨rfl,rfl,rfl,rfl,rfl,wA,eY.F dV (λd h1 ap=>?_) J J,rfl,rfl,rfl⟩,J,λd h1 ap aH=>?_,J⟩
 ·grind
 ·rw[vw d J ap aH,ar ap];exact lk d h1
end
def kR(h:ae)(al aj:Nat):ac eC->ac kM->Prop
 | [],[]=>True
 |f::dD,p::ce=>sS h al aj f p/\kR h al aj dD ce
 |_,_=>False
section
variable {h ab:ae} {al aj ea dB:Nat}
theorem kR.F(A:∀b,al<=b->b<aj->u ab b=u h b)(B:ea<=al)(D:aj<=dB):∀{dD ce},kR h al aj dD ce->kR ab ea dB dD ce
 | [],[],_=>trivial
 |_::_,_::_,H=>⟨H.1.F A B D,kR.F A B D H.2⟩
 | [],_::_,H=>H.elim
 |_::_,[],H=>H.elim
theorem kR.app:∀{dD ce a4 Ik},kR h al aj dD ce->kR h al aj a4 Ik->kR h al aj (dD++a4) (ce++Ik)
 | [],[],_,_,_,G=>G
 |_::_,_::_,_,_,H,G=>⟨H.1,kR.app H.2 G⟩
 | [],_::_,_,_,H,_=>H.elim
 |_::_,[],_,_,H,_=>H.elim
theorem kR.len:∀{dD ce},kR h al aj dD ce->dD.length=ce.length
 | [],[],_=>rfl
 |_::_,_::_,H=>by rw[nq,nq,kR.len H.2]
 | [],_::_,H=>H.elim
 |_::_,[],H=>H.elim
theorem kR.is:∀{dD ce},kR h al aj dD ce->qz h aj dD ce
 | [],[],_=>trivial
 |_::_,_::_,H=>⟨H.1.is,kR.is H.2⟩
 | [],_::_,H=>H.elim
 |_::_,[],H=>H.elim
end
def Kk(Z:cn)(i t:Nat)(x:Nat->ay Int)(j:Nat):kM:=⟨1,((i*Z.C+0:Nat):Int),(j:Int),(t:Int),((Z.cl (i+1) j-Z.cl i j:Nat):Int),bp (Z.cl (i+1) j-Z.cl i j) (λk=>x (Z.cl i j+k)),[],0,false⟩
theorem Su{A:Nat}(B:rk Q A=true){h:ae}{U r:Nat}(D:u h r=some (.map es cL)):pk Q .clear [A] h U [.map (some r)] = .ok (.val j7 (T h r (.map [] cL)) U):=by show(bif rk Q A||ns Q A then F5 Q A h U (.map (some r))else .no "clear")=_;rw[B];show k6 h r _=_;unfold k6;rw[D]
theorem ax4:rk Q 172=true:=by kernel_rfl
def BeJ(aL i C bg U t:Nat)(Z:cn)(x:Nat->ay Int)(c:Nat->X)(l:ac eC)(aY:ay Nat)(h kp:ae)(m:Nat)(aJ:ac X)(ab:ae)(Y:Nat):Prop :=
 ∃Io bT gU dD B,m=C-Io/\Io<=C/\aJ=[bb aL,bb bg,(C:X),(Io:X)]/\(∀n,n≠22->bT n=c n)/\e0 ab Y aL bT i 0 C (l++dD) gU /\
  kR ab U B dD ((List.range Io).map (Kk Z i t x))/\bg+1<=B/\B<=Y/\(∀b,gU=some b->aY=some b\/B<=b)/\(0<Io->∃b,gU=some b/\B<=b)/\(∀d,U<=d->d<=bg->u ab d=u kp d)/\(∀d,d<U->d≠aL->aY≠some d->u ab d=u h d)
section
variable {s:ao} {g cG h ab:ae} {U Y aL i j:Nat} {c bT:Nat->X} {l:ac eC} {aY:ay Nat} {Z:cn}
theorem ajF{r M:Nat}{S:jS}(K:f8 Z)(W:e0 h U aL c i 0 Z.C l aY)(H:kl h U c Z i 0)(br:l.length+Z.C<900)(aj:i<Z.R)(au:jr h U (.agg ⟨[c 28,c 29,c 30,c 31,c 32]⟩) (Z.bN i) (Z.H i) S)(D2:c 26 = (r:X))(ba:r<900)(my:c 41 = .map (some M))(bx:u h M=some (.map es cL))(rP:M<U/\M≠aL/\aY≠some M):
  aD Q s 232 [bb aL] h U (λmJ ab Y=>mJ = .tuple ⟨[]⟩/\∃bT cr dD,(∀n,n≠22->n≠40->bT n=c n)/\bT 40 = .slice none 0 0/\e0 ab Y aL bT i 0 Z.C (l++dD) (some cr) /\
   kR ab U cr dD ((List.range Z.C).map (Kk Z i (r+1) (rx Z.k (iM Z.bu Z.N (r / 2)) (r+1) S)))/\U<=cr/\u ab M=some (.map [] cL)/\(∀d,d<U->d≠aL->d≠M->aY≠some d->u ab d=u h d)/\U<=Y):=by
 refine alR ?_;have cS:=W.lt;have qJ:=au;obtain⟨dp,fW,fw,hz,fE,gh,gt⟩:=au;obtain⟨fI,en,rfl,_⟩:=id fE;obtain⟨gr,fT,rfl,_⟩:=id gh;obtain⟨mH,ia,rfl,_⟩:=id gt;simp only[Value.agg.injEq,xN,vR,iv]at hz;obtain⟨sT,p1,rU,jU,gp⟩:=hz;rw[sT,p1,rU,jU,gp]at qJ;obtain⟨a9,gs,qZ,_⟩:=id H.d;have pg:IntKind.wrap .i64 ((r:Int)+1)=((r+1:Nat):Int):=cF J;have g9:=H.k9 K;rw[qZ]at g9;have A0:=yv K i;unfold aaf;simp(disch:=omega)only[bk,hT,W.at_,H.aP,H.cy,H.eE,H.ir,qZ,sT,p1,rU,jU,gp,D2,pg,seval];refine(atk  g9 qJ (by unfold cn.H;omega) J J).mono ?_;rintro Bn D bg ⟨lG,dv,fa⟩;refine⟨fa,?_⟩;rw[show(r+1-1) / 2=r / 2 from rfl]at lG;obtain⟨gK,rfl,xp⟩:=lG;obtain⟨cp,jw,rfl⟩:=xp.form;have de:u D aL=some (.cells (dE c) false):=(dv aL cS).trans W.at_;refine u5 @de W.he ?_;generalize r6:rx Z.k (iM Z.bu Z.N (r / 2)) (r+1) S=dJ at xp ⊢;generalize Md:T (T D bg _) bg _=kp;have Vt:u kp bg=some (.cells [.int .i64 (Z.H i:Int),.slice cp (bp (Z.H i) λk=>dJ (Z.bN i+k)).length jw] false):=aa
 have cZ:∀d,U<=d->aY≠some d:=λd bs e=>by have:=W.aY d e;omega
 have uu:aA U h kp:=aF
 refine bF.mk (BeJ aL i Z.C bg U (r+1) Z dJ c l aY h kp) Z.C ⟨0,c,aY,[],bg+1,J,J,rfl,aa,by rw[hC];exact W.F (λd bs=>uu d aa) J,trivial,J,J,aa,λh=>absurd h J,aa,λd bs _ _=>uu d bs⟩ ?_;rintro _ _ A bU ⟨I,c2,V,dD,B,rfl,cb,rfl,og,E,hS,vt,rV,nB,az0,dM,pM⟩;rw[ajB];unfold W2;have Vu:=(dM bg J J).trans Vt;have e1:(dD.length:Nat)=I:=by rw[hS.len,gW,EB]
 have ig:c2 2=c 2/\c2 3=c 3/\c2 7=c 7/\c2 26=c 26/\c2 41=c 41:=aa
 obtain⟨aD4,aDd,aDe,j26,j41⟩:=ig;refine aE ?_;refine⟨λDk=>?_,λeZ=>?_⟩
 ·simp(disch:=omega)only[bk,hT,Vu,E.at_,aDd,H.cy,aDe,H.gN,E.he,E.lZ,seval];have hVF:pG A U bU (.agg ⟨[.int .i64 (Z.H i:Int),.slice cp (bp (Z.H i) λk=>dJ (Z.bN i+k)).length jw]⟩) (Z.H i) (λk=>dJ (Z.bN i+k)):=⟨_,rfl,xp.F aa J J⟩
  have bw:=K.n60;refine(alv  J K.lH K.nQ K.hI K.mL aj J hVF).mono ?_;rintro aJ aH b1 ⟨dV,f1,gg⟩;refine⟨gg,?_⟩;have AV:=(f1 aL E.lt).trans E.at_;obtain⟨vsi,rfl,hSi⟩:=dV;obtain⟨aDf,aDg,rfl,_⟩:=id hSi;refine Am @AV @j26 @D2 @pg ?_;have qY:∀{o aU},e0 (T (T aH b1 o) b1 aU) (b1+1) aL c2 i 0 Z.C (l++dD) V:=λ{o aU}=>E.F (λd bs=>by have:d<bU:=bs.elim J λe=>(E.aY d e).2;rw[ar J,ar J];exact f1 d this) J
  refine(FA qY aa ⟨1,0,(I:Int),0,((r+1:Nat):Int),((Z.cl (i+1) I-Z.cl i I:Nat):Int),aDf,(bp (Z.cl (i+1) I-Z.cl i I) λk=>dJ (Z.cl i I+k)).length,aDg,none,0,0,none,0,0,0,false⟩).mono ?_;rintro _ bh d9 ⟨rfl,d7,cr,MS,h4,xg,hX⟩;refine⟨hX,?_⟩;refine bf (cF (J:I<1000000000000)) ?_;have vr:∀d,U<=d->d<B->V≠some d:=aa
  have nb3:∀d,bU<=d->V≠some d:=λd D e=>by have:=E.aY d e;omega
  have eE:∀d,d<bU->d≠aL->V≠some d->u bh d=u A d:=λd D A aH=>by rw[xg d J A aH,ar J,ar J];exact f1 d D
  refine⟨_,J,I+1,_,some cr,dD++[_],b1+1,rfl,J,rfl,λn bw=>?_,by rw[<-kq];exact MS,?_,J,J,λb e=>.inr aa,λ_=>⟨cr,rfl,J⟩,λd D A=>?_,λd D A aH=>?_⟩
  ·rw[dP bw];grind
  ·rw[q8,hr];refine(hS.F (λb D A=>eE b J J (vr b D A)) (cR _) J).app ⟨⟨rfl,rfl,rfl,rfl,rfl,?_,wA,rfl,rfl,rfl⟩,trivial⟩;exact eY.F hSi (λb D A=>by rw[xg b J J (nb3 b J),ar J,ar J]) J J
  all_goals grind
 ·have:I=Z.C:=J
  subst this;obtain⟨cr,rfl,h4⟩:=az0 (by have:=K.hI;omega);have oj:u A M=some (.map es cL):=(pM M rP.1 rP.2.1 rP.2.2).trans bx;have hw5:∀{o},u (T A M o) aL=some (.cells (dE c2) false):=λ{o}=>by rw[ar (kt rP.2.1)];exact E.at_
  simp(disch:=omega)only[bk,hT,E.at_,j41,my,Su ax4 oj,dI,hw5,seval];refine⟨_,cr,dD,λn D A=>by rw[dP A];grind,yt,E.set (aR _ _ _) rfl rfl rfl rfl (λb e=>aa) (cR _),(hS.F (λb D A=>aa) (cR _) h4),J,λd D A aH bh=>aa,J⟩
end
end Go.Proofs.YthlhhajnbgjfmaaGreat
