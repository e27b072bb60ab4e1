/- Parts of the proof: HwFn6: each statement bears its own conditions. -/
import Derived.Test.YthlhhajnbgjfmaaGreatRwHwFn5
namespace Go.Proofs.YthlhhajnbgjfmaaGreat
open Go Go.Ax Go.Ax.HdH
set_option linter.all false
set_option maxHeartbeats 1000000
set_option maxRecDepth 1000000
variable {af:aa GE} {n:Nat} {L:aa (Nat × Int)} {fr:aa GE} {r:Int} {a0:X} {cV so:av Nat} {fK:aa (Nat × Int)} {R:Nat} {q:Nat × Int->ak} {es:aa MapEntry} {y:Int} {aF:aH} {bz cs:aa X} {a:Nat} {w:X} {cc:aa eE} {cg:Nat} {cH:X} {cL z d7:Nat}
theorem v6.aAR{h ac:ad}{A:aa X}{W:aa e6}{E:X}(H:v6 h cg bz W cV)(I:u h cg=some (.cells (E::bz) false))(B:u ac cg=some (.cells (E::A) false))(K:∀b,cV=some b->u ac b=u h b):v6 ac cg A W cV:=by
 rcases H with⟨V,aJ,D⟩|⟨b,M,cap,cs,e,w⟩
 ·rw[I]at D;cases D;exact .inl ab
 ·have:=w.cell;rw[I]at this;cases this;exact .inr ⟨b,M,cap,cs,e,⟨B,(K b e).trans w.ct,w.len,w.Ih,w.ne⟩⟩
theorem nw.ho{h:ad}{v:X}{l:aa (Nat × Int)}{aP:av Nat}(H:nw h v l aP):fb h eA 3 v l aP:=by
 rcases H with⟨rfl,rfl,rfl⟩|⟨b,rfl,rfl,A⟩
 ·exact .nil
 ·exact .own A
theorem ape{s:ak}{h:ad}{U ao:Nat}{W:aa e6}(ba:oM r)(H:HW h U ao cg r W fK cV)(uU:cg<U)(r9:ao<=cg)(qj:ao<=U)(bg:W.length<900)(j1:fK.length<100000)(jF:W≠[])(sa:(∀p∈fK,0<=p.2/\p.2<=eB)/\∀p∈left W,0<=p.2/\p.2<=eB):
  aD Q s 330 [bb cg] h U (λ_ ac Y=>∃p M dl su,(p::M).Perm (left W)/\(∀q∈left W,p.1<=q.1)/\HW ac Y ao cg r dl (rp r fK p) su/\(left dl).Perm M/\dl.length<=W.length/\U<=Y/\(∀c,c<ao->u ac c=u h c)):=by
 refine aq7 ?_;unfold ae5;obtain⟨out,aP,hHp,V,K,hOw,qi,mM⟩:=H;rcases hHp with⟨_,ap,_⟩|⟨b,aO,cap,cs,rfl,w⟩
 ·exact absurd ap jF
 obtain⟨p,bv⟩:=dk (l:=W) (i:=0) ab;have gA:=(gE.1 bv).1;have E:=K p ab;have wg:=qi b rfl;have eg:=w.ne;have Ez:=E.ok.cell;have uI:c5 p.v=[p.v]:=by obtain⟨_,_,_,_,_,_,_,h1,_⟩:=E.ok;rw[h1];rfl
 have se:=LC (cs:=cs) bv;rw[mx]at se;refine Tl w.cell w.ct @se @Ez @uI ?_;have bF:az U h (F (F h U (.cells [.slice none 0 0,.int .i64 0] false)) U (.cells [p.v,(p.w:X)] false)):=aC
 have aAS:u (F (F h U (.cells [.slice none 0 0,.int .i64 0] false)) U (.cells [p.v,(p.w:X)] false)) U=some (.cells [p.v,(p.w:X)] false):=ab
 generalize F (F h U (.cells [.slice none 0 0,.int .i64 0] false)) U (.cells [p.v,(p.w:X)] false)=ap at bF aAS ⊢;have gp:=HE w bF wg.2 uU;have al0:qe ap ao W:=K.T λc aU=>bF c J;refine(asF  gp J wg.1 J r9 J J V al0.ok bv).mono ?_;rintro _ h1 a6 ⟨cs1,oo,dh,NE,Wd,fp,eT⟩;have We:=(eT U J J J).trans aAS;have ahK:zX h1 ao p:=E.T λc aU=>(eT c J J J).trans (bF c J);have al1:qe h1 ao oo:=λx aR=>(al0 x (Wd.mem_iff.1 (m8 _ aR))).T λc aU=>eT c J J J;obtain⟨q,cc,NF⟩:∃q cc,p.l=q::cc:=by
  cases ft:p.l with
  |nil=>exact absurd ft E.2.1
  |cons q cc=>grind
 obtain⟨d6,gL,sp3,IQ,B7,aAk,oZ,ce,tu,awI⟩:=ahK.1.o.all (λ_=>rfl) E.2.1;have MB:=(awI 0 q ab).1;rw[mx,m9]at MB;have awJ:p.l.length=cc.length+1:=ab
 have agS:=ahK.1;rw[NF]at agS;obtain⟨aC4,etw,htw⟩:=mS.tail  (k:=3) (λ_=>rfl) agS;rw[awJ]at ce;rw[ce]at We etw;simp(disch:=omega)only[bd,↓reduceIte,Nat.reduceAdd,Nat.reduceSub,Nat.reduceMul,Nat.reduceLT,Nat.reduceLeDiff,Nat.reduceEqDiff,Int.reduceBEq,Int.reduceLT,Int.reduceNeg,We,tu,MB,show c5 (.agg ⟨eA q⟩)=[(q.1:X),.int .i64 (q.2 / 18446744073709551616),.int .u64 (q.2 % 18446744073709551616)]from rfl];rw[etw];refine mA @We ?_;obtain⟨al,Wf⟩:∃al,al=F (F h1 a6 (.cells [.int .i64 0,.int .i64 0,.int .u64 0] false)) a6 (.cells [(q.1:X),.int .i64 (q.2 / 18446744073709551616),.int .u64 (q.2 % 18446744073709551616)] false):=⟨_,rfl⟩
 have ez:az a6 h1 al:=by rw[Wf];exact((az.refl _ _).set (cB _)).set (cB _)
 have G20:u al a6=some (.cells [(q.1:X),.int .i64 (q.2 / 18446744073709551616),.int .u64 (q.2 % 18446744073709551616)] false):=ab
 rw[<-Wf];clear Wf;have ahL:=E.2.2.2.2;rw[NF]at ahL;have pE:=vj.1 ahL;have pz:oo.length+1=W.length:=by rw[<-Wd.length_eq];rfl
 refine(ad3    (.inr ⟨b,aO,cap,cs1,rfl,HE dh ez J J⟩) (λD e=>ab) J r9 J J NE (al1.T λc aU=>ez c J) (htw.T (λc aU=>ez c J) (cB _)) E.2.2.1 pE.2).mono ?_;rintro _ aM bR ⟨qM,yd,db,⟨nv,Wg,zJ,Wh⟩,ayA,e9,dE⟩;refine⟨e9,?_⟩;have aB8:∀c,c<U->c≠b->c≠cg->u aM c=u h c:=λc c1 c2 cm=>by rw[dE c J cm (λe=>ab),ez c J,eT c J c2 cm,bF c c1]
 have Wi:u aM a6=some (.cells [(q.1:X),.int .i64 (q.2 / 18446744073709551616),.int .u64 (q.2 % 18446744073709551616)] false):=(dE a6 J J (λe=>ab)).trans G20;have ahM:nw aM out fK aP:=hOw.T λD e=>ab
 have ahN:qe aM ao qM:=Wh aM λc aU=>dE c J J (λe=>ab);have wv:(q::(cc++left oo)).Perm (left W):=by
  have:=aac Wd;unfold left at this ⊢
  grind
 have ahO:∀kU∈left W,q.1<=kU.1:=λkU NC=>by
  obtain⟨x,aR,hqx⟩:=List.mem_flatMap.1 NC;have M4:=K x aR;have hpk:p.k<=x.k:=oF.min V bv x aR;obtain⟨iH,Cj,hlx⟩:∃iH Cj,x.l=iH::Cj:=by
   cases ft:x.l with
   |nil=>grind
   |cons q cc=>grind
  have aY:p.k=(q.1:Int)*1000+(p.w:Int):=by rw[E.2.2.2.1];show(((p.l.getD 0 (0,0)).1:Nat):Int)*1000+(p.w:Int)=_;rw[NF];rfl
  have aJ:x.k=(iH.1:Int)*1000+(x.w:Int):=by rw[M4.2.2.2.1];show(((x.l.getD 0 (0,0)).1:Nat):Int)*1000+(x.w:Int)=_;rw[hlx];rfl
  have hxw:=M4.2.2.1;have hsx:=M4.2.2.2.2;rw[hlx]at hsx hqx;have dr:iH.1<=kU.1:=by
   rcases hf.1 hqx with rfl|h
   ·omega
   ·exact Nat.le_of_lt ((vj.1 hsx).1 kU h)
  omega
 obtain⟨kR,A⟩:∃kR,u aM cg=some (.cells [kR,(r:X),out] false):=by
  rcases db with⟨_,_,aU⟩|⟨_,_,_,_,_,aB9⟩
  ·grind
  ·exact⟨_,aB9.cell⟩
 have ayB:∀D,yd=some D->ao<=D/\D<bR:=λD e=>ab
 have hkl:∀c,c<ao->u aM c=u h c:=λc aU=>aB8 c J J J;have I3:(left qM).Perm (cc++left oo):=Wg.trans List.perm_append_comm;have hLW:qM.length<=W.length:=J
 have aAl:∀D,aP=some D->yd≠some D:=λD e aJ=>ab
 have ayC:∀D,aP=some D->ao<=D/\D<bR/\D≠cg/\yd≠some D:=λD e=>ab
 have app:rp r fK q=fK++[q]->Gx s (λ_ ac Y=>∃p M dl su,(p::M).Perm (left W)/\(∀q∈left W,p.1<=q.1)/\HW ac Y ao cg r dl (rp r fK p) su/\(left dl).Perm M/\dl.length<=W.length/\U<=Y/\(∀c,c<ao->u ac c=u h c)) (bb cg) (bb a6) (fK.length:X) (.bool false) aM bR:=λhm=>by
  unfold Gx;refine uj @A @Wi ?_;refine y6  (k:=3) (λ_=>rfl) (λ_=>rfl) J ((ahM.T λD e=>ab).ho) q (aN _ _ _) rfl J λbP EL uM=>?_;have MN:u bP cg=some (.cells [kR,(r:X),out] false):=ab
  refine mA @MN ?_;refine⟨J,q,_,qM,yd,wv,ahO,⟨.slice (some ⟨bR+1,0,some 3⟩) (fK.length+1) (fK.length+1),some (bR+1),db.aAR A (aN _ _ _) (λD e=>?_),nv,ahN.T (λc aU=>?_),?_,λD e=>ab,λD e=>?_⟩,I3,hLW,J,λc aU=>?_⟩
  ·grind
  ·grind
  ·rw[hm];exact .inr ⟨bR+1,rfl,ab,ab⟩
  ·grind
  grind
 rcases ahM with⟨aY,aJ,ce⟩|⟨g3,aY,aJ,uW⟩
 ·subst aY aJ;refine mA @A ?_;exact⟨λh=>absurd h J,λ_=>app rfl⟩
 ·have E8:=ayC g3 aY;subst aJ;cases qm:fK.getLast? with
  |none =>
   have xB:fK=[]:=List.getLast?_eq_none_iff.1 qm;subst xB;refine mA @A ?_;exact⟨λh=>absurd h (by simp),λ_=>app rfl⟩
  |some z =>
   obtain⟨B,ayD⟩:=JU.1 qm;have gA:fK.length=B.length+1:=ab
   have cX:fK[B.length]? = some z:=ab
   have oW:=ga (enc:=eA) (k:=3) (λ_=>rfl) fK;have U3:eu aM bR (.slice (some ⟨g3,0,some 3⟩) fK.length fK.length) eA 3 fK:=cN.o (λ_=>rfl) ⟨_,_,rfl,λ_=>⟨g3,_,_,E8.2.1,rfl,uW⟩⟩;obtain⟨Af,oe,sp6,ro6,cs6,aAm,ET,g1,hg6,I⟩:=U3.all (λ_=>rfl) ab;cases g1;rw[uW]at hg6;cases hg6;have mm:=(I _ z cX).2 0 _ J rfl;have c1:=(I _ z cX).2 1 _ J rfl;have c2:=(I _ z cX).2 2 _ J rfl;rw[m9,ix]at mm;rw[ix]at c1 c2;have e8:IntKind.wrap .i64 ((fK.length:Int)-1)=(B.length:Int):=by rw[po];omega
   have xX:B.length<fK.length:=J
   refine Tl @A @e8 @uW @mm @Wi ?_;refine⟨λ_=>?_,λh=>absurd h J⟩;have T9:hF (some 2) (B.length*3+1) (a1 eA fK) = .ok (.agg ⟨wid z.2⟩):=by
    rw[qR,if_pos J];have:((a1 eA fK).drop (B.length*3+1)).take 2=wid z.2:=by
     have dQ:=(gE.1 c1)
     have dC:=(gE.1 c2)
     obtain⟨m1,aY⟩:=dQ;obtain⟨m2,aJ⟩:=dC;rw[Am m1,aY,CN,Am J,CN,tV];rw[show(a1 eA fK)[B.length*3+1+1]=(a1 eA fK)[B.length*3+2]from rfl,aJ];rfl
    grind
   by_cases px:z.1=q.1
   ·have hm:rp r fK q=B++[(z.1,ka r z.2 q.2)]:=by
     unfold rp;rw[qm]
     grind
    rw[show((z.1:Int) == (q.1:Int))=true from vn.2 J];unfold Gx;refine Tl @A @e8 @uW @T9 @Wi ?_;have hzr:=sa.1 z (jp cX);have hqr:=sa.2 q (wv.mem_iff.1 (ow ..));refine(Rv ba (a:=z.2) (b:=q.2) (GZ (by unfold kP eB at *;omega)) (GZ (by unfold kP eB at *;omega))).mono ?_;rintro _ bc d4 ⟨rfl,gd,iC⟩;refine⟨iC,?_⟩;have hc4:=(gd cg J).trans A;have I1:=(gd g3 J).trans uW;have xR:jg (some (.cells (a1 eA fK) false)) bc g3 (B.length*3+1) (wid (ka r z.2 q.2)) = .ok (F bc g3 (.cells (a1 eA (B++[(z.1,ka r z.2 q.2)])) false)):=by
     have aAn:=ga (enc:=eA) (k:=3) (λ_=>rfl) B;have Ml:a1 eA fK=a1 eA B++eA z:=by rw[ayD,sW]
     rw[LY rfl (by rw[oW];show B.length*3+1+2<=_;omega)]
     congr 4
     rw[Ml,sW,show(wid (ka r z.2 q.2)).length=2 from rfl];rw[show B.length*3+1=(a1 eA B).length+1 by omega,List.take_length_add_append,wK,JT,kB,kB];rfl
    refine L0 @hc4 @I1 @pc @tY ?_;rw[xR];refine⟨rfl,q,_,qM,yd,wv,ahO,⟨.slice (some ⟨g3,0,some 3⟩) fK.length fK.length,some g3,db.aAR A ?_ (λD e=>?_),nv,ahN.T (λc aU=>?_),?_,λD e=>ab,λD e=>?_⟩,I3,hLW,J,λc aU=>?_⟩
    ·grind
    ·have b9:=ayB D e;have:D≠g3:=λaJ=>E8.2.2.2 ab;rw[aq this,gd D J]
    ·rw[aq J,gd c J]
    ·rw[hm];exact .inr ⟨g3,rfl,by rw[gA,jb];rfl,aN _ _ _⟩
    ·grind
    ·rw[aq J,gd c J];grind
   ·have hm:rp r fK q=fK++[q]:=by
     unfold rp
     grind
    rw[show((z.1:Int) == (q.1:Int))=false from sR.2 J];exact app hm
def qA:X->X
 | .slice a n c=>.slice a n c
 |_=>.slice none 0 0
theorem mS.qA{aA:Type}{h:ad}{U k:Nat}{v:X}{enc:aA->aa X}{l:aa aA}(H:mS h U v enc k l):qA v=v:=by obtain⟨a,c,rfl,_⟩:=H;rfl
def BB(h:ad)(U:Nat)(v:X)(fT:aa (X × aa (Nat × Int))):Prop:=eu h U v (λp=>[qA p.1]) 1 fT/\∀p∈fT,mS h U p.1 eA 3 p.2/\(p.2.Pairwise λa b=>a.1<b.1)/\p.2.length<100000/\∀q∈p.2,0<=q.2/\q.2<=eB
theorem BB.T{h ac:ad}{U Y:Nat}{v:X}{fT:aa (X × aa (Nat × Int))}(H:BB h U v fT)(D:az U h ac)(A:U<=Y):BB ac Y v fT :=
 ⟨H.1.T D A,λp B=>⟨(H.2 p B).1.T D A,(H.2 p B).2⟩⟩
theorem auN{s:ak}{fT:aa (X × aa (Nat × Int))}{v:X}{h:ad}{U:Nat}(eJ:fT.length<1000000)(E:BB h U v fT):
  aD Q s 395 [v,.func (.func 326) ⟨[]⟩ ⟨[]⟩] h U (fm (.int .i64 (-1)) U h):=by refine aiw ?_;unfold X7;obtain⟨bp,cap,rfl,aU⟩:=id E.1;refine aB ?_;refine bq.mk (λm aE ac Y=>∃i,m=fT.length-i/\i<=fT.length/\aE=[.slice bp fT.length cap,.func (.func 326) ⟨[]⟩ ⟨[]⟩,.int .i64 0,(fT.length:X),(i:X)]/\ac=h/\Y=U) fT.length ⟨0,J,J,rfl,rfl,rfl⟩ ?_;rintro _ _ al bH ⟨i,rfl,ai,rfl,I,D⟩;rw[aip,I,D];unfold XV;refine aB ?_;refine⟨λci=>?_,λeh=>⟨rfl,rfl,rfl⟩⟩;obtain⟨p,V⟩:=dk   J;obtain⟨b,aW,aO,bC,qg,K,aG,M,a5,B⟩:=eu.ld1  E.1 V;cases M;have A:=E.2 p ab;rw[A.1.qA]at B;refine cx @a5 @B ?_;refine bS ?_;refine(alP A.1.o J A.2.1).mono ?_;rintro _ _ _ ⟨rfl,I,D⟩;rw[I,D];refine a9 (cn (J:i<1000000000000)) ?_;exact⟨_,J,i+1,rfl,J,rfl⟩
def rZ(fT:aa (X × aa (Nat × Int))):aa (Nat × Int):=fT.flatMap (·.2)
theorem asG{p:Nat × Int}(E:oM r)(I:∀q∈fK,0<=q.2/\q.2<=eB)(B:0<=p.2/\p.2<=eB):∀q∈rp r fK p,0<=q.2/\q.2<=eB:=λq A=>by
 unfold rp at A;cases D:fK.getLast? with
 |none=>grind
 |some z =>
  rw[D]at A;simp only at A
  split at A
  ·rcases g6.1 A with h|h
   ·exact I q ((List.dropLast_sublist fK).subset h)
   ·rw[iR.1 h];exact agM E ab B
  grind
theorem asH(r:Int)(fK:aa (Nat × Int))(p:Nat × Int):(rp r fK p).length<=fK.length+1:=by
 unfold rp
 grind
theorem v6.form{h:ad}{W:aa e6}(H:v6 h cg bz W cV):∃a c,u h cg=some (.cells (.slice a W.length c::bz) false):=by
 rcases H with⟨_,rfl,A⟩|⟨_,_,_,_,_,w⟩
 ·grind
 ·exact⟨_,_,w.cell⟩
theorem aad{s:ak}{fT:aa (X × aa (Nat × Int))}{v:X}{h:ad}{U:Nat}(ba:oM r)(eJ:fT.length<800)(aI:BB h U v fT)(he:(rZ fT).length<50000):
  aD Q s 229 [(r:X),v] h U (λaT ac Y=>∃w fK,aT = .tuple ⟨[w,.int .i64 0]⟩/\dX ac w eA 3 fK U Y/\zL r fK [] (λi=>kb r (rZ fT) i)/\az U h ac/\U<=Y):=by
 refine anx ?_;obtain⟨bp,cap,rfl,aU⟩:=id aI.1;refine(A4  (by rcases ba with rfl|rfl|rfl <;> omega) (by rcases ba with rfl|rfl|rfl <;> omega)).mono ?_;rintro _ _ _ ⟨rfl,gG,eL⟩;rw[gG,eL];refine aB ?_;refine aig ?_;refine(auN J aI).mono ?_;rintro _ _ _ ⟨rfl,gG,eL⟩;rw[gG,eL];refine aB ?_;refine⟨λh=>absurd trivial h,?_⟩;obtain⟨H,gh⟩:∃H,H=F h U (.cells [.slice none 0 0,(r:X),.slice none 0 0] false):=⟨_,rfl⟩
 have vd:az U h H:=by rw[gh];exact aC
 rw[<-gh];refine bq.mk (λm aE ac Y=>∃i W cV,m=fT.length-i/\i<=fT.length/\aE=[bb U,.slice bp fT.length cap,(fT.length:X),(i:X)]/\HW ac Y U U r W [] cV/\(left W).Perm (rZ (fT.take i))/\W.length<=i/\az U h ac/\U+1<=Y) fT.length ⟨0,[],none,J,J,rfl,⟨.slice none 0 0,none,.inl ab,apd,λx aR=>(tT aR).elim,.inl ab,ab,ab⟩,CS _,by simp,vd,J⟩ ?_;rintro _ _ al bH ⟨i,W,cV,rfl,ai,rfl,jn,hl,hWl,I,e9⟩;rw[akY];unfold ZM;refine aB ?_;refine⟨λci=>?_,λeh=>?_⟩
 ·obtain⟨p,bv⟩:=dk   J;obtain⟨b,aW,aO,bC,qg,oJ,aG,aY,a5,jY⟩:=eu.ld1  aI.1 bv;cases aY;have jy:=(I b aG).trans a5;have K:=aI.2 p ab;rw[K.1.qA]at jY;obtain⟨out,aP,V,B,D,E,qi,mM⟩:=jn;refine cx @jy @jY ?_;refine(ad3   V qi J J J J B D (K.1.T (λc aU=>I c aU) J) J K.2.1).mono ?_;rintro _ aM bR ⟨qM,yd,db,⟨nv,Wg,zJ,Wh⟩,ayA,hr,ek⟩;refine a9 (cn (J:i<1000000000000)) ?_;have tr:∀c,c<U->u aM c=u al c:=ab
  refine⟨_,J,i+1,qM,yd,rfl,J,rfl,⟨out,aP,db,nv,Wh aM tr,E.T λck e=>?_,λck e=>?_,λck e=>?_⟩,?_,J,aC,J⟩
  ·grind
  ·grind
  ·grind
  ·unfold rZ;rw[gQ,bv];rw[JZ];have:=Wg.trans (hl.append_right p.2);simpa[rZ]using this
 ·have I4:i=fT.length:=J
  subst I4;rw[ht]at hl;have ayE:∀p∈left W,0<=p.2/\p.2<=eB:=λp bv=>by obtain⟨x,aR,oY⟩:=List.mem_flatMap.1 (hl.mem_iff.1 bv);exact(aI.2 x aR).2.2.2 p oY
  refine bq.mk (λm aE ac Y=>∃W fK cV,m=(left W).length/\aE=[bb U]/\HW ac Y U U r W fK cV/\zL r fK (left W) (λi=>kb r (rZ fT) i)/\W.length<900/\fK.length+(left W).length<=50000/\(∀p∈fK,0<=p.2/\p.2<=eB)/\(∀p∈left W,0<=p.2/\p.2<=eB)/\az U h ac/\U+1<=Y) (left W).length ⟨W,[],cV,rfl,rfl,jn,⟨List.Pairwise.nil,ab,λv=>by rw[Qk hl];rfl⟩,J,by have:=hl.length_eq;grind,ab,ayE,I,e9⟩ ?_;rintro _ _ aM bR ⟨W,fK,cV,rfl,rfl,jn,zY,hWl,h3,hi1,hi2,ek,hr⟩;rw[akZ];unfold ZN;have Wj:=jn;obtain⟨out,aP,V,B,D,E,qi,mM⟩:=jn;obtain⟨hd,oi,A⟩:=V.form;refine a9 @A ?_;refine RZ.mono ?_;rintro _ _ _ ⟨rfl,gG,eL⟩;rw[gG,eL];refine a9 @A ?_;refine⟨λwj=>?_,λdr=>?_⟩
  ·have eg:W≠[]:=ab
   refine(ape ba Wj J J J hWl J eg ab).mono ?_;rintro _ bc d4 ⟨p,M,qM,yd,hpM,Mt,hM2,I3,zZ,iC,gd⟩;have pz:=hpM.length_eq;have uC:=I3.length_eq;rw[nM]at pz;have x2:=asH r fK p;have i0:=zY.step hpM Mt;refine⟨(left qM).length,J,qM,rp r fK p,yd,rfl,hM2,⟨i0.up,λo fj q cz=>i0.le o fj q ab,λv=>?_⟩,J,J,asG ba hi1 ab,ab,aC,J⟩;rw[Qk I3];exact i0.Jr v
  ·have hW0:W=[]:=ab
   subst hW0;refine⟨out,fK,rfl,?_,zY,ek,J⟩;rcases E with⟨rfl,rfl,_⟩|⟨g3,aY,rfl,uW⟩
   ·exact .inl ab
   ·have:=mM g3 aY;exact .inr ⟨g3,J,J,rfl,uW⟩
theorem ajW{s:ak}{v:X}{h:ad}{U:Nat}(ba:oM r)(eJ:L.length<100000)(aI:eu h U v fV 2 L)(ca:0<=y/\y<=eB)(bN:∀p∈L,0<=p.2/\p.2<=2147483647):
  aD Q s 453 [(r:X),v,(y:X),.slice none 0 0,.bool true] h U (λaT ac Y=>dX ac aT eA 3 (L.map λp=>(p.1,gw r p.2 y)) U Y/\az U h ac/\U<=Y):=by
 refine ak1 ?_;unfold abh;obtain⟨bp,cap,rfl,aU⟩:=id aI;refine aB ?_;refine bq.mk (λm aE ac Y=>∃i w,m=L.length-i/\i<=L.length/\aE=[(r:X),(y:X),.slice none 0 0,.bool true,w,.slice bp L.length cap,(L.length:X),(i:X)]/\dX ac w eA 3 ((L.take i).map λp=>(p.1,gw r p.2 y)) U Y/\az U h ac/\U<=Y) L.length ⟨0,.slice none 0 0,J,J,rfl,.inl ab,aC,J⟩ ?_;rintro _ _ al bH ⟨i,w,rfl,ai,rfl,I,B,A⟩;rw[ajz];unfold YO;refine aB ?_;refine⟨λci=>?_,λeh=>?_⟩
 ·obtain⟨p,bv⟩:=dk   J;obtain⟨b,aW,aO,bC,qg,oJ,aG,K,a5,M⟩:=(aI.T B A).ld (λ_=>rfl) bv;cases K;refine cx @a5 @M ?_;rw[show fV p=[(p.1:X),(p.2:X)]from rfl];refine aB ?_;refine RY.mono ?_;rintro _ _ _ ⟨rfl,gG,eL⟩;rw[gG,eL];simp(disch:=omega)only[bd,show bin Q .neq 4 (.bool false) (.bool true) = .ok (.bool true) by kernel_rfl,seval];refine(adl ba ab ca).mono ?_;rintro _ aM bR ⟨rfl,E,D⟩;have bI:=(E bH J).trans (aN _ _ _);refine⟨D,?_⟩;have K:∀x:Int,c5 (.agg ⟨wid x⟩)=[.int .i64 (x / 18446744073709551616),.int .u64 (x % 18446744073709551616)]:=λ_=>rfl;refine j6 @bI @K @pc @rN ?_;have fg:∀c,c<bH->u aM c=u al c:=λc aU=>by rw[E c J,aq J,aq J]
  refine l7  (k:=3)  (λ_=>rfl) (λ_=>rfl) J (I.T  ab J) J (p.1,gw r p.2 y) (aN _ _ _) rfl ab λdG hR V wu=>?_;refine⟨J,_,J,i+1,dG,rfl,J,by rw[cn J],?_,aC,J⟩;rw[gQ,bv];rw[hN];exact V
 ·have:i=L.length:=J
  subst this;rw[ht]at I;exact⟨I,B,A⟩
theorem apf{s:ak}{r c:Nat}{v:X}{x:Nat->av Int}{h:ad}{U:Nat}(M:hJ c r af)(aI:nk h U v r c af)(bN:kn h U w n x)(bm:n<=4096):aD Q s 452 [v,w] h U (cI (.tuple ⟨[v,w]⟩) U h):=by
 refine ara ?_;have D:=aI;have I:=bN;obtain⟨v1,v2,v3,v4,rfl,h1,al,aM,bc⟩:=aI;obtain⟨ax,c1,rfl,_⟩:=id h1;obtain⟨a2,c2,rfl,_⟩:=id al;obtain⟨a3,cm,rfl⟩:=aM.form;obtain⟨aV,h8,rfl,_⟩:=id bc;obtain⟨gW,rfl,ar⟩:=bN;obtain⟨_,_,rfl,_⟩:=id ar;have bF:∀{o d9 dI gL},az U h (F (F (F (F h U o) (U+1) d9) (U+1+1) dI) (U+1+1+1) gL):=aC
 unfold ae8;refine aB ?_;refine(aaa M (D.T  bF J)).mono ?_;rintro _ aY a6 ⟨rfl,A,fp⟩;have b7:=A U J;rw[aq J,aq J,aq J,aN]at b7;have br:=A (U+1) J;rw[aq J,aq J,aN]at br;have g2:=A (U+1+1) J;rw[aq J,aN]at g2;have c3:=A (U+1+1+1) J;rw[aN]at c3;have cD:=bF.trans A J;refine aB ?_;unfold Qu;refine a9 @br ?_;refine(wS (I.T  cD J) bm).mono ?_;rintro _ aJ bH ⟨rfl,B,e9⟩;have EU:=(B U J).trans b7;have V:=(B (U+1) J).trans br;have K:=(B (U+1+1) J).trans g2;have E:=(B (U+1+1+1) J).trans c3;refine aB ?_;unfold Qt;refine j6 @EU @V @K @E ?_;exact⟨rfl,aC,J⟩
def uy(r:Int)(af:aa GE)(p:Nat × Int):aa (Nat × Int):=(eQ af p.1).map λg=>(g.t,gw r g.w p.2)
theorem asI(r:Int)(af:aa GE)(k v:Nat)(y:Int):kb r (uy r af (k,y)) v=fo r (af.map λg=>if g.f=k then(if g.t=v then some (gw r g.w y)else none)else none):=by
 unfold kb uy eQ;rw[pW,Pm]
 grind
theorem abZ{r:Int}{af:aa GE}{x:Nat->av Int}{v:Nat}:∀n,kb r ((bn n x).flatMap (uy r af)) v=fo r ((List.range n).map λk=>fo r (af.map λg=>if g.f=k then(if g.t=v then(x g.f).map (gw r g.w)else none)else none))
 |0=>rfl
 |n+1=>by
  rw[uh,JZ,y8,abZ n,pb,hN,qQ,yL,PK]
  congr 1
  cases A:x n with
  |none =>
   symm
   refine yW λz B=>?_
   grind
  |some y =>
   show kb r (uy r af (n,y)++[]) v=_;rw[hM,asI]
   grind
theorem apg{C:Nat}{x:Nat->av Int}{v:Nat}(A:A6 af fr)(M:hJ C R fr):kb r ((bn C x).flatMap (uy r fr)) v=iU r af x v:=by rw[abZ,<-ajv r (λg:GE=>if g.t=v then(x g.f).map (gw r g.w)else none) (λg=>g.f) fr C M.rows];rw[ZJ (List.Perm.map _ A),pW];rfl
def uX{aA:Type}(h:ad)(v:X)(enc:aA->aa X)(k:Nat)(l:aa aA)(P:Nat->Prop):Prop :=
 ∃a c,v = .slice a l.length c/\(l≠[]->∃b o aO bC cs,P b/\a=some ⟨b,o,aO⟩/\aO≠some 0/\l.length<=c/\u h b=some (.cells cs bC)/\o+l.length*k<=cs.length/\(cs.drop o).take (l.length*k)=a1 enc l)
section
variable {aA:Type} {h ac:ad} {U k:Nat} {v:X} {enc:aA->aa X} {l:aa aA} {P pP:Nat->Prop}
theorem uX.c(H:uX h v enc k l P)(B:∀b,P b->b<U):mS h U v enc k l:=by obtain⟨a,c,e,H⟩:=H;exact⟨a,c,e,λA=>ab⟩
theorem uX.T(H:uX h v enc k l P)(hk:∀b,P b->u ac b=u h b)(I:∀b,P b->pP b):uX ac v enc k l pP:=by obtain⟨a,c,e,H⟩:=H;exact⟨a,c,e,λA=>by obtain⟨b,o,V,B,cs,h1,D,E,M,bP,K⟩:=H A;exact⟨b,o,V,B,cs,I b h1,D,E,M,ab,K⟩⟩
theorem dX.b{ao ai:Nat}(E:0<k)(A:∀x,(enc x).length=k)(H:dX h v enc k l ao ai):uX h v enc k l (λb=>ao<=b/\b<ai):=by
 rcases H with⟨rfl,rfl⟩|⟨b,I,D,rfl,B⟩
 ·exact⟨_,_,rfl,λh=>absurd rfl h⟩
 ·exact⟨_,_,rfl,λ_=>⟨b,0,some k,false,_,⟨I,D⟩,rfl,ab,J,B,by rw[ga A];omega,by rw[nO,pT (by rw[ga A];omega)]⟩⟩
theorem uX.qA(H:uX h v enc k l P):qA v=v:=by obtain⟨a,c,rfl,_⟩:=H;rfl
end
def lM(p:X × aa (Nat × Int)):aa X:=[qA p.1]
def Wk(h:ad)(v:X)(fT:aa (X × aa (Nat × Int)))(aP:av Nat):Prop:=(fT=[]/\v = .slice none 0 0/\aP=none)\/∃b,aP=some b/\v = .slice (some ⟨b,0,some 1⟩) fT.length fT.length/\u h b=some (.cells (a1 lM fT) false)
theorem Wk.ho{h:ad}{v:X}{fT:aa (X × aa (Nat × Int))}{aP:av Nat}(H:Wk h v fT aP):fb h lM 1 v fT aP:=by
 rcases H with⟨rfl,rfl,rfl⟩|⟨b,rfl,rfl,A⟩
 ·exact .nil
 ·exact .own A
theorem alQ(p:X × aa (Nat × Int)):ec (lM p)=true:=by
 unfold lM qA;cases p.1 <;> rfl
theorem aph{s:ak}{C:Nat}{v:X}{x:Nat->av Int}{h:ad}{U:Nat}(ba:oM r)(aw:A6 af fr)(M:hJ C R fr)(d5:C<=63)(aI:nk h U v R C fr)(bN:kn h U w C x)(hwt:∀g∈fr,0<=g.w/\g.w<=2147483647)(aR:∀i y,x i=some y->0<=y/\y<=eB):
  aD Q s 392 [(r:X),v,w,.slice none 0 0,.bool true] h U (λaT ac Y=>∃z,aT = .tuple ⟨[z,.int .i64 0]⟩/\eZ ac U Y z eA (bn R (iU r af x))/\az U h ac/\U<=Y):=by
 refine aq9 ?_;have kR:=aI;have rv:=bN;obtain⟨v1,v2,v3,v4,rfl,h1,al,aM,bc⟩:=aI;obtain⟨ax,c1,rfl,_⟩:=id h1;obtain⟨a2,c2,rfl,_⟩:=id al;obtain⟨a3,cm,rfl⟩:=aM.form;obtain⟨aV,h8,rfl,_⟩:=id bc;obtain⟨gW,rfl,ar⟩:=bN;obtain⟨cP,ke,rfl,_⟩:=id ar;have bF:∀{o d9},az U h (F (F h U o) (U+1) d9):=aC
 unfold ae7;refine aB ?_;refine(apf M (kR.T  bF J) (rv.T  bF J) J).mono ?_;rintro _ aY a6 ⟨rfl,eT,fp⟩;have b7:=eT U J;rw[aq J,aN]at b7;have br:=eT (U+1) J;rw[aN]at br;have cD:=bF.trans eT J;refine cx @b7 @br ?_;obtain⟨H,gh⟩:∃H,H=F (F aY U (.cells [(R:X),(C:X),.slice ax (g8 fr).length c1,.slice a2 (hA fr).length c2,.slice a3 (fz fr).length cm,.slice aV (gV fr).length h8] false)) (U+1) (.cells [(C:X),.slice cP (bn C x).length ke] false):=⟨_,rfl⟩
 have vd:az U h H:=by rw[gh];exact aC
 have CD:u H U=some (.cells [(R:X),(C:X),.slice ax (g8 fr).length c1,.slice a2 (hA fr).length c2,.slice a3 (fz fr).length cm,.slice aV (gV fr).length h8] false):=ab
 have o9:u H (U+1)=some (.cells [(C:X),.slice cP (bn C x).length ke] false):=ab
 rw[<-gh];clear gh;refine(A4  (by rcases ba with rfl|rfl|rfl <;> omega) (by rcases ba with rfl|rfl|rfl <;> omega)).mono ?_;rintro _ _ _ ⟨rfl,gG,eL⟩;rw[gG,eL];have gA:=my C x;simp(disch:=omega)only[bd,CD,o9,nN,seval];refine bq.mk (λm aE ac Y=>∃i w fT aP,m=(bn C x).length-i/\i<=(bn C x).length/\aE=[(r:X),.slice none 0 0,.bool true,bb U,w,.slice cP (bn C x).length ke,.int .i64 ((bn C x).length:Int),(i:X)]/\Wk ac w fT aP/\(∀b,aP=some b->a6<=b/\b<Y)/\(∀p∈fT,uX ac p.1 eA 3 p.2 (λb=>a6<=b/\b<Y/\aP≠some b)/\(p.2.Pairwise λa b=>a.1<b.1)/\p.2.length<=120/\∀q∈p.2,0<=q.2/\q.2<=eB)/\rZ fT=((bn C x).take i).flatMap (uy r fr)/\fT.length=i/\(∀c,c<a6->u ac c=u H c)/\a6<=Y) (bn C x).length ⟨0,.slice none 0 0,[],none,J,J,rfl,.inl ab,ab,λp D=>(tT D).elim,rfl,rfl,ab,J⟩ ?_;rintro _ _ al bH ⟨i,w,fT,aP,rfl,ai,rfl,dW,mM,A,he,hLl,dE,e9⟩;have ez:az U h al:=aC
 have Nz:=(dE U J).trans CD;rw[anD];unfold abg;refine aB ?_;refine⟨λci=>?_,λeh=>?_⟩
 ·obtain⟨p,D⟩:=dk   J;obtain⟨hpC,oY⟩:=w3   D;obtain⟨b,aW,aO,bC,qg,oJ,aG,aY,a5,jY⟩:=(ar.T ez (Y:=bH) J).ld (λ_=>rfl) D;cases aY;refine cx @a5 @jY ?_;rw[show fV p=[(p.1:X),(p.2:X)]from rfl];refine a9 @Nz ?_;have fg:az U h (F (F al bH (.cells [.int .i64 0,.int .i64 0] false)) bH (.cells [(p.1:X),(p.2:X)] false)):=aC
  refine(ajR  M (kR.T  fg J)).mono ?_;rintro o3 aM bR ⟨ayF,B,I⟩;have bI:=(B bH J).trans (aN _ _ _);refine⟨I,?_⟩;refine hw @bI @pc @rN ?_;have je:(mH fr p.1).length<=120:=by unfold mH eQ;rw[g5];exact hu (yF _ _) M.len
  refine(ajW  ba J (cN.o (λ_=>rfl) ayF.rd) (aR _ _ oY) (λq cz=>?_)).mono ?_
  ·obtain⟨g,a5,rfl⟩:=fL.1 cz;exact hwt g (Dx a5).1
  rintro Xo bc d4 ⟨VQ,gd,iC⟩;refine⟨iC,?_⟩;have V:=dX.b J ao7 VQ;have hwd:=V.qA;obtain⟨bp,hn,ewd,_⟩:=id V;rw[ewd];refine aB ?_;have gF:∀c,c<bH->u bc c=u al c:=λc aU=>by rw[gd c J,B c J,aq J,aq J]
  have UM:fb (F bc d4 (.cells [.slice bp ((mH fr p.1).map λq=>(q.1,gw r q.2 p.2)).length hn] false)) lM 1 w fT aP:=dW.ho.T λck e=>ab
  have V5:((mH fr p.1).map λq=>(q.1,gw r q.2 p.2))=uy r fr p:=by unfold mH uy;rw[pW];rfl
  refine y6  (k:=1) (λ_=>rfl) alQ J UM (Xo,uy r fr p) (aN _ _ _) (by show[_]=[qA Xo];grind) J λbP EL uM=>?_;refine⟨J,_,J,i+1,.slice (some ⟨d4+1,0,some 1⟩) (fT.length+1) (fT.length+1),fT++[(Xo,uy r fr p)],some (d4+1),rfl,J,by rw[cn (J:i<1000000000000)],.inr ⟨d4+1,rfl,ab,EL⟩,(λck e=>ab),?_,?_,ab,λc aU=>?_,J⟩
  ·intro eF xS;rcases g6.1 xS with b9|b9
   ·refine⟨(A eF b9).1.T (λck E=>?_) (λck E=>⟨E.1,J,λe=>ab⟩),(A eF b9).2⟩
    grind
   ·rw[iR.1 b9];refine⟨?_,?_,?_,λq cz=>?_⟩
    ·rw[<-V5];refine V.T (λck E=>?_) (λck E=>⟨J,J,λe=>ab⟩);rw[uM ck J (λe=>ab),aq J]
    ·unfold uy;rw[yJ];exact RH M.up p.1
    ·grind
    ·obtain⟨g,K,rfl⟩:=fL.1 cz;exact Ts (hwt g (Dx K).1) (aR _ _ oY) ba
  ·unfold rZ at he ⊢;rw[JZ,he,gQ,D]
   grind
  grind
 ·have I4:i=(bn C x).length:=J
  subst I4;rw[ht]at he;have U1:BB al bH w fT:=by
   refine⟨?_,λp D=>⟨(A p D).1.c (λb aG=>aG.2.1),(A p D).2.1,ab,(A p D).2.2.2⟩⟩;rcases dW with⟨rfl,rfl,rfl⟩|⟨b,e,rfl,a5⟩
   ·exact eu.nil
   ·exact cN.o (λ_=>rfl) ⟨some ⟨b,0,some 1⟩,_,rfl,λ_=>⟨b,some 1,false,(mM b e).2,rfl,a5⟩⟩
  have hFl:(rZ fT).length<50000:=by
   have:∀(L:aa (X × aa (Nat × Int))),(∀p∈L,p.2.length<=120)->(rZ L).length<=L.length*120:=λL=>by
    induction L with
    |nil=>intro _;exact cB _
    |cons p L ev =>
     intro ft;have:=ev λq cz=>ft q (m8 _ cz);unfold rZ at this ⊢
     grind
   grind
  refine(aad ba J U1 hFl).mono ?_;rintro _ aM bR ⟨z,fK,rfl,hzA,zY,B,I⟩;have cX:=(dX.f hzA).gI;have hOL:fK=bn R (iU r af x):=by
   have e:(λi=>kb r (rZ fT) i)=iU r af x:=by
    funext v
    rw[he];exact apg aw M
   rw[e]at zY;refine zY.done λv aI=>?_;refine yW λy ca=>?_;obtain⟨g,a5,rfl⟩:=fL.1 ca;have K:oG g∈fr:=aw.mem_iff.2 (fL.2 ⟨g,a5,rfl⟩);have:=M.mF _ K;have:g.f<R:=this
   grind
  subst hOL;refine aB ?_;exact⟨z,rfl,cX.T (λ_ _ _=>rfl) J (cB _),ez.trans B J,J⟩
theorem api{s:ak}{r c:Nat}{v:X}{x:Nat->av Int}{h:ad}{U:Nat}(M:hJ c r af)(aI:nk h U v r c af)(bN:kn h U w n x)(bm:n<=4096):aD Q s 320 [v,w] h U (λK ac Y=>(∃y,K = .int .i64 y)/\az U h ac/\U<=Y):=by
 refine bS ?_;have E:=aI;have I:=bN;obtain⟨v1,v2,v3,v4,rfl,h1,al,aM,bc⟩:=aI;obtain⟨ax,c1,rfl,_⟩:=id h1;obtain⟨a2,c2,rfl,_⟩:=id al;obtain⟨a3,cm,rfl⟩:=aM.form;obtain⟨aV,h8,rfl,_⟩:=id bc;obtain⟨gW,rfl,ar⟩:=bN;obtain⟨cP,ke,rfl,_⟩:=id ar;have gA:=my n x;have bF:∀{o d9},az U h (F (F h U o) (U+1) d9):=aC
 refine aB ?_;refine(Y1 (I.T  bF J) bm).mono ?_;rintro aB0 aY a6 ⟨bv,A,D⟩;refine⟨D,?_⟩;have b7:=A U J;rw[aq J,aN]at b7;have cD:=bF.trans A J;have V:(bn n x).map (λp=>(p.1:Int))=gm ((bn n x).map (·.1)):=by unfold gm;rw[pW];rfl
 rw[V]at bv;refine a9 @b7 ?_;refine(ao5 M (E.T  cD J) (cN.o (λ_=>rfl) bv.rd) ab).mono ?_;rintro _ aJ bH ⟨⟨y,rfl⟩,dE,B⟩;exact⟨B,⟨y,rfl⟩,aC,J⟩
theorem alR{s:ak}{f a n:Int}{h:ad}{U:Nat}(I:0<=n/\n<1000000):aD Q s 317 [(f:X),(a:X),(n:X)] h U (λr ac Y=>(r = .int .i64 1\/r = .int .i64 2)/\ac=h/\Y=U):=by
 refine bS ?_
 by_cases E:f=1
 ·subst E;simp(disch:=omega)only[bd,seval]
  grind
 ·by_cases B:f=2
  ·subst B;simp(disch:=omega)only[bd,seval]
   grind
  ·have A:(f == 1)=false:=ab
   have D:(f == 2)=false:=ab
   simp(disch:=omega)only[bd,A,D,Dl (show(8:Int)≠0 by decide),seval]
   grind
theorem aiy{s:ak}{f a n:Int}{h:ad}{U:Nat}:aD Q s 319 [(f:X),(a:X),(n:X)] h U (λr ac Y=>(r = .int .i64 1\/r = .int .i64 2)/\ac=h/\Y=U):=by
 refine bS ?_
 by_cases B:f=1
 ·subst B;simp(disch:=omega)only[bd,seval]
  grind
 ·by_cases E:f=2
  ·subst E;simp(disch:=omega)only[bd,seval]
   grind
  ·have D:(f == 1)=false:=ab
   have A:(f == 2)=false:=ab
   simp(disch:=omega)only[bd,D,A,Dl (show(4:Int)≠0 by decide),seval]
   grind
def xb(h:ad)(U:Nat)(v:X)(n:Nat)(x:Nat->av Int):Prop :=
 (∃gW,v = .agg ⟨[.int .i64 1,(n:X),gW,.int .i64 0,.slice none 0 0,.slice none 0 0]⟩/\eu h U gW fV 2 (bn n x)) \/
 (∃ei cY,v = .agg ⟨[.int .i64 2,.int .i64 0,.slice none 0 0,(n:X),ei,cY]⟩/\cN h U ei kq (eU n (ku x))/\eu h U cY cG 1 (cF n (kd x)))
theorem xb.T{h ac:ad}{U Y n:Nat}{v:X}{x:Nat->av Int}(H:xb h U v n x)(B:az U h ac)(A:U<=Y):xb ac Y v n x:=by
 rcases H with⟨K,e,D⟩|⟨I,M,e,D,E⟩
 ·exact .inl ⟨K,e,D.T B A⟩
 ·exact .inr ⟨I,M,e,D.T B A,E.T B A⟩
theorem R0{s:ak}{v:X}{x:Nat->av Int}{h:ad}{U:Nat}(aI:xb h U v n x)(bm:n<=63):aD Q s 321 [v] h U (λr ac Y=>kn ac Y r n x/\az U h ac/\U<=Y):=by
 refine at9 ?_;have gA:=my n x;have bF:∀{o d9},az U h (F (F h U o) (U+1) d9):=aC
 unfold agm;rcases aI with⟨gW,rfl,B⟩|⟨ei,cY,rfl,B,al⟩
 ·obtain⟨cP,ke,rfl,_⟩:=id B;refine aB ?_;refine(wS  (kn.T    ⟨_,rfl,B⟩ bF J) J).mono ?_;rintro _ aY a6 ⟨rfl,A,E⟩;have b7:=A U J;rw[aq J,aN]at b7;have K:=A (U+1) J;rw[aN]at K;have cD:=bF.trans A J;unfold Rp;refine a9 @b7 ?_;refine(CX (B.T cD  J) J).mono ?_;rintro eG aJ bH ⟨dW,I,D⟩;refine⟨D,?_⟩;obtain⟨bV,ge,rfl⟩:=dW.form;have M:=(I U J).trans b7;have V:=(I (U+1) J).trans K;refine j6 @M @V @pc @rN ?_;refine⟨⟨_,rfl,?_⟩,aC,J⟩;exact cN.o (λ_=>rfl) (eZ.rd (dW.gI.T  ab J J))
 ·obtain⟨eR,co,rfl,_⟩:=id B;obtain⟨bX,qE,rfl,_⟩:=id al;refine aB ?_;refine(ao3  (s8.T    ⟨_,_,rfl,B,al⟩ bF J) bm).mono ?_;rintro fJ aY a6 ⟨dZ,A,E⟩;have K:=A (U+1) J;rw[aN]at K;obtain⟨gW,rfl,ai⟩:=dZ;obtain⟨cP,ke,rfl,_⟩:=id ai;refine a9 @K ?_;refine⟨⟨_,rfl,?_⟩,aC,J⟩;exact cN.o (λ_=>rfl) (eZ.rd (ai.T (ed:=U+2) ab J J))
theorem xb.form{h:ad}{U:Nat}{v:X}{x:Nat->av Int}(H:xb h U v n x):∃D K V a6 I B M bH c2 a3 bR cm,v = .agg ⟨[.int .i64 D,.int .i64 K,.slice V a6 I,.int .i64 B,.slice M bH c2,.slice a3 bR cm]⟩:=by
 rcases H with⟨gW,rfl,A⟩|⟨ei,cY,rfl,A,E⟩
 ·obtain⟨cP,ke,rfl,_⟩:=id A
  grind
 ·obtain⟨eR,co,rfl,_⟩:=id A;obtain⟨bX,qE,rfl,_⟩:=id E
  grind
theorem alS{s:ak}{v:X}{x:Nat->av Int}{h:ad}{U:Nat}(M:xb h U v n x)(bm:n<=63):aD Q s 394 [v] h U (λr ac Y=>s8 ac Y r n x/\az U h ac/\U<=Y):=by
 refine bS ?_;have A:=M;obtain⟨bY,cC,ax,m1,c1,b6,a2,m2,c2,a3,m3,cm,rfl⟩:=M.form;have bF:∀{o d9},az U h (F (F h U o) (U+1) d9):=aC
 refine aB ?_;refine(R0 (A.T  bF J) bm).mono ?_;rintro l0 aY a6 ⟨lm,B,K⟩;refine(afF lm bm).mono ?_;rintro ew aJ bH ⟨Cy,D,E⟩;have br:=(D (U+1) J).trans (B (U+1) J);rw[aN]at br;obtain⟨ei,cY,rfl,I,V⟩:=Cy;obtain⟨eR,co,rfl,_⟩:=id I;obtain⟨bX,qE,rfl,_⟩:=id V;refine a9 @br ?_;exact⟨⟨_,_,rfl,(I.T  ab J J).rd,cN.o (λ_=>rfl) (V.T  ab J J).rd⟩,aC,J⟩
structure DM (h:ad) (U:Nat) (t:X) (r:Int) (R C:Nat) (af fr:aa GE) (x:Nat->av Int):Prop where
 rg:oM r
 m:hJ R C af
 bG:hJ C R fr
 aAT:A6 af fr
 d5:C<=63
 w:∀g∈af,0<=g.w/\g.w<=2147483647
 aAU:∀i y,x i=some y->0<=y/\y<=eB
 v:∃cA me aI NG,t = .agg ⟨(r:X)::(c5 cA++(c5 me++(c5 aI++[.slice none 0 0,.bool true,.int .i64 NG])))⟩/\kI h U cA R C af/\nk h U me R C fr/\xb h U aI C x
theorem DM.T{h ac:ad}{U Y:Nat}{t:X}{r:Int}{R C:Nat}{af fr:aa GE}{x:Nat->av Int}(H:DM h U t r R C af fr x)(B:az U h ac)(A:U<=Y):DM ac Y t r R C af fr x :=
 { H with v:=by obtain⟨K,me,V,D,e,E,I,M⟩:=H.v;exact⟨K,me,V,D,e,E.T B A,I.T B A,M.T B A⟩ }
theorem nk.form{h:ad}{U:Nat}{v:X}{r c:Nat}{af:aa GE}(H:nk h U v r c af):∃D a6 B E bH c2 K bR cm I V A,v = .agg ⟨[(r:X),(c:X),.slice D a6 B,.slice E bH c2,.slice K bR cm,.slice I V A]⟩:=by
 obtain⟨v1,v2,v3,v4,rfl,h1,M,aM,bc⟩:=H;obtain⟨D,B,rfl,_⟩:=id h1;obtain⟨E,c2,rfl,_⟩:=id M;obtain⟨K,cm,rfl⟩:=aM.form;obtain⟨I,A,rfl,_⟩:=id bc
 grind
def ahP(R:Nat)(r:Int)(af:aa GE)(x:Nat->av Int)(U:Nat)(h:ad):bD:=λaT ac Y=>∃z,aT = .tuple ⟨[z,.int .i64 0]⟩/\eZ ac U Y z eA (bn R (iU r af x))/\az U h ac/\U<=Y
theorem apj{s:ak}{t:X}{C:Nat}{x:Nat->av Int}{h:ad}{U:Nat}(H:DM h U t r R C af fr x):aD Q s 323 [t] h U (ahP R r af x U h):=by
 refine bS ?_;obtain⟨cA,me,aI,NG,rfl,h1,V,aM⟩:=H.v;have I:=V;have D:=aM;obtain⟨b,aO,n,a2,bH,c2,a3,bR,cm,rfl⟩:=h1.form;obtain⟨de,m1,fv,bO,m2,fF,d6,m3,ir,fQ,m4,oq,rfl⟩:=V.form;obtain⟨bY,cC,aY,fD,fk,b6,aJ,hB,gH,ce,l2,lg,rfl⟩:=aM.form;have bF:∀{o},az U h (F h U o):=aC
 simp(disch:=omega)only[bd,OW,tU,seval];refine(R0 (D.T  bF J) H.d5).mono ?_;rintro l0 br cj ⟨lm,A,B⟩;refine⟨B,?_⟩;have b7:=(A U J).trans (aN _ _ _);have cD:=bF.trans A J;refine Bc @b7 @pc @rN @tY @yT @C0 ?_;have K:∀g∈fr,0<=g.w/\g.w<=2147483647:=λg a5=>by obtain⟨cb,E,rfl⟩:=fL.1 (H.aAT.mem_iff.1 a5);exact H.w cb E
 refine(aph H.rg H.aAT H.bG H.d5 (I.T cD J) lm K H.aAU).mono ?_;rintro _ g2 ml ⟨z,rfl,dW,dE,M⟩;refine aB ?_;refine⟨J,z,rfl,dW.T ab J J,aC,J⟩
theorem apk{s:ak}{t:X}{C:Nat}{x:Nat->av Int}{h:ad}{U:Nat}(H:DM h U t r R C af fr x):aD Q s 324 [t] h U (ahP R r af x U h):=by
 refine bS ?_;obtain⟨cA,me,aI,NG,rfl,V,al,K⟩:=H.v;have E:=V;have D:=K;obtain⟨b,aO,n,a2,bH,c2,a3,bR,cm,rfl⟩:=V.form;obtain⟨de,m1,fv,bO,m2,fF,d6,m3,ir,fQ,m4,oq,rfl⟩:=al.form;obtain⟨bY,cC,aY,fD,fk,b6,aJ,hB,gH,ce,l2,lg,rfl⟩:=K.form;have M:∀{o},az U h (F h U o):=aC
 simp(disch:=omega)only[bd,OW,tU,seval];refine(alS (D.T  M J) H.d5).mono ?_;rintro l0 br cj ⟨lm,A,B⟩;refine⟨B,?_⟩;have b7:=(A U J).trans (aN _ _ _);have cD:=M.trans A J;refine Bc @b7 @pc @rN @tY @yT @C0 ?_;refine(ao8 H.rg H.m H.d5 (E.T cD J) lm H.w H.aAU).mono ?_;rintro _ g2 ml ⟨z,rfl,dW,dE,I⟩;refine aB ?_;refine⟨J,z,rfl,dW.T ab J J,aC,J⟩
theorem apl{s:ak}{t:X}{C:Nat}{x:Nat->av Int}{h:ad}{U:Nat}(H:DM h U t r R C af fr x):aD Q s 227 [t] h U (λaT ac Y=>∃z y,aT = .tuple ⟨[z,.int .i64 y,.int .i64 0]⟩/\eZ ac U Y z eA (bn R (iU r af x))/\az U h ac/\U<=Y):=by
 refine aq4 ?_;have sD:=H;obtain⟨cA,me,aI,NG,rfl,h1,al,aM⟩:=H.v;have UE:=h1;have h20:=al;have VU:=aM;obtain⟨b,aO,n,a2,bH,c2,a3,bR,cm,rfl⟩:=h1.form;obtain⟨de,m1,fv,bO,m2,fF,d6,m3,ir,fQ,m4,oq,rfl⟩:=al.form;obtain⟨bY,cC,aY,fD,fk,b6,aJ,hB,gH,ce,l2,lg,rfl⟩:=aM.form;have bF:∀{o},az U h (F h U o):=aC
 unfold ae2;simp(disch:=omega)only[bd,OW,tU,seval];refine(R0 (VU.T  bF J) H.d5).mono ?_;rintro l0 br cj ⟨lm,D,I⟩;refine⟨I,?_⟩;have b7:=(D U J).trans (aN _ _ _);have cD:=bF.trans D J;refine Bc @b7 @pc @rN @tY @yT @C0 ?_;refine(api H.bG (h20.T cD J) lm (by have:=H.d5;omega)).mono ?_;rintro _ g2 ml ⟨⟨y,rfl⟩,K,E⟩;refine⟨E,?_⟩;have A:=(K U J).trans b7;have ez:=cD.trans K J;simp(disch:=omega)only[bd,b7,A,pc,rN,tY,yT,C0,seval];refine(alL H.m (UE.T ez J)).mono ?_;rintro _ c3 oc ⟨rfl,ek,V⟩;refine⟨V,?_⟩;have B:=(ek U J).trans A;have fg:=ez.trans ek J;simp(disch:=omega)only[bd,b7,A,B,pc,rN,tY,yT,C0,seval];refine aiy.mono ?_;rintro w _ _ ⟨bN,gG,eL⟩;rw[gG,eL];refine⟨J,?_⟩;rcases bN with rfl|rfl
 ·refine a9 @B ?_;unfold KT;refine aB ?_;refine(apj (sD.T fg J)).mono ?_;rintro _ dK cS ⟨z,rfl,dW,gd,M⟩;refine aB ?_;exact⟨z,_,rfl,dW.T ab J J,aC,J⟩
 ·refine a9 @B ?_;unfold KT;refine aB ?_;refine(apk (sD.T fg J)).mono ?_;rintro _ dK cS ⟨z,rfl,dW,gd,M⟩;refine aB ?_;exact⟨z,_,rfl,dW.T ab J J,aC,J⟩
def hasB(gs:aa GE)(a b:Nat):ak:=gs.any λe=>decide (e.f=a/\e.t=b)
def cW(gs:aa GE)(a b:Nat):ak:=decide (a≠b)&&(hasB gs a b||hasB gs b a)
theorem tm.up{w U A:Nat}{h B:ad}{r:X}{ac:ad}{Y:Nat}(H:tm w A B r ac Y)(hk:az U h B)(I:U<=A):tm w U h r ac Y:=by obtain⟨b,c,K,rfl,V,E,D,M,gP⟩:=H;exact⟨b,c,K,rfl,J,E,D,aC,J⟩
structure fT (N:Nat) (h:ad) (ao ai:Nat) (os:aa X) (aCa:Nat->aa Nat) (gN:Nat->av Nat):Prop where
 len:os.length=N
 s:∀i,i<N->∃o,os[i]? = some o/\hs h cG o (gm (aCa i)) (gN i)
 b:∀i c,gN i=some c->ao<=c/\c<ai
 d:∀i j c,gN i=some c->gN j=some c->i=j
theorem fT.T{N:Nat}{h ac:ad}{ao ai da:Nat}{A:aa X}{B:Nat->aa Nat}{D:Nat->av Nat}(L:fT N h ao ai A B D)(I:∀c,ao<=c->c<ai->u ac c=u h c)(E:ai<=da):fT N ac ao da A B D :=
 ⟨L.len,λi ai=>by obtain⟨o,e,g⟩:=L.s i ai;exact⟨o,e,g.T λc e=>I c (L.b i c e).1 (L.b i c e).2⟩,λi c e=>⟨(L.b i c e).1,by have:=(L.b i c e).2;omega⟩,L.d⟩
def iW(bt:aa Int)(N d v:Nat):Int:=(if bt.length=0 then 0 else(bt[(d*N+v) % bt.length]?).getD 0)*4096+v
section
variable (gs:aa GE) (IX:Nat->Nat->Int) (N:Nat)
def BM(d:Nat)(q:Nat->ak)(v:Nat):ak:=(er N (λaT=>cW gs v aT&&q aT)).all λaT=>!decide (IX d aT<=IX d v)
end
section
variable {gs:aa GE} {IX:Nat->Nat->Int} {N:Nat}
end
theorem L8(h:n<9223372036854775808):IntKind.wrap .i64 (n:Int)=(n:Int):=jI J J
theorem ad5{t:TypeId}{b:Nat}(A:a<9223372036854775808)(B:b<9223372036854775808):bin Q .or t (a:X) (b:X) = .ok (((a ||| b:Nat):X)):=by show R.ok (Value.int .i64 (IntKind.wrap .i64 ((BitVec.ofInt 64 (a:Int) ||| BitVec.ofInt 64 (b:Int)).toNat:Int)))=_;rw[BitVec.toNat_or,BV  J,BV  J,L8 (Nat.or_lt_two_pow (n:=63) A B)]
theorem alT{t:TypeId}(A:a<2147483648):bin Q .shl t (a:X) (.int .u64 12) = .ok (((a*4096:Nat):X)):=by show R.ok (Value.int .i64 (uf .i64 ((a:Int)*2 ^ (min (12:Int).toNat 64))))=_;rw[oA,show((a:Int)*2 ^ (min (12:Int).toNat 64))=((a*4096:Nat):Int)from ab,L8 J]
theorem auO{b:Nat}(A:b<4096):a*4096 ||| b=a*4096+b:=by rw[yM];exact(Nat.two_pow_add_eq_or_of_lt (i:=12) A a).symm
def Ua(bt:aa Int):Prop:=bt.length<=1000/\∀x∈bt,0<=x/\x<=2147483647
theorem aae{s:ak}{k src len:Int}{N d v:Nat}{bt:aa Int}{ew:X}{h:ad}{U:Nat}(bu:cN h U ew cG bt)(B:Ua bt)(cU:N<=4096)(aI:v<N)(hd2:d<=1000):
  aD Q s 368 [.agg ⟨[(k:X),(N:X),(src:X),(len:X),ew]⟩,(d:X),(v:X)] h U (cI (.int .i64 (iW bt N d v)) U h):=by
 refine aoa ?_;obtain⟨a,cap,rfl,aU⟩:=id bu;unfold adA;have bF:∀{o},az U h (F h U o):=aC
 refine aB ?_;refine Gf.mono ?_;rintro r h1 a6 ⟨rfl,D,E⟩;rw[D,E,lI J];have dh:IntKind.wrap .i64 ((N:Int)-1)=(N:Int)-1:=jI J J;refine a9 @dh ?_;refine Gf.mono ?_;rintro r h1 a6 ⟨rfl,D,E⟩;rw[D,E,lI J];unfold PV;obtain⟨bg,aG⟩:=B
 by_cases ap:bt.length=0
 ·have aF:((bt.length:Nat):Int)=0:=J
  have es:bin Q .shl 2 (.int .i64 0) (.int .u64 12) = .ok (.int .i64 0):=rfl;have V:bin Q .or 2 (.int .i64 0) (v:X) = .ok (v:X):=by rw[show(0:Int)=((0:Nat):Int)from rfl,ad5 J J,Nat.zero_or]
  refine hw @aF @es @V ?_;refine λ_=>⟨?_,bF,J⟩
  unfold iW
  grind
 ·have A:0<bt.length:=J
  have I:(d*N+v) % bt.length<bt.length:=Az _ A;obtain⟨x,aR⟩:=dk  I;obtain⟨qp,hx1⟩:=aG x ab;obtain⟨y,rfl⟩:∃y:Nat,x=(y:Int):=⟨x.toNat,J⟩
  obtain⟨b,aO,bC,M,rfl,a5⟩:=aU ab;rw[h2]at a5;have K:=(bF (o:=.cells [(k:X),(N:X),(src:X),(len:X),.slice (some ⟨b,0,aO⟩) bt.length cap] false) b M).trans a5;have hdn:d*N<=4096000:=sT  (n₂:=1000)  (m₂:=4096) J J;have m1:IntKind.wrap .i64 ((d:Int)*(N:Int))=((d*N:Nat):Int):=by rw[show((d:Int)*(N:Int))=((d*N:Nat):Int) by omega];exact L8 J
  have m2:IntKind.wrap .i64 (((d*N:Nat):Int)+(v:Int))=((d*N+v:Nat):Int):=by rw[show(((d*N:Nat):Int)+(v:Int))=((d*N+v:Nat):Int) by omega];exact L8 J
  have m3:bin Q .rem 3 (((d*N+v:Nat):X)) (bt.length:X) = .ok ((((d*N+v) % bt.length:Nat):X)):=by rw[acO J];rfl
  have V:bin Q .or 2 (((y*4096:Nat):X)) (v:X) = .ok (((y*4096+v:Nat):X)):=by rw[ad5 J J,auO J]
  simp(disch:=omega)only[bd,show(0:Int)<(bt.length:Int) by omega,AS,m1,m2,m3,K,iz aR,alT (J:y<2147483648),V,seval];refine⟨⟨?_,bF,J⟩,λh=>absurd trivial h⟩;unfold iW
  grind
def fZ:=And.intro @pc @C0
theorem QL(h:n<4000000000):bin Q .and 3 (n:X) (.int .i64 1) = .ok (((n % 2:Nat):X)):=by rw[aqp,BitVec.toNat_and,BV  J,show(BitVec.ofInt 64 1).toNat=1 from rfl,J1,js _ J]
theorem afH(n:Nat):((((n % 2:Nat):Int) == 0):ak)=decide (n % 2=0):=ab
theorem QM{s:ak}{k:Int}{t:Nat}{h:ad}{U:Nat}(B:k=1\/k=2\/k=3\/k=5)(D:t<100000):aD Q s 225 [(k:X),(t:X)] h U (fm (.int .i64 (fh k t)) U h):=by
 refine bS ?_;unfold fh;rcases B with rfl|rfl|rfl|rfl
 ·refine aB ?_;exact⟨rfl,rfl,rfl⟩
 ·refine aB ?_;exact⟨rfl,rfl,rfl⟩
 ·refine aB ?_;exact⟨rfl,rfl,rfl⟩
 ·simp(disch:=omega)only[bd,↓reduceIte,Nat.reduceAdd,Nat.reduceSub,Nat.reduceMul,Nat.reduceLT,Nat.reduceLeDiff,Nat.reduceEqDiff,Int.reduceBEq,Int.reduceLT,Int.reduceNeg,QL (J:t<4000000000),afH]
  by_cases A:t % 2=0
  ·simp[A,fm]
  ·simp[A,fm]
theorem R1{k:Int}{t:Nat}(A:k=1\/k=2\/k=3\/k=5):oM (fh k t):=by unfold fh oM;omega
theorem ab0{s:ak}{t:Nat}{h:ad}{U:Nat}(D:1<=t)(B:t<100000):aD Q s 459 [(t:X)] h U (fm ((((t-1) / 2:Nat):X)) U h):=by
 refine bS ?_;have A:IntKind.wrap .i64 ((t:Int)-1)=((t-1:Nat):Int):=by rw[show(t:Int)-1=((t-1:Nat):Int) by omega];exact js _ J
 have es:bin Q .shr 3 (((t-1:Nat):X)) (.int .u64 1) = .ok ((((t-1) / 2:Nat):X)):=by
  show R.ok (Value.int .i64 (((t-1:Nat):Int).fdiv 2))=_
  grind
 refine cx @A @es ?_;exact⟨rfl,rfl,rfl⟩
def jK(h:ad)(U:Nat)(v:X)(low m:Nat)(S:jL):Prop:=hP h U v (low:Int) ((low+m:Nat):Int) m (cF m λi=>S.A (low+i)) (cF m λi=>S.B (low+i)) (λi=>S.q (low+i))
theorem jK.T{h ac:ad}{U Y low m:Nat}{v:X}{S:jL}(B:jK h U v low m S)(D:az U h ac)(A:U<=Y):jK ac Y v low m S:=hP.T B D A
theorem ab1{i:Nat}{f:Nat->Int}(h:i<n):(cF n f)[i]? = some (f i):=by unfold cF;grind
theorem NH{h:ad}{U i:Nat}{v:X}{f:Nat->Int}(H:cN h U v cG (cF n f))(ai:i<n):∃b A B cap,b<U/\v = .slice (some ⟨b,0,A⟩) n cap/\u h b=some (.cells (fx (cF n f)) B)/\(fx (cF n f))[i]? = some (.int .i64 (f i)):=by
 obtain⟨_,b,A,B,cap,E,e,D⟩:=H.at (ab1 ai)
 rw[jq]at e;rw[h2]at D;exact⟨b,A,B,cap,E,e,D,iz (ab1 ai)⟩
structure p3 (h:ad) (U:Nat) (ew:X) (k src len:Int) (N:Nat) (bt:aa Int):Prop where
 d:cN h U ew cG bt
 ok:Ua bt
 n60:N<=60
 pl:gR k N src len bt=0
 gF:k=1\/k=2\/k=3\/k=5
theorem p3.T{h ac:ad}{U Y:Nat}{ew:X}{k src len:Int}{N:Nat}{bt:aa Int}(H:p3 h U ew k src len N bt)(B:az U h ac)(A:U<=Y):p3 ac Y ew k src len N bt:={ H with d:=H.d.T B A }
section
variable {s:ak} {k src len:Int} {N low m t i:Nat} {bt:aa Int} {ew aE:X} {S:jL} {h:ad} {U:Nat}
theorem alU(P:p3 h U ew k src len N bt)(ar:jK h U aE low m S)(qz:low+m<=N)(ai:i<m)(h1:1<=t)(cy:t<1000):
  aD Q s 403 [.agg ⟨[(k:X),(N:X),(src:X),(len:X),ew]⟩,aE,(t:X),(i:X)] h U (λr ac Y=>(∃y b,r = .tuple ⟨[.int .i64 y,.bool b]⟩/\rc k (iW bt N ((t-1) / 2)) t S (low+i)=if b=true then some y else none)/\az U h ac/\U<=Y):=by
 refine bS ?_;obtain⟨bu,I,cU,bv,hk⟩:=P;obtain⟨cY,fJ,ei,rfl,fE,gJ,gq⟩:=ar;obtain⟨bp,hn,rfl,_⟩:=id bu;obtain⟨a2,c2,rfl,_⟩:=id gJ;obtain⟨a3,cm,rfl,_⟩:=id gq;obtain⟨b,aO,bC,cap,aG,rfl,a5,M⟩:=NH fE ai;have B:∀{o aW},az U h (F (F h U o) (U+1) aW):=aC
 have A:∀{o aW},u (F (F h U o) (U+1) aW) b=_:=λ{o aW}=>(B b aG).trans a5;refine aB ?_;refine(LK J ai (gq.T  B J)).mono ?_;rintro _ _ _ ⟨rfl,V,K⟩;rw[V,K];have Aa:IntKind.wrap .i64 ((low:Int)+(i:Int))=((low+i:Nat):Int):=by rw[<-wH];exact js _ J
 unfold rc;rcases hk with rfl|rfl|rfl|rfl
 ·refine a9 @Aa ?_;exact⟨⟨_,_,rfl,by simp⟩,B,J⟩
 ·refine cx @A @M ?_;exact⟨⟨_,_,rfl,by simp⟩,B,J⟩
 ·refine cx @A @M ?_;exact⟨⟨_,_,rfl,by simp⟩,B,J⟩
 ·simp(disch:=omega)only[bd,↓reduceIte,Nat.reduceAdd,Nat.reduceSub,Nat.reduceMul,Nat.reduceLT,Nat.reduceLeDiff,Nat.reduceEqDiff,Int.reduceBEq,Int.reduceLT,Int.reduceNeg,QL (J:t<4000000000),afH];refine⟨λal=>⟨⟨_,_,rfl,ab⟩,B,J⟩,λal=>?_⟩;refine(ab0 h1 J).mono ?_;rintro _ _ _ ⟨rfl,V,K⟩;rw[V,K];refine⟨J,?_⟩;simp(disch:=omega)only[bd,Aa,fZ,seval];refine(aae (bu.T  B J) I   J  J J).mono ?_;rintro _ br cj ⟨rfl,D,E⟩;refine⟨E,?_⟩;have b7:=D (U+1) J;rw[aN]at b7;have wA:=(D b J).trans A;simp(disch:=omega)only[bd,b7,wA,A,M,fZ,seval];refine⟨⟨_,_,rfl,?_⟩,aC,J⟩
  grind
theorem ad6{f:Nat->av Int}{b:ak}(h:f n=if b=true then some y else none):bn (n+1) f=bn n f++if b=true then[(n,y)]else[]:=by
 rw[uh,h]
 grind
def OuJ(U a6 t m:Nat)(pl ny:aa X)(f:Nat->av Int)(h:ad)(Fz:Nat)(aE:aa X)(ac:ad)(Y:Nat):Prop :=
 ∃i cY,Fz=m-i/\i<=m/\aE=[(t:X),bb U,.pointer (some ⟨U+1,0,none⟩),.pointer (some ⟨U+2,0,none⟩),bb a6,(m:X),(i:X)] /\
  u ac U=some (.cells pl false)/\u ac (U+1)=some (.cells ny false)/\u ac (U+2)=some (.cells [.int .i64 0,.slice none 0 0] false)/\u ac a6=some (.cells [(m:X),cY] false)/\dX ac cY fV 2 (bn i f) (a6+1) Y/\az U h ac/\a6+1<=Y
theorem asJ(P:p3 h U ew k src len N bt)(ar:jK h U aE low m S)(qz:low+m<=N)(h1:1<=t)(cy:t<1000):
  aD Q s 337 [.agg ⟨[(k:X),(N:X),(src:X),(len:X),ew]⟩,aE,(t:X)] h U (λr ac Y=>qd ac U Y r m (λi=>rc k (iW bt N ((t-1) / 2)) t S (low+i))/\az U h ac/\U<=Y):=by
 refine auH ?_;obtain⟨V,jf,cU,bv,hk⟩:=id P;have M:=ar;obtain⟨cY,fJ,ei,rfl,fE,gJ,gq⟩:=ar;obtain⟨bp,hn,rfl,_⟩:=id V;obtain⟨ax,c1,rfl,_⟩:=id fE;obtain⟨a2,c2,rfl,_⟩:=id gJ;obtain⟨a3,cm,rfl,_⟩:=id gq;have bF:∀{o aW kQ},az U h (F (F (F h U o) (U+1) aW) (U+2) kQ):=aC
 unfold agL;refine aB ?_;refine(Lr (V.T  bF J) bv J J J (M.T  bF J) (jq _ _) (jq _ _)).mono ?_;rintro _ br D ⟨rfl,B,fp⟩;have iH:=B U J;rw[aq J,aq J,aN]at iH;have c4:=B (U+1) J;rw[aq J,aN]at c4;have eK:=B (U+2) J;rw[aN]at eK;have e8:IntKind.wrap .i64 (((low+m:Nat):Int)-(low:Int))=(m:Int):=by rw[show((low+m:Nat):Int)-(low:Int)=(m:Int) by omega];exact js m J
 refine hw @iH @c4 @e8 ?_;generalize gh:F (F (F br (U+1) _) D _) D _=H;have aF:∀d,d≠U+1->d≠D->u H d=u br d:=ab
 have aY:u H D=some (.cells [(m:X),.slice none 0 0] false):=ab
 have aJ:u H (U+1)=some (.cells [(low:X),((low+m:Nat):X),.slice ax (cF m λi=>S.A (low+i)).length c1,.slice a2 (cF m λi=>S.B (low+i)).length c2,.slice a3 (eU m λi=>S.q (low+i)).length cm] false):=ab
 refine bq.mk (OuJ U D t m _ _ (λi=>rc k (iW bt N ((t-1) / 2)) t S (low+i)) h) m ⟨0,_,J,J,rfl,(aF U J J).trans iH,aJ,ab,aY,.inl ⟨rfl,rfl⟩,aC,J⟩ ?_;rintro _ _ al bH ⟨i,cY,rfl,ai,rfl,kX,fk,gH,lg,dW,hk,dr⟩;rw[asv];unfold adZ;obtain⟨hS,nv',me,rfl⟩:=dW.form;refine hw @kX @fk @lg ?_;refine⟨λci=>?_,λeh=>?_⟩
 ·refine(alU (P.T hk J) (M.T hk J) qz J h1 cy).mono ?_;rintro _ aM bR ⟨⟨y,b,rfl,ca⟩,A,K⟩;have fu:=(A U J).trans kX;have dJ:=(A (U+1) J).trans fk;have gg:=(A (U+2) J).trans gH;have jE:=(A D J).trans lg;have E:=dW.T   (λd h1 al=>A d J) K;refine cx @jE (cn (J:i<1000000000000)) ?_;refine⟨λaG=>?_,λaG=>?_⟩
  ·refine l7  (k:=2)  (λ_=>rfl) (λ_=>rfl) J (E.T  ab J) J (i,y) (aN _ _ _) rfl (by have:=my i λi=>rc k (iW bt N ((t-1) / 2)) t S (low+i);omega) λdG bP I hi=>?_;obtain⟨bl,fI,qJ,rfl⟩:=I.form;have kY:=(hi D J).trans ((aq J).trans jE);refine a9 @kY ?_;refine⟨_,?_,i+1,_,rfl,J,rfl,?_,?_,?_,aN _ _ _,?_,?_,J⟩
   ·omega
   ·grind
   ·grind
   ·grind
   ·rw[ad6  (f:=λi=>rc k (iW bt N ((t-1) / 2)) t S (low+i)) ca,aG,if_pos rfl];exact I.T ab J
   ·exact aC
  ·refine⟨_,?_,i+1,_,rfl,J,rfl,fu,dJ,gg,jE,?_,aC,J⟩
   ·omega
   ·rw[ad6  (f:=λi=>rc k (iW bt N ((t-1) / 2)) t S (low+i)) ca,aG,if_neg (by simp),hM];exact E
 ·have:i=m:=J
  subst this;refine cx @gH @lg ?_;refine⟨⟨_,rfl,?_⟩,λd V=>by rw[aq J];exact hk d V,J⟩;exact(dX.f dW).T (λd h1 al=>aq J) J (cB _)
end
section
variable {s:ak} {k src len:Int} {N low m t i:Nat} {bt:aa Int} {ew aE:X} {S:jL} {h:ad} {U:Nat}
def Bf(h:ad)(ao U:Nat)(w:X)(o:ak)(m:Nat)(q:Nat->ak):Prop:=(o=true/\w = .slice none 0 0/\∀i,i<m->q i=true)\/(o=false/\eZ h ao U w kq (eU m q))
def AkJ(p:Nat)(want:Int)(cY:X)(m a6:Nat)(q:Nat->ak)(h1:ad)(Fz:Nat)(aE:aa X)(ac:ad)(Y:Nat):Prop :=
 ∃i acc,Fz=m-i/\i<=m/\aE=[bb p,(want:X),acc,cY,(m:X),(i:X)]/\dX ac acc cG 1 (gm (er i q)) a6 Y/\az a6 h1 ac/\a6<=Y
theorem alV(P:p3 h U ew k src len N bt)(ar:jK h U aE low m S)(qz:low+m<=N):
  aD Q s 331 [.agg ⟨[(k:X),(N:X),(src:X),(len:X),ew]⟩,aE,(t:X)] h U (λr ac Y=>∃w o,r = .tuple ⟨[w,.bool o]⟩/\Bf ac U Y w o m (λi=>te k S (low+i))/\az U h ac/\U<=Y):=by
 refine aoV ?_;obtain⟨bu,jf,cU,bv,I⟩:=id P;have oS:=ar;obtain⟨cY,fJ,ei,rfl,fE,gJ,gq⟩:=ar;obtain⟨bp,hn,rfl,_⟩:=id bu;obtain⟨ax,c1,rfl,_⟩:=id fE;obtain⟨a2,c2,rfl,_⟩:=id gJ;obtain⟨a3,cm,rfl,_⟩:=id gq;have bF:∀{o aW},az U h (F (F h U o) (U+1) aW):=aC
 unfold adY;refine aB ?_;refine(Lr (bu.T  bF J) bv J J J (hP.T oS  bF J) (jq _ _) (jq _ _)).mono ?_;rintro _ br a6 ⟨rfl,D,fp⟩;have iH:=D U J;rw[aq J,aN]at iH;have c4:=D (U+1) J;rw[aN]at c4;rw[jq,jq]at *
 refine cx @iH @c4 ?_;have e8:IntKind.wrap .i64 (((low+m:Nat):Int)-(low:Int))=(m:Int):=by rw[show((low+m:Nat):Int)-(low:Int)=(m:Int) by omega];exact js m J
 have B:∀(A:Int) (q:Nat->ak),(∀i,i<m->q i=decide (S.A (low+i)=A))->∀H,u H (U+1)=some (.cells [(low:X),((low+m:Nat):X),.slice ax m c1,.slice a2 m c2,.slice a3 (eU m λi=>S.q (low+i)).length cm] false)->az U h H->KC s (λr ac Y=>∃w o,r = .tuple ⟨[w,.bool o]⟩/\Bf ac U Y w o m q/\az U h ac/\U<=Y) (.pointer (some ⟨U+1,0,none⟩)) (.int .i64 A) H a6:=λA q cz H gh vd=>by
  unfold KC;refine a9 @gh ?_;refine bq.mk (AkJ (U+1) A (.slice ax m c1) m a6 q H) m ⟨0,_,J,J,rfl,.inl ⟨rfl,rfl⟩,aC,J⟩ ?_;rintro _ _ al bH ⟨i,acc,rfl,ai,rfl,K,I,M⟩;rw[alE];unfold Z8;obtain⟨bX,CF,qE,rfl⟩:=K.form;have fk:=(I (U+1) J).trans gh;refine aB ?_;refine⟨λci=>?_,λeh=>?_⟩
  ·obtain⟨b,aO,bC,cap,aG,e,a5,aU⟩:=NH fE J;cases e;have E:=(I b J).trans ((vd b aG).trans a5)
   by_cases e:S.A (low+i)=A
   ·simp(disch:=omega)only[bd,E,aU,show(S.A (low+i) == A)=true from vn.2 e,cn (J:i<1000000000000),seval];refine l7  (k:=1)  (λ_=>rfl) (λ_=>rfl) J (K.T  ab J) J (i:Int) (aN _ _ _) rfl (by unfold gm;rw[g5];have:=vM i q;omega) λdG bP V hi=>?_;refine⟨_,J,i+1,_,rfl,J,rfl,?_,aC,J⟩;rw[Lq,cz i J,gz e,if_pos rfl];exact V
   ·simp(disch:=omega)only[bd,E,aU,show(S.A (low+i) == A)=false from sR.2 e,cn (J:i<1000000000000),seval];refine⟨_,J,i+1,_,rfl,J,rfl,?_,I,M⟩;rw[Lq,cz i J,f9 e,if_neg (by simp),hM];exact K
  ·have:i=m:=J
   subst this;refine cx @fk @e8 ?_;refine(LJ   J K.rd (λx aR=>by unfold er at aR;grind) (by have:=vM i q;omega)).mono ?_;rintro w bc d4 ⟨jF,gd,iC⟩;rw[SX]at jF;exact⟨_,_,rfl,.inr ⟨rfl,eZ.T jF ab J J⟩,aC,J⟩
 unfold te;rcases I with rfl|rfl|rfl|rfl
 ·refine aB ?_;exact B (-1) _ ab _ ab aC
 ·refine aB ?_;exact⟨_,_,rfl,.inl ab,aC,J⟩
 ·refine aB ?_;exact⟨_,_,rfl,.inl ab,aC,J⟩
 ·refine aB ?_;exact B 0 _ ab _ ab aC
def o1(z:Int × Int × ak):X:=.tuple ⟨[(z.1:X),(z.2.1:X),.bool z.2.2]⟩
theorem ajX{b:ak}(P:p3 h U ew k src len N bt)(ar:jK h U aE low m S)(qz:low+m<=N)(ai:i<m)(h1:1<=t)(cy:t<1000):
  aD Q s 402 [.agg ⟨[(k:X),(N:X),(src:X),(len:X),ew]⟩,aE,(t:X),(i:X),(y:X),.bool b] h U
   (cI (o1 (kL k (iW bt N ((t-1) / 2)) t S (low+i) (if b=true then some y else none))) U h):=by
 refine alG ?_;obtain⟨bu,jf,cU,bv,hk⟩:=id P;obtain⟨cY,fJ,ei,rfl,fE,gJ,gq⟩:=ar;obtain⟨bp,hn,rfl,_⟩:=id bu;obtain⟨a3,cm,rfl,_⟩:=id gq;obtain⟨de,I2,dJ,aAo,hy,rfl,rm,BI⟩:=NH fE ai;obtain⟨bO,mK,gg,r5,fa,rfl,jy,qk⟩:=NH gJ ai;have M:∀{o aW},az U h (F (F h U o) (U+1) aW):=aC
 have V:∀{o aW},u (F (F h U o) (U+1) aW) de=_:=λ{o aW}=>(M de hy).trans rm;have I:∀{o aW},u (F (F h U o) (U+1) aW) bO=_:=λ{o aW}=>(M bO fa).trans jy;generalize A:kL k (iW bt N ((t-1) / 2)) t S (low+i) (if b=true then some y else none)=Z;have B:∀{w o aW},w=o1 Z->cI (o1 Z) U h w (F (F h U o) (U+1) aW) (U+2):=λe=>⟨e,M,J⟩
 unfold abX;refine j6 @V @BI @I @qk ?_;unfold kL at A;rcases hk with rfl|rfl|rfl|rfl
 ·cases b
  ·refine aB ?_;exact B (by rw[<-A];rfl)
  ·by_cases e:S.A (low+i) = -1
   ·refine a9 @e ?_;exact B (by rw[<-A];simp[o1,e])
   ·simp(disch:=omega)only[bd,show(S.A (low+i) == -1)=false from sR.2 e,seval];exact B (by rw[<-A];simp[o1,e])
 ·unfold Ga t0;cases b
  ·refine aB ?_;exact B (by rw[<-A];rfl)
  ·refine aB ?_;exact⟨λe=>B (by rw[<-A];simp[o1,e]),λe=>B (by rw[<-A];simp[o1,e])⟩
 ·unfold Ga t0;cases b
  ·refine aB ?_;exact B (by rw[<-A];rfl)
  ·refine aB ?_;exact⟨λe=>B (by rw[<-A];simp[o1,e]),λe=>B (by rw[<-A];simp[o1,e])⟩
 ·unfold Ga Pv t0
  by_cases aF:S.A (low+i)=0
  case neg =>
   simp(disch:=omega)only[bd,show(S.A (low+i) == 0)=false from sR.2 aF,seval];exact B (by rw[<-A];simp[o1,aF])
  have D:=QL (J:t<4000000000)
  by_cases E:t % 2=0
  ·rw[E]at D
   replace D:bin Q .and 3 (t:X) (.int .i64 1) = .ok (.int .i64 0):=D
   cases b
   ·refine cx @aF @D ?_;exact B (by rw[<-A];simp[o1,aF,E])
   ·refine cx @aF @D ?_;exact B (by rw[<-A];simp[o1,aF,E])
  ·rw[show t % 2=1 by omega]at D
   replace D:bin Q .and 3 (t:X) (.int .i64 1) = .ok (.int .i64 1):=D
   cases b
   ·refine cx @aF @D ?_;exact B (by rw[<-A];simp[o1,aF,E])
   ·refine cx @aF @D ?_;refine(ab0 h1 J).f4 ⟨J,?_⟩;simp(disch:=omega)only[bd,fZ,seval];have Aa:IntKind.wrap .i64 ((low:Int)+(i:Int))=((low+i:Nat):Int):=by rw[<-wH];exact js _ J
    refine a9 @Aa ?_;refine(aae   (bu.T  M J) jf J  J J).b0 λbr cj eT K=>⟨K,?_⟩
    have cD:=M.trans eT J;refine aB ?_;exact⟨λe=>⟨by rw[<-A];simp[o1,aF,E,e],cD,J⟩,λe=>⟨by rw[<-A];simp[o1,aF,E,e],cD,J⟩⟩
end
section
variable {s:ak} {k src len:Int} {N low m t i:Nat} {bt:aa Int} {ew aE sC:X} {S:jL} {yA:Nat->av Int} {h:ad} {U:Nat}
theorem f8(o:av Int):(if o.isSome=true then some (o.getD 0)else none)=o:=by cases o <;> rfl
theorem ai2{aAV D I E:Nat}{bf:av Addr}{n6 hD:Nat}{dJ gg jE nI:ak}{bp:av Addr}{hn:Nat}(P:p3 h U (.slice bp bt.length hn) k src len N bt)(ar:jK h U aE low m S)(ca:kn h U (.agg ⟨[(m:X),.slice bf n6 hD]⟩) m yA)(qz:low+m<=N)(ai:i<m)(h1:1<=t)(cy:t<1000)
  (br:u h aAV=some (.cells [(m:X),.slice bf n6 hD] dJ)) (g2:u h D=some (.cells [(k:X),(N:X),(src:X),(len:X),.slice bp bt.length hn] gg)) (c3:u h I=some (.cells (c5 aE) jE)) (dK:u h E=some (.cells [(t:X)] nI)) (V:D<U) (M:I<U) (K:E<U):
  aD Q s 400 [(i:X),bb aAV,bb D,bb I,bb E] h U
   (cI (o1 (kL k (iW bt N ((t-1) / 2)) t S (low+i) (yA i))) U h):=by
 refine bS ?_;have oS:=ar;obtain⟨cY,fJ,ei,rfl,fE,gJ,gq⟩:=ar;obtain⟨ax,c1,rfl,_⟩:=id fE;obtain⟨a2,c2,rfl,_⟩:=id gJ;obtain⟨a3,cm,rfl,_⟩:=id gq;have hm:m<=63:=by have:=P.n60;omega
 refine a9 @br ?_;refine(ast ca J ai).mono ?_;rintro _ al bH ⟨rfl,A,B⟩;simp(disch:=omega)only[bd,(A D V).trans g2,(A I M).trans c3,(A E K).trans dK,seval];refine(ajX   (P.T A B) (oS.T A B) qz ai h1 cy).mono ?_;rintro _ aM bR ⟨rfl,ek,hr⟩;rw[f8];unfold o1;refine aB ?_;exact⟨rfl,aC,J⟩
theorem ajY(P:p3 h U ew k src len N bt)(ar:jK h U aE low m S)(ca:kn h U sC m yA)(qz:low+m<=N)(h1:1<=t)(cy:t<1000):
  aD Q s 336 [.agg ⟨[(k:X),(N:X),(src:X),(len:X),ew]⟩,aE,(t:X),sC] h U (λr ac Y=>mb ac U Y r (low:Int) ((low+m:Nat):Int) m (cF m λi=>(kL k (iW bt N ((t-1) / 2)) t S (low+i) (yA i)).1) (cF m λi=>(kL k (iW bt N ((t-1) / 2)) t S (low+i) (yA i)).2.1) (λi=>(kL k (iW bt N ((t-1) / 2)) t S (low+i) (yA i)).2.2)/\az U h ac/\U<=Y):=by
 refine alF ?_;obtain⟨bu,jf,cU,bv,hk⟩:=id P;have I:=ar;obtain⟨cY,fJ,ei,rfl,fE,gJ,gq⟩:=ar;obtain⟨bp,hn,rfl,_⟩:=id bu;obtain⟨ax,c1,rfl,_⟩:=id fE;obtain⟨a2,c2,rfl,_⟩:=id gJ;obtain⟨a3,cm,rfl,_⟩:=id gq;have E:=ca;obtain⟨gW,rfl,hyi⟩:=ca;obtain⟨cP,ke,rfl,_⟩:=id hyi;have bF:∀{o d9 dI gL kz},az U h (F (F (F (F (F h U o) (U+1) d9) (U+2) dI) (U+3) gL) (U+4) kz):=aC
 unfold abW;refine aB ?_;refine(Lr (bu.T  bF J) bv J J J (hP.T I  bF J) (jq _ _) (jq _ _)).mono ?_;rintro _ br a6 ⟨rfl,B,fp⟩;have M:=B U J;rw[aq J,aq J,aq J,aq J,aN]at M;have c4:=B (U+1) J;rw[aq J,aq J,aq J,aN]at c4;have eK:=B (U+2) J;rw[aq J,aq J,aN]at eK;have gX:=B (U+3) J;rw[aq J,aN]at gX;have lf:=B (U+4) J;rw[aN]at lf;have e8:IntKind.wrap .i64 (((low+m:Nat):Int)-(low:Int))=(m:Int):=by rw[show((low+m:Nat):Int)-(low:Int)=(m:Int) by omega];exact js m J
 refine j6 @M @c4 @gX @e8 ?_;have ez:∀{o},az U h (F br (U+1) o):=aC
 refine(wS (E.T  ez J) J).b0 λg2 bH A e9=>?_;have fu:=(A U J).trans ((aq J).trans M);have dJ:=(A (U+1) J).trans (aN _ _ _);have gg:=(A (U+2) J).trans ((aq J).trans eK);have jE:=(A (U+3) J).trans ((aq J).trans gX);have nI:=(A (U+4) J).trans ((aq J).trans lf);have fg:=ez.trans A J;have Fz:((m:Int) == (m:Int))=true:=ab
 refine cx @jE @Fz ?_;unfold Pu;refine a9 @dJ ?_;refine(Z3 (m6:=λi=>(kL k (iW bt N ((t-1) / 2)) t S (low+i) (yA i)).1) (ms:=λi=>(kL k (iW bt N ((t-1) / 2)) t S (low+i) (yA i)).2.1) (q:=λi=>(kL k (iW bt N ((t-1) / 2)) t S (low+i) (yA i)).2.2) J λi ac Y ai D xA=>?_).mono ?_
 ·have hT:=fg.trans D J;exact ai2 (P.T hT J) (jK.T I hT J) (E.T hT J) qz ai h1 cy ((D _ J).trans jE) ((D _ J).trans fu) ((D _ J).trans dJ) ((D _ J).trans gg) J J J
 rintro w gx fI ⟨dW,K,mE⟩;have V:=dW;obtain⟨od,mn,aC5,rfl,oo,qM,rD⟩:=dW;obtain⟨de,fv,rfl,_⟩:=id oo;obtain⟨bO,fF,rfl,_⟩:=id qM;obtain⟨d6,ir,rfl,_⟩:=id rD;have sN:=(K (U+4) J).trans nI;refine a9 @sN ?_;exact⟨V.wid ab J J,aC,J⟩
end
theorem asK{i b w:Nat}(ai:i<n):iY z (.slice (some ⟨b,0,some (w+1)⟩) n n) (some (i:X)) none none = .ok (.slice (some ⟨b,i*z,some (w+1)⟩) (n-i) (n-i)):=by
 show oD z (some ⟨b,0,some (w+1)⟩) n false n n i=_;unfold oD;rw[show(Nat.ble n n&&(Nat.ble n n&&Nat.ble i n))=true by simp;omega];unfold vI;rw[show Nat.beq n i=false by
  cases A:Nat.beq n i with
  |true=>exact absurd (g4 A) J
  |false=>rfl]
 show R.ok (Value.slice (some ⟨b,Nat.add 0 (Nat.mul i z),some (w+1)⟩) (Nat.sub n i) (Nat.sub n i))=_;simp
theorem asL{i b w:Nat}(ai:i<n):iY z (.slice (some ⟨b,0,some (w+1)⟩) n n) none (some (i:X)) none = .ok (.slice (some ⟨b,0,some (w+1)⟩) i n):=by
 show oD z (some ⟨b,0,some (w+1)⟩) n false n i 0=_;unfold oD;rw[show(Nat.ble n n&&(Nat.ble i n&&Nat.ble 0 i))=true by simp;omega];unfold vI;rw[show Nat.beq n 0=false by
  cases A:Nat.beq n 0 with
  |true=>have:=g4 A;omega
  |false=>rfl]
 show R.ok (Value.slice (some ⟨b,Nat.add 0 (Nat.mul 0 z),some (w+1)⟩) (Nat.sub i 0) (Nat.sub n 0))=_;simp
theorem ad7{aA:Type}{enc:aA->aa X}{k t e b i c U:Nat}{aO:av Nat}{l:aa aA}{h:ad}(z:aA)(E:∀x,(enc x).length=k)(aU:∀x,ec (enc x)=true)(V:nQ Q t=true)(el:rU Q t=some e)(aCb:oC Q e=some (enc z))(bg:l.length=n)(ai:i<n)(K:u h b=some (.cells (a1 enc l) false)):
  sV Q .clear [t] h U [.slice (some ⟨b,i*k,aO⟩) (n-i) c] = .ok (.val km (F h b (.cells (a1 enc (l.take i++List.replicate (n-i) z)) false)) U):=by
 have ba:hg (n-i) (enc z)=a1 enc (List.replicate (n-i) z):=by
  rw[aqv];generalize n-i=q
  induction q with
  |zero=>rfl
  |succ q A=>rw[FG,FG,List.flatten_cons,A];rfl
 have D:∀q,ec (a1 enc (List.replicate q z))=true:=by
  intro q
  induction q with
  |zero=>rfl
  |succ q A =>
   rw[FG];show ec (enc z++a1 enc _)=true;have app:∀a b:aa X,ec a=true->ec b=true->ec (a++b)=true:=by
    intro a b B K
    induction a with
    |nil=>grind
    |cons x a A =>
     rw[rM,eD]at B;show ec (x::(a++b))=true;rw[rM,B.1,A B.2];rfl
   grind
 have oW:(a1 enc l).length=n*k:=by rw[ga E,bg]
 have I:(a1 enc (List.replicate (n-i) z)).length=(n-i)*k:=by rw[ga E,List.length_replicate]
 have hm:i*k+(n-i)*k=n*k:=by rw[<-yN];grind
 show(bif rV Q t||nQ Q t then Ha Q t h U (.slice (some ⟨b,i*k,aO⟩) (n-i) c)else .no "clear")=_;rw[V,Kb];obtain⟨m,M⟩:∃m,n-i=m+1:=⟨n-i-1,J⟩
 rw[M];show Lz Q t h U ⟨b,i*k,aO⟩ (m+1)=_;rw[<-M];unfold Lz;rw[el,GQ,aCb,GQ];simp only[];rw[ba,Ki K ab J,I];show R.ok _=_;rw[OL J,hM,AG];have:=abM E l 0 i
 grind
theorem ahQ:nQ Q 98=true:=by kernel_rfl
theorem ayG:rU Q 98=some 274:=by kernel_rfl
theorem ayH:oC Q 274=some (eA (0,0)):=by kernel_rfl
def DlJ(b:Nat)(L:aa (Nat × Int))(q:Nat × Int->ak)(rB:X)(h:ad)(U:Nat)(t:Nat)(aE:aa X)(ac:ad)(Y:Nat):Prop :=
 ∃(i j:Nat) (m:aa (Nat × Int)),t=L.length-j/\j<=L.length/\i<j/\aE=[.slice (some ⟨b,0,some 3⟩) L.length L.length,rB,(i:X),(j:X)]/\m.length=L.length/\u ac b=some (.cells (a1 eA m) false) /\
  m.take i=(L.take j).filter (λp=>!q p)/\m.drop j=L.drop j/\(∀d,d<U->d≠b->u ac d=u h d)/\U<=Y
theorem auP{s:ak}{v:X}{h:ad}{U:Nat}(eJ:L.length<1000000)(K:eu h U v eA 3 L)(bx:∀(p:Nat × Int),p∈L->∀ac Y,az U h ac->U<=Y->aD Q s d7 (.agg ⟨eA p⟩::cs) ac Y (cI (.bool (q p)) Y ac)):
  aD Q s 396 [v,.func (.func d7) ⟨[]⟩ ⟨cs⟩] h U (λr ac Y=>(∃x:Int,r = (x:X)/\((x = -1/\∀p∈L,q p=false)\/∃n y,x=(n:Nat)/\L[n]? = some y/\q y=true/\∀p∈L.take n,q p=false))/\az U h ac/\U<=Y):=by
 refine X0 ?_;unfold Pe;obtain⟨bp,cap,rfl,aU⟩:=id K;refine aB ?_;refine bq.mk (λm aE ac Y=>∃i,m=L.length-i/\i<=L.length/\aE=[.slice bp L.length cap,.func (.func d7) ⟨[]⟩ ⟨cs⟩,.int .i64 0,(L.length:X),(i:X)]/\(∀p∈L.take i,q p=false)/\az U h ac/\U<=Y) L.length ⟨0,J,J,rfl,ab,aC,J⟩ ?_;rintro _ _ al bH ⟨i,rfl,ai,rfl,wh,D,A⟩;rw[XW];unfold O8;refine aB ?_;refine⟨λci=>?_,λeh=>⟨⟨-1,rfl,ab⟩,D,A⟩⟩;obtain⟨p,I⟩:=dk   J;obtain⟨b,aW,aO,bC,qg,E,aG,V,a5,B⟩:=(K.T D A).ld (λ_=>rfl) I;cases V;refine cx @a5 @B ?_;refine(bx p ab al bH D A).mono ?_;rintro _ aM bR ⟨rfl,ek,M⟩;refine a9 (cn (J:i<1000000000000)) ?_;refine⟨λcz=>⟨⟨_,rfl,ab⟩,aC,J⟩,λcz=>⟨_,J,i+1,rfl,J,rfl,λy ca=>?_,aC,J⟩⟩;rw[gQ,I]at ca
 grind
theorem wrS{h:ad}{b i:Nat}{m:aa (Nat × Int)}{x:Nat × Int}(ai:i<m.length):jg (some (.cells (a1 eA m) false)) h b (i*3) [(x.1:X),.int .i64 (x.2 / 18446744073709551616),.int .u64 (x.2 % 18446744073709551616)] = .ok (F h b (.cells (a1 eA (m.set i x)) false)):=Tx  (k:=3) (λ_=>rfl) (λ_=>rfl) ai
theorem nw.o{h:ad}{U:Nat}{v:X}{L:aa (Nat × Int)}{so:av Nat}(H:nw h v L so)(A:∀b,so=some b->b<U):eu h U v eA 3 L:=by
 rcases H with⟨rfl,rfl,_⟩|⟨b,e,rfl,B⟩
 ·exact eu.nil
 ·exact cN.o   (λ_=>rfl) ⟨_,_,rfl,λ_=>⟨b,_,false,A b e,rfl,B⟩⟩
theorem nw.b{h:ad}{v:X}{L:aa (Nat × Int)}{so:av Nat}(H:nw h v L so):uX h v eA 3 L (λb=>so=some b):=by
 rcases H with⟨rfl,rfl,_⟩|⟨b,e,rfl,A⟩
 ·exact⟨_,_,rfl,λh=>absurd rfl h⟩
 ·exact⟨_,_,rfl,λ_=>⟨b,0,some 3,false,_,e,rfl,(by simp),J,A,by rw[ga (k:=3) (λ_=>rfl)];omega,by rw[nO,pT (by rw[ga (k:=3) (λ_=>rfl)];omega)]⟩⟩
theorem apm{s:ak}{v:X}{h:ad}{U:Nat}(eJ:L.length<100000)(aI:nw h v L so)(V:∀b,so=some b->b<U)(bx:∀(p:Nat × Int),p∈L->∀ac Y,(∀d,d<U->so≠some d->u ac d=u h d)->U<=Y->aD Q s d7 (.agg ⟨eA p⟩::cs) ac Y (cI (.bool (q p)) Y ac)):
  aD Q s 332 [v,.func (.func d7) ⟨[]⟩ ⟨cs⟩] h U (λr ac Y=>uX ac r eA 3 (L.filter λp=>!q p) (λb=>so=some b)/\(∀d,d<U->so≠some d->u ac d=u h d)/\U<=Y):=by
 refine aio ?_;refine(auP  J (aI.o V) λp bv ac Y hk dr=>bx p bv ac Y (λd E _=>hk d E) dr).mono ?_;rintro _ h1 a6 ⟨⟨x,rfl,⟨rfl,wh⟩|⟨i,y,rfl,ca,cz,wh⟩⟩,B,I⟩
 ·obtain⟨a,c,rfl,_⟩:=id (aI.o V);refine aB ?_;refine⟨?_,λd E _=>B d E,I⟩;rw[Aq.2 ab];exact(aI.b).T (λb e=>B b ab) ab
 ·have D:=(gE.1 ca).1;rcases aI with⟨rfl,rfl,_⟩|⟨b,rfl,rfl,a5⟩
  ·cases ca
  have fa:=V b rfl;have hf0:(L.take (i+1)).filter (λp=>!q p)=L.take i:=by
   rw[gQ,ca,rJ,Aq.2 ab]
   grind
  refine a9 (cn (J:i<1000000000000)) ?_;refine⟨λap=>absurd ap (by simp),λ_=>?_⟩;refine bq.mk (DlJ b L q _ h U) (L.length-(i+1)) ⟨i,i+1,L,rfl,D,J,rfl,rfl,(B b fa).trans a5,hf0.symm,rfl,λd E _=>B d E,I⟩ ?_;rintro _ _ ac kx ⟨i,k,m,rfl,hk,hik,rfl,hm,NI,A,NJ,tr,dr⟩;rw[aik];unfold XQ;have b0:IntKind.wrap .i64 ((k:Int)+1)=((k+1:Nat):Int):=cn J;have yw:IntKind.wrap .i64 ((i:Int)+1)=((i+1:Nat):Int):=cn J;refine aB ?_;refine⟨λci=>?_,λeh=>?_⟩
  ·obtain⟨y,ca⟩:=dk (l:=m) (i:=k) J;have hly:L[k]? = some y:=by
    have:=congrArg (·[0]?) NJ
    grind
   have jY:hF (some 3) (k*3) (a1 eA m) = .ok (.agg ⟨eA y⟩):=by rw[qR,ga (k:=3) (λ_=>rfl),if_pos J,vz (k:=3) (λ_=>rfl) ca]
   refine cx @NI @jY ?_;rw[show eA y=[(y.1:X),.int .i64 (y.2 / 18446744073709551616),.int .u64 (y.2 % 18446744073709551616)]from rfl];refine aB ?_;refine(bx y ab _ (kx+1) (λd E bm=>by rw[aq J,aq J];grind) J).mono ?_;rintro _ al bH ⟨rfl,M,e9⟩;have br:=M kx J;rw[aN]at br;have g2:=M b J;rw[aq J,aq J,NI]at g2;have k6:∀d,d<U->d≠b->u al d=u h d:=λd E bm=>by rw[M d J,aq J,aq J];grind
   have K:∀(bG:aa (Nat × Int)),(∀q,k<q->bG[q]? = m[q]?)->bG.drop (k+1)=L.drop (k+1):=λbG EG=>by apply nL;intro q;rw[vh,EG _ J,<-vh,<-yK,NJ,yK]
   simp(disch:=omega)only[bd,br,g2,yw,b0,wrS (m:=m)  (i:=i) J,seval];refine⟨λcz=>?_,λcz=>?_⟩
   ·refine⟨L.length-(k+1),J,i+1,k+1,m.set i y,rfl,J,J,rfl,ab,ab,?_,K _ (λq cz=>by rw[qP,if_neg J]),ab,J⟩;rw[gQ,List.take_set_of_le J,A,gQ,hly,rJ,qP,if_pos rfl,if_pos J]
    grind
   ·refine⟨L.length-(k+1),J,i,k+1,m,rfl,J,J,rfl,hm,g2,?_,K _ (λ_ _=>rfl),k6,J⟩;rw[A,gQ,hly,rJ]
    grind
  ·have B6:k=L.length:=J
   subst B6;rw[ht]at A;simp(disch:=omega)only[bd,asK    (J:i<L.length),ad7    (0,0)  (k:=3) (λ_=>rfl) (λ_=>rfl) ahQ ayG ayH hm (J:i<L.length) NI,dS,asL    (J:i<L.length),seval];refine⟨?_,λd E bm=>ab,J⟩;have D:i=(L.filter λp=>!q p).length:=ab
   refine⟨some ⟨b,0,some 3⟩,L.length,ab,λ_=>⟨b,0,some 3,false,_,rfl,rfl,(by simp),yF ..,aN _ _ _,?_,?_⟩⟩
   ·rw[ga (k:=3) (λ_=>rfl),jb,<-D,A,<-D];omega
   ·rw[AG,A,nO,<-ga (k:=3) (enc:=eA) (λ_=>rfl),J9]
section
variable {c:Nat->X} {h ac:ad} {U Y k j b:Nat} {v:X}
theorem ad8{aA:Type}(f:Nat->aA){m:Nat}(A:k+m<=n):(((List.range n).map f).drop k).take m=(List.range m).map λi=>f (k+i):=by
 refine nL λi=>?_
 grind
theorem BC:dt c=(List.range 45).map c:=rfl
theorem wkg(A:k<45):(dt c)[k]? = some (c k):=by rw[BC,sS,yH A];rfl
theorem wks(A:k<45):(dt c).set k v=dt (hK c k v):=by
 rw[BC,BC];refine nL λi=>?_;rw[qP,g5,vk]
 by_cases ai:i<45
 ·rw[sS,sS,yH ai]
  by_cases e:k=i
  ·subst e;rw[if_pos rfl,if_pos A];unfold hK;grind
  ·rw[if_neg e];unfold hK;grind
 grind
theorem wk5(A:k+5<=45):hF (some 5) k (dt c) = .ok (.agg ⟨[c k,c (k+1),c (k+2),c (k+3),c (k+4)]⟩):=by rw[qR,Hp,if_pos J,BC,ad8 c A];rfl
theorem wk6(A:k+6<=45):hF (some 6) k (dt c) = .ok (.agg ⟨[c k,c (k+1),c (k+2),c (k+3),c (k+4),c (k+5)]⟩):=by rw[qR,Hp,if_pos J,BC,ad8 c A];rfl
theorem ue{l:aa X}(A:j<k\/k+l.length<=j):nZ c k l j=c j:=by unfold nZ;grind
theorem wkL{l:aa X}(D:k+l.length<=45):(dt c).take k++l++(dt c).drop (k+l.length)=dt (nZ c k l):=by
 rw[BC,BC];refine nL λi=>?_
 by_cases A:i<k
 ·rw[kB,sP ab,vi,if_pos A,sS,sS,yH J];show some (c i)=some (nZ c k l i);rw[ue J]
 ·by_cases E:i<k+l.length
  ·rw[kB,vf ab,sP ab,sS,yH J];unfold nZ
   grind
  ·rw[vf ab,vh,jb,ox,g5,vk,show k+l.length+(i-(min k 45+l.length))=i by omega,sS,sS];cases B:(List.range 45)[i]? with
   |none=>rfl
   |some x =>
    have:x=i:=ab
    subst this;show some (c x)=some (nZ c k l x);rw[ue J]
theorem wkw{D I E A B:X}{K:ad->Prop}(M:k+5<=45):ag (jg (some (.cells (dt c) false)) h b k [D,I,E,A,B]) K↔ec [D,I,E,A,B]=true/\K (F h b (.cells (dt (nZ c k [D,I,E,A,B])) false)):=
 A2.trans ⟨λx=>⟨x.1,by rw[<-wkL J];exact x.2.2⟩,λx=>⟨x.1,by rw[Hp];omega,by rw[wkL J];exact x.2⟩⟩
theorem zo:hK c k v k=v:=if_pos rfl
theorem dN(h:j≠k):hK c k v j=c j:=if_neg h
def ia:=And.intro @wkg (And.intro @wks (And.intro @wk5 (And.intro @wk6 (And.intro @wkw (And.intro @Hp (And.intro @zo @dN))))))
theorem awK{p q D B:Prop}(a0:D)(A:B)(h:q)(e:D->B->q->p:=by intro a0 A h;simp(config:={maxSteps:=1000000})(disch:=omega)only[bd,ia,↓reduceIte,Nat.reduceAdd,Nat.reduceSub,Nat.reduceMul,Nat.reduceLT,Nat.reduceLeDiff,Nat.reduceEqDiff,Int.reduceBEq,Int.reduceLT,Int.reduceNeg,a0,A];exact h):p:=e a0 A h
theorem HF{p q A:Prop}(a0:A)(h:q)(e:A->q->p:=by intro a0 h;simp(config:={maxSteps:=1000000})(disch:=omega)only[bd,ia,a0,seval];exact h):p:=e a0 h
theorem vT{p q D B:Prop}(a0:D)(A:B)(h:q)(e:D->B->q->p:=by intro a0 A h;simp(config:={maxSteps:=1000000})(disch:=omega)only[bd,ia,a0,A,seval];exact h):p:=e a0 A h
theorem zp{p q E D I:Prop}(a0:E)(A:D)(B:I)(h:q)(e:E->D->I->q->p:=by intro a0 A B h;simp(config:={maxSteps:=1000000})(disch:=omega)only[bd,ia,a0,A,B,seval];exact h):p:=e a0 A B h
theorem Bg{p q K E M I:Prop}(a0:K)(A:E)(B:M)(D:I)(h:q)(e:K->E->M->I->q->p:=by intro a0 A B D h;simp(config:={maxSteps:=1000000})(disch:=omega)only[bd,ia,a0,A,B,D,seval];exact h):p:=e a0 A B D h
theorem L9{p q M I Xp K V:Prop}(a0:M)(A:I)(B:Xp)(E:K)(D:V)(h:q)(e:M->I->Xp->K->V->q->p:=by intro a0 A B E D h;simp(config:={maxSteps:=1000000})(disch:=omega)only[bd,ia,a0,A,B,E,D,seval];exact h):p:=e a0 A B E D h
end
section
variable {own c9:Nat->Nat} {h ac g cb:ad} {U Y ao ai k dy:Nat} {v:X}
def jO(own:Nat->Nat)(h:ad)(U:Nat)(g:ad):Prop:=∀d,u g d=if d<U/\own d=0 then u h d else none
theorem DN(own:Nat->Nat)(h:ad):∀U,∃g,jO own h U g
 |0=>⟨ic,λd=>by rw[if_neg J];exact KL d⟩
 |U+1=>by
  obtain⟨g,A⟩:=DN own h U
  by_cases e:own U=0/\u h U≠none
  ·obtain⟨o,D⟩:=OG.1 e.2;refine⟨F g U o,λd=>?_⟩
   by_cases B:d=U
   ·grind
   ·rw[aq B,A d]
    grind
  ·refine⟨g,λd=>?_⟩;rw[A d]
   grind
structure E9 (dy:Nat) (own c9:Nat->Nat) (h ac:ad) (U Y:Nat):Prop where
 le:U<=Y
 same:∀d,d<U->own d≠dy->u ac d=u h d
 d8:∀d,d<U->c9 d=own d
 new:∀d,U<=d->c9 d=0\/c9 d=dy
def lx(g h:ad):Prop:=∀d o,u g d=some o->u h d=some o
theorem jO.sub(d7:jO own h U g):lx g h:=λd o A=>by
 rw[d7 d]at A
 grind
theorem jO.T(d7:jO own h U g)(B:jO c9 ac Y cb)(D:E9 dy own c9 h ac U Y)(E:dy≠0):az U g cb:=λd A=>by
 rw[d7 d,B d,D.d8 d A]
 by_cases e:own d=0
 ·rw[if_pos ⟨by have:=D.le;omega,e⟩,if_pos ⟨A,e⟩,D.same d A J]
 grind
theorem jO.new(E:jO c9 ac Y cb)(I:ai<=Y)(A:∀d,ao<=d->d<ai->c9 d=0):∀d,ao<=d->d<ai->u cb d=u ac d:=λd D B=>by rw[E d,if_pos ⟨J,A d D B⟩]
variable {aA:Type} {enc:aA->aa X} {l:aa aA}
theorem eu.sub(H:eu g U v enc k l)(S:lx g h):eu h U v enc k l:=by obtain⟨a,cap,e,H⟩:=H;refine⟨a,cap,e,λE=>?_⟩;obtain⟨b,o,K,A,cs,I,M,B,D⟩:=H E;exact⟨b,o,K,A,cs,I,M,S _ _ B,D⟩
theorem vU(H:cN g U v enc l)(S:lx g h):cN h U v enc l:=by obtain⟨a,cap,e,H⟩:=H;refine⟨a,cap,e,λD=>?_⟩;obtain⟨b,I,A,E,K,B⟩:=H D;exact⟨b,I,A,E,K,S _ _ B⟩
theorem hP.sub{low D:Int}{A B:aa Int}{q:Nat->ak}(H:hP g U v low D n A B q)(S:lx g h):hP h U v low D n A B q:=by obtain⟨E,K,I,e,a,b,c⟩:=H;exact⟨E,K,I,e,vU a S,vU b S,vU c S⟩
theorem lB.sub{l:aa Int}(H:lB g U v l)(S:lx g h):lB h U v l:=by
 obtain⟨aP,B,D⟩:=H;refine⟨aP,?_,D⟩;rcases B with w|⟨b,e,A,E⟩
 ·exact .inl w
 ·exact .inr ⟨b,e,A,S _ _ E⟩
theorem kI.sub{r c:Nat}{af:aa GE}(H:kI g U v r c af)(S:lx g h):kI h U v r c af:=by obtain⟨b,M,cap,K,A,e,I,B,D,E⟩:=H;exact⟨b,M,cap,K,A,e,I,S _ _ B,D.sub S,E.sub S⟩
theorem i4.sub{ao ai:Nat}(H:i4 g ao ai v enc k l)(S:lx g h):i4 h ao ai v enc k l:=by
 rcases H with H|⟨b,A,D,e,B⟩
 ·exact .inl H
 ·exact .inr ⟨b,A,D,e,S _ _ B⟩
theorem nk.sub{r c:Nat}{af:aa GE}(H:nk g U v r c af)(S:lx g h):nk h U v r c af:=by obtain⟨V,I,A,D,e,M,B,E,K⟩:=H;exact⟨V,I,A,D,e,M.sub S,B.sub S,(i4.sub E S),K.sub S⟩
end
def GD(s:ak)(K:bD)(cu b6 VL:X)(ap:ad)(aX:Nat):Prop:=bJ VL (K (.bool false) ap aX) (ag (cr cu) λa=>b4 7 a λb=>ay ap 1 b λd=>ay ap 1 b6 λf=>c7 131 [d,f] ap aX λg i j=>ag (cr cu) λk=>b4 7 k λl=>b4 1 l λm=>dc i m λn=>eX m n (b4 1 b6 λo=>dc i o λp=>eX o p (c7 132 [n,p] i j λq r t=>ag (c8 [(ae 0),(ae 0)] [(0,1,g),(1,1,q)]) λaT=>cJ [(ae 0),(ae 0)] r t λv w x=>ag (a7 w 2 v aT) λy=>ay y 0 b6 λbX=>bT .eql 94 bX (ae 1) (a4 11 y b6 λbV=>a4 2 y v λbp=>bh s 133 [cu,bV,bp] y x λb2 cM bU=>K b2 cM bU) (bT .eql 94 bX (ae 2) (a4 11 y b6 λcP=>a4 2 y v λd0=>bh s 134 [cu,cP,d0] y x λdH eM am=>K dH eM am) (bT .eql 94 bX (ae 3) (a4 11 y b6 λeR=>a4 2 y v λgM=>bh s 135 [cu,eR,gM] y x λhC hL i7=>K hC hL i7) (bT .eql 94 bX (ae 4) (a4 11 y b6 λhd=>a4 2 y v λpL=>bh s 136 [cu,hd,pL] y x λl4 m5 o7=>K l4 m5 o7) (bT .eql 94 bX (ae 5) (a4 11 y b6 λcg=>a4 2 y v λsG=>bh s 137 [cu,cg,sG] y x λbe sH jD=>K be sH jD) (K (.bool false) y x)))))) 1 [ap]) 1 [ap])
def afI:fH:=λs au t1 h U K=>cK t1 h U λa b c=>bT .eql 83 au (.pointer none) (GD s K au a (.bool true) b c) (c7 130 [au] b c λe f g=>b4 2 a λi=>dc f i λj=>eX i j (bT .neq 3 j e (GD s K au a (.bool true) f g) (ay f 1 a λm=>cq m (ae 0) (GD s K au a (.bool true) f g) (ay f 1 a λp=>ag (cr au) λq=>b4 7 q λr=>ay f 0 r λaT=>ag (cr au) λv=>b4 7 v λw=>ay f 1 w λy=>cf .mul 3 aT y λz=>cf .geq 3 p z λbX=>(GD s K au a bX f g)))) 1 [b])
theorem asM:fR 63 afI:=fX []
def Gk:aa (aa Nat):=[[0,11,84,85],[0,13,127,128]]
def Y4(s:ak)(a0 dO Wl NK:X)(h:ad)(U:Nat)(N:aH)(aF:aH)(R:aH):Prop:=cq NK Wl (ag (cr a0) λb=>ay h 24 b λd=>ag (lL Q h 3 (.agg #[(ae 0),aS]) false d NK) λe=>ey (fU 1 [(ae 0),aS] [(0,2,e)]) h U λf g i=>dB (dS (dv 2 g i dO f)) λj k l=>b3 NK λm=>N [a0,j,Wl,m] k l) (aF [a0,dO,Wl,NK] h U)
def Y5(s:ak)(a0 hW Ub MD:X)(h:ad)(U:Nat)(N:aH)(aJ:aH)(R:aH):Prop:=cq MD Ub (ag (cr a0) λb=>b4 0 b λc=>ay h 1 c λe=>c7 219 [a0,MD,e] h U λf g i=>ag (cr a0) λj=>b4 23 j λk=>dc g k λl=>eX k l (a4 2 g hW λm=>kZ 2 hW m (ag (c8 [(ae 0),(ae 0),(ae 0),(ae 0),(ae 0),(ae 0),aS,aS,aS,(ae 0),(.bool false)] [(0,1,(ae 2)),(2,1,f),(4,1,l),(5,2,m)]) λn=>c7 213 [a0,n] g i λo p q=>b3 MD λr=>N [a0,hW,Ub,r] p q) 1 [h]) 1 [h]) (aJ [a0,hW,Ub,MD] h U)
def CY(s:ak)(K:bD)(cu d3 fl Wm:X)(ap:ad)(aX:Nat):Prop:=bJ Wm (K (.bool false) ap aX) (ag (cr cu) λa=>ay ap 24 a λc=>ay ap 0 d3 λe=>a4 2 ap fl λf=>ag (pq Q 3 ap c e f) λg=>ag (cr cu) λi=>ay g 24 i λk=>ag (xv g k) λl=>ag (cr cu) λm=>b4 7 m λn=>ay g 0 n λp=>cq l p (K (.bool true) g aX) (ag (cr cu) λr=>b4 7 r λt=>ay g 0 t λv=>bq (bA Q s Gk 133 0) [cu,aS,v,(ae 0)] g aX [(0,λw x y=>ag (cr (aQ w 0)) λz=>b4 2 z λbX=>ay x 1 bX λbV=>ag (cr (aQ w 0)) λbp=>b4 7 bp λb2=>ay x 0 b2 λbU=>ag (cr (aQ w 0)) λdj=>b4 7 dj λcP=>ay x 1 cP λdH=>ag (cr (aQ w 0)) λeM=>b4 0 eM λam=>ay x 1 am λeR=>c7 223 [bV,bU,dH,eR,(aQ w 1)] x y λgM hC hL=>ag (dz gM 0) λi7=>cJ [(ae 0),aS] hC hL λhS hd pL=>ag (a7 hd 2 hS i7) λl4=>ag (dz gM 1) λm5=>ag (cr (aQ w 0)) λo7=>b4 7 o7 λi9=>ay l4 0 i9 λsG=>bq (bA Q s Gk 133 1) [(aQ w 0),hS,sG,(ae 0)] l4 pL [(2,λbe sH jD=>ag (cr (aQ be 0)) λfS=>ay sH 24 fS λog=>dB (dS (sV Q .clear [171] sH jD [og])) λnF li i5=>ag (cr (aQ be 0)) λtO=>ay li 23 tO λyr=>b3 yr λeS=>ag (cr (aQ be 0)) λCp=>b4 23 Cp λgN=>ag (a7 li 1 gN eS) λla=>K (.bool true) la i5)] (λ_ _ _=>False))] (λ_ _ _=>False)))
def ab2:i6:=λs au t1 t2 h U K=>cK t1 h U λa b c=>cK t2 b c λd e f=>ay e 0 d λi=>c7 222 [au,i] e f λj k l=>a4 11 k a λm=>kZ 11 a m (c7 221 [m,j] k l λn o p=>ag (dz n 0) λq=>cJ [(ae 0),aS] o p λr t aT=>ag (a7 t 2 r q) λv=>ag (dz n 1) λw=>ag (cr au) λx=>ay v 24 x λz=>ay v 0 d λch=>ag (lL Q v 3 (.agg #[(ae 0),aS]) true z ch) λbV=>ag (dz bV 0) λbp=>cJ [(ae 0),aS] v aT λb2 cM bU=>ag (a7 cM 2 b2 bp) λdj=>ag (dz bV 1) λcP=>bJ cP (CY s K au d r (.bool true) dj bU) (ag (d2 .not w) λd0=>bJ d0 (CY s K au d r (.bool true) dj bU) (ag (cr au) λdH=>b4 0 dH λeM=>ay dj 0 eM λan=>bT .neq 3 an (ae 0) (CY s K au d r (.bool true) dj bU) (ay dj 1 d λhC=>bT .neq 3 hC (ae 0) (CY s K au d r (.bool true) dj bU) (ay dj 4 a λhS=>ag (cr au) λhd=>ay dj 23 hd λl4=>cf .neq 3 hS l4 λm5=>(CY s K au d r m5 dj bU)))))) 1 [e]
theorem ajZ{s:ak}{B A D:X}{h:ad}{U:Nat}{N R:aH}:bA Q s Gk 133 0 [a0,B,A,D] h U N [(0,aF)] R=Y4 s a0 B A D h U N aF R:=by kernel_rfl
theorem aj0{s:ak}{D B A:X}{h:ad}{U:Nat}{N E R:aH}:bA Q s Gk 133 1 [a0,D,B,A] h U N [(2,E)] R=Y5 s a0 D B A h U N E R:=by kernel_rfl
theorem alW:jl 133 ab2:=jA Gk
def F2(s:ak)(K:bD)(cu cR fl Wn:X)(ap:ad)(aX:Nat):Prop:=bJ Wn (K (.bool false) ap aX) (ay ap 4 cR λb=>bh s 224 [cu,b] ap aX λc d e=>cJ [(ae 0),(ae 0)] d e λf g i=>ag (a7 g 2 f c) λj=>ag (cr cu) λk=>b4 2 k λl=>ay j 0 l λn=>ay j 4 cR λp=>c7 225 [n,p] j i λq r t=>b4 1 f λaT=>dc r aT λv=>eX aT v (a4 2 r fl λw=>kZ 2 fl w (c7 226 [v,w] r t λx y z=>ag (cr cu) λbX=>b4 11 bX λch=>a4 5 y ch λbV=>kZ 5 ch bV (ag (cr cu) λbp=>b4 16 bp λb2=>a4 6 y b2 λcM=>kZ 6 b2 cM (b4 0 f λbU=>dc y bU λdj=>eX bU dj (ag (c8 [(ae 0),(ae 0),(ae 0),aS,aS,aS,(ae 0),(ae 0),aS,aS,aS,aS,(ae 0),(ae 0),aS,(ae 0),aS,aS,aS,(.bool false),(ae 0)] [(0,1,q),(1,5,bV),(6,6,cM),(12,6,x),(19,1,(.bool true)),(20,1,dj)]) λcP=>cJ [(ae 0),(ae 0),(ae 0),aS,aS,aS,(ae 0),(ae 0),aS,aS,aS,aS,(ae 0),(ae 0),aS,(ae 0),aS,aS,aS,(.bool false),(ae 0)] y z λd0 dH eM=>ag (a7 dH 21 d0 cP) λam=>a4 21 am d0 λan=>bh s 227 [an] am eM λeR gM hC=>ag (dz eR 0) λhL=>ag (dz eR 1) λi7=>ag (dz eR 2) λhS=>ag (cr cu) λhd=>ay gM 25 hd λl4=>b3 l4 λm5=>ag (cr cu) λo7=>b4 25 o7 λi9=>ag (a7 gM 1 i9 m5) λcg=>ag (cr cu) λsG=>b4 0 sG λbe=>ay cg 0 be λjD=>c7 219 [cu,jD,(ae 0)] cg hC λfS bi og=>b4 4 cR λnF=>dc bi nF λli=>eX nF li (ag (c8 [(ae 0),(ae 0),(ae 0),(ae 0),(ae 0),(ae 0),aS,aS,aS,(ae 0),(.bool false)] [(0,1,(ae 3)),(2,1,fS),(4,1,li),(7,1,hL)]) λi5=>c7 213 [cu,i5] bi og λtO aP yr=>K (.bool true) aP yr) 1 [cg]) 2 [r,j]) 2 [r,j]) 2 [r,j]) 1 [j]) 1 [j])
def aaf:i6:=λs au t1 t2 h U K=>cK t1 h U λa b c=>cK t2 b c λd e f=>a4 11 e a λg=>ag (cr au) λi=>b4 11 i λj=>ay e 1 j λl=>c7 221 [g,l] e f λm n o=>ag (dz m 0) λp=>cJ [(ae 0),aS] n o λq r t=>ag (a7 r 2 q p) λaT=>ag (dz m 1) λv=>ag (d2 .not v) λw=>bJ w (F2 s K au a q (.bool true) aT t) (ay aT 0 d λy=>bT .neq 3 y (ae 0) (F2 s K au a q (.bool true) aT t) (ay aT 1 d λch=>ag (cr au) λbV=>b4 0 bV λbp=>ay aT 1 bp λcM=>bT .neq 3 ch cM (F2 s K au a q (.bool true) aT t) (ay aT 4 a λcP=>ag (cr au) λd0=>ay aT 25 d0 λeM=>cf .neq 3 cP eM λam=>(F2 s K au a q am aT t))))
theorem aj1:jl 134 aaf:=jA []
def yR(s:ak)(K:bD)(cu cR d3 Wm:X)(ap:ad)(aX:Nat):Prop:=bJ Wm (K (.bool false) ap aX) (ag (cr cu) λa=>b4 2 a λb=>ay ap 0 b λd=>ay ap 4 cR λf=>c7 225 [d,f] ap aX λg i j=>ag (cr cu) λk=>b4 40 k λl=>dc i l λm=>eX l m (b4 7 cR λn=>dc i n λo=>eX n o (ey (fU 2 [aS,aS] [(0,1,m),(1,1,o)]) i j λp q r=>c7 229 [g,p] q r λt aT v=>ag (dz t 0) λw=>ag (cr cu) λx=>b4 40 x λy=>ag (a7 aT 1 y w) λz=>ag (dz t 1) λbX=>ag (cr cu) λch=>ay z 41 ch λbp=>ay z 1 d3 λcM=>ag (pq Q 3 z bp cM (.bool true)) λbU=>ag (cr cu) λdj=>ay bU 41 dj λd0=>ag (xv bU d0) λdH=>ag (cr cu) λeM=>b4 7 eM λam=>ay bU 1 am λeR=>bT .eql 3 dH eR (ay bU 4 cR λhL=>bh s 230 [cu,hL] bU v λi7 hS hd=>K (.bool true) hS hd) (K (.bool true) bU v)) 1 [ap]) 1 [ap])
def aag:i6:=λs au t1 t2 h U K=>cK t1 h U λa b c=>cK t2 b c λd e f=>ag (cr au) λg=>b4 0 g λi=>ay e 1 i λk=>bT .neq 3 k (ae 0) (yR s K au a d (.bool true) e f) (ay e 0 d λn=>ag (cr au) λo=>b4 0 o λp=>ay e 0 p λr=>bT .neq 3 n r (yR s K au a d (.bool true) e f) (ag (cr au) λaT=>ay e 27 aT λw=>bT .neq 86 w (ae 0) (yR s K au a d (.bool true) e f) (ag (cr au) λy=>ay e 38 y λbX=>bJ bX (yR s K au a d (.bool true) e f) (ay e 4 a λbV=>ag (cr au) λbp=>ay e 26 bp λcM=>b3 cM λbU=>bT .neq 3 bV bU (yR s K au a d (.bool true) e f) (ag (cr au) λcP=>ay e 41 cP λdH=>ay e 1 d λam=>ag (lL Q e 3 (.bool false) false dH am) λan=>bJ an (yR s K au a d (.bool true) e f) (ay e 7 a λgM=>c7 228 [au,gM] e f λhC hL i7=>ag (d2 .not hC) λhS=>(yR s K au a d hS hL i7)))))))
theorem aj2:jl 135 aag:=jA []
def QN:aa (aa Nat):=[[0,9,74,75]]
def aah(s:ak)(a0 cH wt NL:X)(h:ad)(U:Nat)(N:aH)(aF:aH)(R:aH):Prop:=cq NL wt (c7 219 [a0,NL,(ae 0)] h U λb c d=>ag (cr a0) λe=>b4 42 e λf=>dc c f λg=>eX f g (ag (c8 [(ae 0),(ae 0),(ae 0),(ae 0),(ae 0),(ae 0),aS,aS,aS,(ae 0),(.bool false)] [(0,1,(ae 5)),(2,1,b),(4,1,g),(9,1,cH)]) λi=>c7 213 [a0,i] c d λj k l=>b3 NL λm=>N [a0,cH,wt,m] k l) 1 [h]) (aF [a0,cH,wt,NL] h U)
def C7(s:ak)(K:bD)(cu cR d3 Wn:X)(ap:ad)(aX:Nat):Prop:=bJ Wn (K (.bool false) ap aX) (ag (cr cu) λa=>ay ap 43 a λc=>ay ap 0 d3 λe=>a4 11 ap cR λf=>ag (pq Q 3 ap c e f) λg=>ag (cr cu) λi=>ay g 43 i λk=>ag (xv g k) λl=>ag (cr cu) λm=>b4 7 m λn=>ay g 0 n λp=>cq l p (K (.bool true) g aX) (bh s 231 [cu] g aX λr t aT=>ag (cr cu) λv=>b4 7 v λw=>ay t 0 w λy=>bq (bA Q s QN 136 0) [cu,r,y,(ae 0)] t aT [(0,λz bX ch=>ag (cr (aQ z 0)) λbV=>ay bX 43 bV λb2=>dB (dS (sV Q .clear [173] bX ch [b2])) λcM bU dj=>ag (cr (aQ z 0)) λcP=>ay bU 42 cP λdH=>b3 dH λeM=>ag (cr (aQ z 0)) λam=>b4 42 am λan=>ag (a7 bU 1 an eM) λeR=>cf .neq 86 (aQ z 1) (ae 0) λgM=>ag (cr (aQ z 0)) λhC=>b4 44 hC λhL=>ag (a7 eR 1 hL gM) λi7=>K (.bool true) i7 dj)] (λ_ _ _=>False)))
def ad9:i6:=λs au t1 t2 h U K=>cK t1 h U λa b c=>cK t2 b c λd e f=>ag (cr au) λg=>ay e 43 g λj=>ay e 0 d λl=>ag (lL Q e 3 (.agg #[(ae 0),(ae 0),(ae 0),(ae 0),(ae 0),(ae 0),aS,aS,aS,(ae 0),(.bool false)]) true j l) λm=>ag (dz m 0) λn=>cJ [(ae 0),(ae 0),(ae 0),(ae 0),(ae 0),(ae 0),aS,aS,aS,(ae 0),(.bool false)] e f λo p q=>ag (a7 p 11 o n) λr=>ag (dz m 1) λt=>bJ t (C7 s K au a d (.bool true) r q) (ag (cr au) λaT=>nH 2 r 0 aT λw=>ag (c8 [(ae 0),(ae 0)] []) λx=>bT .neq 162 w x (C7 s K au a d (.bool true) r q) (ag (cr au) λz=>ay r 44 z λch=>bJ ch (C7 s K au a d (.bool true) r q) (ay r 1 d λbp=>bT .neq 3 bp (ae 0) (C7 s K au a d (.bool true) r q) (ay r 4 a λbU=>ag (cr au) λdj=>ay r 42 dj λd0=>cf .neq 3 bU d0 λdH=>(C7 s K au a d dH r q)))))
theorem alX{s:ak}{A B:X}{h:ad}{U:Nat}{N R:aH}:bA Q s QN 136 0 [a0,cH,A,B] h U N [(0,aF)] R=aah s a0 cH A B h U N aF R:=by kernel_rfl
theorem apn:jl 136 ad9:=jA QN
def Kn(s:ak)(K:bD)(cu fl iu y74:X)(ap:ad)(aX:Nat):Prop:=bJ y74 (ag (cr cu) λa=>nH 5 ap 33 a λc=>ag (cr cu) λd=>b4 28 d λe=>ag (a7 ap 5 e c) λf=>ag (cr cu) λg=>b4 26 g λi=>ag (a7 f 1 i fl) λj=>bT .eql 86 iu (ae 0) (bh s 232 [cu] j aX λl m n=>K (.bool true) m n) (K (.bool true) j aX)) (bT .eql 86 iu (ae 0) (bh s 232 [cu] ap aX λp q r=>K (.bool true) q r) (K (.bool true) ap aX))
def wO(s:ak)(K:bD)(cu fl iu VM:X)(ap:ad)(aX:Nat):Prop:=bJ VM (K (.bool false) ap aX) (ag (cr cu) λa=>b4 38 a λb=>ag (a7 ap 1 b (.bool false)) λc=>ag (cr cu) λd=>b4 39 d λe=>ag (a7 c 1 e (.bool true)) λf=>ag (cr cu) λg=>b4 27 g λi=>ag (a7 f 1 i iu) λj=>kA fl (ae 0) (cf .neq 86 iu (ae 3) λl=>(Kn s K cu fl iu l j aX)) (Kn s K cu fl iu (.bool false) j aX))
def Ko(s:ak)(K:bD)(cu cR d3 fl:X)(ap:ad)(aX:Nat):Prop:=ay ap 9 cR λb=>ag (cr cu) λc=>b4 0 c λd=>ay ap 1 d λf=>bT .neq 3 f (ae 0) (wO s K cu fl b (.bool true) ap aX) (a4 2 ap d3 λi=>ag (c8 [(ae 0),(ae 0)] []) λj=>bT .neq 162 i j (wO s K cu fl b (.bool true) ap aX) (ag (cr cu) λl=>ay ap 38 l λn=>ag (d2 .not n) λo=>bJ o (wO s K cu fl b (.bool true) ap aX) (ag (cr cu) λp=>ay ap 27 p λr=>bT .neq 86 r (ae 0) (wO s K cu fl b (.bool true) ap aX) (ay ap 4 cR λv=>bT .neq 3 v fl (wO s K cu fl b (.bool true) ap aX) (bT .lss 86 b (ae 0) (wO s K cu fl b (.bool true) ap aX) (cf .gtr 86 b (ae 3) λy=>(wO s K cu fl b y ap aX)))))))
def aai:i6:=λs au t1 t2 h U K=>cK t1 h U λa b c=>cK t2 b c λd e f=>ag (cr au) λg=>ay e 39 g λj=>bJ j (ag (cr au) λk=>ay e 26 k λm=>b3 m λn=>(Ko s K au a d n e f)) (Ko s K au a d (ae 0) e f)
theorem aj3:jl 137 aai:=jA []
def P3:aa (aa Nat):=[[0,4,5,8,9,10]]
def Y6(s:ak)(a0 aV bl bo cH cZ:X)(h:ad)(U:Nat)(N:aH)(aF:aH)(R:aH):Prop:=cq cZ cH (hq 3 h 3 bo cZ λc=>cJ [(ae 0),(ae 0),(.int .u64 0)] h U λd e f=>ag (a7 e 3 d c) λg=>ay g 0 d λj=>bT .leq 3 j bl (R [a0,(.bool false),bl,bo,cH,cZ] g f) (ay g 0 d λm=>ag (cr a0) λn=>b4 11 n λo=>ay g 0 o λq=>bT .geq 3 m q (R [a0,(.bool false),bl,bo,cH,cZ] g f) (ay g 0 d λaT=>b3 cZ λv=>N [a0,aV,aT,bo,cH,v] g f))) (aF [a0,aV,bl,bo,cH,cZ] h U)
def ab3:fH:=λs au t1 h U K=>cQ t1 λa=>bq (bA Q s P3 228 0) [au,(.bool false),(ae (-1)),t1,a,(ae 0)] h U [(0,λb c d=>K (.bool true) c d)] (λe f g=>K (aQ e 1) f g)
theorem aj4{s:ak}{B D E A:X}{h:ad}{U:Nat}{N R:aH}:bA Q s P3 228 0 [a0,B,D,E,cH,A] h U N [(0,aF)] R=Y6 s a0 B D E cH A h U N aF R:=by kernel_rfl
theorem alY:fR 228 ab3:=fX P3
def P4:aa (aa Nat):=[[0,2,23,24]]
def Y7(s:ak)(a0 a2 jB fi:X)(h:ad)(U:Nat)(N:aH)(aF:aH)(R:aH):Prop:=cq fi jB (a4 2 h a2 λb=>ag (cr a0) λc=>b4 2 c λd=>ay h 1 d λf=>ag (cr a0) λg=>b4 7 g λi=>ay h 0 i λk=>ag (cr a0) λl=>b4 7 l λm=>ay h 1 m λo=>ag (cr a0) λp=>b4 0 p λq=>ay h 0 q λt=>c7 338 [b,f,k,o,t,fi] h U λaT v w=>cJ [(ae 0),aS] v w λx y z=>ag (a7 y 2 x aT) λbX=>ag (cr a0) λch=>ay bX 26 ch λbp=>b3 bp λb2=>a4 2 bX x λcM=>ag (c8 [(ae 0),(ae 0),(ae 0),(ae 0),(ae 0),(ae 0),aS,aS,aS,(ae 0),(.bool false)] [(0,1,(ae 1)),(2,1,fi),(4,1,b2),(5,2,cM)]) λbU=>c7 213 [a0,bU] bX z λdj cP d0=>b3 fi λdH=>N [a0,a2,jB,dH] cP d0) (aF [a0,a2,jB,fi] h U)
def ab4:fw:=λs au h U K=>ag (cr au) λa=>nH 5 h 2 a λc=>ag (cr au) λd=>nH 5 h 28 d λf=>ag (cr au) λg=>ay h 26 g λj=>b3 j λk=>c7 337 [c,f,k] h U λl m n=>cJ [(ae 0),aS] m n λo p q=>ag (a7 p 2 o l) λr=>ag (cr au) λt=>b4 7 t λaT=>ay r 1 aT λw=>bq (bA Q s P4 232 0) [au,o,w,(ae 0)] r q [(0,λx y z=>ag (cr (aQ x 0)) λbX=>ay y 41 bX λbV=>dB (dS (sV Q .clear [172] y z [bV])) λbp b2 cM=>ag (cr (aQ x 0)) λbU=>b4 40 bU λdj=>ag (a7 b2 1 dj aS) λcP=>K (.tuple ⟨[]⟩) cP cM)] (λ_ _ _=>False)
theorem aj5{s:ak}{B A fi:X}{h:ad}{U:Nat}{N R:aH}:bA Q s P4 232 0 [a0,B,A,fi] h U N [(0,aF)] R=Y7 s a0 B A fi h U N aF R:=by kernel_rfl
theorem alZ:fG 232 ab4:=fO P4
section
variable {aA:Type} {h:ad} {enc:aA->aa X} {k:Nat} {v:X} {x:aA} {l:aa aA} {o:av Nat}
theorem fb.tail(hk:∀x,(enc x).length=k)(EE:0<k)(g:fb h enc k v (x::l) o):∃b A K cs E B,v = .slice (some ⟨b,A,K⟩) (l.length+1) (l.length+1)/\o=some b/\u h b=some (.cells cs E)/\(cs.drop A).take k=enc x/\A+k<=cs.length /\
  iY k v (some (.int .i64 1)) (some (((l.length+1:Nat):X))) (some (((l.length+1:Nat):X))) = .ok B/\fb h enc k B l (some b):=by
 have M:∀(b A:Nat) (K:av Nat) (cs:aa X) (E:ak),xL (some ⟨b,A,K⟩)=false->u h b=some (.cells cs E)->A+(l.length+1)*k<=cs.length->(cs.drop A).take ((l.length+1)*k)=a1 enc (x::l) ->
   (cs.drop A).take k=enc x/\A+k<=cs.length/\∃B,iY k (.slice (some ⟨b,A,K⟩) (l.length+1) (l.length+1)) (some (.int .i64 1)) (some (((l.length+1:Nat):X))) (some (((l.length+1:Nat):X))) = .ok B/\fb h enc k B l (some b):=λb A K cs E cX D V I=>by
  have aY:(l.length+1)*k=l.length*k+k:=ab
  rw[aY]at V I;refine⟨?_,J,_,agb J J cX,?_⟩
  ·have:=congrArg (List.take k) I;rw[List.take_take,CR J]at this;rw[this];show(enc x++a1 enc l).take k=_
   grind
  ·show fb h enc k (.slice (some ⟨b,if l.length+1=1 then A else A+k,none⟩) (l.length+1-1) (l.length+1-1)) l (some b);rw[show l.length+1-1=l.length by omega]
   by_cases ap:l.length+1=1
   ·rw[if_pos ap];have:l=[]:=ab
    subst this;exact fb.part D J (by simp[a1])
   ·rw[if_neg ap];refine fb.part D (by omega) ?_;rw[<-yK];have:=congrArg (List.drop k) I;rw[FM,show l.length*k+k-k=l.length*k by omega]at this;rw[this];show(enc x++a1 enc l).drop k=_
    grind
 cases g with
 | @own b _ D =>
  have cX:xL (some ⟨b,0,some k⟩)=false:=by
   cases k with
   |zero=>omega
   |succ k=>rfl
  have V:=ga hk (x::l);obtain⟨h1,al,B,aM,bc⟩:=M b 0 (some k) _ _ cX D ab ab;exact⟨b,0,some k,_,_,B,rfl,rfl,D,h1,al,aM,bc⟩
 | @part b o _ cs E D V I =>
  obtain⟨h1,al,B,aM,bc⟩:=M b o none _ _ rfl D V I;exact⟨b,o,none,_,_,B,rfl,rfl,D,h1,al,aM,bc⟩
end
structure k0 where
 kind:Int
 e5:Int
 md:Int
 round:Int
 mr:Int
 mq:aa (Nat × Int)
 oh:aa (Nat × Int)
 n:Int
 oO:ak
structure nl (h:ad) (U:Nat) (f:eE) (p:k0):Prop where
 kind:f.kind=p.kind
 e5:f.e5=p.e5
 md:f.md=p.md
 round:f.round=p.round
 mr:f.mr=p.mr
 qK:eu h U (.slice f.bf f.n6 f.hD) fV 2 p.mq
 sL:eu h U (.slice f.aZ f.n7 f.jm) eA 3 p.oh
 n8:f.n8=0
 n:f.n=p.n
 oO:f.oO=p.oO
section
variable {h ac:ad} {U Y ao ai:Nat} {f:eE} {p:k0}
theorem nl.T(H:nl h U f p)(B:az U h ac)(A:U<=Y):nl ac Y f p:={ H with qK:=H.qK.T B A,sL:=H.sL.T B A }
theorem nl.sub(H:nl h U f p)(S:lx h ac):nl ac U f p:={ H with qK:=H.qK.sub S,sL:=H.sL.sub S }
structure lX (h:ad) (ao ai:Nat) (f:eE) (p:k0):Prop where
 is:nl h ai f p
 hD:i4 h ao ai (.slice f.bf f.n6 f.hD) fV 2 p.mq
 jm:i4 h ao ai (.slice f.aZ f.n7 f.jm) eA 3 p.oh
theorem lX.T{ed da:Nat}(H:lX h ao ai f p)(B:∀b,ao<=b->b<ai->u ac b=u h b)(A:ed<=ao)(D:ai<=da):lX ac ed da f p where
 is:={ H.is with qK:=cN.o   (λ_=>rfl) (H.hD.T B A D).gI.rd,sL:=cN.o   (λ_=>rfl) (H.jm.T B A D).gI.rd }
 hD:=H.hD.T B A D
 jm:=H.jm.T B A D
def ra(h:ad)(U:Nat):aa eE->aa k0->Prop
 | [],[]=>True
 |f::ds,p::bW=>nl h U f p/\ra h U ds bW
 |_,_=>False
theorem ra.T(B:az U h ac)(A:U<=Y):∀{ds bW},ra h U ds bW->ra ac Y ds bW
 | [],[],_=>trivial
 |_::_,_::_,H=>⟨H.1.T B A,ra.T B A H.2⟩
 | [],_::_,H=>H.elim
 |_::_,[],H=>H.elim
theorem ra.app:∀{ds bW gs JB},ra h U ds bW->ra h U gs JB->ra h U (ds++gs) (bW++JB)
 | [],[],_,_,_,G=>G
 |_::_,_::_,_,_,H,G=>⟨H.1,ra.app H.2 G⟩
 | [],_::_,_,_,H,_=>H.elim
 |_::_,[],_,_,H,_=>H.elim
theorem ra.len:∀{ds bW},ra h U ds bW->ds.length=bW.length
 | [],[],_=>rfl
 |_::_,_::_,H=>by rw[nM,nM,ra.len H.2]
 | [],_::_,H=>H.elim
 |_::_,[],H=>H.elim
end
theorem Y8{s:ak}{h:ad}{U:Nat}{v:X}{l:aa (Nat × Int)}(D:eu h U v eA 3 l)(I:l.length<10000):
  aD Q s 218 [v] h U (λr ac Y=>i4 ac U Y r eA 3 l/\az U h ac/\U<=Y):=by refine bS ?_;exact adU (K:=λr ac Y=>i4 ac U Y r eA 3 l/\az U h ac/\U<=Y) D (λ_=>rfl) J J ahQ λr ac Y E A B=>⟨E,A,B⟩
theorem asN{s:ak}{h:ad}{U:Nat}{f:eE}{p:k0}(A:nl h U f p)(b9:p.mq.length<10000)(dL:p.oh.length<10000):
  aD Q s 129 [.agg ⟨ef f⟩] h U (λr ac Y=>∃mo,r = .agg ⟨ef mo⟩/\lX ac U Y mo p/\az U h ac/\U<=Y):=by
 refine bS ?_;have bF:∀{o aW},az U h (F (F h U o) (U+1) aW):=aC
 unfold ef;refine aB ?_;refine(CX (A.qK.T  bF J) b9).mono ?_;rintro Ae br a6 ⟨M,D,K⟩;refine⟨K,?_⟩;have V:=(D U J).trans ((aq J).trans (aN _ _ _));have c4:=(D (U+1) J).trans (aN _ _ _);have cD:=bF.trans D J;simp(disch:=omega)only[bd,V,fZ,seval];refine(Y8 (A.sL.T  cD J) dL).mono ?_;rintro Xq g2 bH ⟨I,E,B⟩;refine⟨B,?_⟩;have fu:=(E U J).trans V;have dJ:=(E (U+1) J).trans c4;obtain⟨bf,hD,rfl⟩:=M.form;obtain⟨aZ,jm,rfl⟩:=I.form;refine cx @fu @dJ ?_;have JC:=M.T  (ed:=U+2)  (λb h1 al=>E b al) J B;have JD:=I.T (ac:=g2)  (da:=bH) ab J J;have e:lX g2 (U+2) bH { f with bf:=bf,n6:=p.mq.length,hD:=hD,aZ:=aZ,n7:=p.oh.length,jm:=jm } p :=
  ⟨⟨A.kind,A.e5,A.md,A.round,A.mr,cN.o   (λ_=>rfl) JC.gI.rd,cN.o   (λ_=>rfl) JD.gI.rd,A.n8,A.n,A.oO⟩,JC,JD⟩
 exact⟨_,rfl,e.T ab J J,aC,J⟩
structure e0 (h:ad) (U aK:Nat) (c:Nat->X) (i j C:Nat) (l:aa eE) (aP:av Nat):Prop where
 at_:u h aK=some (.cells (dt c) false)
 lt:aK<U
 h0:1<=C
 m7:C<=8
 i8:i<8
 wD:j<C
 mm:c 0 = (i:X)
 c1:c 1 = (j:X)
 hE:c 8 = (C:X)
 out:fb h ef 11 (c 22) l aP
 aP:∀b,aP=some b->b≠aK/\b<U
section
variable {s:ak} {h ac:ad} {U Y aK i j C:Nat} {c bL:Nat->X} {l:aa eE} {aP:av Nat}
theorem e0.set(W:e0 h U aK c i j C l aP)(E:u ac aK=some (.cells (dt bL) false))(D:bL 0=c 0)(M:bL 1=c 1)(B:bL 8=c 8)(A:bL 22=c 22)(K:∀b,aP=some b->u ac b=u h b)(I:U<=Y):e0 ac Y aK bL i j C l aP where
 at_:=E
 lt:=by have:=W.lt;omega
 h0:=W.h0
 m7:=W.m7
 i8:=W.i8
 wD:=W.wD
 mm:=D.trans W.mm
 c1:=M.trans W.c1
 hE:=B.trans W.hE
 out:=by rw[A];exact W.out.T K
 aP:=λb e=>by have:=W.aP b e;omega
theorem e0.T(W:e0 h U aK c i j C l aP)(B:∀b,b=aK\/aP=some b->u ac b=u h b)(A:U<=Y):e0 ac Y aK c i j C l aP :=
 W.set ((B aK (.inl rfl)).trans W.at_) rfl rfl rfl rfl ab A
theorem GF(W:e0 h U aK c i j C l aP)(bg:l.length<900)(f:eE):
  aD Q s 213 [bb aK,.agg ⟨ef f⟩] h U (λr ac Y=>r = .tuple ⟨[]⟩/\∃V E,e0 ac Y aK (hK c 22 V) i j C (l++[{ f with e5:=((i*C+j:Nat):Int) }]) (some E)/\U<=E/\(∀d,d<U->d≠aK->aP≠some d->u ac d=u h d)/\U<=Y):=by
 refine bS ?_;have K:=W.lt;have A:∀{o},u (F h U o) aK=some (.cells (dt c) false):=λ{o}=>by rw[aq J];exact W.at_
 obtain⟨eR,no,co,gY⟩:∃a n bL,c 22 = .slice a n bL:=by
  have:=W.out;generalize c 22=v at this;cases this <;> grind
 unfold ef;refine zp @A W.mm W.c1 ?_;refine(Gh A W.h0 W.m7 W.i8 W.wD W.hE).f4 ?_;refine zp @A W.at_ @ar9 ?_;refine y6  (k:=11) (λ_=>rfl) (λ_=>rfl) J (W.out.T λb e=>?_) ({ f with e5:=((i*C+j:Nat):Int) }) (aN _ _ _) rfl J λI D B=>?_
 ·have:=W.aP b e
  grind
 have M:u I aK=some (.cells (dt c) false):=(B aK J (λe=>(W.aP aK e).1 rfl)).trans ab;refine HF @M ?_;refine⟨J,_,U+2,⟨aN _ _ _,J,W.h0,W.m7,W.i8,W.wD,W.mm,W.c1,W.hE,?_,λb e=>?_⟩,J,ab,J⟩
 ·have:=fb.own  (k:=11) D;rw[jb]at this;rw[zo];exact this.T ab
 grind
end
section
variable {s:ak} {h ac:ad} {U Y aK i j C low m N:Nat} {c bL:Nat->X} {l:aa eE} {aP:av Nat} {k src len round:Int} {bt:aa Int} {S:jL}
theorem Y9(W:e0 h U aK c i j C l aP)(bg:l.length<900)(P:p3 h U (c 6) k src len N bt)(aJ:c 2 = (k:X))(ce:c 3 = (N:X))(eC:c 4 = (src:X))(gP:c 5 = (len:X))
  (ar:jK h U (.agg ⟨[c 33,c 34,c 35,c 36,c 37]⟩) low m S) (qz:low+m<=N):
  aD Q s 127 [bb aK,(round:X),.bool false] h U (λr ac Y=>r = .tuple ⟨[]⟩/\∃dG ck,e0 ac Y aK (hK (hK c 38 (.bool true)) 22 dG) i j C (l++[DK ((i*C+j:Nat):Int) round (q9 k len round m (cF m λi=>S.A (low+i)) (λi=>S.q (low+i)):Int) false]) (some ck)/\U<=ck/\(∀d,d<U->d≠aK->aP≠some d->u ac d=u h d)/\U<=Y):=by
 refine bS ?_;obtain⟨bf,hD,nG,_⟩:=id P.d;have M:=ar;obtain⟨cY,fJ,ei,g9,fE,gJ,gq⟩:=ar;obtain⟨fk,fv,rfl,_⟩:=id fE;obtain⟨gH,fF,rfl,_⟩:=id gJ;obtain⟨lg,ir,rfl,_⟩:=id gq;simp only[Value.agg.injEq,wJ,vm,iy]at g9;obtain⟨V,B,D,NM,I⟩:=g9;have bF:∀{o aW},az U h (F (F h U o) U aW):=aC
 have ci:=W.lt;have K:∀{o aW},u (F (F h U o) U aW) aK=some (.cells (dt c) false):=λ{o aW}=>(bF aK ci).trans W.at_;simp(disch:=omega)only[bd,ia,K,aJ,ce,eC,gP,nG,V,B,D,NM,I,seval];rw[V,B,D,NM,I]at M;have bu:=P.d;rw[nG]at bu;refine(ar8 (bu.T  bF J) P.pl (by have:=P.n60;omega) J (by have:=P.n60;omega) (hP.T M  bF J) (jq _ _) (jq _ _)).b0 λh1 a6 A E=>?_;have b7:=(A U J).trans (aN _ _ _);have Ai:=(A aK J).trans K;refine vT @b7 @Ai ?_;have ex:∀{o aW} d,d<U->d≠aK->u (F (F h1 U o) aK aW) d=u h d:=λd bu al=>by rw[aq al,aq J,A d J];grind
 refine⟨E,(GF (W.set (bL:=hK c 38 (.bool true))  ab rfl rfl rfl rfl (λb e=>by have:=W.aP b e;grind) J) bg (DK 0 round (q9 k len round m (cF m λi=>S.A (low+i)) (λi=>S.q (low+i)):Int) false)).mono ?_⟩;rintro _ aM bR ⟨rfl,dG,ck,rD,aG,uJ,hr⟩;exact⟨dG,ck,rD,J,ab,J⟩
theorem Ek:w0 Q 83=true:=by kernel_rfl
theorem QO(W:e0 h U aK c i j C l aP):aD Q s 65 [bb aK] h U (fm (l.length:X) U h):=by refine bS ?_;have:=W.out.lens;simp(disch:=omega)only[bd,ia,pX Ek,W.at_,this,seval];exact⟨rfl,rfl,rfl⟩
theorem Za(W:e0 h U aK c i j C l aP)(e:c 27 = (y:X)):aD Q s 67 [bb aK] h U (fm (y:X) U h):=by refine bS ?_;simp(disch:=omega)only[bd,ia,pX Ek,W.at_,e,seval];exact⟨rfl,rfl,rfl⟩
theorem al2(W:e0 h U aK c i j C l aP)(e:c 26 = (y:X)):aD Q s 68 [bb aK] h U (fm (y:X) U h):=by refine bS ?_;simp(disch:=omega)only[bd,ia,pX Ek,W.at_,e,seval];exact⟨rfl,rfl,rfl⟩
theorem aj6(W:e0 h U aK c i j C l aP):aD Q s 130 [bb aK] h U (fm (((i*C+j:Nat):X)) U h):=by refine bS ?_;simp(disch:=omega)only[bd,ia,pX Ek,W.at_,W.mm,W.c1,seval];exact(Gh W.at_ W.h0 W.m7 W.i8 W.wD W.hE).f4 ⟨J,rfl,rfl,rfl⟩
theorem apo{f:eE}{p:k0}(W:e0 h U aK c i j C l aP)(e:l=f::cc)(bx:nl h U f p)(b9:p.mq.length<10000)(dL:p.oh.length<10000):
  aD Q s 61 [bb aK] h U (λr ac Y=>∃A,r = .tuple ⟨[.agg ⟨ef A⟩,.bool true]⟩/\lX ac U Y A p/\az U h ac/\U<=Y):=by
 subst e;refine bS ?_;have M:∀{o},az U h (F h U o):=aC
 obtain⟨b,D,aO,cs,bC,dG,ej,gY,a5,aU,je,_,_⟩:=fb.tail (k:=11) (λ_=>rfl) J W.out;have aG:=W.aP b gY;have ci:=W.lt;have I:∀{o},e0 (F h U o) (U+1) aK c i j C (f::cc) aP:=λ{o}=>W.T ab J;refine aB ?_;refine(QO I).f4 ?_;have E:hF (some 11) D cs = .ok (.agg ⟨ef f⟩):=by rw[qR,if_pos J,aU]
 have V:((((f::cc).length:Nat):Int) == 0)=false:=ab
 simp(disch:=omega)only[bd,ia,V,λo=>(I ).at_,ej,M b aG.2,a5,E,seval];refine(asN (bx.T M J) b9 dL).mono ?_;rintro _ br a6 ⟨A,rfl,d5,B,K⟩;have q:=(B U J).trans (aN _ _ _);unfold ef;refine a9 @q ?_;exact⟨A,rfl,d5.T ab J J,aC,J⟩
theorem apq{f:eE}(W:e0 h U aK c i j C l aP)(e:l=f::cc):
  aD Q s 62 [bb aK] h U (λr ac Y=>r = .tuple ⟨[]⟩/\∃A,e0 ac Y aK (hK c 22 A) i j C cc aP/\(∀d,d≠aK->u ac d=u h d)/\Y=U):=by
 subst e;refine bS ?_;obtain⟨b,K,aO,cs,V,A,ej,rfl,a5,aU,I,E,D⟩:=fb.tail (k:=11) (λ_=>rfl) J W.out;have aG:=W.aP b rfl;refine(QO W).f4 ?_;rw[nM];rw[ej]at E;have M:(0:Int)<((cc.length+1:Nat):Int):=J
 refine Bg @M W.at_ @ej @E ?_;have B:c5 A=[A]/\hv A=true:=D.cell;refine HF @B ?_;exact⟨⟨A,⟨ab,W.lt,W.h0,W.m7,W.i8,W.wD,W.mm,W.c1,W.hE,D.T ab,ab⟩,ab⟩,λh=>absurd trivial h⟩
end
structure b5 where
 k:Int
 src:Int
 len:Int
 N:Nat
 R:Nat
 C:Nat
 lim:Nat
 bt:aa Int
 af:aa GE
structure gj (Z:b5):Prop where
 gF:Z.k=1\/Z.k=2\/Z.k=3\/Z.k=5
 n60:Z.N<=60
 mu:1<=Z.R
 ot:Z.R<=8
 h0:1<=Z.C
 m7:Z.C<=8
 lim:Z.lim<900
 dok:Ua Z.bt
 pl:gR Z.k Z.N Z.src Z.len Z.bt=0
 M:hJ Z.N Z.N Z.af
 w:∀g∈Z.af,0<=g.w/\g.w<=2147483647
def b5.bB(Z:b5)(i:Nat):Nat:=c6 Z.N Z.R i
def b5.lc(Z:b5)(j:Nat):Nat:=c6 Z.N Z.C j
def b5.H(Z:b5)(i:Nat):Nat:=Z.bB (i+1)-Z.bB i
def b5.W(Z:b5)(j:Nat):Nat:=Z.lc (j+1)-Z.lc j
def b5.cut(Z:b5)(i j:Nat):aa GE:=ma Z.af (Z.bB i) (Z.H i) (Z.lc j) (Z.W j)
structure kv (g:ad) (U:Nat) (c:Nat->X) (Z:b5) (i j:Nat):Prop where
 aJ:c 2 = (Z.k:X)
 ce:c 3 = (Z.N:X)
 eC:c 4 = (Z.src:X)
 gP:c 5 = (Z.len:X)
 d:cN g U (c 6) cG Z.bt
 gO:c 7 = (Z.R:X)
 jj:c 9 = (Z.lim:X)
 NN:∃a cap,c 10 = .slice a 0 cap
 rows:kI g U (.agg ⟨[c 11,c 12,c 13,c 14,c 15]⟩) (Z.H i) (Z.W j) (Z.cut i j)
 mF:∃fr,A6 (Z.cut i j) fr/\hJ (Z.W j) (Z.H i) fr/\nk g U (.agg ⟨[c 16,c 17,c 18,c 19,c 20,c 21]⟩) (Z.H i) (Z.W j) fr
section
variable {s:ak} {g cb h ac:ad} {U Y aK i j:Nat} {c bL:Nat->X} {l:aa eE} {aP:av Nat} {Z:b5}
theorem kv.set(H:kv g U c Z i j)(A:∀n,2<=n->n<22->bL n=c n):kv g U bL Z i j:=by
 refine⟨?_,?_,?_,?_,?_,?_,?_,?_,?_,?_⟩
 ·rw[A 2 J J];exact H.aJ
 ·rw[A 3 J J];exact H.ce
 ·rw[A 4 J J];exact H.eC
 ·rw[A 5 J J];exact H.gP
 ·rw[A 6 J J];exact H.d
 ·rw[A 7 J J];exact H.gO
 ·rw[A 9 J J];exact H.jj
 ·rw[A 10 J J];exact H.NN
 ·rw[A 11 J J,A 12 J J,A 13 J J,A 14 J J,A 15 J J];exact H.rows
 ·rw[A 16 J J,A 17 J J,A 18 J J,A 19 J J,A 20 J J,A 21 J J];exact H.mF
theorem kv.T(H:kv g U c Z i j)(B:az U g cb)(A:U<=Y):kv cb Y c Z i j :=
 { H with d:=H.d.T B A,rows:=H.rows.T B A,mF:=by obtain⟨fr,a,b,d⟩:=H.mF;exact⟨fr,a,b,d.T B A⟩ }
theorem kv.sub(H:kv g U c Z i j)(S:lx g h):kv h U c Z i j :=
 { H with d:=vU H.d S,rows:=H.rows.sub S,mF:=by obtain⟨fr,a,b,d⟩:=H.mF;exact⟨fr,a,b,d.sub S⟩ }
theorem kv.lv(H:kv g U c Z i j)(K:gj Z):p3 g U (c 6) Z.k Z.src Z.len Z.N Z.bt:=⟨H.d,K.dok,K.n60,K.pl,K.gF⟩
theorem zq(K:gj Z)(i:Nat):Z.bB i<=Z.bB (i+1)/\Z.bB (i+1)<=Z.N:=⟨vv J,ua K.mu _⟩
theorem D1(K:gj Z)(j:Nat):Z.lc j<=Z.lc (j+1)/\Z.lc (j+1)<=Z.N:=⟨vv J,ua K.h0 _⟩
def b5.cl(Z:b5)(i j:Nat):Nat:=jZ (Z.bB i) (Z.lc j) (Z.lc (j+1))
theorem al3(W:e0 h U aK c i j Z.C l aP)(H:kv h U c Z i j)(K:gj Z)(M:a<Z.R):
  aD Q s 222 [bb aK,(a:X)] h U (fm (((Z.cl (a+1) j-Z.cl a j:Nat):X)) U h):=by
 refine bS ?_;have bm:=K.n60;have B:=K.ot;have A:=K.m7;have V:=W.wD;have D:IntKind.wrap .i64 ((a:Int)+1)=((a+1:Nat):Int):=cn J;have E:IntKind.wrap .i64 ((j:Int)+1)=((j+1:Nat):Int):=cn J;refine zp W.at_ H.ce H.gO ?_;refine(vE J J B J).f4 ⟨J,?_⟩;refine zp W.at_ W.hE W.c1 ?_;refine(vE J J A J).f4 ⟨J,?_⟩;refine zp W.at_ H.gO @D ?_;refine(vE J J B J).f4 ⟨J,?_⟩;refine Bg W.at_ W.hE W.c1 @E ?_;refine(vE J J A J).f4 ⟨J,?_⟩;have h1:=zq K a;have I:=D1 K j;unfold b5.cl jZ b5.bB b5.lc at *
 generalize c6 Z.N Z.R a=JE at *
 generalize c6 Z.N Z.R (a+1)=Xp at *
 generalize c6 Z.N Z.C j=yu at *
 generalize c6 Z.N Z.C (j+1)=Jv at *
 refine aB ?_;rw[jI J J];exact⟨ab,rfl,rfl⟩
theorem aj7{t:Int}(W:e0 h U aK c i j Z.C l aP)(A:∃a cap,c 10 = .slice a 0 cap):aD Q s 224 [bb aK,(t:X)] h U (cI (.agg ⟨[.int .i64 0,.int .i64 0]⟩) U h):=by
 refine bS ?_;have D:∀{o},az U h (F h U o):=aC
 have B:∀{o},u (F h U o) aK=some (.cells (dt c) false):=λ{o}=>(D aK W.lt).trans W.at_;obtain⟨a,cap,e⟩:=A;refine awK @B @e ?_;exact⟨λ_=>⟨rfl,aC,J⟩,λh=>absurd h (by decide)⟩
theorem Zb{f:eE}{p:k0}{x:Nat->av Int}(K:nl h U f p)(bg:p.mq=bn n x)(aI:p.mr=(n:Int))(bm:n<=60):
  aD Q s 221 [.agg ⟨ef f⟩,(n:X)] h U (λr ac Y=>∃v,r = .tuple ⟨[v,.bool true]⟩/\qd ac U Y v n x/\az U h ac/\U<=Y):=by
 refine bS ?_;have bF:∀{o aW},az U h (F (F h U o) (U+1) aW):=aC
 unfold ef;refine aB ?_;have M:=K.qK;rw[bg]at M;have V:=my n x;refine(CX (M.T  bF J) J).mono ?_;rintro Ae br a6 ⟨D,B,I⟩;refine⟨I,?_⟩;have iH:=(B U J).trans ((aq J).trans (aN _ _ _));have c4:=(B (U+1) J).trans (aN _ _ _);have cD:=bF.trans B J;obtain⟨bf,hD,rfl⟩:=D.form;simp(disch:=omega)only[bd,iH,fZ,K.mr,aI,seval];refine(wS   ⟨_,rfl,cN.o   (λ_=>rfl) (D.T (ed:=0)  ab J J).gI.rd⟩ J).b0 λg2 bH A E=>⟨E,?_⟩
 have fu:=(A a6 J).trans (aN _ _ _);have dJ:=(A (U+1) J).trans ((aq J).trans ((aq J).trans c4));have hp:((n:Int) == (n:Int))=true:=ab
 simp(disch:=omega)only[bd,fu,dJ,fZ,hp,seval];refine⟨_,rfl,⟨_,rfl,D.T (λb h1 al=>?_) J J⟩,λb aG=>?_,J⟩
 ·rw[aq J,A b J,aq J,aq J]
 ·rw[aq J,A b J,aq J,aq J];exact cD b aG
end
section
variable {s:ak} {g cb h ac:ad} {U Y aK i j:Nat} {c bL:Nat->X} {l:aa eE} {aP:av Nat} {Z:b5}
theorem kv.c11(H:kv h U c Z i j):c 11 = .int .i64 (Z.H i:Int):=by
 obtain⟨b,D,cap,B,A,e,_⟩:=H.rows
 grind
theorem aj8{v:X}(bN:u h aK=some (.cells (dt c) false))(K:aK<U)(e:c 11 = (n:X))(aI:eu h U v eA 3 L)(eJ:L.length<100000)(eb:L.Pairwise λa b=>a.1<b.1)(bm:∀p∈L,p.1<n):
  aD Q s 228 [bb aK,v] h U (cI (.bool true) U h):=by
 refine alY ?_;unfold ab3;obtain⟨bp,cap,rfl,_⟩:=id aI;refine aB ?_;refine bq.mk (λm aE ac Y=>∃k last,m=L.length-k/\k<=L.length/\aE=[bb aK,.bool false,.int .i64 last,.slice bp L.length cap,(L.length:X),(k:X)]/\(∀p∈L.drop k,last<(p.1:Int))/\az U h ac/\U<=Y) L.length ⟨0,-1,J,J,rfl,J,aC,J⟩ ?_;rintro _ _ al bH ⟨k,last,rfl,hk,rfl,UF,A,B⟩;rw[aj4];unfold Y6;refine aB ?_;refine⟨λEj=>?_,λeh=>⟨rfl,A,B⟩⟩;obtain⟨p,bv⟩:=dk   J;obtain⟨b,aW,aO,bC,qg,oJ,aG,aY,a5,D⟩:=(aI.T A B).ld (λ_=>rfl) bv;cases aY;have bu:L.drop k=p::L.drop (k+1):=by
  have E:k<L.length:=J
  rw[Am E]
  grind
 have h1:=UF p ab;have I:=bm p (jp bv);have V:∀{o aW},u (F (F al bH o) bH aW) aK=some (.cells (dt c) false):=λ{o aW}=>by rw[aq J,aq J];exact(A aK K).trans bN
 rw[show eA p=[(p.1:X),.int .i64 (p.2 / 18446744073709551616),.int .u64 (p.2 % 18446744073709551616)]from rfl]at D;refine L9 @a5 @D @V @e (cn (J:k<1000000000000)) ?_;refine⟨λh=>absurd h1 J,λ_=>⟨λh=>absurd I J,λ_=>⟨_,J,k+1,(p.1:Int),rfl,J,rfl,λq cz=>?_,aC,J⟩⟩⟩;have M:(L.drop k).Pairwise λa b=>a.1<b.1:=ab
 rw[bu,vj]at M
 grind
end
theorem apr{s:ak}{f:Int}{v:X}{x:Nat->av Int}{h:ad}{U:Nat}(aI:kn h U v n x)(bm:n<=63):aD Q s 226 [(f:X),v] h U (λr ac Y=>xb ac Y r n x/\az U h ac/\U<=Y):=by
 refine aq3 ?_;have E:=aI;have gA:=my n x;obtain⟨gW,rfl,ar⟩:=aI;obtain⟨cP,ke,rfl,_⟩:=id ar;have bF:∀{o d9},az U h (F (F h U o) (U+1) d9):=aC
 unfold ae1;refine aB ?_;refine(wS (E.T  bF J) J).b0 λbr a6 D fp=>?_;have I:=(D U J).trans ((aq J).trans (aN _ _ _));have c4:=(D (U+1) J).trans (aN _ _ _);have cD:=bF.trans D J;unfold Qq;refine a9 @I ?_;refine(alR  J).mono ?_;rintro w _ _ ⟨bN,gG,eL⟩;rw[gG,eL];rcases bN with rfl|rfl
 ·refine a9 @I ?_;refine(CX (ar.T  cD J) J).mono ?_;rintro eG g2 bH ⟨M,A,B⟩;refine⟨B,?_⟩;have fu:=(A U J).trans I;have K:=(A (U+1) J).trans c4;obtain⟨bV,ge,rfl⟩:=M.form;simp(disch:=omega)only[bd,fu,K,I,fZ,seval];exact⟨.inl ⟨_,rfl,cN.o   (λ_=>rfl) (M.T  ab J J).gI.rd⟩,aC,J⟩
 ·refine a9 @I ?_;refine(afF (E.T  cD J) bm).mono ?_;rintro ew g2 bH ⟨Cy,A,B⟩;have K:=(A (U+1) J).trans c4;obtain⟨ei,cY,rfl,V,fF⟩:=Cy;obtain⟨eR,co,rfl,_⟩:=id V;obtain⟨bX,qE,rfl,_⟩:=id fF;refine a9 @K ?_;exact⟨.inr ⟨_,_,rfl,(V.T  ab J J).rd,cN.o (λ_=>rfl) (fF.T  ab J J).rd⟩,aC,J⟩
structure tE (h:ad) (ao ai:Nat) (f:eE) (p:k0):Prop where
 kind:f.kind=p.kind
 e5:f.e5=p.e5
 md:f.md=p.md
 round:f.round=p.round
 mr:f.mr=p.mr
 qK:eZ h ao ai (.slice f.bf f.n6 f.hD) fV p.mq
 sL:eZ h ao ai (.slice f.aZ f.n7 f.jm) eA p.oh
 n8:f.n8=0
 n:f.n=p.n
 oO:f.oO=p.oO
section
variable {h ac:ad} {ao ai ed da:Nat} {f:eE} {p:k0}
theorem tE.is(H:tE h ao ai f p):nl h ai f p:=⟨H.kind,H.e5,H.md,H.round,H.mr,cN.o   (λ_=>rfl) H.qK.rd,cN.o   (λ_=>rfl) H.sL.rd,H.n8,H.n,H.oO⟩
theorem tE.T(H:tE h ao ai f p)(B:∀b,ao<=b->b<ai->u ac b=u h b)(A:ed<=ao)(D:ai<=da):tE ac ed da f p:={ H with qK:=eZ.T H.qK B A D,sL:=eZ.T H.sL B A D }
theorem xo{aA:Type}{enc:aA->aa X}:eZ h ao ai (.slice none 0 0) enc ([]:aa aA):=⟨_,_,rfl,λh=>absurd rfl h⟩
end
section
variable {s:ak} {g cb h ac:ad} {U Y aK i j:Nat} {c bL:Nat->X} {l:aa eE} {aP:av Nat} {Z:b5}
theorem kv.awL(H:kv h U c Z i j):(∃I K V B D M E A l2,c 11 = .int .i64 (Z.H i:Int)/\c 12 = .int .i64 (Z.W j:Int)/\c 13 = .slice I K V/\c 14 = .slice B D M/\c 15 = .slice E A l2) /\
  ∃I K V B D M E A l2 aV d4 tK,c 16 = .int .i64 (Z.H i:Int)/\c 17 = .int .i64 (Z.W j:Int)/\c 18 = .slice I K V/\c 19 = .slice B D M/\c 20 = .slice E A l2/\c 21 = .slice aV d4 tK:=by
 constructor
 ·obtain⟨b,aO,n,B,D,c2,E,A,cm,e⟩:=H.rows.form
  grind
 ·obtain⟨fr,_,_,aU⟩:=H.mF;obtain⟨I,K,c1,B,D,c2,E,A,cm,aV,d4,h8,e⟩:=aU.form
  grind
theorem awM(K:gj Z):∀g∈Z.cut i j,0<=g.w/\g.w<=2147483647:=λg B=>by obtain⟨cb,A,rfl⟩:=fL.1 B;exact K.w cb ab
theorem afJ(K:gj Z):hJ (Z.H i) (Z.W j) (Z.cut i j):=by have A:=zq K i;have B:=D1 K j;exact Lo K.M (by unfold b5.H;omega) (by unfold b5.W;omega)
theorem Uc(K:gj Z)(j:Nat):Z.W j<=60:=by have:=D1 K j;have:=K.n60;unfold b5.W;omega
theorem ahR(K:gj Z)(i:Nat):Z.H i<=60:=by have:=zq K i;have:=K.n60;unfold b5.H;omega
theorem al4{r gp A db D mj K B M hZ u3 yn I bY cC E V d3:X}:((qY (pk [(6,6,.agg ⟨[K,B,M,hZ,u3,yn]⟩),(12,6,.agg ⟨[I,bY,cC,E,V,d3]⟩),(19,1,.bool true),(20,1,.int .i64 0)]) 1 5 [gp,A,db,D,mj]
  [r,.int .i64 0,.int .i64 0,.slice none 0 0,.slice none 0 0,.slice none 0 0,.int .i64 0,.int .i64 0,.slice none 0 0,.slice none 0 0,.slice none 0 0,.slice none 0 0,.int .i64 0,.int .i64 0,.slice none 0 0,.int .i64 0,.slice none 0 0,.slice none 0 0,.slice none 0 0,.bool false,.int .i64 0]).bind λl=>.ok (Value.agg ⟨l⟩)) =
  .ok (.agg ⟨[r,gp,A,db,D,mj,K,B,M,hZ,u3,yn,I,bY,cC,E,V,d3,.slice none 0 0,.bool true,.int .i64 0]⟩):=rfl
theorem ai3{f:eE}{p:k0}{t:Nat}{x:Nat->av Int}(K:gj Z)(W:e0 h U aK c i j Z.C l aP)(H:kv h U c Z i j)(bg:l.length<900)(bx:nl h U f p)(cy:t<900)(g1:p.mq=bn (Z.W j) x)(ej:p.mr=(Z.W j:Int))(mZ:p.round=(t:Int))(sv:c 25 = (t:X))(ai:i<Z.R)(aR:∀i y,x i=some y->0<=y/\y<=eB):
  aD Q s 134 [bb aK,.agg ⟨ef f⟩,.agg ⟨[.int .i64 0,(j:X)]⟩] h U (λr ac Y=>r = .bool true/\∃dG ck mo,e0 ac Y aK (hK (hK c 25 (((t+1:Nat):X))) 22 dG) i j Z.C (l++[mo]) (some ck) /\
   tE ac U ck mo ⟨3,((i*Z.C+j:Nat):Int),((i*Z.C+0:Nat):Int),t,0,[],bn (Z.H i) (iU (fh Z.k t) (Z.cut i j) x),0,false⟩/\U<=ck/\(∀d,d<U->d≠aK->aP≠some d->u ac d=u h d)/\U<=Y):=by
 refine aj1 ?_;have ci:=W.lt;have bF:∀{o aW},az U h (F (F h U o) (U+1) aW):=aC
 have rv:∀{o aW},u (F (F h U o) (U+1) aW) aK=some (.cells (dt c) false):=λ{o aW}=>(bF aK ci).trans W.at_;obtain⟨⟨ax,a6,fD,a2,E,hB,a3,bR,l2,f11,V,f13,f14,f15⟩,de,m1,dQ,bO,m2,dC,d6,m3,j3,fQ,m4,lG,f16,f17,f18,f19,f20,f21⟩:=H.awL;unfold aaf ef;refine vT @rv @V ?_;refine(Zb   (bx.T  bF J) g1 ej (Uc K j)).mono ?_;rintro _ br cj ⟨v,rfl,lm,B,fp⟩;refine⟨fp,?_⟩;have cD:=bF.trans B J;have iH:=(B U J).trans ((aq J).trans (aN _ _ _));have c4:=(B (U+1) J).trans (aN _ _ _);have Oi:=(B aK J).trans rv;obtain⟨gW,rfl,ye⟩:=lm;obtain⟨cP,ke,rfl⟩:=ye.form;have hp:∀{y:Int},((y == y):ak)=true:=ab
 have D:f.round=(t:Int):=bx.round.trans mZ;simp(disch:=omega)only[bd,ia,iH,c4,Oi,W.c1,sv,D,hp,seval];unfold F2;have qM:∀{o},e0 (F (F br cj o) cj (.cells [.int .i64 (Z.W j:Int),.slice cP (bn (Z.W j) x).length ke] false)) (cj+1) aK c i j Z.C l aP:=λ{o}=>W.T (λd bu=>by have UT:d<U:=bu.elim J λe=>(W.aP d e).2;rw[aq J,aq J];exact cD d UT) J
 refine vT @iH @D ?_;refine(aj7 qM H.NN).b0 λg2 E A e9=>?_;have aAW:u g2 cj=_:=(A cj J).trans (aN _ _ _);have I:u g2 aK=some (.cells (dt c) false):=(A aK J).trans qM.at_;have Wo:u g2 U=_:=(A U J).trans ((aq J).trans ((aq J).trans iH));refine L9 @aAW @I @Wo H.aJ @D ?_;refine(QM K.gF J).f4 ⟨J,?_⟩;simp(disch:=omega)only[bd,ia,aAW,I,Wo,fZ,seval];have ez:∀{o aW},az U h (F (F g2 E o) E aW):=aC
 have hVo:∀{o aW},kn (F (F g2 E o) E aW) (E+1) (.agg ⟨[.int .i64 (Z.W j:Int),.slice cP (bn (Z.W j) x).length ke]⟩) (Z.W j) x:=λ{o aW}=>⟨_,rfl,cN.o   (λ_=>rfl) (ye.T (ed:=0)  (λb h1 al=>by rw[aq J,aq J,A b J,aq J,aq J]) J J).gI.rd⟩
 refine(apr hVo (by have:=Uc K j;omega)).mono ?_;rintro aI dK d4 ⟨gh,M,iC⟩;refine⟨iC,?_⟩;have hT:az U h dK:=ez.trans M J;have hH0:=gh;obtain⟨bY,cC,aY,jT,d9,b6,aJ,z2,dI,ce,z3,gL,rfl⟩:=gh.form;have tx:u dK aK=some (.cells (dt c) false):=(hT aK ci).trans W.at_;have Xr:u dK E=some (.cells [.int .i64 0,.int .i64 0] false):=(M E J).trans (aN _ _ _);have kf:u dK U=_:=(M U J).trans ((aq J).trans ((aq J).trans Wo));simp(disch:=omega)only[bd,ia,tx,Xr,I,f11,V,f13,f14,f15,f16,f17,f18,f19,f20,f21,fZ,seval];rw[al4];refine aB ?_;have dD:=H.rows;obtain⟨fr,eH,Wp,hCo⟩:=H.mF;rw[f11,V,f13,f14,f15]at dD;rw[f16,f17,f18,f19,f20,f21]at hCo;have Wq:∀{o aW},az U h (F (F dK d4 o) d4 aW):=(hT.set J).set J;refine(apl     ⟨R1 K.gF,afJ K,Wp,eH,by have:=Uc K j;omega,awM K,aR,_,_,_,_,rfl,dD.T  Wq J,hCo.T  Wq J,hH0.T (((az.refl _ _).set (cB _)).set (cB _)) J⟩).mono ?_;rintro _ gx fI ⟨z,y,rfl,dW,hi,mE⟩;have ll:az U h gx:=Wq.trans hi J;have aCc:u gx aK=some (.cells (dt c) false):=(ll aK ci).trans W.at_;have lj:u gx U=_:=(hi U J).trans ((aq J).trans ((aq J).trans kf));have Fo:IntKind.wrap .i64 ((t:Int)+1)=((t+1:Nat):Int):=cn J;obtain⟨m5,Xh,rfl,_⟩:=id dW;refine Bg @aCc @sv @Fo W.mm ?_;have ou:e0 (F gx aK (.cells (dt (hK c 25 (((t+1:Nat):X)))) false)) fI aK (hK c 25 (((t+1:Nat):X))) i j Z.C l aP:=W.set (aN _ _ _) rfl rfl rfl rfl (λb e=>by have:=W.aP b e;rw[aq this.1];exact ll b this.2) J
 refine(Gh  (j:=0) ou.at_ W.h0 W.m7 W.i8 (by have:=K.h0;omega) ou.hE).f4 ⟨cB _,?_⟩;simp(disch:=omega)only[bd,lj,D,fZ,seval];refine(GF ou bg ⟨3,0,((i*Z.C+0:Nat):Int),0,(t:Int),0,none,0,0,m5,(bn (Z.H i) (iU (fh Z.k t) (Z.cut i j) x)).length,Xh,none,0,0,0,false⟩).mono ?_;rintro _ o8 n7 ⟨rfl,dG,ck,JF,hQ,wq,tl⟩;have cW:∀d,U<=d->aP≠some d:=λd bu e=>by have:=W.aP d e;omega
 refine⟨tl,dG,ck,_,JF,⟨rfl,rfl,rfl,rfl,rfl,xo,eZ.T dW (λd h1 al=>?_) J J,rfl,rfl,rfl⟩,J,λd h1 al aM=>?_,J⟩
 ·grind
 ·rw[wq d J al aM,aq al];exact ll d h1
end
def k5(h:ad)(ao ai:Nat):aa eE->aa k0->Prop
 | [],[]=>True
 |f::ds,p::bW=>tE h ao ai f p/\k5 h ao ai ds bW
 |_,_=>False
section
variable {h ac:ad} {ao ai ed da:Nat}
theorem k5.T(B:∀b,ao<=b->b<ai->u ac b=u h b)(A:ed<=ao)(D:ai<=da):∀{ds bW},k5 h ao ai ds bW->k5 ac ed da ds bW
 | [],[],_=>trivial
 |_::_,_::_,H=>⟨H.1.T B A D,k5.T B A D H.2⟩
 | [],_::_,H=>H.elim
 |_::_,[],H=>H.elim
theorem k5.app:∀{ds bW gs JB},k5 h ao ai ds bW->k5 h ao ai gs JB->k5 h ao ai (ds++gs) (bW++JB)
 | [],[],_,_,_,G=>G
 |_::_,_::_,_,_,H,G=>⟨H.1,k5.app H.2 G⟩
 | [],_::_,_,_,H,_=>H.elim
 |_::_,[],_,_,H,_=>H.elim
theorem k5.len:∀{ds bW},k5 h ao ai ds bW->ds.length=bW.length
 | [],[],_=>rfl
 |_::_,_::_,H=>by rw[nM,nM,k5.len H.2]
 | [],_::_,H=>H.elim
 |_::_,[],H=>H.elim
theorem k5.is:∀{ds bW},k5 h ao ai ds bW->ra h ai ds bW
 | [],[],_=>trivial
 |_::_,_::_,H=>⟨H.1.is,k5.is H.2⟩
 | [],_::_,H=>H.elim
 |_::_,[],H=>H.elim
end
def LL(Z:b5)(i t:Nat)(x:Nat->av Int)(j:Nat):k0:=⟨1,((i*Z.C+0:Nat):Int),(j:Int),(t:Int),((Z.cl (i+1) j-Z.cl i j:Nat):Int),bn (Z.cl (i+1) j-Z.cl i j) (λk=>x (Z.cl i j+k)),[],0,false⟩
theorem Ud{A:Nat}(D:rV Q A=true){h:ad}{U r:Nat}(B:u h r=some (.map es cL)):sV Q .clear [A] h U [.map (some r)] = .ok (.val km (F h r (.map [] cL)) U):=by show(bif rV Q A||nQ Q A then Ha Q A h U (.map (some r))else .no "clear")=_;rw[D];show lr h r _=_;unfold lr;rw[B]
theorem awN:rV Q 172=true:=by kernel_rfl
def BeJ(aK i C a6 U t:Nat)(Z:b5)(x:Nat->av Int)(c:Nat->X)(l:aa eE)(aP:av Nat)(h iq:ad)(m:Nat)(aE:aa X)(ac:ad)(Y:Nat):Prop :=
 ∃JG bL hj ds B,m=C-JG/\JG<=C/\aE=[bb aK,bb a6,(C:X),(JG:X)]/\(∀n,n≠22->bL n=c n)/\e0 ac Y aK bL i 0 C (l++ds) hj /\
  k5 ac U B ds ((List.range JG).map (LL Z i t x))/\a6+1<=B/\B<=Y/\(∀b,hj=some b->aP=some b\/B<=b)/\(0<JG->∃b,hj=some b/\B<=b)/\(∀d,U<=d->d<=a6->u ac d=u iq d)/\(∀d,d<U->d≠aK->aP≠some d->u ac d=u h d)
section
variable {s:ak} {g cb h ac:ad} {U Y aK i j:Nat} {c bL:Nat->X} {l:aa eE} {aP:av Nat} {Z:b5}
theorem aj9{r M:Nat}{S:jL}(K:gj Z)(W:e0 h U aK c i 0 Z.C l aP)(H:kv h U c Z i 0)(bg:l.length+Z.C<900)(ai:i<Z.R)(ar:jK h U (.agg ⟨[c 28,c 29,c 30,c 31,c 32]⟩) (Z.bB i) (Z.H i) S)(Fa:c 26 = (r:X))(ba:r<900)(mT:c 41 = .map (some M))(hm:u h M=some (.map es cL))(V:M<U/\M≠aK/\aP≠some M):
  aD Q s 232 [bb aK] h U (λoj ac Y=>oj = .tuple ⟨[]⟩/\∃bL ck ds,(∀n,n≠22->n≠40->bL n=c n)/\bL 40 = .slice none 0 0/\e0 ac Y aK bL i 0 Z.C (l++ds) (some ck) /\
   k5 ac U ck ds ((List.range Z.C).map (LL Z i (r+1) (rc Z.k (iW Z.bt Z.N (r / 2)) (r+1) S)))/\U<=ck/\u ac M=some (.map [] cL)/\(∀d,d<U->d≠aK->d≠M->aP≠some d->u ac d=u h d)/\U<=Y):=by
 refine alZ ?_;have ci:=W.lt;have oS:=ar;obtain⟨cY,fJ,ei,g9,fE,gJ,gq⟩:=ar;obtain⟨fk,fv,rfl,_⟩:=id fE;obtain⟨gH,fF,rfl,_⟩:=id gJ;obtain⟨lg,ir,rfl,_⟩:=id gq;simp only[Value.agg.injEq,wJ,vm,iy]at g9;obtain⟨rx,qB,sw,kO,gC⟩:=g9;rw[rx,qB,sw,kO,gC]at oS;obtain⟨bp,hn,nG,_⟩:=id H.d;have mZ:IntKind.wrap .i64 ((r:Int)+1)=((r+1:Nat):Int):=cn J;have hl:=H.lv K;rw[nG]at hl;have xX:=zq K i;unfold ab4;simp(disch:=omega)only[bd,ia,W.at_,H.aJ,H.ce,H.eC,H.gP,nG,rx,qB,sw,kO,gC,Fa,mZ,seval];refine(asJ  hl oS (by unfold b5.H;omega) J J).mono ?_;rintro Ck D a6 ⟨lm,eT,fp⟩;refine⟨fp,?_⟩;rw[show(r+1-1) / 2=r / 2 from rfl]at lm;obtain⟨gW,rfl,ye⟩:=lm;obtain⟨cP,ke,rfl⟩:=ye.form;have dh:u D aK=some (.cells (dt c) false):=(eT aK ci).trans W.at_;refine vT @dh W.hE ?_;generalize sJ:rc Z.k (iW Z.bt Z.N (r / 2)) (r+1) S=dy at ye ⊢;generalize NE:F (F D a6 _) a6 _=iq;have Xs:u iq a6=some (.cells [.int .i64 (Z.H i:Int),.slice cP (bn (Z.H i) λk=>dy (Z.bB i+k)).length ke] false):=ab
 have cW:∀d,U<=d->aP≠some d:=λd bu e=>by have:=W.aP d e;omega
 have vd:az U h iq:=aC
 refine bq.mk (BeJ aK i Z.C a6 U (r+1) Z dy c l aP h iq) Z.C ⟨0,c,aP,[],a6+1,J,J,rfl,ab,by rw[hM];exact W.T (λd bu=>vd d ab) J,trivial,J,J,ab,λh=>absurd h J,ab,λd bu _ _=>vd d bu⟩ ?_;rintro _ _ A bH ⟨I,c2,NO,ds,B,rfl,bM,rfl,qk,E,he,wm,sx,mM,ayI,dE,sf⟩;rw[aj5];unfold Y7;have Xt:=(dE a6 J J).trans Xs;have eL:(ds.length:Nat)=I:=by rw[he.len,g5,vk]
 have h9:c2 2=c 2/\c2 3=c 3/\c2 7=c 7/\c2 26=c 26/\c2 41=c 41:=ab
 obtain⟨aC6,aCd,aCe,j26,j41⟩:=h9;refine aB ?_;refine⟨λEj=>?_,λeh=>?_⟩
 ·simp(disch:=omega)only[bd,ia,Xt,E.at_,aCd,H.ce,aCe,H.gO,E.hE,E.mm,seval];have hVF:qd A U bH (.agg ⟨[.int .i64 (Z.H i:Int),.slice cP (bn (Z.H i) λk=>dy (Z.bB i+k)).length ke]⟩) (Z.H i) (λk=>dy (Z.bB i+k)):=⟨_,rfl,ye.T ab J J⟩
  have bm:=K.n60;refine(alH  J K.mu K.ot K.h0 K.m7 ai J hVF).mono ?_;rintro aE aM bR ⟨dW,ek,hr⟩;refine⟨hr,?_⟩;have BP:=(ek aK E.lt).trans E.at_;obtain⟨vsi,rfl,hSi⟩:=dW;obtain⟨aCf,aCg,rfl,_⟩:=id hSi;refine Bg @BP @j26 @Fa @mZ ?_;have rD:∀{o aW},e0 (F (F aM bR o) bR aW) (bR+1) aK c2 i 0 Z.C (l++ds) NO:=λ{o aW}=>E.T (λd bu=>by have:d<bH:=bu.elim J λe=>(E.aP d e).2;rw[aq J,aq J];exact ek d this) J
  refine(GF rD ab ⟨1,0,(I:Int),0,((r+1:Nat):Int),((Z.cl (i+1) I-Z.cl i I:Nat):Int),aCf,(bn (Z.cl (i+1) I-Z.cl i I) λk=>dy (Z.cl i I+k)).length,aCg,none,0,0,none,0,0,0,false⟩).mono ?_;rintro _ bc d4 ⟨rfl,dG,ck,Oj,hQ,tB,iC⟩;refine⟨iC,?_⟩;refine a9 (cn (J:I<1000000000000)) ?_;have wk:∀d,U<=d->d<B->NO≠some d:=ab
  have nb3:∀d,bH<=d->NO≠some d:=λd D e=>by have:=E.aP d e;omega
  have eC:∀d,d<bH->d≠aK->NO≠some d->u bc d=u A d:=λd D A aM=>by rw[tB d J A aM,aq J,aq J];exact ek d D
  refine⟨_,J,I+1,_,some ck,ds++[_],bR+1,rfl,J,rfl,λn bm=>?_,by rw[<-kB];exact Oj,?_,J,J,λb e=>.inr ab,λ_=>⟨ck,rfl,J⟩,λd D A=>?_,λd D A aM=>?_⟩
  ·rw[dN bm];grind
  ·rw[pb,hN];refine(he.T (λb D A=>eC b J J (wk b D A)) (cB _) J).app ⟨⟨rfl,rfl,rfl,rfl,rfl,?_,xo,rfl,rfl,rfl⟩,trivial⟩;exact eZ.T hSi (λb D A=>by rw[tB b J J (nb3 b J),aq J,aq J]) J J
  all_goals grind
 ·have:I=Z.C:=J
  subst this;obtain⟨ck,rfl,hQ⟩:=ayI (by have:=K.h0;omega);have oT:u A M=some (.map es cL):=(sf M V.1 V.2.1 V.2.2).trans hm;have hw5:∀{o},u (F A M o) aK=some (.cells (dt c2) false):=λ{o}=>by rw[aq (kE V.2.1)];exact E.at_
  simp(disch:=omega)only[bd,ia,E.at_,j41,mT,Ud awN oT,dS,hw5,seval];refine⟨_,ck,ds,λn D A=>by rw[dN A];grind,zo,E.set (aN _ _ _) rfl rfl rfl rfl (λb e=>ab) (cB _),(he.T (λb D A=>ab) (cB _) hQ),J,λd D A aM bc=>ab,J⟩
end
end Go.Proofs.YthlhhajnbgjfmaaGreat
