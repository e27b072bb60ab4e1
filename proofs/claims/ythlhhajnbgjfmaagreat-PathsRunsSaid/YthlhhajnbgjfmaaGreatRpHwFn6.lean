/- Parts of the proof: HwFn6: each statement bears its own conditions. -/
import Derived.Test.YthlhhajnbgjfmaaGreatRpHwFn5
namespace Go.Proofs.YthlhhajnbgjfmaaGreat
open Go Go.Ax Go.Ax.HdH
set_option linter.all false
set_option maxHeartbeats 1000000
set_option maxRecDepth 1000000
variable {ai:aa GE} {n:Nat} {L:aa (Nat × Int)} {fp:aa GE} {r:Int} {aC:X} {dw so:aw Nat} {fz:aa (Nat × Int)} {R:Nat} {es:aa MapEntry} {y:Int} {aL:aP} {bx cs:aa X} {a:Nat} {w:X} {b1:aa eB} {bm:Nat} {q:Nat->al} {cF:X} {cI z eA:Nat}
theorem vv.aC7{h ac:ae}{A:aa X}{W:aa e8}{I:X}(H:vv h bm bx W dw)(E:u h bm=some (.cells (I::bx) false))(B:u ac bm=some (.cells (I::A) false))(M:∀b,dw=some b->u ac b=u h b):vv ac bm A W dw:=by
 rcases H with⟨V,aK,D⟩|⟨b,K,cap,cs,e,w⟩
 ·rw[E]at D;cases D;exact .inl ab
 ·have:=w.cell;rw[E]at this;cases this;exact .inr ⟨b,K,cap,cs,e,⟨B,(M b e).trans w.ca,w.len,w.r1,w.ne⟩⟩
theorem ns.hE{h:ae}{v:X}{l:aa (Nat × Int)}{aQ:aw Nat}(H:ns h v l aQ):fA h eO 3 v l aQ:=by
 rcases H with⟨rfl,rfl,rfl⟩|⟨b,rfl,rfl,A⟩
 ·exact .nil
 ·exact .own A
theorem apS{s:al}{h:ae}{U ap:Nat}{W:aa e8}(bc:oz r)(H:HA h U ap bm r W fz dw)(oN:bm<U)(rV:ap<=bm)(sY:ap<=U)(bo:W.length<900)(kj:fz.length<100000)(ip:W≠[])(ub:(∀p∈fz,0<=p.2/\p.2<=dg)/\∀p∈left W,0<=p.2/\p.2<=dg):
  aE Q s 330 [bf bm] h U (λ_ ac Y=>∃p M b9 se,(p::M).Perm (left W)/\(∀q∈left W,p.1<=q.1)/\HA ac Y ap bm r b9 (ra r fz p) se/\(left b9).Perm M/\b9.length<=W.length/\U<=Y/\(∀c,c<ap->u ac c=u h c)):=by
 refine ar0 ?_;unfold aea;obtain⟨out,aQ,hHp,agC,S7,IC,oD,nM⟩:=H;rcases hHp with⟨_,au,_⟩|⟨b,aB,cap,cs,rfl,w⟩
 ·exact absurd au ip
 obtain⟨p,a6⟩:=dH (l:=W) (i:=0) ab;have fO:=(fb.1 a6).1;have E:=S7 p ab;have y3:=oD b rfl;have eh:=w.ne;have Ei:=E.ok.cell;have q6:dn p.v=[p.v]:=by obtain⟨_,_,_,_,_,_,_,h1,_⟩:=E.ok;rw[h1];rfl
 have qd:=K2 (cs:=cs) a6;rw[lY]at qd;refine Sa w.cell w.ca @qd @Ei @q6 ?_;have b4:aA U h (T (T h U (.cells [.slice none 0 0,.int .i64 0] false)) U (.cells [p.v,(p.w:X)] false)):=aM
 have aC8:u (T (T h U (.cells [.slice none 0 0,.int .i64 0] false)) U (.cells [p.v,(p.w:X)] false)) U=some (.cells [p.v,(p.w:X)] false):=ab
 generalize T (T h U (.cells [.slice none 0 0,.int .i64 0] false)) U (.cells [p.v,(p.w:X)] false)=au at b4 aC8 ⊢;have gk:=Hi w b4 y3.2 oN;have al0:p7 au ap W:=S7.F λc a1=>b4 c J;refine(atL  gk J y3.1 J rV J J agC al0.ok a6).mono ?_;rintro _ h1 a5 ⟨cs1,mU,cT,MQ,UI,fi,e5⟩;have UJ:=(e5 U J J J).trans aC8;have ahN:zs h1 ap p:=E.F λc a1=>(e5 c J J J).trans (b4 c J);have al1:p7 h1 ap mU:=λx bd=>(al0 x (UI.mem_iff.1 (jZ _ bd))).F λc a1=>e5 c J J J;obtain⟨q,b1,UK⟩:∃q b1,p.l=q::b1:=by
  cases eT:p.l with
  |nil=>exact absurd eT E.2.1
  |cons q b1=>grind
 obtain⟨d8,gn,sp3,Ik,xx,aCz,mK,cc,s2,ayS⟩:=ahN.1.o.all (λ_=>rfl) E.2.1;have LV:=(ayS 0 q ab).1;rw[lY,og]at LV;have ayT:p.l.length=b1.length+1:=ab
 have agD:=ahN.1;rw[UK]at agD;obtain⟨aFb,etw,htw⟩:=mL.tail  (k:=3) (λ_=>rfl) agD;rw[ayT]at cc;rw[cc]at UJ etw;simp(disch:=omega)only[bk,↓reduceIte,Nat.reduceAdd,Nat.reduceSub,Nat.reduceMul,Nat.reduceLT,Nat.reduceLeDiff,Nat.reduceEqDiff,Int.reduceBEq,Int.reduceLT,Int.reduceNeg,UJ,s2,LV,show dn (.agg ⟨eO q⟩)=[(q.1:X),.int .i64 (q.2 / 18446744073709551616),.int .u64 (q.2 % 18446744073709551616)]from rfl];rw[etw];refine mv @UJ ?_;obtain⟨ao,UL⟩:∃ao,ao=T (T h1 a5 (.cells [.int .i64 0,.int .i64 0,.int .u64 0] false)) a5 (.cells [(q.1:X),.int .i64 (q.2 / 18446744073709551616),.int .u64 (q.2 % 18446744073709551616)] false):=⟨_,rfl⟩
 have er:aA a5 h1 ao:=by rw[UL];exact((aA.refl _ _).set (cC _)).set (cC _)
 have G20:u ao a5=some (.cells [(q.1:X),.int .i64 (q.2 / 18446744073709551616),.int .u64 (q.2 % 18446744073709551616)] false):=ab
 rw[<-UL];clear UL;have ahO:=E.2.2.2.2;rw[UK]at ahO;have mF:=uM.1 ahO;have rS:mU.length+1=W.length:=by rw[<-UI.length_eq];rfl
 refine(acS    (.inr ⟨b,aB,cap,cs1,rfl,Hi cT er J J⟩) (λD e=>ab) J rV J J MQ (al1.F λc a1=>er c J) (htw.F (λc a1=>er c J) (cC _)) E.2.2.1 mF.2).mono ?_;rintro _ aT bT ⟨qB,xC,c8,⟨l7,UM,zd,UN⟩,aAJ,f5,dD⟩;refine⟨f5,?_⟩;have aEk:∀c,c<U->c≠b->c≠bm->u aT c=u h c:=λc c1 c2 ci=>by rw[dD c J ci (λe=>ab),er c J,e5 c J c2 ci,b4 c c1]
 have UO:u aT a5=some (.cells [(q.1:X),.int .i64 (q.2 / 18446744073709551616),.int .u64 (q.2 % 18446744073709551616)] false):=(dD a5 J J (λe=>ab)).trans G20;have ahP:ns aT out fz aQ:=IC.F λD e=>ab
 have ahQ:p7 aT ap qB:=UN aT λc a1=>dD c J J (λe=>ab);have vS:(q::(b1++left mU)).Perm (left W):=by
  have:=YM UI;unfold left at this ⊢
  grind
 have ahR:∀mO∈left W,q.1<=mO.1:=λmO MP=>by
  obtain⟨x,bd,hqx⟩:=List.mem_flatMap.1 MP;have By:=S7 x bd;have hpk:p.k<=x.k:=ow.min agC a6 x bd;obtain⟨hR,Nl,hlx⟩:∃hR Nl,x.l=hR::Nl:=by
   cases eT:x.l with
   |nil=>grind
   |cons q b1=>grind
  have aU:p.k=(q.1:Int)*1000+(p.w:Int):=by rw[E.2.2.2.1];show(((p.l.getD 0 (0,0)).1:Nat):Int)*1000+(p.w:Int)=_;rw[UK];rfl
  have aK:x.k=(hR.1:Int)*1000+(x.w:Int):=by rw[By.2.2.2.1];show(((x.l.getD 0 (0,0)).1:Nat):Int)*1000+(x.w:Int)=_;rw[hlx];rfl
  have hxw:=By.2.2.1;have hsx:=By.2.2.2.2;rw[hlx]at hsx hqx;have dv:hR.1<=mO.1:=by
   rcases gh.1 hqx with rfl|h
   ·omega
   ·exact Nat.le_of_lt ((uM.1 hsx).1 mO h)
  omega
 obtain⟨ih,A⟩:∃ih,u aT bm=some (.cells [ih,(r:X),out] false):=by
  rcases c8 with⟨_,_,a1⟩|⟨_,_,_,_,_,aEl⟩
  ·grind
  ·exact⟨_,aEl.cell⟩
 have aAK:∀D,xC=some D->ap<=D/\D<bT:=λD e=>ab
 have hkl:∀c,c<ap->u aT c=u h c:=λc a1=>aEk c J J J;have ID:(left qB).Perm (b1++left mU):=UM.trans Jn;have hLW:qB.length<=W.length:=J
 have aCA:∀D,aQ=some D->xC≠some D:=λD e aK=>ab
 have aAL:∀D,aQ=some D->ap<=D/\D<bT/\D≠bm/\xC≠some D:=λD e=>ab
 have app:ra r fz q=fz++[q]->Ga s (λ_ ac Y=>∃p M b9 se,(p::M).Perm (left W)/\(∀q∈left W,p.1<=q.1)/\HA ac Y ap bm r b9 (ra r fz p) se/\(left b9).Perm M/\b9.length<=W.length/\U<=Y/\(∀c,c<ap->u ac c=u h c)) (bf bm) (bf a5) (fz.length:X) (.bool false) aT bT:=λhm=>by
  unfold Ga;refine tN @A @UO ?_;refine yl  (k:=3) (λ_=>rfl) (λ_=>rfl) J ((ahP.F λD e=>ab).hE) q (aR _ _ _) rfl J λbY En mH=>?_;have Ma:u bY bm=some (.cells [ih,(r:X),out] false):=ab
  refine mv @Ma ?_;refine⟨J,q,_,qB,xC,vS,ahR,⟨.slice (some ⟨bT+1,0,some 3⟩) (fz.length+1) (fz.length+1),some (bT+1),c8.aC7 A (aR _ _ _) (λD e=>?_),l7,ahQ.F (λc a1=>?_),?_,λD e=>ab,λD e=>?_⟩,ID,hLW,J,λc a1=>?_⟩
  ·grind
  ·grind
  ·rw[hm];exact .inr ⟨bT+1,rfl,ab,ab⟩
  ·grind
  grind
 rcases ahP with⟨aU,aK,cc⟩|⟨gg,aU,aK,V⟩
 ·subst aU aK;refine mv @A ?_;exact⟨λh=>absurd h J,λ_=>app rfl⟩
 ·have xB:=aAL gg aU;subst aK;cases s1:fz.getLast? with
  |none =>
   have w7:fz=[]:=List.getLast?_eq_none_iff.1 s1;subst w7;refine mv @A ?_;exact⟨λh=>absurd h (by simp),λ_=>app rfl⟩
  |some z =>
   obtain⟨B,aAM⟩:=Ji.1 s1;have fO:fz.length=B.length+1:=ab
   have c0:fz[B.length]? = some z:=ab
   have oJ:=fN (enc:=eO) (k:=3) (λ_=>rfl) fz;have TV:ep aT bT (.slice (some ⟨gg,0,some 3⟩) fz.length fz.length) eO 3 fz:=cL.o (λ_=>rfl) ⟨_,_,rfl,λ_=>⟨gg,_,_,xB.2.1,rfl,V⟩⟩;obtain⟨zJ,nY,MR,ro6,cs6,LX,Ez,hy,hg6,I⟩:=TV.all (λ_=>rfl) ab;cases hy;rw[V]at hg6;cases hg6;have pG:=(I _ z c0).2 0 _ J rfl;have c1:=(I _ z c0).2 1 _ J rfl;have c2:=(I _ z c0).2 2 _ J rfl;rw[og,iE]at pG;rw[iE]at c1 c2;have fa:IntKind.wrap .i64 ((fz.length:Int)-1)=(B.length:Int):=by rw[nI];omega
   have zf:B.length<fz.length:=J
   refine Sa @A @fa @V @pG @UO ?_;refine⟨λ_=>?_,λh=>absurd h J⟩;have aAN:hB (some 2) (B.length*3+1) (a7 eO fz) = .ok (.agg ⟨wid z.2⟩):=by
    rw[o3,if_pos J];have:((a7 eO fz).drop (B.length*3+1)).take 2=wid z.2:=by
     have dK:=(fb.1 c1)
     have dr:=(fb.1 c2)
     obtain⟨m1,aU⟩:=dK;obtain⟨m2,aK⟩:=dr;rw[zT m1,aU,Fm,zT J,Fm,sz];rw[show(a7 eO fz)[B.length*3+1+1]=(a7 eO fz)[B.length*3+2]from rfl,aK];rfl
    grind
   by_cases t6:z.1=q.1
   ·have hm:ra r fz q=B++[(z.1,jR r z.2 q.2)]:=by
     unfold ra;rw[s1]
     grind
    rw[show((z.1:Int) == (q.1:Int))=true from sB.2 J];unfold Ga;refine Sa @A @fa @V @aAN @UO ?_;have hzr:=ub.1 z (kk c0);have hqr:=ub.2 q (vS.mem_iff.1 (mr ..));refine(Qm bc (a:=z.2) (b:=q.2) (Gy (by unfold kz dg at *;omega)) (Gy (by unfold kz dg at *;omega))).mono ?_;rintro _ a9 dP ⟨rfl,K,g5⟩;refine⟨g5,?_⟩;have hc4:=(K bm J).trans A;have Iz:=(K gg J).trans V;have q3:jQ (some (.cells (a7 eO fz) false)) a9 gg (B.length*3+1) (wid (jR r z.2 q.2)) = .ok (T a9 gg (.cells (a7 eO (B++[(z.1,jR r z.2 q.2)])) false)):=by
     have aCB:=fN (enc:=eO) (k:=3) (λ_=>rfl) B;have DW:a7 eO fz=a7 eO B++eO z:=by rw[aAM,o4]
     rw[Lk rfl (by rw[oJ];show B.length*3+1+2<=_;omega)]
     congr 4
     rw[DW,o4,show(wid (jR r z.2 q.2)).length=2 from rfl];rw[show B.length*3+1=(a7 eO B).length+1 by omega,List.take_length_add_append,wo,Fb,kl,kl];rfl
    refine Hf @hc4 @Iz @sE @tw ?_;rw[q3];refine⟨rfl,q,_,qB,xC,vS,ahR,⟨.slice (some ⟨gg,0,some 3⟩) fz.length fz.length,some gg,c8.aC7 A ?_ (λD e=>?_),l7,ahQ.F (λc a1=>?_),?_,λD e=>ab,λD e=>?_⟩,ID,hLW,J,λc a1=>?_⟩
    ·grind
    ·have cy:=aAK D e;have:D≠gg:=λaK=>xB.2.2.2 ab;rw[aq this,K D J]
    ·rw[aq J,K c J]
    ·rw[hm];exact .inr ⟨gg,rfl,by rw[fO,ib];rfl,aR _ _ _⟩
    ·grind
    ·rw[aq J,K c J];grind
   ·have hm:ra r fz q=fz++[q]:=by
     unfold ra
     grind
    rw[show((z.1:Int) == (q.1:Int))=false from rt.2 J];exact app hm
def qq:X->X
 | .slice a n c=>.slice a n c
 |_=>.slice none 0 0
theorem mL.qq{az:Type}{h:ae}{U k:Nat}{v:X}{enc:az->aa X}{l:aa az}(H:mL h U v enc k l):qq v=v:=by obtain⟨a,c,rfl,_⟩:=H;rfl
def Bc(h:ae)(U:Nat)(v:X)(fE:aa (X × aa (Nat × Int))):Prop:=ep h U v (λp=>[qq p.1]) 1 fE/\∀p∈fE,mL h U p.1 eO 3 p.2/\(p.2.Pairwise λa b=>a.1<b.1)/\p.2.length<100000/\∀q∈p.2,0<=q.2/\q.2<=dg
theorem Bc.F{h ac:ae}{U Y:Nat}{v:X}{fE:aa (X × aa (Nat × Int))}(H:Bc h U v fE)(B:aA U h ac)(A:U<=Y):Bc ac Y v fE :=
 ⟨H.1.F B A,λp D=>⟨(H.2 p D).1.F B A,(H.2 p D).2⟩⟩
theorem awn{s:al}{fE:aa (X × aa (Nat × Int))}{v:X}{h:ae}{U:Nat}(fJ:fE.length<1000000)(I:Bc h U v fE):
  aE Q s 395 [v,.func (.func 326) ⟨[]⟩ ⟨[]⟩] h U (fs (.int .i64 (-1)) U h):=by refine aiF ?_;unfold WK;obtain⟨bg,cap,rfl,a1⟩:=id I.1;refine aG ?_;refine bE.mk (λm aF ac Y=>∃i,m=fE.length-i/\i<=fE.length/\aF=[.slice bg fE.length cap,.func (.func 326) ⟨[]⟩ ⟨[]⟩,.int .i64 0,(fE.length:X),(i:X)]/\ac=h/\Y=U) fE.length ⟨0,J,J,rfl,rfl,rfl⟩ ?_;rintro _ _ ao bQ ⟨i,rfl,ag,rfl,E,D⟩;rw[aiz,E,D];unfold Wy;refine aG ?_;refine⟨λcb=>?_,λV=>⟨rfl,rfl,rfl⟩⟩;obtain⟨p,a6⟩:=dH   J;obtain⟨b,aX,aB,bG,l3,K,aW,M,aY,B⟩:=ep.ld1  I.1 a6;cases M;have A:=I.2 p ab;rw[A.1.qq]at B;refine cN @aY @B ?_;refine ald ?_;refine(amg A.1.o J A.2.1).mono ?_;rintro _ _ _ ⟨rfl,E,D⟩;rw[E,D];refine bl (cD (J:i<1000000000000)) ?_;exact⟨_,J,i+1,rfl,J,rfl⟩
def rL(fE:aa (X × aa (Nat × Int))):aa (Nat × Int):=fE.flatMap (·.2)
theorem atM{p:Nat × Int}(D:oz r)(B:∀q∈fz,0<=q.2/\q.2<=dg)(I:0<=p.2/\p.2<=dg):∀q∈ra r fz p,0<=q.2/\q.2<=dg:=λq A=>by
 unfold ra at A;cases E:fz.getLast? with
 |none=>grind
 |some z =>
  rw[E]at A;simp only at A
  split at A
  ·rcases he.1 A with h|h
   ·exact B q ((List.dropLast_sublist fz).subset h)
   ·rw[iu.1 h];exact agv D ab I
  grind
theorem atN(r:Int)(fz:aa (Nat × Int))(p:Nat × Int):(ra r fz p).length<=fz.length+1:=by
 unfold ra
 grind
theorem vv.form{h:ae}{W:aa e8}(H:vv h bm bx W dw):∃a c,u h bm=some (.cells (.slice a W.length c::bx) false):=by
 rcases H with⟨_,rfl,A⟩|⟨_,_,_,_,_,w⟩
 ·grind
 ·exact⟨_,_,w.cell⟩
theorem YN{s:al}{fE:aa (X × aa (Nat × Int))}{v:X}{h:ae}{U:Nat}(bc:oz r)(fJ:fE.length<800)(aI:Bc h U v fE)(hn:(rL fE).length<50000):
  aE Q s 229 [(r:X),v] h U (λaO ac Y=>∃w fz,aO = .tuple ⟨[w,.int .i64 0]⟩/\eb ac w eO 3 fz U Y/\zh r fz [] (λi=>jT r (rL fE) i)/\aA U h ac/\U<=Y):=by
 refine anY ?_;obtain⟨bg,cap,rfl,a1⟩:=id aI.1;refine(AG  (by rcases bc with rfl|rfl|rfl <;> omega) (by rcases bc with rfl|rfl|rfl <;> omega)).mono ?_;rintro _ _ _ ⟨rfl,gl,eM⟩;rw[gl,eM];refine aG ?_;refine aio ?_;refine(awn J aI).mono ?_;rintro _ _ _ ⟨rfl,gl,eM⟩;rw[gl,eM];refine aG ?_;refine⟨λh=>absurd trivial h,?_⟩;obtain⟨H,fu⟩:∃H,H=T h U (.cells [.slice none 0 0,(r:X),.slice none 0 0] false):=⟨_,rfl⟩
 have uI:aA U h H:=by rw[fu];exact aM
 rw[<-fu];refine bE.mk (λm aF ac Y=>∃i W dw,m=fE.length-i/\i<=fE.length/\aF=[bf U,.slice bg fE.length cap,(fE.length:X),(i:X)]/\HA ac Y U U r W [] dw/\(left W).Perm (rL (fE.take i))/\W.length<=i/\aA U h ac/\U+1<=Y) fE.length ⟨0,[],none,J,J,rfl,⟨.slice none 0 0,none,.inl ab,apR,λx bd=>(sx bd).elim,.inl ab,ab,ab⟩,x2 _,by simp,uI,J⟩ ?_;rintro _ _ ao bQ ⟨i,W,dw,rfl,ag,rfl,h9,hN,hWl,E,f5⟩;rw[ala];unfold Yn;refine aG ?_;refine⟨λcb=>?_,λeG=>?_⟩
 ·obtain⟨p,a6⟩:=dH   J;obtain⟨b,aX,aB,bG,l3,j4,aW,aU,aY,iQ⟩:=ep.ld1  aI.1 a6;cases aU;have jy:=(E b aW).trans aY;have I:=aI.2 p ab;rw[I.1.qq]at iQ;obtain⟨out,aQ,K,A,D,IC,oD,nM⟩:=h9;refine cN @jy @iQ ?_;refine(acS   K oD J J J J A D (I.1.F (λc a1=>E c a1) J) J I.2.1).mono ?_;rintro _ aT bT ⟨qB,xC,c8,⟨l7,UM,zd,UN⟩,aAJ,ga,eY⟩;refine bl (cD (J:i<1000000000000)) ?_;have uc:∀c,c<U->u aT c=u ao c:=ab
  refine⟨_,J,i+1,qB,xC,rfl,J,rfl,⟨out,aQ,c8,l7,UN aT uc,IC.F λb6 e=>?_,λb6 e=>?_,λb6 e=>?_⟩,?_,J,aM,J⟩
  ·grind
  ·grind
  ·grind
  ·unfold rL;rw[gW,a6];rw[Jr];have:=UM.trans (hN.append_right p.2);simpa[rL]using this
 ·have IE:i=fE.length:=J
  subst IE;rw[ic]at hN;have aAO:∀p∈left W,0<=p.2/\p.2<=dg:=λp a6=>by obtain⟨x,bd,pu⟩:=List.mem_flatMap.1 (hN.mem_iff.1 a6);exact(aI.2 x bd).2.2.2 p pu
  refine bE.mk (λm aF ac Y=>∃W fz dw,m=(left W).length/\aF=[bf U]/\HA ac Y U U r W fz dw/\zh r fz (left W) (λi=>jT r (rL fE) i)/\W.length<900/\fz.length+(left W).length<=50000/\(∀p∈fz,0<=p.2/\p.2<=dg)/\(∀p∈left W,0<=p.2/\p.2<=dg)/\aA U h ac/\U+1<=Y) (left W).length ⟨W,[],dw,rfl,rfl,h9,⟨List.Pairwise.nil,ab,λv=>by rw[Pe hN];rfl⟩,J,by have:=hN.length_eq;grind,ab,aAO,E,f5⟩ ?_;rintro _ _ aT bT ⟨W,fz,dw,rfl,rfl,h9,zt,hWl,kP,hi1,hi2,eY,ga⟩;rw[alb];unfold Yo;have H5:=h9;obtain⟨out,aQ,K,A,D,IC,oD,nM⟩:=h9;obtain⟨gH,n1,B⟩:=K.form;refine bl @B ?_;refine QO.mono ?_;rintro _ _ _ ⟨rfl,gl,eM⟩;rw[gl,eM];refine bl @B ?_;refine⟨λvG=>?_,λdv=>?_⟩
  ·have eh:W≠[]:=ab
   refine(apS bc H5 J J J hWl J eh ab).mono ?_;rintro _ a9 dP ⟨p,M,qB,xC,hpM,Hz,hM2,ID,EH,g5,g8⟩;have rS:=hpM.length_eq;have rT:=ID.length_eq;rw[nC]at rS;have BJ:=atN r fz p;have V:=zt.step hpM Hz;refine⟨(left qB).length,J,qB,ra r fz p,xC,rfl,hM2,⟨V.up,λo fI q c3=>V.le o fI q ab,λv=>?_⟩,J,J,atM bc hi1 ab,ab,aM,J⟩;rw[Pe ID];exact V.IW v
  ·have UP:W=[]:=ab
   subst UP;refine⟨out,fz,rfl,?_,zt,eY,J⟩;rcases IC with⟨rfl,rfl,_⟩|⟨gg,aU,rfl,UC⟩
   ·exact .inl ab
   ·have:=nM gg aU;exact .inr ⟨gg,J,J,rfl,UC⟩
theorem aj9{s:al}{v:X}{h:ae}{U:Nat}(bc:oz r)(fJ:L.length<100000)(aI:ep h U v fF 2 L)(ck:0<=y/\y<=dg)(bO:∀p∈L,0<=p.2/\p.2<=2147483647):
  aE Q s 453 [(r:X),v,(y:X),.slice none 0 0,.bool true] h U (λV ac Y=>eb ac V eO 3 (L.map λp=>(p.1,fH r p.2 y)) U Y/\aA U h ac/\U<=Y):=by
 refine alf ?_;unfold ZK;obtain⟨bg,cap,rfl,a1⟩:=id aI;refine aG ?_;refine bE.mk (λm aF ac Y=>∃i w,m=L.length-i/\i<=L.length/\aF=[(r:X),(y:X),.slice none 0 0,.bool true,w,.slice bg L.length cap,(L.length:X),(i:X)]/\eb ac w eO 3 ((L.take i).map λp=>(p.1,fH r p.2 y)) U Y/\aA U h ac/\U<=Y) L.length ⟨0,.slice none 0 0,J,J,rfl,.inl ab,aM,J⟩ ?_;rintro _ _ ao bQ ⟨i,w,rfl,ag,rfl,I,B,A⟩;rw[ajJ];unfold Xq;refine aG ?_;refine⟨λcb=>?_,λeG=>?_⟩
 ·obtain⟨p,a6⟩:=dH   J;obtain⟨b,aX,aB,bG,l3,j4,aW,M,aY,iQ⟩:=(aI.F B A).ld (λ_=>rfl) a6;cases M;refine cN @aY @iQ ?_;rw[show fF p=[(p.1:X),(p.2:X)]from rfl];refine aG ?_;refine QN.mono ?_;rintro _ _ _ ⟨rfl,gl,eM⟩;rw[gl,eM];simp(disch:=omega)only[bk,show bin Q .neq 4 (.bool false) (.bool true) = .ok (.bool true) by kernel_rfl,seval];refine(ab3 bc ab ck).mono ?_;rintro _ aT bT ⟨rfl,D,E⟩;have c9:=(D bQ J).trans (aR _ _ _);refine⟨E,?_⟩;have M:∀x:Int,dn (.agg ⟨wid x⟩)=[.int .i64 (x / 18446744073709551616),.int .u64 (x % 18446744073709551616)]:=λ_=>rfl;refine ls @c9 @M @sE @sC ?_;have fC:∀c,c<bQ->u aT c=u ao c:=λc a1=>by rw[D c J,aq J,aq J]
  refine mu  (k:=3)  (λ_=>rfl) (λ_=>rfl) J (I.F  ab J) J (p.1,fH r p.2 y) (aR _ _ _) rfl ab λdX k0 K vR=>?_;refine⟨J,_,J,i+1,dX,rfl,J,by rw[cD J],?_,aM,J⟩;rw[gW,a6];rw[iU];exact K
 ·have:i=L.length:=J
  subst this;rw[ic]at I;exact⟨I,B,A⟩
theorem apT{s:al}{r c:Nat}{v:X}{x:Nat->aw Int}{h:ae}{U:Nat}(M:hh c r ai)(aI:nb h U v r c ai)(bO:j2 h U w n x)(bw:n<=4096):aE Q s 452 [v,w] h U (dI (.tuple ⟨[v,w]⟩) U h):=by
 refine ar6 ?_;have V:=aI;have E:=bO;obtain⟨v1,v2,v3,v4,rfl,h1,ao,aT,a9⟩:=aI;obtain⟨aD,c1,rfl,_⟩:=id h1;obtain⟨a2,c2,rfl,_⟩:=id ao;obtain⟨a3,ci,rfl⟩:=aT.form;obtain⟨aZ,hP,rfl,_⟩:=id a9;obtain⟨gB,rfl,ar⟩:=bO;obtain⟨_,_,rfl,_⟩:=id ar;have b4:∀{o e7 db gn},aA U h (T (T (T (T h U o) (U+1) e7) (U+1+1) db) (U+1+1+1) gn):=aM
 unfold aef;refine aG ?_;refine(YK M (V.F  b4 J)).mono ?_;rintro _ aU a5 ⟨rfl,A,fi⟩;have cH:=A U J;rw[aq J,aq J,aq J,aR]at cH;have D:=A (U+1) J;rw[aq J,aq J,aR]at D;have g2:=A (U+1+1) J;rw[aq J,aR]at g2;have dp:=A (U+1+1+1) J;rw[aR]at dp;have cM:=b4.trans A J;refine aG ?_;unfold Pp;refine bl @D ?_;refine(wx (E.F  cM J) bw).mono ?_;rintro _ aK bQ ⟨rfl,B,f5⟩;have zl:=(B U J).trans cH;have I:=(B (U+1) J).trans D;have K:=(B (U+1+1) J).trans g2;have g3':=(B (U+1+1+1) J).trans dp;refine aG ?_;unfold Po;refine ls @zl @I @K @g3' ?_;exact⟨rfl,aM,J⟩
def t0(r:Int)(ai:aa GE)(p:Nat × Int):aa (Nat × Int):=(eP ai p.1).map λg=>(g.t,fH r g.w p.2)
theorem atO(r:Int)(ai:aa GE)(k v:Nat)(y:Int):jT r (t0 r ai (k,y)) v=fo r (ai.map λg=>if g.f=k then(if g.t=v then some (fH r g.w y)else none)else none):=by
 unfold jT t0 eP;rw[pJ,Oh]
 grind
theorem aaE{r:Int}{ai:aa GE}{x:Nat->aw Int}{v:Nat}:∀n,jT r ((bj n x).flatMap (t0 r ai)) v=fo r ((List.range n).map λk=>fo r (ai.map λg=>if g.f=k then(if g.t=v then(x g.f).map (fH r g.w)else none)else none))
 |0=>rfl
 |n+1=>by
  rw[tL,Jr,yn,aaE n,rv,iU,uO,z7,OJ]
  congr 1
  cases A:x n with
  |none =>
   symm
   refine yc λz B=>?_
   grind
  |some y =>
   show jT r (t0 r ai (n,y)++[]) v=_;rw[hz,atO]
   grind
theorem apU{C:Nat}{x:Nat->aw Int}{v:Nat}(A:AI ai fp)(M:hh C R fp):jT r ((bj C x).flatMap (t0 r fp)) v=iJ r ai x v:=by rw[aaE,<-ajF r (λg:GE=>if g.t=v then(x g.f).map (fH r g.w)else none) (λg=>g.f) fp C M.rows];rw[Yk (List.Perm.map _ A),pJ];rfl
def uo{az:Type}(h:ae)(v:X)(enc:az->aa X)(k:Nat)(l:aa az)(P:Nat->Prop):Prop :=
 ∃a c,v = .slice a l.length c/\(l≠[]->∃b o aB bG cs,P b/\a=some ⟨b,o,aB⟩/\aB≠some 0/\l.length<=c/\u h b=some (.cells cs bG)/\o+l.length*k<=cs.length/\(cs.drop o).take (l.length*k)=a7 enc l)
section
variable {az:Type} {h ac:ae} {U k:Nat} {v:X} {enc:az->aa X} {l:aa az} {P pF:Nat->Prop}
theorem uo.c(H:uo h v enc k l P)(B:∀b,P b->b<U):mL h U v enc k l:=by obtain⟨a,c,e,H⟩:=H;exact⟨a,c,e,λA=>ab⟩
theorem uo.F(H:uo h v enc k l P)(hk:∀b,P b->u ac b=u h b)(K:∀b,P b->pF b):uo ac v enc k l pF:=by obtain⟨a,c,e,H⟩:=H;exact⟨a,c,e,λA=>by obtain⟨b,o,E,I,cs,D,ao,B,M,bY,V⟩:=H A;exact⟨b,o,E,I,cs,K b D,ao,B,M,ab,V⟩⟩
theorem eb.b{ap ag:Nat}(E:0<k)(A:∀x,(enc x).length=k)(H:eb h v enc k l ap ag):uo h v enc k l (λb=>ap<=b/\b<ag):=by
 rcases H with⟨rfl,rfl⟩|⟨b,B,I,rfl,D⟩
 ·exact⟨_,_,rfl,λh=>absurd rfl h⟩
 ·exact⟨_,_,rfl,λ_=>⟨b,0,some k,false,_,⟨B,I⟩,rfl,ab,J,D,by rw[fN A];omega,by rw[oe,o2 (by rw[fN A];omega)]⟩⟩
theorem uo.qq(H:uo h v enc k l P):qq v=v:=by obtain⟨a,c,rfl,_⟩:=H;rfl
end
def lx(p:X × aa (Nat × Int)):aa X:=[qq p.1]
def UQ(h:ae)(v:X)(fE:aa (X × aa (Nat × Int)))(aQ:aw Nat):Prop:=(fE=[]/\v = .slice none 0 0/\aQ=none)\/∃b,aQ=some b/\v = .slice (some ⟨b,0,some 1⟩) fE.length fE.length/\u h b=some (.cells (a7 lx fE) false)
theorem UQ.hE{h:ae}{v:X}{fE:aa (X × aa (Nat × Int))}{aQ:aw Nat}(H:UQ h v fE aQ):fA h lx 1 v fE aQ:=by
 rcases H with⟨rfl,rfl,rfl⟩|⟨b,rfl,rfl,A⟩
 ·exact .nil
 ·exact .own A
theorem amh(p:X × aa (Nat × Int)):d4 (lx p)=true:=by
 unfold lx qq;cases p.1 <;> rfl
theorem apV{s:al}{C:Nat}{v:X}{x:Nat->aw Int}{h:ae}{U:Nat}(bc:oz r)(av:AI ai fp)(M:hh C R fp)(d0:C<=63)(aI:nb h U v R C fp)(bO:j2 h U w C x)(hwt:∀g∈fp,0<=g.w/\g.w<=2147483647)(bd:∀i y,x i=some y->0<=y/\y<=dg):
  aE Q s 392 [(r:X),v,w,.slice none 0 0,.bool true] h U (λaO ac Y=>∃z,aO = .tuple ⟨[z,.int .i64 0]⟩/\eJ ac U Y z eO (bj R (iJ r ai x))/\aA U h ac/\U<=Y):=by
 refine ar2 ?_;have ih:=aI;have pt:=bO;obtain⟨v1,v2,v3,v4,rfl,h1,ao,aT,a9⟩:=aI;obtain⟨aD,c1,rfl,_⟩:=id h1;obtain⟨a2,c2,rfl,_⟩:=id ao;obtain⟨a3,ci,rfl⟩:=aT.form;obtain⟨aZ,hP,rfl,_⟩:=id a9;obtain⟨gB,rfl,ar⟩:=bO;obtain⟨cB,lm,rfl,_⟩:=id ar;have b4:∀{o e7},aA U h (T (T h U o) (U+1) e7):=aM
 unfold aec;refine aG ?_;refine(apT M (ih.F  b4 J) (pt.F  b4 J) J).mono ?_;rintro _ aU a5 ⟨rfl,e5,fi⟩;have cH:=e5 U J;rw[aq J,aR]at cH;have bP:=e5 (U+1) J;rw[aR]at bP;have cM:=b4.trans e5 J;refine cN @cH @bP ?_;obtain⟨H,fu⟩:∃H,H=T (T aU U (.cells [(R:X),(C:X),.slice aD (gK fp).length c1,.slice a2 (g9 fp).length c2,.slice a3 (ft fp).length ci,.slice aZ (gA fp).length hP] false)) (U+1) (.cells [(C:X),.slice cB (bj C x).length lm] false):=⟨_,rfl⟩
 have uI:aA U h H:=by rw[fu];exact aM
 have Cl:u H U=some (.cells [(R:X),(C:X),.slice aD (gK fp).length c1,.slice a2 (g9 fp).length c2,.slice a3 (ft fp).length ci,.slice aZ (gA fp).length hP] false):=ab
 have qy:u H (U+1)=some (.cells [(C:X),.slice cB (bj C x).length lm] false):=ab
 rw[<-fu];clear fu;refine(AG  (by rcases bc with rfl|rfl|rfl <;> omega) (by rcases bc with rfl|rfl|rfl <;> omega)).mono ?_;rintro _ _ _ ⟨rfl,gl,eM⟩;rw[gl,eM];have fO:=ms C x;simp(disch:=omega)only[bk,Cl,qy,ru,seval];refine bE.mk (λm aF ac Y=>∃i w fE aQ,m=(bj C x).length-i/\i<=(bj C x).length/\aF=[(r:X),.slice none 0 0,.bool true,bf U,w,.slice cB (bj C x).length lm,.int .i64 ((bj C x).length:Int),(i:X)]/\UQ ac w fE aQ/\(∀b,aQ=some b->a5<=b/\b<Y)/\(∀p∈fE,uo ac p.1 eO 3 p.2 (λb=>a5<=b/\b<Y/\aQ≠some b)/\(p.2.Pairwise λa b=>a.1<b.1)/\p.2.length<=120/\∀q∈p.2,0<=q.2/\q.2<=dg)/\rL fE=((bj C x).take i).flatMap (t0 r fp)/\fE.length=i/\(∀c,c<a5->u ac c=u H c)/\a5<=Y) (bj C x).length ⟨0,.slice none 0 0,[],none,J,J,rfl,.inl ab,ab,λp E=>(sx E).elim,rfl,rfl,ab,J⟩ ?_;rintro _ _ ao bQ ⟨i,w,fE,aQ,rfl,ag,rfl,dV,nM,A,hn,hLl,dD,f5⟩;have er:aA U h ao:=aM
 have EG:=(dD U J).trans Cl;rw[an5];unfold ZJ;refine aG ?_;refine⟨λcb=>?_,λeG=>?_⟩
 ·obtain⟨p,E⟩:=dH   J;obtain⟨hpC,pu⟩:=wJ   E;obtain⟨b,aX,aB,bG,l3,j4,aW,aU,V,iQ⟩:=(ar.F er (Y:=bQ) J).ld (λ_=>rfl) E;cases aU;refine cN @V @iQ ?_;rw[show fF p=[(p.1:X),(p.2:X)]from rfl];refine bl @EG ?_;have fC:aA U h (T (T ao bQ (.cells [.int .i64 0,.int .i64 0] false)) bQ (.cells [(p.1:X),(p.2:X)] false)):=aM
  refine(aj4  M (ih.F  fC J)).mono ?_;rintro oW aT bT ⟨aAP,B,I⟩;have c9:=(B bQ J).trans (aR _ _ _);refine⟨I,?_⟩;refine hV @c9 @sE @sC ?_;have lh:(mB fp p.1).length<=120:=by unfold mB eP;rw[gX];exact iv (uL _ _) M.len
  refine(aj9  bc J (cL.o (λ_=>rfl) aAP.rd) (bd _ _ pu) (λq c3=>?_)).mono ?_
  ·obtain⟨g,V,rfl⟩:=f3.1 c3;exact hwt g (Df V).1
  rintro VY a9 dP ⟨Um,g8,g5⟩;refine⟨g5,?_⟩;have UR:=eb.b J apI Um;have hwd:=UR.qq;obtain⟨bg,gw,ewd,_⟩:=id UR;rw[ewd];refine aG ?_;have hL:∀c,c<bQ->u a9 c=u ao c:=λc a1=>by rw[g8 c J,B c J,aq J,aq J]
  have TH:fA (T a9 dP (.cells [.slice bg ((mB fp p.1).map λq=>(q.1,fH r q.2 p.2)).length gw] false)) lx 1 w fE aQ:=dV.hE.F λb6 e=>ab
  have Uz:((mB fp p.1).map λq=>(q.1,fH r q.2 p.2))=t0 r fp p:=by unfold mB t0;rw[pJ];rfl
  refine yl  (k:=1) (λ_=>rfl) amh J TH (VY,t0 r fp p) (aR _ _ _) (by show[_]=[qq VY];grind) J λbY En mH=>?_;refine⟨J,_,J,i+1,.slice (some ⟨dP+1,0,some 1⟩) (fE.length+1) (fE.length+1),fE++[(VY,t0 r fp p)],some (dP+1),rfl,J,by rw[cD (J:i<1000000000000)],.inr ⟨dP+1,rfl,ab,En⟩,(λb6 e=>ab),?_,?_,ab,λc a1=>?_,J⟩
  ·intro eC xn;rcases he.1 xn with cy|cy
   ·refine⟨(A eC cy).1.F (λb6 D=>?_) (λb6 D=>⟨D.1,J,λe=>ab⟩),(A eC cy).2⟩
    grind
   ·rw[iu.1 cy];refine⟨?_,?_,?_,λq c3=>?_⟩
    ·rw[<-Uz];refine UR.F (λb6 D=>?_) (λb6 D=>⟨J,J,λe=>ab⟩);rw[mH b6 J (λe=>ab),aq J]
    ·unfold t0;rw[wl];exact Qw M.up p.1
    ·grind
    ·obtain⟨g,K,rfl⟩:=f3.1 c3;exact Sj (hwt g (Df K).1) (bd _ _ pu) bc
  ·unfold rL at hn ⊢;rw[Jr,hn,gW,E]
   grind
  grind
 ·have IE:i=(bj C x).length:=J
  subst IE;rw[ic]at hn;have TT:Bc ao bQ w fE:=by
   refine⟨?_,λp E=>⟨(A p E).1.c (λb aW=>aW.2.1),(A p E).2.1,ab,(A p E).2.2.2⟩⟩;rcases dV with⟨rfl,rfl,rfl⟩|⟨b,e,rfl,V⟩
   ·exact ep.nil
   ·exact cL.o (λ_=>rfl) ⟨some ⟨b,0,some 1⟩,_,rfl,λ_=>⟨b,some 1,false,(nM b e).2,rfl,V⟩⟩
  have hFl:(rL fE).length<50000:=by
   have:∀(L:aa (X × aa (Nat × Int))),(∀p∈L,p.2.length<=120)->(rL L).length<=L.length*120:=λL=>by
    induction L with
    |nil=>intro _;exact cC _
    |cons p L eS =>
     intro eT;have:=eS λq c3=>eT q (jZ _ c3);unfold rL at this ⊢
     grind
   grind
  refine(YN bc J TT hFl).mono ?_;rintro _ aT bT ⟨z,fz,rfl,hzA,zt,B,I⟩;have c0:=(eb.f hzA).gv;have hOL:fz=bj R (iJ r ai x):=by
   have e:(λi=>jT r (rL fE) i)=iJ r ai x:=by
    funext v
    rw[hn];exact apU av M
   rw[e]at zt;refine zt.done λv aI=>?_;refine yc λy ck=>?_;obtain⟨g,V,rfl⟩:=f3.1 ck;have K:pX g∈fp:=av.mem_iff.2 (f3.2 ⟨g,V,rfl⟩);have:=M.mz _ K;have:g.f<R:=this
   grind
  subst hOL;refine aG ?_;exact⟨z,rfl,c0.F (λ_ _ _=>rfl) J (cC _),er.trans B J,J⟩
theorem apW{s:al}{r c:Nat}{v:X}{x:Nat->aw Int}{h:ae}{U:Nat}(M:hh c r ai)(aI:nb h U v r c ai)(bO:j2 h U w n x)(bw:n<=4096):aE Q s 320 [v,w] h U (λV ac Y=>(∃y,V = .int .i64 y)/\aA U h ac/\U<=Y):=by
 refine arX ?_;have K:=aI;have E:=bO;obtain⟨v1,v2,v3,v4,rfl,h1,ao,aT,a9⟩:=aI;obtain⟨aD,c1,rfl,_⟩:=id h1;obtain⟨a2,c2,rfl,_⟩:=id ao;obtain⟨a3,ci,rfl⟩:=aT.form;obtain⟨aZ,hP,rfl,_⟩:=id a9;obtain⟨gB,rfl,ar⟩:=bO;obtain⟨cB,lm,rfl,_⟩:=id ar;have fO:=ms n x;have b4:∀{o e7},aA U h (T (T h U o) (U+1) e7):=aM
 unfold ad7;refine aG ?_;refine(XC (E.F  b4 J) bw).mono ?_;rintro aEb aU a5 ⟨a6,B,D⟩;refine⟨D,?_⟩;have cH:=B U J;rw[aq J,aR]at cH;have cM:=b4.trans B J;have I:(bj n x).map (λp=>(p.1:Int))=f6 ((bj n x).map (·.1)):=by unfold f6;rw[pJ];rfl
 rw[I]at a6;refine bl @cH ?_;refine(apG M (K.F  cM J) (cL.o (λ_=>rfl) a6.rd) ab).mono ?_;rintro _ aK bQ ⟨⟨y,rfl⟩,dD,A⟩;exact⟨A,⟨y,rfl⟩,aM,J⟩
theorem ami{s:al}{f a n:Int}{h:ae}{U:Nat}(I:0<=n/\n<1000000):aE Q s 317 [(f:X),(a:X),(n:X)] h U (λr ac Y=>(r = .int .i64 1\/r = .int .i64 2)/\ac=h/\Y=U):=by
 refine anZ ?_;unfold abR
 by_cases A:f=1
 ·subst A;simp(disch:=omega)only[bk,seval]
  grind
 ·by_cases E:f=2
  ·subst E;simp(disch:=omega)only[bk,seval]
   grind
  ·have B:(f == 1)=false:=ab
   have D:(f == 2)=false:=ab
   simp(disch:=omega)only[bk,B,D,Ar (show(8:Int)≠0 by decide),seval]
   grind
theorem aiH{s:al}{f a n:Int}{h:ae}{U:Nat}:aE Q s 319 [(f:X),(a:X),(n:X)] h U (λr ac Y=>(r = .int .i64 1\/r = .int .i64 2)/\ac=h/\Y=U):=by
 refine aiP ?_;unfold WZ
 by_cases B:f=1
 ·subst B;simp(disch:=omega)only[bk,seval]
  grind
 ·by_cases D:f=2
  ·subst D;simp(disch:=omega)only[bk,seval]
   grind
  ·have E:(f == 1)=false:=ab
   have A:(f == 2)=false:=ab
   simp(disch:=omega)only[bk,E,A,Ar (show(4:Int)≠0 by decide),seval]
   grind
def wP(h:ae)(U:Nat)(v:X)(n:Nat)(x:Nat->aw Int):Prop :=
 (∃gB,v = .agg ⟨[.int .i64 1,(n:X),gB,.int .i64 0,.slice none 0 0,.slice none 0 0]⟩/\ep h U gB fF 2 (bj n x)) \/
 (∃fD dq,v = .agg ⟨[.int .i64 2,.int .i64 0,.slice none 0 0,(n:X),fD,dq]⟩/\cL h U fD j8 (eZ n (ke x))/\ep h U dq c4 1 (cA n (jW x)))
theorem wP.F{h ac:ae}{U Y n:Nat}{v:X}{x:Nat->aw Int}(H:wP h U v n x)(D:aA U h ac)(A:U<=Y):wP ac Y v n x:=by
 rcases H with⟨K,e,B⟩|⟨E,I,e,B,M⟩
 ·exact .inl ⟨K,e,B.F D A⟩
 ·exact .inr ⟨E,I,e,B.F D A,M.F D A⟩
theorem QP{s:al}{v:X}{x:Nat->aw Int}{h:ae}{U:Nat}(aI:wP h U v n x)(bw:n<=63):aE Q s 321 [v] h U (λr ac Y=>j2 ac Y r n x/\aA U h ac/\U<=Y):=by
 refine avw ?_;have fO:=ms n x;have M:∀{o e7},aA U h (T (T h U o) (U+1) e7):=aM
 unfold afU;rcases aI with⟨gB,rfl,B⟩|⟨fD,dq,rfl,B,ao⟩
 ·obtain⟨cB,lm,rfl,_⟩:=id B;refine aG ?_;refine(wx  (j2.F    ⟨_,rfl,B⟩ M J) J).mono ?_;rintro _ aU a5 ⟨rfl,A,I⟩;have V:=A U J;rw[aq J,aR]at V;have D:=A (U+1) J;rw[aR]at D;have cM:=M.trans A J;unfold Qg;refine bl @V ?_;refine(CJ (B.F cM  J) J).mono ?_;rintro e6 aK bQ ⟨dV,K,E⟩;refine⟨E,?_⟩;obtain⟨bM,hj,rfl⟩:=dV.form;have EG:=(K U J).trans V;have um:=(K (U+1) J).trans D;refine ls @EG @um @sE @sC ?_;refine⟨⟨_,rfl,?_⟩,aM,J⟩;exact cL.o (λ_=>rfl) (eJ.rd (dV.gv.F  ab J J))
 ·obtain⟨eU,c6,rfl,_⟩:=id B;obtain⟨bC,qu,rfl,_⟩:=id ao;refine aG ?_;refine(apE  (sN.F    ⟨_,_,rfl,B,ao⟩ M J) bw).mono ?_;rintro fw aU a5 ⟨ey,A,I⟩;have D:=A (U+1) J;rw[aR]at D;obtain⟨gB,rfl,ag⟩:=ey;obtain⟨cB,lm,rfl,_⟩:=id ag;refine bl @D ?_;refine⟨⟨_,rfl,?_⟩,aM,J⟩;exact cL.o (λ_=>rfl) (eJ.rd (ag.F (ec:=U+2) ab J J))
theorem wP.form{h:ae}{U:Nat}{v:X}{x:Nat->aw Int}(H:wP h U v n x):∃D V aD a5 B I M E c2 K bT ci,v = .agg ⟨[.int .i64 D,.int .i64 V,.slice aD a5 B,.int .i64 I,.slice M E c2,.slice K bT ci]⟩:=by
 rcases H with⟨gB,rfl,A⟩|⟨fD,dq,rfl,A,ao⟩
 ·obtain⟨cB,lm,rfl,_⟩:=id A
  grind
 ·obtain⟨eU,c6,rfl,_⟩:=id A;obtain⟨bC,qu,rfl,_⟩:=id ao
  grind
theorem amj{s:al}{v:X}{x:Nat->aw Int}{h:ae}{U:Nat}(aI:wP h U v n x)(bw:n<=63):aE Q s 394 [v] h U (λr ac Y=>sN ac Y r n x/\aA U h ac/\U<=Y):=by
 refine an6 ?_;have D:=aI;obtain⟨cz,cE,aD,m1,c1,cm,a2,m2,c2,a3,m3,ci,rfl⟩:=aI.form;have b4:∀{o e7},aA U h (T (T h U o) (U+1) e7):=aM
 unfold abU;refine aG ?_;refine(QP (D.F  b4 J) bw).mono ?_;rintro nW aU a5 ⟨lV,A,M⟩;refine(ae0 lV bw).mono ?_;rintro eW aK bQ ⟨rn,B,I⟩;have E:=(B (U+1) J).trans (A (U+1) J);rw[aR]at E;obtain⟨fD,dq,rfl,V,K⟩:=rn;obtain⟨eU,c6,rfl,_⟩:=id V;obtain⟨bC,qu,rfl,_⟩:=id K;refine bl @E ?_;exact⟨⟨_,_,rfl,(V.F  ab J J).rd,cL.o (λ_=>rfl) (K.F  ab J J).rd⟩,aM,J⟩
structure Dt (h:ae) (U:Nat) (t:X) (r:Int) (R C:Nat) (ai fp:aa GE) (x:Nat->aw Int):Prop where
 rg:oz r
 m:hh R C ai
 bD:hh C R fp
 aC9:AI ai fp
 d0:C<=63
 w:∀g∈ai,0<=g.w/\g.w<=2147483647
 aDa:∀i y,x i=some y->0<=y/\y<=dg
 v:∃cw qr aI MS,t = .agg ⟨(r:X)::(dn cw++(dn qr++(dn aI++[.slice none 0 0,.bool true,.int .i64 MS])))⟩/\kq h U cw R C ai/\nb h U qr R C fp/\wP h U aI C x
theorem Dt.F{h ac:ae}{U Y:Nat}{t:X}{r:Int}{R C:Nat}{ai fp:aa GE}{x:Nat->aw Int}(H:Dt h U t r R C ai fp x)(B:aA U h ac)(A:U<=Y):Dt ac Y t r R C ai fp x :=
 { H with v:=by obtain⟨I,M,aI,D,e,K,V,E⟩:=H.v;exact⟨I,M,aI,D,e,K.F B A,V.F B A,E.F B A⟩ }
theorem nb.form{h:ae}{U:Nat}{v:X}{r c:Nat}{ai:aa GE}(H:nb h U v r c ai):∃I a5 E A bQ c2 K bT ci D dP B,v = .agg ⟨[(r:X),(c:X),.slice I a5 E,.slice A bQ c2,.slice K bT ci,.slice D dP B]⟩:=by
 obtain⟨v1,v2,v3,v4,rfl,V,ao,M,a9⟩:=H;obtain⟨I,E,rfl,_⟩:=id V;obtain⟨A,c2,rfl,_⟩:=id ao;obtain⟨K,ci,rfl⟩:=M.form;obtain⟨D,B,rfl,_⟩:=id a9
 grind
def ahS(R:Nat)(r:Int)(ai:aa GE)(x:Nat->aw Int)(U:Nat)(h:ae):bN:=λaO ac Y=>∃z,aO = .tuple ⟨[z,.int .i64 0]⟩/\eJ ac U Y z eO (bj R (iJ r ai x))/\aA U h ac/\U<=Y
theorem apX{s:al}{t:X}{C:Nat}{x:Nat->aw Int}{h:ae}{U:Nat}(H:Dt h U t r R C ai fp x):aE Q s 323 [t] h U (ahS R r ai x U h):=by
 refine arY ?_;obtain⟨cw,qr,aI,MS,rfl,h1,ao,M⟩:=H.v;have I:=ao;have D:=M;obtain⟨b,aB,n,a2,bQ,c2,a3,bT,ci,rfl⟩:=h1.form;obtain⟨dL,m1,eE,b3,m2,f0,d8,m3,ia,fM,m4,n9,rfl⟩:=ao.form;obtain⟨cz,cE,aU,gx,fL,cm,aK,ha,fY,cc,lN,lP,rfl⟩:=M.form;have V:∀{o},aA U h (T h U o):=aM
 unfold ad8;simp(disch:=omega)only[bk,NU,sy,seval];refine(QP (D.F  V J) H.d0).mono ?_;rintro nW bP cr ⟨lV,A,B⟩;refine⟨B,?_⟩;have cH:=(A U J).trans (aR _ _ _);have cM:=V.trans A J;refine AP @cH @sE @sC @tw @ya @CN ?_;have K:∀g∈fp,0<=g.w/\g.w<=2147483647:=λg aY=>by obtain⟨cd,E,rfl⟩:=f3.1 (H.aC9.mem_iff.1 aY);exact H.w cd E
 refine(apV H.rg H.aC9 H.bD H.d0 (I.F cM J) lV K H.aDa).mono ?_;rintro _ g2 kY ⟨z,rfl,dV,dD,f5⟩;refine aG ?_;refine⟨J,z,rfl,dV.F ab J J,aM,J⟩
theorem apY{s:al}{t:X}{C:Nat}{x:Nat->aw Int}{h:ae}{U:Nat}(H:Dt h U t r R C ai fp x):aE Q s 324 [t] h U (ahS R r ai x U h):=by
 refine arZ ?_;obtain⟨cw,qr,aI,MS,rfl,K,ao,I⟩:=H.v;have E:=K;have D:=I;obtain⟨b,aB,n,a2,bQ,c2,a3,bT,ci,rfl⟩:=K.form;obtain⟨dL,m1,eE,b3,m2,f0,d8,m3,ia,fM,m4,n9,rfl⟩:=ao.form;obtain⟨cz,cE,aU,gx,fL,cm,aK,ha,fY,cc,lN,lP,rfl⟩:=I.form;have M:∀{o},aA U h (T h U o):=aM
 unfold ad9;simp(disch:=omega)only[bk,NU,sy,seval];refine(amj (D.F  M J) H.d0).mono ?_;rintro nW bP cr ⟨lV,A,B⟩;refine⟨B,?_⟩;have cH:=(A U J).trans (aR _ _ _);have cM:=M.trans A J;refine AP @cH @sE @sC @tw @ya @CN ?_;refine(apJ H.rg H.m H.d0 (E.F cM J) lV H.w H.aDa).mono ?_;rintro _ g2 kY ⟨z,rfl,dV,dD,V⟩;refine aG ?_;refine⟨J,z,rfl,dV.F ab J J,aM,J⟩
theorem apZ{s:al}{t:X}{C:Nat}{x:Nat->aw Int}{h:ae}{U:Nat}(H:Dt h U t r R C ai fp x):aE Q s 227 [t] h U (λaO ac Y=>∃z y,aO = .tuple ⟨[z,.int .i64 y,.int .i64 0]⟩/\eJ ac U Y z eO (bj R (iJ r ai x))/\aA U h ac/\U<=Y):=by
 refine arV ?_;have sp:=H;obtain⟨cw,qr,aI,MS,rfl,h1,ao,aT⟩:=H.v;have TC:=h1;have h20:=ao;have Uq:=aT;obtain⟨b,aB,n,a2,bQ,c2,a3,bT,ci,rfl⟩:=h1.form;obtain⟨dL,m1,eE,b3,m2,f0,d8,m3,ia,fM,m4,n9,rfl⟩:=ao.form;obtain⟨cz,cE,aU,gx,fL,cm,aK,ha,fY,cc,lN,lP,rfl⟩:=aT.form;have b4:∀{o},aA U h (T h U o):=aM
 unfold ad3;simp(disch:=omega)only[bk,NU,sy,seval];refine(QP (Uq.F  b4 J) H.d0).mono ?_;rintro nW bP cr ⟨lV,E,I⟩;refine⟨I,?_⟩;have cH:=(E U J).trans (aR _ _ _);have cM:=b4.trans E J;refine AP @cH @sE @sC @tw @ya @CN ?_;refine(apW H.bD (h20.F cM J) lV (by have:=H.d0;omega)).mono ?_;rintro _ g2 kY ⟨⟨y,rfl⟩,K,D⟩;refine⟨D,?_⟩;have B:=(K U J).trans cH;have er:=cM.trans K J;simp(disch:=omega)only[bk,cH,B,sE,sC,tw,ya,CN,seval];refine(amc H.m (TC.F er J)).mono ?_;rintro _ dp lM ⟨rfl,V,ga⟩;refine⟨ga,?_⟩;have A:=(V U J).trans B;have fC:=er.trans V J;simp(disch:=omega)only[bk,cH,B,A,sE,sC,tw,ya,CN,seval];refine aiH.mono ?_;rintro w _ _ ⟨bO,gl,eM⟩;rw[gl,eM];refine⟨J,?_⟩;rcases bO with rfl|rfl
 ·refine bl @A ?_;unfold Kj;refine aG ?_;refine(apX (sp.F fC J)).mono ?_;rintro _ dZ cQ ⟨z,rfl,dV,g8,M⟩;refine aG ?_;exact⟨z,_,rfl,dV.F ab J J,aM,J⟩
 ·refine bl @A ?_;unfold Kj;refine aG ?_;refine(apY (sp.F fC J)).mono ?_;rintro _ dZ cQ ⟨z,rfl,dV,g8,M⟩;refine aG ?_;exact⟨z,_,rfl,dV.F ab J J,aM,J⟩
def hasB(gs:aa GE)(a b:Nat):al:=gs.any λe=>decide (e.f=a/\e.t=b)
def c5(gs:aa GE)(a b:Nat):al:=decide (a≠b)&&(hasB gs a b||hasB gs b a)
theorem sV.up{w U A:Nat}{h B:ae}{r:X}{ac:ae}{Y:Nat}(H:sV w A B r ac Y)(hk:aA U h B)(I:U<=A):sV w U h r ac Y:=by obtain⟨b,c,E,rfl,M,K,D,V,hd⟩:=H;exact⟨b,c,E,rfl,J,K,D,aM,J⟩
structure fE (N:Nat) (h:ae) (ap ag:Nat) (os:aa X) (aEm:Nat->aa Nat) (qx:Nat->aw Nat):Prop where
 len:os.length=N
 s:∀i,i<N->∃o,os[i]? = some o/\g0 h c4 o (f6 (aEm i)) (qx i)
 b:∀i c,qx i=some c->ap<=c/\c<ag
 d:∀i j c,qx i=some c->qx j=some c->i=j
theorem fE.F{N:Nat}{h ac:ae}{ap ag dk:Nat}{A:aa X}{B:Nat->aa Nat}{D:Nat->aw Nat}(L:fE N h ap ag A B D)(I:∀c,ap<=c->c<ag->u ac c=u h c)(E:ag<=dk):fE N ac ap dk A B D :=
 ⟨L.len,λi ag=>by obtain⟨o,e,g⟩:=L.s i ag;exact⟨o,e,g.F λc e=>I c (L.b i c e).1 (L.b i c e).2⟩,λi c e=>⟨(L.b i c e).1,by have:=(L.b i c e).2;omega⟩,L.d⟩
def iL(bR:aa Int)(N d v:Nat):Int:=(if bR.length=0 then 0 else(bR[(d*N+v) % bR.length]?).getD 0)*4096+v
section
variable (gs:aa GE) (It:Nat->Nat->Int) (N:Nat)
def Bs(d:Nat)(q:Nat->al)(v:Nat):al:=(en N (λaO=>c5 gs v aO&&q aO)).all λaO=>!decide (It d aO<=It d v)
end
section
variable {gs:aa GE} {It:Nat->Nat->Int} {N:Nat}
theorem filter_lt{p q:Nat->al}:∀(l:aa Nat),(∀x∈l,p x=true->q x=true)->(∃x∈l,q x=true/\p x=false)->(l.filter p).length<(l.filter q).length
 | [],_,h=>ab
 |y::l,D,K=>by
  have I:∀(l:aa Nat),(∀x∈l,p x=true->q x=true)->(l.filter p).length<=(l.filter q).length:=by
   intro l
   induction l with
   |nil=>grind
   |cons z l V =>
    grind
  have E:=λx A=>D x (jZ y A);rw[mW,mW];obtain⟨x,A,B,M⟩:=K;rcases gh.1 A with rfl|A
  ·grind
  ·have:=filter_lt l E ⟨x,A,B,M⟩
   grind
end
theorem Lu(h:n<9223372036854775808):IntKind.wrap .i64 (n:Int)=(n:Int):=jM J J
theorem acT{t:TypeId}{b:Nat}(A:a<9223372036854775808)(B:b<9223372036854775808):bin Q .or t (a:X) (b:X) = .ok (((a ||| b:Nat):X)):=by show R.ok (Value.int .i64 (IntKind.wrap .i64 ((BitVec.ofInt 64 (a:Int) ||| BitVec.ofInt 64 (b:Int)).toNat:Int)))=_;rw[BitVec.toNat_or,BB  J,BB  J,Lu (Nat.or_lt_two_pow (n:=63) A B)]
theorem amk{t:TypeId}(A:a<2147483648):bin Q .shl t (a:X) (.int .u64 12) = .ok (((a*4096:Nat):X)):=by show R.ok (Value.int .i64 (tI .i64 ((a:Int)*2 ^ (min (12:Int).toNat 64))))=_;rw[oh,show((a:Int)*2 ^ (min (12:Int).toNat 64))=((a*4096:Nat):Int)from ab,Lu J]
theorem awo{b:Nat}(A:b<4096):a*4096 ||| b=a*4096+b:=by rw[x4];exact(Nat.two_pow_add_eq_or_of_lt (i:=12) A a).symm
def S8(bR:aa Int):Prop:=bR.length<=1000/\∀x∈bR,0<=x/\x<=2147483647
theorem YO{s:al}{k src len:Int}{N d v:Nat}{bR:aa Int}{eW:X}{h:ae}{U:Nat}(bh:cL h U eW c4 bR)(M:S8 bR)(d7:N<=4096)(aI:v<N)(hd2:d<=1000):
  aE Q s 368 [.agg ⟨[(k:X),(N:X),(src:X),(len:X),eW]⟩,(d:X),(v:X)] h U (dI (.int .i64 (iL bR N d v)) U h):=by
 refine aow ?_;obtain⟨a,cap,rfl,a1⟩:=id bh;unfold acb;have D:∀{o},aA U h (T h U o):=aM
 refine aG ?_;refine FT.mono ?_;rintro r h1 a5 ⟨rfl,I,V⟩;rw[I,V,lu J];have cT:IntKind.wrap .i64 ((N:Int)-1)=(N:Int)-1:=jM J J;refine bl @cT ?_;refine FT.mono ?_;rintro r h1 a5 ⟨rfl,I,V⟩;rw[I,V,lu J];unfold OT;obtain⟨bo,aW⟩:=M
 by_cases au:bR.length=0
 ·have aL:((bR.length:Nat):Int)=0:=J
  have es:bin Q .shl 2 (.int .i64 0) (.int .u64 12) = .ok (.int .i64 0):=rfl;have B:bin Q .or 2 (.int .i64 0) (v:X) = .ok (v:X):=by rw[show(0:Int)=((0:Nat):Int)from rfl,acT J J,Nat.zero_or]
  refine hV @aL @es @B ?_;refine λ_=>⟨?_,D,J⟩
  unfold iL
  grind
 ·have A:0<bR.length:=J
  have cb:(d*N+v) % bR.length<bR.length:=Aa _ A;obtain⟨x,bd⟩:=dH  cb;obtain⟨uq,hx1⟩:=aW x ab;obtain⟨y,rfl⟩:∃y:Nat,x=(y:Int):=⟨x.toNat,J⟩
  obtain⟨b,aB,bG,E,rfl,aY⟩:=a1 ab;rw[iF]at aY;have K:=(D (o:=.cells [(k:X),(N:X),(src:X),(len:X),.slice (some ⟨b,0,aB⟩) bR.length cap] false) b E).trans aY;have Mo:d*N<=4096000:=sA  (n₂:=1000)  (m₂:=4096) J J;have m1:IntKind.wrap .i64 ((d:Int)*(N:Int))=((d*N:Nat):Int):=by rw[show((d:Int)*(N:Int))=((d*N:Nat):Int) by omega];exact Lu J
  have m2:IntKind.wrap .i64 (((d*N:Nat):Int)+(v:Int))=((d*N+v:Nat):Int):=by rw[show(((d*N:Nat):Int)+(v:Int))=((d*N+v:Nat):Int) by omega];exact Lu J
  have m3:bin Q .rem 3 (((d*N+v:Nat):X)) (bR.length:X) = .ok ((((d*N+v) % bR.length:Nat):X)):=by rw[KF J];rfl
  have B:bin Q .or 2 (((y*4096:Nat):X)) (v:X) = .ok (((y*4096+v:Nat):X)):=by rw[acT J J,awo J]
  simp(disch:=omega)only[bk,show(0:Int)<(bR.length:Int) by omega,yk,m1,m2,m3,K,ix bd,amk (J:y<2147483648),B,seval];refine⟨⟨?_,D,J⟩,λh=>absurd trivial h⟩;unfold iL
  grind
def gc:=And.intro @sE @CN
theorem PF(h:n<4000000000):bin Q .and 3 (n:X) (.int .i64 1) = .ok (((n % 2:Nat):X)):=by rw[abt,BitVec.toNat_and,BB  J,show(BitVec.ofInt 64 1).toNat=1 from rfl,Js,ie _ J]
theorem ae3(n:Nat):((((n % 2:Nat):Int) == 0):al)=decide (n % 2=0):=ab
theorem PG{s:al}{k:Int}{t:Nat}{h:ae}{U:Nat}(B:k=1\/k=2\/k=3\/k=5)(D:t<100000):aE Q s 225 [(k:X),(t:X)] h U (fs (.int .i64 (fm k t)) U h):=by
 refine atw ?_;unfold aeX fm;rcases B with rfl|rfl|rfl|rfl
 ·refine aG ?_;exact⟨rfl,rfl,rfl⟩
 ·refine aG ?_;exact⟨rfl,rfl,rfl⟩
 ·refine aG ?_;exact⟨rfl,rfl,rfl⟩
 ·simp(disch:=omega)only[bk,↓reduceIte,Nat.reduceAdd,Nat.reduceSub,Nat.reduceMul,Nat.reduceLT,Nat.reduceLeDiff,Nat.reduceEqDiff,Int.reduceBEq,Int.reduceLT,Int.reduceNeg,PF (J:t<4000000000),ae3]
  by_cases A:t % 2=0
  ·simp[A,fs]
  ·simp[A,fs]
theorem QQ{k:Int}{t:Nat}(A:k=1\/k=2\/k=3\/k=5):oz (fm k t):=by unfold fm oz;omega
theorem aaF{s:al}{t:Nat}{h:ae}{U:Nat}(D:1<=t)(B:t<100000):aE Q s 459 [(t:X)] h U (fs ((((t-1) / 2:Nat):X)) U h):=by
 refine atz ?_;unfold aeZ;have A:IntKind.wrap .i64 ((t:Int)-1)=((t-1:Nat):Int):=by rw[show(t:Int)-1=((t-1:Nat):Int) by omega];exact ie _ J
 have es:bin Q .shr 3 (((t-1:Nat):X)) (.int .u64 1) = .ok ((((t-1) / 2:Nat):X)):=by
  show R.ok (Value.int .i64 (((t-1:Nat):Int).fdiv 2))=_
  grind
 refine cN @A @es ?_;exact⟨rfl,rfl,rfl⟩
def jp(h:ae)(U:Nat)(v:X)(low m:Nat)(S:jq):Prop:=hr h U v (low:Int) ((low+m:Nat):Int) m (cA m λi=>S.A (low+i)) (cA m λi=>S.B (low+i)) (λi=>S.q (low+i))
theorem jp.F{h ac:ae}{U Y low m:Nat}{v:X}{S:jq}(D:jp h U v low m S)(B:aA U h ac)(A:U<=Y):jp ac Y v low m S:=hr.F D B A
theorem aaG{i:Nat}{f:Nat->Int}(h:i<n):(cA n f)[i]? = some (f i):=by unfold cA;grind
theorem MT{h:ae}{U i:Nat}{v:X}{f:Nat->Int}(H:cL h U v c4 (cA n f))(ag:i<n):∃b B A cap,b<U/\v = .slice (some ⟨b,0,B⟩) n cap/\u h b=some (.cells (fd (cA n f)) A)/\(fd (cA n f))[i]? = some (.int .i64 (f i)):=by
 obtain⟨_,b,B,A,cap,E,e,D⟩:=H.at (aaG ag)
 rw[jl]at e;rw[iF]at D;exact⟨b,B,A,cap,E,e,D,ix (aaG ag)⟩
structure pR (h:ae) (U:Nat) (eW:X) (k src len:Int) (N:Nat) (bR:aa Int):Prop where
 d:cL h U eW c4 bR
 ok:S8 bR
 n60:N<=60
 pl:i5 k N src len bR=0
 hL:k=1\/k=2\/k=3\/k=5
theorem pR.F{h ac:ae}{U Y:Nat}{eW:X}{k src len:Int}{N:Nat}{bR:aa Int}(H:pR h U eW k src len N bR)(B:aA U h ac)(A:U<=Y):pR ac Y eW k src len N bR:={ H with d:=H.d.F B A }
section
variable {s:al} {k src len:Int} {N low m t i:Nat} {bR:aa Int} {eW aF:X} {S:jq} {h:ae} {U:Nat}
theorem aml(P:pR h U eW k src len N bR)(ar:jp h U aF low m S)(sd:low+m<=N)(ag:i<m)(h1:1<=t)(cq:t<1000):
  aE Q s 403 [.agg ⟨[(k:X),(N:X),(src:X),(len:X),eW]⟩,aF,(t:X),(i:X)] h U (λr ac Y=>(∃y b,r = .tuple ⟨[.int .i64 y,.bool b]⟩/\qV k (iL bR N ((t-1) / 2)) t S (low+i)=if b=true then some y else none)/\aA U h ac/\U<=Y):=by
 refine apw ?_;obtain⟨bh,M,d7,a6,hk⟩:=P;obtain⟨dq,fw,fD,rfl,fP,hl,gm⟩:=ar;obtain⟨bg,gw,rfl,_⟩:=id bh;obtain⟨a2,c2,rfl,_⟩:=id hl;obtain⟨a3,ci,rfl,_⟩:=id gm;obtain⟨b,aB,bG,cap,aW,rfl,aY,K⟩:=MT fP ag;have B:∀{o aX},aA U h (T (T h U o) (U+1) aX):=aM
 have A:∀{o aX},u (T (T h U o) (U+1) aX) b=_:=λ{o aX}=>(B b aW).trans aY;unfold acN;refine aG ?_;refine(K7 J ag (gm.F  B J)).mono ?_;rintro _ _ _ ⟨rfl,V,I⟩;rw[V,I];have zD:IntKind.wrap .i64 ((low:Int)+(i:Int))=((low+i:Nat):Int):=by rw[<-wm];exact ie _ J
 unfold qV;rcases hk with rfl|rfl|rfl|rfl
 ·refine bl @zD ?_;exact⟨⟨_,_,rfl,by simp⟩,B,J⟩
 ·refine cN @A @K ?_;exact⟨⟨_,_,rfl,by simp⟩,B,J⟩
 ·refine cN @A @K ?_;exact⟨⟨_,_,rfl,by simp⟩,B,J⟩
 ·simp(disch:=omega)only[bk,↓reduceIte,Nat.reduceAdd,Nat.reduceSub,Nat.reduceMul,Nat.reduceLT,Nat.reduceLeDiff,Nat.reduceEqDiff,Int.reduceBEq,Int.reduceLT,Int.reduceNeg,PF (J:t<4000000000),ae3];refine⟨λao=>⟨⟨_,_,rfl,ab⟩,B,J⟩,λao=>?_⟩;refine(aaF h1 J).mono ?_;rintro _ _ _ ⟨rfl,V,I⟩;rw[V,I];refine⟨J,?_⟩;simp(disch:=omega)only[bk,zD,gc,seval];refine(YO (bh.F  B J) M   J  J J).mono ?_;rintro _ bP cr ⟨rfl,D,E⟩;refine⟨E,?_⟩;have cH:=D (U+1) J;rw[aR]at cH;have rj:=(D b J).trans A;simp(disch:=omega)only[bk,cH,rj,A,K,gc,seval];refine⟨⟨_,_,rfl,?_⟩,aM,J⟩
  grind
theorem acU{f:Nat->aw Int}{b:al}(h:f n=if b=true then some y else none):bj (n+1) f=bj n f++if b=true then[(n,y)]else[]:=by
 rw[tL,h]
 grind
def OuJ(U a5 t m:Nat)(pl mN:aa X)(f:Nat->aw Int)(h:ae)(E7:Nat)(aF:aa X)(ac:ae)(Y:Nat):Prop :=
 ∃i dq,E7=m-i/\i<=m/\aF=[(t:X),bf U,.pointer (some ⟨U+1,0,none⟩),.pointer (some ⟨U+2,0,none⟩),bf a5,(m:X),(i:X)] /\
  u ac U=some (.cells pl false)/\u ac (U+1)=some (.cells mN false)/\u ac (U+2)=some (.cells [.int .i64 0,.slice none 0 0] false)/\u ac a5=some (.cells [(m:X),dq] false)/\eb ac dq fF 2 (bj i f) (a5+1) Y/\aA U h ac/\a5+1<=Y
theorem atP(P:pR h U eW k src len N bR)(ar:jp h U aF low m S)(sd:low+m<=N)(h1:1<=t)(cq:t<1000):
  aE Q s 337 [.agg ⟨[(k:X),(N:X),(src:X),(len:X),eW]⟩,aF,(t:X)] h U (λr ac Y=>p6 ac U Y r m (λi=>qV k (iL bR N ((t-1) / 2)) t S (low+i))/\aA U h ac/\U<=Y):=by
 refine awh ?_;obtain⟨bh,jb,d7,a6,V⟩:=id P;have E:=ar;obtain⟨dq,fw,fD,rfl,fP,hl,gm⟩:=ar;obtain⟨bg,gw,rfl,_⟩:=id bh;obtain⟨aD,c1,rfl,_⟩:=id fP;obtain⟨a2,c2,rfl,_⟩:=id hl;obtain⟨a3,ci,rfl,_⟩:=id gm;have b4:∀{o aX ll},aA U h (T (T (T h U o) (U+1) aX) (U+2) ll):=aM
 unfold agu;refine aG ?_;refine(KP (bh.F  b4 J) a6 J J J (E.F  b4 J) (jl _ _) (jl _ _)).mono ?_;rintro _ bP D ⟨rfl,B,fi⟩;have hR:=B U J;rw[aq J,aq J,aR]at hR;have dl:=B (U+1) J;rw[aq J,aR]at dl;have e1:=B (U+2) J;rw[aR]at e1;have fa:IntKind.wrap .i64 (((low+m:Nat):Int)-(low:Int))=(m:Int):=by rw[show((low+m:Nat):Int)-(low:Int)=(m:Int) by omega];exact ie m J
 refine hV @hR @dl @fa ?_;generalize fu:T (T (T bP (U+1) _) D _) D _=H;have aL:∀d,d≠U+1->d≠D->u H d=u bP d:=ab
 have aU:u H D=some (.cells [(m:X),.slice none 0 0] false):=ab
 have aK:u H (U+1)=some (.cells [(low:X),((low+m:Nat):X),.slice aD (cA m λi=>S.A (low+i)).length c1,.slice a2 (cA m λi=>S.B (low+i)).length c2,.slice a3 (eZ m λi=>S.q (low+i)).length ci] false):=ab
 refine bE.mk (OuJ U D t m _ _ (λi=>qV k (iL bR N ((t-1) / 2)) t S (low+i)) h) m ⟨0,_,J,J,rfl,(aL U J J).trans hR,aK,ab,aU,.inl ⟨rfl,rfl⟩,aM,J⟩ ?_;rintro _ _ ao bQ ⟨i,dq,rfl,ag,rfl,kE,fL,fY,lP,dV,V,dv⟩;rw[aty];unfold acL;obtain⟨i0,nv',qr,rfl⟩:=dV.form;refine hV @kE @fL @lP ?_;refine⟨λcb=>?_,λeG=>?_⟩
 ·refine(aml (P.F V J) (E.F V J) sd J h1 cq).mono ?_;rintro _ aT bT ⟨⟨y,b,rfl,ck⟩,A,M⟩;have fX:=(A U J).trans kE;have eH:=(A (U+1) J).trans fL;have hu:=(A (U+2) J).trans fY;have jg:=(A D J).trans lP;have K:=dV.F   (λd h1 ao=>A d J) M;refine cN @jg (cD (J:i<1000000000000)) ?_;refine⟨λaW=>?_,λaW=>?_⟩
  ·refine mu  (k:=2)  (λ_=>rfl) (λ_=>rfl) J (K.F  ab J) J (i,y) (aR _ _ _) rfl (by have:=ms i λi=>qV k (iL bR N ((t-1) / 2)) t S (low+i);omega) λdX bY I h3=>?_;obtain⟨bA,f2,v8,rfl⟩:=I.form;have kZ:=(h3 D J).trans ((aq J).trans jg);refine bl @kZ ?_;refine⟨_,?_,i+1,_,rfl,J,rfl,?_,?_,?_,aR _ _ _,?_,?_,J⟩
   ·omega
   ·grind
   ·grind
   ·grind
   ·rw[acU  (f:=λi=>qV k (iL bR N ((t-1) / 2)) t S (low+i)) ck,aW,if_pos rfl];exact I.F ab J
   ·exact aM
  ·refine⟨_,?_,i+1,_,rfl,J,rfl,fX,eH,hu,jg,?_,aM,J⟩
   ·omega
   ·rw[acU  (f:=λi=>qV k (iL bR N ((t-1) / 2)) t S (low+i)) ck,aW,if_neg (by simp),hz];exact K
 ·have:i=m:=J
  subst this;refine cN @fY @lP ?_;refine⟨⟨_,rfl,?_⟩,λd bh=>by rw[aq J];exact V d bh,J⟩;exact(eb.f dV).F (λd h1 ao=>aq J) J (cC _)
end
section
variable {s:al} {k src len:Int} {N low m t i:Nat} {bR:aa Int} {eW aF:X} {S:jq} {h:ae} {U:Nat}
def AR(h:ae)(ap U:Nat)(w:X)(o:al)(m:Nat)(q:Nat->al):Prop:=(o=true/\w = .slice none 0 0/\∀i,i<m->q i=true)\/(o=false/\eJ h ap U w j8 (eZ m q))
def AkJ(p:Nat)(want:Int)(dq:X)(m a5:Nat)(q:Nat->al)(h1:ae)(E7:Nat)(aF:aa X)(ac:ae)(Y:Nat):Prop :=
 ∃i acc,E7=m-i/\i<=m/\aF=[bf p,(want:X),acc,dq,(m:X),(i:X)]/\eb ac acc c4 1 (f6 (en i q)) a5 Y/\aA a5 h1 ac/\a5<=Y
theorem amm(P:pR h U eW k src len N bR)(ar:jp h U aF low m S)(sd:low+m<=N):
  aE Q s 331 [.agg ⟨[(k:X),(N:X),(src:X),(len:X),eW]⟩,aF,(t:X)] h U (λr ac Y=>∃w o,r = .tuple ⟨[w,.bool o]⟩/\AR ac U Y w o m (λi=>sR k S (low+i))/\aA U h ac/\U<=Y):=by
 refine apu ?_;obtain⟨bh,jb,d7,a6,D⟩:=id P;have M:=ar;obtain⟨dq,fw,fD,rfl,fP,hl,gm⟩:=ar;obtain⟨bg,gw,rfl,_⟩:=id bh;obtain⟨aD,c1,rfl,_⟩:=id fP;obtain⟨a2,c2,rfl,_⟩:=id hl;obtain⟨a3,ci,rfl,_⟩:=id gm;have b4:∀{o aX},aA U h (T (T h U o) (U+1) aX):=aM
 unfold acK;refine aG ?_;refine(KP (bh.F  b4 J) a6 J J J (hr.F M  b4 J) (jl _ _) (jl _ _)).mono ?_;rintro _ bP a5 ⟨rfl,E,fi⟩;have hR:=E U J;rw[aq J,aR]at hR;have dl:=E (U+1) J;rw[aR]at dl;rw[jl,jl]at *
 refine cN @hR @dl ?_;have fa:IntKind.wrap .i64 (((low+m:Nat):Int)-(low:Int))=(m:Int):=by rw[show((low+m:Nat):Int)-(low:Int)=(m:Int) by omega];exact ie m J
 have B:∀(A:Int) (q:Nat->al),(∀i,i<m->q i=decide (S.A (low+i)=A))->∀H,u H (U+1)=some (.cells [(low:X),((low+m:Nat):X),.slice aD m c1,.slice a2 m c2,.slice a3 (eZ m λi=>S.q (low+i)).length ci] false)->aA U h H->J3 s (λr ac Y=>∃w o,r = .tuple ⟨[w,.bool o]⟩/\AR ac U Y w o m q/\aA U h ac/\U<=Y) (.pointer (some ⟨U+1,0,none⟩)) (.int .i64 A) H a5:=λA q c3 H fu uI=>by
  unfold J3;refine bl @fu ?_;refine bE.mk (AkJ (U+1) A (.slice aD m c1) m a5 q H) m ⟨0,_,J,J,rfl,.inl ⟨rfl,rfl⟩,aM,J⟩ ?_;rintro _ _ ao bQ ⟨i,acc,rfl,ag,rfl,K,D,dv⟩;rw[al5];unfold YH;obtain⟨bC,VZ,qu,rfl⟩:=K.form;have fL:=(D (U+1) J).trans fu;refine aG ?_;refine⟨λcb=>?_,λeG=>?_⟩
  ·obtain⟨b,aB,bG,cap,aW,e,aY,a1⟩:=MT fP J;cases e;have I:=(D b J).trans ((uI b aW).trans aY)
   by_cases e:S.A (low+i)=A
   ·simp(disch:=omega)only[bk,I,a1,show(S.A (low+i) == A)=true from sB.2 e,cD (J:i<1000000000000),seval];refine mu  (k:=1)  (λ_=>rfl) (λ_=>rfl) J (K.F  ab J) J (i:Int) (aR _ _ _) rfl (by unfold f6;rw[gX];have:=vf i q;omega) λdX bY V h3=>?_;refine⟨_,J,i+1,_,rfl,J,rfl,?_,aM,J⟩;rw[KO,c3 i J,gY e,if_pos rfl];exact V
   ·simp(disch:=omega)only[bk,I,a1,show(S.A (low+i) == A)=false from rt.2 e,cD (J:i<1000000000000),seval];refine⟨_,J,i+1,_,rfl,J,rfl,?_,D,dv⟩;rw[KO,c3 i J,hA e,if_neg (by simp),hz];exact K
  ·have:i=m:=J
   subst this;refine cN @fL @fa ?_;refine(K6   J K.rd (λx bd=>by unfold en at bd;grind) (by have:=vf i q;omega)).mono ?_;rintro w a9 dP ⟨ip,g8,g5⟩;rw[RM]at ip;exact⟨_,_,rfl,.inr ⟨rfl,eJ.F ip ab J J⟩,aM,J⟩
 unfold sR;rcases D with rfl|rfl|rfl|rfl
 ·refine aG ?_;exact B (-1) _ ab _ ab aM
 ·refine aG ?_;exact⟨_,_,rfl,.inl ab,aM,J⟩
 ·refine aG ?_;exact⟨_,_,rfl,.inl ab,aM,J⟩
 ·refine aG ?_;exact B 0 _ ab _ ab aM
def oO(z:Int × Int × al):X:=.tuple ⟨[(z.1:X),(z.2.1:X),.bool z.2.2]⟩
theorem aka{b:al}(P:pR h U eW k src len N bR)(ar:jp h U aF low m S)(sd:low+m<=N)(ag:i<m)(h1:1<=t)(cq:t<1000):
  aE Q s 402 [.agg ⟨[(k:X),(N:X),(src:X),(len:X),eW]⟩,aF,(t:X),(i:X),(y:X),.bool b] h U
   (dI (oO (ku k (iL bR N ((t-1) / 2)) t S (low+i) (if b=true then some y else none))) U h):=by
 refine al7 ?_;obtain⟨bh,jb,d7,a6,hk⟩:=id P;obtain⟨dq,fw,fD,rfl,fP,hl,gm⟩:=ar;obtain⟨bg,gw,rfl,_⟩:=id bh;obtain⟨a3,ci,rfl,_⟩:=id gm;obtain⟨dL,sp1,eH,aCC,g6,rfl,q5,Ee⟩:=MT fP ag;obtain⟨b3,li,hu,pf,eR,rfl,jy,oG⟩:=MT hl ag;have I:∀{o aX},aA U h (T (T h U o) (U+1) aX):=aM
 have V:∀{o aX},u (T (T h U o) (U+1) aX) dL=_:=λ{o aX}=>(I dL g6).trans q5;have K:∀{o aX},u (T (T h U o) (U+1) aX) b3=_:=λ{o aX}=>(I b3 eR).trans jy;generalize A:ku k (iL bR N ((t-1) / 2)) t S (low+i) (if b=true then some y else none)=Z;have B:∀{w o aX},w=oO Z->dI (oO Z) U h w (T (T h U o) (U+1) aX) (U+2):=λe=>⟨e,I,J⟩
 unfold aaC;refine ls @V @Ee @K @oG ?_;unfold ku at A;rcases hk with rfl|rfl|rfl|rfl
 ·cases b
  ·refine aG ?_;exact B (by rw[<-A];rfl)
  ·by_cases e:S.A (low+i) = -1
   ·refine bl @e ?_;exact B (by rw[<-A];simp[oO,e])
   ·simp(disch:=omega)only[bk,show(S.A (low+i) == -1)=false from rt.2 e,seval];exact B (by rw[<-A];simp[oO,e])
 ·unfold FN ty;cases b
  ·refine aG ?_;exact B (by rw[<-A];rfl)
  ·refine aG ?_;exact⟨λe=>B (by rw[<-A];simp[oO,e]),λe=>B (by rw[<-A];simp[oO,e])⟩
 ·unfold FN ty;cases b
  ·refine aG ?_;exact B (by rw[<-A];rfl)
  ·refine aG ?_;exact⟨λe=>B (by rw[<-A];simp[oO,e]),λe=>B (by rw[<-A];simp[oO,e])⟩
 ·unfold FN Ou ty
  by_cases aL:S.A (low+i)=0
  case neg =>
   simp(disch:=omega)only[bk,show(S.A (low+i) == 0)=false from rt.2 aL,seval];exact B (by rw[<-A];simp[oO,aL])
  have D:=PF (J:t<4000000000)
  by_cases E:t % 2=0
  ·rw[E]at D
   replace D:bin Q .and 3 (t:X) (.int .i64 1) = .ok (.int .i64 0):=D
   cases b
   ·refine cN @aL @D ?_;exact B (by rw[<-A];simp[oO,aL,E])
   ·refine cN @aL @D ?_;exact B (by rw[<-A];simp[oO,aL,E])
  ·rw[show t % 2=1 by omega]at D
   replace D:bin Q .and 3 (t:X) (.int .i64 1) = .ok (.int .i64 1):=D
   cases b
   ·refine cN @aL @D ?_;exact B (by rw[<-A];simp[oO,aL,E])
   ·refine cN @aL @D ?_;refine(aaF h1 J).fZ ⟨J,?_⟩;simp(disch:=omega)only[bk,gc,seval];have zD:IntKind.wrap .i64 ((low:Int)+(i:Int))=((low+i:Nat):Int):=by rw[<-wm];exact ie _ J
    refine bl @zD ?_;refine(YO   (bh.F  I J) jb J  J J).cu λbP cr e5 M=>⟨M,?_⟩
    have cM:=I.trans e5 J;refine aG ?_;exact⟨λe=>⟨by rw[<-A];simp[oO,aL,E,e],cM,J⟩,λe=>⟨by rw[<-A];simp[oO,aL,E,e],cM,J⟩⟩
end
section
variable {s:al} {k src len:Int} {N low m t i:Nat} {bR:aa Int} {eW aF sm:X} {S:jq} {xS:Nat->aw Int} {h:ae} {U:Nat}
theorem jG(o:aw Int):(if o.isSome=true then some (o.getD 0)else none)=o:=by cases o <;> rfl
theorem ajd{aDb D I E:Nat}{bp:aw Addr}{n6 hQ:Nat}{eH hu jg n5:al}{bg:aw Addr}{gw:Nat}(P:pR h U (.slice bg bR.length gw) k src len N bR)(ar:jp h U aF low m S)(ck:j2 h U (.agg ⟨[(m:X),.slice bp n6 hQ]⟩) m xS)(M:low+m<=N)(ag:i<m)(h1:1<=t)(cq:t<1000)
  (bP:u h aDb=some (.cells [(m:X),.slice bp n6 hQ] eH)) (g2:u h D=some (.cells [(k:X),(N:X),(src:X),(len:X),.slice bg bR.length gw] hu)) (dp:u h I=some (.cells (dn aF) jg)) (dZ:u h E=some (.cells [(t:X)] n5)) (V:D<U) (Bj:I<U) (hpt:E<U):
  aE Q s 400 [(i:X),bf aDb,bf D,bf I,bf E] h U
   (dI (oO (ku k (iL bR N ((t-1) / 2)) t S (low+i) (xS i))) U h):=by
 refine aj2 ?_;have K:=ar;obtain⟨dq,fw,fD,rfl,fP,hl,gm⟩:=ar;obtain⟨aD,c1,rfl,_⟩:=id fP;obtain⟨a2,c2,rfl,_⟩:=id hl;obtain⟨a3,ci,rfl,_⟩:=id gm;have hm:m<=63:=by have:=P.n60;omega
 unfold YI;refine bl @bP ?_;refine(atu ck J ag).mono ?_;rintro _ ao bQ ⟨rfl,A,B⟩;simp(disch:=omega)only[bk,(A D V).trans g2,(A I Bj).trans dp,(A E hpt).trans dZ,seval];refine(aka   (P.F A B) (K.F A B) M ag h1 cq).mono ?_;rintro _ aT bT ⟨rfl,eY,ga⟩;rw[jG];unfold oO;refine aG ?_;exact⟨rfl,aM,J⟩
theorem akb(P:pR h U eW k src len N bR)(ar:jp h U aF low m S)(ck:j2 h U sm m xS)(sd:low+m<=N)(h1:1<=t)(cq:t<1000):
  aE Q s 336 [.agg ⟨[(k:X),(N:X),(src:X),(len:X),eW]⟩,aF,(t:X),sm] h U (λr ac Y=>l2 ac U Y r (low:Int) ((low+m:Nat):Int) m (cA m λi=>(ku k (iL bR N ((t-1) / 2)) t S (low+i) (xS i)).1) (cA m λi=>(ku k (iL bR N ((t-1) / 2)) t S (low+i) (xS i)).2.1) (λi=>(ku k (iL bR N ((t-1) / 2)) t S (low+i) (xS i)).2.2)/\aA U h ac/\U<=Y):=by
 refine al6 ?_;obtain⟨bh,jb,d7,a6,hk⟩:=id P;have E:=ar;obtain⟨dq,fw,fD,rfl,fP,hl,gm⟩:=ar;obtain⟨bg,gw,rfl,_⟩:=id bh;obtain⟨aD,c1,rfl,_⟩:=id fP;obtain⟨a2,c2,rfl,_⟩:=id hl;obtain⟨a3,ci,rfl,_⟩:=id gm;have I:=ck;obtain⟨gB,rfl,hyi⟩:=ck;obtain⟨cB,lm,rfl,_⟩:=id hyi;have b4:∀{o e7 db gn mg},aA U h (T (T (T (T (T h U o) (U+1) e7) (U+2) db) (U+3) gn) (U+4) mg):=aM
 unfold aaB;refine aG ?_;refine(KP (bh.F  b4 J) a6 J J J (hr.F E  b4 J) (jl _ _) (jl _ _)).mono ?_;rintro _ bP a5 ⟨rfl,B,fi⟩;have V:=B U J;rw[aq J,aq J,aq J,aq J,aR]at V;have dl:=B (U+1) J;rw[aq J,aq J,aq J,aR]at dl;have e1:=B (U+2) J;rw[aq J,aq J,aR]at e1;have K:=B (U+3) J;rw[aq J,aR]at K;have mR:=B (U+4) J;rw[aR]at mR;have fa:IntKind.wrap .i64 (((low+m:Nat):Int)-(low:Int))=(m:Int):=by rw[show((low+m:Nat):Int)-(low:Int)=(m:Int) by omega];exact ie m J
 refine ls @V @dl @K @fa ?_;have er:∀{o},aA U h (T bP (U+1) o):=aM
 refine(wx (I.F  er J) J).cu λg2 bQ A f5=>?_;have fX:=(A U J).trans ((aq J).trans V);have eH:=(A (U+1) J).trans (aR _ _ _);have hu:=(A (U+2) J).trans ((aq J).trans e1);have jg:=(A (U+3) J).trans ((aq J).trans K);have n5:=(A (U+4) J).trans ((aq J).trans mR);have fC:=er.trans A J;have E7:((m:Int) == (m:Int))=true:=ab
 refine cN @jg @E7 ?_;unfold Ot;refine bl @eH ?_;refine(YB (mT:=λi=>(ku k (iL bR N ((t-1) / 2)) t S (low+i) (xS i)).1) (mo:=λi=>(ku k (iL bR N ((t-1) / 2)) t S (low+i) (xS i)).2.1) (q:=λi=>(ku k (iL bR N ((t-1) / 2)) t S (low+i) (xS i)).2.2) J λi ac Y ag D w6=>?_).mono ?_
 ·have g1:=fC.trans D J;exact ajd (P.F g1 J) (jp.F E g1 J) (I.F g1 J) sd ag h1 cq ((D _ J).trans jg) ((D _ J).trans fX) ((D _ J).trans eH) ((D _ J).trans hu) J J J
 rintro w hw f2 ⟨dV,M,oB⟩;have ED:=dV;obtain⟨ny,me,aFc,rfl,mU,qB,ro⟩:=dV;obtain⟨dL,eE,rfl,_⟩:=id mU;obtain⟨b3,f0,rfl,_⟩:=id qB;obtain⟨d8,ia,rfl,_⟩:=id ro;have tq:=(M (U+4) J).trans n5;refine bl @tq ?_;exact⟨ED.wid ab J J,aM,J⟩
end
theorem atQ{i b w:Nat}(ag:i<n):gi z (.slice (some ⟨b,0,some (w+1)⟩) n n) (some (i:X)) none none = .ok (.slice (some ⟨b,i*z,some (w+1)⟩) (n-i) (n-i)):=by
 show k6 z (some ⟨b,0,some (w+1)⟩) n false n n i=_;unfold k6;rw[show(Nat.ble n n&&(Nat.ble n n&&Nat.ble i n))=true by simp;omega];unfold o6;rw[show Nat.beq n i=false by
  cases A:Nat.beq n i with
  |true=>exact absurd (gr A) J
  |false=>rfl]
 show R.ok (Value.slice (some ⟨b,Nat.add 0 (Nat.mul i z),some (w+1)⟩) (Nat.sub n i) (Nat.sub n i))=_;simp
theorem atS{i b w:Nat}(ag:i<n):gi z (.slice (some ⟨b,0,some (w+1)⟩) n n) none (some (i:X)) none = .ok (.slice (some ⟨b,0,some (w+1)⟩) i n):=by
 show k6 z (some ⟨b,0,some (w+1)⟩) n false n i 0=_;unfold k6;rw[show(Nat.ble n n&&(Nat.ble i n&&Nat.ble 0 i))=true by simp;omega];unfold o6;rw[show Nat.beq n 0=false by
  cases A:Nat.beq n 0 with
  |true=>have:=gr A;omega
  |false=>rfl]
 show R.ok (Value.slice (some ⟨b,Nat.add 0 (Nat.mul 0 z),some (w+1)⟩) (Nat.sub i 0) (Nat.sub n 0))=_;simp
theorem acV{az:Type}{enc:az->aa X}{k t e b i c U:Nat}{aB:aw Nat}{l:aa az}{h:ae}(z:az)(I:∀x,(enc x).length=k)(a1:∀x,d4 (enc x)=true)(pA:nD Q t=true)(V:rF Q t=some e)(aEn:oj Q e=some (enc z))(bo:l.length=n)(ag:i<n)(K:u h b=some (.cells (a7 enc l) false)):
  nE Q .clear [t] h U [.slice (some ⟨b,i*k,aB⟩) (n-i) c] = .ok (.val j1 (T h b (.cells (a7 enc (l.take i++List.replicate (n-i) z)) false)) U):=by
 have bc:gO (n-i) (enc z)=a7 enc (List.replicate (n-i) z):=by
  rw[ard];generalize n-i=q
  induction q with
  |zero=>rfl
  |succ q A=>rw[Fl,Fl,List.flatten_cons,A];rfl
 have E:∀q,d4 (a7 enc (List.replicate q z))=true:=by
  intro q
  induction q with
  |zero=>rfl
  |succ q A =>
   rw[Fl];show d4 (enc z++a7 enc _)=true;have app:∀a b:aa X,d4 a=true->d4 b=true->d4 (a++b)=true:=by
    intro a b B K
    induction a with
    |nil=>grind
    |cons x a A =>
     rw[ry,eo]at B;show d4 (x::(a++b))=true;rw[ry,B.1,A B.2];rfl
   grind
 have oJ:(a7 enc l).length=n*k:=by rw[fN I,bo]
 have D:(a7 enc (List.replicate (n-i) z)).length=(n-i)*k:=by rw[fN I,Jm]
 have hm:i*k+(n-i)*k=n*k:=by rw[<-z8];grind
 show(bif rG Q t||nD Q t then GJ Q t h U (.slice (some ⟨b,i*k,aB⟩) (n-i) c)else .no "clear")=_;rw[pA,Bool.or_true];obtain⟨m,M⟩:∃m,n-i=m+1:=⟨n-i-1,J⟩
 rw[M];show KX Q t h U ⟨b,i*k,aB⟩ (m+1)=_;rw[<-M];unfold KX;rw[V,Gr,aEn,Gr];simp only[];rw[bc,CH K ab J,D];show R.ok _=_;rw[NK J,hz,Ag];have:=aak I l 0 i
 grind
theorem ahT:nD Q 98=true:=by kernel_rfl
theorem aAQ:rF Q 98=some 274:=by kernel_rfl
theorem aAR:oj Q 274=some (eO (0,0)):=by kernel_rfl
def DlJ(b:Nat)(L:aa (Nat × Int))(q:Nat × Int->al)(rl:X)(h:ae)(U:Nat)(t:Nat)(aF:aa X)(ac:ae)(Y:Nat):Prop :=
 ∃(i j:Nat) (m:aa (Nat × Int)),t=L.length-j/\j<=L.length/\i<j/\aF=[.slice (some ⟨b,0,some 3⟩) L.length L.length,rl,(i:X),(j:X)]/\m.length=L.length/\u ac b=some (.cells (a7 eO m) false) /\
  m.take i=(L.take j).filter (λp=>!q p)/\m.drop j=L.drop j/\(∀d,d<U->d≠b->u ac d=u h d)/\U<=Y
theorem awp{s:al}{q:Nat × Int->al}{v:X}{h:ae}{U:Nat}(fJ:L.length<1000000)(M:ep h U v eO 3 L)(bK:∀(p:Nat × Int),p∈L->∀ac Y,aA U h ac->U<=Y->aE Q s eA (.agg ⟨eO p⟩::cs) ac Y (dI (.bool (q p)) Y ac)):
  aE Q s 396 [v,.func (.func eA) ⟨[]⟩ ⟨cs⟩] h U (λr ac Y=>(∃x:Int,r = (x:X)/\((x = -1/\∀p∈L,q p=false)\/∃n y,x=(n:Nat)/\L[n]? = some y/\q y=true/\∀p∈L.take n,q p=false))/\aA U h ac/\U<=Y):=by
 refine WD ?_;unfold Oa;obtain⟨bg,cap,rfl,a1⟩:=id M;refine aG ?_;refine bE.mk (λm aF ac Y=>∃i,m=L.length-i/\i<=L.length/\aF=[.slice bg L.length cap,.func (.func eA) ⟨[]⟩ ⟨cs⟩,.int .i64 0,(L.length:X),(i:X)]/\(∀p∈L.take i,q p=false)/\aA U h ac/\U<=Y) L.length ⟨0,J,J,rfl,ab,aM,J⟩ ?_;rintro _ _ ao bQ ⟨i,rfl,ag,rfl,V,B,A⟩;rw[Wz];unfold N4;refine aG ?_;refine⟨λcb=>?_,λeG=>⟨⟨-1,rfl,ab⟩,B,A⟩⟩;obtain⟨p,I⟩:=dH   J;obtain⟨b,aX,aB,bG,l3,E,aW,aU,aY,D⟩:=(M.F B A).ld (λ_=>rfl) I;cases aU;refine cN @aY @D ?_;refine(bK p ab ao bQ B A).mono ?_;rintro _ aT bT ⟨rfl,eY,K⟩;refine bl (cD (J:i<1000000000000)) ?_;refine⟨λc3=>⟨⟨_,rfl,ab⟩,aM,J⟩,λc3=>⟨_,J,i+1,rfl,J,rfl,λy ck=>?_,aM,J⟩⟩;rw[gW,I]at ck
 grind
theorem wrS{h:ae}{b i:Nat}{m:aa (Nat × Int)}{x:Nat × Int}(ag:i<m.length):jQ (some (.cells (a7 eO m) false)) h b (i*3) [(x.1:X),.int .i64 (x.2 / 18446744073709551616),.int .u64 (x.2 % 18446744073709551616)] = .ok (T h b (.cells (a7 eO (m.set i x)) false)):=Sq  (k:=3) (λ_=>rfl) (λ_=>rfl) ag
theorem ns.o{h:ae}{U:Nat}{v:X}{L:aa (Nat × Int)}{so:aw Nat}(H:ns h v L so)(A:∀b,so=some b->b<U):ep h U v eO 3 L:=by
 rcases H with⟨rfl,rfl,_⟩|⟨b,e,rfl,B⟩
 ·exact ep.nil
 ·exact cL.o   (λ_=>rfl) ⟨_,_,rfl,λ_=>⟨b,_,false,A b e,rfl,B⟩⟩
theorem ns.b{h:ae}{v:X}{L:aa (Nat × Int)}{so:aw Nat}(H:ns h v L so):uo h v eO 3 L (λb=>so=some b):=by
 rcases H with⟨rfl,rfl,_⟩|⟨b,e,rfl,A⟩
 ·exact⟨_,_,rfl,λh=>absurd rfl h⟩
 ·exact⟨_,_,rfl,λ_=>⟨b,0,some 3,false,_,e,rfl,(by simp),J,A,by rw[fN (k:=3) (λ_=>rfl)];omega,by rw[oe,o2 (by rw[fN (k:=3) (λ_=>rfl)];omega)]⟩⟩
theorem ap0{s:al}{q:Nat × Int->al}{v:X}{h:ae}{U:Nat}(fJ:L.length<100000)(aI:ns h v L so)(mF:∀b,so=some b->b<U)(bK:∀(p:Nat × Int),p∈L->∀ac Y,(∀d,d<U->so≠some d->u ac d=u h d)->U<=Y->aE Q s eA (.agg ⟨eO p⟩::cs) ac Y (dI (.bool (q p)) Y ac)):
  aE Q s 332 [v,.func (.func eA) ⟨[]⟩ ⟨cs⟩] h U (λr ac Y=>uo ac r eO 3 (L.filter λp=>!q p) (λb=>so=some b)/\(∀d,d<U->so≠some d->u ac d=u h d)/\U<=Y):=by
 refine aiy ?_;refine(awp  J (aI.o mF) λp a6 ac Y hk dv=>bK p a6 ac Y (λd E _=>hk d E) dv).mono ?_;rintro _ h1 a5 ⟨⟨x,rfl,⟨rfl,xk⟩|⟨i,y,rfl,ck,c3,xk⟩⟩,D,I⟩
 ·obtain⟨a,c,rfl,_⟩:=id (aI.o mF);refine aG ?_;refine⟨?_,λd E _=>D d E,I⟩;rw[zX.2 ab];exact(aI.b).F (λb e=>D b ab) ab
 ·have B:=(fb.1 ck).1;rcases aI with⟨rfl,rfl,_⟩|⟨b,rfl,rfl,aY⟩
  ·cases ck
  have eR:=mF b rfl;have hf0:(L.take (i+1)).filter (λp=>!q p)=L.take i:=by
   rw[gW,ck,sv,zX.2 ab]
   grind
  refine bl (cD (J:i<1000000000000)) ?_;refine⟨λau=>absurd au (by simp),λ_=>?_⟩;refine bE.mk (DlJ b L q _ h U) (L.length-(i+1)) ⟨i,i+1,L,rfl,B,J,rfl,rfl,(D b eR).trans aY,hf0.symm,rfl,λd E _=>D d E,I⟩ ?_;rintro _ _ ac jB ⟨i,k,m,rfl,hk,hik,rfl,hm,M,A,MU,uc,dv⟩;rw[ait];unfold Wt;have cu:IntKind.wrap .i64 ((k:Int)+1)=((k+1:Nat):Int):=cD J;have aEo:IntKind.wrap .i64 ((i:Int)+1)=((i+1:Nat):Int):=cD J;refine aG ?_;refine⟨λcb=>?_,λeG=>?_⟩
  ·obtain⟨y,ck⟩:=dH (l:=m) (i:=k) J;have hly:L[k]? = some y:=by
    have:=congrArg (·[0]?) MU
    grind
   have iQ:hB (some 3) (k*3) (a7 eO m) = .ok (.agg ⟨eO y⟩):=by rw[o3,fN (k:=3) (λ_=>rfl),if_pos J,sD (k:=3) (λ_=>rfl) ck]
   refine cN @M @iQ ?_;rw[show eO y=[(y.1:X),.int .i64 (y.2 / 18446744073709551616),.int .u64 (y.2 % 18446744073709551616)]from rfl];refine aG ?_;refine(bK y ab _ (jB+1) (λd E bw=>by rw[aq J,aq J];grind) J).mono ?_;rintro _ ao bQ ⟨rfl,V,f5⟩;have bP:=V jB J;rw[aR]at bP;have g2:=V b J;rw[aq J,aq J,M]at g2;have ja:∀d,d<U->d≠b->u ao d=u h d:=λd E bw=>by rw[V d J,aq J,aq J];grind
   have K:∀(bD:aa (Nat × Int)),(∀q,k<q->bD[q]? = m[q]?)->bD.drop (k+1)=L.drop (k+1):=λbD Ek=>by apply pI;intro q;rw[xY,Ek _ J,<-xY,<-x3,MU,x3]
   simp(disch:=omega)only[bk,bP,g2,aEo,cu,wrS (m:=m)  (i:=i) J,seval];refine⟨λc3=>?_,λc3=>?_⟩
   ·refine⟨L.length-(k+1),J,i+1,k+1,m.set i y,rfl,J,J,rfl,ab,ab,?_,K _ (λq c3=>by rw[uN,if_neg J]),ab,J⟩;rw[gW,List.take_set_of_le J,A,gW,hly,sv,uN,if_pos rfl,if_pos J]
    grind
   ·refine⟨L.length-(k+1),J,i,k+1,m,rfl,J,J,rfl,hm,g2,?_,K _ (λ_ _=>rfl),ja,J⟩;rw[A,gW,hly,sv]
    grind
  ·have BP:k=L.length:=J
   subst BP;rw[ic]at A;simp(disch:=omega)only[bk,atQ    (J:i<L.length),acV    (0,0)  (k:=3) (λ_=>rfl) (λ_=>rfl) ahT aAQ aAR hm (J:i<L.length) M,dO,atS    (J:i<L.length),seval];refine⟨?_,λd E bw=>ab,J⟩;have B:i=(L.filter λp=>!q p).length:=ab
   refine⟨some ⟨b,0,some 3⟩,L.length,ab,λ_=>⟨b,0,some 3,false,_,rfl,rfl,(by simp),uL ..,aR _ _ _,?_,?_⟩⟩
   ·rw[fN (k:=3) (λ_=>rfl),ib,<-B,A,<-B];omega
   ·rw[Ag,A,oe,<-fN (k:=3) (enc:=eO) (λ_=>rfl),List.take_left]
section
variable {c:Nat->X} {h ac:ae} {U Y k j b:Nat} {v:X}
theorem acW{az:Type}(f:Nat->az){m:Nat}(A:k+m<=n):(((List.range n).map f).drop k).take m=(List.range m).map λi=>f (k+i):=by
 refine pI λi=>?_
 grind
theorem Bd:dy c=(List.range 45).map c:=rfl
theorem wkg(A:k<45):(dy c)[k]? = some (c k):=by rw[Bd,sw,Cy A];rfl
theorem wks(A:k<45):(dy c).set k v=dy (hi c k v):=by
 rw[Bd,Bd];refine pI λi=>?_;rw[uN,gX,CA]
 by_cases ag:i<45
 ·rw[sw,sw,Cy ag]
  by_cases e:k=i
  ·subst e;rw[if_pos rfl,if_pos A];unfold hi;grind
  ·rw[if_neg e];unfold hi;grind
 grind
theorem wk5(A:k+5<=45):hB (some 5) k (dy c) = .ok (.agg ⟨[c k,c (k+1),c (k+2),c (k+3),c (k+4)]⟩):=by rw[o3,G3,if_pos J,Bd,acW c A];rfl
theorem wk6(A:k+6<=45):hB (some 6) k (dy c) = .ok (.agg ⟨[c k,c (k+1),c (k+2),c (k+3),c (k+4),c (k+5)]⟩):=by rw[o3,G3,if_pos J,Bd,acW c A];rfl
theorem tH{l:aa X}(A:j<k\/k+l.length<=j):nJ c k l j=c j:=by unfold nJ;grind
theorem wkL{l:aa X}(D:k+l.length<=45):(dy c).take k++l++(dy c).drop (k+l.length)=dy (nJ c k l):=by
 rw[Bd,Bd];refine pI λi=>?_
 by_cases A:i<k
 ·rw[kl,tt ab,wk,if_pos A,sw,sw,Cy J];show some (c i)=some (nJ c k l i);rw[tH J]
 ·by_cases E:i<k+l.length
  ·rw[kl,Fc ab,tt ab,sw,Cy J];unfold nJ
   grind
  ·rw[Fc ab,xY,ib,oc,gX,CA,show k+l.length+(i-(min k 45+l.length))=i by omega,sw,sw];cases B:(List.range 45)[i]? with
   |none=>rfl
   |some x =>
    have:x=i:=ab
    subst this;show some (c x)=some (nJ c k l x);rw[tH J]
theorem wkw{A E B D I:X}{K:ae->Prop}(M:k+5<=45):af (jQ (some (.cells (dy c) false)) h b k [A,E,B,D,I]) K↔d4 [A,E,B,D,I]=true/\K (T h b (.cells (dy (nJ c k [A,E,B,D,I])) false)):=
 AD.trans ⟨λx=>⟨x.1,by rw[<-wkL J];exact x.2.2⟩,λx=>⟨x.1,by rw[G3];omega,by rw[wkL J];exact x.2⟩⟩
theorem yF:hi c k v k=v:=if_pos rfl
theorem dN(h:j≠k):hi c k v j=c j:=if_neg h
def hS:=And.intro @wkg (And.intro @wks (And.intro @wk5 (And.intro @wk6 (And.intro @wkw (And.intro @G3 (And.intro @yF @dN))))))
theorem ayU{p q D B:Prop}(aC:D)(A:B)(h:q)(e:D->B->q->p:=by intro aC A h;simp(config:={maxSteps:=1000000})(disch:=omega)only[bk,hS,↓reduceIte,Nat.reduceAdd,Nat.reduceSub,Nat.reduceMul,Nat.reduceLT,Nat.reduceLeDiff,Nat.reduceEqDiff,Int.reduceBEq,Int.reduceLT,Int.reduceNeg,aC,A];exact h):p:=e aC A h
theorem Hj{p q A:Prop}(aC:A)(h:q)(e:A->q->p:=by intro aC h;simp(config:={maxSteps:=1000000})(disch:=omega)only[bk,hS,aC,seval];exact h):p:=e aC h
theorem vm{p q D B:Prop}(aC:D)(A:B)(h:q)(e:D->B->q->p:=by intro aC A h;simp(config:={maxSteps:=1000000})(disch:=omega)only[bk,hS,aC,A,seval];exact h):p:=e aC A h
theorem yG{p q E I D:Prop}(aC:E)(B:I)(A:D)(h:q)(e:E->I->D->q->p:=by intro aC B A h;simp(config:={maxSteps:=1000000})(disch:=omega)only[bk,hS,aC,B,A,seval];exact h):p:=e aC B A h
theorem AS{p q I M E K:Prop}(aC:I)(B:M)(A:E)(D:K)(h:q)(e:I->M->E->K->q->p:=by intro aC B A D h;simp(config:={maxSteps:=1000000})(disch:=omega)only[bk,hS,aC,B,A,D,seval];exact h):p:=e aC B A D h
theorem Lv{p q M uJ I V K:Prop}(aC:M)(D:uJ)(A:I)(E:V)(B:K)(h:q)(e:M->uJ->I->V->K->q->p:=by intro aC D A E B h;simp(config:={maxSteps:=1000000})(disch:=omega)only[bk,hS,aC,D,A,E,B,seval];exact h):p:=e aC D A E B h
end
section
variable {own dc:Nat->Nat} {h ac g cd:ae} {U Y ap ag k ei:Nat} {v:X}
def jr(own:Nat->Nat)(h:ae)(U:Nat)(g:ae):Prop:=∀d,u g d=if d<U/\own d=0 then u h d else none
theorem Du(own:Nat->Nat)(h:ae):∀U,∃g,jr own h U g
 |0=>⟨hs,λd=>by rw[if_neg J];exact Ka d⟩
 |U+1=>by
  obtain⟨g,A⟩:=Du own h U
  by_cases e:own U=0/\u h U≠none
  ·obtain⟨o,D⟩:=NI.1 e.2;refine⟨T g U o,λd=>?_⟩
   by_cases B:d=U
   ·grind
   ·rw[aq B,A d]
    grind
  ·refine⟨g,λd=>?_⟩;rw[A d]
   grind
structure EI (ei:Nat) (own dc:Nat->Nat) (h ac:ae) (U Y:Nat):Prop where
 le:U<=Y
 same:∀d,d<U->own d≠ei->u ac d=u h d
 d3:∀d,d<U->dc d=own d
 new:∀d,U<=d->dc d=0\/dc d=ei
def lf(g h:ae):Prop:=∀d o,u g d=some o->u h d=some o
theorem jr.sub(eA:jr own h U g):lf g h:=λd o A=>by
 rw[eA d]at A
 grind
theorem jr.F(eA:jr own h U g)(B:jr dc ac Y cd)(D:EI ei own dc h ac U Y)(E:ei≠0):aA U g cd:=λd A=>by
 rw[eA d,B d,D.d3 d A]
 by_cases e:own d=0
 ·rw[if_pos ⟨by have:=D.le;omega,e⟩,if_pos ⟨A,e⟩,D.same d A J]
 grind
theorem jr.new(D:jr dc ac Y cd)(I:ag<=Y)(B:∀d,ap<=d->d<ag->dc d=0):∀d,ap<=d->d<ag->u cd d=u ac d:=λd A E=>by rw[D d,if_pos ⟨J,B d A E⟩]
variable {az:Type} {enc:az->aa X} {l:aa az}
theorem ep.sub(H:ep g U v enc k l)(S:lf g h):ep h U v enc k l:=by obtain⟨a,cap,e,H⟩:=H;refine⟨a,cap,e,λK=>?_⟩;obtain⟨b,o,E,I,cs,D,B,M,A⟩:=H K;exact⟨b,o,E,I,cs,D,B,S _ _ M,A⟩
theorem vn(H:cL g U v enc l)(S:lf g h):cL h U v enc l:=by obtain⟨a,cap,e,H⟩:=H;refine⟨a,cap,e,λI=>?_⟩;obtain⟨b,D,E,B,A,K⟩:=H I;exact⟨b,D,E,B,A,S _ _ K⟩
theorem hr.sub{low D:Int}{A B:aa Int}(H:hr g U v low D n A B q)(S:lf g h):hr h U v low D n A B q:=by obtain⟨E,K,I,e,a,b,c⟩:=H;exact⟨E,K,I,e,vn a S,vn b S,vn c S⟩
theorem lj.sub{l:aa Int}(H:lj g U v l)(S:lf g h):lj h U v l:=by
 obtain⟨aQ,D,B⟩:=H;refine⟨aQ,?_,B⟩;rcases D with w|⟨b,e,A,E⟩
 ·exact .inl w
 ·exact .inr ⟨b,e,A,S _ _ E⟩
theorem kq.sub{r c:Nat}{ai:aa GE}(H:kq g U v r c ai)(S:lf g h):kq h U v r c ai:=by obtain⟨b,D,cap,E,K,e,B,I,M,A⟩:=H;exact⟨b,D,cap,E,K,e,B,S _ _ I,M.sub S,A.sub S⟩
theorem iP.sub{ap ag:Nat}(H:iP g ap ag v enc k l)(S:lf g h):iP h ap ag v enc k l:=by
 rcases H with H|⟨b,A,B,e,D⟩
 ·exact .inl H
 ·exact .inr ⟨b,A,B,e,S _ _ D⟩
theorem nb.sub{r c:Nat}{ai:aa GE}(H:nb g U v r c ai)(S:lf g h):nb h U v r c ai:=by obtain⟨I,D,E,M,e,B,V,A,K⟩:=H;exact⟨I,D,E,M,e,B.sub S,V.sub S,(iP.sub A S),K.sub S⟩
end
def RR:cU:=λs ah h U K=>bX [(ad 0),(ad 0),(ad 0),(ad 0),(ad 0),(ad 0),ay,ay,ay,(ad 0),(.bool false)] h U λa b c=>aV s 65 [ah] b c λd e f=>bz .eql 3 d (ad 0) (af (cV [(ad 0),(ad 0),(ad 0),(ad 0),(ad 0),(ad 0),ay,ay,ay,(ad 0),(.bool false)] []) λi=>af (aS e 11 a i) λj=>aN 11 j a λk=>K (.tuple ⟨[k,(.bool false)]⟩) j f) (af (bs ah) λl=>ax e 22 l λn=>gT 11 e 11 n (ad 0) λp=>aV s 129 [p] e f λq r t=>af (aS r 11 a q) λaO=>aN 11 aO a λv=>K (.tuple ⟨[v,(.bool true)]⟩) aO t)
theorem acX:cW 61 RR:=cY []
def awq:cU:=λs ah h U K=>aV s 65 [ah] h U λa b c=>jY a (ad 0) (af (bs ah) λe=>ax b 22 e λg=>af (gi 11 g (some (ad 1)) (some a) (some a)) λi=>af (bs ah) λj=>bn 22 j λk=>af (aS b 1 k i) λl=>K (.tuple ⟨[]⟩) l c) (K (.tuple ⟨[]⟩) b c)
theorem atT:cW 62 awq:=cY []
def Ge(s:al)(K:bN)(co cm Ui:X)(au:ae)(a0:Nat):Prop:=br Ui (K (.bool false) au a0) (af (bs co) λa=>bn 7 a λb=>ax au 1 b λd=>ax au 1 cm λf=>cg 131 [d,f] au a0 λg i j=>af (bs co) λk=>bn 7 k λl=>bn 1 l λm=>bS i m λn=>c7 m n (bn 1 cm λo=>bS i o λp=>c7 o p (cg 132 [n,p] i j λq r t=>af (cV [(ad 0),(ad 0)] [(0,1,g),(1,1,q)]) λaO=>bX [(ad 0),(ad 0)] r t λv w x=>af (aS w 2 v aO) λy=>ax y 0 cm λbC=>bz .eql 94 bC (ad 1) (aN 11 y cm λbM=>aN 2 y v λbg=>aV s 133 [co,bM,bg] y x λbW b7 bI=>K bW b7 bI) (bz .eql 94 bC (ad 2) (aN 11 y cm λcB=>aN 2 y v λds=>aV s 134 [co,cB,ds] y x λde eN am=>K de eN am) (bz .eql 94 bC (ad 3) (aN 11 y cm λeU=>aN 2 y v λgG=>aV s 135 [co,eU,gG] y x λgU gL io=>K gU gL io) (bz .eql 94 bC (ad 4) (aN 11 y cm λgH=>aN 2 y v λmj=>aV s 136 [co,gH,mj] y x λlQ lR oX=>K lQ lR oX) (bz .eql 94 bC (ad 5) (aN 11 y cm λbm=>aN 2 y v λqz=>aV s 137 [co,bm,qz] y x λbe i1 pC=>K be i1 pC) (K (.bool false) y x)))))) 1 [au]) 1 [au])
def ae4:cO:=λs ah t1 h U K=>bH t1 h U λa b c=>bz .eql 83 ah (.pointer none) (Ge s K ah a (.bool true) b c) (cg 130 [ah] b c λe f g=>bn 2 a λi=>bS f i λj=>c7 i j (bz .neq 3 j e (Ge s K ah a (.bool true) f g) (ax f 1 a λm=>cG m (ad 0) (Ge s K ah a (.bool true) f g) (ax f 1 a λp=>af (bs ah) λq=>bn 7 q λr=>ax f 0 r λaO=>af (bs ah) λv=>bn 7 v λw=>ax f 1 w λy=>bt .mul 3 aO y λz=>bt .geq 3 p z λbC=>(Ge s K ah a bC f g)))) 1 [b])
theorem atU:cX 63 ae4:=cZ []
def ae5:cU:=λs ah h U K=>bz .eql 83 ah (.pointer none) (K (ad 0) h U) (af (bs ah) λb=>ax h 22 b λd=>cP d λe=>K e h U)
theorem atV:cW 65 ae5:=cY []
def aaH:cU:=λs ah h U K=>bz .eql 83 ah (.pointer none) (K (ad 0) h U) (af (bs ah) λb=>ax h 27 b λd=>K d h U)
theorem amn:cW 67 aaH:=cY []
def acY:cU:=λs ah h U K=>bz .eql 83 ah (.pointer none) (K (ad 0) h U) (af (bs ah) λb=>ax h 26 b λd=>K d h U)
theorem ap1:cW 68 acY:=cY []
def acZ:cU:=λs ah h U K=>bX [(ad 0),(ad 0),ay,ay,ay] h U λa b c=>bz .eql 83 ah (.pointer none) (af (cV [(ad 0),(ad 0),ay,ay,ay] []) λe=>af (aS b 5 a e) λf=>aN 5 f a λg=>K g f c) (af (bs ah) λi=>jw 5 b 28 i λk=>bX [(ad 0),(ad 0),ay,ay,ay] b c λl m n=>af (aS m 5 l k) λo=>ax o 2 l λq=>cg 88 [q] o n λr t aO=>bn 3 l λv=>bS t v λw=>c7 v w (cg 88 [w] t aO λx y z=>bn 4 l λbC=>bS y bC λbV=>c7 bC bV (cg 139 [bV] y z λbM bg bW=>bn 0 l λb7=>bS bg b7 λbI=>c7 b7 bI (bn 1 l λcJ=>bS bg cJ λcB=>c7 cJ cB (af (cV [(ad 0),(ad 0),ay,ay,ay] [(0,1,bI),(1,1,cB),(2,1,r),(3,1,x),(4,1,bM)]) λds=>af (aS bg 5 a ds) λde=>aN 5 de a λeN=>K eN de bW) 3 [y,t,o]) 3 [y,t,o]) 2 [t,o]) 1 [o])
theorem ap2:cW 69 acZ:=cY []
def agE:cU:=λs ah h U K=>bH ah h U λa b c=>bX [(ad 0),(ad 0),(ad 0),(ad 0),(ad 0),(ad 0),ay,ay,ay,(ad 0),(.bool false)] b c λd e f=>bn 5 a λg=>ax e 1 g λj=>cg 217 [j] e f λk l m=>bn 7 a λn=>bS l n λo=>c7 n o (cg 218 [o] l m λp q r=>bn 5 a λt=>bn 1 t λaO=>af (aS q 1 aO k) λv=>bn 7 a λw=>af (aS v 1 w p) λx=>aN 11 x a λy=>af (aS x 11 d y) λz=>aN 11 z d λbC=>K bC z r) 1 [e]
theorem awr:cW 129 agE:=cY []
def aaI:cU:=λs ah h U K=>bz .eql 83 ah (.pointer none) (K (ad (-1)) h U) (af (bs ah) λb=>bn 0 b λc=>ax h 0 c λe=>af (bs ah) λf=>bn 0 f λg=>ax h 1 g λj=>cg 219 [ah,e,j] h U λk l m=>K k l m)
theorem amo:cW 130 aaI:=cY []
def FY:aa (aa Nat):=[[0,11,84,85],[0,13,127,128]]
def XF(s:al)(aC et US MV:X)(h:ae)(U:Nat)(N:aP)(aL:aP)(R:aP):Prop:=cG MV US (af (bs aC) λb=>ax h 24 b λd=>af (j3 Q h 3 (.agg #[(ad 0),ay]) false d MV) λe=>dY (fc 1 [(ad 0),ay] [(0,2,e)]) h U λf g i=>dG (dO (dM 2 g i et f)) λj k l=>cj MV λm=>N [aC,j,US,m] k l) (aL [aC,et,US,MV] h U)
def XG(s:al)(aC gt S9 LY:X)(h:ae)(U:Nat)(N:aP)(aK:aP)(R:aP):Prop:=cG LY S9 (af (bs aC) λb=>bn 0 b λc=>ax h 1 c λe=>cg 219 [aC,LY,e] h U λf g i=>af (bs aC) λj=>bn 23 j λk=>bS g k λl=>c7 k l (aN 2 g gt λm=>jt 2 gt m (af (cV [(ad 0),(ad 0),(ad 0),(ad 0),(ad 0),(ad 0),ay,ay,ay,(ad 0),(.bool false)] [(0,1,(ad 2)),(2,1,f),(4,1,l),(5,2,m)]) λn=>cg 213 [aC,n] g i λo p q=>cj LY λr=>N [aC,gt,S9,r] p q) 1 [h]) 1 [h]) (aK [aC,gt,S9,LY] h U)
def CK(s:al)(K:bN)(co ee fv IF:X)(au:ae)(a0:Nat):Prop:=br IF (K (.bool false) au a0) (af (bs co) λa=>ax au 24 a λc=>ax au 0 ee λe=>aN 2 au fv λf=>af (m9 Q 3 au c e f) λg=>af (bs co) λi=>ax g 24 i λk=>af (w2 g k) λl=>af (bs co) λm=>bn 7 m λn=>ax g 0 n λp=>cG l p (K (.bool true) g a0) (af (bs co) λr=>bn 7 r λt=>ax g 0 t λv=>bE (bU Q s FY 133 0) [co,ay,v,(ad 0)] g a0 [(0,λw x y=>af (bs (bb w 0)) λz=>bn 2 z λbC=>ax x 1 bC λbM=>af (bs (bb w 0)) λbg=>bn 7 bg λbW=>ax x 0 bW λbI=>af (bs (bb w 0)) λcJ=>bn 7 cJ λcB=>ax x 1 cB λde=>af (bs (bb w 0)) λeN=>bn 0 eN λam=>ax x 1 am λeU=>cg 223 [bM,bI,de,eU,(bb w 1)] x y λgG gU gL=>af (cp gG 0) λio=>bX [(ad 0),ay] gU gL λi0 gH mj=>af (aS gH 2 i0 io) λlQ=>af (cp gG 1) λlR=>af (bs (bb w 0)) λoX=>bn 7 oX λqw=>ax lQ 0 qw λqz=>bE (bU Q s FY 133 1) [(bb w 0),i0,qz,(ad 0)] lQ mj [(2,λbe i1 pC=>af (bs (bb be 0)) λgf=>ax i1 24 gf λxP=>dG (dO (nE Q .clear [171] i1 pC [xP])) λpB lS jC=>af (bs (bb be 0)) λv7=>ax lS 23 v7 λuD=>cj uD λeV=>af (bs (bb be 0)) λB9=>bn 23 B9 λqx=>af (aS lS 1 qx eV) λkW=>K (.bool true) kW jC)] (λ_ _ _=>False))] (λ_ _ _=>False)))
def aaJ:ge:=λs ah t1 t2 h U K=>bH t1 h U λa b c=>bH t2 b c λd e f=>ax e 0 d λi=>cg 222 [ah,i] e f λj k l=>aN 11 k a λm=>jt 11 a m (cg 221 [m,j] k l λn o p=>af (cp n 0) λq=>bX [(ad 0),ay] o p λr t aO=>af (aS t 2 r q) λv=>af (cp n 1) λw=>af (bs ah) λx=>ax v 24 x λz=>ax v 0 d λbV=>af (j3 Q v 3 (.agg #[(ad 0),ay]) true z bV) λbM=>af (cp bM 0) λbg=>bX [(ad 0),ay] v aO λbW b7 bI=>af (aS b7 2 bW bg) λcJ=>af (cp bM 1) λcB=>br cB (CK s K ah d r (.bool true) cJ bI) (af (du .not w) λds=>br ds (CK s K ah d r (.bool true) cJ bI) (af (bs ah) λde=>bn 0 de λeN=>ax cJ 0 eN λan=>bz .neq 3 an (ad 0) (CK s K ah d r (.bool true) cJ bI) (ax cJ 1 d λgU=>bz .neq 3 gU (ad 0) (CK s K ah d r (.bool true) cJ bI) (ax cJ 4 a λi0=>af (bs ah) λgH=>ax cJ 23 gH λlQ=>bt .neq 3 i0 lQ λlR=>(CK s K ah d r lR cJ bI)))))) 1 [e]
theorem akc{s:al}{A B D:X}{h:ae}{U:Nat}{N R:aP}:bU Q s FY 133 0 [aC,A,B,D] h U N [(0,aL)] R=XF s aC A B D h U N aL R:=by kernel_rfl
theorem akd{s:al}{D B A:X}{h:ae}{U:Nat}{N E R:aP}:bU Q s FY 133 1 [aC,D,B,A] h U N [(2,E)] R=XG s aC D B A h U N E R:=by kernel_rfl
theorem amp:gp 133 aaJ:=gu FY
def FG(s:al)(K:bN)(co di fv UT:X)(au:ae)(a0:Nat):Prop:=br UT (K (.bool false) au a0) (ax au 4 di λb=>aV s 224 [co,b] au a0 λc d e=>bX [(ad 0),(ad 0)] d e λf g i=>af (aS g 2 f c) λj=>af (bs co) λk=>bn 2 k λl=>ax j 0 l λn=>ax j 4 di λp=>cg 225 [n,p] j i λq r t=>bn 1 f λaO=>bS r aO λv=>c7 aO v (aN 2 r fv λw=>jt 2 fv w (cg 226 [v,w] r t λx y z=>af (bs co) λbC=>bn 11 bC λbV=>aN 5 y bV λbM=>jt 5 bV bM (af (bs co) λbg=>bn 16 bg λbW=>aN 6 y bW λb7=>jt 6 bW b7 (bn 0 f λbI=>bS y bI λcJ=>c7 bI cJ (af (cV [(ad 0),(ad 0),(ad 0),ay,ay,ay,(ad 0),(ad 0),ay,ay,ay,ay,(ad 0),(ad 0),ay,(ad 0),ay,ay,ay,(.bool false),(ad 0)] [(0,1,q),(1,5,bM),(6,6,b7),(12,6,x),(19,1,(.bool true)),(20,1,cJ)]) λcB=>bX [(ad 0),(ad 0),(ad 0),ay,ay,ay,(ad 0),(ad 0),ay,ay,ay,ay,(ad 0),(ad 0),ay,(ad 0),ay,ay,ay,(.bool false),(ad 0)] y z λds de eN=>af (aS de 21 ds cB) λam=>aN 21 am ds λan=>aV s 227 [an] am eN λeU gG gU=>af (cp eU 0) λgL=>af (cp eU 1) λio=>af (cp eU 2) λi0=>af (bs co) λgH=>ax gG 25 gH λlQ=>cj lQ λlR=>af (bs co) λoX=>bn 25 oX λqw=>af (aS gG 1 qw lR) λbm=>af (bs co) λqz=>bn 0 qz λbe=>ax bm 0 be λpC=>cg 219 [co,pC,(ad 0)] bm gU λgf bi xP=>bn 4 di λpB=>bS bi pB λlS=>c7 pB lS (af (cV [(ad 0),(ad 0),(ad 0),(ad 0),(ad 0),(ad 0),ay,ay,ay,(ad 0),(.bool false)] [(0,1,(ad 3)),(2,1,gf),(4,1,lS),(7,1,gL)]) λjC=>cg 213 [co,jC] bi xP λv7 aQ uD=>K (.bool true) aQ uD) 1 [bm]) 2 [r,j]) 2 [r,j]) 2 [r,j]) 1 [j]) 1 [j])
def YP:ge:=λs ah t1 t2 h U K=>bH t1 h U λa b c=>bH t2 b c λd e f=>aN 11 e a λg=>af (bs ah) λi=>bn 11 i λj=>ax e 1 j λl=>cg 221 [g,l] e f λm n o=>af (cp m 0) λp=>bX [(ad 0),ay] n o λq r t=>af (aS r 2 q p) λaO=>af (cp m 1) λv=>af (du .not v) λw=>br w (FG s K ah a q (.bool true) aO t) (ax aO 0 d λy=>bz .neq 3 y (ad 0) (FG s K ah a q (.bool true) aO t) (ax aO 1 d λbV=>af (bs ah) λbM=>bn 0 bM λbg=>ax aO 1 bg λb7=>bz .neq 3 bV b7 (FG s K ah a q (.bool true) aO t) (ax aO 4 a λcB=>af (bs ah) λds=>ax aO 25 ds λeN=>bt .neq 3 cB eN λam=>(FG s K ah a q am aO t))))
theorem ake:gp 134 YP:=gu []
def x8(s:al)(K:bN)(co di ee IF:X)(au:ae)(a0:Nat):Prop:=br IF (K (.bool false) au a0) (af (bs co) λa=>bn 2 a λb=>ax au 0 b λd=>ax au 4 di λf=>cg 225 [d,f] au a0 λg i j=>af (bs co) λk=>bn 40 k λl=>bS i l λm=>c7 l m (bn 7 di λn=>bS i n λo=>c7 n o (dY (fc 2 [ay,ay] [(0,1,m),(1,1,o)]) i j λp q r=>cg 229 [g,p] q r λt aO v=>af (cp t 0) λw=>af (bs co) λx=>bn 40 x λy=>af (aS aO 1 y w) λz=>af (cp t 1) λbC=>af (bs co) λbV=>ax z 41 bV λbg=>ax z 1 ee λb7=>af (m9 Q 3 z bg b7 (.bool true)) λbI=>af (bs co) λcJ=>ax bI 41 cJ λds=>af (w2 bI ds) λde=>af (bs co) λeN=>bn 7 eN λam=>ax bI 1 am λeU=>bz .eql 3 de eU (ax bI 4 di λgL=>aV s 230 [co,gL] bI v λio i0 gH=>K (.bool true) i0 gH) (K (.bool true) bI v)) 1 [au]) 1 [au])
def YQ:ge:=λs ah t1 t2 h U K=>bH t1 h U λa b c=>bH t2 b c λd e f=>af (bs ah) λg=>bn 0 g λi=>ax e 1 i λk=>bz .neq 3 k (ad 0) (x8 s K ah a d (.bool true) e f) (ax e 0 d λn=>af (bs ah) λo=>bn 0 o λp=>ax e 0 p λr=>bz .neq 3 n r (x8 s K ah a d (.bool true) e f) (af (bs ah) λaO=>ax e 27 aO λw=>bz .neq 86 w (ad 0) (x8 s K ah a d (.bool true) e f) (af (bs ah) λy=>ax e 38 y λbC=>br bC (x8 s K ah a d (.bool true) e f) (ax e 4 a λbM=>af (bs ah) λbg=>ax e 26 bg λb7=>cj b7 λbI=>bz .neq 3 bM bI (x8 s K ah a d (.bool true) e f) (af (bs ah) λcB=>ax e 41 cB λde=>ax e 1 d λam=>af (j3 Q e 3 (.bool false) false de am) λan=>br an (x8 s K ah a d (.bool true) e f) (ax e 7 a λgG=>cg 228 [ah,gG] e f λgU gL io=>af (du .not gU) λi0=>(x8 s K ah a d i0 gL io)))))))
theorem akf:gp 135 YQ:=gu []
def PH:aa (aa Nat):=[[0,9,74,75]]
def YR(s:al)(aC cF qp xD:X)(h:ae)(U:Nat)(N:aP)(aL:aP)(R:aP):Prop:=cG xD qp (cg 219 [aC,xD,(ad 0)] h U λb c d=>af (bs aC) λe=>bn 42 e λf=>bS c f λg=>c7 f g (af (cV [(ad 0),(ad 0),(ad 0),(ad 0),(ad 0),(ad 0),ay,ay,ay,(ad 0),(.bool false)] [(0,1,(ad 5)),(2,1,b),(4,1,g),(9,1,cF)]) λi=>cg 213 [aC,i] c d λj k l=>cj xD λm=>N [aC,cF,qp,m] k l) 1 [h]) (aL [aC,cF,qp,xD] h U)
def CT(s:al)(K:bN)(co di ee UT:X)(au:ae)(a0:Nat):Prop:=br UT (K (.bool false) au a0) (af (bs co) λa=>ax au 43 a λc=>ax au 0 ee λe=>aN 11 au di λf=>af (m9 Q 3 au c e f) λg=>af (bs co) λi=>ax g 43 i λk=>af (w2 g k) λl=>af (bs co) λm=>bn 7 m λn=>ax g 0 n λp=>cG l p (K (.bool true) g a0) (aV s 231 [co] g a0 λr t aO=>af (bs co) λv=>bn 7 v λw=>ax t 0 w λy=>bE (bU Q s PH 136 0) [co,r,y,(ad 0)] t aO [(0,λz bC bV=>af (bs (bb z 0)) λbM=>ax bC 43 bM λbW=>dG (dO (nE Q .clear [173] bC bV [bW])) λb7 bI cJ=>af (bs (bb z 0)) λcB=>ax bI 42 cB λde=>cj de λeN=>af (bs (bb z 0)) λam=>bn 42 am λan=>af (aS bI 1 an eN) λeU=>bt .neq 86 (bb z 1) (ad 0) λgG=>af (bs (bb z 0)) λgU=>bn 44 gU λgL=>af (aS eU 1 gL gG) λio=>K (.bool true) io cJ)] (λ_ _ _=>False)))
def ac0:ge:=λs ah t1 t2 h U K=>bH t1 h U λa b c=>bH t2 b c λd e f=>af (bs ah) λg=>ax e 43 g λj=>ax e 0 d λl=>af (j3 Q e 3 (.agg #[(ad 0),(ad 0),(ad 0),(ad 0),(ad 0),(ad 0),ay,ay,ay,(ad 0),(.bool false)]) true j l) λm=>af (cp m 0) λn=>bX [(ad 0),(ad 0),(ad 0),(ad 0),(ad 0),(ad 0),ay,ay,ay,(ad 0),(.bool false)] e f λo p q=>af (aS p 11 o n) λr=>af (cp m 1) λt=>br t (CT s K ah a d (.bool true) r q) (af (bs ah) λaO=>jw 2 r 0 aO λw=>af (cV [(ad 0),(ad 0)] []) λx=>bz .neq 162 w x (CT s K ah a d (.bool true) r q) (af (bs ah) λz=>ax r 44 z λbV=>br bV (CT s K ah a d (.bool true) r q) (ax r 1 d λbg=>bz .neq 3 bg (ad 0) (CT s K ah a d (.bool true) r q) (ax r 4 a λbI=>af (bs ah) λcJ=>ax r 42 cJ λds=>bt .neq 3 bI ds λde=>(CT s K ah a d de r q)))))
theorem amq{s:al}{B A:X}{h:ae}{U:Nat}{N R:aP}:bU Q s PH 136 0 [aC,cF,B,A] h U N [(0,aL)] R=YR s aC cF B A h U N aL R:=by kernel_rfl
theorem ap3:gp 136 ac0:=gu PH
def JP(s:al)(K:bN)(co fv hY y74:X)(au:ae)(a0:Nat):Prop:=br y74 (af (bs co) λa=>jw 5 au 33 a λc=>af (bs co) λd=>bn 28 d λe=>af (aS au 5 e c) λf=>af (bs co) λg=>bn 26 g λi=>af (aS f 1 i fv) λj=>bz .eql 86 hY (ad 0) (aV s 232 [co] j a0 λl m n=>K (.bool true) m n) (K (.bool true) j a0)) (bz .eql 86 hY (ad 0) (aV s 232 [co] au a0 λp q r=>K (.bool true) q r) (K (.bool true) au a0))
def wu(s:al)(K:bN)(co fv hY Uj:X)(au:ae)(a0:Nat):Prop:=br Uj (K (.bool false) au a0) (af (bs co) λa=>bn 38 a λb=>af (aS au 1 b (.bool false)) λc=>af (bs co) λd=>bn 39 d λe=>af (aS c 1 e (.bool true)) λf=>af (bs co) λg=>bn 27 g λi=>af (aS f 1 i hY) λj=>jY fv (ad 0) (bt .neq 86 hY (ad 3) λl=>(JP s K co fv hY l j a0)) (JP s K co fv hY (.bool false) j a0))
def JQ(s:al)(K:bN)(co di ee fv:X)(au:ae)(a0:Nat):Prop:=ax au 9 di λb=>af (bs co) λc=>bn 0 c λd=>ax au 1 d λf=>bz .neq 3 f (ad 0) (wu s K co fv b (.bool true) au a0) (aN 2 au ee λi=>af (cV [(ad 0),(ad 0)] []) λj=>bz .neq 162 i j (wu s K co fv b (.bool true) au a0) (af (bs co) λl=>ax au 38 l λn=>af (du .not n) λo=>br o (wu s K co fv b (.bool true) au a0) (af (bs co) λp=>ax au 27 p λr=>bz .neq 86 r (ad 0) (wu s K co fv b (.bool true) au a0) (ax au 4 di λv=>bz .neq 3 v fv (wu s K co fv b (.bool true) au a0) (bz .lss 86 b (ad 0) (wu s K co fv b (.bool true) au a0) (bt .gtr 86 b (ad 3) λy=>(wu s K co fv b y au a0)))))))
def YS:ge:=λs ah t1 t2 h U K=>bH t1 h U λa b c=>bH t2 b c λd e f=>af (bs ah) λg=>ax e 39 g λj=>br j (af (bs ah) λk=>ax e 26 k λm=>cj m λn=>(JQ s K ah a d n e f)) (JQ s K ah a d (ad 0) e f)
theorem akg:gp 137 YS:=gu []
def aaK:cO:=λs ah t1 h U K=>bH ah h U λa b c=>bX [(ad 0),ay] b c λd e f=>bn 5 a λg=>ax e 1 g λj=>cg 217 [j] e f λk l m=>bn 5 a λn=>bn 0 n λo=>bS l o λp=>c7 o p (af (cV [(ad 0),ay] [(0,1,p),(1,1,k)]) λq=>bX [(ad 0),ay] l m λr t aO=>af (aS t 2 r q) λv=>aN 2 v r λw=>cg 312 [w] v aO λx y z=>aN 2 y r λbC=>jt 2 r bC (af (aS y 2 d bC) λbV=>br x (bn 0 r λbM=>bS bV bM λbg=>c7 bM bg (bt .eql 3 bg t1 λbW=>aN 2 bV d λb7=>K (.tuple ⟨[b7,bW]⟩) bV z) 1 [y,v]) (aN 2 bV d λbI=>K (.tuple ⟨[bI,(.bool false)]⟩) bV z)) 1 [v]) 1 [e]
theorem amr:cX 221 aaK:=cZ []
def ac1:cO:=λs ah t1 h U K=>af (bs ah) λa=>bn 2 a λb=>ax h 1 b λd=>af (bs ah) λe=>bn 7 e λf=>ax h 0 f λi=>cg 126 [d,i,t1] h U λj k l=>af (bs ah) λm=>bn 7 m λn=>bn 1 n λo=>bS k o λp=>c7 o p (af (bs ah) λq=>bn 0 q λr=>bn 1 r λt=>bS k t λaO=>c7 t aO (cg 126 [d,p,aO] k l λv w x=>af (min2 false j v) λy=>af (bs ah) λz=>bn 7 z λbC=>ax w 0 bC λbM=>cj t1 λbg=>cg 126 [d,bM,bg] w x λbW b7 bI=>af (bs ah) λcJ=>bn 7 cJ λcB=>bn 1 cB λds=>bS b7 ds λde=>c7 ds de (af (bs ah) λeN=>bn 0 eN λam=>bn 1 am λan=>bS b7 an λeU=>c7 an eU (cj eU λgG=>cg 126 [d,de,gG] b7 bI λgU gL io=>af (min2 true bW gU) λi0=>bt .sub 3 i0 y λgH=>af (min2 false (ad 0) gH) λmj=>K mj gL io) 1 [w]) 1 [w]) 1 [h]) 1 [h]
theorem ap4:cX 222 ac1:=cZ []
def aaL:cO:=λs ah t1 h U K=>bX [(ad 0),(ad 0)] h U λa b c=>af (bs ah) λd=>ax b 10 d λf=>cP f λg=>bz .eql 3 g (ad 0) (af (cV [(ad 0),(ad 0)] []) λj=>af (aS b 2 a j) λk=>aN 2 k a λl=>K l k c) (af (bs ah) λm=>ax b 10 m λo=>bt .sub 3 t1 (ad 1) λp=>af (bs ah) λq=>ax b 10 q λt=>cP t λaO=>bt .rem 3 p aO λv=>gT 2 b 2 o v λx=>af (aS b 2 a x) λy=>aN 2 y a λz=>K z y c)
theorem ams:cX 224 aaL:=cZ []
def O1:aa (aa Nat):=[[0,4,5,8,9,10]]
def XH(s:al)(aC aZ bA bv cF dd:X)(h:ae)(U:Nat)(N:aP)(aL:aP)(R:aP):Prop:=cG dd cF (gT 3 h 3 bv dd λc=>bX [(ad 0),(ad 0),(.int .u64 0)] h U λd e f=>af (aS e 3 d c) λg=>ax g 0 d λj=>bz .leq 3 j bA (R [aC,(.bool false),bA,bv,cF,dd] g f) (ax g 0 d λm=>af (bs aC) λn=>bn 11 n λo=>ax g 0 o λq=>bz .geq 3 m q (R [aC,(.bool false),bA,bv,cF,dd] g f) (ax g 0 d λaO=>cj dd λv=>N [aC,aZ,aO,bv,cF,v] g f))) (aL [aC,aZ,bA,bv,cF,dd] h U)
def aaM:cO:=λs ah t1 h U K=>cP t1 λa=>bE (bU Q s O1 228 0) [ah,(.bool false),(ad (-1)),t1,a,(ad 0)] h U [(0,λb c d=>K (.bool true) c d)] (λe f g=>K (bb e 1) f g)
theorem akh{s:al}{E D B A:X}{h:ae}{U:Nat}{N R:aP}:bU Q s O1 228 0 [aC,E,D,B,cF,A] h U N [(0,aL)] R=XH s aC E D B cF A h U N aL R:=by kernel_rfl
theorem amt:cX 228 aaM:=cZ O1
def YT:cO:=λs ah t1 h U K=>af (bs ah) λa=>jw 5 h 2 a λc=>af (bs ah) λd=>jw 5 h 28 d λf=>cg 331 [c,f,t1] h U λg i j=>af (cp g 0) λk=>bX [ay] i j λl m n=>bX [(.bool false)] m n λo p q=>af (aS p 1 l k) λr=>af (cp g 1) λt=>af (aS r 1 o t) λaO=>af (bs ah) λv=>ax aO 40 v λx=>af (.ok (.func (.func 333) ⟨[]⟩ ⟨[l,o]⟩)) λy=>aV s 332 [x,y] aO q λz bC bV=>af (bs ah) λbM=>bn 40 bM λbg=>af (aS bC 1 bg ay) λbW=>af (bs ah) λb7=>jw 5 bW 28 b7 λcJ=>af (bs ah) λcB=>bn 33 cB λds=>af (aS bW 5 ds cJ) λde=>af (bs ah) λeN=>bn 2 eN λam=>ax de 0 am λeU=>cg 225 [eU,t1] de bV λgG gU gL=>af (bs ah) λio=>bn 11 io λi0=>bn 0 i0 λgH=>bS gU gH λmj=>c7 gH mj (cg 335 [gG,mj,z] gU gL λlQ lR oX=>af (cp lQ 0) λqw=>bX [(ad 0),ay] lR oX λbm qz be=>af (aS qz 2 bm qw) λi1=>af (cp lQ 1) λpC=>bz .eql 30 pC (ad 0) (af (bs ah) λbi=>jw 5 i1 2 bi λpB=>af (bs ah) λlS=>jw 5 i1 28 lS λv7=>aN 2 i1 bm λaQ=>cg 336 [pB,v7,t1,aQ] i1 be λuD eV B9=>af (bs ah) λqx=>bn 33 qx λkW=>af (aS eV 5 kW uD) λVM=>bt .neq 30 pC (ad 0) λVN=>aV s 127 [ah,t1,VN] VM B9 λfT qt VO=>K (.tuple ⟨[]⟩) qt VO) (bt .neq 30 pC (ad 0) λqu=>aV s 127 [ah,t1,qu] i1 be λgC hj gw=>K (.tuple ⟨[]⟩) hj gw)) 1 [de]
theorem aki:cX 230 YT:=cZ []
def XI:ge:=λs ah t1 t2 h U K=>bH ah h U λa b c=>bS b t1 λd=>ax b 0 a λf=>cg 334 [d,f] b c λg i j=>bS i t2 λk=>c7 t2 k (bt .eql 4 g k λl=>K l i j) 1 [b]
theorem aje:gp 333 XI:=gu []
def O2:aa (aa Nat):=[[0,2,23,24]]
def XJ(s:al)(aC a2 kc fW:X)(h:ae)(U:Nat)(N:aP)(aL:aP)(R:aP):Prop:=cG fW kc (aN 2 h a2 λb=>af (bs aC) λc=>bn 2 c λd=>ax h 1 d λf=>af (bs aC) λg=>bn 7 g λi=>ax h 0 i λk=>af (bs aC) λl=>bn 7 l λm=>ax h 1 m λo=>af (bs aC) λp=>bn 0 p λq=>ax h 0 q λt=>cg 338 [b,f,k,o,t,fW] h U λaO v w=>bX [(ad 0),ay] v w λx y z=>af (aS y 2 x aO) λbC=>af (bs aC) λbV=>ax bC 26 bV λbg=>cj bg λbW=>aN 2 bC x λb7=>af (cV [(ad 0),(ad 0),(ad 0),(ad 0),(ad 0),(ad 0),ay,ay,ay,(ad 0),(.bool false)] [(0,1,(ad 1)),(2,1,fW),(4,1,bW),(5,2,b7)]) λbI=>cg 213 [aC,bI] bC z λcJ cB ds=>cj fW λde=>N [aC,a2,kc,de] cB ds) (aL [aC,a2,kc,fW] h U)
def aaN:cU:=λs ah h U K=>af (bs ah) λa=>jw 5 h 2 a λc=>af (bs ah) λd=>jw 5 h 28 d λf=>af (bs ah) λg=>ax h 26 g λj=>cj j λk=>cg 337 [c,f,k] h U λl m n=>bX [(ad 0),ay] m n λo p q=>af (aS p 2 o l) λr=>af (bs ah) λt=>bn 7 t λaO=>ax r 1 aO λw=>bE (bU Q s O2 232 0) [ah,o,w,(ad 0)] r q [(0,λx y z=>af (bs (bb x 0)) λbC=>ax y 41 bC λbM=>dG (dO (nE Q .clear [172] y z [bM])) λbg bW b7=>af (bs (bb x 0)) λbI=>bn 40 bI λcJ=>af (aS bW 1 cJ ay) λcB=>K (.tuple ⟨[]⟩) cB b7)] (λ_ _ _=>False)
theorem akj{s:al}{B A fW:X}{h:ae}{U:Nat}{N R:aP}:bU Q s O2 232 0 [aC,B,A,fW] h U N [(0,aL)] R=XJ s aC B A fW h U N aL R:=by kernel_rfl
theorem amu:cW 232 aaN:=cY O2
section
variable {az:Type} {h:ae} {enc:az->aa X} {k:Nat} {v:X} {x:az} {l:aa az} {o:aw Nat}
theorem fA.tail(hk:∀x,(enc x).length=k)(xo:0<k)(g:fA h enc k v (x::l) o):∃b A E cs M B,v = .slice (some ⟨b,A,E⟩) (l.length+1) (l.length+1)/\o=some b/\u h b=some (.cells cs M)/\(cs.drop A).take k=enc x/\A+k<=cs.length /\
  gi k v (some (.int .i64 1)) (some (((l.length+1:Nat):X))) (some (((l.length+1:Nat):X))) = .ok B/\fA h enc k B l (some b):=by
 have K:∀(b A:Nat) (E:aw Nat) (cs:aa X) (M:al),xf (some ⟨b,A,E⟩)=false->u h b=some (.cells cs M)->A+(l.length+1)*k<=cs.length->(cs.drop A).take ((l.length+1)*k)=a7 enc (x::l) ->
   (cs.drop A).take k=enc x/\A+k<=cs.length/\∃B,gi k (.slice (some ⟨b,A,E⟩) (l.length+1) (l.length+1)) (some (.int .i64 1)) (some (((l.length+1:Nat):X))) (some (((l.length+1:Nat):X))) = .ok B/\fA h enc k B l (some b):=λb A E cs M c0 D V I=>by
  have aU:(l.length+1)*k=l.length*k+k:=ab
  rw[aU]at V I;refine⟨?_,J,_,afK J J c0,?_⟩
  ·have:=congrArg (List.take k) I;rw[List.take_take,z6 J]at this;rw[this];show(enc x++a7 enc l).take k=_
   grind
  ·show fA h enc k (.slice (some ⟨b,if l.length+1=1 then A else A+k,none⟩) (l.length+1-1) (l.length+1-1)) l (some b);rw[show l.length+1-1=l.length by omega]
   by_cases au:l.length+1=1
   ·rw[if_pos au];have:l=[]:=ab
    subst this;exact fA.part D J (by simp[a7])
   ·rw[if_neg au];refine fA.part D (by omega) ?_;rw[<-x3];have:=congrArg (List.drop k) I;rw[Ft,show l.length*k+k-k=l.length*k by omega]at this;rw[this];show(enc x++a7 enc l).drop k=_
    grind
 cases g with
 | @own b _ D =>
  have c0:xf (some ⟨b,0,some k⟩)=false:=by
   cases k with
   |zero=>omega
   |succ k=>rfl
  have V:=fN hk (x::l);obtain⟨h1,ao,B,aT,a9⟩:=K b 0 (some k) _ _ c0 D ab ab;exact⟨b,0,some k,_,_,B,rfl,rfl,D,h1,ao,aT,a9⟩
 | @part b o _ cs M D V I =>
  obtain⟨h1,ao,B,aT,a9⟩:=K b o none _ _ rfl D V I;exact⟨b,o,none,_,_,B,rfl,rfl,D,h1,ao,aT,a9⟩
end
structure kH where
 kind:Int
 eu:Int
 l6:Int
 round:Int
 mm:Int
 ml:aa (Nat × Int)
 nZ:aa (Nat × Int)
 n:Int
 oC:al
structure nc (h:ae) (U:Nat) (f:eB) (p:kH):Prop where
 kind:f.kind=p.kind
 eu:f.eu=p.eu
 l6:f.l6=p.l6
 round:f.round=p.round
 mm:f.mm=p.mm
 tr:ep h U (.slice f.bp f.n6 f.hQ) fF 2 p.ml
 uK:ep h U (.slice f.ba f.n7 f.jh) eO 3 p.nZ
 n8:f.n8=0
 n:f.n=p.n
 oC:f.oC=p.oC
section
variable {h ac:ae} {U Y ap ag:Nat} {f:eB} {p:kH}
theorem nc.F(H:nc h U f p)(B:aA U h ac)(A:U<=Y):nc ac Y f p:={ H with tr:=H.tr.F B A,uK:=H.uK.F B A }
theorem nc.sub(H:nc h U f p)(S:lf h ac):nc ac U f p:={ H with tr:=H.tr.sub S,uK:=H.uK.sub S }
structure lH (h:ae) (ap ag:Nat) (f:eB) (p:kH):Prop where
 is:nc h ag f p
 hQ:iP h ap ag (.slice f.bp f.n6 f.hQ) fF 2 p.ml
 jh:iP h ap ag (.slice f.ba f.n7 f.jh) eO 3 p.nZ
theorem lH.F{ec dk:Nat}(H:lH h ap ag f p)(A:∀b,ap<=b->b<ag->u ac b=u h b)(B:ec<=ap)(D:ag<=dk):lH ac ec dk f p where
 is:={ H.is with tr:=cL.o   (λ_=>rfl) (H.hQ.F A B D).gv.rd,uK:=cL.o   (λ_=>rfl) (H.jh.F A B D).gv.rd }
 hQ:=H.hQ.F A B D
 jh:=H.jh.F A B D
def qU(h:ae)(U:Nat):aa eB->aa kH->Prop
 | [],[]=>True
 |f::dx,p::cf=>nc h U f p/\qU h U dx cf
 |_,_=>False
theorem qU.F(B:aA U h ac)(A:U<=Y):∀{dx cf},qU h U dx cf->qU ac Y dx cf
 | [],[],_=>trivial
 |_::_,_::_,H=>⟨H.1.F B A,qU.F B A H.2⟩
 | [],_::_,H=>H.elim
 |_::_,[],H=>H.elim
theorem qU.app:∀{dx cf gs I5},qU h U dx cf->qU h U gs I5->qU h U (dx++gs) (cf++I5)
 | [],[],_,_,_,G=>G
 |_::_,_::_,_,_,H,G=>⟨H.1,qU.app H.2 G⟩
 | [],_::_,_,_,H,_=>H.elim
 |_::_,[],_,_,H,_=>H.elim
theorem qU.len:∀{dx cf},qU h U dx cf->dx.length=cf.length
 | [],[],_=>rfl
 |_::_,_::_,H=>by rw[nC,nC,qU.len H.2]
 | [],_::_,H=>H.elim
 |_::_,[],H=>H.elim
end
theorem XK{s:al}{h:ae}{U:Nat}{v:X}{l:aa (Nat × Int)}(E:ep h U v eO 3 l)(I:l.length<10000):
  aE Q s 218 [v] h U (λr ac Y=>iP ac U Y r eO 3 l/\aA U h ac/\U<=Y):=by refine alN ?_;exact acA (K:=λr ac Y=>iP ac U Y r eO 3 l/\aA U h ac/\U<=Y) E (λ_=>rfl) J J ahT λr ac Y B D A=>⟨B,D,A⟩
theorem atW{s:al}{h:ae}{U:Nat}{f:eB}{p:kH}(A:nc h U f p)(cy:p.ml.length<10000)(eD:p.nZ.length<10000):
  aE Q s 129 [.agg ⟨eg f⟩] h U (λr ac Y=>∃kG,r = .agg ⟨eg kG⟩/\lH ac U Y kG p/\aA U h ac/\U<=Y):=by
 refine awr ?_;have V:∀{o aX},aA U h (T (T h U o) (U+1) aX):=aM
 unfold agE eg;refine aG ?_;refine(CJ (A.tr.F  V J) cy).mono ?_;rintro IZ bP a5 ⟨M,D,K⟩;refine⟨K,?_⟩;have hR:=(D U J).trans ((aq J).trans (aR _ _ _));have dl:=(D (U+1) J).trans (aR _ _ _);have cM:=V.trans D J;simp(disch:=omega)only[bk,hR,gc,seval];refine(XK (A.uK.F  cM J) eD).mono ?_;rintro V0 g2 bQ ⟨I,E,B⟩;refine⟨B,?_⟩;have fX:=(E U J).trans hR;have eH:=(E (U+1) J).trans dl;obtain⟨bp,hQ,rfl⟩:=M.form;obtain⟨ba,jh,rfl⟩:=I.form;refine cN @fX @eH ?_;have I6:=M.F  (ec:=U+2)  (λb h1 ao=>E b ao) J B;have I7:=I.F (ac:=g2)  (dk:=bQ) ab J J;have e:lH g2 (U+2) bQ { f with bp:=bp,n6:=p.ml.length,hQ:=hQ,ba:=ba,n7:=p.nZ.length,jh:=jh } p :=
  ⟨⟨A.kind,A.eu,A.l6,A.round,A.mm,cL.o   (λ_=>rfl) I6.gv.rd,cL.o   (λ_=>rfl) I7.gv.rd,A.n8,A.n,A.oC⟩,I6,I7⟩
 exact⟨_,rfl,e.F ab J J,aM,J⟩
structure e2 (h:ae) (U aJ:Nat) (c:Nat->X) (i j C:Nat) (l:aa eB) (aQ:aw Nat):Prop where
 at_:u h aJ=some (.cells (dy c) false)
 lt:aJ<U
 hF:1<=C
 mV:C<=8
 i8:i<8
 wc:j<C
 pG:c 0 = (i:X)
 c1:c 1 = (j:X)
 hc:c 8 = (C:X)
 out:fA h eg 11 (c 22) l aQ
 aQ:∀b,aQ=some b->b≠aJ/\b<U
section
variable {s:al} {h ac:ae} {U Y aJ i j C:Nat} {c bL:Nat->X} {l:aa eB} {aQ:aw Nat}
theorem e2.set(W:e2 h U aJ c i j C l aQ)(M:u ac aJ=some (.cells (dy bL) false))(D:bL 0=c 0)(B:bL 1=c 1)(I:bL 8=c 8)(A:bL 22=c 22)(K:∀b,aQ=some b->u ac b=u h b)(E:U<=Y):e2 ac Y aJ bL i j C l aQ where
 at_:=M
 lt:=by have:=W.lt;omega
 hF:=W.hF
 mV:=W.mV
 i8:=W.i8
 wc:=W.wc
 pG:=D.trans W.pG
 c1:=B.trans W.c1
 hc:=I.trans W.hc
 out:=by rw[A];exact W.out.F K
 aQ:=λb e=>by have:=W.aQ b e;omega
theorem e2.F(W:e2 h U aJ c i j C l aQ)(B:∀b,b=aJ\/aQ=some b->u ac b=u h b)(A:U<=Y):e2 ac Y aJ c i j C l aQ :=
 W.set ((B aJ (.inl rfl)).trans W.at_) rfl rfl rfl rfl ab A
theorem Gf(W:e2 h U aJ c i j C l aQ)(bo:l.length<900)(f:eB):
  aE Q s 213 [bf aJ,.agg ⟨eg f⟩] h U (λr ac Y=>r = .tuple ⟨[]⟩/\∃M E,e2 ac Y aJ (hi c 22 M) i j C (l++[{ f with eu:=((i*C+j:Nat):Int) }]) (some E)/\U<=E/\(∀d,d<U->d≠aJ->aQ≠some d->u ac d=u h d)/\U<=Y):=by
 refine av0 ?_;have V:=W.lt;have A:∀{o},u (T h U o) aJ=some (.cells (dy c) false):=λ{o}=>by rw[aq J];exact W.at_
 obtain⟨eU,no,c6,gE⟩:∃a n bL,c 22 = .slice a n bL:=by
  have:=W.out;generalize c 22=v at this;cases this <;> grind
 unfold agj eg;refine yG @A W.pG W.c1 ?_;refine(FV A W.hF W.mV W.i8 W.wc W.hc).fZ ?_;refine yG @A W.at_ @as9 ?_;refine yl  (k:=11) (λ_=>rfl) (λ_=>rfl) J (W.out.F λb e=>?_) ({ f with eu:=((i*C+j:Nat):Int) }) (aR _ _ _) rfl J λI D B=>?_
 ·have:=W.aQ b e
  grind
 have K:u I aJ=some (.cells (dy c) false):=(B aJ J (λe=>(W.aQ aJ e).1 rfl)).trans ab;refine Hj @K ?_;refine⟨J,_,U+2,⟨aR _ _ _,J,W.hF,W.mV,W.i8,W.wc,W.pG,W.c1,W.hc,?_,λb e=>?_⟩,J,ab,J⟩
 ·have:=fA.own  (k:=11) D;rw[ib]at this;rw[yF];exact this.F ab
 grind
end
section
variable {s:al} {h ac:ae} {U Y aJ i j C low m N:Nat} {c bL:Nat->X} {l:aa eB} {aQ:aw Nat} {k src len round:Int} {bR:aa Int} {S:jq}
theorem XL(W:e2 h U aJ c i j C l aQ)(bo:l.length<900)(P:pR h U (c 6) k src len N bR)(aK:c 2 = (k:X))(cc:c 3 = (N:X))(d6:c 4 = (src:X))(hd:c 5 = (len:X))
  (ar:jp h U (.agg ⟨[c 33,c 34,c 35,c 36,c 37]⟩) low m S) (sd:low+m<=N):
  aE Q s 127 [bf aJ,(round:X),.bool false] h U (λr ac Y=>r = .tuple ⟨[]⟩/\∃dX b6,e2 ac Y aJ (hi (hi c 38 (.bool true)) 22 dX) i j C (l++[Dr ((i*C+j:Nat):Int) round (qT k len round m (cA m λi=>S.A (low+i)) (λi=>S.q (low+i)):Int) false]) (some b6)/\U<=b6/\(∀d,d<U->d≠aJ->aQ≠some d->u ac d=u h d)/\U<=Y):=by
 refine asD ?_;obtain⟨bp,hQ,nx,_⟩:=id P.d;have E:=ar;obtain⟨dq,fw,fD,hv,fP,hl,gm⟩:=ar;obtain⟨fL,eE,rfl,_⟩:=id fP;obtain⟨fY,f0,rfl,_⟩:=id hl;obtain⟨lP,ia,rfl,_⟩:=id gm;simp only[Value.agg.injEq,x1,wn,iw]at hv;obtain⟨K,V,M,MW,B⟩:=hv;have b4:∀{o aX},aA U h (T (T h U o) U aX):=aM
 have cb:=W.lt;have D:∀{o aX},u (T (T h U o) U aX) aJ=some (.cells (dy c) false):=λ{o aX}=>(b4 aJ cb).trans W.at_;unfold aey;simp(disch:=omega)only[bk,hS,D,aK,cc,d6,hd,nx,K,V,M,MW,B,seval];rw[K,V,M,MW,B]at E;have bh:=P.d;rw[nx]at bh;refine(as8 (bh.F  b4 J) P.pl (by have:=P.n60;omega) J (by have:=P.n60;omega) (hr.F E  b4 J) (jl _ _) (jl _ _)).cu λh1 a5 A I=>?_;have cH:=(A U J).trans (aR _ _ _);have uA:=(A aJ J).trans D;refine vm @cH @uA ?_;have ex:∀{o aX} d,d<U->d≠aJ->u (T (T h1 U o) aJ aX) d=u h d:=λd bh ao=>by rw[aq ao,aq J,A d J];grind
 refine⟨I,(Gf (W.set (bL:=hi c 38 (.bool true))  ab rfl rfl rfl rfl (λb e=>by have:=W.aQ b e;grind) J) bo (Dr 0 round (qT k len round m (cA m λi=>S.A (low+i)) (λi=>S.q (low+i)):Int) false)).mono ?_⟩;rintro _ aT bT ⟨rfl,dX,b6,ro,aW,vH,ga⟩;exact⟨dX,b6,ro,J,ab,J⟩
theorem D5:wF Q 83=true:=by kernel_rfl
theorem PI(W:e2 h U aJ c i j C l aQ):aE Q s 65 [bf aJ] h U (fs (l.length:X) U h):=by refine atV ?_;unfold ae5;have:=W.out.lens;simp(disch:=omega)only[bk,hS,pL D5,W.at_,this,seval];exact⟨rfl,rfl,rfl⟩
theorem XM(W:e2 h U aJ c i j C l aQ)(e:c 27 = (y:X)):aE Q s 67 [bf aJ] h U (fs (y:X) U h):=by refine amn ?_;unfold aaH;simp(disch:=omega)only[bk,hS,pL D5,W.at_,e,seval];exact⟨rfl,rfl,rfl⟩
theorem amv(W:e2 h U aJ c i j C l aQ)(e:c 26 = (y:X)):aE Q s 68 [bf aJ] h U (fs (y:X) U h):=by refine ap1 ?_;unfold acY;simp(disch:=omega)only[bk,hS,pL D5,W.at_,e,seval];exact⟨rfl,rfl,rfl⟩
theorem akk(W:e2 h U aJ c i j C l aQ):aE Q s 130 [bf aJ] h U (fs (((i*C+j:Nat):X)) U h):=by refine amo ?_;unfold aaI;simp(disch:=omega)only[bk,hS,pL D5,W.at_,W.pG,W.c1,seval];exact(FV W.at_ W.hF W.mV W.i8 W.wc W.hc).fZ ⟨J,rfl,rfl,rfl⟩
theorem ap5{f:eB}{p:kH}(W:e2 h U aJ c i j C l aQ)(e:l=f::b1)(bK:nc h U f p)(cy:p.ml.length<10000)(eD:p.nZ.length<10000):
  aE Q s 61 [bf aJ] h U (λr ac Y=>∃A,r = .tuple ⟨[.agg ⟨eg A⟩,.bool true]⟩/\lH ac U Y A p/\aA U h ac/\U<=Y):=by
 subst e;refine acX ?_;have I:∀{o},aA U h (T h U o):=aM
 obtain⟨b,D,aB,cs,bG,dX,ek,gE,aY,a1,lh,_,_⟩:=fA.tail (k:=11) (λ_=>rfl) J W.out;have V:=W.aQ b gE;have cb:=W.lt;have K:∀{o},e2 (T h U o) (U+1) aJ c i j C (f::b1) aQ:=λ{o}=>W.F ab J;unfold RR;refine aG ?_;refine(PI K).fZ ?_;have E:hB (some 11) D cs = .ok (.agg ⟨eg f⟩):=by rw[o3,if_pos J,a1]
 have au:((((f::b1).length:Nat):Int) == 0)=false:=ab
 simp(disch:=omega)only[bk,hS,au,λo=>(K ).at_,ek,I b V.2,aY,E,seval];refine(atW (bK.F I J) cy eD).mono ?_;rintro _ bP a5 ⟨A,rfl,d0,B,M⟩;have q:=(B U J).trans (aR _ _ _);unfold eg;refine bl @q ?_;exact⟨A,rfl,d0.F ab J J,aM,J⟩
theorem ap6{f:eB}(W:e2 h U aJ c i j C l aQ)(e:l=f::b1):
  aE Q s 62 [bf aJ] h U (λr ac Y=>r = .tuple ⟨[]⟩/\∃A,e2 ac Y aJ (hi c 22 A) i j C b1 aQ/\(∀d,d≠aJ->u ac d=u h d)/\Y=U):=by
 subst e;refine atT ?_;obtain⟨b,K,aB,cs,bG,A,ek,rfl,aY,a1,I,E,D⟩:=fA.tail (k:=11) (λ_=>rfl) J W.out;have V:=W.aQ b rfl;refine(PI W).fZ ?_;rw[nC];rw[ek]at E;have M:(0:Int)<((b1.length+1:Nat):Int):=J
 refine AS @M W.at_ @ek @E ?_;have B:dn A=[A]/\gN A=true:=D.cell;refine Hj @B ?_;exact⟨⟨A,⟨ab,W.lt,W.hF,W.mV,W.i8,W.wc,W.pG,W.c1,W.hc,D.F ab,ab⟩,ab⟩,λh=>absurd trivial h⟩
end
structure b8 where
 k:Int
 src:Int
 len:Int
 N:Nat
 R:Nat
 C:Nat
 lim:Nat
 bR:aa Int
 ai:aa GE
structure f4 (Z:b8):Prop where
 hL:Z.k=1\/Z.k=2\/Z.k=3\/Z.k=5
 n60:Z.N<=60
 lW:1<=Z.R
 oa:Z.R<=8
 hF:1<=Z.C
 mV:Z.C<=8
 lim:Z.lim<900
 dok:S8 Z.bR
 pl:i5 Z.k Z.N Z.src Z.len Z.bR=0
 M:hh Z.N Z.N Z.ai
 w:∀g∈Z.ai,0<=g.w/\g.w<=2147483647
def b8.bB(Z:b8)(i:Nat):Nat:=da Z.N Z.R i
def b8.lc(Z:b8)(j:Nat):Nat:=da Z.N Z.C j
def b8.H(Z:b8)(i:Nat):Nat:=Z.bB (i+1)-Z.bB i
def b8.W(Z:b8)(j:Nat):Nat:=Z.lc (j+1)-Z.lc j
def b8.cut(Z:b8)(i j:Nat):aa GE:=l1 Z.ai (Z.bB i) (Z.H i) (Z.lc j) (Z.W j)
structure kf (g:ae) (U:Nat) (c:Nat->X) (Z:b8) (i j:Nat):Prop where
 aK:c 2 = (Z.k:X)
 cc:c 3 = (Z.N:X)
 d6:c 4 = (Z.src:X)
 hd:c 5 = (Z.len:X)
 d:cL g U (c 6) c4 Z.bR
 gI:c 7 = (Z.R:X)
 jD:c 9 = (Z.lim:X)
 MX:∃a cap,c 10 = .slice a 0 cap
 rows:kq g U (.agg ⟨[c 11,c 12,c 13,c 14,c 15]⟩) (Z.H i) (Z.W j) (Z.cut i j)
 mz:∃fp,AI (Z.cut i j) fp/\hh (Z.W j) (Z.H i) fp/\nb g U (.agg ⟨[c 16,c 17,c 18,c 19,c 20,c 21]⟩) (Z.H i) (Z.W j) fp
section
variable {s:al} {g cd h ac:ae} {U Y aJ i j:Nat} {c bL:Nat->X} {l:aa eB} {aQ:aw Nat} {Z:b8}
theorem kf.set(H:kf g U c Z i j)(A:∀n,2<=n->n<22->bL n=c n):kf g U bL Z i j:=by
 refine⟨?_,?_,?_,?_,?_,?_,?_,?_,?_,?_⟩
 ·rw[A 2 J J];exact H.aK
 ·rw[A 3 J J];exact H.cc
 ·rw[A 4 J J];exact H.d6
 ·rw[A 5 J J];exact H.hd
 ·rw[A 6 J J];exact H.d
 ·rw[A 7 J J];exact H.gI
 ·rw[A 9 J J];exact H.jD
 ·rw[A 10 J J];exact H.MX
 ·rw[A 11 J J,A 12 J J,A 13 J J,A 14 J J,A 15 J J];exact H.rows
 ·rw[A 16 J J,A 17 J J,A 18 J J,A 19 J J,A 20 J J,A 21 J J];exact H.mz
theorem kf.F(H:kf g U c Z i j)(B:aA U g cd)(A:U<=Y):kf cd Y c Z i j :=
 { H with d:=H.d.F B A,rows:=H.rows.F B A,mz:=by obtain⟨fp,a,b,d⟩:=H.mz;exact⟨fp,a,b,d.F B A⟩ }
theorem kf.sub(H:kf g U c Z i j)(S:lf g h):kf h U c Z i j :=
 { H with d:=vn H.d S,rows:=H.rows.sub S,mz:=by obtain⟨fp,a,b,d⟩:=H.mz;exact⟨fp,a,b,d.sub S⟩ }
theorem kf.la(H:kf g U c Z i j)(K:f4 Z):pR g U (c 6) Z.k Z.src Z.len Z.N Z.bR:=⟨H.d,K.dok,K.n60,K.pl,K.hL⟩
theorem yH(K:f4 Z)(i:Nat):Z.bB i<=Z.bB (i+1)/\Z.bB (i+1)<=Z.N:=⟨uY J,tE K.lW _⟩
theorem DI(K:f4 Z)(j:Nat):Z.lc j<=Z.lc (j+1)/\Z.lc (j+1)<=Z.N:=⟨uY J,tE K.hF _⟩
def b8.cl(Z:b8)(i j:Nat):Nat:=jz (Z.bB i) (Z.lc j) (Z.lc (j+1))
theorem amw(W:e2 h U aJ c i j Z.C l aQ)(H:kf h U c Z i j)(K:f4 Z)(I:a<Z.R):
  aE Q s 222 [bf aJ,(a:X)] h U (fs (((Z.cl (a+1) j-Z.cl a j:Nat):X)) U h):=by
 refine ap4 ?_;unfold ac1;have V:=K.n60;have A:=K.oa;have B:=K.mV;have b5:=W.wc;have E:IntKind.wrap .i64 ((a:Int)+1)=((a+1:Nat):Int):=cD J;have D:IntKind.wrap .i64 ((j:Int)+1)=((j+1:Nat):Int):=cD J;refine yG W.at_ H.cc H.gI ?_;refine(u9 J J A J).fZ ⟨J,?_⟩;refine yG W.at_ W.hc W.c1 ?_;refine(u9 J J B J).fZ ⟨J,?_⟩;refine yG W.at_ H.gI @E ?_;refine(u9 J J A J).fZ ⟨J,?_⟩;refine AS W.at_ W.hc W.c1 @D ?_;refine(u9 J J B J).fZ ⟨J,?_⟩;have M:=yH K a;have ao:=DI K j;unfold b8.cl jz b8.bB b8.lc at *
 generalize da Z.N Z.R a=uJ at *
 generalize da Z.N Z.R (a+1)=aFd at *
 generalize da Z.N Z.C j=zI at *
 generalize da Z.N Z.C (j+1)=Nq at *
 refine aG ?_;rw[jM J J];exact⟨ab,rfl,rfl⟩
theorem akl{t:Int}(W:e2 h U aJ c i j Z.C l aQ)(A:∃a cap,c 10 = .slice a 0 cap):aE Q s 224 [bf aJ,(t:X)] h U (dI (.agg ⟨[.int .i64 0,.int .i64 0]⟩) U h):=by
 refine ams ?_;have D:∀{o},aA U h (T h U o):=aM
 have B:∀{o},u (T h U o) aJ=some (.cells (dy c) false):=λ{o}=>(D aJ W.lt).trans W.at_;obtain⟨a,cap,e⟩:=A;unfold aaL;refine ayU @B @e ?_;exact⟨λ_=>⟨rfl,aM,J⟩,λh=>absurd h (by decide)⟩
theorem XN{f:eB}{p:kH}{x:Nat->aw Int}(M:nc h U f p)(bo:p.ml=bj n x)(aI:p.mm=(n:Int))(bw:n<=60):
  aE Q s 221 [.agg ⟨eg f⟩,(n:X)] h U (λr ac Y=>∃v,r = .tuple ⟨[v,.bool true]⟩/\p6 ac U Y v n x/\aA U h ac/\U<=Y):=by
 refine amr ?_;have K:∀{o aX},aA U h (T (T h U o) (U+1) aX):=aM
 unfold aaK eg;refine aG ?_;have V:=M.tr;rw[bo]at V;have fO:=ms n x;refine(CJ (V.F  K J) J).mono ?_;rintro IZ bP a5 ⟨D,B,I⟩;refine⟨I,?_⟩;have hR:=(B U J).trans ((aq J).trans (aR _ _ _));have dl:=(B (U+1) J).trans (aR _ _ _);have cM:=K.trans B J;obtain⟨bp,hQ,rfl⟩:=D.form;simp(disch:=omega)only[bk,hR,gc,M.mm,aI,seval];refine(wx   ⟨_,rfl,cL.o   (λ_=>rfl) (D.F (ec:=0)  ab J J).gv.rd⟩ J).cu λg2 bQ A E=>⟨E,?_⟩
 have fX:=(A a5 J).trans (aR _ _ _);have eH:=(A (U+1) J).trans ((aq J).trans ((aq J).trans dl));have gD:((n:Int) == (n:Int))=true:=ab
 simp(disch:=omega)only[bk,fX,eH,gc,gD,seval];refine⟨_,rfl,⟨_,rfl,D.F (λb h1 ao=>?_) J J⟩,λb aW=>?_,J⟩
 ·rw[aq J,A b J,aq J,aq J]
 ·rw[aq J,A b J,aq J,aq J];exact cM b aW
end
section
variable {s:al} {g cd h ac:ae} {U Y aJ i j:Nat} {c bL:Nat->X} {l:aa eB} {aQ:aw Nat} {Z:b8}
theorem kf.c11(H:kf h U c Z i j):c 11 = .int .i64 (Z.H i:Int):=by
 obtain⟨b,D,cap,B,A,e,_⟩:=H.rows
 grind
theorem akm{v:X}(bO:u h aJ=some (.cells (dy c) false))(V:aJ<U)(e:c 11 = (n:X))(aI:ep h U v eO 3 L)(fJ:L.length<100000)(d5:L.Pairwise λa b=>a.1<b.1)(bw:∀p∈L,p.1<n):
  aE Q s 228 [bf aJ,v] h U (dI (.bool true) U h):=by
 refine amt ?_;unfold aaM;obtain⟨bg,cap,rfl,_⟩:=id aI;refine aG ?_;refine bE.mk (λm aF ac Y=>∃k last,m=L.length-k/\k<=L.length/\aF=[bf aJ,.bool false,.int .i64 last,.slice bg L.length cap,(L.length:X),(k:X)]/\(∀p∈L.drop k,last<(p.1:Int))/\aA U h ac/\U<=Y) L.length ⟨0,-1,J,J,rfl,J,aM,J⟩ ?_;rintro _ _ ao bQ ⟨k,last,rfl,hk,rfl,I,A,E⟩;rw[akh];unfold XH;refine aG ?_;refine⟨λvt=>?_,λeG=>⟨rfl,A,E⟩⟩;obtain⟨p,a6⟩:=dH   J;obtain⟨b,M,aB,bG,l3,j4,aW,aU,aY,D⟩:=(aI.F A E).ld (λ_=>rfl) a6;cases aU;have bh:L.drop k=p::L.drop (k+1):=by
  have B:k<L.length:=J
  rw[zT B]
  grind
 have h1:=I p ab;have y9:=bw p (kk a6);have UU:∀{o M},u (T (T ao bQ o) bQ M) aJ=some (.cells (dy c) false):=λ{o M}=>by rw[aq J,aq J];exact(A aJ V).trans bO
 rw[show eO p=[(p.1:X),.int .i64 (p.2 / 18446744073709551616),.int .u64 (p.2 % 18446744073709551616)]from rfl]at D;refine Lv @aY @D @UU @e (cD (J:k<1000000000000)) ?_;refine⟨λh=>absurd h1 J,λ_=>⟨λh=>absurd y9 J,λ_=>⟨_,J,k+1,(p.1:Int),rfl,J,rfl,λq c3=>?_,aM,J⟩⟩⟩;have K:(L.drop k).Pairwise λa b=>a.1<b.1:=ab
 rw[bh,uM]at K
 grind
end
theorem ap7{s:al}{f:Int}{v:X}{x:Nat->aw Int}{h:ae}{U:Nat}(aI:j2 h U v n x)(bw:n<=63):aE Q s 226 [(f:X),v] h U (λr ac Y=>wP ac Y r n x/\aA U h ac/\U<=Y):=by
 refine arU ?_;have I:=aI;have fO:=ms n x;obtain⟨gB,rfl,ar⟩:=aI;obtain⟨cB,lm,rfl,_⟩:=id ar;have M:∀{o e7},aA U h (T (T h U o) (U+1) e7):=aM
 unfold ad1;refine aG ?_;refine(wx (I.F  M J) J).cu λbP a5 D fi=>?_;have E:=(D U J).trans ((aq J).trans (aR _ _ _));have dl:=(D (U+1) J).trans (aR _ _ _);have cM:=M.trans D J;unfold Pk;refine bl @E ?_;refine(ami  J).mono ?_;rintro w _ _ ⟨bO,gl,eM⟩;rw[gl,eM];rcases bO with rfl|rfl
 ·refine bl @E ?_;refine(CJ (ar.F  cM J) J).mono ?_;rintro e6 g2 bQ ⟨V,A,B⟩;refine⟨B,?_⟩;have fX:=(A U J).trans E;have K:=(A (U+1) J).trans dl;obtain⟨bM,hj,rfl⟩:=V.form;simp(disch:=omega)only[bk,fX,K,E,gc,seval];exact⟨.inl ⟨_,rfl,cL.o   (λ_=>rfl) (V.F  ab J J).gv.rd⟩,aM,J⟩
 ·refine bl @E ?_;refine(ae0 (I.F  cM J) bw).mono ?_;rintro eW g2 bQ ⟨rn,A,B⟩;have K:=(A (U+1) J).trans dl;obtain⟨fD,dq,rfl,eE,f0⟩:=rn;obtain⟨eU,c6,rfl,_⟩:=id eE;obtain⟨bC,qu,rfl,_⟩:=id f0;refine bl @K ?_;exact⟨.inr ⟨_,_,rfl,(eE.F  ab J J).rd,cL.o (λ_=>rfl) (f0.F  ab J J).rd⟩,aM,J⟩
structure tc (h:ae) (ap ag:Nat) (f:eB) (p:kH):Prop where
 kind:f.kind=p.kind
 eu:f.eu=p.eu
 l6:f.l6=p.l6
 round:f.round=p.round
 mm:f.mm=p.mm
 tr:eJ h ap ag (.slice f.bp f.n6 f.hQ) fF p.ml
 uK:eJ h ap ag (.slice f.ba f.n7 f.jh) eO p.nZ
 n8:f.n8=0
 n:f.n=p.n
 oC:f.oC=p.oC
section
variable {h ac:ae} {ap ag ec dk:Nat} {f:eB} {p:kH}
theorem tc.is(H:tc h ap ag f p):nc h ag f p:=⟨H.kind,H.eu,H.l6,H.round,H.mm,cL.o   (λ_=>rfl) H.tr.rd,cL.o   (λ_=>rfl) H.uK.rd,H.n8,H.n,H.oC⟩
theorem tc.F(H:tc h ap ag f p)(A:∀b,ap<=b->b<ag->u ac b=u h b)(B:ec<=ap)(D:ag<=dk):tc ac ec dk f p:={ H with tr:=eJ.F H.tr A B D,uK:=eJ.F H.uK A B D }
theorem wY{az:Type}{enc:az->aa X}:eJ h ap ag (.slice none 0 0) enc ([]:aa az):=⟨_,_,rfl,λh=>absurd rfl h⟩
end
section
variable {s:al} {g cd h ac:ae} {U Y aJ i j:Nat} {c bL:Nat->X} {l:aa eB} {aQ:aw Nat} {Z:b8}
theorem kf.ayV(H:kf h U c Z i j):(∃I K V A D M E B lN,c 11 = .int .i64 (Z.H i:Int)/\c 12 = .int .i64 (Z.W j:Int)/\c 13 = .slice I K V/\c 14 = .slice A D M/\c 15 = .slice E B lN) /\
  ∃I K V A D M E B lN aZ dP th,c 16 = .int .i64 (Z.H i:Int)/\c 17 = .int .i64 (Z.W j:Int)/\c 18 = .slice I K V/\c 19 = .slice A D M/\c 20 = .slice E B lN/\c 21 = .slice aZ dP th:=by
 constructor
 ·obtain⟨b,aB,n,A,D,c2,E,B,ci,e⟩:=H.rows.form
  grind
 ·obtain⟨fp,_,_,a1⟩:=H.mz;obtain⟨I,K,c1,A,D,c2,E,B,ci,aZ,dP,hP,e⟩:=a1.form
  grind
theorem ayW(K:f4 Z):∀g∈Z.cut i j,0<=g.w/\g.w<=2147483647:=λg B=>by obtain⟨cd,A,rfl⟩:=f3.1 B;exact K.w cd ab
theorem ae6(K:f4 Z):hh (Z.H i) (Z.W j) (Z.cut i j):=by have A:=yH K i;have B:=DI K j;exact KM K.M (by unfold b8.H;omega) (by unfold b8.W;omega)
theorem Ta(K:f4 Z)(j:Nat):Z.W j<=60:=by have:=DI K j;have:=K.n60;unfold b8.W;omega
theorem ahU(K:f4 Z)(i:Nat):Z.H i<=60:=by have:=yH K i;have:=K.n60;unfold b8.H;omega
theorem amx{r gk cT A K B I E h7 hM ux D co M V cm di ee:X}:((rI (pS [(6,6,.agg ⟨[I,E,h7,hM,ux,D]⟩),(12,6,.agg ⟨[co,M,V,cm,di,ee]⟩),(19,1,.bool true),(20,1,.int .i64 0)]) 1 5 [gk,cT,A,K,B]
  [r,.int .i64 0,.int .i64 0,.slice none 0 0,.slice none 0 0,.slice none 0 0,.int .i64 0,.int .i64 0,.slice none 0 0,.slice none 0 0,.slice none 0 0,.slice none 0 0,.int .i64 0,.int .i64 0,.slice none 0 0,.int .i64 0,.slice none 0 0,.slice none 0 0,.slice none 0 0,.bool false,.int .i64 0]).bind λl=>.ok (Value.agg ⟨l⟩)) =
  .ok (.agg ⟨[r,gk,cT,A,K,B,I,E,h7,hM,ux,D,co,M,V,cm,di,ee,.slice none 0 0,.bool true,.int .i64 0]⟩):=rfl
theorem ajf{f:eB}{p:kH}{t:Nat}{x:Nat->aw Int}(K:f4 Z)(W:e2 h U aJ c i j Z.C l aQ)(H:kf h U c Z i j)(bo:l.length<900)(bK:nc h U f p)(cq:t<900)(hy:p.ml=bj (Z.W j) x)(ek:p.mm=(Z.W j:Int))(lO:p.round=(t:Int))(sf:c 25 = (t:X))(ag:i<Z.R)(bd:∀i y,x i=some y->0<=y/\y<=dg):
  aE Q s 134 [bf aJ,.agg ⟨eg f⟩,.agg ⟨[.int .i64 0,(j:X)]⟩] h U (λr ac Y=>r = .bool true/\∃dX b6 kG,e2 ac Y aJ (hi (hi c 25 (((t+1:Nat):X))) 22 dX) i j Z.C (l++[kG]) (some b6) /\
   tc ac U b6 kG ⟨3,((i*Z.C+j:Nat):Int),((i*Z.C+0:Nat):Int),t,0,[],bj (Z.H i) (iJ (fm Z.k t) (Z.cut i j) x),0,false⟩/\U<=b6/\(∀d,d<U->d≠aJ->aQ≠some d->u ac d=u h d)/\U<=Y):=by
 refine ake ?_;have cb:=W.lt;have b4:∀{o aX},aA U h (T (T h U o) (U+1) aX):=aM
 have pt:∀{o aX},u (T (T h U o) (U+1) aX) aJ=some (.cells (dy c) false):=λ{o aX}=>(b4 aJ cb).trans W.at_;obtain⟨⟨aD,a5,gx,a2,E,ha,a3,bT,lN,f11,UV,f13,f14,f15⟩,dL,m1,dK,b3,m2,dr,d8,m3,jF,fM,m4,lU,f16,f17,f18,f19,f20,f21⟩:=H.ayV;unfold YP eg;refine vm @pt @UV ?_;refine(XN   (bK.F  b4 J) hy ek (Ta K j)).mono ?_;rintro _ bP cr ⟨v,rfl,lV,B,fi⟩;refine⟨fi,?_⟩;have cM:=b4.trans B J;have hR:=(B U J).trans ((aq J).trans (aR _ _ _));have dl:=(B (U+1) J).trans (aR _ _ _);have Nv:=(B aJ J).trans pt;obtain⟨gB,rfl,xE⟩:=lV;obtain⟨cB,lm,rfl⟩:=xE.form;have gD:∀{y:Int},((y == y):al)=true:=ab
 have D:f.round=(t:Int):=bK.round.trans lO;simp(disch:=omega)only[bk,hS,hR,dl,Nv,W.c1,sf,D,gD,seval];unfold FG;have qB:∀{o},e2 (T (T bP cr o) cr (.cells [.int .i64 (Z.W j:Int),.slice cB (bj (Z.W j) x).length lm] false)) (cr+1) aJ c i j Z.C l aQ:=λ{o}=>W.F (λd bh=>by have TM:d<U:=bh.elim J λe=>(W.aQ d e).2;rw[aq J,aq J];exact cM d TM) J
 refine vm @hR @D ?_;refine(akl qB H.MX).cu λg2 E A f5=>?_;have aDc:u g2 cr=_:=(A cr J).trans (aR _ _ _);have UW:u g2 aJ=some (.cells (dy c) false):=(A aJ J).trans qB.at_;have V:u g2 U=_:=(A U J).trans ((aq J).trans ((aq J).trans hR));refine Lv @aDc @UW @V H.aK @D ?_;refine(PG K.hL J).fZ ⟨J,?_⟩;simp(disch:=omega)only[bk,hS,aDc,UW,V,gc,seval];have er:∀{o aX},aA U h (T (T g2 E o) E aX):=aM
 have hVo:∀{o aX},j2 (T (T g2 E o) E aX) (E+1) (.agg ⟨[.int .i64 (Z.W j:Int),.slice cB (bj (Z.W j) x).length lm]⟩) (Z.W j) x:=λ{o aX}=>⟨_,rfl,cL.o   (λ_=>rfl) (xE.F (ec:=0)  (λb h1 ao=>by rw[aq J,aq J,A b J,aq J,aq J]) J J).gv.rd⟩
 refine(ap7 hVo (by have:=Ta K j;omega)).mono ?_;rintro aI dZ dP ⟨fu,M,g5⟩;refine⟨g5,?_⟩;have g1:aA U h dZ:=er.trans M J;have hH0:=fu;obtain⟨cz,cE,aU,jx,e7,cm,aK,z2,db,cc,z3,gn,rfl⟩:=fu.form;have s4:u dZ aJ=some (.cells (dy c) false):=(g1 aJ cb).trans W.at_;have V1:u dZ E=some (.cells [.int .i64 0,.int .i64 0] false):=(M E J).trans (aR _ _ _);have lK:u dZ U=_:=(M U J).trans ((aq J).trans ((aq J).trans V));simp(disch:=omega)only[bk,hS,s4,V1,UW,f11,UV,f13,f14,f15,f16,f17,f18,f19,f20,f21,gc,seval];rw[amx];refine aG ?_;have ef:=H.rows;obtain⟨fp,eI,UX,hCo⟩:=H.mz;rw[f11,UV,f13,f14,f15]at ef;rw[f16,f17,f18,f19,f20,f21]at hCo;have I:∀{o aX},aA U h (T (T dZ dP o) dP aX):=(g1.set J).set J;refine(apZ     ⟨QQ K.hL,ae6 K,UX,eI,by have:=Ta K j;omega,ayW K,bd,_,_,_,_,rfl,ef.F  I J,hCo.F  I J,hH0.F (((aA.refl _ _).set (cC _)).set (cC _)) J⟩).mono ?_;rintro _ hw f2 ⟨z,y,rfl,dV,h3,oB⟩;have nz:aA U h hw:=I.trans h3 J;have aEp:u hw aJ=some (.cells (dy c) false):=(nz aJ cb).trans W.at_;have k1:u hw U=_:=(h3 U J).trans ((aq J).trans ((aq J).trans lK));have EU:IntKind.wrap .i64 ((t:Int)+1)=((t+1:Nat):Int):=cD J;obtain⟨lR,VQ,rfl,_⟩:=id dV;refine AS @aEp @sf @EU W.pG ?_;have ob:e2 (T hw aJ (.cells (dy (hi c 25 (((t+1:Nat):X)))) false)) f2 aJ (hi c 25 (((t+1:Nat):X))) i j Z.C l aQ:=W.set (aR _ _ _) rfl rfl rfl rfl (λb e=>by have:=W.aQ b e;rw[aq this.1];exact nz b this.2) J
 refine(FV  (j:=0) ob.at_ W.hF W.mV W.i8 (by have:=K.hF;omega) ob.hc).fZ ⟨cC _,?_⟩;simp(disch:=omega)only[bk,k1,D,gc,seval];refine(Gf ob bo ⟨3,0,((i*Z.C+0:Nat):Int),0,(t:Int),0,none,0,0,lR,(bj (Z.H i) (iJ (fm Z.k t) (Z.cut i j) x)).length,VQ,none,0,0,0,false⟩).mono ?_;rintro _ rm n7 ⟨rfl,dX,b6,zN,ht,sa,tY⟩;have c5:∀d,U<=d->aQ≠some d:=λd bh e=>by have:=W.aQ d e;omega
 refine⟨tY,dX,b6,_,zN,⟨rfl,rfl,rfl,rfl,rfl,wY,eJ.F dV (λd h1 ao=>?_) J J,rfl,rfl,rfl⟩,J,λd h1 ao aT=>?_,J⟩
 ·grind
 ·rw[sa d J ao aT,aq ao];exact nz d h1
end
def kO(h:ae)(ap ag:Nat):aa eB->aa kH->Prop
 | [],[]=>True
 |f::dx,p::cf=>tc h ap ag f p/\kO h ap ag dx cf
 |_,_=>False
section
variable {h ac:ae} {ap ag ec dk:Nat}
theorem kO.F(A:∀b,ap<=b->b<ag->u ac b=u h b)(B:ec<=ap)(D:ag<=dk):∀{dx cf},kO h ap ag dx cf->kO ac ec dk dx cf
 | [],[],_=>trivial
 |_::_,_::_,H=>⟨H.1.F A B D,kO.F A B D H.2⟩
 | [],_::_,H=>H.elim
 |_::_,[],H=>H.elim
theorem kO.app:∀{dx cf gs I5},kO h ap ag dx cf->kO h ap ag gs I5->kO h ap ag (dx++gs) (cf++I5)
 | [],[],_,_,_,G=>G
 |_::_,_::_,_,_,H,G=>⟨H.1,kO.app H.2 G⟩
 | [],_::_,_,_,H,_=>H.elim
 |_::_,[],_,_,H,_=>H.elim
theorem kO.len:∀{dx cf},kO h ap ag dx cf->dx.length=cf.length
 | [],[],_=>rfl
 |_::_,_::_,H=>by rw[nC,nC,kO.len H.2]
 | [],_::_,H=>H.elim
 |_::_,[],H=>H.elim
theorem kO.is:∀{dx cf},kO h ap ag dx cf->qU h ag dx cf
 | [],[],_=>trivial
 |_::_,_::_,H=>⟨H.1.is,kO.is H.2⟩
 | [],_::_,H=>H.elim
 |_::_,[],H=>H.elim
end
def K8(Z:b8)(i t:Nat)(x:Nat->aw Int)(j:Nat):kH:=⟨1,((i*Z.C+0:Nat):Int),(j:Int),(t:Int),((Z.cl (i+1) j-Z.cl i j:Nat):Int),bj (Z.cl (i+1) j-Z.cl i j) (λk=>x (Z.cl i j+k)),[],0,false⟩
theorem Tb{A:Nat}(D:rG Q A=true){h:ae}{U r:Nat}(B:u h r=some (.map es cI)):nE Q .clear [A] h U [.map (some r)] = .ok (.val j1 (T h r (.map [] cI)) U):=by show(bif rG Q A||nD Q A then GJ Q A h U (.map (some r))else .no "clear")=_;rw[D];show k8 h r _=_;unfold k8;rw[B]
theorem ayX:rG Q 172=true:=by kernel_rfl
def BeJ(aJ i C a5 U t:Nat)(Z:b8)(x:Nat->aw Int)(c:Nat->X)(l:aa eB)(aQ:aw Nat)(h ji:ae)(m:Nat)(aF:aa X)(ac:ae)(Y:Nat):Prop :=
 ∃I8 bL gQ dx B,m=C-I8/\I8<=C/\aF=[bf aJ,bf a5,(C:X),(I8:X)]/\(∀n,n≠22->bL n=c n)/\e2 ac Y aJ bL i 0 C (l++dx) gQ /\
  kO ac U B dx ((List.range I8).map (K8 Z i t x))/\a5+1<=B/\B<=Y/\(∀b,gQ=some b->aQ=some b\/B<=b)/\(0<I8->∃b,gQ=some b/\B<=b)/\(∀d,U<=d->d<=a5->u ac d=u ji d)/\(∀d,d<U->d≠aJ->aQ≠some d->u ac d=u h d)
section
variable {s:al} {g cd h ac:ae} {U Y aJ i j:Nat} {c bL:Nat->X} {l:aa eB} {aQ:aw Nat} {Z:b8}
theorem akn{r I:Nat}{S:jq}(K:f4 Z)(W:e2 h U aJ c i 0 Z.C l aQ)(H:kf h U c Z i 0)(bo:l.length+Z.C<900)(ag:i<Z.R)(ar:jp h U (.agg ⟨[c 28,c 29,c 30,c 31,c 32]⟩) (Z.bB i) (Z.H i) S)(EJ:c 26 = (r:X))(bc:r<900)(nQ:c 41 = .map (some I))(hm:u h I=some (.map es cI))(V:I<U/\I≠aJ/\aQ≠some I):
  aE Q s 232 [bf aJ] h U (λn2 ac Y=>n2 = .tuple ⟨[]⟩/\∃bL b6 dx,(∀n,n≠22->n≠40->bL n=c n)/\bL 40 = .slice none 0 0/\e2 ac Y aJ bL i 0 Z.C (l++dx) (some b6) /\
   kO ac U b6 dx ((List.range Z.C).map (K8 Z i (r+1) (qV Z.k (iL Z.bR Z.N (r / 2)) (r+1) S)))/\U<=b6/\u ac I=some (.map [] cI)/\(∀d,d<U->d≠aJ->d≠I->aQ≠some d->u ac d=u h d)/\U<=Y):=by
 refine amu ?_;have cb:=W.lt;have qc:=ar;obtain⟨dq,fw,fD,hv,fP,hl,gm⟩:=ar;obtain⟨fL,eE,rfl,_⟩:=id fP;obtain⟨fY,f0,rfl,_⟩:=id hl;obtain⟨lP,ia,rfl,_⟩:=id gm;simp only[Value.agg.injEq,x1,wn,iw]at hv;obtain⟨nt,vT,sg,je,gj⟩:=hv;rw[nt,vT,sg,je,gj]at qc;obtain⟨bg,gw,nx,_⟩:=id H.d;have lO:IntKind.wrap .i64 ((r:Int)+1)=((r+1:Nat):Int):=cD J;have hN:=H.la K;rw[nx]at hN;have zf:=yH K i;unfold aaN;simp(disch:=omega)only[bk,hS,W.at_,H.aK,H.cc,H.d6,H.hd,nx,nt,vT,sg,je,gj,EJ,lO,seval];refine(atP  hN qc (by unfold b8.H;omega) J J).mono ?_;rintro B2 D a5 ⟨lV,e5,fi⟩;refine⟨fi,?_⟩;rw[show(r+1-1) / 2=r / 2 from rfl]at lV;obtain⟨gB,rfl,xE⟩:=lV;obtain⟨cB,lm,rfl⟩:=xE.form;have cT:u D aJ=some (.cells (dy c) false):=(e5 aJ cb).trans W.at_;refine vm @cT W.hc ?_;generalize tl:qV Z.k (iL Z.bR Z.N (r / 2)) (r+1) S=ei at xE ⊢;generalize MQ:T (T D a5 _) a5 _=ji;have V2:u ji a5=some (.cells [.int .i64 (Z.H i:Int),.slice cB (bj (Z.H i) λk=>ei (Z.bB i+k)).length lm] false):=ab
 have c5:∀d,U<=d->aQ≠some d:=λd bh e=>by have:=W.aQ d e;omega
 have uI:aA U h ji:=aM
 refine bE.mk (BeJ aJ i Z.C a5 U (r+1) Z ei c l aQ h ji) Z.C ⟨0,c,aQ,[],a5+1,J,J,rfl,ab,by rw[hz];exact W.F (λd bh=>uI d ab) J,trivial,J,J,ab,λh=>absurd h J,ab,λd bh _ _=>uI d bh⟩ ?_;rintro _ _ A bQ ⟨M,c2,MY,dx,B,rfl,b5,rfl,oG,E,hn,vI,sh,nM,aAS,dD,nL⟩;rw[akj];unfold XJ;have V3:=(dD a5 J J).trans V2;have eM:(dx.length:Nat)=M:=by rw[hn.len,gX,CA]
 have gM:c2 2=c 2/\c2 3=c 3/\c2 7=c 7/\c2 26=c 26/\c2 41=c 41:=ab
 obtain⟨aFe,aEq,aEr,j26,j41⟩:=gM;refine aG ?_;refine⟨λvt=>?_,λeG=>?_⟩
 ·simp(disch:=omega)only[bk,hS,V3,E.at_,aEq,H.cc,aEr,H.gI,E.hc,E.pG,seval];have hVF:p6 A U bQ (.agg ⟨[.int .i64 (Z.H i:Int),.slice cB (bj (Z.H i) λk=>ei (Z.bB i+k)).length lm]⟩) (Z.H i) (λk=>ei (Z.bB i+k)):=⟨_,rfl,xE.F ab J J⟩
  have bw:=K.n60;refine(al8  J K.lW K.oa K.hF K.mV ag J hVF).mono ?_;rintro aF aT bT ⟨dV,eY,ga⟩;refine⟨ga,?_⟩;have Bw:=(eY aJ E.lt).trans E.at_;obtain⟨vsi,rfl,hSi⟩:=dV;obtain⟨aEs,aEt,rfl,_⟩:=id hSi;refine AS @Bw @j26 @EJ @lO ?_;have ro:∀{o aX},e2 (T (T aT bT o) bT aX) (bT+1) aJ c2 i 0 Z.C (l++dx) MY:=λ{o aX}=>E.F (λd bh=>by have:d<bQ:=bh.elim J λe=>(E.aQ d e).2;rw[aq J,aq J];exact eY d this) J
  refine(Gf ro ab ⟨1,0,(M:Int),0,((r+1:Nat):Int),((Z.cl (i+1) M-Z.cl i M:Nat):Int),aEs,(bj (Z.cl (i+1) M-Z.cl i M) λk=>ei (Z.cl i M+k)).length,aEt,none,0,0,none,0,0,0,false⟩).mono ?_;rintro _ a9 dP ⟨rfl,dX,b6,Nw,ht,ul,g5⟩;refine⟨g5,?_⟩;refine bl (cD (J:M<1000000000000)) ?_;have q4:∀d,U<=d->d<B->MY≠some d:=ab
  have nb3:∀d,bQ<=d->MY≠some d:=λd D e=>by have:=E.aQ d e;omega
  have d6:∀d,d<bQ->d≠aJ->MY≠some d->u a9 d=u A d:=λd D A aT=>by rw[ul d J A aT,aq J,aq J];exact eY d D
  refine⟨_,J,M+1,_,some b6,dx++[_],bT+1,rfl,J,rfl,λn bw=>?_,by rw[<-kl];exact Nw,?_,J,J,λb e=>.inr ab,λ_=>⟨b6,rfl,J⟩,λd D A=>?_,λd D A aT=>?_⟩
  ·rw[dN bw];grind
  ·rw[rv,iU];refine(hn.F (λb D A=>d6 b J J (q4 b D A)) (cC _) J).app ⟨⟨rfl,rfl,rfl,rfl,rfl,?_,wY,rfl,rfl,rfl⟩,trivial⟩;exact eJ.F hSi (λb D A=>by rw[ul b J J (nb3 b J),aq J,aq J]) J J
  all_goals grind
 ·have:M=Z.C:=J
  subst this;obtain⟨b6,rfl,ht⟩:=aAS (by have:=K.hF;omega);have oI:u A I=some (.map es cI):=(nL I V.1 V.2.1 V.2.2).trans hm;have hw5:∀{o},u (T A I o) aJ=some (.cells (dy c2) false):=λ{o}=>by rw[aq (kI V.2.1)];exact E.at_
  simp(disch:=omega)only[bk,hS,E.at_,j41,nQ,Tb ayX oI,dO,hw5,seval];refine⟨_,b6,dx,λn D A=>by rw[dN A];grind,yF,E.set (aR _ _ _) rfl rfl rfl rfl (λb e=>ab) (cC _),(hn.F (λb D A=>ab) (cC _) ht),J,λd D A aT a9=>ab,J⟩
end
end Go.Proofs.YthlhhajnbgjfmaaGreat
