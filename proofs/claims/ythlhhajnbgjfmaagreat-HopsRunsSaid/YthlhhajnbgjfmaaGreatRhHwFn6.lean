/- Parts of the proof: HwFn6: each statement bears its own conditions. -/
import Derived.Test.YthlhhajnbgjfmaaGreatRhHwFn5
namespace Go.Proofs.YthlhhajnbgjfmaaGreat
open Go Go.Ax Go.Ax.HdH
set_option linter.all false
set_option maxHeartbeats 1000000
set_option maxRecDepth 1000000
variable {ag:aa GE} {n:Nat} {L:aa (Nat × Int)} {fo:aa GE} {r:Int} {aC:X} {du so:aw Nat} {fy:aa (Nat × Int)} {R:Nat} {q:Nat × Int->al} {es:aa MapEntry} {y:Int} {aE:aP} {bz cs:aa X} {a:Nat} {w:X} {bY:aa et} {ch:Nat} {c7:X} {cH z er:Nat}
theorem vg.aCe{h ac:ae}{A:aa X}{W:aa e3}{E:X}(H:vg h ch bz W du)(I:u h ch=some (.cells (E::bz) false))(B:u ac ch=some (.cells (E::A) false))(K:∀b,du=some b->u ac b=u h b):vg ac ch A W du:=by
 rcases H with⟨aW,V,D⟩|⟨b,M,cap,cs,e,w⟩
 ·rw[I]at D;cases D;exact .inl ab
 ·have:=w.cell;rw[I]at this;cases this;exact .inr ⟨b,M,cap,cs,e,⟨B,(K b e).trans w.co,w.len,w.HL,w.ne⟩⟩
theorem mZ.hl{h:ae}{v:X}{l:aa (Nat × Int)}{aQ:aw Nat}(H:mZ h v l aQ):fa h eK 3 v l aQ:=by
 rcases H with⟨rfl,rfl,rfl⟩|⟨b,rfl,rfl,A⟩
 ·exact .nil
 ·exact .own A
theorem apb{s:al}{h:ae}{U ao:Nat}{W:aa e3}(bb:n1 r)(H:Hl h U ao ch r W fy du)(t8:ch<U)(rC:ao<=ch)(tT:ao<=U)(bA:W.length<900)(kc:fy.length<100000)(jB:W≠[])(tU:(∀p∈fy,0<=p.2/\p.2<=eI)/\∀p∈left W,0<=p.2/\p.2<=eI):
  aH Q s 330 [bf ch] h U (λ_ ac Y=>∃p M dp rS,(p::M).Perm (left W)/\(∀q∈left W,p.1<=q.1)/\Hl ac Y ao ch r dp (qL r fy p) rS/\(left dp).Perm M/\dp.length<=W.length/\U<=Y/\(∀c,c<ao->u ac c=u h c)):=by
 refine arf ?_;unfold adW;obtain⟨out,aQ,Ee,K,SR,hOw,pP,mr⟩:=H;rcases Ee with⟨_,au,_⟩|⟨b,aS,cap,cs,rfl,w⟩
 ·exact absurd au jB
 obtain⟨p,bg⟩:=dR (l:=W) (i:=0) ab;have gz:=(hn.1 bg).1;have E:=SR p ab;have yS:=pP b rfl;have eS:=w.ne;have DO:=E.ok.cell;have sE:dj p.v=[p.v]:=by obtain⟨_,_,_,_,_,_,_,h1,_⟩:=E.ok;rw[h1];rfl
 have rH:=KK (cs:=cs) bg;rw[mc]at rH;refine RY w.cell w.co @rH @DO @sE ?_;have bT:aA U h (F (F h U (.cells [.slice none 0 0,.int .i64 0] false)) U (.cells [p.v,(p.w:X)] false)):=aN
 have aCf:u (F (F h U (.cells [.slice none 0 0,.int .i64 0] false)) U (.cells [p.v,(p.w:X)] false)) U=some (.cells [p.v,(p.w:X)] false):=ab
 generalize F (F h U (.cells [.slice none 0 0,.int .i64 0] false)) U (.cells [p.v,(p.w:X)] false)=au at bT aCf ⊢;have gC:=G3 w bT yS.2 t8;have al0:pL au ao W:=SR.T λc a1=>bT c J;refine(asY  gC J yS.1 J rC J J K al0.ok bg).mono ?_;rintro _ h1 a5 ⟨cs1,nK,da,MI,Ux,f0,d0⟩;have Uy:=(d0 U J J J).trans aCf;have ahi:zc h1 ao p:=E.T λc a1=>(d0 c J J J).trans (bT c J);have al1:pL h1 ao nK:=λx aY=>(al0 x (Ux.mem_iff.1 (mG _ aY))).T λc a1=>d0 c J J J;obtain⟨q,bY,Uz⟩:∃q bY,p.l=q::bY:=by
  cases eZ:p.l with
  |nil=>exact absurd eZ E.2.1
  |cons q bY=>grind
 obtain⟨d6,gh,sp3,H3,Bv,aBE,pX,cf,sH,ax2⟩:=ahi.1.o.all (λ_=>rfl) E.2.1;have DC:=(ax2 0 q ab).1;rw[mc,nS]at DC;have ax3:p.l.length=bY.length+1:=ab
 have V:=ahi.1;rw[Uz]at V;obtain⟨aEs,etw,htw⟩:=my.tail  (k:=3) (λ_=>rfl) V;rw[ax3]at cf;rw[cf]at Uy etw;simp(disch:=omega)only[bl,↓reduceIte,Nat.reduceAdd,Nat.reduceSub,Nat.reduceMul,Nat.reduceLT,Nat.reduceLeDiff,Nat.reduceEqDiff,Int.reduceBEq,Int.reduceLT,Int.reduceNeg,Uy,sH,DC,show dj (.agg ⟨eK q⟩)=[(q.1:X),.int .i64 (q.2 / 18446744073709551616),.int .u64 (q.2 % 18446744073709551616)]from rfl];rw[etw];refine mf @Uy ?_;obtain⟨ap,UA⟩:∃ap,ap=F (F h1 a5 (.cells [.int .i64 0,.int .i64 0,.int .u64 0] false)) a5 (.cells [(q.1:X),.int .i64 (q.2 / 18446744073709551616),.int .u64 (q.2 % 18446744073709551616)] false):=⟨_,rfl⟩
 have eA:aA a5 h1 ap:=by rw[UA];exact((aA.refl _ _).set (cD _)).set (cD _)
 have G20:u ap a5=some (.cells [(q.1:X),.int .i64 (q.2 / 18446744073709551616),.int .u64 (q.2 % 18446744073709551616)] false):=ab
 rw[<-UA];clear UA;have ahj:=E.2.2.2.2;rw[Uz]at ahj;have oZ:=uA.1 ahj;have rB:nK.length+1=W.length:=by rw[<-Ux.length_eq];rfl
 refine(acB    (.inr ⟨b,aS,cap,cs1,rfl,G3 da eA J J⟩) (λD e=>ab) J rC J J MI (al1.T λc a1=>eA c J) (htw.T (λc a1=>eA c J) (cD _)) E.2.2.1 oZ.2).mono ?_;rintro _ aM bW ⟨qh,Ik,dc,⟨mY,UB,y0,UC⟩,azU,fg,eW⟩;refine⟨fg,?_⟩;have EA:∀c,c<U->c≠b->c≠ch->u aM c=u h c:=λc c1 c2 b8=>by rw[eW c J b8 (λe=>ab),eA c J,d0 c J c2 b8,bT c c1]
 have UD:u aM a5=some (.cells [(q.1:X),.int .i64 (q.2 / 18446744073709551616),.int .u64 (q.2 % 18446744073709551616)] false):=(eW a5 J J (λe=>ab)).trans G20;have ahk:mZ aM out fy aQ:=hOw.T λD e=>ab
 have ahl:pL aM ao qh:=UC aM λc a1=>eW c J J (λe=>ab);have vE:(q::(bY++left nK)).Perm (left W):=by
  have:=Yw Ux;unfold left at this ⊢
  grind
 have ahm:∀jy∈left W,q.1<=jy.1:=λjy MG=>by
  obtain⟨x,aY,hqx⟩:=List.mem_flatMap.1 MG;have Bd:=SR x aY;have hpk:p.k<=x.k:=nY.min K bg x aY;obtain⟨g8,Nc,hlx⟩:∃g8 Nc,x.l=g8::Nc:=by
   cases eZ:x.l with
   |nil=>grind
   |cons q bY=>grind
  have aW:p.k=(q.1:Int)*1000+(p.w:Int):=by rw[E.2.2.2.1];show(((p.l.getD 0 (0,0)).1:Nat):Int)*1000+(p.w:Int)=_;rw[Uz];rfl
  have aK:x.k=(g8.1:Int)*1000+(x.w:Int):=by rw[Bd.2.2.2.1];show(((x.l.getD 0 (0,0)).1:Nat):Int)*1000+(x.w:Int)=_;rw[hlx];rfl
  have hxw:=Bd.2.2.1;have hsx:=Bd.2.2.2.2;rw[hlx]at hsx hqx;have dO:g8.1<=jy.1:=by
   rcases gQ.1 hqx with rfl|h
   ·omega
   ·exact Nat.le_of_lt ((uA.1 hsx).1 jy h)
  omega
 obtain⟨ia,A⟩:∃ia,u aM ch=some (.cells [ia,(r:X),out] false):=by
  rcases dc with⟨_,_,a1⟩|⟨_,_,_,_,_,aDv⟩
  ·grind
  ·exact⟨_,aDv.cell⟩
 have azV:∀D,Ik=some D->ao<=D/\D<bW:=λD e=>ab
 have hkl:∀c,c<ao->u aM c=u h c:=λc a1=>EA c J J J;have Il:(left qh).Perm (bY++left nK):=UB.trans List.perm_append_comm;have hLW:qh.length<=W.length:=J
 have aBF:∀D,aQ=some D->Ik≠some D:=λD e aK=>ab
 have azW:∀D,aQ=some D->ao<=D/\D<bW/\D≠ch/\Ik≠some D:=λD e=>ab
 have app:qL r fy q=fy++[q]->FX s (λ_ ac Y=>∃p M dp rS,(p::M).Perm (left W)/\(∀q∈left W,p.1<=q.1)/\Hl ac Y ao ch r dp (qL r fy p) rS/\(left dp).Perm M/\dp.length<=W.length/\U<=Y/\(∀c,c<ao->u ac c=u h c)) (bf ch) (bf a5) (fy.length:X) (.bool false) aM bW:=λbp=>by
  unfold FX;refine tA @A @UD ?_;refine x7  (k:=3) (λ_=>rfl) (λ_=>rfl) J ((ahk.T λD e=>ab).hl) q (aT _ _ _) rfl J λb3 DW t4=>?_;have LS:u b3 ch=some (.cells [ia,(r:X),out] false):=ab
  refine mf @LS ?_;refine⟨J,q,_,qh,Ik,vE,ahm,⟨.slice (some ⟨bW+1,0,some 3⟩) (fy.length+1) (fy.length+1),some (bW+1),dc.aCe A (aT _ _ _) (λD e=>?_),mY,ahl.T (λc a1=>?_),?_,λD e=>ab,λD e=>?_⟩,Il,hLW,J,λc a1=>?_⟩
  ·grind
  ·grind
  ·rw[bp];exact .inr ⟨bW+1,rfl,ab,ab⟩
  ·grind
  grind
 rcases ahk with⟨aW,aK,cf⟩|⟨gb,aW,aK,rR⟩
 ·subst aW aK;refine mf @A ?_;exact⟨λh=>absurd h J,λ_=>app rfl⟩
 ·have Ec:=azW gb aW;subst aK;cases sF:fy.getLast? with
  |none =>
   have wQ:fy=[]:=List.getLast?_eq_none_iff.1 sF;subst wQ;refine mf @A ?_;exact⟨λh=>absurd h (by simp),λ_=>app rfl⟩
  |some z =>
   obtain⟨B,azX⟩:=I6.1 sF;have gz:fy.length=B.length+1:=ab
   have cL:fy[B.length]? = some z:=ab
   have tZ:=gc (enc:=eK) (k:=3) (λ_=>rfl) fy;have TC:el aM bW (.slice (some ⟨gb,0,some 3⟩) fy.length fy.length) eK 3 fy:=cr.o (λ_=>rfl) ⟨_,_,rfl,λ_=>⟨gb,_,_,Ec.2.1,rfl,rR⟩⟩;obtain⟨zu,nD,sp6,ro6,cs6,aBG,D5,h2,hg6,I⟩:=TC.all (λ_=>rfl) ab;cases h2;rw[rR]at hg6;cases hg6;have pi:=(I _ z cL).2 0 _ J rfl;have c1:=(I _ z cL).2 1 _ J rfl;have c2:=(I _ z cL).2 2 _ J rfl;rw[nS,iV]at pi;rw[iV]at c1 c2;have fb:IntKind.wrap .i64 ((fy.length:Int)-1)=(B.length:Int):=by rw[oO];omega
   have Im:B.length<fy.length:=J
   refine RY @A @fb @rR @pi @UD ?_;refine⟨λ_=>?_,λh=>absurd h J⟩;have azY:hV (some 2) (B.length*3+1) (bd eK fy) = .ok (.agg ⟨wid z.2⟩):=by
    rw[pq,if_pos J];have:((bd eK fy).drop (B.length*3+1)).take 2=wid z.2:=by
     have dH:=(hn.1 c1)
     have dl:=(hn.1 c2)
     obtain⟨m1,aW⟩:=dH;obtain⟨m2,aK⟩:=dl;rw[B5 m1,aW,E0,B5 J,E0,tf];rw[show(bd eK fy)[B.length*3+1+1]=(bd eK fy)[B.length*3+2]from rfl,aK];rfl
    grind
   by_cases tM:z.1=q.1
   ·have bp:qL r fy q=B++[(z.1,jJ r z.2 q.2)]:=by
     unfold qL;rw[sF]
     grind
    rw[show((z.1:Int) == (q.1:Int))=true from uE.2 J];unfold FX;refine RY @A @fb @rR @azY @UD ?_;have hzr:=tU.1 z (kz cL);have hqr:=tU.2 q (vE.mem_iff.1 (nQ ..));refine(Qe bb (a:=z.2) (b:=q.2) (Gl (by unfold kq eI at *;omega)) (Gl (by unfold kq eI at *;omega))).mono ?_;rintro _ bc d4 ⟨rfl,fI,hb⟩;refine⟨hb,?_⟩;have Ef:=(fI ch J).trans A;have Ii:=(fI gb J).trans rR;have w2:j4 (some (.cells (bd eK fy) false)) bc gb (B.length*3+1) (wid (jJ r z.2 q.2)) = .ok (F bc gb (.cells (bd eK (B++[(z.1,jJ r z.2 q.2)])) false)):=by
     have aBH:=gc (enc:=eK) (k:=3) (λ_=>rfl) B;have Dr:bd eK fy=bd eK B++eK z:=by rw[azX,se]
     rw[K3 rfl (by rw[tZ];show B.length*3+1+2<=_;omega)]
     congr 4
     rw[Dr,se,show(wid (jJ r z.2 q.2)).length=2 from rfl];rw[show B.length*3+1=(bd eK B).length+1 by omega,List.take_length_add_append,v5,I4,kA,kA];rfl
    refine G0 @Ef @Ii @sf @th ?_;rw[w2];refine⟨rfl,q,_,qh,Ik,vE,ahm,⟨.slice (some ⟨gb,0,some 3⟩) fy.length fy.length,some gb,dc.aCe A ?_ (λD e=>?_),mY,ahl.T (λc a1=>?_),?_,λD e=>ab,λD e=>?_⟩,Il,hLW,J,λc a1=>?_⟩
    ·grind
    ·have cy:=azV D e;have:D≠gb:=λaK=>Ec.2.2.2 ab;rw[ar this,fI D J]
    ·rw[ar J,fI c J]
    ·rw[bp];exact .inr ⟨gb,rfl,by rw[gz,jd];rfl,aT _ _ _⟩
    ·grind
    ·rw[ar J,fI c J];grind
   ·have bp:qL r fy q=fy++[q]:=by
     unfold qL
     grind
    rw[show((z.1:Int) == (q.1:Int))=false from r8.2 J];exact app bp
def p4:X->X
 | .slice a n c=>.slice a n c
 |_=>.slice none 0 0
theorem my.p4{az:Type}{h:ae}{U k:Nat}{v:X}{enc:az->aa X}{l:aa az}(H:my h U v enc k l):p4 v=v:=by obtain⟨a,c,rfl,_⟩:=H;rfl
def AV(h:ae)(U:Nat)(v:X)(fE:aa (X × aa (Nat × Int))):Prop:=el h U v (λp=>[p4 p.1]) 1 fE/\∀p∈fE,my h U p.1 eK 3 p.2/\(p.2.Pairwise λa b=>a.1<b.1)/\p.2.length<100000/\∀q∈p.2,0<=q.2/\q.2<=eI
theorem AV.T{h ac:ae}{U Y:Nat}{v:X}{fE:aa (X × aa (Nat × Int))}(H:AV h U v fE)(B:aA U h ac)(A:U<=Y):AV ac Y v fE :=
 ⟨H.1.T B A,λp D=>⟨(H.2 p D).1.T B A,(H.2 p D).2⟩⟩
theorem avx{s:al}{fE:aa (X × aa (Nat × Int))}{v:X}{h:ae}{U:Nat}(eD:fE.length<1000000)(I:AV h U v fE):
  aH Q s 395 [v,.func (.func 326) ⟨[]⟩ ⟨[]⟩] h U (fr (.int .i64 (-1)) U h):=by refine ah6 ?_;unfold Wv;obtain⟨M,cap,rfl,a1⟩:=id I.1;refine aD ?_;refine bC.mk (λm aF ac Y=>∃i,m=fE.length-i/\i<=fE.length/\aF=[.slice M fE.length cap,.func (.func 326) ⟨[]⟩ ⟨[]⟩,.int .i64 0,(fE.length:X),(i:X)]/\ac=h/\Y=U) fE.length ⟨0,J,J,rfl,rfl,rfl⟩ ?_;rintro _ _ ap bX ⟨i,rfl,aj,rfl,E,D⟩;rw[ah0,E,D];unfold Wj;refine aD ?_;refine⟨λV=>?_,λeM=>⟨rfl,rfl,rfl⟩⟩;obtain⟨p,bg⟩:=dR   J;obtain⟨b,a0,aS,ro,tP,K,aO,aW,a9,B⟩:=el.ld1  I.1 bg;cases aW;have A:=I.2 p ab;rw[A.1.p4]at B;refine cQ @a9 @B ?_;refine akE ?_;refine(alG A.1.o J A.2.1).mono ?_;rintro _ _ _ ⟨rfl,E,D⟩;rw[E,D];refine bh (cv (J:i<1000000000000)) ?_;exact⟨_,J,i+1,rfl,J,rfl⟩
def rr(fE:aa (X × aa (Nat × Int))):aa (Nat × Int):=fE.flatMap (·.2)
theorem asZ{p:Nat × Int}(E:n1 r)(I:∀q∈fy,0<=q.2/\q.2<=eI)(D:0<=p.2/\p.2<=eI):∀q∈qL r fy p,0<=q.2/\q.2<=eI:=λq A=>by
 unfold qL at A;cases B:fy.getLast? with
 |none=>grind
 |some z =>
  rw[B]at A;simp only at A
  split at A
  ·rcases hp.1 A with h|h
   ·exact I q ((List.dropLast_sublist fy).subset h)
   ·rw[iU.1 h];exact af9 E ab D
  grind
theorem as0(r:Int)(fy:aa (Nat × Int))(p:Nat × Int):(qL r fy p).length<=fy.length+1:=by
 unfold qL
 grind
theorem vg.form{h:ae}{W:aa e3}(H:vg h ch bz W du):∃a c,u h ch=some (.cells (.slice a W.length c::bz) false):=by
 rcases H with⟨_,rfl,A⟩|⟨_,_,_,_,_,w⟩
 ·grind
 ·exact⟨_,_,w.cell⟩
theorem Yx{s:al}{fE:aa (X × aa (Nat × Int))}{v:X}{h:ae}{U:Nat}(bb:n1 r)(eD:fE.length<800)(aG:AV h U v fE)(hK:(rr fE).length<50000):
  aH Q s 229 [(r:X),v] h U (λaI ac Y=>∃w fy,aI = .tuple ⟨[w,.int .i64 0]⟩/\d1 ac w eK 3 fy U Y/\y3 r fy [] (λi=>jL r (rr fE) i)/\aA U h ac/\U<=Y):=by
 refine anh ?_;obtain⟨bk,cap,rfl,a1⟩:=id aG.1;refine(Al  (by rcases bb with rfl|rfl|rfl <;> omega) (by rcases bb with rfl|rfl|rfl <;> omega)).mono ?_;rintro _ _ _ ⟨rfl,gi,eN⟩;rw[gi,eN];refine aD ?_;refine ahP ?_;refine(avx J aG).mono ?_;rintro _ _ _ ⟨rfl,gi,eN⟩;rw[gi,eN];refine aD ?_;refine⟨λh=>absurd trivial h,?_⟩;obtain⟨H,fK⟩:∃H,H=F h U (.cells [.slice none 0 0,(r:X),.slice none 0 0] false):=⟨_,rfl⟩
 have ux:aA U h H:=by rw[fK];exact aN
 rw[<-fK];refine bC.mk (λm aF ac Y=>∃i W du,m=fE.length-i/\i<=fE.length/\aF=[bf U,.slice bk fE.length cap,(fE.length:X),(i:X)]/\Hl ac Y U U r W [] du/\(left W).Perm (rr (fE.take i))/\W.length<=i/\aA U h ac/\U+1<=Y) fE.length ⟨0,[],none,J,J,rfl,⟨.slice none 0 0,none,.inl ab,apa,λx aY=>(td aY).elim,.inl ab,ab,ab⟩,Ce _,by simp,ux,J⟩ ?_;rintro _ _ ap bX ⟨i,W,du,rfl,aj,rfl,iv,fV,hWl,K,fg⟩;rw[akC];unfold X7;refine aD ?_;refine⟨λct=>?_,λeM=>?_⟩
 ·obtain⟨p,bg⟩:=dR   J;obtain⟨b,a0,aS,ro,tP,kZ,aO,aW,a9,mx⟩:=el.ld1  aG.1 bg;cases aW;have iq:=(K b aO).trans a9;have mn:=aG.2 p ab;rw[mn.1.p4]at mx;obtain⟨out,aQ,Ee,A,D,E,pP,mr⟩:=iv;refine cQ @iq @mx ?_;refine(acB   Ee pP J J J J A D (mn.1.T (λc a1=>K c a1) J) J mn.2.1).mono ?_;rintro _ aM bW ⟨qh,I,dc,⟨mY,UB,y0,UC⟩,azU,gJ,e1⟩;refine bh (cv (J:i<1000000000000)) ?_;have tV:∀c,c<U->u aM c=u ap c:=ab
  refine⟨_,J,i+1,qh,I,rfl,J,rfl,⟨out,aQ,dc,mY,UC aM tV,E.T λce e=>?_,λce e=>?_,λce e=>?_⟩,?_,J,aN,J⟩
  ·grind
  ·grind
  ·grind
  ·unfold rr;rw[ho,bg];rw[Jb];have:=UB.trans (fV.append_right p.2);simpa[rr]using this
 ·have In:i=fE.length:=J
  subst In;rw[hC]at fV;have azZ:∀p∈left W,0<=p.2/\p.2<=eI:=λp bg=>by obtain⟨x,aY,sQ⟩:=List.mem_flatMap.1 (fV.mem_iff.1 bg);exact(aG.2 x aY).2.2.2 p sQ
  refine bC.mk (λm aF ac Y=>∃W fy du,m=(left W).length/\aF=[bf U]/\Hl ac Y U U r W fy du/\y3 r fy (left W) (λi=>jL r (rr fE) i)/\W.length<900/\fy.length+(left W).length<=50000/\(∀p∈fy,0<=p.2/\p.2<=eI)/\(∀p∈left W,0<=p.2/\p.2<=eI)/\aA U h ac/\U+1<=Y) (left W).length ⟨W,[],du,rfl,rfl,iv,⟨List.Pairwise.nil,ab,λv=>by rw[Pb fV];rfl⟩,J,by have:=fV.length_eq;grind,ab,azZ,K,fg⟩ ?_;rintro _ _ aM bW ⟨W,fy,du,rfl,rfl,iv,zd,hWl,lP,HM,hi2,e1,gJ⟩;rw[akD];unfold X8;have HS:=iv;obtain⟨out,aQ,Ee,A,D,E,pP,mr⟩:=iv;obtain⟨gx,nF,B⟩:=Ee.form;refine bh @B ?_;refine QG.mono ?_;rintro _ _ _ ⟨rfl,gi,eN⟩;rw[gi,eN];refine bh @B ?_;refine⟨λvt=>?_,λdO=>?_⟩
  ·have eS:W≠[]:=ab
   refine(apb bb HS J J J hWl J eS ab).mono ?_;rintro _ bc d4 ⟨p,M,qh,I,hpM,SQ,hM2,Il,Eg,hb,fI⟩;have rB:=hpM.length_eq;have tQ:=Il.length_eq;rw[mb]at rB;have Bo:=as0 r fy p;have V:=zd.step hpM SQ;refine⟨(left qh).length,J,qh,qL r fy p,I,rfl,hM2,⟨V.up,λo fw q dt=>V.le o fw q ab,λv=>?_⟩,J,J,asZ bb HM ab,ab,aN,J⟩;rw[Pb Il];exact V.II v
  ·have hW0:W=[]:=ab
   subst hW0;refine⟨out,fy,rfl,?_,zd,e1,J⟩;rcases E with⟨rfl,rfl,_⟩|⟨gb,aW,rfl,rR⟩
   ·exact .inl ab
   ·have:=mr gb aW;exact .inr ⟨gb,J,J,rfl,rR⟩
theorem ajC{s:al}{v:X}{h:ae}{U:Nat}(bb:n1 r)(eD:L.length<100000)(aG:el h U v fG 2 L)(cd:0<=y/\y<=eI)(b0:∀p∈L,0<=p.2/\p.2<=2147483647):
  aH Q s 453 [(r:X),v,(y:X),.slice none 0 0,.bool true] h U (λK ac Y=>d1 ac K eK 3 (L.map λp=>(p.1,he r p.2 y)) U Y/\aA U h ac/\U<=Y):=by
 refine akG ?_;unfold Zv;obtain⟨bk,cap,rfl,a1⟩:=id aG;refine aD ?_;refine bC.mk (λm aF ac Y=>∃i w,m=L.length-i/\i<=L.length/\aF=[(r:X),(y:X),.slice none 0 0,.bool true,w,.slice bk L.length cap,(L.length:X),(i:X)]/\d1 ac w eK 3 ((L.take i).map λp=>(p.1,he r p.2 y)) U Y/\aA U h ac/\U<=Y) L.length ⟨0,.slice none 0 0,J,J,rfl,.inl ab,aN,J⟩ ?_;rintro _ _ ap bX ⟨i,w,rfl,aj,rfl,dn,B,A⟩;rw[ajc];unfold Xa;refine aD ?_;refine⟨λct=>?_,λeM=>?_⟩
 ·obtain⟨p,bg⟩:=dR   J;obtain⟨b,a0,aS,ro,tP,kZ,aO,V,a9,I⟩:=(aG.T B A).ld (λ_=>rfl) bg;cases V;refine cQ @a9 @I ?_;rw[show fG p=[(p.1:X),(p.2:X)]from rfl];refine aD ?_;refine QF.mono ?_;rintro _ _ _ ⟨rfl,gi,eN⟩;rw[gi,eN];simp(disch:=omega)only[bl,show bin Q .neq 4 (.bool false) (.bool true) = .ok (.bool true) by kernel_rfl,seval];refine(abM bb ab cd).mono ?_;rintro _ aM bW ⟨rfl,D,E⟩;have dd:=(D bX J).trans (aT _ _ _);refine⟨E,?_⟩;have V:∀x:Int,dj (.agg ⟨wid x⟩)=[.int .i64 (x / 18446744073709551616),.int .u64 (x % 18446744073709551616)]:=λ_=>rfl;refine lh @dd @V @sf @sc ?_;have fD:∀c,c<bX->u aM c=u ap c:=λc a1=>by rw[D c J,ar J,ar J]
  refine lJ  (k:=3)  (λ_=>rfl) (λ_=>rfl) J (dn.T  ab J) J (p.1,he r p.2 y) (aT _ _ _) rfl ab λdF kP M vD=>?_;refine⟨J,_,J,i+1,dF,rfl,J,by rw[cv J],?_,aN,J⟩;rw[ho,bg];rw[iK];exact M
 ·have:i=L.length:=J
  subst this;rw[hC]at dn;exact⟨dn,B,A⟩
theorem apc{s:al}{r c:Nat}{v:X}{x:Nat->aw Int}{h:ae}{U:Nat}(M:hg c r ag)(aG:mO h U v r c ag)(b0:jU h U w n x)(bv:n<=4096):aH Q s 452 [v,w] h U (dJ (.tuple ⟨[v,w]⟩) U h):=by
 refine arm ?_;have K:=aG;have D:=b0;obtain⟨v1,v2,v3,v4,rfl,h1,ap,aM,bc⟩:=aG;obtain⟨aB,c1,rfl,_⟩:=id h1;obtain⟨a2,c2,rfl,_⟩:=id ap;obtain⟨a3,b8,rfl⟩:=aM.form;obtain⟨aZ,fL,rfl,_⟩:=id bc;obtain⟨gN,rfl,aq⟩:=b0;obtain⟨_,_,rfl,_⟩:=id aq;have bT:∀{o eF dP gh},aA U h (F (F (F (F h U o) (U+1) eF) (U+1+1) dP) (U+1+1+1) gh):=aN
 unfold ad1;refine aD ?_;refine(Yu M (K.T  bT J)).mono ?_;rintro _ aW a5 ⟨rfl,A,f0⟩;have cJ:=A U J;rw[ar J,ar J,ar J,aT]at cJ;have E:=A (U+1) J;rw[ar J,ar J,aT]at E;have g2:=A (U+1+1) J;rw[ar J,aT]at g2;have c6:=A (U+1+1+1) J;rw[aT]at c6;have cP:=bT.trans A J;refine aD ?_;unfold Pl;refine bh @E ?_;refine(wd (D.T  cP J) bv).mono ?_;rintro _ aK bX ⟨rfl,B,fg⟩;have V:=(B U J).trans cJ;have I:=(B (U+1) J).trans E;have Ij:=(B (U+1+1) J).trans g2;have g3':=(B (U+1+1+1) J).trans c6;refine aD ?_;unfold Pk;refine lh @V @I @Ij @g3' ?_;exact⟨rfl,aN,J⟩
def tK(r:Int)(ag:aa GE)(p:Nat × Int):aa (Nat × Int):=(eL ag p.1).map λg=>(g.t,he r g.w p.2)
theorem as1(r:Int)(ag:aa GE)(k v:Nat)(y:Int):jL r (tK r ag (k,y)) v=fl r (ag.map λg=>if g.f=k then(if g.t=v then some (he r g.w y)else none)else none):=by
 unfold jL tK eL;rw[pn,Oc]
 grind
theorem aap{r:Int}{ag:aa GE}{x:Nat->aw Int}{v:Nat}:∀n,jL r ((bq n x).flatMap (tK r ag)) v=fl r ((List.range n).map λk=>fl r (ag.map λg=>if g.f=k then(if g.t=v then(x g.f).map (he r g.w)else none)else none))
 |0=>rfl
 |n+1=>by
  rw[ty,Jb,x9,aap n,q6,iK,uB,zL,OE]
  congr 1
  cases B:x n with
  |none =>
   symm
   refine wc λz A=>?_
   grind
  |some y =>
   show jL r (tK r ag (n,y)++[]) v=_;rw[h6,as1]
   grind
theorem apd{C:Nat}{x:Nat->aw Int}{v:Nat}(A:Ao ag fo)(M:hg C R fo):jL r ((bq C x).flatMap (tK r fo)) v=il r ag x v:=by rw[aap,<-ai8 r (λg:GE=>if g.t=v then(x g.f).map (he r g.w)else none) (λg=>g.f) fo C M.rows];rw[X5 (List.Perm.map _ A),pn];rfl
def ub{az:Type}(h:ae)(v:X)(enc:az->aa X)(k:Nat)(l:aa az)(P:Nat->Prop):Prop :=
 ∃a c,v = .slice a l.length c/\(l≠[]->∃b o aS ro cs,P b/\a=some ⟨b,o,aS⟩/\aS≠some 0/\l.length<=c/\u h b=some (.cells cs ro)/\o+l.length*k<=cs.length/\(cs.drop o).take (l.length*k)=bd enc l)
section
variable {az:Type} {h ac:ae} {U k:Nat} {v:X} {enc:az->aa X} {l:aa az} {P nG:Nat->Prop}
theorem ub.c(H:ub h v enc k l P)(B:∀b,P b->b<U):my h U v enc k l:=by obtain⟨a,c,e,H⟩:=H;exact⟨a,c,e,λA=>ab⟩
theorem ub.T(H:ub h v enc k l P)(hk:∀b,P b->u ac b=u h b)(B:∀b,P b->nG b):ub ac v enc k l nG:=by obtain⟨a,c,e,H⟩:=H;exact⟨a,c,e,λA=>by obtain⟨b,o,I,V,cs,M,D,aM,K,b3,E⟩:=H A;exact⟨b,o,I,V,cs,B b M,D,aM,K,ab,E⟩⟩
theorem d1.b{ao aj:Nat}(E:0<k)(A:∀x,(enc x).length=k)(H:d1 h v enc k l ao aj):ub h v enc k l (λb=>ao<=b/\b<aj):=by
 rcases H with⟨rfl,rfl⟩|⟨b,I,D,rfl,B⟩
 ·exact⟨_,_,rfl,λh=>absurd rfl h⟩
 ·exact⟨_,_,rfl,λ_=>⟨b,0,some k,false,_,⟨I,D⟩,rfl,ab,J,B,by rw[gc A];omega,by rw[pk,q3 (by rw[gc A];omega)]⟩⟩
theorem ub.p4(H:ub h v enc k l P):p4 v=v:=by obtain⟨a,c,rfl,_⟩:=H;rfl
end
def ll(p:X × aa (Nat × Int)):aa X:=[p4 p.1]
def UE(h:ae)(v:X)(fE:aa (X × aa (Nat × Int)))(aQ:aw Nat):Prop:=(fE=[]/\v = .slice none 0 0/\aQ=none)\/∃b,aQ=some b/\v = .slice (some ⟨b,0,some 1⟩) fE.length fE.length/\u h b=some (.cells (bd ll fE) false)
theorem UE.hl{h:ae}{v:X}{fE:aa (X × aa (Nat × Int))}{aQ:aw Nat}(H:UE h v fE aQ):fa h ll 1 v fE aQ:=by
 rcases H with⟨rfl,rfl,rfl⟩|⟨b,rfl,rfl,A⟩
 ·exact .nil
 ·exact .own A
theorem alH(p:X × aa (Nat × Int)):ee (ll p)=true:=by
 unfold ll p4;cases p.1 <;> rfl
theorem ape{s:al}{C:Nat}{v:X}{x:Nat->aw Int}{h:ae}{U:Nat}(bb:n1 r)(av:Ao ag fo)(M:hg C R fo)(d5:C<=63)(aG:mO h U v R C fo)(b0:jU h U w C x)(hwt:∀g∈fo,0<=g.w/\g.w<=2147483647)(aY:∀i y,x i=some y->0<=y/\y<=eI):
  aH Q s 392 [(r:X),v,w,.slice none 0 0,.bool true] h U (λaI ac Y=>∃z,aI = .tuple ⟨[z,.int .i64 0]⟩/\eG ac U Y z eK (bq R (il r ag x))/\aA U h ac/\U<=Y):=by
 refine ari ?_;have ia:=aG;have o2:=b0;obtain⟨v1,v2,v3,v4,rfl,h1,ap,aM,bc⟩:=aG;obtain⟨aB,c1,rfl,_⟩:=id h1;obtain⟨a2,c2,rfl,_⟩:=id ap;obtain⟨a3,b8,rfl⟩:=aM.form;obtain⟨aZ,fL,rfl,_⟩:=id bc;obtain⟨gN,rfl,aq⟩:=b0;obtain⟨cG,k7,rfl,_⟩:=id aq;have bT:∀{o eF},aA U h (F (F h U o) (U+1) eF):=aN
 unfold adY;refine aD ?_;refine(apc M (ia.T  bT J) (o2.T  bT J) J).mono ?_;rintro _ aW a5 ⟨rfl,K,f0⟩;have cJ:=K U J;rw[ar J,aT]at cJ;have g1:=K (U+1) J;rw[aT]at g1;have cP:=bT.trans K J;refine cQ @cJ @g1 ?_;obtain⟨H,fK⟩:∃H,H=F (F aW U (.cells [(R:X),(C:X),.slice aB (gB fo).length c1,.slice a2 (g5 fo).length c2,.slice a3 (fs fo).length b8,.slice aZ (gr fo).length fL] false)) (U+1) (.cells [(C:X),.slice cG (bq C x).length k7] false):=⟨_,rfl⟩
 have ux:aA U h H:=by rw[fK];exact aN
 have BT:u H U=some (.cells [(R:X),(C:X),.slice aB (gB fo).length c1,.slice a2 (g5 fo).length c2,.slice a3 (fs fo).length b8,.slice aZ (gr fo).length fL] false):=ab
 have oz:u H (U+1)=some (.cells [(C:X),.slice cG (bq C x).length k7] false):=ab
 rw[<-fK];clear fK;refine(Al  (by rcases bb with rfl|rfl|rfl <;> omega) (by rcases bb with rfl|rfl|rfl <;> omega)).mono ?_;rintro _ _ _ ⟨rfl,gi,eN⟩;rw[gi,eN];have gz:=me C x;simp(disch:=omega)only[bl,BT,oz,q5,seval];refine bC.mk (λm aF ac Y=>∃i w fE aQ,m=(bq C x).length-i/\i<=(bq C x).length/\aF=[(r:X),.slice none 0 0,.bool true,bf U,w,.slice cG (bq C x).length k7,.int .i64 ((bq C x).length:Int),(i:X)]/\UE ac w fE aQ/\(∀b,aQ=some b->a5<=b/\b<Y)/\(∀p∈fE,ub ac p.1 eK 3 p.2 (λb=>a5<=b/\b<Y/\aQ≠some b)/\(p.2.Pairwise λa b=>a.1<b.1)/\p.2.length<=120/\∀q∈p.2,0<=q.2/\q.2<=eI)/\rr fE=((bq C x).take i).flatMap (tK r fo)/\fE.length=i/\(∀c,c<a5->u ac c=u H c)/\a5<=Y) (bq C x).length ⟨0,.slice none 0 0,[],none,J,J,rfl,.inl ab,ab,λp D=>(td D).elim,rfl,rfl,ab,J⟩ ?_;rintro _ _ ap bX ⟨i,w,fE,aQ,rfl,aj,rfl,dn,mr,A,hK,hLl,eW,fg⟩;have eA:aA U h ap:=aN
 have Eb:=(eW U J).trans BT;rw[anp];unfold Zu;refine aD ?_;refine⟨λct=>?_,λeM=>?_⟩
 ·obtain⟨p,D⟩:=dR   J;obtain⟨hpC,sQ⟩:=wq   D;obtain⟨b,a0,aS,ro,tP,kZ,aO,aW,a9,mx⟩:=(aq.T eA (Y:=bX) J).ld (λ_=>rfl) D;cases aW;refine cQ @a9 @mx ?_;rw[show fG p=[(p.1:X),(p.2:X)]from rfl];refine bh @Eb ?_;have fD:aA U h (F (F ap bX (.cells [.int .i64 0,.int .i64 0] false)) bX (.cells [(p.1:X),(p.2:X)] false)):=aN
  refine(ajx  M (ia.T  fD J)).mono ?_;rintro ou aM bW ⟨az0,E,I⟩;have dd:=(E bX J).trans (aT _ _ _);refine⟨I,?_⟩;refine hx @dd @sf @sc ?_;have ko:(ml fo p.1).length<=120:=by unfold ml eL;rw[gn];exact h7 (vX _ _) M.len
  refine(ajC  bb J (cr.o (λ_=>rfl) az0.rd) (aY _ _ sQ) (λq dt=>?_)).mono ?_
  ·obtain⟨g,a9,rfl⟩:=fz.1 dt;exact hwt g (CL a9).1
  rintro VM bc d4 ⟨Ue,fI,hb⟩;refine⟨hb,?_⟩;have UF:=d1.b J ao1 Ue;have hwd:=UF.p4;obtain⟨bk,gj,ewd,_⟩:=id UF;rw[ewd];refine aD ?_;have hj:∀c,c<bX->u bc c=u ap c:=λc a1=>by rw[fI c J,E c J,ar J,ar J]
  have Ts:fa (F bc d4 (.cells [.slice bk ((ml fo p.1).map λq=>(q.1,he r q.2 p.2)).length gj] false)) ll 1 w fE aQ:=dn.hl.T λce e=>ab
  have Us:((ml fo p.1).map λq=>(q.1,he r q.2 p.2))=tK r fo p:=by unfold ml tK;rw[pn];rfl
  refine x7  (k:=1) (λ_=>rfl) alH J Ts (VM,tK r fo p) (aT _ _ _) (by show[_]=[p4 VM];grind) J λb3 DW t4=>?_;refine⟨J,_,J,i+1,.slice (some ⟨d4+1,0,some 1⟩) (fE.length+1) (fE.length+1),fE++[(VM,tK r fo p)],some (d4+1),rfl,J,by rw[cv (J:i<1000000000000)],.inr ⟨d4+1,rfl,ab,DW⟩,(λce e=>ab),?_,?_,ab,λc a1=>?_,J⟩
  ·intro eu w4;rcases hp.1 w4 with cy|cy
   ·refine⟨(A eu cy).1.T (λce B=>?_) (λce B=>⟨B.1,J,λe=>ab⟩),(A eu cy).2⟩
    grind
   ·rw[iU.1 cy];refine⟨?_,?_,?_,λq dt=>?_⟩
    ·rw[<-Us];refine UF.T (λce B=>?_) (λce B=>⟨J,J,λe=>ab⟩);rw[t4 ce J (λe=>ab),ar J]
    ·unfold tK;rw[tc];exact Qo M.up p.1
    ·grind
    ·obtain⟨g,V,rfl⟩:=fz.1 dt;exact R7 (hwt g (CL V).1) (aY _ _ sQ) bb
  ·unfold rr at hK ⊢;rw[Jb,hK,ho,D]
   grind
  grind
 ·have In:i=(bq C x).length:=J
  subst In;rw[hC]at hK;have TB:AV ap bX w fE:=by
   refine⟨?_,λp D=>⟨(A p D).1.c (λb aO=>aO.2.1),(A p D).2.1,ab,(A p D).2.2.2⟩⟩;rcases dn with⟨rfl,rfl,rfl⟩|⟨b,e,rfl,a9⟩
   ·exact el.nil
   ·exact cr.o (λ_=>rfl) ⟨some ⟨b,0,some 1⟩,_,rfl,λ_=>⟨b,some 1,false,(mr b e).2,rfl,a9⟩⟩
  have hFl:(rr fE).length<50000:=by
   have:∀(L:aa (X × aa (Nat × Int))),(∀p∈L,p.2.length<=120)->(rr L).length<=L.length*120:=λL=>by
    induction L with
    |nil=>intro _;exact cD _
    |cons p L eY =>
     intro eZ;have:=eY λq dt=>eZ q (mG _ dt);unfold rr at this ⊢
     grind
   grind
  refine(Yx bb J TB hFl).mono ?_;rintro _ aM bW ⟨z,fy,rfl,hzA,zd,E,I⟩;have cL:=(d1.f hzA).fj;have hOL:fy=bq R (il r ag x):=by
   have e:(λi=>jL r (rr fE) i)=il r ag x:=by
    funext v
    rw[hK];exact apd av M
   rw[e]at zd;refine zd.done λv aG=>?_;refine wc λy cd=>?_;obtain⟨g,a9,rfl⟩:=fz.1 cd;have V:pB g∈fo:=av.mem_iff.2 (fz.2 ⟨g,a9,rfl⟩);have:=M.mi _ V;have:g.f<R:=this
   grind
  subst hOL;refine aD ?_;exact⟨z,rfl,cL.T (λ_ _ _=>rfl) J (cD _),eA.trans E J,J⟩
theorem apf{s:al}{r c:Nat}{v:X}{x:Nat->aw Int}{h:ae}{U:Nat}(M:hg c r ag)(aG:mO h U v r c ag)(b0:jU h U w n x)(bv:n<=4096):aH Q s 320 [v,w] h U (λI ac Y=>(∃y,I = .int .i64 y)/\aA U h ac/\U<=Y):=by
 refine arc ?_;have V:=aG;have E:=b0;obtain⟨v1,v2,v3,v4,rfl,h1,ap,aM,bc⟩:=aG;obtain⟨aB,c1,rfl,_⟩:=id h1;obtain⟨a2,c2,rfl,_⟩:=id ap;obtain⟨a3,b8,rfl⟩:=aM.form;obtain⟨aZ,fL,rfl,_⟩:=id bc;obtain⟨gN,rfl,aq⟩:=b0;obtain⟨cG,k7,rfl,_⟩:=id aq;have gz:=me n x;have bT:∀{o eF},aA U h (F (F h U o) (U+1) eF):=aN
 unfold adT;refine aD ?_;refine(Xm (E.T  bT J) bv).mono ?_;rintro EK aW a5 ⟨bg,D,A⟩;refine⟨A,?_⟩;have cJ:=D U J;rw[ar J,aT]at cJ;have cP:=bT.trans D J;have K:(bq n x).map (λp=>(p.1:Int))=f1 ((bq n x).map (·.1)):=by unfold f1;rw[pn];rfl
 rw[K]at bg;refine bh @cJ ?_;refine(aoZ M (V.T  cP J) (cr.o (λ_=>rfl) bg.rd) ab).mono ?_;rintro _ aK bX ⟨⟨y,rfl⟩,eW,B⟩;exact⟨B,⟨y,rfl⟩,aN,J⟩
theorem alI{s:al}{f a n:Int}{h:ae}{U:Nat}(I:0<=n/\n<1000000):aH Q s 317 [(f:X),(a:X),(n:X)] h U (λr ac Y=>(r = .int .i64 1\/r = .int .i64 2)/\ac=h/\Y=U):=by
 refine anj ?_;unfold abA
 by_cases E:f=1
 ·subst E;simp(disch:=omega)only[bl,seval]
  grind
 ·by_cases A:f=2
  ·subst A;simp(disch:=omega)only[bl,seval]
   grind
  ·have D:(f == 1)=false:=ab
   have B:(f == 2)=false:=ab
   simp(disch:=omega)only[bl,D,B,CC (show(8:Int)≠0 by decide),seval]
   grind
theorem ah8{s:al}{f a n:Int}{h:ae}{U:Nat}:aH Q s 319 [(f:X),(a:X),(n:X)] h U (λr ac Y=>(r = .int .i64 1\/r = .int .i64 2)/\ac=h/\Y=U):=by
 refine aig ?_;unfold WJ
 by_cases E:f=1
 ·subst E;simp(disch:=omega)only[bl,seval]
  grind
 ·by_cases A:f=2
  ·subst A;simp(disch:=omega)only[bl,seval]
   grind
  ·have D:(f == 1)=false:=ab
   have B:(f == 2)=false:=ab
   simp(disch:=omega)only[bl,D,B,CC (show(4:Int)≠0 by decide),seval]
   grind
def wy(h:ae)(U:Nat)(v:X)(n:Nat)(x:Nat->aw Int):Prop :=
 (∃gN,v = .agg ⟨[.int .i64 1,(n:X),gN,.int .i64 0,.slice none 0 0,.slice none 0 0]⟩/\el h U gN fG 2 (bq n x)) \/
 (∃ft dr,v = .agg ⟨[.int .i64 2,.int .i64 0,.slice none 0 0,(n:X),ft,dr]⟩/\cr h U ft j0 (eT n (j7 x))/\el h U dr cq 1 (cn n (jP x)))
theorem wy.T{h ac:ae}{U Y n:Nat}{v:X}{x:Nat->aw Int}(H:wy h U v n x)(B:aA U h ac)(A:U<=Y):wy ac Y v n x:=by
 rcases H with⟨M,e,D⟩|⟨E,I,e,D,K⟩
 ·exact .inl ⟨M,e,D.T B A⟩
 ·exact .inr ⟨E,I,e,D.T B A,K.T B A⟩
theorem QH{s:al}{v:X}{x:Nat->aw Int}{h:ae}{U:Nat}(aG:wy h U v n x)(bv:n<=63):aH Q s 321 [v] h U (λr ac Y=>jU ac Y r n x/\aA U h ac/\U<=Y):=by
 refine auG ?_;have gz:=me n x;have bT:∀{o eF},aA U h (F (F h U o) (U+1) eF):=aN
 unfold afy;rcases aG with⟨gN,rfl,B⟩|⟨ft,dr,rfl,B,ap⟩
 ·obtain⟨cG,k7,rfl,_⟩:=id B;refine aD ?_;refine(wd  (jU.T    ⟨_,rfl,B⟩ bT J) J).mono ?_;rintro _ aW a5 ⟨rfl,A,E⟩;have V:=A U J;rw[ar J,aT]at V;have I:=A (U+1) J;rw[aT]at I;have cP:=bT.trans A J;unfold P8;refine bh @V ?_;refine(Ci (B.T cP  J) J).mono ?_;rintro e2 aK bX ⟨dn,D,K⟩;refine⟨K,?_⟩;obtain⟨bL,gV,rfl⟩:=dn.form;have Eb:=(D U J).trans V;have M:=(D (U+1) J).trans I;refine lh @Eb @M @sf @sc ?_;refine⟨⟨_,rfl,?_⟩,aN,J⟩;exact cr.o (λ_=>rfl) (eG.rd (dn.fj.T  ab J J))
 ·obtain⟨ez,c3,rfl,_⟩:=id B;obtain⟨bD,qb,rfl,_⟩:=id ap;refine aD ?_;refine(aoX  (sp.T    ⟨_,_,rfl,B,ap⟩ bT J) bv).mono ?_;rintro fC aW a5 ⟨en,A,E⟩;have I:=A (U+1) J;rw[aT]at I;obtain⟨gN,rfl,aj⟩:=en;obtain⟨cG,k7,rfl,_⟩:=id aj;refine bh @I ?_;refine⟨⟨_,rfl,?_⟩,aN,J⟩;exact cr.o (λ_=>rfl) (eG.rd (aj.T (d2:=U+2) ab J J))
theorem wy.form{h:ae}{U:Nat}{v:X}{x:Nat->aw Int}(H:wy h U v n x):∃B D K a5 E cg M I c2 V bW b8,v = .agg ⟨[.int .i64 B,.int .i64 D,.slice K a5 E,.int .i64 cg,.slice M I c2,.slice V bW b8]⟩:=by
 rcases H with⟨gN,rfl,A⟩|⟨ft,dr,rfl,A,ap⟩
 ·obtain⟨cG,k7,rfl,_⟩:=id A
  grind
 ·obtain⟨ez,c3,rfl,_⟩:=id A;obtain⟨bD,qb,rfl,_⟩:=id ap
  grind
theorem alJ{s:al}{v:X}{x:Nat->aw Int}{h:ae}{U:Nat}(aG:wy h U v n x)(bv:n<=63):aH Q s 394 [v] h U (λr ac Y=>sp ac Y r n x/\aA U h ac/\U<=Y):=by
 refine anq ?_;have B:=aG;obtain⟨cB,cE,aB,m1,c1,cg,a2,m2,c2,a3,m3,b8,rfl⟩:=aG.form;have bT:∀{o eF},aA U h (F (F h U o) (U+1) eF):=aN
 unfold abD;refine aD ?_;refine(QH (B.T  bT J) bv).mono ?_;rintro nz aW a5 ⟨lG,D,K⟩;refine(aeO lG bv).mono ?_;rintro eQ aK bX ⟨BP,A,V⟩;have M:=(A (U+1) J).trans (D (U+1) J);rw[aT]at M;obtain⟨ft,dr,rfl,E,I⟩:=BP;obtain⟨ez,c3,rfl,_⟩:=id E;obtain⟨bD,qb,rfl,_⟩:=id I;refine bh @M ?_;exact⟨⟨_,_,rfl,(E.T  ab J J).rd,cr.o (λ_=>rfl) (I.T  ab J J).rd⟩,aN,J⟩
structure C1 (h:ae) (U:Nat) (t:X) (r:Int) (R C:Nat) (ag fo:aa GE) (x:Nat->aw Int):Prop where
 rg:n1 r
 m:hg R C ag
 bG:hg C R fo
 aCg:Ao ag fo
 d5:C<=63
 w:∀g∈ag,0<=g.w/\g.w<=2147483647
 aCh:∀i y,x i=some y->0<=y/\y<=eI
 v:∃cC oj aG MJ,t = .agg ⟨(r:X)::(dj cC++(dj oj++(dj aG++[.slice none 0 0,.bool true,.int .i64 MJ])))⟩/\kj h U cC R C ag/\mO h U oj R C fo/\wy h U aG C x
theorem C1.T{h ac:ae}{U Y:Nat}{t:X}{r:Int}{R C:Nat}{ag fo:aa GE}{x:Nat->aw Int}(H:C1 h U t r R C ag fo x)(B:aA U h ac)(A:U<=Y):C1 ac Y t r R C ag fo x :=
 { H with v:=by obtain⟨E,K,V,D,e,M,I,aM⟩:=H.v;exact⟨E,K,V,D,e,M.T B A,I.T B A,aM.T B A⟩ }
theorem mO.form{h:ae}{U:Nat}{v:X}{r c:Nat}{ag:aa GE}(H:mO h U v r c ag):∃I a5 K B M c2 D bW b8 E V A,v = .agg ⟨[(r:X),(c:X),.slice I a5 K,.slice B M c2,.slice D bW b8,.slice E V A]⟩:=by
 obtain⟨v1,v2,v3,v4,rfl,h1,ap,aM,bc⟩:=H;obtain⟨I,K,rfl,_⟩:=id h1;obtain⟨B,c2,rfl,_⟩:=id ap;obtain⟨D,b8,rfl⟩:=aM.form;obtain⟨E,A,rfl,_⟩:=id bc
 grind
def ahn(R:Nat)(r:Int)(ag:aa GE)(x:Nat->aw Int)(U:Nat)(h:ae):bR:=λaI ac Y=>∃z,aI = .tuple ⟨[z,.int .i64 0]⟩/\eG ac U Y z eK (bq R (il r ag x))/\aA U h ac/\U<=Y
theorem apg{s:al}{t:X}{C:Nat}{x:Nat->aw Int}{h:ae}{U:Nat}(H:C1 h U t r R C ag fo x):aH Q s 323 [t] h U (ahn R r ag x U h):=by
 refine ard ?_;obtain⟨cC,oj,aG,MJ,rfl,h1,ap,M⟩:=H.v;have D:=ap;have I:=M;obtain⟨b,aS,n,a2,bX,c2,a3,bW,b8,rfl⟩:=h1.form;obtain⟨cI,m1,e8,bQ,m2,fX,d6,m3,h0,fB,m4,nL,rfl⟩:=ap.form;obtain⟨cB,cE,aW,gE,fA,cg,aK,gW,fW,cf,ow,f3,rfl⟩:=M.form;have V:∀{o},aA U h (F h U o):=aN
 unfold adU;simp(disch:=omega)only[bl,NO,te,seval];refine(QH (I.T  V J) H.d5).mono ?_;rintro nz g1 cj ⟨lG,B,A⟩;refine⟨A,?_⟩;have cJ:=(B U J).trans (aT _ _ _);have cP:=V.trans B J;refine AA @cJ @sf @sc @th @xY @Ck ?_;have K:∀g∈fo,0<=g.w/\g.w<=2147483647:=λg a9=>by obtain⟨ck,E,rfl⟩:=fz.1 (H.aCg.mem_iff.1 a9);exact H.w ck E
 refine(ape H.rg H.aCg H.bG H.d5 (D.T cP J) lG K H.aCh).mono ?_;rintro _ g2 iH ⟨z,rfl,dn,eW,fg⟩;refine aD ?_;refine⟨J,z,rfl,dn.T ab J J,aN,J⟩
theorem aph{s:al}{t:X}{C:Nat}{x:Nat->aw Int}{h:ae}{U:Nat}(H:C1 h U t r R C ag fo x):aH Q s 324 [t] h U (ahn R r ag x U h):=by
 refine are ?_;obtain⟨cC,oj,aG,MJ,rfl,I,ap,K⟩:=H.v;have E:=I;have D:=K;obtain⟨b,aS,n,a2,bX,c2,a3,bW,b8,rfl⟩:=I.form;obtain⟨cI,m1,e8,bQ,m2,fX,d6,m3,h0,fB,m4,nL,rfl⟩:=ap.form;obtain⟨cB,cE,aW,gE,fA,cg,aK,gW,fW,cf,ow,f3,rfl⟩:=K.form;have M:∀{o},aA U h (F h U o):=aN
 unfold adV;simp(disch:=omega)only[bl,NO,te,seval];refine(alJ (D.T  M J) H.d5).mono ?_;rintro nz g1 cj ⟨lG,B,A⟩;refine⟨A,?_⟩;have cJ:=(B U J).trans (aT _ _ _);have cP:=M.trans B J;refine AA @cJ @sf @sc @th @xY @Ck ?_;refine(ao2 H.rg H.m H.d5 (E.T cP J) lG H.w H.aCh).mono ?_;rintro _ g2 iH ⟨z,rfl,dn,eW,V⟩;refine aD ?_;refine⟨J,z,rfl,dn.T ab J J,aN,J⟩
theorem api{s:al}{t:X}{C:Nat}{x:Nat->aw Int}{h:ae}{U:Nat}(H:C1 h U t r R C ag fo x):aH Q s 227 [t] h U (λaI ac Y=>∃z y,aI = .tuple ⟨[z,.int .i64 y,.int .i64 0]⟩/\eG ac U Y z eK (bq R (il r ag x))/\aA U h ac/\U<=Y):=by
 refine aq9 ?_;have r0:=H;obtain⟨cC,oj,aG,MJ,rfl,h1,ap,aM⟩:=H.v;have Tm:=h1;have h20:=ap;have Ui:=aM;obtain⟨b,aS,n,a2,bX,c2,a3,bW,b8,rfl⟩:=h1.form;obtain⟨cI,m1,e8,bQ,m2,fX,d6,m3,h0,fB,m4,nL,rfl⟩:=ap.form;obtain⟨cB,cE,aW,gE,fA,cg,aK,gW,fW,cf,ow,f3,rfl⟩:=aM.form;have bT:∀{o},aA U h (F h U o):=aN
 unfold adQ;simp(disch:=omega)only[bl,NO,te,seval];refine(QH (Ui.T  bT J) H.d5).mono ?_;rintro nz g1 cj ⟨lG,V,E⟩;refine⟨E,?_⟩;have cJ:=(V U J).trans (aT _ _ _);have cP:=bT.trans V J;refine AA @cJ @sf @sc @th @xY @Ck ?_;refine(apf H.bG (h20.T cP J) lG (by have:=H.d5;omega)).mono ?_;rintro _ g2 iH ⟨⟨y,rfl⟩,D,I⟩;refine⟨I,?_⟩;have B:=(D U J).trans cJ;have eA:=cP.trans D J;simp(disch:=omega)only[bl,cJ,B,sf,sc,th,xY,Ck,seval];refine(alC H.m (Tm.T eA J)).mono ?_;rintro _ c6 k8 ⟨rfl,K,M⟩;refine⟨M,?_⟩;have A:=(K U J).trans B;have fD:=eA.trans K J;simp(disch:=omega)only[bl,cJ,B,A,sf,sc,th,xY,Ck,seval];refine ah8.mono ?_;rintro w _ _ ⟨b0,gi,eN⟩;rw[gi,eN];refine⟨J,?_⟩;rcases b0 with rfl|rfl
 ·refine bh @A ?_;unfold JZ;refine aD ?_;refine(apg (r0.T fD J)).mono ?_;rintro _ ed cN ⟨z,rfl,dn,fI,hb⟩;refine aD ?_;exact⟨z,_,rfl,dn.T ab J J,aN,J⟩
 ·refine bh @A ?_;unfold JZ;refine aD ?_;refine(aph (r0.T fD J)).mono ?_;rintro _ ed cN ⟨z,rfl,dn,fI,hb⟩;refine aD ?_;exact⟨z,_,rfl,dn.T ab J J,aN,J⟩
def hasB(aV:aa GE)(a b:Nat):al:=aV.any λe=>decide (e.f=a/\e.t=b)
def cY(aV:aa GE)(a b:Nat):al:=decide (a≠b)&&(hasB aV a b||hasB aV b a)
theorem sz.up{w U A:Nat}{h B:ae}{r:X}{ac:ae}{Y:Nat}(H:sz w A B r ac Y)(V:aA U h B)(E:U<=A):sz w U h r ac Y:=by obtain⟨b,c,K,rfl,aW,I,D,M,h5⟩:=H;exact⟨b,c,K,rfl,J,I,D,aN,J⟩
structure fE (N:Nat) (h:ae) (ao aj:Nat) (os:aa X) (aDw:Nat->aa Nat) (qe:Nat->aw Nat):Prop where
 len:os.length=N
 s:∀i,i<N->∃o,os[i]? = some o/\gY h cq o (f1 (aDw i)) (qe i)
 b:∀i c,qe i=some c->ao<=c/\c<aj
 d:∀i j c,qe i=some c->qe j=some c->i=j
theorem fE.T{N:Nat}{h ac:ae}{ao aj dm:Nat}{A:aa X}{D:Nat->aa Nat}{B:Nat->aw Nat}(L:fE N h ao aj A D B)(E:∀c,ao<=c->c<aj->u ac c=u h c)(I:aj<=dm):fE N ac ao dm A D B :=
 ⟨L.len,λi aj=>by obtain⟨o,e,g⟩:=L.s i aj;exact⟨o,e,g.T λc e=>E c (L.b i c e).1 (L.b i c e).2⟩,λi c e=>⟨(L.b i c e).1,by have:=(L.b i c e).2;omega⟩,L.d⟩
def iB(bK:aa Int)(N d v:Nat):Int:=(if bK.length=0 then 0 else(bK[(d*N+v) % bK.length]?).getD 0)*4096+v
section
variable (aV:aa GE) (Ib:Nat->Nat->Int) (N:Nat)
def A5(d:Nat)(q:Nat->al)(v:Nat):al:=(ek N (λaI=>cY aV v aI&&q aI)).all λaI=>!decide (Ib d aI<=Ib d v)
end
section
variable {aV:aa GE} {Ib:Nat->Nat->Int} {N:Nat}
end
theorem Lc(h:n<9223372036854775808):IntKind.wrap .i64 (n:Int)=(n:Int):=jG J J
theorem acC{t:TypeId}{b:Nat}(B:a<9223372036854775808)(A:b<9223372036854775808):bin Q .or t (a:X) (b:X) = .ok (((a ||| b:Nat):X)):=by show R.ok (Value.int .i64 (IntKind.wrap .i64 ((BitVec.ofInt 64 (a:Int) ||| BitVec.ofInt 64 (b:Int)).toNat:Int)))=_;rw[BitVec.toNat_or,Bj  J,Bj  J,Lc (Nat.or_lt_two_pow (n:=63) B A)]
theorem alK{t:TypeId}(A:a<2147483648):bin Q .shl t (a:X) (.int .u64 12) = .ok (((a*4096:Nat):X)):=by show R.ok (Value.int .i64 (tw .i64 ((a:Int)*2 ^ (min (12:Int).toNat 64))))=_;rw[nT,show((a:Int)*2 ^ (min (12:Int).toNat 64))=((a*4096:Nat):Int)from ab,Lc J]
theorem avy{b:Nat}(A:b<4096):a*4096 ||| b=a*4096+b:=by rw[xS];exact(Nat.two_pow_add_eq_or_of_lt (i:=12) A a).symm
def SS(bK:aa Int):Prop:=bK.length<=1000/\∀x∈bK,0<=x/\x<=2147483647
theorem Yy{s:al}{k src len:Int}{N d v:Nat}{bK:aa Int}{eQ:X}{h:ae}{U:Nat}(bj:cr h U eQ cq bK)(M:SS bK)(d7:N<=4096)(aG:v<N)(hd2:d<=1000):
  aH Q s 368 [.agg ⟨[(k:X),(N:X),(src:X),(len:X),eQ]⟩,(d:X),(v:X)] h U (dJ (.int .i64 (iB bK N d v)) U h):=by
 refine anR ?_;obtain⟨a,cap,rfl,a1⟩:=id bj;unfold abU;have E:∀{o},aA U h (F h U o):=aN
 refine aD ?_;refine FE.mono ?_;rintro r h1 a5 ⟨rfl,K,I⟩;rw[K,I,li J];have da:IntKind.wrap .i64 ((N:Int)-1)=(N:Int)-1:=jG J J;refine bh @da ?_;refine FE.mono ?_;rintro r h1 a5 ⟨rfl,K,I⟩;rw[K,I,li J];unfold OO;obtain⟨bA,aO⟩:=M
 by_cases au:bK.length=0
 ·have aE:((bK.length:Nat):Int)=0:=J
  have es:bin Q .shl 2 (.int .i64 0) (.int .u64 12) = .ok (.int .i64 0):=rfl;have f5:bin Q .or 2 (.int .i64 0) (v:X) = .ok (v:X):=by rw[show(0:Int)=((0:Nat):Int)from rfl,acC J J,Nat.zero_or]
  refine hx @aE @es @f5 ?_;refine λ_=>⟨?_,E,J⟩
  unfold iB
  grind
 ·have A:0<bK.length:=J
  have B:(d*N+v) % bK.length<bK.length:=zN _ A;obtain⟨x,aY⟩:=dR  B;obtain⟨vF,Ub⟩:=aO x ab;obtain⟨y,rfl⟩:∃y:Nat,x=(y:Int):=⟨x.toNat,J⟩
  obtain⟨b,aS,ro,V,rfl,a9⟩:=a1 ab;rw[hM]at a9;have D:=(E (o:=.cells [(k:X),(N:X),(src:X),(len:X),.slice (some ⟨b,0,aS⟩) bK.length cap] false) b V).trans a9;have hdn:d*N<=4096000:=sb  (n₂:=1000)  (m₂:=4096) J J;have m1:IntKind.wrap .i64 ((d:Int)*(N:Int))=((d*N:Nat):Int):=by rw[show((d:Int)*(N:Int))=((d*N:Nat):Int) by omega];exact Lc J
  have m2:IntKind.wrap .i64 (((d*N:Nat):Int)+(v:Int))=((d*N+v:Nat):Int):=by rw[show(((d*N:Nat):Int)+(v:Int))=((d*N+v:Nat):Int) by omega];exact Lc J
  have m3:bin Q .rem 3 (((d*N+v:Nat):X)) (bK.length:X) = .ok ((((d*N+v) % bK.length:Nat):X)):=by rw[Ko J];rfl
  have f5:bin Q .or 2 (((y*4096:Nat):X)) (v:X) = .ok (((y*4096+v:Nat):X)):=by rw[acC J J,avy J]
  simp(disch:=omega)only[bl,show(0:Int)<(bK.length:Int) by omega,z9,m1,m2,m3,D,hN aY,alK (J:y<2147483648),f5,seval];refine⟨⟨?_,E,J⟩,λh=>absurd trivial h⟩;unfold iB
  grind
def gk:=And.intro @sf @Ck
theorem PB(h:n<4000000000):bin Q .and 3 (n:X) (.int .i64 1) = .ok (((n % 2:Nat):X)):=by rw[abc,BitVec.toNat_and,Bj  J,show(BitVec.ofInt 64 1).toNat=1 from rfl,Jc,iY _ J]
theorem aeR(n:Nat):((((n % 2:Nat):Int) == 0):al)=decide (n % 2=0):=ab
theorem PC{s:al}{k:Int}{t:Nat}{h:ae}{U:Nat}(B:k=1\/k=2\/k=3\/k=5)(D:t<100000):aH Q s 225 [(k:X),(t:X)] h U (fr (.int .i64 (gd k t)) U h):=by
 refine asK ?_;unfold aeL gd;rcases B with rfl|rfl|rfl|rfl
 ·refine aD ?_;exact⟨rfl,rfl,rfl⟩
 ·refine aD ?_;exact⟨rfl,rfl,rfl⟩
 ·refine aD ?_;exact⟨rfl,rfl,rfl⟩
 ·simp(disch:=omega)only[bl,↓reduceIte,Nat.reduceAdd,Nat.reduceSub,Nat.reduceMul,Nat.reduceLT,Nat.reduceLeDiff,Nat.reduceEqDiff,Int.reduceBEq,Int.reduceLT,Int.reduceNeg,PB (J:t<4000000000),aeR]
  by_cases A:t % 2=0
  ·simp[A,fr]
  ·simp[A,fr]
theorem QI{k:Int}{t:Nat}(A:k=1\/k=2\/k=3\/k=5):n1 (gd k t):=by unfold gd n1;omega
theorem aaq{s:al}{t:Nat}{h:ae}{U:Nat}(B:1<=t)(D:t<100000):aH Q s 459 [(t:X)] h U (fr ((((t-1) / 2:Nat):X)) U h):=by
 refine asN ?_;unfold aeN;have A:IntKind.wrap .i64 ((t:Int)-1)=((t-1:Nat):Int):=by rw[show(t:Int)-1=((t-1:Nat):Int) by omega];exact iY _ J
 have es:bin Q .shr 3 (((t-1:Nat):X)) (.int .u64 1) = .ok ((((t-1) / 2:Nat):X)):=by
  show R.ok (Value.int .i64 (((t-1:Nat):Int).fdiv 2))=_
  grind
 refine cQ @A @es ?_;exact⟨rfl,rfl,rfl⟩
def jf(h:ae)(U:Nat)(v:X)(low m:Nat)(S:ju):Prop:=hs h U v (low:Int) ((low+m:Nat):Int) m (cn m λi=>S.A (low+i)) (cn m λi=>S.B (low+i)) (λi=>S.q (low+i))
theorem jf.T{h ac:ae}{U Y low m:Nat}{v:X}{S:ju}(D:jf h U v low m S)(B:aA U h ac)(A:U<=Y):jf ac Y v low m S:=hs.T D B A
theorem aar{i:Nat}{f:Nat->Int}(h:i<n):(cn n f)[i]? = some (f i):=by unfold cn;grind
theorem MK{h:ae}{U i:Nat}{v:X}{f:Nat->Int}(H:cr h U v cq (cn n f))(aj:i<n):∃b A B cap,b<U/\v = .slice (some ⟨b,0,A⟩) n cap/\u h b=some (.cells (gA (cn n f)) B)/\(gA (cn n f))[i]? = some (.int .i64 (f i)):=by
 obtain⟨_,b,A,B,cap,E,e,D⟩:=H.at (aar aj)
 rw[iW]at e;rw[hM]at D;exact⟨b,A,B,cap,E,e,D,hN (aar aj)⟩
structure pw (h:ae) (U:Nat) (eQ:X) (k src len:Int) (N:Nat) (bK:aa Int):Prop where
 d:cr h U eQ cq bK
 ok:SS bK
 n60:N<=60
 pl:iL k N src len bK=0
 hj:k=1\/k=2\/k=3\/k=5
theorem pw.T{h ac:ae}{U Y:Nat}{eQ:X}{k src len:Int}{N:Nat}{bK:aa Int}(H:pw h U eQ k src len N bK)(B:aA U h ac)(A:U<=Y):pw ac Y eQ k src len N bK:={ H with d:=H.d.T B A }
section
variable {s:al} {k src len:Int} {N low m t i:Nat} {bK:aa Int} {eQ aF:X} {S:ju} {h:ae} {U:Nat}
theorem alL(P:pw h U eQ k src len N bK)(aq:jf h U aF low m S)(ua:low+m<=N)(aj:i<m)(h1:1<=t)(ci:t<1000):
  aH Q s 403 [.agg ⟨[(k:X),(N:X),(src:X),(len:X),eQ]⟩,aF,(t:X),(i:X)] h U (λr ac Y=>(∃y b,r = .tuple ⟨[.int .i64 y,.bool b]⟩/\qB k (iB bK N ((t-1) / 2)) t S (low+i)=if b=true then some y else none)/\aA U h ac/\U<=Y):=by
 refine aoQ ?_;obtain⟨bj,M,d7,bg,hk⟩:=P;obtain⟨dr,fC,ft,rfl,fx,gD,gg⟩:=aq;obtain⟨bk,gj,rfl,_⟩:=id bj;obtain⟨a2,c2,rfl,_⟩:=id gD;obtain⟨a3,b8,rfl,_⟩:=id gg;obtain⟨b,aS,ro,cap,aO,rfl,a9,K⟩:=MK fx aj;have B:∀{o a0},aA U h (F (F h U o) (U+1) a0):=aN
 have A:∀{o a0},u (F (F h U o) (U+1) a0) b=_:=λ{o a0}=>(B b aO).trans a9;unfold acw;refine aD ?_;refine(KP J aj (gg.T  B J)).mono ?_;rintro _ _ _ ⟨rfl,V,I⟩;rw[V,I];have zo:IntKind.wrap .i64 ((low:Int)+(i:Int))=((low+i:Nat):Int):=by rw[<-vZ];exact iY _ J
 unfold qB;rcases hk with rfl|rfl|rfl|rfl
 ·refine bh @zo ?_;exact⟨⟨_,_,rfl,by simp⟩,B,J⟩
 ·refine cQ @A @K ?_;exact⟨⟨_,_,rfl,by simp⟩,B,J⟩
 ·refine cQ @A @K ?_;exact⟨⟨_,_,rfl,by simp⟩,B,J⟩
 ·simp(disch:=omega)only[bl,↓reduceIte,Nat.reduceAdd,Nat.reduceSub,Nat.reduceMul,Nat.reduceLT,Nat.reduceLeDiff,Nat.reduceEqDiff,Int.reduceBEq,Int.reduceLT,Int.reduceNeg,PB (J:t<4000000000),aeR];refine⟨λap=>⟨⟨_,_,rfl,ab⟩,B,J⟩,λap=>?_⟩;refine(aaq h1 J).mono ?_;rintro _ _ _ ⟨rfl,V,I⟩;rw[V,I];refine⟨J,?_⟩;simp(disch:=omega)only[bl,zo,gk,seval];refine(Yy (bj.T  B J) M   J  J J).mono ?_;rintro _ g1 cj ⟨rfl,E,D⟩;refine⟨D,?_⟩;have cJ:=E (U+1) J;rw[aT]at cJ;have vL:=(E b J).trans A;simp(disch:=omega)only[bl,cJ,vL,A,K,gk,seval];refine⟨⟨_,_,rfl,?_⟩,aN,J⟩
  grind
theorem acD{f:Nat->aw Int}{b:al}(h:f n=if b=true then some y else none):bq (n+1) f=bq n f++if b=true then[(n,y)]else[]:=by
 rw[ty,h]
 grind
def OuJ(U a5 t m:Nat)(pl m5:aa X)(f:Nat->aw Int)(h:ae)(EN:Nat)(aF:aa X)(ac:ae)(Y:Nat):Prop :=
 ∃i dr,EN=m-i/\i<=m/\aF=[(t:X),bf U,.pointer (some ⟨U+1,0,none⟩),.pointer (some ⟨U+2,0,none⟩),bf a5,(m:X),(i:X)] /\
  u ac U=some (.cells pl false)/\u ac (U+1)=some (.cells m5 false)/\u ac (U+2)=some (.cells [.int .i64 0,.slice none 0 0] false)/\u ac a5=some (.cells [(m:X),dr] false)/\d1 ac dr fG 2 (bq i f) (a5+1) Y/\aA U h ac/\a5+1<=Y
theorem as2(P:pw h U eQ k src len N bK)(aq:jf h U aF low m S)(ua:low+m<=N)(h1:1<=t)(ci:t<1000):
  aH Q s 337 [.agg ⟨[(k:X),(N:X),(src:X),(len:X),eQ]⟩,aF,(t:X)] h U (λr ac Y=>pK ac U Y r m (λi=>qB k (iB bK N ((t-1) / 2)) t S (low+i))/\aA U h ac/\U<=Y):=by
 refine avr ?_;obtain⟨bj,hF,d7,bg,V⟩:=id P;have E:=aq;obtain⟨dr,fC,ft,rfl,fx,gD,gg⟩:=aq;obtain⟨bk,gj,rfl,_⟩:=id bj;obtain⟨aB,c1,rfl,_⟩:=id fx;obtain⟨a2,c2,rfl,_⟩:=id gD;obtain⟨a3,b8,rfl,_⟩:=id gg;have bT:∀{o a0 k6},aA U h (F (F (F h U o) (U+1) a0) (U+2) k6):=aN
 unfold af8;refine aD ?_;refine(Ky (bj.T  bT J) bg J J J (E.T  bT J) (iW _ _) (iW _ _)).mono ?_;rintro _ g1 D ⟨rfl,B,f0⟩;have g8:=B U J;rw[ar J,ar J,aT]at g8;have de:=B (U+1) J;rw[ar J,aT]at de;have ew:=B (U+2) J;rw[aT]at ew;have fb:IntKind.wrap .i64 (((low+m:Nat):Int)-(low:Int))=(m:Int):=by rw[show((low+m:Nat):Int)-(low:Int)=(m:Int) by omega];exact iY m J
 refine hx @g8 @de @fb ?_;generalize fK:F (F (F g1 (U+1) _) D _) D _=H;have aE:∀d,d≠U+1->d≠D->u H d=u g1 d:=ab
 have aW:u H D=some (.cells [(m:X),.slice none 0 0] false):=ab
 have aK:u H (U+1)=some (.cells [(low:X),((low+m:Nat):X),.slice aB (cn m λi=>S.A (low+i)).length c1,.slice a2 (cn m λi=>S.B (low+i)).length c2,.slice a3 (eT m λi=>S.q (low+i)).length b8] false):=ab
 refine bC.mk (OuJ U D t m _ _ (λi=>qB k (iB bK N ((t-1) / 2)) t S (low+i)) h) m ⟨0,_,J,J,rfl,(aE U J J).trans g8,aK,ab,aW,.inl ⟨rfl,rfl⟩,aN,J⟩ ?_;rintro _ _ ap bX ⟨i,dr,rfl,aj,rfl,k9,fA,fW,f3,dn,V,dO⟩;rw[asM];unfold acu;obtain⟨iu,nv',oj,rfl⟩:=dn.form;refine hx @k9 @fA @f3 ?_;refine⟨λct=>?_,λeM=>?_⟩
 ·refine(alL (P.T V J) (E.T V J) ua J h1 ci).mono ?_;rintro _ aM bW ⟨⟨y,b,rfl,cd⟩,A,M⟩;have gs:=(A U J).trans k9;have eE:=(A (U+1) J).trans fA;have hS:=(A (U+2) J).trans fW;have i6:=(A D J).trans f3;have K:=dn.T   (λd h1 ap=>A d J) M;refine cQ @i6 (cv (J:i<1000000000000)) ?_;refine⟨λaO=>?_,λaO=>?_⟩
  ·refine lJ  (k:=2)  (λ_=>rfl) (λ_=>rfl) J (K.T  ab J) J (i,y) (aT _ _ _) rfl (by have:=me i λi=>qB k (iB bK N ((t-1) / 2)) t S (low+i);omega) λdF b3 I gf=>?_;obtain⟨bt,fP,ul,rfl⟩:=I.form;have kO:=(gf D J).trans ((ar J).trans i6);refine bh @kO ?_;refine⟨_,?_,i+1,_,rfl,J,rfl,?_,?_,?_,aT _ _ _,?_,?_,J⟩
   ·omega
   ·grind
   ·grind
   ·grind
   ·rw[acD  (f:=λi=>qB k (iB bK N ((t-1) / 2)) t S (low+i)) cd,aO,if_pos rfl];exact I.T ab J
   ·exact aN
  ·refine⟨_,?_,i+1,_,rfl,J,rfl,gs,eE,hS,i6,?_,aN,J⟩
   ·omega
   ·rw[acD  (f:=λi=>qB k (iB bK N ((t-1) / 2)) t S (low+i)) cd,aO,if_neg (by simp),h6];exact K
 ·have:i=m:=J
  subst this;refine cQ @fW @f3 ?_;refine⟨⟨_,rfl,?_⟩,λd bj=>by rw[ar J];exact V d bj,J⟩;exact(d1.f dn).T (λd h1 ap=>ar J) J (cD _)
end
section
variable {s:al} {k src len:Int} {N low m t i:Nat} {bK:aa Int} {eQ aF:X} {S:ju} {h:ae} {U:Nat}
def AC(h:ae)(ao U:Nat)(w:X)(o:al)(m:Nat)(q:Nat->al):Prop:=(o=true/\w = .slice none 0 0/\∀i,i<m->q i=true)\/(o=false/\eG h ao U w j0 (eT m q))
def AkJ(p:Nat)(want:Int)(dr:X)(m a5:Nat)(q:Nat->al)(h1:ae)(EN:Nat)(aF:aa X)(ac:ae)(Y:Nat):Prop :=
 ∃i acc,EN=m-i/\i<=m/\aF=[bf p,(want:X),acc,dr,(m:X),(i:X)]/\d1 ac acc cq 1 (f1 (ek i q)) a5 Y/\aA a5 h1 ac/\a5<=Y
theorem alM(P:pw h U eQ k src len N bK)(aq:jf h U aF low m S)(ua:low+m<=N):
  aH Q s 331 [.agg ⟨[(k:X),(N:X),(src:X),(len:X),eQ]⟩,aF,(t:X)] h U (λr ac Y=>∃w o,r = .tuple ⟨[w,.bool o]⟩/\AC ac U Y w o m (λi=>su k S (low+i))/\aA U h ac/\U<=Y):=by
 refine aoO ?_;obtain⟨bj,hF,d7,bg,D⟩:=id P;have M:=aq;obtain⟨dr,fC,ft,rfl,fx,gD,gg⟩:=aq;obtain⟨bk,gj,rfl,_⟩:=id bj;obtain⟨aB,c1,rfl,_⟩:=id fx;obtain⟨a2,c2,rfl,_⟩:=id gD;obtain⟨a3,b8,rfl,_⟩:=id gg;have bT:∀{o a0},aA U h (F (F h U o) (U+1) a0):=aN
 unfold act;refine aD ?_;refine(Ky (bj.T  bT J) bg J J J (hs.T M  bT J) (iW _ _) (iW _ _)).mono ?_;rintro _ g1 a5 ⟨rfl,I,f0⟩;have g8:=I U J;rw[ar J,aT]at g8;have de:=I (U+1) J;rw[aT]at de;rw[iW,iW]at *
 refine cQ @g8 @de ?_;have fb:IntKind.wrap .i64 (((low+m:Nat):Int)-(low:Int))=(m:Int):=by rw[show((low+m:Nat):Int)-(low:Int)=(m:Int) by omega];exact iY m J
 have B:∀(A:Int) (q:Nat->al),(∀i,i<m->q i=decide (S.A (low+i)=A))->∀H,u H (U+1)=some (.cells [(low:X),((low+m:Nat):X),.slice aB m c1,.slice a2 m c2,.slice a3 (eT m λi=>S.q (low+i)).length b8] false)->aA U h H->JM s (λr ac Y=>∃w o,r = .tuple ⟨[w,.bool o]⟩/\AC ac U Y w o m q/\aA U h ac/\U<=Y) (.pointer (some ⟨U+1,0,none⟩)) (.int .i64 A) H a5:=λA q dt H fK ux=>by
  unfold JM;refine bh @fK ?_;refine bC.mk (AkJ (U+1) A (.slice aB m c1) m a5 q H) m ⟨0,_,J,J,rfl,.inl ⟨rfl,rfl⟩,aN,J⟩ ?_;rintro _ _ ap bX ⟨i,acc,rfl,aj,rfl,K,D,dO⟩;rw[alv];unfold Yr;obtain⟨bD,VN,qb,rfl⟩:=K.form;have fA:=(D (U+1) J).trans fK;refine aD ?_;refine⟨λct=>?_,λeM=>?_⟩
  ·obtain⟨b,aS,ro,cap,aO,e,a9,a1⟩:=MK fx J;cases e;have E:=(D b J).trans ((ux b aO).trans a9)
   by_cases e:S.A (low+i)=A
   ·simp(disch:=omega)only[bl,E,a1,show(S.A (low+i) == A)=true from uE.2 e,cv (J:i<1000000000000),seval];refine lJ  (k:=1)  (λ_=>rfl) (λ_=>rfl) J (K.T  ab J) J (i:Int) (aT _ _ _) rfl (by unfold f1;rw[gn];have:=u0 i q;omega) λdF b3 V gf=>?_;refine⟨_,J,i+1,_,rfl,J,rfl,?_,aN,J⟩;rw[Kx,dt i J,gP e,if_pos rfl];exact V
   ·simp(disch:=omega)only[bl,E,a1,show(S.A (low+i) == A)=false from r8.2 e,cv (J:i<1000000000000),seval];refine⟨_,J,i+1,_,rfl,J,rfl,?_,D,dO⟩;rw[Kx,dt i J,hD e,if_neg (by simp),h6];exact K
  ·have:i=m:=J
   subst this;refine cQ @fA @fb ?_;refine(KO   J K.rd (λx aY=>by unfold ek at aY;grind) (by have:=u0 i q;omega)).mono ?_;rintro w bc d4 ⟨jB,fI,hb⟩;rw[RB]at jB;exact⟨_,_,rfl,.inr ⟨rfl,eG.T jB ab J J⟩,aN,J⟩
 unfold su;rcases D with rfl|rfl|rfl|rfl
 ·refine aD ?_;exact B (-1) _ ab _ ab aN
 ·refine aD ?_;exact⟨_,_,rfl,.inl ab,aN,J⟩
 ·refine aD ?_;exact⟨_,_,rfl,.inl ab,aN,J⟩
 ·refine aD ?_;exact B 0 _ ab _ ab aN
def oh(z:Int × Int × al):X:=.tuple ⟨[(z.1:X),(z.2.1:X),.bool z.2.2]⟩
theorem ajD{b:al}(P:pw h U eQ k src len N bK)(aq:jf h U aF low m S)(ua:low+m<=N)(aj:i<m)(h1:1<=t)(ci:t<1000):
  aH Q s 402 [.agg ⟨[(k:X),(N:X),(src:X),(len:X),eQ]⟩,aF,(t:X),(i:X),(y:X),.bool b] h U
   (dJ (oh (km k (iB bK N ((t-1) / 2)) t S (low+i) (if b=true then some y else none))) U h):=by
 refine alx ?_;obtain⟨bj,hF,d7,bg,hk⟩:=id P;obtain⟨dr,fC,ft,rfl,fx,gD,gg⟩:=aq;obtain⟨bk,gj,rfl,_⟩:=id bj;obtain⟨a3,b8,rfl,_⟩:=id gg;obtain⟨cI,sp1,eE,aBI,hR,rfl,qI,yV⟩:=MK fx aj;obtain⟨bQ,k3,hS,ry,fm,rfl,iq,nq⟩:=MK gD aj;have V:∀{o a0},aA U h (F (F h U o) (U+1) a0):=aN
 have M:∀{o a0},u (F (F h U o) (U+1) a0) cI=_:=λ{o a0}=>(V cI hR).trans qI;have I:∀{o a0},u (F (F h U o) (U+1) a0) bQ=_:=λ{o a0}=>(V bQ fm).trans iq;generalize A:km k (iB bK N ((t-1) / 2)) t S (low+i) (if b=true then some y else none)=Z;have B:∀{w o a0},w=oh Z->dJ (oh Z) U h w (F (F h U o) (U+1) a0) (U+2):=λe=>⟨e,V,J⟩
 unfold aan;refine lh @M @yV @I @nq ?_;unfold km at A;rcases hk with rfl|rfl|rfl|rfl
 ·cases b
  ·refine aD ?_;exact B (by rw[<-A];rfl)
  ·by_cases e:S.A (low+i) = -1
   ·refine bh @e ?_;exact B (by rw[<-A];simp[oh,e])
   ·simp(disch:=omega)only[bl,show(S.A (low+i) == -1)=false from r8.2 e,seval];exact B (by rw[<-A];simp[oh,e])
 ·unfold Fy tj;cases b
  ·refine aD ?_;exact B (by rw[<-A];rfl)
  ·refine aD ?_;exact⟨λe=>B (by rw[<-A];simp[oh,e]),λe=>B (by rw[<-A];simp[oh,e])⟩
 ·unfold Fy tj;cases b
  ·refine aD ?_;exact B (by rw[<-A];rfl)
  ·refine aD ?_;exact⟨λe=>B (by rw[<-A];simp[oh,e]),λe=>B (by rw[<-A];simp[oh,e])⟩
 ·unfold Fy Ol tj
  by_cases aE:S.A (low+i)=0
  case neg =>
   simp(disch:=omega)only[bl,show(S.A (low+i) == 0)=false from r8.2 aE,seval];exact B (by rw[<-A];simp[oh,aE])
  have D:=PB (J:t<4000000000)
  by_cases E:t % 2=0
  ·rw[E]at D
   replace D:bin Q .and 3 (t:X) (.int .i64 1) = .ok (.int .i64 0):=D
   cases b
   ·refine cQ @aE @D ?_;exact B (by rw[<-A];simp[oh,aE,E])
   ·refine cQ @aE @D ?_;exact B (by rw[<-A];simp[oh,aE,E])
  ·rw[show t % 2=1 by omega]at D
   replace D:bin Q .and 3 (t:X) (.int .i64 1) = .ok (.int .i64 1):=D
   cases b
   ·refine cQ @aE @D ?_;exact B (by rw[<-A];simp[oh,aE,E])
   ·refine cQ @aE @D ?_;refine(aaq h1 J).fM ⟨J,?_⟩;simp(disch:=omega)only[bl,gk,seval];have zo:IntKind.wrap .i64 ((low:Int)+(i:Int))=((low+i:Nat):Int):=by rw[<-vZ];exact iY _ J
    refine bh @zo ?_;refine(Yy   (bj.T  V J) hF J  J J).cu λg1 cj d0 K=>⟨K,?_⟩
    have cP:=V.trans d0 J;refine aD ?_;exact⟨λe=>⟨by rw[<-A];simp[oh,aE,E,e],cP,J⟩,λe=>⟨by rw[<-A];simp[oh,aE,E,e],cP,J⟩⟩
end
section
variable {s:al} {k src len:Int} {N low m t i:Nat} {bK:aa Int} {eQ aF rZ:X} {S:ju} {xE:Nat->aw Int} {h:ae} {U:Nat}
theorem jC(o:aw Int):(if o.isSome=true then some (o.getD 0)else none)=o:=by cases o <;> rfl
theorem aiF{aCi D I E:Nat}{bm:aw Addr}{n6 hv:Nat}{eE hS i6 nJ:al}{bk:aw Addr}{gj:Nat}(P:pw h U (.slice bk bK.length gj) k src len N bK)(aq:jf h U aF low m S)(cd:jU h U (.agg ⟨[(m:X),.slice bm n6 hv]⟩) m xE)(M:low+m<=N)(aj:i<m)(h1:1<=t)(ci:t<1000)
  (g1:u h aCi=some (.cells [(m:X),.slice bm n6 hv] eE)) (g2:u h D=some (.cells [(k:X),(N:X),(src:X),(len:X),.slice bk bK.length gj] hS)) (c6:u h I=some (.cells (dj aF) i6)) (ed:u h E=some (.cells [(t:X)] nJ)) (Md:D<U) (V:I<U) (hpt:E<U):
  aH Q s 400 [(i:X),bf aCi,bf D,bf I,bf E] h U
   (dJ (oh (km k (iB bK N ((t-1) / 2)) t S (low+i) (xE i))) U h):=by
 refine ajv ?_;have K:=aq;obtain⟨dr,fC,ft,rfl,fx,gD,gg⟩:=aq;obtain⟨aB,c1,rfl,_⟩:=id fx;obtain⟨a2,c2,rfl,_⟩:=id gD;obtain⟨a3,b8,rfl,_⟩:=id gg;have bp:m<=63:=by have:=P.n60;omega
 unfold Ys;refine bh @g1 ?_;refine(asI cd J aj).mono ?_;rintro _ ap bX ⟨rfl,A,B⟩;simp(disch:=omega)only[bl,(A D Md).trans g2,(A I V).trans c6,(A E hpt).trans ed,seval];refine(ajD   (P.T A B) (K.T A B) M aj h1 ci).mono ?_;rintro _ aM bW ⟨rfl,e1,gJ⟩;rw[jC];unfold oh;refine aD ?_;exact⟨rfl,aN,J⟩
theorem ajE(P:pw h U eQ k src len N bK)(aq:jf h U aF low m S)(cd:jU h U rZ m xE)(K:low+m<=N)(h1:1<=t)(ci:t<1000):
  aH Q s 336 [.agg ⟨[(k:X),(N:X),(src:X),(len:X),eQ]⟩,aF,(t:X),rZ] h U (λr ac Y=>lO ac U Y r (low:Int) ((low+m:Nat):Int) m (cn m λi=>(km k (iB bK N ((t-1) / 2)) t S (low+i) (xE i)).1) (cn m λi=>(km k (iB bK N ((t-1) / 2)) t S (low+i) (xE i)).2.1) (λi=>(km k (iB bK N ((t-1) / 2)) t S (low+i) (xE i)).2.2)/\aA U h ac/\U<=Y):=by
 refine alw ?_;obtain⟨bj,hF,d7,bg,hk⟩:=id P;have E:=aq;obtain⟨dr,fC,ft,rfl,fx,gD,gg⟩:=aq;obtain⟨bk,gj,rfl,_⟩:=id bj;obtain⟨aB,c1,rfl,_⟩:=id fx;obtain⟨a2,c2,rfl,_⟩:=id gD;obtain⟨a3,b8,rfl,_⟩:=id gg;have I:=cd;obtain⟨gN,rfl,hyi⟩:=cd;obtain⟨cG,k7,rfl,_⟩:=id hyi;have bT:∀{o eF dP gh l0},aA U h (F (F (F (F (F h U o) (U+1) eF) (U+2) dP) (U+3) gh) (U+4) l0):=aN
 unfold aam;refine aD ?_;refine(Ky (bj.T  bT J) bg J J J (hs.T E  bT J) (iW _ _) (iW _ _)).mono ?_;rintro _ g1 a5 ⟨rfl,D,f0⟩;have g8:=D U J;rw[ar J,ar J,ar J,ar J,aT]at g8;have de:=D (U+1) J;rw[ar J,ar J,ar J,aT]at de;have ew:=D (U+2) J;rw[ar J,ar J,aT]at ew;have V:=D (U+3) J;rw[ar J,aT]at V;have mC:=D (U+4) J;rw[aT]at mC;have fb:IntKind.wrap .i64 (((low+m:Nat):Int)-(low:Int))=(m:Int):=by rw[show((low+m:Nat):Int)-(low:Int)=(m:Int) by omega];exact iY m J
 refine lh @g8 @de @V @fb ?_;have eA:∀{o},aA U h (F g1 (U+1) o):=aN
 refine(wd (I.T  eA J) J).cu λg2 bX A fg=>?_;have gs:=(A U J).trans ((ar J).trans g8);have eE:=(A (U+1) J).trans (aT _ _ _);have hS:=(A (U+2) J).trans ((ar J).trans ew);have i6:=(A (U+3) J).trans ((ar J).trans V);have nJ:=(A (U+4) J).trans ((ar J).trans mC);have fD:=eA.trans A J;have EN:((m:Int) == (m:Int))=true:=ab
 refine cQ @i6 @EN ?_;unfold Oj;refine bh @eE ?_;refine(Yl (mE:=λi=>(km k (iB bK N ((t-1) / 2)) t S (low+i) (xE i)).1) (l7:=λi=>(km k (iB bK N ((t-1) / 2)) t S (low+i) (xE i)).2.1) (q:=λi=>(km k (iB bK N ((t-1) / 2)) t S (low+i) (xE i)).2.2) J λi ac Y aj B wP=>?_).mono ?_
 ·have gG:=fD.trans B J;exact aiF (P.T gG J) (jf.T E gG J) (I.T gG J) K aj h1 ci ((B _ J).trans i6) ((B _ J).trans gs) ((B _ J).trans eE) ((B _ J).trans hS) J J J
 rintro w f4 fP ⟨dn,gf,nl⟩;have M:=dn;obtain⟨nB,lY,aEt,rfl,nK,qh,qY⟩:=dn;obtain⟨cI,e8,rfl,_⟩:=id nK;obtain⟨bQ,fX,rfl,_⟩:=id qh;obtain⟨d6,h0,rfl,_⟩:=id qY;have s7:=(gf (U+4) J).trans nJ;refine bh @s7 ?_;exact⟨M.wid ab J J,aN,J⟩
end
theorem as3{i b w:Nat}(aj:i<n):gS z (.slice (some ⟨b,0,some (w+1)⟩) n n) (some (i:X)) none none = .ok (.slice (some ⟨b,i*z,some (w+1)⟩) (n-i) (n-i)):=by
 show nV z (some ⟨b,0,some (w+1)⟩) n false n n i=_;unfold nV;rw[show(Nat.ble n n&&(Nat.ble n n&&Nat.ble i n))=true by simp;omega];unfold uX;rw[show Nat.beq n i=false by
  cases A:Nat.beq n i with
  |true=>exact absurd (gm A) J
  |false=>rfl]
 show R.ok (Value.slice (some ⟨b,Nat.add 0 (Nat.mul i z),some (w+1)⟩) (Nat.sub n i) (Nat.sub n i))=_;simp
theorem as4{i b w:Nat}(aj:i<n):gS z (.slice (some ⟨b,0,some (w+1)⟩) n n) none (some (i:X)) none = .ok (.slice (some ⟨b,0,some (w+1)⟩) i n):=by
 show nV z (some ⟨b,0,some (w+1)⟩) n false n i 0=_;unfold nV;rw[show(Nat.ble n n&&(Nat.ble i n&&Nat.ble 0 i))=true by simp;omega];unfold uX;rw[show Nat.beq n 0=false by
  cases A:Nat.beq n 0 with
  |true=>have:=gm A;omega
  |false=>rfl]
 show R.ok (Value.slice (some ⟨b,Nat.add 0 (Nat.mul 0 z),some (w+1)⟩) (Nat.sub i 0) (Nat.sub n 0))=_;simp
theorem acE{az:Type}{enc:az->aa X}{k t e b i c U:Nat}{aS:aw Nat}{l:aa az}{h:ae}(z:az)(B:∀x,(enc x).length=k)(a1:∀x,ee (enc x)=true)(o9:m9 Q t=true)(xC:rj Q t=some e)(aDx:nU Q e=some (enc z))(V:l.length=n)(aj:i<n)(M:u h b=some (.cells (bd enc l) false)):
  pr Q .clear [t] h U [.slice (some ⟨b,i*k,aS⟩) (n-i) c] = .ok (.val jT (F h b (.cells (bd enc (l.take i++List.replicate (n-i) z)) false)) U):=by
 have bb:gI (n-i) (enc z)=bd enc (List.replicate (n-i) z):=by
  rw[aqt];generalize n-i=q
  induction q with
  |zero=>rfl
  |succ q A=>rw[EZ,EZ,List.flatten_cons,A];rfl
 have I:∀q,ee (bd enc (List.replicate q z))=true:=by
  intro q
  induction q with
  |zero=>rfl
  |succ q A =>
   rw[EZ];show ee (enc z++bd enc _)=true;have app:∀a b:aa X,ee a=true->ee b=true->ee (a++b)=true:=by
    intro a b E M
    induction a with
    |nil=>grind
    |cons x a A =>
     rw[q9,eB]at E;show ee (x::(a++b))=true;rw[q9,E.1,A E.2];rfl
   grind
 have tZ:(bd enc l).length=n*k:=by rw[gc B,V]
 have D:(bd enc (List.replicate (n-i) z)).length=(n-i)*k:=by rw[gc B,ET]
 have bp:i*k+(n-i)*k=n*k:=by rw[<-zM];grind
 show(bif rk Q t||m9 Q t then Gw Q t h U (.slice (some ⟨b,i*k,aS⟩) (n-i) c)else .no "clear")=_;rw[o9,Bool.or_true];obtain⟨m,K⟩:∃m,n-i=m+1:=⟨n-i-1,J⟩
 rw[K];show KG Q t h U ⟨b,i*k,aS⟩ (m+1)=_;rw[<-K];unfold KG;rw[xC,Ge,aDx,Ge];simp only[];rw[bb,Js M ab J,D];show R.ok _=_;rw[NC J,h6,zU];have:=Z5 B l 0 i
 grind
theorem aho:m9 Q 98=true:=by kernel_rfl
theorem az1:rj Q 98=some 274:=by kernel_rfl
theorem az2:nU Q 274=some (eK (0,0)):=by kernel_rfl
def DlJ(b:Nat)(L:aa (Nat × Int))(q:Nat × Int->al)(qW:X)(h:ae)(U:Nat)(t:Nat)(aF:aa X)(ac:ae)(Y:Nat):Prop :=
 ∃(i j:Nat) (m:aa (Nat × Int)),t=L.length-j/\j<=L.length/\i<j/\aF=[.slice (some ⟨b,0,some 3⟩) L.length L.length,qW,(i:X),(j:X)]/\m.length=L.length/\u ac b=some (.cells (bd eK m) false) /\
  m.take i=(L.take j).filter (λp=>!q p)/\m.drop j=L.drop j/\(∀d,d<U->d≠b->u ac d=u h d)/\U<=Y
theorem avz{s:al}{v:X}{h:ae}{U:Nat}(eD:L.length<1000000)(M:el h U v eK 3 L)(bE:∀(p:Nat × Int),p∈L->∀ac Y,aA U h ac->U<=Y->aH Q s er (.agg ⟨eK p⟩::cs) ac Y (dJ (.bool (q p)) Y ac)):
  aH Q s 396 [v,.func (.func er) ⟨[]⟩ ⟨cs⟩] h U (λr ac Y=>(∃x:Int,r = (x:X)/\((x = -1/\∀p∈L,q p=false)\/∃n y,x=(n:Nat)/\L[n]? = some y/\q y=true/\∀p∈L.take n,q p=false))/\aA U h ac/\U<=Y):=by
 refine Wo ?_;unfold N5;obtain⟨bk,cap,rfl,a1⟩:=id M;refine aD ?_;refine bC.mk (λm aF ac Y=>∃i,m=L.length-i/\i<=L.length/\aF=[.slice bk L.length cap,.func (.func er) ⟨[]⟩ ⟨cs⟩,.int .i64 0,(L.length:X),(i:X)]/\(∀p∈L.take i,q p=false)/\aA U h ac/\U<=Y) L.length ⟨0,J,J,rfl,ab,aN,J⟩ ?_;rintro _ _ ap bX ⟨i,rfl,aj,rfl,rD,B,A⟩;rw[Wk];unfold NZ;refine aD ?_;refine⟨λct=>?_,λeM=>⟨⟨-1,rfl,ab⟩,B,A⟩⟩;obtain⟨p,K⟩:=dR   J;obtain⟨b,a0,aS,ro,tP,I,aO,aW,a9,D⟩:=(M.T B A).ld (λ_=>rfl) K;cases aW;refine cQ @a9 @D ?_;refine(bE p ab ap bX B A).mono ?_;rintro _ aM bW ⟨rfl,e1,E⟩;refine bh (cv (J:i<1000000000000)) ?_;refine⟨λV=>⟨⟨_,rfl,ab⟩,aN,J⟩,λV=>⟨_,J,i+1,rfl,J,rfl,λy cd=>?_,aN,J⟩⟩;rw[ho,K]at cd
 grind
theorem wrS{h:ae}{b i:Nat}{m:aa (Nat × Int)}{x:Nat × Int}(aj:i<m.length):j4 (some (.cells (bd eK m) false)) h b (i*3) [(x.1:X),.int .i64 (x.2 / 18446744073709551616),.int .u64 (x.2 % 18446744073709551616)] = .ok (F h b (.cells (bd eK (m.set i x)) false)):=Sd  (k:=3) (λ_=>rfl) (λ_=>rfl) aj
theorem mZ.o{h:ae}{U:Nat}{v:X}{L:aa (Nat × Int)}{so:aw Nat}(H:mZ h v L so)(B:∀b,so=some b->b<U):el h U v eK 3 L:=by
 rcases H with⟨rfl,rfl,_⟩|⟨b,e,rfl,A⟩
 ·exact el.nil
 ·exact cr.o   (λ_=>rfl) ⟨_,_,rfl,λ_=>⟨b,_,false,B b e,rfl,A⟩⟩
theorem mZ.b{h:ae}{v:X}{L:aa (Nat × Int)}{so:aw Nat}(H:mZ h v L so):ub h v eK 3 L (λb=>so=some b):=by
 rcases H with⟨rfl,rfl,_⟩|⟨b,e,rfl,A⟩
 ·exact⟨_,_,rfl,λh=>absurd rfl h⟩
 ·exact⟨_,_,rfl,λ_=>⟨b,0,some 3,false,_,e,rfl,(by simp),J,A,by rw[gc (k:=3) (λ_=>rfl)];omega,by rw[pk,q3 (by rw[gc (k:=3) (λ_=>rfl)];omega)]⟩⟩
theorem apj{s:al}{v:X}{h:ae}{U:Nat}(eD:L.length<100000)(aG:mZ h v L so)(M:∀b,so=some b->b<U)(bE:∀(p:Nat × Int),p∈L->∀ac Y,(∀d,d<U->so≠some d->u ac d=u h d)->U<=Y->aH Q s er (.agg ⟨eK p⟩::cs) ac Y (dJ (.bool (q p)) Y ac)):
  aH Q s 332 [v,.func (.func er) ⟨[]⟩ ⟨cs⟩] h U (λr ac Y=>ub ac r eK 3 (L.filter λp=>!q p) (λb=>so=some b)/\(∀d,d<U->so≠some d->u ac d=u h d)/\U<=Y):=by
 refine ahZ ?_;refine(avz  J (aG.o M) λp bg ac Y hk dO=>bE p bg ac Y (λd I _=>hk d I) dO).mono ?_;rintro _ h1 a5 ⟨⟨x,rfl,⟨rfl,rD⟩|⟨i,y,rfl,cd,dt,rD⟩⟩,D,E⟩
 ·obtain⟨a,c,rfl,_⟩:=id (aG.o M);refine aD ?_;refine⟨?_,λd I _=>D d I,E⟩;rw[zG.2 ab];exact(aG.b).T (λb e=>D b ab) ab
 ·have B:=(hn.1 cd).1;rcases aG with⟨rfl,rfl,_⟩|⟨b,rfl,rfl,a9⟩
  ·cases cd
  have fm:=M b rfl;have ML:(L.take (i+1)).filter (λp=>!q p)=L.take i:=by
   rw[ho,cd,r9,zG.2 ab]
   grind
  refine bh (cv (J:i<1000000000000)) ?_;refine⟨λau=>absurd au (by simp),λ_=>?_⟩;refine bC.mk (DlJ b L q _ h U) (L.length-(i+1)) ⟨i,i+1,L,rfl,B,J,rfl,rfl,(D b fm).trans a9,ML.symm,rfl,λd I _=>D d I,E⟩ ?_;rintro _ _ ac jR ⟨i,k,m,rfl,hk,hik,rfl,bp,MM,A,MN,tV,dO⟩;rw[ahU];unfold We;have cu:IntKind.wrap .i64 ((k:Int)+1)=((k+1:Nat):Int):=cv J;have aDy:IntKind.wrap .i64 ((i:Int)+1)=((i+1:Nat):Int):=cv J;refine aD ?_;refine⟨λct=>?_,λeM=>?_⟩
  ·obtain⟨y,cd⟩:=dR (l:=m) (i:=k) J;have hly:L[k]? = some y:=by
    have:=congrArg (·[0]?) MN
    grind
   have mx:hV (some 3) (k*3) (bd eK m) = .ok (.agg ⟨eK y⟩):=by rw[pq,gc (k:=3) (λ_=>rfl),if_pos J,tm (k:=3) (λ_=>rfl) cd]
   refine cQ @MM @mx ?_;rw[show eK y=[(y.1:X),.int .i64 (y.2 / 18446744073709551616),.int .u64 (y.2 % 18446744073709551616)]from rfl];refine aD ?_;refine(bE y ab _ (jR+1) (λd I bv=>by rw[ar J,ar J];grind) J).mono ?_;rintro _ ap bX ⟨rfl,V,fg⟩;have g1:=V jR J;rw[aT]at g1;have g2:=V b J;rw[ar J,ar J,MM]at g2;have jg:∀d,d<U->d≠b->u ap d=u h d:=λd I bv=>by rw[V d J,ar J,ar J];grind
   have K:∀(bG:aa (Nat × Int)),(∀q,k<q->bG[q]? = m[q]?)->bG.drop (k+1)=L.drop (k+1):=λbG DQ=>by apply pj;intro q;rw[xN,DQ _ J,<-xN,<-xR,MN,xR]
   simp(disch:=omega)only[bl,g1,g2,aDy,cu,wrS (m:=m)  (i:=i) J,seval];refine⟨λdt=>?_,λdt=>?_⟩
   ·refine⟨L.length-(k+1),J,i+1,k+1,m.set i y,rfl,J,J,rfl,ab,ab,?_,K _ (λq dt=>by rw[vY,if_neg J]),ab,J⟩;rw[ho,List.take_set_of_le J,A,ho,hly,r9,vY,if_pos rfl,if_pos J]
    grind
   ·refine⟨L.length-(k+1),J,i,k+1,m,rfl,J,J,rfl,bp,g2,?_,K _ (λ_ _=>rfl),jg,J⟩;rw[A,ho,hly,r9]
    grind
  ·have Bu:k=L.length:=J
   subst Bu;rw[hC]at A;simp(disch:=omega)only[bl,as3    (J:i<L.length),acE    (0,0)  (k:=3) (λ_=>rfl) (λ_=>rfl) aho az1 az2 bp (J:i<L.length) MM,dU,as4    (J:i<L.length),seval];refine⟨?_,λd I bv=>ab,J⟩;have B:i=(L.filter λp=>!q p).length:=ab
   refine⟨some ⟨b,0,some 3⟩,L.length,ab,λ_=>⟨b,0,some 3,false,_,rfl,rfl,(by simp),vX ..,aT _ _ _,?_,?_⟩⟩
   ·rw[gc (k:=3) (λ_=>rfl),jd,<-B,A,<-B];omega
   ·rw[zU,A,pk,<-gc (k:=3) (enc:=eK) (λ_=>rfl),List.take_left]
section
variable {c:Nat->X} {h ac:ae} {U Y k j b:Nat} {v:X}
theorem acF{az:Type}(f:Nat->az){m:Nat}(A:k+m<=n):(((List.range n).map f).drop k).take m=(List.range m).map λi=>f (k+i):=by
 refine pj λi=>?_
 grind
theorem AW:dx c=(List.range 45).map c:=rfl
theorem wkg(A:k<45):(dx c)[k]? = some (c k):=by rw[AW,sa,B9 A];rfl
theorem wks(A:k<45):(dx c).set k v=dx (hh c k v):=by
 rw[AW,AW];refine pj λi=>?_;rw[vY,gn,Cb]
 by_cases aj:i<45
 ·rw[sa,sa,B9 aj]
  by_cases e:k=i
  ·subst e;rw[if_pos rfl,if_pos A];unfold hh;grind
  ·rw[if_neg e];unfold hh;grind
 grind
theorem wk5(A:k+5<=45):hV (some 5) k (dx c) = .ok (.agg ⟨[c k,c (k+1),c (k+2),c (k+3),c (k+4)]⟩):=by rw[pq,GN,if_pos J,AW,acF c A];rfl
theorem wk6(A:k+6<=45):hV (some 6) k (dx c) = .ok (.agg ⟨[c k,c (k+1),c (k+2),c (k+3),c (k+4),c (k+5)]⟩):=by rw[pq,GN,if_pos J,AW,acF c A];rfl
theorem tv{l:aa X}(A:j<k\/k+l.length<=j):nm c k l j=c j:=by unfold nm;grind
theorem wkL{l:aa X}(B:k+l.length<=45):(dx c).take k++l++(dx c).drop (k+l.length)=dx (nm c k l):=by
 rw[AW,AW];refine pj λi=>?_
 by_cases A:i<k
 ·rw[kA,xJ ab,xO,if_pos A,sa,sa,B9 J];show some (c i)=some (nm c k l i);rw[tv J]
 ·by_cases D:i<k+l.length
  ·rw[kA,EQ ab,xJ ab,sa,B9 J];unfold nm
   grind
  ·rw[EQ ab,xN,jd,ql,gn,Cb,show k+l.length+(i-(min k 45+l.length))=i by omega,sa,sa];cases E:(List.range 45)[i]? with
   |none=>rfl
   |some x =>
    have:x=i:=ab
    subst this;show some (c x)=some (nm c k l x);rw[tv J]
theorem wkw{E B I D A:X}{K:ae->Prop}(M:k+5<=45):af (j4 (some (.cells (dx c) false)) h b k [E,B,I,D,A]) K↔ee [E,B,I,D,A]=true/\K (F h b (.cells (dx (nm c k [E,B,I,D,A])) false)):=
 Aj.trans ⟨λx=>⟨x.1,by rw[<-wkL J];exact x.2.2⟩,λx=>⟨x.1,by rw[GN];omega,by rw[wkL J];exact x.2⟩⟩
theorem yt:hh c k v k=v:=if_pos rfl
theorem dN(h:j≠k):hh c k v j=c j:=if_neg h
def hL:=And.intro @wkg (And.intro @wks (And.intro @wk5 (And.intro @wk6 (And.intro @wkw (And.intro @GN (And.intro @yt @dN))))))
theorem ax4{p q D B:Prop}(aC:D)(A:B)(h:q)(e:D->B->q->p:=by intro aC A h;simp(config:={maxSteps:=1000000})(disch:=omega)only[bl,hL,↓reduceIte,Nat.reduceAdd,Nat.reduceSub,Nat.reduceMul,Nat.reduceLT,Nat.reduceLeDiff,Nat.reduceEqDiff,Int.reduceBEq,Int.reduceLT,Int.reduceNeg,aC,A];exact h):p:=e aC A h
theorem G4{p q A:Prop}(aC:A)(h:q)(e:A->q->p:=by intro aC h;simp(config:={maxSteps:=1000000})(disch:=omega)only[bl,hL,aC,seval];exact h):p:=e aC h
theorem u7{p q D B:Prop}(aC:D)(A:B)(h:q)(e:D->B->q->p:=by intro aC A h;simp(config:={maxSteps:=1000000})(disch:=omega)only[bl,hL,aC,A,seval];exact h):p:=e aC A h
theorem yu{p q D E I:Prop}(aC:D)(B:E)(A:I)(h:q)(e:D->E->I->q->p:=by intro aC B A h;simp(config:={maxSteps:=1000000})(disch:=omega)only[bl,hL,aC,B,A,seval];exact h):p:=e aC B A h
theorem AD{p q E I K M:Prop}(aC:E)(D:I)(A:K)(B:M)(h:q)(e:E->I->K->M->q->p:=by intro aC D A B h;simp(config:={maxSteps:=1000000})(disch:=omega)only[bl,hL,aC,D,A,B,seval];exact h):p:=e aC D A B h
theorem Ld{p q K M V aCj I:Prop}(aC:K)(E:M)(A:V)(B:aCj)(D:I)(h:q)(e:K->M->V->aCj->I->q->p:=by intro aC E A B D h;simp(config:={maxSteps:=1000000})(disch:=omega)only[bl,hL,aC,E,A,B,D,seval];exact h):p:=e aC E A B D h
end
section
variable {own db:Nat->Nat} {h ac g ck:ae} {U Y ao aj k ef:Nat} {v:X}
def jj(own:Nat->Nat)(h:ae)(U:Nat)(g:ae):Prop:=∀d,u g d=if d<U/\own d=0 then u h d else none
theorem C2(own:Nat->Nat)(h:ae):∀U,∃g,jj own h U g
 |0=>⟨iN,λd=>by rw[if_neg J];exact JT d⟩
 |U+1=>by
  obtain⟨g,A⟩:=C2 own h U
  by_cases e:own U=0/\u h U≠none
  ·obtain⟨o,D⟩:=Ny.1 e.2;refine⟨F g U o,λd=>?_⟩
   by_cases B:d=U
   ·grind
   ·rw[ar B,A d]
    grind
  ·refine⟨g,λd=>?_⟩;rw[A d]
   grind
structure Eh (ef:Nat) (own db:Nat->Nat) (h ac:ae) (U Y:Nat):Prop where
 le:U<=Y
 same:∀d,d<U->own d≠ef->u ac d=u h d
 dV:∀d,d<U->db d=own d
 new:∀d,U<=d->db d=0\/db d=ef
def k2(g h:ae):Prop:=∀d o,u g d=some o->u h d=some o
theorem jj.sub(er:jj own h U g):k2 g h:=λd o A=>by
 rw[er d]at A
 grind
theorem jj.T(er:jj own h U g)(B:jj db ac Y ck)(D:Eh ef own db h ac U Y)(E:ef≠0):aA U g ck:=λd A=>by
 rw[er d,B d,D.dV d A]
 by_cases e:own d=0
 ·rw[if_pos ⟨by have:=D.le;omega,e⟩,if_pos ⟨A,e⟩,D.same d A J]
 grind
theorem jj.new(D:jj db ac Y ck)(I:aj<=Y)(A:∀d,ao<=d->d<aj->db d=0):∀d,ao<=d->d<aj->u ck d=u ac d:=λd E B=>by rw[D d,if_pos ⟨J,A d E B⟩]
variable {az:Type} {enc:az->aa X} {l:aa az}
theorem el.sub(H:el g U v enc k l)(S:k2 g h):el h U v enc k l:=by obtain⟨a,cap,e,H⟩:=H;refine⟨a,cap,e,λA=>?_⟩;obtain⟨b,o,D,K,cs,E,I,B,M⟩:=H A;exact⟨b,o,D,K,cs,E,I,S _ _ B,M⟩
theorem u9(H:cr g U v enc l)(S:k2 g h):cr h U v enc l:=by obtain⟨a,cap,e,H⟩:=H;refine⟨a,cap,e,λA=>?_⟩;obtain⟨b,D,K,E,I,B⟩:=H A;exact⟨b,D,K,E,I,S _ _ B⟩
theorem hs.sub{low D:Int}{A B:aa Int}{q:Nat->al}(H:hs g U v low D n A B q)(S:k2 g h):hs h U v low D n A B q:=by obtain⟨E,K,I,e,a,b,c⟩:=H;exact⟨E,K,I,e,u9 a S,u9 b S,u9 c S⟩
theorem k4.sub{l:aa Int}(H:k4 g U v l)(S:k2 g h):k4 h U v l:=by
 obtain⟨aQ,D,E⟩:=H;refine⟨aQ,?_,E⟩;rcases D with w|⟨b,e,B,A⟩
 ·exact .inl w
 ·exact .inr ⟨b,e,B,S _ _ A⟩
theorem kj.sub{r c:Nat}{ag:aa GE}(H:kj g U v r c ag)(S:k2 g h):kj h U v r c ag:=by obtain⟨b,I,cap,D,B,e,K,A,E,M⟩:=H;exact⟨b,I,cap,D,B,e,K,S _ _ A,E.sub S,M.sub S⟩
theorem iF.sub{ao aj:Nat}(H:iF g ao aj v enc k l)(S:k2 g h):iF h ao aj v enc k l:=by
 rcases H with H|⟨b,D,B,e,A⟩
 ·exact .inl H
 ·exact .inr ⟨b,D,B,e,S _ _ A⟩
theorem mO.sub{r c:Nat}{ag:aa GE}(H:mO g U v r c ag)(S:k2 g h):mO h U v r c ag:=by obtain⟨B,E,D,A,e,M,I,V,K⟩:=H;exact⟨B,E,D,A,e,M.sub S,I.sub S,(iF.sub V S),K.sub S⟩
end
def RG:cS:=λs ah h U K=>b1 [(ad 0),(ad 0),(ad 0),(ad 0),(ad 0),(ad 0),ay,ay,ay,(ad 0),(.bool false)] h U λa b c=>aX s 65 [ah] b c λd e f=>bw .eql 3 d (ad 0) (af (cU [(ad 0),(ad 0),(ad 0),(ad 0),(ad 0),(ad 0),ay,ay,ay,(ad 0),(.bool false)] []) λi=>af (aU e 11 a i) λj=>aR 11 j a λk=>K (.tuple ⟨[k,(.bool false)]⟩) j f) (af (bx ah) λl=>ax e 22 l λn=>hw 11 e 11 n (ad 0) λp=>aX s 129 [p] e f λq r t=>af (aU r 11 a q) λaI=>aR 11 aI a λv=>K (.tuple ⟨[v,(.bool true)]⟩) aI t)
theorem acG:cT 61 RG:=cV []
def avA:cS:=λs ah h U K=>aX s 65 [ah] h U λa b c=>kd a (ad 0) (af (bx ah) λe=>ax b 22 e λg=>af (gS 11 g (some (ad 1)) (some a) (some a)) λi=>af (bx ah) λj=>bo 22 j λk=>af (aU b 1 k i) λl=>K (.tuple ⟨[]⟩) l c) (K (.tuple ⟨[]⟩) b c)
theorem as5:cT 62 avA:=cV []
def F1(s:al)(K:bR)(cz cg T7:X)(au:ae)(a4:Nat):Prop:=bu T7 (K (.bool false) au a4) (af (bx cz) λa=>bo 7 a λb=>ax au 1 b λd=>ax au 1 cg λf=>b6 131 [d,f] au a4 λg i j=>af (bx cz) λk=>bo 7 k λl=>bo 1 l λm=>bS i m λn=>cZ m n (bo 1 cg λo=>bS i o λp=>cZ o p (b6 132 [n,p] i j λq r t=>af (cU [(ad 0),(ad 0)] [(0,1,g),(1,1,q)]) λaI=>b1 [(ad 0),(ad 0)] r t λv w x=>af (aU w 2 v aI) λy=>ax y 0 cg λbD=>bw .eql 94 bD (ad 1) (aR 11 y cg λbL=>aR 2 y v λbk=>aX s 133 [cz,bL,bk] y x λbV ca bO=>K bV ca bO) (bw .eql 94 bD (ad 2) (aR 11 y cg λcG=>aR 2 y v λds=>aX s 134 [cz,cG,ds] y x λdh ey am=>K dh ey am) (bw .eql 94 bD (ad 3) (aR 11 y cg λez=>aR 2 y v λf9=>aX s 135 [cz,ez,f9] y x λgw gl hT=>K gw gl hT) (bw .eql 94 bD (ad 4) (aR 11 y cg λgx=>aR 2 y v λl2=>aX s 136 [cz,gx,l2] y x λlC lD ox=>K lC lD ox) (bw .eql 94 bD (ad 5) (aR 11 y cg λch=>aR 2 y v λr3=>aX s 137 [cz,ch,r3] y x λbe l3 pc=>K be l3 pc) (K (.bool false) y x)))))) 1 [au]) 1 [au])
def aeS:c0:=λs ah t1 h U K=>bI t1 h U λa b c=>bw .eql 83 ah (.pointer none) (F1 s K ah a (.bool true) b c) (b6 130 [ah] b c λe f g=>bo 2 a λi=>bS f i λj=>cZ i j (bw .neq 3 j e (F1 s K ah a (.bool true) f g) (ax f 1 a λm=>cF m (ad 0) (F1 s K ah a (.bool true) f g) (ax f 1 a λp=>af (bx ah) λq=>bo 7 q λr=>ax f 0 r λaI=>af (bx ah) λv=>bo 7 v λw=>ax f 1 w λy=>bH .mul 3 aI y λz=>bH .geq 3 p z λbD=>(F1 s K ah a bD f g)))) 1 [b])
theorem as6:c4 63 aeS:=c5 []
def aeT:cS:=λs ah h U K=>bw .eql 83 ah (.pointer none) (K (ad 0) h U) (af (bx ah) λb=>ax h 22 b λd=>cO d λe=>K e h U)
theorem as7:cT 65 aeT:=cV []
def aas:cS:=λs ah h U K=>bw .eql 83 ah (.pointer none) (K (ad 0) h U) (af (bx ah) λb=>ax h 27 b λd=>K d h U)
theorem alN:cT 67 aas:=cV []
def acH:cS:=λs ah h U K=>bw .eql 83 ah (.pointer none) (K (ad 0) h U) (af (bx ah) λb=>ax h 26 b λd=>K d h U)
theorem apk:cT 68 acH:=cV []
def acI:cS:=λs ah h U K=>b1 [(ad 0),(ad 0),ay,ay,ay] h U λa b c=>bw .eql 83 ah (.pointer none) (af (cU [(ad 0),(ad 0),ay,ay,ay] []) λe=>af (aU b 5 a e) λf=>aR 5 f a λg=>K g f c) (af (bx ah) λi=>i5 5 b 28 i λk=>b1 [(ad 0),(ad 0),ay,ay,ay] b c λl m n=>af (aU m 5 l k) λo=>ax o 2 l λq=>b6 88 [q] o n λr t aI=>bo 3 l λv=>bS t v λw=>cZ v w (b6 88 [w] t aI λx y z=>bo 4 l λbD=>bS y bD λbU=>cZ bD bU (b6 139 [bU] y z λbL bk bV=>bo 0 l λca=>bS bk ca λbO=>cZ ca bO (bo 1 l λcM=>bS bk cM λcG=>cZ cM cG (af (cU [(ad 0),(ad 0),ay,ay,ay] [(0,1,bO),(1,1,cG),(2,1,r),(3,1,x),(4,1,bL)]) λds=>af (aU bk 5 a ds) λdh=>aR 5 dh a λey=>K ey dh bV) 3 [y,t,o]) 3 [y,t,o]) 2 [t,o]) 1 [o])
theorem apl:cT 69 acI:=cV []
def agf:cS:=λs ah h U K=>bI ah h U λa b c=>b1 [(ad 0),(ad 0),(ad 0),(ad 0),(ad 0),(ad 0),ay,ay,ay,(ad 0),(.bool false)] b c λd e f=>bo 5 a λg=>ax e 1 g λj=>b6 217 [j] e f λk l m=>bo 7 a λn=>bS l n λo=>cZ n o (b6 218 [o] l m λp q r=>bo 5 a λt=>bo 1 t λaI=>af (aU q 1 aI k) λv=>bo 7 a λw=>af (aU v 1 w p) λx=>aR 11 x a λy=>af (aU x 11 d y) λz=>aR 11 z d λbD=>K bD z r) 1 [e]
theorem avB:cT 129 agf:=cV []
def aat:cS:=λs ah h U K=>bw .eql 83 ah (.pointer none) (K (ad (-1)) h U) (af (bx ah) λb=>bo 0 b λc=>ax h 0 c λe=>af (bx ah) λf=>bo 0 f λg=>ax h 1 g λj=>b6 219 [ah,e,j] h U λk l m=>K k l m)
theorem alO:cT 130 aat:=cV []
def FJ:aa (aa Nat):=[[0,11,84,85],[0,13,127,128]]
def Xp(s:al)(aC d3 UG MO:X)(h:ae)(U:Nat)(N:aP)(aE:aP)(R:aP):Prop:=cF MO UG (af (bx aC) λb=>ax h 24 b λd=>af (jV Q h 3 (.agg #[(ad 0),ay]) false d MO) λe=>dS (eV 1 [(ad 0),ay] [(0,2,e)]) h U λf g i=>dD (dU (dM 2 g i d3 f)) λj k l=>b9 MO λm=>N [aC,j,UG,m] k l) (aE [aC,d3,UG,MO] h U)
def Xq(s:al)(aC e5 SU LF:X)(h:ae)(U:Nat)(N:aP)(aK:aP)(R:aP):Prop:=cF LF SU (af (bx aC) λb=>bo 0 b λc=>ax h 1 c λe=>b6 219 [aC,LF,e] h U λf g i=>af (bx aC) λj=>bo 23 j λk=>bS g k λl=>cZ k l (aR 2 g e5 λm=>jl 2 e5 m (af (cU [(ad 0),(ad 0),(ad 0),(ad 0),(ad 0),(ad 0),ay,ay,ay,(ad 0),(.bool false)] [(0,1,(ad 2)),(2,1,f),(4,1,l),(5,2,m)]) λn=>b6 213 [aC,n] g i λo p q=>b9 LF λr=>N [aC,e5,SU,r] p q) 1 [h]) 1 [h]) (aK [aC,e5,SU,LF] h U)
def Cj(s:al)(K:bR)(cz d8 fe Io:X)(au:ae)(a4:Nat):Prop:=bu Io (K (.bool false) au a4) (af (bx cz) λa=>ax au 24 a λc=>ax au 0 d8 λe=>aR 2 au fe λf=>af (mK Q 3 au c e f) λg=>af (bx cz) λi=>ax g 24 i λk=>af (wK g k) λl=>af (bx cz) λm=>bo 7 m λn=>ax g 0 n λp=>cF l p (K (.bool true) g a4) (af (bx cz) λr=>bo 7 r λt=>ax g 0 t λv=>bC (bN Q s FJ 133 0) [cz,ay,v,(ad 0)] g a4 [(0,λw x y=>af (bx (a8 w 0)) λz=>bo 2 z λbD=>ax x 1 bD λbL=>af (bx (a8 w 0)) λbk=>bo 7 bk λbV=>ax x 0 bV λbO=>af (bx (a8 w 0)) λcM=>bo 7 cM λcG=>ax x 1 cG λdh=>af (bx (a8 w 0)) λey=>bo 0 ey λam=>ax x 1 am λez=>b6 223 [bL,bO,dh,ez,(a8 w 1)] x y λf9 gw gl=>af (cp f9 0) λhT=>b1 [(ad 0),ay] gw gl λiu gx l2=>af (aU gx 2 iu hT) λlC=>af (cp f9 1) λlD=>af (bx (a8 w 0)) λox=>bo 7 ox λqd=>ax lC 0 qd λr3=>bC (bN Q s FJ 133 1) [(a8 w 0),iu,r3,(ad 0)] lC l2 [(2,λbe l3 pc=>af (bx (a8 be 0)) λga=>ax l3 24 ga λxw=>dD (dU (pr Q .clear [171] l3 pc [xw])) λpa lE jz=>af (bx (a8 be 0)) λvO=>ax lE 23 vO λuq=>b9 uq λeO=>af (bx (a8 be 0)) λvP=>bo 23 vP λqe=>af (aU lE 1 qe eO) λkN=>K (.bool true) kN jz)] (λ_ _ _=>False))] (λ_ _ _=>False)))
def aau:gv:=λs ah t1 t2 h U K=>bI t1 h U λa b c=>bI t2 b c λd e f=>ax e 0 d λi=>b6 222 [ah,i] e f λj k l=>aR 11 k a λm=>jl 11 a m (b6 221 [m,j] k l λn o p=>af (cp n 0) λq=>b1 [(ad 0),ay] o p λr t aI=>af (aU t 2 r q) λv=>af (cp n 1) λw=>af (bx ah) λx=>ax v 24 x λz=>ax v 0 d λbU=>af (jV Q v 3 (.agg #[(ad 0),ay]) true z bU) λbL=>af (cp bL 0) λbk=>b1 [(ad 0),ay] v aI λbV ca bO=>af (aU ca 2 bV bk) λcM=>af (cp bL 1) λcG=>bu cG (Cj s K ah d r (.bool true) cM bO) (af (dv .not w) λds=>bu ds (Cj s K ah d r (.bool true) cM bO) (af (bx ah) λdh=>bo 0 dh λey=>ax cM 0 ey λan=>bw .neq 3 an (ad 0) (Cj s K ah d r (.bool true) cM bO) (ax cM 1 d λgw=>bw .neq 3 gw (ad 0) (Cj s K ah d r (.bool true) cM bO) (ax cM 4 a λiu=>af (bx ah) λgx=>ax cM 23 gx λlC=>bH .neq 3 iu lC λlD=>(Cj s K ah d r lD cM bO)))))) 1 [e]
theorem ajF{s:al}{D A B:X}{h:ae}{U:Nat}{N R:aP}:bN Q s FJ 133 0 [aC,D,A,B] h U N [(0,aE)] R=Xp s aC D A B h U N aE R:=by kernel_rfl
theorem ajG{s:al}{D A B:X}{h:ae}{U:Nat}{N E R:aP}:bN Q s FJ 133 1 [aC,D,A,B] h U N [(2,E)] R=Xq s aC D A B h U N E R:=by kernel_rfl
theorem alP:gF 133 aau:=gL FJ
def Fq(s:al)(K:bR)(cz df fe UH:X)(au:ae)(a4:Nat):Prop:=bu UH (K (.bool false) au a4) (ax au 4 df λb=>aX s 224 [cz,b] au a4 λc d e=>b1 [(ad 0),(ad 0)] d e λf g i=>af (aU g 2 f c) λj=>af (bx cz) λk=>bo 2 k λl=>ax j 0 l λn=>ax j 4 df λp=>b6 225 [n,p] j i λq r t=>bo 1 f λaI=>bS r aI λv=>cZ aI v (aR 2 r fe λw=>jl 2 fe w (b6 226 [v,w] r t λx y z=>af (bx cz) λbD=>bo 11 bD λbU=>aR 5 y bU λbL=>jl 5 bU bL (af (bx cz) λbk=>bo 16 bk λbV=>aR 6 y bV λca=>jl 6 bV ca (bo 0 f λbO=>bS y bO λcM=>cZ bO cM (af (cU [(ad 0),(ad 0),(ad 0),ay,ay,ay,(ad 0),(ad 0),ay,ay,ay,ay,(ad 0),(ad 0),ay,(ad 0),ay,ay,ay,(.bool false),(ad 0)] [(0,1,q),(1,5,bL),(6,6,ca),(12,6,x),(19,1,(.bool true)),(20,1,cM)]) λcG=>b1 [(ad 0),(ad 0),(ad 0),ay,ay,ay,(ad 0),(ad 0),ay,ay,ay,ay,(ad 0),(ad 0),ay,(ad 0),ay,ay,ay,(.bool false),(ad 0)] y z λds dh ey=>af (aU dh 21 ds cG) λam=>aR 21 am ds λan=>aX s 227 [an] am ey λez f9 gw=>af (cp ez 0) λgl=>af (cp ez 1) λhT=>af (cp ez 2) λiu=>af (bx cz) λgx=>ax f9 25 gx λlC=>b9 lC λlD=>af (bx cz) λox=>bo 25 ox λqd=>af (aU f9 1 qd lD) λch=>af (bx cz) λr3=>bo 0 r3 λbe=>ax ch 0 be λpc=>b6 219 [cz,pc,(ad 0)] ch gw λga bi xw=>bo 4 df λpa=>bS bi pa λlE=>cZ pa lE (af (cU [(ad 0),(ad 0),(ad 0),(ad 0),(ad 0),(ad 0),ay,ay,ay,(ad 0),(.bool false)] [(0,1,(ad 3)),(2,1,ga),(4,1,lE),(7,1,gl)]) λjz=>b6 213 [cz,jz] bi xw λvO aQ uq=>K (.bool true) aQ uq) 1 [ch]) 2 [r,j]) 2 [r,j]) 2 [r,j]) 1 [j]) 1 [j])
def Yz:gv:=λs ah t1 t2 h U K=>bI t1 h U λa b c=>bI t2 b c λd e f=>aR 11 e a λg=>af (bx ah) λi=>bo 11 i λj=>ax e 1 j λl=>b6 221 [g,l] e f λm n o=>af (cp m 0) λp=>b1 [(ad 0),ay] n o λq r t=>af (aU r 2 q p) λaI=>af (cp m 1) λv=>af (dv .not v) λw=>bu w (Fq s K ah a q (.bool true) aI t) (ax aI 0 d λy=>bw .neq 3 y (ad 0) (Fq s K ah a q (.bool true) aI t) (ax aI 1 d λbU=>af (bx ah) λbL=>bo 0 bL λbk=>ax aI 1 bk λca=>bw .neq 3 bU ca (Fq s K ah a q (.bool true) aI t) (ax aI 4 a λcG=>af (bx ah) λds=>ax aI 25 ds λey=>bH .neq 3 cG ey λam=>(Fq s K ah a q am aI t))))
theorem ajH:gF 134 Yz:=gL []
def xW(s:al)(K:bR)(cz df d8 Io:X)(au:ae)(a4:Nat):Prop:=bu Io (K (.bool false) au a4) (af (bx cz) λa=>bo 2 a λb=>ax au 0 b λd=>ax au 4 df λf=>b6 225 [d,f] au a4 λg i j=>af (bx cz) λk=>bo 40 k λl=>bS i l λm=>cZ l m (bo 7 df λn=>bS i n λo=>cZ n o (dS (eV 2 [ay,ay] [(0,1,m),(1,1,o)]) i j λp q r=>b6 229 [g,p] q r λt aI v=>af (cp t 0) λw=>af (bx cz) λx=>bo 40 x λy=>af (aU aI 1 y w) λz=>af (cp t 1) λbD=>af (bx cz) λbU=>ax z 41 bU λbk=>ax z 1 d8 λca=>af (mK Q 3 z bk ca (.bool true)) λbO=>af (bx cz) λcM=>ax bO 41 cM λds=>af (wK bO ds) λdh=>af (bx cz) λey=>bo 7 ey λam=>ax bO 1 am λez=>bw .eql 3 dh ez (ax bO 4 df λgl=>aX s 230 [cz,gl] bO v λhT iu gx=>K (.bool true) iu gx) (K (.bool true) bO v)) 1 [au]) 1 [au])
def YA:gv:=λs ah t1 t2 h U K=>bI t1 h U λa b c=>bI t2 b c λd e f=>af (bx ah) λg=>bo 0 g λi=>ax e 1 i λk=>bw .neq 3 k (ad 0) (xW s K ah a d (.bool true) e f) (ax e 0 d λn=>af (bx ah) λo=>bo 0 o λp=>ax e 0 p λr=>bw .neq 3 n r (xW s K ah a d (.bool true) e f) (af (bx ah) λaI=>ax e 27 aI λw=>bw .neq 86 w (ad 0) (xW s K ah a d (.bool true) e f) (af (bx ah) λy=>ax e 38 y λbD=>bu bD (xW s K ah a d (.bool true) e f) (ax e 4 a λbL=>af (bx ah) λbk=>ax e 26 bk λca=>b9 ca λbO=>bw .neq 3 bL bO (xW s K ah a d (.bool true) e f) (af (bx ah) λcG=>ax e 41 cG λdh=>ax e 1 d λam=>af (jV Q e 3 (.bool false) false dh am) λan=>bu an (xW s K ah a d (.bool true) e f) (ax e 7 a λf9=>b6 228 [ah,f9] e f λgw gl hT=>af (dv .not gw) λiu=>(xW s K ah a d iu gl hT)))))))
theorem ajI:gF 135 YA:=gL []
def PD:aa (aa Nat):=[[0,9,74,75]]
def YB(s:al)(aC c7 vC MP:X)(h:ae)(U:Nat)(N:aP)(aE:aP)(R:aP):Prop:=cF MP vC (b6 219 [aC,MP,(ad 0)] h U λb c d=>af (bx aC) λe=>bo 42 e λf=>bS c f λg=>cZ f g (af (cU [(ad 0),(ad 0),(ad 0),(ad 0),(ad 0),(ad 0),ay,ay,ay,(ad 0),(.bool false)] [(0,1,(ad 5)),(2,1,b),(4,1,g),(9,1,c7)]) λi=>b6 213 [aC,i] c d λj k l=>b9 MP λm=>N [aC,c7,vC,m] k l) 1 [h]) (aE [aC,c7,vC,MP] h U)
def Cq(s:al)(K:bR)(cz df d8 UH:X)(au:ae)(a4:Nat):Prop:=bu UH (K (.bool false) au a4) (af (bx cz) λa=>ax au 43 a λc=>ax au 0 d8 λe=>aR 11 au df λf=>af (mK Q 3 au c e f) λg=>af (bx cz) λi=>ax g 43 i λk=>af (wK g k) λl=>af (bx cz) λm=>bo 7 m λn=>ax g 0 n λp=>cF l p (K (.bool true) g a4) (aX s 231 [cz] g a4 λr t aI=>af (bx cz) λv=>bo 7 v λw=>ax t 0 w λy=>bC (bN Q s PD 136 0) [cz,r,y,(ad 0)] t aI [(0,λz bD bU=>af (bx (a8 z 0)) λbL=>ax bD 43 bL λbV=>dD (dU (pr Q .clear [173] bD bU [bV])) λca bO cM=>af (bx (a8 z 0)) λcG=>ax bO 42 cG λdh=>b9 dh λey=>af (bx (a8 z 0)) λam=>bo 42 am λan=>af (aU bO 1 an ey) λez=>bH .neq 86 (a8 z 1) (ad 0) λf9=>af (bx (a8 z 0)) λgw=>bo 44 gw λgl=>af (aU ez 1 gl f9) λhT=>K (.bool true) hT cM)] (λ_ _ _=>False)))
def acJ:gv:=λs ah t1 t2 h U K=>bI t1 h U λa b c=>bI t2 b c λd e f=>af (bx ah) λg=>ax e 43 g λj=>ax e 0 d λl=>af (jV Q e 3 (.agg #[(ad 0),(ad 0),(ad 0),(ad 0),(ad 0),(ad 0),ay,ay,ay,(ad 0),(.bool false)]) true j l) λm=>af (cp m 0) λn=>b1 [(ad 0),(ad 0),(ad 0),(ad 0),(ad 0),(ad 0),ay,ay,ay,(ad 0),(.bool false)] e f λo p q=>af (aU p 11 o n) λr=>af (cp m 1) λt=>bu t (Cq s K ah a d (.bool true) r q) (af (bx ah) λaI=>i5 2 r 0 aI λw=>af (cU [(ad 0),(ad 0)] []) λx=>bw .neq 162 w x (Cq s K ah a d (.bool true) r q) (af (bx ah) λz=>ax r 44 z λbU=>bu bU (Cq s K ah a d (.bool true) r q) (ax r 1 d λbk=>bw .neq 3 bk (ad 0) (Cq s K ah a d (.bool true) r q) (ax r 4 a λbO=>af (bx ah) λcM=>ax r 42 cM λds=>bH .neq 3 bO ds λdh=>(Cq s K ah a d dh r q)))))
theorem alQ{s:al}{B A:X}{h:ae}{U:Nat}{N R:aP}:bN Q s PD 136 0 [aC,c7,B,A] h U N [(0,aE)] R=YB s aC c7 B A h U N aE R:=by kernel_rfl
theorem apm:gF 136 acJ:=gL PD
def Jx(s:al)(K:bR)(cz fe hm y74:X)(au:ae)(a4:Nat):Prop:=bu y74 (af (bx cz) λa=>i5 5 au 33 a λc=>af (bx cz) λd=>bo 28 d λe=>af (aU au 5 e c) λf=>af (bx cz) λg=>bo 26 g λi=>af (aU f 1 i fe) λj=>bw .eql 86 hm (ad 0) (aX s 232 [cz] j a4 λl m n=>K (.bool true) m n) (K (.bool true) j a4)) (bw .eql 86 hm (ad 0) (aX s 232 [cz] au a4 λp q r=>K (.bool true) q r) (K (.bool true) au a4))
def v9(s:al)(K:bR)(cz fe hm T8:X)(au:ae)(a4:Nat):Prop:=bu T8 (K (.bool false) au a4) (af (bx cz) λa=>bo 38 a λb=>af (aU au 1 b (.bool false)) λc=>af (bx cz) λd=>bo 39 d λe=>af (aU c 1 e (.bool true)) λf=>af (bx cz) λg=>bo 27 g λi=>af (aU f 1 i hm) λj=>kd fe (ad 0) (bH .neq 86 hm (ad 3) λl=>(Jx s K cz fe hm l j a4)) (Jx s K cz fe hm (.bool false) j a4))
def Jy(s:al)(K:bR)(cz df d8 fe:X)(au:ae)(a4:Nat):Prop:=ax au 9 df λb=>af (bx cz) λc=>bo 0 c λd=>ax au 1 d λf=>bw .neq 3 f (ad 0) (v9 s K cz fe b (.bool true) au a4) (aR 2 au d8 λi=>af (cU [(ad 0),(ad 0)] []) λj=>bw .neq 162 i j (v9 s K cz fe b (.bool true) au a4) (af (bx cz) λl=>ax au 38 l λn=>af (dv .not n) λo=>bu o (v9 s K cz fe b (.bool true) au a4) (af (bx cz) λp=>ax au 27 p λr=>bw .neq 86 r (ad 0) (v9 s K cz fe b (.bool true) au a4) (ax au 4 df λv=>bw .neq 3 v fe (v9 s K cz fe b (.bool true) au a4) (bw .lss 86 b (ad 0) (v9 s K cz fe b (.bool true) au a4) (bH .gtr 86 b (ad 3) λy=>(v9 s K cz fe b y au a4)))))))
def YC:gv:=λs ah t1 t2 h U K=>bI t1 h U λa b c=>bI t2 b c λd e f=>af (bx ah) λg=>ax e 39 g λj=>bu j (af (bx ah) λk=>ax e 26 k λm=>b9 m λn=>(Jy s K ah a d n e f)) (Jy s K ah a d (ad 0) e f)
theorem ajJ:gF 137 YC:=gL []
def aav:c0:=λs ah t1 h U K=>bI ah h U λa b c=>b1 [(ad 0),ay] b c λd e f=>bo 5 a λg=>ax e 1 g λj=>b6 217 [j] e f λk l m=>bo 5 a λn=>bo 0 n λo=>bS l o λp=>cZ o p (af (cU [(ad 0),ay] [(0,1,p),(1,1,k)]) λq=>b1 [(ad 0),ay] l m λr t aI=>af (aU t 2 r q) λv=>aR 2 v r λw=>b6 312 [w] v aI λx y z=>aR 2 y r λbD=>jl 2 r bD (af (aU y 2 d bD) λbU=>bu x (bo 0 r λbL=>bS bU bL λbk=>cZ bL bk (bH .eql 3 bk t1 λbV=>aR 2 bU d λca=>K (.tuple ⟨[ca,bV]⟩) bU z) 1 [y,v]) (aR 2 bU d λbO=>K (.tuple ⟨[bO,(.bool false)]⟩) bU z)) 1 [v]) 1 [e]
theorem alR:c4 221 aav:=c5 []
def acK:c0:=λs ah t1 h U K=>af (bx ah) λa=>bo 2 a λb=>ax h 1 b λd=>af (bx ah) λe=>bo 7 e λf=>ax h 0 f λi=>b6 126 [d,i,t1] h U λj k l=>af (bx ah) λm=>bo 7 m λn=>bo 1 n λo=>bS k o λp=>cZ o p (af (bx ah) λq=>bo 0 q λr=>bo 1 r λt=>bS k t λaI=>cZ t aI (b6 126 [d,p,aI] k l λv w x=>af (min2 false j v) λy=>af (bx ah) λz=>bo 7 z λbD=>ax w 0 bD λbL=>b9 t1 λbk=>b6 126 [d,bL,bk] w x λbV ca bO=>af (bx ah) λcM=>bo 7 cM λcG=>bo 1 cG λds=>bS ca ds λdh=>cZ ds dh (af (bx ah) λey=>bo 0 ey λam=>bo 1 am λan=>bS ca an λez=>cZ an ez (b9 ez λf9=>b6 126 [d,dh,f9] ca bO λgw gl hT=>af (min2 true bV gw) λiu=>bH .sub 3 iu y λgx=>af (min2 false (ad 0) gx) λl2=>K l2 gl hT) 1 [w]) 1 [w]) 1 [h]) 1 [h]
theorem apn:c4 222 acK:=c5 []
def aaw:c0:=λs ah t1 h U K=>b1 [(ad 0),(ad 0)] h U λa b c=>af (bx ah) λd=>ax b 10 d λf=>cO f λg=>bw .eql 3 g (ad 0) (af (cU [(ad 0),(ad 0)] []) λj=>af (aU b 2 a j) λk=>aR 2 k a λl=>K l k c) (af (bx ah) λm=>ax b 10 m λo=>bH .sub 3 t1 (ad 1) λp=>af (bx ah) λq=>ax b 10 q λt=>cO t λaI=>bH .rem 3 p aI λv=>hw 2 b 2 o v λx=>af (aU b 2 a x) λy=>aR 2 y a λz=>K z y c)
theorem alS:c4 224 aaw:=c5 []
def OW:aa (aa Nat):=[[0,4,5,8,9,10]]
def Xr(s:al)(aC aZ bt br c7 dk:X)(h:ae)(U:Nat)(N:aP)(aE:aP)(R:aP):Prop:=cF dk c7 (hw 3 h 3 br dk λc=>b1 [(ad 0),(ad 0),(.int .u64 0)] h U λd e f=>af (aU e 3 d c) λg=>ax g 0 d λj=>bw .leq 3 j bt (R [aC,(.bool false),bt,br,c7,dk] g f) (ax g 0 d λm=>af (bx aC) λn=>bo 11 n λo=>ax g 0 o λq=>bw .geq 3 m q (R [aC,(.bool false),bt,br,c7,dk] g f) (ax g 0 d λaI=>b9 dk λv=>N [aC,aZ,aI,br,c7,v] g f))) (aE [aC,aZ,bt,br,c7,dk] h U)
def aax:c0:=λs ah t1 h U K=>cO t1 λa=>bC (bN Q s OW 228 0) [ah,(.bool false),(ad (-1)),t1,a,(ad 0)] h U [(0,λb c d=>K (.bool true) c d)] (λe f g=>K (a8 e 1) f g)
theorem ajK{s:al}{E B D A:X}{h:ae}{U:Nat}{N R:aP}:bN Q s OW 228 0 [aC,E,B,D,c7,A] h U N [(0,aE)] R=Xr s aC E B D c7 A h U N aE R:=by kernel_rfl
theorem alT:c4 228 aax:=c5 OW
def YD:c0:=λs ah t1 h U K=>af (bx ah) λa=>i5 5 h 2 a λc=>af (bx ah) λd=>i5 5 h 28 d λf=>b6 331 [c,f,t1] h U λg i j=>af (cp g 0) λk=>b1 [ay] i j λl m n=>b1 [(.bool false)] m n λo p q=>af (aU p 1 l k) λr=>af (cp g 1) λt=>af (aU r 1 o t) λaI=>af (bx ah) λv=>ax aI 40 v λx=>af (.ok (.func (.func 333) ⟨[]⟩ ⟨[l,o]⟩)) λy=>aX s 332 [x,y] aI q λz bD bU=>af (bx ah) λbL=>bo 40 bL λbk=>af (aU bD 1 bk ay) λbV=>af (bx ah) λca=>i5 5 bV 28 ca λcM=>af (bx ah) λcG=>bo 33 cG λds=>af (aU bV 5 ds cM) λdh=>af (bx ah) λey=>bo 2 ey λam=>ax dh 0 am λez=>b6 225 [ez,t1] dh bU λf9 gw gl=>af (bx ah) λhT=>bo 11 hT λiu=>bo 0 iu λgx=>bS gw gx λl2=>cZ gx l2 (b6 335 [f9,l2,z] gw gl λlC lD ox=>af (cp lC 0) λqd=>b1 [(ad 0),ay] lD ox λch r3 be=>af (aU r3 2 ch qd) λl3=>af (cp lC 1) λpc=>bw .eql 30 pc (ad 0) (af (bx ah) λbi=>i5 5 l3 2 bi λpa=>af (bx ah) λlE=>i5 5 l3 28 lE λvO=>aR 2 l3 ch λaQ=>b6 336 [pa,vO,t1,aQ] l3 be λuq eO vP=>af (bx ah) λqe=>bo 33 qe λkN=>af (aU eO 5 kN uq) λVy=>bH .neq 30 pc (ad 0) λVz=>aX s 127 [ah,t1,Vz] Vy vP λfQ p8 VA=>K (.tuple ⟨[]⟩) p8 VA) (bH .neq 30 pc (ad 0) λqb=>aX s 127 [ah,t1,qb] l3 be λgt gV gj=>K (.tuple ⟨[]⟩) gV gj)) 1 [dh]
theorem ajL:c4 230 YD:=c5 []
def Xs:gv:=λs ah t1 t2 h U K=>bI ah h U λa b c=>bS b t1 λd=>ax b 0 a λf=>b6 334 [d,f] b c λg i j=>bS i t2 λk=>cZ t2 k (bH .eql 4 g k λl=>K l i j) 1 [b]
theorem aiG:gF 333 Xs:=gL []
def OX:aa (aa Nat):=[[0,2,23,24]]
def Xt(s:al)(aC a2 j5 fT:X)(h:ae)(U:Nat)(N:aP)(aE:aP)(R:aP):Prop:=cF fT j5 (aR 2 h a2 λb=>af (bx aC) λc=>bo 2 c λd=>ax h 1 d λf=>af (bx aC) λg=>bo 7 g λi=>ax h 0 i λk=>af (bx aC) λl=>bo 7 l λm=>ax h 1 m λo=>af (bx aC) λp=>bo 0 p λq=>ax h 0 q λt=>b6 338 [b,f,k,o,t,fT] h U λaI v w=>b1 [(ad 0),ay] v w λx y z=>af (aU y 2 x aI) λbD=>af (bx aC) λbU=>ax bD 26 bU λbk=>b9 bk λbV=>aR 2 bD x λca=>af (cU [(ad 0),(ad 0),(ad 0),(ad 0),(ad 0),(ad 0),ay,ay,ay,(ad 0),(.bool false)] [(0,1,(ad 1)),(2,1,fT),(4,1,bV),(5,2,ca)]) λbO=>b6 213 [aC,bO] bD z λcM cG ds=>b9 fT λdh=>N [aC,a2,j5,dh] cG ds) (aE [aC,a2,j5,fT] h U)
def aay:cS:=λs ah h U K=>af (bx ah) λa=>i5 5 h 2 a λc=>af (bx ah) λd=>i5 5 h 28 d λf=>af (bx ah) λg=>ax h 26 g λj=>b9 j λk=>b6 337 [c,f,k] h U λl m n=>b1 [(ad 0),ay] m n λo p q=>af (aU p 2 o l) λr=>af (bx ah) λt=>bo 7 t λaI=>ax r 1 aI λw=>bC (bN Q s OX 232 0) [ah,o,w,(ad 0)] r q [(0,λx y z=>af (bx (a8 x 0)) λbD=>ax y 41 bD λbL=>dD (dU (pr Q .clear [172] y z [bL])) λbk bV ca=>af (bx (a8 x 0)) λbO=>bo 40 bO λcM=>af (aU bV 1 cM ay) λcG=>K (.tuple ⟨[]⟩) cG ca)] (λ_ _ _=>False)
theorem ajM{s:al}{B A fT:X}{h:ae}{U:Nat}{N R:aP}:bN Q s OX 232 0 [aC,B,A,fT] h U N [(0,aE)] R=Xt s aC B A fT h U N aE R:=by kernel_rfl
theorem alU:cT 232 aay:=cV OX
section
variable {az:Type} {h:ae} {enc:az->aa X} {k:Nat} {v:X} {x:az} {l:aa az} {o:aw Nat}
theorem fa.tail(hk:∀x,(enc x).length=k)(L6:0<k)(g:fa h enc k v (x::l) o):∃b A E cs M B,v = .slice (some ⟨b,A,E⟩) (l.length+1) (l.length+1)/\o=some b/\u h b=some (.cells cs M)/\(cs.drop A).take k=enc x/\A+k<=cs.length /\
  gS k v (some (.int .i64 1)) (some (((l.length+1:Nat):X))) (some (((l.length+1:Nat):X))) = .ok B/\fa h enc k B l (some b):=by
 have K:∀(b A:Nat) (E:aw Nat) (cs:aa X) (M:al),wX (some ⟨b,A,E⟩)=false->u h b=some (.cells cs M)->A+(l.length+1)*k<=cs.length->(cs.drop A).take ((l.length+1)*k)=bd enc (x::l) ->
   (cs.drop A).take k=enc x/\A+k<=cs.length/\∃B,gS k (.slice (some ⟨b,A,E⟩) (l.length+1) (l.length+1)) (some (.int .i64 1)) (some (((l.length+1:Nat):X))) (some (((l.length+1:Nat):X))) = .ok B/\fa h enc k B l (some b):=λb A E cs M cL D V I=>by
  have aW:(l.length+1)*k=l.length*k+k:=ab
  rw[aW]at V I;refine⟨?_,J,_,afq J J cL,?_⟩
  ·have:=congrArg (List.take k) I;rw[List.take_take,E7 J]at this;rw[this];show(enc x++bd enc l).take k=_
   grind
  ·show fa h enc k (.slice (some ⟨b,if l.length+1=1 then A else A+k,none⟩) (l.length+1-1) (l.length+1-1)) l (some b);rw[show l.length+1-1=l.length by omega]
   by_cases au:l.length+1=1
   ·rw[if_pos au];have:l=[]:=ab
    subst this;exact fa.part D J (by simp[bd])
   ·rw[if_neg au];refine fa.part D (by omega) ?_;rw[<-xR];have:=congrArg (List.drop k) I;rw[E9,show l.length*k+k-k=l.length*k by omega]at this;rw[this];show(enc x++bd enc l).drop k=_
    grind
 cases g with
 | @own b _ D =>
  have cL:wX (some ⟨b,0,some k⟩)=false:=by
   cases k with
   |zero=>omega
   |succ k=>rfl
  have V:=gc hk (x::l);obtain⟨h1,ap,B,aM,bc⟩:=K b 0 (some k) _ _ cL D ab ab;exact⟨b,0,some k,_,_,B,rfl,rfl,D,h1,ap,aM,bc⟩
 | @part b o _ cs M D V I =>
  obtain⟨h1,ap,B,aM,bc⟩:=K b o none _ _ rfl D V I;exact⟨b,o,none,_,_,B,rfl,rfl,D,h1,ap,aM,bc⟩
end
structure ky where
 kind:Int
 fi:Int
 lS:Int
 round:Int
 l6:Int
 l4:aa (Nat × Int)
 nE:aa (Nat × Int)
 n:Int
 n4:al
structure mP (h:ae) (U:Nat) (f:et) (p:ky):Prop where
 kind:f.kind=p.kind
 fi:f.fi=p.fi
 lS:f.lS=p.lS
 round:f.round=p.round
 l6:f.l6=p.l6
 s8:el h U (.slice f.bm f.n6 f.hv) fG 2 p.l4
 uy:el h U (.slice f.a6 f.n7 f.i7) eK 3 p.nE
 n8:f.n8=0
 n:f.n=p.n
 n4:f.n4=p.n4
section
variable {h ac:ae} {U Y ao aj:Nat} {f:et} {p:ky}
theorem mP.T(H:mP h U f p)(B:aA U h ac)(A:U<=Y):mP ac Y f p:={ H with s8:=H.s8.T B A,uy:=H.uy.T B A }
theorem mP.sub(H:mP h U f p)(S:k2 h ac):mP ac U f p:={ H with s8:=H.s8.sub S,uy:=H.uy.sub S }
structure lw (h:ae) (ao aj:Nat) (f:et) (p:ky):Prop where
 is:mP h aj f p
 hv:iF h ao aj (.slice f.bm f.n6 f.hv) fG 2 p.l4
 i7:iF h ao aj (.slice f.a6 f.n7 f.i7) eK 3 p.nE
theorem lw.T{d2 dm:Nat}(H:lw h ao aj f p)(A:∀b,ao<=b->b<aj->u ac b=u h b)(D:d2<=ao)(B:aj<=dm):lw ac d2 dm f p where
 is:={ H.is with s8:=cr.o   (λ_=>rfl) (H.hv.T A D B).fj.rd,uy:=cr.o   (λ_=>rfl) (H.i7.T A D B).fj.rd }
 hv:=H.hv.T A D B
 i7:=H.i7.T A D B
def qA(h:ae)(U:Nat):aa et->aa ky->Prop
 | [],[]=>True
 |f::dw,p::b7=>mP h U f p/\qA h U dw b7
 |_,_=>False
theorem qA.T(B:aA U h ac)(A:U<=Y):∀{dw b7},qA h U dw b7->qA ac Y dw b7
 | [],[],_=>trivial
 |_::_,_::_,H=>⟨H.1.T B A,qA.T B A H.2⟩
 | [],_::_,H=>H.elim
 |_::_,[],H=>H.elim
theorem qA.app:∀{dw b7 aV IQ},qA h U dw b7->qA h U aV IQ->qA h U (dw++aV) (b7++IQ)
 | [],[],_,_,_,G=>G
 |_::_,_::_,_,_,H,G=>⟨H.1,qA.app H.2 G⟩
 | [],_::_,_,_,H,_=>H.elim
 |_::_,[],_,_,H,_=>H.elim
theorem qA.len:∀{dw b7},qA h U dw b7->dw.length=b7.length
 | [],[],_=>rfl
 |_::_,_::_,H=>by rw[mb,mb,qA.len H.2]
 | [],_::_,H=>H.elim
 |_::_,[],H=>H.elim
end
theorem Xu{s:al}{h:ae}{U:Nat}{v:X}{l:aa (Nat × Int)}(D:el h U v eK 3 l)(I:l.length<10000):
  aH Q s 218 [v] h U (λr ac Y=>iF ac U Y r eK 3 l/\aA U h ac/\U<=Y):=by refine ale ?_;exact acj (K:=λr ac Y=>iF ac U Y r eK 3 l/\aA U h ac/\U<=Y) D (λ_=>rfl) J J aho λr ac Y B A E=>⟨B,A,E⟩
theorem as8{s:al}{h:ae}{U:Nat}{f:et}{p:ky}(A:mP h U f p)(cy:p.l4.length<10000)(ev:p.nE.length<10000):
  aH Q s 129 [.agg ⟨ec f⟩] h U (λr ac Y=>∃V,r = .agg ⟨ec V⟩/\lw ac U Y V p/\aA U h ac/\U<=Y):=by
 refine avB ?_;have bT:∀{o a0},aA U h (F (F h U o) (U+1) a0):=aN
 unfold agf ec;refine aD ?_;refine(Ci (A.s8.T  bT J) cy).mono ?_;rintro IK g1 a5 ⟨K,E,I⟩;refine⟨I,?_⟩;have g8:=(E U J).trans ((ar J).trans (aT _ _ _));have de:=(E (U+1) J).trans (aT _ _ _);have cP:=bT.trans E J;simp(disch:=omega)only[bl,g8,gk,seval];refine(Xu (A.uy.T  cP J) ev).mono ?_;rintro VO g2 bX ⟨M,D,B⟩;refine⟨B,?_⟩;have gs:=(D U J).trans g8;have eE:=(D (U+1) J).trans de;obtain⟨bm,hv,rfl⟩:=K.form;obtain⟨a6,i7,rfl⟩:=M.form;refine cQ @gs @eE ?_;have IR:=K.T  (d2:=U+2)  (λb h1 ap=>D b ap) J B;have IS:=M.T (ac:=g2)  (dm:=bX) ab J J;have e:lw g2 (U+2) bX { f with bm:=bm,n6:=p.l4.length,hv:=hv,a6:=a6,n7:=p.nE.length,i7:=i7 } p :=
  ⟨⟨A.kind,A.fi,A.lS,A.round,A.l6,cr.o   (λ_=>rfl) IR.fj.rd,cr.o   (λ_=>rfl) IS.fj.rd,A.n8,A.n,A.n4⟩,IR,IS⟩
 exact⟨_,rfl,e.T ab J J,aN,J⟩
structure eX (h:ae) (U aL:Nat) (c:Nat->X) (i j C:Nat) (l:aa et) (aQ:aw Nat):Prop where
 at_:u h aL=some (.cells (dx c) false)
 lt:aL<U
 hB:1<=C
 mF:C<=8
 i8:i<8
 vU:j<C
 pi:c 0 = (i:X)
 c1:c 1 = (j:X)
 g9:c 8 = (C:X)
 out:fa h ec 11 (c 22) l aQ
 aQ:∀b,aQ=some b->b≠aL/\b<U
section
variable {s:al} {h ac:ae} {U Y aL i j C:Nat} {c bM:Nat->X} {l:aa et} {aQ:aw Nat}
theorem eX.set(W:eX h U aL c i j C l aQ)(B:u ac aL=some (.cells (dx bM) false))(E:bM 0=c 0)(M:bM 1=c 1)(I:bM 8=c 8)(A:bM 22=c 22)(D:∀b,aQ=some b->u ac b=u h b)(K:U<=Y):eX ac Y aL bM i j C l aQ where
 at_:=B
 lt:=by have:=W.lt;omega
 hB:=W.hB
 mF:=W.mF
 i8:=W.i8
 vU:=W.vU
 pi:=E.trans W.pi
 c1:=M.trans W.c1
 g9:=I.trans W.g9
 out:=by rw[A];exact W.out.T D
 aQ:=λb e=>by have:=W.aQ b e;omega
theorem eX.T(W:eX h U aL c i j C l aQ)(B:∀b,b=aL\/aQ=some b->u ac b=u h b)(A:U<=Y):eX ac Y aL c i j C l aQ :=
 W.set ((B aL (.inl rfl)).trans W.at_) rfl rfl rfl rfl ab A
theorem F2(W:eX h U aL c i j C l aQ)(bA:l.length<900)(f:et):
  aH Q s 213 [bf aL,.agg ⟨ec f⟩] h U (λr ac Y=>r = .tuple ⟨[]⟩/\∃K E,eX ac Y aL (hh c 22 K) i j C (l++[{ f with fi:=((i*C+j:Nat):Int) }]) (some E)/\U<=E/\(∀d,d<U->d≠aL->aQ≠some d->u ac d=u h d)/\U<=Y):=by
 refine ava ?_;have I:=W.lt;have A:∀{o},u (F h U o) aL=some (.cells (dx c) false):=λ{o}=>by rw[ar J];exact W.at_
 obtain⟨ez,no,c3,f5⟩:∃a n bM,c 22 = .slice a n bM:=by
  have:=W.out;generalize c 22=v at this;cases this <;> grind
 unfold afX ec;refine yu @A W.pi W.c1 ?_;refine(FG A W.hB W.mF W.i8 W.vU W.g9).fM ?_;refine yu @A W.at_ @asn ?_;refine x7  (k:=11) (λ_=>rfl) (λ_=>rfl) J (W.out.T λb e=>?_) ({ f with fi:=((i*C+j:Nat):Int) }) (aT _ _ _) rfl J λV D B=>?_
 ·have:=W.aQ b e
  grind
 have M:u V aL=some (.cells (dx c) false):=(B aL J (λe=>(W.aQ aL e).1 rfl)).trans ab;refine G4 @M ?_;refine⟨J,_,U+2,⟨aT _ _ _,J,W.hB,W.mF,W.i8,W.vU,W.pi,W.c1,W.g9,?_,λb e=>?_⟩,J,ab,J⟩
 ·have:=fa.own  (k:=11) D;rw[jd]at this;rw[yt];exact this.T ab
 grind
end
section
variable {s:al} {h ac:ae} {U Y aL i j C low m N:Nat} {c bM:Nat->X} {l:aa et} {aQ:aw Nat} {k src len round:Int} {bK:aa Int} {S:ju}
theorem Xv(W:eX h U aL c i j C l aQ)(bA:l.length<900)(P:pw h U (c 6) k src len N bK)(aK:c 2 = (k:X))(cf:c 3 = (N:X))(dT:c 4 = (src:X))(h5:c 5 = (len:X))
  (aq:jf h U (.agg ⟨[c 33,c 34,c 35,c 36,c 37]⟩) low m S) (ua:low+m<=N):
  aH Q s 127 [bf aL,(round:X),.bool false] h U (λr ac Y=>r = .tuple ⟨[]⟩/\∃dF ce,eX ac Y aL (hh (hh c 38 (.bool true)) 22 dF) i j C (l++[CZ ((i*C+j:Nat):Int) round (qz k len round m (cn m λi=>S.A (low+i)) (λi=>S.q (low+i)):Int) false]) (some ce)/\U<=ce/\(∀d,d<U->d≠aL->aQ≠some d->u ac d=u h d)/\U<=Y):=by
 refine arO ?_;obtain⟨bm,hv,pb,_⟩:=id P.d;have B:=aq;obtain⟨dr,fC,ft,ht,fx,gD,gg⟩:=aq;obtain⟨fA,e8,rfl,_⟩:=id fx;obtain⟨fW,fX,rfl,_⟩:=id gD;obtain⟨f3,h0,rfl,_⟩:=id gg;simp only[Value.agg.injEq,xQ,v0,ik]at ht;obtain⟨D,M,K,V,MQ⟩:=ht;have bT:∀{o a0},aA U h (F (F h U o) U a0):=aN
 have ct:=W.lt;have I:∀{o a0},u (F (F h U o) U a0) aL=some (.cells (dx c) false):=λ{o a0}=>(bT aL ct).trans W.at_;unfold aem;simp(disch:=omega)only[bl,hL,I,aK,cf,dT,h5,pb,D,M,K,V,MQ,seval];rw[D,M,K,V,MQ]at B;have bj:=P.d;rw[pb]at bj;refine(asm (bj.T  bT J) P.pl (by have:=P.n60;omega) J (by have:=P.n60;omega) (hs.T B  bT J) (iW _ _) (iW _ _)).cu λh1 a5 A E=>?_;have cJ:=(A U J).trans (aT _ _ _);have zy:=(A aL J).trans I;refine u7 @cJ @zy ?_;have ex:∀{o a0} d,d<U->d≠aL->u (F (F h1 U o) aL a0) d=u h d:=λd bj ap=>by rw[ar ap,ar J,A d J];grind
 refine⟨E,(F2 (W.set (bM:=hh c 38 (.bool true))  ab rfl rfl rfl rfl (λb e=>by have:=W.aQ b e;grind) J) bA (CZ 0 round (qz k len round m (cn m λi=>S.A (low+i)) (λi=>S.q (low+i)):Int) false)).mono ?_⟩;rintro _ aM bW ⟨rfl,dF,ce,qY,aO,pS,gJ⟩;exact⟨dF,ce,qY,J,ab,J⟩
theorem DD:wn Q 83=true:=by kernel_rfl
theorem PE(W:eX h U aL c i j C l aQ):aH Q s 65 [bf aL] h U (fr (l.length:X) U h):=by refine as7 ?_;unfold aeT;have:=W.out.lens;simp(disch:=omega)only[bl,hL,po DD,W.at_,this,seval];exact⟨rfl,rfl,rfl⟩
theorem Xw(W:eX h U aL c i j C l aQ)(e:c 27 = (y:X)):aH Q s 67 [bf aL] h U (fr (y:X) U h):=by refine alN ?_;unfold aas;simp(disch:=omega)only[bl,hL,po DD,W.at_,e,seval];exact⟨rfl,rfl,rfl⟩
theorem alV(W:eX h U aL c i j C l aQ)(e:c 26 = (y:X)):aH Q s 68 [bf aL] h U (fr (y:X) U h):=by refine apk ?_;unfold acH;simp(disch:=omega)only[bl,hL,po DD,W.at_,e,seval];exact⟨rfl,rfl,rfl⟩
theorem ajN(W:eX h U aL c i j C l aQ):aH Q s 130 [bf aL] h U (fr (((i*C+j:Nat):X)) U h):=by refine alO ?_;unfold aat;simp(disch:=omega)only[bl,hL,po DD,W.at_,W.pi,W.c1,seval];exact(FG W.at_ W.hB W.mF W.i8 W.vU W.g9).fM ⟨J,rfl,rfl,rfl⟩
theorem apo{f:et}{p:ky}(W:eX h U aL c i j C l aQ)(e:l=f::bY)(bE:mP h U f p)(cy:p.l4.length<10000)(ev:p.nE.length<10000):
  aH Q s 61 [bf aL] h U (λr ac Y=>∃A,r = .tuple ⟨[.agg ⟨ec A⟩,.bool true]⟩/\lw ac U Y A p/\aA U h ac/\U<=Y):=by
 subst e;refine acG ?_;have K:∀{o},aA U h (F h U o):=aN
 obtain⟨b,D,aS,cs,ro,dF,eg,f5,a9,a1,ko,_,_⟩:=fa.tail (k:=11) (λ_=>rfl) J W.out;have aO:=W.aQ b f5;have V:=W.lt;have M:∀{o},eX (F h U o) (U+1) aL c i j C (f::bY) aQ:=λ{o}=>W.T ab J;unfold RG;refine aD ?_;refine(PE M).fM ?_;have B:hV (some 11) D cs = .ok (.agg ⟨ec f⟩):=by rw[pq,if_pos J,a1]
 have au:((((f::bY).length:Nat):Int) == 0)=false:=ab
 simp(disch:=omega)only[bl,hL,au,λo=>(M ).at_,eg,K b aO.2,a9,B,seval];refine(as8 (bE.T K J) cy ev).mono ?_;rintro _ g1 a5 ⟨A,rfl,d5,E,I⟩;have q:=(E U J).trans (aT _ _ _);unfold ec;refine bh @q ?_;exact⟨A,rfl,d5.T ab J J,aN,J⟩
theorem apq{f:et}(W:eX h U aL c i j C l aQ)(e:l=f::bY):
  aH Q s 62 [bf aL] h U (λr ac Y=>r = .tuple ⟨[]⟩/\∃A,eX ac Y aL (hh c 22 A) i j C bY aQ/\(∀d,d≠aL->u ac d=u h d)/\Y=U):=by
 subst e;refine as5 ?_;obtain⟨b,I,aS,cs,ro,A,eg,rfl,V,a1,K,E,D⟩:=fa.tail (k:=11) (λ_=>rfl) J W.out;have aO:=W.aQ b rfl;refine(PE W).fM ?_;rw[mb];rw[eg]at E;have M:(0:Int)<((bY.length+1:Nat):Int):=J
 refine AD @M W.at_ @eg @E ?_;have B:dj A=[A]/\gZ A=true:=D.cell;refine G4 @B ?_;exact⟨⟨A,⟨ab,W.lt,W.hB,W.mF,W.i8,W.vU,W.pi,W.c1,W.g9,D.T ab,ab⟩,ab⟩,λh=>absurd trivial h⟩
end
structure cb where
 k:Int
 src:Int
 len:Int
 N:Nat
 R:Nat
 C:Nat
 lim:Nat
 bK:aa Int
 ag:aa GE
structure fZ (Z:cb):Prop where
 hj:Z.k=1\/Z.k=2\/Z.k=3\/Z.k=5
 n60:Z.N<=60
 lH:1<=Z.R
 nM:Z.R<=8
 hB:1<=Z.C
 mF:Z.C<=8
 lim:Z.lim<900
 dok:SS Z.bK
 pl:iL Z.k Z.N Z.src Z.len Z.bK=0
 M:hg Z.N Z.N Z.ag
 w:∀g∈Z.ag,0<=g.w/\g.w<=2147483647
def cb.bB(Z:cb)(i:Nat):Nat:=c8 Z.N Z.R i
def cb.lc(Z:cb)(j:Nat):Nat:=c8 Z.N Z.C j
def cb.H(Z:cb)(i:Nat):Nat:=Z.bB (i+1)-Z.bB i
def cb.W(Z:cb)(j:Nat):Nat:=Z.lc (j+1)-Z.lc j
def cb.cut(Z:cb)(i j:Nat):aa GE:=lN Z.ag (Z.bB i) (Z.H i) (Z.lc j) (Z.W j)
structure j8 (g:ae) (U:Nat) (c:Nat->X) (Z:cb) (i j:Nat):Prop where
 aK:c 2 = (Z.k:X)
 cf:c 3 = (Z.N:X)
 dT:c 4 = (Z.src:X)
 h5:c 5 = (Z.len:X)
 d:cr g U (c 6) cq Z.bK
 gy:c 7 = (Z.R:X)
 jA:c 9 = (Z.lim:X)
 MR:∃a cap,c 10 = .slice a 0 cap
 rows:kj g U (.agg ⟨[c 11,c 12,c 13,c 14,c 15]⟩) (Z.H i) (Z.W j) (Z.cut i j)
 mi:∃fo,Ao (Z.cut i j) fo/\hg (Z.W j) (Z.H i) fo/\mO g U (.agg ⟨[c 16,c 17,c 18,c 19,c 20,c 21]⟩) (Z.H i) (Z.W j) fo
section
variable {s:al} {g ck h ac:ae} {U Y aL i j:Nat} {c bM:Nat->X} {l:aa et} {aQ:aw Nat} {Z:cb}
theorem j8.set(H:j8 g U c Z i j)(A:∀n,2<=n->n<22->bM n=c n):j8 g U bM Z i j:=by
 refine⟨?_,?_,?_,?_,?_,?_,?_,?_,?_,?_⟩
 ·rw[A 2 J J];exact H.aK
 ·rw[A 3 J J];exact H.cf
 ·rw[A 4 J J];exact H.dT
 ·rw[A 5 J J];exact H.h5
 ·rw[A 6 J J];exact H.d
 ·rw[A 7 J J];exact H.gy
 ·rw[A 9 J J];exact H.jA
 ·rw[A 10 J J];exact H.MR
 ·rw[A 11 J J,A 12 J J,A 13 J J,A 14 J J,A 15 J J];exact H.rows
 ·rw[A 16 J J,A 17 J J,A 18 J J,A 19 J J,A 20 J J,A 21 J J];exact H.mi
theorem j8.T(H:j8 g U c Z i j)(B:aA U g ck)(A:U<=Y):j8 ck Y c Z i j :=
 { H with d:=H.d.T B A,rows:=H.rows.T B A,mi:=by obtain⟨fo,a,b,d⟩:=H.mi;exact⟨fo,a,b,d.T B A⟩ }
theorem j8.sub(H:j8 g U c Z i j)(S:k2 g h):j8 h U c Z i j :=
 { H with d:=u9 H.d S,rows:=H.rows.sub S,mi:=by obtain⟨fo,a,b,d⟩:=H.mi;exact⟨fo,a,b,d.sub S⟩ }
theorem j8.k0(H:j8 g U c Z i j)(K:fZ Z):pw g U (c 6) Z.k Z.src Z.len Z.N Z.bK:=⟨H.d,K.dok,K.n60,K.pl,K.hj⟩
theorem yv(K:fZ Z)(i:Nat):Z.bB i<=Z.bB (i+1)/\Z.bB (i+1)<=Z.N:=⟨uL J,ts K.lH _⟩
theorem De(K:fZ Z)(j:Nat):Z.lc j<=Z.lc (j+1)/\Z.lc (j+1)<=Z.N:=⟨uL J,ts K.hB _⟩
def cb.cl(Z:cb)(i j:Nat):Nat:=jw (Z.bB i) (Z.lc j) (Z.lc (j+1))
theorem alW(W:eX h U aL c i j Z.C l aQ)(H:j8 h U c Z i j)(K:fZ Z)(V:a<Z.R):
  aH Q s 222 [bf aL,(a:X)] h U (fr (((Z.cl (a+1) j-Z.cl a j:Nat):X)) U h):=by
 refine apn ?_;unfold acK;have bv:=K.n60;have A:=K.nM;have B:=K.mF;have M:=W.vU;have E:IntKind.wrap .i64 ((a:Int)+1)=((a+1:Nat):Int):=cv J;have D:IntKind.wrap .i64 ((j:Int)+1)=((j+1:Nat):Int):=cv J;refine yu W.at_ H.cf H.gy ?_;refine(uT J J A J).fM ⟨J,?_⟩;refine yu W.at_ W.g9 W.c1 ?_;refine(uT J J B J).fM ⟨J,?_⟩;refine yu W.at_ H.gy @E ?_;refine(uT J J A J).fM ⟨J,?_⟩;refine AD W.at_ W.g9 W.c1 @D ?_;refine(uT J J B J).fM ⟨J,?_⟩;have h1:=yv K a;have I:=De K j;unfold cb.cl jw cb.bB cb.lc at *
 generalize c8 Z.N Z.R a=zz at *
 generalize c8 Z.N Z.R (a+1)=BV at *
 generalize c8 Z.N Z.C j=s4 at *
 generalize c8 Z.N Z.C (j+1)=zt at *
 refine aD ?_;rw[jG J J];exact⟨ab,rfl,rfl⟩
theorem ajO{t:Int}(W:eX h U aL c i j Z.C l aQ)(A:∃a cap,c 10 = .slice a 0 cap):aH Q s 224 [bf aL,(t:X)] h U (dJ (.agg ⟨[.int .i64 0,.int .i64 0]⟩) U h):=by
 refine alS ?_;have D:∀{o},aA U h (F h U o):=aN
 have B:∀{o},u (F h U o) aL=some (.cells (dx c) false):=λ{o}=>(D aL W.lt).trans W.at_;obtain⟨a,cap,e⟩:=A;unfold aaw;refine ax4 @B @e ?_;exact⟨λ_=>⟨rfl,aN,J⟩,λh=>absurd h (by decide)⟩
theorem Xx{f:et}{p:ky}{x:Nat->aw Int}(M:mP h U f p)(bA:p.l4=bq n x)(aG:p.l6=(n:Int))(bv:n<=60):
  aH Q s 221 [.agg ⟨ec f⟩,(n:X)] h U (λr ac Y=>∃v,r = .tuple ⟨[v,.bool true]⟩/\pK ac U Y v n x/\aA U h ac/\U<=Y):=by
 refine alR ?_;have V:∀{o a0},aA U h (F (F h U o) (U+1) a0):=aN
 unfold aav ec;refine aD ?_;have cy:=M.s8;rw[bA]at cy;have K:=me n x;refine(Ci (cy.T  V J) J).mono ?_;rintro IK g1 a5 ⟨B,D,E⟩;refine⟨E,?_⟩;have g8:=(D U J).trans ((ar J).trans (aT _ _ _));have de:=(D (U+1) J).trans (aT _ _ _);have cP:=V.trans D J;obtain⟨bm,hv,rfl⟩:=B.form;simp(disch:=omega)only[bl,g8,gk,M.l6,aG,seval];refine(wd   ⟨_,rfl,cr.o   (λ_=>rfl) (B.T (d2:=0)  ab J J).fj.rd⟩ J).cu λg2 bX A I=>⟨I,?_⟩
 have gs:=(A a5 J).trans (aT _ _ _);have eE:=(A (U+1) J).trans ((ar J).trans ((ar J).trans de));have iw:((n:Int) == (n:Int))=true:=ab
 simp(disch:=omega)only[bl,gs,eE,gk,iw,seval];refine⟨_,rfl,⟨_,rfl,B.T (λb h1 ap=>?_) J J⟩,λb aO=>?_,J⟩
 ·rw[ar J,A b J,ar J,ar J]
 ·rw[ar J,A b J,ar J,ar J];exact cP b aO
end
section
variable {s:al} {g ck h ac:ae} {U Y aL i j:Nat} {c bM:Nat->X} {l:aa et} {aQ:aw Nat} {Z:cb}
theorem j8.c11(H:j8 h U c Z i j):c 11 = .int .i64 (Z.H i:Int):=by
 obtain⟨b,B,cap,A,D,e,_⟩:=H.rows
 grind
theorem ajP{v:X}(b0:u h aL=some (.cells (dx c) false))(K:aL<U)(e:c 11 = (n:X))(aG:el h U v eK 3 L)(eD:L.length<100000)(ej:L.Pairwise λa b=>a.1<b.1)(bv:∀p∈L,p.1<n):
  aH Q s 228 [bf aL,v] h U (dJ (.bool true) U h):=by
 refine alT ?_;unfold aax;obtain⟨bk,cap,rfl,_⟩:=id aG;refine aD ?_;refine bC.mk (λm aF ac Y=>∃k last,m=L.length-k/\k<=L.length/\aF=[bf aL,.bool false,.int .i64 last,.slice bk L.length cap,(L.length:X),(k:X)]/\(∀p∈L.drop k,last<(p.1:Int))/\aA U h ac/\U<=Y) L.length ⟨0,-1,J,J,rfl,J,aN,J⟩ ?_;rintro _ _ ap bX ⟨k,last,rfl,hk,rfl,I,A,E⟩;rw[ajK];unfold Xr;refine aD ?_;refine⟨λDB=>?_,λeM=>⟨rfl,A,E⟩⟩;obtain⟨p,bg⟩:=dR   J;obtain⟨b,a0,aS,ro,tP,kZ,aO,aW,a9,B⟩:=(aG.T A E).ld (λ_=>rfl) bg;cases aW;have bj:L.drop k=p::L.drop (k+1):=by
  have D:k<L.length:=J
  rw[B5 D]
  grind
 have h1:=I p ab;have V:=bv p (kz bg);have M:∀{o a0},u (F (F ap bX o) bX a0) aL=some (.cells (dx c) false):=λ{o a0}=>by rw[ar J,ar J];exact(A aL K).trans b0
 rw[show eK p=[(p.1:X),.int .i64 (p.2 / 18446744073709551616),.int .u64 (p.2 % 18446744073709551616)]from rfl]at B;refine Ld @a9 @B @M @e (cv (J:k<1000000000000)) ?_;refine⟨λh=>absurd h1 J,λ_=>⟨λh=>absurd V J,λ_=>⟨_,J,k+1,(p.1:Int),rfl,J,rfl,λq dt=>?_,aN,J⟩⟩⟩;have vr:(L.drop k).Pairwise λa b=>a.1<b.1:=ab
 rw[bj,uA]at vr
 grind
end
theorem apr{s:al}{f:Int}{v:X}{x:Nat->aw Int}{h:ae}{U:Nat}(aG:jU h U v n x)(bv:n<=63):aH Q s 226 [(f:X),v] h U (λr ac Y=>wy ac Y r n x/\aA U h ac/\U<=Y):=by
 refine aq8 ?_;have E:=aG;have gz:=me n x;obtain⟨gN,rfl,aq⟩:=aG;obtain⟨cG,k7,rfl,_⟩:=id aq;have bT:∀{o eF},aA U h (F (F h U o) (U+1) eF):=aN
 unfold adP;refine aD ?_;refine(wd (E.T  bT J) J).cu λg1 a5 D f0=>?_;have I:=(D U J).trans ((ar J).trans (aT _ _ _));have de:=(D (U+1) J).trans (aT _ _ _);have cP:=bT.trans D J;unfold Pg;refine bh @I ?_;refine(alI  J).mono ?_;rintro w _ _ ⟨b0,gi,eN⟩;rw[gi,eN];rcases b0 with rfl|rfl
 ·refine bh @I ?_;refine(Ci (aq.T  cP J) J).mono ?_;rintro e2 g2 bX ⟨dn,A,B⟩;refine⟨B,?_⟩;have gs:=(A U J).trans I;have K:=(A (U+1) J).trans de;obtain⟨bL,gV,rfl⟩:=dn.form;simp(disch:=omega)only[bl,gs,K,I,gk,seval];exact⟨.inl ⟨_,rfl,cr.o   (λ_=>rfl) (dn.T  ab J J).fj.rd⟩,aN,J⟩
 ·refine bh @I ?_;refine(aeO (E.T  cP J) bv).mono ?_;rintro eQ g2 bX ⟨BP,A,B⟩;have K:=(A (U+1) J).trans de;obtain⟨ft,dr,rfl,M,V⟩:=BP;obtain⟨ez,c3,rfl,_⟩:=id M;obtain⟨bD,qb,rfl,_⟩:=id V;refine bh @K ?_;exact⟨.inr ⟨_,_,rfl,(M.T  ab J J).rd,cr.o (λ_=>rfl) (V.T  ab J J).rd⟩,aN,J⟩
structure sU (h:ae) (ao aj:Nat) (f:et) (p:ky):Prop where
 kind:f.kind=p.kind
 fi:f.fi=p.fi
 lS:f.lS=p.lS
 round:f.round=p.round
 l6:f.l6=p.l6
 s8:eG h ao aj (.slice f.bm f.n6 f.hv) fG p.l4
 uy:eG h ao aj (.slice f.a6 f.n7 f.i7) eK p.nE
 n8:f.n8=0
 n:f.n=p.n
 n4:f.n4=p.n4
section
variable {h ac:ae} {ao aj d2 dm:Nat} {f:et} {p:ky}
theorem sU.is(H:sU h ao aj f p):mP h aj f p:=⟨H.kind,H.fi,H.lS,H.round,H.l6,cr.o   (λ_=>rfl) H.s8.rd,cr.o   (λ_=>rfl) H.uy.rd,H.n8,H.n,H.n4⟩
theorem sU.T(H:sU h ao aj f p)(A:∀b,ao<=b->b<aj->u ac b=u h b)(D:d2<=ao)(B:aj<=dm):sU ac d2 dm f p:={ H with s8:=eG.T H.s8 A D B,uy:=eG.T H.uy A D B }
theorem wH{az:Type}{enc:az->aa X}:eG h ao aj (.slice none 0 0) enc ([]:aa az):=⟨_,_,rfl,λh=>absurd rfl h⟩
end
section
variable {s:al} {g ck h ac:ae} {U Y aL i j:Nat} {c bM:Nat->X} {l:aa et} {aQ:aw Nat} {Z:cb}
theorem j8.ax5(H:j8 h U c Z i j):(∃I K gE B A V D E M,c 11 = .int .i64 (Z.H i:Int)/\c 12 = .int .i64 (Z.W j:Int)/\c 13 = .slice I K gE/\c 14 = .slice B A V/\c 15 = .slice D E M) /\
  ∃I K gE B A V D E M aZ d4 sZ,c 16 = .int .i64 (Z.H i:Int)/\c 17 = .int .i64 (Z.W j:Int)/\c 18 = .slice I K gE/\c 19 = .slice B A V/\c 20 = .slice D E M/\c 21 = .slice aZ d4 sZ:=by
 constructor
 ·obtain⟨b,aS,n,B,A,c2,D,E,b8,e⟩:=H.rows.form
  grind
 ·obtain⟨fo,_,_,a1⟩:=H.mi;obtain⟨I,K,c1,B,A,c2,D,E,b8,aZ,d4,fL,e⟩:=a1.form
  grind
theorem ax6(K:fZ Z):∀g∈Z.cut i j,0<=g.w/\g.w<=2147483647:=λg A=>by obtain⟨ck,B,rfl⟩:=fz.1 A;exact K.w ck ab
theorem aeU(K:fZ Z):hg (Z.H i) (Z.W j) (Z.cut i j):=by have A:=yv K i;have B:=De K j;exact Kv K.M (by unfold cb.H;omega) (by unfold cb.W;omega)
theorem SV(K:fZ Z)(j:Nat):Z.W j<=60:=by have:=De K j;have:=K.n60;unfold cb.W;omega
theorem ahp(K:fZ Z)(i:Nat):Z.H i<=60:=by have:=yv K i;have:=K.n60;unfold cb.H;omega
theorem alX{r M da dc ja A I hH iQ hI uh E B K V cg D d8:X}:((rn (py [(6,6,.agg ⟨[I,hH,iQ,hI,uh,E]⟩),(12,6,.agg ⟨[B,K,V,cg,D,d8]⟩),(19,1,.bool true),(20,1,.int .i64 0)]) 1 5 [M,da,dc,ja,A]
  [r,.int .i64 0,.int .i64 0,.slice none 0 0,.slice none 0 0,.slice none 0 0,.int .i64 0,.int .i64 0,.slice none 0 0,.slice none 0 0,.slice none 0 0,.slice none 0 0,.int .i64 0,.int .i64 0,.slice none 0 0,.int .i64 0,.slice none 0 0,.slice none 0 0,.slice none 0 0,.bool false,.int .i64 0]).bind λl=>.ok (Value.agg ⟨l⟩)) =
  .ok (.agg ⟨[r,M,da,dc,ja,A,I,hH,iQ,hI,uh,E,B,K,V,cg,D,d8,.slice none 0 0,.bool true,.int .i64 0]⟩):=rfl
theorem aiH{f:et}{p:ky}{t:Nat}{x:Nat->aw Int}(K:fZ Z)(W:eX h U aL c i j Z.C l aQ)(H:j8 h U c Z i j)(bA:l.length<900)(bE:mP h U f p)(ci:t<900)(h2:p.l4=bq (Z.W j) x)(eg:p.l6=(Z.W j:Int))(lZ:p.round=(t:Int))(rT:c 25 = (t:X))(aj:i<Z.R)(aY:∀i y,x i=some y->0<=y/\y<=eI):
  aH Q s 134 [bf aL,.agg ⟨ec f⟩,.agg ⟨[.int .i64 0,(j:X)]⟩] h U (λr ac Y=>r = .bool true/\∃dF ce nC,eX ac Y aL (hh (hh c 25 (((t+1:Nat):X))) 22 dF) i j Z.C (l++[nC]) (some ce) /\
   sU ac U ce nC ⟨3,((i*Z.C+j:Nat):Int),((i*Z.C+0:Nat):Int),t,0,[],bq (Z.H i) (il (gd Z.k t) (Z.cut i j) x),0,false⟩/\U<=ce/\(∀d,d<U->d≠aL->aQ≠some d->u ac d=u h d)/\U<=Y):=by
 refine ajH ?_;have ct:=W.lt;have bT:∀{o a0},aA U h (F (F h U o) (U+1) a0):=aN
 have o2:∀{o a0},u (F (F h U o) (U+1) a0) aL=some (.cells (dx c) false):=λ{o a0}=>(bT aL ct).trans W.at_;obtain⟨⟨aB,a5,gE,a2,E,gW,a3,bW,ow,f11,UI,f13,f14,f15⟩,cI,m1,dH,bQ,m2,dl,d6,m3,jo,fB,m4,lb,f16,f17,f18,f19,f20,f21⟩:=H.ax5;unfold Yz ec;refine u7 @o2 @UI ?_;refine(Xx   (bE.T  bT J) h2 eg (SV K j)).mono ?_;rintro _ g1 cj ⟨v,rfl,lG,B,f0⟩;refine⟨f0,?_⟩;have cP:=bT.trans B J;have g8:=(B U J).trans ((ar J).trans (aT _ _ _));have de:=(B (U+1) J).trans (aT _ _ _);have Nj:=(B aL J).trans o2;obtain⟨gN,rfl,xi⟩:=lG;obtain⟨cG,k7,rfl⟩:=xi.form;have iw:∀{y:Int},((y == y):al)=true:=ab
 have A:f.round=(t:Int):=bE.round.trans lZ;simp(disch:=omega)only[bl,hL,g8,de,Nj,W.c1,rT,A,iw,seval];unfold Fq;have qh:∀{o},eX (F (F g1 cj o) cj (.cells [.int .i64 (Z.W j:Int),.slice cG (bq (Z.W j) x).length k7] false)) (cj+1) aL c i j Z.C l aQ:=λ{o}=>W.T (λd bj=>by have jt:d<U:=bj.elim J λe=>(W.aQ d e).2;rw[ar J,ar J];exact cP d jt) J
 refine u7 @g8 @A ?_;refine(ajO qh H.MR).cu λg2 E D fg=>?_;have aCk:u g2 cj=_:=(D cj J).trans (aT _ _ _);have M:u g2 aL=some (.cells (dx c) false):=(D aL J).trans qh.at_;have UJ:u g2 U=_:=(D U J).trans ((ar J).trans ((ar J).trans g8));refine Ld @aCk @M @UJ H.aK @A ?_;refine(PC K.hj J).fM ⟨J,?_⟩;simp(disch:=omega)only[bl,hL,aCk,M,UJ,gk,seval];have eA:∀{o a0},aA U h (F (F g2 E o) E a0):=aN
 have hVo:∀{o a0},jU (F (F g2 E o) E a0) (E+1) (.agg ⟨[.int .i64 (Z.W j:Int),.slice cG (bq (Z.W j) x).length k7]⟩) (Z.W j) x:=λ{o a0}=>⟨_,rfl,cr.o   (λ_=>rfl) (xi.T (d2:=0)  (λb h1 ap=>by rw[ar J,ar J,D b J,ar J,ar J]) J J).fj.rd⟩
 refine(apr hVo (by have:=SV K j;omega)).mono ?_;rintro aG ed d4 ⟨fK,I,hb⟩;refine⟨hb,?_⟩;have gG:aA U h ed:=eA.trans I J;have hH0:=fK;obtain⟨cB,cE,aW,h3,eF,cg,aK,z2,dP,cf,z3,gh,rfl⟩:=fK.form;have sI:u ed aL=some (.cells (dx c) false):=(gG aL ct).trans W.at_;have VP:u ed E=some (.cells [.int .i64 0,.int .i64 0] false):=(I E J).trans (aT _ _ _);have ly:u ed U=_:=(I U J).trans ((ar J).trans ((ar J).trans UJ));simp(disch:=omega)only[bl,hL,sI,VP,M,f11,UI,f13,f14,f15,f16,f17,f18,f19,f20,f21,gk,seval];rw[alX];refine aD ?_;have ei:=H.rows;obtain⟨fo,e9,UK,hCo⟩:=H.mi;rw[f11,UI,f13,f14,f15]at ei;rw[f16,f17,f18,f19,f20,f21]at hCo;have V:∀{o a0},aA U h (F (F ed d4 o) d4 a0):=(gG.set J).set J;refine(api     ⟨QI K.hj,aeU K,UK,e9,by have:=SV K j;omega,ax6 K,aY,_,_,_,_,rfl,ei.T  V J,hCo.T  V J,hH0.T (((aA.refl _ _).set (cD _)).set (cD _)) J⟩).mono ?_;rintro _ f4 fP ⟨z,y,rfl,dn,gf,nl⟩;have jp:aA U h f4:=V.trans gf J;have aDz:u f4 aL=some (.cells (dx c) false):=(jp aL ct).trans W.at_;have kQ:u f4 U=_:=(gf U J).trans ((ar J).trans ((ar J).trans ly));have zn:IntKind.wrap .i64 ((t:Int)+1)=((t+1:Nat):Int):=cv J;obtain⟨lD,VD,rfl,_⟩:=id dn;refine AD @aDz @rT @zn W.pi ?_;have nN:eX (F f4 aL (.cells (dx (hh c 25 (((t+1:Nat):X)))) false)) fP aL (hh c 25 (((t+1:Nat):X))) i j Z.C l aQ:=W.set (aT _ _ _) rfl rfl rfl rfl (λb e=>by have:=W.aQ b e;rw[ar this.1];exact jp b this.2) J
 refine(FG  (j:=0) nN.at_ W.hB W.mF W.i8 (by have:=K.hB;omega) nN.g9).fM ⟨cD _,?_⟩;simp(disch:=omega)only[bl,kQ,A,gk,seval];refine(F2 nN bA ⟨3,0,((i*Z.C+0:Nat):Int),0,(t:Int),0,none,0,0,lD,(bq (Z.H i) (il (gd Z.k t) (Z.cut i j) x)).length,VD,none,0,0,0,false⟩).mono ?_;rintro _ qX n7 ⟨rfl,dF,ce,IT,gK,vB,tI⟩;have cY:∀d,U<=d->aQ≠some d:=λd bj e=>by have:=W.aQ d e;omega
 refine⟨tI,dF,ce,_,IT,⟨rfl,rfl,rfl,rfl,rfl,wH,eG.T dn (λd h1 ap=>?_) J J,rfl,rfl,rfl⟩,J,λd h1 ap aM=>?_,J⟩
 ·grind
 ·rw[vB d J ap aM,ar ap];exact jp d h1
end
def kG(h:ae)(ao aj:Nat):aa et->aa ky->Prop
 | [],[]=>True
 |f::dw,p::b7=>sU h ao aj f p/\kG h ao aj dw b7
 |_,_=>False
section
variable {h ac:ae} {ao aj d2 dm:Nat}
theorem kG.T(A:∀b,ao<=b->b<aj->u ac b=u h b)(D:d2<=ao)(B:aj<=dm):∀{dw b7},kG h ao aj dw b7->kG ac d2 dm dw b7
 | [],[],_=>trivial
 |_::_,_::_,H=>⟨H.1.T A D B,kG.T A D B H.2⟩
 | [],_::_,H=>H.elim
 |_::_,[],H=>H.elim
theorem kG.app:∀{dw b7 aV IQ},kG h ao aj dw b7->kG h ao aj aV IQ->kG h ao aj (dw++aV) (b7++IQ)
 | [],[],_,_,_,G=>G
 |_::_,_::_,_,_,H,G=>⟨H.1,kG.app H.2 G⟩
 | [],_::_,_,_,H,_=>H.elim
 |_::_,[],_,_,H,_=>H.elim
theorem kG.len:∀{dw b7},kG h ao aj dw b7->dw.length=b7.length
 | [],[],_=>rfl
 |_::_,_::_,H=>by rw[mb,mb,kG.len H.2]
 | [],_::_,H=>H.elim
 |_::_,[],H=>H.elim
theorem kG.is:∀{dw b7},kG h ao aj dw b7->qA h aj dw b7
 | [],[],_=>trivial
 |_::_,_::_,H=>⟨H.1.is,kG.is H.2⟩
 | [],_::_,H=>H.elim
 |_::_,[],H=>H.elim
end
def KQ(Z:cb)(i t:Nat)(x:Nat->aw Int)(j:Nat):ky:=⟨1,((i*Z.C+0:Nat):Int),(j:Int),(t:Int),((Z.cl (i+1) j-Z.cl i j:Nat):Int),bq (Z.cl (i+1) j-Z.cl i j) (λk=>x (Z.cl i j+k)),[],0,false⟩
theorem SX{A:Nat}(B:rk Q A=true){h:ae}{U r:Nat}(D:u h r=some (.map es cH)):pr Q .clear [A] h U [.map (some r)] = .ok (.val jT (F h r (.map [] cH)) U):=by show(bif rk Q A||m9 Q A then Gw Q A h U (.map (some r))else .no "clear")=_;rw[B];show kW h r _=_;unfold kW;rw[D]
theorem ax7:rk Q 172=true:=by kernel_rfl
def BeJ(aL i C a5 U t:Nat)(Z:cb)(x:Nat->aw Int)(c:Nat->X)(l:aa et)(aQ:aw Nat)(h iJ:ae)(m:Nat)(aF:aa X)(ac:ae)(Y:Nat):Prop :=
 ∃IU bM gM dw B,m=C-IU/\IU<=C/\aF=[bf aL,bf a5,(C:X),(IU:X)]/\(∀n,n≠22->bM n=c n)/\eX ac Y aL bM i 0 C (l++dw) gM /\
  kG ac U B dw ((List.range IU).map (KQ Z i t x))/\a5+1<=B/\B<=Y/\(∀b,gM=some b->aQ=some b\/B<=b)/\(0<IU->∃b,gM=some b/\B<=b)/\(∀d,U<=d->d<=a5->u ac d=u iJ d)/\(∀d,d<U->d≠aL->aQ≠some d->u ac d=u h d)
section
variable {s:al} {g ck h ac:ae} {U Y aL i j:Nat} {c bM:Nat->X} {l:aa et} {aQ:aw Nat} {Z:cb}
theorem ajQ{r I:Nat}{S:ju}(K:fZ Z)(W:eX h U aL c i 0 Z.C l aQ)(H:j8 h U c Z i 0)(bA:l.length+Z.C<900)(aj:i<Z.R)(aq:jf h U (.agg ⟨[c 28,c 29,c 30,c 31,c 32]⟩) (Z.bB i) (Z.H i) S)(Ei:c 26 = (r:X))(bb:r<900)(mz:c 41 = .map (some I))(bp:u h I=some (.map es cH))(rO:I<U/\I≠aL/\aQ≠some I):
  aH Q s 232 [bf aL] h U (λmD ac Y=>mD = .tuple ⟨[]⟩/\∃bM ce dw,(∀n,n≠22->n≠40->bM n=c n)/\bM 40 = .slice none 0 0/\eX ac Y aL bM i 0 Z.C (l++dw) (some ce) /\
   kG ac U ce dw ((List.range Z.C).map (KQ Z i (r+1) (qB Z.k (iB Z.bK Z.N (r / 2)) (r+1) S)))/\U<=ce/\u ac I=some (.map [] cH)/\(∀d,d<U->d≠aL->d≠I->aQ≠some d->u ac d=u h d)/\U<=Y):=by
 refine alU ?_;have ct:=W.lt;have sD:=aq;obtain⟨dr,fC,ft,ht,fx,gD,gg⟩:=aq;obtain⟨fA,e8,rfl,_⟩:=id fx;obtain⟨fW,fX,rfl,_⟩:=id gD;obtain⟨f3,h0,rfl,_⟩:=id gg;simp only[Value.agg.injEq,xQ,v0,ik]at ht;obtain⟨qS,p5,ze,i4,ge⟩:=ht;rw[qS,p5,ze,i4,ge]at sD;obtain⟨bk,gj,pb,_⟩:=id H.d;have lZ:IntKind.wrap .i64 ((r:Int)+1)=((r+1:Nat):Int):=cv J;have fV:=H.k0 K;rw[pb]at fV;have Im:=yv K i;unfold aay;simp(disch:=omega)only[bl,hL,W.at_,H.aK,H.cf,H.dT,H.h5,pb,qS,p5,ze,i4,ge,Ei,lZ,seval];refine(as2  fV sD (by unfold cb.H;omega) J J).mono ?_;rintro BH D a5 ⟨lG,d0,f0⟩;refine⟨f0,?_⟩;rw[show(r+1-1) / 2=r / 2 from rfl]at lG;obtain⟨gN,rfl,xi⟩:=lG;obtain⟨cG,k7,rfl⟩:=xi.form;have da:u D aL=some (.cells (dx c) false):=(d0 aL ct).trans W.at_;refine u7 @da W.g9 ?_;generalize xB:qB Z.k (iB Z.bK Z.N (r / 2)) (r+1) S=ef at xi ⊢;generalize MI:F (F D a5 _) a5 _=iJ;have VQ:u iJ a5=some (.cells [.int .i64 (Z.H i:Int),.slice cG (bq (Z.H i) λk=>ef (Z.bB i+k)).length k7] false):=ab
 have cY:∀d,U<=d->aQ≠some d:=λd bj e=>by have:=W.aQ d e;omega
 have ux:aA U h iJ:=aN
 refine bC.mk (BeJ aL i Z.C a5 U (r+1) Z ef c l aQ h iJ) Z.C ⟨0,c,aQ,[],a5+1,J,J,rfl,ab,by rw[h6];exact W.T (λd bj=>ux d ab) J,trivial,J,J,ab,λh=>absurd h J,ab,λd bj _ _=>ux d bj⟩ ?_;rintro _ _ A bX ⟨M,c2,V,dw,B,rfl,bZ,rfl,nq,E,hK,vu,rU,mr,ahq,eW,mS⟩;rw[ajM];unfold Xt;have VR:=(eW a5 J J).trans VQ;have eN:(dw.length:Nat)=M:=by rw[hK.len,gn,Cb]
 have h4:c2 2=c 2/\c2 3=c 3/\c2 7=c 7/\c2 26=c 26/\c2 41=c 41:=ab
 obtain⟨aEu,aDA,aDB,j26,j41⟩:=h4;refine aD ?_;refine⟨λDB=>?_,λeM=>?_⟩
 ·simp(disch:=omega)only[bl,hL,VR,E.at_,aDA,H.cf,aDB,H.gy,E.g9,E.pi,seval];have hVF:pK A U bX (.agg ⟨[.int .i64 (Z.H i:Int),.slice cG (bq (Z.H i) λk=>ef (Z.bB i+k)).length k7]⟩) (Z.H i) (λk=>ef (Z.bB i+k)):=⟨_,rfl,xi.T ab J J⟩
  have bv:=K.n60;refine(aly  J K.lH K.nM K.hB K.mF aj J hVF).mono ?_;rintro aF aM bW ⟨dn,e1,gJ⟩;refine⟨gJ,?_⟩;have Bb:=(e1 aL E.lt).trans E.at_;obtain⟨vsi,rfl,hSi⟩:=dn;obtain⟨aDC,aDD,rfl,_⟩:=id hSi;refine AD @Bb @j26 @Ei @lZ ?_;have qY:∀{o a0},eX (F (F aM bW o) bW a0) (bW+1) aL c2 i 0 Z.C (l++dw) V:=λ{o a0}=>E.T (λd bj=>by have:d<bX:=bj.elim J λe=>(E.aQ d e).2;rw[ar J,ar J];exact e1 d this) J
  refine(F2 qY ab ⟨1,0,(M:Int),0,((r+1:Nat):Int),((Z.cl (i+1) M-Z.cl i M:Nat):Int),aDC,(bq (Z.cl (i+1) M-Z.cl i M) λk=>ef (Z.cl i M+k)).length,aDD,none,0,0,none,0,0,0,false⟩).mono ?_;rintro _ bc d4 ⟨rfl,dF,ce,Nk,gK,sO,hb⟩;refine⟨hb,?_⟩;refine bh (cv (J:M<1000000000000)) ?_;have qH:∀d,U<=d->d<B->V≠some d:=ab
  have nb3:∀d,bX<=d->V≠some d:=λd D e=>by have:=E.aQ d e;omega
  have dT:∀d,d<bX->d≠aL->V≠some d->u bc d=u A d:=λd D A aM=>by rw[sO d J A aM,ar J,ar J];exact e1 d D
  refine⟨_,J,M+1,_,some ce,dw++[_],bW+1,rfl,J,rfl,λn bv=>?_,by rw[<-kA];exact Nk,?_,J,J,λb e=>.inr ab,λ_=>⟨ce,rfl,J⟩,λd D A=>?_,λd D A aM=>?_⟩
  ·rw[dN bv];grind
  ·rw[q6,iK];refine(hK.T (λb D A=>dT b J J (qH b D A)) (cD _) J).app ⟨⟨rfl,rfl,rfl,rfl,rfl,?_,wH,rfl,rfl,rfl⟩,trivial⟩;exact eG.T hSi (λb D A=>by rw[sO b J J (nb3 b J),ar J,ar J]) J J
  all_goals grind
 ·have:M=Z.C:=J
  subst this;obtain⟨ce,rfl,gK⟩:=ahq (by have:=K.hB;omega);have oc:u A I=some (.map es cH):=(mS I rO.1 rO.2.1 rO.2.2).trans bp;have hw5:∀{o},u (F A I o) aL=some (.cells (dx c2) false):=λ{o}=>by rw[ar (kB rO.2.1)];exact E.at_
  simp(disch:=omega)only[bl,hL,E.at_,j41,mz,SX ax7 oc,dU,hw5,seval];refine⟨_,ce,dw,λn D A=>by rw[dN A];grind,yt,E.set (aT _ _ _) rfl rfl rfl rfl (λb e=>ab) (cD _),(hK.T (λb D A=>ab) (cD _) gK),J,λd D A aM bc=>ab,J⟩
end
end Go.Proofs.YthlhhajnbgjfmaaGreat
