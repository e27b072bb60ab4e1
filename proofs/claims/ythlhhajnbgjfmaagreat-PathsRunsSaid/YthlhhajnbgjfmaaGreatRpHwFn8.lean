/- Parts of the proof: HwFn8: each statement bears its own conditions. -/
import Derived.Test.YthlhhajnbgjfmaaGreatRpHwFn7
namespace Go.Proofs.YthlhhajnbgjfmaaGreat
open Go Go.Ax Go.Ax.HdH
set_option linter.all false
set_option maxHeartbeats 1000000
set_option maxRecDepth 1000000
variable {v gV eW e6:X} {q:Nat->al} {gs:aa GE} {te tf:Nat} {aC aD aZ bA bp:X} {b1:aa Int} {ag:Nat} {cs:aa GE} {m:ct} {a2 a3 n0 jx z2 z3 z4 zK Je ss We dX:X} {ec R N:Nat}
section
variable {s:al} {h:ae} {U b2 dz df b n c6 gC gx ha:Nat} {room:Int} {f:eB} {p:kH}
structure zw (h:ae) (U b2 dz df b n c6 gC gx ha:Nat) (room:Int) (f:eB):Prop where
 p:u h b2=some (.cells (kA room (.slice (some ⟨b,0,some 1⟩) 1 1) dz df (n+1) n) false)
 r:u h b=some (.cells [(n:X)] false)
 o:i7 h df h0 [(n,.int .i64 1,c6)] gx
 m:i7 h dz h0 [(n,.agg ⟨eg f⟩,gC)] ha
 py:b2<U
 ap:df<U/\df≠b2
 zP:dz<U/\dz≠b2/\dz≠df
 bB:b<U/\b≠b2/\b≠df/\b≠dz
 f2:n<100000
theorem zw.F{ac:ae}{Y:Nat}(B:zw h U b2 dz df b n c6 gC gx ha room f)(A:∀d,d=b2\/d=df\/d=dz\/d=b->u ac d=u h d)(D:U<=Y):zw ac Y b2 dz df b n c6 gC gx ha room f :=
 ⟨(A _ (.inl rfl)).trans B.p,(A _ (.inr (.inr (.inr rfl)))).trans B.r,B.o.F ab,B.m.F ab,by have:=B.py;omega,⟨by have:=B.ap;omega,B.ap.2⟩,⟨by have:=B.zP;omega,B.zP.2⟩,⟨by have:=B.bB;omega,B.bB.2⟩,B.f2⟩
structure Bx0 (h:ae) (b2 dz df b n gx ha l0:Nat) (room:Int):Prop where
 p:u h b2=some (.cells (kA room (.slice (some ⟨b,0,some 1⟩) 0 1) dz df (n+1) l0) false)
 r:u h b=some (.cells [.int .i64 0] false)
 o:u h df=some (.map [] gx)
 m:u h dz=some (.map [] ha)
theorem auc(B:zw h U b2 dz df b n c6 gC gx ha room f):
  aE Q s 347 [bf b2,.int .i64 0] h U (λr ac Y=>r = .agg ⟨eg f⟩/\Bx0 ac b2 dz df b n gx ha n room/\(∀d,d<U->d≠b2->d≠df->d≠dz->d≠b->u ac d=u h d)/\U<=Y):=by
 refine awD ?_;obtain⟨zI,Nq,aEO,aDj,dK,K,jF,lU,aDk⟩:=B;have hN:∀{o},u (T h U o) b2=_:=λ{o}=>(aq J).trans zI;have ef:∀{o},u (T h U o) b=_:=λ{o}=>(aq J).trans Nq;have ey:∀{o},i7 (T h U o) dz h0 [(n,.agg ⟨eg f⟩,gC)] ha:=λ{o}=>aDj.F ab;have V:=λo=>xa (rE nR) (ey (o:=o)) (k:=n) (z:=.agg #[(.int .i64 0),(.int .i64 0),(.int .i64 0),(.int .i64 0),(.int .i64 0),(.int .i64 0),(.slice none 0 0),(.slice none 0 0),(.slice none 0 0),(.int .i64 0),(.bool false)]) (ok:=false);rw[show iK [(n,Value.agg ⟨eg f⟩,gC)] n=some (.agg ⟨eg f⟩)from by rw[yd];grind,show h0 n = (n:X)from rfl]at V
 replace V:=λo=>(V o).trans (show _=R.ok (Value.agg ⟨eg f⟩)from rfl)
 unfold kA at hN;unfold agL;refine R9 @hN @ef @V ?_;unfold eg;refine mv @hN ?_;refine(awH (n:=n) ab).mono ?_;rintro _ _ _ ⟨rfl,rfl,rfl⟩;generalize gS:T (T (T h U _) (U+1) _) (U+1) _=G;have aEP:∀d,d<U->u G d=u h d:=ab
 have Wf:=aR (T (T h U (.cells [(.int .i64 0),(.int .i64 0),(.int .i64 0),(.int .i64 0),(.int .i64 0),(.int .i64 0),(.slice none 0 0),(.slice none 0 0),(.slice none 0 0),(.int .i64 0),(.bool false)] false)) (U+1) (.cells [(.int .i64 0),(.int .i64 0),(.int .i64 0),(.int .i64 0),(.int .i64 0),(.int .i64 0),(.slice none 0 0),(.slice none 0 0),(.slice none 0 0),(.int .i64 0),(.bool false)] false)) (U+1) (.cells (eg f) false);have gN0:u G U=some (.cells [(.int .i64 0),(.int .i64 0),(.int .i64 0),(.int .i64 0),(.int .i64 0),(.int .i64 0),(.slice none 0 0),(.slice none 0 0),(.slice none 0 0),(.int .i64 0),(.bool false)] false):=ab
 replace Wf:u G (U+1)=some (.cells (eg f) false):=by rw[<-gS];exact Wf
 have cr:∀{o},u (T G b o) b2=_:=λ{o}=>(aq J).trans ((aEP b2 dK).trans zI);unfold kA at cr;refine mv @cr ?_;generalize fu:T (T G b _) b2 _=H;have D:∀d,d≠b->d≠b2->u H d=u G d:=ab
 have A:u H b2=some (.cells (kA room (.slice (some ⟨b,0,some 1⟩) 0 1) dz df (n+1) n) false):=by rw[<-fu,aR];rfl
 have Wg:i7 H df h0 [(n,.int .i64 1,c6)] gx:=aEO.F ab;have aEQ:i7 H dz h0 [(n,.agg ⟨eg f⟩,gC)] ha:=aDj.F ab;have aK:=xa (rE nR) Wg (k:=n) (z:=.int .i64 0) (ok:=false);rw[show iK [(n,Value.int .i64 1,c6)] n=some (.int .i64 1)from by rw[yd];grind,show h0 n = (n:X)from rfl]at aK
 replace aK:=aK.trans (show _=R.ok (Value.int .i64 1)from rfl)
 have cc:=ax0 (x:=.int .i64 0) (rE nR) Wg;rw[show h0 n = (n:X)from rfl]at cc;unfold kA at A;simp(disch:=omega)only[bk,↓reduceIte,Nat.reduceAdd,Nat.reduceSub,Nat.reduceMul,Nat.reduceLT,Nat.reduceLeDiff,Nat.reduceEqDiff,Int.reduceBEq,Int.reduceLT,Int.reduceNeg,A,aK,cc,show IntKind.wrap .i64 ((1:Int)-1)=0 from rfl];have hPm:∀{o},u (T H df o) b2=_:=λ{o}=>(aq (kI K.2)).trans A;have E:i7 (T H df (.map (lz h0 [(n,.int .i64 0,c6)]) gx)) df h0 [(n,.int .i64 0,c6)] gx:=⟨ab,ab,λe b0=>by rw[iu.1 b0];exact Wg.lt (n,.int .i64 1,c6) ab,ab⟩
 have d6:=xa (rE nR) E (k:=n) (z:=.int .i64 0) (ok:=false);rw[show iK [(n,Value.int .i64 0,c6)] n=some (.int .i64 0)from by rw[yd];grind,show h0 n = (n:X)from rfl]at d6
 replace d6:=d6.trans (show _=R.ok (Value.int .i64 0)from rfl)
 have hd:=λr=>agN (U:=U+1+1) (rest:=r) ay5 (rE nR) E;rw[show h0 n = (n:X)from rfl]at hd;have mB':∀{o aX},i7 (T (T H df o) df aX) dz h0 [(n,.agg ⟨eg f⟩,gC)] ha:=λ{o aX}=>aEQ.F ab;have hy:=λr o aX=>agN (U:=U+1+1) (rest:=r) ay6 (rE nR) (mB' (o:=o) (aX:=aX));rw[show h0 n = (n:X)from rfl]at hy;have I:∀{o aX},u (T (T H df o) df aX) b2=_:=λ{o aX}=>(aq (kI K.2)).trans ((aq (kI K.2)).trans A);simp(disch:=omega)only[bk,↓reduceIte,Nat.reduceAdd,Nat.reduceSub,Nat.reduceMul,Nat.reduceLT,Nat.reduceLeDiff,Nat.reduceEqDiff,Int.reduceBEq,Int.reduceLT,Int.reduceNeg,hPm,d6,hd,I,hy,dO];have P:=(D (U+1) J J).trans Wf;have gN2:=(D U J J).trans gN0;unfold eg at P;refine tN @P @gN2 ?_;refine⟨⟨?_,?_,?_,?_⟩,ab,J⟩
 ·rw[aq J,aq (kI jF.2.1),aq (kI K.2),aq (kI K.2)];exact A
 all_goals grind
theorem aqm{g:ae}(B:zw h U b2 dz df b n c6 gC gx ha room f)(G:lf g h)(c9:∀d,d=b2\/d=df\/d=dz\/d=b\/U<=d->u g d=none)(bK:nc g U f p)(V:f.hM=(n:Int))(cy:p.ml.length<10000)(eD:p.nZ.length<10000):
  aE Q s 243 [bf b2,.int .i64 0] h U (λr ac Y=>∃P,r = .tuple ⟨[.agg ⟨eg P⟩,.bool true,.int .i64 0]⟩/\lH ac U Y P p/\Bx0 ac b2 dz df b n gx ha (n+1) room/\(∀d,d<U->d≠b2->d≠df->d≠dz->d≠b->u ac d=u h d)/\U<=Y):=by
 refine at6 ?_;obtain⟨aFm,aFn,aFo,hM,eu,rl,bp,n6,hQ,ba,n7,jh,bv,n8,hc,fn,aCP⟩:=f;have V:hM=(n:Int):=V;subst V;have dK:=B.py;have dr:=B.ap;have jF:=B.zP;have lU:=B.bB;have aDk:=B.f2;have K:∀{o},zw (T h U o) (U+1) b2 dz df b n c6 gC gx ha room _:=λ{o}=>B.F ab J;have hN:=λo=>(K (o:=o)).p;have ef:=λo=>(K (o:=o)).r;unfold kA at hN;unfold afa;refine aG ?_;refine(awF (k:=0) K.p J).fZ ?_;simp(disch:=omega)only[bk,hN,ef,Int.lt_irrefl,decide_false,seval];unfold PM;refine aG ?_;refine(auc K).mono ?_;rintro _ I E ⟨rfl,C,hk,dv⟩;have hR:u I U=_:=(hk U J J J J J).trans (aR _ _ _);have hF:∀{o aX},u (T (T I E o) E aX) b2=_:=λ{o aX}=>(aq J).trans ((aq J).trans C.p);unfold kA at hF;unfold eg;simp(disch:=omega)only[bk,hF,Int.lt_irrefl,decide_false,seval];have ip:IntKind.wrap .i64 ((n:Int)+1)=((n+1:Nat):Int):=cD J;refine bl @ip ?_;generalize gS:T (T (T I E _) E _) b2 _=H;have D:∀d,d≠b2->d≠E->u H d=u I d:=ab
 have hHp:u H b2=some (.cells (kA room (.slice (some ⟨b,0,some 1⟩) 0 1) dz df (n+1) (n+1)) false):=by rw[<-gS,aR];rfl
 have S:lf g H:=λd o bh=>by
  have bw:¬(d=b2\/d=df\/d=dz\/d=b\/U<=d):=ab
  rw[D d J J,hk d J J J J J,aq J];exact G d o bh
 refine(ade  ((bK.sub S).F  aM J) cy eD).mono ?_;rintro _ bP bQ ⟨P,rfl,hx3,d0,A,f5⟩;have dl:u bP U=_:=(A U J).trans ((D U J J).trans hR);unfold eg;refine bl @dl ?_;refine⟨P,rfl,d0.F ab J J,⟨?_,?_,?_,?_⟩,λd aU aK cc d6 hd=>?_,J⟩
 ·rw[aq J,A b2 J];omega
 ·rw[aq J,A b J,D b lU.2.1 J];exact C.r
 ·rw[aq J,A df J,D df dr.2 J];exact C.o
 ·rw[aq J,A dz J,D dz jF.2.1 J];exact C.m
 ·rw[aq J,A d J,D d aK J,hk d J aK cc d6 hd,aq J]
theorem aky(B:zw h U b2 dz df b n c6 gC gx ha room f):aE Q s 147 [bf b2] h U (dI (.int .i64 0) U h):=by refine amI ?_;have I:=B.py;have K:=B.bB;have D:=B.p;refine(GI B.p).fZ ?_;refine mv @D ?_;refine⟨λh=>absurd h (by decide),λ_=>?_⟩;refine(awI B.r).fZ ?_;have A:∀{o aX},u (T (T h U o) U aX) b2=_:=λ{o aX}=>(aq J).trans ((aq J).trans D);have E:∀{o},u (T h U o) b2=_:=λ{o}=>(aq J).trans D;refine tN @A @E ?_;refine(awJ  ((aq J).trans ((aq J).trans B.r)) ab).fZ ?_;exact⟨rfl,aM,J⟩
end
def xG(own:Nat->Nat)(ei:Nat)(room:Int)(h:ae)(U b2 n:Nat):Prop:=∃dz df rw dw c6 gC,u h b2=some (.cells (kA room rw dz df n n) false)/\L1 h rw dw/\u h df=some (.map [] c6)/\u h dz=some (.map [] gC)/\b2<U/\(df<U/\df≠b2)/\(dz<U/\dz≠b2/\dz≠df)/\(∀b,dw=some b->b<U/\b≠b2/\b≠df/\b≠dz)/\own b2=ei/\own df=ei/\own dz=ei/\∀b,dw=some b->own b=ei
def ut(own:Nat->Nat)(ei:Nat)(room:Int)(g h:ae)(U b2 n:Nat)(p:kH):Prop:=∃dz df b c6 gC gx ha f,zw h U b2 dz df b n c6 gC gx ha room f/\tc g 0 U f p/\f.hM=(n:Int)/\own b2=ei/\own df=ei/\own dz=ei/\own b=ei
theorem lH.frN{h:ae}{ap:Nat}{f:eB}{p:kH}(H:lH h ap ag f p):tc h ap ag f p:=⟨H.is.kind,H.is.eu,H.is.l6,H.is.round,H.is.mm,H.hQ.gv,H.jh.gv,H.is.n8,H.is.n,H.is.oC⟩
section
variable {s:al} {g cd h ac:ae} {U Y b2 n ei gb:Nat} {room:Int} {own dc:Nat->Nat} {p:kH} {f:eB}
theorem xG.send(E:xG own ei room h U b2 n)(tl:ei≠0)(B:1<=room)(bw:n<100000)(bK:nc h U f p)(cy:p.ml.length<10000)(eD:p.nZ.length<10000):
  aE Q s 238 [bf b2,.agg ⟨eg f⟩] h U (λr ac Y=>r = .int .i64 0/\∃dc cd,ut dc ei room cd ac Y b2 n p/\jr dc ac Y cd/\EI ei own dc h ac U Y):=by
 obtain⟨dz,df,rw,dw,c6,gC,dL,b3,d8,fM,gg,zJ,V,aDl,e7,db,gn,mg⟩:=E;refine(aql dL gg B b3 aDl d8 fM zJ V bw bK cy eD).mono ?_;rintro _ ac Y ⟨rfl,A,kG,m,c1,c2,ci,hP,v8,hQ,jh,hc,rq,I⟩;obtain⟨dc,cd,P,D,qo,ky⟩:=wQ (ei:=ei) (own:=own) (h:=h) (ac:=ac) (U:=U) (Y:=Y) (some A) none J ab;have K:dc A=ei:=by
  rcases ci with e|⟨aU,aK⟩
  ·exact(D.d3 A ab).trans ab
  grind
 have lb':A<Y/\A≠b2/\A≠df/\A≠dz/\(A<U\/m<=A):=ab
 exact⟨rfl,dc,cd,⟨dz,df,A,c6,gC,c6+1,gC+1,kG,⟨c1,c2,hP,v8,J,J,J,J,bw⟩,jh.frN.F (P.new I ab) J I,hQ,(D.d3 b2 gg).trans e7,(D.d3 df zJ.1).trans db,(D.d3 dz V.1).trans gn,K⟩,P,D⟩
theorem ut.take(B:ut own ei room g h U b2 n p)(A:jr own h U g)(I:ei≠0)(cy:p.ml.length<10000)(eD:p.nZ.length<10000):
  aE Q s 243 [bf b2,.int .i64 0] h U (λr ac Y=>∃E,r = .tuple ⟨[.agg ⟨eg E⟩,.bool true,.int .i64 0]⟩/\lH ac U Y E p/\∃dc cd,xG dc ei room ac Y b2 (n+1)/\jr dc ac Y cd/\EI ei own dc h ac U Y):=by
 obtain⟨dz,df,b,c6,gC,gx,ha,f,B,bK,aT,e7,V,gn,P⟩:=B;refine(aqm B A.sub (λd bh=>?_) bK.is aT cy eD).mono ?_
 ·rcases bh with rfl|rfl|rfl|rfl|bh
  ·exact A.D7 e7 I
  ·exact A.D7 V I
  ·exact A.D7 gn I
  ·exact A.D7 P I
  ·rw[A d,if_neg J]
 ·rintro _ ac Y ⟨E,rfl,d0,C,hk,K⟩;obtain⟨dc,cd,hG,D,_,_⟩:=wQ (ei:=ei) (own:=own) (h:=h) (ac:=ac)   none none K ab;have dK:=B.py;have dr:=B.ap;have jF:=B.zP;have lU:=B.bB;exact⟨E,rfl,d0,dc,cd,⟨dz,df,_,some b,gx,ha,C.p,.inr ⟨b,_,rfl,rfl,C.r⟩,C.o,C.m,J,J,J,ab,(D.d3 b2 dK).trans e7,(D.d3 df dr.1).trans V,(D.d3 dz jF.1).trans gn,λb6 e=>by cases e;exact(D.d3 b lU.1).trans P⟩,hG,D⟩
theorem xG.len(E:xG own ei room h U b2 n):aE Q s 145 [bf b2] h U (fs (.int .i64 0) U h):=by
 obtain⟨dz,df,rw,D,c6,gC,A,B,_⟩:=E;rcases B with⟨rfl,_⟩|⟨b,w,_,rfl,_⟩
 ·exact GI A
 ·exact GI A
theorem ut.len(B:ut own ei room g h U b2 n p):aE Q s 145 [bf b2] h U (fs (.int .i64 1) U h):=by obtain⟨dz,df,b,c6,gC,gx,ha,f,B,_⟩:=B;exact GI B.p
theorem ut.awK(B:ut own ei room g h U b2 n p):aE Q s 147 [bf b2] h U (dI (.int .i64 0) U h):=by obtain⟨dz,df,b,c6,gC,gx,ha,f,B,_⟩:=B;exact aky B
theorem xG.other(E:xG own ei room h U b2 n)(K:U<=Y)(same:∀d,d<U->own d=ei->u ac d=u h d)(A:∀d,d<U->dc d=own d):xG dc ei room ac Y b2 n:=by
 obtain⟨dz,df,rw,B,c6,gC,dL,I,d8,V,gg,zJ,Cg,aDl,e7,db,gn,mg⟩:=E;refine⟨dz,df,rw,B,c6,gC,ab,?_,ab,ab,J,J,J,ab,ab,ab,ab,ab⟩;rcases I with q|⟨b,w,P,D,hb⟩
 ·exact .inl q
 ·exact .inr ⟨b,w,P,D,ab⟩
theorem ut.other(B:ut own ei room g h U b2 n p)(A:U<=Y)(same:∀d,d<U->own d=ei->u ac d=u h d)(E:∀d,d<U->dc d=own d)(K:aA U g cd):ut dc ei room cd ac Y b2 n p:=by
 obtain⟨dz,df,b,c6,gC,gx,ha,f,B,I,D,e7,db,gn,mg⟩:=B;have V:=B.py;have dr:=B.ap;have jF:=B.zP;have lU:=B.bB;refine⟨dz,df,b,c6,gC,gx,ha,f,B.F (λd bh=>?_) A,I.F (λd _ P=>K d P) J A,D,ab,ab,ab,ab⟩
 grind
end
section
variable {s:al} {g h:ae} {U aJ i j ap av t:Nat} {c:Nat->X} {l:aa eB} {aQ so:aw Nat} {Z:b8} {own:Nat->Nat} {x:gd} {bx bZ cw:Nat} {C:Nat}
theorem amK(W:e2 h U aJ c i j C [] aQ):aE Q s 61 [bf aJ] h U (λr ac Y=>(∃v,r = .tuple ⟨[.agg ⟨eg v⟩,.bool false]⟩)/\aA U h ac/\U<=Y):=by
 refine acX ?_;have D:∀{o},aA U h (T h U o):=aM
 have A:∀{o},e2 (T h U o) (U+1) aJ c i j C [] aQ:=λ{o}=>W.F (λd B=>D d (B.elim (λe=>e ▸ W.lt) λe=>(W.aQ d e).2)) J;unfold RR;refine aG ?_;refine(PI A).fZ ?_;have au:(((([]:aa eB).length:Nat):Int) == 0)=true:=rfl;refine bl @au ?_;exact⟨⟨⟨0,0,0,0,0,0,none,0,0,none,0,0,none,0,0,0,false⟩,rfl⟩,aM,J⟩
def zx(Z:b8)(av:Nat):Prop:=∀t,t<=av->Wb Z t/\∀v y,v<Z.N->Z.e3.x t v=some y->0<=y/\y<=dg
theorem jA.cS{f:eB}(K:f4 Z)(R:jA Z av x i j own g h U aJ c l aQ so bx bZ cw)(A:jr own h U g)(E:nm Z.R Z.C av x m)(I:m.dst Z.C=i*Z.C+j)(V:j<Z.C)(eI:av<900)(D:∀t,t<=av->(Z.f8 t=0↔t<av))(B:zx Z av)(bK:lH h ap U f (p8 Z m))(P:(x.out (i*Z.C+j)).length<800):
  aE Q s 63 [bf aJ,.agg ⟨eg f⟩] h U (EN Z av x m i j own h U aJ bx bZ cw):=by
 have uq:=E;cases m with
 |share dQ mS t =>
  have I:mS=i*Z.C+j:=I;obtain⟨rfl,rfl⟩:=tD  (i:=0)  (aH:=i)  J E.2.1 V;exact R.share K A E eI bK P
 |spread aH mS t =>
  obtain⟨rfl,rfl⟩:=tD      I E.2.1 V;exact R.spread K A E eI (B t E.2.2.2).2 bK P
 |dA aH mS t =>
  have I:aH*Z.C=i*Z.C+j:=I;obtain⟨rfl,rfl⟩:=tD      J K.hF V;obtain⟨_,_,_,aU,_,aK,_⟩:=E;exact R.dA K A uq eI D (B t aK).1 bK P
 |dB aH t =>
  have I:0=i*Z.C+j:=I;obtain⟨rfl,rfl⟩:=tD  (i:=0)  (aH:=i)  J K.hF V;exact R.dB K A E eI D bK P
 |order aH t =>
  have I:aH*Z.C=i*Z.C+j:=I;obtain⟨rfl,rfl⟩:=tD      J K.hF V;exact R.order K A E eI D bK P
end
def sO(p:Nat):aa X:=[bf p]
structure zy where
 aD:aw Addr
 a5:Nat
 c1:Nat
 a2:aw Addr
 bQ:Nat
 c2:Nat
 a3:aw Addr
 bT:Nat
 ci:Nat
def HE(N:Nat)(v:zy):aa X:=[.int .i64 0,(N:X),.slice v.aD v.a5 v.c1,.slice v.a2 v.bQ v.c2,.slice v.a3 v.bT v.ci]
def fR(a:Nat->X)(N R C:Nat)(room:Int)(ws:X)(pm:Nat)(os ar:X):aa X:=[a 0,(N:X),a 2,a 3,a 4,a 5,a 6,(R:X),(C:X),(room:X),a 10,a 11,ws,.map (some pm),os,ar]
def b8.G(Z:b8):Nat:=Z.R*Z.C+1
abbrev i3:=Fin 64 × Fin 64
def pZ(k:i3):X:=.agg ⟨[(k.1.val:X),(k.2.val:X)]⟩
def nS(Z:b8)(k:i3):Nat:=Z.R*Z.C+2+(k.1.val*64+k.2.val)
variable {M:aa (i3 × X × Nat)}
theorem aud{Z:b8}{k A:i3}(h:nS Z k=nS Z A):k=A:=by
 obtain⟨⟨a,E⟩,⟨b,I⟩⟩:=k;obtain⟨⟨P,B⟩,⟨K,D⟩⟩:=A;unfold nS at h
 grind
section
variable {s:al} {g cd h ac:ae} {U Y:Nat} {Z:b8} {own dc:Nat->Nat} {x fK:gd} {room:Int} {av L cT c8 cn pm:Nat} {aJ:Nat->Nat} {cK px:Nat->Nat->aa ct}
structure xH (Z:b8) (room:Int) (L:Nat) (aJ:Nat->Nat) (cn pm:Nat) (own:Nat->Nat) (g h:ae) (U:Nat) (a:Nat->X) (ws os ar:X) (l:aa zy) (fT eV gf:aw Nat):Prop where
 at_:u h cn=some (.cells (fR a Z.N Z.R Z.C room ws pm os ar) false)
 ws:g0 h sO ws ((List.range (Z.R*Z.C)).map aJ) fT
 os:g0 h sO os ((List.range Z.R).map λi=>aJ (i*Z.C)) eV
 ar:fA h (HE Z.N) 5 ar l gf
 b:∀b,gf=some b->b<U/\own b=Z.G/\b≠cn/\b≠pm
 me:∀b,fT=some b->b<U/\own b=Z.G/\b≠cn/\b≠pm/\gf≠some b
 dw:∀b,eV=some b->b<U/\own b=Z.G/\b≠cn/\b≠pm/\gf≠some b
 L:l.length=L
 st:∀(t:Nat) (v:zy),l[t]? = some v->jp g U (.agg ⟨HE Z.N v⟩) 0 Z.N (Z.e3.st t)
 p:cn<U/\own cn=Z.G
 m:pm<U/\own pm=Z.G/\pm≠cn
theorem xH.other{a:Nat->X}{ws os ar:X}{l:aa zy}{fT eV gf:aw Nat}(H:xH Z room L aJ cn pm own g h U a ws os ar l fT eV gf)(I:U<=Y)(same:∀d,d<U->own d=Z.G->d≠pm->u ac d=u h d)(B:∀d,d<U->dc d=own d)(K:aA U g cd):xH Z room L aJ cn pm dc cd ac Y a ws os ar l fT eV gf where
 at_:=(same cn H.p.1 H.p.2 (kI H.m.2.2)).trans H.at_
 ws:=H.ws.F λb e=>by obtain⟨D,E,_,A,_⟩:=H.me b e;grind
 os:=H.os.F λb e=>by obtain⟨D,E,_,A,_⟩:=H.dw b e;grind
 ar:=H.ar.F λb e=>by obtain⟨D,E,_,A⟩:=H.b b e;grind
 b:=λb e=>by obtain⟨D,E,A⟩:=H.b b e;grind
 me:=λb e=>by obtain⟨D,E,A⟩:=H.me b e;grind
 dw:=λb e=>by obtain⟨D,E,A⟩:=H.dw b e;grind
 L:=H.L
 st:=λt v e=>jp.F (H.st t v e) K I
 p:=⟨by have:=H.p.1;omega,(B cn H.p.1).trans H.p.2⟩
 m:=⟨by have:=H.m.1;omega,(B pm H.m.1).trans H.m.2.1,H.m.2.2⟩
theorem xH.wr{a:Nat->X}{ws os ar:X}{l:aa zy}{fT eV gf:aw Nat}(H:xH Z room L aJ cn pm own g h U a ws os ar l fT eV gf):cL h U ws sO ((List.range (Z.R*Z.C)).map aJ):=(H.ws.gv (ap:=0)  λc e=>⟨J,(H.me c e).1⟩).rd
theorem xH.or{a:Nat->X}{ws os ar:X}{l:aa zy}{fT eV gf:aw Nat}(H:xH Z room L aJ cn pm own g h U a ws os ar l fT eV gf):cL h U os sO ((List.range Z.R).map λi=>aJ (i*Z.C)):=(H.os.gv (ap:=0)  λc e=>⟨J,(H.dw c e).1⟩).rd
def xI(Z:b8)(room:Int)(cK:Nat->Nat->aa ct)(cT c8:Nat)(own:Nat->Nat)(g h:ae)(U:Nat)(k:i3)(b2:Nat):Prop :=
 (cK k.1.val k.2.val=[]/\∃n,n<=cT/\xG own (nS Z k) room h U b2 n)\/∃m n,cK k.1.val k.2.val=[m]/\n<=c8/\ut own (nS Z k) room g h U b2 n (p8 Z m)
theorem xI.other{k:i3}{b2 te tf:Nat}(B:xI Z room cK cT c8 own g h U k b2)(D:U<=Y)(same:∀d,d<U->own d=nS Z k->u ac d=u h d)(A:∀d,d<U->dc d=own d)(P:aA U g cd)(e:px k.1.val k.2.val=cK k.1.val k.2.val)(V:cT<=te)(ao:c8<=tf):xI Z room px te tf dc cd ac Y k b2:=by
 rcases B with⟨I,n,K,E⟩|⟨m,n,I,K,E⟩
 ·exact .inl ⟨ab,n,J,E.other D same A⟩
 ·exact .inr ⟨m,n,ab,J,E.other D same A P⟩
structure BX (Z:b8) (room:Int) (pm:Nat) (cK:Nat->Nat->aa ct) (cT c8:Nat) (own:Nat->Nat) (g h:ae) (U:Nat) (M:aa (i3 × X × Nat)) (c:Nat):Prop where
 m:i7 h pm pZ M c
 get:∀k v,iK M k=some v->k.1.val<Z.R*Z.C/\k.2.val<Z.R*Z.C/\∃b2,v = (bf b2)/\xI Z room cK cT c8 own g h U k b2
 has:∀a b,cK a b≠[]->∃k:i3,k.1.val=a/\k.2.val=b/\iK M k≠none
theorem BX.other{M:aa (i3 × X × Nat)}{c te tf:Nat}(B:BX Z room pm cK cT c8 own g h U M c)(qb:pm<U/\own pm=Z.G)(D:U<=Y)(same:∀d,d<U->Z.G<=own d->u ac d=u h d)(A:∀d,d<U->dc d=own d)(gq:aA U g cd)(I:cT<=te)(ao:c8<=tf):BX Z room pm cK te tf dc cd ac Y M c where
 m:=B.m.F ab
 get:=λk v e=>by obtain⟨K,aK,b2,E,d6⟩:=B.get k v e;refine⟨K,aK,b2,E,d6.other D (λd V P=>same d V ?_) A gq rfl I ao⟩;unfold nS at P;unfold b8.G;omega
 has:=B.has
structure iC (Z:b8) (room:Int) (av:Nat) (aJ:Nat->Nat) (cn pm a0:Nat) (au:ae) (x:gd) (cK:Nat->Nat->aa ct) (cT c8 L:Nat) (own:Nat->Nat) (g h:ae) (U:Nat):Prop where
 o1:jr own h U g
 dy:∀i j,i<Z.R->j<Z.C->∃c l aQ so bx bZ cw,jA Z av x i j own g h U (aJ (i*Z.C+j)) c l aQ so bx bZ cw
 hE:∃a ws os ar l fT eV gf,xH Z room L aJ cn pm own g h U a ws os ar l fT eV gf
 qt:∃M c,BX Z room pm cK cT c8 own g h U M c
 gD:a0<=U
 jX:∀d,d<a0->own d=0/\u h d=u au d
theorem iC.still{a0:Nat}{au:ae}(H:iC Z room av aJ cn pm a0 au x cK cT c8 L own g h U)(I:aA U h ac)(A:U<=Y):∃dc cd,iC Z room av aJ cn pm a0 au x cK cT c8 L dc cd ac Y/\(∀d,d<U->dc d=own d)/\aA U g cd/\∀d,U<=d->dc d=0:=by
 obtain⟨dc,cd,P,D,_,c0⟩:=wQ (ei:=Z.G)      none none A λd h1 _=>I d h1;have K:=H.o1.F P D (Nat.succ_ne_zero _);obtain⟨a,ws,os,ar,l,fT,eV,gf,G⟩:=H.hE;obtain⟨M,c,B⟩:=H.qt;refine⟨dc,cd,⟨P,λi j ag V=>?_,⟨a,ws,os,ar,l,fT,eV,gf,G.other A (λd E _ _=>I d E) D.d3 K⟩,⟨M,c,B.other ⟨G.m.1,G.m.2.1⟩ A (λd E _=>I d E) D.d3 K J J⟩,iv H.gD A,λd bh=>?_⟩,D.d3,K,ab⟩
 ·obtain⟨c,l,aQ,so,bx,bZ,cw,R⟩:=H.dy i j ag V;have:=pQ ag V;exact⟨c,l,aQ,so,bx,bZ,cw,R.other A (λd E _=>I d E) D.d3 (show i*Z.C+j+1≠Z.G by unfold b8.G;omega) K rfl rfl ab ab ab⟩
 ·have:=H.gD;exact⟨(D.d3 d J).trans (H.jX d bh).1,(I d J).trans (H.jX d bh).2⟩
theorem iC.work{a0 i j:Nat}{au:ae}(H:iC Z room av aJ cn pm a0 au x cK cT c8 L own g h U)(ag:i<Z.R)(b5:j<Z.C)(hG:jr dc ac Y cd)(I:U<=Y)(same:∀d,d<U->own d≠i*Z.C+j+1->u ac d=u h d)(E:∀d,d<U->dc d=own d)(P:aA U g cd)
  (bO:∃c l aQ so bx bZ cw,jA Z av fK i j dc cd ac Y (aJ (i*Z.C+j)) c l aQ so bx bZ cw)
  (fI:∀A D,A*Z.C+D≠i*Z.C+j->fK.q A D=x.q A D/\fK.out (A*Z.C+D)=x.out (A*Z.C+D)/\(A=0->fK.P D=x.P D/\fK.e9 D=x.e9 D)/\(D=0->fK.a A=x.a A/\fK.w A=x.w A/\fK.dU A=x.dU A)/\(A=0->D=0->fK.V=x.V/\fK.fQ=x.fQ)):
  iC Z room av aJ cn pm a0 au fK cK cT c8 L dc cd ac Y:=by
 obtain⟨a,ws,os,ar,l,fT,eV,gf,G⟩:=H.hE;obtain⟨M,c,B⟩:=H.qt;have cb:=pQ ag b5;have gS:Z.G=Z.R*Z.C+1:=rfl;refine⟨hG,λA D V K=>?_,⟨a,ws,os,ar,l,fT,eV,gf,G.other I (λd eE f0 _=>same d eE J) E P⟩,⟨M,c,B.other ⟨G.m.1,G.m.2.1⟩ I (λd eE f0=>same d eE J) E P J J⟩,iv H.gD I,λd bh=>?_⟩
 ·by_cases e:A*Z.C+D=i*Z.C+j
  ·obtain⟨rfl,rfl⟩:=tD e K b5;exact bO
  ·obtain⟨c,l,aQ,so,bx,bZ,cw,R⟩:=H.dy A D V K;obtain⟨aU,aK,cc,d6,hd⟩:=fI A D e;exact⟨c,l,aQ,so,bx,bZ,cw,R.other I same E J P aU aK cc d6 hd⟩
 ·have:=H.gD;have h1:=H.jX d bh;exact⟨(E d J).trans h1.1,(same d J J).trans h1.2⟩
theorem iC.ah0{a0 b2 c:Nat}{au:ae}{k:i3}(H:iC Z room av aJ cn pm a0 au x cK cT c8 L own g h U)(B:BX Z room pm cK cT c8 own g h U M c)(aI:iK M k=some (bf b2))(V:jr dc ac Y cd)(D:EI (nS Z k) own dc h ac U Y)(dV:xI Z room px te tf dc cd ac Y k b2)(b0:∀a b,¬(a=k.1.val/\b=k.2.val)->px a b=cK a b)(h1:cT<=te)(ao:c8<=tf):iC Z room av aJ cn pm a0 au x px te tf L dc cd ac Y:=by
 obtain⟨a,ws,os,ar,l,fT,eV,gf,G⟩:=H.hE;have gS:Z.G=Z.R*Z.C+1:=rfl;have tl:Z.G<nS Z k:=by unfold nS;omega
 have E:=H.o1.F V D J;obtain⟨dl,e1,_⟩:=B.get k _ aI;refine⟨V,λi j ag b5=>?_,⟨a,ws,os,ar,l,fT,eV,gf,G.other D.le (λd I P _=>D.same d I J) D.d3 E⟩,⟨M,c,B.m.F (D.same pm G.m.1 (by rw[G.m.2.1];omega)),λdm v e=>?_,λa b e=>?_⟩,iv H.gD D.le,λd bh=>?_⟩
 ·obtain⟨c,l,aQ,so,bx,bZ,cw,R⟩:=H.dy i j ag b5;have:=pQ ag b5;exact⟨c,l,aQ,so,bx,bZ,cw,R.other D.le D.same D.d3 J E rfl rfl ab ab ab⟩
 ·by_cases cu:dm=k
  ·subst cu;rw[aI]at e;cases e;exact⟨dl,e1,b2,rfl,dV⟩
  ·obtain⟨eH,hu,A,jg,n5⟩:=B.get dm v e;exact⟨eH,hu,A,jg,n5.other D.le (λd I P=>D.same d I (by rw[P];exact λe=>cu (aud e))) D.d3 E ab h1 ao⟩
 ·by_cases cu:a=k.1.val/\b=k.2.val
  ·grind
  ·rw[b0 a b cu]at e;exact B.has a b e
 ·have:=H.gD;have K:=H.jX d bh;exact⟨(D.d3 d J).trans K.1,(D.same d J J).trans K.2⟩
theorem iC.mono{a0:Nat}{au:ae}(H:iC Z room av aJ cn pm a0 au x cK cT c8 L own g h U)(A:cT<=te)(D:c8<=tf):iC Z room av aJ cn pm a0 au x cK te tf L own g h U:=by obtain⟨a,ws,os,ar,l,fT,eV,gf,G⟩:=H.hE;obtain⟨M,c,B⟩:=H.qt;exact{ H with qt:=⟨M,c,B.other ⟨G.m.1,G.m.2.1⟩ J ab J aM A D⟩ }
end
theorem ah1:Q.underlying 198=some (.array 2 3):=by kernel_rfl
theorem aBb:Q.keyTypeAt 8 198=true:=by kernel_rfl
theorem ah2:Q.cellsOf 198=2:=by kernel_rfl
theorem KT:w9 Q 198 pZ:=by
 have fin:∀a:Fin 64,(Lit.int .i64 (a.val:Int)).wf=true:=λa=>by simp[Lit.wf,IntKind.min,IntKind.max,IntKind.bits,IntKind.signed];omega
 have A:∀a b:Fin 64,Q.keyLits 8 198 [.int .i64 (a.val:Int),.int .i64 (b.val:Int)]=some [.int .i64 (a.val:Int),.int .i64 (b.val:Int)]:=λa b=>by
  have B:∀m:Fin 64,Q.keyLits 7 3 [.int .i64 (m.val:Int)]=some [.int .i64 (m.val:Int)]:=λm=>by unfold Program.keyLits;simp only[zF,fin m,and_self,if_true]
  unfold Program.keyLits;simp only[ah1,ah2,ci,nC,Fr,Nat.reduceAdd,if_true];rw[show List.range 2=[0,1]from rfl];simp only[CE,List.mapM_nil,lY,uR,oe,NN,Fm,sz,B a,B b];rfl
 have e:∀a b:i3,k7 Q 198 (pZ a) (pZ b)=some (decide (a=b)):=λa b=>by
  show sX Q 198 (pZ a) (pZ b)=_;have D:∀a:i3,(pZ a).formed Q 198=true:=λa=>by simp[pZ,Value.formed,ah1,ah2]
  unfold sX;rw[aBb,D,D];show(bif true&&(true&&true&&true&&true)then L6 (Q.keyLits 8 198 [.int .i64 (a.1.val:Int),.int .i64 (a.2.val:Int)]) (Q.keyLits 8 198 [.int .i64 (b.1.val:Int),.int .i64 (b.2.val:Int)])else none)=_;rw[A,A];show some ((mC .i64 .i64&&fk (a.1.val:Int) (b.1.val:Int))&&((mC .i64 .i64&&fk (a.2.val:Int) (b.2.val:Int))&&true))=_;rw[wy,k4,k4]
  congr 1
  grind
 refine⟨λk=>?_,e,λk=>?_⟩
 ·unfold yA;grind
 ·unfold pZ;simp
theorem AT:wF Q 110=true:=by kernel_rfl
theorem amL{t:TypeId}(A:wF Q t=true):bin Q .eql t (.pointer none) (.pointer none) = .ok (.bool true):=by show R.of "compared" (pd Q t (.pointer none) (.pointer none)) _=_;unfold pd;simp[A,Hn,ot]
theorem awL{r:Nat}:ov (.map (some r)) (.map (some r))=true:=uP r
section
variable {s:al} {g h:ae} {U:Nat} {Z:b8} {own:Nat->Nat} {x:gd} {room:Int} {av L cT c8 cn pm:Nat} {aJ:Nat->Nat} {cK:Nat->Nat->aa ct} {a:Nat->X} {ws os ar:X} {l:aa zy} {fT eV gf:aw Nat} {a0:Nat} {au:ae}
theorem wR{f:Nat->Nat}{n:Nat}:((List.range n).map f).length=n:=ab
theorem KU(G:xH Z room L aJ cn pm own g h U a ws os ar l fT eV gf){k:Nat}(E:k<Z.R*Z.C):aE Q s 236 [bf cn,(k:X)] h U (fs (.bool true) U h):=by
 refine awy ?_;have A:=G.at_;obtain⟨B,D,rfl,_⟩:=G.wr;rw[wR]at A;unfold agH;unfold fR at A;simp(disch:=omega)only[bk,Of AT,A,seval];refine⟨λ_=>⟨?_,rfl,rfl⟩,λe=>absurd e J⟩
 grind
def aBc(Z:b8)(room:Int)(av:Nat)(aJ:Nat->Nat)(cn pm a0:Nat)(au:ae)(x:gd)(cK:Nat->Nat->aa ct)(cT c8 L:Nat)(k:i3)(g h:ae)(U:Nat):bN:=λr ac Y =>
 ∃b2 dc cd,r = (bf b2)/\iC Z room av aJ cn pm a0 au x cK cT c8 L dc cd ac Y/\(∃M c,BX Z room pm cK cT c8 dc cd ac Y M c/\iK M k=some r)/\(∀d,d<U->d≠pm->u ac d=u h d)/\U<=Y/\aA U g cd
theorem adg(H:iC Z room av aJ cn pm a0 au x cK cT c8 L own g h U)(ky:a0<=pm)(k:i3)(dR:k.1.val<Z.R*Z.C)(aW:k.2.val<Z.R*Z.C)(xr:1<=room)(oI:room<=64):
  aE Q s 237 [bf cn,(k.1.val:X),(k.2.val:X)] h U (aBc Z room av aJ cn pm a0 au x cK cT c8 L k g h U):=by
 refine awz ?_;obtain⟨a,ws,os,ar,l,fT,eV,gf,G⟩:=H.hE;obtain⟨M,c,B⟩:=H.qt;have aY:=G.at_;have a6:=G.p;have hm:=G.m;refine(KU G dR).fZ ?_;refine aG ?_;refine(KU G aW).fZ ?_;refine aG ?_;unfold QX;unfold fR at aY;have BY:∀{o I},u (T (T h U o) U I) cn=_:=λ{o I}=>(aq J).trans ((aq J).trans aY);have E:=λo I=>xa KT (B.m.F (ac:=T (T h U o) U I) ab) (k:=k) (z:=.pointer none) (ok:=false);rw[show pZ k = .agg ⟨[(k.1.val:X),(k.2.val:X)]⟩from rfl]at E
 replace E:=λo I=>(E o I).trans (show _=R.ok ((iK M k).getD (.pointer none))from rfl)
 refine cN @BY @E ?_;cases aI:iK M k with
 |some v =>
  obtain⟨_,_,b2,rfl,_⟩:=B.get k v aI;rw[aI]at E
  replace E:=λo I=>(E o I).trans (show _=R.ok (Value.pointer (some ⟨b2,0,none⟩))from rfl)
  rw[show(some (Value.pointer (some ⟨b2,0,none⟩))).getD (.pointer none) = (bf b2)from rfl];simp(disch:=omega)only[bk,pL DK,BY,E,seval];generalize fu:T (T h U _) U _=h1;have cM:aA U h h1:=by rw[<-fu];exact aM
  obtain⟨dc,cd,hK,D,V,_⟩:=H.still cM (uQ U);exact⟨b2,dc,cd,rfl,hK,⟨M,c,B.other J J ab D V J J,aI⟩,ab,J,V⟩
 |none =>
  rw[show(none:aw X).getD (.pointer none) = .pointer none from rfl];simp(disch:=omega)only[bk,amL DK,BY,seval];generalize fu:T (T h U _) U _=h1;have cM:aA U h h1:=by rw[<-fu];exact aM
  have d7:u h1 U=some (.cells [(k.1.val:X),(k.2.val:X)] false):=ab
  have q5:u h1 cn=_:=(cM cn a6.1).trans aY;refine(at9 xr oI).mono ?_;rintro _ ao bQ ⟨rfl,dL,b3,d8,er,rfl⟩;have jy:u ao cn=_:=(er cn J).trans q5;have hN2:=(er U J).trans d7;have q7:i7 ao pm pZ M c:=B.m.F ((er pm J).trans (cM pm hm.1));obtain⟨fL,fY⟩:=Hv (x:=.pointer (some ⟨U+1+2,0,none⟩)) KT q7 aI;rw[show pZ k = .agg ⟨[(k.1.val:X),(k.2.val:X)]⟩from rfl]at fL;simp(disch:=omega)only[bk,q5,jy,d7,hN2,gc,awL,fL,seval];generalize zz:T ao pm _=aT at fY;have gn:∀d,d≠pm->u aT d=u ao d:=ab
  have aDm:=fY aT ab;have s2:u aT cn=_:=(gn cn (kI hm.2.2)).trans jy;have M8:=(gn U J).trans hN2;have hv3:iK (M++[(k,Value.pointer (some ⟨U+1+2,0,none⟩),c)]) k=some (.pointer (some ⟨U+1+2,0,none⟩)):=by rw[Pg,aI,yd,if_pos rfl];rfl
  have cc:=xa KT aDm (k:=k) (z:=.pointer none) (ok:=false);rw[hv3,show pZ k = .agg ⟨[(k.1.val:X),(k.2.val:X)]⟩from rfl]at cc
  replace cc:=cc.trans (show _=R.ok (Value.pointer (some ⟨U+1+2,0,none⟩))from rfl)
  refine hV @s2 @M8 @cc ?_;have xo:cK k.1.val k.2.val=[]:=wj λeh=>by
   obtain⟨dm,dl,e1,hb⟩:=B.has _ _ eh
   grind
  have A:∀d,d<U->d≠pm->u aT d=u h d:=λd eE K=>(gn d K).trans ((er d J).trans (cM d eE))
  let dc:Nat->Nat:=λd=>if d<U then own d else if U+1<=d/\d<U+4 then nS Z k else 0
  obtain⟨cd,hG⟩:=Du dc aT (U+1+3);have D:∀d,d<U->dc d=own d:=ab
  have new:∀d,U+1<=d->d<U+4->dc d=nS Z k:=ab
  have V:aA U g cd:=λd bh=>by
   rw[H.o1 d,hG d,D d bh]
   by_cases e:own d=0
   ·rw[if_pos ⟨J,e⟩,if_pos ⟨bh,e⟩];exact A d bh λaK=>by rw[aK,hm.2.1]at e;cases e
   grind
  have gS:Z.G=Z.R*Z.C+1:=rfl;have aDn:BX Z room pm cK cT c8 dc cd aT (U+1+3) (M++[(k,Value.pointer (some ⟨U+1+2,0,none⟩),c)]) (c+1):=by
   refine⟨aDm,λdm v e=>?_,λa b e=>?_⟩
   ·rw[Pg]at e;cases P:iK M dm with
    |some dX =>
     rw[P]at e;cases e;obtain⟨dl,e1,b2,hb,mR⟩:=B.get dm v P;refine⟨dl,e1,b2,hb,mR.other J (λd eE K=>A d eE λe=>?_) D V rfl J J⟩;rw[e,hm.2.1]at K;unfold nS at K;omega
    |none =>
     rw[P,yd]at e
     by_cases uc:dm=k
     ·subst uc;rw[if_pos rfl]at e;cases e;refine⟨dR,aW,_,rfl,.inl ⟨xo,0,J,U+1,U+1+1,_,none,0,0,ab,.inl ⟨rfl,rfl⟩,(gn _ J).trans d8,(gn _ J).trans b3,J,⟨J,J⟩,⟨J,J,J⟩,(nofun),new _ J J,new _ J J,new _ J J,nofun⟩⟩
     ·rw[if_neg uc]at e;cases e
   ·obtain⟨dm,dl,e1,hb⟩:=B.has a b e;refine⟨dm,dl,e1,λaK=>hb ?_⟩;rw[Pg]at aK
    grind
  refine⟨J,U+1+2,dc,cd,rfl,⟨hG,λi j ag b5=>?_,⟨a,ws,os,ar,l,fT,eV,gf,G.other J (λd eE _ K=>A d eE K) D V⟩,⟨_,_,aDn⟩,J,λd bh=>?_⟩,⟨_,_,aDn,hv3⟩,A,J,V⟩
  ·obtain⟨c,l,aQ,so,bx,bZ,cw,R⟩:=H.dy i j ag b5;have:=pQ ag b5;exact⟨c,l,aQ,so,bx,bZ,cw,R.other (ei:=Z.G) J (λd eE K=>A d eE λe=>K ab) D J V rfl rfl (λ_=>⟨rfl,rfl⟩) (λ_=>⟨rfl,rfl,rfl⟩) λ_ _=>⟨rfl,rfl⟩⟩
  ·exact⟨(D d J).trans (H.jX d bh).1,(A d J J).trans (H.jX d bh).2⟩
end
section
variable {s:al} {g h:ae} {U:Nat} {Z:b8} {own:Nat->Nat} {x:gd} {room:Int} {av L cT c8 cn pm:Nat} {aJ:Nat->Nat} {cK:Nat->Nat->aa ct} {a0:Nat} {au:ae}
theorem Bf{f:Nat->Nat}{n i:Nat}(H:cL g U v sO ((List.range n).map f))(S:lf g h)(ag:i<n):∃b A cap cs B,v = .slice (some ⟨b,0,A⟩) n cap/\u h b=some (.cells cs B)/\cs[i]? = some (.pointer (some ⟨f i,0,none⟩))/\b<U:=by
 have e:((List.range n).map f)[i]? = some (f i):=ab
 obtain⟨_,b,A,B,cap,E,D,I⟩:=H.at e;rw[wR]at D;have:=CM (enc:=sO)  (λ_=>rfl) e (J:0<1);rw[z9,og]at this;exact⟨b,A,cap,_,B,D,S _ _ I,this,E⟩
theorem aue(Z:b8)(m:ct):(p8 Z m).l6=(m.dst Z.C:Int):=by
 cases m <;> rfl
theorem aaV(K:f4 Z)(m:ct):(p8 Z m).ml.length<10000/\(p8 Z m).nZ.length<10000:=by
 have e:∀n (x:Nat->aw Int),n<=60->(bj n x).length<10000:=λn x B=>by have:=ms n x;omega
 have z:([]:aa (Nat × Int)).length<10000:=by decide
 have A:=K.n60;cases m with
 |share i j t=>have:=DJ K (i+1) j;exact⟨e _ _ J,z⟩
 |spread i j t=>have:=DI K j;exact⟨e _ _ (by unfold b8.W;omega),z⟩
 |dA i j t=>have:=yH K i;exact⟨z,e _ _ (by unfold b8.H;omega)⟩
 |dB i t=>exact⟨z,z⟩
 |order i t=>exact⟨z,z⟩
theorem L2(K:f4 Z):Z.R*Z.C<=64:=sA K.oa K.mV
theorem La{C k:Nat}(h:k<R*C):∃i j,i<R/\j<C/\k=i*C+j:=by
 have A:0<C:=ab
 refine⟨k / C,k % C,by rw[NM A];exact h,Aa _ A,?_⟩;have:=Nat.div_add_mod k C
 grind
def EQ(Z:b8)(room:Int)(av:Nat)(aJ:Nat->Nat)(cn pm a0:Nat)(au:ae)(x:gd)(cK:Nat->Nat->aa ct)(g:ae)(U:Nat)(cT c8 L:Nat)(ac:ae)(Y:Nat):Prop:=∃dc cd,iC Z room av aJ cn pm a0 au x cK cT c8 L dc cd ac Y/\aA U g cd/\U<=Y
theorem amM(K:f4 Z)(H:iC Z room av aJ cn pm a0 au x cK cT c8 L own g h U){k:Nat}(B:k<Z.R*Z.C)(hm:x.out k=[]):
  aE Q s 143 [bf cn,(k:X)] h U (λr ac Y=>r = .bool false/\EQ Z room av aJ cn pm a0 au x cK g U cT c8 L ac Y):=by
 refine adb ?_;obtain⟨i,j,ag,V,rfl⟩:=La B;obtain⟨a,ws,os,ar,gR,fT,eV,gf,G⟩:=H.hE;obtain⟨c,l,aQ,so,bx,bZ,cw,R⟩:=H.dy i j ag V;have bo:l=[]:=by
  have:=R.f;rw[hm]at this;cases l with
  |nil=>rfl
  |cons=>exact this.elim
 subst bo;refine(KU G B).fZ ?_;obtain⟨b,aB,cap,cs,bG,rfl,dl,P,hb⟩:=Bf G.wr (λ_ _ e=>e) B;have D:=G.at_;unfold fR at D;refine hV @D @dl @P ?_;refine(amK R.W).mono ?_;rintro _ h1 a5 ⟨⟨v,rfl⟩,E,A⟩;unfold eg;refine aG ?_;obtain⟨dc,cd,I,_,gq,_⟩:=H.still ((E.set A).set A) (J:U<=a5+1);exact⟨dc,cd,I,gq,J⟩
theorem aqn(K:f4 Z)(H:iC Z room av aJ cn pm a0 au x cK cT c8 L own g h U)(ky:a0<=pm)(V:1<=room)(oI:room<=64){k:Nat}(hk:k<Z.R*Z.C){r:aa ct}(hm:x.out k=m::r)(bh:m.dst Z.C<Z.R*Z.C)(BU:cK k (m.dst Z.C)=[])(bO:cT<=c8)(hw2:c8<100000):
  aE Q s 143 [bf cn,(k:X)] h U (λn2 ac Y=>n2 = .bool true/\EQ Z room av aJ cn pm a0 au { x with out:=up x.out k r } (uj cK k (m.dst Z.C) [m]) g U cT c8 L ac Y):=by
 refine adb ?_;obtain⟨cy,eD⟩:=aaV K m;obtain⟨i,j,ag,b5,rfl⟩:=La hk;obtain⟨a,ws,os,ar,gR,fT,eV,gf,G⟩:=H.hE;obtain⟨c,l,aQ,so,bx,bZ,cw,R⟩:=H.dy i j ag b5;have hn:=R.f;rw[hm]at hn;obtain⟨f,b1,rfl⟩:∃f b1,l=f::b1:=by
  cases l with
  |nil=>exact hn.elim
  |cons f b1=>grind
 have hF1:tc g 0 U f (p8 Z m):=hn.1;have qb:=G.m;refine(KU G hk).fZ ?_;obtain⟨b,aB,cap,cs,bG,rfl,dl,e1,hb⟩:=Bf G.wr (λ_ _ e=>e) hk;have aY:=G.at_;unfold fR at aY;refine hV @aY @dl @e1 ?_;refine(ap5 R.W rfl (hF1.is.sub H.o1.sub) cy eD).mono ?_;rintro _ h1 a5 ⟨kG,rfl,d0,cM,fi⟩;have eto:kG.l6=(m.dst Z.C:Int):=d0.is.l6.trans (aue Z m);unfold eg;refine aG ?_;generalize l7:T (T h1 a5 _) a5 _=ao;have I:u ao a5=some (.cells (eg kG) false):=by rw[<-l7,aR];rfl
 have er:aA U h ao:=aM
 obtain⟨Tk,g2,gM,_,M9,_⟩:=H.still er (J:U<=a5+1);have Vk:=L2 K;have A:=adg (s:=true) gM ky (⟨i*Z.C+j,J⟩,⟨m.dst Z.C,J⟩) hk bh V oI;dsimp only at A;rw[<-eto]at A;refine A.mono ?_;rintro _ aT bT ⟨b2,HF,dp,rfl,jj,⟨M,aER,B,aI⟩,gn,ga,Na⟩;have M8:=(gn a5 J J).trans I;unfold eg at I M8;refine⟨ga,?_⟩;simp(disch:=omega)only[bk,I,M8,gc,seval];obtain⟨_,_,pb',e,S⟩:=B.get _ _ aI;cases e;rcases S with⟨_,n,bw,E⟩|⟨bD,n,e,_⟩
 ·have Vl:lH aT U bT kG (p8 Z m):=d0.F ab J J;refine(E.send (by unfold nS;omega) V J Vl.is cy eD).mono ?_;rintro _ a9 dP ⟨rfl,P,dZ,eA,xV,NB⟩;refine⟨NB.le,?_⟩;have ts:=jj.ah0  B aI xV NB (.inr ⟨m,n,qR _ _ _ _,J,eA⟩) (λa b e=>qS e) (cC _) (cC _);obtain⟨hP,lU,bo4,so4,rs4,rc4,rv4,Jf⟩:=ts.dy i j ag b5;obtain⟨NA,aDk,rfl,_,D⟩:=Jf.gone xV hm;refine aG ?_;refine D.mono ?_;rintro _ bY _ ⟨rfl,rfl,v8,aES,Cp,v5⟩;have rn:=NB.le;have IJ:=jj.o1.F xV NB (by unfold nS;omega);exact⟨P,dZ,ts.work ag b5 Cp J v5 J aM ⟨_,_,_,_,_,_,_,aES⟩ (λaH mS eh=>⟨rfl,hf eh,ab,ab,ab⟩),aM,J⟩
 ·have e:cK (i*Z.C+j) (m.dst Z.C)=[bD]:=e;rw[BU]at e;cases e
end
theorem aqo{s:al}{n:Nat}{h:ae}{U:Nat}(B:n<=63)(A:cL h U v j8 (eZ n q)):aE Q s 119 [v] h U (age (f6 (en n q)) U h):=by
 by_cases au:n=0
 ·subst au;refine aes ?_;obtain⟨a,cap,rfl,I⟩:=id A;refine Sm ?_;unfold each;refine aG ?_;refine Z1 ?_;refine Yi mh RE λE D K=>?_;refine(acu (ki:=.slice a (eZ 0 q).length cap) ⟨a,cap,rfl,λh=>absurd rfl h⟩ ab).mono ?_;rintro _ _ _ ⟨rfl,rfl⟩;exact⟨.slice none 0 0,D,λx=>⟨none,.nil,ab,aM,J⟩⟩
 ·rw[show eZ n q=[mk n q]from if_neg au]at A;exact asB B A
theorem PN{n m:Nat}{f:Nat->Int}:cA n f++cA m (λk=>f (n+k))=cA (n+m) f:=by unfold cA;rw[List.range_add,iU,pJ];rfl
theorem awM{n m:Nat}:en n q++(en m λk=>q (n+k)).map (n+·)=en (n+m) q:=by unfold en;rw[List.range_add,sv,List.filter_map];rfl
theorem ah3{az:Type}{A:az->aa X}{h:ae}{U:Nat}{l:aa az}{aQ:aw Nat}(w:g0 h A v l aQ)(B:∀c,aQ=some c->c<U):cL h U v A l:=(w.gv (ap:=0)  ab).rd
section
variable {s:al} {g h:ae} {U:Nat} {Z:b8} {own:Nat->Nat} {x:gd} {room:Int} {av L cT c8 cn pm:Nat} {aJ:Nat->Nat} {cK:Nat->Nat->aa ct} {a0:Nat} {au:ae}
def aDo:fU:=.cells [.int .i64 0,.int .i64 0,.slice none 0 0,.slice none 0 0,.slice none 0 0] false
def GaJ(Z:b8)(S:jq)(U:Nat)(h:ae)(fD:X)(m:Nat)(aF:aa X)(ac:ae)(Y:Nat):Prop :=
 ∃i o dq fw wg dw jG,m=Z.R-i/\i<=Z.R/\aF=[bf U,.pointer (some ⟨U+1,0,none⟩),o,fD,(Z.R:X),(i:X)]/\u ac (U+1)=some (.cells [.int .i64 0,(Z.N:X),dq,fw,.slice none 0 0] false)/\u ac U=some aDo /\
  g0 ac c4 dq (cA (Z.bB i) S.A) wg/\g0 ac c4 fw (cA (Z.bB i) S.B) dw/\g0 ac c4 o (f6 (en (Z.bB i) S.q)) jG/\(∀b,wg=some b->U+1<b/\b<Y)/\(∀b,dw=some b->U+1<b/\b<Y)/\(∀b,jG=some b->U+1<b/\b<Y) /\
  (∀b,wg=some b->dw≠some b/\jG≠some b)/\(∀b,dw=some b->jG≠some b)/\aA U h ac/\U+1<Y
def GaI(bB:Nat)(gR:aa Nat)(q:aa Nat)(aC aD a3 aZ bA bp ba bv:X)(aQ:aw Nat)(U:Nat)(h:ae)(m:Nat)(aF:aa X)(ac:ae)(Y:Nat):Prop :=
 ∃k o jG,m=q.length-k/\k<=q.length/\aF=[aC,aD,o,a3,aZ,bA,bp,ba,bv,(k:X)]/\g0 ac c4 o (f6 (gR++(q.take k).map (bB+·))) jG/\(jG=aQ\/∃b,jG=some b/\U<=b/\b<Y)/\(∀d,d<U->aQ≠some d->u ac d=u h d)/\U<=Y
theorem ay7{bB:Nat}{E q:aa Nat}{o ti:X}{aQ eV:aw Nat}{A:Nat}{ny me oW:X}{ag:Int}{K:aP}(bo:bB<=60)(c3:∀x∈q,x<=60)(fO:E.length+q.length<=1000)(aET:g0 h c4 o (f6 E) aQ)(aDp:g0 h c4 ti (f6 q) eV)(a6:u h A=some (.cells [(bB:X),(ag:X),ny,me,oW] false))(H9:A<U)(V:∀b,aQ=some b->b<U/\b≠A/\eV≠some b)(Eh:∀b,eV=some b->b<U)(h8:∀aX jG ac Y,g0 ac c4 aX (f6 (E++q.map (bB+·))) jG->(jG=aQ\/∃b,jG=some b/\U<=b/\b<Y)->(∀d,d<U->aQ≠some d->u ac d=u h d)->U<=Y->K [aC,aD,aX,bf A,aZ,bA,bp,ti,(q.length:X),(q.length:X)] ac Y):
  bE (bU Q s CI 234 1) [aC,aD,o,bf A,aZ,bA,bp,ti,(q.length:X),.int .i64 0] h U [(2,K)] (λ_ _ _=>False):=by
 obtain⟨eN,cl,rfl⟩:=aDp.form;rw[show(f6 q).length=q.length from gX ..]at *
 refine bE.mk (GaI bB E q aC aD (bf A) aZ bA bp (.slice eN q.length cl) (q.length:X) aQ U h) q.length ⟨0,o,aQ,J,J,rfl,by rw[sz,z7,hz];exact aET,ab,ab,J⟩ ?_;rintro _ _ I a5 ⟨k,e7,jG,rfl,hk,rfl,B,hoo,bK,dv⟩;rw[aiQ];unfold WM;have zc:u I A=_:=(bK A H9 λe=>(V A e).2.1 rfl).trans a6
 by_cases cb:k<q.length
 ·have bd:q[k]? = some q[k]:=ab
  have aCG:=c3 q[k] ab;have D:(f6 q)[k]? = some ((q[k]:Nat):Int):=by unfold f6;grind
  have Hq1:g0 I c4 (.slice eN q.length cl) (f6 q) eV:=aDp.F ab;obtain⟨_,b,aB,bG,cap,aW,e,aY⟩:=(ah3  Hq1 Eh).at D;rw[show(f6 q).length=q.length from gX ..]at e;cases e;rw[iF]at aY;have a1:=ix D;have bO:IntKind.wrap .i64 ((bB:Int)+((q[k]:Nat):Int))=((bB+q[k]:Nat):Int):=by rw[<-wm];exact ie _ J
  refine ls @aY @a1 @zc @bO ?_;refine⟨λ_=>?_,λh=>absurd cb h⟩;refine wG (B.F  ab).hE (aR _ _ _) (by unfold f6;grind) λao P nL=>?_;have xJ:IntKind.wrap .i64 ((k:Int)+1)=((k+1:Nat):Int):=cD J;refine bl @xJ ?_;refine⟨_,J,k+1,_,some (a5+1),rfl,J,rfl,?_,ab,λd I ao=>?_,J⟩
  ·refine .inr ⟨a5+1,rfl,?_,?_⟩
   ·congr 1
    all_goals (unfold f6;grind)
   ·rw[iF,P]
    congr 2
    unfold f6;rw[List.take_succ,bd,iU,iU,iU,iU,kl];rfl
  grind
 ·have:k=q.length:=J
  subst this;refine aG ?_;refine⟨λh=>absurd h J,λ_=>?_⟩;rw[ic]at B;exact h8 _ _ _ _ B hoo bK dv
end
section
variable {s:al} {g h:ae} {U:Nat} {Z:b8} {own:Nat->Nat} {x:gd} {room:Int} {av L cT c8 cn pm:Nat} {aJ:Nat->Nat} {cK:Nat->Nat->aa ct} {a0:Nat} {au:ae}
theorem ah4(K:f4 Z):Z.bB Z.R=Z.N:=by unfold b8.bB da;rw[Nat.min_self];exact NJ _ K.lW
theorem Tl:Z.bB 0=0:=by unfold b8.bB da;simp
theorem agO{n:Nat}:∀x∈en n q,x<n:=λx A=>CF.1 (od.1 A).1
theorem aiS(K:f4 Z)(H:iC Z room av aJ cn pm a0 au x cK cT c8 L own g h U){t:Nat}(cq:∀i,i<Z.R->x.a i-1=t):
  aE Q s 234 [bf cn] h U (λr ac Y=>∃v:zy,r = .agg ⟨HE Z.N v⟩/\l2 ac U Y r 0 (Z.N:Int) Z.N (cA Z.N (Z.e3.st t).A) (cA Z.N (Z.e3.st t).B) (Z.e3.st t).q/\aA U h ac/\U<=Y):=by
 refine ajk ?_;obtain⟨a,ws,os,ar,gR,fT,eV,gf,G⟩:=H.hE;have aY:=G.at_;have a6:=G.p.1;have n60:=K.n60;generalize dV:Z.e3.st t=S;obtain⟨eU,c6,rfl,_⟩:=id G.or;have xg:=G.or;rw[wR]at aY xg;unfold fR at aY;have q5:∀{o},u (T h U o) cn=_:=λ{o}=>(aq J).trans aY;have jy:∀{o e7 db},u (T (T (T h U o) (U+1) e7) (U+1) db) cn=_:=λ{o e7 db}=>(aq J).trans ((aq J).trans q5);unfold XS;refine cN @q5 @jy ?_;refine bE.mk (GaJ Z S U h (.slice eU Z.R c6)) Z.R ⟨0,_,_,_,none,none,none,J,J,rfl,aR _ _ _,?_,?_,?_,?_,ab,ab,ab,ab,(nofun),(((aA.refl _ _).set (cC _)).set J).set J,J⟩ ?_
 ·rw[aq J,aq J,aR];rfl
 ·rw[Tl];exact .nil
 ·rw[Tl];exact .nil
 ·rw[Tl];exact .nil
 rintro _ _ E a5 ⟨i,o,dq,fw,wg,dw,jG,rfl,ag,rfl,c1,c2,NC,ND,Wh,zC,zP,ap,eE,f0,cM,qo⟩;rw[aiR];unfold WN;obtain⟨bC,qu,rfl⟩:=NC.form;obtain⟨bV,gC,rfl⟩:=ND.form
 by_cases cb:i<Z.R
 ·obtain⟨c,l,aQ,so,bx,bZ,cw,R⟩:=H.dy i 0 cb K.hF;have kj:=R.o rfl;obtain⟨b,aB,cap,cs,bG,e,dl,e1,hb⟩:=Bf  xg (λ_ _ e=>e) cb;cases e;have q1':=(cM b hb).trans dl;have dv:=yH K i;have fu:Z.bB i+Z.H i=Z.bB (i+1):=by unfold b8.H;omega
  have aBd:Z.H i<=60:=J
  have hN:jp E a5 (.agg ⟨[c 28,c 29,c 30,c 31,c 32]⟩) (Z.bB i) (Z.H i) S:=by have:=kj.has;rw[cq i cb,dV]at this;exact jp.F (hr.sub this H.o1.sub) cM J
  have mU:e2 E a5 (aJ (i*Z.C+0)) c i 0 Z.C l aQ:=R.W.F (λd bh=>bh.elim (λe=>e ▸ cM _ R.W.lt) λe=>cM d (R.W.aQ d e).2) J;refine cN @q1' @e1 ?_;refine⟨λ_=>?_,λh=>absurd cb h⟩;refine(amD mU hN aBd).mono ?_;rintro _ B A ⟨⟨ny,me,aFp,rfl,E5,Ch,Cq⟩,er,f5⟩;obtain⟨mT,IV,rfl,_⟩:=id E5;obtain⟨mo,rj,rfl,_⟩:=id Ch;obtain⟨NE,NF,rfl,_⟩:=id Cq;have aU:∀{o aX},u (T (T B A o) A aX) (U+1)=_:=λ{o aX}=>(aq J).trans ((aq J).trans ((er (U+1) J).trans c1));refine bl @aU ?_;generalize zz:T (T B A _) A _=V;have fC:aA A B V:=by rw[<-zz];exact((aA.refl _ _).set (cC _)).set (cC _)
  have p27:u V A=some (.cells [.int .i64 (Z.bB i:Int),((Z.bB i+Z.H i:Nat):X),.slice mT (cA (Z.H i) λk=>S.A (Z.bB i+k)).length IV,.slice mo (cA (Z.H i) λk=>S.B (Z.bB i+k)).length rj,.slice NE (eZ (Z.H i) λk=>S.q (Z.bB i+k)).length NF] false):=ab
  replace aU:u V (U+1)=_:=(fC (U+1) J).trans ((er (U+1) J).trans c1)
  have aL:u V U=_:=(fC U J).trans ((er U J).trans c2);clear zz;have Nb:aA a5 E V:=λd bh=>(fC d J).trans (er d bh);have Wa3:=NC.F  λd e=>Nb d (zC d e).2;have Wb3:=ND.F  λd e=>Nb d (zP d e).2;have Wo3:=Wh.F  λd e=>Nb d (ap d e).2;have MH:=cL.o  (k:=1) (λ_=>rfl) (E5.rd.F (Y:=A+1) fC J);have SB3:=cL.o  (k:=1) (λ_=>rfl) (Ch.rd.F (Y:=A+1) fC J);have SQ3:=Cq.rd.F (Y:=A+1) fC J;refine QJ (k:=1) (λ_=>rfl) (λ_=>rfl) J (show zp V c4 1 _ _ wg from Wa3) MH (by rw[jl,jl];omega) λUs P dP Nc Vm hv V9=>?_;have Mv:A+1<=dP/\dP<=A+2:=J
  have D:∀d,d<A+1->wg≠some d->u P d=u V d:=λd E B=>V9 d J B;have VZ:∀d,wg=some d->U+1<d/\d<a5:=zC;have e14:u P (U+1)=_:=(D (U+1) J λe=>ab).trans aU;have cQ:u P A=_:=(D A J λe=>ab).trans p27;refine⟨J,?_⟩;simp(disch:=omega)only[bk,e14,aU,cQ,p27,gc,seval];have Wb4:=Wb3.F (ac:=P) λd e=>D d ab λaK=>(eE d aK).1 e;have Wo4:=Wo3.F (ac:=P) λd e=>D d ab λaK=>(eE d aK).2 e;have MI:ep P dP (.slice mo (cA (Z.H i) λk=>S.B (Z.bB i+k)).length rj) c4 1 (cA (Z.H i) λk=>S.B (Z.bB i+k)):=by refine cL.o (enc:=c4) (k:=1) (λ_=>rfl) ((Ch.F (ac:=P) (ec:=a5) (dk:=dP) (λd E B=>?_) (cC _) J).rd);rw[D d J (λe=>ab)];exact fC d B
  refine QJ (k:=1) (λ_=>rfl) (λ_=>rfl) J (show zp P c4 1 _ _ dw from Wb4) MI (by rw[jl,jl];omega) λUt bY f2 se Vn B4 NA=>?_;have En:dP<=f2/\f2<=dP+1:=J
  have I:∀d,d<dP->dw≠some d->u bY d=u P d:=λd E B=>NA d J B;have e15:u bY (U+1)=_:=(I (U+1) J λe=>ab).trans e14;have jE:u bY A=_:=(I A J λe=>ab).trans cQ;refine⟨J,?_⟩;obtain⟨aZ,hP,rfl⟩:∃a c,Us = .slice a (cA (Z.bB i) S.A++cA (Z.H i) λk=>S.A (Z.bB i+k)).length c:=(show g0 P c4 Us _ Nc from Vm).form;obtain⟨bA,v8,rfl⟩:∃a c,Ut = .slice a (cA (Z.bB i) S.B++cA (Z.H i) λk=>S.B (Z.bB i+k)).length c:=(show g0 bY c4 Ut _ se from Vn).form;have Vo:∀{o aX},u (T (T bY (U+1) o) (U+1) aX) A=_:=λ{o aX}=>(aq J).trans ((aq J).trans jE);refine cN @e15 @Vo ?_;generalize Nd:T (T bY (U+1) _) (U+1) _=cy;have nY:∀d,d≠U+1->u cy d=u bY d:=λd e=>ab
  have e16:u cy (U+1)=some (.cells [.int .i64 0,(Z.N:X),.slice aZ (cA (Z.bB i) S.A++cA (Z.H i) λk=>S.A (Z.bB i+k)).length hP,.slice bA (cA (Z.bB i) S.B++cA (Z.H i) λk=>S.B (Z.bB i+k)).length v8,.slice none 0 0] false):=ab
  replace Vo:u cy A=_:=(nY A J).trans jE
  clear Nd;have noa:∀d,a5<=d->wg≠some d/\dw≠some d:=λd bh=>⟨λe=>ab,λe=>ab⟩
  have SQ6:cL cy f2 (.slice NE (eZ (Z.H i) λk=>S.q (Z.bB i+k)).length NF) j8 (eZ (Z.H i) λk=>S.q (Z.bB i+k)):=by refine(Cq.F (ac:=cy) (ec:=a5) (dk:=f2) (λd E B=>?_) (cC _) J).rd;rw[nY d J,I d J (noa d E).2,D d J (noa d E).1];exact fC d B
  refine(aqo J SQ6).mono ?_;rintro ti eD n7 ⟨eV,aDq,Eh,xU,tY⟩;obtain⟨gU,VP,eq⟩:=aDq.form;subst eq;have fl:=(xU A J).trans Vo;have aBe:∀d,jG=some d->U+1<d/\d<a5/\u eD d=u V d:=λd e=>by have:=ap d e;refine⟨this.1,this.2,?_⟩;rw[xU d J,nY d J,I d J (λaK=>f0 d aK e),D d J λaK=>(eE d aK).2 e]
  have Wo7:=Wo3.F (ac:=eD) λd e=>(aBe d e).2.2;refine aG ?_;rw[show((f6 (en (Z.H i) λk=>S.q (Z.bB i+k))).length:Int)=((en (Z.H i) λk=>S.q (Z.bB i+k)).length:Int) by unfold f6;grind]at *
  have oJ:=vf (Z.H i) λk=>S.q (Z.bB i+k);have aCH:=vf (Z.bB i) S.q;refine ay7 J (λx bd=>by have:=agO x bd;omega) J Wo7 aDq fl J (λd e=>ab) (λd e=>(Eh d e).2) λaX oo' mc n8 Wo8 Ci E8 ahV=>?_;have zq:IntKind.wrap .i64 ((i:Int)+1)=((i+1:Nat):Int):=cD (by have:=K.oa;omega);refine bl @zq ?_;rw[PN,fu]at Vm Vn;rw[PN,PN,fu]at e16;rw[awM,fu]at Wo8;have Nx:∀d,d<n7->d≠U+1->jG≠some d->wg≠some d->dw≠some d->d<A+1->u mc d=u V d:=λd E B V P bY cy=>by rw[E8 d E V,xU d J,nY d B,I d J bY,D d cy P]
  have la':∀d,Nc=some d->U+1<d/\d<dP/\(wg=some d\/A<d):=λd e=>ab
  have lb':∀d,se=some d->U+1<d/\d<f2/\(dw=some d\/dP<=d):=λd e=>by
   rcases B4 with⟨aU,_⟩|⟨aU,_⟩
   all_goals grind
  have ec:∀d,oo'=some d->U+1<d/\d<n8/\(jG=some d\/n7<=d):=λd e=>by
   rcases Ci with aU|⟨b,aU,aK,cc⟩
   all_goals grind
  refine⟨_,J,i+1,aX,.slice aZ (cA (Z.bB (i+1)) S.A).length hP,.slice bA (cA (Z.bB (i+1)) S.B).length v8,Nc,se,oo',rfl,J,rfl,?_,?_,?_,?_,Wo8,λd e=>ab,λd e=>ab,λd e=>ab,λd e=>⟨λaK=>?_,λaK=>?_⟩,λd e aK=>?_,λd bh=>?_,J⟩
  ·rw[E8 _ J (λe=>ab),xU _ J];omega
  ·grind
  ·refine(show g0 P c4 _ _ Nc from Vm).F λd e=>?_;obtain⟨eH,hu,jg⟩:=la' d e;have n5:jG≠some d/\dw≠some d:=by
    rcases jg with jg|jg
    ·grind
    grind
   rw[E8 d J n5.1,xU d J,nY d J,I d hu n5.2]
  ·refine(show g0 bY c4 _ _ se from Vn).F λd e=>?_;obtain⟨eH,hu,jg⟩:=lb' d e;have n5:jG≠some d:=ab
   rw[E8 d J n5,xU d J,nY d J]
  ·grind
  ·grind
  ·grind
  ·rw[Nx d J J (λe=>ab) (λe=>ab) (λe=>ab) J,Nb d J];exact cM d bh
 ·have:i=Z.R:=J
  subst this;rw[ah4 K]at NC ND Wh;refine bl @c1 ?_;refine⟨λh=>absurd h (JE _),λ_=>?_⟩;refine(K6 J (ah3 Wh λd e=>(ap d e).2) (λx bd=>agO x bd) (by have:=vf Z.N S.q;omega)).mono ?_;rintro r B A ⟨Cq,er,f5⟩;rw[RM]at Cq;obtain⟨NE,NF,rfl,_⟩:=id Cq;have aU:=(er (U+1) J).trans c1;have aL:=(er U J).trans c2;unfold aDo at aL;have e0':∀{o},u (T B (U+1) o) U=_:=λ{o}=>(aq J).trans aL;rw[ah4 K]at aU;refine cN @aU @e0' ?_;have Wi:∀d,d<A->d≠U->d≠U+1->∀{o aX},u (T (T B (U+1) o) U aX) d=u B d:=λd E B V o aX=>ab
  refine⟨⟨bC,_,qu,bV,_,gC,NE,_,NF⟩,rfl,⟨_,_,_,rfl,(NC.F λd e=>?_).gv λd e=>?_,(ND.F λd e=>?_).gv λd e=>?_,eJ.F Cq (λd E B=>?_) J (cC _)⟩,λd bh=>?_,J⟩
  ·have:=zC d e;rw[Wi d J J J];exact er d this.2
  ·grind
  ·have:=zP d e;rw[Wi d J J J];exact er d this.2
  ·grind
  ·grind
  ·rw[Wi d J J J,er d J];exact cM d bh
end
section
variable {s:al} {g h:ae} {U:Nat} {Z:b8} {own:Nat->Nat} {x:gd} {room:Int} {av L cT c8 cn pm:Nat} {aJ:Nat->Nat} {cK:Nat->Nat->aa ct} {a0:Nat} {au:ae}
theorem aqp{h ac:ae}{ap E:Nat}{low D:Int}{n:Nat}{A B:aa Int}(H:l2 h ap ag v low D n A B q)(K:∀b,ap<=b->b<ag->u ac b=u h b)(I:ec<=ap)(P:ag<=E):l2 ac ec E v low D n A B q:=by obtain⟨dq,fw,V,e,mP,kX,kZ⟩:=H;exact⟨dq,fw,V,e,eJ.F mP K I P,eJ.F kX K I P,eJ.F kZ K I P⟩
def NoJ(R L cn:Nat)(a:Nat->Nat)(os:X)(h:ae)(U:Nat)(m:Nat)(aF:aa X)(ac:ae)(Y:Nat):Prop:=∃i,m=R-i/\i<=R/\(∀aH,aH<i->a aH-1=L)/\aF=[bf cn,os,(R:X),(i:X)]/\ac=h/\Y=U
theorem aaW(K:f4 Z)(H:iC Z room av aJ cn pm a0 au x cK cT c8 L own g h U)(ky:a0<=cn)(fJ:L<1000):
  aE Q s 140 [bf cn] h U (λr ac Y=>r = .tuple ⟨[]⟩/\EQ Z room av aJ cn pm a0 au x cK g U cT c8 (tM Z.R L x.a) ac Y):=by
 refine at4 ?_;obtain⟨a,ws,os,ar,gR,fT,eV,gf,G⟩:=H.hE;have aY:=G.at_;have a6:=G.p;have hm:=G.m;obtain⟨eU,c6,rfl,_⟩:=id G.or;have xg:=G.or;rw[wR]at aY xg;have P:=G.ar.lens;rw[G.L]at P;unfold fR at aY;unfold ae8;refine bl @aY ?_;refine bE.mk (NoJ Z.R L cn x.a (.slice eU Z.R c6) h U) Z.R ⟨0,J,J,J,rfl,rfl,rfl⟩ ?_;rintro _ _ ac Y ⟨i,rfl,ag,V,rfl,aU,aK⟩;subst ac Y;rw[aqf];unfold aaT
 by_cases cb:i<Z.R
 ·obtain⟨c,l,aQ,so,bx,bZ,cw,R⟩:=H.dy i 0 cb K.hF;have kj:=R.o rfl;obtain⟨b,aB,cap,cs,bG,e,dl,e1,hb⟩:=Bf  xg (λ_ _ e=>e) cb;cases e;refine cN @dl @e1 ?_;refine⟨λ_=>?_,λh=>absurd cb h⟩;refine(amv  R.W kj.EL).fZ ⟨J,?_⟩;have bO:IntKind.wrap .i64 ((i:Int)+1)=((i+1:Nat):Int):=cD (by have:=K.oa;omega);obtain⟨E3,V1,Ny,rfl⟩:∃a n c,ar = .slice a n c:=by
   have:=G.ar;generalize ar=v at this;cases this <;> grind
  simp(disch:=omega)only[bk,aY,gc,P,bO,seval];refine⟨λeh=>?_,λb0=>?_⟩
  ·refine⟨own,g,?_,aM,J⟩;rw[show tM Z.R L x.a=L from if_neg ab];exact H
  ·exact⟨_,J,i+1,rfl,J,ab,rfl,rfl,rfl⟩
 ·have:i=Z.R:=J
  subst this;refine aG ?_;refine⟨λh=>absurd h J,λ_=>?_⟩;refine(aiS K H V).mono ?_;rintro _ E a5 ⟨v,rfl,jc,cM,fi⟩;have bP:=(cM cn a6.1).trans aY;refine⟨fi,?_⟩;obtain⟨E3,V1,Ny,rfl⟩:∃a n c,ar = .slice a n c:=by
   have:=G.ar;generalize ar=v at this;cases this <;> grind
  simp(disch:=omega)only[bk,aY,bP,gc,seval];refine yl  (k:=5) (λ_=>rfl) (λ_=>rfl) J (G.ar.F λb e=>?_) v (aR _ _ _) rfl (by rw[G.L];omega) λI In A=>?_
  ·have:=G.b b e;rw[aq J];exact cM b this.1
  rw[G.L]at *
  have g2:u I cn=_:=(A cn J λe=>(G.b cn e).2.2.1 rfl).trans ((aq J).trans bP);refine⟨J,?_⟩;refine bl @g2 ?_;rw[show tM Z.R L x.a=L+1 from if_pos V];generalize zz:T I cn _=aT;have gn:∀d,d≠cn->u aT d=u I d:=ab
  have dp:u aT cn=some (.cells (fR a Z.N Z.R Z.C room ws pm (.slice eU Z.R c6) (.slice (some ⟨a5+1,0,some 5⟩) (L+1) (L+1))) false):=by rw[<-zz,aR];rfl
  have d3:∀d,d<U->own d≠Z.G->u aT d=u h d:=λd E I=>by rw[gn d (λe=>I ab),A d J (λe=>I (G.b d e).2.1),aq J];exact cM d E
  obtain⟨dc,cd,hG,D,qo,aBf⟩:=wQ      (Y:=a5+1+1) (some (a5+1)) none J d3;have gq:=H.o1.F hG D (Nat.succ_ne_zero _);obtain⟨M,c,B⟩:=H.qt;have aBg:u aT pm=u h pm:=by rw[gn pm hm.2.2,A pm J (λe=>(G.b pm e).2.2.2 rfl),aq J];exact cM pm hm.1
  have aDr:∀b,b<U/\own b=Z.G/\b≠cn/\b≠pm/\gf≠some b->u aT b=u h b:=λb e=>by rw[gn b e.2.2.1,A b J e.2.2.2.2,aq J];exact cM b e.1
  have gS:Z.G=Z.R*Z.C+1:=rfl;refine⟨dc,cd,⟨hG,λi j ag b5=>?_,⟨a,ws,_,_,gR++[v],fT,eV,some (a5+1),dp,G.ws.F λb e=>aDr b (G.me b e),(by have:=G.os.F  λb e=>aDr b (G.dw b e);rw[wR]at this;exact this),?_,λb e=>?_,λb e=>by have:=G.me b e;exact⟨J,(D.d3 b this.1).trans this.2.1,this.2.2.1,this.2.2.2.1,λe=>ab⟩,λb e=>by have:=G.dw b e;exact⟨J,(D.d3 b this.1).trans this.2.1,this.2.2.1,this.2.2.2.1,λe=>ab⟩,by rw[ib,G.L];rfl,λt w e=>?_,⟨J,(D.d3 cn a6.1).trans a6.2⟩,J,(D.d3 pm hm.1).trans hm.2.1,hm.2.2⟩,⟨M,c,B.m.F aBg,λk w e=>?_,B.has⟩,J,λd bh=>?_⟩,gq,J⟩
  ·obtain⟨c,l,aQ,so,bx,bZ,cw,R⟩:=H.dy i j ag b5;have:=pQ ag b5;exact⟨c,l,aQ,so,bx,bZ,cw,R.other D.le D.same D.d3 J gq rfl rfl (λ_=>⟨rfl,rfl⟩) (λ_=>⟨rfl,rfl,rfl⟩) λ_ _=>⟨rfl,rfl⟩⟩
  ·have:=fA.own  (k:=5) In;rw[ib,G.L]at this;exact this.F λb e=>ab
  ·grind
  ·rw[Fh]at e
   split at e
   ·exact jp.F (G.st t w e) gq J
   ·rename_i eG
    rw[G.L]at eG e;have cq:t=L:=ab
    subst cq;rw[CG]at e;cases e;have gm:l2 cd U a5 (.agg ⟨HE Z.N v⟩) 0 (Z.N:Int) Z.N (cA Z.N (Z.e3.st t).A) (cA Z.N (Z.e3.st t).B) (Z.e3.st t).q:=by refine aqp jc (λb E I=>?_) (cC _) (cC _);rw[hG.new   J (λd E I=>aBf d E (λe=>ab) nofun) b E I,gn b J,A b J (λe=>by have:=G.b b e;omega),aq J]
    have Cr:=hr.F gm.rd (aA.refl a5 cd) (J:a5<=a5+1+1);unfold jp;simp only[iE];exact Cr
  ·obtain⟨aU,aK,b2,cc,d6⟩:=B.get k w e;refine⟨aU,aK,b2,cc,d6.other D.le (λd eE f0=>D.same d eE ?_) D.d3 gq rfl (cC _) (cC _)⟩;rw[f0];unfold nS;omega
  ·have E:=H.jX d bh;exact⟨(D.d3 d J).trans E.1,(D.same d J J).trans E.2⟩
end
section
variable {s:al} {g h:ae} {U:Nat} {Z:b8} {own:Nat->Nat} {x:gd} {room:Int} {av L cT c8 cn pm:Nat} {aJ:Nat->Nat} {cK:Nat->Nat->aa ct} {a0:Nat} {au:ae}
theorem ajl(K:f4 Z)(H:iC Z room av aJ cn pm a0 au x cK cT c8 L own g h U)(ky:a0<=pm)(qo:a0<=cn)(xr:1<=room)(oI:room<=64){a b:Nat}(dR:a<Z.R*Z.C)(aW:b<Z.R*Z.C)(I:cK a b=[m])(bh:m.dst Z.C=b)(bd:nm Z.R Z.C av x m)(eI:av<900)(P:∀t,t<=av->(Z.f8 t=0↔t<av))(B:zx Z av)(bo:(x.out b).length<800)(bO:c8<cT)(fJ:L<1000):
  aE Q s 146 [bf cn,(a:X),(b:X),.int .i64 0] h U (λr ac Y=>r = .bool true/\EQ Z room av aJ cn pm a0 au (cS Z.R Z.C av x m) (uj cK a b []) g U cT c8 (tM Z.R L (cS Z.R Z.C av x m).a) ac Y):=by
 refine aks ?_;obtain⟨cy,eD⟩:=aaV K m;have Vk:=L2 K;refine(adg H ky (⟨a,J⟩,⟨b,J⟩) dR aW xr oI).mono ?_;rintro _ h1 a5 ⟨b2,ah5,bP,rfl,ji,⟨M,aER,zI,aI⟩,e7,fi,Kg1⟩;obtain⟨_,_,pb',e,S⟩:=zI.get _ _ aI;cases e;rcases S with⟨e,_⟩|⟨bD,n,e,bw,eA⟩
 ·have e:cK a b=[]:=e;rw[I]at e;cases e
 have e:cK a b=[bD]:=e;rw[I]at e;cases e;refine(eA.take ji.o1 (by unfold nS;omega) cy eD).mono ?_;rintro _ ao A ⟨kG,rfl,d0,Tk,g2,aEU,aDs,E2⟩;have gM:=ji.ah0  (te:=cT) (tf:=c8) zI aI aDs E2 (.inl ⟨qR _ _ _ _,n+1,J,aEU⟩) (λa b e=>qS e) J J;unfold eg;refine aG ?_;generalize zz:T (T ao A _) A _=aT;have fC:aA A ao aT:=by rw[<-zz];exact aM
 have lM:u aT A=some (.cells (eg kG) false):=by rw[<-zz,aR];rfl
 have M9:=ji.o1.F aDs E2 (by unfold nS;omega);obtain⟨HF,dp,V,_,Na,_⟩:=gM.still fC (uQ A);obtain⟨i,j,ag,b5,rfl⟩:=La aW;obtain⟨c,l,aQ,so,bx,bZ,cw,Co⟩:=V.dy i j ag b5;obtain⟨ea,ws,os,ar,gR,fT,eV,gf,G⟩:=V.hE;obtain⟨b6,aB,cap,cs,bG,rfl,dl,e1,hb⟩:=Bf G.wr (λ_ _ e=>e) aW;have aY:=G.at_;unfold fR at aY;refine ls @aY @dl @e1 @lM ?_;have Vl:lH aT a5 (A+1) kG (p8 Z m):=d0.F (λd eE f0=>fC d f0) J J;refine(Co.cS K V.o1 bd bh b5 eI P B Vl bo).mono ?_;rintro _ a9 dP ⟨rfl,Tm,dZ,hP,lU,bo4,so4,Jf,xV,D⟩;refine⟨D.le,?_⟩;have IJ:=V.o1.F xV D J;have ts:=V.work ag b5 xV D.le D.same D.d3 IJ ⟨_,_,_,_,_,_,_,Jf⟩ λaH mS eh=>akx bd J;refine(aaW K ts qo fJ).mono ?_;rintro _ bY f2 ⟨rfl,E,hw,iq,Kg5,oB⟩;have:=D.le;have:=E2.le;exact⟨E,hw,iq,aM,J⟩
end
def nT(k:i3):Int × Int:=((k.1.val:Int),(k.2.val:Int))
def Hl(k:i3):aa X:=Go.Ax.lx (nT k)
theorem aaX:∀l:aa i3,a7 Go.Ax.lx (l.map nT)=a7 Hl l
 | []=>rfl
 |k::l=>by show Go.Ax.lx (nT k)++a7 Go.Ax.lx (l.map nT)=_;rw[aaX l];rfl
def Nf(p:Int × Int):i3:=(⟨p.1.toNat % 64,Aa _ J⟩,⟨p.2.toNat % 64,Aa _ J⟩)
theorem auf(k:i3):Nf (nT k)=k:=by
 obtain⟨⟨a,A⟩,⟨b,B⟩⟩:=k;unfold Nf nT
 grind
theorem aug{l:aa (Int × Int)}(h:∀x∈l,∃k:i3,nT k=x):∃A:aa i3,A.map nT=l:=by
 induction l with
 |nil=>exact⟨[],rfl⟩
 |cons x l D =>
  obtain⟨k,rfl⟩:=h _ (mr ..);obtain⟨A,rfl⟩:=D λy B=>h y (jZ _ B);exact⟨k::A,rfl⟩
section
variable {s:al} {g h:ae} {U:Nat} {Z:b8} {own:Nat->Nat} {x:gd} {room:Int} {av L cT c8 cn pm:Nat} {aJ:Nat->Nat} {cK:Nat->Nat->aa ct} {a0:Nat} {au:ae}
theorem Vp{l:aa i3}(A:l.Nodup):l.length<=4096:=by
 have:=F8 4096 (l.map λe=>e.1.val*64+e.2.val) ab ab
 grind
theorem awN(A:M.Pairwise λa b=>a.1≠b.1):M.length<=4096:=by
 have:=Vp (l:=M.map (·.1)) ab
 grind
theorem xI.at{k:i3}{b2:Nat}(S:xI Z room cK cT c8 own g h U k b2):b2<U/\∃E a n cap dz df A D,u h b2=some (.cells (kA E (.slice a n cap) dz df A D) false)/\n=(if cK k.1.val k.2.val=[]then 0 else 1)/\A<=max cT (c8+1):=by
 rcases S with⟨e,m,P,dz,df,rw,dw,c6,gC,I,K,d8,fM,V,_⟩|⟨m,bD,e,P,dz,df,b,c6,gC,gx,ha,f,B,_⟩
 ·rw[if_pos e];rcases K with⟨rfl,_⟩|⟨b,w,_,rfl,_⟩
  all_goals exact⟨V,_,_,_,_,_,_,_,_,I,rfl,J⟩
 ·rw[if_neg ab];exact⟨B.py,_,_,_,_,_,_,_,_,B.p,rfl,J⟩
theorem amN(H:iC Z room av aJ cn pm a0 au x cK cT c8 L own g h U)(eh:∃a b,cK a b≠[]):
  aE Q s 144 [bf cn] h U (λr ac Y=>∃K:aa i3,r = .slice (some ⟨U,0,some 2⟩) K.length K.length/\ac=T h U (.cells (a7 Hl K) false)/\Y=U+1/\K.Nodup/\∀k:i3,k∈K↔cK k.1.val k.2.val≠[]):=by
 obtain⟨a,ws,os,ar,gR,fT,eV,gf,G⟩:=H.hE;obtain⟨M,c,B⟩:=H.qt;have dV:∀e∈M,∃b2,e.2.1 = (bf b2)/\xI Z room cK cT c8 own g h U e.1 b2:=λe b0=>by obtain⟨_,_,b2,aU,aK⟩:=B.get e.1 e.2.1 ((Ki B.m.po).2 ⟨e.2.2,b0⟩);exact⟨b2,aU,aK⟩
 obtain⟨V,ni⟩:∃l:aa i3,l=(M.filter λe=>decide (cK e.1.1.val e.1.2.val≠[])).map (·.1):=⟨_,rfl⟩
 have ay8:∀k:i3,k∈V↔cK k.1.val k.2.val≠[]:=λk=>by
  rw[ni];constructor
  ·grind
  ·intro h;obtain⟨dm,aU,aK,cc⟩:=B.has _ _ h;have cu:dm=k:=ab
   rw[cu]at cc;obtain⟨v,aI⟩:=NI.1 cc;obtain⟨n,bw⟩:=(Ki B.m.po).1 aI;exact f3.2 ⟨(k,v,n),ab,rfl⟩
 have ah6:V.Nodup:=by rw[ni];exact wl.2 (B.m.po.filter _)
 have rX:=Vp ah6;obtain⟨-,a6,mF⟩:=OI ZT (V.map nT);generalize qK lb (V.map nT)=mN at a6 mF;obtain⟨K,rfl⟩:=aug (l:=mN) λx bd=>by obtain⟨k,_,e⟩:=f3.1 (a6.subset bd);exact⟨k,e⟩
 have A:K.Perm V:=by have:=a6.map Nf;rw[pJ,pJ,show Nf ∘ nT=id from funext auf,Fw,Fw]at this;exact this
 have zf:K≠[]:=λe=>by
  obtain⟨a,b,EC⟩:=eh;obtain⟨k,aU,aK,_⟩:=B.has a b EC
  grind
 have aY:=G.at_;have hpg:=G.p.1;have qb:pm<U:=G.m.1;unfold fR at aY;refine aE.mN (val:=λb=>.slice (some ⟨b,0,some 2⟩) K.length K.length) (cs:=a7 Go.Ax.lx (K.map nT)) (FK (λ_=>rfl) _) Ym ?_ ⟨K,rfl,by rw[aaX],rfl,(A.nodup_iff).2 ah6,λk=>(A.mem_iff).trans (ay8 k)⟩;refine ap9 ?_;unfold ac6;refine mv @aY ?_;refine B.m.rR λaT I eY=>?_;refine bE.mk (λm aF ac Y=>∃acc D o,m=D.length/\aF=[o,bf U]/\eb ac o Go.Ax.lx 2 acc (U+1) Y/\xu ac U pm c M D/\(acc++((D.filter λe=>decide (cK e.1.1.val e.1.2.val≠[])).map (·.1)).map nT).Perm (V.map nT)/\(∀e∈D,e∈M)/\aA U h ac/\U+1<=Y) M.length
  ⟨[],M,_,rfl,rfl,.inl ⟨rfl,rfl⟩,I,by rw[ni];exact x2 _,λe h=>h,λc a1=>eY c J,J⟩ ?_
 rintro _ _ a9 dP ⟨acc,D,o,rfl,rfl,H7,Jb,P,ub,g8,g5⟩;rw[amz];unfold YU;refine(B.m.F (g8 pm qb)).fG Jb J (λaL=>?_) λe E bY b0 pn Cn h3 xF=>?_
 ·subst aL;simp only[List.filter_nil,z7,hz]at P;refine m6 ?_;rcases id H7 with⟨rfl,rfl⟩|⟨pB,g6,eR,rfl,T6⟩
  ·have aL:=List.map_eq_nil_iff.1 (List.nil_perm.1 P);rw[aL]at A;exact absurd (List.perm_nil.1 A) zf
  ·have:=P.length_eq;rw[gX]at this;refine(asm rfl J eR T6).mono ?_;rintro _ cy n6 ⟨kN,⟨b1,xn,nK,ht⟩,xv⟩;have:b1=K.map nT:=OG (R:=λx y=>¬lb y x<0) (λx y=>akN x y) (xn.trans (P.trans a6.symm)) nK mF;subst this;exact⟨pB,by rw[<-xn.length_eq,gX],J,ht,λc a1=>by rw[xv c J J];exact g8 c a1⟩
 ·obtain⟨b2,ek,S⟩:=dV e b0;obtain⟨HO,B0,ea,jB,j4,dz,df,iM,l0,aW,bw,_⟩:=S.at
  rw[ek]at xF ⊢;have n4:=pn.length_eq;simp only[nC]at n4;have hm:∀x∈E,x∈M:=λx bd=>ub x (pn.mem_iff.2 (jZ _ bd));have hpf:=((pn.filter λe=>decide (cK e.1.1.val e.1.2.val≠[])).map (·.1)).map nT;rw[mW]at hpf;have BK:=(List.Perm.append_left acc hpf).symm.trans P;simp(disch:=omega)only[bk,↓reduceIte,Nat.reduceAdd,Nat.reduceSub,Nat.reduceMul,Nat.reduceLT,Nat.reduceLeDiff,Nat.reduceEqDiff,Int.reduceBEq,Int.reduceLT,Int.reduceNeg,xF,show dn (pZ e.1)=[(e.1.1.val:X),(e.1.2.val:X)]from rfl];refine(GI (((aq J).trans ((aq J).trans ((h3 b2 J).trans (g8 b2 HO)))).trans aW)).fZ ?_;rw[bw]
  by_cases au:cK e.1.1.val e.1.2.val=[]
  ·rw[if_pos au];rw[if_neg (by simp[au])]at BK;refine m6 ?_;refine⟨λa1=>absurd a1 J,λ_=>⟨_,J,acc,E,o,rfl,rfl,H7.F (λd h1 ao=>(aq J).trans ((aq J).trans (h3 d J))) J,Cn.F ((aq J).trans (aq J)),BK,hm,λd bh=>(aq J).trans ((aq J).trans ((h3 d J).trans (g8 d bh))),J⟩⟩
  ·rw[if_neg au];rw[if_pos (by simp[au]),uO,uO]at BK;have Mu:=P.length_eq;simp only[ib,gX]at Mu;refine m6 ?_;refine⟨λ_=>?_,λa1=>absurd J a1⟩;refine mu (enc:=Go.Ax.lx) (k:=2) (ap:=U+1) (λ_=>rfl) (λ_=>rfl) J (H7.F (λd h1 ao=>(aq J).trans ((aq J).trans ((aq J).trans (h3 d J)))) J) J (nT e.1) (aR _ _ _) rfl J λIZ cy hs6 hX=>?_;refine⟨_,J,acc++[nT e.1],E,IZ,rfl,rfl,hs6,?_,by rw[kl];exact BK,hm,λd bh=>(hX d J).trans ((aq J).trans ((aq J).trans ((aq J).trans ((h3 d J).trans (g8 d bh))))),J⟩;exact Cn.F ((hX U J).trans ((aq J).trans ((aq J).trans (aq J))))
end
section
variable {s:al} {g h:ae} {U:Nat} {Z:b8} {own:Nat->Nat} {x:gd} {room:Int} {av L n w cn pm:Nat} {aJ:Nat->Nat} {cK:Nat->Nat->aa ct} {a0:Nat} {au:ae}
structure ah7 (Z:b8) (room:Int) (av cn pm a0:Nat):Prop where
 K:f4 Z
 m0:a0<=pm
 m1:a0<=cn
 eH:1<=room
 hu:room<=64
 aDt:av<900
 f8:∀t,t<=av->(Z.f8 t=0↔t<av)
 B:zx Z av
structure IK (Z:b8) (av n K:Nat) (x:gd) (cK:Nat->Nat->aa ct) (L:Nat):Prop where
 P:pg Z.R Z.C av x cK
 D:qg Z.R Z.C n K x cK
 S:vs Z.R x L
def WiJ(Z:b8)(room:Int)(av:Nat)(aJ:Nat->Nat)(cn pm a0:Nat)(au:ae)(x:gd)(g:ae)(U n w L:Nat)(m:Nat)(aF:aa X)(ac:ae)(Y:Nat):Prop :=
 ∃k fK px lS,m=Z.R*Z.C-k/\k<=Z.R*Z.C/\aF=[bf cn,.bool lS,((Z.R*Z.C:Nat):X),(k:X)]/\EQ Z room av aJ cn pm a0 au fK px g U w w L ac Y/\IK Z av n k fK px L/\((lS=true/\∃a b,px a b≠[])\/(lS=false/\fK=x/\∀dm,dm<k->x.out dm=[]))
def WiI(Z:b8)(room:Int)(av:Nat)(aJ:Nat->Nat)(cn pm a0:Nat)(au:ae)(g:ae)(U n w c5:Nat)(Cs:aa i3)(m:Nat)(aF:aa X)(ac:ae)(Y:Nat):Prop :=
 ∃i fK px B8 dc cd,m=Cs.length-i/\i<=Cs.length/\aF=[bf cn,.bool true,.slice (some ⟨c5,0,some 2⟩) Cs.length Cs.length,(Cs.length:X),(i:X)]/\iC Z room av aJ cn pm a0 au fK px (w+1) w B8 dc cd ac Y/\aA U g cd/\U<=Y/\c5<Y/\u cd c5=some (.cells (a7 Hl Cs) false) /\
  IK Z av n (Z.R*Z.C) fK px B8/\∀k:i3,k∈Cs.drop i↔px k.1.val k.2.val≠[]
theorem akz(rr:ah7 Z room av cn pm a0)(H:iC Z room av aJ cn pm a0 au x cK w w L own g h U)(hN:IK Z av n 0 x cK L)(bO:w+1<100000)(eh:∃k,k<Z.R*Z.C/\x.out k≠[]):
  aE Q s 72 [bf cn] h U (λr ac Y=>r = .bool true/\∃fK px B8,EQ Z room av aJ cn pm a0 au fK px g U (w+1) (w+1) B8 ac Y/\IK Z av (n+1) 0 fK px B8):=by
 refine amE ?_;have K:=rr.K;have d0:=K.hF;have ef:=K.lW;have Vk:=L2 K;obtain⟨a,ws,os,ar,gR,fT,eV,gf,G⟩:=H.hE;have aY:=G.at_;obtain⟨gH,n1,rfl,_⟩:=id G.wr;rw[wR]at aY;unfold aaR bz ax aV ad cP;simp(disch:=omega)only[bk,pL AT,aY,seval];refine bE.mk (WiJ Z room av aJ cn pm a0 au x g U n w L) (Z.R*Z.C) ⟨0,x,cK,false,J,J,rfl,⟨own,g,H,aM,J⟩,hN,ab⟩ ?_;rintro _ _ h1 a5 ⟨k,iD,Ng,lS,rfl,hk,rfl,⟨ah5,bP,ji,Kg1,fi⟩,D,hbl⟩;rw[akq];unfold XO cG cj aV
 by_cases cb:k<Z.R*Z.C
 ·have xJ:IntKind.wrap .i64 ((k:Int)+1)=((k+1:Nat):Int):=cD J;have Vq:decide ((k:Int)<((Z.R*Z.C:Nat):Int))=true:=ab
  rw[KC,Vq];cases fI:iD.out k with
  |nil =>
   refine aG ?_;refine(amM K ji cb fI).mono ?_;rintro _ ao bQ ⟨rfl,E,g2,gM,M9,f5⟩;refine bl @xJ ?_;refine⟨_,J,k+1,iD,Ng,lS,rfl,cb,rfl,⟨E,g2,gM,aM,J⟩,⟨D.P,D.D.skip fI,D.S⟩,?_⟩
   grind
  |cons m r =>
   have bh:=(K3 d0 (D.P.e7 k m ab).2).2;have ni:Ng k (m.dst Z.C)=[]:=D.D.t3 k _ J;refine aG ?_;refine(aqn K ji rr.m0 rr.eH rr.hu cb fI bh ni J J).mono ?_;rintro _ ao bQ ⟨rfl,E,g2,gM,M9,f5⟩;refine bl @xJ ?_;have dl:=D.P.pick fI;have e1:=D.D.pick fI;rw[ni]at dl e1;exact⟨_,J,k+1,_,_,true,rfl,cb,rfl,⟨E,g2,gM,aM,J⟩,⟨dl,e1,D.S⟩,.inl ⟨rfl,k,m.dst Z.C,by rw[qR];grind⟩⟩
 ·have:k=Z.R*Z.C:=J
  subst this;have Tn:lS=true/\∃a b,Ng a b≠[]:=ab
  obtain⟨rfl,Tn⟩:=Tn;refine aG ?_;refine⟨λh=>absurd h J,λ_=>?_⟩;refine(amN ji Tn).mono ?_;rintro _ _ _ ⟨I,rfl,rfl,rfl,Mq,ahb⟩;refine aG ?_;obtain⟨E,g2,gM,_,M9,hz2⟩:=ji.still (show aA a5 h1 (T h1 a5 (.cells (a7 Hl I) false))from(aA.refl _ _).set (cC _)) (uQ a5);refine bE.mk (WiI Z room av aJ cn pm a0 au g U n w a5 I) I.length ⟨0,iD,Ng,L,E,g2,J,J,rfl,gM.mono J J,aM,J,J,?_,D,ab⟩ ?_
  ·rw[gM.o1 a5,if_pos ⟨J,hz2 a5 (cC _)⟩,aR]
  rintro _ _ aT V ⟨i,hM,BZ,zQ,HF,dp,rfl,ag,rfl,jj,Na,ga,xl,ta,A,U0⟩;rw[akr];unfold XP cG cj ax gT bt aV cg c7 ad aN bS bX
  by_cases vD:i<I.length
  ·have bd:I[i]? = some I[i]:=ab
   generalize I[i]=k at bd;have MU:I.drop i=k::I.drop (i+1):=by rw[lo vD]at bd;cases bd;exact zT vD
   have BP:BZ k.1.val k.2.val≠[]:=ab
   have zf:=Vp Mq;have aBh:=jj.o1.sub _ _ ta;have iQ:hB (some 2) (i*2) (a7 Hl I) = .ok (.agg ⟨[(k.1.val:X),(k.2.val:X)]⟩):=by rw[o3,if_pos (by rw[fN (k:=2) (λ_=>rfl)];omega),sD (k:=2) (λ_=>rfl) bd];rfl
   have IE:decide ((i:Int)<(I.length:Int))=true:=ab
   have zq:IntKind.wrap .i64 ((i:Int)+1)=((i+1:Nat):Int):=cD J;obtain⟨a,ws,os,ar,gR,fT,eV,gf,G⟩:=jj.hE;have aY:=G.at_;have hpg:=G.p;have qb:=G.m;unfold fR at aY;refine hV @IE @aBh @iQ ?_;have BY:∀{o aX},u (T (T aT V o) V aX) cn=_:=λ{o aX}=>(aq J).trans ((aq J).trans aY);obtain⟨M,c,B⟩:=jj.qt;obtain⟨dm,aU,aK,cc⟩:=B.has _ _ BP;have cu:dm=k:=Prod.ext (Fin.ext aU) (Fin.ext aK);rw[cu]at cc;obtain⟨v,aI⟩:=NI.1 cc;obtain⟨dR,aW,b2,rfl,S⟩:=B.get k v aI;have P:=λo aX=>xa KT (B.m.F (ac:=T (T aT V o) V aX) ((aq J).trans (aq J))) (k:=k) (z:=.pointer none) (ok:=false);rw[aI,show pZ k = .agg ⟨[(k.1.val:X),(k.2.val:X)]⟩from rfl]at P
   replace P:=λo aX=>(P o aX).trans (show _=R.ok (Value.pointer (some ⟨b2,0,none⟩))from rfl)
   refine cN @aY @P ?_;generalize Vr:T (T aT V _) V _=a9;have g1:aA V aT a9:=by rw[<-Vr];exact((aA.refl _ _).set (cC _)).set (cC _)
   have cQ:u a9 V=some (.cells [(k.1.val:X),(k.2.val:X)] false):=ab
   obtain⟨Tm,dZ,ts,aBi,IJ,_⟩:=jj.still g1 (uQ V);have Cr:xI Z room BZ (w+1) w Tm dZ a9 (V+1) k b2:=S.other (uQ V) (λd eE _=>g1 d eE) aBi IJ rfl (cC _) (cC _);rcases Cr with⟨e,_⟩|⟨m,E7,Vs,_,xV⟩
   ·exact absurd e BP
   ·refine⟨λ_=>?_,λh=>absurd vD h⟩;refine xV.len.fZ ?_;refine xV.awK.cu λbY f2 nz oB=>⟨oB,?_⟩
    have jE:=(nz V J).trans cQ;simp(disch:=omega)only[bk,cQ,jE,gc,seval];obtain⟨aCI,hw,iq,_,Kg5,_⟩:=ts.still nz oB;obtain⟨fL,fY,lP⟩:=A.P.db k.1.val k.2.val m ab;have bd:=Dn A.P.ord d0 lP;have fJ:=A.S.le A.P.ord;have eI:=rr.aDt;refine(ajl K iq rr.m0 rr.m1 rr.eH rr.hu dR aW Vs fY bd rr.aDt rr.f8 rr.B (by have:=A.P.len d0 K.oa K.mV k.2.val;omega) (Jx w) J).mono ?_;rintro _ cy n6 ⟨rfl,aBj,oZ,aEV,Kg6,kN⟩;refine⟨kN,?_⟩;refine bl @zq ?_;have Ck:aA V dp oZ:=(IJ.trans Kg5 J).trans Kg6 J;refine⟨_,J,i+1,_,_,_,aBj,oZ,rfl,vD,rfl,aEV,Na.trans Ck ga,J,J,(Ck a5 xl).trans ta,⟨A.P.P9 d0 ef Vs,A.D.P9 A.P d0 (cC _) Vs,A.S.step A.P.ord bd⟩,λdm=>?_⟩;have hnk:k ∉ I.drop (i+1):=by
     have:=(Mq.sublist (List.drop_sublist i I))
     grind
    by_cases ekk:dm=k
    ·subst ekk;rw[qR]
     grind
    ·rw[qS λe=>ekk (Prod.ext (Fin.ext e.1) (Fin.ext e.2)),<-U0 dm,MU,gh]
     grind
  ·have:i=I.length:=J
   subst this;refine aG ?_;refine⟨λh=>absurd h (JE _),λ_=>?_⟩;have c0:∀a b,BZ a b=[]:=λa b=>wj λbw=>by
    obtain⟨M,c,B⟩:=jj.qt;obtain⟨k,aU,aK,_⟩:=B.has a b bw
    grind
   exact⟨hM,BZ,zQ,⟨HF,dp,jj.mono (cC _) (uQ w),Na,ga⟩,A.P,A.D.next A.P d0 (cC _) c0,A.S⟩
end
section
variable {s:al} {h:ae} {U:Nat} {Z:b8} {av:Nat}
structure NeI (Z:b8) (av:Nat) (room:Int) (a0:Nat) (au:ae) (cn pm k r:Nat) (aJ:Nat->Nat) (a:Nat->X) (ws os:X) (fT eV:aw Nat) (own:Nat->Nat) (g h:ae) (U:Nat):Prop where
 o1:jr own h U g
 dy:∀i j,i<Z.R->j<Z.C->i*Z.C+j<k->∃c l aQ so bx bZ cw,jA Z av (mJ Z.R Z.C) i j own g h U (aJ (i*Z.C+j)) c l aQ so bx bZ cw
 at_:u h cn=some (.cells (fR a Z.N Z.R Z.C room ws pm os (.slice none 0 0)) false)
 ws:g0 h sO ws ((List.range k).map aJ) fT
 os:g0 h sO os ((List.range r).map λi=>aJ (i*Z.C)) eV
 me:∀b,fT=some b->b<U/\own b=Z.G/\b≠cn/\b≠pm
 dw:∀b,eV=some b->b<U/\own b=Z.G/\b≠cn/\b≠pm/\fT≠some b
 m:u h pm=some (.map [] 0)
 p:cn<U/\own cn=Z.G
 pm:pm<U/\own pm=Z.G/\pm≠cn
 eH:k<=r*Z.C/\(r=0\/(r-1)*Z.C<k)
 gD:a0<=U
 jX:∀d,d<a0->own d=0/\u h d=u au d
def NeJ(Z:b8)(av:Nat)(room:Int)(a0:Nat)(au:ae)(cn pm cr:Nat)(st:aa X)(ap:Nat)(m:Nat)(aF:aa X)(ac:ae)(Y:Nat):Prop :=
 ∃k r aJ a ws os fT eV own g,m=Z.R*Z.C-k/\k<=Z.R*Z.C/\aF=[bf cr,.pointer none,.int .i64 0,bf cn,((Z.R*Z.C:Nat):X),(k:X)]/\NeI Z av room a0 au cn pm k r aJ a ws os fT eV own g ac Y/\u ac cr=some (.cells st false)/\own cr=0/\ap<=Y
theorem ay9{f:Nat->Nat}{k v:Nat}:(List.range (k+1)).map (up f k v)=(List.range k).map f++[v]:=by
 rw[rv,iU,List.map_singleton,g4]
 congr 1
 exact qE λi ag=>hf ab
theorem awO{ba bv cF B I VU K V D P E A:X}{m:aw Nat}:rI (pS [(13,1,.map m)]) 0 12 [aC,aD,a2,a3,aZ,bA,bp,ba,bv,cF,B,I] [n0,jx,z2,z3,z4,zK,Je,ss,We,VU,K,V,D,P,E,A] = .ok [aC,aD,a2,a3,aZ,bA,bp,ba,bv,cF,B,I,D,.map m,E,A]:=rfl
theorem auh(K:f4 Z){x:iV}(H:pY h U x eW gV e6)(Bm:cL h U e6 yZ [])(y5:x.vP=0)(Mg:x.bR.length<1000000)(kF:hq x=0)(z:Z.k=x.k/\x.n=(Z.N:Int)/\Z.src=x.src/\Z.len=x.len/\Z.bR=x.bR/\x.R=(Z.R:Int)/\x.C=(Z.C:Int)/\x.lim=(Z.lim:Int))(l5:vw x.k (x.es.map nP) Z.ai):
  aE Q s 70 [.agg ⟨gJ x eW gV e6⟩] h U (λr ac Y=>∃cn pm aJ own g,r = .tuple ⟨[bf cn,.int .i64 0]⟩/\U<=cn/\U<=pm/\iC Z x.M av aJ cn pm U h (mJ Z.R Z.C) (λ_ _=>[]) 0 0 1 own g ac Y):=by
 refine aww ?_;obtain⟨jx,z2,z3,z4,zK,Je,ss,We⟩:=id z;have d0:=K.hF;have ef:=K.lW;have Vt:=K.mV;have Im:=K.oa;have Vk:=L2 K;have gS:Z.G=Z.R*Z.C+1:=rfl;obtain⟨bg,gw,rfl,_⟩:=id H.d;obtain⟨bW,tp,rfl,_⟩:=id H.e;obtain⟨bM,hj,rfl,_⟩:=id Bm;have b4:∀{o},aA U h (T h U o):=aM
 unfold agG gJ;refine m6 ?_;refine(Km (H.F aM J)).cu λE A cM fi=>?_;have dl:=(cM U J).trans (aR _ _ _);unfold gJ at dl;rw[kF];have Wj:∀{o aX},u (T (T E A o) (A+1) aX) U=_:=λ{o aX}=>(aq J).trans ((aq J).trans dl);have ag9:IntKind.wrap .i64 ((Z.R:Int)*(Z.C:Int))=((Z.R*Z.C:Nat):Int):=by rw[<-Int.natCast_mul];exact ie _ J
 have qN1:∀{o},u (T E A o) U=_:=λ{o}=>(aq J).trans dl;simp(disch:=omega)only[bk,↓reduceIte,Nat.reduceAdd,Nat.reduceSub,Nat.reduceMul,Nat.reduceLT,Nat.reduceLeDiff,Nat.reduceEqDiff,Int.reduceBEq,Int.reduceLT,Int.reduceNeg,dl,qN1,Wj,Je,ss,yk,ag9,awO];generalize l7:T (T E A _) (A+1) _=V;have er:aA U h V:=by rw[<-l7];exact aM
 have kY:u V U=some (.cells (gJ x (.slice bg x.bR.length gw) (.slice bW x.es.length tp) (.slice bM ([]:aa (Int × Int)).length hj)) false):=by rw[<-l7];exact Wj
 have g2:u V (A+1)=some (.cells (fR (λn=>(gJ x (.slice bg x.bR.length gw) (.slice bW x.es.length tp) (.slice bM ([]:aa (Int × Int)).length hj))[n]?.getD .nilFunc) Z.N Z.R Z.C x.M (.slice none 0 0) A (.slice none 0 0) (.slice none 0 0)) false):=by rw[<-l7,aR];unfold fR gJ;rw[z2,Je,ss];rfl
 have m2:u V A=some (.map [] 0):=ab
 clear l7 Wj qN1 dl;obtain⟨cH,aDu⟩:=Du (λd=>if d=A\/d=A+1 then Z.G else 0) V (A+1+1);refine bE.mk (NeJ Z av x.M U h (A+1) A U (gJ x (.slice bg x.bR.length gw) (.slice bW x.es.length tp) (.slice bM ([]:aa (Int × Int)).length hj)) (A+1+1)) (Z.R*Z.C) ⟨0,0,λ_=>0,_,_,_,none,none,_,cH,J,J,rfl,⟨aDu,(λi j _ _ h=>absurd h J),g2,.nil,.nil,ab,ab,m2,ab,ab,J,J,λd P=>⟨ab,er d P⟩⟩,kY,if_neg J,J⟩ ?_;clear g2 m2 aDu cH;rintro _ _ aT bT ⟨k,r,aJ,a,ws,os,fT,eV,own,g,rfl,hk,rfl,I,lM,e7,ga⟩;rw[at3];unfold ac9 bz mi cG cj ax bn aV cg jt c7 ad aN bS
 by_cases cb:k<Z.R*Z.C
 ·obtain⟨i,j,ag,b5,rfl⟩:=La cb;have Vq:decide (((i*Z.C+j:Nat):Int)<((Z.R*Z.C:Nat):Int))=true:=gY J;have xJ:IntKind.wrap .i64 (((i*Z.C+j:Nat):Int)+1)=((i*Z.C+j+1:Nat):Int):=cD J;have IL:=lM;have zc:U<bT:=J
  unfold gJ at IL;rw[KC,Vq];refine tN @IL @ss ?_;refine(QT  d0 Vt J b5).fZ ⟨cC _,?_⟩;simp(disch:=omega)only[bk,↓reduceIte,Nat.reduceAdd,Nat.reduceSub,Nat.reduceMul,Nat.reduceLT,Nat.reduceLeDiff,Nat.reduceEqDiff,Int.reduceBEq,Int.reduceLT,Int.reduceNeg,IL,ss,gc];refine(QU  d0 Vt J b5).fZ ⟨cC _,?_⟩;have E9:ov (.agg ⟨gJ x (.slice bg x.bR.length gw) (.slice bW x.es.length tp) (.slice bM ([]:aa (Int × Int)).length hj)⟩) (.agg ⟨gJ x (.slice bg x.bR.length gw) (.slice bW x.es.length tp) (.slice bM ([]:aa (Int × Int)).length hj)⟩)=true:=by unfold gJ;simp(disch:=omega)only[bk,↓reduceIte,Nat.reduceAdd,Nat.reduceSub,Nat.reduceMul,Nat.reduceLT,Nat.reduceLeDiff,Nat.reduceEqDiff,Int.reduceBEq,Int.reduceLT,Int.reduceNeg,gc]
  unfold gJ at E9;rw[ss]at E9;refine Hf @IL @ss @sE @E9 ?_;have fC:aA U h aT:=λd P=>(I.jX d P).2;rw[<-ss];refine(at0  K (H.F fC I.gD) (Bm.F fC I.gD) y5 Mg kF ag b5 z K.n60 l5).mono ?_;rintro _ a9 B ⟨rs,c,aQ,bx,bZ,cw,l,dZ,rfl,N,g5⟩;have hw:=(N.k (A+1) I.p.1).trans I.at_;unfold fR at hw;refine⟨g5,?_⟩;refine mv @hw ?_;have wb4:∀b,fT=some b->b<bT/\own b=Z.G/\b≠A+1/\b≠A:=I.me;refine yl  (k:=1) (λ_=>rfl) (λ_=>rfl) J (I.ws.hE.F λb e=>?_) rs (aR _ _ _) rfl ab λbY En mH=>?_
  ·have:=I.me b e;rw[aq J];exact N.k b this.1
  rw[wR]at *
  have oZ:u bY (A+1)=_:=(mH _ J λe=>(I.me _ e).2.2.1 rfl).trans ((aq J).trans hw);have jE:∀{o},u (T bY (A+1) o) U=_:=λ{o}=>(aq J).trans ((mH U J λe=>ab).trans ((aq J).trans ((N.k U zc).trans IL)));refine R9 @oZ @jE @ss ?_;refine(QU  d0 Vt J b5).fZ ?_;generalize Nd:T bY (A+1) _=cy;have nY:∀d,d≠A+1->u cy d=u bY d:=λd e=>ab
  have rm:u cy (A+1)=some (.cells (fR a Z.N Z.R Z.C x.M (.slice (some ⟨B+1,0,some 1⟩) (i*Z.C+j+1) (i*Z.C+j+1)) A os (.slice none 0 0)) false):=by rw[<-Nd,aR];rfl
  clear Nd;have ob:g0 cy sO (.slice (some ⟨B+1,0,some 1⟩) (i*Z.C+j+1) (i*Z.C+j+1)) ((List.range (i*Z.C+j+1)).map (up aJ (i*Z.C+j) rs)) (some (B+1)):=
   .inr ⟨B+1,rfl,ab,by rw[nY _ J,En,ay9]⟩
  have ah8:∀d,d<B->d≠A+1->fT≠some d->u cy d=u a9 d:=λd eE f0 ia=>by rw[nY d f0,mH d J ia,aq J]
  have aDv:g0 cy sO os ((List.range r).map λi=>aJ (i*Z.C)) eV:=I.os.F λb e=>by have:=I.dw b e;rw[ah8 b J this.2.2.1 this.2.2.2.2,N.k b this.1]
  have fin:∀(ac:ae) (jB xM:Nat) (Nh:X) (D:aw Nat),B+2<=jB->(∀d,d<B+2->d≠A+1->eV≠some d->u ac d=u cy d)->u ac (A+1)=some (.cells (fR a Z.N Z.R Z.C x.M (.slice (some ⟨B+1,0,some 1⟩) (i*Z.C+j+1) (i*Z.C+j+1)) A Nh (.slice none 0 0)) false) ->
    g0 ac sO Nh ((List.range xM).map λaH=>up aJ (i*Z.C+j) rs (aH*Z.C)) D->(D=eV/\(∀b,eV=some b->u ac b=u cy b)\/∃b,D=some b/\B+2<=b/\b<jB)->(i*Z.C+j+1<=xM*Z.C/\(xM=0\/(xM-1)*Z.C<i*Z.C+j+1)) ->
    NeJ Z av x.M U h (A+1) A U (gJ x (.slice bg x.bR.length gw) (.slice bW x.es.length tp) (.slice bM ([]:aa (Int × Int)).length hj)) (A+1+1) (Z.R*Z.C-(i*Z.C+j+1)) [bf U,.pointer none,.int .i64 0,.pointer (some ⟨A+1,0,none⟩),((Z.R*Z.C:Nat):X),((i*Z.C+j+1:Nat):X)] ac jB:=by
   intro ac jB xM Nh D TL Bp zr kj ht hr'
   let ei:=i*Z.C+j+1
   let dc:Nat->Nat:=λd=>if d<bT then own d else if d=rs\/d=bx\/d=bZ\/d=cw\/aQ=some d then ei else if d=B+1\/D=some d then Z.G else 0
   obtain⟨cd,hG⟩:=Du dc ac jB;have jG:∀d,d<bT->dc d=own d:=λd P=>if_pos P;have W:=N.W;have aD:=N.eH;have a2:=N.hu;have a3:=N.jg;have Jg:∀d,bT<=d->(d=rs\/d=bx\/d=bZ\/d=cw\/aQ=some d)->dc d=ei:=λd E V=>ab
   have Jd:∀d,B<=d->(d=B+1\/D=some d)->dc d=Z.G:=λd E V=>by
    show(if d<bT then own d else if d=rs\/d=bx\/d=bZ\/d=cw\/aQ=some d then ei else if d=B+1\/D=some d then Z.G else 0)=Z.G;rw[if_neg J,if_neg (by
     rintro(e|e|e|e|e)
     ·have:=W.lt;omega
     ·omega
     ·omega
     ·omega
     ·have:=W.aQ d e;omega),if_pos V]
   have bqn:∀d,D=some d->eV=some d\/B+2<=d:=λd e=>ab
   have IS:∀d,bT<=d->d≠rs->d≠bx->d≠bZ->d≠cw->aQ≠some d->d<B->dc d=0:=λd E V aT a9 bY cy eD=>by
    show(if d<bT then own d else if d=rs\/d=bx\/d=bZ\/d=cw\/aQ=some d then ei else if d=B+1\/D=some d then Z.G else 0)=0;rw[if_neg J,if_neg ab,if_neg (by
     rintro(e|e)
     ·omega
     ·rcases bqn d e with e|e
      ·have:=I.dw d e;omega
      omega)]
   have agP:∀d,d<B->d≠A+1->fT≠some d->eV≠some d->u ac d=u a9 d:=λd eE f0 ia n9=>(Bp d J f0 n9).trans (ah8 d eE f0 ia);have same:∀d,d<B->dc d≠Z.G->u ac d=u a9 d:=λd eE f0=>agP d eE (λe=>f0 (by rw[e,jG _ I.p.1];exact I.p.2)) (λe=>f0 ab) λe=>f0 (by have:=I.dw d e;grind);have Cr:lf dZ cd:=λd o P=>by
    have E:bT<=d:=Nat.le_of_not_lt λbo=>by rw[N.o d bo]at P;grind
    have V:d<B:=Fo λbo=>by rw[N.G.n d bo]at P;grind
    have au:dc d=0:=IS d E (λe=>by rw[e,N.G.p]at P;grind) (λe=>ab) (λe=>ab) (λe=>ab) (λe=>by rw[(N.b d e).2]at P;grind) V;rw[hG d,if_pos ⟨J,au⟩,same d V J];exact N.G.s d o P
   have gq:aA bT g cd:=λd P=>by
    rw[I.o1 d,hG d,jG d P]
    by_cases e:own d=0
    ·rw[if_pos ⟨J,e⟩,if_pos ⟨P,e⟩,same d J ab];exact N.k d P
    grind
   have Jf:jA Z av (mJ Z.R Z.C) i j dc cd a9 B rs c l aQ none bx bZ cw:=jA.init K N Cr ag b5 (Jg rs N.p (.inl rfl)) (λb e=>Jg b (N.b b e).1 (.inr (.inr (.inr (.inr e))))) (Jg bx aD.1 (.inr (.inl rfl))) (Jg bZ a2.1 (.inr (.inr (.inl rfl)))) (Jg cw a3.1 (.inr (.inr (.inr (.inl rfl)))));have tl:i*Z.C+j+1≠Z.G:=J
   have aB9:(A:Nat)≠A+1:=J
   refine⟨i*Z.C+j+1,xM,up aJ (i*Z.C+j) rs,a,_,Nh,some (B+1),D,dc,cd,rfl,cb,rfl,⟨hG,λaH mS dk Er SF=>?_,zr,ob.F λb e=>?_,kj,λb e=>?_,λb e=>?_,?_,⟨?_,?_⟩,⟨?_,?_,I.pm.2.2⟩,hr',?_,λd P=>?_⟩,?_,?_,?_⟩
   ·by_cases e:aH*Z.C+mS=i*Z.C+j
    ·obtain⟨rfl,rfl⟩:=tD e Er b5;refine⟨c,l,aQ,none,bx,bZ,cw,?_⟩;rw[g4];exact Jf.other  J same (λ_ _=>rfl) tl (aA.refl _ _) rfl rfl (λ_=>⟨rfl,rfl⟩) (λ_=>⟨rfl,rfl,rfl⟩) λ_ _=>⟨rfl,rfl⟩
    ·obtain⟨bL,b1,gQ,sj,rs',rc',rv',R'⟩:=I.dy aH mS dk Er J;have:=pQ dk Er;refine⟨bL,b1,gQ,sj,rs',rc',rv',?_⟩;rw[hf e];exact R'.other (ei:=Z.G) J (λd eE f0=>(same d J ab).trans (N.k d eE)) jG J gq rfl rfl (λ_=>⟨rfl,rfl⟩) (λ_=>⟨rfl,rfl,rfl⟩) λ_ _=>⟨rfl,rfl⟩
   ·cases e;exact Bp _ J J λe=>by have:=I.dw _ e;omega
   ·cases e;exact⟨J,Jd _ J (.inl rfl),J,J⟩
   ·rcases bqn b e with dS | dS
    ·have:=I.dw b dS
     grind
    ·have:b<jB:=by
      rcases ht with⟨aU,_⟩|⟨b6,aU,_,cc⟩
      ·rw[aU]at e;have:=I.dw b e;omega
      grind
     exact⟨this,Jd b J (.inr e),J,J,λe=>ab⟩
   ·have E:=I.pm;rw[agP A J E.2.2 (λe=>(I.me _ e).2.2.2 rfl) λe=>(I.dw _ e).2.2.2.1 rfl,N.k A E.1];exact I.m
   ·omega
   ·rw[jG _ I.p.1];exact I.p.2
   ·omega
   ·rw[jG _ I.pm.1];exact I.pm.2.1
   ·omega
   ·have E:=I.jX d P;have V:=I.gD;exact⟨(jG d J).trans E.1,((same d J ab).trans (N.k d J)).trans E.2⟩
   ·rw[same U J ab,N.k U zc];omega
   ·grind
   omega
  by_cases au:j=0
  ·subst au;have bc:r=i:=by
    obtain⟨aU,aK⟩:=I.eH;have E:i<=r:=Nat.le_of_mul_le_mul_right J d0;rcases aK with aK|aK
    ·omega
    ·have:r-1<i:=NH (a:=Z.C) J;omega
   subst bc;unfold fR at rm;refine mv @rm ?_;refine⟨λ_=>?_,λh=>absurd h (by decide)⟩;refine yl (enc:=sO) (k:=1) (λ_=>rfl) (λ_=>rfl) J (aDv.hE.F λb e=>?_) rs (aR _ _ _) rfl ab λeD hn7 sa=>?_
   ·have:=I.dw b e;exact aq J
   rw[wR]at *
   have aEW:u eD (A+1)=_:=(sa _ J λe=>(I.dw _ e).2.2.1 rfl).trans ((aq J).trans rm);have aBk:IntKind.wrap .i64 (((r*Z.C:Nat):Int)+1)=((r*Z.C+1:Nat):Int):=xJ;refine tN @aEW @aBk ?_;refine⟨_,J,fin _ _ (r+1) _ (some (B+1+1+1)) J (λd eE f0 ia=>?_) (by rw[aR];rfl) (.inr ⟨_,rfl,ab,?_⟩) (.inr ⟨_,rfl,J,J⟩) ⟨?_,.inr ?_⟩⟩
   ·rw[aq f0,sa d J ia,aq J]
   ·rw[aq J,hn7,rv,iU,List.map_singleton,og,g4]
    congr 3
    refine congrArg (·++[rs]) (qE λaH dk=>(hf ?_).symm);have:=CF.1 dk;have:=Nat.mul_lt_mul_of_lt_of_le this (cC Z.C) d0;omega
   all_goals grind
  ·have uh:(((j:Nat):Int) == 0)=false:=rt.2 J;refine tN @uh @xJ ?_;obtain⟨aU,aK⟩:=I.eH;refine⟨_,J,fin _ _ r os eV J (λd _ _ _=>rfl) rm ?_ (.inl ⟨rfl,λ_ _=>rfl⟩) ⟨?_,?_⟩⟩
   ·have:((List.range r).map λaH=>up aJ (i*Z.C+j) rs (aH*Z.C))=(List.range r).map λi=>aJ (i*Z.C):=qE λaH _=>hf λe=>by have:=tD (C:=Z.C) (i:=aH) (j:=0) (aH:=i) (mS:=j) J d0 b5;omega
    rw[this];exact aDv
   ·have E:i*Z.C<r*Z.C:=J
    have V:i<r:=NH E;have:=qD Z.C (show i+1<=r from V)
    grind
   omega
 ·have:k=Z.R*Z.C:=J
  subst this;refine m6 ?_;refine⟨λh=>absurd h (JE _),λ_=>?_⟩;have bc:r=Z.R:=by
   obtain⟨aU,aK⟩:=I.eH;have E:Z.R<=r:=Nat.le_of_mul_le_mul_right aU d0;rcases aK with aK|aK
   ·omega
   ·have:r-1<Z.R:=NH (a:=Z.C) aK;omega
  subst bc;have sp:iC Z x.M av aJ (A+1) A U h (mJ Z.R Z.C) (λ_ _=>[]) 0 0 0 own g aT bT :=
   ⟨I.o1,λi j ag b5=>I.dy i j ag b5 (pQ ag b5),⟨a,ws,os,_,[],fT,eV,none,I.at_,I.ws,I.os,.nil,(nofun),(λb e=>⟨(I.me b e).1,(I.me b e).2.1,(I.me b e).2.2.1,(I.me b e).2.2.2,nofun⟩),(λb e=>⟨(I.dw b e).1,(I.dw b e).2.1,(I.dw b e).2.2.1,(I.dw b e).2.2.2.1,nofun⟩),rfl,(λt v e=>by rw[List.getElem?_nil]at e;cases e),I.p,I.pm⟩,
    ⟨[],0,Hw I.m,(λk v e=>by cases e),λa b e=>absurd rfl e⟩,I.gD,I.jX⟩
  refine(aaW K sp J J).mono ?_;rintro _ a9 B ⟨rfl,dc,cd,ji,_,_⟩;rw[show tM Z.R 0 (mJ Z.R Z.C).a=1 from if_pos λi _=>rfl]at ji;exact⟨A+1,A,aJ,dc,cd,rfl,J,J,ji⟩
end
section
variable {az:Type}
theorem fA.at{h:ae}{B:az->aa X}{k:Nat}{v:X}{l:aa az}{o:aw Nat}(g:fA h B k v l o)(I:∀x,(B x).length=k){i:Nat}{x:az}(K:l[i]? = some x):∃b A P cs E,v = .slice (some ⟨b,A,P⟩) l.length l.length/\o=some b/\u h b=some (.cells cs E)/\hB (some k) (A+i*k) cs = .ok (.agg ⟨B x⟩):=by
 have ag:i<l.length:=ab
 have hm:i*k+k<=l.length*k:=by have:=qD k (show i+1<=l.length from ag);grind
 cases g with
 |nil=>grind
 | @own b _ D =>
  refine⟨b,0,some k,_,false,rfl,rfl,D,?_⟩;rw[iE,o3,if_pos (by rw[fN I];omega),sD I K]
 | @part b A _ cs E D bo V =>
  refine⟨b,A,none,cs,E,rfl,rfl,D,?_⟩;rw[o3,if_pos J,<-x3];have:=congrArg (λz=>(z.drop (i*k)).take k) V;simp only[sD I K,Ft,List.take_take]at this
  grind
end
section
variable {s:al} {g h:ae} {U:Nat} {Z:b8} {own:Nat->Nat} {x:gd} {room:Int} {av L cT c8 cn pm:Nat} {aJ:Nat->Nat} {cK:Nat->Nat->aa ct} {a0:Nat} {au:ae}
def EdJ(R av:Nat)(a:Nat->Nat)(os:X)(h:ae)(U:Nat)(m:Nat)(aF:aa X)(ac:ae)(Y:Nat):Prop:=∃i,m=R-i/\i<=R/\(∀aH,aH<i->a aH=av+1)/\aF=[os,.func (.func 142) #[] #[],.int .i64 0,(R:X),(i:X)]/\ac=h/\Y=U
theorem O3(K:f4 Z)(H:iC Z room av aJ cn pm a0 au x cK cT c8 L own g h U)(kj:∀i,i<Z.R->x.a i<=av+1)(HD:∀t,t<=av->(Z.f8 t=0↔t<av)):aE Q s 71 [bf cn] h U (fs (.bool (decide (∀i,i<Z.R->x.a i=av+1))) U h):=by
 refine aqe ?_;obtain⟨a,ws,os,ar,gR,fT,eV,gf,G⟩:=H.hE;have aY:=G.at_;obtain⟨P,c6,rfl,_⟩:=id G.or;have D:=G.or;rw[wR]at aY D;unfold ada;simp(disch:=omega)only[bk,Of AT,aY,seval];refine(show aE Q s 141 [.slice P Z.R c6,.func (.func 142) #[] #[]] h U (fs (.bool (!decide (∀i,i<Z.R->x.a i=av+1))) U h)from ?_).fZ ?_
 ·refine ain ?_;refine(show aE Q s 235 [.slice P Z.R c6,.func (.func 142) #[] #[]] h U (λr ac Y=>∃y:Int,r = (y:X)/\(0<=y↔¬∀i,i<Z.R->x.a i=av+1)/\ac=h/\Y=U)from ?_).mono ?_
  ·refine aiD ?_;unfold WJ;refine aG ?_;refine bE.mk (EdJ Z.R av x.a (.slice P Z.R c6) h U) Z.R ⟨0,J,J,J,rfl,rfl,rfl⟩ ?_;rintro _ _ ac Y ⟨i,rfl,ag,B,rfl,aU,aK⟩;subst ac Y;rw[aix];unfold Wx
   by_cases A:i<Z.R
   ·obtain⟨c,l,aQ,so,bx,bZ,cw,R⟩:=H.dy i 0 A K.hF;have I:=R.o rfl;obtain⟨b,aB,cap,cs,bG,e,dl,e1,hb⟩:=Bf  D (λ_ _ e=>e) A;cases e;have bO:IntKind.wrap .i64 ((i:Int)+1)=((i+1:Nat):Int):=cD (by have:=K.oa;omega);refine cN @dl @e1 ?_;refine⟨λ_=>?_,λh=>absurd A h⟩;refine amG ?_;refine(XM R.W I.BW).fZ ?_;refine bl @bO ?_;refine⟨λb0=>?_,λeh=>?_⟩
    ·grind
    ·refine⟨_,J,i+1,rfl,J,λaH h=>(Nat.lt_succ_iff_lt_or_eq.1 h).elim (B aH) λe=>?_,rfl,rfl,rfl⟩
     grind
   ·have:i=Z.R:=J
    subst this;refine aG ?_;refine⟨λh=>absurd h J,λ_=>?_⟩
    grind
  ·rintro _ _ _ ⟨y,rfl,V,rfl,rfl⟩;refine aG ?_;refine⟨?_,rfl,rfl⟩
   by_cases E:∀i,i<Z.R->x.a i=av+1
   ·rw[gY E,gY (show y<0 from Int.lt_of_not_ge λh=>V.1 h E)]
   ·have:=V.2 E;rw[hA E,hA (J:¬y<0)]
 ·simp(disch:=omega)only[bk,Bool.not_not,seval];exact⟨rfl,rfl,rfl⟩
theorem akA(H:iC Z room av aJ cn pm a0 au x cK cT c8 L own g h U)(I:1<=L)(D:L<1000):aE Q s 150 [bf cn] h U (fs (((L-1:Nat):X)) U h):=by
 refine amJ ?_;obtain⟨a,ws,os,ar,K,fT,eV,gf,G⟩:=H.hE;have B:=G.at_;have A:=G.ar.lens;rw[G.L]at A;unfold fR at B;unfold aaU;have E:IntKind.wrap .i64 ((L:Int)-1)=((L-1:Nat):Int):=by rw[show(L:Int)-1=((L-1:Nat):Int) by omega];exact ie _ J
 simp(disch:=omega)only[bk,pL AT,B,A,E,seval];exact⟨rfl,rfl,rfl⟩
def To(Z:b8)(t:Nat)(U:Nat)(h:ae)(v:X)(ac:ae)(Y:Nat):Prop:=l2 ac U Y v 0 (Z.N:Int) Z.N (cA Z.N (Z.e3.st t).A) (cA Z.N (Z.e3.st t).B) (Z.e3.st t).q/\aA U h ac/\U<=Y
theorem amO(K:f4 Z)(H:iC Z room av aJ cn pm a0 au x cK cT c8 L own g h U){t:Nat}(cq:t<L)(zd:L<1000):aE Q s 155 [bf cn,(t:X)] h U (λr ac Y=>∃v,r = .tuple ⟨[v,.bool true]⟩/\To Z t U h v ac Y):=by
 refine aqi ?_;obtain⟨a,ws,os,ar,gR,fT,eV,gf,G⟩:=H.hE;have aY:=G.at_;have A:=G.ar.lens;have a6:=G.p.1;have n60:=K.n60;rw[G.L]at A;obtain⟨v,aI⟩:∃v,gR[t]? = some v:=⟨_,lo (by rw[G.L];omega)⟩
 obtain⟨b,off,aB,cs,bG,rfl,B4,aW,iQ⟩:=fA.at G.ar (λ_=>rfl) aI;have q8:=(G.b b B4).1;have E:=G.st t v aI;rw[G.L]at aY A;unfold fR at aY;have BY:∀{o},u (T h U o) cn=_:=λ{o}=>(aq J).trans aY;have hbN:∀{o},u (T h U o) b=_:=λ{o}=>(aq J).trans aW;unfold jp at E;simp only[iE]at E;obtain⟨dq,fw,fD,hv,fP,hl,gm⟩:=E;unfold HE at hv iQ;simp only[Value.agg.injEq,x1,wn,iw]at hv;obtain⟨_,_,rfl,rfl,rfl⟩:=hv;unfold adc;simp(disch:=omega)only[bk,pL AT,BY,A,gY (J:(t:Int)<(L:Int)),hA (J:¬(t:Int)<0),seval];unfold J4;refine hV @BY @hbN @iQ ?_;have b4:∀{o e7 db},aA U h (T (T (T h U o) (U+1) e7) (U+1) db):=aM
 have P:=H.o1.sub;refine⟨λh=>absurd cq h,λ_=>?_⟩;refine(FU ((vn fP P).F  b4 J) (by rw[jl];omega)).mono ?_;rintro v1 h1 a5 ⟨lW,I,fi⟩;refine⟨fi,?_⟩;have bP:=(I (U+1) J).trans (aR _ _ _);have t1:=(I U J).trans ((aq J).trans ((aq J).trans (aR _ _ _)));have cM:=b4.trans I J;simp(disch:=omega)only[bk,bP,gc,seval];refine(FU ((vn hl P).F  cM J) (by rw[jl];omega)).mono ?_;rintro v2 ao bQ ⟨Jc,B,V⟩;refine⟨V,?_⟩;have g2:=(B (U+1) J).trans bP;have t2:=(B U J).trans t1;have er:=cM.trans B J;simp(disch:=omega)only[bk,bP,g2,gc,seval];refine(aaO ((vn gm P).F  er J)).mono ?_;rintro v3 aT bT ⟨Co,D,ga⟩;refine⟨ga,?_⟩;have dp:=(D (U+1) J).trans g2;have t3:=(D U J).trans t2;obtain⟨iD,cz,rfl,_⟩:=id lW;obtain⟨h7,cE,rfl,_⟩:=id Jc;obtain⟨hM,cm,rfl,_⟩:=id Co;simp(disch:=omega)only[bk,bP,g2,dp,t3,gc,seval];exact⟨_,rfl,⟨_,_,_,rfl,lW.F (λd h1 ao=>by rw[aq J,D d J,B d J]) J J,Jc.F (λd h1 ao=>by rw[aq J,D d J]) J J,Co.F ab J J⟩,aM,J⟩
end
section
variable {s:al} {g h:ae} {U:Nat} {Z:b8} {own:Nat->Nat} {x:gd} {room:Int} {av L cT c8 cn pm:Nat} {aJ:Nat->Nat} {cK:Nat->Nat->aa ct} {a0:Nat} {au:ae}
theorem aqq(H:iC Z room av aJ cn pm a0 au x cK cT c8 L own g h U)(h1:cT<=100000)(ao:c8<=100000):
  aE Q s 152 [bf cn] h U (λr ac Y=>∃n:Nat,r = (n:X)/\n<1000000000/\ac=h/\Y=U):=by
 obtain⟨a,ws,os,ar,gR,fT,eV,gf,G⟩:=H.hE;obtain⟨M,c,B⟩:=H.qt;have dV:∀e,∃q:Nat × Nat,e∈M->e.2.1 = .pointer (some ⟨q.1,0,none⟩)/\q.2<=100001/\∀{lJ:al} {ac:ae} {Y:Nat},aA U h ac->aE Q lJ 248 [.pointer (some ⟨q.1,0,none⟩)] ac Y (fs (q.2:X) Y ac):=λe=>by
  by_cases P:e∈M
  case neg=>exact⟨(0,0),λh=>absurd h P⟩
  obtain⟨_,_,b2,aU,S⟩:=B.get e.1 e.2.1 ((Ki B.m.po).2 ⟨e.2.2,P⟩);obtain⟨HO,B0,ea,jB,j4,dz,df,K,l0,aW,_,ar⟩:=S.at
  exact⟨(b2,K),λ_=>⟨aU,by show K<=_;omega,λhk=>aqj ((hk b2 HO).trans aW)⟩⟩
 obtain⟨f,bK⟩:=Classical.skolem.1 dV;have BJ:=awN B.m.po;have aY:=G.at_;have hpg:=G.p.1;have qb:pm<U:=G.m.1;unfold fR at aY;obtain⟨S,aBl⟩:∃S:Nat,S=(M.map λe=>(f e).2).sum:=⟨_,rfl⟩
 have dv:S<=M.length*100001:=by
  subst aBl;have:∀l:aa (i3 × X × Nat),(∀e∈l,e∈M)->(l.map λe=>(f e).2).sum<=l.length*100001:=by
   intro l
   induction l with
   |nil=>simp
   |cons e l eS =>
    intro bo;have:=eS λx bd=>bo x (jZ _ bd);have:=(bK e (bo e (mr ..))).2.1;simp only[uO,List.sum_cons,nC];omega
  exact this M λe P=>P
 refine aE.plain (v:=(S:X)) rfl ?_ ⟨S,rfl,J,rfl,rfl⟩;refine aqa ?_;unfold ac7;simp(disch:=omega)only[bk,Of AT,aY,seval];refine B.m.rR λaT I eY=>?_;refine bE.mk (λm aF ac Y=>∃(E:Nat) (A:aa (i3 × X × Nat)),m=A.length/\aF=[(E:X),bf U]/\xu ac U pm c M A/\E+(A.map λe=>(f e).2).sum=S/\(∀e∈A,e∈M)/\aA U h ac/\U+1<=Y) M.length
  ⟨0,M,rfl,rfl,I,J,λe h=>h,λc a1=>eY c J,J⟩ ?_
 rintro _ _ a9 dP ⟨E,A,rfl,rfl,Jb,hp4,ub,D,g5⟩;rw[amA];unfold YV;refine(B.m.F (D pm qb)).fG Jb J (λaL=>?_) λe V bY P pn Cn h3 xF=>?_
 ·subst aL;refine aG ?_;simp at hp4;exact⟨by rw[hp4],D⟩
 ·have n4:=pn.length_eq;simp only[nC]at n4;have rW:=List.Perm.sum_nat (pn.map λe=>(f e).2)
  rw[uO,List.sum_cons]at rW;rw[(bK e P).1]at xF ⊢;refine bl @xF ?_;refine((bK e P).2.2 λd bh=>(h3 d J).trans (D d bh)).fZ ?_;refine aG ?_;refine⟨_,J,E+(f e).2,V,rfl,?_,Cn,J,λx bd=>ub x (pn.mem_iff.2 (jZ _ bd)),λd bh=>(h3 d J).trans (D d bh),J⟩;rw[<-wm,auR _ J]
theorem akB(K:f4 Z)(H:iC Z room av aJ cn pm a0 au x cK cT c8 (av+1) own g h U)(kF:∀i,i<Z.R->x.a i=av+1)(eI:av<900)(B:∀t,t<=av->(Z.f8 t=0↔t<av)):
  aE Q s 74 [bf cn] h U (λr ac Y=>∃lK V kX kZ tq,r = .agg ⟨[.int .i64 (Z.f8 av),(av:X),lK,V,kX,kZ,tq]⟩/\To Z av U h (.agg ⟨[lK,V,kX,kZ,tq]⟩) ac Y):=by
 refine amF ?_;have b4:∀{o},aA U h (T h U o):=aM
 unfold aaS;simp(disch:=omega)only[bk,pL AT,seval];obtain⟨ah5,bP,ji,_⟩:=H.still (b4 ) (J:U<=U+1);refine(akA ji J J).fZ ?_;rw[NO];refine aG ?_;generalize P:T (T (T h U _) (U+1) _) (U+1) _=ao;have kY:u ao U=some (.cells [(.int .i64 0),(.int .i64 0),(.int .i64 0),(.int .i64 0),(.slice none 0 0),(.slice none 0 0),(.slice none 0 0)] false):=ab
 have lM:u ao (U+1)=some (.cells [(.int .i64 0),(av:X),(.int .i64 0),(.int .i64 0),(.slice none 0 0),(.slice none 0 0),(.slice none 0 0)] false):=ab
 have er:aA U h ao:=by rw[<-P];exact aM
 obtain⟨Tk,g2,D,_⟩:=H.still er (J:U<=U+1+1);refine(O3 K D ab B).fZ ?_;rw[gY kF];obtain⟨a,ws,os,ar,gR,fT,eV,gf,G⟩:=D.hE;have aY:=G.at_;obtain⟨b,aB,cap,cs,bG,rfl,dl,e1,hb⟩:=Bf  G.or (λ_ _ e=>e) (show 0<Z.R from K.lW);unfold fR at aY;obtain⟨c,l,aQ,so,bx,bZ,cw,R⟩:=D.dy 0 0 K.lW K.hF;have kj:=R.o rfl;have A:=kj.BW;rw[kF 0 K.lW,if_neg J,NO]at A;rw[lY]at e1;have ef:=K.lW;refine hV @aY @dl @e1 ?_;have W:=R.W;rw[show 0*Z.C+0=0 by omega]at W;refine(XM W A).fZ ?_;refine bl @lM ?_;generalize I:T ao (U+1) _=aT;have cQ:u aT (U+1)=some (.cells [(.int .i64 (Z.f8 av)),(av:X),(.int .i64 0),(.int .i64 0),(.slice none 0 0),(.slice none 0 0),(.slice none 0 0)] false):=ab
 have jE:=(show u aT U=u ao U by grind).trans kY;have fC:aA U h aT:=by rw[<-I];exact aM
 obtain⟨HF,dp,jj,_⟩:=H.still fC (J:U<=U+1+1);unfold Ox;refine bl @cQ ?_;refine(amO K jj J J).mono ?_;rintro _ a9 dP ⟨v,rfl,⟨dq,fw,fD,rfl,fP,hl,gm⟩,E,g5⟩;have Wc:=(E (U+1) J).trans cQ;have fl:∀{o},u (T a9 (U+1) o) U=_:=λ{o}=>(aq J).trans ((E U J).trans jE);obtain⟨iD,cz,rfl,_⟩:=id fP;obtain⟨h7,cE,rfl,_⟩:=id hl;obtain⟨hM,cm,rfl,_⟩:=id gm;refine bl @Wc ?_;refine AD.2 ⟨rfl,ab,?_⟩;refine bl @fl ?_;refine⟨_,_,_,_,_,rfl,⟨_,_,_,rfl,fP.F ab J J,hl.F ab J J,gm.F ab J J⟩,λd bh=>?_,J⟩;rw[aq J,aq J,E d J];exact fC d bh
end
section
variable {s:al} {h:ae} {U:Nat} {Z:b8} {av W:Nat}
structure yJ (h:ae) (U:Nat) (x:iV) (eW gV e6:X) (Z:b8):Prop where
 K:f4 Z
 H:pY h U x eW gV e6
 zB:cL h U e6 yZ []
 xQ:x.vP=0
 bR:x.bR.length<1000000
 E:hq x=0
 z:Z.k=x.k/\x.n=(Z.N:Int)/\Z.src=x.src/\Z.len=x.len/\Z.bR=x.bR/\x.R=(Z.R:Int)/\x.C=(Z.C:Int)/\x.lim=(Z.lim:Int)
 ai:vw x.k (x.es.map nP) Z.ai
theorem yJ.F{x:iV}{eW gV e6:X}{ac:ae}{Y:Nat}(S:yJ h U x eW gV e6 Z)(B:aA U h ac)(A:U<=Y):yJ ac Y x eW gV e6 Z:={ S with H:=S.H.F B A,zB:=S.zB.F B A }
theorem yJ.room{x:iV}(S:yJ h U x eW gV e6 Z):1<=x.M/\x.M<=64:=by
 have e:=S.E;unfold hq at e
 split at e
 ·omega
 ·split at e
  ·cases e
  ·split at e
   ·cases e
   ·split at e
    ·cases e
    ·rename_i A
     have:kh x.M 64=true:=ab
     unfold kh at this
     grind
def aBm(Z:b8)(room:Int)(av:Nat)(a0:Nat)(au:ae)(W:Nat)(cn pm:Nat)(aJ:Nat->Nat)(m:Nat)(aF:aa X)(ac:ae)(Y:Nat):Prop :=
 ∃k x cK L own g,m=W-k/\k<=W/\aF=[bf cn,(k:X),(W:X),(k:X)]/\iC Z room av aJ cn pm a0 au x cK k k L own g ac Y/\IK Z av (k+1) 0 x cK L
def aBn(Z:b8)(room:Int)(av:Nat)(h:ae)(U:Nat)(cn k:Nat)(ac:ae)(Y:Nat):Prop:=∃pm aJ x cK own g,iC Z room av aJ cn pm U h x cK k k (av+1) own g ac Y/\(∀i,i<Z.R->x.a i=av+1)/\k<=99999
theorem akC{x:iV}(S:yJ h U x eW gV e6 Z)(eI:av<900)(D:∀t,t<=av->(Z.f8 t=0↔t<av))(B:zx Z av)(ip:mI Z.R Z.C av+Z.R<=W)(EH:W<=99999):
  aE Q s 157 [.agg ⟨gJ x eW gV e6⟩,.slice none 0 0,(W:X)] h U (λr ac Y=>∃cn k:Nat,r = .tuple ⟨[bf cn,(k:X),.int .i64 0]⟩/\aBn Z x.M av h U cn k ac Y):=by
 refine YY ?_;have K:=S.K;obtain⟨bg,gw,nx,_⟩:=id S.H.d;obtain⟨bW,tp,Cj,_⟩:=id S.H.e;obtain⟨bM,hj,IX,_⟩:=id S.zB;have hrm:=S.room;unfold PL;subst nx Cj IX;unfold gJ;refine aG ?_;refine(Yv    (S.H.F aM J) ⟨none,0,rfl,λh=>absurd rfl h⟩ ab).cu λh1 a5 cM fi=>?_;have dl:=(cM U J).trans (aR _ _ _);have aL:yX x [] (W:Int)=0:=by unfold yX;rw[if_neg (by rw[S.E];omega),if_neg (by decide),if_neg (by decide),if_neg (by rw[lu J];decide)]
 rw[aL];refine bl @dl ?_;have K01:aA U h h1:=aM
 have fP:=S.F (Y:=a5) K01 J;refine(auh (av:=av) K fP.H fP.zB fP.xQ fP.bR fP.E fP.z fP.ai).mono ?_;rintro _ ao bQ ⟨cn,pm,aJ,own,g,rfl,dK,dr,H⟩;refine aG ?_;have hK:iC Z x.M av aJ cn pm U h (mJ Z.R Z.C) (λ_ _=>[]) 0 0 1 own g ao bQ:={ H with gD:=by have:=H.gD;omega,jX:=λd bh=>⟨(H.jX d J).1,(H.jX d J).2.trans (K01 d bh)⟩ }
 refine bE.mk (λ_ aF ac Y=>aF=[(W:X),bf cn,.slice none 0 0,.int .i64 0,.int .i64 0]/\ac=ao/\Y=bQ) 0 ab ?_;rintro _ _ _ _ ⟨rfl,rfl,rfl⟩;rw[akt];unfold XQ;refine aG ?_;have aDw:=ax3   (av:=av) K.hF K.lW;refine λ_=>bE.mk (aBm Z x.M av U h W cn pm aJ) W ⟨0,mJ Z.R Z.C,λ_ _=>[],1,own,g,rfl,J,rfl,hK,aDw.1,aDw.2,J,0,K.lW,rfl⟩ ?_;rintro _ _ aT bT ⟨k,P,BZ,zQ,A,dp,rfl,hk,rfl,jj,E⟩;rw[aku];unfold XR;have rr:ah7 Z x.M av cn pm U:=⟨K,J,J,hrm.1,hrm.2,eI,D,B⟩
 have dv:∀i,i<Z.R->P.a i<=av+1:=λi ag=>(E.P.ord.au i ag).1
 by_cases cb:k<W
 ·refine aG ?_;refine⟨λ_=>?_,λh=>absurd cb h⟩;refine(O3 K jj dv D).fZ ?_
  by_cases I:∀i,i<Z.R->P.a i=av+1
  ·rw[gY I];refine aG ?_;have fJ:=E.S.fin I;subst fJ;exact⟨cn,k,rfl,pm,aJ,P,BZ,A,dp,jj,I,J⟩
  ·rw[hA I];refine aG ?_;have eh:∃k,k<Z.R*Z.C/\P.out k≠[]:=by obtain⟨i,ag,dR⟩:∃i,i<Z.R/\P.a i≠av+1:=wj ab;exact E.P.more K.hF K.lW (λa b=>E.D.t3 a b J) ag dR
   refine(akz rr jj E J eh).mono ?_;rintro _ a9 dP ⟨rfl,ux,lk4,aEX,⟨V,dZ,ts,_,_⟩,aEY⟩;have xJ:IntKind.wrap .i64 ((k:Int)+1)=((k+1:Nat):Int):=cD J;refine bl @xJ ?_;exact⟨_,J,k+1,ux,lk4,aEX,V,dZ,rfl,cb,rfl,ts,aEY⟩
 ·have:k=W:=J
  subst this;have I:∀i,i<Z.R->P.a i=av+1:=λi ag=>E.P.fin E.D K.hF K.lW J ag;have fJ:=E.S.fin I;subst fJ;refine aG ?_;refine⟨λh=>absurd h J,λ_=>?_⟩;exact⟨cn,k,rfl,pm,aJ,P,BZ,A,dp,jj,I,EH⟩
theorem awP{n k:Int}:rI (pS [(7,1,(n:X)),(8,1,(k:X))]) 0 7 [aC,aD,a2,a3,aZ,bA,bp] [n0,jx,z2,z3,z4,zK,Je,ss,We] = .ok [aC,aD,a2,a3,aZ,bA,bp,(n:X),(k:X)]:=rfl
theorem aui{x:iV}(S:yJ h U x eW gV e6 Z)(eI:av<900)(A:∀t,t<=av->(Z.f8 t=0↔t<av))(B:zx Z av)(ip:mI Z.R Z.C av+Z.R<=W)(EH:W<=99999):
  aE Q s 76 [.agg ⟨gJ x eW gV e6⟩,.slice none 0 0,(W:X)] h U (λr ac Y=>∃lK mP kX kZ tq,∃n k:Nat,r = .tuple ⟨[.agg ⟨[.int .i64 (Z.f8 av),(av:X),lK,mP,kX,kZ,tq,(n:X),(k:X)]⟩,.int .i64 0]⟩/\To Z av U h (.agg ⟨[lK,mP,kX,kZ,tq]⟩) ac Y):=by
 refine ae7 ?_;obtain⟨bg,gw,nx,_⟩:=id S.H.d;obtain⟨bW,tp,Cj,_⟩:=id S.H.e;obtain⟨bM,hj,IX,_⟩:=id S.zB;have K:=S.K;unfold Su;subst nx Cj IX;unfold gJ;have d7:∀{o},u (T (T h U (.cells (gJ x (.slice bg x.bR.length gw) (.slice bW x.es.length tp) (.slice bM ([]:aa (Int × Int)).length hj)) false)) (U+1) o) U=_:=λ{o}=>(aq J).trans (aR _ _ _);refine bl @d7 ?_;generalize MQ:T (T h U _) (U+1) _=h1;have cM:aA U h h1:=by rw[<-MQ];exact aM
 have cr:u h1 (U+1)=some (.cells [(.int .i64 0),(.int .i64 0),(.int .i64 0),(.int .i64 0),(.slice none 0 0),(.slice none 0 0),(.slice none 0 0),(.int .i64 0),(.int .i64 0)] false):=ab
 refine(akC (S.F  cM J) eI A B ip EH).mono ?_;rintro _ ao bQ ⟨cn,k,rfl,pm,aJ,h7,lk2,Tk,g2,gM,kF,hk⟩;refine aG ?_;refine(akB K gM kF eI A).mono ?_;rintro _ aT bT ⟨lK,mP,kX,kZ,tq,rfl,gm,fC,ga⟩;obtain⟨HF,dp,jj,_⟩:=gM.still fC ga;refine(aqq jj J J).mono ?_;rintro _ Bu n3' ⟨n,rfl,bw,aU,E⟩;subst Bu n3';obtain⟨dq,fw,fD,hv,I,V,P⟩:=gm;simp only[Value.agg.injEq,x1,wn,iw]at hv;obtain⟨rfl,rfl,rfl,rfl,rfl⟩:=hv;obtain⟨iD,cz,rfl,_⟩:=id I;obtain⟨x2',cE,rfl,_⟩:=id V;obtain⟨hM,cm,rfl,_⟩:=id P;have kY:=(gM.jX (U+1) J).2.trans cr;have In:=gM.gD;refine bl @awP ?_;generalize Vr:T (T aT bT _) bT _=a9;have D:aA bT aT a9:=by rw[<-Vr];exact aM
 have cQ:u a9 bT=some (.cells [.int .i64 (Z.f8 av),(av:X),.int .i64 0,(Z.N:X),.slice iD (cA Z.N (Z.e3.st av).A).length cz,.slice x2' (cA Z.N (Z.e3.st av).B).length cE,.slice hM (eZ Z.N (Z.e3.st av).q).length cm,(n:X),(k:X)] false):=ab
 obtain⟨Tm,dZ,ts,_⟩:=jj.still D (uQ bT);refine(O3 K ts ab A).fZ ?_;rw[gY kF];have jE:=(D (U+1) J).trans ((fC (U+1) J).trans kY);refine cN @cQ @jE ?_;have jX:∀d,d<U->u a9 d=u h d:=λd bh=>(D d J).trans ((fC d J).trans ((gM.jX d J).2.trans (cM d bh)));refine⟨_,_,_,_,_,n,k,rfl,⟨_,_,_,rfl,I.F (λd aU E=>?_) J J,V.F (λd aU E=>?_) J J,P.F (λd aU E=>?_) J J⟩,λd bh=>?_,J⟩
 ·rw[aq J];exact D d E
 ·rw[aq J];exact D d E
 ·rw[aq J];exact D d E
 grind
end
def wh(o:aw Int):Prop:=∀y,o=some y->0<=y/\y<=dg
theorem QZ:wh none:=λ_ h=>ab
section
variable {r:Int} {Z:b8} {t:Nat}
theorem awQ(I:r≠5){a b:aw Int}(A:wh a)(B:wh b):wh (e4 r a b):=by
 cases a with
 |none=>exact B
 |some a =>
  cases b with
  |none=>exact A
  |some b =>
   intro y D;cases D;have E:=A a rfl;have K:=B b rfl;unfold jR;omega
theorem RV(A:r≠5):∀{l:aa (aw Int)},(∀x∈l,wh x)->wh (fo r l)
 | [],_=>QZ
 |x::l,h=>awQ A (h x ab) (RV A λy B=>h y ab)
theorem afd(P:r≠5){B:aa GE}{x:Nat->aw Int}(I:∀g∈B,wh (x g.t))(V:∀g∈B,0<=g.w)(v:Nat):wh (iJ r B x v):=by
 refine RV P λo K=>?_;obtain⟨g,D,rfl⟩:=f3.1 K
 split
 ·intro y E;cases A:x g.t with
  |none=>grind
  |some z =>
   rw[A]at E;cases E;have h1:=I g D z A;have ao:=V g D;unfold fH;omega
 ·exact QZ
theorem Lb(K:f4 Z){a H b W:Nat}:∀g∈l1 Z.ai a H b W,0<=g.w/\∃cd∈Z.ai,b+g.t=cd.t:=λg E=>by
 obtain⟨cd,A,rfl⟩:=f3.1 E;have B:=(od.1 A).1;have D:=(od.1 A).2;unfold p5 at D;refine⟨(K.w cd B).1,cd,B,?_⟩
 grind
theorem Q0(K:f4 Z):fm Z.k t≠5:=by
 unfold fm;rcases K.hL with h|h|h|h <;> rw[h] <;> simp;omega
theorem aza(K:f4 Z)(E:∀v,v<Z.N->wh (Z.e3.x t v)):Wb Z t where
 c:=λi P v=>by
  refine RV (Q0 K) λo I=>?_;obtain⟨j,_,rfl⟩:=f3.1 I
  split
  ·refine afd (Q0 K) (λg A=>?_) (λg A=>(Lb K g A).1) _;obtain⟨_,cd,B,D⟩:=Lb K g A;rw[D];exact E _ (K.M.mz cd B)
  ·exact QZ
 b:=λi j v=>by refine afd (Q0 K) (λg A=>?_) (λg A=>(Lb K g A).1) v;obtain⟨_,cd,B,D⟩:=Lb K g A;rw[D];exact E _ (K.M.mz cd B)
end
theorem azb{P:Program}{f:FuncId}{l:aa X}{h:ae}{U:Nat}{K:bN}(H:aE P true f l h U K):∃v ac Y,K v ac Y:=by obtain⟨v,ac,Y,A,_⟩:=H;exact⟨v,ac,Y,A⟩
theorem aaY{D:aa X->Go.Ax.R (aa X)}{A:Nat}{x y z w B:X}{c:aa X}:rI D A 5 [x,y,z,w,B] c=if A+5<=c.length then D (c.take A++x::y::z::w::B::c.drop (A+5))else .no "fill" := by
 by_cases h:A+5<=c.length
 ·rw[if_pos h,Kd (n:=5)  rfl h];simp
 ·rw[if_neg h];show(bif Nat.beq (jo [x,y,z,w,B]) 5 then R.of "fill" (m7 [x,y,z,w,B] c A) D else .no "fill - size")=_;rw[tB,if_neg J];rfl
def p9(n:Int):Int:=if 0<=n then min n 8191+1 else 0
def Vu(c9 src r c:Int)(es:aa hZ):iV:=⟨1,c9,src,0,[],c9,es,r,c,4,p9 c9,0⟩
section
variable {s:al} {h:ae} {U:Nat} {c9 src r c:Int} {a:aw Addr} {n cap:Nat} {es:aa hZ} {Z:b8} {av:Nat}
theorem aqr(B : -9223372036854775808<=c9)(D:c9<=9223372036854775807):
  aE Q s 22 [.agg ⟨[(c9:X),.slice a n cap]⟩,(src:X),(r:X),(c:X)] h U (dI (.agg ⟨gJ (Vu c9 src r c es) (.slice none 0 0) (.slice a n cap) (.slice none 0 0)⟩) U h):=by
 refine asv ?_;unfold aer;refine aG ?_;refine⟨λA=>?_,λA=>?_⟩
 ·rw[jM J J];unfold Kn;refine bl @aaY ?_;refine⟨?_,aM,J⟩;unfold gJ Vu p9
  grind
 ·unfold Kn;refine bl @aaY ?_;refine⟨?_,aM,J⟩;unfold gJ Vu p9
  grind
theorem ajm{x:iV}{w:Int}(H:pY h U x eW gV e6)(V:hq x≠0):
  aE Q s 157 [.agg ⟨gJ x eW gV e6⟩,.slice none 0 0,(w:X)] h U (dI (.tuple ⟨[.pointer none,.int .i64 0,.int .i64 (hq x)]⟩) U h):=by
 refine YY ?_;obtain⟨bg,gw,rfl,_⟩:=id H.d;obtain⟨bW,K,rfl,_⟩:=id H.e;obtain⟨bM,P,rfl⟩:=id H.c;unfold PL gJ;refine aG ?_;refine(Yv    (H.F aM J) ⟨none,0,rfl,λh=>absurd rfl h⟩ ab).cu λI a5 E A=>?_;have D:yX x [] w=hq x:=by unfold yX;omega
 rw[D];have B:(hq x == 0)=false:=ab
 refine bl @B ?_;exact⟨rfl,aM,J⟩
def zR9:X:=.agg ⟨[.int .i64 0,.int .i64 0,.int .i64 0,.int .i64 0,.slice none 0 0,.slice none 0 0,.slice none 0 0,.int .i64 0,.int .i64 0]⟩
theorem aqs{x:iV}{w:Int}(H:pY h U x eW gV e6)(V:hq x≠0):
  aE Q s 76 [.agg ⟨gJ x eW gV e6⟩,.slice none 0 0,(w:X)] h U (dI (.tuple ⟨[zR9,.int .i64 (hq x)]⟩) U h):=by
 refine ae7 ?_;obtain⟨bg,gw,rfl,_⟩:=id H.d;obtain⟨bW,I,rfl,_⟩:=id H.e;obtain⟨bM,K,rfl⟩:=id H.c;have P:∀{o aX},aA U h (T (T h U o) (U+1) aX):=aM
 have B:∀{o},u (T (T h U (.cells (gJ x (.slice bg x.bR.length gw) (.slice bW x.es.length I) (.slice bM x.vP K)) false)) (U+1) o) U=_:=λ{o}=>(aq J).trans (aR _ _ _);unfold Su;unfold gJ at B ⊢;refine bl @B ?_;refine(ajm  (H.F  P J) V).cu λh1 a5 D A=>?_;have bP:=(D (U+1) J).trans (aR _ _ _);have E:(hq x == 0)=false:=ab
 refine cN @E @bP ?_;exact⟨rfl,aM,J⟩
theorem amP{l:aa Int}(K:cL h U v c4 l)(I:l.length<1000000)(e:l≠[]):
  aE Q s 88 [v] h U (λr ac Y=>eb ac r c4 1 l U Y/\aA U h ac/\U<=Y):=by
 refine Zy ?_;obtain⟨a,cap,rfl,E⟩:=id K;obtain⟨b,P,V,D,rfl,A⟩:=E e;unfold Qa;simp(disch:=omega)only[bk,Al ahD,seval];have B:aA U h (T h U (.cells [] false)):=aM
 rw[iF]at A;refine⟨λau=>absurd au (by simp),λ_=>?_⟩;rw[RD (u2 _) (aR _ _ _) ((B b D).trans A) ab I];refine⟨.inr ⟨U+1,J,J,rfl,?_⟩,aM,J⟩
 grind
end
section
variable {s:al} {h:ae} {U:Nat} {c9 src r c:Int} {a:aw Addr} {cap:Nat} {es:aa hZ}
theorem auj{C av:Nat}(A:av<=N+1):mI R C av+R<=4*(R+C+4)*(N+1+2):=by
 unfold mI;have B:av*(2*R+C+2)<=(N+1)*(4*(R+C+4)):=sA A J
 grind
theorem azc{az:Type}{h:ae}{A:az->aa X}{k:Nat}{l:aa az}{ap:Nat}(H:eb h v A k l ap ag)(I:ec<=ap):eb h v A k l ec ag:=by
 rcases H with H|⟨b,E,D,B⟩
 ·exact .inl H
 ·exact .inr ⟨b,J,D,B⟩
end
def lvE:aa X:=[.int .i64 0,.int .i64 1,.int .i64 5,.int .i64 1,.int .i64 2,.int .i64 5]
def lvA:aa X:=[.int .i64 0,.int .i64 1,.int .i64 2,.int .i64 (-1)]
def lvB:aa X:=[.int .i64 (-1),.int .i64 0,.int .i64 1,.int .i64 (-1)]
def ah9(h:ae)(b U:Nat):al:=Nat.blt b U&&(match u h b with|some (.cells cs false)=>ov (.agg ⟨cs⟩) (.agg ⟨lvE⟩)|_=>false)
def qm(args:aa X)(h:ae)(U:Nat)(K:bN):Prop:=match args with
 | [.agg ⟨[.int .i64 n,.slice (some ⟨b,0,aB⟩) l cap]⟩,.int .i64 src,.int .i64 r,.int .i64 c]=>v6 (fk n 4&&Nat.beq l 2&&ah9 h b U)
  (Bool.rec (v6 (fk src 4&&fk r 1&&fk c 1) (K (.tuple ⟨[.slice none 0 0,.slice none 0 0,.int .i64 3]⟩) h U))
   (K (.tuple ⟨[.slice (some ⟨U,0,some 1⟩) 4 4,.slice (some ⟨U+1,0,some 1⟩) 4 4,.int .i64 0]⟩) (T (T h U (.cells lvA false)) (U+1) (.cells lvB false)) (U+1+1)) (fk src 0&&fk r 2&&fk c 2))
 |_=>False
def aBo(args:aa X)(h:ae)(U:Nat)(K:bN):Prop:=match args with
 | [.int .i64 r,.slice (some ⟨b,0,aB⟩) l cap]=>v6 (fk r 1&&Nat.beq l 2&&ah9 h b U) (K (.tuple ⟨[.slice (some ⟨U,0,some 3⟩) 2 2,.int .i64 0]⟩) (T h U (.cells lvE false)) (U+1))
 |_=>False
def lvX(f:FuncId):aw (aa X->ae->Nat->bN->Prop):=bif Nat.beq f 16 then some qm else bif Nat.beq f 172 then some aBo else none
def lvT(f:FuncId):aa (aa Nat):=match([(19,[[0,1,4,5]]),(51,[[0,1,4,5]]),(81,[[0,1,6,7,8,9]]),(82,[[3,6,7,8],[3,5,6,7,8]]),(84,[[1,2,4,5,12,13],[4,5,6,7],[4,5,6,7,8,44,45,46]]),(85,[[0,1,4,12,13]]),(162,[[0,2,3]]),(167,[[3,11,12,13]]),(255,[[0,1,4,7,8]])]:aa (Nat × aa (aa Nat))).find? λp=>Nat.beq p.1 f with
 |some p=>p.2
 |none=>[]
def Wk(v:X):Prop:=match v with | .bool true=>True|_=>False
@[irreducible] def lvP(n m:Nat):Prop:=H0 Q lvT lvX n m 18 [] hs 0 (λv _ _=>Wk v)
section
variable {s:al} {h:ae} {U:Nat} {k c9 src r c:Int} {a:aw Addr} {cap:Nat} {es:aa hZ}
def l8(k c9 src r c:Int)(es:aa hZ):iV:=⟨k,c9,src,0,[],c9,es,r,c,4,p9 c9,0⟩
structure ER (k c9 src r c:Int) (es:aa hZ) (Z:b8) (av:Nat):Prop where
 K:f4 Z
 cu:Z.k=k
 eM:c9=(Z.N:Int)
 zE:Z.src=src
 Cc:r=(Z.R:Int)
 Cd:c=(Z.C:Int)
 el:p9 c9=(Z.lim:Int)
 ai:vw k (es.map nP) Z.ai
 f8:∀t,t<=av->(Z.f8 t=0↔t<av)
 le:av<=Z.lim
theorem awR(hk:1<=k/\k<=3)(H:pY h U (l8 k c9 src r c es) (.slice none 0 0) gV (.slice none 0 0))(kF:hq (l8 k c9 src r c es)=0)(bw:c9<=30):
  ∃(Z:b8) (av:Nat),ER k c9 src r c es Z av/\(k≠3->∃v:Nat,Z.src=(v:Int)/\v<Z.N)/\yJ h U (l8 k c9 src r c es) (.slice none 0 0) gV (.slice none 0 0) Z/\av<900/\∃W:Nat,D4 (l8 k c9 src r c es) (p9 c9)=(W:Int)/\mI Z.R Z.C av+Z.R<=W/\W<=99999:=by
 have E:=kF;have V:q0 k c9 src 0 [] c9 es (p9 c9)=0/\(1<=r/\r<=8)/\1<=c/\c<=8:=by
  have key:∀m:Int,kh m 8≠false->1<=m/\m<=8:=λm h=>by
   have:kh m 8=true:=ab
   exact of_decide_eq_true this
  unfold hq l8 at kF
  grind
 obtain⟨V,⟨xr,hr8⟩,Ee,EK⟩:=V;have B:kv k c9 src 0 [] c9 es=0:=by unfold q0 at V;omega
 have A:i5 k c9 src 0 []=0:=by
  unfold kv at B
  omega
 have a6:(0<=c9/\c9<=4096)/\(k≠3->0<=src/\src<=c9-1):=by have a6:=A;unfold i5 at a6;omega
 obtain⟨⟨hg0,_⟩,ar⟩:=a6;obtain⟨_,_,_,m,P,_,dV,gS,h9,_⟩:=azb (YW  H.d H.e H.l B);obtain⟨N,rfl⟩:∃N:Nat,c9=(N:Int):=⟨c9.toNat,J⟩
 obtain⟨R,rfl⟩:∃R:Nat,r=(R:Int):=⟨r.toNat,J⟩
 obtain⟨C,rfl⟩:∃C:Nat,c=(C:Int):=⟨c.toNat,J⟩
 have bo:p9 (N:Int)=((N+1:Nat):Int):=by unfold p9;omega
 rw[Ju]at gS h9;have K:f4 ⟨k,src,0,N,R,C,N+1,[],P⟩:=⟨ab,ab,ab,ab,ab,ab,ab,⟨ab,ab⟩,A,h9,λg aY=>(gS g aY).2.2⟩
 obtain⟨av,I,_,D⟩:=aua ⟨k,src,0,N,R,C,N+1,[],P⟩;have I:av<=N+1:=I;refine⟨⟨k,src,0,N,R,C,N+1,[],P⟩,av,⟨K,rfl,rfl,rfl,rfl,rfl,bo,dV,D,I⟩,λaT=>⟨src.toNat,(by have:=ar aT;show src=_;omega),(by have:=ar aT;show _<N;omega)⟩,⟨K,H,⟨none,0,rfl,λh=>absurd rfl h⟩,rfl,(J:0<1000000),E,⟨rfl,rfl,rfl,rfl,rfl,rfl,rfl,bo⟩,dV⟩,J,4*(R+C+4)*(N+1+2),?_,?_,?_⟩
 ·unfold D4;rw[bo,if_neg (by rw[lu J];decide),if_neg (λh=>h E)];have e:((4*(R+C+4)*(N+1+2):Nat):Int)=4*((R:Int)+(C:Int)+4)*(((N+1:Nat):Int)+2):=ab
  exact e.symm
 ·exact auj I
 ·have:4*(R+C+4)*(N+1+2)<=80*33:=sA J J;omega
end
theorem kL.sub(h:kL (gs.map dJ) (cs.map dJ)):∀c∈cs,c∈gs:=λc D=>by obtain⟨B,_⟩:=(h.vL.mem (dJ c)).1 (f3.2 ⟨c,D,rfl⟩);obtain⟨d,A,e⟩:=f3.1 B;exact RT e ▸ A
theorem PO{g:GE}:g∈yC gs↔∃e∈gs,g=pX e:=by
 unfold yC;simp only[f3,od]
 grind
theorem auk{Z:b8}(K:1<=Z.R){v:Nat}(E:v<Z.N):∃i k,i<Z.R/\k<Z.H i/\v=Z.bB i+k:=by
 have A:∀m,m<=Z.R->v<Z.bB m->∃i k,i<Z.R/\k<Z.H i/\v=Z.bB i+k:=by
  intro m
  induction m with
  |zero=>intro _ h;unfold b8.bB at h;rw[aeI]at h;omega
  |succ m D =>
   intro I h
   by_cases B:v<Z.bB m
   ·exact D J B
   ·exact⟨m,v-Z.bB m,J,by unfold b8.H;omega,J⟩
 exact A Z.R J (by unfold b8.bB;rw[aeJ J];exact E)
theorem amQ{Z:b8}{av:Nat}(a9:Z.k≠4)(V:Z.k≠5)(ef:1<=Z.R)(B:Z.f8 av≠0):av=Z.lim\/∀v,v<Z.N->(Z.e3.st av).q v=false:=by
 by_cases P:av=Z.lim
 ·exact .inl P
 right
 intro v A;unfold b8.f8 wA at B;have K:¬∃i,i<Z.R/\Z.jk av i≠0:=λD=>by rw[gY D]at B;simp at B;omega
 obtain⟨i,k,ag,hk,rfl⟩:=auk ef A;have au:Z.jk av i=0:=wj λh=>K ⟨i,ag,h⟩;unfold b8.jk qT at au;rw[if_neg (λh=>a9 h.1),if_neg V]at au;have I:(en (Z.H i) λk=>(Z.e3.st av).q (Z.bB i+k))=[]:=xW J;apply wj;intro E;have:k∈(en (Z.H i) λk=>(Z.e3.st av).q (Z.bB i+k)):=by unfold en;rw[od];exact⟨CF.2 hk,by simpa using E⟩
 rw[I]at this;cases this
theorem awS(l:aa GE):(l.map dJ).map nP=l:=by rw[pJ];exact(qE λg _=>rfl).trans (Fw l)
theorem azd{h:ae}{U:Nat}(H:cL h U v cR gs):cL h U v iI (gs.map dJ):=by obtain⟨a,cap,rfl,I⟩:=H;refine⟨a,cap,by rw[gX],λA=>?_⟩;obtain⟨b,E,K,D,P,B⟩:=I λe=>A (by rw[e];rfl);exact⟨b,E,K,D,P,by rw[B,KJ];rfl⟩
theorem awT{k B:Nat}{D E:Int}(au:0<N)(d7:N<24)(pq:B<N)(bo:gs.length<=60)(A:∀g∈gs,g7 N g)(dR:1<=D/\D<=4)(aW:1<=E/\E<=4)(hk:1<=k/\k<=3):
  hq ⟨k,N,B,0,[],N,gs.map dJ,D,E,4,p9 N,0⟩=0:=by
 have bc:lq N (gs.map dJ)=0:=Kl.2 ⟨J,J,by rw[gX];omega,λe K=>by obtain⟨g,I,rfl⟩:=f3.1 K;have:=A g I;unfold g7 at this;unfold yS dJ;simp;omega,λe K=>by obtain⟨g,I,rfl⟩:=f3.1 K;have:=A g I;unfold g7 at this;unfold D0 dJ;simp;omega⟩
 have a6:i5 k N B 0 []=0:=by unfold i5;rw[if_neg J,if_neg J,if_neg J,if_neg J,if_neg (by simp),if_neg (by simp)]
 have hm:kv k N B 0 [] N (gs.map dJ)=0:=by unfold kv;rw[a6,bc];simp
 have V:q0 k N B 0 [] N (gs.map dJ) (p9 N)=0:=by unfold q0;rw[hm];unfold p9;simp;omega
 unfold hq;simp only[V];have P:kh D 8=true:=gY J;have aK:kh E 8=true:=gY J;rw[P,aK];rfl
def aBp(U:Nat)(h:ae):bN:=λr ac Y=>r = .bool true/\aA U h ac/\U<=Y
theorem cL.le{az:Type}{A:az->aa X}{h:ae}{U Y:Nat}{l:aa az}(H:cL h U v A l)(B:U<=Y):cL h Y v A l:=H.F (aA.refl _ _) B
theorem adh{i:Nat}{e:GE}(A:cs[i]? = some e):hB (some 3) (i*3) (a7 cR cs) = .ok (.agg ⟨[(e.f:X),(e.t:X),(e.w:X)]⟩):=by have B:=sD (enc:=cR) (k:=3) (λ_=>rfl) A;have ag:=(fb.1 A).1;rw[o3,if_pos (by rw[fN (k:=3) (λ_=>rfl)];omega),B];rfl
def SvJ(l b1:aa Int)(v dX:X)(h:ae)(U:Nat)(m:Nat)(aF:aa X)(ac:ae)(Y:Nat):Prop :=
 ∃i,m=l.length-i/\i<=l.length/\aF=[v,dX,.bool false,(i:X)]/\ac=h/\Y=U/\l.take i=b1.take i
theorem aul{s:al}{h:ae}{U:Nat}{l:aa Int}(aI:cL h U v c4 l)(B:cL h U dX c4 b1)(bo:l.length<1000000):
  aE Q s 19 [v,dX] h U (fs (.bool (decide (l=b1))) U h):=by
 refine avn ?_;obtain⟨a,cap,rfl,a1⟩:=id aI;obtain⟨ea,I,rfl,Bn⟩:=id B;unfold afP;refine aG ?_;refine⟨λA=>?_,λV=>?_⟩
 ·have:¬l=b1:=λe=>by subst e;simp at A
  exact⟨by simp[this],rfl,rfl⟩
 have V:l.length=b1.length:=by
  have ao:(l.length:Int)=(b1.length:Int):=by simpa using V
  omega
 refine bE.mk (SvJ l b1 (.slice a l.length cap) (.slice ea b1.length I) h U) l.length ⟨0,rfl,J,rfl,rfl,rfl,rfl⟩ ?_;rintro m _ _ _ ⟨i,rfl,ag,rfl,rfl,rfl,cq⟩;rw[arI];unfold abE;refine aG ?_;refine⟨λcb=>?_,λeG=>?_⟩
 ·obtain⟨x,K⟩:=dH cb;obtain⟨y,E⟩:=dH (l:=b1) (i:=i) J;obtain⟨_,b,aB,bG,c1,aW,aU,aY⟩:=aI.at K;obtain⟨_,b6,IB,ro',U6,ht,Vv,D⟩:=B.at E;cases aU;cases Vv;rw[iF]at aY D;simp(disch:=omega)only[bk,aY,D,ix K,ix E,seval];refine⟨λA=>?_,λVw=>?_⟩
  ·have:¬l=b1:=λe=>by subst e;rw[K]at E;cases E;simp at A
   exact⟨by simp[this],rfl,rfl⟩
  ·have P:x=y:=by simpa using Vw
   subst P;refine⟨l.length-(i+1),J,i+1,rfl,J,by rw[cD J],rfl,rfl,?_⟩;rw[gW,gW,K,E,cq]
 ·have:i=l.length:=J
  subst this;rw[ic,V,ic]at cq;exact⟨by simp[cq],rfl,rfl⟩
def aBq(l b1:aa Int)(a ea:aw Addr)(cap j4:Nat)(h:ae)(U:Nat)(m:Nat)(aF:aa X)(ac:ae)(Y:Nat):Prop :=
 ∃i,m=l.length-i/\i<=l.length/\aF=[.slice a l.length cap,.slice ea b1.length j4,.bool false,(l.length:X),(i:X)]/\ac=h/\Y=U/\l.take i=b1.take i
theorem aum{s:al}{h:ae}{U:Nat}{l:aa Int}(aI:cL h U v c4 l)(B:cL h U dX c4 b1)(bo:l.length<1000000):
  aE Q s 85 [v,dX] h U (λr ac Y=>r = .bool (decide (l=b1))/\ac=h/\Y=U):=by
 refine ax8 ?_;obtain⟨a,cap,rfl,a1⟩:=id aI;obtain⟨ea,I,rfl,Bn⟩:=id B;unfold ahl;refine aG ?_;refine⟨λA=>?_,λV=>?_⟩
 ·have:¬l=b1:=λe=>by subst e;simp at A
  simp[this]
 have V:l.length=b1.length:=by
  have ao:(l.length:Int)=(b1.length:Int):=by simpa using V
  omega
 refine bE.mk (aBq l b1 a ea cap I h U) l.length ⟨0,rfl,J,rfl,rfl,rfl,rfl⟩ ?_;rintro m _ _ _ ⟨i,rfl,ag,rfl,rfl,rfl,cq⟩;rw[avm];unfold adO;refine aG ?_;refine⟨λcb=>?_,λeG=>?_⟩
 ·obtain⟨x,K⟩:=dH cb;obtain⟨y,E⟩:=dH (l:=b1) (i:=i) J;obtain⟨_,b,aB,bG,c1,aW,aU,aY⟩:=aI.at K;obtain⟨_,b6,IB,ro',U6,ht,Vv,D⟩:=B.at E;cases aU;cases Vv;rw[iF]at aY D;simp(disch:=omega)only[bk,aY,D,ix K,ix E,seval];refine⟨λA=>?_,λVw=>?_⟩
  ·have:¬l=b1:=λe=>by subst e;rw[K]at E;cases E;simp at A
   simp[this]
  ·have P:x=y:=by simpa using Vw
   subst P;refine⟨l.length-(i+1),J,i+1,rfl,J,by rw[cD J],rfl,rfl,?_⟩;rw[gW,gW,K,E,cq]
 ·have:i=l.length:=J
  subst this;rw[ic,V,ic]at cq;simp[cq]
end Go.Proofs.YthlhhajnbgjfmaaGreat
