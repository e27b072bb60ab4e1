/- Parts of the proof: HwFn7: each statement bears its own conditions. -/
import Derived.Test.YthlhhajnbgjfmaaGreatRhHwFn6
namespace Go.Proofs.YthlhhajnbgjfmaaGreat
open Go Go.Ax Go.Ax.HdH
set_option linter.all false
set_option maxHeartbeats 1000000
set_option maxRecDepth 1000000
variable {f7:Nat->aw Int} {v:X} {q:Nat->al} {a3:X} {N:aP} {aV ag:aa GE} {aE:aP} {y:Nat->aw Int} {dX:Nat->al} {us:aa GE} {aj:Nat} {aC a2:X} {es:aa MapEntry} {az:Type} {enc:az->aa X} {dk eJ aZ w:X} {A:aa Int} {aK:aP} {jM iE:X} {r:Int} {k:Nat} {eQ gO a6:X} {len:Int} {d2 dm:Nat} {st:Int} {o:al} {ij V:Nat}
theorem QJ:bin Q .neq 162 (.agg ⟨[.int .i64 0,.int .i64 0]⟩) (.agg ⟨[.int .i64 0,.int .i64 0]⟩) = .ok (.bool false):=by kernel_rfl
structure rV (g h:ae) (U aL:Nat):Prop where
 s:k2 g h
 p:u g aL=none
 n:∀d,U<=d->u g d=none
theorem rV.sub{g h ac:ae}{U aL:Nat}(G:rV g h U aL)(E:∀d,d<U->d≠aL->u ac d=u h d):k2 g ac:=λd o D=>by
 have B:d<U:=E2 λB=>by rw[G.n d B]at D;grind
 rw[E d B λe=>by rw[e,G.p]at D;grind];exact G.s d o D
structure SY (c bM:Nat->X) (t:Nat) (st:Int):Prop where
 a:∀n,n<22\/(23<=n/\n<26)\/(33<=n/\n<38)\/41<=n->bM n=c n
 r:bM 26 = (t:X)
 s:bM 27 = (st:X)
 h:∀n,28<=n->n<33->bM n=if t=0 then c n else c (n+5)
 w:bM 38 = .bool false
 b:bM 39 = .bool true
section
variable {s:al} {g ck h ac:ae} {U Y aL i j:Nat} {c bM:Nat->X} {l:aa et} {aQ:aw Nat} {Z:cb}
def DE(Z:cb)(c:Nat->X)(aL i t b2 cH:Nat)(st:Int)(S:ju)(l:aa et)(aQ:aw Nat)(h:ae)(U:Nat):bR:=λmD ac Y=>mD = .bool true/\∃bM gM dw B,SY c bM t st/\bM 40=(if st=0 then .slice none 0 0 else c 40)/\eX ac Y aL bM i 0 Z.C (l++dw) gM /\
 kG ac U B dw (if st=0 then(List.range Z.C).map (KQ Z i (t+1) (qB Z.k (iB Z.bK Z.N (t / 2)) (t+1) S))else[])/\U<=B/\B<=Y/\(∀b,gM=some b->aQ=some b\/B<=b)/\(st=0->u ac b2=some (.map [] cH))/\(∀d,d<U->d≠aL->(st=0->d≠b2)->aQ≠some d->u ac d=u h d)/\U<=Y
theorem avC{a b:X}(D:c 0=a)(B:c 1=b):hV (some 2) 0 (dx c) = .ok (.agg ⟨[a,b]⟩):=by subst D B;rfl
theorem alY{t b2 cH:Nat}{S:ju}{b8:Nat->X}{D:ae}{I:Nat}(K:fZ Z)(W:eX D I aL b8 i 0 Z.C l aQ)(H:j8 D I b8 Z i 0)(bA:l.length+Z.C<900)(aj:i<Z.R)(E:SY c b8 t st)(zf:b8 40=c 40)(aq:jf D I (.agg ⟨[b8 28,b8 29,b8 30,b8 31,b8 32]⟩) (Z.bB i) (Z.H i) S)(ci:t<900)(mz:b8 41 = .map (some b2))(bp:u D b2=some (.map es cH))(rO:b2<U/\b2≠aL/\aQ≠some b2)(js:st=0\/st=1\/st=2)(L:U<=I)(hkp:∀d,d<U->d≠aL->u D d=u h d):
  ((st == 0)=true->aH Q s 232 [bf aL] D I λx62 P M=>DE Z c aL i t b2 cH st S l aQ h U (.bool true) P M)/\((st == 0)=false->DE Z c aL i t b2 cH st S l aQ h U (.bool true) D I):=by
 have no:st≠0->DE Z c aL i t b2 cH st S l aQ h U (.bool true) D I:=λe=>⟨rfl,b8,aQ,[],U,E,ab,by rw[h6];exact W,by rw[if_neg e];trivial,J,L,ab,J,ab,L⟩
 refine⟨λe=>?_,λe=>no ab⟩
 ·obtain rfl:st=0:=ab
  refine(ajQ K W H bA aj aq E.r ci mz bp ab).mono ?_;rintro _ bc d4 ⟨rfl,bM,ce,dw,B,e40,Nk,hK,aO,hr',bE,wP⟩;refine⟨rfl,bM,some ce,dw,ce,⟨λn bv=>?_,?_,?_,λn h1 ap=>?_,?_,?_⟩,ab,Nk,by rw[if_pos rfl];exact hK.T ab L J,J,by have:=(Nk.aQ ce rfl).2;omega,ab,ab,ab,J⟩
  ·rw[B n J J];exact E.a n bv
  ·rw[B 26 J J];exact E.r
  ·rw[B 27 J J];exact E.s
  ·rw[B n J J];exact E.h n h1 ap
  ·rw[B 38 J J];exact E.w
  ·rw[B 39 J J];exact E.b
theorem aiI{t b2 cH:Nat}{S:ju}{f:et}(K:fZ Z)(W:eX h U aL c i 0 Z.C l aQ)(G:rV g h U aL)(H:j8 g U c Z i 0)(bA:l.length+Z.C<900)(aj:i<Z.R)(ci:t<900)(lZ:f.round=(t:Int))(eN:f.n=st)(js:st=0\/st=1\/st=2)(P:t=0->jf g U (.agg ⟨[c 28,c 29,c 30,c 31,c 32]⟩) (Z.bB i) (Z.H i) S)(E:jf g U (.agg ⟨[c 33,c 34,c 35,c 36,c 37]⟩) (Z.bB i) (Z.H i) S)(Ei:c 26 = ((t-1:Nat):X))(MS:c 27 = .int .i64 0)(M:c 38 = .bool true)(e39:c 39 = .bool (decide (0<t)))(mz:c 41 = .map (some b2))(bp:u h b2=some (.map es cH))(I:b2<U/\b2≠aL/\aQ≠some b2):
  aH Q s 137 [bf aL,.agg ⟨ec f⟩,.agg ⟨[.int .i64 0,.int .i64 0]⟩] h U (DE Z c aL i t b2 cH st S l aQ h U):=by
 refine ajJ ?_;have ct:=W.lt;have bT:∀{o a0},aA U h (F (F h U o) (U+1) a0):=aN
 have D:∀{o a0},u (F (F h U o) (U+1) a0) aL=some (.cells (dx c) false):=λ{o a0}=>(bT aL ct).trans W.at_;have iw:∀{y:Int},((y == y):al)=true:=ab
 have ly:decide (st<0)=false:=ab
 have kO:decide (3<st)=false:=ab
 unfold YC ec;have fin:∀iJ b8,u iJ aL=some (.cells (dx b8) false)->(∀d,d<U->d≠aL->u iJ d=u h d)->(∀n,n<22\/n=22->b8 n=c n)->SY c b8 t st->b8 40=c 40->b8 41=c 41 ->
   ((st == 0)=true->aH Q s 232 [bf aL] iJ (U+2) λx62 h63 n64=>DE Z c aL i t b2 cH st S l aQ h U (.bool true) h63 n64)/\((st == 0)=false->DE Z c aL i t b2 cH st S l aQ h U (.bool true) iJ (U+2)):=λiJ b8 bg hk a1 L zf h41=>by
  refine alY K (W.set  bg ab ab ab ab (λb e=>by have:=W.aQ b e;grind) J) (((H.set ab).T  aN J).sub (G.sub hk)) bA aj L zf (hs.sub (hs.T (U:=U)  (h:=g) ?_ aN J) (G.sub hk)) ci ab ((hk b2 I.1 I.2.1).trans bp) I js J hk;rw[L.h 28 J J,L.h 29 J J,L.h 30 J J,L.h 31 J J,L.h 32 J J]
  by_cases au:t=0
  ·simp only[if_pos au];exact P au
  ·simp only[if_neg au];exact E
 by_cases au:t=0
 ·subst au;have pe:(((0:Nat):Int) == 0)=true:=rfl
  replace lZ:f.round=0:=lZ
  simp(disch:=omega)only[bl,hL,D,e39,show decide (0<0)=false from rfl,seval];unfold Jy;simp(disch:=omega)only[bl,hL,D,W.c1,pe,QJ,M,MS,lZ,eN,ly,iw,seval];refine λ_=>?_;rw[kO];unfold v9;refine G4 @D ?_;unfold Jx;refine aD ?_;refine λ_=>fin _ (hh (hh (hh c 38 (.bool false)) 39 (.bool true)) 27 (st:X)) ab ab (λn bv=>?_) ⟨λn bv=>?_,?_,?_,λn h1 ap=>?_,?_,?_⟩ rfl rfl
  ·rw[dN J,dN J,dN J]
  ·rw[dN J,dN J,dN J]
  ·rw[dN J,dN J,dN J];omega
  ·rfl
  ·rw[dN J,dN J,dN J,if_pos rfl]
  ·rfl
  ·rfl
 ·obtain⟨B,rfl⟩:∃B,t=B+1:=⟨t-1,J⟩
  have bj:decide (0<B+1)=true:=ab
  have VS:IntKind.wrap .i64 ((B:Int)+1)=((B+1:Nat):Int):=cv J;have SZ:c 26 = (B:X):=Ei;have pe:(((0:Nat):Int) == 0)=true:=rfl;have aDE:(st == 3)=false:=ab
  have Ln:(0:Int)<((B+1:Nat):Int):=J
  refine Ld @D @e39 @bj @SZ @VS ?_;unfold Jy;simp(disch:=omega)only[bl,hL,D,W.c1,pe,QJ,M,MS,lZ,eN,ly,iw,seval];rw[kO];unfold v9;refine yu @D @Ln @aDE ?_;unfold Jx;have Mc:(gZ (c 33)&&(gZ (c 34)&&(gZ (c 35)&&(gZ (c 36)&&gZ (c 37)))))=true:=by obtain⟨dr,fC,ft,ht,fx,gD,gg⟩:=E;obtain⟨fA,e8,rfl,_⟩:=id fx;obtain⟨fW,fX,rfl,_⟩:=id gD;obtain⟨f3,h0,rfl,_⟩:=id gg;simp only[Value.agg.injEq,xQ,v0,ik]at ht;obtain⟨HR,DY,a35,a36,MQ⟩:=ht;rw[HR,DY,a35,a36,MQ];rfl
  refine G4 @Mc ?_;refine⟨fin _ (hh (nm (hh (hh (hh c 38 (.bool false)) 39 (.bool true)) 27 (st:X)) 28 [c 33,c 34,c 35,c 36,c 37]) 26 (((B+1:Nat):X))) ab ab (λn bv=>?_) ⟨λn bv=>?_,rfl,rfl,λn h1 ap=>?_,rfl,rfl⟩ rfl rfl,λh=>absurd trivial h⟩
  ·rw[dN J,tv J,dN J,dN J,dN J]
  ·rw[dN J,tv ab,dN J,dN J,dN J]
  ·rw[if_neg J];rcases(by omega:n=28\/n=29\/n=30\/n=31\/n=32)with rfl|rfl|rfl|rfl|rfl <;> rfl
end
theorem ajR{n:Nat}{ef:Nat->aw Int}:(bq n ef).filter (λp=>q p.1)=bq n λk=>if q k=true then ef k else none:=by
 induction n with
 |zero=>rfl
 |succ n B =>
  rw[ty,ty,r9,B]
  grind
def tL(k:Int)(a8:Nat->Int)(t:Nat)(r:Int)(S:ju)(f7:Nat->aw Int):ju where
 A v:=(km k a8 t S v (nf r (if su k S v=true then f7 v else none))).1
 B v:=(km k a8 t S v (nf r (if su k S v=true then f7 v else none))).2.1
 q v:=(km k a8 t S v (nf r (if su k S v=true then f7 v else none))).2.2
theorem AC.T{h ac:ae}{ao U Y:Nat}{w:X}{o:al}{n:Nat}{q:Nat->al}(H:AC h ao U w o n q)(D:∀d,ao<=d->d<U->u ac d=u h d)(B:U<=Y):AC ac ao Y w o n q:=by
 rcases H with H|⟨e,H⟩
 ·exact .inl H
 ·exact .inr ⟨e,eG.T H D J B⟩
section
variable {s:al} {g ck h ac:ae} {U Y aL i j:Nat} {c bM:Nat->X} {l:aa et} {aQ so:aw Nat} {Z:cb}
theorem aps{ao:Nat}{p:Nat × Int}{B D n:Nat}(bv:n<=60)(g6:AC h ao U w o n q)(h1:u h B=some (.cells [w] false))(M:u h D=some (.cells [.bool o] false))(cI:B<U)(bQ:D<U)(P:p.1<n):
  aH Q s 333 [.agg ⟨eK p⟩,bf B,bf D] h U (dJ (.bool (!q p.1)) U h):=by
 refine aiG ?_;have E:∀{o},aA U h (F h U o):=aN
 have g1:∀{o},u (F h U o) B=some (.cells [w] false):=ab
 have K:∀{a0},u (F h U a0) D=some (.cells [.bool o] false):=ab
 have I:=M;unfold Xs;rw[show eK p=[(p.1:X),.int .i64 (p.2 / 18446744073709551616),.int .u64 (p.2 % 18446744073709551616)]from rfl];refine bh @g1 ?_;rcases g6 with⟨rfl,rfl,dt⟩|⟨rfl,L⟩
 ·refine(QF ).fM ⟨J,?_⟩;simp(disch:=omega)only[bl,K,I,gk,seval];exact⟨ab,E,J⟩
 ·refine(KP   J P (cr.T L.rd  E J)).fM ⟨J,?_⟩;simp(disch:=omega)only[bl,K,I,gk,seval];exact⟨by cases q p.1 <;> rfl,E,J⟩
theorem rV.S0(G:rV g h U aL)(I:∀b,so=some b->u g b=none)(E:∀d,d<U->d≠aL->so≠some d->u ac d=u h d):k2 g ac:=λd o D=>by
 have B:d<U:=E2 λB=>by rw[G.n d B]at D;grind
 rw[E d B (λe=>by rw[e,G.p]at D;grind) ab];exact G.s d o D
theorem aiJ{t:Nat}{S:ju}(K:fZ Z)(W:eX h U aL c i 0 Z.C l aQ)(G:rV g h U aL)(H:j8 g U c Z i 0)(bA:l.length<900)(aj:i<Z.R)(D:1<=t)(ci:t<900)(aq:jf g U (.agg ⟨[c 28,c 29,c 30,c 31,c 32]⟩) (Z.bB i) (Z.H i) S)(bp:mZ h (c 40) (bq (Z.H i) λk=>f7 (Z.bB i+k)) so)(oZ:∀b,so=some b->b<U/\b≠aL/\aQ≠some b/\u g b=none)(vT:∀v y,f7 v=some y->0<=y/\y<=eI):
  aH Q s 230 [bf aL,(t:X)] h U (λmD ac Y=>mD = .tuple ⟨[]⟩/\∃bM ce,(∀n,n≠22->n≠38->n≠40->(n<33\/38<=n)->bM n=c n)/\bM 38 = .bool true/\bM 40 = .slice none 0 0 /\
   lO ac U ce (.agg ⟨[bM 33,bM 34,bM 35,bM 36,bM 37]⟩) (Z.bB i:Int) ((Z.bB i+Z.H i:Nat):Int) (Z.H i) (cn (Z.H i) λk=>(tL Z.k (iB Z.bK Z.N ((t-1) / 2)) t (gd Z.k t) S f7).A (Z.bB i+k)) (cn (Z.H i) λk=>(tL Z.k (iB Z.bK Z.N ((t-1) / 2)) t (gd Z.k t) S f7).B (Z.bB i+k)) (λk=>(tL Z.k (iB Z.bK Z.N ((t-1) / 2)) t (gd Z.k t) S f7).q (Z.bB i+k)) /\
   eX ac Y aL bM i 0 Z.C (l++[CZ ((i*Z.C+0:Nat):Int) t (qz Z.k Z.len t (Z.H i) (cn (Z.H i) λk=>(tL Z.k (iB Z.bK Z.N ((t-1) / 2)) t (gd Z.k t) S f7).A (Z.bB i+k)) (λk=>(tL Z.k (iB Z.bK Z.N ((t-1) / 2)) t (gd Z.k t) S f7).q (Z.bB i+k)):Int) false]) (some ce)/\U<=ce /\
   (∀d,d<U->d≠aL->aQ≠some d->so≠some d->u ac d=u h d)/\U<=Y):=by
 refine ajL ?_;generalize UL:tL Z.k (iB Z.bK Z.N ((t-1) / 2)) t (gd Z.k t) S f7=jD;have ct:=W.lt;have sD:=aq;obtain⟨dr,fC,ft,ht,fx,gD,gg⟩:=aq;obtain⟨fA,e8,rfl,_⟩:=id fx;obtain⟨fW,fX,rfl,_⟩:=id gD;obtain⟨f3,h0,rfl,_⟩:=id gg;simp only[Value.agg.injEq,xQ,v0,ik]at ht;obtain⟨qS,p5,M,i4,ge⟩:=ht;rw[qS,p5,M,i4,ge]at sD;obtain⟨bk,gj,pb,_⟩:=id H.d;have fV:=H.k0 K;rw[pb]at fV;have Im:=yv K i;have ua:Z.bB i+Z.H i<=Z.N:=by unfold cb.H;omega
 have hPd:pw h U (.slice bk Z.bK.length gj) Z.k Z.src Z.len Z.N Z.bK:={ fV with d:=u9 fV.d G.s }
 have hsh:=hs.sub sD G.s;obtain⟨am,IV,oi,em⟩:∃a n bM,c 40 = .slice a n bM:=by rcases bp with⟨_,e,_⟩|⟨_,_,e,_⟩ <;> grind
 unfold YD;simp(disch:=omega)only[bl,hL,W.at_,H.aK,H.cf,H.dT,H.h5,pb,qS,p5,M,i4,ge,seval];refine(alM hPd hsh ua).mono ?_;rintro _ B E ⟨w,o,rfl,g6,eW,fg⟩;refine⟨fg,?_⟩;obtain⟨gx,fj,nF,rfl⟩:∃a n bM,w = .slice a n bM:=by
  rcases g6 with⟨_,e,_⟩|⟨_,b0⟩
  ·grind
  ·obtain⟨a,bM,e,_⟩:=b0
   grind
 have dc:u B aL=some (.cells (dx c) false):=(eW aL ct).trans W.at_;refine u7 @dc @em ?_;rw[em]at bp;have eA:∀{eF dP gh l0},aA U h (F (F (F (F B E eF) (E+1) dP) E gh) (E+1) l0):=aN
 have UM:∀{eF dP gh l0},mZ (F (F (F (F B E eF) (E+1) dP) E gh) (E+1) l0) (.slice am IV oi) (bq (Z.H i) λk=>f7 (Z.bB i+k)) so:=bp.T λb e=>eA b ab;have gz:=me (Z.H i) λk=>f7 (Z.bB i+k);have fK:=ahp K i;refine(apj (q:=λp=>!su Z.k S (Z.bB i+p.1)) J UM ab λp bg ac Y hk dO=>?_).mono ?_
 ·have cu:∀d,d<E+2->U<=d->u ac d=u _ d:=λd D B=>hk d D λe=>ab
  have tX:p.1<Z.H i:=((jS  ).1 bg).1;have g1:=cu E J J;rw[ar J,aT]at g1;have g2:=cu (E+1) J J;rw[aT]at g2;exact aps  J (AC.T g6 ab J) g1 g2 J J tX
 rintro eQ L bW ⟨dn,e1,gJ⟩;have qc:((bq (Z.H i) λk=>f7 (Z.bB i+k)).filter λp=>!!su Z.k S (Z.bB i+p.1))=bq (Z.H i) λk=>if su Z.k S (Z.bB i+k)=true then f7 (Z.bB i+k)else none:=by simp only[Bool.not_not];exact ajR (q:=λk=>su Z.k S (Z.bB i+k))
 rw[qc]at dn;have ja:u L aL=some (.cells (dx c) false):=ab
 simp(disch:=omega)only[bl,hL,ja,H.aK,qS,p5,M,i4,ge,seval];obtain⟨fL,Ef⟩:∃fL,nm (hh c 40 (.slice none 0 0)) 33 [.int .i64 (Z.bB i:Int),((Z.bB i+Z.H i:Nat):X),.slice fA (cn (Z.H i) λj=>S.A (Z.bB i+j)).length e8,.slice fW (cn (Z.H i) λj=>S.B (Z.bB i+j)).length fX,.slice f3 (eT (Z.H i) λj=>S.q (Z.bB i+j)).length h0]=fL:=⟨_,rfl⟩
 have mC:∀n,n<33->fL n=c n:=λn bv=>by rw[<-Ef,tv J,dN J]
 rw[Ef,mC 2 J,H.aK];refine(PC  K.hj J).fM ⟨cD _,?_⟩;simp(disch:=omega)only[bl,hL,mC 11 J,H.c11,seval];have hY':∀k y,(if su Z.k S (Z.bB i+k)=true then f7 (Z.bB i+k)else none)=some y->0<=y/\y<=eI:=λk y e=>ab
 refine(ao3 (QI K.hj) J (((dn.T   (λb e=>ab) λ_ e=>e).c λb e=>ab).o) hY').mono ?_;rintro _ b3 fP ⟨w,rfl,lG,gf,nl⟩;refine⟨nl,?_⟩;have hV0:=lG;obtain⟨VJ,rfl,hvi⟩:=lG;obtain⟨cG,k7,rfl,_⟩:=id hvi;have aDF:∀{o},u (F b3 fP o) aL=some (.cells (dx fL) false):=λ{o}=>by rw[ar J,gf aL J,aT]
 have pe:bin Q .neq 30 (.int .i64 0) (.int .i64 0) = .ok (.bool false):=rfl;have h3:bin Q .eql 30 (.int .i64 0) (.int .i64 0) = .ok (.bool true):=rfl;simp(disch:=omega)only[bl,hL,aDF,mC,H.aK,H.cf,H.dT,H.h5,pb,qS,p5,M,i4,ge,pe,h3,seval];have r2:∀{o a0} d,d<U->d≠aL->so≠some d->u (F (F b3 fP o) fP a0) d=u h d:=λ{o a0} d D B L=>by rw[ar J,ar J,gf d J,ar B,ar B,e1 d J L];exact eA d D
 have aCl:∀{o a0},k2 g (F (F b3 fP o) fP a0):=λ{o a0}=>G.S0 (λb e=>(oZ b e).2.2.2) r2;refine(ajE    (pw.T  { fV with d:=u9 fV.d aCl } (aA.refl _ _) J) (hs.T  (hs.sub sD aCl) (aA.refl _ _) J) ((hV0.T   (λb D B=>ab) J J).is) ua D J).mono ?_;rintro VO ev n7 ⟨EM,hk7,tI⟩
 replace EM:lO ev (fP+1) n7 VO (Z.bB i:Int) ((Z.bB i+Z.H i:Nat):Int) (Z.H i) (cn (Z.H i) λk=>jD.A (Z.bB i+k)) (cn (Z.H i) λk=>jD.B (Z.bB i+k)) (λk=>jD.q (Z.bB i+k)):=by subst UL;exact EM
 have hU0:=EM;obtain⟨aEv,aEw,aEx,rfl,aDG,aDH,aDI⟩:=EM;obtain⟨Vs,aW,rfl,_⟩:=id aDG;obtain⟨Ey,aK,rfl,_⟩:=id aDH;obtain⟨zq,cf,rfl,_⟩:=id aDI;have aDJ:u ev aL=some (.cells (dx fL) false):=(hk7 aL J).trans ab;have aDK:∀d,d<U->d≠aL->so≠some d->u ev d=u h d:=λd D B L=>(hk7 d J).trans (r2 d D B L);refine G4 @aDJ ?_;obtain⟨i7,I⟩:∃i7,nm fL 33 [.int .i64 (Z.bB i:Int),((Z.bB i+Z.H i:Nat):X),.slice Vs (cn (Z.H i) λk=>jD.A (Z.bB i+k)).length aW,.slice Ey (cn (Z.H i) λk=>jD.B (Z.bB i+k)).length aK,.slice zq (eT (Z.H i) λk=>jD.q (Z.bB i+k)).length cf]=i7:=⟨_,rfl⟩
 rw[I];have P:∀n,(n<33\/38<=n)->n≠40->i7 n=c n:=λn bv au=>by rw[<-I,tv bv,<-Ef,tv bv,dN au]
 have Nl:∀{o} d,d<U->d≠aL->so≠some d->u (F ev aL o) d=u h d:=λ{o} d D B L=>(ar B).trans (aDK d D B L);have aDL:∀{o},k2 g (F ev aL o):=λ{o}=>G.S0 (λb e=>(oZ b e).2.2.2) Nl;refine⟨J,(Xv (S:=jD) (low:=Z.bB i) (m:=Z.H i) (W.set (Y:=n7) (aT _ _ _) (P 0 J J) (P 1 J J) (P 8 J J) (P 22 J J) (λb e=>by have:=W.aQ b e;grind) J) bA (pw.T (Y:=n7) (eQ:=i7 6) { fV with d:=?_ } (aA.refl _ _) J) ((P 2 J J).trans H.aK) ((P 3 J J).trans H.cf) ((P 4 J J).trans H.dT) ((P 5 J J).trans H.h5) ?_ ua).mono ?_⟩
 ·rw[P 6 J J,pb];exact cr.T (u9 fV.d aDL) (aA.refl _ _) J
 ·rw[<-I];exact(hU0.wid (d2:=0) (dm:=n7) (λd D B=>ar J) J (cD _)).rd
 rintro _ m8 n8 ⟨rfl,dF,ce,VT,gK,BB,ahr⟩;refine⟨_,ce,λn D B L bc=>?_,?_,?_,?_,VT,J,λd D B L bc=>(BB d J B L).trans (Nl d D B bc),J⟩
 ·rw[dN D,dN B];grind
 ·rfl
 ·rw[dN J,dN J,<-I,tv (by simp),<-Ef,tv (by simp)];rfl
 ·rw[dN J,dN J,dN J,dN J,dN J,dN J,dN J,dN J,dN J,dN J,<-I];exact hU0.wid (λd D B=>by rw[BB d B J (λe=>by have:=W.aQ d e;omega),ar J]) J gK
end
theorem KB{n:Nat}(v:Nat):jL r (bq n f7) v=if v<n then f7 v else none:=by
 have h:=λx=>Q6 (r:=r)  (yh n f7) v x;cases B:jL r (bq n f7) v with
 |none =>
  split
  ·cases D:f7 v with
   |none=>rfl
   |some y =>
    have:=(h y).2 (jS.2 ab)
    grind
  ·rfl
 |some x =>
  have:=jS.1 ((h x).1 B)
  grind
theorem as9{n:Nat}{D:aa (Nat × Int)}(M:y3 r D [] λv=>jL r (bq n f7++bq n y) v):D=bq n λv=>e0 r (f7 v) (y v):=by rw[M.done (n:=n) λv B=>by rw[x9,KB,KB,if_neg J,if_neg J];rfl];refine x8 λv B=>?_;rw[x9,KB,KB,if_pos B,if_pos B]
theorem iF.Nn{l:aa az}{h:ae}{ao:Nat}(B:0<k)(E:∀x,(enc x).length=k)(H:iF h ao aj v enc k l):my h aj v enc k l:=by
 rcases H with⟨rfl,rfl|⟨b,rfl⟩⟩|⟨b,K,I,rfl,D⟩
 ·exact⟨_,_,rfl,λh=>absurd rfl h⟩
 ·exact⟨_,_,rfl,λh=>absurd rfl h⟩
 ·exact d1.c B E (.inr ⟨b,K,I,rfl,D⟩)
theorem d1.aDM{h:ae}{ao:Nat}{L:aa (Nat × Int)}(H:d1 h v eK 3 L ao aj):∃so,mZ h v L so/\∀b,so=some b->ao<=b/\b<aj:=by
 rcases H with⟨rfl,rfl⟩|⟨b,E,D,rfl,B⟩
 ·exact⟨none,.inl ab,ab⟩
 ·exact⟨some b,.inr ⟨b,rfl,rfl,B⟩,ab⟩
theorem nv:wm Q 3=true:=by kernel_rfl
theorem az3:bin Q .neq 86 (.int .i64 0) (.int .i64 0) = .ok (.bool false):=by kernel_rfl
def GaK(Z:cb)(c:Nat->X)(aL i t b2 ij:Nat)(S:ju)(f7 y:Nat->aw Int)(dX:Nat->al)(l:aa et)(aQ:aw Nat)(h:ae)(U:Nat):bR:=λmD ac Y=>mD = .bool true/\∃bM gM rW dw,iD ac b2 Z.C (λk=>if k=ij then true else dX k) (λ_ v=>v = .bool true)/\U<=Y/\(∀d,d<U->d≠aL->d≠b2->aQ≠some d->u ac d=u h d) /\
   eX ac Y aL bM i 0 Z.C (l++dw) gM/\(∀b,rW=some b->U<=b/\b<Y/\gM≠some b) /\
   ((∃k,k<Z.C/\(if k=ij then true else dX k)=false)/\(∀n,n≠40->bM n=c n)/\dw=[]/\gM=aQ/\mZ ac (bM 40) (bq (Z.H i) λk=>e0 (gd Z.k t) (f7 (Z.bB i+k)) (y (Z.bB i+k))) rW \/
   (∀k,k<Z.C->(if k=ij then true else dX k)=true)/\(∀n,n≠22->n≠38->n≠40->(n<33\/38<=n)->bM n=c n)/\bM 38 = .bool true/\bM 40 = .slice none 0 0/\rW=none/\∃ce jD,gM=some ce/\jD=tL Z.k (iB Z.bK Z.N ((t-1) / 2)) t (gd Z.k t) S (λv=>e0 (gd Z.k t) (f7 v) (y v))/\U<=ce /\
    lO ac U ce (.agg ⟨[bM 33,bM 34,bM 35,bM 36,bM 37]⟩) (Z.bB i:Int) ((Z.bB i+Z.H i:Nat):Int) (Z.H i) (cn (Z.H i) λk=>jD.A (Z.bB i+k)) (cn (Z.H i) λk=>jD.B (Z.bB i+k)) (λk=>jD.q (Z.bB i+k)) /\
    dw=[CZ ((i*Z.C+0:Nat):Int) t (qz Z.k Z.len t (Z.H i) (cn (Z.H i) λk=>jD.A (Z.bB i+k)) (λk=>jD.q (Z.bB i+k)):Int) false])
section
variable {s:al} {g ck h ac:ae} {U Y aL i j ao:Nat} {c bM:Nat->X} {l:aa et} {aQ so:aw Nat} {Z:cb}
theorem aiK{f:et}{p:ky}{t b2:Nat}{S:ju}(K:fZ Z)(W:eX h U aL c i 0 Z.C l aQ)(G:rV g h U aL)(H:j8 g U c Z i 0)(bA:l.length<900)(aj:i<Z.R)(E:1<=t)(ci:t<900)(bE:lw h ao U f p)(lZ:p.round=(t:Int))(gy:p.nE=bq (Z.H i) λk=>y (Z.bB i+k))(vT:∀v x,f7 v=some x->0<=x/\x<=eI)(cd:∀v x,y v=some x->0<=x/\x<=eI)(cL:∀v x,e0 (gd Z.k t) (f7 v) (y v)=some x->0<=x/\x<=eI)(aq:jf g U (.agg ⟨[c 28,c 29,c 30,c 31,c 32]⟩) (Z.bB i) (Z.H i) S)(bp:mZ h (c 40) (bq (Z.H i) λk=>f7 (Z.bB i+k)) so)(oZ:∀b,so=some b->b<U/\b≠aL/\aQ≠some b)(Ei:c 26 = ((t-1:Nat):X))(MS:c 27 = .int .i64 0)(e38:c 38 = .bool false)(mz:c 41 = .map (some b2))(iv:iD h b2 Z.C dX λ_ v=>v = .bool true)(L:b2<U/\b2≠aL/\aQ≠some b2/\u g b2=none)(bZ:ij<Z.C)(hi:dX ij=false):
  aH Q s 135 [bf aL,.agg ⟨ec f⟩,.agg ⟨[(i:X),(ij:X)]⟩] h U (GaK Z c aL i t b2 ij S f7 y dX l aQ h U):=by
 refine ajI ?_;have ct:=W.lt;obtain⟨B,rfl⟩:∃B,t=B+1:=⟨t-1,J⟩
 have bT:∀{o a0},aA U h (F (F h U o) (U+1) a0):=aN
 have o2:∀{o a0},u (F (F h U o) (U+1) a0) aL=some (.cells (dx c) false):=λ{o a0}=>(bT aL ct).trans W.at_;have VS:IntKind.wrap .i64 ((B:Int)+1)=((B+1:Nat):Int):=cv J;have SZ:c 26 = (B:X):=Ei;have pe:(((0:Nat):Int) == 0)=true:=rfl;have iw:∀{y:Int},((y == y):al)=true:=ab
 have fK:=ahp K i;have UN:f.round=((B+1:Nat):Int):=bE.is.round.trans lZ;have HS:∀{o a0},iD (F (F h U o) (U+1) a0) b2 Z.C dX λ_ v=>v = .bool true:=λ{o a0}=>iv.T ab ab;have BC:∀{o a0},jV Q (F (F h U o) (U+1) a0) 3 (.bool false) false (.map (some b2)) (ij:X) = .ok (.bool false):=λ{o a0}=>by obtain⟨v,e,_⟩:=(HS  ).get nv bZ;rw[hi]at e;exact e
 unfold YA ec;simp(disch:=omega)only[bl,hL,o2,W.pi,W.c1,pe,iw,MS,az3,e38,UN,SZ,VS,mz,BC,seval];have ev:=bE.i7;rw[gy]at ev;have gz:=me (Z.H i) λk=>y (Z.bB i+k);have aBb:=me (Z.H i) λk=>f7 (Z.bB i+k);refine(ajP  o2 J H.c11 ((my.o (iF.Nn (k:=3) J (λ_=>rfl) ev)).T  bT J) J (yh _ _) λq dt=>((jS  ).1 dt).1).cu λI bX eW fg=>⟨fg,?_⟩
 have dc:=(eW aL J).trans o2;have g8:=(eW U J).trans ((ar J).trans (aT _ _ _));have de:=(eW (U+1) J).trans (aT _ _ _);unfold xW;refine AD @dc @g8 @de H.aK ?_;refine(PC  K.hj J).fM ⟨J,?_⟩;obtain⟨am,IV,oi,em⟩:∃a n bM,c 40 = .slice a n bM:=by rcases bp with⟨_,e,_⟩|⟨_,_,e,_⟩ <;> grind
 refine AD @dc @g8 @de @em ?_;rw[em]at bp;have UO:∀{o},aA U h (F I bX o):=aN
 have hLs:AV (F I bX (.cells [.slice am IV oi,.slice f.a6 f.n7 f.i7] false)) (bX+1) (.slice (some ⟨bX,0,none⟩) 2 2) [(.slice am IV oi,bq (Z.H i) λk=>f7 (Z.bB i+k)),(.slice f.a6 f.n7 f.i7,bq (Z.H i) λk=>y (Z.bB i+k))]:=by
  refine⟨cr.o  ab ⟨_,_,rfl,λ_=>⟨bX,none,false,J,rfl,aT _ _ _⟩⟩,λq dt=>?_⟩;rcases gQ.1 dt with rfl|dt
  ·exact⟨my.T (bp.b.c ab) UO J,yh _ _,ab,λa cW=>vT _ _ ((jS  ).1 cW).2⟩
  ·rw[iU.1 dt];exact⟨my.T (iF.Nn  J (λ_=>rfl) ev) UO J,yh _ _,ab,λa cW=>cd _ _ ((jS  ).1 cW).2⟩
 have aDN:rr [(Value.slice am IV oi,bq (Z.H i) λk=>f7 (Z.bB i+k)),(Value.slice f.a6 f.n7 f.i7,bq (Z.H i) λk=>y (Z.bB i+k))]=(bq (Z.H i) λk=>f7 (Z.bB i+k))++bq (Z.H i) λk=>y (Z.bB i+k):=by
  show _++(_++[])=_
  grind
 refine(Yx (QI K.hj) (by simp) hLs ab).mono ?_;rintro _ D bW ⟨w,fy,rfl,b0,zd,P,gJ⟩;refine⟨J,?_⟩;rw[aDN]at zd;rw[as9 zd]at b0;obtain⟨rW,kc,S1⟩:=d1.aDM b0;obtain⟨gx,fj,nF,rfl⟩:∃a n bM,w = .slice a n bM:=by rcases kc with⟨_,e,_⟩|⟨_,_,e,_⟩ <;> grind
 have fD:aA U h D:=UO.trans P J;have ja:=(P aL J).trans ((ar J).trans dc);have gs:=(P U J).trans ((ar J).trans g8);have eE:=(P (U+1) J).trans ((ar J).trans de);have r0':∀{o},u (F D aL o) U=_:=λ{o}=>(ar J).trans gs;have r1':∀{o},u (F D aL o) (U+1)=_:=λ{o}=>(ar J).trans eE;obtain⟨o,f5,fw⟩:=(iv.T (ac:=F D aL (.cells (dx (hh c 40 (.slice gx fj nF))) false)) ((ar L.2.1).trans (fD b2 L.1)) λ_ _ h=>h).put  nv bZ hi rfl;have M:=fw (F (F D aL (.cells (dx (hh c 40 (.slice gx fj nF))) false)) b2 o) (aT _ _ _);obtain⟨m,aW,aK,cf⟩:=M.len;have nA:u (F (F D aL (.cells (dx (hh c 40 (.slice gx fj nF))) false)) b2 o) aL=some (.cells (dx (hh c 40 (.slice gx fj nF))) false):=(ar (λe=>L.2.1 e.symm)).trans (aT _ _ _);have nJ:u (F (F D aL (.cells (dx (hh c 40 (.slice gx fj nF))) false)) b2 o) U=_:=(ar J).trans r0';rw[show hW ij = (ij:X)from rfl]at f5;simp(disch:=omega)only[bl,hL,ja,r1',mz,f5,nA,aW,W.g9,nJ,seval];generalize MT:F (F D aL _) b2 o=ii at M nA nJ ⊢;have r2:∀d,d<U->d≠aL->d≠b2->u ii d=u h d:=λd E I D=>by rw[<-MT,ar D,ar I];exact fD d E
 have aCm:eX ii bW aL (hh c 40 (.slice gx fj nF)) i 0 Z.C l aQ:=W.set nA (dN J) (dN J) (dN J) (dN J) (λb e=>by have:=W.aQ b e;grind) J;have hO5:mZ ii (.slice gx fj nF) (bq (Z.H i) λk=>e0 (gd Z.k (B+1)) (f7 (Z.bB i+k)) (y (Z.bB i+k))) rW:=kc.T λb e=>ab
 refine⟨λe=>?_,λe=>?_⟩
 ·have nj:∀k,k<Z.C->(if k=ij then true else dX k)=true:=λk hk=>ab
  refine(aiJ  (f7:=λv=>e0 (gd Z.k (B+1)) (f7 v) (y v))  K aCm ⟨λd o bj=>?_,G.p,λd bj=>G.n d J⟩ ((H.set λn E I=>dN J).T  (aA.refl _ _) J) bA aj E ci (hs.T aq (aA.refl _ _) J) hO5 (λb e=>?_) cL).mono ?_
  ·have E:d<U:=E2 λE=>by rw[G.n d E]at bj;grind
   rw[r2 d E (λe=>by rw[e,G.p]at bj;grind) λe=>by grind];exact G.s d o bj
  ·have:=S1 b e;exact⟨this.2,J,λdK=>by have:=W.aQ b dK;omega,G.n b J⟩
  rintro _ cy n6 ⟨rfl,bM,ce,tS,h38,zf,dn,jB,gK,jg,dO⟩;refine⟨rfl,bM,some ce,none,_,M.T (jg b2 J L.2.1 L.2.2.1 λe=>ab) λ_ _ h=>h,J,λd E I D bc=>(jg d J I bc λe=>ab).trans (r2 d E I D),jB,(nofun),.inr ⟨nj,λn E I D bc=>(tS n E I D bc).trans (dN D),h38,zf,rfl,ce,_,rfl,rfl,J,dn.wid (λ_ _ _=>rfl) J (cD _),rfl⟩⟩
 ·have eS:=r8.1 e;refine⟨rfl,_,aQ,rW,[],M,J,λd E I D _=>r2 d E I D,by rw[h6];exact aCm,λb e=>?_,.inl ⟨cf.1 J,λn bv=>dN bv,rfl,rfl,hO5⟩⟩;have:=S1 b e;exact⟨J,this.2,λdK=>by have:=W.aQ b dK;omega⟩
end
theorem ax8:rk Q 171=true:=by kernel_rfl
def QK(Z:cb)(j t:Nat)(x:Nat->aw Int)(i:Nat):ky:=⟨2,(j:Int),((i*Z.C+j:Nat):Int),(t:Int),(Z.W j:Int),bq (Z.W j) (λk=>x (Z.lc j+k)),[],0,false⟩
def sV(h:ae)(ao aj:Nat)(Z:cb)(j:Nat)(x:Nat->aw Int)(i:Nat)(v:X):Prop:=lj h ao aj v (Z.cl (i+1) j-Z.cl i j) (λk=>x (Z.cl i j+k))
def ShK(Z:cb)(g:ae)(c:Nat->X)(aL j t bz dQ:Nat)(x:Nat->aw Int)(e4:Nat->al)(l:aa et)(aQ:aw Nat)(h:ae)(U:Nat):bR:=λmD ac Y=>mD = .bool true/\∃bM gM dw B,U<=B/\B<=Y/\(∀d,d<U->d≠aL->d≠bz->aQ≠some d->u ac d=u h d) /\
 eX ac Y aL bM 0 j Z.C (l++dw) gM /\
 ((∃k,k<Z.R/\(if k=dQ then true else e4 k)=false)/\(∀n,bM n=c n)/\dw=[]/\gM=aQ/\iD ac bz Z.R (λk=>if k=dQ then true else e4 k) (λi v=>sV g 0 U Z j x i v\/sV ac U Y Z j x i v) \/
 (∀k,k<Z.R->(if k=dQ then true else e4 k)=true)/\(∀n,n≠22->n≠23->bM n=c n)/\bM 23 = ((t+1:Nat):X)/\kG ac U B dw ((List.range Z.R).map (QK Z j t x))/\(∃cH,u ac bz=some (.map [] cH))/\∃ce,gM=some ce/\B<=ce)
def yw(p:Nat × X):aa X:=[(p.1:X),p4 p.2]
theorem avD(p:Nat × X):ee (yw p)=true:=by obtain⟨a,v⟩:=p;cases v <;> rfl
theorem acL:∀{L:aa (Nat × X)},(∀p∈L,p4 p.2=p.2)->bd yw L=bd yr L
 | [],_=>rfl
 |p::L,h=>by
  show yw p++bd yw L=yr p++bd yr L;rw[acL ab];unfold yw yr
  grind
theorem d1.e2{h:ae}{L:aa (Nat × X)}{ao:Nat}(H:d1 h v yw 2 L ao aj)(B:∀p∈L,p4 p.2=p.2):d1 h v yr 2 L ao aj:=by
 unfold d1 at *
 rw[<-acL B];exact H
def az4(Z:cb)(aL j bW:Nat)(x:Nat->aw Int)(jb:ae)(m:Nat)(aF:aa X)(ac:ae)(Y:Nat):Prop :=
 ∃k acc L,m=Z.R-k/\k<=Z.R/\aF=[bf aL,acc,(Z.R:X),(k:X)]/\d1 ac acc yw 2 L bW Y/\L.length=k /\
  (∀i p,L[i]? = some p->p4 p.2=p.2/\p.1=Z.cl (i+1) j-Z.cl i j/\el jb bW p.2 fG 2 (bq p.1 λk=>x (Z.cl i j+k)))/\aA bW jb ac/\bW<=Y
def az5(Z:cb)(aL j a5 U t:Nat)(x:Nat->aw Int)(c:Nat->X)(l:aa et)(aQ:aw Nat)(h iJ:ae)(m:Nat)(aF:aa X)(ac:ae)(Y:Nat):Prop :=
 ∃k bM gM dw B,m=Z.R-k/\k<=Z.R/\aF=[bf aL,bf a5,(Z.R:X),(k:X)]/\(∀n,n≠22->bM n=c n)/\eX ac Y aL bM 0 j Z.C (l++dw) gM /\
  kG ac U B dw ((List.range k).map (QK Z j t x))/\a5+1<=B/\B<=Y/\(∀b,gM=some b->aQ=some b\/B<=b)/\(0<k->∃b,gM=some b/\B<=b)/\(∀d,U<=d->d<=a5->u ac d=u iJ d)/\(∀d,d<U->d≠aL->aQ≠some d->u ac d=u h d)
section
variable {s:al} {g ck h ac:ae} {U Y aL i j ao:Nat} {c bM:Nat->X} {l:aa et} {aQ so:aw Nat} {Z:cb}
theorem Df(K:fZ Z)(i j:Nat):Z.cl i j<=Z.cl (i+1) j/\Z.cl i j<=60:=by have D:=yv K i;have B:=De K j;have E:=K.n60;unfold cb.cl jw;omega
theorem ajS{f:et}{p:ky}{t bz dQ:Nat}{x:Nat->aw Int}{e4:Nat->al}(K:fZ Z)(W:eX h U aL c 0 j Z.C l aQ)(G:rV g h U aL)(H:j8 h U c Z 0 j)(bA:l.length+Z.R<900)(ci:t<900)
  (bE:mP h U f p) (lZ:p.round=(t:Int)) (eg:p.l6=((Z.cl (dQ+1) j-Z.cl dQ j:Nat):Int)) (h2:p.l4=bq (Z.cl (dQ+1) j-Z.cl dQ j) λk=>x (Z.cl dQ j+k))
  (e23:c 23 = (t:X)) (o5:c 24 = .map (some bz)) (iv:iD h bz Z.R e4 (sV g 0 U Z j x)) (M:bz<U/\bz≠aL/\aQ≠some bz/\u g bz=none) (bZ:dQ<Z.R) (hi:e4 dQ=false):
  aH Q s 133 [bf aL,.agg ⟨ec f⟩,.agg ⟨[(dQ:X),.int .i64 0]⟩] h U (ShK Z g c aL j t bz dQ x e4 l aQ h U):=by
 refine alP ?_;have ct:=W.lt;have bT:∀{o a0},aA U h (F (F h U o) (U+1) a0):=aN
 have o2:∀{o a0},u (F (F h U o) (U+1) a0) aL=some (.cells (dx c) false):=λ{o a0}=>(bT aL ct).trans W.at_;have ko:=Df K dQ j;have aBJ:=Df K (dQ+1) j;have mr:∀b,aQ=some b->b<U:=λb e=>(W.aQ b e).2;have aDO:∀{o a0},eX (F (F h U o) (U+1) a0) (U+2) aL c 0 j Z.C l aQ:=λ{o a0}=>W.T ab J;have iw:∀{y:Int},((y == y):al)=true:=ab
 have pe:(((0:Nat):Int) == 0)=true:=rfl;have UN:f.round=(t:Int):=bE.round.trans lZ;unfold aau ec;refine aD ?_;refine(alW aDO (H.T  bT J) K bZ).fM ⟨J,?_⟩;refine aD ?_;refine(Xx  (bE.T  bT J) h2 eg J).mono ?_;rintro _ D E ⟨v,rfl,lG,d0,f0⟩;refine⟨f0,?_⟩;have cP:=bT.trans d0 J;have g8:=(d0 U J).trans ((ar J).trans (aT _ _ _));have de:=(d0 (U+1) J).trans (aT _ _ _);have Nj:=(d0 aL J).trans o2;obtain⟨gN,rfl,xi⟩:=lG;obtain⟨cG,k7,rfl⟩:=xi.form;have hM1:∀{H},u H bz=u D bz->iD H bz Z.R e4 (sV g 0 U Z j x):=λ{H} e=>iv.T (e.trans (cP bz M.1)) λ_ _ h=>h;have BC:∀{o a0},jV Q (F (F D E o) E a0) 3 (.agg #[.int .i64 0,.slice none 0 0]) true (.map (some bz)) (dQ:X) = .ok (.tuple #[.agg #[.int .i64 0,.slice none 0 0],.bool false]):=λ{o a0}=>by obtain⟨v,e,_⟩:=(hM1 (H:=F (F D E o) E a0) ab).get nv bZ  (ok:=true);rw[hi]at e;exact e
 simp(disch:=omega)only[bl,hL,Nj,g8,de,o5,BC,W.pi,iw,pe,UN,e23,seval];unfold Cj;generalize mY:F (F (F (F D E _) E _) (E+1) _) (E+1) _=h4;have dP:∀d,d<E->u h4 d=u D d:=λd bj=>ab
 have zy:=(dP aL J).trans Nj;have g1:=(dP (U+1) J).trans de;have VR:u h4 E=some (.cells [((Z.cl (dQ+1) j-Z.cl dQ j:Nat):X),.slice cG (bq (Z.cl (dQ+1) j-Z.cl dQ j) λk=>x (Z.cl dQ j+k)).length k7] false):=ab
 clear mY;have fV:sV D U E Z j x dQ (.agg ⟨[((Z.cl (dQ+1) j-Z.cl dQ j:Nat):X),.slice cG (bq (Z.cl (dQ+1) j-Z.cl dQ j) λk=>x (Z.cl dQ j+k)).length k7]⟩):=⟨_,rfl,xi.fj.T (λ_ _ _=>rfl) J (cD _)⟩
 obtain⟨o,f5,fw⟩:=((hM1 (dP bz J)).T (Vu:=λi v=>sV g 0 U Z j x i v\/sV D U E Z j x i v) rfl λ_ _ h=>.inl h).put nv bZ hi (.inr fV);have Ip:=fw (F h4 bz o) (aT _ _ _);obtain⟨m,aW,aK,cf⟩:=Ip.len;rw[show hW dQ = (dQ:X)from rfl]at f5;have UP:u (F h4 bz o) aL=some (.cells (dx c) false):=(ar (kB M.2.1)).trans zy;simp(disch:=omega)only[bl,hL,zy,g1,VR,o5,f5,UP,aW,H.gy,seval];have ow:∀d,d<U->d≠bz->u (F h4 bz o) d=u h d:=λd D I=>by rw[ar I,dP d J];exact cP d D
 have qY:eX (F h4 bz o) (E+2) aL c 0 j Z.C l aQ:=W.T (λd bj=>ow d (bj.elim (λe=>e ▸ ct) (mr d)) (bj.elim (λe=>e ▸ kB M.2.1) λe dK=>M.2.2.1 ab)) J;refine⟨λDB=>⟨rfl,c,aQ,[],E+2,J,cD _,λd D I aM _=>ow d D aM,by rw[h6];exact qY,.inl ⟨cf.1 DB,λ_=>rfl,rfl,rfl,Ip.T rfl λi v P=>P.imp id λP=>P.T (λb D I=>ab) (cD _) J⟩⟩,λeM=>?_⟩;have nj:∀k,k<Z.R->(if k=dQ then true else e4 k)=true:=λk hk=>ab
 have kO:k2 g (F h4 bz o):=G.S0 (so:=some bz) (λb e=>ab) λd D I aM=>ow d D λe=>aM (by rw[e]);have UQ:∀k v,sV g 0 U Z j x k v\/sV D U E Z j x k v->jU (F h4 bz o) (E+2) v (Z.cl (k+1) j-Z.cl k j) λq=>x (Z.cl k j+q):=λk v P=>by
  rcases P with P|P
  ·obtain⟨gN,e,P⟩:=lj.is P;exact⟨gN,e,(P.sub kO).T (aA.refl _ _) J⟩
  ·exact jU.T (lj.is (P.T (ac:=F h4 bz o) (d2:=0) (dm:=E) (λb D I=>ab) J (cD _))) (aA.refl _ _) J
 have S2:E+1+1=E+2:=rfl;rw[S2];generalize F h4 bz o=jb at Ip UP ow qY UQ kO ⊢;generalize sN:E+2=bW at qY UQ ⊢;refine bC.mk (az4 Z aL j bW x jb) Z.R ⟨0,_,[],J,J,rfl,.inl ⟨rfl,rfl⟩,rfl,(λ_ _ h=>by simp at h),aA.refl _ _,cD _⟩ ?_;rintro _ _ I bX ⟨k,acc,L,rfl,hk,rfl,dn,hLl,eD,eW,fg⟩;rw[ajF];unfold Xp;have dc:=(eW aL J).trans UP;obtain⟨bD,VN,qb,rfl⟩:=dn.form;refine aD ?_;refine⟨λHm=>?_,λaBK=>?_⟩
 ·obtain⟨v,cu,P⟩:=(Ip.T (ac:=I) (eW bz J) λ_ _ h=>h).get nv Hm (z:=.agg #[.int .i64 0,.slice none 0 0]) (ok:=false);obtain⟨vi',rfl,ahs⟩:=UQ k v (P (nj k Hm));rw[nj k Hm,show hW k = (k:X)from rfl]at cu;have ek':jV Q I 3 (.agg #[.int .i64 0,.slice none 0 0]) false (.map (some bz)) (k:X) = .ok (.agg ⟨[((Z.cl (k+1) j-Z.cl k j:Nat):X),vi']⟩):=cu;obtain⟨iu,oj,rfl,_⟩:=id ahs;refine AD @dc @o5 @ek' (cv (J:k<1000000000000)) ?_;refine lJ (enc:=yw) (k:=2) (ao:=bW) (λ_=>rfl) avD J (dn.T (dm:=bX+1) (λd D I=>ar J) J) J (Z.cl (k+1) j-Z.cl k j,.slice iu (bq (Z.cl (k+1) j-Z.cl k j) λq=>x (Z.cl k j+q)).length oj) (aT _ _ _) rfl J λdF b3 t9 gf=>?_;refine⟨_,J,k+1,_,_,rfl,J,rfl,t9,ab,λi p bg=>?_,λd bj=>by rw[gf d bj,ar J];exact eW d bj,J⟩
  by_cases hik:i<L.length
  ·rw[xJ hik]at bg;exact eD i p bg
  ·rw[EQ J]at bg;obtain⟨e,rfl⟩:i-L.length=0/\_=p:=by
    cases dt:i-L.length with
    |zero=>rw[dt]at bg;exact⟨rfl,Option.some.inj bg⟩
    |succ q=>grind
   obtain rfl:i=k:=J
   exact⟨rfl,rfl,ahs⟩
 have By:k=Z.R:=J
 subst By;have oU:∀k,k<=Z.R->Z.cl k j<=60:=λk _=>(Df K k j).2;have hPc:Ap I bX (.slice bD VN qb) (λi=>Z.cl i j) Z.R x:=⟨⟨L,hLl,(d1.c (k:=2) J (λ_=>rfl) (d1.e2 dn λp bg=>by obtain⟨i,aj⟩:=EU.1 bg;grind)).o,λi p bg=>⟨(eD i p bg).2.1,(eD i p bg).2.2.T eW fg⟩⟩,λi=>(Df K i j).1,h7 (Df K Z.R j).2 J⟩
 refine Ld @dc H.cf H.gy W.g9 W.c1 ?_;refine(asO (x:=x) (j:=j) (h7 K.n60 J) K.lH K.nM K.hB K.mF W.vU hPc).mono ?_;rintro _ bc d4 ⟨w,rfl,⟨VJ,rfl,zb⟩,fI,hb⟩;refine⟨hb,?_⟩;obtain⟨gx,nF,rfl⟩:=zb.form;have nA:=(fI aL J).trans dc;refine u7 @nA H.gy ?_;generalize MT:F (F bc d4 _) d4 _=ii;have f4:u ii d4=some (.cells [.int .i64 (Z.W j:Int),.slice gx (bq (Z.W j) λk=>x (Z.lc j+k)).length nF] false):=by rw[<-MT,aT];rfl
 have vN:∀d,d≠d4->u ii d=u bc d:=λd bj=>ab
 clear MT;have kk5:∀d,d<bW->u ii d=u jb d:=λd D=>by rw[vN d J,fI d J,eW d J]
 refine bC.mk (az5 Z aL j d4 U t x c l aQ ii ii) Z.R ⟨0,c,aQ,[],d4+1,J,J,rfl,λ_ _=>rfl,by rw[h6];exact qY.T (λd bj=>kk5 d (bj.elim (λe=>J) λe=>ab)) J,trivial,cD _,cD _,λb e=>.inl e,λh=>absurd h J,λd _ _=>rfl,λd bj _ _=>rfl⟩ ?_;rintro _ _ cy n6 ⟨k,hv,UR,dw,B,rfl,hk,rfl,Bw,nN,hK,vu,rU,az6,S3,ji,qN⟩;rw[ajG];unfold Xq;have eN:(dw.length:Nat)=k:=by rw[hK.len,gn,Cb]
 have oy:=(ji d4 J (cD _)).trans f4;have j23:=(Bw 23 J).trans e23;have j24:=(Bw 24 J).trans o5;refine aD ?_;refine⟨λSP=>?_,λaz7=>?_⟩
 ·refine u7 nN.at_ nN.c1 ?_;refine(FG nN.at_ nN.hB nN.mF (by have:=K.nM;omega) nN.vU nN.g9).fM ⟨cD _,?_⟩;refine yu nN.at_ @j23 @oy ?_;refine(F2 nN ab ⟨2,0,((k*Z.C+j:Nat):Int),0,(t:Int),(Z.W j:Int),gx,(bq (Z.W j) λk=>x (Z.lc j+k)).length,nF,none,0,0,none,0,0,0,false⟩).mono ?_;rintro _ ev n7 ⟨rfl,dF,ce,IT,gK,vB,tI⟩;refine⟨tI,?_⟩;refine bh (cv (J:k<1000000000000)) ?_;have qH:∀d,U<=d->d<B->UR≠some d:=λd D I e=>ab
  refine⟨_,J,k+1,_,some ce,dw++[_],B,rfl,J,rfl,λn bv=>?_,by rw[<-kA];exact IT,?_,J,J,λb e=>.inr ab,λ_=>⟨ce,rfl,J⟩,λd D I=>?_,λd D I aM=>?_⟩
  ·rw[dN bv];grind
  ·rw[q6,iK];refine(hK.T (λb D I=>vB b J J (qH b D I)) (cD _) J).app ⟨⟨rfl,?_,rfl,rfl,rfl,?_,wH,rfl,rfl,rfl⟩,trivial⟩
   ·show((0*Z.C+j:Nat):Int)=(j:Int)
    omega
   ·exact eG.T zb.fj (λb D I=>ab) J J
  all_goals grind
 ·have By:k=Z.R:=J
  subst By;obtain⟨ce,rfl,gK⟩:=S3 J;obtain⟨VU,cH,vE,_,_⟩:=Ip.ex;have oc:u cy bz=some (.map (lm hW VU) cH):=by rw[qN bz M.1 M.2.1 M.2.2.1,kk5 bz J];exact vE.at_
  have US:∀{o},u (F cy bz o) aL=some (.cells (dx hv) false):=λ{o}=>by rw[ar (kB M.2.1)];exact nN.at_
  simp(disch:=omega)only[bl,hL,nN.at_,j24,SX ax8 oc,dU,US,j23,cv (J:t<1000000000000),seval];refine⟨rfl,_,some ce,dw,B,J,rU,λd D I aM bc=>?_,nN.set (aT _ _ _) (dN J) (dN J) (dN J) (dN J) (λb e=>ab) (cD _),.inr ⟨nj,λn D I=>by rw[dN I];grind,yt,hK.T (λb D I=>by rw[ar J,ar J]) (cD _) (cD _),⟨cH,ab⟩,ce,rfl,gK⟩⟩
  grind
end
def RH:aa (aa Nat):=[[0,3,4,11]]
def acM(s:al)(aC a3 aZ d3:X)(h:ae)(U:Nat)(N:aP)(aE:aP)(R:aP):Prop:=vm s h U d3 λa b c=>af (cp a 0) λd=>bu d (af (wu b d3) λe=>af (cp e 1) λf=>b1 [(ad 0),(ad 0),(ad 0),(ad 0),(ad 0),(ad 0),ay,ay,ay,(ad 0),(.bool false)] b c λg i j=>af (aU i 11 g f) λk=>bu a3 (bu aZ (N [aC,(.bool true),(.bool true),d3] k j) (ax k 9 g λm=>bH .neq 2 m (ad 0) λn=>N [aC,(.bool true),n,d3] k j)) (ax k 10 g λp=>bu aZ (N [aC,p,(.bool true),d3] k j) (ax k 9 g λr=>bH .neq 2 r (ad 0) λt=>N [aC,p,t,d3] k j))) (aE [aC,a3,aZ,d3] b c)
def agh:cS:=λs ah h U K=>af (bx ah) λa=>ax h 43 a λc=>dD (sk h U c) λd e f=>bC (bN Q s RH 231 0) [ah,(.bool false),(.bool false),d] e f [(0,λg i j=>bu (a8 g 1) (K (ad 3) i j) (af (dv .not (a8 g 2)) λk=>bu k (K (ad 1) i j) (af (bx (a8 g 0)) λl=>ax i 42 l λn=>af (bx (a8 g 0)) λo=>ax i 9 o λq=>bw .eql 3 n q (K (ad 2) i j) (K (ad 0) i j))))] (λ_ _ _=>False)
theorem ata{s:al}{B:X}{h:ae}{U:Nat}{R:aP}:bN Q s RH 231 0 [aC,a3,aZ,B] h U N [(0,aE)] R=acM s aC a3 aZ B h U N aE R:=by kernel_rfl
theorem avE:cT 231 agh:=cV RH
def PF:aa (aa Nat):=[[3,10]]
def YE(s:al)(a3 dk:X)(h:ae)(U:Nat)(N:aP)(aE:aP)(R:aP):Prop:=vm s h U dk λa b c=>af (cp a 0) λd=>bu d (af (wu b dk) λe=>af (cp e 0) λf=>af (cp e 1) λg=>b1 [(ad 0),(ad 0)] b c λi j k=>af (aU j 2 i f) λl=>aX s 145 [g] l k λm n o=>kd m (ad 0) (aR 2 n i λq=>dS (eV 1 [(ad 0),(ad 0)] [(0,2,q)]) n o λr t aI=>dD (dU (dM 2 t aI a3 r)) λv w x=>N [v,dk] w x) (N [a3,dk] n o)) (aE [a3,dk] b c)
def acN:cS:=λs ah h U K=>af (bx ah) λa=>ax h 13 a λc=>dD (sk h U c) λd e f=>bC (bN Q s PF 144 0) [ay,d] e f [(0,λg i j=>aX s 239 [(a8 g 0),(.func (.func 240) #[] #[])] i j λk l m=>K (a8 g 0) l m)] (λ_ _ _=>False)
theorem alZ{s:al}{h:ae}{U:Nat}{R:aP}:bN Q s PF 144 0 [a3,dk] h U N [(0,aE)] R=YE s a3 dk h U N aE R:=by kernel_rfl
theorem apt:cT 144 acN:=cV PF
def PG:aa (aa Nat):=[[3,12]]
def YF(s:al)(a3 dI:X)(h:ae)(U:Nat)(N:aP)(aE:aP)(R:aP):Prop:=vm s h U dI λa b c=>af (cp a 0) λd=>bu d (af (wu b dI) λe=>af (cp e 1) λf=>aX s 248 [f] b c λg i j=>lB a3 g λk=>N [k,dI] i j) (aE [a3,dI] b c)
def acO:cS:=λs ah h U K=>bw .neq 110 ah (.pointer none) (af (bx ah) λb=>ax h 13 b λd=>dD (sk h U d) λe f g=>bC (bN Q s PG 152 0) [(ad 0),e] f g [(0,λi j k=>K (a8 i 0) j k)] (λ_ _ _=>False)) (K (ad 0) h U)
theorem al2{s:al}{B:X}{h:ae}{U:Nat}{R:aP}:bN Q s PG 152 0 [a3,B] h U N [(0,aE)] R=YF s a3 B h U N aE R:=by kernel_rfl
theorem apu:cT 152 acO:=cV PG
theorem ax9:rk Q 173=true:=by kernel_rfl
def tt(Z:cb)(V:Nat)(st:Int)(i:Nat):ky:=⟨5,0,((i*Z.C+0:Nat):Int),(V:Int),0,[],[],st,false⟩
def Iq(jc:Nat->Int)(i:Nat)(v:X):Prop:=∃f:et,v = .agg ⟨ec f⟩/\f.n4=false/\f.n=jc i
theorem al3{s:al}{Z:cb}{jc:Nat->Int}{h:ae}{U aL cC:Nat}{c:Nat->X}{K:bR}(b0:u h aL=some (.cells (dx c) false))(hpw:aL<U)(jA:c 9 = (Z.lim:X))(e42:c 42 = (V:X))(rX:c 43 = .map (some cC))(uc:cC<U)(iv:iD h cC Z.R dX (Iq jc))(hi:∀k,k<Z.R->dX k=true)(hk:K (.int .i64 (wi false (decide (∃i,i<Z.R/\jc i≠0)) (V:Int) (Z.lim:Int))) h U):aH Q s 231 [bf aL] h U K:=by
 obtain⟨L,cH,vE,h1,ap⟩:=iv.ex;refine aH.plain (v:=.int .i64 (wi false (decide (∃i,i<Z.R/\jc i≠0)) (V:Int) (Z.lim:Int))) rfl ?_ hk;refine avE ?_;unfold agh;refine u7 @b0 @rX ?_;refine vE.hd λaM I e1=>?_;refine bC.mk (λm aF ac Y=>∃s0 D,m=D.length/\aF=[bf aL,.bool false,.bool s0,bf U]/\w9 ac U cC cH L D/\((s0=true\/∃e∈D,jc e.1≠0)↔∃i,i<Z.R/\jc i≠0)/\(∀e∈D,e∈L)/\aA U h ac/\U+1<=Y) L.length
  ⟨false,L,rfl,rfl,I,?_,λe h=>h,λc a1=>e1 c J,J⟩ ?_
 ·constructor
  ·rintro(h|⟨e,bP,h⟩)
   ·cases h
   ·exact⟨e.1,(h1 e bP).1,h⟩
  ·rintro⟨i,aj,h⟩;obtain⟨e,bP,rfl⟩:=(ap i aj).1 (hi i aj);exact .inr ⟨e,bP,h⟩
 rintro _ _ bc d4 ⟨s0,D,rfl,rfl,IW,E,tU,P,hb⟩;rw[ata];unfold acM;have s9:=vE.T (ac:=bc) (P cC uc);have zy:=(P aL hpw).trans b0;refine s9.fH IW J (λaE=>?_) λe B b3 bP bg BW gf M=>?_
 ·subst aE;refine yu @zy @e42 @jA ?_;have hj:aA U h bc:=P;have E:s0=true↔∃i,i<Z.R/\jc i≠0:=by rw[<-E];simp
  unfold wi;cases s0 <;> grind
 ·obtain⟨f,qc,f5,eN⟩:=(h1 e bP).2;have nI:=bg.length_eq;simp only[mb]at nI;have bp:∀x∈B,x∈L:=λx aY=>tU x (bg.mem_iff.2 (mG _ aY));have dt:(∃e∈D,jc e.1≠0)↔jc e.1≠0\/∃e∈B,jc e.1≠0:=by
   constructor
   ·rintro⟨x,aY,h⟩;rcases gQ.1 (bg.mem_iff.1 aY)with rfl|aY
    ·exact .inl h
    ·exact .inr ⟨x,aY,h⟩
   ·rintro(h|⟨x,aY,h⟩)
    ·exact⟨e,bg.mem_iff.2 (nQ ..),h⟩
    ·exact⟨x,bg.mem_iff.2 (mG _ aY),h⟩
  rw[dt]at E;rw[qc]at M ⊢;unfold ec at M ⊢;refine hx @M @f5 @eN ?_;refine⟨λbA=>⟨B.length,J,true,B,rfl,rfl,BW.T ab,?_,bp,λc a1=>aN,J⟩,λbA=>⟨B.length,J,_,B,rfl,rfl,BW.T ab,?_,bp,λc a1=>aN,J⟩⟩
  ·grind
  ·grind
def VoK(Z:cb)(c:Nat->X)(aL V cC dQ:Nat)(jc:Nat->Int)(fN:Nat->al)(l:aa et)(aQ:aw Nat)(h:ae)(U:Nat):bR:=λmD ac Y=>mD = .bool true/\∃bM gM dw B,U<=B/\B<=Y/\(∀d,d<U->d≠aL->d≠cC->aQ≠some d->u ac d=u h d) /\
 eX ac Y aL bM 0 0 Z.C (l++dw) gM /\
 ((∃k,k<Z.R/\(if k=dQ then true else fN k)=false)/\(∀n,bM n=c n)/\dw=[]/\gM=aQ/\iD ac cC Z.R (λk=>if k=dQ then true else fN k) (Iq jc) \/
 (∀k,k<Z.R->(if k=dQ then true else fN k)=true)/\(∀n,n≠22->n≠42->n≠44->bM n=c n)/\∃st,st=wi false (decide (∃i,i<Z.R/\jc i≠0)) (V:Int) (Z.lim:Int)/\bM 42 = ((V+1:Nat):X)/\bM 44 = .bool (!(st == 0))/\kG ac U B dw ((List.range Z.R).map (tt Z V st))/\(∃cH,u ac cC=some (.map [] cH))/\∃ce,gM=some ce/\B<=ce)
def VoJ(Z:cb)(aL U a5 V:Nat)(st:Int)(c:Nat->X)(l:aa et)(aQ:aw Nat)(h:ae)(m:Nat)(aF:aa X)(ac:ae)(Y:Nat):Prop :=
 ∃k bM gM dw B,m=Z.R-k/\k<=Z.R/\aF=[bf aL,(st:X),(Z.R:X),(k:X)]/\(∀n,n≠22->bM n=c n)/\eX ac Y aL bM 0 0 Z.C (l++dw) gM /\
  kG ac U B dw ((List.range k).map (tt Z V st))/\a5<=B/\B<=Y/\(∀b,gM=some b->aQ=some b\/B<=b)/\(0<k->∃b,gM=some b/\B<=b)/\(∀d,d<a5->d≠aL->aQ≠some d->u ac d=u h d)
section
variable {s:al} {g ck h ac:ae} {U Y aL i j ao:Nat} {c bM:Nat->X} {l:aa et} {aQ so:aw Nat} {Z:cb}
theorem al4{f:et}{cC dQ:Nat}{jc:Nat->Int}{fN:Nat->al}(K:fZ Z)(W:eX h U aL c 0 0 Z.C l aQ)(gy:c 7 = (Z.R:X))(jA:c 9 = (Z.lim:X))(bA:l.length+Z.R<900)(ci:V<900)(lZ:f.round=(V:Int))(f5:f.n4=false)(eN:f.n=jc dQ)(M:c 42 = (V:X))(I:c 43 = .map (some cC))(e44:c 44 = .bool false)(iv:iD h cC Z.R fN (Iq jc))(uc:cC<U/\cC≠aL/\aQ≠some cC)(bZ:dQ<Z.R)(hi:fN dQ=false):
  aH Q s 136 [bf aL,.agg ⟨ec f⟩,.agg ⟨[(dQ:X),.int .i64 0]⟩] h U (VoK Z c aL V cC dQ jc fN l aQ h U):=by
 refine apm ?_;have ct:=W.lt;have mr:∀b,aQ=some b->b<U:=λb e=>(W.aQ b e).2;have iw:∀{y:Int},((y == y):al)=true:=ab
 have bT:∀{o a0},aA U h (F (F h U o) (U+1) a0):=aN
 have o2:∀{o a0},u (F (F h U o) (U+1) a0) aL=some (.cells (dx c) false):=λ{o a0}=>(bT aL ct).trans W.at_;have c0':c 0 = .int .i64 0:=W.pi;have Ir:c 1 = .int .i64 0:=W.c1;have BC:∀{o a0},jV Q (F (F h U o) (U+1) a0) 3 (.agg #[.int .i64 0,.int .i64 0,.int .i64 0,.int .i64 0,.int .i64 0,.int .i64 0,.slice none 0 0,.slice none 0 0,.slice none 0 0,.int .i64 0,.bool false]) true (.map (some cC)) (dQ:X) = .ok (.tuple #[.agg #[.int .i64 0,.int .i64 0,.int .i64 0,.int .i64 0,.int .i64 0,.int .i64 0,.slice none 0 0,.slice none 0 0,.slice none 0 0,.int .i64 0,.bool false],.bool false]):=λ{o a0}=>by obtain⟨v,e,_⟩:=(iv.T (ac:=F (F h U o) (U+1) a0) ab λ_ _ h=>h).get nv bZ;rw[hi]at e;exact e
 unfold acJ ec;simp(disch:=omega)only[bl,hL,o2,I,BC,avC c0' Ir,QJ,e44,lZ,M,iw,seval];unfold Cq;generalize mY:F (F (F (F h U _) (U+1) _) (U+1+1) _) (U+1+1) _=h4;have dP:∀d,d<U->u h4 d=u h d:=ab
 have g1:u h4 (U+1)=some (.cells [(dQ:X),.int .i64 0] false):=ab
 have cJ:u h4 U=some (.cells (ec f) false):=by rw[<-mY,ar J,ar J,ar J,aT];unfold ec;rw[lZ]
 have zy:=(dP aL ct).trans W.at_;obtain⟨o,eo',fw⟩:=(iv.T (dP cC uc.1) λ_ _ h=>h).put  nv bZ hi ⟨f,rfl,f5,eN⟩;have P:=fw (F h4 cC o) ab;obtain⟨m,aW,aK,cf⟩:=P.len;rw[show hW dQ = (dQ:X)from rfl]at eo';have E:u (F h4 cC o) aL=some (.cells (dx c) false):=ab
 have mx:hV (some 11) 0 (ec f) = .ok (.agg ⟨ec f⟩):=rfl;simp(disch:=omega)only[bl,hL,zy,g1,cJ,mx,I,eo',E,aW,gy,seval];have ow:∀d,d<U->d≠cC->u (F h4 cC o) d=u h d:=ab
 have qY:eX (F h4 cC o) (U+3) aL c 0 0 Z.C l aQ:=W.T ab J;refine⟨λDB=>⟨rfl,c,aQ,[],U+3,J,J,ab,by rw[h6];exact qY,ab⟩,λeM=>?_⟩;have L:∀k,k<Z.R->(if k=dQ then true else fN k)=true:=ab
 refine al3 E J jA M I J P L ?_;generalize js:wi _ _ _ _=st;refine u7 @E @gy ?_;obtain⟨VU,cH,vE,_,_⟩:=P.ex;have HX:=vE.at_;have S2:U+1+1+1=U+3:=rfl;rw[S2];generalize F h4 cC o=jb at HX E ow qY ⊢;refine bC.mk (VoJ Z aL U (U+3) V st c l aQ jb) Z.R ⟨0,c,aQ,[],U+3,J,J,rfl,ab,by rw[h6];exact qY,trivial,J,J,ab,λh=>absurd h J,ab⟩ ?_;rintro _ _ cy n6 ⟨k,hv,UR,dw,B,rfl,hk,rfl,Bw,D,hK,vu,rU,az6,S3,qN⟩;rw[alQ];unfold YB;have en6:(dw.length:Nat)=k:=by rw[hK.len,gn,Cb]
 have j42:=(Bw 42 J).trans M;have j43:=(Bw 43 J).trans I;refine aD ?_;refine⟨λSP=>?_,λaz7=>?_⟩
 ·refine(FG  D.at_ D.hB D.mF (by have:=K.nM;omega) D.vU D.g9).fM ⟨cD _,?_⟩;refine u7 D.at_ @j42 ?_;refine(F2 D ab ⟨5,0,((k*Z.C+0:Nat):Int),0,(V:Int),0,none,0,0,none,0,0,none,0,0,st,false⟩).mono ?_;rintro _ ev n7 ⟨rfl,dF,ce,IT,gK,vB,tI⟩;refine⟨tI,?_⟩;refine bh (cv (J:k<1000000000000)) ?_;have qH:∀d,U<=d->d<B->UR≠some d:=λd h1 ap e=>ab
  refine⟨_,J,k+1,_,some ce,dw++[_],B,rfl,J,rfl,λn bv=>?_,by rw[<-kA];exact IT,?_,J,J,λb e=>.inr ab,λ_=>⟨ce,rfl,J⟩,λd h1 ap aM=>?_⟩
  ·rw[dN bv];grind
  ·rw[q6,iK];refine(hK.T (λb h1 ap=>vB b J J (qH b h1 ap)) (cD _) J).app ⟨⟨rfl,?_,rfl,rfl,rfl,wH,wH,rfl,rfl,rfl⟩,trivial⟩;show((0*Z.C+0:Nat):Int)=0;omega
  grind
 ·have By:k=Z.R:=J
  subst By;obtain⟨ce,rfl,gK⟩:=S3 J;have oc:u cy cC=some (.map (lm hW VU) cH):=ab
  have US:∀{o},u (F cy cC o) aL=some (.cells (dx hv) false):=λ{o}=>by rw[ar (kB uc.2.1)];exact D.at_
  simp(disch:=omega)only[bl,hL,D.at_,j43,SX ax9 oc,dU,US,j42,cv (J:V<1000000000000),seval];refine⟨rfl,_,some ce,dw,B,J,rU,λd h1 ap aM bc=>?_,D.set (aT _ _ _) (by rw[dN J,dN J]) (by rw[dN J,dN J]) (by rw[dN J,dN J]) (by rw[dN J,dN J]) (λb e=>ab) (cD _),.inr ⟨L,λn h1 ap aM=>by rw[dN aM,dN ap];grind,st,js.symm,by rw[dN J,yt],yt,hK.T (λb h1 ap=>ab) (cD _) (cD _),⟨cH,ab⟩,ce,rfl,gK⟩⟩
  grind
end
section
variable {s:al} {g ck h ac:ae} {U Y aL i j C R dQ l8:Nat} {c bM:Nat->X} {l:aa et} {aQ so:aw Nat} {Z:cb}
theorem QL(K:1<=C)(I:C<=8)(aj:dQ<8)(D:l8<C):aH Q s 131 [(C:X),((dQ*C+l8:Nat):X)] h U (fr (dQ:X) U h):=by
 refine avm ?_;have L:dQ*C<=7*C:=qk C J;refine ZZ.mono ?_;rintro _ _ _ ⟨rfl,rfl,rfl⟩;rw[li J];have E:(dQ*C+l8) / C=dQ:=by rw[xS,Nat.mul_add_div J,NQ D];rfl
 have B:bin Q .quo 3 (((dQ*C+l8:Nat):X)) (C:X) = .ok (dQ:X):=by rw[CC J,show((dQ*C+l8:Nat):Int).tdiv (C:Int)=(((dQ*C+l8) / C:Nat):Int)from rfl,E,jG J J]
 have aK:IntKind.wrap .i64 ((C:Int)*8)=((C*8:Nat):Int):=by rw[show(C:Int)*8=((C*8:Nat):Int) by omega];exact jG J J
 generalize M:dQ*C+l8=n at *
 refine hx @z9 @B @aK ?_;exact⟨λh=>absurd h J,λ_=>⟨λh=>absurd h J,λ_=>⟨rfl,rfl,rfl⟩⟩⟩
theorem QM(K:1<=C)(E:C<=8)(aj:dQ<8)(B:l8<C):aH Q s 132 [(C:X),((dQ*C+l8:Nat):X)] h U (fr (l8:X) U h):=by
 refine avn ?_;refine(QL K E aj B).fM ?_;have D:(dQ*C+l8) % C=l8:=by rw[xS,Nat.mul_add_mod,Jh B]
 have I:bin Q .rem 3 (((dQ*C+l8:Nat):X)) (C:X) = .ok (l8:X):=by rw[Ko J,show((dQ*C+l8:Nat):Int).tmod (C:Int)=(((dQ*C+l8) % C:Nat):Int)from rfl,D]
 refine bh @I ?_;exact⟨λh=>absurd h J,λ_=>⟨rfl,rfl,rfl⟩⟩
theorem F3{f:et}{lz:Nat}{I:bR}(W:eX h U aL c i j C l aQ)(gy:c 7 = (R:X))(ei:R<=8)(L:f.lS=((i*C+j:Nat):Int))(M:f.fi=((dQ*C+l8:Nat):Int))(aj:dQ<R)(K:l8<C)(cu:f.kind=(lz:Int))(P:1<=lz/\lz<=5)
  (B:∀ac Y,aA U h ac->U<=Y->aH Q s (132+lz) [bf aL,.agg ⟨ec f⟩,.agg ⟨[(dQ:X),(l8:X)]⟩] ac Y I):
  aH Q s 63 [bf aL,.agg ⟨ec f⟩] h U I:=by
 refine as6 ?_;have ct:=W.lt;have bT:∀{o},aA U h (F h U o):=aN
 have E:∀{o},eX (F h U o) (U+1) aL c i j C l aQ:=λ{o}=>W.T (λd bj=>bT d (bj.elim J λe=>(W.aQ d e).2)) J;have iw:∀{y:Int},((y == y):al)=true:=ab
 have bp:dQ*C+l8<R*C:=by
  have:dQ*C+C<=R*C:=by rw[<-Fe];exact qk C J
  omega
 have nr:R*C<=8*8:=sb ei W.mF;have aK:IntKind.wrap .i64 ((R:Int)*(C:Int))=((R*C:Nat):Int):=by rw[<-Int.natCast_mul];exact jG J J
 have aE:¬(((dQ*C+l8:Nat):Int)<0):=J
 unfold aeS;unfold ec at B ⊢;simp(disch:=omega)only[bl,po DD,seval];refine(ajN E).fM ⟨J,?_⟩;simp(disch:=omega)only[bl,L,M,iw,hL,E.at_,gy,W.g9,z9,aK,seval];refine⟨λh=>absurd h aE,λ_=>?_⟩;rw[gP bp];unfold F1;simp(disch:=omega)only[bl,hL,E.at_,W.g9,seval];refine(QL W.hB W.mF J K).fM ⟨J,?_⟩;simp(disch:=omega)only[bl,hL,E.at_,W.g9,seval];refine(QM W.hB W.mF J K).fM ⟨J,?_⟩;simp only[L,M,cu]at B;have D:∀{o eF dP},aA U h (F (F (F h U o) (U+1) eF) (U+1) dP):=aN
 rcases(by omega:lz=1\/lz=2\/lz=3\/lz=4\/lz=5)with rfl|rfl|rfl|rfl|rfl
 ·simp(disch:=omega)only[bl,cu,show(((1:Nat):Int) == 1)=true from rfl,seval];exact B _ (U+2) D J
 ·simp(disch:=omega)only[bl,cu,show(((2:Nat):Int) == 1)=false from rfl,show(((2:Nat):Int) == 2)=true from rfl,seval];exact B _ (U+2) D J
 ·simp(disch:=omega)only[bl,cu,show(((3:Nat):Int) == 1)=false from rfl,show(((3:Nat):Int) == 2)=false from rfl,show(((3:Nat):Int) == 3)=true from rfl,seval];exact B _ (U+2) D J
 ·simp(disch:=omega)only[bl,cu,show(((4:Nat):Int) == 1)=false from rfl,show(((4:Nat):Int) == 2)=false from rfl,show(((4:Nat):Int) == 3)=false from rfl,show(((4:Nat):Int) == 4)=true from rfl,seval];exact B _ (U+2) D J
 ·simp(disch:=omega)only[bl,cu,show(((5:Nat):Int) == 1)=false from rfl,show(((5:Nat):Int) == 2)=false from rfl,show(((5:Nat):Int) == 3)=false from rfl,show(((5:Nat):Int) == 4)=false from rfl,show(((5:Nat):Int) == 5)=true from rfl,seval];exact B _ (U+2) D J
end
theorem aaz{s:al}{n:Nat}{h:ae}{U:Nat}(D:cr h U v j0 (eT n q)):aH Q s 139 [v] h U (λr ac Y=>eG ac U Y r j0 (eT n q)/\aA U h ac/\U<=Y):=by
 by_cases E:n=0
 ·subst E;obtain⟨a,cap,rfl,_⟩:=id D;have K:aA U h (F h U (.cells [] false)):=aN
  refine abS ?_;unfold Rq;simp(disch:=omega)only[bl,z0 ag9,seval];refine⟨λ_=>⟨⟨_,_,rfl,λh=>absurd rfl h⟩,aN⟩,λ_=>?_⟩;exact⟨⟨_,_,rfl,λh=>absurd rfl h⟩,K,J⟩
 ·have e:eT n q=[mk n q]:=if_neg E;rw[e]at D ⊢;refine(anT D).mono ?_;rintro _ ac Y ⟨b,c,M,rfl,P,L,aM,I,B⟩;exact⟨⟨_,_,rfl,λ_=>⟨b,M,false,P,L,rfl,aM⟩⟩,I,B⟩
section
variable {s:al} {g ck h ac:ae} {U Y aL i j C low m:Nat} {c bM:Nat->X} {l:aa et} {aQ so:aw Nat} {S:ju}
theorem al5(W:eX h U aL c i j C l aQ)(aq:jf h U (.agg ⟨[c 28,c 29,c 30,c 31,c 32]⟩) low m S)(bp:m<=60):
  aH Q s 69 [bf aL] h U (λr ac Y=>lO ac U Y r (low:Int) ((low+m:Nat):Int) m (cn m λk=>S.A (low+k)) (cn m λk=>S.B (low+k)) (λk=>S.q (low+k))/\aA U h ac/\U<=Y):=by
 refine apl ?_;have ct:=W.lt;obtain⟨dr,fC,ft,ht,fx,gD,gg⟩:=aq;obtain⟨fA,e8,rfl,_⟩:=id fx;obtain⟨fW,fX,rfl,_⟩:=id gD;obtain⟨f3,h0,rfl,_⟩:=id gg;simp only[Value.agg.injEq,xQ,v0,ik]at ht;obtain⟨qS,p5,ze,P,ge⟩:=ht;have bT:∀{o eF dP},aA U h (F (F (F h U o) (U+1) eF) (U+1) dP):=aN
 have o2:∀{o},u (F h U o) aL=some (.cells (dx c) false):=λ{o}=>by rw[ar J];exact W.at_
 unfold acI;simp(disch:=omega)only[bl,hL,po DD,o2,W.at_,qS,p5,ze,P,ge,seval];refine(FF (fx.T  bT J) (by rw[iW];omega)).mono ?_;rintro v1 h1 a5 ⟨lH,E,I⟩;refine⟨I,?_⟩;have M:=(E (U+1) J).trans (aT _ _ _);have t1:=(E U J).trans ((ar J).trans ((ar J).trans (aT _ _ _)));have cP:=bT.trans E J;refine bh @M ?_;refine(FF (gD.T  cP J) (by rw[iW];omega)).mono ?_;rintro v2 ap bX ⟨BX,B,K⟩;refine⟨K,?_⟩;have g2:=(B (U+1) J).trans M;have t2:=(B U J).trans t1;have eA:=cP.trans B J;refine cQ @M @g2 ?_;refine(aaz (gg.T  eA J)).mono ?_;rintro v3 aM bW ⟨BY,D,L⟩;refine⟨L,?_⟩;have c6:=(D (U+1) J).trans g2;have t3:=(D U J).trans t2;obtain⟨hH,cB,rfl,_⟩:=id lH;obtain⟨iQ,cE,rfl,_⟩:=id BX;obtain⟨hI,cg,rfl,_⟩:=id BY;refine lh @M @g2 @c6 @t3 ?_;refine⟨⟨_,_,_,rfl,lH.T (λd h1 ap=>by rw[ar J,D d J,B d J]) J J,BX.T (λd h1 ap=>by rw[ar J,D d J]) J J,BY.T ab J J⟩,aN,J⟩
end
def DF(aV ag:aa GE):Prop:=jq ((yq aV).map dE) (ag.map dE)
def wI(aV ag:aa GE):Prop:=∃cs:aa GE,jq ((Am aV).map dE) (cs.map dE)/\DF cs ag
def Hn(aV ag:aa GE):Prop:=∃us cs:aa GE,jq ((yq aV).map dE) (us.map dE)/\jq ((aV++us).map dE) (cs.map dE)/\wI cs ag
def aya(aV ag:aa GE):Prop:=∃cs:aa GE,jq ((Gn aV).map dE) (cs.map dE)/\Hn cs ag
def Ho(R:aa GE->Prop)(N U:Nat)(h:ae):bR:=λr ac Y=>∃m ag,r = .tuple ⟨[m,.int .i64 0]⟩/\R ag/\(∀g∈ag,gT N g)/\hg N N ag/\wx ac U Y m N N ag/\aA U h ac/\U<=Y
theorem pd.can{N q U:Nat}{h ac K:ae}{Y D:Nat}{EB:aa GE}{r:X}(S:pd N q U h ac Y aV v)(dt:U<=q)(bb:yI N EB Y ac r K D):∃(I:aa GE) (a:aw Addr) (n c:Nat),r = .agg ⟨[(N:X),.slice a n c]⟩/\jq (EB.map dE) (I.map dE)/\I.length<=EB.length/\u K q=some (.cells [(N:X),v] false)/\Y<=D/\pd N q U h (F K q (.cells [(N:X),.slice a n c] false)) D I (.slice a n c):=by
 obtain⟨v2,I,rfl,B,M,P,ko,E,L⟩:=bb;have ct:=S.lt;obtain⟨a,n,c,rfl⟩:=B.form;refine⟨I,a,n,c,rfl,M,ko,(E q J).trans S.g,L,ab,?_,?_,P,?_,J⟩
 ·rw[ar J,E _ ct];exact S.m
 ·refine fF.of ?_;have:d1 (F K q (.cells [(N:X),.slice a n c] false)) (.slice a n c) cX 3 I Y D:=by
   rcases B with B|⟨b,h1,K,e,aO⟩
   ·exact .inl B
   ·exact .inr ⟨b,h1,K,e,ab⟩
  exact this.rd
 ·intro b aO;rw[ar J,E b J];exact S.k b aO
theorem atb{s:al}{N:Nat}{h:ae}{U:Nat}(aG:fF h U v cX aV)(d7:N<=4096)(L:∀g∈aV,gT N g)(bA:aV.length<=120):aH Q s 189 [.agg ⟨[(N:X),v]⟩] h U (Ho (DF aV) N U h):=by
 refine afw ?_;obtain⟨a,cap,rfl,a1⟩:=id aG;unfold SI;refine aD ?_;have bT:∀{o a0},aA U h (F (F h U o) (U+1) a0):=aN
 refine(Pp (aG.T bT J) d7 L bA).mono ?_;rintro r h1 lq ⟨rfl,K,f0⟩;have cJ:=K U J;rw[ar J,aT]at cJ;have ed:=K (U+1) J;rw[aT]at ed;have cP:aA U h h1:=aN
 refine bh @cJ ?_;refine(Rm (aG.T cP J) J bA L).mono ?_;rintro r ap jh ⟨v2,ag,rfl,lQ,I,D,y5,E,fg⟩;have SK:ag.length<=aV.length:=h7 y5 (zZ aV);have iv:hg N N ag:=aso I D d7 J;obtain⟨a3,b8,rfl,TZ⟩:=id lQ.fj;refine aD ?_;refine bC.mk (CgJ U (U+1) N (.slice a3 ag.length b8) .nilFunc ag jh ap) ag.length ⟨0,_,rfl,J,rfl,.inl ab,aN,J⟩ ?_;rintro m _ aM vx ⟨i,o,rfl,aj,rfl,S,B,gJ⟩;rw[adE];unfold Ri;refine aD ?_;refine⟨λM=>?_,λeM=>?_⟩
 ·obtain⟨e,bP⟩:=dR M;obtain⟨b,aS,ro,hR,fm,rfl,aO⟩:=TZ ab;have pX:=(B b fm).trans aO;simp(disch:=omega)only[bl,pX,afO bP,seval];refine lJ  (k:=3)  (λ_=>rfl) (λ_=>rfl) J (S.T ab J) J e (aT _ _ _) rfl ab λBK b3 TT gf=>?_;have mp:ag.take (i+1)=ag.take i++[e]:=by rw[ho,bP];rfl
  exact⟨ag.length-(i+1),J,i+1,BK,rfl,J,by rw[cv J],by rw[mp];exact TT,λc a1=>by rw[gf c a1,ar J,ar J,ar J];exact B c a1,J⟩
 ·have t7:i=ag.length:=J
  subst t7;rw[hC]at S;have T0:=(B U J).trans ((E U J).trans cJ);have T1:=(B (U+1) J).trans ((E (U+1) J).trans ed);refine bh @T0 ?_;refine(Pu (fF.of S.rd) iv).mono ?_;rintro r cy Bn ⟨ei,P,n2⟩;obtain⟨cI,aS,iw,a2,bX,c2,aZ,d4,fL,rfl⟩:=ei.is.form;have T2:=(P (U+1) J).trans T1;refine bh @T2 ?_;exact⟨_,_,rfl,I,D,iv,ei.T ab J J,aN,J⟩
def vh(k:Int)(aV ag:aa GE):Prop:=if k=5 then aya aV ag else if k=3 then Hn aV ag else if k=1 then wI aV ag else DF aV ag
theorem YG{s:al}{k n src P:Int}{bK:aa Int}{es:aa iy}{h:ae}{U:Nat}(bj:cr h U eQ cq bK)(bP:fF h U gO iz es)(D:es.length<=60\/65536<es.length)(Mi:jZ k n src len bK P es=0):
  aH Q s 114 [.agg ⟨[(k:X),(n:X),(src:X),(len:X),eQ]⟩,.agg ⟨[(P:X),gO]⟩] h U (Ho (vh k (es.map nu)) P.toNat U h):=by
 refine abp ?_;obtain⟨a,cap,rfl,a1⟩:=id bj;obtain⟨a2,ry,rfl,nq⟩:=id bP;unfold Rh;refine aD ?_;have bT:∀{o a0 k6},aA U h (F (F (F h U o) (U+1) a0) (U+1+1) k6):=aN
 refine(JJ (bj.T bT J)).mono ?_;rintro r h1 lq ⟨rfl,d0,f0⟩;have l5:=d0 U J;rw[ar J,ar J,aT]at l5;have xy:=d0 (U+1) J;rw[ar J,aT]at xy;have uu:=d0 (U+1+1) J;rw[aT]at uu;have cP:aA U h h1:=aN
 generalize oW:iL k n src len bK=ak at *
 by_cases iN:ak=0
 case neg =>
  exact absurd Mi (by unfold jZ;omega)
 subst iN;refine cQ @xy @l5 ?_;refine⟨λeS=>?_,λtM=>?_⟩
 ·have eS:P≠n:=ab
  exact absurd Mi (by unfold jZ;omega)
 have tM:P=n:=ab
 have hmE:jZ k n src len bK P es=lf P es:=by unfold jZ;omega
 refine(Qg (bP.T cP J)).mono ?_;rintro r ap jh ⟨rfl,K,fg⟩;have eA:=cP.trans K J;have Bq:=(K U J).trans l5;have UT:=(K (U+1) J).trans xy;have Mn:=(K (U+1+1) J).trans uu
 by_cases M:lf P es=0
 case neg =>
  exact absurd J M
 rw[M]at hmE ⊢;have D:=afN M D;obtain⟨N,rfl,d7,tZ,kx⟩:=(J3.1 M).ges;have sQ:=((bP.T cP J).T K fg).map tZ;rw[<-gn ]at D;generalize mq:es.map nu=aV at D kx sQ ⊢;generalize hRR:vh k aV=R;have B:es.length=aV.length:=ab
 rw[B]at UT sQ;have s1:pd N (U+1) U h ap jh aV (.slice a2 aV.length ry):=⟨UT,Mn,sQ,kx,eA,J⟩
 rw[Je];have tail:∀{ac:ae} {Y:Nat} {aV:aa GE} {a:aw Addr} {n c:Nat},pd N (U+1) U h ac Y aV (.slice a n c)->U<=Y->aV.length<=120->(∀ag,DF aV ag->R ag)->sg s (Ho R N U h) (.pointer (some ⟨U+1,0,none⟩)) (.pointer (some ⟨U+1+1,0,none⟩)) ac Y:=λ{ac Y aV a n c} S aY bA l1=>by have ct:=S.lt;unfold sg;refine bh S.g ?_;refine(atb S.p d7 S.ok bA).mono ?_;rintro r cy Bn ⟨m,ag,rfl,e9,az8,iv,ei,ji,n2⟩;obtain⟨cI,aS,iw,a2,bX,c2,aZ,d4,fL,rfl⟩:=ei.is.form;have oy:=(ji _ S.lt).trans S.m;refine bh @oy ?_;exact⟨_,_,rfl,l1 ag e9,az8,iv,ei.T ab J J,λb aO=>by rw[ar J,ji b J];exact S.k b aO,J⟩
 have plain:∀{ac:ae} {Y:Nat} {aV:aa GE} {a:aw Addr} {n c:Nat},pd N (U+1) U h ac Y aV (.slice a n c)->U<=Y->aV.length<=120->(∀ag,wI aV ag->R ag)->aH Q s 188 [.agg ⟨[(N:X),.slice a n c]⟩] ac Y λL E Br=>(dj L).length=2/\af (j4 (u E (U+1)) E (U+1) 0 (dj L)) λUU=>sg s (Ho R N U h) (.pointer (some ⟨U+1,0,none⟩)) (.pointer (some ⟨U+1+1,0,none⟩)) UU Br:=λ{ac Y aV a n c} S aY bA l1=>by refine(abO S.p J bA S.ok).mono ?_;intro r cy Bn bb;obtain⟨cs,bm,n6,hv,rfl,I,B,dt,dO,uv⟩:=S.can J bb;refine bh @dt ?_;exact tail uv J (by have:=zZ (p:=λ_=>true) (m:=AT) aV;unfold Am at B;omega) λag h=>l1 ag ⟨cs,I,h⟩
 have yF:∀{ac:ae} {Y:Nat} {aV:aa GE} {a:aw Addr} {n c:Nat},pd N (U+1) U h ac Y aV (.slice a n c)->U<=Y->aV.length<=60->(∀ag,Hn aV ag->R ag)->aH Q s 181 [.agg ⟨[(N:X),.slice a n c]⟩] ac Y λHY Bs Bt=>(dj HY).length=2/\af (j4 (u Bs (U+1)) Bs (U+1) 0 (dj HY)) λvy=>af (CS (u vy (U+1)) λcs x=>hV (some 2) 0 cs) λT3=>aH Q s 188 [T3] vy Bt λL E Br=>(dj L).length=2/\af (j4 (u E (U+1)) E (U+1) 0 (dj L)) λUU=>sg s (Ho R N U h) (.pointer (some ⟨U+1,0,none⟩)) (.pointer (some ⟨U+1+1,0,none⟩)) UU Br:=λ{ac Y aV a n c} S aY bA l1=>by refine(aee S.p J bA S.ok).mono ?_;rintro r cy Bn ⟨us,hus,y5,_,bb⟩;obtain⟨cs,bm,n6,hv,rfl,I,B,dt,dO,uv⟩:=S.can J bb;rw[jd]at B;refine bh @dt ?_;exact plain uv J J λag h=>l1 ag ⟨us,cs,hus,I,h⟩
 refine cQ @UT @Bq ?_;refine⟨λh5=>?_,λh5=>⟨λcf=>yF s1 J D λag h=>?_,λcf=>⟨λaW=>plain s1 J J λag h=>?_,λaW=>tail s1 J J λag h=>?_⟩⟩⟩
 ·refine(ZJ s1.p J J kx).mono ?_;intro r cy Bn bb;obtain⟨cs,bm,n6,hv,rfl,I,B,dt,dO,uv⟩:=s1.can J bb;have Bo:=zZ (p:=CX) (m:=id) aV;unfold Gn at B;refine bh @dt ?_;refine yF uv J J λag h=>?_;rw[<-hRR,uE.1 h5];exact⟨cs,I,h⟩
 all_goals
  rw[<-hRR];unfold vh;rw[if_neg (r8.1 h5)]
 ·rw[if_pos (uE.1 cf)];exact h
 ·rw[if_neg (r8.1 cf),if_pos (uE.1 aW)];exact h
 ·rw[if_neg (r8.1 cf),if_neg (r8.1 aW)];exact h
theorem RI{a b:GE}(h:dE a=dE b):a=b:=by
 cases a;cases b;simp only[dE,Prod.mk.injEq]at h
 grind
theorem acP:∀{l B:aa GE},l.map dE=B.map dE->l=B
 | [],[],_=>rfl
 |a::l,b::B,h=>by simp only[uB,v0]at h;rw[RI h.1,acP h.2]
 | [],_::_,h=>by cases h
 |_::_,[],h=>by cases h
theorem Gu{A:aa dB}{l B:aa GE}(h:jq A (l.map dE))(ac:jq A (B.map dE)):l=B:=acP (h.unique ac)
theorem aaA(h:DF aV ag)(ac:DF aV us):ag=us:=Gu h ac
theorem YH(h:wI aV ag)(ac:wI aV us):ag=us:=by obtain⟨a,D,h⟩:=h;obtain⟨b,B,ac⟩:=ac;rw[Gu B D]at ac;exact aaA h ac
theorem aaB(h:Hn aV ag)(ac:Hn aV us):ag=us:=by obtain⟨a,c,E,I,h⟩:=h;obtain⟨b,d,D,B,ac⟩:=ac;rw[Gu D E]at B;rw[Gu B I]at ac;exact YH h ac
theorem apv{k:Int}(h:vh k aV ag)(ac:vh k aV us):ag=us:=by
 unfold vh at h ac
 split at h
 ·rw[if_pos J]at ac;obtain⟨a,D,h⟩:=h;obtain⟨b,B,ac⟩:=ac;rw[Gu B D]at ac;exact aaB h ac
 ·rw[if_neg J]at ac
  split at h
  ·rw[if_pos J]at ac;exact aaB h ac
  ·rw[if_neg J]at ac
   split at h
   ·rw[if_pos J]at ac;exact YH h ac
   ·rw[if_neg J]at ac;exact aaA h ac
def mA(Z:cb):ju:={ A:=λv=>sw Z.k Z.src v,B:=λ_=>-1,q:=λv=>rz Z.k Z.src v }
structure NwI (Z:cb) (i j U:Nat) (h:ae) (ac:ae) (Y aL:Nat) (c:Nat->X) (aQ:aw Nat) (bz b2 cC:Nat) (l:aa et) (g:ae):Prop where
 k:aA U h ac
 p:U<=aL
 eE:U<=bz/\bz<Y/\bz≠aL/\aQ≠some bz/\u g bz=none/\u ac bz=some (.map [] 0)
 hS:U<=b2/\b2<Y/\b2≠aL/\aQ≠some b2/\u g b2=none/\u ac b2=some (.map [] 0)
 i6:U<=cC/\cC<Y/\cC≠aL/\aQ≠some cC/\u g cC=none/\u ac cC=some (.map [] 0)
 ne:bz≠b2/\bz≠cC/\b2≠cC
 W:eX ac Y aL c i j Z.C l aQ
 b:∀b,aQ=some b->U<=b/\u g b=none
 G:rV g ac Y aL
 o:∀d,d<U->u g d=none
 z:j8 g Y c Z i j
 m:c 23 = .int .i64 1/\c 24 = .map (some bz)/\c 25 = .int .i64 1/\c 26 = .int .i64 0/\c 27 = .int .i64 0/\c 39 = .bool false/\c 40 = .slice none 0 0/\c 41 = .map (some b2)/\c 42 = .int .i64 0/\c 43 = .map (some cC)/\c 44 = .bool false
 aDP:j≠0->l=[]/\c 38 = .bool false
 aCn:j=0->c 38 = .bool true/\jf g Y (.agg ⟨[c 28,c 29,c 30,c 31,c 32]⟩) (Z.bB i) (Z.H i) (mA Z)/\(∀n,28<=n->n<33->c (n+5)=c n)/\l=[CZ ((i*Z.C+0:Nat):Int) 0 (qz Z.k Z.len 0 (Z.H i) (cn (Z.H i) λk=>(mA Z).A (Z.bB i+k)) (λk=>(mA Z).q (Z.bB i+k)):Int) false]
theorem yk.T{h ac:ae}{ao aj d2 dm:Nat}{v:X}{r c:Nat}{ag:aa GE}(H:yk h ao aj v r c ag)(B:∀d,ao<=d->d<aj->u ac d=u h d)(E:d2<=ao)(D:aj<=dm):yk ac d2 dm v r c ag:=by obtain⟨K,M,L,I,e,P,⟨b,aS,aK,cI,bQ,d6⟩,a3,aZ⟩:=H;exact⟨K,M,L,I,e,P.T B E D,⟨b,aS,aK,J,J,ab⟩,a3.T B E D,aZ.T B E D⟩
def NwP(Z:cb)(i j U:Nat)(h:ae):bR:=λr ac Y=>∃aL c aQ bz b2 cC l g,r = .tuple ⟨[bf aL,.int .i64 0]⟩/\NwI Z i j U h ac Y aL c aQ bz b2 cC l g/\U<=Y
theorem atc{s:al}{x:i2}{I eC:Nat}{e2:X}{h:ae}{U:Nat}{Z:cb}(K:fZ Z)(H:pC h U x eQ gO e2)(A1:cr h U e2 yN [])(yT:x.vz=0)(L1:x.bK.length<1000000)(au:hc x=0)(aj:I<Z.R)(bZ:eC<Z.C)(z:Z.k=x.k/\x.n=(Z.N:Int)/\Z.src=x.src/\Z.len=x.len/\Z.bK=x.bK/\x.R=(Z.R:Int)/\x.C=(Z.C:Int)/\x.lim=(Z.lim:Int))(az9:Z.N<=60)(lQ:vh x.k (x.es.map nu) Z.ag):
  aH Q s 59 [.agg ⟨gR x eQ gO e2⟩,(I:X),(eC:X)] h U (NwP Z I eC U h):=by
 refine axH ?_;obtain⟨bk,gj,rfl,_⟩:=id H.d;obtain⟨bV,s5,rfl,_⟩:=id H.e;obtain⟨bL,gV,rfl,_⟩:=id A1;have bT:∀{o},aA U h (F h U o):=aN
 have iJ:∀{o},pC (F h U o) (U+1) x _ _ _:=λ{o}=>H.T aN J;unfold gR at *
 unfold aha bw lA cF ax bH aX ad aR bI;refine aD ?_;refine(J4 iJ).mono ?_;rintro _ h1 a5 ⟨rfl,d0,f0⟩;have cJ:=d0 U J;rw[aT]at cJ;have cP:aA U h h1:=aN
 rw[au];refine bh @cJ ?_;refine⟨λaO=>absurd aO J,λhi0=>⟨λaO=>absurd aO J,λHM=>⟨λaO=>absurd aO J,λBA=>?_⟩⟩⟩;rw[show(!decide ((eC:Int)<x.C))=false by rw[gP J];rfl];obtain⟨de,ew,g7,mC,aDr,aEy,aEz,aEA,aEB,q10⟩:=asp au;obtain⟨No,d7,uw,xr,VV,ei,d5,aDQ⟩:=z;obtain⟨N,nO⟩:∃N,Z.N=N:=⟨_,rfl⟩
 obtain⟨R,EC⟩:∃R,Z.R=R:=⟨_,rfl⟩
 obtain⟨C,ED⟩:∃C,Z.C=C:=⟨_,rfl⟩
 obtain⟨ag,vR⟩:∃ag,Z.ag=ag:=⟨_,rfl⟩
 rw[vR]at lQ;rw[nO]at d7 az9;rw[EC]at ei aj;rw[ED]at d5 bZ;have hGN:x.dd.toNat=N:=J
 unfold GJ bw i5 b9 ax bo aX b6 jl cZ ad aR bS b1 ay bI;refine bh @cJ ?_;refine(YG (H.d.T cP J) (H.e.T cP J) H.l de).mono ?_;rw[hGN];rintro _ M bX ⟨m,fo,rfl,hTs,_,iv,hRm,eW,fg⟩;obtain rfl:ag=fo:=apv lQ hTs;have aAa:=hRm;obtain⟨cI,sp1,nn1,a2',n2',c2',H8,n4',H9,rfl⟩:=hRm.is.form;have g2:=(eW U J).trans cJ;have eA:aA U h M:=aN
 refine bh @g2 ?_;have K2':∀{o a0},aA U h (F (F M bX o) bX a0):=aN
 refine(aor (A1.T  K2' J) (by simp)).mono ?_;rintro vch aM P ⟨w3,e1,gJ⟩;have aBL:=w3;obtain⟨UV,UW,rfl,_⟩:=id w3;have c6:=e1 U J;rw[ar J,ar J,g2]at c6;refine bh @c6 ?_;refine⟨J,?_⟩;have fD:aA U h aM:=aN
 rw[aos];have gm3:=e1 bX J;rw[aT]at gm3;refine hx @axS @axT @c6 ?_;generalize D:Ic (I:Int) (eC:Int) x.k x.n x.src x.len bk x.bK.length gj x.R x.C x.lim UV 0 UW=c1;have k9:c1 0 = (I:X):=by rw[<-D];rfl
 have fA:c1 1 = (eC:X):=by rw[<-D];rfl
 have fW:c1 2 = (x.k:X):=by rw[<-D];rfl
 have f3:c1 3 = (x.n:X):=by rw[<-D];rfl
 have VW:c1 4 = (x.src:X):=by rw[<-D];rfl
 have Np:c1 5 = (x.len:X):=by rw[<-D];rfl
 have EO:c1 8 = (x.C:X):=by rw[<-D];rfl
 have f22:c1 22 = .slice none 0 0:=by rw[<-D];rfl
 have aDR:c1 7 = (x.R:X):=by rw[<-D];rfl
 have aDS:c1 9 = (x.lim:X):=by rw[<-D];rfl
 have f10:c1 10 = .slice UV 0 UW:=by rw[<-D];rfl
 have f23:c1 23 = .int .i64 1:=by rw[<-D];rfl
 have f25:c1 25 = .int .i64 1:=by rw[<-D];rfl
 have f26:c1 26 = .int .i64 0:=by rw[<-D];rfl
 have f27:c1 27 = .int .i64 0:=by rw[<-D];rfl
 have f38:c1 38 = .bool false:=by rw[<-D];rfl
 have f39:c1 39 = .bool false:=by rw[<-D];rfl
 have f40:c1 40 = .slice none 0 0:=by rw[<-D];rfl
 have f42:c1 42 = .int .i64 0:=by rw[<-D];rfl
 have f44:c1 44 = .bool false:=by rw[<-D];rfl
 clear D;have K3':∀{o},aA U h (F aM P o):=fD.set J;refine(FF (H.d.T  K3' J) L1).mono ?_;rintro vds bc d4 ⟨hvd,fI,hb⟩;have S4:=hvd;obtain⟨UX,UY,rfl,_⟩:=id hvd;have gw4:=fI P J;rw[aT]at gw4;have ed:=fI U J;rw[ar J,c6]at ed;have gm4:=fI bX J;rw[ar J,gm3]at gm4;refine u5 @gw4 @ed @gm4 @ei @d5 ?_;rw[asx];refine⟨by show 6<45;omega,?_⟩;have gG:∀{o},aA U h (F bc P o):=λ{o} d bj=>by rw[ar J,fI d J,ar J,fD d bj]
 have hRi:kj (F bc P (.cells (dx (hh c1 6 (.slice UX x.bK.length UY))) false)) d4 _ N N ag:=(aAa.T    (λd h1 M=>by rw[ar J,fI d J,ar J,e1 d J,ar J,ar J]) J J).is;refine(avg iv hRi J J J J J J).mono ?_;rintro fC b3 fP ⟨en,gf,nl⟩;have hB0:=en;obtain⟨gb,sp5,nn5,ns,n25,c25,sK,n45,c45,rfl⟩:=en.is.form;have gw5:=gf P J;rw[aT]at gw5;have f4:=gf U J;rw[ar J,ed]at f4;have jp:aA U h b3:=gG.trans gf J;refine hx @gw5 @asq @asv ?_;have rB:=uL (n:=N) (k:=R) (J:I<=I+1);have tQ:=uL (n:=N) (k:=C) (J:eC<=eC+1);have hl3:=ts (n:=N) (k:=R) J (I+1);have hl4:=ts (n:=N) (k:=C) J (eC+1);refine(avh (Kv iv J J) (hB0.T (d2:=0) (dm:=fP) (λd h1 M=>ar J) J J).is).mono ?_;rintro vco cy L ⟨fo,e9,UK,hCs,ji,n2⟩;have aAb:=hCs;obtain⟨da,dc,ja,nA,rfl,hB,⟨bb2,aBM,rfl,cb1,cb2,cb3⟩,pf,aDT⟩:=hCs;obtain⟨aw1,cw1,rfl⟩:=hB.H1.form;obtain⟨aw3,cw3,rfl⟩:=pf.H1.form;obtain⟨aw4,cw4,rfl⟩:=aDT.H1.form;have gw6:=ji P J;rw[aT]at gw6;have oy:=ji U J;rw[ar J,f4]at oy;have zs:aA U h cy:=λd bj=>by rw[ji d J,ar J];exact jp d bj
 simp(disch:=omega)only[bl,gw6,ass,GN,aot,aou,aov,oy,d7,ei,seval];generalize Ej:F (F (F (F (F (F (F cy P _) L _) (L+1) _) (L+1+1) _) P _) P _) P _=xF;have gy:∀d,d≠P->d<L->u xF d=u cy d:=λd h1 M=>by rw[<-Ej,ar J,ar J,ar J,ar J,ar J,ar J,ar J]
 have MU:∃E,u xF P=some (.cells (dx E) false)/\E 0 = (I:X)/\E 1 = (eC:X)/\E 2 = (x.k:X)/\E 3 = (x.n:X)/\E 4 = (x.src:X)/\E 5 = (x.len:X)/\E 6 = .slice UX x.bK.length UY/\E 7 = (x.R:X)/\E 8 = (x.C:X)/\E 9 = (x.lim:X)/\E 10 = .slice UV 0 UW/\E 22 = .slice none 0 0 /\
   wx b3 d4 fP (.agg ⟨[E 11,E 12,E 13,E 14,E 15]⟩) (c8 N R (I+1)-c8 N R I) (c8 N C (eC+1)-c8 N C eC) (lN ag (c8 N R I) (c8 N R (I+1)-c8 N R I) (c8 N C eC) (c8 N C (eC+1)-c8 N C eC)) /\
   yk cy fP L (.agg ⟨[E 16,E 17,E 18,E 19,E 20,E 21]⟩) (c8 N R (I+1)-c8 N R I) (c8 N C (eC+1)-c8 N C eC) fo /\
   (E 23 = .int .i64 1/\E 24 = .map (some L)/\E 25 = .int .i64 1/\E 26 = .int .i64 0/\E 27 = .int .i64 0/\E 39 = .bool false/\E 40 = .slice none 0 0/\E 41 = .map (some (L+1))/\E 42 = .int .i64 0/\E 43 = .map (some (L+2))/\E 44 = .bool false)/\E 38 = .bool false:=by rw[<-Ej,aT];exact⟨_,rfl,k9,fA,fW,f3,VW,Np,rfl,aDR,EO,aDS,f10,f22,hB0,aAb,⟨f23,rfl,f25,f26,f27,f39,f40,rfl,f42,rfl,f44⟩,f38⟩
 have UZ:u xF L=some (.map [] 0)/\u xF (L+1)=some (.map [] 0)/\u xF (L+2)=some (.map [] 0):=by
  refine⟨?_,?_,?_⟩
  ·rw[<-Ej,ar J,ar J,ar J,ar J,ar J,aT]
  ·rw[<-Ej,ar J,ar J,ar J,ar J,aT]
  ·rw[<-Ej,ar J,ar J,ar J,aT]
 have qX:=(gy U J J).trans oy;have xG:aA U h xF:=λd bj=>by rw[gy d J J];exact zs d bj
 clear Ej;obtain⟨E,MU,IX,hH,iQ,hI,uh,Ni,aCo,iI,nH,VG,og,x22,aDU,aDV,aDW,Uj⟩:=MU;subst nO EC ED vR;have K39:P+1<=d4:=hb;have fin:∀(kP:ae) (qZ:Nat) (q0:Nat->X) (aQ:aw Nat) (l:aa et),L+3<=qZ->(∀d,d<L+3->d≠P->u kP d=u xF d)->(∀n,n≠22->n<28\/38<n->q0 n=E n)->eX kP qZ P q0 I eC Z.C l aQ->(∀b,aQ=some b->L+3<=b)->(eC≠0->l=[]/\q0 38 = .bool false)->(eC=0->q0 38 = .bool true/\(∃MV,(∀b,aQ=some b->MV<=b)/\MV<=qZ/\lO kP (L+3) MV (.agg ⟨[q0 28,q0 29,q0 30,q0 31,q0 32]⟩) (Z.bB I:Int) ((Z.bB I+Z.H I:Nat):Int) (Z.H I) (cn (Z.H I) λk=>(mA Z).A (Z.bB I+k)) (cn (Z.H I) λk=>(mA Z).B (Z.bB I+k)) (λk=>(mA Z).q (Z.bB I+k)))/\(∀n,28<=n->n<33->q0 (n+5)=q0 n)/\l=[CZ ((I*Z.C+0:Nat):Int) 0 (qz Z.k Z.len 0 (Z.H I) (cn (Z.H I) λk=>(mA Z).A (Z.bB I+k)) (λk=>(mA Z).q (Z.bB I+k)):Int) false]) ->
   NwP Z I eC U h (.tuple ⟨[bf P,.int .i64 0]⟩) kP qZ:=by
  intro kP qZ q0 aQ l bv vD B VX mr hj1 BA;obtain⟨g,a9⟩:=C2 (λd=>if d<U\/d=P\/d=L\/d=L+1\/d=L+2\/aQ=some d then 1 else 0) kP qZ;have sS:∀d,u g d=if d<qZ/\(if d<U\/d=P\/d=L\/d=L+1\/d=L+2\/aQ=some d then 1 else 0)=0 then u kP d else none:=a9
  have aCp:∀d,U<=d->d<qZ->d≠P->(d<L\/L+3<=d)->aQ≠some d->u g d=u kP d:=λd h1 M aM bc b3=>by
   rw[sS d,if_pos ⟨M,if_neg (by rintro(e|e|e|e|e|e) <;> first|exact b3 e|omega)⟩]
  have dd:∀d,(d<U\/d=P\/d=L\/d=L+1\/d=L+2\/aQ=some d)->u g d=none:=λd h1=>by rw[sS d,if_neg λe=>by rw[if_pos h1]at e;exact absurd e.2 (by decide)]
  have D5:∀d,d<L+3->aQ≠some d:=λd bj e=>by have:=mr d e;omega
  have uu:∀d,P+1<=d->d<L->u g d=u cy d:=λd h1 M=>by rw[aCp d J J J (.inl M) (D5 d J),vD d J J,gy d J M]
  refine⟨P,q0,aQ,L,L+1,L+2,l,g,rfl,⟨λd bj=>(vD d J J).trans (xG d bj),J,⟨J,J,J,D5 _ J,dd _ (by simp),(vD _ J J).trans UZ.1⟩,⟨J,J,J,D5 _ J,dd _ (by simp),(vD _ J J).trans UZ.2.1⟩,⟨J,J,J,D5 _ J,dd _ (by simp),(vD _ J J).trans UZ.2.2⟩,J,VX,λb e=>⟨by have:=mr b e;omega,dd b (by simp[e])⟩,⟨jj.sub a9,dd _ (by simp),λd bj=>by rw[sS d,if_neg J]⟩,λd bj=>dd d (.inl bj),⟨?_,?_,?_,?_,?_,?_,?_,?_,?_,?_⟩,?_,hj1,λe=>?_⟩,J⟩
  ·rw[B 2 J J,iQ,No]
  ·rw[B 3 J J,hI,d7]
  ·rw[B 4 J J,uh,uw]
  ·rw[B 5 J J,Ni,xr]
  ·rw[B 6 J J,aCo,VV];exact(eG.T S4 (d2:=0) (dm:=qZ) (λd h1 M=>by rw[uu d J J,ji d J,ar J,gf d J,ar J]) J J).rd
  ·rw[B 7 J J,iI,ei]
  ·rw[B 9 J J,VG,aDQ]
  ·exact⟨_,_,(B 10 J J).trans og⟩
  ·rw[B 11 J J,B 12 J J,B 13 J J,B 14 J J,B 15 J J];exact(aDU.T (d2:=0) (dm:=qZ) (λd h1 M=>by rw[uu d J J,ji d J,ar J]) J J).is
  ·rw[B 16 J J,B 17 J J,B 18 J J,B 19 J J,B 20 J J,B 21 J J];exact⟨fo,e9,UK,(yk.T aDV (d2:=0) (dm:=qZ) (λd h1 M=>uu d J J) J J).s⟩
  ·obtain⟨aB,a2,a3,aZ,bt,bm,a6,br,c7,dk,d3⟩:=aDW;exact⟨(B _ J J).trans aB,(B _ J J).trans a2,(B _ J J).trans a3,(B _ J J).trans aZ,(B _ J J).trans bt,(B _ J J).trans bm,(B _ J J).trans a6,(B _ J J).trans br,(B _ J J).trans c7,(B _ J J).trans dk,(B _ J J).trans d3⟩
  ·obtain⟨cI,⟨MV,bQ,d6,fB⟩,gb,zu⟩:=BA e;exact⟨cI,(fB.wid (d2:=0) (dm:=qZ) (λd h1 M=>aCp d J J J (.inr h1) λe=>by have:=bQ d e;omega) J d6).rd,gb,zu⟩
 have Hm:P<L+3:=J
 refine⟨λvJ=>?_,λvJ=>fin xF (L+3) E none [] (cD _) (λ_ _ _=>rfl) (λ_ _ _=>rfl) ⟨MU,Hm,J,J,J,bZ,IX,hH,by rw[nH,d5],by rw[x22];exact .nil,nofun⟩ (nofun) (λ_=>⟨rfl,Uj⟩) λe=>absurd vJ (by rw[e];decide)⟩;have hJ0:eC=0:=by have:=uE.1 vJ;omega
 subst hJ0;refine(uT (n:=Z.N) (k:=Z.R) (i:=I) J J J J).fM ⟨cD _,?_⟩;refine lh @qX @ei @d7 (cv (J:I<1000000000000)) ?_;refine(uT (n:=Z.N) (k:=Z.R) (i:=I+1) J J J J).fM ⟨cD _,?_⟩;have bp:c8 Z.N Z.R (I+1)=Z.bB I+Z.H I:=by unfold cb.H cb.bB;omega
 have nr:Z.bB I+Z.H I<=Z.N:=by rw[<-bp];exact hl3
 rw[bp,show c8 Z.N Z.R I=Z.bB I from rfl];refine cQ @qX @d7 ?_;have hdS:cr xF (L+1+1+1) (.slice bk x.bK.length gj) cq x.bK:=H.d.T xG J;rw[d7]at ew;refine(aop (m:=Z.H I) (low:=Z.bB I) hdS ew J J J).mono ?_;rintro aF m8 n8 ⟨dn,BB,ahr⟩;have aDX:∀k:Nat,(mA Z).A (Z.bB I+k)=sw x.k x.src ((Z.bB I:Int)+(k:Int)):=λk=>by show sw Z.k Z.src ((Z.bB I+k:Nat):Int)=_;rw[No,uw,vZ]
 have aDY:∀k:Nat,(mA Z).q (Z.bB I+k)=rz x.k x.src ((Z.bB I:Int)+(k:Int)):=λk=>by show rz Z.k Z.src ((Z.bB I+k:Nat):Int)=_;rw[No,uw,vZ]
 replace dn:lO m8 (L+3) n8 aF (Z.bB I:Int) ((Z.bB I+Z.H I:Nat):Int) (Z.H I) (cn (Z.H I) λk=>(mA Z).A (Z.bB I+k)) (cn (Z.H I) λk=>(mA Z).B (Z.bB I+k)) (λk=>(mA Z).q (Z.bB I+k)):=by simp only[aDX,aDY];exact dn
 have hS0:=dn;obtain⟨dr,fC,ft,rfl,fx,gD,gg⟩:=dn;obtain⟨sa1,sc1,rfl,_⟩:=id fx;obtain⟨sa2,sc2,rfl,_⟩:=id gD;obtain⟨sa3,sc3,rfl,_⟩:=id gg;have gw8:=(BB P J).trans MU;refine lh @gw8 @ast @asu @asw ?_;refine⟨J,?_⟩;have hdK:pw m8 n8 (.slice UX x.bK.length UY) Z.k Z.src Z.len Z.N Z.bK:=⟨by rw[VV];exact(eG.T S4 (d2:=0) (dm:=n8) (ac:=m8) (λd h1 M=>by rw[BB d J,gy d J J,ji d J,ar J,gf d J,ar J]) J J).rd,K.dok,K.n60,K.pl,K.hj⟩
 generalize Ek:nm (nm E 28 _) 33 _=g9;have qJ:∀n,n<28\/38<=n->g9 n=E n:=λn bv=>by rw[<-Ek,tv (by show n<33\/38<=n;omega),tv (by show n<28\/33<=n;omega)]
 have L5:Value.agg ⟨[g9 28,g9 29,g9 30,g9 31,g9 32]⟩ = .agg ⟨[.int .i64 (Z.bB I:Int),((Z.bB I+Z.H I:Nat):X),.slice sa1 (cn (Z.H I) λk=>(mA Z).A (Z.bB I+k)).length sc1,.slice sa2 (cn (Z.H I) λk=>(mA Z).B (Z.bB I+k)).length sc2,.slice sa3 (eT (Z.H I) λk=>(mA Z).q (Z.bB I+k)).length sc3]⟩:=by rw[<-Ek];rfl
 have Tu:Value.agg ⟨[g9 33,g9 34,g9 35,g9 36,g9 37]⟩ = .agg ⟨[.int .i64 (Z.bB I:Int),((Z.bB I+Z.H I:Nat):X),.slice sa1 (cn (Z.H I) λk=>(mA Z).A (Z.bB I+k)).length sc1,.slice sa2 (cn (Z.H I) λk=>(mA Z).B (Z.bB I+k)).length sc2,.slice sa3 (eT (Z.H I) λk=>(mA Z).q (Z.bB I+k)).length sc3]⟩:=by rw[<-Ek];rfl
 have bP:∀n,28<=n->n<33->g9 (n+5)=g9 n:=λn h1 M=>by
  rw[<-Ek];rcases(by omega:n=28\/n=29\/n=30\/n=31\/n=32)with rfl|rfl|rfl|rfl|rfl <;> rfl
 clear Ek;have VT:∀{o},eX (F (F m8 P o) P (.cells (dx g9) false)) n8 P g9 I 0 Z.C [] none:=λ{o}=>⟨aT _ _ _,J,J,J,J,bZ,(qJ 0 J).trans IX,(qJ 1 J).trans hH,by rw[qJ 8 J,nH,d5],by rw[qJ 22 J,x22];exact .nil,nofun⟩
 refine(Xv (k:=Z.k) (N:=Z.N) (src:=Z.src) (len:=Z.len) (bK:=Z.bK) (S:=mA Z) (low:=Z.bB I) (m:=Z.H I) (l:=[]) VT (by decide) { hdK with d:=?_ } (by rw[qJ 2 J,iQ,No]) (by rw[qJ 3 J,hI,d7]) (by rw[qJ 4 J,uh,uw]) (by rw[qJ 5 J,Ni,xr]) ?_ nr).mono ?_
 ·rw[qJ 6 J,aCo,VV];exact(eG.T S4 (d2:=0) (dm:=n8) (λd h1 M=>by rw[ar J,ar J,BB d J,gy d J J,ji d J,ar J,gf d J,ar J]) J J).rd
 ·rw[Tu];exact(hS0.wid (d2:=0) (dm:=n8) (λd h1 M=>by rw[ar J,ar J]) J (cD _)).rd
 rintro _ kP qZ ⟨rfl,dF,ce,VX,gK,hf9,aAc⟩;have aCq:∀d,d<n8->d≠P->u kP d=u m8 d:=λd h1 M=>by rw[hf9 d h1 M (nofun),ar M,ar M]
 refine fin kP qZ _ (some ce) _ J (λd h1 M=>by rw[aCq d J M,BB d J]) (λn h1 M=>by rw[dN h1,dN J];exact qJ n J) VX (λb e=>by cases e;omega) (λe=>absurd rfl e) λ_=>⟨?_,⟨n8,λb e=>(by cases e;exact gK),aAc,?_⟩,λn h1 M=>?_,rfl⟩
 ·rw[dN J,yt]
 ·rw[dN J,dN J,dN J,dN J,dN J,dN J,dN J,dN J,dN J,dN J,L5];exact hS0.wid (λd h1 M=>aCq d M J) (cD _) (cD _)
 ·rw[dN J,dN J,dN J,dN J];exact bP n h1 M
def cb.eo(Z:cb):jK:=⟨Z.k,Z.N,Z.src,Z.len,λb=>iB Z.bK Z.N b,Z.ag,Z.lim⟩
def cb.jc(Z:cb)(t i:Nat):Int:=(qz Z.k Z.len t (Z.H i) (cn (Z.H i) λk=>(Z.eo.st t).A (Z.bB i+k)) (λk=>(Z.eo.st t).q (Z.bB i+k)):Int)
def cb.fS(Z:cb)(t:Nat):Int:=wi false (decide (∃i,i<Z.R/\Z.jc t i≠0)) (t:Int) (Z.lim:Int)
def pM(Z:cb):cw->ky
 | .share i j t=>KQ Z i t (Z.eo.x t) j
 | .spread i j t=>QK Z j t (Z.eo.x t) i
 | .dz i j t=>⟨3,((i*Z.C+j:Nat):Int),((i*Z.C+0:Nat):Int),t,0,[],bq (Z.H i) (il (gd Z.k t) (Z.cut i j) λk=>Z.eo.x t (Z.lc j+k)),0,false⟩
 | .dA i t=>⟨4,((i*Z.C+0:Nat):Int),0,t,0,[],[],Z.jc t i,false⟩
 | .order i t=>tt Z t (Z.fS t) i
def cb.vi(Z:cb)(t i:Nat)(dX:Nat->al)(v:Nat):aw Int:=AB (gd Z.k t) Z.ag (Z.eo.x t) (Z.bB i) (Z.H i) Z.C Z.lc dX (v-Z.bB i)
structure LG (Z:cb) (av:Nat) (x:f8) (i:Nat) (g h:ae) (U:Nat) (c:Nat->X) (so:aw Nat) (b2:Nat):Prop where
 El:c 26 = ((x.a i-1:Nat):X)
 xj:c 27 = .int .i64 (if x.a i=0 then 0 else Z.fS (x.a i-1))
 MW:c 38 = .bool (x.w i)
 Em:c 39 = .bool (decide (0<x.a i))
 has:jf g U (.agg ⟨[c 28,c 29,c 30,c 31,c 32]⟩) (Z.bB i) (Z.H i) (Z.eo.st (x.a i-1))
 U0:jf g U (.agg ⟨[c 33,c 34,c 35,c 36,c 37]⟩) (Z.bB i) (Z.H i) (Z.eo.st (if x.w i=true then x.a i else x.a i-1))
 m2:x.w i=true->c 40 = .slice none 0 0/\so=none
 m3:x.w i=false->x.a i<=av->iD h b2 Z.C (x.dX i) (λ_ v=>v = .bool true)/\mZ h (c 40) (bq (Z.H i) λk=>Z.vi (x.a i) i (x.dX i) (Z.bB i+k)) so
theorem LG.T{Z:cb}{av:Nat}{x fU:f8}{i:Nat}{g h ck ac:ae}{U Y:Nat}{c bM:Nat->X}{so:aw Nat}{b2:Nat}(M:LG Z av x i g h U c so b2)(D:fU.a i=x.a i)(K:fU.w i=x.w i)(I:fU.dX i=x.dX i)(B:∀n,26<=n->n<41->bM n=c n)(L:aA U g ck)(E:U<=Y)(h1:u ac b2=u h b2)(ap:∀b,so=some b->u ac b=u h b):LG Z av fU i ck ac Y bM so b2:=by
 refine⟨?_,?_,?_,?_,?_,?_,λe=>?_,λe aK=>?_⟩
 ·rw[B 26 J J,D];exact M.El
 ·rw[B 27 J J,D];exact M.xj
 ·rw[B 38 J J,K];exact M.MW
 ·rw[B 39 J J,D];exact M.Em
 ·rw[B 28 J J,B 29 J J,B 30 J J,B 31 J J,B 32 J J,D];exact hs.T M.has L E
 ·rw[B 33 J J,B 34 J J,B 35 J J,B 36 J J,B 37 J J,D,K];exact hs.T M.U0 L E
 ·rw[B 40 J J];exact M.m2 ab
 ·rw[B 40 J J,I,D];obtain⟨de,P⟩:=M.m3 ab J;exact⟨de.T h1 ab,P.T ap⟩
structure jx (Z:cb) (av:Nat) (x:f8) (i j:Nat) (own:Nat->Nat) (g h:ae) (U aL:Nat) (c:Nat->X) (l:aa et) (aQ so:aw Nat) (bz b2 cC:Nat):Prop where
 W:eX h U aL c i j Z.C l aQ
 z:j8 g U c Z i j
 p:own aL=i*Z.C+j+1
 b:∀b,aQ=some b->own b=i*Z.C+j+1
 f:kG g 0 U l ((x.out (i*Z.C+j)).map (pM Z))
 eE:bz<U/\own bz=i*Z.C+j+1/\bz≠aL/\aQ≠some bz/\so≠some bz
 hS:b2<U/\own b2=i*Z.C+j+1/\b2≠aL/\aQ≠some b2/\so≠some b2
 i6:cC<U/\own cC=i*Z.C+j+1/\cC≠aL/\aQ≠some cC/\so≠some cC
 ne:bz≠b2/\bz≠cC/\b2≠cC
 s:∀b,so=some b->b<U/\own b=i*Z.C+j+1/\b≠aL/\aQ≠some b
 o5:c 24 = .map (some bz)
 mz:c 41 = .map (some b2)
 rX:c 43 = .map (some cC)
 rT:c 25 = ((x.q i j+1:Nat):X)
 top:i=0->c 23 = ((x.P j+1:Nat):X)/\iD h bz Z.R (x.e4 j) (sV g 0 U Z j (Z.eo.x (x.P j+1)))
 o:j=0->LG Z av x i g h U c so b2
 m4:∃es cH,u h b2=some (.map es cH)
 one:i=0->j=0->c 42 = (x.V:X)/\c 44 = .bool (decide (av<x.V))/\iD h cC Z.R x.fN (Iq (Z.jc x.V))
theorem wz{ef:Nat}{own:Nat->Nat}{h ac:ae}{U Y:Nat}(aQ so:aw Nat)(B:U<=Y)(same:∀d,d<U->own d≠ef->u ac d=u h d):
  ∃db ck,jj db ac Y ck/\Eh ef own db h ac U Y/\(∀d,U<=d->(aQ=some d\/so=some d)->db d=ef)/\(∀d,U<=d->aQ≠some d->so≠some d->db d=0):=by
 obtain⟨ck,D⟩:=C2 (λd=>if d<U then own d else if aQ=some d\/so=some d then ef else 0) ac Y;refine⟨_,ck,D,⟨B,same,ab,ab⟩,ab,ab⟩
 all_goals grind
def En(Z:cb)(av:Nat)(x:f8)(m:cw)(i j:Nat)(own:Nat->Nat)(h:ae)(U aL bz b2 cC:Nat):bR:=λr ac Y=>r = .bool true/\∃db ck bM bY gM rW,jx Z av (cR Z.R Z.C av x m) i j db ck ac Y aL bM bY gM rW bz b2 cC/\jj db ac Y ck/\Eh (i*Z.C+j+1) own db h ac U Y
section
variable {s:al} {g h:ae} {U aL i j ao av t:Nat} {c:Nat->X} {l:aa et} {aQ so:aw Nat} {Z:cb} {own:Nat->Nat} {x:f8} {bz b2 cC:Nat}
theorem jx.U1(R:jx Z av x i j own g h U aL c l aQ so bz b2 cC)(B:jj own h U g):rV g h U aL:=⟨B.sub,by rw[B aL,if_neg (by have:=R.p;omega)],λd D=>by rw[B d,if_neg J]⟩
theorem jj.DG{ef d:Nat}(B:jj own h U g)(E:own d=ef)(D:ef≠0):u g d=none:=by rw[B d,if_neg J]
theorem apw{x:Nat->aw Int}(h:∀g∈ag,x g.t=y g.t):il r ag x=il r ag y:=by
 funext v
 unfold il;rw[oC λg B=>by rw[h g B]]
theorem aiL{f:et}{p:ky}{x:Nat->aw Int}(K:fZ Z)(W:eX h U aL c i j Z.C l aQ)(H:j8 h U c Z i j)(bA:l.length<900)(bE:mP h U f p)(ci:t<900)(h2:p.l4=bq (Z.W j) x)(eg:p.l6=(Z.W j:Int))(lZ:p.round=(t:Int))(D:c 25 = (t:X))(aj:i<Z.R)(aY:∀i y,i<Z.W j->x i=some y->0<=y/\y<=eI):
  aH Q s 134 [bf aL,.agg ⟨ec f⟩,.agg ⟨[.int .i64 0,(j:X)]⟩] h U (λr ac Y=>r = .bool true/\∃dF E I,eX ac Y aL (hh (hh c 25 (((t+1:Nat):X))) 22 dF) i j Z.C (l++[I]) (some E) /\
   sU ac U E I ⟨3,((i*Z.C+j:Nat):Int),((i*Z.C+0:Nat):Int),t,0,[],bq (Z.H i) (il (gd Z.k t) (Z.cut i j) x),0,false⟩/\U<=E/\(∀d,d<U->d≠aL->aQ≠some d->u ac d=u h d)/\U<=Y):=by
 have e:∀k,k<Z.W j->(λk=>if k<Z.W j then x k else none) k=x k:=λk M=>if_pos M;have L:=aiH (s:=s) (x:=λk=>if k<Z.W j then x k else none) K W H bA bE ci (by rw[h2];exact(x8 e).symm) eg lZ D aj λk y B=>by
  have B:(if k<Z.W j then x k else none)=some y:=B
  split at B
  ·exact aY k y J B
  ·cases B
 rw[apw λg P=>e g.t ((aeU K).mi g P)]at L;exact L
theorem jx.spread{f:et}(K:fZ Z)(R:jx Z av x i j own g h U aL c l aQ so bz b2 cC)(er:jj own h U g)(aY:mU Z.R Z.C av x (.spread i j t))(e9:av<900)(en:∀v y,v<Z.N->Z.eo.x t v=some y->0<=y/\y<=eI)(bE:lw h ao U f (pM Z (.spread i j t)))(bA:(x.out (i*Z.C+j)).length<800):
  aH Q s 63 [bf aL,.agg ⟨ec f⟩] h U (En Z av x (.spread i j t) i j own h U aL bz b2 cC):=by
 obtain⟨aj,bZ,ci,tY⟩:=aY;have gz:=R.f.len;rw[gn]at gz;refine F3 (lz:=2)   R.W R.z.gy K.nM bE.is.lS (by rw[bE.is.fi,mc,iV];rfl) J bZ bE.is.kind J λL a5 M E=>?_;have nK:eX L a5 aL c i j Z.C l aQ:=R.W.T (λd bj=>M d (bj.elim (λe=>e ▸ R.W.lt) λe=>(R.W.aQ d e).2)) E;refine(aiL   K nK ((R.z.sub er.sub).T M E) J (bE.is.T M E) J rfl rfl rfl (by rw[R.rT,ci]) aj λk y hk=>en _ _ (by have:=De K j;unfold cb.W at hk;omega)).mono ?_;rintro _ ac Y ⟨rfl,dF,ce,nC,dp,hK,gK,jg,wP⟩;have P:∀d,d<U->d≠aL->aQ≠some d->u ac d=u h d:=λd L I aM=>(jg d J I aM).trans (M d L);obtain⟨db,ck,gH,D,qR,mo⟩:=wz      (Y:=Y) (some ce) none J λd L I=>P d L (λe=>I (by rw[e,R.p])) λe=>I (R.b d e);have fc:=er.T gH D J;have fm:=(dp.aQ ce rfl).2;obtain⟨aW,aK,cf,dT,h5,h2,gy,zw,jA,MR⟩:=Jw;have a1:∀n,n≠22->n≠25->hh (hh c 25 (((t+1:Nat):X))) 22 dF n=c n:=λn L I=>by rw[dN L,dN I]
 have B:U<=Y:=J
 obtain⟨aB,a2,a3,aZ,bt⟩:=R.eE;obtain⟨cI,bQ,d6,fB,gb⟩:=R.hS;obtain⟨e8,fX,h0,nL,r5⟩:=R.i6;refine⟨rfl,db,ck,hh (hh c 25 (((t+1:Nat):X))) 22 dF,l++[nC],some ce,so,⟨dp,(R.z.set ab).T fc B,(D.dV aL R.W.lt).trans R.p,ab,?_,
  ⟨J,(D.dV bz aB).trans a2,a3,ab,bt⟩,⟨J,(D.dV b2 cI).trans bQ,d6,ab,gb⟩,⟨J,(D.dV cC e8).trans fX,h0,ab,r5⟩,R.ne,λb e=>?_,(a1 24 J J).trans R.o5,(a1 41 J J).trans R.mz,(a1 43 J J).trans R.rX,?_,λau=>?_,λau=>?_,?_,λau L=>?_⟩,gH,D⟩
 ·have f5:(cR Z.R Z.C av x (.spread i j t)).out (i*Z.C+j)=x.out (i*Z.C+j)++[.dz i j t]:=by show up x.out (i*Z.C+j) (x.out (i*Z.C+j)++dZ Z.R Z.C av x (.spread i j t)) (i*Z.C+j)=_;rw[g4,MR]
  rw[f5,iK];exact(R.f.T (λb _ I=>fc b I) J B).app ⟨hK.T (gH.new J ab) J J,trivial⟩
 ·obtain⟨de,ew,g7,mC⟩:=R.s b e;exact⟨J,(D.dV b de).trans ew,g7,ab⟩
 ·rw[zw,<-ci,dN J,yt]
 ·obtain⟨de,ew⟩:=R.top au;exact⟨ab,ew.T ab λi v aG=>lj.T aG (λb _ I=>fc b I) J B⟩
 ·exact(R.o au).T ab ab ab ab fc B ab λb e=>by obtain⟨cj,iH,k8,cN⟩:=R.s b e;grind
 ·obtain⟨es,cH,q⟩:=R.m4
  grind
 ·obtain⟨de,ew,g7⟩:=R.one au L;exact⟨ab,ab,g7.T ab λ_ _ h=>h⟩
end
theorem eG.sub{l:aa az}{g h:ae}{ao:Nat}(H:eG g ao aj v enc l)(S:k2 g h)(h1:d2<=ao)(M:aj<=dm):eG h d2 dm v enc l:=by obtain⟨a,cap,e,H⟩:=H;refine⟨a,cap,e,λB=>?_⟩;obtain⟨b,E,K,P,L,D,I⟩:=H B;exact⟨b,E,K,J,J,D,S _ _ I⟩
section
variable {s:al} {g h:ae} {U aL i j ao av t:Nat} {c:Nat->X} {l:aa et} {aQ so:aw Nat} {Z:cb} {own:Nat->Nat} {x:f8} {bz b2 cC:Nat}
theorem jx.share{f:et}{dQ:Nat}(K:fZ Z)(R:jx Z av x 0 j own g h U aL c l aQ so bz b2 cC)(er:jj own h U g)(aY:mU Z.R Z.C av x (.share dQ j t))(e9:av<900)(bE:lw h ao U f (pM Z (.share dQ j t)))(bA:(x.out (0*Z.C+j)).length<800):
  aH Q s 63 [bf aL,.agg ⟨ec f⟩] h U (En Z av x (.share dQ j t) 0 j own h U aL bz b2 cC):=by
 have vF:=aY;obtain⟨aj,bZ,ci,U2,tY⟩:=aY;have gz:=R.f.len;rw[gn]at gz;obtain⟨S5,LH⟩:=R.top rfl;obtain⟨aB,a2,a3,aZ,bt⟩:=R.eE;obtain⟨cI,bQ,d6,fB,gb⟩:=R.hS;obtain⟨e8,fX,h0,nL,r5⟩:=R.i6;obtain⟨Eo,DS,Be⟩:=R.ne;refine F3 (lz:=1)   R.W R.z.gy K.nM (by rw[bE.is.lS,mc,iV];rfl) bE.is.fi aj K.hB bE.is.kind J λL a5 P M=>?_;have nK:eX L a5 aL c 0 j Z.C l aQ:=R.W.T (λd bj=>P d (bj.elim (λe=>e ▸ R.W.lt) λe=>(R.W.aQ d e).2)) M;have G:=R.U1 er;have oz:rV g L a5 aL:=⟨G.sub λd bj _=>P d bj,G.p,λd bj=>G.n d J⟩
 rw[<-ci]at S5 LH;refine(ajS    K nK oz ((R.z.sub er.sub).T P M) (by have:=K.nM;omega) J (bE.is.T P M) rfl rfl rfl S5 R.o5 (LH.T (P bz aB) λi v aG=>lj.T aG ab J M) ⟨J,a3,aZ,er.DG a2 J⟩ aj U2).mono ?_;rintro _ ac Y ⟨rfl,bM,gM,dw,B,vu,rU,jg,dp,oL⟩;have pH:∀d,d<U->d≠aL->d≠bz->aQ≠some d->u ac d=u h d:=λd L ap aM bc=>(jg d J ap aM bc).trans (P d L);have I:U<=Y:=J
 obtain⟨db,ck,gH,D,qR,mo⟩:=wz       gM none I λd L ap=>pH d L (λe=>ap (by rw[e,R.p])) ab λe=>ap (R.b d e);have fc:=er.T gH D J;obtain⟨_,aK,cf,dT,h5,h2,gy,zw,jA⟩:=JC vF;have f5:(cR Z.R Z.C av x (.share dQ j t)).out (0*Z.C+j)=x.out (0*Z.C+j)++dZ Z.R Z.C av x (.share dQ j t):=by rw[mc,iV];exact g4 _ _ _
 have oZ:∀b,so=some b->u ac b=u h b:=λb e=>by obtain⟨cj,iH,k8,cN⟩:=R.s b e;grind
 have rO:=pH b2 cI d6 (kB Eo) fB;have uc:=pH cC e8 h0 (kB DS) nL;have pd:k2 g ck:=λd o bj=>by
  have L:d<U:=E2 λL=>by rw[G.n d L]at bj;grind
  rw[fc d L];omega
 have vG:∃es cH,u ac b2=some (.map es cH):=by
  obtain⟨es,cH,q⟩:=R.m4
  grind
 rcases oL with⟨⟨k,hk,Is⟩,E,rfl,rfl,Ep⟩|⟨nj,E,h23,hK,⟨cH,AZ⟩,ce,rfl,gK⟩
 ·rcases jA with⟨q,_⟩|⟨_,la,nI,nO⟩
  ·have:=q k hk;rw[show up (x.e4 j) dQ true k=_ from Is]at this;cases this
  refine⟨rfl,db,ck,bM,l,gM,so,⟨by rw[h6]at dp;exact dp,(R.z.set ab).T fc I,(D.dV aL R.W.lt).trans R.p,λb e=>(D.dV b (R.W.aQ b e).2).trans (R.b b e),by rw[f5,nO,h6];exact R.f.T (λb _ ap=>fc b ap) J I,
   ⟨J,(D.dV bz aB).trans a2,a3,aZ,bt⟩,⟨J,(D.dV b2 cI).trans bQ,d6,fB,gb⟩,⟨J,(D.dV cC e8).trans fX,h0,nL,r5⟩,R.ne,λb e=>?_,(E 24).trans R.o5,(E 41).trans R.mz,(E 43).trans R.rX,by rw[E 25,aK];exact R.rT,λ_=>⟨?_,?_⟩,λau=>(R.o au).T ab ab ab ab fc I rO oZ,vG,λ_ L=>?_⟩,gH,D⟩
  ·obtain⟨de,ew,g7,mC⟩:=R.s b e;exact⟨J,(D.dV b de).trans ew,g7,mC⟩
  ·grind
  ·rw[la,nI,<-ci];refine Ep.T rfl λi v aG=>?_;rcases aG with⟨gN,e,aG⟩|⟨gN,e,aG⟩
   ·exact⟨gN,e,eG.sub aG pd J J⟩
   ·exact⟨gN,e,eG.T aG (gH.new J λd L ap=>mo d J (λe=>by have:=(R.W.aQ d e).2;omega) ab) J J⟩
  ·obtain⟨de,ew,g7⟩:=R.one rfl L;rw[h2,gy];exact⟨ab,ab,g7.T uc λ_ _ h=>h⟩
 ·rcases jA with⟨_,la,nI,nO⟩|⟨q,_⟩
  case inr=>exact absurd (λk hk=>nj k hk) q
  refine⟨rfl,db,ck,bM,l++dw,some ce,so,⟨dp,(R.z.set ab).T fc I,(D.dV aL R.W.lt).trans R.p,ab,?_,
   ⟨J,(D.dV bz aB).trans a2,a3,ab,bt⟩,⟨J,(D.dV b2 cI).trans bQ,d6,ab,gb⟩,⟨J,(D.dV cC e8).trans fX,h0,ab,r5⟩,R.ne,λb e=>?_,(E 24 J J).trans R.o5,(E 41 J J).trans R.mz,(E 43 J J).trans R.rX,by rw[E 25 J J,aK];exact R.rT,λ_=>⟨?_,?_⟩,λau=>(R.o au).T ab (congrFun h5 0) (congrFun dT 0) (λn L ap=>E n J J) fc I rO oZ,vG,λ_ L=>?_⟩,gH,D⟩
  ·rw[f5,nO,iK,pn];exact(R.f.T (λb _ ap=>fc b ap) (cD _) I).app (hK.T (gH.new rU λd L ap=>mo d J (λe=>ab) nofun) J rU)
  ·obtain⟨de,ew,g7,mC⟩:=R.s b e;exact⟨J,(D.dV b de).trans ew,g7,λdK=>ab⟩
  ·grind
  ·rw[nI];exact iD.no AZ
  ·obtain⟨de,ew,g7⟩:=R.one rfl L;rw[h2,gy];exact⟨(E 42 J J).trans de,(E 44 J J).trans ew,g7.T uc λ_ _ h=>h⟩
end
section
variable {s:al} {g h:ae} {U aL i j ao av t:Nat} {c:Nat->X} {l:aa et} {aQ so:aw Nat} {Z:cb} {own:Nat->Nat} {x:f8} {bz b2 cC:Nat}
theorem jx.dA{f:et}{dQ:Nat}(K:fZ Z)(R:jx Z av x 0 0 own g h U aL c l aQ so bz b2 cC)(er:jj own h U g)(aY:mU Z.R Z.C av x (.dA dQ t))(e9:av<900)(yO:∀t,t<=av->(Z.fS t=0↔t<av))(bE:lw h ao U f (pM Z (.dA dQ t)))(bA:(x.out (0*Z.C+0)).length<800):
  aH Q s 63 [bf aL,.agg ⟨ec f⟩] h U (En Z av x (.dA dQ t) 0 0 own h U aL bz b2 cC):=by
 have vF:=aY;obtain⟨aj,ci,U2,tY⟩:=aY;have gz:=R.f.len;rw[gn]at gz;obtain⟨Dq,AL,aht⟩:=R.one rfl rfl;obtain⟨aB,a2,a3,aZ,bt⟩:=R.eE;obtain⟨cI,bQ,d6,fB,gb⟩:=R.hS;obtain⟨e8,fX,h0,nL,r5⟩:=R.i6;obtain⟨Eo,DS,Be⟩:=R.ne;refine F3 (lz:=4)   R.W R.z.gy K.nM (by rw[bE.is.lS,mc,iV];rfl) bE.is.fi aj K.hB bE.is.kind J λh1 a5 d0 f0=>?_;have nK:eX h1 a5 aL c 0 0 Z.C l aQ:=R.W.T (λd bj=>d0 d (bj.elim (λe=>e ▸ R.W.lt) λe=>(R.W.aQ d e).2)) f0;rw[<-ci]at Dq AL aht;rw[hD J]at AL;refine(al4  (jc:=Z.jc t)  K nK R.z.gy R.z.jA (by have:=K.nM;omega) J bE.is.round bE.is.n4 bE.is.n Dq R.rX AL (aht.T (d0 cC e8) λ_ _ h=>h) ab aj U2).mono ?_;rintro _ ac Y ⟨rfl,bM,gM,dw,B,vu,rU,jg,dp,oL⟩;have M:∀d,d<U->d≠aL->d≠cC->aQ≠some d->u ac d=u h d:=λd h1 L aM bc=>(jg d J L aM bc).trans (d0 d h1);have E:U<=Y:=J
 obtain⟨db,ck,gH,D,qR,mo⟩:=wz       gM none E λd h1 L=>M d h1 (λe=>L (by rw[e,R.p])) ab λe=>L (R.b d e);have fc:=er.T gH D J;obtain⟨_,aW,aK,cf,dT,h5,h2,jA⟩:=JG vF;have f5:(cR Z.R Z.C av x (.dA dQ t)).out (0*Z.C+0)=x.out (0*Z.C+0)++dZ Z.R Z.C av x (.dA dQ t):=by rw[mc,iV];show up x.out 0 (x.out 0++dZ Z.R Z.C av x (.dA dQ t)) 0=_;rw[g4]
 have oZ:∀b,so=some b->u ac b=u h b:=λb e=>by obtain⟨cj,iH,k8,cN⟩:=R.s b e;grind
 have rO:=M b2 cI d6 Be fB;have A4:=M bz aB a3 DS aZ;have vG:∃es cH,u ac b2=some (.map es cH):=by
  obtain⟨es,cH,q⟩:=R.m4
  grind
 obtain⟨S5,LH⟩:=R.top rfl;have P:iD ac bz Z.R (x.e4 0) (sV ck 0 Y Z 0 (Z.eo.x (x.P 0+1))):=LH.T A4 λi v aG=>lj.T aG (λb _ L=>fc b L) J E;rcases oL with⟨⟨k,hk,Is⟩,I,rfl,rfl,Ep⟩|⟨nj,I,st,js,h42,h44,hK,⟨cH,AZ⟩,ce,rfl,gK⟩
 ·rcases jA with⟨q,_⟩|⟨_,la,nI,nO⟩
  ·have:=q k hk;rw[show up x.fN dQ true k=_ from Is]at this;cases this
  refine⟨rfl,db,ck,bM,l,gM,so,⟨by rw[h6]at dp;exact dp,(R.z.set ab).T fc E,(D.dV aL R.W.lt).trans R.p,λb e=>(D.dV b (R.W.aQ b e).2).trans (R.b b e),by rw[f5,nO,h6];exact R.f.T (λb _ L=>fc b L) J E,
   ⟨J,(D.dV bz aB).trans a2,a3,aZ,bt⟩,⟨J,(D.dV b2 cI).trans bQ,d6,fB,gb⟩,⟨J,(D.dV cC e8).trans fX,h0,nL,r5⟩,R.ne,λb e=>?_,(I 24).trans R.o5,(I 41).trans R.mz,(I 43).trans R.rX,by rw[I 25,cf];exact R.rT,λ_=>⟨ab,by rw[aW,aK];exact P⟩,λau=>(R.o au).T ab ab ab ab fc E rO oZ,vG,λ_ _=>?_⟩,gH,D⟩
  ·obtain⟨de,ew,g7,mC⟩:=R.s b e;exact⟨J,(D.dV b de).trans ew,g7,mC⟩
  ·rw[la,nI,<-ci];exact⟨ab,ab,Ep⟩
 ·rcases jA with⟨_,la,nI,nO⟩|⟨q,_⟩
  case inr=>exact absurd (λk hk=>nj k hk) q
  have aAd:st=Z.fS t:=js;subst aAd;refine⟨rfl,db,ck,bM,l++dw,some ce,so,⟨dp,(R.z.set ab).T fc E,(D.dV aL R.W.lt).trans R.p,ab,?_,
   ⟨J,(D.dV bz aB).trans a2,a3,ab,bt⟩,⟨J,(D.dV b2 cI).trans bQ,d6,ab,gb⟩,⟨J,(D.dV cC e8).trans fX,h0,ab,r5⟩,R.ne,λb e=>?_,(I 24 J J J).trans R.o5,(I 41 J J J).trans R.mz,(I 43 J J J).trans R.rX,by rw[I 25 J J J,cf];exact R.rT,λ_=>⟨ab,by rw[aW,aK];exact P⟩,λau=>(R.o au).T (congrFun dT 0) (congrFun h2 0) (congrFun h5 0) (λn h1 L=>I n J J J) fc E rO oZ,vG,λ_ _=>?_⟩,gH,D⟩
  ·rw[f5,nO,iK,pn];exact(R.f.T (λb _ L=>fc b L) (cD _) E).app (hK.T (gH.new rU λd h1 L=>mo d J (λe=>ab) nofun) J rU)
  ·obtain⟨de,ew,g7,mC⟩:=R.s b e;exact⟨J,(D.dV b de).trans ew,g7,λdK=>ab⟩
  ·rw[la,nI,<-ci];refine⟨h42,?_,iD.no AZ⟩
   grind
end
structure VY (Z:cb) (t:Nat):Prop where
 c:∀i dX v y,Z.vi t i dX v=some y->0<=y/\y<=eI
 b:∀i j v y,il (gd Z.k t) (Z.cut i j) (λk=>Z.eo.x t (Z.lc j+k)) v=some y->0<=y/\y<=eI
theorem QN{Z:cb}{t i j:Nat}(D:j<Z.C)(B:dX j=false)(v:Nat):Z.vi t i (λk=>if k=j then true else dX k) v=e0 (gd Z.k t) (Z.vi t i dX v) (il (gd Z.k t) (Z.cut i j) (λk=>Z.eo.x t (Z.lc j+k)) (v-Z.bB i)):=aob D B _
theorem aAe(Z:cb):Z.lc 0=0:=by unfold cb.lc c8;simp
theorem aAf{Z:cb}(K:fZ Z):Z.lc Z.C=Z.N:=by unfold cb.lc c8;rw[Nat.min_self];exact NA _ K.hB
theorem apx{Z:cb}(K:fZ Z){t i:Nat}(E:∀j,j<Z.C->dX j=true)(D:k<Z.H i):Z.vi t i dX (Z.bB i+k)=il (gd Z.k t) Z.ag (Z.eo.x t) (Z.bB i+k):=by unfold cb.vi;rw[Nz];exact ak5  (λa b h=>uL h) (aAe Z) (aAf K) (λg B=>K.M.mi g B) E D
theorem avF{Z:cb}(K:fZ Z){B:Nat}{v:Nat}(D:f7 v=il (gd Z.k (B+1)) Z.ag (Z.eo.x (B+1)) v):
  (tL Z.k (iB Z.bK Z.N ((B+1-1) / 2)) (B+1) (gd Z.k (B+1)) (Z.eo.st B) f7).A v=(Z.eo.st (B+1)).A v/\(tL Z.k (iB Z.bK Z.N ((B+1-1) / 2)) (B+1) (gd Z.k (B+1)) (Z.eo.st B) f7).B v=(Z.eo.st (B+1)).B v/\(tL Z.k (iB Z.bK Z.N ((B+1-1) / 2)) (B+1) (gd Z.k (B+1)) (Z.eo.st B) f7).q v=(Z.eo.st (B+1)).q v:=by unfold tL;simp only[D];exact⟨rfl,rfl,rfl⟩
theorem ayb{n:Nat}{p:Nat->al}(h:∀k,k<n->p k=q k):eT n p=eT n q:=by unfold eT;rw[CT h]
theorem atd{k round:Int}{m:Nat}{p:Nat->al}(h:∀k,k<m->p k=q k):qz k len round m A p=qz k len round m A q:=by
 have:ek m p=ek m q:=by exact Jf ab
 unfold qz
 grind
theorem hs.ext{h:ae}{U:Nat}{ao aj:Int}{n:Nat}{B D E:aa Int}{p:Nat->al}(H:hs h U v ao aj n A B p)(g6:A=D)(P:B=E)(I:∀k,k<n->p k=q k):hs h U v ao aj n D E q:=by obtain⟨L,M,K,e,a,b,c⟩:=H;rw[ayb I]at c;subst g6 P;exact⟨L,M,K,e,a,b,c⟩
section
variable {s:al} {g h:ae} {U aL i j ao av t:Nat} {c:Nat->X} {l:aa et} {aQ so:aw Nat} {Z:cb} {own:Nat->Nat} {x:f8} {bz b2 cC:Nat}
theorem jx.dz{f:et}{ij:Nat}(K:fZ Z)(R:jx Z av x i 0 own g h U aL c l aQ so bz b2 cC)(er:jj own h U g)(aY:mU Z.R Z.C av x (.dz i ij t))(e9:av<900)(yO:∀t,t<=av->(Z.fS t=0↔t<av))(B:VY Z t)(bE:lw h ao U f (pM Z (.dz i ij t)))(bA:(x.out (i*Z.C+0)).length<800):
  aH Q s 63 [bf aL,.agg ⟨ec f⟩] h U (En Z av x (.dz i ij t) i 0 own h U aL bz b2 cC):=by
 have vF:=aY;obtain⟨aj,bZ,b0,ci,h1,tY,MX⟩:=aY;have gz:=R.f.len;rw[gn]at gz;have O:=R.o rfl;obtain⟨m3a,m3b⟩:=O.m3 b0 J;obtain⟨aB,a2,a3,aZ,bt⟩:=R.eE;obtain⟨cI,bQ,d6,fB,gb⟩:=R.hS;obtain⟨e8,fX,h0,nL,r5⟩:=R.i6;obtain⟨Eo,DS,Be⟩:=R.ne;refine F3 (lz:=3)   R.W R.z.gy K.nM bE.is.lS bE.is.fi aj bZ bE.is.kind J λy4 a5 d0 P=>?_;have nK:eX y4 a5 aL c i 0 Z.C l aQ:=R.W.T (λd bj=>d0 d (bj.elim (λe=>e ▸ R.W.lt) λe=>(R.W.aQ d e).2)) P;have G:=R.U1 er;have oz:rV g y4 a5 aL:=⟨G.sub λd bj _=>d0 d bj,G.p,λd bj=>G.n d J⟩
 rw[<-ci]at m3b;have kc:=O.has;rw[<-ci]at kc;refine(aiK     (y:=λv=>il (gd Z.k t) (Z.cut i ij) (λk=>Z.eo.x t (Z.lc ij+k)) (v-Z.bB i))   K nK oz (R.z.T aN P) J aj h1 J (bE.T (λb _ ap=>d0 b ap) (cD _) P) rfl (x8 ab) (λv y=>B.c _ _ v y) (λv y=>B.b _ _ _ y) (λv y cd=>B.c i (λk=>if k=ij then true else x.dX i k) v y (by rw[QN bZ MX];omega))
  (hs.T kc aN P) (m3b.T λb e=>d0 b (R.s b e).1) (λb e=>by obtain⟨cj,iH,k8,cN⟩:=R.s b e;grind) (by rw[O.El,ci]) (by rw[O.xj,if_neg J,(yO (x.a i-1) J).2 J]) (by rw[O.MW,b0]) R.mz (m3a.T (d0 b2 cI) ab) ⟨J,d6,fB,er.DG bQ J⟩ bZ MX).mono ?_
 rintro _ ac Y ⟨rfl,bM,gM,rW,dw,Ep,wP,jg,dp,S1,oL⟩;have pH:∀d,d<U->d≠aL->d≠b2->aQ≠some d->u ac d=u h d:=λd h1 ap aM bc=>(jg d J ap aM bc).trans (d0 d h1);have I:U<=Y:=J
 obtain⟨db,ck,gH,D,qR,mo⟩:=wz       gM rW I λd h1 ap=>pH d h1 (λe=>ap (by rw[e,R.p])) ab λe=>ap (R.b d e);have fc:=er.T gH D J;obtain⟨_,aW,aK,cf,dT,h5,h2,_,jA⟩:=Jv vF;have f5:(cR Z.R Z.C av x (.dz i ij t)).out (i*Z.C+0)=x.out (i*Z.C+0)++dZ Z.R Z.C av x (.dz i ij t):=by show up x.out (i*Z.C) (x.out (i*Z.C)++dZ Z.R Z.C av x (.dz i ij t)) (i*Z.C)=_;rw[g4];rfl
 have A4:=pH bz aB a3 Eo aZ;have uc:=pH cC e8 h0 (kB Be) nL;have ahu:∀bM:Nat->X,bM 23=c 23->i=0->bM 23 = (((cR Z.R Z.C av x (.dz i ij t)).P 0+1:Nat):X)/\iD ac bz Z.R ((cR Z.R Z.C av x (.dz i ij t)).e4 0) (sV ck 0 Y Z 0 (Z.eo.x ((cR Z.R Z.C av x (.dz i ij t)).P 0+1))):=λbM e au=>by obtain⟨t1,t2⟩:=R.top au;rw[aW,aK,e];exact⟨t1,t2.T A4 λi v aG=>lj.T aG (λb _ ap=>fc b ap) J I⟩
 have Lm:∀bM:Nat->X,bM 42=c 42->bM 44=c 44->i=0->(0:Nat)=0->bM 42 = .int .i64 ((cR Z.R Z.C av x (.dz i ij t)).V:Int)/\bM 44 = .bool (decide (av<(cR Z.R Z.C av x (.dz i ij t)).V))/\iD ac cC Z.R (cR Z.R Z.C av x (.dz i ij t)).fN (Iq (Z.jc (cR Z.R Z.C av x (.dz i ij t)).V)):=λbM de ew au h1=>by obtain⟨t1,t2,t3⟩:=R.one au h1;rw[h5,h2,de,ew];exact⟨t1,t2,t3.T uc λ_ _ h=>h⟩
 have vG:∃es cH,u ac b2=some (.map es cH):=by obtain⟨L,cH,q,_,_⟩:=Ep.ex;exact⟨_,cH,q.at_⟩
 have ht:(cR Z.R Z.C av x (.dz i ij t)).a i=t:=ab
 rcases oL with⟨⟨k,hk,Is⟩,E,rfl,rfl,hO'⟩|⟨nj,E,h38,zf,rfl,ce,jD,rfl,UL,gK,hSt,rfl⟩
 ·rcases jA with⟨q,_⟩|⟨_,la,nI,nO⟩
  ·have:=q k hk;rw[show up (x.dX i) ij true k=_ from Is]at this;cases this
  refine⟨rfl,db,ck,bM,l,gM,rW,⟨by rw[h6]at dp;exact dp,(R.z.set λn _ _=>E n J).T fc I,(D.dV aL R.W.lt).trans R.p,λb e=>(D.dV b (R.W.aQ b e).2).trans (R.b b e),by rw[f5,nO,h6];exact R.f.T (λb _ ap=>fc b ap) (cD _) I,
   ⟨J,(D.dV bz aB).trans a2,a3,aZ,λe=>ab⟩,⟨J,(D.dV b2 cI).trans bQ,d6,fB,λe=>ab⟩,⟨J,(D.dV cC e8).trans fX,h0,nL,λe=>ab⟩,R.ne,λb e=>?_,(E 24 J).trans R.o5,(E 41 J).trans R.mz,(E 43 J).trans R.rX,by rw[E 25 J,cf];exact R.rT,ahu bM (E 23 J),λau=>⟨?_,?_,?_,?_,?_,?_,λe=>?_,λ_ _=>?_⟩,vG,Lm bM (E 42 J) (E 44 J)⟩,gH,D⟩
  ·have:=R.W.lt
   grind
  ·rw[E 26 J,dT];exact O.El
  ·rw[E 27 J,dT];exact O.xj
  ·rw[E 38 J,la,O.MW,b0]
  ·rw[E 39 J,dT];exact O.Em
  ·rw[E 28 J,E 29 J,E 30 J,E 31 J,E 32 J,dT];exact hs.T O.has fc I
  ·rw[E 33 J,E 34 J,E 35 J,E 36 J,E 37 J,dT,la,<-b0];exact hs.T O.U0 fc I
  ·grind
  ·rw[nI,ht];refine⟨Ep,?_⟩;rw[show(bq (Z.H i) λk=>Z.vi t i (up (x.dX i) ij true) (Z.bB i+k))=bq (Z.H i) λk=>e0 (gd Z.k t) (Z.vi t i (x.dX i) (Z.bB i+k)) (il (gd Z.k t) (Z.cut i ij) (λk=>Z.eo.x t (Z.lc ij+k)) (Z.bB i+k-Z.bB i))from x8 λk _=>QN bZ MX _];exact hO'
 ·rcases jA with⟨_,fb,nO⟩|⟨q,_⟩
  case inr=>exact absurd (λk hk=>nj k hk) q
  have fm:=(dp.aQ ce rfl).2;obtain⟨M,ej⟩:∃M,t=M+1:=⟨t-1,J⟩
  subst ej;have kw:∀k,k<Z.H i->jD.A (Z.bB i+k)=(Z.eo.st (M+1)).A (Z.bB i+k)/\jD.B (Z.bB i+k)=(Z.eo.st (M+1)).B (Z.bB i+k)/\jD.q (Z.bB i+k)=(Z.eo.st (M+1)).q (Z.bB i+k):=λk hk=>by rw[UL];exact avF K (by rw[<-QN bZ MX];exact apx K nj hk)
  have g6:(cn (Z.H i) λk=>jD.A (Z.bB i+k))=cn (Z.H i) λk=>(Z.eo.st (M+1)).A (Z.bB i+k):=J8 λk hk=>(kw k hk).1;have en:(cn (Z.H i) λk=>jD.B (Z.bB i+k))=cn (Z.H i) λk=>(Z.eo.st (M+1)).B (Z.bB i+k):=J8 λk hk=>(kw k hk).2.1;have d7:(qz Z.k Z.len ((M+1:Nat):Int) (Z.H i) (cn (Z.H i) λk=>jD.A (Z.bB i+k)) (λk=>jD.q (Z.bB i+k)):Int)=Z.jc (M+1) i:=by unfold cb.jc;rw[g6,atd λk hk=>(kw k hk).2.2]
  rw[d7]at dp;have mL:lO ck a5 ce (.agg ⟨[bM 33,bM 34,bM 35,bM 36,bM 37]⟩) (Z.bB i:Int) ((Z.bB i+Z.H i:Nat):Int) (Z.H i) (cn (Z.H i) λk=>jD.A (Z.bB i+k)) (cn (Z.H i) λk=>jD.B (Z.bB i+k)) (λk=>jD.q (Z.bB i+k)):=hSt.wid (gH.new J λd h1 ap=>mo d J (λe=>ab) (nofun)) (cD _) (cD _);refine⟨rfl,db,ck,bM,_,some ce,none,⟨dp,(R.z.set λn h1 ap=>E n J J J J).T fc I,(D.dV aL R.W.lt).trans R.p,λb e=>ab,?_,
   ⟨J,(D.dV bz aB).trans a2,a3,λe=>ab,nofun⟩,⟨J,(D.dV b2 cI).trans bQ,d6,λe=>ab,nofun⟩,⟨J,(D.dV cC e8).trans fX,h0,λe=>ab,nofun⟩,R.ne,(nofun),(E 24 J J J J).trans R.o5,(E 41 J J J J).trans R.mz,(E 43 J J J J).trans R.rX,by rw[E 25 J J J J,cf];exact R.rT,ahu bM (E 23 J J J J),λau=>⟨?_,?_,?_,?_,?_,?_,λ_=>⟨zf,rfl⟩,λe=>?_⟩,vG,Lm bM (E 42 J J J J) (E 44 J J J J)⟩,gH,D⟩
  ·rw[f5,nO,iK];exact(R.f.T (λb _ ap=>fc b ap) (cD _) I).app ⟨⟨rfl,rfl,rfl,rfl,rfl,wH,wH,rfl,rfl,rfl⟩,trivial⟩
  ·rw[E 26 J J J J,dT];exact O.El
  ·rw[E 27 J J J J,dT];exact O.xj
  ·grind
  ·rw[E 39 J J J J,dT];exact O.Em
  ·rw[E 28 J J J J,E 29 J J J J,E 30 J J J J,E 31 J J J J,E 32 J J J J,dT];exact hs.T O.has fc I
  ·rw[fb,if_pos rfl,ht];exact hs.ext (lO.rd (mL.wid   (λ_ _ _=>rfl) J J)) g6 en λk hk=>(kw k hk).2.2
  ·rw[fb]at e;cases e
end
theorem ayc(Z:cb)(t:Nat):Z.fS t=0\/Z.fS t=1\/Z.fS t=2:=by
 unfold cb.fS wi
 grind
theorem ate(Z:cb)(t i:Nat):(bq (Z.H i) λk=>Z.vi t i lR (Z.bB i+k))=[]:=
 List.eq_nil_iff_forall_not_mem.2 λp B=>by have h:=((jS  ).1 B).2;rw[show Z.vi t i lR (Z.bB i+p.1)=none from aoa _]at h;cases h
section
variable {s:al} {g h:ae} {U aL i j ao av t:Nat} {c:Nat->X} {l:aa et} {aQ so:aw Nat} {Z:cb} {own:Nat->Nat} {x:f8} {bz b2 cC:Nat}
theorem jx.order{f:et}(K:fZ Z)(R:jx Z av x i 0 own g h U aL c l aQ so bz b2 cC)(er:jj own h U g)(aY:mU Z.R Z.C av x (.order i t))(e9:av<900)(yO:∀t,t<=av->(Z.fS t=0↔t<av))(bE:lw h ao U f (pM Z (.order i t)))(bA:(x.out (i*Z.C+0)).length<800):
  aH Q s 63 [bf aL,.agg ⟨ec f⟩] h U (En Z av x (.order i t) i 0 own h U aL bz b2 cC):=by
 have vF:=aY;obtain⟨aj,b0,ci,tY⟩:=aY;have gz:=R.f.len;rw[gn]at gz;have O:=R.o rfl;obtain⟨o40,oso⟩:=O.m2 b0;subst oso;obtain⟨aB,a2,a3,aZ,bt⟩:=R.eE;obtain⟨cI,bQ,d6,fB,gb⟩:=R.hS;obtain⟨e8,fX,h0,nL,r5⟩:=R.i6;obtain⟨Eo,DS,Be⟩:=R.ne;obtain⟨es,cH,vG⟩:=R.m4;refine F3 (lz:=5)   R.W R.z.gy K.nM bE.is.lS (by rw[bE.is.fi,mc];rfl) J K.hB bE.is.kind J λy4 a5 d0 I=>?_;have nK:eX y4 a5 aL c i 0 Z.C l aQ:=R.W.T (λd bj=>d0 d (bj.elim (λe=>e ▸ R.W.lt) λe=>(R.W.aQ d e).2)) I;have G:=R.U1 er;have oz:rV g y4 a5 aL:=⟨G.sub λd bj _=>d0 d bj,G.p,λd bj=>G.n d J⟩
 have kc:=O.has;have g6:=O.U0;rw[if_pos b0]at g6;rw[<-ci]at kc g6;refine(aiI   (st:=Z.fS t)   K nK oz (R.z.T aN I) (by have:=K.mF;omega) aj J bE.is.round bE.is.n (ayc Z t) (λL=>by rw[L]at kc ⊢;exact hs.T kc aN I) (hs.T g6 aN I) (by rw[O.El,ci]) (by
   rw[O.xj,<-ci]
   grind) (by rw[O.MW,b0]) (by rw[O.Em,ci]) R.mz ((d0 b2 cI).trans vG) ab).mono ?_
 rintro _ ac Y ⟨rfl,bM,gM,dw,B,P,zf,dp,hK,vu,rU,mr,hmp,jg,wP⟩;have pH:∀d,d<U->d≠aL->(Z.fS t=0->d≠b2)->aQ≠some d->u ac d=u h d:=λd h1 ap aM bc=>(jg d J ap aM bc).trans (d0 d h1);have E:U<=Y:=J
 obtain⟨db,ck,gH,D,qR,mo⟩:=wz       gM none E λd h1 ap=>pH d h1 (λe=>ap (by rw[e,R.p])) ab λe=>ap (R.b d e);have fc:=er.T gH D J;obtain⟨aW,aK,cf,h5,h2,_,_,ht,fb,qV,_,nO⟩:=Oh vF;have f5:(cR Z.R Z.C av x (.order i t)).out (i*Z.C+0)=x.out (i*Z.C+0)++dZ Z.R Z.C av x (.order i t):=by show up x.out (i*Z.C) (x.out (i*Z.C)++dZ Z.R Z.C av x (.order i t)) (i*Z.C)=_;rw[g4];rfl
 have A4:=pH bz aB a3 (λ_=>Eo) aZ;have uc:=pH cC e8 h0 (λ_=>kB Be) nL;have pg:=P.a;have aG:=yO t tY;have M:(cR Z.R Z.C av x (.order i t)).a i=t+1:=J
 refine⟨rfl,db,ck,bM,l++dw,gM,none,⟨dp,(R.z.set ab).T fc E,(D.dV aL R.W.lt).trans R.p,λb e=>?_,?_,
  ⟨J,(D.dV bz aB).trans a2,a3,ab,J⟩,⟨J,(D.dV b2 cI).trans bQ,d6,ab,J⟩,⟨J,(D.dV cC e8).trans fX,h0,ab,J⟩,R.ne,ab,(pg 24 J).trans R.o5,(pg 41 J).trans R.mz,(pg 43 J).trans R.rX,by rw[pg 25 J,cf];exact R.rT,λL=>?_,λL=>⟨?_,?_,?_,?_,?_,?_,λe=>?_,λ_ dO=>?_⟩,?_,λL h1=>?_⟩,gH,D⟩
 ·rcases mr b e with q|q
  ·exact(D.dV b (R.W.aQ b q).2).trans (R.b b q)
  grind
 ·rw[f5,nO,iK];refine(R.f.T (λb _ ap=>fc b ap) (cD _) E).app ?_;have MY:=hK.T (d2:=0)  (gH.new rU λd h1 ap=>mo d J (λe=>(mr d e).elim (λq=>by have:=(R.W.aQ d q).2;omega) λq=>J) nofun) J rU
  by_cases h:t<av
  ·rw[if_pos (aG.2 h)]at MY;rw[if_pos h,pn];exact MY
  ·rw[if_neg λe=>h (aG.1 e)]at MY;rw[if_neg h];exact MY
 ·obtain⟨t1,t2⟩:=R.top L;rw[aW,aK,pg 23 J];exact⟨t1,t2.T A4 λi v aG=>lj.T aG (λb _ ap=>fc b ap) (cD _) E⟩
 ·rw[M];exact P.r
 ·rw[M,if_neg J];exact P.s
 ·rw[fb];exact P.w
 ·rw[M,gP J];exact P.b
 ·rw[M,P.h 28 J J,P.h 29 J J,P.h 30 J J,P.h 31 J J,P.h 32 J J]
  by_cases L:t=0
  ·simp only[if_pos L];rw[L]at kc ⊢;exact hs.T kc fc E
  ·simp only[if_neg L];exact hs.T g6 fc E
 ·rw[M,fb,pg 33 J,pg 34 J,pg 35 J,pg 36 J,pg 37 J];exact hs.T g6 fc E
 ·grind
 ·have L:Z.fS t=0:=aG.2 J;rw[qV,M,ate,zf,if_pos L];exact⟨iD.no (hmp L),.inl ⟨rfl,rfl,rfl⟩⟩
 ·grind
 ·obtain⟨t1,t2,t3⟩:=R.one L h1;rw[h5,h2,pg 42 J,pg 44 J];exact⟨t1,t2,t3.T uc λ_ _ h=>h⟩
end
section
variable {s:al} {g ck h ac:ae} {U Y aL i j ao av t ef:Nat} {c:Nat->X} {l:aa et} {aQ so:aw Nat} {Z:cb} {own db:Nat->Nat} {x fU:f8} {bz b2 cC:Nat}
theorem jx.other(R:jx Z av x i j own g h U aL c l aQ so bz b2 cC)(B:U<=Y)(same:∀d,d<U->own d≠ef->u ac d=u h d)(K:∀d,d<U->db d=own d)(xB:i*Z.C+j+1≠ef)(L:aA U g ck)(eq:fU.q i j=x.q i j)(f5:fU.out (i*Z.C+j)=x.out (i*Z.C+j))(zn:i=0->fU.P j=x.P j/\fU.e4 j=x.e4 j)(aE:j=0->fU.a i=x.a i/\fU.w i=x.w i/\fU.dX i=x.dX i)(aW:i=0->j=0->fU.V=x.V/\fU.fN=x.fN):jx Z av fU i j db ck ac Y aL c l aQ so bz b2 cC:=by
 have aq:∀d,d<U->own d=i*Z.C+j+1->u ac d=u h d:=ab
 have aO:∀b,aQ=some b->b<U:=λb e=>(R.W.aQ b e).2;obtain⟨aB,a2,a3,aZ,bt⟩:=R.eE;obtain⟨cI,bQ,d6,fB,gb⟩:=R.hS;obtain⟨e8,fX,h0,nL,r5⟩:=R.i6;refine⟨R.W.T (λd bj=>bj.elim (λe=>by rw[e];exact aq aL R.W.lt R.p) λe=>aq d ab (R.b d e)) B,R.z.T L B,(K aL R.W.lt).trans R.p,λb e=>(K b (aO b e)).trans (R.b b e),by rw[f5];exact R.f.T (λb _ P=>L b P) J B,
  ab,ab,ab,R.ne,λb e=>?_,R.o5,R.mz,R.rX,by rw[eq];exact R.rT,λD=>?_,λD=>?_,?_,λD h1=>?_⟩
 ·obtain⟨E,I,g7,mC⟩:=R.s b e
  grind
 ·obtain⟨t1,M⟩:=R.top D;obtain⟨E,I⟩:=zn D;rw[E,I];exact⟨t1,M.T ab λi v aG=>lj.T aG (λb _ P=>L b P) J B⟩
 ·obtain⟨E,I,g7⟩:=aE D;exact(R.o D).T E I g7 ab L B ab λb e=>aq b (R.s b e).1 (R.s b e).2.1
 ·obtain⟨es,cH,q⟩:=R.m4
  grind
 ·obtain⟨t1,M,t3⟩:=R.one D h1;obtain⟨E,I⟩:=aW D h1;rw[E,I];exact⟨t1,M,t3.T ab λ_ _ h=>h⟩
theorem jx.gone{m:cw}{r:aa cw}(R:jx Z av x i j own g h U aL c l aQ so bz b2 cC)(K:jj own h U g)(bp:x.out (i*Z.C+j)=m::r):
  ∃f D,l=f::D/\sU g 0 U f (pM Z m)/\aH Q s 62 [bf aL] h U (λmD ac Y=>mD = .tuple ⟨[]⟩/\Y=U/\∃bM,jx Z av { x with out:=up x.out (i*Z.C+j) r } i j own g ac U aL bM D aQ so bz b2 cC/\jj own ac U g/\∀d,d<U->own d≠i*Z.C+j+1->u ac d=u h d):=by
 have E:=R.f;rw[bp]at E;cases l with
 |nil=>exact E.elim
 |cons f D =>
  refine⟨f,D,rfl,E.1,(apq R.W rfl).mono ?_⟩;rintro _ ac _ ⟨rfl,dF,dp,L,rfl⟩;obtain⟨aB,a2,a3,aZ,bt⟩:=R.eE;obtain⟨cI,bQ,d6,fB,gb⟩:=R.hS;obtain⟨e8,fX,h0,nL,r5⟩:=R.i6;have I:∀n,n≠22->hh c 22 dF n=c n:=λn bv=>dN bv;have bg:=R.p;refine⟨rfl,rfl,_,⟨dp,R.z.set ab,R.p,R.b,?_,R.eE,R.hS,R.i6,R.ne,R.s,(I 24 J).trans R.o5,(I 41 J).trans R.mz,(I 43 J).trans R.rX,(I 25 J).trans R.rT,λB=>?_,λB=>?_,?_,λB P=>?_⟩,λd=>?_,ab⟩
  ·rw[show({ x with out:=up x.out (i*Z.C+j) r }:f8).out (i*Z.C+j)=r from g4 _ _ _];exact E.2
  ·obtain⟨t1,M⟩:=R.top B;exact⟨ab,M.T ab λ_ _ h=>h⟩
  ·exact(R.o B).T rfl rfl rfl ab aN J ab λb e=>L b (R.s b e).2.2.1
  ·obtain⟨es,cH,q⟩:=R.m4
   grind
  ·obtain⟨t1,M,t3⟩:=R.one B P;exact⟨ab,ab,t3.T ab λ_ _ h=>h⟩
  ·rw[K d]
   grind
end
section
variable {s:al} {g cJ h ac:ae} {U Y aL i j av:Nat} {c:Nat->X} {l:aa et} {aQ:aw Nat} {Z:cb} {own:Nat->Nat} {bz b2 cC:Nat}
theorem jx.init(K:fZ Z)(N:NwI Z i j U h ac Y aL c aQ bz b2 cC l cJ)(S:k2 cJ g)(aj:i<Z.R)(bZ:j<Z.C)(bg:own aL=i*Z.C+j+1)(aO:∀b,aQ=some b->own b=i*Z.C+j+1)(h1:own bz=i*Z.C+j+1)(ap:own b2=i*Z.C+j+1)(aM:own cC=i*Z.C+j+1):
  jx Z av (mu Z.R Z.C) i j own g ac Y aL c l aQ none bz b2 cC:=by
 obtain⟨L,P,m25,I,xj,Em,m40,m41,m42,m43,M⟩:=N.m;obtain⟨aC,aB,a2,a3,aZ,bt⟩:=N.eE;obtain⟨Ew,cI,bQ,d6,fB,gb⟩:=N.hS;obtain⟨aDZ,e8,fX,h0,nL,r5⟩:=N.i6;refine⟨N.W,N.z.sub S,bg,aO,?_,ab,ab,ab,N.ne,ab,P,m41,m43,m25,λ_=>⟨L,iD.no bt⟩,λD=>?_,⟨_,_,gb⟩,λD BA=>⟨m42,?_,iD.no r5⟩⟩
 ·have bp:(i*Z.C+j) % Z.C=j:=by rw[xS,Nat.mul_add_mod,Jh bZ]
  by_cases D:j=0
  ·subst D;obtain⟨_,_,_,rfl⟩:=N.aCn rfl;have ct:i*Z.C+0<Z.R*Z.C:=pv aj bZ;have bj:(i*Z.C+0) / Z.C=i:=by rw[nS];exact Nat.mul_div_cancel _ bZ
   have:(mu Z.R Z.C).out (i*Z.C+0)=[.dA i 0]:=by
    show(if(i*Z.C+0) % Z.C=0/\i*Z.C+0<Z.R*Z.C then[cw.dA ((i*Z.C+0) / Z.C) 0]else[])=_
    grind
   rw[this];exact⟨⟨rfl,rfl,rfl,rfl,rfl,wH,wH,rfl,rfl,rfl⟩,trivial⟩
  ·obtain⟨rfl,_⟩:=N.aDP D;have:(mu Z.R Z.C).out (i*Z.C+j)=[]:=if_neg J;rw[this]
   trivial
 ·obtain⟨de,ew,E,_⟩:=N.aCn D;have B:jf g Y (.agg ⟨[c 28,c 29,c 30,c 31,c 32]⟩) (Z.bB i) (Z.H i) (Z.eo.st 0):=hs.sub ew S;refine⟨I,xj,de,Em,B,?_,ab,λe=>by cases e⟩;rw[E 28 J J,E 29 J J,E 30 J J,E 31 J J,E 32 J J];exact B
 ·rw[M,show(mu Z.R Z.C).V=0 from rfl,hD J]
end
def RJ:aa (aa Nat):=[[1,2,3,5,22,23]]
def acQ(s:al)(aB a2 a3 bt eJ j5:X)(h:ae)(U:Nat)(N:aP)(aE:aP)(R:aP):Prop:=cF j5 eJ (ax h 8 aB λc=>b6 131 [c,j5] h U λd e f=>bo 8 aB λg=>bS e g λi=>cZ g i (b6 132 [i,j5] e f λj k l=>aR 12 k aB λm=>jl 12 aB m (b6 59 [m,d,j] k l λn o p=>af (cp n 0) λq=>af (cp n 1) λr=>lA r (R [aB,(.pointer none),r,bt,eJ,j5] o p) (af (bx bt) λaI=>ax o 12 aI λw=>dS (eV 1 [(.pointer none)] [(0,1,q)]) o p λx y z=>dD (dU (dM 1 y z w x)) λbD bU bL=>af (bx bt) λbk=>bo 12 bk λbV=>af (aU bU 1 bV bD) λca=>ax ca 8 aB λcM=>aX s 132 [cM,j5] ca bL λcG ds dh=>bw .eql 3 cG (ad 0) (af (bx bt) λam=>ax ds 14 am λez=>dS (eV 1 [(.pointer none)] [(0,1,q)]) ds dh λf9 gw gl=>dD (dU (dM 1 gw gl ez f9)) λhT iu gx=>af (bx bt) λl2=>bo 14 l2 λlC=>af (aU iu 1 lC hT) λlD=>b9 j5 λox=>N [aB,a2,a3,bt,eJ,ox] lD gx) (b9 j5 λqd=>N [aB,a2,a3,bt,eJ,qd] ds dh))) 2 [e,h]) 1 [h]) (aE [aB,a2,a3,bt,eJ,j5] h U)
def agi:cS:=λs ah h U K=>bI ah h U λa b c=>aR 12 b a λd=>aX s 121 [d] b c λe f g=>lA e (K (.tuple ⟨[(.pointer none),e]⟩) f g) (aR 12 f a λj=>dS (.ok .map) f g λk l m=>af (cU [(ad 0),(ad 0),(ad 0),(ad 0),ay,(ad 0),ay,(ad 0),(ad 0),(ad 0),(ad 0),ay,ay,(.map none),ay,ay] [(0,12,j),(13,1,k)]) λn=>bI n l m λo p q=>ax p 7 a λt=>ax p 8 a λv=>bH .mul 3 t v λw=>bC (bN Q s RJ 70 0) [a,(.pointer none),(ad 0),o,w,(ad 0)] p q [(0,λx y z=>aX s 140 [(a8 x 3)] y z λbD bU bL=>K (.tuple ⟨[(a8 x 3),(ad 0)]⟩) bU bL)] (λbk bV ca=>K (.tuple ⟨[(a8 bk 1),(a8 bk 2)]⟩) bV ca))
theorem atf{s:al}{D E B:X}{h:ae}{U:Nat}{R:aP}:bN Q s RJ 70 0 [D,a2,a3,E,eJ,B] h U N [(0,aE)] R=acQ s D a2 a3 E eJ B h U N aE R:=by kernel_rfl
theorem avG:cT 70 agi:=cV RJ
def acR:cS:=λs ah h U K=>bw .neq 110 ah (.pointer none) (af (bx ah) λb=>ax h 14 b λd=>aX s 141 [d,(.func (.func 142) #[] #[])] h U λe f g=>af (dv .not e) λi=>K i f g) (K (.bool false) h U)
theorem apy:cT 71 acR:=cV []
def FK:aa (aa Nat):=[[0,3,15,16],[0,3,27,28,29]]
def Xy(s:al)(aC a3 i3 hf:X)(h:ae)(U:Nat)(N:aP)(aE:aP)(R:aP):Prop:=cF hf i3 (aX s 143 [aC,hf] h U λb c d=>bu b (b9 hf λe=>N [aC,(.bool true),i3,e] c d) (b9 hf λf=>N [aC,a3,i3,f] c d)) (aE [aC,a3,i3,hf] h U)
def Xz(s:al)(aC a3 xa qS p5:X)(h:ae)(U:Nat)(N:aP)(aK:aP)(R:aP):Prop:=cF p5 qS (hw 2 h 2 xa p5 λc=>b1 [(ad 0),(ad 0)] h U λd e f=>af (aU e 2 d c) λg=>af (bx aC) λi=>ax g 13 i λk=>aR 2 g d λl=>af (jV Q g 198 (.pointer none) false k l) λm=>aX s 145 [m] g f λn o p=>b6 147 [m] o p λq r t=>af (im (.array 2 1) d (ad 0)) λaI=>bS r aI λv=>cZ aI v (af (im (.array 2 1) d (ad 1)) λw=>bS r w λx=>cZ w x (b6 146 [aC,v,x,q] r t λy z bD=>bu a3 (b9 p5 λbU=>N [aC,(.bool true),xa,qS,bU] z bD) (aX s 145 [m] z bD λbL bk bV=>bH .lss 3 bL n λca=>b9 p5 λbO=>N [aC,ca,xa,qS,bO] bk bV)) 1 [o]) 1 [o]) (aK [aC,a3,xa,qS,p5] h U)
def aaC:cS:=λs ah h U K=>bw .eql 110 ah (.pointer none) (K (.bool false) h U) (af (bx ah) λb=>ax h 12 b λd=>cO d λe=>bC (bN Q s FK 72 0) [ah,(.bool false),e,(ad 0)] h U [(0,λf g i=>aX s 144 [(a8 f 0)] g i λj k l=>cO j λm=>bC (bN Q s FK 72 1) [(a8 f 0),(a8 f 1),j,m,(ad 0)] k l [(2,λn o p=>K (a8 n 1) o p)] (λ_ _ _=>False))] (λ_ _ _=>False))
theorem ajT{s:al}{D B:X}{h:ae}{U:Nat}{R:aP}:bN Q s FK 72 0 [aC,a3,D,B] h U N [(0,aE)] R=Xy s aC a3 D B h U N aE R:=by kernel_rfl
theorem ajU{s:al}{E B D:X}{h:ae}{U:Nat}{R:aP}:bN Q s FK 72 1 [aC,a3,E,B,D] h U N [(2,aK)] R=Xz s aC a3 E B D h U N aK R:=by kernel_rfl
theorem al6:cT 72 aaC:=cV FK
def Oo(s:al)(K:bR)(cz cE cg:X)(au:ae)(a4:Nat):Prop:=ax au 1 cg λb=>aX s 155 [cz,b] au a4 λc d e=>af (cp c 0) λf=>af (cp c 1) λg=>bo 2 cg λi=>af (aU d 5 i f) λj=>aR 7 j cg λk=>af (aU j 7 cE k) λl=>aR 7 l cE λm=>K m l e
def aaD:cS:=λs ah h U K=>b1 [(ad 0),(ad 0),(ad 0),(ad 0),ay,ay,ay] h U λa b c=>bw .eql 110 ah (.pointer none) (af (cU [(ad 0),(ad 0),(ad 0),(ad 0),ay,ay,ay] []) λe=>af (aU b 7 a e) λf=>aR 7 f a λg=>K g f c) (aX s 150 [ah] b c λi j k=>af (cU [(ad 0),(ad 0),(ad 0),(ad 0),ay,ay,ay] [(1,1,i)]) λl=>b1 [(ad 0),(ad 0),(ad 0),(ad 0),ay,ay,ay] j k λm n o=>af (aU n 7 m l) λp=>aX s 71 [ah] p o λq r t=>bu q (af (bx ah) λaI=>ax r 14 aI λw=>dL r 1 w (ad 0) λy=>fh Q s (hP r t [y] (.func (.func 67) #[] #[])) λz bD bU=>bo 0 m λbL=>af (aU bD 1 bL z) λbk=>(Oo s K ah a m bk bU)) (Oo s K ah a m r t))
theorem al7:cT 74 aaD:=cV []
def Sh:gv:=λs ah t1 t2 h U K=>bI ah h U λa b c=>b1 [(ad 0),(ad 0),(ad 0),(ad 0),ay,ay,ay,(ad 0),(ad 0)] b c λd e f=>aR 12 e a λg=>aX s 157 [g,t1,t2] e f λi j k=>af (cp i 0) λl=>af (cp i 1) λm=>af (cp i 2) λn=>lA n (af (cU [(ad 0),(ad 0),(ad 0),(ad 0),ay,ay,ay,(ad 0),(ad 0)] []) λp=>af (aU j 9 d p) λq=>aR 9 q d λr=>K (.tuple ⟨[r,n]⟩) q k) (aX s 74 [l] j k λt aI v=>aX s 152 [l] aI v λw x y=>af (cU [(ad 0),(ad 0),(ad 0),(ad 0),ay,ay,ay,(ad 0),(ad 0)] [(0,7,t),(7,1,w),(8,1,m)]) λz=>b1 [(ad 0),(ad 0),(ad 0),(ad 0),ay,ay,ay,(ad 0),(ad 0)] x y λbD bU bL=>af (aU bU 9 bD z) λbk=>aX s 71 [l] bk bL λbV ca bO=>af (dv .not bV) λcM=>bu cM (bo 0 bD λcG=>bo 0 cG λds=>af (aU ca 1 ds (ad 4)) λdh=>aR 9 dh bD λey=>af (aU dh 9 d ey) λam=>aR 9 am d λan=>K (.tuple ⟨[an,n]⟩) am bO) (aR 9 ca bD λez=>af (aU ca 9 d ez) λf9=>aR 9 f9 d λgw=>K (.tuple ⟨[gw,n]⟩) f9 bO))
theorem aeV:gF 76 Sh:=gL []
def QO:aa (aa Nat):=[[0,7,8,9]]
def aaE(s:al)(aC a6 br c7:X)(h:ae)(U:Nat)(N:aP)(aE:aP)(R:aP):Prop:=cF c7 br (dL h 1 a6 c7 λc=>b6 68 [c] h U λd e f=>af (bx aC) λg=>bo 15 g λi=>bS e i λj=>cZ i j (cO j λk=>oT (λh=>AI j) k (bw .neq 3 d k (R [aC,a6,br,c7] e f) (b9 c7 λm=>N [aC,a6,br,m] e f)) 1 [h]) 1 [h]) (aE [aC,a6,br,c7] h U)
def aeW:cS:=λs ah h U K=>af (bx ah) λa=>ax h 14 a λc=>cO c λd=>bC (bN Q s QO 140 0) [ah,c,d,(ad 0)] h U [(0,λe f g=>b6 234 [(a8 e 0)] f g λi j k=>af (bx (a8 e 0)) λl=>bo 15 l λm=>bS j m λn=>cZ m n (dS (eV 1 [(ad 0),(ad 0),ay,ay,ay] [(0,5,i)]) j k λo p q=>dD (dU (dM 5 p q n o)) λr t aI=>q<=aI/\af (bx (a8 e 0)) λv=>bo 15 v λw=>af (aU t 1 w r) λx=>K (.tuple ⟨[]⟩) x aI) 1 [f])] (λy z bD=>K (.tuple ⟨[]⟩) z bD)
theorem apA{s:al}{D B:X}{h:ae}{U:Nat}{R:aP}:bN Q s QO 140 0 [aC,a6,D,B] h U N [(0,aE)] R=aaE s aC a6 D B h U N aE R:=by kernel_rfl
theorem atg:cT 140 aeW:=cV QO
def apB:cS:=λs ah h U K=>aX s 67 [ah] h U λa b c=>bH .eql 86 a (ad 0) λd=>K d b c
theorem al8:cT 142 apB:=cV []
def avH:c0:=λs ah t1 h U K=>aX s 236 [ah,t1] h U λa b c=>af (dv .not a) λd=>bu d (K (.bool false) b c) (af (bx ah) λe=>ax b 12 e λg=>dL b 1 g t1 λj=>aX s 61 [j] b c λk l m=>af (cp k 0) λn=>af (cp k 1) λo=>b1 [(ad 0),(ad 0),(ad 0),(ad 0),(ad 0),(ad 0),ay,ay,ay,(ad 0),(.bool false)] l m λp q r=>af (aU q 11 p n) λt=>af (dv .not o) λaI=>bu aI (K (.bool false) t r) (ax t 2 p λw=>b6 237 [ah,t1,w] t r λx y z=>aR 11 y p λbD=>jl 11 p bD (b6 238 [x,bD] y z λbU bL bk=>lA bU (K (.bool false) bL bk) (aX s 62 [j] bL bk λca bO cM=>K (.bool true) bO cM)) 1 [t]))
theorem acS:c4 143 avH:=c5 []
def al9:s2:=λs ah t1 t2 t3 h U K=>aX s 237 [ah,t1,t2] h U λa b c=>aX s 243 [a,t3] b c λd e f=>af (cp d 0) λg=>af (cp d 1) λi=>af (cp d 2) λj=>b1 [(ad 0),(ad 0),(ad 0),(ad 0),(ad 0),(ad 0),ay,ay,ay,(ad 0),(.bool false)] e f λk l m=>af (aU l 11 k g) λn=>af (dv .not i) λo=>bu o (K (.bool false) n m) (af (bx ah) λp=>ax n 12 p λr=>dL n 1 r t2 λaI=>aR 11 n k λv=>b6 63 [aI,v] n m λw x y=>aX s 140 [ah] x y λz bD bU=>K (.bool true) bD bU)
theorem ajV:uo 146 al9:=vw []
def apC:cS:=λs ah h U K=>aX s 145 [ah] h U λa b c=>bw .eql 3 a (ad 0) (K (ad (-1)) b c) (af (bx ah) λe=>ax b 1 e λg=>aX s 244 [g] b c λi j k=>b1 [(ad 0)] j k λl m n=>af (aU m 1 l i) λo=>af (bx ah) λp=>ax o 1 p λr=>af (.ok (.func (.func 246) ⟨[]⟩ ⟨[l]⟩)) λt=>aX s 245 [r,t] o n λaI v w=>K aI v w)
theorem ama:cT 147 apC:=cV []
def aaF:cS:=λs ah h U K=>bw .eql 110 ah (.pointer none) (K (ad 0) h U) (af (bx ah) λb=>ax h 15 b λd=>cO d λe=>bH .sub 3 e (ad 1) λf=>K f h U)
theorem amb:cT 150 aaF:=cV []
def JN(s:al)(K:bR)(cz cB df sM:X)(au:ae)(a4:Nat):Prop:=bu sM (af (cU [(ad 0),(ad 0),ay,ay,ay] []) λa=>af (aU au 5 df a) λb=>aR 5 b df λc=>K (.tuple ⟨[c,(.bool false)]⟩) b a4) (af (bx cz) λd=>ax au 15 d λf=>hw 5 au 5 f cB λi=>b1 [(ad 0),(ad 0),ay,ay,ay] au a4 λj k l=>af (aU k 5 j i) λm=>ax m 2 j λo=>b6 88 [o] m l λp q r=>bo 3 j λt=>bS q t λaI=>cZ t aI (b6 88 [aI] q r λv w x=>bo 4 j λy=>bS w y λz=>cZ y z (b6 139 [z] w x λbD bU bL=>bo 0 j λbk=>bS bU bk λbV=>cZ bk bV (bo 1 j λca=>bS bU ca λbO=>cZ ca bO (af (cU [(ad 0),(ad 0),ay,ay,ay] [(0,1,bV),(1,1,bO),(2,1,p),(3,1,v),(4,1,bD)]) λcM=>af (aU bU 5 df cM) λcG=>aR 5 cG df λds=>K (.tuple ⟨[ds,(.bool true)]⟩) cG bL) 3 [w,q,m]) 3 [w,q,m]) 2 [q,m]) 1 [m])
def acT:c0:=λs ah t1 h U K=>b1 [(ad 0),(ad 0),ay,ay,ay] h U λa b c=>bw .eql 110 ah (.pointer none) (JN s K ah t1 a (.bool true) b c) (cF t1 (ad 0) (JN s K ah t1 a (.bool true) b c) (af (bx ah) λf=>ax b 15 f λi=>cO i λj=>bH .geq 3 t1 j λk=>(JN s K ah t1 a k b c)))
theorem apD:c4 155 acT:=c5 []
def FL:aa (aa Nat):=[[2,10,30,31,32],[10,14,40,41]]
def XA(s:al)(a2 dk ze i4 ge:X)(h:ae)(U:Nat)(N:aP)(aE:aP)(R:aP):Prop:=cF ge i4 (hw 4 h 4 ze ge λc=>b1 [(ad 0),(ad 0),(ad 0),(ad 0)] h U λd e f=>af (aU e 4 d c) λg=>aR 4 g d λi=>aX s 251 [dk,i] g f λj k l=>b9 ge λm=>N [a2,dk,ze,i4,m] k l) (aE [a2,dk,ze,i4,ge] h U)
def XB(s:al)(dk k5 xb vA:X)(h:ae)(U:Nat)(N:aP)(aK:aP)(R:aP):Prop:=cF vA xb (aX s 71 [dk] h U λb c d=>bu b (aK [dk,k5,xb,vA] c d) (aX s 72 [dk] c d λe f g=>b9 k5 λi=>b9 vA λj=>N [dk,i,xb,j] f g)) (aK [dk,k5,xb,vA] h U)
def PH:gv:=λs ah t1 t2 h U K=>bI ah h U λa b c=>aR 12 b a λd=>aX s 161 [d,t1,t2] b c λe f g=>lA e (K (.tuple ⟨[(.pointer none),(ad 0),e]⟩) f g) (aR 12 f a λj=>aX s 70 [j] f g λk l m=>af (cp k 0) λn=>af (cp k 1) λo=>lA o (K (.tuple ⟨[(.pointer none),(ad 0),o]⟩) l m) (cO t1 λq=>bC (bN Q s FL 157 0) [t2,n,t1,q,(ad 0)] l m [(0,λr t aI=>bC (bN Q s FL 157 1) [(a8 r 1),(ad 0),(a8 r 0),(ad 0)] t aI [(2,λv w x=>K (.tuple ⟨[(a8 v 0),(a8 v 1),(ad 0)]⟩) w x)] (λ_ _ _=>False))] (λ_ _ _=>False)))
theorem ajW{s:al}{D B E:X}{h:ae}{U:Nat}{R:aP}:bN Q s FL 157 0 [a2,dk,D,B,E] h U N [(0,aE)] R=XA s a2 dk D B E h U N aE R:=by kernel_rfl
theorem ajX{s:al}{D B E:X}{h:ae}{U:Nat}{R:aP}:bN Q s FL 157 1 [dk,D,B,E] h U N [(2,aK)] R=XB s dk D B E h U N aK R:=by kernel_rfl
theorem YI:gF 157 PH:=gL FL
def Ch:aa (aa Nat):=[[2,3,4,20,21,22],[2,3,4,7,20,21,22,42,43,44]]
def Wx(s:al)(a2 a3 aZ a6 jM iE eJ U3 U4 qM:X)(h:ae)(U:Nat)(N:aP)(aK:aP)(R:aP):Prop:=cF qM U4 (dL h 1 U3 qM λc=>ax h 0 a6 λe=>lB e c λf=>dS (eV 1 [(ad 0)] [(0,1,f)]) h U λg i j=>dD (dU (dM 1 i j aZ g)) λk l m=>b9 qM λn=>N [a2,a3,k,a6,jM,iE,eJ,U3,U4,n] l m) (aK [a2,a3,aZ,a6,jM,iE,eJ,U3,U4,qM] h U)
def Wy(s:al)(a2 a3 aZ jM iE eJ:X)(h:ae)(U:Nat)(N:aP)(aE:aP)(R:aP):Prop:=cF eJ iE (dL h 1 jM eJ λc=>aX s 69 [c] h U λd e f=>b1 [(ad 0),(ad 0),ay,ay,ay] e f λg i j=>af (aU i 5 g d) λk=>ax k 2 a3 λm=>ax k 2 g λo=>dD (dU (dM 1 k j m o)) λp q r=>j<=r/\bo 3 a3 λt=>bS q t λaI=>cZ t aI (bo 3 g λv=>bS q v λw=>cZ v w (dD (dU (dM 1 q r aI w)) λx y z=>r<=z/\bo 2 a3 λbD=>af (aU y 1 bD p) λbU=>bo 3 a3 λbL=>af (aU bU 1 bL x) λbk=>ax bk 4 g λca=>aX s 119 [ca] bk z λbO cM cG=>cO bO λds=>bC (bN Q s Ch 234 1) [a2,a3,aZ,g,jM,iE,eJ,bO,ds,(ad 0)] cM cG [(2,λdh ey am=>b9 (a8 dh 6) λan=>N [(a8 dh 0),(a8 dh 1),(a8 dh 2),(a8 dh 4),(a8 dh 5),an] ey am)] (λ_ _ _=>False)) 1 [k]) 1 [k]) (aE [a2,a3,aZ,jM,iE,eJ] h U)
def XC:cS:=λs ah h U K=>b1 [(ad 0),(ad 0),ay,ay,ay] h U λa b c=>af (bx ah) λd=>bo 0 d λe=>bo 0 e λf=>ax b 1 f λi=>af (cU [(ad 0),(ad 0),ay,ay,ay] [(1,1,i)]) λj=>b1 [(ad 0),(ad 0),ay,ay,ay] b c λk l m=>af (aU l 5 k j) λn=>af (bx ah) λo=>ax n 14 o λq=>cO q λr=>bC (bN Q s Ch 234 0) [a,k,ay,q,r,(ad 0)] n m [(0,λt aI v=>ax aI 1 (a8 t 1) λx=>aX s 108 [x,(a8 t 2)] aI v λy z bD=>bo 4 (a8 t 1) λbU=>af (aU z 1 bU y) λbL=>aR 5 bL (a8 t 1) λbk=>af (aU bL 5 (a8 t 0) bk) λbV=>aR 5 bV (a8 t 0) λca=>K ca bV bD)] (λ_ _ _=>False)
theorem aih{s:al}{B E D:X}{h:ae}{U:Nat}{R:aP}:bN Q s Ch 234 1 [a2,a3,aZ,a6,jM,iE,eJ,B,E,D] h U N [(2,aK)] R=Wx s a2 a3 aZ a6 jM iE eJ B E D h U N aK R:=by kernel_rfl
theorem aii{s:al}{h:ae}{U:Nat}{R:aP}:bN Q s Ch 234 0 [a2,a3,aZ,jM,iE,eJ] h U N [(0,aE)] R=Wy s a2 a3 aZ jM iE eJ h U N aE R:=by kernel_rfl
theorem aiM:cT 234 XC:=cV Ch
def agj:c0:=λs ah t1 h U K=>bw .neq 110 ah (.pointer none) (bw .geq 3 t1 (ad 0) (af (bx ah) λc=>ax h 12 c λe=>cO e λf=>bH .lss 3 t1 f λg=>K g h U) (K (.bool false) h U)) (K (.bool false) h U)
theorem avI:c4 236 agj:=c5 []
def QP(s:al)(K:bR)(cz cB cE y17:X)(au:ae)(a4:Nat):Prop:=bu y17 (K (.pointer none) au a4) (af (cU [(ad 0),(ad 0)] [(0,1,cB),(1,1,cE)]) λa=>b1 [(ad 0),(ad 0)] au a4 λb c d=>af (aU c 2 b a) λe=>af (bx cz) λf=>ax e 13 f λi=>aR 2 e b λj=>af (jV Q e 198 (.pointer none) false i j) λk=>bw .eql 199 k (.pointer none) (af (bx cz) λm=>bo 0 m λn=>ax e 9 n λp=>b6 339 [p] e d λq r t=>af (bx cz) λaI=>bo 13 aI λv=>bS r v λw=>cZ v w (aR 2 r b λx=>jl 2 b x (af (cp q 0) λy=>af (mK Q 198 r w x y) λz=>af (cp q 1) λbD=>af (bx cz) λbU=>ax z 13 bU λbk=>aR 2 z b λbV=>af (jV Q z 198 (.pointer none) false bk bV) λca=>K ca z t) 1 [e]) 1 [e]) (af (bx cz) λbO=>ax e 13 bO λcG=>aR 2 e b λds=>af (jV Q e 198 (.pointer none) false cG ds) λdh=>K dh e d))
def ayd:gv:=λs ah t1 t2 h U K=>aX s 236 [ah,t1] h U λa b c=>af (dv .not a) λd=>bu d (QP s K ah t1 t2 (.bool true) b c) (aX s 236 [ah,t2] b c λe f g=>af (dv .not e) λi=>(QP s K ah t1 t2 i f g))
theorem avJ:gF 237 ayd:=gL []
def aeX:c0:=λs ah t1 h U K=>bI t1 h U λa b c=>bw .eql 199 ah (.pointer none) (K (ad 10) b c) (aX s 340 [ah] b c λe f g=>bu e (K (ad 9) f g) (aR 11 f a λi=>aX s 341 [i] f g λj k l=>af (aU k 11 a j) λm=>af (bx ah) λn=>ax m 4 n λp=>bo 3 a λq=>af (aU m 1 q p) λr=>af (bx ah) λt=>ax r 2 t λv=>ax r 3 a λx=>aR 11 r a λy=>af (mK Q 3 r v x y) λz=>ax z 3 a λbU=>aX s 342 [ah,bU] z l λbL bk bV=>af (bx ah) λca=>ax bk 4 ca λcM=>b9 cM λcG=>af (bx ah) λds=>bo 4 ds λdh=>af (aU bk 1 dh cG) λey=>K (ad 0) ey bV))
theorem ath:c4 238 aeX:=c5 []
def PI(s:al)(K:bR)(cz cB df fe Ua:X)(au:ae)(a4:Nat):Prop:=bu Ua (af (cU [(ad 0),(ad 0),(ad 0),(ad 0),(ad 0),(ad 0),ay,ay,ay,(ad 0),(.bool false)] []) λa=>af (aU au 11 df a) λb=>aR 11 b df λc=>K (.tuple ⟨[c,(.bool false),fe]⟩) b a4) (aX s 347 [cz,cB] au a4 λd e f=>b1 [(ad 0),(ad 0),(ad 0),(ad 0),(ad 0),(ad 0),ay,ay,ay,(ad 0),(.bool false)] e f λg i j=>af (aU i 11 g d) λk=>ax k 3 g λm=>af (bx cz) λn=>ax k 5 n λp=>cF m p (af (cU [(ad 0),(ad 0),(ad 0),(ad 0),(ad 0),(ad 0),ay,ay,ay,(ad 0),(.bool false)] []) λr=>af (aU k 11 df r) λt=>aR 11 t df λaI=>K (.tuple ⟨[aI,(.bool false),(ad 0)]⟩) t j) (af (bx cz) λv=>ax k 5 v λx=>b9 x λy=>af (bx cz) λz=>bo 5 z λbD=>af (aU k 1 bD y) λbU=>aR 11 bU g λbL=>aX s 341 [bL] bU j λbk bV ca=>af (aU bV 11 df bk) λbO=>aR 11 bO df λcM=>K (.tuple ⟨[cM,(.bool true),(ad 0)]⟩) bO ca))
def aeY:c0:=λs ah t1 h U K=>b1 [(ad 0),(ad 0),(ad 0),(ad 0),(ad 0),(ad 0),ay,ay,ay,(ad 0),(.bool false)] h U λa b c=>aX s 346 [ah,t1] b c λd e f=>lA d (PI s K ah t1 a d (.bool true) e f) (af (bx ah) λi=>ax e 1 i λk=>dL e 1 k t1 λm=>af (bx ah) λn=>ax e 5 n λp=>bH .gtr 3 m p λq=>(PI s K ah t1 a d q e f))
theorem ati:c4 243 aeY:=c5 []
def YJ:c0:=λs ah t1 h U K=>bS h t1 λa=>bH .eql 3 ah a λb=>K b h U
theorem ajY:c4 246 YJ:=c5 []
def QQ(s:al)(K:bR)(cz qf:X)(au:ae)(a4:Nat):Prop:=bu qf (K (.tuple ⟨[(.pointer none),(ad 3)]⟩) au a4) (dS (.ok .map) au a4 λa b c=>dS (.ok .map) b c λd e f=>af (cU [(ad 0),ay,(.map none),(.map none),(ad 0),(ad 0)] [(0,1,cz),(2,1,a),(3,1,d)]) λg=>bI g e f λi j k=>K (.tuple ⟨[i,(ad 0)]⟩) j k)
def agk:cS:=λs ah h U K=>cF ah (ad 1) (QQ s K ah (.bool true) h U) (bH .gtr 3 ah (ad 64) λb=>(QQ s K ah b h U))
theorem avK:cT 339 agk:=cV []
def aeZ:cS:=λs ah h U K=>af (bx ah) λa=>ax h 1 a λc=>cO c λd=>af (bx ah) λe=>ax h 0 e λg=>bH .geq 3 d g λi=>K i h U
theorem atj:cT 340 aeZ:=cV []
def agl:cS:=λs ah h U K=>bI ah h U λa b c=>b1 [(ad 0),(ad 0),(ad 0),(ad 0),(ad 0),(ad 0),ay,ay,ay,(ad 0),(.bool false)] b c λd e f=>bo 5 a λg=>ax e 1 g λj=>aX s 217 [j] e f λk l m=>bo 5 a λn=>bo 1 n λo=>af (aU l 1 o k) λp=>ax p 7 a λr=>aX s 218 [r] p m λt aI v=>bo 7 a λw=>af (aU aI 1 w t) λx=>ax x 8 a λz=>aX s 406 [z] x v λbD bU bL=>bo 8 a λbk=>af (aU bU 1 bk bD) λbV=>aR 11 bV a λca=>af (aU bV 11 d ca) λbO=>aR 11 bO d λcM=>K cM bO bL
theorem avL:cT 341 agl:=cV []
def agm:c0:=λs ah t1 h U K=>af (bx ah) λa=>ax h 1 a λc=>dS (eV 1 [(ad 0)] [(0,1,t1)]) h U λd e f=>dD (dU (dM 1 e f c d)) λg i j=>af (bx ah) λk=>bo 1 k λl=>af (aU i 1 l g) λm=>af (bx ah) λn=>ax m 3 n λp=>af (jV Q m 3 (ad 0) false p t1) λq=>b9 q λr=>af (mK Q 3 m p t1 r) λt=>K (.tuple ⟨[]⟩) t j
theorem avM:c4 342 agm:=c5 []
def ahv:c0:=λs ah t1 h U K=>bw .eql 199 ah (.pointer none) (K (ad 10) h U) (cF t1 (ad 0) (K (ad 3) h U) (af (bx ah) λc=>ax h 1 c λe=>cO e λf=>bw .geq 3 t1 f (K (ad 3) h U) (K (ad 0) h U)))
theorem aye:c4 346 ahv:=c5 []
def agn:c0:=λs ah t1 h U K=>b1 [(ad 0),(ad 0),(ad 0),(ad 0),(ad 0),(ad 0),ay,ay,ay,(ad 0),(.bool false)] h U λa b c=>af (bx ah) λd=>ax b 1 d λf=>dL b 1 f t1 λi=>af (bx ah) λj=>ax b 2 j λl=>af (jV Q b 3 (.agg #[(ad 0),(ad 0),(ad 0),(ad 0),(ad 0),(ad 0),ay,ay,ay,(ad 0),(.bool false)]) false l i) λm=>b1 [(ad 0),(ad 0),(ad 0),(ad 0),(ad 0),(ad 0),ay,ay,ay,(ad 0),(.bool false)] b c λn o p=>af (aU o 11 n m) λq=>af (bx ah) λr=>ax q 1 r λaI=>b9 t1 λv=>aX s 348 [aI,t1,v] q p λw x y=>af (bx ah) λz=>bo 1 z λbD=>af (aU x 1 bD w) λbU=>af (bx ah) λbL=>ax bU 3 bL λbV=>af (jV Q bU 3 (ad 0) false bV i) λca=>bH .sub 3 ca (ad 1) λbO=>af (mK Q 3 bU bV i bO) λcM=>af (bx ah) λcG=>ax cM 3 cG λdh=>af (jV Q cM 3 (ad 0) false dh i) λey=>bw .eql 3 ey (ad 0) (af (bx ah) λan=>ax cM 3 an λf9=>dD (dU (pr Q .delete [302,3] cM y [f9,i])) λgw gl hT=>af (bx ah) λiu=>ax gl 2 iu λl2=>dD (dU (pr Q .delete [173,3] gl hT [l2,i])) λlC lD ox=>aR 11 lD n λqd=>af (aU lD 11 a qd) λch=>aR 11 ch a λr3=>K r3 ch ox) (aR 11 cM n λbe=>af (aU cM 11 a be) λl3=>aR 11 l3 a λpc=>K pc l3 y)
theorem avN:c4 347 agn:=c5 []
def ago:cS:=λs ah h U K=>bw .eql 199 ah (.pointer none) (K (ad 0) h U) (af (bx ah) λb=>ax h 1 b λd=>cO d λe=>K e h U)
theorem avO:cT 145 ago:=cV []
def ae0:cS:=λs ah h U K=>bw .eql 199 ah (.pointer none) (K (ad 0) h U) (af (bx ah) λb=>ax h 4 b λd=>K d h U)
theorem atk:cT 248 ae0:=cV []
def kr(room:Int)(row:X)(dy dg:Nat)(iC lL:Nat):aa X:=[(room:X),row,.map (some dy),.map (some dg),(iC:X),(lL:X)]
theorem Dg:wn Q 199=true:=by kernel_rfl
section
variable {s:al} {h:ae} {U b4 dy dg iC lL:Nat} {room:Int} {a:aw Addr} {n cap:Nat}
theorem Gv(B:u h b4=some (.cells (kr room (.slice a n cap) dy dg iC lL) false)):aH Q s 145 [bf b4] h U (fr (n:X) U h):=by refine avO ?_;unfold ago;simp(disch:=omega)only[bl,po Dg,B,seval];exact⟨rfl,rfl,rfl⟩
theorem apE(B:u h b4=some (.cells (kr room (.slice a n cap) dy dg iC lL) false)):aH Q s 248 [bf b4] h U (fr (iC:X) U h):=by refine atk ?_;unfold ae0;simp(disch:=omega)only[bl,po Dg,B,seval];exact⟨rfl,rfl,rfl⟩
theorem apF(B:u h b4=some (.cells (kr room (.slice a n cap) dy dg iC lL) false)):aH Q s 340 [bf b4] h U (fr (.bool (!decide ((n:Int)<room))) U h):=by refine atj ?_;unfold aeZ;unfold kr at B;refine bh @B ?_;exact⟨rfl,rfl,rfl⟩
theorem avP(B:u h b4=some (.cells (kr room (.slice a n cap) dy dg iC lL) false))(D:k<n):aH Q s 346 [bf b4,(k:X)] h U (fr (.int .i64 0) U h):=by
 refine aye ?_;unfold ahv
 unfold kr at B;simp(disch:=omega)only[bl,po Dg,B,seval];exact⟨λh=>absurd h J,λ_=>⟨λh=>absurd h J,λ_=>⟨rfl,rfl,rfl⟩⟩⟩
theorem atl(D:1<=room)(B:room<=64):aH Q s 339 [(room:X)] h U (λr ac Y=>r = .tuple ⟨[.pointer (some ⟨U+2,0,none⟩),.int .i64 0]⟩/\u ac (U+2)=some (.cells (kr room (.slice none 0 0) U (U+1) 0 0) false)/\u ac U=some (.map [] 0)/\u ac (U+1)=some (.map [] 0)/\aA U h ac/\Y=U+3):=by refine avK ?_;unfold agk;refine aD ?_;refine⟨λh=>absurd h J,λ_=>?_⟩;rw[hD J];unfold QQ;refine aD ?_;exact⟨rfl,aN⟩
end
theorem aAg:m9 Q 99=true:=by kernel_rfl
theorem ajZ{s:al}{h:ae}{U:Nat}{a:aw Addr}{c:Nat}:aH Q s 406 [.slice a 0 c] h U (λr ac Y=>(∃B bM,r = .slice B 0 bM)/\aA U h ac/\U<=Y):=by refine ali ?_;unfold aac;simp(disch:=omega)only[bl,z0 aAg,seval];refine⟨λ_=>⟨⟨_,_,rfl⟩,aN⟩,λ_=>?_⟩;exact⟨⟨_,_,rfl⟩,aN,J⟩
theorem acU{s:al}{h:ae}{U:Nat}{f:et}{p:ky}(B:mP h U f p)(cy:p.l4.length<10000)(ev:p.nE.length<10000):
  aH Q s 341 [.agg ⟨ec f⟩] h U (λr ac Y=>∃M,r = .agg ⟨ec M⟩/\M.hI=f.hI/\lw ac U Y M p/\aA U h ac/\U<=Y):=by
 refine avL ?_;have bT:∀{o a0},aA U h (F (F h U o) (U+1) a0):=aN
 have m8:=B.n8;unfold agl ec;refine aD ?_;refine(Ci (B.s8.T  bT J) cy).mono ?_;rintro IK g1 a5 ⟨I,L,f0⟩;have g8:=(L U J).trans ((ar J).trans (aT _ _ _));have de:=(L (U+1) J).trans (aT _ _ _);obtain⟨P,hv,rfl⟩:=I.form;simp(disch:=omega)only[bl,g8,gk,seval];have K1':∀{o},aA U h (F g1 U o):=aN
 refine(Xu (B.uy.T  K1' J) ev).mono ?_;rintro VO g2 bX ⟨K,E,fg⟩;have gs:=(E U J).trans (aT _ _ _);have eE:=(E (U+1) J).trans ((ar J).trans de);obtain⟨a6,i7,rfl⟩:=K.form;simp(disch:=omega)only[bl,gs,gk,m8,seval];refine ajZ.mono ?_;rintro _ c6 bW ⟨⟨br,g9,rfl⟩,D,gJ⟩;have ly:=(D U J).trans (aT _ _ _);have kv:=(D (U+1) J).trans ((ar J).trans eE);simp(disch:=omega)only[bl,ly,kv,gk,seval];generalize kx:F (F c6 U _) (U+1) _=G;have IY:∀d,d≠U->d≠U+1->u G d=u c6 d:=ab
 have IR:iF G U bW (.slice P p.l4.length hv) fG 2 p.l4:=I.T (λb h1 ap=>by rw[IY b J J,D b J,ar J,E b J,ar J]) J J;have IS:iF G U bW (.slice a6 p.nE.length i7) eK 3 p.nE:=K.T (λb h1 ap=>by rw[IY b J J,D b J,ar J]) J J;exact⟨{ f with bm:=P,n6:=p.l4.length,hv:=hv,a6:=a6,n7:=p.nE.length,i7:=i7,br:=br,n8:=0,g9:=g9 },rfl,rfl,⟨⟨B.kind,B.fi,B.lS,B.round,B.l6,cr.o   (λ_=>rfl) IR.fj.rd,cr.o   (λ_=>rfl) IS.fj.rd,rfl,B.n,B.n4⟩,IR,IS⟩,aN,J⟩
theorem aj0{R C av i j:Nat}{x:f8}{m:cw}(aY:mU R C av x m)(K:m.dst C≠i*C+j):
  (cR R C av x m).q i j=x.q i j/\(cR R C av x m).out (i*C+j)=x.out (i*C+j)/\(i=0->(cR R C av x m).P j=x.P j/\(cR R C av x m).e4 j=x.e4 j)/\(j=0->(cR R C av x m).a i=x.a i/\(cR R C av x m).w i=x.w i/\(cR R C av x m).dX i=x.dX i)/\(i=0->j=0->(cR R C av x m).V=x.V/\(cR R C av x m).fN=x.fN):=by
 have M:(cR R C av x m).out (i*C+j)=x.out (i*C+j):=by exact ha J
 cases m with
 |share aJ ov t =>
  obtain⟨_,L,aK,D,I,P,h2,E,_⟩:=JC aY;refine⟨by rw[L],M,λB=>E j λe=>K ?_,ab,ab⟩;rw[B,mc,iV,e];rfl
 |spread aJ ov t =>
  obtain⟨L,aK,D,I,P,h2,E,_,jA,_⟩:=Jw;refine⟨jA i j λe=>K ?_,M,ab,ab,ab⟩;rw[e.1,e.2];rfl
 |dz aJ ov t =>
  obtain⟨_,L,aK,D,I,P,h2,E,_⟩:=Jv aY;refine⟨by rw[D],M,ab,λB=>⟨by rw[I],E i λe=>K ?_⟩,ab⟩;rw[B,e];rfl
 |dA aJ t =>
  obtain⟨_,L,aK,D,I,P,h2,_⟩:=JG aY;refine⟨by rw[D],M,ab,ab,λB h1=>absurd ?_ K⟩;rw[B,h1,mc];rfl
 |order aJ t =>
  obtain⟨L,aK,D,I,P,_,_,_,_,_,E,_⟩:=Oh aY;refine⟨by rw[D],M,ab,λB=>E i λe=>K ?_,ab⟩;rw[B,e];rfl
theorem PZ(Z:cb):Z.fS Z.lim≠0:=by
 unfold cb.fS wi
 grind
theorem atm(Z:cb):∃av,av<=Z.lim/\Z.fS av≠0/\∀t,t<=av->(Z.fS t=0↔t<av):=by
 have:∀n,(∃av,av<=n/\Z.fS av≠0/\∀t,t<av->Z.fS t=0)\/∀t,t<=n->Z.fS t=0:=by
  intro n
  induction n with
  |zero =>
   grind
  |succ n E =>
   grind
 rcases this Z.lim with⟨av,D,B,I⟩|h
 ·grind
 ·exact absurd ab (PZ Z)
def LI(h:ae)(v:X)(du:aw Nat):Prop:=(v = .slice none 0 0/\du=none)\/∃b w,du=some b/\v = .slice (some ⟨b,0,some 1⟩) 0 1/\u h b=some (.cells [w] false)
theorem avQ{h:ae}{U b q c:Nat}{x:Int}{K:al}(I:u h b=some (.cells [w] false))(B:u h q=some (.cells [(x:X)] K)):
  dM 1 h U (.slice (some ⟨b,0,some 1⟩) 0 1) (.slice (some ⟨q,0,none⟩) 1 c) = .ok (.val (.slice (some ⟨b,0,some 1⟩) 1 1) (F h b (.cells [(x:X)] false)) U):=by
 have E:lg h (some ⟨q,0,none⟩) (Nat.mul 1 1) (λnew=>g0 1 h U (some ⟨b,0,some 1⟩) 0 1 1 new)=g0 1 h U (some ⟨b,0,some 1⟩) 0 1 1 [(x:X)]:=by show cellsOf h q (λD _=>R.of "read - out of block" (ni (Nat.mul 1 1) (nc D 0)) λnew=>g0 1 h U (some ⟨b,0,some 1⟩) 0 1 1 new)=_;rw[JB,B,FP];rfl
 show lg h (some ⟨q,0,none⟩) (Nat.mul 1 1) (λnew=>g0 1 h U (some ⟨b,0,some 1⟩) 0 1 1 new)=_;rw[E];show R.bind (qq h b 0 [(x:X)]) (λh=>R.ok (fq.val (Value.slice (some ⟨b,0,some 1⟩) 1 1) h U))=_;rw[Js I rfl ab];rfl
section
variable {s:al} {h:ae} {U b4 dy dg iC lL cH x:Nat} {room:Int} {rw:X} {du:aw Nat}
theorem atn(E:u h b4=some (.cells (kr room rw dy dg iC lL) false))(bg:b4<U)(bb:LI h rw du)(P:∀b,du=some b->b<U/\b≠b4/\b≠dg)(bp:u h dg=some (.map [] cH))(hmo:dg<U/\dg≠b4):
  aH Q s 342 [bf b4,(x:X)] h U (λr ac Y=>r = .tuple ⟨[]⟩/\∃D,u ac b4=some (.cells (kr room (.slice (some ⟨D,0,some 1⟩) 1 1) dy dg iC lL) false)/\u ac D=some (.cells [(x:X)] false)/\(du=some D\/U<=D/\D<Y) /\
   i0 ac dg hW [(x,.int .i64 1,cH)] (cH+1)/\(∀d,d<U->d≠b4->d≠dg->du≠some d->u ac d=u h d)/\U<=Y):=by
 refine avM ?_;unfold agm;unfold kr at E ⊢;rcases bb with⟨rfl,rfl⟩|⟨b,w,rfl,rfl,a9⟩
 ·refine mf @E ?_;refine lJ (enc:=cq) (k:=1) (ao:=U+1) (l:=[]) (λ_=>rfl) (λ_=>rfl) J (.inl ab) J (x:Int) (aT _ _ _) rfl (by simp) λdF b3 K M=>?_;obtain⟨aE,_⟩|⟨D,de,ew,rfl,g7⟩:=K
  ·cases aE
  have i9:u b3 b4=_:=(M b4 J).trans ((ar J).trans E);have I:i0 (F b3 b4 (.cells [(room:X),.slice (some ⟨D,0,some 1⟩) 1 1,.map (some dy),.map (some dg),(iC:X),(lL:X)] false)) dg hW [] cH:=Hi ab;have B:=wT (rh nv) I (k:=x) (z:=.int .i64 0) (ok:=false);rw[show hW x = (x:X)from rfl,show iA ([]:aa (Nat × X × Nat)) x=none from rfl]at B;obtain⟨aK,L⟩:=Hh (x:=.int .i64 1) (rh nv) I  rfl;rw[show hW x = (x:X)from rfl]at aK;rw[show(([]:aa Int)++[(x:Int)]).length=1 from rfl]
  replace B:jV Q _ 3 (.int .i64 0) false (.map (some dg)) (x:X) = .ok (.int .i64 0):=B
  simp(disch:=omega)only[bl,↓reduceIte,Nat.reduceAdd,Nat.reduceSub,Nat.reduceMul,Nat.reduceLT,Nat.reduceLeDiff,Nat.reduceEqDiff,Int.reduceBEq,Int.reduceLT,Int.reduceNeg,i9,B,show IntKind.wrap .i64 ((0:Int)+1)=1 from rfl,aK];refine⟨D,?_,?_,J,L _ ab,λd h1 ap aM _=>?_,J⟩
  ·rfl
  ·rw[ar J,ar J];exact g7
  grind
 ·obtain⟨eF,dP,gh⟩:=P b rfl;refine mf @E ?_;rw[avQ ((ar J).trans a9) (aT _ _ _)];generalize kx:F (F h U _) b _=G;have g2:∀d,d≠b->d<U->u G d=u h d:=ab
  have VZ:=(g2 b4 (kB dP) J).trans E;have I:i0 (F G b4 (.cells [(room:X),.slice (some ⟨b,0,some 1⟩) 1 1,.map (some dy),.map (some dg),(iC:X),(lL:X)] false)) dg hW [] cH:=Hi ab;have B:=wT (rh nv) I (k:=x) (z:=.int .i64 0) (ok:=false);rw[show hW x = (x:X)from rfl,show iA ([]:aa (Nat × X × Nat)) x=none from rfl]at B;obtain⟨aK,L⟩:=Hh (x:=.int .i64 1) (rh nv) I  rfl;rw[show hW x = (x:X)from rfl]at aK
  replace B:jV Q _ 3 (.int .i64 0) false (.map (some dg)) (x:X) = .ok (.int .i64 0):=B
  simp(disch:=omega)only[bl,↓reduceIte,Nat.reduceAdd,Nat.reduceSub,Nat.reduceMul,Nat.reduceLT,Nat.reduceLeDiff,Nat.reduceEqDiff,Int.reduceBEq,Int.reduceLT,Int.reduceNeg,dU,VZ,B,show IntKind.wrap .i64 ((0:Int)+1)=1 from rfl,aK];refine⟨b,?_,?_,ab,L _ ab,ab,J⟩
  all_goals grind
end
section
variable {s:al} {h:ae} {U b4 dy dg iC lL c3 gt:Nat} {room:Int} {rw:X} {du:aw Nat} {f:et} {p:ky}
def SeK(b4 dy dg iC lL:Nat)(room:Int)(du:aw Nat)(p:ky)(c3 gt:Nat)(h:ae)(U:Nat):bR:=λr ac Y=>r = .int .i64 0/\∃ce nC m,u ac b4=some (.cells (kr room (.slice (some ⟨ce,0,some 1⟩) 1 1) dy dg (iC+1) lL) false)/\u ac ce=some (.cells [(iC:X)] false)/\(du=some ce\/m<=ce/\ce<Y) /\
 i0 ac dg hW [(iC,.int .i64 1,c3)] (c3+1)/\i0 ac dy hW [(iC,.agg ⟨ec nC⟩,gt)] (gt+1)/\nC.hI=(iC:Int)/\lw ac U m nC p/\(∀d,d<U->d≠b4->d≠dg->d≠dy->du≠some d->u ac d=u h d)/\U<=m/\m<=Y
theorem apG(M:u h b4=some (.cells (kr room rw dy dg iC lL) false))(bg:b4<U)(aBc:1<=room)(bb:LI h rw du)(pP:∀b,du=some b->b<U/\b≠b4/\b≠dg/\b≠dy)(hmo:u h dg=some (.map [] c3))(MM:u h dy=some (.map [] gt))(fw:dg<U/\dg≠b4)(DP:dy<U/\dy≠b4/\dy≠dg)(aq:iC<100000)(bE:mP h U f p)(cy:p.l4.length<10000)(ev:p.nE.length<10000):
  aH Q s 238 [bf b4,.agg ⟨ec f⟩] h U (SeK b4 dy dg iC lL room du p c3 gt h U):=by
 refine ath ?_;have L:∀{o},aA U h (F h U o):=aN
 obtain⟨a,cap,rfl⟩:∃a cap,rw = .slice a 0 cap:=by rcases bb with⟨e,_⟩|⟨_,_,_,e,_⟩ <;> grind
 have D:(0:Int)<room:=J
 unfold aeX;unfold ec;simp(disch:=omega)only[bl,↓reduceIte,Nat.reduceAdd,Nat.reduceSub,Nat.reduceMul,Nat.reduceLT,Nat.reduceLeDiff,Nat.reduceEqDiff,Int.reduceBEq,Int.reduceLT,Int.reduceNeg,po Dg];refine(apF ((L b4 bg).trans M)).fM ?_;refine mf @D ?_;refine⟨λh=>absurd J h,λ_=>?_⟩;refine(acU  (bE.T  L J) cy ev).mono ?_;rintro _ I a5 ⟨E,rfl,U5,d5,B,f0⟩;have g8:=(B U J).trans (aT _ _ _);have aCr:∀{o a0},u (F (F I U o) U a0) b4=_:=λ{o a0}=>(ar J).trans ((ar J).trans ((B b4 J).trans ((L b4 bg).trans M)));have K:∀{o},u (F I U o) b4=_:=λ{o}=>(ar J).trans ((B b4 J).trans ((L b4 bg).trans M));have iv:∀{o a0},i0 (F (F I U o) U a0) dy hW [] gt:=λ{o a0}=>Hi (by rw[ar J,ar J,B dy J,ar J];omega);have aK:=λo a0=>Hh (x:=.agg ⟨ec { E with hI:=(iC:Int) }⟩) (rh nv) (iv (o:=o) (a0:=a0)) (k:=iC) rfl;unfold ec at aK ⊢;unfold kr at aCr K;rw[show hW iC = (iC:X)from rfl]at aK;simp(disch:=omega)only[bl,↓reduceIte,Nat.reduceAdd,Nat.reduceSub,Nat.reduceMul,Nat.reduceLT,Nat.reduceLeDiff,Nat.reduceEqDiff,Int.reduceBEq,Int.reduceLT,Int.reduceNeg,g8,aCr,K,(aK _ _).1];have P:=(aK (.cells (ec E) false) (.cells (ec { E with hI:=(iC:Int) }) false)).2 _ (aT (F (F I U (.cells (ec E) false)) U (.cells (ec { E with hI:=(iC:Int) }) false)) dy _);unfold ec at P;dsimp only at P;generalize fK:F (F (F I U _) U _) dy _=H at P ⊢;have VQ:∀d,d≠dy->d≠U->u H d=u I d:=ab
 have aD0:∀d,d<U->d≠dy->u H d=u h d:=λd h1 ap=>by rw[VQ d ap J,B d J,ar J]
 have hrH:LI H (.slice a 0 cap) du:=by
  rcases bb with q|⟨b,w,de,ew,g7⟩
  ·exact .inl q
  ·exact .inr ⟨b,w,de,ew,ab⟩
 refine(atn   (cH:=c3) ((aD0 b4 bg (kB DP.2.1)).trans M) J hrH ab ab J).mono ?_;rintro _ b3 fP ⟨rfl,ce,eE,hS,i6,nJ,aD1,aEC⟩;unfold kr at eE;refine tA @eE (cv (J:iC<1000000000000)) ?_;refine⟨rfl,ce,{ E with hI:=(iC:Int) },a5,aT _ _ _,ab,i6,nJ.T ab,P.T ab,rfl,?_,ab,J,J⟩;have V0:lw (F b3 b4 (.cells [(room:X),.slice (some ⟨ce,0,some 1⟩) 1 1,.map (some dy),.map (some dg),((iC+1:Nat):X),(lL:X)] false)) U a5 E p:=d5.T ab J J;exact⟨{ V0.is with },V0.hv,V0.i7⟩
end
def KR(P:Program)(t dW:Nat):al:=match P.underlying t with
 |some (.map k _)=>Nat.beq k dW
 |_=>false
theorem agp{iR:Type}[DecidableEq iR]{cu:iR->X}{av B n c r U:Nat}{rest:aa Nat}{k:iR}{h:ae}(D:KR Q av B=true)(K:wS Q B cu)(H:i0 h r cu [(k,v,n)] c):
  pr Q .delete (av::rest) h U [.map (some r),cu k] = .ok (.val jT (F h r (.map [] c)) U):=by
 have E:∃b,Q.underlying av=some (.map B b):=by
  unfold KR at D
  split at D
  ·rename_i I b e
   rw[e,gm D];grind
  grind
 obtain⟨b,e⟩:=E;show F8 Q av h U (.map (some r)) (cu k)=_;unfold F8;rw[e];simp only;rw[K.ok];unfold PL;simp only;unfold kW;rw[H.at_];show(match kC Q B (cu k) [{ key:=cu k,val:=v,born:=n }] 0 with|some (some (i,_))=>R.ok (fq.val jT (F h r (.map (Lg (lm cu [(k,v,n)]) i) c)) U)|some none=>.ok (.val jT h U)|none=>.no "delete - key")=_;have aK:kC Q B (cu k) [{ key:=cu k,val:=v,born:=n }] 0=some (some (0,{ key:=cu k,val:=v,born:=n })):=by show(match kV Q B (cu k) (cu k)with|some true=>some (some (0,({ key:=cu k,val:=v,born:=n }:MapEntry)))|some false=>kC Q B (cu k) [] 1|none=>none)=_;rw[K.eq,gP rfl]
 rw[aK];rfl
theorem ayf:KR Q 302 3=true:=by kernel_rfl
theorem ayg:KR Q 173 3=true:=by kernel_rfl
theorem MZ:((1:Nat):Int)=1:=rfl
theorem c0i:((0:Nat):Int)=0:=rfl
theorem aAh:m9 Q 62=true:=by kernel_rfl
theorem aAi:rj Q 62=some 3:=by kernel_rfl
theorem zeI:nU Q 3=some (cq 0):=by kernel_rfl
section
variable {s:al} {h:ae} {U b n:Nat}
theorem avR(D:u h b=some (.cells [(n:X)] false)):
  aH Q s 348 [.slice (some ⟨b,0,some 1⟩) 1 1,.int .i64 0,.int .i64 1] h U (λr ac Y=>r = .slice (some ⟨b,0,some 1⟩) 0 1/\ac=F h b (.cells [.int .i64 0] false)/\Y=U):=by
 refine ajo ?_;unfold Ym;simp(disch:=omega)only[bl,MZ,c0i,show gS 1 (.slice (some ⟨b,0,some 1⟩) 1 1) (some (.int .i64 0)) (some (.int .i64 1)) (some (.int .i64 1)) = .ok (.slice (some ⟨b,0,none⟩) 1 1)from rfl,show gS 1 (.slice (some ⟨b,0,some 1⟩) 1 1) none (some (.int .i64 0)) none = .ok (.slice (some ⟨b,0,some 1⟩) 0 1)from rfl,show gS 1 (.slice (some ⟨b,0,some 1⟩) 1 1) (some (.int .i64 1)) none none = .ok (.slice (some ⟨b,0,some 0⟩) 0 0)from rfl,show dM 1 h U (.slice (some ⟨b,0,some 1⟩) 0 1) (.slice (some ⟨b,0,some 0⟩) 0 0) = .ok (.val (.slice (some ⟨b,0,some 1⟩) 0 1) h U)from rfl,dU,show gS 1 (.slice (some ⟨b,0,some 1⟩) 0 1) (some (.int .i64 0)) (some (.int .i64 1)) none = .ok (.slice (some ⟨b,0,some 1⟩) 1 1)from rfl,seval];have B:=acE  (k:=1)  (i:=0) (n:=1) (c:=1) (U:=U) (aS:=some 1) (l:=[(n:Int)]) (0:Int) (λ_=>rfl) (λ_=>rfl) aAh aAi zeI rfl J D
 replace B:=B.trans (show _=R.ok (.val jT (F h b (.cells [.int .i64 0] false)) U)from rfl)
 rw[show(0:Nat)*1=0 from rfl,show 1-0=1 from rfl]at B;rw[B];exact⟨rfl,rfl⟩
theorem avS(D:u h b=some (.cells [(n:X)] false)):
  aH Q s 244 [.slice (some ⟨b,0,some 1⟩) 1 1] h U (fr (n:X) U h):=by refine asz ?_;unfold aeC;refine cQ @D @MZ ?_;refine λ_=>bC.mk (λ_ B ac Y=>B=[.slice (some ⟨b,0,some 1⟩) 1 1,(n:X),.int .i64 1]/\ac=h/\Y=U) 0 ab ?_;rintro _ _ _ _ ⟨rfl,rfl,rfl⟩;rw[aoy];unfold Z6;refine bh @MZ ?_;exact λ_=>⟨rfl,rfl,rfl⟩
theorem avT{q:Nat}(E:u h b=some (.cells [(n:X)] false))(B:u h q=some (.cells [(n:X)] false)):
  aH Q s 245 [.slice (some ⟨b,0,some 1⟩) 1 1,.func (.func 246) ⟨[]⟩ ⟨[bf q]⟩] h U (fr (.int .i64 0) U h):=by refine arJ ?_;unfold aeh;refine bh @MZ ?_;refine bC.mk (λ_ D ac Y=>D=[.slice (some ⟨b,0,some 1⟩) 1 1,.func (.func 246) ⟨[]⟩ ⟨[bf q]⟩,.int .i64 0,.int .i64 1,.int .i64 0]/\ac=h/\Y=U) 0 ab ?_;rintro _ _ _ _ ⟨rfl,rfl,rfl⟩;rw[anQ];unfold ZN;refine bh @E ?_;refine⟨?_,λh=>absurd trivial h⟩;refine ajY ?_;unfold YJ;refine bh @B ?_;exact⟨λ_=>⟨rfl,rfl,rfl⟩,λh=>absurd h ab⟩
end
end Go.Proofs.YthlhhajnbgjfmaaGreat
